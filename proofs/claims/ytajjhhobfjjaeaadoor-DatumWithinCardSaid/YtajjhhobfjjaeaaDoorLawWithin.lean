import Derived.Test.YtajjhhobfjjaeaaDoorAwake
import Derived.Test.YtajjhhobfjjaeaaDoorWeigh
namespace Go.Proofs.YtajjhhobfjjaeaaDoor
open Go.RowKit
set_option linter.unusedSimpArgs false
set_option linter.unusedVariables false

theorem depth_item (d : D) (i : Nat) (h : i < d.l.length) : d.l[i].depth ≤ d.depth := by
  rw [D.depth_eq d]
  have h1 : dterm d i h ≤ dto d d.l.length (Nat.le_refl _) := le_maxTo d.l.length (fun i hi => dterm d i hi) i h
  unfold dterm at h1
  omega
theorem plain_item {d : D} (hp : d.Plain) (i : Nat) (h : i < d.l.length) : d.l[i].Plain := by
  obtain ⟨k, c, neg, mag, t, l⟩ := d
  rw [D.Plain] at hp
  exact (Plains.iff l).1 hp.2.2.2.2.2.2.2.2 i h
theorem may_item {d : D} (hm : mayB d = true) (i : Nat) (h : i < d.l.length) : mayB d.l[i] = true := by
  unfold mayB at hm ⊢
  rw [Bool.and_eq_true, decide_eq_true_eq, plainB_iff] at hm ⊢
  exact ⟨plain_item hm.1 i h, Nat.le_trans (depth_item d i h) hm.2⟩
theorem count_item (d : D) (i : Nat) (h : i < d.l.length) : d.l[i].count < d.count := by
  rw [D.count_eq d]; have := count_le d.l i h; omega
theorem eqB_item (d : D) (i : Nat) (h : i < d.l.length) : eqB d.l[i] d = false := eqB_neg fun e => by
  have := count_item d i h; rw [e] at this; omega

set_option maxRecDepth 100000 in
set_option maxHeartbeats 8000000 in
theorem lawWithin_any (d : D) (w : World) (v : Value) (hT : Tabs w) (hok : d.Ok) (h : IsD w d v) :
    Calls Tryd.prog 7 #[v] w fun e w' => e = .returned (.bool true) ∧ Ext w w' := by
  have HA := Lib.hid (fun W (hx : Ext w W) => heavy_any d W v hok (h.keep hx.keeps))
  have HW := Lib.hid (fun W (hx : Ext w W) => awake_any W (hT.ext hx))
  have hc9 : d.heavy = false → d.count < 1000000000 := fun hh => by have := light_count hh; omega
  have HM := Lib.hid (fun (hh : d.heavy = false) W (hx : Ext w W) => may_any d W v hok (hc9 hh) (hT.ext hx) (h.keep hx.keeps))
  have HC := Lib.hid (fun (hh : d.heavy = false) W (hx : Ext w W) => count_any d W v (hc9 hh) (h.keep hx.keeps))
  have HD := Lib.hid (fun (hh : d.heavy = false) W (hx : Ext w W) => depth_any d W v (hc9 hh) (h.keep hx.keeps))
  have HS := Lib.hid (fun i (hi : i < d.l.length) W (hx : Ext w W) u (hu : IsD W d.l[i] u) => same_any d.l[i] d W u v hu (h.keep hx.keeps))
  obtain ⟨am, cm, al, cl, rfl, hm, hl, -, -, -, hcl⟩ := h.open
  unfold maxLen at hcl
  have hx0 := (Ext.refl w).alloc (.cells #[.int .i64 d.k, .int .i32 d.c, .bool d.neg, .slice am d.mag.length cm, .string d.t, .slice al d.l.length cl] 27)
  have b0 := heap_new w (.cells #[.int .i64 d.k, .int .i32 d.c, .bool d.neg, .slice am d.mag.length cm, .string d.t, .slice al d.l.length cl] 27)
  have hlen := hok.lLen
  have HOK := Lib.hid hok; clear hok h
  have HT := Lib.hid hT; clear hT
  go_enter Tryd.func7, Tryd.ntmps7
  go_wp2_with fail
  generalize w.alloc (.cells #[.int .i64 d.k, .int .i32 d.c, .bool d.neg, .slice am d.mag.length cm, .string d.t, .slice al d.l.length cl] 27) = w1 at *
  refine (HA.out _ hx0).mono ?_
  rintro e w2 ⟨rfl, hx2⟩
  have b0 := (hx2.block _ (Array.getElem?_eq_some_iff.1 b0).1).trans b0
  have hx3 := hx0.trans hx2
  have hz2 := (Array.getElem?_eq_some_iff.1 b0).1
  clear hx2 hx0
  rcases hh : d.heavy
  · have hcnt := light_count hh
    have hct : cnts d.l ≤ 3000 := by rw [D.count_eq] at hcnt; omega
    go_wp2_with fail
    go_loopw [3, 4] (fun n i wr => ∃ (k : Nat), k ≤ d.l.length ∧ i = .int .i64 k ∧ n = .int .i64 (1 + cnts (d.l.take k) : Nat) ∧ Ext w2 wr) (fun _ i _ => d.l.length - (intOf i).toNat)
    case atStart => exact ⟨0, Nat.zero_le _, rfl, by simp [cnts], Ext.refl _⟩
    case round =>
      obtain ⟨k, hk, rfl, rfl, hxr⟩ := hrel
      have b1 := (hxr.block _ hz2).trans b0
      have hxw := hx3.trans hxr
      have f0 := cell_of b1
      have hle := cnts_le d.l k
      by_cases hlt : k < d.l.length
      · obtain ⟨b, o, rfl, hcell⟩ := hl.get k hlt
        obtain ⟨am', cm', al', cl', c0, c1, c2, c3, c4, c5, hm', hl'⟩ := hcell.keep hxw.keeps
        have hci := count_item d k hlt
        have hsu := cnts_succ d.l k hlt
        have HX := Lib.hid (fun W (hx : Ext wr W) => IsD.mk' (d := d.l[k]) (hm'.keep hx.keeps) (hl'.keep hx.keeps))
        have hxa := (Ext.refl wr).alloc (.cells #[.int .i64 d.l[k].k, .int .i32 d.l[k].c, .bool d.l[k].neg, .slice am' d.l[k].mag.length cm', .string d.l[k].t, .slice al' d.l[k].l.length cl'] 27)
        have ba := heap_new wr (.cells #[.int .i64 d.l[k].k, .int .i32 d.l[k].c, .bool d.l[k].neg, .slice am' d.l[k].mag.length cm', .string d.l[k].t, .slice al' d.l[k].l.length cl'] 27)
        clear hl hm
        go_wp2_with fail
        refine (count_any d.l[k] _ _ (by omega) (HX.out _ hxa)).mono ?_
        rintro e w3 ⟨rfl, hx4⟩
        have hxb := hxa.trans hx4
        have hxc := hxw.trans hxb
        have b2 := (hxb.block _ (Array.getElem?_eq_some_iff.1 b1).1).trans b1
        have ba2 := (hx4.block _ (Array.getElem?_eq_some_iff.1 ba).1).trans ba
        have x0 := cell_of ba2 0; have x1 := cell_of ba2 1; have x2 := cell_of ba2 2; have x3 := cell_of ba2 3; have x4 := cell_of ba2 4; have x5 := cell_of ba2 5
        have y0 := cell_of b2 0; have y1 := cell_of b2 1; have y2 := cell_of b2 2; have y3 := cell_of b2 3; have y4 := cell_of b2 4; have y5 := cell_of b2 5
        simp only [List.getElem?_toArray, List.getElem?_cons_zero, List.getElem?_cons_succ] at x0 x1 x2 x3 x4 x5 y0 y1 y2 y3 y4 y5
        clear f0 c0 c1 c2 c3 c4 c5 b1 ba hxa hx4
        have hS : ∀ W9, Ext _ W9 → W9.cell? _ = _ ∧ W9.cell? _ = _ ∧ W9.cell? _ = _ ∧ W9.cell? _ = _ ∧ W9.cell? _ = _ ∧ W9.cell? _ = _ ∧ W9.cell? _ = _ ∧ W9.cell? _ = _ ∧ W9.cell? _ = _ ∧ W9.cell? _ = _ ∧ W9.cell? _ = _ ∧ W9.cell? _ = _ ∧ True := fun W9 h => ⟨h.keeps _ _ x0, h.keeps _ _ x1, h.keeps _ _ x2, h.keeps _ _ x3, h.keeps _ _ x4, h.keeps _ _ x5, h.keeps _ _ y0, h.keeps _ _ y1, h.keeps _ _ y2, h.keeps _ _ y3, h.keeps _ _ y4, h.keeps _ _ y5, trivial⟩
        have HMX := Lib.hid (fun W (hx : Ext w3 W) => may_any d.l[k] W _ (HOK.out.get k hlt) (by omega) (HT.out.ext (hxc.trans hx)) (HX.out W (hxb.trans hx)))
        have HDX := Lib.hid (fun W (hx : Ext w3 W) => depth_any d.l[k] W _ (by omega) (HX.out W (hxb.trans hx)))
        have HSX := Lib.hid (fun W (hx : Ext w3 W) => HS.out k hlt W (hxc.trans hx) _ (HX.out W (hxb.trans hx)))
        have HMD := Lib.hid (fun W (hx : Ext w3 W) => HM.out hh W (hxc.trans hx))
        have HDD := Lib.hid (fun W (hx : Ext w3 W) => HD.out hh W (hxc.trans hx))
        rw [eqB_item] at HSX
        have hdep : ¬ d.depth < d.l[k].depth := by
          have := depth_item d k hlt
          omega
        clear x0 x1 x2 x3 x4 x5 y0 y1 y2 y3 y4 y5 b2 ba2
        go_wp2_with fail
        rcases hmd : mayB d
        · refine wp_region_each 19 _ _ _ rfl rfl rfl (by kernel_rfl) (by kernel_rfl) (by kernel_rfl) (fun Q9 hQ9 => ?_); simp only [List.take_succ_cons, List.take_zero, List.drop_succ_cons, List.drop_zero, List.map_cons, List.map_nil] at hQ9 ⊢
          repeat (first | ((with_reducible apply Phi.skip); · (intro ρ wq hx hp hk; simp [KnowsAll, Knows, look, looks, Op.operands, Call.operands, Act.eval] at hk; simp [wanted, undef, hk])) | ((with_reducible apply Phi.pure); · (intro ρ wq hx hp hk; (first | (simp [KnowsAll, Knows, look, looks, Op.operands, Call.operands, Act.eval] at hk; refine ⟨?_, ?_⟩; (· (simp [wanted, undef, hk])); (· (simp [go_sem, hk, hp.1, hp.2.1, hp.2.2, hS wq hx]; rfl))) | (refine ⟨?_, ?_⟩; (· (simp [wanted])); (· (simp [go_sem, hp.1, hp.2.1, hp.2.2, hS wq hx]; rfl)))))))
          refine Phi.make (fun v _ => v = .bool false) (Stab.const _) ?_ ?_; · (intro ρ wq hx hp hk; (first | (simp [KnowsAll, Knows, look, looks, Op.operands, Call.operands, Act.eval] at hk; refine ⟨by simp [wanted, hk], OpGood.call (by simp [go_sem, hk, hp.1, hp.2.1, hp.2.2]; exact ⟨rfl, rfl⟩) ?_⟩) | (refine ⟨by simp [wanted], OpGood.call (by simp [go_sem, hp.1, hp.2.1, hp.2.2]; exact ⟨rfl, rfl⟩) ?_⟩)); exact phi_const (by have := HMD.out _ hx; rwa [hmd] at this))
          repeat (first | ((with_reducible apply Phi.skip); · (intro ρ wq hx hp hk; simp [KnowsAll, Knows, look, looks, Op.operands, Call.operands, Act.eval] at hk; simp [wanted, undef, hk])) | ((with_reducible apply Phi.pure); · (intro ρ wq hx hp hk; (first | (simp [KnowsAll, Knows, look, looks, Op.operands, Call.operands, Act.eval] at hk; refine ⟨?_, ?_⟩; (· (simp [wanted, undef, hk])); (· (simp [go_sem, hk, hp.1, hp.2.1, hp.2.2, hS wq hx]; rfl))) | (refine ⟨?_, ?_⟩; (· (simp [wanted])); (· (simp [go_sem, hp.1, hp.2.1, hp.2.2, hS wq hx]; rfl)))))))
          refine Phi.make (fun v _ => v = .int .i64 d.l[k].depth) (Stab.const _) ?_ ?_; · (intro ρ wq hx hp hk; (first | (simp [KnowsAll, Knows, look, looks, Op.operands, Call.operands, Act.eval] at hk; refine ⟨by simp [wanted, hk], OpGood.call (by simp [go_sem, hk, hp.1, hp.2.1, hp.2.2]; exact ⟨rfl, rfl⟩) ?_⟩) | (refine ⟨by simp [wanted], OpGood.call (by simp [go_sem, hp.1, hp.2.1, hp.2.2]; exact ⟨rfl, rfl⟩) ?_⟩)); exact phi_const (HDX.out _ hx))
          repeat (first | ((with_reducible apply Phi.skip); · (intro ρ wq hx hp hk; simp [KnowsAll, Knows, look, looks, Op.operands, Call.operands, Act.eval] at hk; simp [wanted, undef, hk])) | ((with_reducible apply Phi.pure); · (intro ρ wq hx hp hk; (first | (simp [KnowsAll, Knows, look, looks, Op.operands, Call.operands, Act.eval] at hk; refine ⟨?_, ?_⟩; (· (simp [wanted, undef, hk])); (· (simp [go_sem, hk, hp.1, hp.2.1, hp.2.2, hS wq hx]; rfl))) | (refine ⟨?_, ?_⟩; (· (simp [wanted])); (· (simp [go_sem, hp.1, hp.2.1, hp.2.2, hS wq hx]; rfl)))))))
          refine Phi.make (fun v _ => v = .int .i64 d.depth) (Stab.const _) ?_ ?_; · (intro ρ wq hx hp hk; (first | (simp [KnowsAll, Knows, look, looks, Op.operands, Call.operands, Act.eval] at hk; refine ⟨by simp [wanted, hk], OpGood.call (by simp [go_sem, hk, hp.1, hp.2.1, hp.2.2]; exact ⟨rfl, rfl⟩) ?_⟩) | (refine ⟨by simp [wanted], OpGood.call (by simp [go_sem, hp.1, hp.2.1, hp.2.2]; exact ⟨rfl, rfl⟩) ?_⟩)); exact phi_const (HDD.out _ hx))
          repeat (first | ((with_reducible apply Phi.skip); · (intro ρ wq hx hp hk; simp [KnowsAll, Knows, look, looks, Op.operands, Call.operands, Act.eval] at hk; simp [wanted, undef, hk, hdep, Int.ofNat_lt])) | ((with_reducible apply Phi.pure); · (intro ρ wq hx hp hk; (first | (simp [KnowsAll, Knows, look, looks, Op.operands, Call.operands, Act.eval] at hk; refine ⟨?_, ?_⟩; (· (simp [wanted, undef, hk, hdep, Int.ofNat_lt])); (· (simp [go_sem, hk, hp.1, hp.2.1, hp.2.2, hS wq hx, hdep, Int.ofNat_lt]; rfl))) | (refine ⟨?_, ?_⟩; (· (simp [wanted])); (· (simp [go_sem, hp.1, hp.2.1, hp.2.2, hS wq hx, hdep, Int.ofNat_lt]; rfl)))))))
          refine Phi.make (fun v _ => v = .bool false) (Stab.const _) ?_ ?_; · (intro ρ wq hx hp hk; (first | (simp [KnowsAll, Knows, look, looks, Op.operands, Call.operands, Act.eval] at hk; refine ⟨by simp [wanted, hk], OpGood.call (by simp [go_sem, hk, hp.1, hp.2.1, hp.2.2]; exact ⟨rfl, rfl⟩) ?_⟩) | (refine ⟨by simp [wanted], OpGood.call (by simp [go_sem, hp.1, hp.2.1, hp.2.2]; exact ⟨rfl, rfl⟩) ?_⟩)); exact phi_const (HSX.out _ hx))
          repeat (first | ((with_reducible apply Phi.skip); · (intro ρ wq hx hp hk; simp [KnowsAll, Knows, look, looks, Op.operands, Call.operands, Act.eval] at hk; simp [wanted, undef, hk])) | ((with_reducible apply Phi.pure); · (intro ρ wq hx hp hk; (first | (simp [KnowsAll, Knows, look, looks, Op.operands, Call.operands, Act.eval] at hk; refine ⟨?_, ?_⟩; (· (simp [wanted, undef, hk])); (· (simp [go_sem, hk, hp.1, hp.2.1, hp.2.2, hS wq hx]; rfl))) | (refine ⟨?_, ?_⟩; (· (simp [wanted])); (· (simp [go_sem, hp.1, hp.2.1, hp.2.2, hS wq hx]; rfl)))))))
          refine Phi.done ?_; intro w2 hx2; simp only [Final, List.nil_append, List.cons_append, forall_eq]; ((refine hQ9 _ _ ?_); (try refine wpList_nil ?_); (clear hQ9 Q9)); simp only [Act.put, List.setIfInBounds_toArray, List.set_cons_succ, List.set_cons_zero]
          go_wp2_with fail
          go_roundw
          case rel => exact ⟨k + 1, by omega, by go_num, by rw [hsu]; congr 1; omega, (hxr.trans hxb).trans hx2⟩
          case measure => simp [intOf]; omega
        · have hmx := may_item hmd k hlt
          refine wp_region_each 19 _ _ _ rfl rfl rfl (by kernel_rfl) (by kernel_rfl) (by kernel_rfl) (fun Q9 hQ9 => ?_); simp only [List.take_succ_cons, List.take_zero, List.drop_succ_cons, List.drop_zero, List.map_cons, List.map_nil] at hQ9 ⊢
          repeat (first | ((with_reducible apply Phi.skip); · (intro ρ wq hx hp hk; simp [KnowsAll, Knows, look, looks, Op.operands, Call.operands, Act.eval] at hk; simp [wanted, undef, hk])) | ((with_reducible apply Phi.pure); · (intro ρ wq hx hp hk; (first | (simp [KnowsAll, Knows, look, looks, Op.operands, Call.operands, Act.eval] at hk; refine ⟨?_, ?_⟩; (· (simp [wanted, undef, hk])); (· (simp [go_sem, hk, hp.1, hp.2.1, hp.2.2, hS wq hx]; rfl))) | (refine ⟨?_, ?_⟩; (· (simp [wanted])); (· (simp [go_sem, hp.1, hp.2.1, hp.2.2, hS wq hx]; rfl)))))))
          refine Phi.make (fun v _ => v = .bool true) (Stab.const _) ?_ ?_; · (intro ρ wq hx hp hk; (first | (simp [KnowsAll, Knows, look, looks, Op.operands, Call.operands, Act.eval] at hk; refine ⟨by simp [wanted, hk], OpGood.call (by simp [go_sem, hk, hp.1, hp.2.1, hp.2.2]; exact ⟨rfl, rfl⟩) ?_⟩) | (refine ⟨by simp [wanted], OpGood.call (by simp [go_sem, hp.1, hp.2.1, hp.2.2]; exact ⟨rfl, rfl⟩) ?_⟩)); exact phi_const (by have := HMD.out _ hx; rwa [hmd] at this))
          repeat (first | ((with_reducible apply Phi.skip); · (intro ρ wq hx hp hk; simp [KnowsAll, Knows, look, looks, Op.operands, Call.operands, Act.eval] at hk; simp [wanted, undef, hk])) | ((with_reducible apply Phi.pure); · (intro ρ wq hx hp hk; (first | (simp [KnowsAll, Knows, look, looks, Op.operands, Call.operands, Act.eval] at hk; refine ⟨?_, ?_⟩; (· (simp [wanted, undef, hk])); (· (simp [go_sem, hk, hp.1, hp.2.1, hp.2.2, hS wq hx]; rfl))) | (refine ⟨?_, ?_⟩; (· (simp [wanted])); (· (simp [go_sem, hp.1, hp.2.1, hp.2.2, hS wq hx]; rfl)))))))
          refine Phi.make (fun v _ => v = .bool true) (Stab.const _) ?_ ?_; · (intro ρ wq hx hp hk; (first | (simp [KnowsAll, Knows, look, looks, Op.operands, Call.operands, Act.eval] at hk; refine ⟨by simp [wanted, hk], OpGood.call (by simp [go_sem, hk, hp.1, hp.2.1, hp.2.2]; exact ⟨rfl, rfl⟩) ?_⟩) | (refine ⟨by simp [wanted], OpGood.call (by simp [go_sem, hp.1, hp.2.1, hp.2.2]; exact ⟨rfl, rfl⟩) ?_⟩)); exact phi_const (by have := HMX.out _ hx; rwa [hmx] at this))
          repeat (first | ((with_reducible apply Phi.skip); · (intro ρ wq hx hp hk; simp [KnowsAll, Knows, look, looks, Op.operands, Call.operands, Act.eval] at hk; simp [wanted, undef, hk])) | ((with_reducible apply Phi.pure); · (intro ρ wq hx hp hk; (first | (simp [KnowsAll, Knows, look, looks, Op.operands, Call.operands, Act.eval] at hk; refine ⟨?_, ?_⟩; (· (simp [wanted, undef, hk])); (· (simp [go_sem, hk, hp.1, hp.2.1, hp.2.2, hS wq hx]; rfl))) | (refine ⟨?_, ?_⟩; (· (simp [wanted])); (· (simp [go_sem, hp.1, hp.2.1, hp.2.2, hS wq hx]; rfl)))))))
          refine Phi.make (fun v _ => v = .int .i64 d.l[k].depth) (Stab.const _) ?_ ?_; · (intro ρ wq hx hp hk; (first | (simp [KnowsAll, Knows, look, looks, Op.operands, Call.operands, Act.eval] at hk; refine ⟨by simp [wanted, hk], OpGood.call (by simp [go_sem, hk, hp.1, hp.2.1, hp.2.2]; exact ⟨rfl, rfl⟩) ?_⟩) | (refine ⟨by simp [wanted], OpGood.call (by simp [go_sem, hp.1, hp.2.1, hp.2.2]; exact ⟨rfl, rfl⟩) ?_⟩)); exact phi_const (HDX.out _ hx))
          repeat (first | ((with_reducible apply Phi.skip); · (intro ρ wq hx hp hk; simp [KnowsAll, Knows, look, looks, Op.operands, Call.operands, Act.eval] at hk; simp [wanted, undef, hk])) | ((with_reducible apply Phi.pure); · (intro ρ wq hx hp hk; (first | (simp [KnowsAll, Knows, look, looks, Op.operands, Call.operands, Act.eval] at hk; refine ⟨?_, ?_⟩; (· (simp [wanted, undef, hk])); (· (simp [go_sem, hk, hp.1, hp.2.1, hp.2.2, hS wq hx]; rfl))) | (refine ⟨?_, ?_⟩; (· (simp [wanted])); (· (simp [go_sem, hp.1, hp.2.1, hp.2.2, hS wq hx]; rfl)))))))
          refine Phi.make (fun v _ => v = .int .i64 d.depth) (Stab.const _) ?_ ?_; · (intro ρ wq hx hp hk; (first | (simp [KnowsAll, Knows, look, looks, Op.operands, Call.operands, Act.eval] at hk; refine ⟨by simp [wanted, hk], OpGood.call (by simp [go_sem, hk, hp.1, hp.2.1, hp.2.2]; exact ⟨rfl, rfl⟩) ?_⟩) | (refine ⟨by simp [wanted], OpGood.call (by simp [go_sem, hp.1, hp.2.1, hp.2.2]; exact ⟨rfl, rfl⟩) ?_⟩)); exact phi_const (HDD.out _ hx))
          repeat (first | ((with_reducible apply Phi.skip); · (intro ρ wq hx hp hk; simp [KnowsAll, Knows, look, looks, Op.operands, Call.operands, Act.eval] at hk; simp [wanted, undef, hk, hdep, Int.ofNat_lt])) | ((with_reducible apply Phi.pure); · (intro ρ wq hx hp hk; (first | (simp [KnowsAll, Knows, look, looks, Op.operands, Call.operands, Act.eval] at hk; refine ⟨?_, ?_⟩; (· (simp [wanted, undef, hk, hdep, Int.ofNat_lt])); (· (simp [go_sem, hk, hp.1, hp.2.1, hp.2.2, hS wq hx, hdep, Int.ofNat_lt]; rfl))) | (refine ⟨?_, ?_⟩; (· (simp [wanted])); (· (simp [go_sem, hp.1, hp.2.1, hp.2.2, hS wq hx, hdep, Int.ofNat_lt]; rfl)))))))
          refine Phi.make (fun v _ => v = .bool false) (Stab.const _) ?_ ?_; · (intro ρ wq hx hp hk; (first | (simp [KnowsAll, Knows, look, looks, Op.operands, Call.operands, Act.eval] at hk; refine ⟨by simp [wanted, hk], OpGood.call (by simp [go_sem, hk, hp.1, hp.2.1, hp.2.2]; exact ⟨rfl, rfl⟩) ?_⟩) | (refine ⟨by simp [wanted], OpGood.call (by simp [go_sem, hp.1, hp.2.1, hp.2.2]; exact ⟨rfl, rfl⟩) ?_⟩)); exact phi_const (HSX.out _ hx))
          repeat (first | ((with_reducible apply Phi.skip); · (intro ρ wq hx hp hk; simp [KnowsAll, Knows, look, looks, Op.operands, Call.operands, Act.eval] at hk; simp [wanted, undef, hk])) | ((with_reducible apply Phi.pure); · (intro ρ wq hx hp hk; (first | (simp [KnowsAll, Knows, look, looks, Op.operands, Call.operands, Act.eval] at hk; refine ⟨?_, ?_⟩; (· (simp [wanted, undef, hk])); (· (simp [go_sem, hk, hp.1, hp.2.1, hp.2.2, hS wq hx]; rfl))) | (refine ⟨?_, ?_⟩; (· (simp [wanted])); (· (simp [go_sem, hp.1, hp.2.1, hp.2.2, hS wq hx]; rfl)))))))
          refine Phi.done ?_; intro w2 hx2; simp only [Final, List.nil_append, List.cons_append, forall_eq]; ((refine hQ9 _ _ ?_); (try refine wpList_nil ?_); (clear hQ9 Q9)); simp only [Act.put, List.setIfInBounds_toArray, List.set_cons_succ, List.set_cons_zero]
          go_wp2_with fail
          go_roundw
          case rel => exact ⟨k + 1, by omega, by go_num, by rw [hsu]; congr 1; omega, (hxr.trans hxb).trans hx2⟩
          case measure => simp [intOf]; omega
      · have ed4 : decide ((k : Int) < d.l.length) = false := by simp; omega
        have hkl : d.l.take k = d.l := List.take_of_length_le (by omega)
        rw [hkl]
        have hce : ((1 + cnts d.l : Nat) : Int) = d.count := by rw [D.count_eq]
        rw [hce]
        clear hl hm
        go_wp2_with fail
        refine (HC.out hh _ hxw).mono ?_
        rintro e w3 ⟨rfl, hx4⟩
        go_wp2_with fail
        refine (HW.out _ (hxw.trans hx4)).mono ?_
        rintro e w4 ⟨rfl, hx6⟩
        go_wp2_with fail
        go_ret
        exact ⟨rfl, (hxw.trans hx4).trans hx6⟩
  · go_wp2_with fail
    refine (HW.out _ hx3).mono ?_
    rintro e w4 ⟨rfl, hx6⟩
    go_wp2_with fail
    go_ret
    exact ⟨rfl, hx3.trans hx6⟩
end Go.Proofs.YtajjhhobfjjaeaaDoor
