import Derived.Test.YtajjhhobfjjaeaaDoorAwake
import Derived.Test.YtajjhhobfjjaeaaDoorWeigh
namespace Go.Proofs.YtajjhhobfjjaeaaDoor
open Go.RowKit
set_option linter.unusedSimpArgs false
set_option linter.unusedVariables false

/-- The deepest of them, and one. -/
def deepL : List D → Nat
  | [] => 0
  | d :: l => max (d.depth + 1) (deepL l)
theorem deepL_append (a b : List D) : deepL (a ++ b) = max (deepL a) (deepL b) := by
  induction a with
  | nil => simp [deepL]
  | cons x a ih => simp only [List.cons_append, deepL, ih]; omega
theorem deepL_succ (l : List D) (k : Nat) (h : k < l.length) : deepL (l.take (k + 1)) = max (deepL (l.take k)) (l[k].depth + 1) := by
  rw [List.take_succ_eq_append_getElem h, deepL_append]; simp [deepL]
theorem dList_depth : ∀ l : List D, (dList l).depth = deepL l
  | [] => by rw [dList, dNil, depth_leaf (by decide)]; rfl
  | [x] => by
    show (dCons x dNil).depth = _
    rw [depth_cons, dNil, depth_leaf (by decide)]
    simp [deepL, D.k]
  | x :: y :: r => by
    show (dCons x (dList (y :: r))).depth = _
    rw [depth_cons, dList_depth (y :: r), show (dList (y :: r)).k = 7 from rfl]
    simp [deepL]
theorem dList_count : ∀ l : List D, (dList l).count = 1 + l.length + cnts l
  | [] => rfl
  | x :: r => by
    show (dCons x (dList r)).count = _
    rw [D.count_eq]
    show 1 + cnts [x, dList r] = _
    simp only [cnts, List.length_cons]
    rw [dList_count r]; omega
theorem cnts_bound (l : List D) (h : ∀ i (hi : i < l.length), l[i].count ≤ 3000) : cnts l ≤ 3000 * l.length := by
  induction l with
  | nil => simp [cnts]
  | cons x l ih =>
    have h0 := h 0 (by simp)
    have := ih (fun i hi => h (i + 1) (by simpa using hi))
    simp only [cnts, List.length_cons, List.getElem_cons_zero] at *
    omega
theorem deepL_bound (l : List D) : deepL l ≤ 1 + cnts l := by
  induction l with
  | nil => simp [deepL]
  | cons x l ih => simp only [deepL, cnts]; have := x.depth_le; omega

set_option maxRecDepth 100000 in
set_option maxHeartbeats 8000000 in
theorem lawLike_any (a b : D) (l : List D) (w : World) (va vb vl : Value) (hT : Tabs w) (hoa : a.Ok) (hob : b.Ok) (hol : Oks l) (hll : l.length ≤ 1599289640354) (ha : IsD w a va) (hb : IsD w b vb) (hl : IsDs w l vl) :
    Calls Tryd.prog 5 #[va, vb, vl] w fun e w' => e = .returned (.bool true) ∧ Ext w w' := by
  have HA := Lib.hid (fun W (hx : Ext w W) => heavy_any a W va hoa (ha.keep hx.keeps))
  have HB := Lib.hid (fun W (hx : Ext w W) => heavy_any b W vb hob (hb.keep hx.keeps))
  have HW := Lib.hid (fun W (hx : Ext w W) => awake_any W (hT.ext hx))
  have hca : a.heavy = false → a.count < 1000000000 := fun hh => by have := light_count hh; omega
  have hcb : b.heavy = false → b.count < 1000000000 := fun hh => by have := light_count hh; omega
  have HMA := Lib.hid (fun (hh : a.heavy = false) W (hx : Ext w W) => may_any a W va hoa (hca hh) (hT.ext hx) (ha.keep hx.keeps))
  have HMB := Lib.hid (fun (hh : b.heavy = false) W (hx : Ext w W) => may_any b W vb hob (hcb hh) (hT.ext hx) (hb.keep hx.keeps))
  have HCA := Lib.hid (fun (hh : a.heavy = false) W (hx : Ext w W) => count_any a W va (hca hh) (ha.keep hx.keeps))
  have HCB := Lib.hid (fun (hh : b.heavy = false) W (hx : Ext w W) => count_any b W vb (hcb hh) (hb.keep hx.keeps))
  have HDA := Lib.hid (fun (hh : a.heavy = false) W (hx : Ext w W) => depth_any a W va (hca hh) (ha.keep hx.keeps))
  have HDB := Lib.hid (fun (hh : b.heavy = false) W (hx : Ext w W) => depth_any b W vb (hcb hh) (hb.keep hx.keeps))
  have HS := Lib.hid (fun W (hx : Ext w W) => same_any a b W va vb (ha.keep hx.keeps) (hb.keep hx.keeps))
  have HL := Lib.hid (fun W (hx : Ext w W) => list_any l W vl hol hll (hl.keep hx.keeps))
  obtain ⟨al, cl, rfl, -, hcl⟩ := hl.form
  obtain ⟨am, cm, aa, ca, rfl, -, -, -, -, -, -⟩ := ha.open
  obtain ⟨bm, dm, ba, da, rfl, -, -, -, -, -, -⟩ := hb.open
  unfold maxLen at hcl
  clear ha hb hT
  have HOL := Lib.hid hol; clear hol
  have hx0 := ((Ext.refl w).alloc (.cells #[.int .i64 a.k, .int .i32 a.c, .bool a.neg, .slice am a.mag.length cm, .string a.t, .slice aa a.l.length ca] 27)).alloc (.cells #[.int .i64 b.k, .int .i32 b.c, .bool b.neg, .slice bm b.mag.length dm, .string b.t, .slice ba b.l.length da] 27)
  have b0 := heap_new0 w (.cells #[.int .i64 a.k, .int .i32 a.c, .bool a.neg, .slice am a.mag.length cm, .string a.t, .slice aa a.l.length ca] 27) (.cells #[.int .i64 b.k, .int .i32 b.c, .bool b.neg, .slice bm b.mag.length dm, .string b.t, .slice ba b.l.length da] 27)
  have b1 := heap_new1 w (.cells #[.int .i64 a.k, .int .i32 a.c, .bool a.neg, .slice am a.mag.length cm, .string a.t, .slice aa a.l.length ca] 27) (.cells #[.int .i64 b.k, .int .i32 b.c, .bool b.neg, .slice bm b.mag.length dm, .string b.t, .slice ba b.l.length da] 27)
  go_enter Tryd.func5, Tryd.ntmps5
  go_wp2_with fail
  generalize (w.alloc (.cells #[.int .i64 a.k, .int .i32 a.c, .bool a.neg, .slice am a.mag.length cm, .string a.t, .slice aa a.l.length ca] 27)).alloc (.cells #[.int .i64 b.k, .int .i32 b.c, .bool b.neg, .slice bm b.mag.length dm, .string b.t, .slice ba b.l.length da] 27) = w1 at *
  refine (HA.out _ hx0).mono ?_
  rintro e w2 ⟨rfl, hx2⟩
  have b0 := (hx2.block _ (Array.getElem?_eq_some_iff.1 b0).1).trans b0
  have b1 := (hx2.block _ (Array.getElem?_eq_some_iff.1 b1).1).trans b1
  have hx3 := hx0.trans hx2
  clear hx2 hx0
  rcases hha : a.heavy
  case true =>
    go_wp2_with fail
    refine (HW.out _ hx3).mono ?_
    rintro e w4 ⟨rfl, hx6⟩
    go_wp2_with fail
    go_ret
    exact ⟨rfl, hx3.trans hx6⟩
  have hc1 := cell_of b1
  go_wp2_with fail
  refine (HB.out _ hx3).mono ?_
  rintro e w3 ⟨rfl, hx4⟩
  have b0 := (hx4.block _ (Array.getElem?_eq_some_iff.1 b0).1).trans b0
  have b1 := (hx4.block _ (Array.getElem?_eq_some_iff.1 b1).1).trans b1
  have hx5 := hx3.trans hx4
  clear hx3 hx4 hc1
  rcases hhb : b.heavy
  case true =>
    go_wp2_with fail
    refine (HW.out _ hx5).mono ?_
    rintro e w4 ⟨rfl, hx6⟩
    go_wp2_with fail
    go_ret
    exact ⟨rfl, hx5.trans hx6⟩
  by_cases h50 : l.length ≤ 50
  case neg =>
    have ed : decide ((50 : Int) < l.length) = true := by simp; omega
    go_wp2_with fail
    refine (HW.out _ hx5).mono ?_
    rintro e w4 ⟨rfl, hx6⟩
    go_wp2_with fail
    go_ret
    exact ⟨rfl, hx5.trans hx6⟩
  have ed : decide ((50 : Int) < l.length) = false := by simp; omega
  go_wp2_with fail
  go_loopw [7, 8, 9] (fun dp al' i wr => ∃ (k : Nat), k ≤ l.length ∧ i = .int .i64 k ∧ dp = .int .i64 (deepL (l.take k) : Nat) ∧ al' = .int .i64 (1 + k + cnts (l.take k) : Nat) ∧ (∀ i (hi : i < (l.take k).length), (l.take k)[i].count ≤ 3000) ∧ Ext w3 wr) (fun _ _ i _ => l.length - (intOf i).toNat)
  case atStart => exact ⟨0, Nat.zero_le _, rfl, by simp [deepL], by simp [cnts], by simp, Ext.refl _⟩
  case round =>
    obtain ⟨k, hk, rfl, rfl, rfl, hbd, hxr⟩ := hrel
    have hxw := hx5.trans hxr
    have hb1 := cnts_bound _ hbd
    have hb2 := deepL_bound (l.take k)
    have hb3 : (l.take k).length ≤ 50 := by rw [List.length_take]; omega
    by_cases hlt : k < l.length
    · obtain ⟨b', o, rfl, hcell⟩ := hl.get k hlt
      obtain ⟨am', cm', al', cl', c0, c1, c2, c3, c4, c5, hm', hl'⟩ := hcell.keep hxw.keeps
      have HX := Lib.hid (fun W (hx : Ext wr W) => IsD.mk' (d := l[k]) (hm'.keep hx.keeps) (hl'.keep hx.keeps))
      have hsu := cnts_succ l k hlt
      have hds := deepL_succ l k hlt
      have HBD := Lib.hid hbd; clear hbd hl
      have hle := l[k].depth_le
      go_wp2_with fail
      refine (heavy_any l[k] _ _ (HOL.out.get k hlt) (HX.out _ (Ext.refl _))).mono ?_
      rintro e w4 ⟨rfl, hx6⟩
      rcases hhx : l[k].heavy
      case true =>
        go_wp2_with fail
        refine (HW.out _ (hxw.trans hx6)).mono ?_
        rintro e w5 ⟨rfl, hx7⟩
        go_wp2_with fail
        go_ret
        exact ⟨rfl, (hxw.trans hx6).trans hx7⟩
      have hci := light_count hhx
      have d0 := hx6.keeps _ _ c0; have d1 := hx6.keeps _ _ c1; have d2 := hx6.keeps _ _ c2; have d3 := hx6.keeps _ _ c3; have d4 := hx6.keeps _ _ c4; have d5 := hx6.keeps _ _ c5
      clear c0 c1 c2 c3 c4 c5
      go_wp2_with fail
      refine (depth_any l[k] _ _ (by omega) (HX.out _ hx6)).mono ?_
      rintro e w5 ⟨rfl, hx7⟩
      have c0 := hx7.keeps _ _ d0; have c1 := hx7.keeps _ _ d1; have c2 := hx7.keeps _ _ d2; have c3 := hx7.keeps _ _ d3; have c4 := hx7.keeps _ _ d4; have c5 := hx7.keeps _ _ d5
      clear d0 d1 d2 d3 d4 d5
      have hx8 := (hxw.trans hx6).trans hx7
      go_wp2_with fail
      refine (count_any l[k] _ _ (by omega) (HX.out _ (hx6.trans hx7))).mono ?_
      rintro e w6 ⟨rfl, hx9⟩
      go_wp2_with fail
      go_roundw
      case rel =>
        refine ⟨k + 1, by omega, by go_num, by rw [hds]; go_num, by rw [hsu]; go_num, ?_, ((hxr.trans hx6).trans hx7).trans hx9⟩
        intro i hi
        rw [List.getElem_take]
        by_cases hik : i < k
        · have := HBD.out i (by rw [List.length_take]; omega)
          rwa [List.getElem_take] at this
        · rw [List.length_take] at hi
          obtain rfl : i = k := by omega
          exact hci
      case measure => simp [intOf]; omega
    · have ed4 : decide ((k : Int) < l.length) = false := by simp; omega
      have hkl : l.take k = l := List.take_of_length_le (by omega)
      have hkk : k = l.length := by omega
      rw [hkl] at hb1 hb2 ⊢
      subst hkk
      clear hl hbd hkl
      go_wp2_with fail
      have b0 := (hxr.block _ (Array.getElem?_eq_some_iff.1 b0).1).trans b0
      have b1 := (hxr.block _ (Array.getElem?_eq_some_iff.1 b1).1).trans b1
      have x0 := cell_of b0 0; have x1 := cell_of b0 1; have x2 := cell_of b0 2; have x3 := cell_of b0 3; have x4 := cell_of b0 4; have x5 := cell_of b0 5
      have y0 := cell_of b1 0; have y1 := cell_of b1 1; have y2 := cell_of b1 2; have y3 := cell_of b1 3; have y4 := cell_of b1 4; have y5 := cell_of b1 5
      simp only [List.getElem?_toArray, List.getElem?_cons_zero, List.getElem?_cons_succ] at x0 x1 x2 x3 x4 x5 y0 y1 y2 y3 y4 y5
      have hS : ∀ W9, Ext _ W9 → W9.cell? _ = _ ∧ W9.cell? _ = _ ∧ W9.cell? _ = _ ∧ W9.cell? _ = _ ∧ W9.cell? _ = _ ∧ W9.cell? _ = _ ∧ W9.cell? _ = _ ∧ W9.cell? _ = _ ∧ W9.cell? _ = _ ∧ W9.cell? _ = _ ∧ W9.cell? _ = _ ∧ W9.cell? _ = _ ∧ True := fun W9 h => ⟨h.keeps _ _ x0, h.keeps _ _ x1, h.keeps _ _ x2, h.keeps _ _ x3, h.keeps _ _ x4, h.keeps _ _ x5, h.keeps _ _ y0, h.keeps _ _ y1, h.keeps _ _ y2, h.keeps _ _ y3, h.keeps _ _ y4, h.keeps _ _ y5, trivial⟩
      clear x0 x1 x2 x3 x4 x5 y0 y1 y2 y3 y4 y5 b0 b1
      rcases hab : eqB a b
      · refine wp_region_each 24 _ _ _ rfl rfl rfl (by kernel_rfl) (by kernel_rfl) (by kernel_rfl) (fun Q9 hQ9 => ?_); simp only [List.take_succ_cons, List.take_zero, List.drop_succ_cons, List.drop_zero, List.map_cons, List.map_nil] at hQ9 ⊢
        repeat (first | ((with_reducible apply Phi.skip); · (intro ρ wq hx hp hk; simp [KnowsAll, Knows, look, looks, Op.operands, Call.operands, Act.eval] at hk; simp [wanted, undef, hk])) | ((with_reducible apply Phi.pure); · (intro ρ wq hx hp hk; (first | (simp [KnowsAll, Knows, look, looks, Op.operands, Call.operands, Act.eval] at hk; refine ⟨?_, ?_⟩; (· (simp [wanted, undef, hk])); (· (simp [go_sem, hk, hp.1, hp.2.1, hp.2.2, hS wq hx]; rfl))) | (refine ⟨?_, ?_⟩; (· (simp [wanted])); (· (simp [go_sem, hp.1, hp.2.1, hp.2.2, hS wq hx]; rfl)))))))
        refine Phi.make (fun v _ => v = .bool false) (Stab.const _) ?_ ?_; · (intro ρ wq hx hp hk; (first | (simp [KnowsAll, Knows, look, looks, Op.operands, Call.operands, Act.eval] at hk; refine ⟨by simp [wanted, hk], OpGood.call (by simp [go_sem, hk, hp.1, hp.2.1, hp.2.2]; exact ⟨rfl, rfl⟩) ?_⟩) | (refine ⟨by simp [wanted], OpGood.call (by simp [go_sem, hp.1, hp.2.1, hp.2.2]; exact ⟨rfl, rfl⟩) ?_⟩)); exact phi_const (by have := HS.out _ (hxw.trans hx); rwa [hab] at this))
        repeat (first | ((with_reducible apply Phi.skip); · (intro ρ wq hx hp hk; simp [KnowsAll, Knows, look, looks, Op.operands, Call.operands, Act.eval] at hk; simp [wanted, undef, hk])) | ((with_reducible apply Phi.pure); · (intro ρ wq hx hp hk; (first | (simp [KnowsAll, Knows, look, looks, Op.operands, Call.operands, Act.eval] at hk; refine ⟨?_, ?_⟩; (· (simp [wanted, undef, hk])); (· (simp [go_sem, hk, hp.1, hp.2.1, hp.2.2, hS wq hx]; rfl))) | (refine ⟨?_, ?_⟩; (· (simp [wanted])); (· (simp [go_sem, hp.1, hp.2.1, hp.2.2, hS wq hx]; rfl)))))))
        refine Phi.done ?_; intro w2 hx2; simp only [Final, List.nil_append, List.cons_append, forall_eq]; ((refine hQ9 _ _ ?_); (try refine wpList_nil ?_); (clear hQ9 Q9)); simp only [Act.put, List.setIfInBounds_toArray, List.set_cons_succ, List.set_cons_zero]
        clear hS
        go_wp2_with fail
        refine (HL.out _ (hxw.trans hx2)).mono ?_
        rintro e w7 ⟨vL, rfl, hx8, hL⟩
        obtain ⟨am3, cm3, al3, cl3, rfl, -, -, -, -, -, -⟩ := hL.open
        have HLR := Lib.hid (hL.keep (since_keeps _ _)); clear hL
        have hcD := dList_count l
        have hx9 := (hxw.trans hx2).trans hx8
        have hxa := (Ext.refl w7).alloc (.cells #[.int .i64 (dList l).k, .int .i32 (dList l).c, .bool (dList l).neg, .slice am3 (dList l).mag.length cm3, .string (dList l).t, .slice al3 (dList l).l.length cl3] 27)
        have ba := heap_new w7 (.cells #[.int .i64 (dList l).k, .int .i32 (dList l).c, .bool (dList l).neg, .slice am3 (dList l).mag.length cm3, .string (dList l).t, .slice al3 (dList l).l.length cl3] 27)
        go_wp2_with fail
        refine (depth_any (dList l) _ _ (by omega) (HLR.out.keep hxa.keeps)).mono ?_
        rw [dList_depth]
        rintro e w8 ⟨rfl, hx10⟩
        have b9 := (hx10.block _ (Array.getElem?_eq_some_iff.1 ba).1).trans ba
        have hc9 := cell_of b9
        go_wp2_with fail
        refine (count_any (dList l) _ _ (by omega) (HLR.out.keep (hxa.trans hx10).keeps)).mono ?_
        rw [hcD]
        rintro e w9 ⟨rfl, hx11⟩
        clear hc9
        go_wp2_with fail
        refine (HW.out _ (((hx9.trans hxa).trans hx10).trans hx11)).mono ?_
        rintro e w10 ⟨rfl, hx12⟩
        go_wp2_with fail
        go_ret
        exact ⟨rfl, (((hx9.trans hxa).trans hx10).trans hx11).trans hx12⟩
      · have hab := eqB_iff.1 hab
        have e1 : b.depth = a.depth := by rw [hab]
        have e2 : b.count = a.count := by rw [hab]
        have e3 : mayB b = mayB a := by rw [hab]
        refine wp_region_each 24 _ _ _ rfl rfl rfl (by kernel_rfl) (by kernel_rfl) (by kernel_rfl) (fun Q9 hQ9 => ?_); simp only [List.take_succ_cons, List.take_zero, List.drop_succ_cons, List.drop_zero, List.map_cons, List.map_nil] at hQ9 ⊢
        repeat (first | ((with_reducible apply Phi.skip); · (intro ρ wq hx hp hk; simp [KnowsAll, Knows, look, looks, Op.operands, Call.operands, Act.eval] at hk; simp [wanted, undef, hk])) | ((with_reducible apply Phi.pure); · (intro ρ wq hx hp hk; (first | (simp [KnowsAll, Knows, look, looks, Op.operands, Call.operands, Act.eval] at hk; refine ⟨?_, ?_⟩; (· (simp [wanted, undef, hk])); (· (simp [go_sem, hk, hp.1, hp.2.1, hp.2.2, hS wq hx]; rfl))) | (refine ⟨?_, ?_⟩; (· (simp [wanted])); (· (simp [go_sem, hp.1, hp.2.1, hp.2.2, hS wq hx]; rfl)))))))
        refine Phi.make (fun v _ => v = .bool true) (Stab.const _) ?_ ?_; · (intro ρ wq hx hp hk; (first | (simp [KnowsAll, Knows, look, looks, Op.operands, Call.operands, Act.eval] at hk; refine ⟨by simp [wanted, hk], OpGood.call (by simp [go_sem, hk, hp.1, hp.2.1, hp.2.2]; exact ⟨rfl, rfl⟩) ?_⟩) | (refine ⟨by simp [wanted], OpGood.call (by simp [go_sem, hp.1, hp.2.1, hp.2.2]; exact ⟨rfl, rfl⟩) ?_⟩)); exact phi_const (by have := HS.out _ (hxw.trans hx); rwa [eqB_pos hab] at this))
        repeat (first | ((with_reducible apply Phi.skip); · (intro ρ wq hx hp hk; simp [KnowsAll, Knows, look, looks, Op.operands, Call.operands, Act.eval] at hk; simp [wanted, undef, hk])) | ((with_reducible apply Phi.pure); · (intro ρ wq hx hp hk; (first | (simp [KnowsAll, Knows, look, looks, Op.operands, Call.operands, Act.eval] at hk; refine ⟨?_, ?_⟩; (· (simp [wanted, undef, hk])); (· (simp [go_sem, hk, hp.1, hp.2.1, hp.2.2, hS wq hx]; rfl))) | (refine ⟨?_, ?_⟩; (· (simp [wanted])); (· (simp [go_sem, hp.1, hp.2.1, hp.2.2, hS wq hx]; rfl)))))))
        refine Phi.make (fun v _ => v = .int .i64 a.depth) (Stab.const _) ?_ ?_; · (intro ρ wq hx hp hk; (first | (simp [KnowsAll, Knows, look, looks, Op.operands, Call.operands, Act.eval] at hk; refine ⟨by simp [wanted, hk], OpGood.call (by simp [go_sem, hk, hp.1, hp.2.1, hp.2.2]; exact ⟨rfl, rfl⟩) ?_⟩) | (refine ⟨by simp [wanted], OpGood.call (by simp [go_sem, hp.1, hp.2.1, hp.2.2]; exact ⟨rfl, rfl⟩) ?_⟩)); exact phi_const (HDA.out hha _ (hxw.trans hx)))
        repeat (first | ((with_reducible apply Phi.skip); · (intro ρ wq hx hp hk; simp [KnowsAll, Knows, look, looks, Op.operands, Call.operands, Act.eval] at hk; simp [wanted, undef, hk])) | ((with_reducible apply Phi.pure); · (intro ρ wq hx hp hk; (first | (simp [KnowsAll, Knows, look, looks, Op.operands, Call.operands, Act.eval] at hk; refine ⟨?_, ?_⟩; (· (simp [wanted, undef, hk])); (· (simp [go_sem, hk, hp.1, hp.2.1, hp.2.2, hS wq hx]; rfl))) | (refine ⟨?_, ?_⟩; (· (simp [wanted])); (· (simp [go_sem, hp.1, hp.2.1, hp.2.2, hS wq hx]; rfl)))))))
        refine Phi.make (fun v _ => v = .int .i64 a.depth) (Stab.const _) ?_ ?_; · (intro ρ wq hx hp hk; (first | (simp [KnowsAll, Knows, look, looks, Op.operands, Call.operands, Act.eval] at hk; refine ⟨by simp [wanted, hk], OpGood.call (by simp [go_sem, hk, hp.1, hp.2.1, hp.2.2]; exact ⟨rfl, rfl⟩) ?_⟩) | (refine ⟨by simp [wanted], OpGood.call (by simp [go_sem, hp.1, hp.2.1, hp.2.2]; exact ⟨rfl, rfl⟩) ?_⟩)); exact phi_const (by have := HDB.out hhb _ (hxw.trans hx); rwa [e1] at this))
        repeat (first | ((with_reducible apply Phi.skip); · (intro ρ wq hx hp hk; simp [KnowsAll, Knows, look, looks, Op.operands, Call.operands, Act.eval] at hk; simp [wanted, undef, hk])) | ((with_reducible apply Phi.pure); · (intro ρ wq hx hp hk; (first | (simp [KnowsAll, Knows, look, looks, Op.operands, Call.operands, Act.eval] at hk; refine ⟨?_, ?_⟩; (· (simp [wanted, undef, hk])); (· (simp [go_sem, hk, hp.1, hp.2.1, hp.2.2, hS wq hx]; rfl))) | (refine ⟨?_, ?_⟩; (· (simp [wanted])); (· (simp [go_sem, hp.1, hp.2.1, hp.2.2, hS wq hx]; rfl)))))))
        refine Phi.make (fun v _ => v = .int .i64 a.count) (Stab.const _) ?_ ?_; · (intro ρ wq hx hp hk; (first | (simp [KnowsAll, Knows, look, looks, Op.operands, Call.operands, Act.eval] at hk; refine ⟨by simp [wanted, hk], OpGood.call (by simp [go_sem, hk, hp.1, hp.2.1, hp.2.2]; exact ⟨rfl, rfl⟩) ?_⟩) | (refine ⟨by simp [wanted], OpGood.call (by simp [go_sem, hp.1, hp.2.1, hp.2.2]; exact ⟨rfl, rfl⟩) ?_⟩)); exact phi_const (HCA.out hha _ (hxw.trans hx)))
        repeat (first | ((with_reducible apply Phi.skip); · (intro ρ wq hx hp hk; simp [KnowsAll, Knows, look, looks, Op.operands, Call.operands, Act.eval] at hk; simp [wanted, undef, hk])) | ((with_reducible apply Phi.pure); · (intro ρ wq hx hp hk; (first | (simp [KnowsAll, Knows, look, looks, Op.operands, Call.operands, Act.eval] at hk; refine ⟨?_, ?_⟩; (· (simp [wanted, undef, hk])); (· (simp [go_sem, hk, hp.1, hp.2.1, hp.2.2, hS wq hx]; rfl))) | (refine ⟨?_, ?_⟩; (· (simp [wanted])); (· (simp [go_sem, hp.1, hp.2.1, hp.2.2, hS wq hx]; rfl)))))))
        refine Phi.make (fun v _ => v = .int .i64 a.count) (Stab.const _) ?_ ?_; · (intro ρ wq hx hp hk; (first | (simp [KnowsAll, Knows, look, looks, Op.operands, Call.operands, Act.eval] at hk; refine ⟨by simp [wanted, hk], OpGood.call (by simp [go_sem, hk, hp.1, hp.2.1, hp.2.2]; exact ⟨rfl, rfl⟩) ?_⟩) | (refine ⟨by simp [wanted], OpGood.call (by simp [go_sem, hp.1, hp.2.1, hp.2.2]; exact ⟨rfl, rfl⟩) ?_⟩)); exact phi_const (by have := HCB.out hhb _ (hxw.trans hx); rwa [e2] at this))
        repeat (first | ((with_reducible apply Phi.skip); · (intro ρ wq hx hp hk; simp [KnowsAll, Knows, look, looks, Op.operands, Call.operands, Act.eval] at hk; simp [wanted, undef, hk])) | ((with_reducible apply Phi.pure); · (intro ρ wq hx hp hk; (first | (simp [KnowsAll, Knows, look, looks, Op.operands, Call.operands, Act.eval] at hk; refine ⟨?_, ?_⟩; (· (simp [wanted, undef, hk])); (· (simp [go_sem, hk, hp.1, hp.2.1, hp.2.2, hS wq hx]; rfl))) | (refine ⟨?_, ?_⟩; (· (simp [wanted])); (· (simp [go_sem, hp.1, hp.2.1, hp.2.2, hS wq hx]; rfl)))))))
        refine Phi.make (fun v _ => v = .bool (mayB a)) (Stab.const _) ?_ ?_; · (intro ρ wq hx hp hk; (first | (simp [KnowsAll, Knows, look, looks, Op.operands, Call.operands, Act.eval] at hk; refine ⟨by simp [wanted, hk], OpGood.call (by simp [go_sem, hk, hp.1, hp.2.1, hp.2.2]; exact ⟨rfl, rfl⟩) ?_⟩) | (refine ⟨by simp [wanted], OpGood.call (by simp [go_sem, hp.1, hp.2.1, hp.2.2]; exact ⟨rfl, rfl⟩) ?_⟩)); exact phi_const (HMA.out hha _ (hxw.trans hx)))
        repeat (first | ((with_reducible apply Phi.skip); · (intro ρ wq hx hp hk; simp [KnowsAll, Knows, look, looks, Op.operands, Call.operands, Act.eval] at hk; simp [wanted, undef, hk])) | ((with_reducible apply Phi.pure); · (intro ρ wq hx hp hk; (first | (simp [KnowsAll, Knows, look, looks, Op.operands, Call.operands, Act.eval] at hk; refine ⟨?_, ?_⟩; (· (simp [wanted, undef, hk])); (· (simp [go_sem, hk, hp.1, hp.2.1, hp.2.2, hS wq hx]; rfl))) | (refine ⟨?_, ?_⟩; (· (simp [wanted])); (· (simp [go_sem, hp.1, hp.2.1, hp.2.2, hS wq hx]; rfl)))))))
        refine Phi.make (fun v _ => v = .bool (mayB a)) (Stab.const _) ?_ ?_; · (intro ρ wq hx hp hk; (first | (simp [KnowsAll, Knows, look, looks, Op.operands, Call.operands, Act.eval] at hk; refine ⟨by simp [wanted, hk], OpGood.call (by simp [go_sem, hk, hp.1, hp.2.1, hp.2.2]; exact ⟨rfl, rfl⟩) ?_⟩) | (refine ⟨by simp [wanted], OpGood.call (by simp [go_sem, hp.1, hp.2.1, hp.2.2]; exact ⟨rfl, rfl⟩) ?_⟩)); exact phi_const (by have := HMB.out hhb _ (hxw.trans hx); rwa [e3] at this))
        repeat (first | ((with_reducible apply Phi.skip); · (intro ρ wq hx hp hk; simp [KnowsAll, Knows, look, looks, Op.operands, Call.operands, Act.eval] at hk; simp [wanted, undef, hk])) | ((with_reducible apply Phi.pure); · (intro ρ wq hx hp hk; (first | (simp [KnowsAll, Knows, look, looks, Op.operands, Call.operands, Act.eval] at hk; refine ⟨?_, ?_⟩; (· (simp [wanted, undef, hk])); (· (simp [go_sem, hk, hp.1, hp.2.1, hp.2.2, hS wq hx]; rfl))) | (refine ⟨?_, ?_⟩; (· (simp [wanted])); (· (simp [go_sem, hp.1, hp.2.1, hp.2.2, hS wq hx]; rfl)))))))
        refine Phi.done ?_; intro w2 hx2; simp only [Final, List.nil_append, List.cons_append, forall_eq]; ((refine hQ9 _ _ ?_); (try refine wpList_nil ?_); (clear hQ9 Q9)); simp only [Act.put, List.setIfInBounds_toArray, List.set_cons_succ, List.set_cons_zero]
        clear hS
        go_wp2_with fail
        refine (HL.out _ (hxw.trans hx2)).mono ?_
        rintro e w7 ⟨vL, rfl, hx8, hL⟩
        obtain ⟨am3, cm3, al3, cl3, rfl, -, -, -, -, -, -⟩ := hL.open
        have HLR := Lib.hid (hL.keep (since_keeps _ _)); clear hL
        have hcD := dList_count l
        have hx9 := (hxw.trans hx2).trans hx8
        have hxa := (Ext.refl w7).alloc (.cells #[.int .i64 (dList l).k, .int .i32 (dList l).c, .bool (dList l).neg, .slice am3 (dList l).mag.length cm3, .string (dList l).t, .slice al3 (dList l).l.length cl3] 27)
        have ba := heap_new w7 (.cells #[.int .i64 (dList l).k, .int .i32 (dList l).c, .bool (dList l).neg, .slice am3 (dList l).mag.length cm3, .string (dList l).t, .slice al3 (dList l).l.length cl3] 27)
        go_wp2_with fail
        refine (depth_any (dList l) _ _ (by omega) (HLR.out.keep hxa.keeps)).mono ?_
        rw [dList_depth]
        rintro e w8 ⟨rfl, hx10⟩
        have b9 := (hx10.block _ (Array.getElem?_eq_some_iff.1 ba).1).trans ba
        have hc9 := cell_of b9
        go_wp2_with fail
        refine (count_any (dList l) _ _ (by omega) (HLR.out.keep (hxa.trans hx10).keeps)).mono ?_
        rw [hcD]
        rintro e w9 ⟨rfl, hx11⟩
        clear hc9
        go_wp2_with fail
        refine (HW.out _ (((hx9.trans hxa).trans hx10).trans hx11)).mono ?_
        rintro e w10 ⟨rfl, hx12⟩
        go_wp2_with fail
        go_ret
        exact ⟨rfl, (((hx9.trans hxa).trans hx10).trans hx11).trans hx12⟩
end Go.Proofs.YtajjhhobfjjaeaaDoor
