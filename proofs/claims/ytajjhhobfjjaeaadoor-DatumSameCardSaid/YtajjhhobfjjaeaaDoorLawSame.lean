import Derived.Test.YtajjhhobfjjaeaaDoorAwake
import Derived.Test.YtajjhhobfjjaeaaDoorSame3
import Derived.Test.YtajjhhobfjjaeaaDoorWeigh
namespace Go.Proofs.YtajjhhobfjjaeaaDoor
open Go.RowKit
set_option linter.unusedSimpArgs false
set_option linter.unusedVariables false

set_option maxRecDepth 100000 in
set_option maxHeartbeats 8000000 in
theorem lawSame_any (a b : D) (w : World) (va vb : Value) (hT : Tabs w) (hoa : a.Ok) (hob : b.Ok) (ha : IsD w a va) (hb : IsD w b vb) :
    Calls Tryd.prog 4 #[va, vb] w fun e w' => e = .returned (.bool true) ∧ Ext w w' := by
  have HA := Lib.hid (fun W (hx : Ext w W) => heavy_any a W va hoa (ha.keep hx.keeps))
  have HB := Lib.hid (fun W (hx : Ext w W) => heavy_any b W vb hob (hb.keep hx.keeps))
  have HW := Lib.hid (fun W (hx : Ext w W) => awake_any W (hT.ext hx))
  have HAB := Lib.hid (fun W (hx : Ext w W) => same_any a b W _ _ (ha.keep hx.keeps) (hb.keep hx.keeps))
  have HBA := Lib.hid (fun W (hx : Ext w W) => same_any b a W _ _ (hb.keep hx.keeps) (ha.keep hx.keeps))
  have HAA := Lib.hid (fun W (hx : Ext w W) => same_any a a W _ _ (ha.keep hx.keeps) (ha.keep hx.keeps))
  have HR := Lib.hid (fun W (hx : Ext w W) => rsame_any a b W _ _ (ha.keep hx.keeps) (hb.keep hx.keeps))
  rw [show eqB b a = eqB a b from bool_eq (by rw [eqB_iff, eqB_iff]; exact eq_comm)] at HBA
  rw [eqB_pos rfl] at HAA
  obtain ⟨am, cm, al, cl, rfl, -, -, -, -, -, -⟩ := ha.open
  obtain ⟨bm, dm, bl, dl, rfl, -, -, -, -, -, -⟩ := hb.open
  clear ha hb hT
  have hx0 := ((Ext.refl w).alloc (.cells #[.int .i64 a.k, .int .i32 a.c, .bool a.neg, .slice am a.mag.length cm, .string a.t, .slice al a.l.length cl] 27)).alloc (.cells #[.int .i64 b.k, .int .i32 b.c, .bool b.neg, .slice bm b.mag.length dm, .string b.t, .slice bl b.l.length dl] 27)
  have b0 := heap_new0 w (.cells #[.int .i64 a.k, .int .i32 a.c, .bool a.neg, .slice am a.mag.length cm, .string a.t, .slice al a.l.length cl] 27) (.cells #[.int .i64 b.k, .int .i32 b.c, .bool b.neg, .slice bm b.mag.length dm, .string b.t, .slice bl b.l.length dl] 27)
  have b1 := heap_new1 w (.cells #[.int .i64 a.k, .int .i32 a.c, .bool a.neg, .slice am a.mag.length cm, .string a.t, .slice al a.l.length cl] 27) (.cells #[.int .i64 b.k, .int .i32 b.c, .bool b.neg, .slice bm b.mag.length dm, .string b.t, .slice bl b.l.length dl] 27)
  go_enter Tryd.func4, Tryd.ntmps4
  go_wp2_with fail
  generalize (w.alloc (.cells #[.int .i64 a.k, .int .i32 a.c, .bool a.neg, .slice am a.mag.length cm, .string a.t, .slice al a.l.length cl] 27)).alloc (.cells #[.int .i64 b.k, .int .i32 b.c, .bool b.neg, .slice bm b.mag.length dm, .string b.t, .slice bl b.l.length dl] 27) = w1 at *
  refine (HA.out _ hx0).mono ?_
  rintro e w2 ⟨rfl, hx2⟩
  have hl0 := (Array.getElem?_eq_some_iff.1 b0).1
  have hl1 := (Array.getElem?_eq_some_iff.1 b1).1
  have b0 := (hx2.block _ hl0).trans b0
  have b1 := (hx2.block _ hl1).trans b1
  have hx3 := hx0.trans hx2
  rcases hh : a.heavy
  · have hc1 := cell_of b1
    go_wp2_with fail
    refine (HB.out _ hx3).mono ?_
    rintro e w3 ⟨rfl, hx4⟩
    have hx5 := hx3.trans hx4
    have b0 := (hx4.block _ (Array.getElem?_eq_some_iff.1 b0).1).trans b0
    have b1 := (hx4.block _ (Array.getElem?_eq_some_iff.1 b1).1).trans b1
    clear hc1
    rcases hh' : b.heavy
    · go_wp2_with fail
      have x0 := cell_of b0 0; have x1 := cell_of b0 1; have x2 := cell_of b0 2; have x3 := cell_of b0 3; have x4 := cell_of b0 4; have x5 := cell_of b0 5
      have y0 := cell_of b1 0; have y1 := cell_of b1 1; have y2 := cell_of b1 2; have y3 := cell_of b1 3; have y4 := cell_of b1 4; have y5 := cell_of b1 5
      simp only [List.getElem?_toArray, List.getElem?_cons_zero, List.getElem?_cons_succ] at x0 x1 x2 x3 x4 x5 y0 y1 y2 y3 y4 y5
      have hS : ∀ W9, Ext _ W9 → W9.cell? _ = _ ∧ W9.cell? _ = _ ∧ W9.cell? _ = _ ∧ W9.cell? _ = _ ∧ W9.cell? _ = _ ∧ W9.cell? _ = _ ∧ W9.cell? _ = _ ∧ W9.cell? _ = _ ∧ W9.cell? _ = _ ∧ W9.cell? _ = _ ∧ W9.cell? _ = _ ∧ W9.cell? _ = _ ∧ True := fun W9 h => ⟨h.keeps _ _ x0, h.keeps _ _ x1, h.keeps _ _ x2, h.keeps _ _ x3, h.keeps _ _ x4, h.keeps _ _ x5, h.keeps _ _ y0, h.keeps _ _ y1, h.keeps _ _ y2, h.keeps _ _ y3, h.keeps _ _ y4, h.keeps _ _ y5, trivial⟩
      clear x0 x1 x2 x3 x4 x5 y0 y1 y2 y3 y4 y5 b0 b1
      refine wp_region_each 24 _ _ _ rfl rfl rfl (by kernel_rfl) (by kernel_rfl) (by kernel_rfl) (fun Q9 hQ9 => ?_); simp only [List.take_succ_cons, List.take_zero, List.drop_succ_cons, List.drop_zero, List.map_cons, List.map_nil] at hQ9 ⊢
      repeat (first | ((with_reducible apply Phi.skip); · (intro ρ wq hx hp hk; simp [KnowsAll, Knows, look, looks, Op.operands, Call.operands, Act.eval] at hk; simp [wanted, undef, hk])) | ((with_reducible apply Phi.pure); · (intro ρ wq hx hp hk; (first | (simp [KnowsAll, Knows, look, looks, Op.operands, Call.operands, Act.eval] at hk; refine ⟨?_, ?_⟩; (· (simp [wanted, undef, hk])); (· (simp [go_sem, hk, hp.1, hp.2.1, hp.2.2, hS wq hx]; rfl))) | (refine ⟨?_, ?_⟩; (· (simp [wanted])); (· (simp [go_sem, hp.1, hp.2.1, hp.2.2, hS wq hx]; rfl)))))))
      refine Phi.make (fun v _ => v = .bool (eqB a b)) (Stab.const _) ?_ ?_; · (intro ρ wq hx hp hk; (first | (simp [KnowsAll, Knows, look, looks, Op.operands, Call.operands, Act.eval] at hk; refine ⟨by simp [wanted, hk], OpGood.call (by simp [go_sem, hk, hp.1, hp.2.1, hp.2.2]; exact ⟨rfl, rfl⟩) ?_⟩) | (refine ⟨by simp [wanted], OpGood.call (by simp [go_sem, hp.1, hp.2.1, hp.2.2]; exact ⟨rfl, rfl⟩) ?_⟩)); exact phi_const (HAB.out _ (hx5.trans hx)))
      repeat (first | ((with_reducible apply Phi.skip); · (intro ρ wq hx hp hk; simp [KnowsAll, Knows, look, looks, Op.operands, Call.operands, Act.eval] at hk; simp [wanted, undef, hk])) | ((with_reducible apply Phi.pure); · (intro ρ wq hx hp hk; (first | (simp [KnowsAll, Knows, look, looks, Op.operands, Call.operands, Act.eval] at hk; refine ⟨?_, ?_⟩; (· (simp [wanted, undef, hk])); (· (simp [go_sem, hk, hp.1, hp.2.1, hp.2.2, hS wq hx]; rfl))) | (refine ⟨?_, ?_⟩; (· (simp [wanted])); (· (simp [go_sem, hp.1, hp.2.1, hp.2.2, hS wq hx]; rfl)))))))
      refine Phi.make (fun v _ => v = .bool (eqB a b)) (Stab.const _) ?_ ?_; · (intro ρ wq hx hp hk; (first | (simp [KnowsAll, Knows, look, looks, Op.operands, Call.operands, Act.eval] at hk; refine ⟨by simp [wanted, hk], OpGood.call (by simp [go_sem, hk, hp.1, hp.2.1, hp.2.2]; exact ⟨rfl, rfl⟩) ?_⟩) | (refine ⟨by simp [wanted], OpGood.call (by simp [go_sem, hp.1, hp.2.1, hp.2.2]; exact ⟨rfl, rfl⟩) ?_⟩)); exact phi_const (HR.out _ (hx5.trans hx)))
      repeat (first | ((with_reducible apply Phi.skip); · (intro ρ wq hx hp hk; simp [KnowsAll, Knows, look, looks, Op.operands, Call.operands, Act.eval] at hk; simp [wanted, undef, hk])) | ((with_reducible apply Phi.pure); · (intro ρ wq hx hp hk; (first | (simp [KnowsAll, Knows, look, looks, Op.operands, Call.operands, Act.eval] at hk; refine ⟨?_, ?_⟩; (· (simp [wanted, undef, hk])); (· (simp [go_sem, hk, hp.1, hp.2.1, hp.2.2, hS wq hx]; rfl))) | (refine ⟨?_, ?_⟩; (· (simp [wanted])); (· (simp [go_sem, hp.1, hp.2.1, hp.2.2, hS wq hx]; rfl)))))))
      refine Phi.make (fun v _ => v = .bool (eqB a b)) (Stab.const _) ?_ ?_; · (intro ρ wq hx hp hk; (first | (simp [KnowsAll, Knows, look, looks, Op.operands, Call.operands, Act.eval] at hk; refine ⟨by simp [wanted, hk], OpGood.call (by simp [go_sem, hk, hp.1, hp.2.1, hp.2.2]; exact ⟨rfl, rfl⟩) ?_⟩) | (refine ⟨by simp [wanted], OpGood.call (by simp [go_sem, hp.1, hp.2.1, hp.2.2]; exact ⟨rfl, rfl⟩) ?_⟩)); exact phi_const (HBA.out _ (hx5.trans hx)))
      repeat (first | ((with_reducible apply Phi.skip); · (intro ρ wq hx hp hk; simp [KnowsAll, Knows, look, looks, Op.operands, Call.operands, Act.eval] at hk; simp [wanted, undef, hk])) | ((with_reducible apply Phi.pure); · (intro ρ wq hx hp hk; (first | (simp [KnowsAll, Knows, look, looks, Op.operands, Call.operands, Act.eval] at hk; refine ⟨?_, ?_⟩; (· (simp [wanted, undef, hk])); (· (simp [go_sem, hk, hp.1, hp.2.1, hp.2.2, hS wq hx]; rfl))) | (refine ⟨?_, ?_⟩; (· (simp [wanted])); (· (simp [go_sem, hp.1, hp.2.1, hp.2.2, hS wq hx]; rfl)))))))
      refine Phi.make (fun v _ => v = .bool (eqB a b)) (Stab.const _) ?_ ?_; · (intro ρ wq hx hp hk; (first | (simp [KnowsAll, Knows, look, looks, Op.operands, Call.operands, Act.eval] at hk; refine ⟨by simp [wanted, hk], OpGood.call (by simp [go_sem, hk, hp.1, hp.2.1, hp.2.2]; exact ⟨rfl, rfl⟩) ?_⟩) | (refine ⟨by simp [wanted], OpGood.call (by simp [go_sem, hp.1, hp.2.1, hp.2.2]; exact ⟨rfl, rfl⟩) ?_⟩)); exact phi_const (HAB.out _ (hx5.trans hx)))
      repeat (first | ((with_reducible apply Phi.skip); · (intro ρ wq hx hp hk; simp [KnowsAll, Knows, look, looks, Op.operands, Call.operands, Act.eval] at hk; simp [wanted, undef, hk])) | ((with_reducible apply Phi.pure); · (intro ρ wq hx hp hk; (first | (simp [KnowsAll, Knows, look, looks, Op.operands, Call.operands, Act.eval] at hk; refine ⟨?_, ?_⟩; (· (simp [wanted, undef, hk])); (· (simp [go_sem, hk, hp.1, hp.2.1, hp.2.2, hS wq hx]; rfl))) | (refine ⟨?_, ?_⟩; (· (simp [wanted])); (· (simp [go_sem, hp.1, hp.2.1, hp.2.2, hS wq hx]; rfl)))))))
      refine Phi.make (fun v _ => v = .bool true) (Stab.const _) ?_ ?_; · (intro ρ wq hx hp hk; (first | (simp [KnowsAll, Knows, look, looks, Op.operands, Call.operands, Act.eval] at hk; refine ⟨by simp [wanted, hk], OpGood.call (by simp [go_sem, hk, hp.1, hp.2.1, hp.2.2]; exact ⟨rfl, rfl⟩) ?_⟩) | (refine ⟨by simp [wanted], OpGood.call (by simp [go_sem, hp.1, hp.2.1, hp.2.2]; exact ⟨rfl, rfl⟩) ?_⟩)); exact phi_const (HAA.out _ (hx5.trans hx)))
      repeat (first | ((with_reducible apply Phi.skip); · (intro ρ wq hx hp hk; simp [KnowsAll, Knows, look, looks, Op.operands, Call.operands, Act.eval] at hk; simp [wanted, undef, hk])) | ((with_reducible apply Phi.pure); · (intro ρ wq hx hp hk; (first | (simp [KnowsAll, Knows, look, looks, Op.operands, Call.operands, Act.eval] at hk; refine ⟨?_, ?_⟩; (· (simp [wanted, undef, hk])); (· (simp [go_sem, hk, hp.1, hp.2.1, hp.2.2, hS wq hx]; rfl))) | (refine ⟨?_, ?_⟩; (· (simp [wanted])); (· (simp [go_sem, hp.1, hp.2.1, hp.2.2, hS wq hx]; rfl)))))))
      refine Phi.make (fun v _ => v = .bool true) (Stab.const _) ?_ ?_; · (intro ρ wq hx hp hk; (first | (simp [KnowsAll, Knows, look, looks, Op.operands, Call.operands, Act.eval] at hk; refine ⟨by simp [wanted, hk], OpGood.call (by simp [go_sem, hk, hp.1, hp.2.1, hp.2.2]; exact ⟨rfl, rfl⟩) ?_⟩) | (refine ⟨by simp [wanted], OpGood.call (by simp [go_sem, hp.1, hp.2.1, hp.2.2]; exact ⟨rfl, rfl⟩) ?_⟩)); exact phi_const (HW.out _ (hx5.trans hx)))
      repeat (first | ((with_reducible apply Phi.skip); · (intro ρ wq hx hp hk; simp [KnowsAll, Knows, look, looks, Op.operands, Call.operands, Act.eval] at hk; simp [wanted, undef, hk])) | ((with_reducible apply Phi.pure); · (intro ρ wq hx hp hk; (first | (simp [KnowsAll, Knows, look, looks, Op.operands, Call.operands, Act.eval] at hk; refine ⟨?_, ?_⟩; (· (simp [wanted, undef, hk])); (· (simp [go_sem, hk, hp.1, hp.2.1, hp.2.2, hS wq hx]; rfl))) | (refine ⟨?_, ?_⟩; (· (simp [wanted])); (· (simp [go_sem, hp.1, hp.2.1, hp.2.2, hS wq hx]; rfl)))))))
      refine Phi.done ?_; intro w2 hx2; simp only [Final, List.nil_append, List.cons_append, forall_eq]; ((refine hQ9 _ _ ?_); (try refine wpList_nil ?_); (clear hQ9 Q9)); simp only [Act.put, List.setIfInBounds_toArray, List.set_cons_succ, List.set_cons_zero]
      clear hS HAB HBA HAA HR HW HA HB
      go_wp2_with fail
      go_ret
      exact ⟨rfl, hx5.trans hx2⟩
    · go_wp2_with fail
      refine (HW.out _ hx5).mono ?_
      rintro e w4 ⟨rfl, hx6⟩
      go_wp2_with fail
      go_ret
      exact ⟨rfl, hx5.trans hx6⟩
  · go_wp2_with fail
    refine (HW.out _ hx3).mono ?_
    rintro e w4 ⟨rfl, hx6⟩
    go_wp2_with fail
    go_ret
    exact ⟨rfl, hx3.trans hx6⟩
end Go.Proofs.YtajjhhobfjjaeaaDoor
