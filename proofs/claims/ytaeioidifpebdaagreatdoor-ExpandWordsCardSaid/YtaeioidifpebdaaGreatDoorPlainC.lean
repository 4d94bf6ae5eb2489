
import Derived.Test.YtaeioidifpebdaaGreatDoorPlainB
namespace Go.Proofs.YtaeioidifpebdaaGreatDoor
open Go.RowKit
set_option linter.unusedSimpArgs false
set_option linter.unusedVariables false

set_option maxHeartbeats 4000000 in
theorem wplain_none0 (c : Int) (neg : Bool) (mag : List Int) (t : ByteArray) (l : List D) (w : World) (v : Value) (h : IsD w (.mk 0 c neg mag t l) v) (hb : Bare (.mk 0 c neg mag t l)) :
  Calls Tryz.prog 53 #[v] w fun e w' => e = .returned (.bool (plainB (.mk 0 c neg mag t l))) ∧ Ext w w' := by
 rw [plain_none 0 (by omega) hb]
 have HFL := Lib.hid (fun W (hx : Ext w W) v' (hv : IsD W (ownD (.mk 0 c neg mag t l)) v') => flat_any (.mk 0 c neg mag t l) (ownD (.mk 0 c neg mag t l)) W v v' (h.keep hx.keeps) hv)
 have HOWN := Lib.hid (fun W (hx : Ext w W) => own_any 0 c neg mag t l W v (h.keep hx.keeps) (by omega) (by omega))
 obtain ⟨am, cm, al, cl, rfl, hm, hl, -, -, -, -⟩ := h.open'
 have hx0 := (Ext.refl w).alloc (.cells #[.int .i64 0, .int .i32 c, .bool neg, .slice am mag.length cm, .string t, .slice al l.length cl] 28)
 have BX := Lib.hid (box_cells w (.int .i64 0) (.int .i32 c) (.bool neg) (.slice am mag.length cm) (.string t) (.slice al l.length cl) 28)
 have hfl : flatB (.mk 0 c neg mag t l) (ownD (.mk 0 c neg mag t l)) = true := flatB_pos ((flat_own _).2 hb)
 clear h hb
 go_enter Tryz.func53, Tryz.ntmps53
 go_wp2_with fail
 obtain ⟨c0, c1, c2, c3, c4, c5⟩ := BX.out
 have hS : ∀ W9, Ext _ W9 → W9.cell? _ = _ ∧ W9.cell? _ = _ ∧ W9.cell? _ = _ ∧ W9.cell? _ = _ ∧ W9.cell? _ = _ ∧ W9.cell? _ = _ ∧ True := fun W9 h => ⟨h.keeps _ _ c0, h.keeps _ _ c1, h.keeps _ _ c2, h.keeps _ _ c3, h.keeps _ _ c4, h.keeps _ _ c5, trivial⟩
 refine wp_region_each 15 _ _ _ rfl rfl rfl (by kernel_rfl) (by kernel_rfl) (by kernel_rfl) (fun Q9 hQ9 => ?_); simp only [List.take_succ_cons, List.take_zero, List.drop_succ_cons, List.drop_zero, List.map_cons, List.map_nil] at hQ9 ⊢
 repeat (first | ((with_reducible apply Phi.skip); · (intro ρ wq hx hp hk; simp [KnowsAll, Knows, look, looks, Op.operands, Call.operands, Act.eval] at hk; simp [wanted, undef, hk])) | ((with_reducible apply Phi.pure); · (intro ρ wq hx hp hk; (first | (simp [KnowsAll, Knows, look, looks, Op.operands, Call.operands, Act.eval] at hk; refine ⟨?_, ?_⟩; (· (simp [wanted, undef, hk])); (· (simp [go_sem, hk, hp.1, hp.2.1, hp.2.2, hS wq hx]; rfl))) | (refine ⟨?_, ?_⟩; (· (simp [wanted])); (· (simp [go_sem, hp.1, hp.2.1, hp.2.2, hS wq hx]; rfl)))))))
 refine Phi.make (fun v W => IsD W (ownD (.mk 0 c neg mag t l)) v) (fun v W W' hx h => h.keep hx.keeps) ?_ ?_; · (intro ρ wq hx hp hk; (first | (simp [KnowsAll, Knows, look, looks, Op.operands, Call.operands, Act.eval] at hk; refine ⟨by simp [wanted, hk], OpGood.call (by simp [go_sem, hk, hp.1, hp.2.1, hp.2.2]; exact ⟨rfl, rfl⟩) ?_⟩) | (refine ⟨by simp [wanted], OpGood.call (by simp [go_sem, hp.1, hp.2.1, hp.2.2]; exact ⟨rfl, rfl⟩) ?_⟩)); exact HOWN.out _ (hx0.trans hx))
 refine Phi.make (fun v _ => v = .bool (flatB (.mk 0 c neg mag t l) (ownD (.mk 0 c neg mag t l)))) (Stab.const _) ?_ ?_; · (intro ρ wq hx hp hk; (first | (simp [KnowsAll, Knows, look, looks, Op.operands, Call.operands, Act.eval] at hk; refine ⟨by simp [wanted, hk], OpGood.call (by simp [go_sem, hk, hp.1, hp.2.1, hp.2.2]; exact ⟨rfl, rfl⟩) ?_⟩) | (refine ⟨by simp [wanted], OpGood.call (by simp [go_sem, hp.1, hp.2.1, hp.2.2]; exact ⟨rfl, rfl⟩) ?_⟩)); exact phi_const (HFL.out _ (hx0.trans hx) _ hk.2.1))
 repeat (first | ((with_reducible apply Phi.skip); · (intro ρ wq hx hp hk; simp [KnowsAll, Knows, look, looks, Op.operands, Call.operands, Act.eval] at hk; simp [wanted, undef, hk, hfl])) | ((with_reducible apply Phi.pure); · (intro ρ wq hx hp hk; (first | (simp [KnowsAll, Knows, look, looks, Op.operands, Call.operands, Act.eval] at hk; refine ⟨?_, ?_⟩; (· (simp [wanted, undef, hk, hfl])); (· (simp [go_sem, hk, hp.1, hp.2.1, hp.2.2, hS wq hx, hfl]; rfl))) | (refine ⟨?_, ?_⟩; (· (simp [wanted])); (· (simp [go_sem, hp.1, hp.2.1, hp.2.2, hS wq hx, hfl]; rfl)))))))
 refine Phi.done ?_; intro w2 hx2; simp only [Final, List.nil_append, List.cons_append, forall_eq]
 intro v14 hv14
 ((refine hQ9 _ _ ?_); (try refine wpList_nil ?_); (clear hQ9 Q9)); simp only [Act.put, List.setIfInBounds_toArray, List.set_cons_succ, List.set_cons_zero]
 obtain ⟨c0, c1, c2, c3, c4, c5, -⟩ := hS w2 hx2
 clear hS BX HOWN HFL hfl hv14
 go_wp2_with fail
 go_ret
 exact ⟨rfl, hx0.trans hx2⟩
set_option maxHeartbeats 4000000 in
theorem wplain_none1 (c : Int) (neg : Bool) (mag : List Int) (t : ByteArray) (l : List D) (w : World) (v : Value) (h : IsD w (.mk 1 c neg mag t l) v) (hb : Bare (.mk 1 c neg mag t l)) :
  Calls Tryz.prog 53 #[v] w fun e w' => e = .returned (.bool (plainB (.mk 1 c neg mag t l))) ∧ Ext w w' := by
 rw [plain_none 1 (by omega) hb]
 have HFL := Lib.hid (fun W (hx : Ext w W) v' (hv : IsD W (ownD (.mk 1 c neg mag t l)) v') => flat_any (.mk 1 c neg mag t l) (ownD (.mk 1 c neg mag t l)) W v v' (h.keep hx.keeps) hv)
 have HOWN := Lib.hid (fun W (hx : Ext w W) => own_any 1 c neg mag t l W v (h.keep hx.keeps) (by omega) (by omega))
 obtain ⟨am, cm, al, cl, rfl, hm, hl, -, -, -, -⟩ := h.open'
 have hx0 := (Ext.refl w).alloc (.cells #[.int .i64 1, .int .i32 c, .bool neg, .slice am mag.length cm, .string t, .slice al l.length cl] 28)
 have BX := Lib.hid (box_cells w (.int .i64 1) (.int .i32 c) (.bool neg) (.slice am mag.length cm) (.string t) (.slice al l.length cl) 28)
 have hfl : flatB (.mk 1 c neg mag t l) (ownD (.mk 1 c neg mag t l)) = true := flatB_pos ((flat_own _).2 hb)
 clear h hb
 go_enter Tryz.func53, Tryz.ntmps53
 go_wp2_with fail
 obtain ⟨c0, c1, c2, c3, c4, c5⟩ := BX.out
 have hS : ∀ W9, Ext _ W9 → W9.cell? _ = _ ∧ W9.cell? _ = _ ∧ W9.cell? _ = _ ∧ W9.cell? _ = _ ∧ W9.cell? _ = _ ∧ W9.cell? _ = _ ∧ True := fun W9 h => ⟨h.keeps _ _ c0, h.keeps _ _ c1, h.keeps _ _ c2, h.keeps _ _ c3, h.keeps _ _ c4, h.keeps _ _ c5, trivial⟩
 refine wp_region_each 15 _ _ _ rfl rfl rfl (by kernel_rfl) (by kernel_rfl) (by kernel_rfl) (fun Q9 hQ9 => ?_); simp only [List.take_succ_cons, List.take_zero, List.drop_succ_cons, List.drop_zero, List.map_cons, List.map_nil] at hQ9 ⊢
 repeat (first | ((with_reducible apply Phi.skip); · (intro ρ wq hx hp hk; simp [KnowsAll, Knows, look, looks, Op.operands, Call.operands, Act.eval] at hk; simp [wanted, undef, hk])) | ((with_reducible apply Phi.pure); · (intro ρ wq hx hp hk; (first | (simp [KnowsAll, Knows, look, looks, Op.operands, Call.operands, Act.eval] at hk; refine ⟨?_, ?_⟩; (· (simp [wanted, undef, hk])); (· (simp [go_sem, hk, hp.1, hp.2.1, hp.2.2, hS wq hx]; rfl))) | (refine ⟨?_, ?_⟩; (· (simp [wanted])); (· (simp [go_sem, hp.1, hp.2.1, hp.2.2, hS wq hx]; rfl)))))))
 refine Phi.make (fun v W => IsD W (ownD (.mk 1 c neg mag t l)) v) (fun v W W' hx h => h.keep hx.keeps) ?_ ?_; · (intro ρ wq hx hp hk; (first | (simp [KnowsAll, Knows, look, looks, Op.operands, Call.operands, Act.eval] at hk; refine ⟨by simp [wanted, hk], OpGood.call (by simp [go_sem, hk, hp.1, hp.2.1, hp.2.2]; exact ⟨rfl, rfl⟩) ?_⟩) | (refine ⟨by simp [wanted], OpGood.call (by simp [go_sem, hp.1, hp.2.1, hp.2.2]; exact ⟨rfl, rfl⟩) ?_⟩)); exact HOWN.out _ (hx0.trans hx))
 refine Phi.make (fun v _ => v = .bool (flatB (.mk 1 c neg mag t l) (ownD (.mk 1 c neg mag t l)))) (Stab.const _) ?_ ?_; · (intro ρ wq hx hp hk; (first | (simp [KnowsAll, Knows, look, looks, Op.operands, Call.operands, Act.eval] at hk; refine ⟨by simp [wanted, hk], OpGood.call (by simp [go_sem, hk, hp.1, hp.2.1, hp.2.2]; exact ⟨rfl, rfl⟩) ?_⟩) | (refine ⟨by simp [wanted], OpGood.call (by simp [go_sem, hp.1, hp.2.1, hp.2.2]; exact ⟨rfl, rfl⟩) ?_⟩)); exact phi_const (HFL.out _ (hx0.trans hx) _ hk.2.1))
 repeat (first | ((with_reducible apply Phi.skip); · (intro ρ wq hx hp hk; simp [KnowsAll, Knows, look, looks, Op.operands, Call.operands, Act.eval] at hk; simp [wanted, undef, hk, hfl])) | ((with_reducible apply Phi.pure); · (intro ρ wq hx hp hk; (first | (simp [KnowsAll, Knows, look, looks, Op.operands, Call.operands, Act.eval] at hk; refine ⟨?_, ?_⟩; (· (simp [wanted, undef, hk, hfl])); (· (simp [go_sem, hk, hp.1, hp.2.1, hp.2.2, hS wq hx, hfl]; rfl))) | (refine ⟨?_, ?_⟩; (· (simp [wanted])); (· (simp [go_sem, hp.1, hp.2.1, hp.2.2, hS wq hx, hfl]; rfl)))))))
 refine Phi.done ?_; intro w2 hx2; simp only [Final, List.nil_append, List.cons_append, forall_eq]
 intro v14 hv14
 ((refine hQ9 _ _ ?_); (try refine wpList_nil ?_); (clear hQ9 Q9)); simp only [Act.put, List.setIfInBounds_toArray, List.set_cons_succ, List.set_cons_zero]
 obtain ⟨c0, c1, c2, c3, c4, c5, -⟩ := hS w2 hx2
 clear hS BX HOWN HFL hfl hv14
 go_wp2_with fail
 go_ret
 exact ⟨rfl, hx0.trans hx2⟩
set_option maxHeartbeats 4000000 in
theorem wplain_none2 (c : Int) (neg : Bool) (mag : List Int) (t : ByteArray) (l : List D) (w : World) (v : Value) (h : IsD w (.mk 2 c neg mag t l) v) (hb : Bare (.mk 2 c neg mag t l)) :
  Calls Tryz.prog 53 #[v] w fun e w' => e = .returned (.bool (plainB (.mk 2 c neg mag t l))) ∧ Ext w w' := by
 rw [plain_none 2 (by omega) hb]
 have HFL := Lib.hid (fun W (hx : Ext w W) v' (hv : IsD W (ownD (.mk 2 c neg mag t l)) v') => flat_any (.mk 2 c neg mag t l) (ownD (.mk 2 c neg mag t l)) W v v' (h.keep hx.keeps) hv)
 have HOWN := Lib.hid (fun W (hx : Ext w W) => own_any 2 c neg mag t l W v (h.keep hx.keeps) (by omega) (by omega))
 obtain ⟨am, cm, al, cl, rfl, hm, hl, -, -, -, -⟩ := h.open'
 have hx0 := (Ext.refl w).alloc (.cells #[.int .i64 2, .int .i32 c, .bool neg, .slice am mag.length cm, .string t, .slice al l.length cl] 28)
 have BX := Lib.hid (box_cells w (.int .i64 2) (.int .i32 c) (.bool neg) (.slice am mag.length cm) (.string t) (.slice al l.length cl) 28)
 have hfl : flatB (.mk 2 c neg mag t l) (ownD (.mk 2 c neg mag t l)) = true := flatB_pos ((flat_own _).2 hb)
 clear h hb
 go_enter Tryz.func53, Tryz.ntmps53
 go_wp2_with fail
 obtain ⟨c0, c1, c2, c3, c4, c5⟩ := BX.out
 have hS : ∀ W9, Ext _ W9 → W9.cell? _ = _ ∧ W9.cell? _ = _ ∧ W9.cell? _ = _ ∧ W9.cell? _ = _ ∧ W9.cell? _ = _ ∧ W9.cell? _ = _ ∧ True := fun W9 h => ⟨h.keeps _ _ c0, h.keeps _ _ c1, h.keeps _ _ c2, h.keeps _ _ c3, h.keeps _ _ c4, h.keeps _ _ c5, trivial⟩
 refine wp_region_each 15 _ _ _ rfl rfl rfl (by kernel_rfl) (by kernel_rfl) (by kernel_rfl) (fun Q9 hQ9 => ?_); simp only [List.take_succ_cons, List.take_zero, List.drop_succ_cons, List.drop_zero, List.map_cons, List.map_nil] at hQ9 ⊢
 repeat (first | ((with_reducible apply Phi.skip); · (intro ρ wq hx hp hk; simp [KnowsAll, Knows, look, looks, Op.operands, Call.operands, Act.eval] at hk; simp [wanted, undef, hk])) | ((with_reducible apply Phi.pure); · (intro ρ wq hx hp hk; (first | (simp [KnowsAll, Knows, look, looks, Op.operands, Call.operands, Act.eval] at hk; refine ⟨?_, ?_⟩; (· (simp [wanted, undef, hk])); (· (simp [go_sem, hk, hp.1, hp.2.1, hp.2.2, hS wq hx]; rfl))) | (refine ⟨?_, ?_⟩; (· (simp [wanted])); (· (simp [go_sem, hp.1, hp.2.1, hp.2.2, hS wq hx]; rfl)))))))
 refine Phi.make (fun v W => IsD W (ownD (.mk 2 c neg mag t l)) v) (fun v W W' hx h => h.keep hx.keeps) ?_ ?_; · (intro ρ wq hx hp hk; (first | (simp [KnowsAll, Knows, look, looks, Op.operands, Call.operands, Act.eval] at hk; refine ⟨by simp [wanted, hk], OpGood.call (by simp [go_sem, hk, hp.1, hp.2.1, hp.2.2]; exact ⟨rfl, rfl⟩) ?_⟩) | (refine ⟨by simp [wanted], OpGood.call (by simp [go_sem, hp.1, hp.2.1, hp.2.2]; exact ⟨rfl, rfl⟩) ?_⟩)); exact HOWN.out _ (hx0.trans hx))
 refine Phi.make (fun v _ => v = .bool (flatB (.mk 2 c neg mag t l) (ownD (.mk 2 c neg mag t l)))) (Stab.const _) ?_ ?_; · (intro ρ wq hx hp hk; (first | (simp [KnowsAll, Knows, look, looks, Op.operands, Call.operands, Act.eval] at hk; refine ⟨by simp [wanted, hk], OpGood.call (by simp [go_sem, hk, hp.1, hp.2.1, hp.2.2]; exact ⟨rfl, rfl⟩) ?_⟩) | (refine ⟨by simp [wanted], OpGood.call (by simp [go_sem, hp.1, hp.2.1, hp.2.2]; exact ⟨rfl, rfl⟩) ?_⟩)); exact phi_const (HFL.out _ (hx0.trans hx) _ hk.2.1))
 repeat (first | ((with_reducible apply Phi.skip); · (intro ρ wq hx hp hk; simp [KnowsAll, Knows, look, looks, Op.operands, Call.operands, Act.eval] at hk; simp [wanted, undef, hk, hfl])) | ((with_reducible apply Phi.pure); · (intro ρ wq hx hp hk; (first | (simp [KnowsAll, Knows, look, looks, Op.operands, Call.operands, Act.eval] at hk; refine ⟨?_, ?_⟩; (· (simp [wanted, undef, hk, hfl])); (· (simp [go_sem, hk, hp.1, hp.2.1, hp.2.2, hS wq hx, hfl]; rfl))) | (refine ⟨?_, ?_⟩; (· (simp [wanted])); (· (simp [go_sem, hp.1, hp.2.1, hp.2.2, hS wq hx, hfl]; rfl)))))))
 refine Phi.done ?_; intro w2 hx2; simp only [Final, List.nil_append, List.cons_append, forall_eq]
 intro v14 hv14
 ((refine hQ9 _ _ ?_); (try refine wpList_nil ?_); (clear hQ9 Q9)); simp only [Act.put, List.setIfInBounds_toArray, List.set_cons_succ, List.set_cons_zero]
 obtain ⟨c0, c1, c2, c3, c4, c5, -⟩ := hS w2 hx2
 clear hS BX HOWN HFL hfl hv14
 go_wp2_with fail
 go_ret
 exact ⟨rfl, hx0.trans hx2⟩
set_option maxHeartbeats 4000000 in
theorem wplain_none9 (c : Int) (neg : Bool) (mag : List Int) (t : ByteArray) (l : List D) (w : World) (v : Value) (h : IsD w (.mk 9 c neg mag t l) v) (hb : Bare (.mk 9 c neg mag t l)) :
  Calls Tryz.prog 53 #[v] w fun e w' => e = .returned (.bool (plainB (.mk 9 c neg mag t l))) ∧ Ext w w' := by
 rw [plain_none 9 (by omega) hb]
 have HFL := Lib.hid (fun W (hx : Ext w W) v' (hv : IsD W (ownD (.mk 9 c neg mag t l)) v') => flat_any (.mk 9 c neg mag t l) (ownD (.mk 9 c neg mag t l)) W v v' (h.keep hx.keeps) hv)
 have HOWN := Lib.hid (fun W (hx : Ext w W) => own_any 9 c neg mag t l W v (h.keep hx.keeps) (by omega) (by omega))
 obtain ⟨am, cm, al, cl, rfl, hm, hl, -, -, -, -⟩ := h.open'
 have hx0 := (Ext.refl w).alloc (.cells #[.int .i64 9, .int .i32 c, .bool neg, .slice am mag.length cm, .string t, .slice al l.length cl] 28)
 have BX := Lib.hid (box_cells w (.int .i64 9) (.int .i32 c) (.bool neg) (.slice am mag.length cm) (.string t) (.slice al l.length cl) 28)
 have hfl : flatB (.mk 9 c neg mag t l) (ownD (.mk 9 c neg mag t l)) = true := flatB_pos ((flat_own _).2 hb)
 clear h hb
 go_enter Tryz.func53, Tryz.ntmps53
 go_wp2_with fail
 obtain ⟨c0, c1, c2, c3, c4, c5⟩ := BX.out
 have hS : ∀ W9, Ext _ W9 → W9.cell? _ = _ ∧ W9.cell? _ = _ ∧ W9.cell? _ = _ ∧ W9.cell? _ = _ ∧ W9.cell? _ = _ ∧ W9.cell? _ = _ ∧ True := fun W9 h => ⟨h.keeps _ _ c0, h.keeps _ _ c1, h.keeps _ _ c2, h.keeps _ _ c3, h.keeps _ _ c4, h.keeps _ _ c5, trivial⟩
 refine wp_region_each 15 _ _ _ rfl rfl rfl (by kernel_rfl) (by kernel_rfl) (by kernel_rfl) (fun Q9 hQ9 => ?_); simp only [List.take_succ_cons, List.take_zero, List.drop_succ_cons, List.drop_zero, List.map_cons, List.map_nil] at hQ9 ⊢
 repeat (first | ((with_reducible apply Phi.skip); · (intro ρ wq hx hp hk; simp [KnowsAll, Knows, look, looks, Op.operands, Call.operands, Act.eval] at hk; simp [wanted, undef, hk])) | ((with_reducible apply Phi.pure); · (intro ρ wq hx hp hk; (first | (simp [KnowsAll, Knows, look, looks, Op.operands, Call.operands, Act.eval] at hk; refine ⟨?_, ?_⟩; (· (simp [wanted, undef, hk])); (· (simp [go_sem, hk, hp.1, hp.2.1, hp.2.2, hS wq hx]; rfl))) | (refine ⟨?_, ?_⟩; (· (simp [wanted])); (· (simp [go_sem, hp.1, hp.2.1, hp.2.2, hS wq hx]; rfl)))))))
 refine Phi.make (fun v W => IsD W (ownD (.mk 9 c neg mag t l)) v) (fun v W W' hx h => h.keep hx.keeps) ?_ ?_; · (intro ρ wq hx hp hk; (first | (simp [KnowsAll, Knows, look, looks, Op.operands, Call.operands, Act.eval] at hk; refine ⟨by simp [wanted, hk], OpGood.call (by simp [go_sem, hk, hp.1, hp.2.1, hp.2.2]; exact ⟨rfl, rfl⟩) ?_⟩) | (refine ⟨by simp [wanted], OpGood.call (by simp [go_sem, hp.1, hp.2.1, hp.2.2]; exact ⟨rfl, rfl⟩) ?_⟩)); exact HOWN.out _ (hx0.trans hx))
 refine Phi.make (fun v _ => v = .bool (flatB (.mk 9 c neg mag t l) (ownD (.mk 9 c neg mag t l)))) (Stab.const _) ?_ ?_; · (intro ρ wq hx hp hk; (first | (simp [KnowsAll, Knows, look, looks, Op.operands, Call.operands, Act.eval] at hk; refine ⟨by simp [wanted, hk], OpGood.call (by simp [go_sem, hk, hp.1, hp.2.1, hp.2.2]; exact ⟨rfl, rfl⟩) ?_⟩) | (refine ⟨by simp [wanted], OpGood.call (by simp [go_sem, hp.1, hp.2.1, hp.2.2]; exact ⟨rfl, rfl⟩) ?_⟩)); exact phi_const (HFL.out _ (hx0.trans hx) _ hk.2.1))
 repeat (first | ((with_reducible apply Phi.skip); · (intro ρ wq hx hp hk; simp [KnowsAll, Knows, look, looks, Op.operands, Call.operands, Act.eval] at hk; simp [wanted, undef, hk, hfl])) | ((with_reducible apply Phi.pure); · (intro ρ wq hx hp hk; (first | (simp [KnowsAll, Knows, look, looks, Op.operands, Call.operands, Act.eval] at hk; refine ⟨?_, ?_⟩; (· (simp [wanted, undef, hk, hfl])); (· (simp [go_sem, hk, hp.1, hp.2.1, hp.2.2, hS wq hx, hfl]; rfl))) | (refine ⟨?_, ?_⟩; (· (simp [wanted])); (· (simp [go_sem, hp.1, hp.2.1, hp.2.2, hS wq hx, hfl]; rfl)))))))
 refine Phi.done ?_; intro w2 hx2; simp only [Final, List.nil_append, List.cons_append, forall_eq]
 intro v14 hv14
 ((refine hQ9 _ _ ?_); (try refine wpList_nil ?_); (clear hQ9 Q9)); simp only [Act.put, List.setIfInBounds_toArray, List.set_cons_succ, List.set_cons_zero]
 obtain ⟨c0, c1, c2, c3, c4, c5, -⟩ := hS w2 hx2
 clear hS BX HOWN HFL hfl hv14
 go_wp2_with fail
 go_ret
 exact ⟨rfl, hx0.trans hx2⟩
set_option maxHeartbeats 4000000 in
theorem wplain_none10 (c : Int) (neg : Bool) (mag : List Int) (t : ByteArray) (l : List D) (w : World) (v : Value) (h : IsD w (.mk 10 c neg mag t l) v) (hb : Bare (.mk 10 c neg mag t l)) :
  Calls Tryz.prog 53 #[v] w fun e w' => e = .returned (.bool (plainB (.mk 10 c neg mag t l))) ∧ Ext w w' := by
 rw [plain_none 10 (by omega) hb]
 have HFL := Lib.hid (fun W (hx : Ext w W) v' (hv : IsD W (ownD (.mk 10 c neg mag t l)) v') => flat_any (.mk 10 c neg mag t l) (ownD (.mk 10 c neg mag t l)) W v v' (h.keep hx.keeps) hv)
 have HOWN := Lib.hid (fun W (hx : Ext w W) => own_any 10 c neg mag t l W v (h.keep hx.keeps) (by omega) (by omega))
 obtain ⟨am, cm, al, cl, rfl, hm, hl, -, -, -, -⟩ := h.open'
 have hx0 := (Ext.refl w).alloc (.cells #[.int .i64 10, .int .i32 c, .bool neg, .slice am mag.length cm, .string t, .slice al l.length cl] 28)
 have BX := Lib.hid (box_cells w (.int .i64 10) (.int .i32 c) (.bool neg) (.slice am mag.length cm) (.string t) (.slice al l.length cl) 28)
 have hfl : flatB (.mk 10 c neg mag t l) (ownD (.mk 10 c neg mag t l)) = true := flatB_pos ((flat_own _).2 hb)
 clear h hb
 go_enter Tryz.func53, Tryz.ntmps53
 go_wp2_with fail
 obtain ⟨c0, c1, c2, c3, c4, c5⟩ := BX.out
 have hS : ∀ W9, Ext _ W9 → W9.cell? _ = _ ∧ W9.cell? _ = _ ∧ W9.cell? _ = _ ∧ W9.cell? _ = _ ∧ W9.cell? _ = _ ∧ W9.cell? _ = _ ∧ True := fun W9 h => ⟨h.keeps _ _ c0, h.keeps _ _ c1, h.keeps _ _ c2, h.keeps _ _ c3, h.keeps _ _ c4, h.keeps _ _ c5, trivial⟩
 refine wp_region_each 15 _ _ _ rfl rfl rfl (by kernel_rfl) (by kernel_rfl) (by kernel_rfl) (fun Q9 hQ9 => ?_); simp only [List.take_succ_cons, List.take_zero, List.drop_succ_cons, List.drop_zero, List.map_cons, List.map_nil] at hQ9 ⊢
 repeat (first | ((with_reducible apply Phi.skip); · (intro ρ wq hx hp hk; simp [KnowsAll, Knows, look, looks, Op.operands, Call.operands, Act.eval] at hk; simp [wanted, undef, hk])) | ((with_reducible apply Phi.pure); · (intro ρ wq hx hp hk; (first | (simp [KnowsAll, Knows, look, looks, Op.operands, Call.operands, Act.eval] at hk; refine ⟨?_, ?_⟩; (· (simp [wanted, undef, hk])); (· (simp [go_sem, hk, hp.1, hp.2.1, hp.2.2, hS wq hx]; rfl))) | (refine ⟨?_, ?_⟩; (· (simp [wanted])); (· (simp [go_sem, hp.1, hp.2.1, hp.2.2, hS wq hx]; rfl)))))))
 refine Phi.make (fun v W => IsD W (ownD (.mk 10 c neg mag t l)) v) (fun v W W' hx h => h.keep hx.keeps) ?_ ?_; · (intro ρ wq hx hp hk; (first | (simp [KnowsAll, Knows, look, looks, Op.operands, Call.operands, Act.eval] at hk; refine ⟨by simp [wanted, hk], OpGood.call (by simp [go_sem, hk, hp.1, hp.2.1, hp.2.2]; exact ⟨rfl, rfl⟩) ?_⟩) | (refine ⟨by simp [wanted], OpGood.call (by simp [go_sem, hp.1, hp.2.1, hp.2.2]; exact ⟨rfl, rfl⟩) ?_⟩)); exact HOWN.out _ (hx0.trans hx))
 refine Phi.make (fun v _ => v = .bool (flatB (.mk 10 c neg mag t l) (ownD (.mk 10 c neg mag t l)))) (Stab.const _) ?_ ?_; · (intro ρ wq hx hp hk; (first | (simp [KnowsAll, Knows, look, looks, Op.operands, Call.operands, Act.eval] at hk; refine ⟨by simp [wanted, hk], OpGood.call (by simp [go_sem, hk, hp.1, hp.2.1, hp.2.2]; exact ⟨rfl, rfl⟩) ?_⟩) | (refine ⟨by simp [wanted], OpGood.call (by simp [go_sem, hp.1, hp.2.1, hp.2.2]; exact ⟨rfl, rfl⟩) ?_⟩)); exact phi_const (HFL.out _ (hx0.trans hx) _ hk.2.1))
 repeat (first | ((with_reducible apply Phi.skip); · (intro ρ wq hx hp hk; simp [KnowsAll, Knows, look, looks, Op.operands, Call.operands, Act.eval] at hk; simp [wanted, undef, hk, hfl])) | ((with_reducible apply Phi.pure); · (intro ρ wq hx hp hk; (first | (simp [KnowsAll, Knows, look, looks, Op.operands, Call.operands, Act.eval] at hk; refine ⟨?_, ?_⟩; (· (simp [wanted, undef, hk, hfl])); (· (simp [go_sem, hk, hp.1, hp.2.1, hp.2.2, hS wq hx, hfl]; rfl))) | (refine ⟨?_, ?_⟩; (· (simp [wanted])); (· (simp [go_sem, hp.1, hp.2.1, hp.2.2, hS wq hx, hfl]; rfl)))))))
 refine Phi.done ?_; intro w2 hx2; simp only [Final, List.nil_append, List.cons_append, forall_eq]
 intro v14 hv14
 ((refine hQ9 _ _ ?_); (try refine wpList_nil ?_); (clear hQ9 Q9)); simp only [Act.put, List.setIfInBounds_toArray, List.set_cons_succ, List.set_cons_zero]
 obtain ⟨c0, c1, c2, c3, c4, c5, -⟩ := hS w2 hx2
 clear hS BX HOWN HFL hfl hv14
 go_wp2_with fail
 go_ret
 exact ⟨rfl, hx0.trans hx2⟩
set_option maxHeartbeats 4000000 in
theorem wplain_char (c : Int) (neg : Bool) (mag : List Int) (t : ByteArray) (l : List D) (w : World) (v : Value) (h : IsD w (.mk 3 c neg mag t l) v) (hb : Bare (.mk 3 c neg mag t l)) :
  Calls Tryz.prog 53 #[v] w fun e w' => e = .returned (.bool (plainB (.mk 3 c neg mag t l))) ∧ Ext w w' := by
 rw [plain_char hb]
 have HFL := Lib.hid (fun W (hx : Ext w W) v' (hv : IsD W (ownD (.mk 3 c neg mag t l)) v') => flat_any (.mk 3 c neg mag t l) (ownD (.mk 3 c neg mag t l)) W v v' (h.keep hx.keeps) hv)
 have HOWN := Lib.hid (fun W (hx : Ext w W) => own_any 3 c neg mag t l W v (h.keep hx.keeps) (by omega) (by omega))
 obtain ⟨am, cm, al, cl, rfl, hm, hl, -, -, -, -⟩ := h.open'
 have hx0 := (Ext.refl w).alloc (.cells #[.int .i64 3, .int .i32 c, .bool neg, .slice am mag.length cm, .string t, .slice al l.length cl] 28)
 have BX := Lib.hid (box_cells w (.int .i64 3) (.int .i32 c) (.bool neg) (.slice am mag.length cm) (.string t) (.slice al l.length cl) 28)
 have hfl : flatB (.mk 3 c neg mag t l) (ownD (.mk 3 c neg mag t l)) = true := flatB_pos ((flat_own _).2 hb)
 clear h hb
 go_enter Tryz.func53, Tryz.ntmps53
 go_wp2_with fail
 obtain ⟨c0, c1, c2, c3, c4, c5⟩ := BX.out
 have hS : ∀ W9, Ext _ W9 → W9.cell? _ = _ ∧ W9.cell? _ = _ ∧ W9.cell? _ = _ ∧ W9.cell? _ = _ ∧ W9.cell? _ = _ ∧ W9.cell? _ = _ ∧ True := fun W9 h => ⟨h.keeps _ _ c0, h.keeps _ _ c1, h.keeps _ _ c2, h.keeps _ _ c3, h.keeps _ _ c4, h.keeps _ _ c5, trivial⟩
 refine wp_region_each 15 _ _ _ rfl rfl rfl (by kernel_rfl) (by kernel_rfl) (by kernel_rfl) (fun Q9 hQ9 => ?_); simp only [List.take_succ_cons, List.take_zero, List.drop_succ_cons, List.drop_zero, List.map_cons, List.map_nil] at hQ9 ⊢
 repeat (first | ((with_reducible apply Phi.skip); · (intro ρ wq hx hp hk; simp [KnowsAll, Knows, look, looks, Op.operands, Call.operands, Act.eval] at hk; simp [wanted, undef, hk])) | ((with_reducible apply Phi.pure); · (intro ρ wq hx hp hk; (first | (simp [KnowsAll, Knows, look, looks, Op.operands, Call.operands, Act.eval] at hk; refine ⟨?_, ?_⟩; (· (simp [wanted, undef, hk])); (· (simp [go_sem, hk, hp.1, hp.2.1, hp.2.2, hS wq hx]; rfl))) | (refine ⟨?_, ?_⟩; (· (simp [wanted])); (· (simp [go_sem, hp.1, hp.2.1, hp.2.2, hS wq hx]; rfl)))))))
 refine Phi.make (fun v W => IsD W (ownD (.mk 3 c neg mag t l)) v) (fun v W W' hx h => h.keep hx.keeps) ?_ ?_; · (intro ρ wq hx hp hk; (first | (simp [KnowsAll, Knows, look, looks, Op.operands, Call.operands, Act.eval] at hk; refine ⟨by simp [wanted, hk], OpGood.call (by simp [go_sem, hk, hp.1, hp.2.1, hp.2.2]; exact ⟨rfl, rfl⟩) ?_⟩) | (refine ⟨by simp [wanted], OpGood.call (by simp [go_sem, hp.1, hp.2.1, hp.2.2]; exact ⟨rfl, rfl⟩) ?_⟩)); exact HOWN.out _ (hx0.trans hx))
 refine Phi.make (fun v _ => v = .bool (flatB (.mk 3 c neg mag t l) (ownD (.mk 3 c neg mag t l)))) (Stab.const _) ?_ ?_; · (intro ρ wq hx hp hk; (first | (simp [KnowsAll, Knows, look, looks, Op.operands, Call.operands, Act.eval] at hk; refine ⟨by simp [wanted, hk], OpGood.call (by simp [go_sem, hk, hp.1, hp.2.1, hp.2.2]; exact ⟨rfl, rfl⟩) ?_⟩) | (refine ⟨by simp [wanted], OpGood.call (by simp [go_sem, hp.1, hp.2.1, hp.2.2]; exact ⟨rfl, rfl⟩) ?_⟩)); exact phi_const (HFL.out _ (hx0.trans hx) _ hk.2.1))
 repeat (first | ((with_reducible apply Phi.skip); · (intro ρ wq hx hp hk; simp [KnowsAll, Knows, look, looks, Op.operands, Call.operands, Act.eval] at hk; simp [wanted, undef, hk, hfl])) | ((with_reducible apply Phi.pure); · (intro ρ wq hx hp hk; (first | (simp [KnowsAll, Knows, look, looks, Op.operands, Call.operands, Act.eval] at hk; refine ⟨?_, ?_⟩; (· (simp [wanted, undef, hk, hfl])); (· (simp [go_sem, hk, hp.1, hp.2.1, hp.2.2, hS wq hx, hfl]; rfl))) | (refine ⟨?_, ?_⟩; (· (simp [wanted])); (· (simp [go_sem, hp.1, hp.2.1, hp.2.2, hS wq hx, hfl]; rfl)))))))
 refine Phi.done ?_; intro w2 hx2; simp only [Final, List.nil_append, List.cons_append, forall_eq]
 intro v14 hv14
 ((refine hQ9 _ _ ?_); (try refine wpList_nil ?_); (clear hQ9 Q9)); simp only [Act.put, List.setIfInBounds_toArray, List.set_cons_succ, List.set_cons_zero]
 obtain ⟨c0, c1, c2, c3, c4, c5, -⟩ := hS w2 hx2
 clear hS BX HOWN HFL hfl hv14
 go_wp2_with fail
 refine (Tryz.utf8_ValidRune c _).mono ?_
 rintro e w3 ⟨rfl, rfl⟩
 go_wp2_with fail
 go_ret
 exact ⟨rfl, hx0.trans hx2⟩
set_option maxHeartbeats 4000000 in
theorem wplain_int (c : Int) (neg : Bool) (mag : List Int) (t : ByteArray) (l : List D) (w : World) (v : Value) (h : IsD w (.mk 4 c neg mag t l) v) (hb : Bare (.mk 4 c neg mag t l)) :
  Calls Tryz.prog 53 #[v] w fun e w' => e = .returned (.bool (plainB (.mk 4 c neg mag t l))) ∧ Ext w w' := by
 rw [plain_int hb]
 have HFL := Lib.hid (fun W (hx : Ext w W) v' (hv : IsD W (ownD (.mk 4 c neg mag t l)) v') => flat_any (.mk 4 c neg mag t l) (ownD (.mk 4 c neg mag t l)) W v v' (h.keep hx.keeps) hv)
 have HOWN := Lib.hid (fun W (hx : Ext w W) => own_any 4 c neg mag t l W v (h.keep hx.keeps) (by omega) (by omega))
 obtain ⟨am, cm, al, cl, rfl, hm, hl, -, -, -, -⟩ := h.open'
 have hx0 := (Ext.refl w).alloc (.cells #[.int .i64 4, .int .i32 c, .bool neg, .slice am mag.length cm, .string t, .slice al l.length cl] 28)
 have BX := Lib.hid (box_cells w (.int .i64 4) (.int .i32 c) (.bool neg) (.slice am mag.length cm) (.string t) (.slice al l.length cl) 28)
 have hfl : flatB (.mk 4 c neg mag t l) (ownD (.mk 4 c neg mag t l)) = true := flatB_pos ((flat_own _).2 hb)
 clear h hb
 go_enter Tryz.func53, Tryz.ntmps53
 go_wp2_with fail
 obtain ⟨c0, c1, c2, c3, c4, c5⟩ := BX.out
 have hS : ∀ W9, Ext _ W9 → W9.cell? _ = _ ∧ W9.cell? _ = _ ∧ W9.cell? _ = _ ∧ W9.cell? _ = _ ∧ W9.cell? _ = _ ∧ W9.cell? _ = _ ∧ True := fun W9 h => ⟨h.keeps _ _ c0, h.keeps _ _ c1, h.keeps _ _ c2, h.keeps _ _ c3, h.keeps _ _ c4, h.keeps _ _ c5, trivial⟩
 refine wp_region_each 15 _ _ _ rfl rfl rfl (by kernel_rfl) (by kernel_rfl) (by kernel_rfl) (fun Q9 hQ9 => ?_); simp only [List.take_succ_cons, List.take_zero, List.drop_succ_cons, List.drop_zero, List.map_cons, List.map_nil] at hQ9 ⊢
 repeat (first | ((with_reducible apply Phi.skip); · (intro ρ wq hx hp hk; simp [KnowsAll, Knows, look, looks, Op.operands, Call.operands, Act.eval] at hk; simp [wanted, undef, hk])) | ((with_reducible apply Phi.pure); · (intro ρ wq hx hp hk; (first | (simp [KnowsAll, Knows, look, looks, Op.operands, Call.operands, Act.eval] at hk; refine ⟨?_, ?_⟩; (· (simp [wanted, undef, hk])); (· (simp [go_sem, hk, hp.1, hp.2.1, hp.2.2, hS wq hx]; rfl))) | (refine ⟨?_, ?_⟩; (· (simp [wanted])); (· (simp [go_sem, hp.1, hp.2.1, hp.2.2, hS wq hx]; rfl)))))))
 refine Phi.make (fun v W => IsD W (ownD (.mk 4 c neg mag t l)) v) (fun v W W' hx h => h.keep hx.keeps) ?_ ?_; · (intro ρ wq hx hp hk; (first | (simp [KnowsAll, Knows, look, looks, Op.operands, Call.operands, Act.eval] at hk; refine ⟨by simp [wanted, hk], OpGood.call (by simp [go_sem, hk, hp.1, hp.2.1, hp.2.2]; exact ⟨rfl, rfl⟩) ?_⟩) | (refine ⟨by simp [wanted], OpGood.call (by simp [go_sem, hp.1, hp.2.1, hp.2.2]; exact ⟨rfl, rfl⟩) ?_⟩)); exact HOWN.out _ (hx0.trans hx))
 refine Phi.make (fun v _ => v = .bool (flatB (.mk 4 c neg mag t l) (ownD (.mk 4 c neg mag t l)))) (Stab.const _) ?_ ?_; · (intro ρ wq hx hp hk; (first | (simp [KnowsAll, Knows, look, looks, Op.operands, Call.operands, Act.eval] at hk; refine ⟨by simp [wanted, hk], OpGood.call (by simp [go_sem, hk, hp.1, hp.2.1, hp.2.2]; exact ⟨rfl, rfl⟩) ?_⟩) | (refine ⟨by simp [wanted], OpGood.call (by simp [go_sem, hp.1, hp.2.1, hp.2.2]; exact ⟨rfl, rfl⟩) ?_⟩)); exact phi_const (HFL.out _ (hx0.trans hx) _ hk.2.1))
 repeat (first | ((with_reducible apply Phi.skip); · (intro ρ wq hx hp hk; simp [KnowsAll, Knows, look, looks, Op.operands, Call.operands, Act.eval] at hk; simp [wanted, undef, hk, hfl])) | ((with_reducible apply Phi.pure); · (intro ρ wq hx hp hk; (first | (simp [KnowsAll, Knows, look, looks, Op.operands, Call.operands, Act.eval] at hk; refine ⟨?_, ?_⟩; (· (simp [wanted, undef, hk, hfl])); (· (simp [go_sem, hk, hp.1, hp.2.1, hp.2.2, hS wq hx, hfl]; rfl))) | (refine ⟨?_, ?_⟩; (· (simp [wanted])); (· (simp [go_sem, hp.1, hp.2.1, hp.2.2, hS wq hx, hfl]; rfl)))))))
 refine Phi.done ?_; intro w2 hx2; simp only [Final, List.nil_append, List.cons_append, forall_eq]
 intro v14 hv14
 ((refine hQ9 _ _ ?_); (try refine wpList_nil ?_); (clear hQ9 Q9)); simp only [Act.put, List.setIfInBounds_toArray, List.set_cons_succ, List.set_cons_zero]
 obtain ⟨c0, c1, c2, c3, c4, c5, -⟩ := hS w2 hx2
 clear hS BX HOWN HFL hfl hv14
 go_wp2_with fail
 refine (nummay_any neg mag _ _ (hm.keep (hx0.trans hx2).keeps)).mono ?_
 rintro e w3 ⟨rfl, hx3⟩
 go_wp2_with fail
 go_ret
 exact ⟨rfl, hx0.trans (hx2.trans hx3)⟩
set_option maxHeartbeats 4000000 in
theorem wplain_sym (c : Int) (neg : Bool) (mag : List Int) (t : ByteArray) (l : List D) (w : World) (v : Value) (h : IsD w (.mk 6 c neg mag t l) v) (hb : Bare (.mk 6 c neg mag t l)) (hs : t.size < 9223372036854775807) (hT : Tabs w) :
  Calls Tryz.prog 53 #[v] w fun e w' => e = .returned (.bool (plainB (.mk 6 c neg mag t l))) ∧ Ext w w' := by
 rw [plain_sym hb]
 have HFL := Lib.hid (fun W (hx : Ext w W) v' (hv : IsD W (ownD (.mk 6 c neg mag t l)) v') => flat_any (.mk 6 c neg mag t l) (ownD (.mk 6 c neg mag t l)) W v v' (h.keep hx.keeps) hv)
 have HOWN := Lib.hid (fun W (hx : Ext w W) => own_any 6 c neg mag t l W v (h.keep hx.keeps) (by omega) (by omega))
 obtain ⟨am, cm, al, cl, rfl, hm, hl, -, -, -, -⟩ := h.open'
 have hx0 := (Ext.refl w).alloc (.cells #[.int .i64 6, .int .i32 c, .bool neg, .slice am mag.length cm, .string t, .slice al l.length cl] 28)
 have BX := Lib.hid (box_cells w (.int .i64 6) (.int .i32 c) (.bool neg) (.slice am mag.length cm) (.string t) (.slice al l.length cl) 28)
 have hfl : flatB (.mk 6 c neg mag t l) (ownD (.mk 6 c neg mag t l)) = true := flatB_pos ((flat_own _).2 hb)
 clear h hb
 go_enter Tryz.func53, Tryz.ntmps53
 go_wp2_with fail
 obtain ⟨c0, c1, c2, c3, c4, c5⟩ := BX.out
 have hS : ∀ W9, Ext _ W9 → W9.cell? _ = _ ∧ W9.cell? _ = _ ∧ W9.cell? _ = _ ∧ W9.cell? _ = _ ∧ W9.cell? _ = _ ∧ W9.cell? _ = _ ∧ True := fun W9 h => ⟨h.keeps _ _ c0, h.keeps _ _ c1, h.keeps _ _ c2, h.keeps _ _ c3, h.keeps _ _ c4, h.keeps _ _ c5, trivial⟩
 refine wp_region_each 15 _ _ _ rfl rfl rfl (by kernel_rfl) (by kernel_rfl) (by kernel_rfl) (fun Q9 hQ9 => ?_); simp only [List.take_succ_cons, List.take_zero, List.drop_succ_cons, List.drop_zero, List.map_cons, List.map_nil] at hQ9 ⊢
 repeat (first | ((with_reducible apply Phi.skip); · (intro ρ wq hx hp hk; simp [KnowsAll, Knows, look, looks, Op.operands, Call.operands, Act.eval] at hk; simp [wanted, undef, hk])) | ((with_reducible apply Phi.pure); · (intro ρ wq hx hp hk; (first | (simp [KnowsAll, Knows, look, looks, Op.operands, Call.operands, Act.eval] at hk; refine ⟨?_, ?_⟩; (· (simp [wanted, undef, hk])); (· (simp [go_sem, hk, hp.1, hp.2.1, hp.2.2, hS wq hx]; rfl))) | (refine ⟨?_, ?_⟩; (· (simp [wanted])); (· (simp [go_sem, hp.1, hp.2.1, hp.2.2, hS wq hx]; rfl)))))))
 refine Phi.make (fun v W => IsD W (ownD (.mk 6 c neg mag t l)) v) (fun v W W' hx h => h.keep hx.keeps) ?_ ?_; · (intro ρ wq hx hp hk; (first | (simp [KnowsAll, Knows, look, looks, Op.operands, Call.operands, Act.eval] at hk; refine ⟨by simp [wanted, hk], OpGood.call (by simp [go_sem, hk, hp.1, hp.2.1, hp.2.2]; exact ⟨rfl, rfl⟩) ?_⟩) | (refine ⟨by simp [wanted], OpGood.call (by simp [go_sem, hp.1, hp.2.1, hp.2.2]; exact ⟨rfl, rfl⟩) ?_⟩)); exact HOWN.out _ (hx0.trans hx))
 refine Phi.make (fun v _ => v = .bool (flatB (.mk 6 c neg mag t l) (ownD (.mk 6 c neg mag t l)))) (Stab.const _) ?_ ?_; · (intro ρ wq hx hp hk; (first | (simp [KnowsAll, Knows, look, looks, Op.operands, Call.operands, Act.eval] at hk; refine ⟨by simp [wanted, hk], OpGood.call (by simp [go_sem, hk, hp.1, hp.2.1, hp.2.2]; exact ⟨rfl, rfl⟩) ?_⟩) | (refine ⟨by simp [wanted], OpGood.call (by simp [go_sem, hp.1, hp.2.1, hp.2.2]; exact ⟨rfl, rfl⟩) ?_⟩)); exact phi_const (HFL.out _ (hx0.trans hx) _ hk.2.1))
 repeat (first | ((with_reducible apply Phi.skip); · (intro ρ wq hx hp hk; simp [KnowsAll, Knows, look, looks, Op.operands, Call.operands, Act.eval] at hk; simp [wanted, undef, hk, hfl])) | ((with_reducible apply Phi.pure); · (intro ρ wq hx hp hk; (first | (simp [KnowsAll, Knows, look, looks, Op.operands, Call.operands, Act.eval] at hk; refine ⟨?_, ?_⟩; (· (simp [wanted, undef, hk, hfl])); (· (simp [go_sem, hk, hp.1, hp.2.1, hp.2.2, hS wq hx, hfl]; rfl))) | (refine ⟨?_, ?_⟩; (· (simp [wanted])); (· (simp [go_sem, hp.1, hp.2.1, hp.2.2, hS wq hx, hfl]; rfl)))))))
 refine Phi.done ?_; intro w2 hx2; simp only [Final, List.nil_append, List.cons_append, forall_eq]
 intro v14 hv14
 ((refine hQ9 _ _ ?_); (try refine wpList_nil ?_); (clear hQ9 Q9)); simp only [Act.put, List.setIfInBounds_toArray, List.set_cons_succ, List.set_cons_zero]
 obtain ⟨c0, c1, c2, c3, c4, c5, -⟩ := hS w2 hx2
 clear hS BX HOWN HFL hfl hv14
 go_wp2_with fail
 refine (text_any t 1 _ hs (hT.ext (hx0.trans hx2))).mono ?_
 rintro e w3 ⟨rfl, hx3⟩
 go_wp2_with fail
 go_ret
 exact ⟨rfl, hx0.trans (hx2.trans hx3)⟩
set_option maxHeartbeats 4000000 in
theorem wplain_str (c : Int) (neg : Bool) (mag : List Int) (t : ByteArray) (l : List D) (w : World) (v : Value) (h : IsD w (.mk 5 c neg mag t l) v) (hb : Bare (.mk 5 c neg mag t l)) (hs : t.size < 9223372036854775807) (hT : Tabs w) :
  Calls Tryz.prog 53 #[v] w fun e w' => e = .returned (.bool (plainB (.mk 5 c neg mag t l))) ∧ Ext w w' := by
 rw [plain_str hb]
 have HFL := Lib.hid (fun W (hx : Ext w W) v' (hv : IsD W (ownD (.mk 5 c neg mag t l)) v') => flat_any (.mk 5 c neg mag t l) (ownD (.mk 5 c neg mag t l)) W v v' (h.keep hx.keeps) hv)
 have HOWN := Lib.hid (fun W (hx : Ext w W) => own_any 5 c neg mag t l W v (h.keep hx.keeps) (by omega) (by omega))
 obtain ⟨am, cm, al, cl, rfl, hm, hl, -, -, -, -⟩ := h.open'
 have hx0 := (Ext.refl w).alloc (.cells #[.int .i64 5, .int .i32 c, .bool neg, .slice am mag.length cm, .string t, .slice al l.length cl] 28)
 have BX := Lib.hid (box_cells w (.int .i64 5) (.int .i32 c) (.bool neg) (.slice am mag.length cm) (.string t) (.slice al l.length cl) 28)
 have hfl : flatB (.mk 5 c neg mag t l) (ownD (.mk 5 c neg mag t l)) = true := flatB_pos ((flat_own _).2 hb)
 clear h hb
 go_enter Tryz.func53, Tryz.ntmps53
 go_wp2_with fail
 obtain ⟨c0, c1, c2, c3, c4, c5⟩ := BX.out
 have hS : ∀ W9, Ext _ W9 → W9.cell? _ = _ ∧ W9.cell? _ = _ ∧ W9.cell? _ = _ ∧ W9.cell? _ = _ ∧ W9.cell? _ = _ ∧ W9.cell? _ = _ ∧ True := fun W9 h => ⟨h.keeps _ _ c0, h.keeps _ _ c1, h.keeps _ _ c2, h.keeps _ _ c3, h.keeps _ _ c4, h.keeps _ _ c5, trivial⟩
 refine wp_region_each 15 _ _ _ rfl rfl rfl (by kernel_rfl) (by kernel_rfl) (by kernel_rfl) (fun Q9 hQ9 => ?_); simp only [List.take_succ_cons, List.take_zero, List.drop_succ_cons, List.drop_zero, List.map_cons, List.map_nil] at hQ9 ⊢
 repeat (first | ((with_reducible apply Phi.skip); · (intro ρ wq hx hp hk; simp [KnowsAll, Knows, look, looks, Op.operands, Call.operands, Act.eval] at hk; simp [wanted, undef, hk])) | ((with_reducible apply Phi.pure); · (intro ρ wq hx hp hk; (first | (simp [KnowsAll, Knows, look, looks, Op.operands, Call.operands, Act.eval] at hk; refine ⟨?_, ?_⟩; (· (simp [wanted, undef, hk])); (· (simp [go_sem, hk, hp.1, hp.2.1, hp.2.2, hS wq hx]; rfl))) | (refine ⟨?_, ?_⟩; (· (simp [wanted])); (· (simp [go_sem, hp.1, hp.2.1, hp.2.2, hS wq hx]; rfl)))))))
 refine Phi.make (fun v W => IsD W (ownD (.mk 5 c neg mag t l)) v) (fun v W W' hx h => h.keep hx.keeps) ?_ ?_; · (intro ρ wq hx hp hk; (first | (simp [KnowsAll, Knows, look, looks, Op.operands, Call.operands, Act.eval] at hk; refine ⟨by simp [wanted, hk], OpGood.call (by simp [go_sem, hk, hp.1, hp.2.1, hp.2.2]; exact ⟨rfl, rfl⟩) ?_⟩) | (refine ⟨by simp [wanted], OpGood.call (by simp [go_sem, hp.1, hp.2.1, hp.2.2]; exact ⟨rfl, rfl⟩) ?_⟩)); exact HOWN.out _ (hx0.trans hx))
 refine Phi.make (fun v _ => v = .bool (flatB (.mk 5 c neg mag t l) (ownD (.mk 5 c neg mag t l)))) (Stab.const _) ?_ ?_; · (intro ρ wq hx hp hk; (first | (simp [KnowsAll, Knows, look, looks, Op.operands, Call.operands, Act.eval] at hk; refine ⟨by simp [wanted, hk], OpGood.call (by simp [go_sem, hk, hp.1, hp.2.1, hp.2.2]; exact ⟨rfl, rfl⟩) ?_⟩) | (refine ⟨by simp [wanted], OpGood.call (by simp [go_sem, hp.1, hp.2.1, hp.2.2]; exact ⟨rfl, rfl⟩) ?_⟩)); exact phi_const (HFL.out _ (hx0.trans hx) _ hk.2.1))
 repeat (first | ((with_reducible apply Phi.skip); · (intro ρ wq hx hp hk; simp [KnowsAll, Knows, look, looks, Op.operands, Call.operands, Act.eval] at hk; simp [wanted, undef, hk, hfl])) | ((with_reducible apply Phi.pure); · (intro ρ wq hx hp hk; (first | (simp [KnowsAll, Knows, look, looks, Op.operands, Call.operands, Act.eval] at hk; refine ⟨?_, ?_⟩; (· (simp [wanted, undef, hk, hfl])); (· (simp [go_sem, hk, hp.1, hp.2.1, hp.2.2, hS wq hx, hfl]; rfl))) | (refine ⟨?_, ?_⟩; (· (simp [wanted])); (· (simp [go_sem, hp.1, hp.2.1, hp.2.2, hS wq hx, hfl]; rfl)))))))
 refine Phi.done ?_; intro w2 hx2; simp only [Final, List.nil_append, List.cons_append, forall_eq]
 intro v14 hv14
 ((refine hQ9 _ _ ?_); (try refine wpList_nil ?_); (clear hQ9 Q9)); simp only [Act.put, List.setIfInBounds_toArray, List.set_cons_succ, List.set_cons_zero]
 obtain ⟨c0, c1, c2, c3, c4, c5, -⟩ := hS w2 hx2
 clear hS BX HOWN HFL hfl hv14
 go_wp2_with fail
 refine (text_any t 0 _ hs (hT.ext (hx0.trans hx2))).mono ?_
 rintro e w3 ⟨rfl, hx3⟩
 go_wp2_with fail
 go_ret
 exact ⟨rfl, hx0.trans (hx2.trans hx3)⟩
end Go.Proofs.YtaeioidifpebdaaGreatDoor
