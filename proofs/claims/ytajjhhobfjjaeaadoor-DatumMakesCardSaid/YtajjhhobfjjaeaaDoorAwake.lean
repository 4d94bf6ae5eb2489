import Derived.Test.YtajjhhobfjjaeaaDoorItems
import Derived.Test.YtajjhhobfjjaeaaDoorMay
import Derived.Test.YtajjhhobfjjaeaaDoorSame2
import Derived.Test.YtajjhhobfjjaeaaDoorCount
namespace Go.Proofs.YtajjhhobfjjaeaaDoor
open Go.RowKit
set_option linter.unusedSimpArgs false
set_option linter.unusedVariables false

/-- The list of 7 and 8. -/
def dL2 : D := dList [dInt 7, dInt 8]
theorem dL2_cons : dCons (dInt 7) (dList [dInt 8]) = dL2 := rfl
theorem dInt7 : dInt 7 = .mk 4 0 false [7] ⟨#[]⟩ [] := rfl
theorem dInt8 : dInt 8 = .mk 4 0 false [8] ⟨#[]⟩ [] := rfl
theorem dInt7_ok : (dInt 7).Ok := by rw [dInt7]; simp [D.Ok, Oks, ByteArray.size]
theorem dInt8_ok : (dInt 8).Ok := by rw [dInt8]; simp [D.Ok, Oks, ByteArray.size]
theorem dNil_ok : dNil.Ok := by simp [dNil, D.Ok, Oks, ByteArray.size]
theorem dCons_ok {a b : D} (ha : a.Ok) (hb : b.Ok) : (dCons a b).Ok := by simp [dCons, D.Ok, Oks, ByteArray.size, ha, hb]
theorem dL1_ok : (dList [dInt 8]).Ok := dCons_ok dInt8_ok dNil_ok
theorem dL2_ok : dL2.Ok := dCons_ok dInt7_ok dL1_ok
theorem depth_leaf {k c : Int} {neg : Bool} {mag : List Int} {t : ByteArray} (h : k ≠ 8) : (D.mk k c neg mag t []).depth = 0 := by
  rw [D.depth_eq]; simp [dto, maxTo, D.k, D.l, h]
theorem depth_cons (a b : D) : (dCons a b).depth = max (a.depth + 1) (b.depth + if b.k = 7 then 0 else 1) := by
  rw [D.depth_eq]
  show max (if (7 : Int) = 8 then 1 else 0) (dto (dCons a b) 2 _) = _
  simp [dto, maxTo, dterm, dCons, D.k, D.l] <;> rfl
theorem dL2_depth : dL2.depth = 1 := by
  rw [← dL2_cons, depth_cons, show dList [dInt 8] = dCons (dInt 8) dNil from rfl, depth_cons, dInt7, dInt8, dNil, depth_leaf (by decide), depth_leaf (by decide), depth_leaf (by decide)]; rfl
theorem dL2_count : dL2.count = 5 := by rfl
theorem dL2_items : items dL2 = [dInt 7, dInt 8] := by rfl
theorem dL2_end : endK dL2 = 0 := by rfl
theorem plain_dInt7 : (dInt 7).Plain := by rw [← plainB_iff, dInt7, plain_int (by simp [Bare, D.k, D.c, D.t, D.l])]; rfl
theorem plain_dInt8 : (dInt 8).Plain := by rw [← plainB_iff, dInt8, plain_int (by simp [Bare, D.k, D.c, D.t, D.l])]; rfl
theorem plain_dNil : dNil.Plain := by rw [← plainB_iff]; exact plain_none 0 (by simp) (by simp [Bare, D.k, D.c, D.t, D.l, D.neg, D.mag])
theorem plain_dCons {a b : D} (ha : a.Plain) (hb : b.Plain) : (dCons a b).Plain := by
  rw [← plainB_iff]; unfold dCons
  rw [plain_pair (by simp [Bare, D.k, D.c, D.t, D.l, D.neg, D.mag]), plainsB_iff.2 (by simp [Plains, ha, hb])]; rfl
theorem dL2_may : mayB dL2 = true := by
  unfold mayB
  rw [dL2_depth, ← dL2_cons, show dList [dInt 8] = dCons (dInt 8) dNil from rfl, plainB_iff.2 (plain_dCons plain_dInt7 (plain_dCons plain_dInt8 plain_dNil))]; rfl
theorem dSym_ok {s : ByteArray} (h : s.size ≤ 140737488351232) : (dSym s).Ok := by simp [dSym, D.Ok, Oks, h]
theorem dSym0_may : mayB (dSym ⟨#[]⟩) = false := by
  unfold mayB dSym
  rw [plain_sym (by simp [Bare, D.k, D.c, D.t, D.l, D.neg, D.mag])]
  have : txtOk ⟨#[]⟩ 1 = false := by
    have h0 : Lib.runeCount ⟨#[]⟩ = 0 := by unfold Lib.runeCount; exact Lib.runeCountFrom_end _ _ _ (by simp [ByteArray.size])
    unfold txtOk; rw [h0]; simp
  rw [this]; rfl

theorem since_zero (w : World) : Keeps w (since w 0) := fun p v hp => by rw [since_cell (Nat.zero_le _)]; exact hp
theorem IsDs.new1 {wq : World} {B : Nat} {d1 : D} {a0 a1 a2 a3 a4 a5 : Value} {e : TypeId} (h1 : IsD (since wq B) d1 (.agg #[a0, a1, a2, a3, a4, a5])) (hB : B ≤ wq.heap.size) :
    IsDs (since (wq.alloc (.cells #[a0, a1, a2, a3, a4, a5] e)) B) [d1] (.slice (some ⟨wq.heap.size, 0, none⟩) 1 1) := by
  have r1 := IsD.rd (cs := [a0, a1, a2, a3, a4, a5]) h1
  exact Rd.block (es := [d1.v]) (cells_new_since wq [a0, a1, a2, a3, a4, a5] e hB) (RdAll.one (r1.keep (since_alloc _ _ _))) (by simp [maxLen])

set_option maxRecDepth 100000 in
set_option maxHeartbeats 8000000 in
theorem awake_any (w : World) (hT : Tabs w) :
    Calls Tryd.prog 10 #[] w fun e w' => e = .returned (.bool true) ∧ Ext w w' := by
  have HI := Lib.hid (fun (x : Int) (hl : -9223372036854775808 ≤ x) (hh : x ≤ 9223372036854775807) W => int_any x W hl hh)
  have HT := Lib.hid hT; clear hT
  go_enter Tryd.func10, Tryd.ntmps10
  go_wp2_with fail
  refine (HI.out 7 (by decide) (by decide) _).mono ?_
  rintro e w1 ⟨v7, rfl, hx1, h7⟩
  go_wp2_with fail
  refine (HI.out 8 (by decide) (by decide) _).mono ?_
  rintro e w2 ⟨v8, rfl, hx2, h8⟩
  obtain ⟨am1, cm1, al1, cl1, rfl, -, -, -, -, -, -⟩ := h7.open
  obtain ⟨am2, cm2, al2, cl2, rfl, -, -, -, -, -, -⟩ := h8.open
  have H78 := Lib.hid (fun e : TypeId => IsDs.new2 (e := e) (h7.keep (since_ext _ hx2)) (h8.keep (since_mono _ hx1.le)) (Nat.le_trans hx1.le hx2.le))
  clear h7 h8
  go_wp2_with fail
  refine (list_any [dInt 7, dInt 8] _ _ ⟨dInt7_ok, dInt8_ok, trivial⟩ (by simp) ((H78.out _).keep (since_keeps _ _))).mono ?_
  rintro e w3 ⟨vL, rfl, hx3, hL⟩
  obtain ⟨am3, cm3, al3, cl3, rfl, -, -, -, -, -, -⟩ := hL.open
  have HL := Lib.hid (show IsD (since w3 w.heap.size) dL2 _ from hL.keep (since_mono _ (by have h1 := hx1.le; have h2 := hx2.le; simp; omega)))
  have hx4 : Ext w w3 := ((hx1.trans hx2).alloc _).trans hx3
  clear H78 hL
  go_wp2_with fail
  have hx5 : Ext w (w3.alloc (.cells #[.int .i64 dL2.k, .int .i32 dL2.c, .bool dL2.neg, .slice am3 dL2.mag.length cm3, .string dL2.t, .slice al3 dL2.l.length cl3] 27)) := hx4.alloc _
  refine (items_any dL2 _ _ dL2_ok (by rw [dL2_items]; decide) (HL.out.keep ((since_keeps _ _).trans ((Ext.refl _).alloc _).keeps))).mono ?_
  rw [dL2_end, dL2_items]
  rintro e w4 ⟨vI, rfl, hx6, hI⟩
  obtain ⟨aI, cI, rfl, -, -⟩ := hI.form
  have b1 := (hx6.block w3.heap.size (by simp)).trans (heap_new _ _)
  have hx7 := hx5.trans hx6
  have HB := Lib.hid (And.intro b1 hx7); clear b1 hx7
  have HL4 := Lib.hid (show IsD w4 dL2 _ from HL.out.keep ((since_keeps _ _).trans (((Ext.refl _).alloc _).trans hx6).keeps))
  clear HL hI
  go_wp2_with fail
  obtain ⟨b1, hx7⟩ := HB.out
  have c0 := cell_of b1 0; have c1 := cell_of b1 1; have c2 := cell_of b1 2; have c3 := cell_of b1 3; have c4 := cell_of b1 4; have c5 := cell_of b1 5
  simp only [List.getElem?_toArray, List.getElem?_cons_zero, List.getElem?_cons_succ] at c0 c1 c2 c3 c4 c5
  have HMAY := Lib.hid (fun W (hx : Ext w4 W) => may_any dL2 W _ dL2_ok (by rw [dL2_count]; decide) (HT.out.ext (hx7.trans hx)) (HL4.out.keep hx.keeps))
  have HDEP := Lib.hid (fun W (hx : Ext w4 W) => depth_any dL2 W _ (by rw [dL2_count]; decide) (HL4.out.keep hx.keeps))
  have HCNT := Lib.hid (fun W (hx : Ext w4 W) => count_any dL2 W _ (by rw [dL2_count]; decide) (HL4.out.keep hx.keeps))
  have HSAM := Lib.hid (fun W (hx : Ext w4 W) u (hu : IsD W dL2 u) => same_any dL2 dL2 W _ _ (HL4.out.keep hx.keeps) hu)
  have HSYM := Lib.hid (fun W (hx : Ext w4 W) u (hu : IsD W (dSym ⟨#[]⟩) u) => may_any (dSym ⟨#[]⟩) W _ (dSym_ok (by simp [ByteArray.size])) (by rw [show (dSym ⟨#[]⟩).count = 1 from rfl]; decide) (HT.out.ext (hx7.trans hx)) hu)
  rw [dSym0_may] at HSYM
  rw [dL2_may] at HMAY
  rw [dL2_depth] at HDEP
  rw [dL2_count] at HCNT
  rw [eqB_pos rfl] at HSAM
  have hS : ∀ W9, Ext _ W9 → W9.cell? _ = _ ∧ W9.cell? _ = _ ∧ W9.cell? _ = _ ∧ W9.cell? _ = _ ∧ W9.cell? _ = _ ∧ W9.cell? _ = _ ∧ True := fun W9 h => ⟨h.keeps _ _ c0, h.keeps _ _ c1, h.keeps _ _ c2, h.keeps _ _ c3, h.keeps _ _ c4, h.keeps _ _ c5, trivial⟩
  clear c0 c1 c2 c3 c4 c5 b1
  refine wp_region_each 34 _ _ _ rfl rfl rfl (by kernel_rfl) (by kernel_rfl) (by kernel_rfl) (fun Q9 hQ9 => ?_); simp only [List.take_succ_cons, List.take_zero, List.drop_succ_cons, List.drop_zero, List.map_cons, List.map_nil] at hQ9 ⊢
  repeat (first | ((with_reducible apply Phi.skip); · (intro ρ wq hx hp hk; simp [KnowsAll, Knows, look, looks, Op.operands, Call.operands, Act.eval] at hk; simp [wanted, undef, hk])) | ((with_reducible apply Phi.pure); · (intro ρ wq hx hp hk; (first | (simp [KnowsAll, Knows, look, looks, Op.operands, Call.operands, Act.eval] at hk; refine ⟨?_, ?_⟩; (· (simp [wanted, undef, hk])); (· (simp [go_sem, hk, hp.1, hp.2.1, hp.2.2, hS wq hx]; rfl))) | (refine ⟨?_, ?_⟩; (· (simp [wanted])); (· (simp [go_sem, hp.1, hp.2.1, hp.2.2, hS wq hx]; rfl)))))))
  refine Phi.make (fun v _ => v = .bool true) (Stab.const _) ?_ ?_; · (intro ρ wq hx hp hk; (first | (simp [KnowsAll, Knows, look, looks, Op.operands, Call.operands, Act.eval] at hk; refine ⟨by simp [wanted, hk], OpGood.call (by simp [go_sem, hk, hp.1, hp.2.1, hp.2.2]; exact ⟨rfl, rfl⟩) ?_⟩) | (refine ⟨by simp [wanted], OpGood.call (by simp [go_sem, hp.1, hp.2.1, hp.2.2]; exact ⟨rfl, rfl⟩) ?_⟩)); exact phi_const (HMAY.out _ hx))
  repeat (first | ((with_reducible apply Phi.skip); · (intro ρ wq hx hp hk; simp [KnowsAll, Knows, look, looks, Op.operands, Call.operands, Act.eval] at hk; simp [wanted, undef, hk])) | ((with_reducible apply Phi.pure); · (intro ρ wq hx hp hk; (first | (simp [KnowsAll, Knows, look, looks, Op.operands, Call.operands, Act.eval] at hk; refine ⟨?_, ?_⟩; (· (simp [wanted, undef, hk])); (· (simp [go_sem, hk, hp.1, hp.2.1, hp.2.2, hS wq hx]; rfl))) | (refine ⟨?_, ?_⟩; (· (simp [wanted])); (· (simp [go_sem, hp.1, hp.2.1, hp.2.2, hS wq hx]; rfl)))))))
  refine Phi.make (fun v _ => v = .int .i64 1) (Stab.const _) ?_ ?_; · (intro ρ wq hx hp hk; (first | (simp [KnowsAll, Knows, look, looks, Op.operands, Call.operands, Act.eval] at hk; refine ⟨by simp [wanted, hk], OpGood.call (by simp [go_sem, hk, hp.1, hp.2.1, hp.2.2]; exact ⟨rfl, rfl⟩) ?_⟩) | (refine ⟨by simp [wanted], OpGood.call (by simp [go_sem, hp.1, hp.2.1, hp.2.2]; exact ⟨rfl, rfl⟩) ?_⟩)); exact phi_const (HDEP.out _ hx))
  repeat (first | ((with_reducible apply Phi.skip); · (intro ρ wq hx hp hk; simp [KnowsAll, Knows, look, looks, Op.operands, Call.operands, Act.eval] at hk; simp [wanted, undef, hk])) | ((with_reducible apply Phi.pure); · (intro ρ wq hx hp hk; (first | (simp [KnowsAll, Knows, look, looks, Op.operands, Call.operands, Act.eval] at hk; refine ⟨?_, ?_⟩; (· (simp [wanted, undef, hk])); (· (simp [go_sem, hk, hp.1, hp.2.1, hp.2.2, hS wq hx]; rfl))) | (refine ⟨?_, ?_⟩; (· (simp [wanted])); (· (simp [go_sem, hp.1, hp.2.1, hp.2.2, hS wq hx]; rfl)))))))
  refine Phi.make (fun v _ => v = .int .i64 5) (Stab.const _) ?_ ?_; · (intro ρ wq hx hp hk; (first | (simp [KnowsAll, Knows, look, looks, Op.operands, Call.operands, Act.eval] at hk; refine ⟨by simp [wanted, hk], OpGood.call (by simp [go_sem, hk, hp.1, hp.2.1, hp.2.2]; exact ⟨rfl, rfl⟩) ?_⟩) | (refine ⟨by simp [wanted], OpGood.call (by simp [go_sem, hp.1, hp.2.1, hp.2.2]; exact ⟨rfl, rfl⟩) ?_⟩)); exact phi_const (HCNT.out _ hx))
  repeat (first | ((with_reducible apply Phi.skip); · (intro ρ wq hx hp hk; simp [KnowsAll, Knows, look, looks, Op.operands, Call.operands, Act.eval] at hk; simp [wanted, undef, hk])) | ((with_reducible apply Phi.pure); · (intro ρ wq hx hp hk; (first | (simp [KnowsAll, Knows, look, looks, Op.operands, Call.operands, Act.eval] at hk; refine ⟨?_, ?_⟩; (· (simp [wanted, undef, hk])); (· (simp [go_sem, hk, hp.1, hp.2.1, hp.2.2, hS wq hx]; rfl))) | (refine ⟨?_, ?_⟩; (· (simp [wanted])); (· (simp [go_sem, hp.1, hp.2.1, hp.2.2, hS wq hx]; rfl)))))))
  refine Phi.make (fun v W => IsD W (dInt 7) v) (fun v W W' hx h => h.keep hx.keeps) ?_ ?_; · (intro ρ wq hx hp hk; (first | (simp [KnowsAll, Knows, look, looks, Op.operands, Call.operands, Act.eval] at hk; refine ⟨by simp [wanted, hk], OpGood.call (by simp [go_sem, hk, hp.1, hp.2.1, hp.2.2]; exact ⟨rfl, rfl⟩) ?_⟩) | (refine ⟨by simp [wanted], OpGood.call (by simp [go_sem, hp.1, hp.2.1, hp.2.2]; exact ⟨rfl, rfl⟩) ?_⟩)); exact (HI.out 7 (by decide) (by decide) _).mono (fun e w'' ⟨v, he, hx', hv⟩ => ⟨v, he, hx', hv.keep (since_keeps _ _)⟩))
  refine Phi.make (fun v W => IsD W (dInt 8) v) (fun v W W' hx h => h.keep hx.keeps) ?_ ?_; · (intro ρ wq hx hp hk; (first | (simp [KnowsAll, Knows, look, looks, Op.operands, Call.operands, Act.eval] at hk; refine ⟨by simp [wanted, hk], OpGood.call (by simp [go_sem, hk, hp.1, hp.2.1, hp.2.2]; exact ⟨rfl, rfl⟩) ?_⟩) | (refine ⟨by simp [wanted], OpGood.call (by simp [go_sem, hp.1, hp.2.1, hp.2.2]; exact ⟨rfl, rfl⟩) ?_⟩)); exact (HI.out 8 (by decide) (by decide) _).mono (fun e w'' ⟨v, he, hx', hv⟩ => ⟨v, he, hx', hv.keep (since_keeps _ _)⟩))
  refine Phi.make (fun v W' => ∃ g, v = .slice (some ⟨g, 0, none⟩) 1 1 ∧ IsDs W' [dInt 8] v) (fun v W1 W2 hx ⟨g, e, h⟩ => ⟨g, e, h.keep hx.keeps⟩) ?_ ?_
  · intro ρ wq hxq hp hk
    simp [KnowsAll, Knows, look, looks, Op.operands, Call.operands, Act.eval] at hk
    obtain ⟨k1, k2⟩ := hk
    obtain ⟨am6, cm6, al6, cl6, e12, -, -, -, -, -, -⟩ := k1.open
    rw [e12] at k1
    refine ⟨by simp [wanted, k2], ?_⟩
    unfold OpGood
    simp [go_sem, e12]
    exact ⟨(Ext.refl _).alloc _, (IsDs.new1 (k1.keep (since_zero _)) (Nat.zero_le _)).keep (since_keeps _ _)⟩
  refine Phi.make (fun v W => IsD W (dList [dInt 8]) v) (fun v W W' hx h => h.keep hx.keeps) ?_ ?_; · (intro ρ wq hx hp hk; (first | (simp [KnowsAll, Knows, look, looks, Op.operands, Call.operands, Act.eval] at hk; refine ⟨by simp [wanted, hk], OpGood.call (by simp [go_sem, hk, hp.1, hp.2.1, hp.2.2]; exact ⟨rfl, rfl⟩) ?_⟩) | (refine ⟨by simp [wanted], OpGood.call (by simp [go_sem, hp.1, hp.2.1, hp.2.2]; exact ⟨rfl, rfl⟩) ?_⟩)); exact (list_any [dInt 8] _ _ ⟨dInt8_ok, trivial⟩ (by simp) hk.1.2).mono (fun e w'' ⟨v, he, hx', hv⟩ => ⟨v, he, hx', hv.keep (since_keeps _ _)⟩))
  refine Phi.make (fun v W => IsD W dL2 v) (fun v W W' hx h => h.keep hx.keeps) ?_ ?_; · (intro ρ wq hx hp hk; (first | (simp [KnowsAll, Knows, look, looks, Op.operands, Call.operands, Act.eval] at hk; refine ⟨by simp [wanted, hk], OpGood.call (by simp [go_sem, hk, hp.1, hp.2.1, hp.2.2]; exact ⟨rfl, rfl⟩) ?_⟩) | (refine ⟨by simp [wanted], OpGood.call (by simp [go_sem, hp.1, hp.2.1, hp.2.2]; exact ⟨rfl, rfl⟩) ?_⟩)); exact (cons_any (dInt 7) (dList [dInt 8]) _ _ _ dInt7_ok dL1_ok hk.1 hk.2.1).mono (fun e w'' ⟨v, he, hx', hv⟩ => ⟨v, he, hx', hv.keep (since_keeps _ _)⟩))
  refine Phi.make (fun v _ => v = .bool true) (Stab.const _) ?_ ?_; · (intro ρ wq hx hp hk; (first | (simp [KnowsAll, Knows, look, looks, Op.operands, Call.operands, Act.eval] at hk; refine ⟨by simp [wanted, hk], OpGood.call (by simp [go_sem, hk, hp.1, hp.2.1, hp.2.2]; exact ⟨rfl, rfl⟩) ?_⟩) | (refine ⟨by simp [wanted], OpGood.call (by simp [go_sem, hp.1, hp.2.1, hp.2.2]; exact ⟨rfl, rfl⟩) ?_⟩)); exact phi_const (HSAM.out _ hx _ hk.2.1))
  repeat (first | ((with_reducible apply Phi.skip); · (intro ρ wq hx hp hk; simp [KnowsAll, Knows, look, looks, Op.operands, Call.operands, Act.eval] at hk; simp [wanted, undef, hk])) | ((with_reducible apply Phi.pure); · (intro ρ wq hx hp hk; (first | (simp [KnowsAll, Knows, look, looks, Op.operands, Call.operands, Act.eval] at hk; refine ⟨?_, ?_⟩; (· (simp [wanted, undef, hk])); (· (simp [go_sem, hk, hp.1, hp.2.1, hp.2.2, hS wq hx]; rfl))) | (refine ⟨?_, ?_⟩; (· (simp [wanted])); (· (simp [go_sem, hp.1, hp.2.1, hp.2.2, hS wq hx]; rfl)))))))
  refine Phi.make (fun v W => IsD W (dSym ⟨#[]⟩) v) (fun v W W' hx h => h.keep hx.keeps) ?_ ?_; · (intro ρ wq hx hp hk; (first | (simp [KnowsAll, Knows, look, looks, Op.operands, Call.operands, Act.eval] at hk; refine ⟨by simp [wanted, hk], OpGood.call (by simp [go_sem, hk, hp.1, hp.2.1, hp.2.2]; exact ⟨rfl, rfl⟩) ?_⟩) | (refine ⟨by simp [wanted], OpGood.call (by simp [go_sem, hp.1, hp.2.1, hp.2.2]; exact ⟨rfl, rfl⟩) ?_⟩)); exact (sym_any ⟨#[]⟩ _).mono (fun e w'' ⟨v, he, hx', hv⟩ => ⟨v, he, hx', hv.keep (since_keeps _ _)⟩))
  refine Phi.make (fun v _ => v = .bool false) (Stab.const _) ?_ ?_; · (intro ρ wq hx hp hk; (first | (simp [KnowsAll, Knows, look, looks, Op.operands, Call.operands, Act.eval] at hk; refine ⟨by simp [wanted, hk], OpGood.call (by simp [go_sem, hk, hp.1, hp.2.1, hp.2.2]; exact ⟨rfl, rfl⟩) ?_⟩) | (refine ⟨by simp [wanted], OpGood.call (by simp [go_sem, hp.1, hp.2.1, hp.2.2]; exact ⟨rfl, rfl⟩) ?_⟩)); exact phi_const (HSYM.out _ hx _ hk.1))
  repeat (first | ((with_reducible apply Phi.skip); · (intro ρ wq hx hp hk; simp [KnowsAll, Knows, look, looks, Op.operands, Call.operands, Act.eval] at hk; simp [wanted, undef, hk])) | ((with_reducible apply Phi.pure); · (intro ρ wq hx hp hk; (first | (simp [KnowsAll, Knows, look, looks, Op.operands, Call.operands, Act.eval] at hk; refine ⟨?_, ?_⟩; (· (simp [wanted, undef, hk])); (· (simp [go_sem, hk, hp.1, hp.2.1, hp.2.2, hS wq hx]; rfl))) | (refine ⟨?_, ?_⟩; (· (simp [wanted])); (· (simp [go_sem, hp.1, hp.2.1, hp.2.2, hS wq hx]; rfl)))))))
  refine Phi.done ?_; intro w2 hx2; simp only [Final, List.nil_append, List.cons_append, forall_eq]
  intro v1 h1 v2 h2 v3 h3 v4 h4 v5 h5 v6 h6
  ((refine hQ9 _ _ ?_); (try refine wpList_nil ?_); (clear hQ9 Q9)); simp only [Act.put, List.setIfInBounds_toArray, List.set_cons_succ, List.set_cons_zero]
  clear h1 h2 h3 h4 h5 h6 HSYM HMAY HDEP HCNT HSAM hS
  go_wp2_with fail
  go_ret
  exact ⟨rfl, hx7.trans hx2⟩
end Go.Proofs.YtajjhhobfjjaeaaDoor
