import Derived.Test.YtajjhhobfjjaeaaDoorNum
namespace Go.Proofs.YtajjhhobfjjaeaaDoor
open Go.RowKit
set_option linter.unusedSimpArgs false
set_option linter.unusedVariables false

theorem IsMag.len_le {w : World} {l : List Int} {a : Option Addr} {n c : Nat} (h : IsMag w l (.slice a n c)) : n = l.length := by
  obtain ⟨_, _, e, _, _⟩ := h.form
  injection e

set_option maxHeartbeats 1000000 in
theorem made_any (neg : Bool) (l : List Int) (w : World) (v : Value) (h : IsMag w l v) (hl : (trimL l).length ≤ 48) :
    Calls Tryd.prog 54 #[.bool neg, v] w fun e w' => ∃ v', e = .returned (.tuple #[.agg #[.bool (neg && decide (0 < (trimL l).length)), v'], .int .i64 0]) ∧ Ext w w' ∧ IsMag (since w' w.heap.size) (trimL l) v' := by
  obtain ⟨a, cap, rfl, h1, h2⟩ := h.form
  unfold maxLen at h2
  have hx0 := (Ext.refl w).alloc (.cells #[.bool false, .slice none 0 0] 24)
  have HT := Lib.hid (trim_any l _ _ (h.keep hx0.keeps))
  have HC := Lib.hid (fun W v (hm : IsMag W (trimL l) v) => clone32_any (trimL l) W v hm (by omega))
  obtain ⟨tl, htl⟩ : ∃ tl, trimL l = tl := ⟨_, rfl⟩
  rw [htl] at hl HT HC ⊢
  clear htl
  go_enter Tryd.func54, Tryd.ntmps54
  go_wp2_with fail
  refine HT.out.mono ?_
  rintro e w1 ⟨v1, rfl, hx1, hm1⟩
  obtain ⟨a1, c1, rfl, -, -⟩ := hm1.form
  have ed : decide ((48 : Int) < tl.length) = false := by simp; omega
  have HCM := Lib.hid (HC.out w1 _ hm1); clear HC HT
  have b0 : w1.heap[w.heap.size]? = _ := (hx1.block _ (by simp)).trans (heap_new _ _)
  have HB := Lib.hid b0; clear b0
  cases neg with
  | true =>
    go_wp2_with fail
    refine HCM.out.mono ?_
    rintro e w2 ⟨v2, rfl, hx2, hm2⟩
    obtain ⟨a2, c2, rfl, -, -⟩ := hm2.form
    have b0 := (hx2.block _ (by have := hx1.le; simp at this; omega)).trans HB.out
    have hc0 := cell_of b0
    have hf0 := frozen_of b0
    have hle : w.heap.size + 1 ≤ w1.heap.size := by have := hx1.le; simpa using this
    clear b0
    go_wp2_with fail
    refine bodyPost_ret (v := .tuple #[.agg #[.bool (true && decide (0 < tl.length)), .slice a2 tl.length c2], .int .i64 0]) (by simp [results, Tryd.results54, go_sem, hc0]) rfl ⟨_, rfl, ?_, ?_⟩
    · repeat (with_reducible refine Ext.setCell ?_ ?hh _; case hh => simp)
      exact hx0.trans (hx1.trans hx2)
    · refine hm2.keep (Keeps.trans ?_ (since_mono _ (show w.heap.size ≤ w1.heap.size by omega)))
      repeat (with_reducible refine Keeps.trans ?_ (since_setCell _ ?hh _); case hh => (simp; omega))
      exact Keeps.refl _
  | false =>
    go_wp2_with fail
    refine HCM.out.mono ?_
    rintro e w2 ⟨v2, rfl, hx2, hm2⟩
    obtain ⟨a2, c2, rfl, -, -⟩ := hm2.form
    have b0 := (hx2.block _ (by have := hx1.le; simp at this; omega)).trans HB.out
    have hc0 := cell_of b0
    have hf0 := frozen_of b0
    have hle : w.heap.size + 1 ≤ w1.heap.size := by have := hx1.le; simpa using this
    clear b0
    go_wp2_with fail
    refine bodyPost_ret (v := .tuple #[.agg #[.bool (false && decide (0 < tl.length)), .slice a2 tl.length c2], .int .i64 0]) (by simp [results, Tryd.results54, go_sem, hc0]) rfl ⟨_, rfl, ?_, ?_⟩
    · repeat (with_reducible refine Ext.setCell ?_ ?hh _; case hh => simp)
      exact hx0.trans (hx1.trans hx2)
    · refine hm2.keep (Keeps.trans ?_ (since_mono _ (show w.heap.size ≤ w1.heap.size by omega)))
      repeat (with_reducible refine Keeps.trans ?_ (since_setCell _ ?hh _); case hh => (simp; omega))
      exact Keeps.refl _

theorem ofMag_small (x : Int) : (ofMag x).length ≤ 48 := by
  have := trimL_length_le [absU x % 4294967296, absU x / 4294967296]
  simp only [List.length_cons, List.length_nil] at this
  unfold ofMag; omega
theorem ofMag_pos (x : Int) (h : x < 0) (hlo : -9223372036854775808 ≤ x) : 0 < (ofMag x).length := by
  unfold ofMag absU
  rw [if_pos h]
  by_cases h1 : -x / 4294967296 = 0
  · rw [h1]
    have h2 : -x % 4294967296 ≠ 0 := by omega
    rw [show [-x % 4294967296, (0 : Int)] = [-x % 4294967296] ++ [0] from rfl, trimL_snoc_zero, show [-x % 4294967296] = [] ++ [-x % 4294967296] from rfl, trimL_snoc _ _ h2]
    simp
  · rw [show [-x % 4294967296, -x / 4294967296] = [-x % 4294967296] ++ [-x / 4294967296] from rfl, trimL_snoc _ _ h1]
    simp

theorem IsMag.new2 (w : World) (a b : Int) (e : TypeId) : IsMag (w.alloc (.cells #[.int .u32 a, .int .u32 b] e)) [a, b] (.slice (some ⟨w.heap.size, 0, none⟩) 2 2) :=
  Rd.block (es := [.val (.int .u32 a), .val (.int .u32 b)]) (cells_new w [.int .u32 a, .int .u32 b] e) (by simp only [RdAll, Rd]; exact ⟨_, _, rfl, rfl, _, [], rfl, rfl, rfl⟩) (by simp [maxLen])
theorem wrap_neg (x : Int) (h : x < 0) (hlo : -9223372036854775808 ≤ x) : IntKind.u64.wrap (-IntKind.u64.wrap x) = -x := by
  have e : ∀ y : Int, IntKind.u64.wrap y = y % 18446744073709551616 := fun y => by rfl
  rw [e, e]; omega

set_option maxHeartbeats 1000000 in
theorem numof_any (x : Int) (w : World) (hlo : -9223372036854775808 ≤ x) (hhi : x ≤ 9223372036854775807) :
    Calls Tryd.prog 38 #[.int .i64 x] w fun e w' => ∃ v', e = .returned (.agg #[.bool (decide (x < 0)), v']) ∧ Ext w w' ∧ IsMag (since w' w.heap.size) (ofMag x) v' := by
  have hx0 := ((Ext.refl w).alloc (.cells #[.bool false, .slice none 0 0] 24)).alloc (.cells #[.int .u32 (absU x % 4294967296), .int .u32 (absU x / 4294967296)] 51)
  have HC := Lib.hid (made_any (decide (x < 0)) _ _ _ (IsMag.new2 (w.alloc (.cells #[.bool false, .slice none 0 0] 24)) (absU x % 4294967296) (absU x / 4294967296) 51) (ofMag_small x))
  simp only [World.size_alloc] at HC
  have HP := Lib.hid (ofMag_pos x)
  by_cases hx : x < 0
  · have ea : absU x = -x := by unfold absU; rw [if_pos hx]
    rw [ea] at HC hx0
    have ed : decide (x < 0) = true := by simpa using hx
    rw [ed] at HC
    have HO := Lib.hid (show trimL [-x % 4294967296, -x / 4294967296] = ofMag x by unfold ofMag; rw [ea])
    rw [HO.out] at HC
    have eb : (true && decide (0 < (ofMag x).length)) = true := by first | rfl | (rw [Bool.true_and]; exact decide_eq_true (HP.out hx hlo))
    rw [eb] at HC
    clear ea eb ed HO
    generalize ofMag x = tl at *
    go_enter Tryd.func38, Tryd.ntmps38
    go_wp2_with fail
    rw [wrap_neg x hx hlo, show (-x / 4294967296 : Int) % 4294967296 = -x / 4294967296 by omega]
    with_reducible refine HC.out.mono ?_
    rintro e w1 ⟨v1, rfl, hx1, hm1⟩
    obtain ⟨a1, c1, rfl, -, -⟩ := hm1.form
    have b0 := (hx1.block w.heap.size (by simp; omega)).trans (heap_new0 _ _ _)
    have hle : w.heap.size + 2 ≤ w1.heap.size := by have := hx1.le; simpa using this
    have hlt : w.heap.size < w1.heap.size := by omega
    have hc0 := cell_of b0
    have hf0 := frozen_of b0
    clear b0 HC HP
    go_wp2_with fail
    rw [show decide (x < 0) = true by simpa using hx]
    refine bodyPost_ret (v := .agg #[.bool true, .slice a1 tl.length c1]) (by simp [results, Tryd.results38, go_sem, hc0, hlt]) rfl ⟨_, rfl, ?_, ?_⟩
    · (refine Ext.alloc ?_ _; refine Ext.setCell ?_ ?hh9 _; (case hh9 => (first | (simp; done) | (simp; omega) | omega)); refine Ext.setCell ?_ ?hh9 _; (case hh9 => (first | (simp; done) | (simp; omega) | omega)); exact hx0.trans hx1)
    · refine hm1.keep (Keeps.trans ?_ (since_mono _ (show w.heap.size ≤ w.heap.size + 1 + 1 by omega)))
      (refine Keeps.trans ?_ (since_alloc _ _ _); refine Keeps.trans ?_ (since_setCell _ ?hh9 _); (case hh9 => (first | (simp; done) | (simp; omega) | omega)); refine Keeps.trans ?_ (since_setCell _ ?hh9 _); (case hh9 => (first | (simp; done) | (simp; omega) | omega)); exact Keeps.refl _)
  · have ea : absU x = x := by unfold absU; rw [if_neg hx]
    rw [ea] at HC hx0
    have ed : decide (x < 0) = false := by simpa using hx
    rw [ed] at HC
    have HO := Lib.hid (show trimL [x % 4294967296, x / 4294967296] = ofMag x by unfold ofMag; rw [ea])
    rw [HO.out] at HC
    have eb : (false && decide (0 < (ofMag x).length)) = false := by first | rfl | (rw [Bool.true_and]; exact decide_eq_true (HP.out hx hlo))
    rw [eb] at HC
    clear ea eb ed HO
    generalize ofMag x = tl at *
    go_enter Tryd.func38, Tryd.ntmps38
    go_wp2_with fail
    with_reducible refine HC.out.mono ?_
    rintro e w1 ⟨v1, rfl, hx1, hm1⟩
    obtain ⟨a1, c1, rfl, -, -⟩ := hm1.form
    have b0 := (hx1.block w.heap.size (by simp; omega)).trans (heap_new0 _ _ _)
    have hle : w.heap.size + 2 ≤ w1.heap.size := by have := hx1.le; simpa using this
    have hlt : w.heap.size < w1.heap.size := by omega
    have hc0 := cell_of b0
    have hf0 := frozen_of b0
    clear b0 HC HP
    go_wp2_with fail
    rw [show decide (x < 0) = false by simpa using hx]
    refine bodyPost_ret (v := .agg #[.bool false, .slice a1 tl.length c1]) (by simp [results, Tryd.results38, go_sem, hc0, hlt]) rfl ⟨_, rfl, ?_, ?_⟩
    · (refine Ext.alloc ?_ _; refine Ext.setCell ?_ ?hh9 _; (case hh9 => (first | (simp; done) | (simp; omega) | omega)); refine Ext.setCell ?_ ?hh9 _; (case hh9 => (first | (simp; done) | (simp; omega) | omega)); exact hx0.trans hx1)
    · refine hm1.keep (Keeps.trans ?_ (since_mono _ (show w.heap.size ≤ w.heap.size + 1 + 1 by omega)))
      (refine Keeps.trans ?_ (since_alloc _ _ _); refine Keeps.trans ?_ (since_setCell _ ?hh9 _); (case hh9 => (first | (simp; done) | (simp; omega) | omega)); refine Keeps.trans ?_ (since_setCell _ ?hh9 _); (case hh9 => (first | (simp; done) | (simp; omega) | omega)); exact Keeps.refl _)
end Go.Proofs.YtajjhhobfjjaeaaDoor
