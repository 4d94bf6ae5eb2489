import Derived.Test.YtajjhhobfjjaeaaDoorNum2
namespace Go.Proofs.YtajjhhobfjjaeaaDoor
open Go.RowKit
set_option linter.unusedSimpArgs false
set_option linter.unusedVariables false

theorem IsMag.nil (w : World) : IsMag w [] (.slice none 0 0) := by simp only [IsMag, List.map_nil, Rd]; exact ⟨_, rfl, .inl ⟨trivial, .inl rfl⟩⟩
theorem IsDs.nil (w : World) : IsDs w [] (.slice none 0 0) := by simp only [IsDs, List.map_nil, Rd]; exact ⟨_, rfl, .inl ⟨trivial, .inl rfl⟩⟩

/-- A number as a datum. -/
def dInt (x : Int) : D := .mk 4 0 (decide (x < 0)) (ofMag x) ⟨#[]⟩ []
def dStr (s : ByteArray) : D := .mk 5 0 false [] s []
def dSym (s : ByteArray) : D := .mk 6 0 false [] s []
def dNil : D := .mk 0 0 false [] ⟨#[]⟩ []

set_option maxHeartbeats 1000000 in
theorem int_any (x : Int) (w : World) (hlo : -9223372036854775808 ≤ x) (hhi : x ≤ 9223372036854775807) :
    Calls Tryd.prog 24 #[.int .i64 x] w fun e w' => ∃ v', e = .returned v' ∧ Ext w w' ∧ IsD (since w' w.heap.size) (dInt x) v' := by
  have HC := Lib.hid (numof_any x (w.alloc (.cells #[.int .i64 0, .int .i32 0, .bool false, .slice none 0 0, .string ⟨#[]⟩, .slice none 0 0] 27)) hlo hhi)
  simp only [World.size_alloc] at HC
  have hx0 := (Ext.refl w).alloc (.cells #[.int .i64 0, .int .i32 0, .bool false, .slice none 0 0, .string ⟨#[]⟩, .slice none 0 0] 27)
  go_enter Tryd.func24, Tryd.ntmps24
  go_wp2_with fail
  with_reducible refine HC.out.mono ?_
  rintro e w1 ⟨v1, rfl, hx1, hm1⟩
  obtain ⟨a1, c1, rfl, -, -⟩ := hm1.form
  have b0 := (hx1.block w.heap.size (by simp)).trans (heap_new _ _)
  have hc0 := cell_of b0
  have hf0 := frozen_of b0
  clear b0 HC
  go_wp2_with fail
  refine bodyPost_ret (v := .agg #[.int .i64 4, .int .i32 0, .bool (decide (x < 0)), .slice a1 (ofMag x).length c1, .string ⟨#[]⟩, .slice none 0 0]) (by simp [results, Tryd.results24, go_sem, hc0]) rfl ⟨_, rfl, ?_, ?_⟩
  · (refine Ext.setCell ?_ ?hh9 _; (case hh9 => (first | (simp; done) | (simp; omega) | omega)); refine Ext.setCell ?_ ?hh9 _; (case hh9 => (first | (simp; done) | (simp; omega) | omega)); refine Ext.setCell ?_ ?hh9 _; (case hh9 => (first | (simp; done) | (simp; omega) | omega)); refine Ext.setCell ?_ ?hh9 _; (case hh9 => (first | (simp; done) | (simp; omega) | omega)); refine Ext.setCell ?_ ?hh9 _; (case hh9 => (first | (simp; done) | (simp; omega) | omega)); refine Ext.setCell ?_ ?hh9 _; (case hh9 => (first | (simp; done) | (simp; omega) | omega)); exact hx0.trans hx1)
  · refine IsD.mk (hm1.keep (Keeps.trans ?_ (since_mono _ (show w.heap.size ≤ w.heap.size + 1 by omega)))) (IsDs.nil _)
    (refine Keeps.trans ?_ (since_setCell _ ?hh9 _); (case hh9 => (first | (simp; done) | (simp; omega) | omega)); refine Keeps.trans ?_ (since_setCell _ ?hh9 _); (case hh9 => (first | (simp; done) | (simp; omega) | omega)); refine Keeps.trans ?_ (since_setCell _ ?hh9 _); (case hh9 => (first | (simp; done) | (simp; omega) | omega)); refine Keeps.trans ?_ (since_setCell _ ?hh9 _); (case hh9 => (first | (simp; done) | (simp; omega) | omega)); refine Keeps.trans ?_ (since_setCell _ ?hh9 _); (case hh9 => (first | (simp; done) | (simp; omega) | omega)); refine Keeps.trans ?_ (since_setCell _ ?hh9 _); (case hh9 => (first | (simp; done) | (simp; omega) | omega)); exact Keeps.refl _)

set_option maxHeartbeats 1000000 in
theorem str_any (s : ByteArray) (w : World) :
    Calls Tryd.prog 27 #[.string s] w fun e w' => ∃ v', e = .returned v' ∧ Ext w w' ∧ IsD (since w' w.heap.size) (dStr s) v' := by
  go_enter Tryd.func27, Tryd.ntmps27
  go_wp2_with fail
  refine bodyPost_ret (v := .agg #[.int .i64 5, .int .i32 0, .bool false, .slice none 0 0, .string s, .slice none 0 0]) (by simp [results, Tryd.results27, go_sem]) rfl ⟨_, rfl, (Ext.refl _).alloc _, IsD.mk (IsMag.nil _) (IsDs.nil _)⟩
set_option maxHeartbeats 1000000 in
theorem sym_any (s : ByteArray) (w : World) :
    Calls Tryd.prog 28 #[.string s] w fun e w' => ∃ v', e = .returned v' ∧ Ext w w' ∧ IsD (since w' w.heap.size) (dSym s) v' := by
  go_enter Tryd.func28, Tryd.ntmps28
  go_wp2_with fail
  refine bodyPost_ret (v := .agg #[.int .i64 6, .int .i32 0, .bool false, .slice none 0 0, .string s, .slice none 0 0]) (by simp [results, Tryd.results28, go_sem]) rfl ⟨_, rfl, (Ext.refl _).alloc _, IsD.mk (IsMag.nil _) (IsDs.nil _)⟩
end Go.Proofs.YtajjhhobfjjaeaaDoor
