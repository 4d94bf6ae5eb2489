import Derived.Test.YtajjhhobfjjaeaaDoorPlain4
import Derived.Test.YtajjhhobfjjaeaaDoorKit
namespace Go.Proofs.YtajjhhobfjjaeaaDoor
open Go.RowKit
set_option linter.unusedSimpArgs false
set_option linter.unusedVariables false

set_option maxHeartbeats 1000000 in
theorem rchar_any (c : Int) (w : World) : Calls Tryd.prog 48 #[.int .i32 c] w fun e w' => e = .returned (.bool (Lib.validRune c)) ∧ Ext w w' := by
  by_cases h0 : (0 : Int) ≤ c
  case neg =>
    have e0 : decide ((0 : Int) ≤ c) = false := by simpa using h0
    have HR : Lib.validRune c = false := by unfold Lib.validRune; rw [decide_eq_false_iff_not]; omega
    rw [HR]; clear HR h0
    go_enter Tryd.func48, Tryd.ntmps48
    go_wp2_with fail
    go_ret
    exact ⟨rfl, Ext.refl _⟩
  have e0 : decide ((0 : Int) ≤ c) = true := by simpa using h0
  by_cases h1 : c ≤ 1114111
  case neg =>
    have e1 : decide (c ≤ 1114111) = false := by simpa using h1
    have HR : Lib.validRune c = false := by unfold Lib.validRune; rw [decide_eq_false_iff_not]; omega
    rw [HR]; clear HR h0 h1
    go_enter Tryd.func48, Tryd.ntmps48
    go_wp2_with fail
    go_ret
    exact ⟨rfl, Ext.refl _⟩
  have e1 : decide (c ≤ 1114111) = true := by simpa using h1
  by_cases h2 : c < 55296
  case pos =>
    have e2 : decide (c < 55296) = true := by simpa using h2
    have HR : Lib.validRune c = true := by unfold Lib.validRune; rw [decide_eq_true_iff]; omega
    rw [HR]; clear HR h0 h1 h2
    go_enter Tryd.func48, Tryd.ntmps48
    go_wp2_with fail
    go_ret
    exact ⟨rfl, Ext.refl _⟩
  have e2 : decide (c < 55296) = false := by simpa using h2
  have HR : Lib.validRune c = decide (57343 < c) := by unfold Lib.validRune; congr 1; apply propext; omega
  rw [HR]; clear HR h0 h1 h2
  go_enter Tryd.func48, Tryd.ntmps48
  go_wp2_with fail
  go_ret
  exact ⟨rfl, Ext.refl _⟩

/-- Has a datum nothing but what is named? -/
def bareB (h1 h2 h4 h8 : Bool) (d : D) : Bool := (h1 || decide (d.c = 0)) && (h2 || (!d.neg && decide (d.mag.length = 0))) && (h4 || decide (d.t.size = 0)) && (h8 || decide (d.l.length = 0))
theorem len0 (n : Nat) : ((n : Int) == 0) = decide (n = 0) := by
  cases n with
  | zero => rfl
  | succ n => simp; omega
theorem str0 (t : ByteArray) : t.toList.isEmpty = decide (t.size = 0) := by
  rw [Go.ByteArray.toList_eq]
  obtain ⟨⟨l⟩⟩ := t
  cases l <;> simp [ByteArray.size]
end Go.Proofs.YtajjhhobfjjaeaaDoor
