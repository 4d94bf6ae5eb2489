
import Derived.Test.YtpacdmgnpadleaaDoorNum
namespace Go.Proofs.YtpacdmgnpadleaaDoor
open Go.RowKit
set_option linter.unusedSimpArgs false
set_option linter.unusedVariables false

theorem IsMag.len_le {w : World} {l : List Int} {a : Option Addr} {n c : Nat} (h : IsMag w l (.slice a n c)) : n = l.length := by
  obtain ⟨_, _, e, _, _⟩ := h.form
  injection e

theorem ofMag_small (x : Int) : (ofMag x).length ≤ 48 := by
  have := trimL_length_le [absU x % 4294967296, absU x / 4294967296]
  simp only [List.length_cons, List.length_nil] at this
  unfold ofMag; omega
theorem ofMag_pos (x : Int) (h : x < 0) (hlo : -9223372036854775808 ≤ x) : 0 < (ofMag x).length := by
  unfold ofMag absU
  rw [if_pos h]
  by_cases h1 : -x / 4294967296 = 0
  · rw [h1]
    have h2 : -x % 4294967296 ≠ 0 := by omega
    rw [show [-x % 4294967296, (0 : Int)] = [-x % 4294967296] ++ [0] from rfl, trimL_snoc_zero, show [-x % 4294967296] = [] ++ [-x % 4294967296] from rfl, trimL_snoc _ _ h2]
    simp
  · rw [show [-x % 4294967296, -x / 4294967296] = [-x % 4294967296] ++ [-x / 4294967296] from rfl, trimL_snoc _ _ h1]
    simp

theorem IsMag.new2 (w : World) (a b : Int) (e : TypeId) : IsMag (w.alloc (.cells #[.int .u32 a, .int .u32 b] e)) [a, b] (.slice (some ⟨w.heap.size, 0, none⟩) 2 2) :=
  Rd.block (es := [.val (.int .u32 a), .val (.int .u32 b)]) (cells_new w [.int .u32 a, .int .u32 b] e) (by simp only [RdAll, Rd]; exact ⟨_, _, rfl, rfl, _, [], rfl, rfl, rfl⟩) (by simp [maxLen])
theorem wrap_neg (x : Int) (h : x < 0) (hlo : -9223372036854775808 ≤ x) : IntKind.u64.wrap (-IntKind.u64.wrap x) = -x := by
  have e : ∀ y : Int, IntKind.u64.wrap y = y % 18446744073709551616 := fun y => by rfl
  rw [e, e]; omega

end Go.Proofs.YtpacdmgnpadleaaDoor
