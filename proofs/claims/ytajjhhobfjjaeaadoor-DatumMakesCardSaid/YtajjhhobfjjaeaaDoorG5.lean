/-
  Laid together: PC.
-/
import Derived.Test.YtajjhhobfjjaeaaDoorG3
import Derived.Test.YtajjhhobfjjaeaaDoorWeigh
import Derived.Test.YtajjhhobfjjaeaaDoorAwake
import Derived.Test.YtajjhhobfjjaeaaDoorCopy2
import Derived.Test.YtajjhhobfjjaeaaDoorSame3

section
/-
  Contracts over abstract values: whether two data are the same, the copy, whether a datum is heavy, the layer's own call.
-/
namespace Go.Proofs.YtajjhhobfjjaeaaDoor
open Go Go.RowKit Go.Lib
set_option linter.unusedSimpArgs false
set_option linter.unusedVariables false
/-- Texts and numbers that are not too long, all the way down. -/
def SmallTo : Nat → D → Prop
  | 0, _ => True
  | n + 1, d => d.t.size ≤ 3000 ∧ d.mag.length ≤ 3000 ∧ d.l.length ≤ 3000 ∧ ∀ x ∈ d.l, SmallTo n x
theorem cnts_len : ∀ l : List D, l.length ≤ cnts l
  | [] => by simp
  | d :: l => by
    have := cnts_len l
    have := d.count_pos
    simp only [cnts, List.length_cons]; omega
theorem weighs_mem (p : Nat × Nat × Nat × Nat) : ∀ (l : List D) (left : Int), left ≤ 3000 → 0 ≤ weighs p l left → ∀ x ∈ l, ∃ q, q ≤ 3000 ∧ 0 ≤ x.weigh p q
  | [], left, h, h0, x, hx => by cases hx
  | d :: l, left, h, h0, x, hx => by
    rw [weighs] at h0
    split at h0
    · omega
    · have h2 : 0 ≤ d.weigh p left := by
        refine Int.not_lt.1 fun hn => ?_
        rw [weighs_neg p l _ hn] at h0; omega
      have h3 := weigh_count p d left h2
      rcases List.mem_cons.1 hx with rfl | hx
      · exact ⟨left, h, h2⟩
      · exact weighs_mem p l _ (by omega) h0 x hx
theorem small_of : ∀ (n : Nat) (d : D) (left : Int), left ≤ 3000 → 0 ≤ d.weigh wp03 left → SmallTo n d
  | 0, d, left, h, h0 => trivial
  | n + 1, d, left, h, h0 => by
    have hc := weigh_count wp03 d left h0
    have hl := cnts_len d.l
    have hce := d.count_eq
    by_cases hb : 3000 < d.t.size ∨ 3000 < d.mag.length
    · rw [weigh03_no d left hb] at h0; omega
    · rw [weigh03_go d left hb] at h0 hc
      refine ⟨by omega, by omega, by omega, fun x hx => ?_⟩
      obtain ⟨q, hq, h1⟩ := weighs_mem wp03 d.l _ (by omega) h0 x hx
      exact small_of n x q hq h1
theorem light_small {d : D} (h : d.heavy = false) (n : Nat) : SmallTo n d := by
  have h1 : ¬ d.weigh wp03 3000 < 0 := by simpa [D.heavy] using h
  exact small_of n d 3000 (by omega) (by omega)
theorem rsame_pure (a b : D) : Pure Tryd.prog 18 [.agg a.cc, .agg b.cc] (.one (.v (.bool (eqB a b)))) := by
  refine pure_old_v rfl fun w vs hg hv => ?_
  obtain ⟨v, u, rfl, hv1, hu1⟩ := hv.two
  exact rsame_any a b w v u hv1.isD hu1.isD
theorem heavy_pure (d : D) (hok : d.Ok) : Pure Tryd.prog 9 [.agg d.cc] (.one (.v (.bool d.heavy))) := by
  refine pure_old_v rfl fun w vs hg hv => ?_
  obtain ⟨v, rfl, hv1⟩ := hv.one1
  exact heavy_any d w v hok hv1.isD
theorem awake_pure : Pure Tryd.prog 10 [] (.one (.v (.bool true))) := by
  refine pure_old_v rfl fun w vs hg hv => ?_
  simp only [Cas] at hv
  subst hv
  exact awake_any w hg
theorem rcopy_pure (d : D) (hok : d.Ok) : Pure Tryd.prog 11 [.agg d.cc] (.agg d.cc) := by
  refine pure_old fun w vs hg hv => ?_
  obtain ⟨v, rfl, hv1⟩ := hv.one1
  exact (rcopy_any d w v hok hv1.isD).mono fun e w' ⟨v', he, hx, hr⟩ => ⟨v', he, hx, (IsD.ca hr)⟩
end Go.Proofs.YtajjhhobfjjaeaaDoor
end
