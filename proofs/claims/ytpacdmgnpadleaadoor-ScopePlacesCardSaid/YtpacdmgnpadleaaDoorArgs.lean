/-
  The arguments of a law, opened: data, rows of data, numbers, texts.
-/
import Derived.Test.YtpacdmgnpadleaaDoorRow
namespace Go.Proofs.YtpacdmgnpadleaaDoor
open Go.ChangeShapes Go.WideShapes Go.ChangeAt Go.RowKit
set_option linter.unusedSimpArgs false
set_option linter.unusedVariables false
set_option maxRecDepth 100000

theorem weights_cons {H : Type} {P : Program} {t : TypeId} {ts vs : List TypeId} {d : DataW H} {ds gs : List (DataW H)} (h : (DataW.weightsEach P ((t :: ts) ++ vs) ((d :: ds) ++ gs)).all (· ≤ reachBytes) = true) :
    (∀ k ∈ d.weights P t, k ≤ reachBytes) ∧ (DataW.weightsEach P (ts ++ vs) (ds ++ gs)).all (· ≤ reachBytes) = true := by
  simp only [List.cons_append, DataW.weightsEach, List.all_append, Bool.and_eq_true] at h
  refine ⟨fun k hk => ?_, h.2⟩
  have := List.all_eq_true.1 h.1 k hk
  simpa using this
section
variable {H : Type} {enc : TypeId × Value → H} {w : World} {base base' : Nat} {spare : Nat → Bool} {held : Bool} {v : Value} {d : DataW H} {ps : List MemPlace}
theorem argD (hok : Value.okWide Tryd.prog w .any base' 31 v) (h : DataW.Trod enc Tryd.prog w base spare held 31 v d ps) (hw : ∀ k ∈ d.weights Tryd.prog 31, k ≤ reachBytes) : ∃ x : D, IsD w x v ∧ x.Ok := by
  obtain ⟨n, h⟩ := h
  obtain ⟨x, h1, h2⟩ := readD n _ _ h hw
  simp only [Value.okWide, Tryd.underlying31] at hok
  obtain ⟨cs, rfl, -, -⟩ := hok
  exact ⟨x, ⟨cs.toList, by simp, h1⟩, h2⟩
theorem argDs (hok : Value.okWide Tryd.prog w .any base' 29 v) (h : DataW.Trod enc Tryd.prog w base spare held 29 v d ps) (hw : ∀ k ∈ d.weights Tryd.prog 29, k ≤ reachBytes) : ∃ l : List D, IsDs w l v ∧ Oks l ∧ l.length ≤ 1599289640354 := by
  obtain ⟨n, h⟩ := h
  obtain ⟨l, l1, l2, l3⟩ := readSl D.v D.Ok Tryd.underlying29 (Nat.lt_of_lt_of_eq (show 0 < 6 by decide) (show 6 = Tryd.prog.cellsOf 31 by kernel_rfl)) (fun m' cs x hm h hw => readD m' cs x h hw) h hw
  rw [show Tryd.prog.bytesOf 31 = 88 by kernel_rfl] at l3
  simp only [Value.okWide, Tryd.underlying29] at hok
  have hv : v.cells = #[v] := by
    cases v with
    | agg cs => simp [Cell.okWide, Cell.ok, Tryd.underlying29] at hok
    | _ => rfl
  rw [hv] at l1
  refine ⟨l, l1, Oks.of fun i hi => l2 _ (List.getElem_mem _), by unfold reachBytes at l3; omega⟩
theorem argI64 (hok : Value.okWide Tryd.prog w .any base' 2 v) (h : DataW.Trod enc Tryd.prog w base spare held 2 v d ps) : ∃ n : Int, v = .int .i64 n ∧ -9223372036854775808 ≤ n ∧ n ≤ 9223372036854775807 := by
  obtain ⟨n, h⟩ := h
  cases n with
  | zero => simp [DataW.trod] at h
  | succ n =>
    obtain ⟨k, e, -, hk⟩ := DataW.trod_int Tryd.underlying2 h
    simp only [Value.okWide, Tryd.underlying2] at hok
    have hv : v.cells = #[v] := by
      cases v with
      | agg cs => simp [Cell.okWide, Cell.ok, Tryd.underlying2] at hok
      | _ => rfl
    rw [hv] at e
    exact ⟨k, by simpa using e, wf_bounds hk⟩
theorem argStr (hok : Value.okWide Tryd.prog w .any base' 9 v) (h : DataW.Trod enc Tryd.prog w base spare held 9 v d ps) (hw : ∀ k ∈ d.weights Tryd.prog 9, k ≤ reachBytes) : ∃ s : ByteArray, v = .string s ∧ s.size ≤ 140737488351232 := by
  obtain ⟨n, h⟩ := h
  obtain ⟨s, e, hd, hk⟩ := DataW.trod_string Tryd.underlying9 h
  simp only [Value.okWide, Tryd.underlying9] at hok
  have hv : v.cells = #[v] := by
    cases v with
    | agg cs => simp [Cell.okWide, Cell.ok, Tryd.underlying9] at hok
    | _ => rfl
  rw [hv] at e
  obtain rfl : d = _ := congrArg Prod.fst hd
  have hs := hw s.data.toList.length (by simp [DataW.weights])
  exact ⟨s, by simpa using e, by unfold reachBytes at hs; rw [Array.length_toList] at hs; exact hs⟩
end
/-- The witness's datum, and its reading. -/
def dat0 : Value := .agg #[.int .i64 0, .int .i32 0, .bool false, .slice none 0 0, .string ⟨#[]⟩, .slice none 0 0]
end Go.Proofs.YtpacdmgnpadleaaDoor
