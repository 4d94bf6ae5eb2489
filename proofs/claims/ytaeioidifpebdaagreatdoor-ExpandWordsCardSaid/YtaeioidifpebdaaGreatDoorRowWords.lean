/-
  ExpandWords: for any text and any two expressions the law returns true. The row, and its card.
-/
import Derived.Test.YtaeioidifpebdaaGreatDoorGB
import Derived.Test.YtaeioidifpebdaaGreatDoorGC
namespace Go.Proofs.YtaeioidifpebdaaGreatDoor
open Go Go.RowKit
theorem lawWords_any (s : ByteArray) (a b : K) (w : World) (v u : Value) (hg : GL w) (ha : a.Ok) (hb : b.Ok) (h1 : Ca ⟨w, []⟩ (.agg a.cc) v) (h2 : Ca ⟨w, []⟩ (.agg b.cc) u) :
    Calls Tryz.prog 3 #[.string s, v, u] w fun e w' => e = .returned (.bool true) ∧ Ext w w' :=
  (lawWords_pure s a b ha hb).calls (vs := [.string s, v, u]) hg (GL.size hg) (by simp only [Cas]; exact ⟨_, _, rfl, by simp only [Ca, Cc]; exact ⟨trivial, rfl⟩, v, _, rfl, h1, u, [], rfl, h2, rfl⟩)
end Go.Proofs.YtaeioidifpebdaaGreatDoor
namespace Go.Proofs.YtaeioidifpebdaaGreatDoor.LWords
open Go.ChangeShapes Go.WideShapes Go.ChangeAt Go.RowKit
set_option linter.unusedSimpArgs false
set_option linter.unusedVariables false
set_option maxRecDepth 100000

theorem contract (H : Type) (enc : TypeId × Value → H) (W : World) (base : Nat) (args : Array Value) (ds gs : List (DataW H)) (before : List MemPlace)
    (hval : ∀ (j : Nat) t v, Tryz.f3.params[j]? = some t → args[j]? = some v → Value.okWide Tryz.prog W .any base t v)
    (hW : DataW.Whole enc Tryz.prog Tryz.f3.params.toList Rows.expandWordsSpec.vars false W args.toList ds gs before)
    (hw : (DataW.weightsEach Tryz.prog (Tryz.f3.params.toList ++ (OpenSpec.ofChange Rows.expandWordsSpec).bare.plain.varTypes Tryz.prog) (ds ++ gs)).all (· ≤ reachBytes) = true)
    (hL : laidMetH Tryz.prog Rows.expandWordsRow.laid W) :
    Calls Tryz.prog 3 args W fun e W' => ∃ v, e = .returned v ∧ Rows.expandWordsSpec.post enc Tryz.prog Tryz.f3 false true false false W args v W' := by
  have hW' := hW
  obtain ⟨p, q, hA, hV, rfl, hfz, hnd⟩ := hW
  have hp := Tryz.params3
  rw [hp] at hA hval hw
  obtain ⟨v0, vs0, d0, ds0, p0, q0, hargs, rfl, rfl, h0, r0⟩ := trodAll_cons hA
  obtain ⟨v1, vs1, d1, ds1, p1, q1, rfl, rfl, rfl, h1, r1⟩ := trodAll_cons r0
  obtain ⟨v2, vs2, d2, ds2, p2, q2, rfl, rfl, rfl, h2, r2⟩ := trodAll_cons r1
  obtain ⟨rfl, rfl, rfl⟩ := trodAll_nil r2
  obtain rfl : args = #[v0, v1, v2] := by cases args; simp_all
  obtain ⟨hw0, hw⟩ := weights_cons hw
  obtain ⟨x0, rfl, ho0⟩ := argStr (hval 0 _ _ rfl rfl) h0 hw0
  obtain ⟨hw1, hw⟩ := weights_cons hw
  obtain ⟨x1, hx1, ho1⟩ := argC (hval 1 _ _ rfl rfl) h1 hw1
  obtain ⟨hw2, hw⟩ := weights_cons hw
  obtain ⟨x2, hx2, ho2⟩ := argC (hval 2 _ _ rfl rfl) h2 hw2
  refine (lawWords_any x0 x1 x2 W v1 v2 (gl_of hL) ho1 ho2 hx1 hx2).mono fun e W9 ⟨he, hx⟩ => ⟨_, he, law_post hW' rfl (fun e => by subst e; rfl) (by kernel_rfl) ?_ hx⟩
  rw [hp]
  simp only [List.mem_cons, List.not_mem_nil, or_false]
  rintro t (rfl | rfl | rfl)
  all_goals exact of_decide_eq_true (by kernel_rfl)

theorem reads (os : Os) {H : Type} (enc : TypeId × Value → H) : ∃ places, DataW.whole enc Tryz.prog ((laidWorld os).forCall (fun _ _ => 0) ⟨#[], #[.string ⟨#[]⟩, .agg #[.int .i64 0, .string ⟨#[]⟩, .string ⟨#[]⟩, .slice none 0 0, .int .i64 0, .int .i32 0, .bool false, .slice none 0 0, .string ⟨#[]⟩, .slice none 0 0, .slice none 0 0], .agg #[.int .i64 0, .string ⟨#[]⟩, .string ⟨#[]⟩, .slice none 0 0, .int .i64 0, .int .i32 0, .bool false, .slice none 0 0, .string ⟨#[]⟩, .slice none 0 0, .slice none 0 0]], []⟩).memory Tryz.f3.params.toList Rows.expandWordsSpec.vars false (#[.string ⟨#[]⟩, .agg #[.int .i64 0, .string ⟨#[]⟩, .string ⟨#[]⟩, .slice none 0 0, .int .i64 0, .int .i32 0, .bool false, .slice none 0 0, .string ⟨#[]⟩, .slice none 0 0, .slice none 0 0], .agg #[.int .i64 0, .string ⟨#[]⟩, .string ⟨#[]⟩, .slice none 0 0, .int .i64 0, .int .i32 0, .bool false, .slice none 0 0, .string ⟨#[]⟩, .slice none 0 0, .slice none 0 0]] : Array Value).toList 8 = some ([.lit (.string []), .agg [.lit (.int .i64 0), .lit (.string []), .lit (.string []), .nil, .agg [.lit (.int .i64 0), .lit (.int .i32 0), .agg [.lit (.bool false), .nil], .lit (.string []), .nil], .nil], .agg [.lit (.int .i64 0), .lit (.string []), .lit (.string []), .nil, .agg [.lit (.int .i64 0), .lit (.int .i32 0), .agg [.lit (.bool false), .nil], .lit (.string []), .nil], .nil]], [], places) :=
  ⟨[], by kernel_rfl⟩
set_option maxRecDepth 100000 in
theorem lifted (os : Os) (started : os.Started) (H : Type) (enc : TypeId × Value → H) (F : Stop.Interp) :
    ReturnsInHanded {} Tryz.checked os 3 .any ((OpenSpec.ofChange Rows.expandWordsSpec).preRow enc Tryz.prog Tryz.f3 Rows.expandWordsRow.domain false Rows.expandWordsRow.laid) (((OpenSpec.ofChange Rows.expandWordsSpec).at F).post enc Tryz.prog Tryz.f3 false true false false) := by
  obtain ⟨x, hx⟩ := reads os enc
  refine returnsInHanded_of_row (C := Tryz.checked) (s := OpenSpec.ofChange Rows.expandWordsSpec) own0 started (by kernel_rfl) Tryz.func3
    (witness_row_at (enc := enc) (C := Tryz.checked) false (laidWorld os) #[.string ⟨#[]⟩, .agg #[.int .i64 0, .string ⟨#[]⟩, .string ⟨#[]⟩, .slice none 0 0, .int .i64 0, .int .i32 0, .bool false, .slice none 0 0, .string ⟨#[]⟩, .slice none 0 0, .slice none 0 0], .agg #[.int .i64 0, .string ⟨#[]⟩, .string ⟨#[]⟩, .slice none 0 0, .int .i64 0, .int .i32 0, .bool false, .slice none 0 0, .string ⟨#[]⟩, .slice none 0 0, .slice none 0 0]] rfl (by kernel_rfl) (by kernel_rfl) (by kernel_rfl)
      (OpenSpec.preRow_of_cond 8 hx (by kernel_rfl) (fun k hk => by cases hk) (by kernel_rfl) (laid_met os _))) ?_
  intro W base args ds gs before hval hW _ _ hw hL _ _
  exact contract H enc W base args ds gs before hval hW hw hL
theorem said : Rows.ExpandWordsSaid :=
  OpenClaim.holds_of_cond 3 Tryz.f3 rfl rfl rfl rfl rfl rfl rfl ⟨rfl, rfl, rfl, rfl, rfl⟩ rfl rfl rfl rfl rfl (by kernel_rfl) Tryz.func3 (by kernel_rfl)
    (of_decide_eq_true (by kernel_rfl)) (by unfold Func.isWrapper; first | (rw [if_pos (by decide +kernel)]; kernel_rfl) | (rw [if_neg (by decide +kernel)]; exact ⟨rfl, rfl⟩))
    (fun os started H enc _ F => by rw [OpenClaim.pre_eq_preRow]; exact lifted os started H enc F)
/-- No parameter wants a stand-in. -/
theorem plain (f : FuncId) (fn : Func) (hf : Tryz.pinned.checked.prog.funcNamed "moraine/morainelaw18.ExpandWords" = some f) (hfn : Tryz.pinned.checked.prog.funcs[f]? = some fn) :
    true = Tryz.pinned.checked.prog.looks [] ∧ ∀ (j : Nat) t, fn.params[j]? = some t → Tryz.pinned.checked.prog.wantsStandIn t = false := by
  obtain rfl : f = 3 := Option.some.inj ((show Tryz.prog.funcNamed "moraine/morainelaw18.ExpandWords" = some 3 by kernel_rfl).symm.trans hf) |>.symm
  obtain rfl : fn = Tryz.f3 := (Option.some.inj (Tryz.func3.symm.trans hfn)).symm
  refine ⟨by kernel_rfl, fun j t ht => ?_⟩
  have hp := Tryz.params3
  have ht' := Array.mem_def.1 (Array.mem_of_getElem? ht)
  rw [hp] at ht'
  simp only [List.mem_cons, List.not_mem_nil, or_false] at ht'
  revert ht'
  rintro (rfl | rfl | rfl)
  all_goals exact (show Tryz.prog.wantsStandIn _ = false by kernel_rfl)
/-- The card. -/
theorem card : Rows.ExpandWordsCardSaid :=
  Claim7.holds_tied_plain_at .later [] _ _ _ _ said (fun _ h => by cases h) (by kernel_rfl) (fun _ h => by cases h) expandWords_row_tie rfl ⟨rfl, rfl⟩ (by kernel_rfl) rfl plain (by kernel_rfl)

end Go.Proofs.YtaeioidifpebdaaGreatDoor.LWords
