/-
  DatumMakes: for every number, text, row of data and datum the law returns true, and all read behind the call as they read before. The row, and its card.
-/
import Derived.Test.YtajjhhobfjjaeaaDoorWit
import Derived.Test.YtajjhhobfjjaeaaDoorArgs
import Derived.Test.YtajjhhobfjjaeaaDoorGA
import Derived.Test.YtajjhhobfjjaeaaDoorTabs
namespace Go.Proofs.YtajjhhobfjjaeaaDoor
open Go Go.RowKit
theorem cell_sizeM {w : World} {b o : Nat} {v : Value} (h : w.cell? ⟨b, o, none⟩ = some v) : b < w.heap.size := by
  refine Nat.lt_of_not_le fun hn => ?_
  have : w.heap[b]? = none := Array.getElem?_eq_none hn
  simp [World.cell?, this] at h
theorem GL.sizeM {w : World} (h : GL w) : ∀ b, GB b = true → b < w.heap.size := fun b hb => by
  simp only [GB, Bool.or_eq_true, beq_iff_eq] at hb
  rcases hb with rfl | rfl
  · exact cell_sizeM (h.1 0 (by decide))
  · exact cell_sizeM (h.2 0 (by decide)).1
theorem lawMakes_any (x : Int) (t : ByteArray) (l : List D) (d : D) (w : World) (u v : Value) (hT : Tabs w) (hlo : -9223372036854775808 ≤ x) (hhi : x ≤ 9223372036854775807) (hls : Oks l) (hd : d.Ok) (hu : IsDs w l u) (hv : IsD w d v) :
    Calls Tryd.prog 8 #[.int .i64 x, .string t, u, v] w fun e w' => e = .returned (.bool true) ∧ Ext w w' :=
  (lawMakes_pure x t l d hlo hhi hls hd).calls (vs := [.int .i64 x, .string t, u, v]) hT (GL.sizeM hT) (by simp only [Cas]; exact ⟨_, _, rfl, caV rfl, _, _, rfl, caV rfl, _, _, rfl, hu.ca, _, _, rfl, hv.ca, rfl⟩)
end Go.Proofs.YtajjhhobfjjaeaaDoor
namespace Go.Proofs.YtajjhhobfjjaeaaDoor.LMakes
open Go.ChangeShapes Go.WideShapes Go.ChangeAt Go.RowKit
set_option linter.unusedSimpArgs false
set_option linter.unusedVariables false

theorem contract (H : Type) (enc : TypeId × Value → H) (W : World) (base : Nat) (args : Array Value) (ds gs : List (DataW H)) (before : List MemPlace)
    (hval : ∀ (j : Nat) t v, Tryd.f8.params[j]? = some t → args[j]? = some v → Value.okWide Tryd.prog W .any base t v)
    (hW : DataW.Whole enc Tryd.prog Tryd.f8.params.toList Rows.datumMakesSpec.vars false W args.toList ds gs before)
    (hw : (DataW.weightsEach Tryd.prog (Tryd.f8.params.toList ++ (OpenSpec.ofChange Rows.datumMakesSpec).bare.plain.varTypes Tryd.prog) (ds ++ gs)).all (· ≤ reachBytes) = true)
    (hL : laidMetH Tryd.prog Rows.datumMakesRow.laid W) :
    Calls Tryd.prog 8 args W fun e W' => ∃ v, e = .returned v ∧ Rows.datumMakesSpec.post enc Tryd.prog Tryd.f8 false true false false W args v W' := by
  have hW' := hW
  obtain ⟨p, q, hA, hV, rfl, hfz, hnd⟩ := hW
  have hp := Tryd.params8
  rw [hp] at hA hval hw
  obtain ⟨v0, vs0, d0, ds0, p0, q0, hargs, rfl, rfl, h0, r0⟩ := trodAll_cons hA
  obtain ⟨v1, vs1, d1, ds1, p1, q1, rfl, rfl, rfl, h1, r1⟩ := trodAll_cons r0
  obtain ⟨v2, vs2, d2, ds2, p2, q2, rfl, rfl, rfl, h2, r2⟩ := trodAll_cons r1
  obtain ⟨v3, vs3, d3, ds3, p3, q3, rfl, rfl, rfl, h3, r3⟩ := trodAll_cons r2
  obtain ⟨rfl, rfl, rfl⟩ := trodAll_nil r3
  obtain rfl : args = #[v0, v1, v2, v3] := by cases args; simp_all
  obtain ⟨hw0, hw⟩ := weights_cons hw
  obtain ⟨x0, rfl, hlo0, hhi0⟩ := argI64 (hval 0 _ _ rfl rfl) h0
  obtain ⟨hw1, hw⟩ := weights_cons hw
  obtain ⟨x1, rfl, ho1⟩ := argStr (hval 1 _ _ rfl rfl) h1 hw1
  obtain ⟨hw2, hw⟩ := weights_cons hw
  obtain ⟨x2, hx2, ho2, hn2⟩ := argDs (hval 2 _ _ rfl rfl) h2 hw2
  obtain ⟨hw3, hw⟩ := weights_cons hw
  obtain ⟨x3, hx3, ho3⟩ := argD (hval 3 _ _ rfl rfl) h3 hw3
  refine (lawMakes_any x0 x1 x2 x3 W v2 v3 (tabs_of hL) hlo0 hhi0 ho2 ho3 hx2 hx3).mono fun e W9 ⟨he, hx⟩ => ⟨_, he, law_post hW' rfl (fun e => by subst e; rfl) (by kernel_rfl) ?_ hx⟩
  rw [hp]
  simp only [List.mem_cons, List.not_mem_nil, or_false]
  rintro t (rfl | rfl | rfl | rfl)
  all_goals exact of_decide_eq_true (by kernel_rfl)

theorem reads (os : Os) {H : Type} (enc : TypeId × Value → H) : ∃ places, DataW.whole enc Tryd.prog ((laidWorld os).forCall (fun _ _ => 0) ⟨#[], #[.int .i64 0, .string ⟨#[]⟩, .slice none 0 0, dat0], []⟩).memory Tryd.f8.params.toList Rows.datumMakesSpec.vars false (#[.int .i64 0, .string ⟨#[]⟩, .slice none 0 0, dat0] : Array Value).toList 8 = some ([.lit (.int .i64 0), .lit (.string []), .nil, .agg [.lit (.int .i64 0), .lit (.int .i32 0), .agg [.lit (.bool false), .nil], .lit (.string []), .nil]], [], places) :=
  ⟨[], by kernel_rfl⟩
set_option maxRecDepth 100000 in
theorem lifted (os : Os) (started : os.Started) (H : Type) (enc : TypeId × Value → H) (F : Stop.Interp) :
    ReturnsInHanded {} Tryd.checked os 8 .any ((OpenSpec.ofChange Rows.datumMakesSpec).preRow enc Tryd.prog Tryd.f8 Rows.datumMakesRow.domain false Rows.datumMakesRow.laid) (((OpenSpec.ofChange Rows.datumMakesSpec).at F).post enc Tryd.prog Tryd.f8 false true false false) := by
  obtain ⟨x, hx⟩ := reads os enc
  refine returnsInHanded_of_row (C := Tryd.checked) (s := OpenSpec.ofChange Rows.datumMakesSpec) own0 started (by kernel_rfl) Tryd.func8
    (witness_row_at (enc := enc) (C := Tryd.checked) false (laidWorld os) #[.int .i64 0, .string ⟨#[]⟩, .slice none 0 0, dat0] rfl (by kernel_rfl) (by kernel_rfl) (by kernel_rfl)
      (OpenSpec.preRow_of_cond 8 hx (by kernel_rfl) (fun k hk => by cases hk) (by kernel_rfl) (laid_met os _))) ?_
  intro W base args ds gs before hval hW _ _ hw hL _ _
  exact contract H enc W base args ds gs before hval hW hw hL
theorem said : Rows.DatumMakesSaid :=
  OpenClaim.holds_of_cond 8 Tryd.f8 rfl rfl rfl rfl rfl rfl rfl ⟨rfl, rfl, rfl, rfl, rfl⟩ rfl rfl rfl rfl rfl (by kernel_rfl) Tryd.func8 (by kernel_rfl)
    (of_decide_eq_true (by kernel_rfl)) (by unfold Func.isWrapper; first | (rw [if_pos (by decide +kernel)]; kernel_rfl) | (rw [if_neg (by decide +kernel)]; exact ⟨rfl, rfl⟩))
    (fun os started H enc _ F => by rw [OpenClaim.pre_eq_preRow]; exact lifted os started H enc F)
/-- No parameter wants a stand-in. -/
theorem plain (f : FuncId) (fn : Func) (hf : Tryd.pinned.checked.prog.funcNamed "moraine/morainelaw03.DatumMakes" = some f) (hfn : Tryd.pinned.checked.prog.funcs[f]? = some fn) :
    false = Tryd.pinned.checked.prog.looks [] ∧ ∀ (j : Nat) t, fn.params[j]? = some t → Tryd.pinned.checked.prog.wantsStandIn t = false := by
  obtain rfl : f = 8 := Option.some.inj ((show Tryd.prog.funcNamed "moraine/morainelaw03.DatumMakes" = some 8 by kernel_rfl).symm.trans hf) |>.symm
  obtain rfl : fn = Tryd.f8 := (Option.some.inj (Tryd.func8.symm.trans hfn)).symm
  refine ⟨by kernel_rfl, fun j t ht => ?_⟩
  have hp := Tryd.params8
  have ht' := Array.mem_def.1 (Array.mem_of_getElem? ht)
  rw [hp] at ht'
  simp only [List.mem_cons, List.not_mem_nil, or_false] at ht'
  revert ht'
  rintro (rfl | rfl | rfl | rfl)
  all_goals exact (show Tryd.prog.wantsStandIn _ = false by kernel_rfl)
/-- The card. -/
theorem card : Rows.DatumMakesCardSaid :=
  Claim7.holds_tied_plain_at .later [] _ _ _ _ said (fun _ h => by cases h) (by kernel_rfl) (fun _ h => by cases h) datumMakes_row_tie rfl ⟨rfl, rfl⟩ (by kernel_rfl) rfl plain (by kernel_rfl)

end Go.Proofs.YtajjhhobfjjaeaaDoor.LMakes
