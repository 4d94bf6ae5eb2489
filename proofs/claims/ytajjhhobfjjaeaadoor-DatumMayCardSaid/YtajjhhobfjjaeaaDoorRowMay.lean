/-
  DatumMay: for every datum the law returns true, and it reads behind the call as it read before. The row, and its card.
-/
import Derived.Test.YtajjhhobfjjaeaaDoorWit
import Derived.Test.YtajjhhobfjjaeaaDoorArgs
import Derived.Test.YtajjhhobfjjaeaaDoorG8
import Derived.Test.YtajjhhobfjjaeaaDoorTabs
namespace Go.Proofs.YtajjhhobfjjaeaaDoor
open Go Go.RowKit
theorem cell_size {w : World} {b o : Nat} {v : Value} (h : w.cell? ⟨b, o, none⟩ = some v) : b < w.heap.size := by
  refine Nat.lt_of_not_le fun hn => ?_
  have : w.heap[b]? = none := Array.getElem?_eq_none hn
  simp [World.cell?, this] at h
theorem GL.size {w : World} (h : GL w) : ∀ b, GB b = true → b < w.heap.size := fun b hb => by
  simp only [GB, Bool.or_eq_true, beq_iff_eq] at hb
  rcases hb with rfl | rfl
  · exact cell_size (h.1 0 (by decide))
  · exact cell_size (h.2 0 (by decide)).1
theorem lawMay_any (d : D) (w : World) (v : Value) (hT : Tabs w) (hok : d.Ok) (h : IsD w d v) :
    Calls Tryd.prog 3 #[v] w fun e w' => e = .returned (.bool true) ∧ Ext w w' :=
  (lawMay_pure d hok).calls (vs := [v]) hT (GL.size hT) (by simp only [Cas]; exact ⟨v, [], rfl, h.ca, rfl⟩)
end Go.Proofs.YtajjhhobfjjaeaaDoor
namespace Go.Proofs.YtajjhhobfjjaeaaDoor.LMay
open Go.ChangeShapes Go.WideShapes Go.ChangeAt Go.RowKit
set_option linter.unusedSimpArgs false
set_option linter.unusedVariables false

theorem contract (H : Type) (enc : TypeId × Value → H) (W : World) (base : Nat) (args : Array Value) (ds gs : List (DataW H)) (before : List MemPlace)
    (hval : ∀ (j : Nat) t v, Tryd.f3.params[j]? = some t → args[j]? = some v → Value.okWide Tryd.prog W .any base t v)
    (hW : DataW.Whole enc Tryd.prog Tryd.f3.params.toList Rows.datumMaySpec.vars false W args.toList ds gs before)
    (hw : (DataW.weightsEach Tryd.prog (Tryd.f3.params.toList ++ (OpenSpec.ofChange Rows.datumMaySpec).bare.plain.varTypes Tryd.prog) (ds ++ gs)).all (· ≤ reachBytes) = true)
    (hL : laidMetH Tryd.prog Rows.datumMayRow.laid W) :
    Calls Tryd.prog 3 args W fun e W' => ∃ v, e = .returned v ∧ Rows.datumMaySpec.post enc Tryd.prog Tryd.f3 false true false false W args v W' := by
  have hW' := hW
  obtain ⟨p, q, hA, hV, rfl, hfz, hnd⟩ := hW
  have hp := Tryd.params3
  rw [hp] at hA hval hw
  obtain ⟨v0, vs0, d0, ds0, p0, q0, hargs, rfl, rfl, h0, r0⟩ := trodAll_cons hA
  obtain ⟨rfl, rfl, rfl⟩ := trodAll_nil r0
  obtain rfl : args = #[v0] := by cases args; simp_all
  obtain ⟨hw0, hw⟩ := weights_cons hw
  obtain ⟨x0, hx0, ho0⟩ := argD (hval 0 _ _ rfl rfl) h0 hw0
  refine (lawMay_any x0 W v0 (tabs_of hL) ho0 hx0).mono fun e W9 ⟨he, hx⟩ => ⟨_, he, law_post hW' rfl (fun e => by subst e; rfl) (by kernel_rfl) ?_ hx⟩
  rw [hp]
  simp only [List.mem_cons, List.not_mem_nil, or_false]
  rintro t rfl
  exact of_decide_eq_true (by kernel_rfl)

theorem reads (os : Os) {H : Type} (enc : TypeId × Value → H) : ∃ places, DataW.whole enc Tryd.prog ((laidWorld os).forCall (fun _ _ => 0) ⟨#[], #[dat0], []⟩).memory Tryd.f3.params.toList Rows.datumMaySpec.vars false (#[dat0] : Array Value).toList 8 = some ([.agg [.lit (.int .i64 0), .lit (.int .i32 0), .agg [.lit (.bool false), .nil], .lit (.string []), .nil]], [], places) :=
  ⟨[], by kernel_rfl⟩
set_option maxRecDepth 100000 in
theorem lifted (os : Os) (started : os.Started) (H : Type) (enc : TypeId × Value → H) (F : Stop.Interp) :
    ReturnsInHanded {} Tryd.checked os 3 .any ((OpenSpec.ofChange Rows.datumMaySpec).preRow enc Tryd.prog Tryd.f3 Rows.datumMayRow.domain false Rows.datumMayRow.laid) (((OpenSpec.ofChange Rows.datumMaySpec).at F).post enc Tryd.prog Tryd.f3 false true false false) := by
  obtain ⟨x, hx⟩ := reads os enc
  refine returnsInHanded_of_row (C := Tryd.checked) (s := OpenSpec.ofChange Rows.datumMaySpec) own0 started (by kernel_rfl) Tryd.func3
    (witness_row_at (enc := enc) (C := Tryd.checked) false (laidWorld os) #[dat0] rfl (by kernel_rfl) (by kernel_rfl) (by kernel_rfl)
      (OpenSpec.preRow_of_cond 8 hx (by kernel_rfl) (fun k hk => by cases hk) (by kernel_rfl) (laid_met os _))) ?_
  intro W base args ds gs before hval hW _ _ hw hL _ _
  exact contract H enc W base args ds gs before hval hW hw hL
theorem said : Rows.DatumMaySaid :=
  OpenClaim.holds_of_cond 3 Tryd.f3 rfl rfl rfl rfl rfl rfl rfl ⟨rfl, rfl, rfl, rfl, rfl⟩ rfl rfl rfl rfl rfl (by kernel_rfl) Tryd.func3 (by kernel_rfl)
    (of_decide_eq_true (by kernel_rfl)) (by unfold Func.isWrapper; first | (rw [if_pos (by decide +kernel)]; kernel_rfl) | (rw [if_neg (by decide +kernel)]; exact ⟨rfl, rfl⟩))
    (fun os started H enc _ F => by rw [OpenClaim.pre_eq_preRow]; exact lifted os started H enc F)
/-- No parameter wants a stand-in. -/
theorem plain (f : FuncId) (fn : Func) (hf : Tryd.pinned.checked.prog.funcNamed "moraine/morainelaw03.DatumMay" = some f) (hfn : Tryd.pinned.checked.prog.funcs[f]? = some fn) :
    false = Tryd.pinned.checked.prog.looks [] ∧ ∀ (j : Nat) t, fn.params[j]? = some t → Tryd.pinned.checked.prog.wantsStandIn t = false := by
  obtain rfl : f = 3 := Option.some.inj ((show Tryd.prog.funcNamed "moraine/morainelaw03.DatumMay" = some 3 by kernel_rfl).symm.trans hf) |>.symm
  obtain rfl : fn = Tryd.f3 := (Option.some.inj (Tryd.func3.symm.trans hfn)).symm
  refine ⟨by kernel_rfl, fun j t ht => ?_⟩
  have hp := Tryd.params3
  have ht' := Array.mem_def.1 (Array.mem_of_getElem? ht)
  rw [hp] at ht'
  simp only [List.mem_cons, List.not_mem_nil, or_false] at ht'
  revert ht'
  rintro rfl
  all_goals exact (show Tryd.prog.wantsStandIn _ = false by kernel_rfl)
/-- The card. -/
theorem card : Rows.DatumMayCardSaid :=
  Claim7.holds_tied_plain_at .later [] _ _ _ _ said (fun _ h => by cases h) (by kernel_rfl) (fun _ h => by cases h) datumMay_row_tie rfl ⟨rfl, rfl⟩ (by kernel_rfl) rfl plain (by kernel_rfl)

end Go.Proofs.YtajjhhobfjjaeaaDoor.LMay
