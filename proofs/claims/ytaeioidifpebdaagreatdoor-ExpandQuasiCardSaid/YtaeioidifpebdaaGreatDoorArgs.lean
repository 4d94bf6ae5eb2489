/-
 The arguments of a law, opened: data, rows of data, numbers, texts.
-/
import Derived.Test.YtaeioidifpebdaaGreatDoorRow
namespace Go.Proofs.YtaeioidifpebdaaGreatDoor
open Go.ChangeShapes Go.WideShapes Go.ChangeAt Go.RowKit
set_option linter.unusedSimpArgs false
set_option linter.unusedVariables false
set_option maxRecDepth 100000

theorem uL {H:Type} {P:Program} {t:TypeId} {ts vs:List TypeId} {d:DataW H} {ds gs:List (DataW H)} (h:(DataW.weightsEach P ((t::ts)++vs) ((d::ds)++gs)).all (·≤reachBytes)=true) :
  (∀k∈d.weights P t,k≤reachBytes)∧(DataW.weightsEach P (ts++vs) (ds++gs)).all (·≤reachBytes)=true:=by
 simp only [List.cons_append,DataW.weightsEach,List.all_append,Bool.and_eq_true] at h
 refine⟨fun k hk=>?_,h.2⟩
 have:=List.all_eq_true.1 h.1 k hk
 simpa using this
section
variable {H:Type} {enc:TypeId × Value→H} {w:World} {base base':Nat} {spare:Nat→Bool} {held:Bool} {v:Value} {d:DataW H} {ps:List MemPlace}
theorem XB (hok:Value.okWide Tryz.prog w .any base' 28 v) (h:DataW.Trod enc Tryz.prog w base spare held 28 v d ps) (hw:∀k∈d.weights Tryz.prog 28,k≤reachBytes):∃x:D,IsD w x v∧x.Ok:=by
 obtain⟨n,h⟩:=h
 obtain⟨x,h1,h2⟩:=WY n _ _ h hw
 simp only [Value.okWide,Tryz.underlying28] at hok
 obtain⟨cs,rfl,-,-⟩:=hok
 exact⟨x,⟨cs.toList,by simp,h1⟩,h2⟩
end
def NH:Value:=.agg #[.int .i64 0,.int .i32 0,.bool false,.slice none 0 0,.string ⟨#[]⟩,.slice none 0 0]
end Go.Proofs.YtaeioidifpebdaaGreatDoor
