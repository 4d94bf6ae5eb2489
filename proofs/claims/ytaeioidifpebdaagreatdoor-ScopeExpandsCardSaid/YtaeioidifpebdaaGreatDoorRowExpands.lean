/-
  ScopeExpands: for any datum the law returns true. The row, and its card.
-/
import Derived.Test.YtaeioidifpebdaaGreatDoorGB
import Derived.Test.YtaeioidifpebdaaGreatDoorArgs
import Derived.Test.YtaeioidifpebdaaGreatDoorGE
namespace Go.Proofs.YtaeioidifpebdaaGreatDoor
open Go Go.RowKit
theorem BQ (d:D) (w:World) (v:Value) (hg:GL w) (ha:d.Ok) (h1:IsD w d v) :
    Calls Tryz.prog 9 #[v] w fun e w'=>e=.returned (.bool true)∧Ext w w' :=
  (yM d ha).calls (vs:=[v]) hg (GL.size hg) (by simp only [Cas];exact⟨v,[],rfl,h1.ca,rfl⟩)
end Go.Proofs.YtaeioidifpebdaaGreatDoor
namespace Go.Proofs.YtaeioidifpebdaaGreatDoor.LExpands
open Go.ChangeShapes Go.WideShapes Go.ChangeAt Go.RowKit
set_option linter.unusedSimpArgs false
set_option linter.unusedVariables false
set_option maxRecDepth 100000

theorem contract (H:Type) (enc:TypeId × Value→H) (W:World) (base:Nat) (args:Array Value) (ds gs:List (DataW H)) (before:List MemPlace)
    (hval:∀(j:Nat) t v,Tryz.f9.params[j]?=some t→args[j]?=some v→Value.okWide Tryz.prog W .any base t v)
    (hW:DataW.Whole enc Tryz.prog Tryz.f9.params.toList Rows.scopeExpandsSpec.vars false W args.toList ds gs before)
    (hw:(DataW.weightsEach Tryz.prog (Tryz.f9.params.toList++(OpenSpec.ofChange Rows.scopeExpandsSpec).bare.plain.varTypes Tryz.prog) (ds++gs)).all (·≤reachBytes)=true)
    (hL:laidMetH Tryz.prog Rows.scopeExpandsRow.laid W) :
    Calls Tryz.prog 9 args W fun e W'=>∃v,e=.returned v∧Rows.scopeExpandsSpec.post enc Tryz.prog Tryz.f9 false true false false W args v W':=by
  have hW':=hW
  obtain⟨p,q,hA,hV,rfl,hfz,hnd⟩:=hW
  have hp:=Tryz.params9
  rw [hp] at hA hval hw
  obtain⟨v0,vs0,d0,ds0,p0,q0,hargs,rfl,rfl,h0,r0⟩:=trodAll_cons hA
  obtain⟨rfl,rfl,rfl⟩:=trodAll_nil r0
  obtain rfl:args=#[v0]:=by cases args;simp_all
  obtain⟨hw0,hw⟩:=ED hw
  obtain⟨x0,hx0,ho0⟩:=YH (hval 0 _ _ rfl rfl) h0 hw0
  refine (BQ x0 W v0 (XP hL) ho0 hx0).mono fun e W9 ⟨he,hx⟩=>⟨_,he,QO hW' rfl (fun e=>by subst e;rfl) (by kernel_rfl) ?_ hx⟩
  rw [hp]
  simp only [List.mem_cons,List.not_mem_nil,or_false]
  rintro t rfl
  exact of_decide_eq_true (by kernel_rfl)

theorem reads (os:Os) {H:Type} (enc:TypeId × Value→H):∃places,DataW.whole enc Tryz.prog ((wO os).forCall (fun _ _=>0) ⟨#[],#[VU],[]⟩).memory Tryz.f9.params.toList Rows.scopeExpandsSpec.vars false (#[VU]:Array Value).toList 8=some ([.agg [.lit (.int .i64 0),.lit (.int .i32 0),.agg [.lit (.bool false),.nil],.lit (.string []),.nil]],[],places) :=
  ⟨[],by kernel_rfl⟩
set_option maxRecDepth 100000 in
theorem XF (os:Os) (started:os.Started) (H:Type) (enc:TypeId × Value→H) (F:Stop.Interp) :
    ReturnsInHanded {} Tryz.checked os 9 .any ((OpenSpec.ofChange Rows.scopeExpandsSpec).preRow enc Tryz.prog Tryz.f9 Rows.scopeExpandsRow.domain false Rows.scopeExpandsRow.laid) (((OpenSpec.ofChange Rows.scopeExpandsSpec).at F).post enc Tryz.prog Tryz.f9 false true false false):=by
  obtain⟨x,hx⟩:=reads os enc
  refine returnsInHanded_of_row (C:=Tryz.checked) (s:=OpenSpec.ofChange Rows.scopeExpandsSpec) YG started (by kernel_rfl) Tryz.func9
    (witness_row_at (enc:=enc) (C:=Tryz.checked) false (wO os) #[VU] rfl (by kernel_rfl) (by kernel_rfl) (by kernel_rfl)
      (OpenSpec.preRow_of_cond 8 hx (by kernel_rfl) (fun k hk=>by cases hk) (by kernel_rfl) (RV os _))) ?_
  intro W base args ds gs before hval hW _ _ hw hL _ _
  exact contract H enc W base args ds gs before hval hW hw hL
theorem YX:Rows.ScopeExpandsSaid :=
  OpenClaim.holds_of_cond 9 Tryz.f9 rfl rfl rfl rfl rfl rfl rfl ⟨rfl,rfl,rfl,rfl,rfl⟩ rfl rfl rfl rfl rfl (by kernel_rfl) Tryz.func9 (by kernel_rfl)
    (of_decide_eq_true (by kernel_rfl)) (by unfold Func.isWrapper;first|(rw [if_pos (by decide +kernel)];kernel_rfl)|(rw [if_neg (by decide +kernel)];exact⟨rfl,rfl⟩))
    (fun os started H enc _ F=>by rw [OpenClaim.pre_eq_preRow];exact XF os started H enc F)
/-- No parameter uG a stand-in. -/
theorem plain (f:FuncId) (fn:Func) (hf:Tryz.pinned.checked.prog.funcNamed "moraine/morainelaw19.ScopeExpands" = some f) (hfn:Tryz.pinned.checked.prog.funcs[f]?=some fn) :
    true=Tryz.pinned.checked.prog.looks []∧∀(j:Nat) t,fn.params[j]?=some t→Tryz.pinned.checked.prog.wantsStandIn t=false:=by
  obtain rfl:f=9:=Option.some.inj ((show Tryz.prog.funcNamed "moraine/morainelaw19.ScopeExpands" = some 9 by kernel_rfl).symm.trans hf) |>.symm
  obtain rfl:fn=Tryz.f9:=(Option.some.inj (Tryz.func9.symm.trans hfn)).symm
  refine⟨by kernel_rfl,fun j t ht=>?_⟩
  have hp:=Tryz.params9
  have ht':=Array.mem_def.1 (Array.mem_of_getElem? ht)
  rw [hp] at ht'
  simp only [List.mem_cons,List.not_mem_nil,or_false] at ht'
  revert ht'
  rintro rfl
  all_goals exact (show Tryz.prog.wantsStandIn _=false by kernel_rfl)
/-- The card. -/
theorem card:Rows.ScopeExpandsCardSaid :=
  Claim7.holds_tied_plain_at .later [] _ _ _ _ YX (fun _ h=>by cases h) (by kernel_rfl) (fun _ h=>by cases h) scopeExpands_row_tie rfl ⟨rfl,rfl⟩ (by kernel_rfl) rfl plain (by kernel_rfl)

end Go.Proofs.YtaeioidifpebdaaGreatDoor.LExpands
