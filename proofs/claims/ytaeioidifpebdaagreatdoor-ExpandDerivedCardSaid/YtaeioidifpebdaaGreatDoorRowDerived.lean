/-
  ExpandDerived: for any text and any three data the law returns true. The row, and its card.
-/
import Derived.Test.YtaeioidifpebdaaGreatDoorGB
import Derived.Test.YtaeioidifpebdaaGreatDoorArgs
import Derived.Test.YtaeioidifpebdaaGreatDoorGE
namespace Go.Proofs.YtaeioidifpebdaaGreatDoor
open Go Go.RowKit
theorem DE (v:ByteArray) (x y z:D) (w:World) (v1 v2 v3:Value) (hg:GL w) (hv:v.size≤140737488351232) (hx:x.Ok) (hy:y.Ok) (hz:z.Ok) (h1:IsD w x v1) (h2:IsD w y v2) (h3:IsD w z v3) :
    Calls Tryz.prog 5 #[.string v,v1,v2,v3] w fun e w'=>e=.returned (.bool true)∧Ext w w' :=
  (zU v x y z hv hx hy hz).calls (vs:=[.string v,v1,v2,v3]) hg (GL.size hg) (by simp only [Cas];exact⟨_,_,rfl,by simp only [Ca,Cc];exact⟨trivial,rfl⟩,v1,_,rfl,h1.ca,v2,_,rfl,h2.ca,v3,[],rfl,h3.ca,rfl⟩)
end Go.Proofs.YtaeioidifpebdaaGreatDoor
namespace Go.Proofs.YtaeioidifpebdaaGreatDoor.LDerived
open Go.ChangeShapes Go.WideShapes Go.ChangeAt Go.RowKit
set_option linter.unusedSimpArgs false
set_option linter.unusedVariables false
set_option maxRecDepth 100000

theorem contract (H:Type) (enc:TypeId × Value→H) (W:World) (base:Nat) (args:Array Value) (ds gs:List (DataW H)) (before:List MemPlace)
    (hval:∀(j:Nat) t v,Tryz.f5.params[j]?=some t→args[j]?=some v→Value.okWide Tryz.prog W .any base t v)
    (hW:DataW.Whole enc Tryz.prog Tryz.f5.params.toList Rows.expandDerivedSpec.vars false W args.toList ds gs before)
    (hw:(DataW.weightsEach Tryz.prog (Tryz.f5.params.toList++(OpenSpec.ofChange Rows.expandDerivedSpec).bare.plain.varTypes Tryz.prog) (ds++gs)).all (·≤reachBytes)=true)
    (hL:laidMetH Tryz.prog Rows.expandDerivedRow.laid W) :
    Calls Tryz.prog 5 args W fun e W'=>∃v,e=.returned v∧Rows.expandDerivedSpec.post enc Tryz.prog Tryz.f5 false true false false W args v W':=by
  have hW':=hW
  obtain⟨p,q,hA,hV,rfl,hfz,hnd⟩:=hW
  have hp:=Tryz.params5
  rw [hp] at hA hval hw
  obtain⟨v0,vs0,d0,ds0,p0,q0,hargs,rfl,rfl,h0,r0⟩:=trodAll_cons hA
  obtain⟨v1,vs1,d1,ds1,p1,q1,rfl,rfl,rfl,h1,r1⟩:=trodAll_cons r0
  obtain⟨v2,vs2,d2,ds2,p2,q2,rfl,rfl,rfl,h2,r2⟩:=trodAll_cons r1
  obtain⟨v3,vs3,d3,ds3,p3,q3,rfl,rfl,rfl,h3,r3⟩:=trodAll_cons r2
  obtain⟨rfl,rfl,rfl⟩:=trodAll_nil r3
  obtain rfl:args=#[v0,v1,v2,v3]:=by cases args;simp_all
  obtain⟨hw0,hw⟩:=mZ hw
  obtain⟨x0,rfl,ho0⟩:=XS (hval 0 _ _ rfl rfl) h0 hw0
  obtain⟨hw1,hw⟩:=mZ hw
  obtain⟨x1,hx1,ho1⟩:=XR (hval 1 _ _ rfl rfl) h1 hw1
  obtain⟨hw2,hw⟩:=mZ hw
  obtain⟨x2,hx2,ho2⟩:=XR (hval 2 _ _ rfl rfl) h2 hw2
  obtain⟨hw3,hw⟩:=mZ hw
  obtain⟨x3,hx3,ho3⟩:=XR (hval 3 _ _ rfl rfl) h3 hw3
  refine (DE x0 x1 x2 x3 W v1 v2 v3 (ZV hL) ho0 ho1 ho2 ho3 hx1 hx2 hx3).mono fun e W9 ⟨he,hx⟩=>⟨_,he,SB hW' rfl (fun e=>by subst e;rfl) (by kernel_rfl) ?_ hx⟩
  rw [hp]
  simp only [List.mem_cons,List.not_mem_nil,or_false]
  rintro t (rfl|rfl|rfl|rfl)
  all_goals exact of_decide_eq_true (by kernel_rfl)

theorem reads (os:Os) {H:Type} (enc:TypeId × Value→H):∃places,DataW.whole enc Tryz.prog ((xZ os).forCall (fun _ _=>0) ⟨#[],#[.string ⟨#[]⟩,FD,FD,FD],[]⟩).memory Tryz.f5.params.toList Rows.expandDerivedSpec.vars false (#[.string ⟨#[]⟩,FD,FD,FD]:Array Value).toList 8=some ([.lit (.string []),.agg [.lit (.int .i64 0),.lit (.int .i32 0),.agg [.lit (.bool false),.nil],.lit (.string []),.nil],.agg [.lit (.int .i64 0),.lit (.int .i32 0),.agg [.lit (.bool false),.nil],.lit (.string []),.nil],.agg [.lit (.int .i64 0),.lit (.int .i32 0),.agg [.lit (.bool false),.nil],.lit (.string []),.nil]],[],places) :=
  ⟨[],by kernel_rfl⟩
set_option maxRecDepth 100000 in
theorem ZG (os:Os) (started:os.Started) (H:Type) (enc:TypeId × Value→H) (F:Stop.Interp) :
    ReturnsInHanded {} Tryz.checked os 5 .any ((OpenSpec.ofChange Rows.expandDerivedSpec).preRow enc Tryz.prog Tryz.f5 Rows.expandDerivedRow.domain false Rows.expandDerivedRow.laid) (((OpenSpec.ofChange Rows.expandDerivedSpec).at F).post enc Tryz.prog Tryz.f5 false true false false):=by
  obtain⟨x,hx⟩:=reads os enc
  refine returnsInHanded_of_row (C:=Tryz.checked) (s:=OpenSpec.ofChange Rows.expandDerivedSpec) aAG started (by kernel_rfl) Tryz.func5
    (witness_row_at (enc:=enc) (C:=Tryz.checked) false (xZ os) #[.string ⟨#[]⟩,FD,FD,FD] rfl (by kernel_rfl) (by kernel_rfl) (by kernel_rfl)
      (OpenSpec.preRow_of_cond 8 hx (by kernel_rfl) (fun k hk=>by cases hk) (by kernel_rfl) (TP os _))) ?_
  intro W base args ds gs before hval hW _ _ hw hL _ _
  exact contract H enc W base args ds gs before hval hW hw hL
theorem aAZ:Rows.ExpandDerivedSaid :=
  OpenClaim.holds_of_cond 5 Tryz.f5 rfl rfl rfl rfl rfl rfl rfl ⟨rfl,rfl,rfl,rfl,rfl⟩ rfl rfl rfl rfl rfl (by kernel_rfl) Tryz.func5 (by kernel_rfl)
    (of_decide_eq_true (by kernel_rfl)) (by unfold Func.isWrapper;first|(rw [if_pos (by decide +kernel)];kernel_rfl)|(rw [if_neg (by decide +kernel)];exact⟨rfl,rfl⟩))
    (fun os started H enc _ F=>by rw [OpenClaim.pre_eq_preRow];exact ZG os started H enc F)
/-- No parameter vW a stand-in. -/
theorem plain (f:FuncId) (fn:Func) (hf:Tryz.pinned.checked.prog.funcNamed "moraine/morainelaw18.ExpandDerived" = some f) (hfn:Tryz.pinned.checked.prog.funcs[f]?=some fn) :
    true=Tryz.pinned.checked.prog.looks []∧∀(j:Nat) t,fn.params[j]?=some t→Tryz.pinned.checked.prog.wantsStandIn t=false:=by
  obtain rfl:f=5:=Option.some.inj ((show Tryz.prog.funcNamed "moraine/morainelaw18.ExpandDerived" = some 5 by kernel_rfl).symm.trans hf) |>.symm
  obtain rfl:fn=Tryz.f5:=(Option.some.inj (Tryz.func5.symm.trans hfn)).symm
  refine⟨by kernel_rfl,fun j t ht=>?_⟩
  have hp:=Tryz.params5
  have ht':=Array.mem_def.1 (Array.mem_of_getElem? ht)
  rw [hp] at ht'
  simp only [List.mem_cons,List.not_mem_nil,or_false] at ht'
  revert ht'
  rintro (rfl|rfl|rfl|rfl)
  all_goals exact (show Tryz.prog.wantsStandIn _=false by kernel_rfl)
/-- The card. -/
theorem card:Rows.ExpandDerivedCardSaid :=
  Claim7.holds_tied_plain_at .later [] _ _ _ _ aAZ (fun _ h=>by cases h) (by kernel_rfl) (fun _ h=>by cases h) expandDerived_row_tie rfl ⟨rfl,rfl⟩ (by kernel_rfl) rfl plain (by kernel_rfl)

end Go.Proofs.YtaeioidifpebdaaGreatDoor.LDerived
