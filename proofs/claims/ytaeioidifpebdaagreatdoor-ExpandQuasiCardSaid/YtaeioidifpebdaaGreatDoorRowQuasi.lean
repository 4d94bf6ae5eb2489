/-
  ExpandQuasi: for any two data the law returns true. The row, and its card.
-/
import Derived.Test.YtaeioidifpebdaaGreatDoorGB
import Derived.Test.YtaeioidifpebdaaGreatDoorArgs
import Derived.Test.YtaeioidifpebdaaGreatDoorGE
namespace Go.Proofs.YtaeioidifpebdaaGreatDoor
open Go Go.RowKit
theorem FT (x y:D) (w:World) (v1 v2:Value) (hg:GL w) (hx:x.Ok) (hy:y.Ok) (h1:IsD w x v1) (h2:IsD w y v2) :
    Calls Tryz.prog 6 #[v1,v2] w fun e w'=>e=.returned (.bool true)∧Ext w w' :=
  (CD x y hx hy).calls (vs:=[v1,v2]) hg (GL.size hg) (by simp only [Cas];exact⟨v1,_,rfl,h1.ca,v2,[],rfl,h2.ca,rfl⟩)
end Go.Proofs.YtaeioidifpebdaaGreatDoor
namespace Go.Proofs.YtaeioidifpebdaaGreatDoor.LQuasi
open Go.ChangeShapes Go.WideShapes Go.ChangeAt Go.RowKit
set_option linter.unusedSimpArgs false
set_option linter.unusedVariables false
set_option maxRecDepth 100000

theorem contract (H:Type) (enc:TypeId × Value→H) (W:World) (base:Nat) (args:Array Value) (ds gs:List (DataW H)) (before:List MemPlace)
    (hval:∀(j:Nat) t v,Tryz.f6.params[j]?=some t→args[j]?=some v→Value.okWide Tryz.prog W .any base t v)
    (hW:DataW.Whole enc Tryz.prog Tryz.f6.params.toList Rows.expandQuasiSpec.vars false W args.toList ds gs before)
    (hw:(DataW.weightsEach Tryz.prog (Tryz.f6.params.toList++(OpenSpec.ofChange Rows.expandQuasiSpec).bare.plain.varTypes Tryz.prog) (ds++gs)).all (·≤reachBytes)=true)
    (hL:laidMetH Tryz.prog Rows.expandQuasiRow.laid W) :
    Calls Tryz.prog 6 args W fun e W'=>∃v,e=.returned v∧Rows.expandQuasiSpec.post enc Tryz.prog Tryz.f6 false true false false W args v W':=by
  have hW':=hW
  obtain⟨p,q,hA,hV,rfl,hfz,hnd⟩:=hW
  have hp:=Tryz.params6
  rw [hp] at hA hval hw
  obtain⟨v0,vs0,d0,ds0,p0,q0,hargs,rfl,rfl,h0,r0⟩:=trodAll_cons hA
  obtain⟨v1,vs1,d1,ds1,p1,q1,rfl,rfl,rfl,h1,r1⟩:=trodAll_cons r0
  obtain⟨rfl,rfl,rfl⟩:=trodAll_nil r1
  obtain rfl:args=#[v0,v1]:=by cases args;simp_all
  obtain⟨hw0,hw⟩:=uL hw
  obtain⟨x0,hx0,ho0⟩:=XB (hval 0 _ _ rfl rfl) h0 hw0
  obtain⟨hw1,hw⟩:=uL hw
  obtain⟨x1,hx1,ho1⟩:=XB (hval 1 _ _ rfl rfl) h1 hw1
  refine (FT x0 x1 W v0 v1 (XN hL) ho0 ho1 hx0 hx1).mono fun e W9 ⟨he,hx⟩=>⟨_,he,PV hW' rfl (fun e=>by subst e;rfl) (by kernel_rfl) ?_ hx⟩
  rw [hp]
  simp only [List.mem_cons,List.not_mem_nil,or_false]
  rintro t (rfl|rfl)
  all_goals exact of_decide_eq_true (by kernel_rfl)

theorem reads (os:Os) {H:Type} (enc:TypeId × Value→H):∃places,DataW.whole enc Tryz.prog ((wJ os).forCall (fun _ _=>0) ⟨#[],#[NH,NH],[]⟩).memory Tryz.f6.params.toList Rows.expandQuasiSpec.vars false (#[NH,NH]:Array Value).toList 8=some ([.agg [.lit (.int .i64 0),.lit (.int .i32 0),.agg [.lit (.bool false),.nil],.lit (.string []),.nil],.agg [.lit (.int .i64 0),.lit (.int .i32 0),.agg [.lit (.bool false),.nil],.lit (.string []),.nil]],[],places) :=
  ⟨[],by kernel_rfl⟩
set_option maxRecDepth 100000 in
theorem WX (os:Os) (started:os.Started) (H:Type) (enc:TypeId × Value→H) (F:Stop.Interp) :
    ReturnsInHanded {} Tryz.checked os 6 .any ((OpenSpec.ofChange Rows.expandQuasiSpec).preRow enc Tryz.prog Tryz.f6 Rows.expandQuasiRow.domain false Rows.expandQuasiRow.laid) (((OpenSpec.ofChange Rows.expandQuasiSpec).at F).post enc Tryz.prog Tryz.f6 false true false false):=by
  obtain⟨x,hx⟩:=reads os enc
  refine returnsInHanded_of_row (C:=Tryz.checked) (s:=OpenSpec.ofChange Rows.expandQuasiSpec) YB started (by kernel_rfl) Tryz.func6
    (witness_row_at (enc:=enc) (C:=Tryz.checked) false (wJ os) #[NH,NH] rfl (by kernel_rfl) (by kernel_rfl) (by kernel_rfl)
      (OpenSpec.preRow_of_cond 8 hx (by kernel_rfl) (fun k hk=>by cases hk) (by kernel_rfl) (RL os _))) ?_
  intro W base args ds gs before hval hW _ _ hw hL _ _
  exact contract H enc W base args ds gs before hval hW hw hL
theorem YT:Rows.ExpandQuasiSaid :=
  OpenClaim.holds_of_cond 6 Tryz.f6 rfl rfl rfl rfl rfl rfl rfl ⟨rfl,rfl,rfl,rfl,rfl⟩ rfl rfl rfl rfl rfl (by kernel_rfl) Tryz.func6 (by kernel_rfl)
    (of_decide_eq_true (by kernel_rfl)) (by unfold Func.isWrapper;first|(rw [if_pos (by decide +kernel)];kernel_rfl)|(rw [if_neg (by decide +kernel)];exact⟨rfl,rfl⟩))
    (fun os started H enc _ F=>by rw [OpenClaim.pre_eq_preRow];exact WX os started H enc F)
/-- No parameter uM a stand-in. -/
theorem plain (f:FuncId) (fn:Func) (hf:Tryz.pinned.checked.prog.funcNamed "moraine/morainelaw18.ExpandQuasi" = some f) (hfn:Tryz.pinned.checked.prog.funcs[f]?=some fn) :
    true=Tryz.pinned.checked.prog.looks []∧∀(j:Nat) t,fn.params[j]?=some t→Tryz.pinned.checked.prog.wantsStandIn t=false:=by
  obtain rfl:f=6:=Option.some.inj ((show Tryz.prog.funcNamed "moraine/morainelaw18.ExpandQuasi" = some 6 by kernel_rfl).symm.trans hf) |>.symm
  obtain rfl:fn=Tryz.f6:=(Option.some.inj (Tryz.func6.symm.trans hfn)).symm
  refine⟨by kernel_rfl,fun j t ht=>?_⟩
  have hp:=Tryz.params6
  have ht':=Array.mem_def.1 (Array.mem_of_getElem? ht)
  rw [hp] at ht'
  simp only [List.mem_cons,List.not_mem_nil,or_false] at ht'
  revert ht'
  rintro (rfl|rfl)
  all_goals exact (show Tryz.prog.wantsStandIn _=false by kernel_rfl)
/-- The card. -/
theorem card:Rows.ExpandQuasiCardSaid :=
  Claim7.holds_tied_plain_at .later [] _ _ _ _ YT (fun _ h=>by cases h) (by kernel_rfl) (fun _ h=>by cases h) expandQuasi_row_tie rfl ⟨rfl,rfl⟩ (by kernel_rfl) rfl plain (by kernel_rfl)

end Go.Proofs.YtaeioidifpebdaaGreatDoor.LQuasi
