/-
 The frame of a law's row: what is behind the call reads as it read; the witness's world; the tables.
-/
import Derived.Test.YtaeioidifpebdaaGreatDoorRead
import Derived.Test.YtaeioidifpebdaaGreatDoorCards
import Derived.Test.YtaeioidifpebdaaGreatDoorTie
import Derived.ProofKit
import Derived.OpenShut
import Derived.ReadAgain
import Derived.Deep.DeepHandedRow
import Derived.Lib.LaidIn
namespace Go.Proofs.YtaeioidifpebdaaGreatDoor
open Go.ChangeShapes Go.WideShapes Go.ChangeAt Go.RowKit
set_option linter.unusedSimpArgs false
set_option linter.unusedVariables false
set_option maxRecDepth 100000

theorem YB:ownKnob Tryz.prog.godebug=none:=by kernel_rfl
theorem WZ:Kids Tryz.prog (·<Tryz.prog.types.size):=kids_rows (by kernel_rfl) (by kernel_rfl)
theorem XA:∀t e,t<Tryz.prog.types.size→Tryz.prog.underlying t=some (.slice e)→0<Tryz.prog.cellsOf e:=slices_full_of Tryz.prog (by kernel_rfl)

theorem JP {w w':World} (h:Ext w w') {p:MemPlace} (hp:p.block<w.heap.size):w.sameAt w' p:=by
 have:=h.block p.block hp
 unfold World.sameAt
 cases p<;>simp_all [MemPlace.block,World.cell?]
theorem wR {H:Type} {enc:TypeId × Value→H} {P:Program} {w w':World} (hx:Ext w w') {sp:Nat→Bool} {base:Nat} {held:Bool}:∀{ts:List TypeId} {vs:List Value} {ds:List (DataW H)} {ps:List MemPlace},
  DataW.TrodAll enc P w base sp held ts vs ds ps→DataW.TrodAll enc P w' base sp held ts vs ds ps
 | [],[],[],_,h=>h
 | _::_,_::_,_::_,_,h=>by
  have hlt:=DataW.TrodAll.lt h
  obtain⟨p,q,⟨n,h1⟩,h2,e⟩:=h
  exact⟨p,q,⟨n,DataW.trod_carry n _ _ _ h1 (fun x hx'=>JP hx (hlt x (by rw [e];exact List.mem_append_left _ hx')))⟩,wR hx h2,e⟩
theorem Ext.kept {W W':World} (h:Ext W W') (may:MemPlace→Prop):W.keptBut W' may:=by
 refine⟨h.os,h.output,fun i hi=>?_⟩
 rw [h.block i hi]
 cases W.heap[i]? with
 | none=>trivial
 | some o=>cases o<;>simp

theorem PV {H:Type} {enc:TypeId × Value→H} {f:Func} {s:ChangeSpec} {apart fresh handsOn again:Bool} {W W':World} {args:Array Value} {ds gs:List (DataW H)} {before:List MemPlace}
  (hW:DataW.Whole enc Tryz.prog f.params.toList s.vars apart W args.toList ds gs before) (hv:s.vars=[]) (hfn:gs=[]→s.fn H (ds++gs)={ results:=[.lit (.bool true)],args:=ds })
  (hr:f.resultTypes=#[4]) (hT:∀t∈f.params.toList,t<Tryz.prog.types.size) (hx:Ext W W'):s.post enc Tryz.prog f apart fresh handsOn again W args (.bool true) W':=by
 have hlt:=hW.lt
 have hW0:=hW
 obtain⟨p,q,hA,hV,hpq,hz,hn⟩:=hW
 rw [hv] at hV
 obtain⟨rfl,rfl⟩:=trodVars_none hV
 rw [List.append_nil] at hpq
 subst hpq
 have hfn:=hfn rfl
 have hag:∀sp:Nat→Bool,(∀x∈before,sp x.block=true)→DataW.TrodAll enc Tryz.prog W' 0 sp true f.params.toList args.toList ds before:=fun sp hsp=>wR hx (DataW.TrodAll.respare WZ XA hT hA hsp)
 have hres:∀(b:Nat) (sp:Nat→Bool) (hd:Bool),DataW.TrodAll enc Tryz.prog W' b sp hd f.resultTypes.toList ((Value.bool true).resultList f.resultTypes.size) [.lit (.bool true)] []:=fun b sp hd=>by
  rw [hr];exact trodAll_cons_mk (shut_bool Tryz.underlying4 _) trodAll_mk0
 have hok:=ok_one (P:=Tryz.prog) (W':=W') (f:=f) (v:=.bool true) hr rfl (okWide_bool_mk Tryz.underlying4 true)
 have hold:∀x∈before,(fun b=>decide (b<W.heap.size)) x.block=true:=fun x hx=>by simpa using hlt x hx
 have hvs:∀sp,DataW.TrodVars enc Tryz.prog W' sp s.vars (s.fn H (ds++[])).vars []:=fun sp=>by rw [hv,hfn];rfl
 refine⟨ds,[],before,[],before,[],hW0,by rw [hfn];exact hres _ _ _,by rw [hfn];exact hag _ hold,hvs _,hx.kept _,fun _=>?_⟩
 refine⟨hok,_,_,([]++before)++[],⟨[]++before,[],trodAll_append (hag _ (fun _ _=>rfl)) (hres _ _ _),hvs _,rfl,?_,?_⟩,?_⟩
 ·intro b off hp
  have hp':MemPlace.cell b off∈before:=by simpa using hp
  have h1:=hz b off hp'
  have h2:=hx.block b (hlt _ hp')
  unfold World.frozen? at h1 ⊢
  simp only [h2]
  exact h1
 ·intro ha
  simpa using hn ha
 ·intro x hx _
  simpa using hx
end Go.Proofs.YtaeioidifpebdaaGreatDoor
