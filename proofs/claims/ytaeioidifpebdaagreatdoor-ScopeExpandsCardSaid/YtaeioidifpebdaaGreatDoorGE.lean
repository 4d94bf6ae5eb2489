/-
 Laid together: May19, Code19, Wgh19, Awk19, Exp19, LawExpands.
-/
import Derived.Test.YtaeioidifpebdaaGreatDoorG6
import Derived.Test.YtaeioidifpebdaaGreatDoorGD
import Derived.Test.YtaeioidifpebdaaGreatDoorGA
import Derived.Test.YtaeioidifpebdaaGreatDoorG4
import Derived.Test.YtaeioidifpebdaaGreatDoorGC
section
namespace Go.Proofs.YtaeioidifpebdaaGreatDoor
open Go Go.RowKit Go.Lib
set_option linter.unusedSimpArgs false
set_option linter.unusedVariables false
set_option maxHeartbeats 4000000
set_option maxRecDepth 100000
mutual
noncomputable def K.may:K→Bool→Bool
 | .mk k name rest params d l,top=>jJ (.mk k name rest params d l)&&eqB (K.mk k name rest params d l) (K.bare (.mk k name rest params d l))&&(if k=1 then yF d else (if k=4 then top&&!eqB name ⟨#[]⟩ else if k=2∨k=3∨k=10 then !eqB name ⟨#[]⟩ else if k=6 then vI (rJ (nO (.mk k name rest params d l))) else true)&&K.mays l (top&&decide (k=7)))
noncomputable def K.mays:List K→Bool→Bool
 | [],_=>true
 | c::l,t=>c.may t&&K.mays l t
end
theorem K.mays_any:∀(l:List K) (t:Bool),K.mays l t=!(l.any fun x=>!x.may t)
 | [],t=>by simp [K.mays]
 | c::l,t=>by rw [K.mays,K.mays_any l t];simp
mutual
def K.Sm:K→Prop
 | .mk _ _ _ params d l=>params.length≤1000000000∧d.count<1000000000∧K.Sms l
def K.Sms:List K→Prop
 | []=>True
 | c::l=>c.Sm∧K.Sms l
end
theorem K.Sms.get:∀{l:List K},K.Sms l→∀i (h:i<l.length),l[i].Sm
 | c::l,h,0,_=>h.1
 | c::l,h,i+1,hi=>K.Sms.get (l:=l) h.2 i (by simpa using hi)
theorem TH:∀n (c:K) (top:Bool),c.ht≤n→c.Ok→c.Sm→Pure Tryz.prog 50 [.agg c.cc,.one (.v (.bool top))] (.one (.v (.bool (c.may top)))):=by
 intro n
 induction n with
 | zero=>intro c top h;exact absurd h (by have:=c.ht_pos;omega)
 | succ n ih =>
  intro c top hh hok hsm
  have hcl:∀(t:Bool),∀x∈c.l,Pure Tryz.prog 74 (.agg x.cc::([.pf [.v (.bool t)]]:List C).map .one) (.one (.v (.bool (!x.may t)))):=fun t x hx=>by
   obtain⟨i,hi,rfl⟩:=List.mem_iff_getElem.1 hx
   have hlt:=K.ht_lt hi
   have hi2:=ih c.l[i] t (by omega) (hok.get i hi) (by cases c;exact hsm.2.2.get i hi)
   rw [K.cc_eq] at hi2 ⊢
   simp only [List.map_cons,List.map_nil]
   refine fi Tryz.func74 Tryz.ntmps74 Tryz.results74 ?_
   repeat (first|(apply fw;focus ((with_reducible constructor)<;>constructor))|((first|with_reducible refine ga _ rfl fun Y y=>?_|(refine ca ?_;apply Exists.intro;constructor;assumption;intro Y y)|apply ri);simp only [zb,seval,w74];refine fz y ?_;clear y Y))
   refine ye (by simp only [zb,seval,w74];rfl) (by simp only [zv];rfl) ?_
   rfl
  have hcf:=fun t=>yI 74 t (by kernel_rfl) c.l (fun x=>!x.may t) hok.len (hcl t)
  have hcn:=LM c
  have hbr:=PE c
  have hsa:=LJ c c.bare hok
  have hal:=JB c (by cases c;exact hsm.1)
  have hva:=AW (nO c) (by
   have:c.params.length≤1000000000:=by cases c;exact hsm.1
   unfold nO
   split<;>simp<;>omega)
  have hdm:=DM c.d hok.d (by cases c;exact hsm.2.1)
  obtain⟨k,name,rest,params,d,l⟩:=c
  have hme:K.may (.mk k name rest params d l) top=(jJ (.mk k name rest params d l)&&eqB (K.mk k name rest params d l) (K.bare (.mk k name rest params d l))&&(if k=1 then yF d else (if k=4 then top&&!eqB name ⟨#[]⟩ else if k=2∨k=3∨k=10 then !eqB name ⟨#[]⟩ else if k=6 then vI (rJ (nO (.mk k name rest params d l))) else true)&&K.mays l (top&&decide (k=7)))):=by rw [K.may]
  rw [hme]
  generalize hcb:jJ (.mk k name rest params d l)=cb at *
  generalize heb:eqB (K.mk k name rest params d l) (K.bare (.mk k name rest params d l))=eb at *
  generalize hab:vI (rJ (nO (.mk k name rest params d l)))=vb at *
  generalize nO (.mk k name rest params d l)=al at *
  generalize hbk:K.bare (.mk k name rest params d l)=bk at *
  rw [K.cc_eq (.mk k name rest params d l)] at hcn hbr hsa hal ⊢
  rw [K.cc_eq bk] at hbr hsa
  simp only [K.k,K.name,K.rest,K.params,K.d,K.l] at *
  rw [D.cc_eq] at hdm
  cases cb with
  | false =>
   refine fi Tryz.func50 Tryz.ntmps50 Tryz.results50 ?_
   repeat (first|(apply fw;focus ((with_reducible constructor)<;>constructor))|((first|with_reducible refine ga _ rfl fun Y y=>?_|apply ri);simp only [zb,seval,w50];refine fz y ?_;clear y Y))
   (refine WpA.draw0 10 _ _ _ rfl rfl rfl (by kernel_rfl) (by kernel_rfl) (by kernel_rfl) fun K8 hK8=>?_);simp only [zz] at hK8 ⊢;(refine Draw0.go fun K7 k=>?_);simp only [zb,seval,w50];(refine qz (k _ _ ?_));clear k K7
   refine Draw0.step (oz (hcn)) ?_
   (refine Draw0.go fun K7 k=>?_);simp only [zb,seval,w50];(refine qz (k _ _ ?_));clear k K7;(try ((refine Draw0.nil (hK8 _ ?_));clear hK8 K8;(refine WpL.go _ rfl fun Y y=>?_);repeat (first|(apply fw;focus ((with_reducible constructor)<;>constructor))|((first|with_reducible refine ga _ rfl fun Y y=>?_|apply ri);simp only [zb,seval,w50];refine fz y ?_;clear y Y))))
   refine ye (by simp only [zb,seval,w50];rfl) (by simp only [zv];rfl) ?_
   simp
  | true =>
   cases eb with
   | false =>
    refine fi Tryz.func50 Tryz.ntmps50 Tryz.results50 ?_
    repeat (first|(apply fw;focus ((with_reducible constructor)<;>constructor))|((first|with_reducible refine ga _ rfl fun Y y=>?_|apply ri);simp only [zb,seval,w50];refine fz y ?_;clear y Y))
    (refine WpA.draw0 10 _ _ _ rfl rfl rfl (by kernel_rfl) (by kernel_rfl) (by kernel_rfl) fun K8 hK8=>?_);simp only [zz] at hK8 ⊢;(refine Draw0.go fun K7 k=>?_);simp only [zb,seval,w50];(refine qz (k _ _ ?_));clear k K7
    refine Draw0.step (oz (hcn)) ?_
    (refine Draw0.go fun K7 k=>?_);simp only [zb,seval,w50];(refine qz (k _ _ ?_));clear k K7
    refine Draw0.step (oz (hbr)) ?_
    (refine Draw0.go fun K7 k=>?_);simp only [zb,seval,w50];(refine qz (k _ _ ?_));clear k K7
    refine Draw0.step (oz (hsa)) ?_
    (refine Draw0.go fun K7 k=>?_);simp only [zb,seval,w50];(refine qz (k _ _ ?_));clear k K7;(try ((refine Draw0.nil (hK8 _ ?_));clear hK8 K8;(refine WpL.go _ rfl fun Y y=>?_);repeat (first|(apply fw;focus ((with_reducible constructor)<;>constructor))|((first|with_reducible refine ga _ rfl fun Y y=>?_|apply ri);simp only [zb,seval,w50];refine fz y ?_;clear y Y))))
    refine ye (by simp only [zb,seval,w50];rfl) (by simp only [zv];rfl) ?_
    simp
   | true =>
    simp only [Bool.true_and]
    refine fi Tryz.func50 Tryz.ntmps50 Tryz.results50 ?_
    repeat (first|(apply fw;focus ((with_reducible constructor)<;>constructor))|((first|with_reducible refine ga _ rfl fun Y y=>?_|apply ri);simp only [zb,seval,w50];refine fz y ?_;clear y Y))
    (refine WpA.draw0 10 _ _ _ rfl rfl rfl (by kernel_rfl) (by kernel_rfl) (by kernel_rfl) fun K8 hK8=>?_);simp only [zz] at hK8 ⊢;(refine Draw0.go fun K7 k=>?_);simp only [zb,seval,w50];(refine qz (k _ _ ?_));clear k K7
    refine Draw0.step (oz (hcn)) ?_
    (refine Draw0.go fun K7 k=>?_);simp only [zb,seval,w50];(refine qz (k _ _ ?_));clear k K7
    refine Draw0.step (oz (hbr)) ?_
    (refine Draw0.go fun K7 k=>?_);simp only [zb,seval,w50];(refine qz (k _ _ ?_));clear k K7
    refine Draw0.step (oz (hsa)) ?_
    by_cases k1:k=1
    ·subst k1
     (refine Draw0.go fun K7 k=>?_);simp only [zb,seval,w50];(refine qz (k _ _ ?_));clear k K7;(try ((refine Draw0.nil (hK8 _ ?_));clear hK8 K8;(refine WpL.go _ rfl fun Y y=>?_);repeat (first|(apply fw;focus ((with_reducible constructor)<;>constructor))|((first|with_reducible refine ga _ rfl fun Y y=>?_|apply ri);simp only [zb,seval,w50];refine fz y ?_;clear y Y))))
     refine cz (hdm) ?_
     (refine WpL.go _ rfl fun Y y=>?_);repeat (first|(apply fw;focus ((with_reducible constructor)<;>constructor))|((first|with_reducible refine ga _ rfl fun Y y=>?_|apply ri);simp only [zb,seval,w50];refine fz y ?_;clear y Y))
     refine ye (by simp only [zb,seval,w50];rfl) (by simp only [zv];rfl) ?_
     simp
    by_cases k4:k=4
    ·subst k4
     cases top with
     | false =>
      (refine Draw0.go fun K7 k=>?_);simp only [zb,seval,w50];(refine qz (k _ _ ?_));clear k K7;(try ((refine Draw0.nil (hK8 _ ?_));clear hK8 K8;(refine WpL.go _ rfl fun Y y=>?_);repeat (first|(apply fw;focus ((with_reducible constructor)<;>constructor))|((first|with_reducible refine ga _ rfl fun Y y=>?_|apply ri);simp only [zb,seval,w50];refine fz y ?_;clear y Y))))
      refine ye (by simp only [zb,seval,w50];rfl) (by simp only [zv];rfl) ?_
      simp
     | true =>
      cases hn:eqB name ⟨#[]⟩ with
      | true =>
       (refine Draw0.go fun K7 k=>?_);simp only [zb,seval,w50,cA,hn];(refine qz (k _ _ ?_));clear k K7;(try ((refine Draw0.nil (hK8 _ ?_));clear hK8 K8;(refine WpL.go _ rfl fun Y y=>?_);repeat (first|(apply fw;focus ((with_reducible constructor)<;>constructor))|((first|with_reducible refine ga _ rfl fun Y y=>?_|apply ri);simp only [zb,seval,w50,cA,hn];refine fz y ?_;clear y Y))))
       refine ye (by simp only [zb,seval,w50];rfl) (by simp only [zv];rfl) ?_
       simp [hn]
      | false =>
       (refine Draw0.go fun K7 k=>?_);simp only [zb,seval,w50,cA,hn];(refine qz (k _ _ ?_));clear k K7;(try ((refine Draw0.nil (hK8 _ ?_));clear hK8 K8;(refine WpL.go _ rfl fun Y y=>?_);repeat (first|(apply fw;focus ((with_reducible constructor)<;>constructor))|((first|with_reducible refine ga _ rfl fun Y y=>?_|apply ri);simp only [zb,seval,w50,cA,hn];refine fz y ?_;clear y Y))))
       refine WpL.call rfl (aA (P:=Tryz.prog) rfl) (CallA.lend rfl rfl (by kernel_rfl) (by simp only [zv];rfl) (by first|exact trivial|(simp;done)|(simp [C.shut];done)) rfl (hcf false) ?_)
       (refine WpL.go _ rfl fun Y y=>?_);repeat (first|(apply fw;focus ((with_reducible constructor)<;>constructor))|((first|with_reducible refine ga _ rfl fun Y y=>?_|apply ri);simp only [zb,seval,w50];refine fz y ?_;clear y Y))
       refine ye (by simp only [zb,seval,w50];rfl) (by simp only [zv];rfl) ?_
       rw [K.mays_any];simp [hn]
    by_cases kr:k=2∨k=3∨k=10
    ·cases hn:eqB name ⟨#[]⟩ with
     | true =>
      rcases kr with rfl|rfl|rfl
      all_goals
       (refine Draw0.go fun K7 k=>?_);simp only [zb,seval,w50,cA,hn];(refine qz (k _ _ ?_));clear k K7;(try ((refine Draw0.nil (hK8 _ ?_));clear hK8 K8;(refine WpL.go _ rfl fun Y y=>?_);repeat (first|(apply fw;focus ((with_reducible constructor)<;>constructor))|((first|with_reducible refine ga _ rfl fun Y y=>?_|apply ri);simp only [zb,seval,w50,cA,hn];refine fz y ?_;clear y Y))))
       refine ye (by simp only [zb,seval,w50];rfl) (by simp only [zv];rfl) ?_
       simp [hn]
     | false =>
      cases top<;>rcases kr with rfl|rfl|rfl
      all_goals
       (refine Draw0.go fun K7 k=>?_);simp only [zb,seval,w50,cA,hn];(refine qz (k _ _ ?_));clear k K7;(try ((refine Draw0.nil (hK8 _ ?_));clear hK8 K8;(refine WpL.go _ rfl fun Y y=>?_);repeat (first|(apply fw;focus ((with_reducible constructor)<;>constructor))|((first|with_reducible refine ga _ rfl fun Y y=>?_|apply ri);simp only [zb,seval,w50,cA,hn];refine fz y ?_;clear y Y))))
       refine WpL.call rfl (aA (P:=Tryz.prog) rfl) (CallA.lend rfl rfl (by kernel_rfl) (by simp only [zv];rfl) (by first|exact trivial|(simp;done)|(simp [C.shut];done)) rfl (hcf false) ?_)
       (refine WpL.go _ rfl fun Y y=>?_);repeat (first|(apply fw;focus ((with_reducible constructor)<;>constructor))|((first|with_reducible refine ga _ rfl fun Y y=>?_|apply ri);simp only [zb,seval,w50];refine fz y ?_;clear y Y))
       refine ye (by simp only [zb,seval,w50];rfl) (by simp only [zv];rfl) ?_
       rw [K.mays_any];simp [hn]
    have k2:k≠2:=fun e=>kr (.inl e)
    have k3:k≠3:=fun e=>kr (.inr (.inl e))
    have k10:k≠10:=fun e=>kr (.inr (.inr e))
    by_cases k6:k=6
    ·subst k6
     cases vb with
     | false =>
      (refine Draw0.go fun K7 k=>?_);simp only [zb,seval,w50];(refine qz (k _ _ ?_));clear k K7;(try ((refine Draw0.nil (hK8 _ ?_));clear hK8 K8;(refine WpL.go _ rfl fun Y y=>?_);repeat (first|(apply fw;focus ((with_reducible constructor)<;>constructor))|((first|with_reducible refine ga _ rfl fun Y y=>?_|apply ri);simp only [zb,seval,w50];refine fz y ?_;clear y Y))))
      repeat (first|(apply fw;focus ((with_reducible constructor)<;>constructor))|((first|with_reducible refine ga _ rfl fun Y y=>?_|(refine ca ?_;apply Exists.intro;constructor;assumption;intro Y y)|apply ri);simp only [zb,seval,w50];refine fz y ?_;clear y Y))
      refine ye (by simp only [zb,seval,w50];rfl) (by simp only [zv];rfl) ?_
      simp
     | true =>
      cases top
      all_goals
       (refine Draw0.go fun K7 k=>?_);simp only [zb,seval,w50];(refine qz (k _ _ ?_));clear k K7;(try ((refine Draw0.nil (hK8 _ ?_));clear hK8 K8;(refine WpL.go _ rfl fun Y y=>?_);repeat (first|(apply fw;focus ((with_reducible constructor)<;>constructor))|((first|with_reducible refine ga _ rfl fun Y y=>?_|apply ri);simp only [zb,seval,w50];refine fz y ?_;clear y Y))))
       repeat (first|(apply fw;focus ((with_reducible constructor)<;>constructor))|((first|with_reducible refine ga _ rfl fun Y y=>?_|(refine ca ?_;apply Exists.intro;constructor;assumption;intro Y y)|apply ri);simp only [zb,seval,w50];refine fz y ?_;clear y Y))
       refine WpL.call rfl (aA (P:=Tryz.prog) rfl) (CallA.lend rfl rfl (by kernel_rfl) (by simp only [zv];rfl) (by first|exact trivial|(simp;done)|(simp [C.shut];done)) rfl (hcf false) ?_)
       (refine WpL.go _ rfl fun Y y=>?_);repeat (first|(apply fw;focus ((with_reducible constructor)<;>constructor))|((first|with_reducible refine ga _ rfl fun Y y=>?_|apply ri);simp only [zb,seval,w50];refine fz y ?_;clear y Y))
       refine ye (by simp only [zb,seval,w50];rfl) (by simp only [zv];rfl) ?_
       rw [K.mays_any];simp
    by_cases k7:k=7
    ·subst k7
     cases top with
     | false =>
      (refine Draw0.go fun K7 k=>?_);simp only [zb,seval,w50];(refine qz (k _ _ ?_));clear k K7;(try ((refine Draw0.nil (hK8 _ ?_));clear hK8 K8;(refine WpL.go _ rfl fun Y y=>?_);repeat (first|(apply fw;focus ((with_reducible constructor)<;>constructor))|((first|with_reducible refine ga _ rfl fun Y y=>?_|apply ri);simp only [zb,seval,w50];refine fz y ?_;clear y Y))))
      refine WpL.call rfl (aA (P:=Tryz.prog) rfl) (CallA.lend rfl rfl (by kernel_rfl) (by simp only [zv];rfl) (by first|exact trivial|(simp;done)|(simp [C.shut];done)) rfl (hcf false) ?_)
      (refine WpL.go _ rfl fun Y y=>?_);repeat (first|(apply fw;focus ((with_reducible constructor)<;>constructor))|((first|with_reducible refine ga _ rfl fun Y y=>?_|apply ri);simp only [zb,seval,w50];refine fz y ?_;clear y Y))
      refine ye (by simp only [zb,seval,w50];rfl) (by simp only [zv];rfl) ?_
      rw [K.mays_any];simp
     | true =>
      (refine Draw0.go fun K7 k=>?_);simp only [zb,seval,w50];(refine qz (k _ _ ?_));clear k K7;(try ((refine Draw0.nil (hK8 _ ?_));clear hK8 K8;(refine WpL.go _ rfl fun Y y=>?_);repeat (first|(apply fw;focus ((with_reducible constructor)<;>constructor))|((first|with_reducible refine ga _ rfl fun Y y=>?_|apply ri);simp only [zb,seval,w50];refine fz y ?_;clear y Y))))
      refine WpL.call rfl (aA (P:=Tryz.prog) rfl) (CallA.lend rfl rfl (by kernel_rfl) (by simp only [zv];rfl) (by first|exact trivial|(simp;done)|(simp [C.shut];done)) rfl (hcf true) ?_)
      (refine WpL.go _ rfl fun Y y=>?_);repeat (first|(apply fw;focus ((with_reducible constructor)<;>constructor))|((first|with_reducible refine ga _ rfl fun Y y=>?_|apply ri);simp only [zb,seval,w50];refine fz y ?_;clear y Y))
      refine ye (by simp only [zb,seval,w50];rfl) (by simp only [zv];rfl) ?_
      rw [K.mays_any];simp
    have b1:(k == 1)=false:=by simp [k1]
    have b2:(k == 2)=false:=by simp [k2]
    have b3:(k == 3)=false:=by simp [k3]
    have b4:(k == 4)=false:=by simp [k4]
    have b6:(k == 6)=false:=by simp [k6]
    have b7:(k == 7)=false:=by simp [k7]
    have b10:(k == 10)=false:=by simp [k10]
    cases top
    all_goals
     (refine Draw0.go fun K7 k=>?_);simp only [zb,seval,w50,b1,b2,b3,b4,b6,b7,b10];(refine qz (k _ _ ?_));clear k K7;(try ((refine Draw0.nil (hK8 _ ?_));clear hK8 K8;(refine WpL.go _ rfl fun Y y=>?_);repeat (first|(apply fw;focus ((with_reducible constructor)<;>constructor))|((first|with_reducible refine ga _ rfl fun Y y=>?_|apply ri);simp only [zb,seval,w50,b1,b2,b3,b4,b6,b7,b10];refine fz y ?_;clear y Y))))
     refine WpL.call rfl (aA (P:=Tryz.prog) rfl) (CallA.lend rfl rfl (by kernel_rfl) (by simp only [zv];rfl) (by first|exact trivial|(simp;done)|(simp [C.shut];done)) rfl (hcf false) ?_)
     (refine WpL.go _ rfl fun Y y=>?_);repeat (first|(apply fw;focus ((with_reducible constructor)<;>constructor))|((first|with_reducible refine ga _ rfl fun Y y=>?_|apply ri);simp only [zb,seval,w50,b1,b2,b3,b4,b6,b7,b10];refine fz y ?_;clear y Y))
     refine ye (by simp only [zb,seval,w50];rfl) (by simp only [zv];rfl) ?_
     rw [K.mays_any];simp [k1,k2,k3,k4,k6,k7,k10]
theorem JZ (c:K) (hok:c.Ok) (hsm:c.Sm):Pure Tryz.prog 33 [.agg c.cc] (.one (.v (.bool (c.may true)))):=by
 have h:=TH c.ht c true (Nat.le_refl _) hok hsm
 rw [K.cc_eq] at h ⊢
 refine fi Tryz.func33 Tryz.ntmps33 Tryz.results33 ?_
 repeat (first|(apply fw;focus ((with_reducible constructor)<;>constructor))|((first|with_reducible refine ga _ rfl fun Y y=>?_|(refine ca ?_;apply Exists.intro;constructor;assumption;intro Y y)|apply ri);simp only [zb,seval,aX];refine fz y ?_;clear y Y))
 refine ye (by simp only [zb,seval,aX];rfl) (by simp only [zv];rfl) ?_
 rfl
theorem VB (l:List Nd):∀e∈l.map Nd.row,∀c∈e,C.shut c=true:=fun e he c hc=>by
 obtain⟨s,_,rfl⟩:=List.mem_map.1 he
 simp only [Nd.row,List.mem_cons,List.not_mem_nil,or_false] at hc
 rcases hc with rfl|rfl|rfl|rfl<;>simp [C.shut]
theorem TI (l:List D):∀e∈l.map D.cc,∀c∈e,C.shut c=true:=fun e he c hc=>by
 obtain⟨s,_,rfl⟩:=List.mem_map.1 he
 rw [D.cc_eq] at hc
 simp only [List.mem_cons,List.not_mem_nil,or_false] at hc
 rcases hc with rfl|rfl|rfl|rfl|rfl|rfl<;>simp [C.shut]
def DV (c:Cd):List C:=[.sl 4 (c.nodes.map Nd.row),.sl 6 (c.consts.map D.cc),.sl 1 (aW c.globals),.sl 1 (aW c.prims),.sl 1 (mL c.tops)]
def Cd.zero:Cd:=⟨[],[],[],[],[]⟩
noncomputable def FX (c:Cd) (x:K):Cd:={ tW c x [] with tops:=c.tops++[(c.nodes.length:Int)] }
noncomputable def gE (l:List K):Cd:=l.foldl FX .zero
theorem MN {l:List K} {i:Nat} (h:i<l.length):gE (l.take (i+1))=FX (gE (l.take i)) l[i]:=by
 rw [List.take_succ_eq_append_getElem h,gE,List.foldl_append];rfl
theorem QF:∀l:List K,(gE l).nodes.length=K.sizes l:=by
 intro l
 have key:∀(l:List K) (c:Cd),(l.foldl FX c).nodes.length=c.nodes.length+K.sizes l:=by
  intro l
  induction l with
  | nil=>intro c;simp [K.sizes]
  | cons x l ih =>
   intro c
   rw [List.foldl_cons,ih,K.sizes]
   show (tW c x []).nodes.length+_=_
   rw [SF];omega
 have:=key l .zero
 simpa [gE,Cd.zero] using this
theorem MO:∀l:List K,(gE l).most≤K.sizes l:=by
 intro l
 have key:∀(l:List K) (c:Cd),(l.foldl FX c).most≤c.most+K.sizes l:=by
  intro l
  induction l with
  | nil=>intro c;simp [K.sizes]
  | cons x l ih =>
   intro c
   rw [List.foldl_cons,K.sizes]
   have h1:=ih (FX c x)
   have h2:(FX c x).most≤c.most+x.size:=PL c x []
   omega
 have:=key l .zero
 simpa [gE,Cd.zero,Cd.most] using this
theorem MP:∀l:List K,(gE l).tops.length=l.length:=by
 intro l
 have key:∀(l:List K) (c:Cd),(l.foldl FX c).tops.length=c.tops.length+l.length:=by
  intro l
  induction l with
  | nil=>intro c;simp
  | cons x l ih =>
   intro c
   rw [List.foldl_cons,ih]
   simp [FX];omega
 have:=key l .zero
 simpa [gE,Cd.zero] using this
noncomputable def DW (l:List K):A:=if l.all (·.may true) then .tup [.agg (DV (gE l)),.one (.v (.int .i64 0))] else .tup [.agg (DV .zero),.one (.v (.int .i64 1))]
theorem CoderIn.newT {p:Nat} {S S1:List (Option Ob)} {c:Cd} {cN cC cG cP cT cT':C} {T':List Int} (hI:CoderIn p S c cN cC cG cP cT) (hA:At 3 1 S1 cT' (mL T')) (hl:S.length≤S1.length) (hfr:∀(j:Nat) (o:Option Ob),S[j]?=some o→(∀n,cT≠.ms j n)→S1[j]?=some o) :
  CoderIn p (S1.set p (some ⟨76,5,[[cN,cC,cG,cP,cT']]⟩)) { c with tops:=T' } cN cC cG cP cT'∧Frm p [3] S (S1.set p (some ⟨76,5,[[cN,cC,cG,cP,cT']]⟩)):=by
 have hpS:p<S.length:=(List.getElem?_eq_some_iff.1 hI.1).1
 have hP:=hI.2.2.2.2.2.1
 have g1:=hfr p _ hI.1 (hP.apart hI.1 (by show (76:Nat)≠_;decide))
 have stays:∀(j:Nat) (ob:Ob) (a:Option Ob),S[j]?=some (some ob)→j≠p→(∀n,cT≠.ms j n)→(S1.set p a)[j]?=some (some ob):=fun j ob a h1 h2 h3=>by
  rw [List.getElem?_set_ne (fun e=>h2 e.symm)]
  exact hfr j _ h1 h3
 have np:∀{j:Nat} {ob:Ob},S[j]?=some (some ob)→ob.ty≠76→j≠p:=fun h1 h2 e=>by subst e;rw [hI.1] at h1;cases h1;exact h2 rfl
 refine⟨⟨List.getElem?_set_self (by omega),hI.2.1.stay fun j hj _=>stays j _ _ hj (np hj (by show (72:Nat)≠_;decide)) (hP.apart hj (by show (72:Nat)≠_;decide)),hI.2.2.1.stay fun j hj _=>stays j _ _ hj (np hj (by show (28:Nat)≠_;decide)) (hP.apart hj (by show (28:Nat)≠_;decide)),hI.2.2.2.1.stay fun j hj e=>stays j _ _ hj (np hj (by show (9:Nat)≠_;decide)) (hP.apart hj (by show (9:Nat)≠_;decide)),hI.2.2.2.2.1.stay fun j hj e=>stays j _ _ hj (np hj (by show (9:Nat)≠_;decide)) (hP.apart hj (by show (9:Nat)≠_;decide)),hA.stay fun j hj _=>?_,hI.2.2.2.2.2.2⟩,by simp;omega,fun j ob h1 h2 h3=>stays j _ _ h1 h2 (hP.apart h1 (fun e=>h3 (by simp [e])))⟩
 have n2:p≠j:=fun e=>by subst e;rw [g1] at hj;cases hj
 rw [List.getElem?_set_ne n2];exact hj
mutual
def K.Lg:K→Prop
 | .mk k _ _ params d l=>(-9223372036854775808≤k∧k≤9223372036854775807)∧params.length≤1000∧d.Ok∧d.count<1000000000∧l.length≤1000000000∧K.Lgs l
def K.Lgs:List K→Prop
 | []=>True
 | c::l=>c.Lg∧K.Lgs l
end
theorem K.Lgs.get:∀{l:List K},K.Lgs l→∀i (h:i<l.length),l[i].Lg
 | c::l,h,0,_=>h.1
 | c::l,h,i+1,hi=>K.Lgs.get (l:=l) h.2 i (by simpa using hi)
theorem K.Lgs.mem {l:List K} (h:K.Lgs l) {x:K} (hx:x∈l):x.Lg:=by
 obtain⟨i,hi,rfl⟩:=List.mem_iff_getElem.1 hx
 exact h.get i hi
mutual
theorem K.Lg.ok:∀{c:K},c.Lg→c.Ok
 | .mk _ _ _ _ _ _,h=>⟨h.1,by have:=h.2.1;omega,h.2.2.1,by have:=h.2.2.2.2.1;omega,K.Lgs.oks h.2.2.2.2.2⟩
theorem K.Lgs.oks:∀{l:List K},K.Lgs l→K.Oks l
 | [],_=>trivial
 | c::l,h=>⟨K.Lg.ok h.1,K.Lgs.oks h.2⟩
end
mutual
theorem K.Lg.sm:∀{c:K},c.Lg→c.Sm
 | .mk _ _ _ _ _ _,h=>⟨by have:=h.2.1;omega,h.2.2.2.1,K.Lgs.sms h.2.2.2.2.2⟩
theorem K.Lgs.sms:∀{l:List K},K.Lgs l→K.Sms l
 | [],_=>trivial
 | c::l,h=>⟨K.Lg.sm h.1,K.Lgs.sms h.2⟩
end
theorem QG {c:K} (h:jJ c=true):1≤c.k∧c.k≤10:=by
 unfold jJ at h
 split at h
 ·omega
 ·split at h
  ·omega
  ·split at h
   ·omega
   ·split at h
    ·omega
    ·split at h
     ·omega
     ·cases h
mutual
theorem K.Lg.pk:∀{c:K} {top:Bool},c.Lg→c.may top=true→c.Pk
 | .mk k name rest params d l,top,h,hm=>by
  rw [K.may] at hm
  simp only [Bool.and_eq_true] at hm
  have hk:=QG hm.1.1
  have hms:∃t,K.mays l t=true:=by
   by_cases k1:k=1
   ·subst k1
    have h0:=hm.1.1
    simp [jJ,K.k,K.l] at h0
    subst h0
    exact⟨true,by simp [K.mays]⟩
   ·have:=hm.2
    rw [if_neg k1] at this
    simp only [Bool.and_eq_true] at this
    exact⟨_,this.2⟩
  obtain⟨t,ht⟩:=hms
  exact⟨hk,h.2.1,h.2.2.1,h.2.2.2.2.1,K.Lgs.pks h.2.2.2.2.2 ht⟩
theorem K.Lgs.pks:∀{l:List K} {t:Bool},K.Lgs l→K.mays l t=true→K.Pks l
 | [],_,_,_=>trivial
 | c::l,t,h,hm=>by
  rw [K.mays,Bool.and_eq_true] at hm
  exact⟨K.Lg.pk h.1 hm.1,K.Lgs.pks h.2 hm.2⟩
end
mutual
theorem K.ht_size:∀c:K,c.ht≤c.size
 | .mk _ _ _ _ _ l=>by rw [K.ht,K.size];have:=K.hts_sizes l;omega
theorem K.hts_sizes:∀l:List K,K.hts l≤K.sizes l
 | []=>by rw [K.hts];omega
 | c::l=>by rw [K.hts,K.sizes];have:=K.ht_size c;have:=K.hts_sizes l;omega
end
theorem KA (x:K) (h:x.Lg):Pure Tryz.prog 48 (.agg x.cc::([]:List C).map .one) (.one (.v (.bool (!x.may true)))):=by
 have hm:=JZ x h.ok h.sm
 rw [K.cc_eq] at hm ⊢
 simp only [List.map_nil]
 refine fi Tryz.func48 Tryz.ntmps48 Tryz.results48 ?_
 repeat (first|(apply fw;focus ((with_reducible constructor)<;>constructor))|((first|with_reducible refine ga _ rfl fun Y y=>?_|(refine ca ?_;apply Exists.intro;constructor;assumption;intro Y y)|apply ri);simp only [zb,seval,aX];refine fz y ?_;clear y Y))
 refine ye (by simp only [zb,seval,aX];rfl) (by simp only [zv];rfl) ?_
 rfl
def YV (l:List K) (n:Nat) (st:St):Prop:=∃(i:Nat) (S:List (Option Ob)) (cN cC cG cP cT:C),n=l.length-i∧i≤l.length∧CoderIn 1 S (gE (l.take i)) cN cC cG cP cT∧S[0]?=some (some ⟨55,5,[[.v (.slice none 0 0),.v (.slice none 0 0),.v (.slice none 0 0),.v (.slice none 0 0),.v (.slice none 0 0)]]⟩) ∧
 st=⟨[(15,.one (.v (.int .i64 i))),(14,.one (.v (.int .i64 l.length))),(13,.one (.sl 11 (l.map K.cc))),(4,.one (.ptr 1 1 0 0)),(2,.one (.ptr 0 1 0 0)),(3,.one (.v (.int .i64 0)))],S⟩
theorem DX (l:List K) (h:K.Lgs l) (hlen:l.length≤1000000000) (hsz:K.sizes l≤900000000):Pure Tryz.prog 32 [.one (.sl 11 (l.map K.cc))] (DW l):=by
 have hcf:=yH 48 true (by kernel_rfl) l (fun x=>!x.may true) (by omega) (fun x hx=>KA x (h.mem hx))
 have hall:l.all (·.may true)=!(l.any fun x=>!x.may true):=List.all_eq_not_any_not ..
 unfold DW
 rw [hall]
 cases hany:l.any fun x=>!x.may true with
 | true =>
  refine fi Tryz.func32 Tryz.ntmps32 Tryz.results32 ?_
  repeat (first|(apply fw;focus ((with_reducible constructor)<;>constructor))|((first|with_reducible refine ga _ rfl fun Y y=>?_|apply ri);simp only [zb,seval,w32];refine fz y ?_;clear y Y))
  refine WpL.call rfl (aA (P:=Tryz.prog) rfl) (CallA.lend rfl rfl (by kernel_rfl) (by simp only [zv];rfl) (by first|exact trivial|(simp;done)|(simp [C.shut];done)) rfl (hcf) ?_)
  (refine WpL.go _ rfl fun Y y=>?_);repeat (first|(apply fw;focus ((with_reducible constructor)<;>constructor))|((first|with_reducible refine ga _ rfl fun Y y=>?_|apply ri);simp only [zb,seval,w32,hany];refine fz y ?_;clear y Y))
  refine yl (by simp only [zb,seval,w32];rfl) (by simp only [zv];rfl) ((by exact ALe.tup (ALes.cons (ALe.agg (CLes.nil (CLes.nil (CLes.nil (CLes.nil (CLes.nil (CLes.refl _))))))) (ALes.refl _)))) rfl
 | false =>
  rw [hany] at hall
  refine fi Tryz.func32 Tryz.ntmps32 Tryz.results32 ?_
  repeat (first|(apply fw;focus ((with_reducible constructor)<;>constructor))|((first|with_reducible refine ga _ rfl fun Y y=>?_|apply ri);simp only [zb,seval,w32];refine fz y ?_;clear y Y))
  refine WpL.call rfl (aA (P:=Tryz.prog) rfl) (CallA.lend rfl rfl (by kernel_rfl) (by simp only [zv];rfl) (by first|exact trivial|(simp;done)|(simp [C.shut];done)) rfl (hcf) ?_)
  (refine WpL.go _ rfl fun Y y=>?_);repeat (first|(apply fw;focus ((with_reducible constructor)<;>constructor))|((first|with_reducible refine ga _ rfl fun Y y=>?_|apply ri);simp only [zb,seval,w32,hany];refine fz y ?_;clear y Y))
  have hmay:∀x∈l,x.may true=true:=fun x hx=>by
   have:=List.any_eq_false.1 hany x hx
   simpa using this
  simp only [Bool.not_false,if_true]
  refine WpA.loop (YV l) l.length (st0:=⟨[(15,.one (.v (.int .i64 (0:Nat)))),(14,.one (.v (.int .i64 l.length))),(13,.one (.sl 11 (l.map K.cc))),(4,.one (.ptr 1 1 0 0)),(2,.one (.ptr 0 1 0 0)),(3,.one (.v (.int .i64 0)))],[some ⟨55,5,[[.v (.slice none 0 0),.v (.slice none 0 0),.v (.slice none 0 0),.v (.slice none 0 0),.v (.slice none 0 0)]]⟩,some ⟨76,5,[[.v (.slice none 0 0),.v (.slice none 0 0),.v (.slice none 0 0),.v (.slice none 0 0),.v (.slice none 0 0)]]⟩]⟩) (Le.sub (by simp [Sub,find])) ⟨0,_,_,_,_,_,_,rfl,Nat.zero_le _,⟨rfl,At.nil _ _ _,At.nil _ _ _,At.nil _ _ _,At.nil _ _ _,At.nil _ _ _,fun j n m e=>by cases e⟩,rfl,rfl⟩ ?_
  intro n' st hst
  obtain⟨i,S',cN',cC',cG',cP',cT',rfl,hi,hI',hr0,rfl⟩:=hst
  have hw2:IntKind.i64.wrap ((i:Int)+1)=((i+1:Nat):Int):=by rw [dQ (by omega) (by omega)];omega
  by_cases hlt:i<l.length
  ·have hd1:decide ((i:Int)<(l.length:Int))=true:=by simp;omega
   have hget:=LC hlt
   have hgl:∀z:Option Ob,(S'++[z])[S'.length]?=some z:=fun z=>by simp
   have hset:∀z y:Option Ob,(S'++[z]).set S'.length y=S'++[y]:=fun z y=>by simp
   have hml:l[i]∈l:=List.getElem_mem _
   have htl:=K.sizes_take_lt hlt
   have hmost:=MO (l.take i)
   have hnod:=QF (l.take i)
   have hht:=l[i].ht_size
   have hput:=WI l[i] ((h.mem hml).pk (hmay _ hml)) 1 (S'++[some (jQ l[i])]) _ [] _ _ _ _ _ (hI'.app _) (by omega) (by omega) (by simp;omega) (by simp)
   have hsx:scX []=.v (.slice none 0 0):=if_pos rfl
   have hp1:∀T,(S'++T)[1]?=some (some ⟨76,5,[[cN',cC',cG',cP',cT']]⟩):=fun T=>aM hI'.1
   rw [hsx] at hput
   rw [K.cc_eq] at hget hput
   simp only [jQ] at hput
   repeat (first|(apply fw;focus ((with_reducible constructor)<;>constructor))|((first|with_reducible refine ga _ rfl fun Y y=>?_|apply ri);simp only [zb,seval,w32,hd1,hget,hgl,hset,hp1];refine fz y ?_;clear y Y))
   refine WpL.handAll rfl (aA (P:=Tryz.prog) rfl) rfl rfl (by kernel_rfl) (ALes.refl _) hput ?_
   rintro _ S7 ⟨rfl,⟨cN7,cC7,cG7,cP7,hI7⟩,hF7⟩
   have hp7:=hI7.1
   (try simp only [St.put]);(refine WpL.op rfl (aA (P:=Tryz.prog) rfl) (aE (by simp only [zb,seval,w32];rfl) (by first|(simp;done)|omega|(simp;omega))) ?_);simp only [St.put]
   refine WpL.nil ?_
   refine MV ?_
   refine WpA.region ?_
   (try simp only [St.put]);(refine WpL.op rfl (aA (P:=Tryz.prog) rfl) (aE (by simp only [zb,seval,w32,hp7];rfl) (by first|(simp;done)|omega|(simp;omega))) ?_);simp only [St.put];(refine WpL.op rfl (aA (P:=Tryz.prog) rfl) (aE (by simp only [zb,seval,w32,hp7];rfl) (by first|(simp;done)|omega|(simp;omega))) ?_);simp only [St.put];(refine WpL.op rfl (aA (P:=Tryz.prog) rfl) (aE (by simp only [zb,seval,w32,hp7];rfl) (by first|(simp;done)|omega|(simp;omega))) ?_);simp only [St.put];(refine WpL.op rfl (aA (P:=Tryz.prog) rfl) (aE (by simp only [zb,seval,w32,hp7];rfl) (by first|(simp;done)|omega|(simp;omega))) ?_);simp only [St.put];(refine WpL.op rfl (aA (P:=Tryz.prog) rfl) (aE (by simp only [zb,seval,w32,hp7];rfl) (by first|(simp;done)|omega|(simp;omega))) ?_);simp only [St.put];(refine WpL.op rfl (aA (P:=Tryz.prog) rfl) (aE (by simp only [zb,seval,w32,hp7];rfl) (by first|(simp;done)|omega|(simp;omega))) ?_);simp only [St.put];(refine WpL.op rfl (aA (P:=Tryz.prog) rfl) (aE (by simp only [zb,seval,w32,hp7];rfl) (by first|(simp;done)|omega|(simp;omega))) ?_);simp only [St.put];(refine WpL.op rfl (aA (P:=Tryz.prog) rfl) (aE (by simp only [zb,seval,w32,hp7];rfl) (by first|(simp;done)|omega|(simp;omega))) ?_);simp only [St.put]
   have ht7:(tW (gE (l.take i)) l[i] []).tops=(gE (l.take i)).tops:=rfl
   have htl2:(gE (l.take i)).tops.length≤l.length:=by rw [MP,List.length_take];omega
   obtain⟨S8,jL,hA8,hj8,hl8,hfr8,hpl8,hop8⟩:=dJ (P:=Tryz.prog) (T:=53) (by_:=8) oI oJ oK (by omega) (S:=S7++[some ⟨3,1,[[.v (.int .i64 ((gE (l.take i)).nodes.length:Int))]]⟩]) (hI7.2.2.2.2.2.1.app _) (q:=S7.length) (new:=[[.v (.int .i64 ((gE (l.take i)).nodes.length:Int))]]) (by simp) (by simp) (fun n e=>by have:=hI7.2.2.2.2.2.1.lt e;omega) (by rw [vK,ht7];simp;omega) (by rw [vK,ht7];simp;omega)
   have hrL:mL (tW (gE (l.take i)) l[i] []).tops++[[.v (.int .i64 ((gE (l.take i)).nodes.length:Int))]]=mL ((gE (l.take i)).tops++[((gE (l.take i)).nodes.length:Int)]):=by rw [JF];rfl
   rw [hrL] at hA8
   simp only [List.length_cons,List.length_nil,Nat.zero_add] at hop8 hA8
   have hp8:=hfr8 _ _ (aM hI7.1) (hI7.2.2.2.2.2.1.apart hI7.1 (by show (76:Nat)≠_;decide))
   refine WpL.aop rfl (hop8 _ _ _ rfl rfl) ?_
   simp only [St.put]
   (refine WpL.go _ rfl fun Y y=>?_);repeat (first|(apply fw;focus ((with_reducible constructor)<;>constructor))|((first|with_reducible refine ga _ rfl fun Y y=>?_|apply ri);simp only [zb,seval,w32,hp7,hp8,hw2];refine fz y ?_;clear y Y))
   have hR:=hI7.newT hA8 (by simp at hl8;omega) (fun j o hj hn=>hfr8 j o (aM hj) hn)
   refine⟨l.length-(i+1),_,by omega,Le.sub (by simp [Sub,find]),i+1,_,cN7,cC7,cG7,cP7,.ms jL ((mL (tW (gE (l.take i)) l[i] []).tops).length+1),rfl,hlt,?_,hR.2.2 0 _ (hF7.2 0 _ (aM hr0) (by omega) (by show (55:Nat)∉_;decide)) (by omega) (by show (55:Nat)∉_;decide),rfl⟩
   rw [MN hlt]
   exact hR.1
  ·have hd0:decide ((i:Int)<(l.length:Int))=false:=by simp;omega
   have hii:i=l.length:=by omega
   subst hii
   rw [List.take_length] at hI'
   have hp1:=hI'.1
   repeat (first|(apply fw;focus ((with_reducible constructor)<;>constructor))|((first|with_reducible refine ga _ rfl fun Y y=>?_|apply ri);simp only [zb,seval,w32,hd0,hp1,hr0];refine fz y ?_;clear y Y))
   repeat (first|(apply fw;focus ((with_reducible constructor)<;>constructor))|((first|with_reducible refine ga _ rfl fun Y y=>?_|apply ri);simp only [zb,seval,w32,hd0,hp1,hr0];refine fz y ?_;clear y Y))
   have hne0:∀(j:Nat) (ob:Ob),S'[j]?=some (some ob)→(j=1∨(∃n,cN'=.ms j n)∨(∃n,cC'=.ms j n)∨(∃n,cG'=.ms j n)∨(∃n,cP'=.ms j n)∨(∃n,cT'=.ms j n))→0≠j:=fun j ob hj hc e=>by
    subst e
    have:=hI'.tys hj hc
    rw [hr0] at hj;cases hj
    rcases this with h|h|h|h|h<;>exact absurd h (by decide)
   have hI9:CoderIn 1 (S'.set 0 (some ⟨55,5,[[cN',cC',cG',cP',cT']]⟩)) (gE l) cN' cC' cG' cP' cT':=hI'.keep fun j ob hj hc=>by rw [List.getElem?_set_ne (hne0 j ob hj hc)];exact hj
   have hl0:0<S'.length:=(List.getElem?_eq_some_iff.1 hr0).1
   obtain⟨p1,c1,v1,w1,-,x1⟩:=hI9.2.1.see (VB _)
   obtain⟨p2,c2,v2,w2,-,x2⟩:=hI9.2.2.1.see (TI _)
   obtain⟨p3,c3,v3,w3,-,x3⟩:=hI9.2.2.2.1.see (fC _)
   obtain⟨p4,c4,v4,w4,-,x4⟩:=hI9.2.2.2.2.1.see (fC _)
   obtain⟨p5,c5,v5,w5,-,x5⟩:=hI9.2.2.2.2.2.1.see (DI _)
   refine⟨.inl rfl,_,_,_,_,(by simp only [zb,seval,List.getElem?_set_self hl0,w32];rfl),by simp,(by simp only [lY,gD,fL,fY,cW,v1,v2,v3,v4,v5];rfl),by simp [w1,w2,w3,w4,w5],_,ALe.tup (ALes.cons (ALe.agg (x1 _ _ (x2 _ _ (x3 _ _ (x4 _ _ (x5 _ _ (CLes.refl _))))))) (ALes.refl _)),rfl⟩
def p19:Nat × Nat × Nat × Nat:=(300,100,1000,1000)
theorem TJ (d:D) (left:Int):d.weigh p19 left=if 300<d.t.size∨100<d.mag.length then -1 else dN p19 d.l (left-1):=by
 rw [D.weigh_eq]
 show (if 300<d.t.size∨100<d.mag.length then (-1:Int) else dN p19 d.l (left-1-(d.t.size / 1000:Nat)-(d.mag.length / 1000:Nat)))=_
 by_cases h:300<d.t.size∨100<d.mag.length
 ·rw [if_pos h,if_pos h]
 ·rw [if_neg h,if_neg h,Nat.div_eq_of_lt (by omega),Nat.div_eq_of_lt (by omega)]
  simp
mutual
theorem XB:∀(d:D) (left:Int),-1≤left→-2≤d.weigh p19 left∧d.weigh p19 left≤max left (-1)
 | .mk k c neg mag t l,left,h=>by
  rw [TJ]
  by_cases hc:300<(D.mk k c neg mag t l).t.size∨100<(D.mk k c neg mag t l).mag.length
  ·rw [if_pos hc];omega
  ·rw [if_neg hc]
   have:=FY l (left-1) (by omega)
   show -2≤dN p19 l (left-1)∧dN p19 l (left-1)≤max left (-1)
   omega
theorem FY:∀(l:List D) (left:Int),-2≤left→-2≤dN p19 l left∧dN p19 l left≤max left (-1)
 | [],left,h=>by simp only [dN];omega
 | d::l,left,h=>by
  rw [dN]
  by_cases hc:left<0
  ·rw [if_pos hc];omega
  ·rw [if_neg hc]
   have h1:=XB d left (by omega)
   have h2:=FY l (d.weigh p19 left) (by omega)
   omega
end
def WgI (d:D) (left:Int) (n:Nat) (st:St):Prop:=∃i:Nat,n=d.l.length-i∧i≤d.l.length ∧
 st=⟨[(5,.one (.v (.int .i64 i))),(1,.one (.v (.int .i64 (dN p19 (d.l.take i) (left-1))))),(2,.one (.ptr 0 1 0 0))],[some ⟨28,6,[[.v (.int .i64 d.k),.v (.int .i32 d.c),.v (.bool d.neg),.sl 1 (d.mag.map fun n=>[.v (.int .u32 n)]),.v (.string d.t),.sl 6 (d.l.map D.cc)]]⟩]⟩
theorem TK:∀n (d:D),d.ht≤n→d.Ok→∀left:Int,-1≤left→left≤1000000000→Pure Tryz.prog 30 [.agg d.cc,.one (.v (.int .i64 left))] (.one (.v (.int .i64 (d.weigh p19 left)))):=by
 intro n
 induction n with
 | zero=>intro d h;exact absurd h (by cases d;rw [D.ht];omega)
 | succ n ih =>
  intro d hh hok left h0 h1
  have hws:IntKind.i64.wrap (left-1)=left-1:=dQ (by omega) (by omega)
  have hlen:d.l.length≤100000000000000:=by cases d;have:=hok.2.2.2.2.1.2;simp only [D.l];omega
  rw [TJ]
  have hts:decide ((300:Int)<(d.t.size:Int))=decide (300<d.t.size):=by apply decide_eq_decide.2;omega
  have hms:decide ((100:Int)<(d.mag.length:Int))=decide (100<d.mag.length):=by apply decide_eq_decide.2;omega
  rw [D.cc_eq]
  by_cases ht:300<d.t.size
  ·rw [if_pos (.inl ht)]
   refine fi Tryz.func30 Tryz.ntmps30 Tryz.results30 ?_
   repeat (first|(apply fw;focus ((with_reducible constructor)<;>constructor))|((first|with_reducible refine ga _ rfl fun Y y=>?_|apply ri);simp only [zb,seval,w30,hws,hts,ht];refine fz y ?_;clear y Y))
   refine ye (by simp only [zb,seval,w30];rfl) (by simp only [zv];rfl) ?_
   rfl
  by_cases hm:100<d.mag.length
  ·rw [if_pos (.inr hm)]
   refine fi Tryz.func30 Tryz.ntmps30 Tryz.results30 ?_
   repeat (first|(apply fw;focus ((with_reducible constructor)<;>constructor))|((first|with_reducible refine ga _ rfl fun Y y=>?_|apply ri);simp only [zb,seval,w30,hws,hts,ht,hms,hm];refine fz y ?_;clear y Y))
   refine ye (by simp only [zb,seval,w30];rfl) (by simp only [zv];rfl) ?_
   rfl
  rw [if_neg (by omega)]
  refine fi Tryz.func30 Tryz.ntmps30 Tryz.results30 ?_
  repeat (first|(apply fw;focus ((with_reducible constructor)<;>constructor))|((first|with_reducible refine ga _ rfl fun Y y=>?_|apply ri);simp only [zb,seval,w30,hws,hts,ht,hms,hm];refine fz y ?_;clear y Y))
  refine WpA.loop (WgI d left) d.l.length ?_ ⟨0,rfl,Nat.zero_le _,rfl⟩ ?_
  ·exact Le.drop 1 (Nat.zero_le _) rfl (by simp [Sub,find,dN]) rfl (by simp [ObBd,C.bd])
  intro n' st hst
  obtain⟨i,rfl,hi,rfl⟩:=hst
  have hw2:IntKind.i64.wrap ((i:Int)+1)=((i+1:Nat):Int):=by rw [dQ (by omega) (by omega)];omega
  have hbd:=FY (d.l.take i) (left-1) (by omega)
  generalize hv:dN p19 (d.l.take i) (left-1)=v at *
  by_cases hlt:i<d.l.length
  ·have hd1:decide ((i:Int)<(d.l.length:Int))=true:=by simp;omega
   by_cases hn:v<0
   ·have hge:decide ((0:Int)≤v)=false:=by simp;omega
    have hst:=GG p19 d.l (left-1) i (by rw [hv];exact hn)
    repeat (first|(apply fw;focus ((with_reducible constructor)<;>constructor))|((first|with_reducible refine ga _ rfl fun Y y=>?_|apply ri);simp only [zb,seval,w30,hd1,hge];refine fz y ?_;clear y Y))
    repeat (first|(apply fw;focus ((with_reducible constructor)<;>constructor))|((first|with_reducible refine ga _ rfl fun Y y=>?_|apply ri);simp only [zb,seval,w30,hd1,hge];refine fz y ?_;clear y Y))
    refine ye (by simp only [zb,seval,w30];rfl) (by simp only [zv];rfl) ?_
    rw [hst,hv]
   ·have hge:decide ((0:Int)≤v)=true:=by simp;omega
    have hget:=EP hlt
    have hc:=ih d.l[i] (by have:=D.ht_lt hlt;omega) (by cases d;exact hok.2.2.2.2.2.get i hlt) v (by omega) (by omega)
    have hsu:=GF p19 d.l (left-1) i hlt (by rw [hv];exact hn)
    rw [D.cc_eq] at hget hc
    repeat (first|(apply fw;focus ((with_reducible constructor)<;>constructor))|((first|with_reducible refine ga _ rfl fun Y y=>?_|(refine ca ?_;apply Exists.intro;constructor;assumption;intro Y y)|apply ri);simp only [zb,seval,w30,hd1,hge,hget,hw2];refine fz y ?_;clear y Y))
    refine⟨d.l.length-(i+1),_,by omega,?_,i+1,rfl,hlt,rfl⟩
    rw [hsu,hv]
    exact Le.drop 1 (Nat.zero_le _) rfl (by simp [Sub,find]) rfl (by simp [ObBd,C.bd])
  ·have hd0:decide ((i:Int)<(d.l.length:Int))=false:=by simp;omega
   have hii:i=d.l.length:=by omega
   subst hii
   repeat (first|(apply fw;focus ((with_reducible constructor)<;>constructor))|((first|with_reducible refine ga _ rfl fun Y y=>?_|apply ri);simp only [zb,seval,w30,hd0];refine fz y ?_;clear y Y))
   repeat (first|(apply fw;focus ((with_reducible constructor)<;>constructor))|((first|with_reducible refine ga _ rfl fun Y y=>?_|apply ri);simp only [zb,seval,w30,hd0];refine fz y ?_;clear y Y))
   refine ye (by simp only [zb,seval,w30];rfl) (by simp only [zv];rfl) ?_
   rw [List.take_length] at hv
   rw [hv]
theorem TL (d:D) (hok:d.Ok) (left:Int) (h0 : -1≤left) (h1:left≤1000000000):Pure Tryz.prog 30 [.agg d.cc,.one (.v (.int .i64 left))] (.one (.v (.int .i64 (d.weigh p19 left)))):=TK d.ht d (Nat.le_refl _) hok left h0 h1
def yK (s:ByteArray):K:=.mk 2 s ⟨#[]⟩ [] dZ []
def kF:K:=.mk 8 ⟨#[]⟩ ⟨#[]⟩ [] dZ [yK ⟨#[102]⟩,yK ⟨#[98]⟩]
def yL:K:=.mk 6 ⟨#[]⟩ ⟨#[98]⟩ [⟨#[97]⟩] dZ [kF]
def rc9 (s:ByteArray):List C:=[.v (.int .i64 2),.v (.string s),.v (.string ⟨#[]⟩),.sl 1 [],.v (.int .i64 0),.v (.int .i32 0),.v (.bool false),.sl 1 [],.v (.string ⟨#[]⟩),.sl 6 [],.sl 11 []]
def fc9 (c:C):List C:=[.v (.int .i64 8),.v (.string ⟨#[]⟩),.v (.string ⟨#[]⟩),.sl 1 [],.v (.int .i64 0),.v (.int .i32 0),.v (.bool false),.sl 1 [],.v (.string ⟨#[]⟩),.sl 6 [],c]
def lc9 (a c:C):List C:=[.v (.int .i64 6),.v (.string ⟨#[]⟩),.v (.string ⟨#[98]⟩),a,.v (.int .i64 0),.v (.int .i32 0),.v (.bool false),.sl 1 [],.v (.string ⟨#[]⟩),.sl 6 [],c]
theorem VC:[yL].map K.cc=[lc9 (.sl 1 [[.v (.string ⟨#[97]⟩)]]) (.sl 11 [fc9 (.sl 11 [rc9 ⟨#[102]⟩,rc9 ⟨#[98]⟩])])]:=by
 simp [yL,kF,yK,K.cc_eq,K.k,K.name,K.rest,K.params,K.d,K.l,dZ,D.k,D.c,D.neg,D.mag,D.t,D.l,aW,rc9,fc9,lc9]
theorem XC {a b:UInt8} (h:a≠b):eqB (⟨#[a]⟩:ByteArray) ⟨#[b]⟩=false:=aB fun e=>h (by have:=congrArg (fun x:ByteArray=>x.data.toList) e;simpa using this)
theorem YW {a b:UInt8} (h:a≠b):(⟨#[a]⟩:ByteArray)≠⟨#[b]⟩:=fun e=>h (by have:=congrArg (fun x:ByteArray=>x.data.toList) e;simpa using this)
theorem TM (a:UInt8):(⟨#[a]⟩:ByteArray)≠⟨#[]⟩:=fun e=>by have:=congrArg (fun x:ByteArray=>x.data.toList) e;simp at this
theorem KB (s:ByteArray) (hs:s≠⟨#[]⟩) (t:Bool):(yK s).may t=true:=by
 rw [yK,K.may]
 rw [aV (show K.mk 2 s ⟨#[]⟩ [] dZ []=K.bare (K.mk 2 s ⟨#[]⟩ [] dZ []) by simp [K.bare,K.k,K.name,K.rest,K.params,K.d,K.l]),aB hs]
 simp [jJ,K.k,K.l,K.mays]
theorem TN:yL.may true=true:=by
 have h1:=KB ⟨#[102]⟩ (TM _) false
 have h2:=KB ⟨#[98]⟩ (TM _) false
 have h3:kF.may false=true:=by
  rw [kF,K.may]
  rw [aV (show K.mk 8 ⟨#[]⟩ ⟨#[]⟩ [] dZ [yK ⟨#[102]⟩,yK ⟨#[98]⟩]=K.bare (K.mk 8 ⟨#[]⟩ ⟨#[]⟩ [] dZ [yK ⟨#[102]⟩,yK ⟨#[98]⟩]) by simp [K.bare,K.k,K.name,K.rest,K.params,K.d,K.l])]
  simp [jJ,K.k,K.l,K.mays,h1,h2]
 rw [yL,K.may]
 rw [aV (show K.mk 6 ⟨#[]⟩ ⟨#[98]⟩ [⟨#[97]⟩] dZ [kF]=K.bare (K.mk 6 ⟨#[]⟩ ⟨#[98]⟩ [⟨#[97]⟩] dZ [kF]) by simp [K.bare,K.k,K.name,K.rest,K.params,K.d,K.l])]
 rw [wP (show rJ (nO (K.mk 6 ⟨#[]⟩ ⟨#[98]⟩ [⟨#[97]⟩] dZ [kF])) by
  have n1:=TM 97
  have n2:=TM 98
  have n3:=YW (show (97:UInt8)≠98 by decide)
  simp [rJ,nO,K.rest,K.params,n1,n2,n3,Ne.symm n1,Ne.symm n2])]
 simp [jJ,K.k,K.l,K.mays,h3]
theorem QH:gE [yL]=⟨[⟨8,1,1,[1]⟩,⟨10,0,0,[2,3]⟩,⟨3,0,0,[]⟩,⟨2,0,1,[]⟩],[],[⟨#[102]⟩],[],[0]⟩:=by
 have n1:=XC (show (102:UInt8)≠97 by decide)
 have n2:=XC (show (102:UInt8)≠98 by decide)
 have n3:=XC (show (98:UInt8)≠97 by decide)
 have n4:=aV (rfl:(⟨#[98]⟩:ByteArray)=⟨#[98]⟩)
 have n5:=TM 98
 simp [gE,FX,tW,Cd.with,Cd.zero,sH,eP,yL,kF,yK,hJ,qR,kY,qQ,nK,nO,K.k,K.name,K.rest,K.params,K.d,K.l,ats,K.size,K.sizes,pA,mB,List.findIdx?_cons,n1,n2,n3,n4,n5]
theorem VD:K.Lgs [yL]:=by
 have hd:=VS
 have hc:dZ.count<1000000000:=by simp [dZ,D.count,kL]
 simp [K.Lgs,K.Lg,yL,kF,yK,hd,hc]
theorem KC:Pure Tryz.prog 31 [] (.one (.v (.bool true))):=by
 have hcp:=DX [yL] VD (by simp) (by simp [K.sizes,K.size,yL,kF,yK])
 have hca:DW [yL]=.tup [.agg (DV (gE [yL])),.one (.v (.int .i64 0))]:=by
  unfold DW
  rw [if_pos (by simp [TN])]
 rw [hca,QH,VC] at hcp
 have hff:eqB (⟨#[102]⟩:ByteArray) ⟨#[102]⟩=true:=aV rfl
 refine fi Tryz.func31 Tryz.ntmps31 Tryz.results31 ?_
 repeat (first|(apply fw;focus ((with_reducible constructor)<;>constructor))|((first|with_reducible refine ga _ rfl fun Y y=>?_|apply ri);simp only [zb,seval,w31];refine fz y ?_;clear y Y))
 refine WpL.le (st':=⟨[(13,.one (.ms 4 1))],[some ⟨31,11,[rc9 ⟨#[102]⟩,rc9 ⟨#[98]⟩]⟩,none,some ⟨9,1,[[.v (.string ⟨#[97]⟩)]]⟩,some ⟨31,11,[fc9 (.ms 0 2)]⟩,some ⟨31,11,[lc9 (.ms 2 1) (.ms 3 1)]⟩]⟩) (Le.freeze (fun _=>false) (Frz.ofL ?_) ?_) ?_
 ·simp only [FrzL,FzR,FzCs,rc9,fc9,lc9]
  repeat' first|exact FzC.same _ _ _|exact FzC.nil|exact FzC.ms rfl rfl rfl|exact rfl|exact trivial|refine And.intro ?_ ?_|(intro hz;exact absurd hz (by decide))
 ·simp only [SubZ];exact⟨⟨_,rfl,FzA.same _ _ _⟩,trivial⟩
 refine WpL.le (st':=⟨[(13,.one (.ms 4 1))],[none,none,none,some ⟨31,11,[fc9 (.sl 11 [rc9 ⟨#[102]⟩,rc9 ⟨#[98]⟩])]⟩,some ⟨31,11,[lc9 (.sl 1 [[.v (.string ⟨#[97]⟩)]]) (.ms 3 1)]⟩]⟩) (Le.freeze (fun i=>i == 0||i == 2) (Frz.ofL ?_) ?_) ?_
 ·simp only [FrzL,FzR,FzCs,fc9,lc9]
  repeat' first|exact FzC.same _ _ _|exact FzC.nil|exact FzC.ms rfl rfl rfl|exact rfl|exact trivial|refine And.intro ?_ ?_|(intro hz;exact absurd hz (by decide))|(intro hz ob ho;cases ho;simp [C.shut,rc9])
 ·simp only [SubZ];exact⟨⟨_,rfl,FzA.same _ _ _⟩,trivial⟩
 refine WpL.le (st':=⟨[(13,.one (.ms 4 1))],[none,none,none,none,some ⟨31,11,[lc9 (.sl 1 [[.v (.string ⟨#[97]⟩)]]) (.sl 11 [fc9 (.sl 11 [rc9 ⟨#[102]⟩,rc9 ⟨#[98]⟩])])]⟩]⟩) (Le.freeze (fun i=>i == 3) (Frz.ofL ?_) ?_) ?_
 ·simp only [FrzL,FzR,FzCs,lc9]
  repeat' first|exact FzC.same _ _ _|exact FzC.nil|exact FzC.ms rfl rfl rfl|exact rfl|exact trivial|refine And.intro ?_ ?_|(intro hz;exact absurd hz (by decide))|(intro hz ob ho;cases ho;simp [C.shut,fc9])
 ·simp only [SubZ];exact⟨⟨_,rfl,FzA.same _ _ _⟩,trivial⟩
 refine WpL.le (st':=⟨[(13,.one (.sl 11 [lc9 (.sl 1 [[.v (.string ⟨#[97]⟩)]]) (.sl 11 [fc9 (.sl 11 [rc9 ⟨#[102]⟩,rc9 ⟨#[98]⟩])])]))],[none,none,none,none,none]⟩) (Le.freeze (fun i=>i == 4) (Frz.ofL ?_) ?_) ?_
 ·simp only [FrzL,FzR,FzCs,lc9]
  repeat' first|exact FzC.same _ _ _|exact FzC.nil|exact FzC.ms rfl rfl rfl|exact rfl|exact trivial|refine And.intro ?_ ?_|(intro hz;exact absurd hz (by decide))|(intro hz ob ho;cases ho;simp [C.shut,lc9])
 ·simp only [SubZ];exact⟨⟨_,rfl,FzC.ms rfl rfl rfl⟩,trivial⟩
 refine cz (hcp) ?_
 simp only [DV,Nd.row,mL,aW,List.map_cons,List.map_nil]
 have c4:((4:Nat):Int)=4:=rfl
 have c1:((1:Nat):Int)=1:=rfl
 (refine WpL.go _ rfl fun Y y=>?_);repeat (first|(apply fw;focus ((with_reducible constructor)<;>constructor))|((first|with_reducible refine ga _ rfl fun Y y=>?_|apply ri);simp only [zb,seval,w31,cA,hff,c4,c1];refine fz y ?_;clear y Y))
 refine ye (by simp only [zb,seval,w31];rfl) (by simp only [zv];rfl) ?_
 rfl
end Go.Proofs.YtaeioidifpebdaaGreatDoor
end
section
namespace Go.Proofs.YtaeioidifpebdaaGreatDoor
open Go Go.RowKit Go.Lib
set_option linter.unusedSimpArgs false
set_option linter.unusedVariables false
set_option maxRecDepth 100000
mutual
theorem NO:∀x:K,x.size=x.sz
 | .mk k name rest params d l=>by rw [K.size,K.sz,DY l]
theorem DY:∀l:List K,K.sizes l=szs l
 | []=>rfl
 | x::l=>by rw [K.sizes,szs,NO x,DY l]
end
mutual
theorem DZ:∀d:D,d.count≤d.msr
 | .mk k c neg mag t l=>by
  have h:=EA l
  rw [D.count,D.msr]
  split<;>omega
theorem EA:∀l:List D,kL l≤aY l
 | []=>Nat.le_refl _
 | d::l=>by
  have h1:=DZ d
  have h2:=EA l
  rw [kL,aY];omega
end
theorem QI {d x:D} (h:x∈d.l):x.depth≤d.depth:=by
 obtain⟨i,hi,rfl⟩:=List.mem_iff_getElem.1 h
 rw [D.depth_eq d]
 have h1:gG d i hi≤dto d d.l.length (Nat.le_refl _):=uC d.l.length (fun i hi=>gG d i hi) i hi
 unfold gG at h1
 omega
theorem NP {h:Nat}:∀{l:List D},(∀d∈l,d.depth+1≤h)→l≠[]→LD l+1≤h
 | [d],hl,_=>by have:=hl d (by simp);simp only [LD];omega
 | d::e::l,hl,_=>by
  have h1:=hl d (by simp)
  have h2:=NP (l:=e::l) (fun x hx=>hl x (by simp [hx])) (by simp)
  rw [LD];omega
theorem QJ {d:D} (hk:d.k=8):(fK d.l).depth≤d.depth:=by
 rw [xR]
 split
 ·exact Nat.zero_le _
 ·rename_i hn
  refine NP (fun x hx=>?_) hn
  obtain⟨i,hi,rfl⟩:=List.mem_iff_getElem.1 hx
  rw [D.depth_eq d]
  have h1:gG d i hi≤dto d d.l.length (Nat.le_refl _):=uC d.l.length (fun i hi=>gG d i hi) i hi
  unfold gG at h1
  rw [if_neg (by rw [hk];omega)] at h1
  omega
def QK (d:D):Prop:=d.Ok∧yF d=true∧d.count<1000000000
def YF (d:D):Prop:=d.Ok∧d.Plain∧d.depth≤64∧d.msr≤100000
theorem VE {d x:D} (h:x∈d.l):x.msr≤d.msr:=by
 have:=lS h
 obtain⟨k,c,neg,mag,t,l⟩:=d
 rw [D.msr]
 simp only [D.l] at this
 omega
theorem BP {d:D} (h:d.Plain):Plains d.l:=by
 obtain⟨k,c,neg,mag,t,l⟩:=d
 rw [D.Plain] at h
 exact h.2.2.2.2.2.2.2.2
theorem QL {d x:D} (h:d.Plain) (hx:x∈d.l):x.Plain:=by
 obtain⟨i,hi,rfl⟩:=List.mem_iff_getElem.1 hx
 exact (Plains.iff d.l).1 (BP h) i hi
theorem XD {s:ByteArray} (h:xD s 1=true) (hs:s.size≤1000):QK (rF s) :=
 ⟨WD (by omega),rH.2 ⟨(OV s).2 h,by rw [OW];decide⟩,by rw [OX];decide⟩
theorem XE:Pc QK YF where
 kid d x h hx:=⟨h.1.kid hx,QL h.2.1 hx,Nat.le_trans (QI hx) h.2.2.1,Nat.le_trans (VE hx) h.2.2.2⟩
 vec d h hk:=by
  have hv:=Gd.vec (n:=d.msr+1) ⟨h.2.1.two,h.1,Nat.lt_succ_self _⟩ hk
  exact⟨AK h.1.l,xS.2 (BP h.2.1),Nat.le_trans (QJ hk) h.2.2.1,by have:=hv.2;have:=h.2.2.2;omega⟩
 q d h:=⟨h.1,rH.2 ⟨h.2.1,h.2.2.1⟩,by have:=DZ d;have:=h.2.2.2;omega⟩
 kd k h:=⟨UH (by omega),rH.2 ⟨LE (by omega),by rw [LF (by omega)];decide⟩,by rw [LH];decide⟩
 nil:=⟨dW,rH.2 ⟨AO,by rw [LG];decide⟩,by decide⟩
 sym:=⟨XD (by decide) (by decide),XD (by decide) (by decide),XD (by decide) (by decide)⟩
theorem VF:Cov YF fun s=>s≠e0:=fun d h hk=>by
 have:d.t≠e0:=BL d h.2.1 d.t (by rw [D.syms_eq,if_pos hk];simp)
 exact⟨this,this⟩
theorem yZ {t:Bool}:∀{l:List K},(∀x∈l,x.may t=true)→K.mays l t=true
 | [],_=>rfl
 | x::l,h=>by rw [K.mays,h x (by simp),yZ fun y hy=>h y (by simp [hy])];rfl
theorem Good.may {A:ByteArray→Prop} {k:K} (h:Good QK A k):∀t,k.may t=true:=by
 induction h with
 | @const A d h =>
  intro t
  rw [eC,K.may,aV (show K.mk 1 e0 e0 [] d []=K.bare (K.mk 1 e0 e0 [] d []) by simp [K.bare,K.k,K.name,K.rest,K.params,K.d,K.l,e0]),if_pos rfl,h.2.1]
  simp [jJ,K.k,K.l]
 | @ref A s h h0 =>
  intro t
  rw [bJ,K.may,aV (show K.mk 2 s e0 [] bZ []=K.bare (K.mk 2 s e0 [] bZ []) by simp [K.bare,K.k,K.name,K.rest,K.params,K.d,K.l,e0,bZ,dZ]),aB (show s≠⟨#[]⟩ from h0)]
  simp [jJ,K.k,K.l,K.mays]
 | @prim A s h0 =>
  intro t
  rw [fI,K.may,aV (show K.mk 10 s e0 [] bZ []=K.bare (K.mk 10 s e0 [] bZ []) by simp [K.bare,K.k,K.name,K.rest,K.params,K.d,K.l,e0,bZ,dZ]),aB (show s≠⟨#[]⟩ from h0)]
  simp [jJ,K.k,K.l,K.mays]
 | @set A s x h h0 _ ih =>
  intro t
  rw [pR,K.may,aV (show K.mk 3 s e0 [] bZ [x]=K.bare (K.mk 3 s e0 [] bZ [x]) by simp [K.bare,K.k,K.name,K.rest,K.params,K.d,K.l,e0,bZ,dZ]),aB (show s≠⟨#[]⟩ from h0)]
  simp [jJ,K.k,K.l,K.mays,ih]
 | @branch A a b c _ _ _ i1 i2 i3 =>
  intro t
  rw [aF,K.may,aV (show K.mk 5 e0 e0 [] bZ [a,b,c]=K.bare (K.mk 5 e0 e0 [] bZ [a,b,c]) by simp [K.bare,K.k,K.name,K.rest,K.params,K.d,K.l,e0,bZ,dZ])]
  simp [jJ,K.k,K.l,K.mays,i1,i2,i3]
 | @seq A l h1 h2 _ ih =>
  intro t
  rw [K.may,aV (show K.mk 7 e0 e0 [] bZ l=K.bare (K.mk 7 e0 e0 [] bZ l) by simp [K.bare,K.k,K.name,K.rest,K.params,K.d,K.l,e0,bZ,dZ]),yZ fun x hx=>ih x hx _]
  simp [jJ,K.k,K.l,h1,h2]
 | @call A l h1 h2 _ ih =>
  intro t
  rw [jT,K.may,aV (show K.mk 8 e0 e0 [] bZ l=K.bare (K.mk 8 e0 e0 [] bZ l) by simp [K.bare,K.k,K.name,K.rest,K.params,K.d,K.l,e0,bZ,dZ]),yZ fun x hx=>ih x hx _]
  simp [jJ,K.k,K.l,h1,h2]
 | @lam A B ps rest b h1 h2 h3 h4 h5 h6 ih =>
  intro t
  rw [K.may,aV (show K.mk 6 e0 rest ps bZ [b]=K.bare (K.mk 6 e0 rest ps bZ [b]) by simp [K.bare,K.k,K.name,K.rest,K.params,K.d,K.l,e0,bZ,dZ])]
  rw [wP (show rJ (nO (K.mk 6 e0 rest ps bZ [b])) by
   unfold nO
   show rJ (if rest=⟨#[]⟩ then ps else ps++[rest])
   by_cases hr:rest=⟨#[]⟩
   ·rw [if_pos hr]
    exact⟨by omega,fun hm=>h3 _ hm rfl,h1⟩
   ·rw [if_neg hr]
    rw [if_neg (show ¬rest=e0 from hr)] at h4
    refine⟨by simp;omega,fun hm=>?_,List.nodup_append.2 ⟨h1,by simp,fun a ha b hb e=>?_⟩⟩
    ·rcases List.mem_append.1 hm with hm|hm
     ·exact h3 _ hm rfl
     ·exact hr (List.mem_singleton.1 hm).symm
    ·rw [List.mem_singleton.1 hb] at e
     exact h2 (e▸ha))]
  simp [jJ,K.k,K.l,K.mays,ih]
 | none =>
  intro t
  rw [jH,K.may,aV (show K.mk 9 e0 e0 [] bZ []=K.bare (K.mk 9 e0 e0 [] bZ []) by simp [K.bare,K.k,K.name,K.rest,K.params,K.d,K.l,e0,bZ,dZ])]
  simp [jJ,K.k,K.l,K.mays]
theorem TopG.may {A:ByteArray→Prop} {k:K} (h:TopG QK A k):k.may true=true:=by
 induction h with
 | good h=>exact h.may _
 | @dfn s x h h0 hx =>
  rw [K.may,aV (show K.mk 4 s e0 [] bZ [x]=K.bare (K.mk 4 s e0 [] bZ [x]) by simp [K.bare,K.k,K.name,K.rest,K.params,K.d,K.l,e0,bZ,dZ]),aB (show s≠⟨#[]⟩ from h0)]
  simp [jJ,K.k,K.l,K.mays,hx.may]
 | @seq l h1 h2 _ ih =>
  rw [K.may,aV (show K.mk 7 e0 e0 [] bZ l=K.bare (K.mk 7 e0 e0 [] bZ l) by simp [K.bare,K.k,K.name,K.rest,K.params,K.d,K.l,e0,bZ,dZ])]
  have:K.mays l (true&&decide ((7:Int)=7))=true:=yZ fun x hx=>ih x hx
  rw [this]
  simp [jJ,K.k,K.l,h1,h2]
theorem FZ:∀{l:List K},(∀x∈l,x.Lg)→K.Lgs l
 | [],_=>trivial
 | x::l,h=>⟨h x (by simp),FZ fun y hy=>h y (by simp [hy])⟩
theorem lH:bZ.count<1000000000:=by decide
theorem Good.lg {A:ByteArray→Prop} {k:K} (h:Good QK A k):k.Lg:=by
 induction h with
 | const h=>exact⟨by decide,by simp,h.1,h.2.2,by simp,trivial⟩
 | ref h h0=>exact⟨by decide,by simp,dW,lH,by simp,trivial⟩
 | prim h0=>exact⟨by decide,by simp,dW,lH,by simp,trivial⟩
 | set h h0 _ ih=>exact⟨by decide,by simp,dW,lH,by simp,ih,trivial⟩
 | branch _ _ _ i1 i2 i3=>exact⟨by decide,by simp,dW,lH,by simp,i1,i2,i3,trivial⟩
 | seq h1 h2 _ ih=>exact⟨by decide,by simp,dW,lH,by omega,FZ ih⟩
 | call h1 h2 _ ih=>exact⟨by decide,by simp,dW,lH,by omega,FZ ih⟩
 | lam h1 h2 h3 h4 h5 h6 ih=>exact⟨by decide,by omega,dW,lH,by simp,ih,trivial⟩
 | none=>exact⟨by decide,by simp,dW,lH,by simp,trivial⟩
theorem TopG.lg {A:ByteArray→Prop} {k:K} (h:TopG QK A k):k.Lg:=by
 induction h with
 | good h=>exact h.lg
 | dfn h h0 hx=>exact⟨by decide,by simp,dW,lH,by simp,hx.lg,trivial⟩
 | seq h1 h2 _ ih=>exact⟨by decide,by simp,dW,lH,by omega,FZ ih⟩
theorem VG {d:D} (h:¬d.weigh p19 500<0):d.count≤500:=by
 have h1:=wZ p19 d 500 (by omega)
 omega
mutual
theorem GA:∀d:D,d.msr+1≤3*d.count
 | .mk k c neg mag t l=>by
  have h:=KD l
  rw [D.msr,D.count]
  split<;>omega
theorem KD:∀l:List D,aY l+l.length≤3*kL l
 | []=>by simp [aY,kL]
 | d::l=>by
  have h1:=GA d
  have h2:=KD l
  rw [aY,kL,List.length_cons];omega
end
theorem TP {d:D} (hok:d.Ok) (hw:d.count≤500) (h0:(wV d).2=0):(wV d).1.may true=true∧(wV d).1.Lg∧(wV d).1.size≤900000000:=by
 obtain⟨hb,h2,he⟩:=SZ h0
 have hm:=GA d
 have hp:=rH.1 hb
 have hg:=QE XE VF (d:=d) (by omega) hp.1.two hok ⟨hok,hp.1,hp.2,by omega⟩ h2
 have hs:=VA hp.1.two hok
 rw [he]
 exact⟨hg.may,hg.lg,by rw [NO];dsimp only;omega⟩
theorem QM (c:K):(gE [c]).tops=[0]:=rfl
end Go.Proofs.YtaeioidifpebdaaGreatDoor
end
section
namespace Go.Proofs.YtaeioidifpebdaaGreatDoor
open Go Go.RowKit Go.Lib
set_option linter.unusedSimpArgs false
set_option linter.unusedVariables false
set_option maxHeartbeats 4000000
set_option maxRecDepth 100000
theorem yM (d:D) (hok:d.Ok):Pure Tryz.prog 9 [.agg d.cc] (.one (.v (.bool true))):=by
 have aw:=KC
 have hw:=TL d hok 500 (by decide) (by decide)
 by_cases q1:d.weigh p19 500<0
 ·have g1:decide (d.weigh p19 500<0)=true:=decide_eq_true q1
  refine fi Tryz.func9 Tryz.ntmps9 Tryz.results9 ?_
  repeat (first|(apply fw;focus ((with_reducible constructor)<;>constructor))|((first|with_reducible refine ga _ rfl fun Y y=>?_|(refine ca ?_;apply Exists.intro;constructor;assumption;intro Y y)|apply ri);simp only [zb,seval,w9,kcc,g1];refine fz y ?_;clear y Y))
  refine ye (by simp only [zb,seval,w9];rfl) (by simp only [zv];rfl) ?_
  rfl
 have g1:decide (d.weigh p19 500<0)=false:=decide_eq_false q1
 have hc:=VG q1
 have hm:=GA d
 have ho:=WP d hok (by omega) (by omega)
 have h1:=TP hok hc
 simp only [onA] at ho
 generalize wV d=r at *
 obtain⟨c,e⟩:=r
 dsimp only at *
 by_cases q2:e=0
 ·subst q2
  obtain⟨m1,m2,m3⟩:=h1 rfl
  have hcp:=DX [c] ⟨m2,trivial⟩ (by simp) (by simp [K.sizes];omega)
  have hca:DW [c]=.tup [.agg (DV (gE [c])),.one (.v (.int .i64 0))]:=by
   unfold DW
   rw [if_pos (by simp [m1])]
  have htp:=QM c
  rw [hca] at hcp
  generalize gE [c]=n at *
  simp only [DV,htp,mL,List.map_cons,List.map_nil] at hcp
  have hmy:=JZ c m2.ok m2.sm
  rw [m1] at hmy
  refine fi Tryz.func9 Tryz.ntmps9 Tryz.results9 ?_
  repeat (first|(apply fw;focus ((with_reducible constructor)<;>constructor))|((first|with_reducible refine ga _ rfl fun Y y=>?_|(refine ca ?_;apply Exists.intro;constructor;assumption;intro Y y)|apply ri);simp only [zb,seval,w9,kcc,g1];refine fz y ?_;clear y Y))
  (refine WpL.frz 21 (2) (by rfl) (by first|rfl|(simp only [zz,kcc];rfl)|(simp only [zz,kcc])) (by first|rfl|(simp [kcc];done)|(simp [kcc];omega)) (by simp [ksh]) ?_);simp only [zz,kcc]
  repeat (first|(apply fw;focus ((with_reducible constructor)<;>constructor))|((first|with_reducible refine ga _ rfl fun Y y=>?_|(refine ca ?_;apply Exists.intro;constructor;assumption;intro Y y)|apply ri);simp only [zb,seval,w9,kcc];refine fz y ?_;clear y Y))
  refine ye (by simp only [zb,seval,w9];rfl) (by simp only [zv];rfl) ?_
  rfl
 ·have g2:(e != 0)=true:=by simp [q2]
  refine fi Tryz.func9 Tryz.ntmps9 Tryz.results9 ?_
  repeat (first|(apply fw;focus ((with_reducible constructor)<;>constructor))|((first|with_reducible refine ga _ rfl fun Y y=>?_|(refine ca ?_;apply Exists.intro;constructor;assumption;intro Y y)|apply ri);simp only [zb,seval,w9,kcc,g1,g2];refine fz y ?_;clear y Y))
  refine ye (by simp only [zb,seval,w9];rfl) (by simp only [zv];rfl) ?_
  rfl
end Go.Proofs.YtaeioidifpebdaaGreatDoor
end
