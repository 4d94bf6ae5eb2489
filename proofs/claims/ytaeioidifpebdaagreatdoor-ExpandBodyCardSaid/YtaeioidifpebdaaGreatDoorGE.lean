/-
 Laid together: Alk18, LawBody.
-/
import Derived.Test.YtaeioidifpebdaaGreatDoorGD
import Derived.Test.YtaeioidifpebdaaGreatDoorGA
import Derived.Test.YtaeioidifpebdaaGreatDoorGC
section
namespace Go.Proofs.YtaeioidifpebdaaGreatDoor
open Go Go.RowKit Go.Lib
set_option linter.unusedSimpArgs false
set_option linter.unusedVariables false
set_option maxHeartbeats 4000000
set_option maxRecDepth 100000
theorem DD {a b:D} (ha:Lit 6 a) (hb:Lit 6 b) (he:pH a=pH b):Pure Tryz.prog 24 [.agg a.cc,.agg b.cc] (.one (.v (.bool true))):=by
 have h1:=CQ a ha.ok ha.cnt ha.msr
 have h2:=CQ b hb.ok hb.cnt hb.msr
 have m1:=uB a ha.ok (ha.sm _) ha.cnt
 have m2:=uB b hb.ok (hb.sm _) hb.cnt
 have es:=CC (pH a).1 (pH a).1 (WD ha.ok ha.msr)
 rw [bB rfl] at es
 rw [ha.may] at m1
 rw [hb.may] at m2
 rw [←he] at h2
 simp only [onA] at h1 h2
 generalize pH a=r at *
 obtain⟨x,e⟩:=r
 dsimp only at *
 have hee:(e == e)=true:=by simp
 refine fi Tryz.func24 Tryz.ntmps24 Tryz.results24 ?_
 (refine WpA.seq ?_);(refine WpA.region ?_);(refine WpL.go _ rfl fun Y y=>?_);simp only [zb,seval,w24];(refine RunTo.fn y (by first|(simp;done)|omega|(simp;omega)) ?_);clear y Y;(refine WpL.nil ?_);(refine tH ?_)
 refine WpA.frzP 2 0 rfl rfl (D.cc_shut _) ?_
 simp only [zz]
 refine WpA.frzP 3 1 rfl rfl (D.cc_shut _) ?_
 simp only [zz]
 repeat (first|(apply fw;focus ((with_reducible constructor)<;>constructor))|((first|with_reducible refine ga _ rfl fun Y y=>?_|(refine ca ?_;apply Exists.intro;constructor;assumption;intro Y y)|apply ri);simp only [zb,seval,w24,kcc];refine fz y ?_;clear y Y))
 refine WpA.frzP 5 2 rfl rfl (K.cc_shut _) ?_
 simp only [zz]
 refine WpA.frzP 7 3 rfl rfl (K.cc_shut _) ?_
 simp only [zz]
 (refine WpA.draw0 15 _ _ _ rfl rfl rfl (by kernel_rfl) (by kernel_rfl) (by kernel_rfl) fun K8 hK8=>?_);simp only [zz] at hK8 ⊢;(refine Draw0.go fun K7 k=>?_);simp only [zb,seval,w24,kcc,hee];(refine qz (k _ _ ?_));clear k K7
 refine Draw0.step (oz (m1)) ?_
 (refine Draw0.go fun K7 k=>?_);simp only [zb,seval,w24,kcc,hee];(refine qz (k _ _ ?_));clear k K7
 refine Draw0.step (oz (m2)) ?_
 (refine Draw0.go fun K7 k=>?_);simp only [zb,seval,w24,kcc,hee];(refine qz (k _ _ ?_));clear k K7
 refine Draw0.step (oz (es)) ?_
 (refine Draw0.go fun K7 k=>?_);simp only [zb,seval,w24,kcc,hee];(refine qz (k _ _ ?_));clear k K7;(try ((refine Draw0.nil (hK8 _ ?_));clear hK8 K8;(refine WpL.go _ rfl fun Y y=>?_);repeat (first|(apply fw;focus ((with_reducible constructor)<;>constructor))|((first|with_reducible refine ga _ rfl fun Y y=>?_|apply ri);simp only [zb,seval,w24,kcc,hee];refine fz y ?_;clear y Y))))
 refine ye (by simp only [zb,seval,w24,kcc];rfl) (by simp only [zv,kcc];rfl) ?_
 rfl
def xK (l:List D):D:=aE (bK cJ::aE []::l)
theorem uC (l:List D) (hlen:l.length≤100):Pure Tryz.prog 28 [.one (.sl 6 (l.map D.cc))] (.agg (xK l).cc):=by
 have s1:=jB cJ
 have l1:=eM [] (by simp)
 have h:=CR (bK cJ::aE []::l) (by simp;omega)
 simp only [List.map_cons,List.map_nil] at l1 h
 have hml:(l.map D.cc).length=l.length:=List.length_map ..
 refine fi Tryz.func28 Tryz.ntmps28 Tryz.results28 ?_
 repeat (first|(apply fw;focus ((with_reducible constructor)<;>constructor))|((first|with_reducible refine ga _ rfl fun Y y=>?_|(refine ca ?_;apply Exists.intro;constructor;assumption;intro Y y)|apply ri);simp only [zb,seval,w28,kcc,dcc];refine fz y ?_;clear y Y))
 refine cz ((l1)) ?_
 (refine WpL.go _ rfl fun Y y=>?_);repeat (first|(apply fw;focus ((with_reducible constructor)<;>constructor))|((first|with_reducible refine ga _ rfl fun Y y=>?_|apply ri);simp only [zb,seval,w28,kcc,dcc,hml];refine fz y ?_;clear y Y))
 (refine WpL.frz 7 (1) (by rfl) (by first|rfl|(simp only [zz,kcc];rfl)|(simp only [zz,kcc])) (by first|rfl|(simp [kcc];done)|(simp [kcc];omega)) (by simp [ksh]) ?_);simp only [zz,kcc]
 refine cz (h) ?_
 (refine WpL.go _ rfl fun Y y=>?_);repeat (first|(apply fw;focus ((with_reducible constructor)<;>constructor))|((first|with_reducible refine ga _ rfl fun Y y=>?_|apply ri);simp only [zb,seval,w28,kcc,dcc];refine fz y ?_;clear y Y))
 refine ye (by simp only [zb,seval,w28,kcc,dcc];rfl) (by simp only [zv,kcc,dcc];rfl) ?_
 rfl
theorem xL (d:D) (ht:d.Two):∃b:Bool,Pure Tryz.prog 29 [.agg d.cc] (.one (.v (.bool b)))∧(b=false→cF d cQ=none∧cF d bO=none):=by
 by_cases hk:d.k=7
 ·have hl:=ht.pair hk
  have e7:(d.k == 7)=true:=by simp [hk]
  by_cases h6:d.fst.k=6
  ·have e6:(d.fst.k == 6)=true:=by simp [h6]
   by_cases t1:d.fst.t=cQ
   ·refine⟨true,?_,fun h=>by cases h⟩
    have q1:=bB t1
    simp only [cQ] at q1
    rw [D.cc_eq d,hl]
    simp only [List.map_cons,List.map_nil,D.cc_eq d.fst]
    refine fi Tryz.func29 Tryz.ntmps29 Tryz.results29 ?_
    repeat (first|(apply fw;focus ((with_reducible constructor)<;>constructor))|((first|with_reducible refine ga _ rfl fun Y y=>?_|apply ri);simp only [zb,seval,w29,e7,e6,cK,q1];refine fz y ?_;clear y Y))
    refine ye (by simp only [zb,seval,w29];rfl) (by simp only [zv];rfl) ?_
    rfl
   have q1:=aA t1
   by_cases t2:d.fst.t=bO
   ·refine⟨true,?_,fun h=>by cases h⟩
    have q2:=bB t2
    simp only [cQ,bO] at q1 q2
    rw [D.cc_eq d,hl]
    simp only [List.map_cons,List.map_nil,D.cc_eq d.fst]
    refine fi Tryz.func29 Tryz.ntmps29 Tryz.results29 ?_
    repeat (first|(apply fw;focus ((with_reducible constructor)<;>constructor))|((first|with_reducible refine ga _ rfl fun Y y=>?_|apply ri);simp only [zb,seval,w29,e7,e6,cK,q1,q2];refine fz y ?_;clear y Y))
    refine ye (by simp only [zb,seval,w29];rfl) (by simp only [zv];rfl) ?_
    rfl
   ·have q2:=aA t2
    refine⟨false,?_,fun _=>⟨if_neg fun q=>?_,if_neg fun q=>?_⟩⟩
    ·simp only [cQ,bO] at q1 q2
     rw [D.cc_eq d,hl]
     simp only [List.map_cons,List.map_nil,D.cc_eq d.fst]
     refine fi Tryz.func29 Tryz.ntmps29 Tryz.results29 ?_
     repeat (first|(apply fw;focus ((with_reducible constructor)<;>constructor))|((first|with_reducible refine ga _ rfl fun Y y=>?_|apply ri);simp only [zb,seval,w29,e7,e6,cK,q1,q2];refine fz y ?_;clear y Y))
     refine ye (by simp only [zb,seval,w29];rfl) (by simp only [zv];rfl) ?_
     rfl
    ·have:=q.2;simp [iY,q1] at this
    ·have:=q.2;simp [iY,q2] at this
  ·have e6:(d.fst.k == 6)=false:=by simp [h6]
   refine⟨false,?_,fun _=>⟨if_neg fun q=>?_,if_neg fun q=>?_⟩⟩
   ·rw [D.cc_eq d,hl]
    simp only [List.map_cons,List.map_nil,D.cc_eq d.fst]
    refine fi Tryz.func29 Tryz.ntmps29 Tryz.results29 ?_
    repeat (first|(apply fw;focus ((with_reducible constructor)<;>constructor))|((first|with_reducible refine ga _ rfl fun Y y=>?_|apply ri);simp only [zb,seval,w29,e7,e6];refine fz y ?_;clear y Y))
    refine ye (by simp only [zb,seval,w29];rfl) (by simp only [zv];rfl) ?_
    rfl
   ·rw [FY h6] at q;cases q.2
   ·rw [FY h6] at q;cases q.2
 ·have e7:(d.k == 7)=false:=by simp [hk]
  refine⟨false,?_,fun _=>⟨AF hk _,AF hk _⟩⟩
  rw [D.cc_eq d]
  refine fi Tryz.func29 Tryz.ntmps29 Tryz.results29 ?_
  repeat (first|(apply fw;focus ((with_reducible constructor)<;>constructor))|((first|with_reducible refine ga _ rfl fun Y y=>?_|apply ri);simp only [zb,seval,w29,e7];refine fz y ?_;clear y Y))
  refine ye (by simp only [zb,seval,w29];rfl) (by simp only [zv];rfl) ?_
  rfl
theorem orT {b:Bool} {P:Prop} (h:P):b=true∨b=false∧P:=by cases b<;>simp [h]
theorem orF {b:Bool} {P:Prop} (h:P):b=false∨b=true∧P:=by cases b<;>simp [h]
theorem YK {d:D} (hok:d.Ok):∃b:Bool,Pure Tryz.prog 16 [.agg d.cc] (.one (.v (.bool b)))∧(b=false→¬d.weigh p18 800<0):=⟨_,GW d hok,fun h=>by simpa using h⟩
theorem YL {d:D} (hok:d.Ok) (hw:¬d.weigh p18 800<0):Pure Tryz.prog 20 [.agg d.cc] (.one (.v (.int .i64 d.depth))):=zJ d (by have:=(GX hw).1;omega)
theorem YM {d:D} (hok:d.Ok) (hw:¬d.weigh p18 800<0):Pure Tryz.prog 22 [.agg d.cc] (.one (.v (.bool (lI d)))):=uB d hok (HQ _ d 800 (by omega) (by omega)) (by have:=(GX hw).1;omega)
theorem YN {d:D} (hok:d.Ok) (hw:¬d.weigh p18 800<0) (hd:¬50<d.depth) (hm:lI d=true):Lit 0 d:=Lit.of hok hw (by omega) (oA.1 hm).1
theorem IG (v:ByteArray) (x y z:D) (hv:v.size≤140737488351232) (hx:x.Ok) (hy:y.Ok) (hz:z.Ok):Pure Tryz.prog 8 [.one (.v (.string v)),.agg x.cc,.agg y.cc,.agg z.cc] (.one (.v (.bool true))):=by
 have aw:=NC
 obtain⟨b1,h1,w1⟩:=YK hx
 obtain⟨b2,h2,w2⟩:=YK hy
 obtain⟨b3,h3,w3⟩:=YK hz
 rcases orT (b:=b1) (orT (b:=b2) (orT (b:=b3) trivial)) with rfl|⟨rfl,rfl|⟨rfl,rfl|⟨rfl,-⟩⟩⟩
 iterate 3
  focus
   refine fi Tryz.func8 Tryz.ntmps8 Tryz.results8 ?_
   (refine WpA.seq ?_);(refine WpA.region ?_);(refine WpL.go _ rfl fun Y y=>?_);simp only [zb,seval,w8];(refine RunTo.fn y (by first|(simp;done)|omega|(simp;omega)) ?_);clear y Y;(refine WpL.nil ?_);(refine tH ?_)
   refine WpA.frzP 5 0 rfl rfl (D.cc_shut _) ?_
   simp only [zz]
   refine WpA.frzP 6 1 rfl rfl (D.cc_shut _) ?_
   simp only [zz]
   refine WpA.frzP 7 2 rfl rfl (D.cc_shut _) ?_
   simp only [zz]
   repeat (first|(apply fw;focus ((with_reducible constructor)<;>constructor))|((first|with_reducible refine ga _ rfl fun Y y=>?_|(refine ca ?_;apply Exists.intro;constructor;assumption;intro Y y)|apply ri);simp only [zb,seval,w8,kcc];refine fz y ?_;clear y Y))
   refine ye (by simp only [zb,seval,w8];rfl) (by simp only [zv];rfl) ?_
   rfl
 have w1:=w1 rfl
 have w2:=w2 rfl
 have w3:=w3 rfl
 have d1:=YL hx w1
 have d2:=YL hy w2
 have d3:=YL hz w3
 have m1:=YM hx w1
 have m2:=YM hy w2
 have m3:=YM hz w3
 have sv:=jB v
 obtain⟨b4,g4⟩:∃b,decide ((60:Int)<(v.size:Int))=b:=⟨_,rfl⟩
 obtain⟨b5,g5⟩:∃b,decide ((40:Int)<(x.depth:Int))=b:=⟨_,rfl⟩
 obtain⟨b6,g6⟩:∃b,decide ((40:Int)<(y.depth:Int))=b:=⟨_,rfl⟩
 obtain⟨b7,g7⟩:∃b,decide ((40:Int)<(z.depth:Int))=b:=⟨_,rfl⟩
 have m4:b4=false→Pure Tryz.prog 22 [.agg (bK v).cc] (.one (.v (.bool (lI (bK v))))):=fun e=>by
  subst e
  have:v.size≤60:=by simp at g4;omega
  exact uB (bK v) (xW hv) (by
   cases (bK v).ht with
   | zero=>trivial
   | succ k=>exact⟨by show v.size≤3000;omega,Nat.zero_le _,Nat.zero_le _,fun x hx=>by cases hx⟩) (by rw [pP];decide)
 have n1:lI x=true→b5=false→Lit 0 x:=fun h e=>YN hx w1 (by subst e;simp at g5;omega) h
 have n2:lI y=true→b6=false→Lit 0 y:=fun h e=>YN hy w2 (by subst e;simp at g6;omega) h
 have n3:lI z=true→b7=false→Lit 0 z:=fun h e=>YN hz w3 (by subst e;simp at g7;omega) h
 have n4:lI (bK v)=true→b4=false→Lit 0 (bK v):=fun h e=>Lit.sym ((iZ v).1 (oA.1 h).1) (by subst e;simp at g4;omega)
 generalize lI x=c1 at *
 generalize lI y=c2 at *
 generalize lI z=c3 at *
 generalize lI (bK v)=c4 at *
 rcases orT (b:=b4) (orT (b:=b5) (orT (b:=b6) (orT (b:=b7) (orF (b:=c1) (orF (b:=c2) (orF (b:=c3) (orF (b:=c4) trivial))))))) with rfl|⟨rfl,rfl|⟨rfl,rfl|⟨rfl,rfl|⟨rfl,rfl|⟨rfl,rfl|⟨rfl,rfl|⟨rfl,rfl|⟨rfl,-⟩⟩⟩⟩⟩⟩⟩⟩
 iterate 8
  focus
   try have m4:=m4 rfl
   refine fi Tryz.func8 Tryz.ntmps8 Tryz.results8 ?_
   (refine WpA.seq ?_);(refine WpA.region ?_);(refine WpL.go _ rfl fun Y y=>?_);simp only [zb,seval,w8];(refine RunTo.fn y (by first|(simp;done)|omega|(simp;omega)) ?_);clear y Y;(refine WpL.nil ?_);(refine tH ?_)
   refine WpA.frzP 5 0 rfl rfl (D.cc_shut _) ?_
   simp only [zz]
   refine WpA.frzP 6 1 rfl rfl (D.cc_shut _) ?_
   simp only [zz]
   refine WpA.frzP 7 2 rfl rfl (D.cc_shut _) ?_
   simp only [zz]
   repeat (first|(apply fw;focus ((with_reducible constructor)<;>constructor))|((first|with_reducible refine ga _ rfl fun Y y=>?_|(refine ca ?_;apply Exists.intro;constructor;assumption;intro Y y)|apply ri);simp only [zb,seval,w8,kcc,g4,g5,g6,g7];refine fz y ?_;clear y Y))
   refine ye (by simp only [zb,seval,w8];rfl) (by simp only [zv];rfl) ?_
   rfl
 have m4:=m4 rfl
 have n1:=n1 rfl rfl
 have n2:=n2 rfl rfl
 have n3:=n3 rfl rfl
 have n4:=n4 rfl rfl
 have s1:=jB bO
 have s2:=jB cQ
 have s3:=jB dU
 have l1:=eM [bK bO,x,y] (by simp)
 have l2:=eM [bK cQ,bK v,x] (by simp)
 have l3:=eM [bK v,x] (by simp)
 have l4:=eM [aE [bK v,x]] (by simp)
 have l5:=eM [bK dU,aE [aE [bK v,x]],y,z] (by simp)
 have r1:=uC [aE [bK bO,x,y],z] (by simp)
 have r2:=uC [x,y,z] (by simp)
 have r3:=uC [yG v x,y,z] (by simp)
 have r4:=uC [HU v x y z] (by simp)
 have kk:=sP v
 obtain⟨b1,p1,p2⟩:=xL y n2.pl.two
 obtain⟨b2,p3,p4⟩:=xL z n3.pl.two
 have li:Lit 0 (bK cJ):=Lit.sym (by decide) (by decide)
 have lB:Lit 1 (aE [bK bO,x,y]):=Lit.list (by simp only [List.mem_cons,List.not_mem_nil,or_false,forall_eq_or_imp,forall_eq];exact⟨Lit.sym (by decide) (by decide),n1,n2⟩) (by simp)
 have lA:Lit 2 (xK [aE [bK bO,x,y],z]):=Lit.list (by simp only [List.mem_cons,List.not_mem_nil,or_false,forall_eq_or_imp,forall_eq];exact⟨li.le (by omega),Lit.nil.le (by omega),lB,n3.le (by omega)⟩) (by simp)
 have lC:Lit 1 (xK [x,y,z]):=Lit.list (by simp only [List.mem_cons,List.not_mem_nil,or_false,forall_eq_or_imp,forall_eq];exact⟨li,Lit.nil,n1,n2,n3⟩) (by simp)
 have lD:Lit 1 (yG v x):=Lit.list (by simp only [List.mem_cons,List.not_mem_nil,or_false,forall_eq_or_imp,forall_eq];exact⟨Lit.sym (by decide) (by decide),n4,n1⟩) (by simp)
 have lE:Lit 2 (xK [yG v x,y,z]):=Lit.list (by simp only [List.mem_cons,List.not_mem_nil,or_false,forall_eq_or_imp,forall_eq];exact⟨li.le (by omega),Lit.nil.le (by omega),lD,n2.le (by omega),n3.le (by omega)⟩) (by simp)
 have lF:Lit 2 (aE [aE [bK v,x]]):=Lit.list (by simp only [List.mem_cons,List.not_mem_nil,or_false,forall_eq];exact Lit.list (by simp only [List.mem_cons,List.not_mem_nil,or_false,forall_eq_or_imp,forall_eq];exact⟨n4,n1⟩) (by simp)) (by simp)
 have lG:Lit 3 (HU v x y z):=Lit.list (by simp only [List.mem_cons,List.not_mem_nil,or_false,forall_eq_or_imp,forall_eq];exact⟨(Lit.sym (by decide) (by decide)).le (by omega),lF,n2.le (by omega),n3.le (by omega)⟩) (by simp)
 have lH:Lit 4 (xK [HU v x y z]):=Lit.list (by simp only [List.mem_cons,List.not_mem_nil,or_false,forall_eq_or_imp,forall_eq];exact⟨li.le (by omega),Lit.nil.le (by omega),lG⟩) (by simp)
 have a1:=DD (lA.le (by omega)) (lC.le (by omega)) (UK (lA.le (by omega)).may (lC.le (by omega)).may (by unfold xK;rw [xJ lA.pl.two lA.ok,xJ lC.pl.two lC.ok,NK n1 n2 n3]))
 have a2:mM v=false→b1=false→b2=false→Pure Tryz.prog 24 [.agg (xK [yG v x,y,z]).cc,.agg (xK [HU v x y z]).cc] (.one (.v (.bool true))):=fun e1 e2 e3 =>
  DD (lE.le (by omega)) (lH.le (by omega)) (UK (lE.le (by omega)).may (lH.le (by omega)).may (by unfold xK;rw [xJ lE.pl.two lE.ok,xJ lH.pl.two lH.ok,KW e1 n4 n1 n2 n3 (p2 e2) (p4 e3)]))
 simp only [List.map_cons,List.map_nil] at l1 l2 l3 l4 l5 r1 r2 r3 r4
 generalize mM v=c5 at *
 refine fi Tryz.func8 Tryz.ntmps8 Tryz.results8 ?_
 (refine WpA.seq ?_);(refine WpA.region ?_);(refine WpL.go _ rfl fun Y y=>?_);simp only [zb,seval,w8];(refine RunTo.fn y (by first|(simp;done)|omega|(simp;omega)) ?_);clear y Y;(refine WpL.nil ?_);(refine tH ?_)
 refine WpA.frzP 5 0 rfl rfl (D.cc_shut _) ?_
 simp only [zz]
 refine WpA.frzP 6 1 rfl rfl (D.cc_shut _) ?_
 simp only [zz]
 refine WpA.frzP 7 2 rfl rfl (D.cc_shut _) ?_
 simp only [zz]
 repeat (first|(apply fw;focus ((with_reducible constructor)<;>constructor))|((first|with_reducible refine ga _ rfl fun Y y=>?_|(refine ca ?_;apply Exists.intro;constructor;assumption;intro Y y)|apply ri);simp only [zb,seval,w8,kcc,g4,g5,g6,g7];refine fz y ?_;clear y Y))
 (refine WpA.draw0 14 _ _ _ rfl rfl rfl (by kernel_rfl) (by kernel_rfl) (by kernel_rfl) fun K8 hK8=>?_);simp only [zz] at hK8 ⊢;(refine Draw0.go fun K7 k=>?_);simp only [zb,seval,w8,kcc,dcc];(refine qz (k _ _ ?_));clear k K7
 refine Draw0.step (oz (s1)) ?_
 (refine Draw0.go fun K7 k=>?_);simp only [zb,seval,w8,kcc,dcc];(refine qz (k _ _ ?_));clear k K7
 refine Draw0.step (OpS.frozen (n:=3) (wd:=6) (ty:=28) (rows:=[(bK bO).cc,x.cc,y.cc]) (OpS.eff [(61,_),(62,_),(63,_)] rfl (by rfl) ⟨rfl,rfl,rfl,trivial⟩ (by simp only [zb,seval,w8,kcc,dcc];rfl) (by simp)) rfl (by simp [ksh])) ?_;simp only [bP]
 refine Draw0.step (oz (l1)) ?_
 (refine Draw0.go fun K7 k=>?_);simp only [zb,seval,w8,kcc,dcc];(refine qz (k _ _ ?_));clear k K7
 refine Draw0.step (OpS.frozen (n:=2) (wd:=6) (ty:=28) (rows:=[(aE [bK bO,x,y]).cc,z.cc]) (OpS.eff [(65,_),(66,_)] rfl (by rfl) ⟨rfl,rfl,trivial⟩ (by simp only [zb,seval,w8,kcc,dcc];rfl) (by simp)) rfl (by simp [ksh])) ?_;simp only [bP]
 refine Draw0.step (oz (r1)) ?_
 (refine Draw0.go fun K7 k=>?_);simp only [zb,seval,w8,kcc,dcc];(refine qz (k _ _ ?_));clear k K7
 refine Draw0.step (OpS.frozen (n:=3) (wd:=6) (ty:=28) (rows:=[x.cc,y.cc,z.cc]) (OpS.eff [(69,_),(70,_),(71,_)] rfl (by rfl) ⟨rfl,rfl,rfl,trivial⟩ (by simp only [zb,seval,w8,kcc,dcc];rfl) (by simp)) rfl (by simp [ksh])) ?_;simp only [bP]
 refine Draw0.step (oz (r2)) ?_
 (refine Draw0.go fun K7 k=>?_);simp only [zb,seval,w8,kcc,dcc];(refine qz (k _ _ ?_));clear k K7
 refine Draw0.step (oz (a1)) ?_
 (refine Draw0.go fun K7 k=>?_);simp only [zb,seval,w8,kcc,dcc];(refine qz (k _ _ ?_));clear k K7;(try ((refine Draw0.nil (hK8 _ ?_));clear hK8 K8;(refine WpL.go _ rfl fun Y y=>?_);repeat (first|(apply fw;focus ((with_reducible constructor)<;>constructor))|((first|with_reducible refine ga _ rfl fun Y y=>?_|apply ri);simp only [zb,seval,w8,kcc,dcc];refine fz y ?_;clear y Y))))
 rcases orT (b:=c5) (orT (b:=b1) (orT (b:=b2) trivial)) with rfl|⟨rfl,rfl|⟨rfl,rfl|⟨rfl,-⟩⟩⟩
 iterate 3
  focus
   repeat (first|(apply fw;focus ((with_reducible constructor)<;>constructor))|((first|with_reducible refine ga _ rfl fun Y y=>?_|(refine ca ?_;apply Exists.intro;constructor;assumption;intro Y y)|apply ri);simp only [zb,seval,w8,kcc];refine fz y ?_;clear y Y))
   refine ye (by simp only [zb,seval,w8];rfl) (by simp only [zv];rfl) ?_
   rfl
 have a2:=a2 rfl rfl rfl
 repeat (first|(apply fw;focus ((with_reducible constructor)<;>constructor))|((first|with_reducible refine ga _ rfl fun Y y=>?_|(refine ca ?_;apply Exists.intro;constructor;assumption;intro Y y)|apply ri);simp only [zb,seval,w8,kcc];refine fz y ?_;clear y Y))
 (refine WpA.draw0 28 _ _ _ rfl rfl rfl (by kernel_rfl) (by kernel_rfl) (by kernel_rfl) fun K8 hK8=>?_);simp only [zz] at hK8 ⊢;(refine Draw0.go fun K7 k=>?_);simp only [zb,seval,w8,kcc,dcc];(refine qz (k _ _ ?_));clear k K7
 refine Draw0.step (oz (s2)) ?_
 (refine Draw0.go fun K7 k=>?_);simp only [zb,seval,w8,kcc,dcc];(refine qz (k _ _ ?_));clear k K7
 refine Draw0.step (oz (sv)) ?_
 (refine Draw0.go fun K7 k=>?_);simp only [zb,seval,w8,kcc,dcc];(refine qz (k _ _ ?_));clear k K7
 refine Draw0.step (OpS.frozen (n:=3) (wd:=6) (ty:=28) (rows:=[(bK cQ).cc,(bK v).cc,x.cc]) (OpS.eff [(87,_),(89,_),(90,_)] rfl (by rfl) ⟨rfl,rfl,rfl,trivial⟩ (by simp only [zb,seval,w8,kcc,dcc];rfl) (by simp)) rfl (by simp [ksh])) ?_;simp only [bP]
 refine Draw0.step (oz (l2)) ?_
 (refine Draw0.go fun K7 k=>?_);simp only [zb,seval,w8,kcc,dcc];(refine qz (k _ _ ?_));clear k K7
 refine Draw0.step (OpS.frozen (n:=3) (wd:=6) (ty:=28) (rows:=[(yG v x).cc,y.cc,z.cc]) (OpS.eff [(92,_),(93,_),(94,_)] rfl (by rfl) ⟨rfl,rfl,rfl,trivial⟩ (by simp only [zb,seval,w8,kcc,dcc];rfl) (by simp)) rfl (by simp [ksh])) ?_;simp only [bP]
 refine Draw0.step (oz (r3)) ?_
 (refine Draw0.go fun K7 k=>?_);simp only [zb,seval,w8,kcc,dcc];(refine qz (k _ _ ?_));clear k K7
 refine Draw0.step (oz (s3)) ?_
 (refine Draw0.go fun K7 k=>?_);simp only [zb,seval,w8,kcc,dcc];(refine qz (k _ _ ?_));clear k K7
 refine Draw0.step (oz (sv)) ?_
 (refine Draw0.go fun K7 k=>?_);simp only [zb,seval,w8,kcc,dcc];(refine qz (k _ _ ?_));clear k K7
 refine Draw0.step (OpS.frozen (n:=2) (wd:=6) (ty:=28) (rows:=[(bK v).cc,x.cc]) (OpS.eff [(99,_),(100,_)] rfl (by rfl) ⟨rfl,rfl,trivial⟩ (by simp only [zb,seval,w8,kcc,dcc];rfl) (by simp)) rfl (by simp [ksh])) ?_;simp only [bP]
 refine Draw0.step (oz (l3)) ?_
 (refine Draw0.go fun K7 k=>?_);simp only [zb,seval,w8,kcc,dcc];(refine qz (k _ _ ?_));clear k K7
 refine Draw0.step (OpS.frozen (n:=1) (wd:=6) (ty:=28) (rows:=[(aE [bK v,x]).cc]) (OpS.eff [(102,_)] rfl (by rfl) ⟨rfl,trivial⟩ (by simp only [zb,seval,w8,kcc,dcc];rfl) (by simp)) rfl (by simp [ksh])) ?_;simp only [bP]
 refine Draw0.step (oz (l4)) ?_
 (refine Draw0.go fun K7 k=>?_);simp only [zb,seval,w8,kcc,dcc];(refine qz (k _ _ ?_));clear k K7
 refine Draw0.step (OpS.frozen (n:=4) (wd:=6) (ty:=28) (rows:=[(bK dU).cc,(aE [aE [bK v,x]]).cc,y.cc,z.cc]) (OpS.eff [(97,_),(104,_),(105,_),(106,_)] rfl (by rfl) ⟨rfl,rfl,rfl,rfl,trivial⟩ (by simp only [zb,seval,w8,kcc,dcc];rfl) (by simp)) rfl (by simp [ksh])) ?_;simp only [bP]
 refine Draw0.step (oz (l5)) ?_
 (refine Draw0.go fun K7 k=>?_);simp only [zb,seval,w8,kcc,dcc];(refine qz (k _ _ ?_));clear k K7
 refine Draw0.step (OpS.frozen (n:=1) (wd:=6) (ty:=28) (rows:=[(HU v x y z).cc]) (OpS.eff [(108,_)] rfl (by rfl) ⟨rfl,trivial⟩ (by simp only [zb,seval,w8,kcc,dcc];rfl) (by simp)) rfl (by simp [ksh])) ?_;simp only [bP]
 refine Draw0.step (oz (r4)) ?_
 (refine Draw0.go fun K7 k=>?_);simp only [zb,seval,w8,kcc,dcc];(refine qz (k _ _ ?_));clear k K7
 refine Draw0.step (oz (a2)) ?_
 (refine Draw0.go fun K7 k=>?_);simp only [zb,seval,w8,kcc,dcc];(refine qz (k _ _ ?_));clear k K7
 refine Draw0.step (oz (aw)) ?_
 (refine Draw0.go fun K7 k=>?_);simp only [zb,seval,w8,kcc,dcc];(refine qz (k _ _ ?_));clear k K7;(try ((refine Draw0.nil (hK8 _ ?_));clear hK8 K8;(refine WpL.go _ rfl fun Y y=>?_);repeat (first|(apply fw;focus ((with_reducible constructor)<;>constructor))|((first|with_reducible refine ga _ rfl fun Y y=>?_|apply ri);simp only [zb,seval,w8,kcc,dcc];refine fz y ?_;clear y Y))))
 refine ye (by simp only [zb,seval,w8];rfl) (by simp only [zv];rfl) ?_
 rfl
end Go.Proofs.YtaeioidifpebdaaGreatDoor
end
