/-
 Laid together: MayD18, Wr18, Ws18, RList, Awk18.
-/
import Derived.Test.YtaeioidifpebdaaGreatDoorG3
import Derived.Test.YtaeioidifpebdaaGreatDoorMay
import Derived.Test.YtaeioidifpebdaaGreatDoorG9
import Derived.Test.YtaeioidifpebdaaGreatDoorG5
import Derived.Test.YtaeioidifpebdaaGreatDoorG4
import Derived.Test.YtaeioidifpebdaaGreatDoorG6
section
namespace Go.Proofs.YtaeioidifpebdaaGreatDoor
open Go Go.RowKit Go.Lib
theorem LU (d:D) (hok:d.Ok) (hb:d.count<1000000000):Pure Tryz.prog 39 [.agg d.cc] (.one (.v (.bool (uB d)))):=by
 refine pD rfl fun w vs hg hv=>?_
 obtain⟨v,rfl,hv1⟩:=hv.one1
 exact PV d w v hok hb hg.tabs hv1.isD
end Go.Proofs.YtaeioidifpebdaaGreatDoor
end
section
namespace Go.Proofs.YtaeioidifpebdaaGreatDoor
open Go Go.RowKit Go.Lib
set_option linter.unusedSimpArgs false
set_option linter.unusedVariables false
set_option maxHeartbeats 4000000
set_option maxRecDepth 100000
theorem CW {n:Nat} {ev:Ev} (hE:HE n ev):∀(m:Nat) (d:D),(kZ ev m d).2≤2
 | 0,d=>Nat.zero_le _
 | m+1,d=>by
  unfold kZ
  repeat' split
  ·exact uO hE _
  ·exact hE.e2 d
  ·exact Nat.zero_le _
  ·exact nL fun x hx=>by
    obtain⟨d,_,rfl⟩:=List.mem_map.1 hx
    exact CW hE m d
def TY (d:D) (E:D→Rs) (l:List D) (n:Nat) (st:St):Prop:=∃(i:Nat) (S:List (Option Ob)) (cO:C),n=l.length-i∧i≤l.length∧At 31 11 S cO (((l.take i).map fun d=>(E d).1).map K.cc) ∧
 S[1]?=some (some ⟨31,11,[[.v (.int .i64 0),.v (.string ⟨#[]⟩),.v (.string ⟨#[]⟩),.v (.slice none 0 0),.v (.int .i64 0),.v (.int .i32 0),.v (.bool false),.v (.slice none 0 0),.v (.string ⟨#[]⟩),.v (.slice none 0 0),.v (.slice none 0 0)]]⟩)∧(∀n,cO≠.ms 1 n) ∧
 st=⟨[(51,.one (.v (.int .i64 i))),(50,.one (.v (.int .i64 l.length))),(49,.one (.sl 6 (l.map D.cc))),(2,.one (.ptr 1 1 0 0)),(3,.one (.er 0)),(11,.one cO),(12,.one (.er (gH ((l.take i).map fun d=>(E d).2))))],S⟩
theorem FM {n:Nat} {ev:Ev} (hE:HE n ev):∀(m:Nat) (d:D),d.msr<m→Gd n d→Pure Tryz.prog 40 [.agg d.cc] (rsA (kZ ev m d))
 | 0,d,h,_=>absurd h (Nat.not_lt_zero _)
 | m+1,d,hm,hd=>by
  have hbig:=hE.big
  have hh1:=oI n d eR hd (by omega)
  have hh2:=oI n d cM hd (by omega)
  have hx:=hE.e d hd
  cases ho:dH d eR with
  | some l =>
   obtain⟨g1,g2⟩:=iW hd ho
   have hdf:=qA hE l g1
   rw [show kZ ev (m+1) d=(.mk 4 (fA ev l).1 e0 [] cA [(fA ev l).2.1],(fA ev l).2.2) by rw [kZ,ho]]
   rw [ho] at hh1
   simp only [lM] at hh1
   simp only [dfA] at hdf
   simp only [rsA]
   refine fi Tryz.func40 Tryz.ntmps40 Tryz.results40 ?_
   repeat (first|(apply fw;(with_reducible constructor)<;>rfl)|(apply WpA.cd;constructor)|((first|with_reducible refine WpA.go _ rfl fun Y y=>?_|apply RunTo.id);simp only [zb,seval,w40,kcc];refine fz y ?_;clear y Y))
   refine cz (hh1) ?_
   (refine WpL.go _ rfl fun Y y=>?_);repeat (first|(apply fw;(with_reducible constructor)<;>rfl)|(apply WpA.cd;constructor)|((first|with_reducible refine WpA.go _ rfl fun Y y=>?_|apply RunTo.id);simp only [zb,seval,w40,kcc];refine fz y ?_;clear y Y))
   refine cz (hdf) ?_
   (refine WpL.go _ rfl fun Y y=>?_);repeat (first|(apply fw;(with_reducible constructor)<;>rfl)|(apply WpA.cd;constructor)|((first|with_reducible refine WpA.go _ rfl fun Y y=>?_|apply RunTo.id);simp only [zb,seval,w40,kcc];refine fz y ?_;clear y Y))
   refine⟨by simp,_,_,_,_,(by simp only [zb,seval,w40,kcc];rfl),(by simp),(by simp only [zv,kcc];rfl),(by simp [ksh]),_,(by simp only [rcc];exact ae),rfl⟩
  | none =>
   rw [ho] at hh1
   cases hb:dH d cM with
   | none =>
    rw [show kZ ev (m+1) d=ev.e d by rw [kZ,ho];dsimp only;rw [hb]]
    rw [hb] at hh2
    simp only [lM] at hh1 hh2
    simp only [rsA] at hx ⊢
    refine fi Tryz.func40 Tryz.ntmps40 Tryz.results40 ?_
    repeat (first|(apply fw;(with_reducible constructor)<;>rfl)|(apply WpA.cd;constructor)|((first|with_reducible refine WpA.go _ rfl fun Y y=>?_|apply RunTo.id);simp only [zb,seval,w40,kcc];refine fz y ?_;clear y Y))
    refine cz (hh1) ?_
    (refine WpL.go _ rfl fun Y y=>?_);repeat (first|(apply fw;(with_reducible constructor)<;>rfl)|(apply WpA.cd;constructor)|((first|with_reducible refine WpA.go _ rfl fun Y y=>?_|apply RunTo.id);simp only [zb,seval,w40,kcc];refine fz y ?_;clear y Y))
    refine cz (hh2) ?_
    (refine WpL.go _ rfl fun Y y=>?_);repeat (first|(apply fw;(with_reducible constructor)<;>rfl)|(apply WpA.cd;constructor)|((first|with_reducible refine WpA.go _ rfl fun Y y=>?_|apply RunTo.id);simp only [zb,seval,w40,kcc];refine fz y ?_;clear y Y))
    refine cz (hx) ?_
    (refine WpL.go _ rfl fun Y y=>?_);repeat (first|(apply fw;(with_reducible constructor)<;>rfl)|(apply WpA.cd;constructor)|((first|with_reducible refine WpA.go _ rfl fun Y y=>?_|apply RunTo.id);simp only [zb,seval,w40,kcc];refine fz y ?_;clear y Y))
    refine ye (by simp only [zb,seval,w40,kcc];rfl) (by simp only [zv,kcc];rfl) ?_
    rfl
   | some l =>
    obtain⟨g1,g2⟩:=iW hd hb
    rw [hb] at hh2
    simp only [lM] at hh1 hh2
    by_cases hl0:l=[]
    ·subst hl0
     have hno:=gK
     rw [show kZ ev (m+1) d=(bI,0) by rw [kZ,ho];dsimp only;rw [hb]]
     simp only [rsA]
     refine fi Tryz.func40 Tryz.ntmps40 Tryz.results40 ?_
     repeat (first|(apply fw;(with_reducible constructor)<;>rfl)|(apply WpA.cd;constructor)|((first|with_reducible refine WpA.go _ rfl fun Y y=>?_|apply RunTo.id);simp only [zb,seval,w40,kcc];refine fz y ?_;clear y Y))
     refine cz (hh1) ?_
     (refine WpL.go _ rfl fun Y y=>?_);repeat (first|(apply fw;(with_reducible constructor)<;>rfl)|(apply WpA.cd;constructor)|((first|with_reducible refine WpA.go _ rfl fun Y y=>?_|apply RunTo.id);simp only [zb,seval,w40,kcc];refine fz y ?_;clear y Y))
     refine cz (hh2) ?_
     (refine WpL.go _ rfl fun Y y=>?_);repeat (first|(apply fw;(with_reducible constructor)<;>rfl)|(apply WpA.cd;constructor)|((first|with_reducible refine WpA.go _ rfl fun Y y=>?_|apply RunTo.id);simp only [zb,seval,w40,kcc];refine fz y ?_;clear y Y))
     refine cz (hno) ?_
     (refine WpL.go _ rfl fun Y y=>?_);repeat (first|(apply fw;(with_reducible constructor)<;>rfl)|(apply WpA.cd;constructor)|((first|with_reducible refine WpA.go _ rfl fun Y y=>?_|apply RunTo.id);simp only [zb,seval,w40,kcc];refine fz y ?_;clear y Y))
     refine ye (by simp only [zb,seval,w40,kcc];rfl) (by simp only [zv,kcc];rfl) ?_
     rfl
    ·have hne:((l.length:Int) == 0)=false:=by
      have:l.length≠0:=fun h=>hl0 (List.length_eq_zero_iff.1 h)
      simp;exact hl0
     have hlen:=g1.len
     have hml:(l.map D.cc).length=l.length:=List.length_map ..
     rw [show kZ ev (m+1) d=(fZ (l.map fun x=>(kZ ev m x).1),gH (l.map fun x=>(kZ ev m x).2)) by
      obtain⟨a,r,rfl⟩:∃a r,l=a::r:=by
       match l,hl0 with
       | a::r,_=>exact⟨a,r,rfl⟩
      rw [kZ,ho];dsimp only;rw [hb]]
     have hrec:∀x∈l,Pure Tryz.prog 40 [.agg x.cc] (rsA (kZ ev m x)):=fun x hx=>FM hE m x (by have:=qR hx;omega) (g1.mem hx)
     have hrec2:∀x,(kZ ev m x).2≤2:=CW hE m
     generalize kZ ev m=E at hrec hrec2 ⊢
     refine fi Tryz.func40 Tryz.ntmps40 Tryz.results40 ?_
     repeat (first|(apply fw;(with_reducible constructor)<;>rfl)|(apply WpA.cd;constructor)|((first|with_reducible refine WpA.go _ rfl fun Y y=>?_|apply RunTo.id);simp only [zb,seval,w40,kcc];refine fz y ?_;clear y Y))
     refine cz (hh1) ?_
     (refine WpL.go _ rfl fun Y y=>?_);repeat (first|(apply fw;(with_reducible constructor)<;>rfl)|(apply WpA.cd;constructor)|((first|with_reducible refine WpA.go _ rfl fun Y y=>?_|apply RunTo.id);simp only [zb,seval,w40,kcc];refine fz y ?_;clear y Y))
     refine cz (hh2) ?_
     (refine WpL.go _ rfl fun Y y=>?_);repeat (first|(apply fw;(with_reducible constructor)<;>rfl)|(apply WpA.cd;constructor)|((first|with_reducible refine WpA.go _ rfl fun Y y=>?_|apply RunTo.id);simp only [zb,seval,w40,kcc,hne,hml];refine fz y ?_;clear y Y))
     refine WpA.loop (TY d E l) l.length (st0:=⟨[(51,.one (.v (.int .i64 (0:Nat)))),(50,.one (.v (.int .i64 l.length))),(49,.one (.sl 6 (l.map D.cc))),(2,.one (.ptr 1 1 0 0)),(3,.one (.er 0)),(11,.one (.v (.slice none 0 0))),(12,.one (.er 0))],[some ⟨28,6,[d.cc]⟩,some ⟨31,11,[[.v (.int .i64 0),.v (.string ⟨#[]⟩),.v (.string ⟨#[]⟩),.v (.slice none 0 0),.v (.int .i64 0),.v (.int .i32 0),.v (.bool false),.v (.slice none 0 0),.v (.string ⟨#[]⟩),.v (.slice none 0 0),.v (.slice none 0 0)]]⟩]⟩) (Le.sub (by simp [Sub,find]))
      ⟨0,_,_,rfl,Nat.zero_le _,At.nil _ _ _,rfl,(fun n e=>by cases e),rfl⟩ ?_
     intro n' st hI
     obtain⟨i,S,cO,rfl,hi,hA,hbox,hne0,rfl⟩:=hI
     have hw2:IntKind.i64.wrap ((i:Int)+1)=((i+1:Nat):Int):=by rw [eH (by omega) (by omega)];omega
     have hS1:=(List.getElem?_eq_some_iff.1 hbox).1
     by_cases hlt:i<l.length
     ·have hd1:decide ((i:Int)<(l.length:Int))=true:=by simp;omega
      have hget:=zZ hlt
      have hc:=hrec l[i] (List.getElem_mem hlt)
      have hbo:=aD (gH ((l.take i).map fun d=>(E d).2)) (E l[i]).2 (nL fun x hx=>by
       obtain⟨d,_,rfl⟩:=List.mem_map.1 hx
       exact hrec2 d) (hrec2 _)
      simp only [rsA] at hc
      have hal:=hA.len
      rw [List.length_map,List.length_map,List.length_take,Nat.min_eq_left hi] at hal
      repeat (first|(apply fw;(with_reducible constructor)<;>rfl)|(apply WpA.cd;constructor)|((first|with_reducible refine WpA.go _ rfl fun Y y=>?_|apply RunTo.id);simp only [zb,seval,w40,hd1,hget,kcc,aF];refine fz y ?_;clear y Y))
      refine cz (hc) ?_
      (refine WpL.go _ rfl fun Y y=>?_);repeat (first|(apply fw;(with_reducible constructor)<;>rfl)|(apply WpA.cd;constructor)|((first|with_reducible refine WpA.go _ rfl fun Y y=>?_|apply RunTo.id);simp only [zb,seval,w40,kcc,aF];refine fz y ?_;clear y Y))
      refine cz (hbo) ?_
      (refine WpL.go _ rfl fun Y y=>?_);repeat (first|(apply fw;(with_reducible constructor)<;>rfl)|(apply WpA.cd;constructor)|((first|with_reducible refine WpA.go _ rfl fun Y y=>?_|apply RunTo.id);simp only [zb,seval,w40,kcc,aF];refine fz y ?_;clear y Y))
      refine WpA.region ?_
      (try simp only [St.put]);(refine WpL.op rfl (aB (P:=Tryz.prog) rfl) (aH (by simp only [zb,seval,w40,kcc,aF];rfl) (by first|(simp;done)|omega|(simp;omega))) ?_);simp only [St.put];(refine WpL.op rfl (aB (P:=Tryz.prog) rfl) (aH (by simp only [zb,seval,w40,kcc,aF];rfl) (by first|(simp;done)|omega|(simp;omega))) ?_);simp only [St.put];(refine WpL.op rfl (aB (P:=Tryz.prog) rfl) (aH (by simp only [zb,seval,w40,kcc,aF];rfl) (by first|(simp;done)|omega|(simp;omega))) ?_);simp only [St.put]
      obtain⟨S8,j,hA8,hj8,hl8,hfr8,hpl8,hop8⟩:=eZ (P:=Tryz.prog) (T:=29) (by_:=176) bP bQ bR (by omega) (S:=S++[some ⟨28,6,[l[i].cc]⟩,some ⟨31,11,[(E l[i]).1.cc]⟩,some ⟨31,11,[(E l[i]).1.cc]⟩]) (hA.app _) (q:=S.length+2) (new:=[(E l[i]).1.cc]) (qU _ _ _ _ _) (by simp) (fun n e=>by have:=hA.lt e;omega) (by simp;omega) (by simp;omega)
      simp only [List.length_cons,List.length_nil,Nat.zero_add] at hop8 hA8
      refine WpL.aop rfl (hop8 _ _ _ rfl rfl) ?_
      simp only [St.put]
      have hs:max (gH ((l.take i).map fun d=>(E d).2)) (E l[i]).2=gH ((l.take (i+1)).map fun d=>(E d).2):=by rw [gT _ hlt,mM]
      (refine WpL.go _ rfl fun Y y=>?_);repeat (first|(apply fw;(with_reducible constructor)<;>rfl)|(apply WpA.cd;constructor)|((first|with_reducible refine WpA.go _ rfl fun Y y=>?_|apply RunTo.id);simp only [zb,seval,w40,hw2,hs];refine fz y ?_;clear y Y))
      have hpl:cO=.ms j (((l.take i).map fun d=>(E d).1).map K.cc).length∨S.length≤j:=hpl8.imp id fun q=>by rw [List.length_append] at q;omega
      refine⟨l.length-(i+1),_,by omega,Le.sub (by simp [Sub,find]),i+1,S8,.ms j ((((l.take i).map fun d=>(E d).1).map K.cc).length+1),rfl,hlt,?_,hfr8 1 _ (cW hbox) hne0,fun m e=>?_,rfl⟩
      ·rw [gT _ hlt,List.map_append];exact hA8
      ·have:=(C.ms.inj e).1
       rcases hpl with q|q
       ·exact hne0 _ (this▸q)
       ·omega
     ·have hd0:decide ((i:Int)<(l.length:Int))=false:=by simp;omega
      have hii:i=l.length:=by omega
      subst hii
      rw [List.take_length] at hA ⊢
      have hsq:=oJ (l.map fun d=>(E d).1)
      repeat (first|(apply fw;(with_reducible constructor)<;>rfl)|(apply WpA.cd;constructor))
      ((with_reducible refine WpA.go _ rfl fun Y y=>?_);simp only [zb,seval,w40,hd0];(refine RunTo.fn y (by first|(simp;done)|omega|(simp;omega)) ?_);clear y Y);repeat (first|(apply fw;(with_reducible constructor)<;>rfl)|(apply WpA.cd;constructor))
      refine WpA.frzAt 11 hA.au (qV _) rfl fun S1 hl1 ho1=>?_
      have h01:=ho1 1 _ hbox hne0
      have hS3:=(List.getElem?_eq_some_iff.1 h01).1
      have hset0:∀(a:Option Ob),(S1.set 1 a)[1]?=some a:=fun a=>List.getElem?_set_self hS3
      repeat (first|(apply fw;(with_reducible constructor)<;>rfl)|(apply WpA.cd;constructor)|((first|with_reducible refine WpA.go _ rfl fun Y y=>?_|apply RunTo.id);simp only [zb,seval,w40,kcc];refine fz y ?_;clear y Y))
      refine cz (hsq) ?_
      (refine WpL.go _ rfl fun Y y=>?_);repeat (first|(apply fw;(with_reducible constructor)<;>rfl)|(apply WpA.cd;constructor)|((first|with_reducible refine WpA.go _ rfl fun Y y=>?_|apply RunTo.id);simp only [zb,seval,w40,kcc,h01];refine fz y ?_;clear y Y))
      refine ye (by simp only [zb,seval,w40,kcc,hset0];rfl) (by simp only [zv,kcc,hset0];rfl) ?_
      rfl
def TJ:Nat→Int
 | 0=>0
 | 1=>6
 | _=>8
noncomputable def kP (d:D):K × Int:=if uB d=true then (if (jT d).2=0 then (jT d).1 else kz,TJ (jT d).2) else (kz,1)
def onA (r:K × Int):A:=.tup [.agg r.1.cc,.one (.v (.int .i64 r.2))]
theorem QG {d:D} (hok:d.Ok) (h:uB d=true):Gd (d.msr+1) d:=by
 have h1:dP d=true:=(Bool.and_eq_true_iff.1 h).1
 exact⟨(dV.1 h1).two,hok,Nat.lt_succ_self _⟩
theorem LV (d:D) (hg:Gd (d.msr+1) d) (hm:d.msr+1≤100000000):Pure Tryz.prog 40 [.agg d.cc] (rsA (jT d))∧(jT d).2≤2 :=
 ⟨FM (IK _ hm) _ d (Nat.lt_succ_self _) hg,CW (IK _ hm) _ d⟩
theorem sY (d:D) (hok:d.Ok) (hc:d.count<1000000000) (hm:d.msr+1≤100000000):Pure Tryz.prog 17 [.agg d.cc] (onA (kP d)):=by
 have hmy:=LU d hok hc
 cases hb:uB d with
 | false =>
  rw [hb] at hmy
  rw [show kP d=(kz,1) by unfold kP;rw [hb];rfl]
  simp only [onA]
  refine fi Tryz.func17 Tryz.ntmps17 Tryz.results17 ?_
  repeat (first|(apply fw;(with_reducible constructor)<;>rfl)|(apply WpA.cd;constructor)|((first|with_reducible refine WpA.go _ rfl fun Y y=>?_|apply RunTo.id);simp only [zb,seval,w17,kcc];refine fz y ?_;clear y Y))
  refine cz (hmy) ?_
  (refine WpL.go _ rfl fun Y y=>?_);repeat (first|(apply fw;(with_reducible constructor)<;>rfl)|(apply WpA.cd;constructor)|((first|with_reducible refine WpA.go _ rfl fun Y y=>?_|apply RunTo.id);simp only [zb,seval,w17,kcc];refine fz y ?_;clear y Y))
  refine⟨by simp,_,_,_,_,(by simp only [zb,seval,w17,kcc];rfl),(by simp),(by simp only [zv,kcc];rfl),(by simp [ksh]),_,(by simp only [rcc];exact ae),rfl⟩
 | true =>
  obtain⟨ht,hle⟩:=LV d (QG hok hb) hm
  have his:Pure Tryz.prog 41 [.one (.er (jT d).2),.one (.gv 0)] (.one (.v (.bool (decide ((jT d).2=1))))):=CH (jT d).2 0 hle (by omega)
  rw [hb] at hmy
  rw [show kP d=(if (jT d).2=0 then (jT d).1 else kz,TJ (jT d).2) by unfold kP;rw [hb];rfl]
  simp only [rsA] at ht
  simp only [onA]
  generalize jT d=x at *
  obtain⟨k,n⟩:=x
  dsimp only at *
  have hn:n=0∨n=1∨n=2:=by omega
  rcases hn with rfl|rfl|rfl
  ·rw [if_pos rfl]
   refine fi Tryz.func17 Tryz.ntmps17 Tryz.results17 ?_
   repeat (first|(apply fw;(with_reducible constructor)<;>rfl)|(apply WpA.cd;constructor)|((first|with_reducible refine WpA.go _ rfl fun Y y=>?_|apply RunTo.id);simp only [zb,seval,w17,kcc];refine fz y ?_;clear y Y))
   refine cz (hmy) ?_
   (refine WpL.go _ rfl fun Y y=>?_);repeat (first|(apply fw;(with_reducible constructor)<;>rfl)|(apply WpA.cd;constructor)|((first|with_reducible refine WpA.go _ rfl fun Y y=>?_|apply RunTo.id);simp only [zb,seval,w17,kcc];refine fz y ?_;clear y Y))
   refine cz (ht) ?_
   (refine WpL.go _ rfl fun Y y=>?_);repeat (first|(apply fw;(with_reducible constructor)<;>rfl)|(apply WpA.cd;constructor)|((first|with_reducible refine WpA.go _ rfl fun Y y=>?_|apply RunTo.id);simp only [zb,seval,w17,kcc];refine fz y ?_;clear y Y))
   refine ye (by simp only [zb,seval,w17,kcc];rfl) (by simp only [zv,kcc];rfl) ?_
   rfl
  all_goals
   rw [if_neg (by decide)]
   refine fi Tryz.func17 Tryz.ntmps17 Tryz.results17 ?_
   repeat (first|(apply fw;(with_reducible constructor)<;>rfl)|(apply WpA.cd;constructor)|((first|with_reducible refine WpA.go _ rfl fun Y y=>?_|apply RunTo.id);simp only [zb,seval,w17,kcc];refine fz y ?_;clear y Y))
   refine cz (hmy) ?_
   (refine WpL.go _ rfl fun Y y=>?_);repeat (first|(apply fw;(with_reducible constructor)<;>rfl)|(apply WpA.cd;constructor)|((first|with_reducible refine WpA.go _ rfl fun Y y=>?_|apply RunTo.id);simp only [zb,seval,w17,kcc];refine fz y ?_;clear y Y))
   refine cz (ht) ?_
   (refine WpL.go _ rfl fun Y y=>?_);repeat (first|(apply fw;(with_reducible constructor)<;>rfl)|(apply WpA.cd;constructor)|((first|with_reducible refine WpA.go _ rfl fun Y y=>?_|apply RunTo.id);simp only [zb,seval,w17,kcc];refine fz y ?_;clear y Y))
   refine cz (his) ?_
   (refine WpL.go _ rfl fun Y y=>?_);repeat (first|(apply fw;(with_reducible constructor)<;>rfl)|(apply WpA.cd;constructor)|((first|with_reducible refine WpA.go _ rfl fun Y y=>?_|apply RunTo.id);simp only [zb,seval,w17,kcc];refine fz y ?_;clear y Y))
   refine⟨by simp,_,_,_,_,(by simp only [zb,seval,w17,kcc];rfl),(by simp),(by simp only [zv,kcc];rfl),(by simp [ksh]),_,(by simp only [rcc];exact ae),rfl⟩
theorem D.cc_bd (k:Nat) (d:D):∀c∈d.cc,C.bd k c=true:=by rw [D.cc_eq];simp [C.bd]
def D.co (d:D):List C:=[.v (.int .i64 d.k),.v (.int .i32 d.c),.v (.bool d.neg),.sl 1 (d.mag.map fun n=>[.v (.int .u32 n)]),.v (.string d.t),.sl 6 (d.l.map D.cc)]
def RLI (l:List D) (n:Nat) (st:St):Prop:=n≤l.length ∧
 st=⟨[(4,.one (.v (.int .i64 ((n:Int)-1)))),(0,.one (.sl 6 (l.map D.cc))),(3,.one (.ptr 1 1 0 0)),(2,.one (.ptr 0 1 0 0))],
  [some ⟨28,6,[[.v (.int .i64 0),.v (.int .i32 0),.v (.bool false),.v (.slice none 0 0),.v (.string ⟨#[]⟩),.v (.slice none 0 0)]]⟩,some ⟨28,6,[[.v (.int .i64 (aK (l.drop n)).k),.v (.int .i32 (aK (l.drop n)).c),.v (.bool (aK (l.drop n)).neg),.sl 1 ((aK (l.drop n)).mag.map fun n=>[.v (.int .u32 n)]),.v (.string (aK (l.drop n)).t),.sl 6 ((aK (l.drop n)).l.map D.cc)]]⟩]⟩
theorem IL (l:List D) (hlen:l.length≤1000000):Pure Tryz.prog 44 [.one (.sl 6 (l.map D.cc))] (.agg (aK l).cc):=by
 have hw0:IntKind.i64.wrap ((l.length:Int)-1)=(l.length:Int)-1:=eH (by omega) (by omega)
 rw [D.cc_eq (aK l)]
 refine fi Tryz.func44 Tryz.ntmps44 Tryz.results44 ?_
 repeat (first|(apply fw;(with_reducible constructor)<;>rfl)|(apply WpA.cd;constructor)|((first|with_reducible refine WpA.go _ rfl fun Y y=>?_|apply RunTo.id);simp only [zb,seval,w44,hw0];refine fz y ?_;clear y Y))
 refine WpA.loop (RLI l) l.length ?_ ⟨Nat.le_refl _,rfl⟩ ?_
 ·refine Le.freeze (fun _=>false) ⟨rfl,by simp,fun j b hb=>?_⟩ (by simp [SubZ,find,FzA,FzC])
  match j,hb with
  | 0,hb=>exact⟨rfl,b,hb,rfl,rfl,FzR.same _ _ _⟩
  | 1,hb =>
   simp [aK,cA] at hb
   subst hb
   exact⟨rfl,_,rfl,rfl,rfl,⟨.inl rfl,.inl rfl,.inl rfl,FzC.nil,.inl rfl,FzC.nil,trivial⟩,trivial⟩
  | j+2,hb=>simp at hb
 intro n st hI
 obtain⟨hn,rfl⟩:=hI
 rcases n with _|n
 ·have hz:((0:Nat):Int)-1 = -1:=rfl
  rw [hz]
  have hf:decide ((0:Int)≤-1)=false:=rfl
  repeat (first|(apply fw;(with_reducible constructor)<;>rfl)|(apply WpA.cd;constructor)|((first|with_reducible refine WpA.go _ rfl fun Y y=>?_|apply RunTo.id);simp only [zb,seval,w44,hf];refine fz y ?_;clear y Y))
  repeat (first|(apply fw;(with_reducible constructor)<;>rfl)|(apply WpA.cd;constructor)|((first|with_reducible refine WpA.go _ rfl fun Y y=>?_|apply RunTo.id);simp only [zb,seval,w44,hf];refine fz y ?_;clear y Y))
  refine ye (by simp only [zb,seval,w44];rfl) (by simp only [zv];rfl) ?_
  rfl
 have hge:((n+1:Nat):Int)-1=(n:Int):=by omega
 have hw2:IntKind.i64.wrap ((n:Int)-1)=(n:Int)-1:=eH (by omega) (by omega)
 have hlt:n<l.length:=by omega
 have hget:=zZ hlt
 rw [D.cc_eq] at hget
 have hg0:decide ((n:Int) ≥ 0)=true:=by simp
 have hg1:decide (0≤(n:Int))=true:=by simp
 rw [hge]
 repeat (first|(apply fw;(with_reducible constructor)<;>rfl)|(apply WpA.cd;constructor)|((first|with_reducible refine WpA.go _ rfl fun Y y=>?_|apply RunTo.id);simp only [zb,seval,w44,hg0,hg1];refine fz y ?_;clear y Y))
 (refine WpA.draw1 7 [5] ([some ⟨28,6,[[.v (.int .i64 0),.v (.int .i32 0),.v (.bool false),.v (.slice none 0 0),.v (.string ⟨#[]⟩),.v (.slice none 0 0)]]⟩,some ⟨28,6,[[.v (.int .i64 (aK (l.drop (n+1))).k),.v (.int .i32 (aK (l.drop (n+1))).c),.v (.bool (aK (l.drop (n+1))).neg),.sl 1 ((aK (l.drop (n+1))).mag.map fun n=>[.v (.int .u32 n)]),.v (.string (aK (l.drop (n+1))).t),.sl 6 ((aK (l.drop (n+1))).l.map D.cc)]]⟩]) [_,?_] _ _ _ _ rfl rfl rfl (by kernel_rfl) (by kernel_rfl) (by kernel_rfl) (by kernel_rfl) rfl rfl rfl rfl (by decide) fun K8 hK8=>?_);rotate_left 1;simp only [zz] at hK8 ⊢;(refine Draw1.go fun K7 k=>?_);simp only [zb,seval,w44,hget];(refine qz (k _ _ (by rfl) ?_));clear k K7;(simp only [zz,Nat.reduceAdd,Nat.reduceSub]);(try ((refine nz (hK8 _ ?_));clear hK8 K8;(refine WpL.go _ rfl fun Y y=>?_);repeat (first|(apply fw;(with_reducible constructor)<;>rfl)|(apply WpA.cd;constructor)|((first|with_reducible refine WpA.go _ rfl fun Y y=>?_|apply RunTo.id);simp only [zb,seval,w44,hget];refine fz y ?_;clear y Y))))
 refine Draw1.eff 0 rfl rfl rfl (OpS.eff [(16,_),(17,_)] rfl (by rfl) ⟨rfl,rfl,trivial⟩ (by simp only [zb,seval,w44,hw2];rfl) (by first|(simp;done)|omega|(simp;omega))) ?_;(try simp only [bM]);(try ((refine Draw1.go fun K7 k=>?_);simp only [zb,seval,w44,hw2];(refine qz (k _ _ (by rfl) ?_));clear k K7;(simp only [zz,Nat.reduceAdd,Nat.reduceSub]);(try ((refine nz (hK8 _ ?_));clear hK8 K8;(refine WpL.go _ rfl fun Y y=>?_);repeat (first|(apply fw;(with_reducible constructor)<;>rfl)|(apply WpA.cd;constructor)|((first|with_reducible refine WpA.go _ rfl fun Y y=>?_|apply RunTo.id);simp only [zb,seval,w44,hw2];refine fz y ?_;clear y Y))))))
 refine⟨n,_,by omega,?_,by omega,rfl⟩
 have hdl:aK (l.drop n)=.mk 7 0 false [] ⟨#[]⟩ [l[n],aK (l.drop (n+1))]:=by rw [List.drop_eq_getElem_cons hlt];rfl
 refine Le.trans (Le.freeze (S':=[some ⟨28,6,[[.v (.int .i64 0),.v (.int .i32 0),.v (.bool false),.v (.slice none 0 0),.v (.string ⟨#[]⟩),.v (.slice none 0 0)]]⟩,some ⟨28,6,[D.co (aK (l.drop n))]⟩,none]) (e':=[(4,.one (.v (.int .i64 ((n:Int)-1)))),(0,.one (.sl 6 (l.map D.cc))),(3,.one (.ptr 1 1 0 0)),(2,.one (.ptr 0 1 0 0))]) (fun i=>i == 2) ⟨rfl,fun j ob hj ho=>?_,fun j b hb=>?_⟩ (by simp [SubZ,find,FzA,FzC])) (Le.drop 2 (Nat.zero_le _) rfl (by simp [Sub,find]) rfl (by simp [ObBd,C.bd]))
 ·obtain rfl:j=2:=by simpa using hj
  simp at ho
  subst ho
  simp [C.shut]
 ·match j,hb with
  | 0,hb=>exact⟨rfl,b,hb,rfl,rfl,FzR.same _ _ _⟩
  | 1,hb =>
   simp at hb
   subst hb
   refine⟨rfl,_,rfl,rfl,rfl,?_,trivial⟩
   rw [hdl]
   refine⟨.inl rfl,.inl rfl,.inl rfl,FzC.nil,.inl rfl,?_,trivial⟩
   simp only [D.l,List.map_cons,List.map_nil]
   rw [D.cc_eq l[n],D.cc_eq (aK (l.drop (n+1)))]
   exact FzC.ms rfl rfl rfl
  | 2,hb=>simp at hb
  | j+3,hb=>simp at hb
theorem dcc:(∀(d:D) (r:List C),List.take 6 (d.cc++r)=d.cc)∧(∀(d:D) (r:List C),List.drop 6 (d.cc++r)=r)∧(∀(d:D) (r:List C),List.take 12 (d.cc++r)=d.cc++List.take 6 r)∧(∀(d:D) (r:List C),List.drop 12 (d.cc++r)=List.drop 6 r)∧(∀(d:D) (r:List C),List.take 18 (d.cc++r)=d.cc++List.take 12 r)∧(∀(d:D) (r:List C),List.drop 18 (d.cc++r)=List.drop 12 r)∧(∀(d:D) (r:List C),List.take 24 (d.cc++r)=d.cc++List.take 18 r)∧(∀(d:D) (r:List C),List.drop 24 (d.cc++r)=List.drop 18 r)∧(∀(d:D) (r:List C),(d.cc++r).length=r.length+6):=by
 have h:∀d:D,d.cc.length=6:=D.cc_len
 refine⟨?_,?_,?_,?_,?_,?_,?_,?_,fun d r=>by rw [List.length_append,h];omega⟩<;>intro d r<;>first|rw [List.take_append,h,List.take_of_length_le (by rw [h];omega)]|rw [List.drop_append,h,List.drop_of_length_le (by rw [h];omega)]
 all_goals simp
theorem iL (s:ByteArray):Pure Tryz.prog 21 [.one (.v (.string s))] (.agg (bU s).cc):=by
 rw [D.cc_eq]
 refine fi Tryz.func21 Tryz.ntmps21 Tryz.results21 ?_
 repeat (first|(apply fw;(with_reducible constructor)<;>rfl)|(apply WpA.cd;constructor)|((first|with_reducible refine WpA.go _ rfl fun Y y=>?_|apply RunTo.id);simp only [zb,seval,w21];refine fz y ?_;clear y Y))
 refine⟨by simp,_,_,_,_,(by simp only [zb,seval,w21];rfl),(by simp),(by simp only [zv];rfl),(by simp [ksh]),_,(by exact ae),rfl⟩
theorem dW (l:List D) (hlen:l.length≤1000000):Pure Tryz.prog 23 [.one (.sl 6 (l.map D.cc))] (.agg (aK l).cc):=by
 have h:=IL l hlen
 refine fi Tryz.func23 Tryz.ntmps23 Tryz.results23 ?_
 repeat (first|(apply fw;(with_reducible constructor)<;>rfl)|(apply WpA.cd;constructor)|((first|with_reducible refine WpA.go _ rfl fun Y y=>?_|apply RunTo.id);simp only [zb,seval,w23,kcc,dcc];refine fz y ?_;clear y Y))
 refine cz (h) ?_
 (refine WpL.go _ rfl fun Y y=>?_);repeat (first|(apply fw;(with_reducible constructor)<;>rfl)|(apply WpA.cd;constructor)|((first|with_reducible refine WpA.go _ rfl fun Y y=>?_|apply RunTo.id);simp only [zb,seval,w23,kcc,dcc];refine fz y ?_;clear y Y))
 refine ye (by simp only [zb,seval,w23,kcc,dcc];rfl) (by simp only [zv,kcc,dcc];rfl) ?_
 rfl
def sa:ByteArray:=⟨#[97]⟩
def one1:D:=jR 1
def dA1:D:=aK [bU lF,aK [aK [bU sa,one1]],bU sa]
def dA2:D:=aK [aK [bU cH,aK [bU sa],bU sa],one1]
def dA3:D:=aK [bU iA]
def kA:K:=gZ [.mk 6 e0 e0 [sa] cA [bL sa],dR one1]
theorem IM:nB sa=false:=RS (by simp only [oD,List.mem_cons,List.not_mem_nil,or_false];decide)
theorem SB (ev:Ev) (h:ev.e (bU sa)=(bL sa,0)):uF ev [bU sa]=(bL sa,0):=by
 rw [KY ev (by simp) (fun d hd=>by simp at hd;subst hd;exact⟨JK (by decide) _,JK (by decide) _⟩),NN,h]
theorem pQ (s:ByteArray) (h:s.size≤1000):(bU s).Ok:=pK (by omega)
theorem SC:dA1.Ok:=dK ⟨pQ _ (by decide),dK ⟨dK ⟨pQ _ (by decide),CD (by decide),trivial⟩,trivial⟩,pQ _ (by decide),trivial⟩
theorem SD:dA2.Ok:=dK ⟨dK ⟨pQ _ (by decide),dK ⟨pQ _ (by decide),trivial⟩,pQ _ (by decide),trivial⟩,CD (by decide),trivial⟩
theorem SE:dA3.Ok:=dK ⟨pQ _ (by decide),trivial⟩
theorem JO:qK sa 1=true:=by decide
theorem QH:qK lF 1=true:=by decide
theorem IOq:qK cH 1=true:=by decide
theorem OO:qK iA 1=true:=by decide
theorem QI:uB dA1=true:=mP.2 ⟨dX.2 ⟨(iJ _).2 QH,dX.2 ⟨dX.2 ⟨(iJ _).2 JO,yQ (.inl rfl),trivial⟩,trivial⟩,(iJ _).2 JO,trivial⟩,by
 simp [dA1,lA,ET,rN,one1,yR]⟩
theorem QJ:uB dA2=true:=mP.2 ⟨dX.2 ⟨dX.2 ⟨(iJ _).2 IOq,dX.2 ⟨(iJ _).2 JO,trivial⟩,(iJ _).2 JO,trivial⟩,yQ (.inl rfl),trivial⟩,by
 simp [dA2,lA,ET,rN,one1,yR]⟩
theorem QK:uB dA3=true:=mP.2 ⟨dX.2 ⟨(iJ _).2 OO,trivial⟩,by
 simp [dA3,lA,ET,rN]⟩
theorem FN {n:Nat} (h:2≤n):∃m,n=m+2:=⟨n-2,by omega⟩
theorem RG (n:Nat):(evs (n+1)).b [bU sa]=(bL sa,0):=by
 rw [evs];dsimp only;exact SB ⟨dM (evs n),(evs n).b,(evs n).q⟩ (KT (evs n) IM)
theorem OP (n:Nat):(evs (n+1)).e one1=(dR one1,0):=by rw [evs];dsimp only;exact GW _ (.inl rfl)
theorem TK (n:Nat):dA ((eM [sa] e0 (bL sa)).1::(aL (evs (n+2)).e [one1]).1)=(kA,0):=by
 rw [pL [sa] (by decide),qS (by simp [aL])]
 simp only [aL,List.map_cons,List.map_nil,OP]
 rfl
theorem QL:kP dA1=(kA,0):=by
 unfold kP
 have h:jT dA1=(kA,0):=by
  have h1:iP (bU lF) eR=false:=by rw [oG];exact aA (by decide)
  have h2:iP (bU lF) cM=false:=by rw [oG];exact aA (by decide)
  rw [rO (by unfold dA1;rw [gJ,h1];rfl) (by unfold dA1;rw [gJ,h2];rfl)]
  obtain⟨n,hn⟩:=FN (n:=dA1.msr) (by simp [dA1,fG,bZ,lS];omega)
  rw [hn,dA1,jC _ (by simp [oD]),KX]
  show ((eI _ _ _ _).1,max (max (max _ _) _) _)=_
  rw [KZ IM,RG]
  unfold eI
  dsimp only
  rw [TK,pL [sa] (by decide),JL]
  simp only [aL,List.map_cons,List.map_nil,OP]
  rfl
 rw [QI,if_pos rfl,h];rfl
theorem QM:kP dA2=(kA,0):=by
 unfold kP
 have h:jT dA2=(kA,0):=by
  rw [rO (by unfold dA2;rw [gJ,GV (by decide)];rfl) (by unfold dA2;rw [gJ,GV (by decide)];rfl)]
  obtain⟨n,hn⟩:=FN (n:=dA2.msr) (by simp [dA2,fG,bZ,lS];omega)
  have hl:(evs (n+2)).e (aK [bU cH,aK [bU sa],bU sa])=(.mk 6 e0 e0 [sa] cA [bL sa],0):=by
   rw [evs]
   dsimp only
   rw [jC _ (by simp [oD]),uH]
   unfold cQ
   rw [CF IM,RG]
   dsimp only
   rw [pL [sa] (by decide)]
   rfl
  rw [hn,dA2,yU _ (.inl (by decide))]
  simp only [aL,List.map_cons,List.map_nil,hl,OP]
  rw [qS (by simp)]
  rfl
 rw [QJ,if_pos rfl,h];rfl
theorem QN:kP dA3=(kz,8):=by
 unfold kP
 have h:jT dA3=(kz,2):=by
  have h1:iP (bU iA) eR=false:=by rw [oG];exact aA (by decide)
  have h2:iP (bU iA) cM=false:=by rw [oG];exact aA (by decide)
  rw [rO (by unfold dA3;rw [gJ,h1];rfl) (by unfold dA3;rw [gJ,h2];rfl),dA3,jC _ (by simp [oD]),GX]
 rw [QK,if_pos rfl,h];rfl
theorem TL:kA.Ok:=by
 simp [kA,gZ,one1,jR,dR,bL,K.Ok,K.Oks,D.Ok,Oks,e0,sa,ByteArray.size,cA]
theorem QO:one1.cc=[.v (.int .i64 1),.v (.int .i32 0),.v (.bool false),.sl 1 [],.v (.string ⟨#[]⟩),.sl 6 []]:=rcc.2.2.2.2.2.2.2.2.2.2.2.1 1
theorem fR:Pure Tryz.prog 11 [] (.one (.v (.bool true))):=by
 have s1:=iL lF
 have s2:=iL sa
 have s3:=iL cH
 have s4:=iL iA
 have l1:=dW [bU sa,one1] (by decide)
 have l2:=dW [aK [bU sa,one1]] (by simp)
 have l3:=dW [bU lF,aK [aK [bU sa,one1]],bU sa] (by simp)
 have l4:=dW [bU sa] (by simp)
 have l5:=dW [bU cH,aK [bU sa],bU sa] (by simp)
 have l6:=dW [aK [bU cH,aK [bU sa],bU sa],one1] (by simp)
 have l7:=dW [bU iA] (by simp)
 have o1:=sY dA1 SC (by simp [dA1,gD,gL,kL,one1,yS]) (by simp [dA1,fG,bZ,lS,one1,EV])
 have o2:=sY dA2 SD (by simp [dA2,gD,gL,kL,one1,yS]) (by simp [dA2,fG,bZ,lS,one1,EV])
 have o3:=sY dA3 SE (by simp [dA3,gD,gL,kL]) (by simp [dA3,fG,bZ,lS])
 have hs:=mT kA kA TL
 have hk1:=uL lF
 have hk2:=uL ⟨#[99,97,114]⟩
 rw [show nB lF=true from RR (by simp [oD])] at hk1
 rw [show nB ⟨#[99,97,114]⟩=false from RS (by simp only [oD,List.mem_cons,List.not_mem_nil,or_false];decide)] at hk2
 rw [bG rfl] at hs
 rw [QL] at o1
 rw [QM] at o2
 rw [QN] at o3
 simp only [onA,dA1,dA2,dA3] at o1 o2 o3
 simp only [List.map_cons,List.map_nil] at l1 l2 l3 l4 l5 l6 l7
 refine fi Tryz.func11 Tryz.ntmps11 Tryz.results11 ?_
 repeat (first|(apply fw;(with_reducible constructor)<;>rfl)|(apply WpA.cd;constructor)|((first|with_reducible refine WpA.go _ rfl fun Y y=>?_|apply RunTo.id);simp only [zb,seval,w11,kcc,dcc];refine fz y ?_;clear y Y))
 refine WpA.le (st':=⟨[(1,.one (.ptr 0 1 0 0)),(0,.one (.v (.bool false)))],[some ⟨28,6,[one1.cc]⟩]⟩) (Le.freeze (fun _=>false) (Frz.ofL ?_) ?_) ?_
 ·rw [QO]
  simp only [FrzL,FzR,FzCs]
  repeat' first|exact FzC.same _ _ _|exact FzC.nil|exact rfl|exact trivial|refine And.intro ?_ ?_|(intro hz;exact absurd hz (by decide))
 ·simp only [SubZ];exact⟨⟨_,rfl,FzA.same _ _ _⟩,⟨_,rfl,FzA.same _ _ _⟩,trivial⟩
 (refine WpA.draw1c 16 [14,15] [_,?_,?_] _ _ _ _ rfl rfl rfl (by kernel_rfl) (by kernel_rfl) (by kernel_rfl) (by kernel_rfl) rfl rfl rfl rfl (by decide) fun K8 hK8=>?_);rotate_left 2;simp only [zz] at hK8 ⊢;(refine Draw1.go fun K7 k=>?_);simp only [zb,seval,w11,kcc,dcc];(refine qz (k _ _ (by rfl) ?_));clear k K7;(simp only [zz,Nat.reduceAdd,Nat.reduceSub]);(try ((refine nz (hK8 _ ?_));clear hK8 K8;(refine WpL.go _ rfl fun Y y=>?_);repeat (first|(apply fw;(with_reducible constructor)<;>rfl)|(apply WpA.cd;constructor)|((first|with_reducible refine WpA.go _ rfl fun Y y=>?_|apply RunTo.id);simp only [zb,seval,w11,kcc,dcc];refine fz y ?_;clear y Y))))
 refine Draw1.step (by rfl) (fun s9 _=>oz (s1)) ?_
 (refine Draw1.go fun K7 k=>?_);simp only [zb,seval,w11,kcc,dcc];(refine qz (k _ _ (by rfl) ?_));clear k K7;(simp only [zz,Nat.reduceAdd,Nat.reduceSub]);(try ((refine nz (hK8 _ ?_));clear hK8 K8;(refine WpL.go _ rfl fun Y y=>?_);repeat (first|(apply fw;(with_reducible constructor)<;>rfl)|(apply WpA.cd;constructor)|((first|with_reducible refine WpA.go _ rfl fun Y y=>?_|apply RunTo.id);simp only [zb,seval,w11,kcc,dcc];refine fz y ?_;clear y Y))))
 refine Draw1.step (by rfl) (fun s9 _=>oz (s2)) ?_
 (refine Draw1.go fun K7 k=>?_);simp only [zb,seval,w11,kcc,dcc];(refine qz (k _ _ (by rfl) ?_));clear k K7;(simp only [zz,Nat.reduceAdd,Nat.reduceSub]);(try ((refine nz (hK8 _ ?_));clear hK8 K8;(refine WpL.go _ rfl fun Y y=>?_);repeat (first|(apply fw;(with_reducible constructor)<;>rfl)|(apply WpA.cd;constructor)|((first|with_reducible refine WpA.go _ rfl fun Y y=>?_|apply RunTo.id);simp only [zb,seval,w11,kcc,dcc];refine fz y ?_;clear y Y))))
 refine Draw1.step (by rfl) (fun s9 _=>OpS.frozen (n:=2) (wd:=6) (ty:=28) (rows:=[(bU sa).cc,one1.cc]) (OpS.eff [(11,_),(12,_)] rfl (by rfl) ⟨rfl,rfl,trivial⟩ (by simp only [zb,seval,w11,kcc,dcc];rfl) (by simp)) rfl (by simp [ksh])) ?_;simp only [bM]
 refine Draw1.step (by rfl) (fun s9 _=>oz (l1)) ?_
 (refine Draw1.go fun K7 k=>?_);simp only [zb,seval,w11,kcc,dcc];(refine qz (k _ _ (by rfl) ?_));clear k K7;(simp only [zz,Nat.reduceAdd,Nat.reduceSub]);(try ((refine nz (hK8 _ ?_));clear hK8 K8;(refine WpL.go _ rfl fun Y y=>?_);repeat (first|(apply fw;(with_reducible constructor)<;>rfl)|(apply WpA.cd;constructor)|((first|with_reducible refine WpA.go _ rfl fun Y y=>?_|apply RunTo.id);simp only [zb,seval,w11,kcc,dcc];refine fz y ?_;clear y Y))))
 refine Draw1.step (by rfl) (fun s9 _=>OpS.frozen (n:=1) (wd:=6) (ty:=28) (rows:=[(aK [bU sa,one1]).cc]) (OpS.eff [(14,_)] rfl (by rfl) ⟨rfl,trivial⟩ (by simp only [zb,seval,w11,kcc,dcc];rfl) (by simp)) rfl (by simp [ksh])) ?_;simp only [bM]
 refine Draw1.step (by rfl) (fun s9 _=>oz (l2)) ?_
 (refine Draw1.go fun K7 k=>?_);simp only [zb,seval,w11,kcc,dcc];(refine qz (k _ _ (by rfl) ?_));clear k K7;(simp only [zz,Nat.reduceAdd,Nat.reduceSub]);(try ((refine nz (hK8 _ ?_));clear hK8 K8;(refine WpL.go _ rfl fun Y y=>?_);repeat (first|(apply fw;(with_reducible constructor)<;>rfl)|(apply WpA.cd;constructor)|((first|with_reducible refine WpA.go _ rfl fun Y y=>?_|apply RunTo.id);simp only [zb,seval,w11,kcc,dcc];refine fz y ?_;clear y Y))))
 refine Draw1.step (by rfl) (fun s9 _=>oz (s2)) ?_
 (refine Draw1.go fun K7 k=>?_);simp only [zb,seval,w11,kcc,dcc];(refine qz (k _ _ (by rfl) ?_));clear k K7;(simp only [zz,Nat.reduceAdd,Nat.reduceSub]);(try ((refine nz (hK8 _ ?_));clear hK8 K8;(refine WpL.go _ rfl fun Y y=>?_);repeat (first|(apply fw;(with_reducible constructor)<;>rfl)|(apply WpA.cd;constructor)|((first|with_reducible refine WpA.go _ rfl fun Y y=>?_|apply RunTo.id);simp only [zb,seval,w11,kcc,dcc];refine fz y ?_;clear y Y))))
 refine Draw1.step (by rfl) (fun s9 _=>OpS.frozen (n:=3) (wd:=6) (ty:=28) (rows:=[(bU lF).cc,(aK [aK [bU sa,one1]]).cc,(bU sa).cc]) (OpS.eff [(10,_),(16,_),(17,_)] rfl (by rfl) ⟨rfl,rfl,rfl,trivial⟩ (by simp only [zb,seval,w11,kcc,dcc];rfl) (by simp)) rfl (by simp [ksh])) ?_;simp only [bM]
 refine Draw1.step (by rfl) (fun s9 _=>oz (l3)) ?_
 (refine Draw1.go fun K7 k=>?_);simp only [zb,seval,w11,kcc,dcc];(refine qz (k _ _ (by rfl) ?_));clear k K7;(simp only [zz,Nat.reduceAdd,Nat.reduceSub]);(try ((refine nz (hK8 _ ?_));clear hK8 K8;(refine WpL.go _ rfl fun Y y=>?_);repeat (first|(apply fw;(with_reducible constructor)<;>rfl)|(apply WpA.cd;constructor)|((first|with_reducible refine WpA.go _ rfl fun Y y=>?_|apply RunTo.id);simp only [zb,seval,w11,kcc,dcc];refine fz y ?_;clear y Y))))
 refine Draw1.step (by rfl) (fun s9 _=>oz (o1)) ?_
 (refine Draw1.go fun K7 k=>?_);simp only [zb,seval,w11,kcc,dcc];(refine qz (k _ _ (by rfl) ?_));clear k K7;(simp only [zz,Nat.reduceAdd,Nat.reduceSub]);(try ((refine nz (hK8 _ ?_));clear hK8 K8;(refine WpL.go _ rfl fun Y y=>?_);repeat (first|(apply fw;(with_reducible constructor)<;>rfl)|(apply WpA.cd;constructor)|((first|with_reducible refine WpA.go _ rfl fun Y y=>?_|apply RunTo.id);simp only [zb,seval,w11,kcc,dcc];refine fz y ?_;clear y Y))))
 refine Draw1.eff 0 rfl rfl rfl (OpS.eff [] rfl (by rfl) trivial (by simp only [zb,seval,w11,kcc,dcc];rfl) (by first|(simp;done)|omega|(simp;omega))) ?_;(try simp only [bM]);(try ((refine Draw1.go fun K7 k=>?_);simp only [zb,seval,w11,kcc,dcc];(refine qz (k _ _ (by rfl) ?_));clear k K7;(simp only [zz,Nat.reduceAdd,Nat.reduceSub]);(try ((refine nz (hK8 _ ?_));clear hK8 K8;(refine WpL.go _ rfl fun Y y=>?_);repeat (first|(apply fw;(with_reducible constructor)<;>rfl)|(apply WpA.cd;constructor)|((first|with_reducible refine WpA.go _ rfl fun Y y=>?_|apply RunTo.id);simp only [zb,seval,w11,kcc,dcc];refine fz y ?_;clear y Y))))))
 refine Draw1.eff 1 rfl rfl rfl (OpS.eff [(2,_),(21,_)] rfl (by rfl) ⟨rfl,rfl,trivial⟩ (by simp only [zb,seval,w11,kcc,dcc];rfl) (by first|(simp;done)|omega|(simp;omega))) ?_;(try simp only [bM]);(try ((refine Draw1.go fun K7 k=>?_);simp only [zb,seval,w11,kcc,dcc];(refine qz (k _ _ (by rfl) ?_));clear k K7;(simp only [zz,Nat.reduceAdd,Nat.reduceSub]);(try ((refine nz (hK8 _ ?_));clear hK8 K8;(refine WpL.go _ rfl fun Y y=>?_);repeat (first|(apply fw;(with_reducible constructor)<;>rfl)|(apply WpA.cd;constructor)|((first|with_reducible refine WpA.go _ rfl fun Y y=>?_|apply RunTo.id);simp only [zb,seval,w11,kcc,dcc];refine fz y ?_;clear y Y))))))
 (refine WpA.draw1c 16 [14,15] [_,?_,?_] _ _ _ _ rfl rfl rfl (by kernel_rfl) (by kernel_rfl) (by kernel_rfl) (by kernel_rfl) rfl rfl rfl rfl (by decide) fun K8 hK8=>?_);rotate_left 2;simp only [zz] at hK8 ⊢;(refine Draw1.go fun K7 k=>?_);simp only [zb,seval,w11,kcc,dcc];(refine qz (k _ _ (by rfl) ?_));clear k K7;(simp only [zz,Nat.reduceAdd,Nat.reduceSub]);(try ((refine nz (hK8 _ ?_));clear hK8 K8;(refine WpL.go _ rfl fun Y y=>?_);repeat (first|(apply fw;(with_reducible constructor)<;>rfl)|(apply WpA.cd;constructor)|((first|with_reducible refine WpA.go _ rfl fun Y y=>?_|apply RunTo.id);simp only [zb,seval,w11,kcc,dcc];refine fz y ?_;clear y Y))))
 refine Draw1.step (by rfl) (fun s9 _=>oz (s3)) ?_
 (refine Draw1.go fun K7 k=>?_);simp only [zb,seval,w11,kcc,dcc];(refine qz (k _ _ (by rfl) ?_));clear k K7;(simp only [zz,Nat.reduceAdd,Nat.reduceSub]);(try ((refine nz (hK8 _ ?_));clear hK8 K8;(refine WpL.go _ rfl fun Y y=>?_);repeat (first|(apply fw;(with_reducible constructor)<;>rfl)|(apply WpA.cd;constructor)|((first|with_reducible refine WpA.go _ rfl fun Y y=>?_|apply RunTo.id);simp only [zb,seval,w11,kcc,dcc];refine fz y ?_;clear y Y))))
 refine Draw1.step (by rfl) (fun s9 _=>oz (s2)) ?_
 (refine Draw1.go fun K7 k=>?_);simp only [zb,seval,w11,kcc,dcc];(refine qz (k _ _ (by rfl) ?_));clear k K7;(simp only [zz,Nat.reduceAdd,Nat.reduceSub]);(try ((refine nz (hK8 _ ?_));clear hK8 K8;(refine WpL.go _ rfl fun Y y=>?_);repeat (first|(apply fw;(with_reducible constructor)<;>rfl)|(apply WpA.cd;constructor)|((first|with_reducible refine WpA.go _ rfl fun Y y=>?_|apply RunTo.id);simp only [zb,seval,w11,kcc,dcc];refine fz y ?_;clear y Y))))
 refine Draw1.step (by rfl) (fun s9 _=>OpS.frozen (n:=1) (wd:=6) (ty:=28) (rows:=[(bU sa).cc]) (OpS.eff [(25,_)] rfl (by rfl) ⟨rfl,trivial⟩ (by simp only [zb,seval,w11,kcc,dcc];rfl) (by simp)) rfl (by simp [ksh])) ?_;simp only [bM]
 refine Draw1.step (by rfl) (fun s9 _=>oz (l4)) ?_
 (refine Draw1.go fun K7 k=>?_);simp only [zb,seval,w11,kcc,dcc];(refine qz (k _ _ (by rfl) ?_));clear k K7;(simp only [zz,Nat.reduceAdd,Nat.reduceSub]);(try ((refine nz (hK8 _ ?_));clear hK8 K8;(refine WpL.go _ rfl fun Y y=>?_);repeat (first|(apply fw;(with_reducible constructor)<;>rfl)|(apply WpA.cd;constructor)|((first|with_reducible refine WpA.go _ rfl fun Y y=>?_|apply RunTo.id);simp only [zb,seval,w11,kcc,dcc];refine fz y ?_;clear y Y))))
 refine Draw1.step (by rfl) (fun s9 _=>oz (s2)) ?_
 (refine Draw1.go fun K7 k=>?_);simp only [zb,seval,w11,kcc,dcc];(refine qz (k _ _ (by rfl) ?_));clear k K7;(simp only [zz,Nat.reduceAdd,Nat.reduceSub]);(try ((refine nz (hK8 _ ?_));clear hK8 K8;(refine WpL.go _ rfl fun Y y=>?_);repeat (first|(apply fw;(with_reducible constructor)<;>rfl)|(apply WpA.cd;constructor)|((first|with_reducible refine WpA.go _ rfl fun Y y=>?_|apply RunTo.id);simp only [zb,seval,w11,kcc,dcc];refine fz y ?_;clear y Y))))
 refine Draw1.step (by rfl) (fun s9 _=>OpS.frozen (n:=3) (wd:=6) (ty:=28) (rows:=[(bU cH).cc,(aK [bU sa]).cc,(bU sa).cc]) (OpS.eff [(24,_),(27,_),(28,_)] rfl (by rfl) ⟨rfl,rfl,rfl,trivial⟩ (by simp only [zb,seval,w11,kcc,dcc];rfl) (by simp)) rfl (by simp [ksh])) ?_;simp only [bM]
 refine Draw1.step (by rfl) (fun s9 _=>oz (l5)) ?_
 (refine Draw1.go fun K7 k=>?_);simp only [zb,seval,w11,kcc,dcc];(refine qz (k _ _ (by rfl) ?_));clear k K7;(simp only [zz,Nat.reduceAdd,Nat.reduceSub]);(try ((refine nz (hK8 _ ?_));clear hK8 K8;(refine WpL.go _ rfl fun Y y=>?_);repeat (first|(apply fw;(with_reducible constructor)<;>rfl)|(apply WpA.cd;constructor)|((first|with_reducible refine WpA.go _ rfl fun Y y=>?_|apply RunTo.id);simp only [zb,seval,w11,kcc,dcc];refine fz y ?_;clear y Y))))
 refine Draw1.step (by rfl) (fun s9 _=>OpS.frozen (n:=2) (wd:=6) (ty:=28) (rows:=[(aK [bU cH,aK [bU sa],bU sa]).cc,one1.cc]) (OpS.eff [(30,_),(31,_)] rfl (by rfl) ⟨rfl,rfl,trivial⟩ (by simp only [zb,seval,w11,kcc,dcc];rfl) (by simp)) rfl (by simp [ksh])) ?_;simp only [bM]
 refine Draw1.step (by rfl) (fun s9 _=>oz (l6)) ?_
 (refine Draw1.go fun K7 k=>?_);simp only [zb,seval,w11,kcc,dcc];(refine qz (k _ _ (by rfl) ?_));clear k K7;(simp only [zz,Nat.reduceAdd,Nat.reduceSub]);(try ((refine nz (hK8 _ ?_));clear hK8 K8;(refine WpL.go _ rfl fun Y y=>?_);repeat (first|(apply fw;(with_reducible constructor)<;>rfl)|(apply WpA.cd;constructor)|((first|with_reducible refine WpA.go _ rfl fun Y y=>?_|apply RunTo.id);simp only [zb,seval,w11,kcc,dcc];refine fz y ?_;clear y Y))))
 refine Draw1.step (by rfl) (fun s9 _=>oz (o2)) ?_
 (refine Draw1.go fun K7 k=>?_);simp only [zb,seval,w11,kcc,dcc];(refine qz (k _ _ (by rfl) ?_));clear k K7;(simp only [zz,Nat.reduceAdd,Nat.reduceSub]);(try ((refine nz (hK8 _ ?_));clear hK8 K8;(refine WpL.go _ rfl fun Y y=>?_);repeat (first|(apply fw;(with_reducible constructor)<;>rfl)|(apply WpA.cd;constructor)|((first|with_reducible refine WpA.go _ rfl fun Y y=>?_|apply RunTo.id);simp only [zb,seval,w11,kcc,dcc];refine fz y ?_;clear y Y))))
 refine Draw1.eff 0 rfl rfl rfl (OpS.eff [] rfl (by rfl) trivial (by simp only [zb,seval,w11,kcc,dcc];rfl) (by first|(simp;done)|omega|(simp;omega))) ?_;(try simp only [bM]);(try ((refine Draw1.go fun K7 k=>?_);simp only [zb,seval,w11,kcc,dcc];(refine qz (k _ _ (by rfl) ?_));clear k K7;(simp only [zz,Nat.reduceAdd,Nat.reduceSub]);(try ((refine nz (hK8 _ ?_));clear hK8 K8;(refine WpL.go _ rfl fun Y y=>?_);repeat (first|(apply fw;(with_reducible constructor)<;>rfl)|(apply WpA.cd;constructor)|((first|with_reducible refine WpA.go _ rfl fun Y y=>?_|apply RunTo.id);simp only [zb,seval,w11,kcc,dcc];refine fz y ?_;clear y Y))))))
 refine Draw1.eff 1 rfl rfl rfl (OpS.eff [(4,_),(35,_)] rfl (by rfl) ⟨rfl,rfl,trivial⟩ (by simp only [zb,seval,w11,kcc,dcc];rfl) (by first|(simp;done)|omega|(simp;omega))) ?_;(try simp only [bM]);(try ((refine Draw1.go fun K7 k=>?_);simp only [zb,seval,w11,kcc,dcc];(refine qz (k _ _ (by rfl) ?_));clear k K7;(simp only [zz,Nat.reduceAdd,Nat.reduceSub]);(try ((refine nz (hK8 _ ?_));clear hK8 K8;(refine WpL.go _ rfl fun Y y=>?_);repeat (first|(apply fw;(with_reducible constructor)<;>rfl)|(apply WpA.cd;constructor)|((first|with_reducible refine WpA.go _ rfl fun Y y=>?_|apply RunTo.id);simp only [zb,seval,w11,kcc,dcc];refine fz y ?_;clear y Y))))))
 refine cz (s4) ?_
 (refine WpL.go _ rfl fun Y y=>?_);repeat (first|(apply fw;(with_reducible constructor)<;>rfl)|(apply WpA.cd;constructor)|((first|with_reducible refine WpA.go _ rfl fun Y y=>?_|apply RunTo.id);simp only [zb,seval,w11,kcc,dcc];refine fz y ?_;clear y Y))
 (refine WpL.frz 39 (3) (by rfl) (by first|rfl|(simp only [zz,kcc];rfl)|(simp only [zz,kcc])) (by first|rfl|(simp [kcc];done)|(simp [kcc];omega)) (by simp [ksh]) ?_);simp only [zz,kcc]
 refine cz (l7) ?_
 (refine WpL.go _ rfl fun Y y=>?_);repeat (first|(apply fw;(with_reducible constructor)<;>rfl)|(apply WpA.cd;constructor)|((first|with_reducible refine WpA.go _ rfl fun Y y=>?_|apply RunTo.id);simp only [zb,seval,w11,kcc,dcc];refine fz y ?_;clear y Y))
 refine cz (o3) ?_
 (refine WpL.go _ rfl fun Y y=>?_);repeat (first|(apply fw;(with_reducible constructor)<;>rfl)|(apply WpA.cd;constructor)|((first|with_reducible refine WpA.go _ rfl fun Y y=>?_|apply RunTo.id);simp only [zb,seval,w11,kcc,dcc];refine fz y ?_;clear y Y))
 refine cz (hs) ?_
 (refine WpL.go _ rfl fun Y y=>?_);repeat (first|(apply fw;(with_reducible constructor)<;>rfl)|(apply WpA.cd;constructor)|((first|with_reducible refine WpA.go _ rfl fun Y y=>?_|apply RunTo.id);simp only [zb,seval,w11,kcc,dcc];refine fz y ?_;clear y Y))
 refine cz (hk1) ?_
 (refine WpL.go _ rfl fun Y y=>?_);repeat (first|(apply fw;(with_reducible constructor)<;>rfl)|(apply WpA.cd;constructor)|((first|with_reducible refine WpA.go _ rfl fun Y y=>?_|apply RunTo.id);simp only [zb,seval,w11,kcc,dcc];refine fz y ?_;clear y Y))
 refine cz (hk2) ?_
 (refine WpL.go _ rfl fun Y y=>?_);repeat (first|(apply fw;(with_reducible constructor)<;>rfl)|(apply WpA.cd;constructor)|((first|with_reducible refine WpA.go _ rfl fun Y y=>?_|apply RunTo.id);simp only [zb,seval,w11,kcc,dcc];refine fz y ?_;clear y Y))
 refine ye (by simp only [zb,seval,w11,kcc,dcc];rfl) (by simp only [zv,kcc,dcc];rfl) ?_
 rfl
end Go.Proofs.YtaeioidifpebdaaGreatDoor
end
