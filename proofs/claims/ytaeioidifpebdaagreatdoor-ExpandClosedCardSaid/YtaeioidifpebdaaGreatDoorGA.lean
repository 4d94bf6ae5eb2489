/-
 Laid together: MayD18, Wr18, Ws18, RList, Awk18.
-/
import Derived.Test.YtaeioidifpebdaaGreatDoorG3
import Derived.Test.YtaeioidifpebdaaGreatDoorMay
import Derived.Test.YtaeioidifpebdaaGreatDoorG9
import Derived.Test.YtaeioidifpebdaaGreatDoorG5
import Derived.Test.YtaeioidifpebdaaGreatDoorG4
import Derived.Test.YtaeioidifpebdaaGreatDoorG6
section
namespace Go.Proofs.YtaeioidifpebdaaGreatDoor
open Go Go.RowKit Go.Lib
theorem LS (d:D) (hok:d.Ok) (hb:d.count<1000000000):Pure Tryz.prog 39 [.agg d.cc] (.one (.v (.bool (xY d)))):=by
 refine sD rfl fun w vs hg hv=>?_
 obtain⟨v,rfl,hv1⟩:=hv.one1
 exact QH d w v hok hb hg.tabs hv1.isD
end Go.Proofs.YtaeioidifpebdaaGreatDoor
end
section
namespace Go.Proofs.YtaeioidifpebdaaGreatDoor
open Go Go.RowKit Go.Lib
set_option linter.unusedSimpArgs false
set_option linter.unusedVariables false
set_option maxHeartbeats 4000000
set_option maxRecDepth 100000
theorem CT {n:Nat} {ev:Ev} (hE:HE n ev):∀(m:Nat) (d:D),(jU ev m d).2≤2
 | 0,d=>Nat.zero_le _
 | m+1,d=>by
  unfold jU
  repeat' split
  ·exact tX hE _
  ·exact hE.e2 d
  ·exact Nat.zero_le _
  ·exact nC fun x hx=>by
    obtain⟨d,_,rfl⟩:=List.mem_map.1 hx
    exact CT hE m d
def TZ (d:D) (E:D→Rs) (l:List D) (n:Nat) (st:St):Prop:=∃(i:Nat) (S:List (Option Ob)) (cO:C),n=l.length-i∧i≤l.length∧At 31 11 S cO (((l.take i).map fun d=>(E d).1).map K.cc) ∧
 S[1]?=some (some ⟨31,11,[[.v (.int .i64 0),.v (.string ⟨#[]⟩),.v (.string ⟨#[]⟩),.v (.slice none 0 0),.v (.int .i64 0),.v (.int .i32 0),.v (.bool false),.v (.slice none 0 0),.v (.string ⟨#[]⟩),.v (.slice none 0 0),.v (.slice none 0 0)]]⟩)∧(∀n,cO≠.ms 1 n) ∧
 st=⟨[(51,.one (.v (.int .i64 i))),(50,.one (.v (.int .i64 l.length))),(49,.one (.sl 6 (l.map D.cc))),(2,.one (.ptr 1 1 0 0)),(3,.one (.er 0)),(11,.one cO),(12,.one (.er (gT ((l.take i).map fun d=>(E d).2))))],S⟩
theorem FI {n:Nat} {ev:Ev} (hE:HE n ev):∀(m:Nat) (d:D),d.msr<m→Gd n d→Pure Tryz.prog 40 [.agg d.cc] (rsA (jU ev m d))
 | 0,d,h,_=>absurd h (Nat.not_lt_zero _)
 | m+1,d,hm,hd=>by
  have hbig:=hE.big
  have hh1:=oD n d fB hd (by omega)
  have hh2:=oD n d dP hd (by omega)
  have hx:=hE.e d hd
  cases ho:dS d fB with
  | some l =>
   obtain⟨g1,g2⟩:=fW hd ho
   have hdf:=pL hE l g1
   rw [show jU ev (m+1) d=(.mk 4 (fC ev l).1 e0 [] cK [(fC ev l).2.1],(fC ev l).2.2) by rw [jU,ho]]
   rw [ho] at hh1
   simp only [lN] at hh1
   simp only [dfA] at hdf
   simp only [rsA]
   refine fi Tryz.func40 Tryz.ntmps40 Tryz.results40 ?_
   repeat (first|(apply fw;(with_reducible constructor)<;>rfl)|(apply WpA.cd;constructor)|((first|with_reducible refine WpA.go _ rfl fun Y y=>?_|apply RunTo.id);simp only [zb,seval,w40,kcc];refine fz y ?_;clear y Y))
   refine cz (hh1) ?_
   (refine WpL.go _ rfl fun Y y=>?_);repeat (first|(apply fw;(with_reducible constructor)<;>rfl)|(apply WpA.cd;constructor)|((first|with_reducible refine WpA.go _ rfl fun Y y=>?_|apply RunTo.id);simp only [zb,seval,w40,kcc];refine fz y ?_;clear y Y))
   refine cz (hdf) ?_
   (refine WpL.go _ rfl fun Y y=>?_);repeat (first|(apply fw;(with_reducible constructor)<;>rfl)|(apply WpA.cd;constructor)|((first|with_reducible refine WpA.go _ rfl fun Y y=>?_|apply RunTo.id);simp only [zb,seval,w40,kcc];refine fz y ?_;clear y Y))
   refine⟨by simp,_,_,_,_,(by simp only [zb,seval,w40,kcc];rfl),(by simp),(by simp only [zv,kcc];rfl),(by simp [ksh]),_,(by simp only [rcc];exact ae),rfl⟩
  | none =>
   rw [ho] at hh1
   cases hb:dS d dP with
   | none =>
    rw [show jU ev (m+1) d=ev.e d by rw [jU,ho];dsimp only;rw [hb]]
    rw [hb] at hh2
    simp only [lN] at hh1 hh2
    simp only [rsA] at hx ⊢
    refine fi Tryz.func40 Tryz.ntmps40 Tryz.results40 ?_
    repeat (first|(apply fw;(with_reducible constructor)<;>rfl)|(apply WpA.cd;constructor)|((first|with_reducible refine WpA.go _ rfl fun Y y=>?_|apply RunTo.id);simp only [zb,seval,w40,kcc];refine fz y ?_;clear y Y))
    refine cz (hh1) ?_
    (refine WpL.go _ rfl fun Y y=>?_);repeat (first|(apply fw;(with_reducible constructor)<;>rfl)|(apply WpA.cd;constructor)|((first|with_reducible refine WpA.go _ rfl fun Y y=>?_|apply RunTo.id);simp only [zb,seval,w40,kcc];refine fz y ?_;clear y Y))
    refine cz (hh2) ?_
    (refine WpL.go _ rfl fun Y y=>?_);repeat (first|(apply fw;(with_reducible constructor)<;>rfl)|(apply WpA.cd;constructor)|((first|with_reducible refine WpA.go _ rfl fun Y y=>?_|apply RunTo.id);simp only [zb,seval,w40,kcc];refine fz y ?_;clear y Y))
    refine cz (hx) ?_
    (refine WpL.go _ rfl fun Y y=>?_);repeat (first|(apply fw;(with_reducible constructor)<;>rfl)|(apply WpA.cd;constructor)|((first|with_reducible refine WpA.go _ rfl fun Y y=>?_|apply RunTo.id);simp only [zb,seval,w40,kcc];refine fz y ?_;clear y Y))
    refine ye (by simp only [zb,seval,w40,kcc];rfl) (by simp only [zv,kcc];rfl) ?_
    rfl
   | some l =>
    obtain⟨g1,g2⟩:=fW hd hb
    rw [hb] at hh2
    simp only [lN] at hh1 hh2
    by_cases hl0:l=[]
    ·subst hl0
     have hno:=gE
     rw [show jU ev (m+1) d=(bQ,0) by rw [jU,ho];dsimp only;rw [hb]]
     simp only [rsA]
     refine fi Tryz.func40 Tryz.ntmps40 Tryz.results40 ?_
     repeat (first|(apply fw;(with_reducible constructor)<;>rfl)|(apply WpA.cd;constructor)|((first|with_reducible refine WpA.go _ rfl fun Y y=>?_|apply RunTo.id);simp only [zb,seval,w40,kcc];refine fz y ?_;clear y Y))
     refine cz (hh1) ?_
     (refine WpL.go _ rfl fun Y y=>?_);repeat (first|(apply fw;(with_reducible constructor)<;>rfl)|(apply WpA.cd;constructor)|((first|with_reducible refine WpA.go _ rfl fun Y y=>?_|apply RunTo.id);simp only [zb,seval,w40,kcc];refine fz y ?_;clear y Y))
     refine cz (hh2) ?_
     (refine WpL.go _ rfl fun Y y=>?_);repeat (first|(apply fw;(with_reducible constructor)<;>rfl)|(apply WpA.cd;constructor)|((first|with_reducible refine WpA.go _ rfl fun Y y=>?_|apply RunTo.id);simp only [zb,seval,w40,kcc];refine fz y ?_;clear y Y))
     refine cz (hno) ?_
     (refine WpL.go _ rfl fun Y y=>?_);repeat (first|(apply fw;(with_reducible constructor)<;>rfl)|(apply WpA.cd;constructor)|((first|with_reducible refine WpA.go _ rfl fun Y y=>?_|apply RunTo.id);simp only [zb,seval,w40,kcc];refine fz y ?_;clear y Y))
     refine ye (by simp only [zb,seval,w40,kcc];rfl) (by simp only [zv,kcc];rfl) ?_
     rfl
    ·have hne:((l.length:Int) == 0)=false:=by
      have:l.length≠0:=fun h=>hl0 (List.length_eq_zero_iff.1 h)
      simp;exact hl0
     have hlen:=g1.len
     have hml:(l.map D.cc).length=l.length:=List.length_map ..
     rw [show jU ev (m+1) d=(fQ (l.map fun x=>(jU ev m x).1),gT (l.map fun x=>(jU ev m x).2)) by
      obtain⟨a,r,rfl⟩:∃a r,l=a::r:=by
       match l,hl0 with
       | a::r,_=>exact⟨a,r,rfl⟩
      rw [jU,ho];dsimp only;rw [hb]]
     have hrec:∀x∈l,Pure Tryz.prog 40 [.agg x.cc] (rsA (jU ev m x)):=fun x hx=>FI hE m x (by have:=nZ hx;omega) (g1.mem hx)
     have hrec2:∀x,(jU ev m x).2≤2:=CT hE m
     generalize jU ev m=E at hrec hrec2 ⊢
     refine fi Tryz.func40 Tryz.ntmps40 Tryz.results40 ?_
     repeat (first|(apply fw;(with_reducible constructor)<;>rfl)|(apply WpA.cd;constructor)|((first|with_reducible refine WpA.go _ rfl fun Y y=>?_|apply RunTo.id);simp only [zb,seval,w40,kcc];refine fz y ?_;clear y Y))
     refine cz (hh1) ?_
     (refine WpL.go _ rfl fun Y y=>?_);repeat (first|(apply fw;(with_reducible constructor)<;>rfl)|(apply WpA.cd;constructor)|((first|with_reducible refine WpA.go _ rfl fun Y y=>?_|apply RunTo.id);simp only [zb,seval,w40,kcc];refine fz y ?_;clear y Y))
     refine cz (hh2) ?_
     (refine WpL.go _ rfl fun Y y=>?_);repeat (first|(apply fw;(with_reducible constructor)<;>rfl)|(apply WpA.cd;constructor)|((first|with_reducible refine WpA.go _ rfl fun Y y=>?_|apply RunTo.id);simp only [zb,seval,w40,kcc,hne,hml];refine fz y ?_;clear y Y))
     refine WpA.loop (TZ d E l) l.length (st0:=⟨[(51,.one (.v (.int .i64 (0:Nat)))),(50,.one (.v (.int .i64 l.length))),(49,.one (.sl 6 (l.map D.cc))),(2,.one (.ptr 1 1 0 0)),(3,.one (.er 0)),(11,.one (.v (.slice none 0 0))),(12,.one (.er 0))],[some ⟨28,6,[d.cc]⟩,some ⟨31,11,[[.v (.int .i64 0),.v (.string ⟨#[]⟩),.v (.string ⟨#[]⟩),.v (.slice none 0 0),.v (.int .i64 0),.v (.int .i32 0),.v (.bool false),.v (.slice none 0 0),.v (.string ⟨#[]⟩),.v (.slice none 0 0),.v (.slice none 0 0)]]⟩]⟩) (Le.sub (by simp [Sub,find]))
      ⟨0,_,_,rfl,Nat.zero_le _,At.nil _ _ _,rfl,(fun n e=>by cases e),rfl⟩ ?_
     intro n' st hI
     obtain⟨i,S,cO,rfl,hi,hA,hbox,hne0,rfl⟩:=hI
     have hw2:IntKind.i64.wrap ((i:Int)+1)=((i+1:Nat):Int):=by rw [dU (by omega) (by omega)];omega
     have hS1:=(List.getElem?_eq_some_iff.1 hbox).1
     by_cases hlt:i<l.length
     ·have hd1:decide ((i:Int)<(l.length:Int))=true:=by simp;omega
      have hget:=xU hlt
      have hc:=hrec l[i] (List.getElem_mem hlt)
      have hbo:=aD (gT ((l.take i).map fun d=>(E d).2)) (E l[i]).2 (nC fun x hx=>by
       obtain⟨d,_,rfl⟩:=List.mem_map.1 hx
       exact hrec2 d) (hrec2 _)
      simp only [rsA] at hc
      have hal:=hA.len
      rw [List.length_map,List.length_map,List.length_take,Nat.min_eq_left hi] at hal
      repeat (first|(apply fw;(with_reducible constructor)<;>rfl)|(apply WpA.cd;constructor)|((first|with_reducible refine WpA.go _ rfl fun Y y=>?_|apply RunTo.id);simp only [zb,seval,w40,hd1,hget,kcc,aF];refine fz y ?_;clear y Y))
      refine cz (hc) ?_
      (refine WpL.go _ rfl fun Y y=>?_);repeat (first|(apply fw;(with_reducible constructor)<;>rfl)|(apply WpA.cd;constructor)|((first|with_reducible refine WpA.go _ rfl fun Y y=>?_|apply RunTo.id);simp only [zb,seval,w40,kcc,aF];refine fz y ?_;clear y Y))
      refine cz (hbo) ?_
      (refine WpL.go _ rfl fun Y y=>?_);repeat (first|(apply fw;(with_reducible constructor)<;>rfl)|(apply WpA.cd;constructor)|((first|with_reducible refine WpA.go _ rfl fun Y y=>?_|apply RunTo.id);simp only [zb,seval,w40,kcc,aF];refine fz y ?_;clear y Y))
      refine WpA.region ?_
      (try simp only [St.put]);(refine WpL.op rfl (aB (P:=Tryz.prog) rfl) (aE (by simp only [zb,seval,w40,kcc,aF];rfl) (by first|(simp;done)|omega|(simp;omega))) ?_);simp only [St.put];(refine WpL.op rfl (aB (P:=Tryz.prog) rfl) (aE (by simp only [zb,seval,w40,kcc,aF];rfl) (by first|(simp;done)|omega|(simp;omega))) ?_);simp only [St.put];(refine WpL.op rfl (aB (P:=Tryz.prog) rfl) (aE (by simp only [zb,seval,w40,kcc,aF];rfl) (by first|(simp;done)|omega|(simp;omega))) ?_);simp only [St.put]
      obtain⟨S8,j,hA8,hj8,hl8,hfr8,hpl8,hop8⟩:=eO (P:=Tryz.prog) (T:=29) (by_:=176) bM bO bP (by omega) (S:=S++[some ⟨28,6,[l[i].cc]⟩,some ⟨31,11,[(E l[i]).1.cc]⟩,some ⟨31,11,[(E l[i]).1.cc]⟩]) (hA.app _) (q:=S.length+2) (new:=[(E l[i]).1.cc]) (qE _ _ _ _ _) (by simp) (fun n e=>by have:=hA.lt e;omega) (by simp;omega) (by simp;omega)
      simp only [List.length_cons,List.length_nil,Nat.zero_add] at hop8 hA8
      refine WpL.aop rfl (hop8 _ _ _ rfl rfl) ?_
      simp only [St.put]
      have hs:max (gT ((l.take i).map fun d=>(E d).2)) (E l[i]).2=gT ((l.take (i+1)).map fun d=>(E d).2):=by rw [gL _ hlt,mJ]
      (refine WpL.go _ rfl fun Y y=>?_);repeat (first|(apply fw;(with_reducible constructor)<;>rfl)|(apply WpA.cd;constructor)|((first|with_reducible refine WpA.go _ rfl fun Y y=>?_|apply RunTo.id);simp only [zb,seval,w40,hw2,hs];refine fz y ?_;clear y Y))
      have hpl:cO=.ms j (((l.take i).map fun d=>(E d).1).map K.cc).length∨S.length≤j:=hpl8.imp id fun q=>by rw [List.length_append] at q;omega
      refine⟨l.length-(i+1),_,by omega,Le.sub (by simp [Sub,find]),i+1,S8,.ms j ((((l.take i).map fun d=>(E d).1).map K.cc).length+1),rfl,hlt,?_,hfr8 1 _ (cJ hbox) hne0,fun m e=>?_,rfl⟩
      ·rw [gL _ hlt,List.map_append];exact hA8
      ·have:=(C.ms.inj e).1
       rcases hpl with q|q
       ·exact hne0 _ (this▸q)
       ·omega
     ·have hd0:decide ((i:Int)<(l.length:Int))=false:=by simp;omega
      have hii:i=l.length:=by omega
      subst hii
      rw [List.take_length] at hA ⊢
      have hsq:=oE (l.map fun d=>(E d).1)
      repeat (first|(apply fw;(with_reducible constructor)<;>rfl)|(apply WpA.cd;constructor))
      ((with_reducible refine WpA.go _ rfl fun Y y=>?_);simp only [zb,seval,w40,hd0];(refine RunTo.fn y (by first|(simp;done)|omega|(simp;omega)) ?_);clear y Y);repeat (first|(apply fw;(with_reducible constructor)<;>rfl)|(apply WpA.cd;constructor))
      refine WpA.frzAt 11 hA.au (qF _) rfl fun S1 hl1 ho1=>?_
      have h01:=ho1 1 _ hbox hne0
      have hS3:=(List.getElem?_eq_some_iff.1 h01).1
      have hset0:∀(a:Option Ob),(S1.set 1 a)[1]?=some a:=fun a=>List.getElem?_set_self hS3
      repeat (first|(apply fw;(with_reducible constructor)<;>rfl)|(apply WpA.cd;constructor)|((first|with_reducible refine WpA.go _ rfl fun Y y=>?_|apply RunTo.id);simp only [zb,seval,w40,kcc];refine fz y ?_;clear y Y))
      refine cz (hsq) ?_
      (refine WpL.go _ rfl fun Y y=>?_);repeat (first|(apply fw;(with_reducible constructor)<;>rfl)|(apply WpA.cd;constructor)|((first|with_reducible refine WpA.go _ rfl fun Y y=>?_|apply RunTo.id);simp only [zb,seval,w40,kcc,h01];refine fz y ?_;clear y Y))
      refine ye (by simp only [zb,seval,w40,kcc,hset0];rfl) (by simp only [zv,kcc,hset0];rfl) ?_
      rfl
def TJ:Nat→Int
 | 0=>0
 | 1=>6
 | _=>8
noncomputable def qK (d:D):K × Int:=if xY d=true then (if (lI d).2=0 then (lI d).1 else kz,TJ (lI d).2) else (kz,1)
def onA (r:K × Int):A:=.tup [.agg r.1.cc,.one (.v (.int .i64 r.2))]
theorem QI {d:D} (hok:d.Ok) (h:xY d=true):Gd (d.msr+1) d:=by
 have h1:dM d=true:=(Bool.and_eq_true_iff.1 h).1
 exact⟨(dN.1 h1).two,hok,Nat.lt_succ_self _⟩
theorem LT (d:D) (hg:Gd (d.msr+1) d) (hm:d.msr+1≤100000000):Pure Tryz.prog 40 [.agg d.cc] (rsA (lI d))∧(lI d).2≤2 :=
 ⟨FI (ID _ hm) _ d (Nat.lt_succ_self _) hg,CT (ID _ hm) _ d⟩
theorem CU (d:D) (hok:d.Ok) (hc:d.count<1000000000) (hm:d.msr+1≤100000000):Pure Tryz.prog 17 [.agg d.cc] (onA (qK d)):=by
 have hmy:=LS d hok hc
 cases hb:xY d with
 | false =>
  rw [hb] at hmy
  rw [show qK d=(kz,1) by unfold qK;rw [hb];rfl]
  simp only [onA]
  refine fi Tryz.func17 Tryz.ntmps17 Tryz.results17 ?_
  repeat (first|(apply fw;(with_reducible constructor)<;>rfl)|(apply WpA.cd;constructor)|((first|with_reducible refine WpA.go _ rfl fun Y y=>?_|apply RunTo.id);simp only [zb,seval,w17,kcc];refine fz y ?_;clear y Y))
  refine cz (hmy) ?_
  (refine WpL.go _ rfl fun Y y=>?_);repeat (first|(apply fw;(with_reducible constructor)<;>rfl)|(apply WpA.cd;constructor)|((first|with_reducible refine WpA.go _ rfl fun Y y=>?_|apply RunTo.id);simp only [zb,seval,w17,kcc];refine fz y ?_;clear y Y))
  refine⟨by simp,_,_,_,_,(by simp only [zb,seval,w17,kcc];rfl),(by simp),(by simp only [zv,kcc];rfl),(by simp [ksh]),_,(by simp only [rcc];exact ae),rfl⟩
 | true =>
  obtain⟨ht,hle⟩:=LT d (QI hok hb) hm
  have his:Pure Tryz.prog 41 [.one (.er (lI d).2),.one (.gv 0)] (.one (.v (.bool (decide ((lI d).2=1))))):=CE (lI d).2 0 hle (by omega)
  rw [hb] at hmy
  rw [show qK d=(if (lI d).2=0 then (lI d).1 else kz,TJ (lI d).2) by unfold qK;rw [hb];rfl]
  simp only [rsA] at ht
  simp only [onA]
  generalize lI d=x at *
  obtain⟨k,n⟩:=x
  dsimp only at *
  have hn:n=0∨n=1∨n=2:=by omega
  rcases hn with rfl|rfl|rfl
  ·rw [if_pos rfl]
   refine fi Tryz.func17 Tryz.ntmps17 Tryz.results17 ?_
   repeat (first|(apply fw;(with_reducible constructor)<;>rfl)|(apply WpA.cd;constructor)|((first|with_reducible refine WpA.go _ rfl fun Y y=>?_|apply RunTo.id);simp only [zb,seval,w17,kcc];refine fz y ?_;clear y Y))
   refine cz (hmy) ?_
   (refine WpL.go _ rfl fun Y y=>?_);repeat (first|(apply fw;(with_reducible constructor)<;>rfl)|(apply WpA.cd;constructor)|((first|with_reducible refine WpA.go _ rfl fun Y y=>?_|apply RunTo.id);simp only [zb,seval,w17,kcc];refine fz y ?_;clear y Y))
   refine cz (ht) ?_
   (refine WpL.go _ rfl fun Y y=>?_);repeat (first|(apply fw;(with_reducible constructor)<;>rfl)|(apply WpA.cd;constructor)|((first|with_reducible refine WpA.go _ rfl fun Y y=>?_|apply RunTo.id);simp only [zb,seval,w17,kcc];refine fz y ?_;clear y Y))
   refine ye (by simp only [zb,seval,w17,kcc];rfl) (by simp only [zv,kcc];rfl) ?_
   rfl
  all_goals
   rw [if_neg (by decide)]
   refine fi Tryz.func17 Tryz.ntmps17 Tryz.results17 ?_
   repeat (first|(apply fw;(with_reducible constructor)<;>rfl)|(apply WpA.cd;constructor)|((first|with_reducible refine WpA.go _ rfl fun Y y=>?_|apply RunTo.id);simp only [zb,seval,w17,kcc];refine fz y ?_;clear y Y))
   refine cz (hmy) ?_
   (refine WpL.go _ rfl fun Y y=>?_);repeat (first|(apply fw;(with_reducible constructor)<;>rfl)|(apply WpA.cd;constructor)|((first|with_reducible refine WpA.go _ rfl fun Y y=>?_|apply RunTo.id);simp only [zb,seval,w17,kcc];refine fz y ?_;clear y Y))
   refine cz (ht) ?_
   (refine WpL.go _ rfl fun Y y=>?_);repeat (first|(apply fw;(with_reducible constructor)<;>rfl)|(apply WpA.cd;constructor)|((first|with_reducible refine WpA.go _ rfl fun Y y=>?_|apply RunTo.id);simp only [zb,seval,w17,kcc];refine fz y ?_;clear y Y))
   refine cz (his) ?_
   (refine WpL.go _ rfl fun Y y=>?_);repeat (first|(apply fw;(with_reducible constructor)<;>rfl)|(apply WpA.cd;constructor)|((first|with_reducible refine WpA.go _ rfl fun Y y=>?_|apply RunTo.id);simp only [zb,seval,w17,kcc];refine fz y ?_;clear y Y))
   refine⟨by simp,_,_,_,_,(by simp only [zb,seval,w17,kcc];rfl),(by simp),(by simp only [zv,kcc];rfl),(by simp [ksh]),_,(by simp only [rcc];exact ae),rfl⟩
theorem D.cc_bd (k:Nat) (d:D):∀c∈d.cc,C.bd k c=true:=by rw [D.cc_eq];simp [C.bd]
def D.co (d:D):List C:=[.v (.int .i64 d.k),.v (.int .i32 d.c),.v (.bool d.neg),.sl 1 (d.mag.map fun n=>[.v (.int .u32 n)]),.v (.string d.t),.sl 6 (d.l.map D.cc)]
def RLI (l:List D) (n:Nat) (st:St):Prop:=n≤l.length ∧
 st=⟨[(4,.one (.v (.int .i64 ((n:Int)-1)))),(0,.one (.sl 6 (l.map D.cc))),(3,.one (.ptr 1 1 0 0)),(2,.one (.ptr 0 1 0 0))],
  [some ⟨28,6,[[.v (.int .i64 0),.v (.int .i32 0),.v (.bool false),.v (.slice none 0 0),.v (.string ⟨#[]⟩),.v (.slice none 0 0)]]⟩,some ⟨28,6,[[.v (.int .i64 (aX (l.drop n)).k),.v (.int .i32 (aX (l.drop n)).c),.v (.bool (aX (l.drop n)).neg),.sl 1 ((aX (l.drop n)).mag.map fun n=>[.v (.int .u32 n)]),.v (.string (aX (l.drop n)).t),.sl 6 ((aX (l.drop n)).l.map D.cc)]]⟩]⟩
theorem IL (l:List D) (hlen:l.length≤1000000):Pure Tryz.prog 44 [.one (.sl 6 (l.map D.cc))] (.agg (aX l).cc):=by
 have hw0:IntKind.i64.wrap ((l.length:Int)-1)=(l.length:Int)-1:=dU (by omega) (by omega)
 rw [D.cc_eq (aX l)]
 refine fi Tryz.func44 Tryz.ntmps44 Tryz.results44 ?_
 repeat (first|(apply fw;(with_reducible constructor)<;>rfl)|(apply WpA.cd;constructor)|((first|with_reducible refine WpA.go _ rfl fun Y y=>?_|apply RunTo.id);simp only [zb,seval,w44,hw0];refine fz y ?_;clear y Y))
 refine WpA.loop (RLI l) l.length ?_ ⟨Nat.le_refl _,rfl⟩ ?_
 ·refine Le.freeze (fun _=>false) ⟨rfl,by simp,fun j b hb=>?_⟩ (by simp [SubZ,find,FzA,FzC])
  match j,hb with
  | 0,hb=>exact⟨rfl,b,hb,rfl,rfl,FzR.same _ _ _⟩
  | 1,hb =>
   simp [aX,cK] at hb
   subst hb
   exact⟨rfl,_,rfl,rfl,rfl,⟨.inl rfl,.inl rfl,.inl rfl,FzC.nil,.inl rfl,FzC.nil,trivial⟩,trivial⟩
  | j+2,hb=>simp at hb
 intro n st hI
 obtain⟨hn,rfl⟩:=hI
 rcases n with _|n
 ·have hz:((0:Nat):Int)-1 = -1:=rfl
  rw [hz]
  have hf:decide ((0:Int)≤-1)=false:=rfl
  repeat (first|(apply fw;(with_reducible constructor)<;>rfl)|(apply WpA.cd;constructor)|((first|with_reducible refine WpA.go _ rfl fun Y y=>?_|apply RunTo.id);simp only [zb,seval,w44,hf];refine fz y ?_;clear y Y))
  repeat (first|(apply fw;(with_reducible constructor)<;>rfl)|(apply WpA.cd;constructor)|((first|with_reducible refine WpA.go _ rfl fun Y y=>?_|apply RunTo.id);simp only [zb,seval,w44,hf];refine fz y ?_;clear y Y))
  refine ye (by simp only [zb,seval,w44];rfl) (by simp only [zv];rfl) ?_
  rfl
 have hge:((n+1:Nat):Int)-1=(n:Int):=by omega
 have hw2:IntKind.i64.wrap ((n:Int)-1)=(n:Int)-1:=dU (by omega) (by omega)
 have hlt:n<l.length:=by omega
 have hget:=xU hlt
 rw [D.cc_eq] at hget
 have hg0:decide ((n:Int) ≥ 0)=true:=by simp
 have hg1:decide (0≤(n:Int))=true:=by simp
 rw [hge]
 repeat (first|(apply fw;(with_reducible constructor)<;>rfl)|(apply WpA.cd;constructor)|((first|with_reducible refine WpA.go _ rfl fun Y y=>?_|apply RunTo.id);simp only [zb,seval,w44,hg0,hg1];refine fz y ?_;clear y Y))
 (refine WpA.draw1 7 [5] ([some ⟨28,6,[[.v (.int .i64 0),.v (.int .i32 0),.v (.bool false),.v (.slice none 0 0),.v (.string ⟨#[]⟩),.v (.slice none 0 0)]]⟩,some ⟨28,6,[[.v (.int .i64 (aX (l.drop (n+1))).k),.v (.int .i32 (aX (l.drop (n+1))).c),.v (.bool (aX (l.drop (n+1))).neg),.sl 1 ((aX (l.drop (n+1))).mag.map fun n=>[.v (.int .u32 n)]),.v (.string (aX (l.drop (n+1))).t),.sl 6 ((aX (l.drop (n+1))).l.map D.cc)]]⟩]) [_,?_] _ _ _ _ rfl rfl rfl (by kernel_rfl) (by kernel_rfl) (by kernel_rfl) (by kernel_rfl) rfl rfl rfl rfl (by decide) fun K8 hK8=>?_);rotate_left 1;simp only [zz] at hK8 ⊢;(refine Draw1.go fun K7 k=>?_);simp only [zb,seval,w44,hget];(refine qz (k _ _ (by rfl) ?_));clear k K7;(simp only [zz,Nat.reduceAdd,Nat.reduceSub]);(try ((refine nz (hK8 _ ?_));clear hK8 K8;(refine WpL.go _ rfl fun Y y=>?_);repeat (first|(apply fw;(with_reducible constructor)<;>rfl)|(apply WpA.cd;constructor)|((first|with_reducible refine WpA.go _ rfl fun Y y=>?_|apply RunTo.id);simp only [zb,seval,w44,hget];refine fz y ?_;clear y Y))))
 refine Draw1.eff 0 rfl rfl rfl (OpS.eff [(16,_),(17,_)] rfl (by rfl) ⟨rfl,rfl,trivial⟩ (by simp only [zb,seval,w44,hw2];rfl) (by first|(simp;done)|omega|(simp;omega))) ?_;(try simp only [bS]);(try ((refine Draw1.go fun K7 k=>?_);simp only [zb,seval,w44,hw2];(refine qz (k _ _ (by rfl) ?_));clear k K7;(simp only [zz,Nat.reduceAdd,Nat.reduceSub]);(try ((refine nz (hK8 _ ?_));clear hK8 K8;(refine WpL.go _ rfl fun Y y=>?_);repeat (first|(apply fw;(with_reducible constructor)<;>rfl)|(apply WpA.cd;constructor)|((first|with_reducible refine WpA.go _ rfl fun Y y=>?_|apply RunTo.id);simp only [zb,seval,w44,hw2];refine fz y ?_;clear y Y))))))
 refine⟨n,_,by omega,?_,by omega,rfl⟩
 have hdl:aX (l.drop n)=.mk 7 0 false [] ⟨#[]⟩ [l[n],aX (l.drop (n+1))]:=by rw [List.drop_eq_getElem_cons hlt];rfl
 refine Le.trans (Le.freeze (S':=[some ⟨28,6,[[.v (.int .i64 0),.v (.int .i32 0),.v (.bool false),.v (.slice none 0 0),.v (.string ⟨#[]⟩),.v (.slice none 0 0)]]⟩,some ⟨28,6,[D.co (aX (l.drop n))]⟩,none]) (e':=[(4,.one (.v (.int .i64 ((n:Int)-1)))),(0,.one (.sl 6 (l.map D.cc))),(3,.one (.ptr 1 1 0 0)),(2,.one (.ptr 0 1 0 0))]) (fun i=>i == 2) ⟨rfl,fun j ob hj ho=>?_,fun j b hb=>?_⟩ (by simp [SubZ,find,FzA,FzC])) (Le.drop 2 (Nat.zero_le _) rfl (by simp [Sub,find]) rfl (by simp [ObBd,C.bd]))
 ·obtain rfl:j=2:=by simpa using hj
  simp at ho
  subst ho
  simp [C.shut]
 ·match j,hb with
  | 0,hb=>exact⟨rfl,b,hb,rfl,rfl,FzR.same _ _ _⟩
  | 1,hb =>
   simp at hb
   subst hb
   refine⟨rfl,_,rfl,rfl,rfl,?_,trivial⟩
   rw [hdl]
   refine⟨.inl rfl,.inl rfl,.inl rfl,FzC.nil,.inl rfl,?_,trivial⟩
   simp only [D.l,List.map_cons,List.map_nil]
   rw [D.cc_eq l[n],D.cc_eq (aX (l.drop (n+1)))]
   exact FzC.ms rfl rfl rfl
  | 2,hb=>simp at hb
  | j+3,hb=>simp at hb
theorem dcc:(∀(d:D) (r:List C),List.take 6 (d.cc++r)=d.cc)∧(∀(d:D) (r:List C),List.drop 6 (d.cc++r)=r)∧(∀(d:D) (r:List C),List.take 12 (d.cc++r)=d.cc++List.take 6 r)∧(∀(d:D) (r:List C),List.drop 12 (d.cc++r)=List.drop 6 r)∧(∀(d:D) (r:List C),List.take 18 (d.cc++r)=d.cc++List.take 12 r)∧(∀(d:D) (r:List C),List.drop 18 (d.cc++r)=List.drop 12 r)∧(∀(d:D) (r:List C),List.take 24 (d.cc++r)=d.cc++List.take 18 r)∧(∀(d:D) (r:List C),List.drop 24 (d.cc++r)=List.drop 18 r)∧(∀(d:D) (r:List C),(d.cc++r).length=r.length+6):=by
 have h:∀d:D,d.cc.length=6:=D.cc_len
 refine⟨?_,?_,?_,?_,?_,?_,?_,?_,fun d r=>by rw [List.length_append,h];omega⟩<;>intro d r<;>first|rw [List.take_append,h,List.take_of_length_le (by rw [h];omega)]|rw [List.drop_append,h,List.drop_of_length_le (by rw [h];omega)]
 all_goals simp
theorem rD (s:ByteArray):Pure Tryz.prog 21 [.one (.v (.string s))] (.agg (dD s).cc):=by
 rw [D.cc_eq]
 refine fi Tryz.func21 Tryz.ntmps21 Tryz.results21 ?_
 repeat (first|(apply fw;(with_reducible constructor)<;>rfl)|(apply WpA.cd;constructor)|((first|with_reducible refine WpA.go _ rfl fun Y y=>?_|apply RunTo.id);simp only [zb,seval,w21];refine fz y ?_;clear y Y))
 refine⟨by simp,_,_,_,_,(by simp only [zb,seval,w21];rfl),(by simp),(by simp only [zv];rfl),(by simp [ksh]),_,(by exact ae),rfl⟩
theorem iX (l:List D) (hlen:l.length≤1000000):Pure Tryz.prog 23 [.one (.sl 6 (l.map D.cc))] (.agg (aX l).cc):=by
 have h:=IL l hlen
 refine fi Tryz.func23 Tryz.ntmps23 Tryz.results23 ?_
 repeat (first|(apply fw;(with_reducible constructor)<;>rfl)|(apply WpA.cd;constructor)|((first|with_reducible refine WpA.go _ rfl fun Y y=>?_|apply RunTo.id);simp only [zb,seval,w23,kcc,dcc];refine fz y ?_;clear y Y))
 refine cz (h) ?_
 (refine WpL.go _ rfl fun Y y=>?_);repeat (first|(apply fw;(with_reducible constructor)<;>rfl)|(apply WpA.cd;constructor)|((first|with_reducible refine WpA.go _ rfl fun Y y=>?_|apply RunTo.id);simp only [zb,seval,w23,kcc,dcc];refine fz y ?_;clear y Y))
 refine ye (by simp only [zb,seval,w23,kcc,dcc];rfl) (by simp only [zv,kcc,dcc];rfl) ?_
 rfl
def sa:ByteArray:=⟨#[97]⟩
def one1:D:=jO 1
def dA1:D:=aX [dD lH,aX [aX [dD sa,one1]],dD sa]
def dA2:D:=aX [aX [dD dG,aX [dD sa],dD sa],one1]
def dA3:D:=aX [dD gY]
def kA:K:=iA [.mk 6 e0 e0 [sa] cK [bH sa],dK one1]
theorem IM:mP sa=false:=TD (by simp only [wK,List.mem_cons,List.not_mem_nil,or_false];decide)
theorem SA (ev:Ev) (h:ev.e (dD sa)=(bH sa,0)):uQ ev [dD sa]=(bH sa,0):=by
 rw [KW ev (by simp) (fun d hd=>by simp at hd;subst hd;exact⟨JJ (by decide) _,JJ (by decide) _⟩),NN,h]
theorem pD (s:ByteArray) (h:s.size≤1000):(dD s).Ok:=BZ (by omega)
theorem SB:dA1.Ok:=iM ⟨pD _ (by decide),iM ⟨iM ⟨pD _ (by decide),CA (by decide),trivial⟩,trivial⟩,pD _ (by decide),trivial⟩
theorem SC:dA2.Ok:=iM ⟨iM ⟨pD _ (by decide),iM ⟨pD _ (by decide),trivial⟩,pD _ (by decide),trivial⟩,CA (by decide),trivial⟩
theorem SD:dA3.Ok:=iM ⟨pD _ (by decide),trivial⟩
theorem JN:pW sa 1=true:=by decide
theorem QJ:pW lH 1=true:=by decide
theorem IOq:pW dG 1=true:=by decide
theorem OO:pW gY 1=true:=by decide
theorem QK:xY dA1=true:=yD.2 ⟨fY.2 ⟨(kJ _).2 QJ,fY.2 ⟨fY.2 ⟨(kJ _).2 JN,yC (.inl rfl),trivial⟩,trivial⟩,(kJ _).2 JN,trivial⟩,by
 simp [dA1,mZ,GS,uR,one1,yE]⟩
theorem QL:xY dA2=true:=yD.2 ⟨fY.2 ⟨fY.2 ⟨(kJ _).2 IOq,fY.2 ⟨(kJ _).2 JN,trivial⟩,(kJ _).2 JN,trivial⟩,yC (.inl rfl),trivial⟩,by
 simp [dA2,mZ,GS,uR,one1,yE]⟩
theorem QM:xY dA3=true:=yD.2 ⟨fY.2 ⟨(kJ _).2 OO,trivial⟩,by
 simp [dA3,mZ,GS,uR]⟩
theorem FJ {n:Nat} (h:2≤n):∃m,n=m+2:=⟨n-2,by omega⟩
theorem RI (n:Nat):(evs (n+1)).b [dD sa]=(bH sa,0):=by
 rw [evs];dsimp only;exact SA ⟨eI (evs n),(evs n).b,(evs n).q⟩ (KU (evs n) IM)
theorem OP (n:Nat):(evs (n+1)).e one1=(dK one1,0):=by rw [evs];dsimp only;exact GW _ (.inl rfl)
theorem TK (n:Nat):cQ ((eH [sa] e0 (bH sa)).1::(aM (evs (n+2)).e [one1]).1)=(kA,0):=by
 rw [sH [sa] (by decide),vU (by simp [aM])]
 simp only [aM,List.map_cons,List.map_nil,OP]
 rfl
theorem QN:qK dA1=(kA,0):=by
 unfold qK
 have h:lI dA1=(kA,0):=by
  have h1:iO (dD lH) fB=false:=by rw [tM];exact aA (by decide)
  have h2:iO (dD lH) dP=false:=by rw [tM];exact aA (by decide)
  rw [uT (by unfold dA1;rw [kK,h1];rfl) (by unfold dA1;rw [kK,h2];rfl)]
  obtain⟨n,hn⟩:=FJ (n:=dA1.msr) (by simp [dA1,kH,cH,tL];omega)
  rw [hn,dA1,sG _ (by simp [wK]),KV]
  show ((dX _ _ _ _).1,max (max (max _ _) _) _)=_
  rw [KX IM,RI]
  unfold dX
  dsimp only
  rw [TK,sH [sa] (by decide),JK]
  simp only [aM,List.map_cons,List.map_nil,OP]
  rfl
 rw [QK,if_pos rfl,h];rfl
theorem QO:qK dA2=(kA,0):=by
 unfold qK
 have h:lI dA2=(kA,0):=by
  rw [uT (by unfold dA2;rw [kK,NL (by decide)];rfl) (by unfold dA2;rw [kK,NL (by decide)];rfl)]
  obtain⟨n,hn⟩:=FJ (n:=dA2.msr) (by simp [dA2,kH,cH,tL];omega)
  have hl:(evs (n+2)).e (aX [dD dG,aX [dD sa],dD sa])=(.mk 6 e0 e0 [sa] cK [bH sa],0):=by
   rw [evs]
   dsimp only
   rw [sG _ (by simp [wK]),CB]
   unfold dH
   rw [CC IM,RI]
   dsimp only
   rw [sH [sa] (by decide)]
   rfl
  rw [hn,dA2,GV _ (.inl (by decide))]
  simp only [aM,List.map_cons,List.map_nil,hl,OP]
  rw [vU (by simp)]
  rfl
 rw [QL,if_pos rfl,h];rfl
theorem QP:qK dA3=(kz,8):=by
 unfold qK
 have h:lI dA3=(kz,2):=by
  have h1:iO (dD gY) fB=false:=by rw [tM];exact aA (by decide)
  have h2:iO (dD gY) dP=false:=by rw [tM];exact aA (by decide)
  rw [uT (by unfold dA3;rw [kK,h1];rfl) (by unfold dA3;rw [kK,h2];rfl),dA3,sG _ (by simp [wK]),GX]
 rw [QM,if_pos rfl,h];rfl
theorem TL:kA.Ok:=by
 simp [kA,iA,one1,jO,dK,bH,K.Ok,K.Oks,D.Ok,Oks,e0,sa,ByteArray.size,cK]
theorem QQ:one1.cc=[.v (.int .i64 1),.v (.int .i32 0),.v (.bool false),.sl 1 [],.v (.string ⟨#[]⟩),.sl 6 []]:=rcc.2.2.2.2.2.2.2.2.2.2.2.1 1
theorem sK:Pure Tryz.prog 11 [] (.one (.v (.bool true))):=by
 have s1:=rD lH
 have s2:=rD sa
 have s3:=rD dG
 have s4:=rD gY
 have l1:=iX [dD sa,one1] (by decide)
 have l2:=iX [aX [dD sa,one1]] (by simp)
 have l3:=iX [dD lH,aX [aX [dD sa,one1]],dD sa] (by simp)
 have l4:=iX [dD sa] (by simp)
 have l5:=iX [dD dG,aX [dD sa],dD sa] (by simp)
 have l6:=iX [aX [dD dG,aX [dD sa],dD sa],one1] (by simp)
 have l7:=iX [dD gY] (by simp)
 have o1:=CU dA1 SB (by simp [dA1,nA,iC,uS,one1,yF]) (by simp [dA1,kH,cH,tL,one1,ES])
 have o2:=CU dA2 SC (by simp [dA2,nA,iC,uS,one1,yF]) (by simp [dA2,kH,cH,tL,one1,ES])
 have o3:=CU dA3 SD (by simp [dA3,nA,iC,uS]) (by simp [dA3,kH,cH,tL])
 have hs:=HG kA kA TL
 have hk1:=tU lH
 have hk2:=tU ⟨#[99,97,114]⟩
 rw [show mP lH=true from TC (by simp [wK])] at hk1
 rw [show mP ⟨#[99,97,114]⟩=false from TD (by simp only [wK,List.mem_cons,List.not_mem_nil,or_false];decide)] at hk2
 rw [bK rfl] at hs
 rw [QN] at o1
 rw [QO] at o2
 rw [QP] at o3
 simp only [onA,dA1,dA2,dA3] at o1 o2 o3
 simp only [List.map_cons,List.map_nil] at l1 l2 l3 l4 l5 l6 l7
 refine fi Tryz.func11 Tryz.ntmps11 Tryz.results11 ?_
 repeat (first|(apply fw;(with_reducible constructor)<;>rfl)|(apply WpA.cd;constructor)|((first|with_reducible refine WpA.go _ rfl fun Y y=>?_|apply RunTo.id);simp only [zb,seval,w11,kcc,dcc];refine fz y ?_;clear y Y))
 refine WpA.le (st':=⟨[(1,.one (.ptr 0 1 0 0)),(0,.one (.v (.bool false)))],[some ⟨28,6,[one1.cc]⟩]⟩) (Le.freeze (fun _=>false) (Frz.ofL ?_) ?_) ?_
 ·rw [QQ]
  simp only [FrzL,FzR,FzCs]
  repeat' first|exact FzC.same _ _ _|exact FzC.nil|exact rfl|exact trivial|refine And.intro ?_ ?_|(intro hz;exact absurd hz (by decide))
 ·simp only [SubZ];exact⟨⟨_,rfl,FzA.same _ _ _⟩,⟨_,rfl,FzA.same _ _ _⟩,trivial⟩
 (refine WpA.draw1c 16 [14,15] [_,?_,?_] _ _ _ _ rfl rfl rfl (by kernel_rfl) (by kernel_rfl) (by kernel_rfl) (by kernel_rfl) rfl rfl rfl rfl (by decide) fun K8 hK8=>?_);rotate_left 2;simp only [zz] at hK8 ⊢;(refine Draw1.go fun K7 k=>?_);simp only [zb,seval,w11,kcc,dcc];(refine qz (k _ _ (by rfl) ?_));clear k K7;(simp only [zz,Nat.reduceAdd,Nat.reduceSub]);(try ((refine nz (hK8 _ ?_));clear hK8 K8;(refine WpL.go _ rfl fun Y y=>?_);repeat (first|(apply fw;(with_reducible constructor)<;>rfl)|(apply WpA.cd;constructor)|((first|with_reducible refine WpA.go _ rfl fun Y y=>?_|apply RunTo.id);simp only [zb,seval,w11,kcc,dcc];refine fz y ?_;clear y Y))))
 refine Draw1.step (by rfl) (fun s9 _=>oz (s1)) ?_
 (refine Draw1.go fun K7 k=>?_);simp only [zb,seval,w11,kcc,dcc];(refine qz (k _ _ (by rfl) ?_));clear k K7;(simp only [zz,Nat.reduceAdd,Nat.reduceSub]);(try ((refine nz (hK8 _ ?_));clear hK8 K8;(refine WpL.go _ rfl fun Y y=>?_);repeat (first|(apply fw;(with_reducible constructor)<;>rfl)|(apply WpA.cd;constructor)|((first|with_reducible refine WpA.go _ rfl fun Y y=>?_|apply RunTo.id);simp only [zb,seval,w11,kcc,dcc];refine fz y ?_;clear y Y))))
 refine Draw1.step (by rfl) (fun s9 _=>oz (s2)) ?_
 (refine Draw1.go fun K7 k=>?_);simp only [zb,seval,w11,kcc,dcc];(refine qz (k _ _ (by rfl) ?_));clear k K7;(simp only [zz,Nat.reduceAdd,Nat.reduceSub]);(try ((refine nz (hK8 _ ?_));clear hK8 K8;(refine WpL.go _ rfl fun Y y=>?_);repeat (first|(apply fw;(with_reducible constructor)<;>rfl)|(apply WpA.cd;constructor)|((first|with_reducible refine WpA.go _ rfl fun Y y=>?_|apply RunTo.id);simp only [zb,seval,w11,kcc,dcc];refine fz y ?_;clear y Y))))
 refine Draw1.step (by rfl) (fun s9 _=>OpS.frozen (n:=2) (wd:=6) (ty:=28) (rows:=[(dD sa).cc,one1.cc]) (OpS.eff [(11,_),(12,_)] rfl (by rfl) ⟨rfl,rfl,trivial⟩ (by simp only [zb,seval,w11,kcc,dcc];rfl) (by simp)) rfl (by simp [ksh])) ?_;simp only [bS]
 refine Draw1.step (by rfl) (fun s9 _=>oz (l1)) ?_
 (refine Draw1.go fun K7 k=>?_);simp only [zb,seval,w11,kcc,dcc];(refine qz (k _ _ (by rfl) ?_));clear k K7;(simp only [zz,Nat.reduceAdd,Nat.reduceSub]);(try ((refine nz (hK8 _ ?_));clear hK8 K8;(refine WpL.go _ rfl fun Y y=>?_);repeat (first|(apply fw;(with_reducible constructor)<;>rfl)|(apply WpA.cd;constructor)|((first|with_reducible refine WpA.go _ rfl fun Y y=>?_|apply RunTo.id);simp only [zb,seval,w11,kcc,dcc];refine fz y ?_;clear y Y))))
 refine Draw1.step (by rfl) (fun s9 _=>OpS.frozen (n:=1) (wd:=6) (ty:=28) (rows:=[(aX [dD sa,one1]).cc]) (OpS.eff [(14,_)] rfl (by rfl) ⟨rfl,trivial⟩ (by simp only [zb,seval,w11,kcc,dcc];rfl) (by simp)) rfl (by simp [ksh])) ?_;simp only [bS]
 refine Draw1.step (by rfl) (fun s9 _=>oz (l2)) ?_
 (refine Draw1.go fun K7 k=>?_);simp only [zb,seval,w11,kcc,dcc];(refine qz (k _ _ (by rfl) ?_));clear k K7;(simp only [zz,Nat.reduceAdd,Nat.reduceSub]);(try ((refine nz (hK8 _ ?_));clear hK8 K8;(refine WpL.go _ rfl fun Y y=>?_);repeat (first|(apply fw;(with_reducible constructor)<;>rfl)|(apply WpA.cd;constructor)|((first|with_reducible refine WpA.go _ rfl fun Y y=>?_|apply RunTo.id);simp only [zb,seval,w11,kcc,dcc];refine fz y ?_;clear y Y))))
 refine Draw1.step (by rfl) (fun s9 _=>oz (s2)) ?_
 (refine Draw1.go fun K7 k=>?_);simp only [zb,seval,w11,kcc,dcc];(refine qz (k _ _ (by rfl) ?_));clear k K7;(simp only [zz,Nat.reduceAdd,Nat.reduceSub]);(try ((refine nz (hK8 _ ?_));clear hK8 K8;(refine WpL.go _ rfl fun Y y=>?_);repeat (first|(apply fw;(with_reducible constructor)<;>rfl)|(apply WpA.cd;constructor)|((first|with_reducible refine WpA.go _ rfl fun Y y=>?_|apply RunTo.id);simp only [zb,seval,w11,kcc,dcc];refine fz y ?_;clear y Y))))
 refine Draw1.step (by rfl) (fun s9 _=>OpS.frozen (n:=3) (wd:=6) (ty:=28) (rows:=[(dD lH).cc,(aX [aX [dD sa,one1]]).cc,(dD sa).cc]) (OpS.eff [(10,_),(16,_),(17,_)] rfl (by rfl) ⟨rfl,rfl,rfl,trivial⟩ (by simp only [zb,seval,w11,kcc,dcc];rfl) (by simp)) rfl (by simp [ksh])) ?_;simp only [bS]
 refine Draw1.step (by rfl) (fun s9 _=>oz (l3)) ?_
 (refine Draw1.go fun K7 k=>?_);simp only [zb,seval,w11,kcc,dcc];(refine qz (k _ _ (by rfl) ?_));clear k K7;(simp only [zz,Nat.reduceAdd,Nat.reduceSub]);(try ((refine nz (hK8 _ ?_));clear hK8 K8;(refine WpL.go _ rfl fun Y y=>?_);repeat (first|(apply fw;(with_reducible constructor)<;>rfl)|(apply WpA.cd;constructor)|((first|with_reducible refine WpA.go _ rfl fun Y y=>?_|apply RunTo.id);simp only [zb,seval,w11,kcc,dcc];refine fz y ?_;clear y Y))))
 refine Draw1.step (by rfl) (fun s9 _=>oz (o1)) ?_
 (refine Draw1.go fun K7 k=>?_);simp only [zb,seval,w11,kcc,dcc];(refine qz (k _ _ (by rfl) ?_));clear k K7;(simp only [zz,Nat.reduceAdd,Nat.reduceSub]);(try ((refine nz (hK8 _ ?_));clear hK8 K8;(refine WpL.go _ rfl fun Y y=>?_);repeat (first|(apply fw;(with_reducible constructor)<;>rfl)|(apply WpA.cd;constructor)|((first|with_reducible refine WpA.go _ rfl fun Y y=>?_|apply RunTo.id);simp only [zb,seval,w11,kcc,dcc];refine fz y ?_;clear y Y))))
 refine Draw1.eff 0 rfl rfl rfl (OpS.eff [] rfl (by rfl) trivial (by simp only [zb,seval,w11,kcc,dcc];rfl) (by first|(simp;done)|omega|(simp;omega))) ?_;(try simp only [bS]);(try ((refine Draw1.go fun K7 k=>?_);simp only [zb,seval,w11,kcc,dcc];(refine qz (k _ _ (by rfl) ?_));clear k K7;(simp only [zz,Nat.reduceAdd,Nat.reduceSub]);(try ((refine nz (hK8 _ ?_));clear hK8 K8;(refine WpL.go _ rfl fun Y y=>?_);repeat (first|(apply fw;(with_reducible constructor)<;>rfl)|(apply WpA.cd;constructor)|((first|with_reducible refine WpA.go _ rfl fun Y y=>?_|apply RunTo.id);simp only [zb,seval,w11,kcc,dcc];refine fz y ?_;clear y Y))))))
 refine Draw1.eff 1 rfl rfl rfl (OpS.eff [(2,_),(21,_)] rfl (by rfl) ⟨rfl,rfl,trivial⟩ (by simp only [zb,seval,w11,kcc,dcc];rfl) (by first|(simp;done)|omega|(simp;omega))) ?_;(try simp only [bS]);(try ((refine Draw1.go fun K7 k=>?_);simp only [zb,seval,w11,kcc,dcc];(refine qz (k _ _ (by rfl) ?_));clear k K7;(simp only [zz,Nat.reduceAdd,Nat.reduceSub]);(try ((refine nz (hK8 _ ?_));clear hK8 K8;(refine WpL.go _ rfl fun Y y=>?_);repeat (first|(apply fw;(with_reducible constructor)<;>rfl)|(apply WpA.cd;constructor)|((first|with_reducible refine WpA.go _ rfl fun Y y=>?_|apply RunTo.id);simp only [zb,seval,w11,kcc,dcc];refine fz y ?_;clear y Y))))))
 (refine WpA.draw1c 16 [14,15] [_,?_,?_] _ _ _ _ rfl rfl rfl (by kernel_rfl) (by kernel_rfl) (by kernel_rfl) (by kernel_rfl) rfl rfl rfl rfl (by decide) fun K8 hK8=>?_);rotate_left 2;simp only [zz] at hK8 ⊢;(refine Draw1.go fun K7 k=>?_);simp only [zb,seval,w11,kcc,dcc];(refine qz (k _ _ (by rfl) ?_));clear k K7;(simp only [zz,Nat.reduceAdd,Nat.reduceSub]);(try ((refine nz (hK8 _ ?_));clear hK8 K8;(refine WpL.go _ rfl fun Y y=>?_);repeat (first|(apply fw;(with_reducible constructor)<;>rfl)|(apply WpA.cd;constructor)|((first|with_reducible refine WpA.go _ rfl fun Y y=>?_|apply RunTo.id);simp only [zb,seval,w11,kcc,dcc];refine fz y ?_;clear y Y))))
 refine Draw1.step (by rfl) (fun s9 _=>oz (s3)) ?_
 (refine Draw1.go fun K7 k=>?_);simp only [zb,seval,w11,kcc,dcc];(refine qz (k _ _ (by rfl) ?_));clear k K7;(simp only [zz,Nat.reduceAdd,Nat.reduceSub]);(try ((refine nz (hK8 _ ?_));clear hK8 K8;(refine WpL.go _ rfl fun Y y=>?_);repeat (first|(apply fw;(with_reducible constructor)<;>rfl)|(apply WpA.cd;constructor)|((first|with_reducible refine WpA.go _ rfl fun Y y=>?_|apply RunTo.id);simp only [zb,seval,w11,kcc,dcc];refine fz y ?_;clear y Y))))
 refine Draw1.step (by rfl) (fun s9 _=>oz (s2)) ?_
 (refine Draw1.go fun K7 k=>?_);simp only [zb,seval,w11,kcc,dcc];(refine qz (k _ _ (by rfl) ?_));clear k K7;(simp only [zz,Nat.reduceAdd,Nat.reduceSub]);(try ((refine nz (hK8 _ ?_));clear hK8 K8;(refine WpL.go _ rfl fun Y y=>?_);repeat (first|(apply fw;(with_reducible constructor)<;>rfl)|(apply WpA.cd;constructor)|((first|with_reducible refine WpA.go _ rfl fun Y y=>?_|apply RunTo.id);simp only [zb,seval,w11,kcc,dcc];refine fz y ?_;clear y Y))))
 refine Draw1.step (by rfl) (fun s9 _=>OpS.frozen (n:=1) (wd:=6) (ty:=28) (rows:=[(dD sa).cc]) (OpS.eff [(25,_)] rfl (by rfl) ⟨rfl,trivial⟩ (by simp only [zb,seval,w11,kcc,dcc];rfl) (by simp)) rfl (by simp [ksh])) ?_;simp only [bS]
 refine Draw1.step (by rfl) (fun s9 _=>oz (l4)) ?_
 (refine Draw1.go fun K7 k=>?_);simp only [zb,seval,w11,kcc,dcc];(refine qz (k _ _ (by rfl) ?_));clear k K7;(simp only [zz,Nat.reduceAdd,Nat.reduceSub]);(try ((refine nz (hK8 _ ?_));clear hK8 K8;(refine WpL.go _ rfl fun Y y=>?_);repeat (first|(apply fw;(with_reducible constructor)<;>rfl)|(apply WpA.cd;constructor)|((first|with_reducible refine WpA.go _ rfl fun Y y=>?_|apply RunTo.id);simp only [zb,seval,w11,kcc,dcc];refine fz y ?_;clear y Y))))
 refine Draw1.step (by rfl) (fun s9 _=>oz (s2)) ?_
 (refine Draw1.go fun K7 k=>?_);simp only [zb,seval,w11,kcc,dcc];(refine qz (k _ _ (by rfl) ?_));clear k K7;(simp only [zz,Nat.reduceAdd,Nat.reduceSub]);(try ((refine nz (hK8 _ ?_));clear hK8 K8;(refine WpL.go _ rfl fun Y y=>?_);repeat (first|(apply fw;(with_reducible constructor)<;>rfl)|(apply WpA.cd;constructor)|((first|with_reducible refine WpA.go _ rfl fun Y y=>?_|apply RunTo.id);simp only [zb,seval,w11,kcc,dcc];refine fz y ?_;clear y Y))))
 refine Draw1.step (by rfl) (fun s9 _=>OpS.frozen (n:=3) (wd:=6) (ty:=28) (rows:=[(dD dG).cc,(aX [dD sa]).cc,(dD sa).cc]) (OpS.eff [(24,_),(27,_),(28,_)] rfl (by rfl) ⟨rfl,rfl,rfl,trivial⟩ (by simp only [zb,seval,w11,kcc,dcc];rfl) (by simp)) rfl (by simp [ksh])) ?_;simp only [bS]
 refine Draw1.step (by rfl) (fun s9 _=>oz (l5)) ?_
 (refine Draw1.go fun K7 k=>?_);simp only [zb,seval,w11,kcc,dcc];(refine qz (k _ _ (by rfl) ?_));clear k K7;(simp only [zz,Nat.reduceAdd,Nat.reduceSub]);(try ((refine nz (hK8 _ ?_));clear hK8 K8;(refine WpL.go _ rfl fun Y y=>?_);repeat (first|(apply fw;(with_reducible constructor)<;>rfl)|(apply WpA.cd;constructor)|((first|with_reducible refine WpA.go _ rfl fun Y y=>?_|apply RunTo.id);simp only [zb,seval,w11,kcc,dcc];refine fz y ?_;clear y Y))))
 refine Draw1.step (by rfl) (fun s9 _=>OpS.frozen (n:=2) (wd:=6) (ty:=28) (rows:=[(aX [dD dG,aX [dD sa],dD sa]).cc,one1.cc]) (OpS.eff [(30,_),(31,_)] rfl (by rfl) ⟨rfl,rfl,trivial⟩ (by simp only [zb,seval,w11,kcc,dcc];rfl) (by simp)) rfl (by simp [ksh])) ?_;simp only [bS]
 refine Draw1.step (by rfl) (fun s9 _=>oz (l6)) ?_
 (refine Draw1.go fun K7 k=>?_);simp only [zb,seval,w11,kcc,dcc];(refine qz (k _ _ (by rfl) ?_));clear k K7;(simp only [zz,Nat.reduceAdd,Nat.reduceSub]);(try ((refine nz (hK8 _ ?_));clear hK8 K8;(refine WpL.go _ rfl fun Y y=>?_);repeat (first|(apply fw;(with_reducible constructor)<;>rfl)|(apply WpA.cd;constructor)|((first|with_reducible refine WpA.go _ rfl fun Y y=>?_|apply RunTo.id);simp only [zb,seval,w11,kcc,dcc];refine fz y ?_;clear y Y))))
 refine Draw1.step (by rfl) (fun s9 _=>oz (o2)) ?_
 (refine Draw1.go fun K7 k=>?_);simp only [zb,seval,w11,kcc,dcc];(refine qz (k _ _ (by rfl) ?_));clear k K7;(simp only [zz,Nat.reduceAdd,Nat.reduceSub]);(try ((refine nz (hK8 _ ?_));clear hK8 K8;(refine WpL.go _ rfl fun Y y=>?_);repeat (first|(apply fw;(with_reducible constructor)<;>rfl)|(apply WpA.cd;constructor)|((first|with_reducible refine WpA.go _ rfl fun Y y=>?_|apply RunTo.id);simp only [zb,seval,w11,kcc,dcc];refine fz y ?_;clear y Y))))
 refine Draw1.eff 0 rfl rfl rfl (OpS.eff [] rfl (by rfl) trivial (by simp only [zb,seval,w11,kcc,dcc];rfl) (by first|(simp;done)|omega|(simp;omega))) ?_;(try simp only [bS]);(try ((refine Draw1.go fun K7 k=>?_);simp only [zb,seval,w11,kcc,dcc];(refine qz (k _ _ (by rfl) ?_));clear k K7;(simp only [zz,Nat.reduceAdd,Nat.reduceSub]);(try ((refine nz (hK8 _ ?_));clear hK8 K8;(refine WpL.go _ rfl fun Y y=>?_);repeat (first|(apply fw;(with_reducible constructor)<;>rfl)|(apply WpA.cd;constructor)|((first|with_reducible refine WpA.go _ rfl fun Y y=>?_|apply RunTo.id);simp only [zb,seval,w11,kcc,dcc];refine fz y ?_;clear y Y))))))
 refine Draw1.eff 1 rfl rfl rfl (OpS.eff [(4,_),(35,_)] rfl (by rfl) ⟨rfl,rfl,trivial⟩ (by simp only [zb,seval,w11,kcc,dcc];rfl) (by first|(simp;done)|omega|(simp;omega))) ?_;(try simp only [bS]);(try ((refine Draw1.go fun K7 k=>?_);simp only [zb,seval,w11,kcc,dcc];(refine qz (k _ _ (by rfl) ?_));clear k K7;(simp only [zz,Nat.reduceAdd,Nat.reduceSub]);(try ((refine nz (hK8 _ ?_));clear hK8 K8;(refine WpL.go _ rfl fun Y y=>?_);repeat (first|(apply fw;(with_reducible constructor)<;>rfl)|(apply WpA.cd;constructor)|((first|with_reducible refine WpA.go _ rfl fun Y y=>?_|apply RunTo.id);simp only [zb,seval,w11,kcc,dcc];refine fz y ?_;clear y Y))))))
 refine cz (s4) ?_
 (refine WpL.go _ rfl fun Y y=>?_);repeat (first|(apply fw;(with_reducible constructor)<;>rfl)|(apply WpA.cd;constructor)|((first|with_reducible refine WpA.go _ rfl fun Y y=>?_|apply RunTo.id);simp only [zb,seval,w11,kcc,dcc];refine fz y ?_;clear y Y))
 (refine WpL.frz 39 (3) (by rfl) (by first|rfl|(simp only [zz,kcc];rfl)|(simp only [zz,kcc])) (by first|rfl|(simp [kcc];done)|(simp [kcc];omega)) (by simp [ksh]) ?_);simp only [zz,kcc]
 refine cz (l7) ?_
 (refine WpL.go _ rfl fun Y y=>?_);repeat (first|(apply fw;(with_reducible constructor)<;>rfl)|(apply WpA.cd;constructor)|((first|with_reducible refine WpA.go _ rfl fun Y y=>?_|apply RunTo.id);simp only [zb,seval,w11,kcc,dcc];refine fz y ?_;clear y Y))
 refine cz (o3) ?_
 (refine WpL.go _ rfl fun Y y=>?_);repeat (first|(apply fw;(with_reducible constructor)<;>rfl)|(apply WpA.cd;constructor)|((first|with_reducible refine WpA.go _ rfl fun Y y=>?_|apply RunTo.id);simp only [zb,seval,w11,kcc,dcc];refine fz y ?_;clear y Y))
 refine cz (hs) ?_
 (refine WpL.go _ rfl fun Y y=>?_);repeat (first|(apply fw;(with_reducible constructor)<;>rfl)|(apply WpA.cd;constructor)|((first|with_reducible refine WpA.go _ rfl fun Y y=>?_|apply RunTo.id);simp only [zb,seval,w11,kcc,dcc];refine fz y ?_;clear y Y))
 refine cz (hk1) ?_
 (refine WpL.go _ rfl fun Y y=>?_);repeat (first|(apply fw;(with_reducible constructor)<;>rfl)|(apply WpA.cd;constructor)|((first|with_reducible refine WpA.go _ rfl fun Y y=>?_|apply RunTo.id);simp only [zb,seval,w11,kcc,dcc];refine fz y ?_;clear y Y))
 refine cz (hk2) ?_
 (refine WpL.go _ rfl fun Y y=>?_);repeat (first|(apply fw;(with_reducible constructor)<;>rfl)|(apply WpA.cd;constructor)|((first|with_reducible refine WpA.go _ rfl fun Y y=>?_|apply RunTo.id);simp only [zb,seval,w11,kcc,dcc];refine fz y ?_;clear y Y))
 refine ye (by simp only [zb,seval,w11,kcc,dcc];rfl) (by simp only [zv,kcc,dcc];rfl) ?_
 rfl
end Go.Proofs.YtaeioidifpebdaaGreatDoor
end
