/-
 Laid together: MayD18, Wr18, Ws18, RList, Awk18.
-/
import Derived.Test.YtaeioidifpebdaaGreatDoorG3
import Derived.Test.YtaeioidifpebdaaGreatDoorMay
import Derived.Test.YtaeioidifpebdaaGreatDoorG9
import Derived.Test.YtaeioidifpebdaaGreatDoorG5
import Derived.Test.YtaeioidifpebdaaGreatDoorG4
import Derived.Test.YtaeioidifpebdaaGreatDoorG6
section
namespace Go.Proofs.YtaeioidifpebdaaGreatDoor
open Go Go.RowKit Go.Lib
theorem um (d:D) (hok:d.Ok) (hb:d.count<1000000000):Pure Tryz.prog 39 [.agg d.cc] (.one (.v (.bool (nw d)))):=by
 refine kB rfl fun w vs hg hv=>?_
 obtain⟨v,rfl,hv1⟩:=hv.one1
 exact wT d w v hok hb hg.tabs hv1.isD
end Go.Proofs.YtaeioidifpebdaaGreatDoor
end
section
namespace Go.Proofs.YtaeioidifpebdaaGreatDoor
open Go Go.RowKit Go.Lib
set_option linter.unusedSimpArgs false
set_option linter.unusedVariables false
set_option maxHeartbeats 4000000
set_option maxRecDepth 100000
theorem pX {n:Nat} {ev:Ev} (hE:HE n ev):∀(m:Nat) (d:D),(fq ev m d).2≤2
 | 0,d=>Nat.zero_le _
 | m+1,d=>by
  unfold fq
  repeat' split
  ·exact lv hE _
  ·exact hE.e2 d
  ·exact Nat.zero_le _
  ·exact ij fun x hx=>by
    obtain⟨d,_,rfl⟩:=List.mem_map.1 hx
    exact pX hE m d
def yL (d:D) (E:D→Rs) (l:List D) (n:Nat) (st:St):Prop:=∃(i:Nat) (S:List (Option Ob)) (cO:C),n=l.length-i∧i≤l.length∧At 31 11 S cO (((l.take i).map fun d=>(E d).1).map K.cc) ∧
 S[1]?=some (some ⟨31,11,[[.v (.int .i64 0),.v (.string ⟨#[]⟩),.v (.string ⟨#[]⟩),.v (.slice none 0 0),.v (.int .i64 0),.v (.int .i32 0),.v (.bool false),.v (.slice none 0 0),.v (.string ⟨#[]⟩),.v (.slice none 0 0),.v (.slice none 0 0)]]⟩)∧(∀n,cO≠.ms 1 n) ∧
 st=⟨[(51,.one (.v (.int .i64 i))),(50,.one (.v (.int .i64 l.length))),(49,.one (.sl 6 (l.map D.cc))),(2,.one (.ptr 1 1 0 0)),(3,.one (.er 0)),(11,.one cO),(12,.one (.er (d6 ((l.take i).map fun d=>(E d).2))))],S⟩
theorem rp {n:Nat} {ev:Ev} (hE:HE n ev):∀(m:Nat) (d:D),d.msr<m→Gd n d→Pure Tryz.prog 40 [.agg d.cc] (rsA (fq ev m d))
 | 0,d,h,_=>absurd h (Nat.not_lt_zero _)
 | m+1,d,hm,hd=>by
  have hbig:=hE.big
  have hh1:=iM n d dh hd (by omega)
  have hh2:=iM n d bW hd (by omega)
  have hx:=hE.e d hd
  cases ho:b9 d dh with
  | some l =>
   obtain⟨g1,g2⟩:=dG hd ho
   have hdf:=jn hE l g1
   rw [show fq ev (m+1) d=(.mk 4 (di ev l).1 e0 [] bA [(di ev l).2.1],(di ev l).2.2) by rw [fq,ho]]
   rw [ho] at hh1
   simp only [gm] at hh1
   simp only [dfA] at hdf
   simp only [rsA]
   refine fi Tryz.func40 Tryz.ntmps40 Tryz.results40 ?_
   repeat (first|(apply fw;(with_reducible constructor)<;>rfl)|(apply WpA.cd;constructor)|((first|with_reducible refine WpA.go _ rfl fun Y y=>?_|apply RunTo.id);simp only [zb,seval,w40,kcc];refine fz y ?_;clear y Y))
   refine cz (hh1) ?_
   (refine WpL.go _ rfl fun Y y=>?_);repeat (first|(apply fw;(with_reducible constructor)<;>rfl)|(apply WpA.cd;constructor)|((first|with_reducible refine WpA.go _ rfl fun Y y=>?_|apply RunTo.id);simp only [zb,seval,w40,kcc];refine fz y ?_;clear y Y))
   refine cz (hdf) ?_
   (refine WpL.go _ rfl fun Y y=>?_);repeat (first|(apply fw;(with_reducible constructor)<;>rfl)|(apply WpA.cd;constructor)|((first|with_reducible refine WpA.go _ rfl fun Y y=>?_|apply RunTo.id);simp only [zb,seval,w40,kcc];refine fz y ?_;clear y Y))
   refine⟨by simp,_,_,_,_,(by simp only [zb,seval,w40,kcc];rfl),(by simp),(by simp only [zv,kcc];rfl),(by simp [ksh]),_,(by simp only [rcc];exact ae),rfl⟩
  | none =>
   rw [ho] at hh1
   cases hb:b9 d bW with
   | none =>
    rw [show fq ev (m+1) d=ev.e d by rw [fq,ho];dsimp only;rw [hb]]
    rw [hb] at hh2
    simp only [gm] at hh1 hh2
    simp only [rsA] at hx ⊢
    refine fi Tryz.func40 Tryz.ntmps40 Tryz.results40 ?_
    repeat (first|(apply fw;(with_reducible constructor)<;>rfl)|(apply WpA.cd;constructor)|((first|with_reducible refine WpA.go _ rfl fun Y y=>?_|apply RunTo.id);simp only [zb,seval,w40,kcc];refine fz y ?_;clear y Y))
    refine cz (hh1) ?_
    (refine WpL.go _ rfl fun Y y=>?_);repeat (first|(apply fw;(with_reducible constructor)<;>rfl)|(apply WpA.cd;constructor)|((first|with_reducible refine WpA.go _ rfl fun Y y=>?_|apply RunTo.id);simp only [zb,seval,w40,kcc];refine fz y ?_;clear y Y))
    refine cz (hh2) ?_
    (refine WpL.go _ rfl fun Y y=>?_);repeat (first|(apply fw;(with_reducible constructor)<;>rfl)|(apply WpA.cd;constructor)|((first|with_reducible refine WpA.go _ rfl fun Y y=>?_|apply RunTo.id);simp only [zb,seval,w40,kcc];refine fz y ?_;clear y Y))
    refine cz (hx) ?_
    (refine WpL.go _ rfl fun Y y=>?_);repeat (first|(apply fw;(with_reducible constructor)<;>rfl)|(apply WpA.cd;constructor)|((first|with_reducible refine WpA.go _ rfl fun Y y=>?_|apply RunTo.id);simp only [zb,seval,w40,kcc];refine fz y ?_;clear y Y))
    refine ye (by simp only [zb,seval,w40,kcc];rfl) (by simp only [zv,kcc];rfl) ?_
    rfl
   | some l =>
    obtain⟨g1,g2⟩:=dG hd hb
    rw [hb] at hh2
    simp only [gm] at hh1 hh2
    by_cases hl0:l=[]
    ·subst hl0
     have hno:=dM
     rw [show fq ev (m+1) d=(aZ,0) by rw [fq,ho];dsimp only;rw [hb]]
     simp only [rsA]
     refine fi Tryz.func40 Tryz.ntmps40 Tryz.results40 ?_
     repeat (first|(apply fw;(with_reducible constructor)<;>rfl)|(apply WpA.cd;constructor)|((first|with_reducible refine WpA.go _ rfl fun Y y=>?_|apply RunTo.id);simp only [zb,seval,w40,kcc];refine fz y ?_;clear y Y))
     refine cz (hh1) ?_
     (refine WpL.go _ rfl fun Y y=>?_);repeat (first|(apply fw;(with_reducible constructor)<;>rfl)|(apply WpA.cd;constructor)|((first|with_reducible refine WpA.go _ rfl fun Y y=>?_|apply RunTo.id);simp only [zb,seval,w40,kcc];refine fz y ?_;clear y Y))
     refine cz (hh2) ?_
     (refine WpL.go _ rfl fun Y y=>?_);repeat (first|(apply fw;(with_reducible constructor)<;>rfl)|(apply WpA.cd;constructor)|((first|with_reducible refine WpA.go _ rfl fun Y y=>?_|apply RunTo.id);simp only [zb,seval,w40,kcc];refine fz y ?_;clear y Y))
     refine cz (hno) ?_
     (refine WpL.go _ rfl fun Y y=>?_);repeat (first|(apply fw;(with_reducible constructor)<;>rfl)|(apply WpA.cd;constructor)|((first|with_reducible refine WpA.go _ rfl fun Y y=>?_|apply RunTo.id);simp only [zb,seval,w40,kcc];refine fz y ?_;clear y Y))
     refine ye (by simp only [zb,seval,w40,kcc];rfl) (by simp only [zv,kcc];rfl) ?_
     rfl
    ·have hne:((l.length:Int) == 0)=false:=by
      have:l.length≠0:=fun h=>hl0 (List.length_eq_zero_iff.1 h)
      simp;exact hl0
     have hlen:=g1.len
     have hml:(l.map D.cc).length=l.length:=List.length_map ..
     rw [show fq ev (m+1) d=(dA (l.map fun x=>(fq ev m x).1),d6 (l.map fun x=>(fq ev m x).2)) by
      obtain⟨a,r,rfl⟩:∃a r,l=a::r:=by
       match l,hl0 with
       | a::r,_=>exact⟨a,r,rfl⟩
      rw [fq,ho];dsimp only;rw [hb]]
     have hrec:∀x∈l,Pure Tryz.prog 40 [.agg x.cc] (rsA (fq ev m x)):=fun x hx=>rp hE m x (by have:=iI hx;omega) (g1.mem hx)
     have hrec2:∀x,(fq ev m x).2≤2:=pX hE m
     generalize fq ev m=E at hrec hrec2 ⊢
     refine fi Tryz.func40 Tryz.ntmps40 Tryz.results40 ?_
     repeat (first|(apply fw;(with_reducible constructor)<;>rfl)|(apply WpA.cd;constructor)|((first|with_reducible refine WpA.go _ rfl fun Y y=>?_|apply RunTo.id);simp only [zb,seval,w40,kcc];refine fz y ?_;clear y Y))
     refine cz (hh1) ?_
     (refine WpL.go _ rfl fun Y y=>?_);repeat (first|(apply fw;(with_reducible constructor)<;>rfl)|(apply WpA.cd;constructor)|((first|with_reducible refine WpA.go _ rfl fun Y y=>?_|apply RunTo.id);simp only [zb,seval,w40,kcc];refine fz y ?_;clear y Y))
     refine cz (hh2) ?_
     (refine WpL.go _ rfl fun Y y=>?_);repeat (first|(apply fw;(with_reducible constructor)<;>rfl)|(apply WpA.cd;constructor)|((first|with_reducible refine WpA.go _ rfl fun Y y=>?_|apply RunTo.id);simp only [zb,seval,w40,kcc,hne,hml];refine fz y ?_;clear y Y))
     refine WpA.loop (yL d E l) l.length (st0:=⟨[(51,.one (.v (.int .i64 (0:Nat)))),(50,.one (.v (.int .i64 l.length))),(49,.one (.sl 6 (l.map D.cc))),(2,.one (.ptr 1 1 0 0)),(3,.one (.er 0)),(11,.one (.v (.slice none 0 0))),(12,.one (.er 0))],[some ⟨28,6,[d.cc]⟩,some ⟨31,11,[[.v (.int .i64 0),.v (.string ⟨#[]⟩),.v (.string ⟨#[]⟩),.v (.slice none 0 0),.v (.int .i64 0),.v (.int .i32 0),.v (.bool false),.v (.slice none 0 0),.v (.string ⟨#[]⟩),.v (.slice none 0 0),.v (.slice none 0 0)]]⟩]⟩) (Le.sub (by simp [Sub,find]))
      ⟨0,_,_,rfl,Nat.zero_le _,At.nil _ _ _,rfl,(fun n e=>by cases e),rfl⟩ ?_
     intro n' st hI
     obtain⟨i,S,cO,rfl,hi,hA,hbox,hne0,rfl⟩:=hI
     have hw2:IntKind.i64.wrap ((i:Int)+1)=((i+1:Nat):Int):=by rw [cf (by omega) (by omega)];omega
     have hS1:=(List.getElem?_eq_some_iff.1 hbox).1
     by_cases hlt:i<l.length
     ·have hd1:decide ((i:Int)<(l.length:Int))=true:=by simp;omega
      have hget:=nq hlt
      have hc:=hrec l[i] (List.getElem_mem hlt)
      have hbo:=af (d6 ((l.take i).map fun d=>(E d).2)) (E l[i]).2 (ij fun x hx=>by
       obtain⟨d,_,rfl⟩:=List.mem_map.1 hx
       exact hrec2 d) (hrec2 _)
      simp only [rsA] at hc
      have hal:=hA.len
      rw [List.length_map,List.length_map,List.length_take,Nat.min_eq_left hi] at hal
      repeat (first|(apply fw;(with_reducible constructor)<;>rfl)|(apply WpA.cd;constructor)|((first|with_reducible refine WpA.go _ rfl fun Y y=>?_|apply RunTo.id);simp only [zb,seval,w40,hd1,hget,kcc,ah];refine fz y ?_;clear y Y))
      refine cz (hc) ?_
      (refine WpL.go _ rfl fun Y y=>?_);repeat (first|(apply fw;(with_reducible constructor)<;>rfl)|(apply WpA.cd;constructor)|((first|with_reducible refine WpA.go _ rfl fun Y y=>?_|apply RunTo.id);simp only [zb,seval,w40,kcc,ah];refine fz y ?_;clear y Y))
      refine cz (hbo) ?_
      (refine WpL.go _ rfl fun Y y=>?_);repeat (first|(apply fw;(with_reducible constructor)<;>rfl)|(apply WpA.cd;constructor)|((first|with_reducible refine WpA.go _ rfl fun Y y=>?_|apply RunTo.id);simp only [zb,seval,w40,kcc,ah];refine fz y ?_;clear y Y))
      refine WpA.region ?_
      (try simp only [St.put]);(refine WpL.op rfl (ab (P:=Tryz.prog) rfl) (ag (by simp only [zb,seval,w40,kcc,ah];rfl) (by first|(simp;done)|omega|(simp;omega))) ?_);simp only [St.put];(refine WpL.op rfl (ab (P:=Tryz.prog) rfl) (ag (by simp only [zb,seval,w40,kcc,ah];rfl) (by first|(simp;done)|omega|(simp;omega))) ?_);simp only [St.put];(refine WpL.op rfl (ab (P:=Tryz.prog) rfl) (ag (by simp only [zb,seval,w40,kcc,ah];rfl) (by first|(simp;done)|omega|(simp;omega))) ?_);simp only [St.put]
      obtain⟨S8,j,hA8,hj8,hl8,hfr8,hpl8,hop8⟩:=cM (P:=Tryz.prog) (T:=29) (by_:=176) aW aX aY (by omega) (S:=S++[some ⟨28,6,[l[i].cc]⟩,some ⟨31,11,[(E l[i]).1.cc]⟩,some ⟨31,11,[(E l[i]).1.cc]⟩]) (hA.app _) (q:=S.length+2) (new:=[(E l[i]).1.cc]) (jG _ _ _ _ _) (by simp) (fun n e=>by have:=hA.lt e;omega) (by simp;omega) (by simp;omega)
      simp only [List.length_cons,List.length_nil,Nat.zero_add] at hop8 hA8
      refine WpL.aop rfl (hop8 _ _ _ rfl rfl) ?_
      simp only [St.put]
      have hs:max (d6 ((l.take i).map fun d=>(E d).2)) (E l[i]).2=d6 ((l.take (i+1)).map fun d=>(E d).2):=by rw [dT _ hlt,gR]
      (refine WpL.go _ rfl fun Y y=>?_);repeat (first|(apply fw;(with_reducible constructor)<;>rfl)|(apply WpA.cd;constructor)|((first|with_reducible refine WpA.go _ rfl fun Y y=>?_|apply RunTo.id);simp only [zb,seval,w40,hw2,hs];refine fz y ?_;clear y Y))
      have hpl:cO=.ms j (((l.take i).map fun d=>(E d).1).map K.cc).length∨S.length≤j:=hpl8.imp id fun q=>by rw [List.length_append] at q;omega
      refine⟨l.length-(i+1),_,by omega,Le.sub (by simp [Sub,find]),i+1,S8,.ms j ((((l.take i).map fun d=>(E d).1).map K.cc).length+1),rfl,hlt,?_,hfr8 1 _ (bz hbox) hne0,fun m e=>?_,rfl⟩
      ·rw [dT _ hlt,List.map_append];exact hA8
      ·have:=(C.ms.inj e).1
       rcases hpl with q|q
       ·exact hne0 _ (this▸q)
       ·omega
     ·have hd0:decide ((i:Int)<(l.length:Int))=false:=by simp;omega
      have hii:i=l.length:=by omega
      subst hii
      rw [List.take_length] at hA ⊢
      have hsq:=iO (l.map fun d=>(E d).1)
      repeat (first|(apply fw;(with_reducible constructor)<;>rfl)|(apply WpA.cd;constructor))
      ((with_reducible refine WpA.go _ rfl fun Y y=>?_);simp only [zb,seval,w40,hd0];(refine RunTo.fn y (by first|(simp;done)|omega|(simp;omega)) ?_);clear y Y);repeat (first|(apply fw;(with_reducible constructor)<;>rfl)|(apply WpA.cd;constructor))
      refine WpA.frzAt 11 hA.au (jH _) rfl fun S1 hl1 ho1=>?_
      have h01:=ho1 1 _ hbox hne0
      have hS3:=(List.getElem?_eq_some_iff.1 h01).1
      have hset0:∀(a:Option Ob),(S1.set 1 a)[1]?=some a:=fun a=>List.getElem?_set_self hS3
      repeat (first|(apply fw;(with_reducible constructor)<;>rfl)|(apply WpA.cd;constructor)|((first|with_reducible refine WpA.go _ rfl fun Y y=>?_|apply RunTo.id);simp only [zb,seval,w40,kcc];refine fz y ?_;clear y Y))
      refine cz (hsq) ?_
      (refine WpL.go _ rfl fun Y y=>?_);repeat (first|(apply fw;(with_reducible constructor)<;>rfl)|(apply WpA.cd;constructor)|((first|with_reducible refine WpA.go _ rfl fun Y y=>?_|apply RunTo.id);simp only [zb,seval,w40,kcc,h01];refine fz y ?_;clear y Y))
      refine ye (by simp only [zb,seval,w40,kcc,hset0];rfl) (by simp only [zv,kcc,hset0];rfl) ?_
      rfl
def yw:Nat→Int
 | 0=>0
 | 1=>6
 | _=>8
noncomputable def jM (d:D):K × Int:=if nw d=true then (if (ge d).2=0 then (ge d).1 else kz,yw (ge d).2) else (kz,1)
def onA (r:K × Int):A:=.tup [.agg r.1.cc,.one (.v (.int .i64 r.2))]
theorem wU {d:D} (hok:d.Ok) (h:nw d=true):Gd (d.msr+1) d:=by
 have h1:cg d=true:=(Bool.and_eq_true_iff.1 h).1
 exact⟨(bU.1 h1).two,hok,Nat.lt_succ_self _⟩
theorem un (d:D) (hg:Gd (d.msr+1) d) (hm:d.msr+1≤100000000):Pure Tryz.prog 40 [.agg d.cc] (rsA (ge d))∧(ge d).2≤2 :=
 ⟨rp (sr _ hm) _ d (Nat.lt_succ_self _) hg,pX (sr _ hm) _ d⟩
theorem pY (d:D) (hok:d.Ok) (hc:d.count<1000000000) (hm:d.msr+1≤100000000):Pure Tryz.prog 17 [.agg d.cc] (onA (jM d)):=by
 have hmy:=um d hok hc
 cases hb:nw d with
 | false =>
  rw [hb] at hmy
  rw [show jM d=(kz,1) by unfold jM;rw [hb];rfl]
  simp only [onA]
  refine fi Tryz.func17 Tryz.ntmps17 Tryz.results17 ?_
  repeat (first|(apply fw;(with_reducible constructor)<;>rfl)|(apply WpA.cd;constructor)|((first|with_reducible refine WpA.go _ rfl fun Y y=>?_|apply RunTo.id);simp only [zb,seval,w17,kcc];refine fz y ?_;clear y Y))
  refine cz (hmy) ?_
  (refine WpL.go _ rfl fun Y y=>?_);repeat (first|(apply fw;(with_reducible constructor)<;>rfl)|(apply WpA.cd;constructor)|((first|with_reducible refine WpA.go _ rfl fun Y y=>?_|apply RunTo.id);simp only [zb,seval,w17,kcc];refine fz y ?_;clear y Y))
  refine⟨by simp,_,_,_,_,(by simp only [zb,seval,w17,kcc];rfl),(by simp),(by simp only [zv,kcc];rfl),(by simp [ksh]),_,(by simp only [rcc];exact ae),rfl⟩
 | true =>
  obtain⟨ht,hle⟩:=un d (wU hok hb) hm
  have his:Pure Tryz.prog 41 [.one (.er (ge d).2),.one (.gv 0)] (.one (.v (.bool (decide ((ge d).2=1))))):=pI (ge d).2 0 hle (by omega)
  rw [hb] at hmy
  rw [show jM d=(if (ge d).2=0 then (ge d).1 else kz,yw (ge d).2) by unfold jM;rw [hb];rfl]
  simp only [rsA] at ht
  simp only [onA]
  generalize ge d=x at *
  obtain⟨k,n⟩:=x
  dsimp only at *
  have hn:n=0∨n=1∨n=2:=by omega
  rcases hn with rfl|rfl|rfl
  ·rw [if_pos rfl]
   refine fi Tryz.func17 Tryz.ntmps17 Tryz.results17 ?_
   repeat (first|(apply fw;(with_reducible constructor)<;>rfl)|(apply WpA.cd;constructor)|((first|with_reducible refine WpA.go _ rfl fun Y y=>?_|apply RunTo.id);simp only [zb,seval,w17,kcc];refine fz y ?_;clear y Y))
   refine cz (hmy) ?_
   (refine WpL.go _ rfl fun Y y=>?_);repeat (first|(apply fw;(with_reducible constructor)<;>rfl)|(apply WpA.cd;constructor)|((first|with_reducible refine WpA.go _ rfl fun Y y=>?_|apply RunTo.id);simp only [zb,seval,w17,kcc];refine fz y ?_;clear y Y))
   refine cz (ht) ?_
   (refine WpL.go _ rfl fun Y y=>?_);repeat (first|(apply fw;(with_reducible constructor)<;>rfl)|(apply WpA.cd;constructor)|((first|with_reducible refine WpA.go _ rfl fun Y y=>?_|apply RunTo.id);simp only [zb,seval,w17,kcc];refine fz y ?_;clear y Y))
   refine ye (by simp only [zb,seval,w17,kcc];rfl) (by simp only [zv,kcc];rfl) ?_
   rfl
  all_goals
   rw [if_neg (by decide)]
   refine fi Tryz.func17 Tryz.ntmps17 Tryz.results17 ?_
   repeat (first|(apply fw;(with_reducible constructor)<;>rfl)|(apply WpA.cd;constructor)|((first|with_reducible refine WpA.go _ rfl fun Y y=>?_|apply RunTo.id);simp only [zb,seval,w17,kcc];refine fz y ?_;clear y Y))
   refine cz (hmy) ?_
   (refine WpL.go _ rfl fun Y y=>?_);repeat (first|(apply fw;(with_reducible constructor)<;>rfl)|(apply WpA.cd;constructor)|((first|with_reducible refine WpA.go _ rfl fun Y y=>?_|apply RunTo.id);simp only [zb,seval,w17,kcc];refine fz y ?_;clear y Y))
   refine cz (ht) ?_
   (refine WpL.go _ rfl fun Y y=>?_);repeat (first|(apply fw;(with_reducible constructor)<;>rfl)|(apply WpA.cd;constructor)|((first|with_reducible refine WpA.go _ rfl fun Y y=>?_|apply RunTo.id);simp only [zb,seval,w17,kcc];refine fz y ?_;clear y Y))
   refine cz (his) ?_
   (refine WpL.go _ rfl fun Y y=>?_);repeat (first|(apply fw;(with_reducible constructor)<;>rfl)|(apply WpA.cd;constructor)|((first|with_reducible refine WpA.go _ rfl fun Y y=>?_|apply RunTo.id);simp only [zb,seval,w17,kcc];refine fz y ?_;clear y Y))
   refine⟨by simp,_,_,_,_,(by simp only [zb,seval,w17,kcc];rfl),(by simp),(by simp only [zv,kcc];rfl),(by simp [ksh]),_,(by simp only [rcc];exact ae),rfl⟩
theorem D.cc_bd (k:Nat) (d:D):∀c∈d.cc,C.bd k c=true:=by rw [D.cc_eq];simp [C.bd]
def D.co (d:D):List C:=[.v (.int .i64 d.k),.v (.int .i32 d.c),.v (.bool d.neg),.sl 1 (d.mag.map fun n=>[.v (.int .u32 n)]),.v (.string d.t),.sl 6 (d.l.map D.cc)]
def RLI (l:List D) (n:Nat) (st:St):Prop:=n≤l.length ∧
 st=⟨[(4,.one (.v (.int .i64 ((n:Int)-1)))),(0,.one (.sl 6 (l.map D.cc))),(3,.one (.ptr 1 1 0 0)),(2,.one (.ptr 0 1 0 0))],
  [some ⟨28,6,[[.v (.int .i64 0),.v (.int .i32 0),.v (.bool false),.v (.slice none 0 0),.v (.string ⟨#[]⟩),.v (.slice none 0 0)]]⟩,some ⟨28,6,[[.v (.int .i64 (aG (l.drop n)).k),.v (.int .i32 (aG (l.drop n)).c),.v (.bool (aG (l.drop n)).neg),.sl 1 ((aG (l.drop n)).mag.map fun n=>[.v (.int .u32 n)]),.v (.string (aG (l.drop n)).t),.sl 6 ((aG (l.drop n)).l.map D.cc)]]⟩]⟩
theorem sC (l:List D) (hlen:l.length≤1000000):Pure Tryz.prog 44 [.one (.sl 6 (l.map D.cc))] (.agg (aG l).cc):=by
 have hw0:IntKind.i64.wrap ((l.length:Int)-1)=(l.length:Int)-1:=cf (by omega) (by omega)
 rw [D.cc_eq (aG l)]
 refine fi Tryz.func44 Tryz.ntmps44 Tryz.results44 ?_
 repeat (first|(apply fw;(with_reducible constructor)<;>rfl)|(apply WpA.cd;constructor)|((first|with_reducible refine WpA.go _ rfl fun Y y=>?_|apply RunTo.id);simp only [zb,seval,w44,hw0];refine fz y ?_;clear y Y))
 refine WpA.loop (RLI l) l.length ?_ ⟨Nat.le_refl _,rfl⟩ ?_
 ·refine Le.freeze (fun _=>false) ⟨rfl,by simp,fun j b hb=>?_⟩ (by simp [SubZ,find,FzA,FzC])
  match j,hb with
  | 0,hb=>exact⟨rfl,b,hb,rfl,rfl,FzR.same _ _ _⟩
  | 1,hb =>
   simp [aG,bA] at hb
   subst hb
   exact⟨rfl,_,rfl,rfl,rfl,⟨.inl rfl,.inl rfl,.inl rfl,FzC.nil,.inl rfl,FzC.nil,trivial⟩,trivial⟩
  | j+2,hb=>simp at hb
 intro n st hI
 obtain⟨hn,rfl⟩:=hI
 rcases n with _|n
 ·have hz:((0:Nat):Int)-1 = -1:=rfl
  rw [hz]
  have hf:decide ((0:Int)≤-1)=false:=rfl
  repeat (first|(apply fw;(with_reducible constructor)<;>rfl)|(apply WpA.cd;constructor)|((first|with_reducible refine WpA.go _ rfl fun Y y=>?_|apply RunTo.id);simp only [zb,seval,w44,hf];refine fz y ?_;clear y Y))
  repeat (first|(apply fw;(with_reducible constructor)<;>rfl)|(apply WpA.cd;constructor)|((first|with_reducible refine WpA.go _ rfl fun Y y=>?_|apply RunTo.id);simp only [zb,seval,w44,hf];refine fz y ?_;clear y Y))
  refine ye (by simp only [zb,seval,w44];rfl) (by simp only [zv];rfl) ?_
  rfl
 have hge:((n+1:Nat):Int)-1=(n:Int):=by omega
 have hw2:IntKind.i64.wrap ((n:Int)-1)=(n:Int)-1:=cf (by omega) (by omega)
 have hlt:n<l.length:=by omega
 have hget:=nq hlt
 rw [D.cc_eq] at hget
 have hg0:decide ((n:Int) ≥ 0)=true:=by simp
 have hg1:decide (0≤(n:Int))=true:=by simp
 rw [hge]
 repeat (first|(apply fw;(with_reducible constructor)<;>rfl)|(apply WpA.cd;constructor)|((first|with_reducible refine WpA.go _ rfl fun Y y=>?_|apply RunTo.id);simp only [zb,seval,w44,hg0,hg1];refine fz y ?_;clear y Y))
 (refine WpA.draw1 7 [5] ([some ⟨28,6,[[.v (.int .i64 0),.v (.int .i32 0),.v (.bool false),.v (.slice none 0 0),.v (.string ⟨#[]⟩),.v (.slice none 0 0)]]⟩,some ⟨28,6,[[.v (.int .i64 (aG (l.drop (n+1))).k),.v (.int .i32 (aG (l.drop (n+1))).c),.v (.bool (aG (l.drop (n+1))).neg),.sl 1 ((aG (l.drop (n+1))).mag.map fun n=>[.v (.int .u32 n)]),.v (.string (aG (l.drop (n+1))).t),.sl 6 ((aG (l.drop (n+1))).l.map D.cc)]]⟩]) [_,?_] _ _ _ _ rfl rfl rfl (by kernel_rfl) (by kernel_rfl) (by kernel_rfl) (by kernel_rfl) rfl rfl rfl rfl (by decide) fun K8 hK8=>?_);rotate_left 1;simp only [zz] at hK8 ⊢;(refine Draw1.go fun K7 k=>?_);simp only [zb,seval,w44,hget];(refine qz (k _ _ (by rfl) ?_));clear k K7;(simp only [zz,Nat.reduceAdd,Nat.reduceSub]);(try ((refine nz (hK8 _ ?_));clear hK8 K8;(refine WpL.go _ rfl fun Y y=>?_);repeat (first|(apply fw;(with_reducible constructor)<;>rfl)|(apply WpA.cd;constructor)|((first|with_reducible refine WpA.go _ rfl fun Y y=>?_|apply RunTo.id);simp only [zb,seval,w44,hget];refine fz y ?_;clear y Y))))
 refine Draw1.eff 0 rfl rfl rfl (OpS.eff [(16,_),(17,_)] rfl (by rfl) ⟨rfl,rfl,trivial⟩ (by simp only [zb,seval,w44,hw2];rfl) (by first|(simp;done)|omega|(simp;omega))) ?_;(try simp only [bf]);(try ((refine Draw1.go fun K7 k=>?_);simp only [zb,seval,w44,hw2];(refine qz (k _ _ (by rfl) ?_));clear k K7;(simp only [zz,Nat.reduceAdd,Nat.reduceSub]);(try ((refine nz (hK8 _ ?_));clear hK8 K8;(refine WpL.go _ rfl fun Y y=>?_);repeat (first|(apply fw;(with_reducible constructor)<;>rfl)|(apply WpA.cd;constructor)|((first|with_reducible refine WpA.go _ rfl fun Y y=>?_|apply RunTo.id);simp only [zb,seval,w44,hw2];refine fz y ?_;clear y Y))))))
 refine⟨n,_,by omega,?_,by omega,rfl⟩
 have hdl:aG (l.drop n)=.mk 7 0 false [] ⟨#[]⟩ [l[n],aG (l.drop (n+1))]:=by rw [List.drop_eq_getElem_cons hlt];rfl
 refine Le.trans (Le.freeze (S':=[some ⟨28,6,[[.v (.int .i64 0),.v (.int .i32 0),.v (.bool false),.v (.slice none 0 0),.v (.string ⟨#[]⟩),.v (.slice none 0 0)]]⟩,some ⟨28,6,[D.co (aG (l.drop n))]⟩,none]) (e':=[(4,.one (.v (.int .i64 ((n:Int)-1)))),(0,.one (.sl 6 (l.map D.cc))),(3,.one (.ptr 1 1 0 0)),(2,.one (.ptr 0 1 0 0))]) (fun i=>i == 2) ⟨rfl,fun j ob hj ho=>?_,fun j b hb=>?_⟩ (by simp [SubZ,find,FzA,FzC])) (Le.drop 2 (Nat.zero_le _) rfl (by simp [Sub,find]) rfl (by simp [ObBd,C.bd]))
 ·obtain rfl:j=2:=by simpa using hj
  simp at ho
  subst ho
  simp [C.shut]
 ·match j,hb with
  | 0,hb=>exact⟨rfl,b,hb,rfl,rfl,FzR.same _ _ _⟩
  | 1,hb =>
   simp at hb
   subst hb
   refine⟨rfl,_,rfl,rfl,rfl,?_,trivial⟩
   rw [hdl]
   refine⟨.inl rfl,.inl rfl,.inl rfl,FzC.nil,.inl rfl,?_,trivial⟩
   simp only [D.l,List.map_cons,List.map_nil]
   rw [D.cc_eq l[n],D.cc_eq (aG (l.drop (n+1)))]
   exact FzC.ms rfl rfl rfl
  | 2,hb=>simp at hb
  | j+3,hb=>simp at hb
theorem dcc:(∀(d:D) (r:List C),List.take 6 (d.cc++r)=d.cc)∧(∀(d:D) (r:List C),List.drop 6 (d.cc++r)=r)∧(∀(d:D) (r:List C),List.take 12 (d.cc++r)=d.cc++List.take 6 r)∧(∀(d:D) (r:List C),List.drop 12 (d.cc++r)=List.drop 6 r)∧(∀(d:D) (r:List C),List.take 18 (d.cc++r)=d.cc++List.take 12 r)∧(∀(d:D) (r:List C),List.drop 18 (d.cc++r)=List.drop 12 r)∧(∀(d:D) (r:List C),List.take 24 (d.cc++r)=d.cc++List.take 18 r)∧(∀(d:D) (r:List C),List.drop 24 (d.cc++r)=List.drop 18 r)∧(∀(d:D) (r:List C),(d.cc++r).length=r.length+6):=by
 have h:∀d:D,d.cc.length=6:=D.cc_len
 refine⟨?_,?_,?_,?_,?_,?_,?_,?_,fun d r=>by rw [List.length_append,h];omega⟩<;>intro d r<;>first|rw [List.take_append,h,List.take_of_length_le (by rw [h];omega)]|rw [List.drop_append,h,List.drop_of_length_le (by rw [h];omega)]
 all_goals simp
theorem j9 (s:ByteArray):Pure Tryz.prog 21 [.one (.v (.string s))] (.agg (bK s).cc):=by
 rw [D.cc_eq]
 refine fi Tryz.func21 Tryz.ntmps21 Tryz.results21 ?_
 repeat (first|(apply fw;(with_reducible constructor)<;>rfl)|(apply WpA.cd;constructor)|((first|with_reducible refine WpA.go _ rfl fun Y y=>?_|apply RunTo.id);simp only [zb,seval,w21];refine fz y ?_;clear y Y))
 refine⟨by simp,_,_,_,_,(by simp only [zb,seval,w21];rfl),(by simp),(by simp only [zv];rfl),(by simp [ksh]),_,(by exact ae),rfl⟩
theorem eN (l:List D) (hlen:l.length≤1000000):Pure Tryz.prog 23 [.one (.sl 6 (l.map D.cc))] (.agg (aG l).cc):=by
 have h:=sC l hlen
 refine fi Tryz.func23 Tryz.ntmps23 Tryz.results23 ?_
 repeat (first|(apply fw;(with_reducible constructor)<;>rfl)|(apply WpA.cd;constructor)|((first|with_reducible refine WpA.go _ rfl fun Y y=>?_|apply RunTo.id);simp only [zb,seval,w23,kcc,dcc];refine fz y ?_;clear y Y))
 refine cz (h) ?_
 (refine WpL.go _ rfl fun Y y=>?_);repeat (first|(apply fw;(with_reducible constructor)<;>rfl)|(apply WpA.cd;constructor)|((first|with_reducible refine WpA.go _ rfl fun Y y=>?_|apply RunTo.id);simp only [zb,seval,w23,kcc,dcc];refine fz y ?_;clear y Y))
 refine ye (by simp only [zb,seval,w23,kcc,dcc];rfl) (by simp only [zv,kcc,dcc];rfl) ?_
 rfl
def sa:ByteArray:=⟨#[97]⟩
def one1:D:=fg 1
def dA1:D:=aG [bK ga,aG [aG [bK sa,one1]],bK sa]
def dA2:D:=aG [aG [bK bO,aG [bK sa],bK sa],one1]
def dA3:D:=aG [bK eb]
def kA:K:=en [.mk 6 e0 e0 [sa] bA [aP sa],bS one1]
theorem sD:gY sa=false:=yp (by simp only [mH,List.mem_cons,List.not_mem_nil,or_false];decide)
theorem xO (ev:Ev) (h:ev.e (bK sa)=(aP sa,0)):lO ev [bK sa]=(aP sa,0):=by
 rw [tU ev (by simp) (fun d hd=>by simp at hd;subst hd;exact⟨sX (by decide) _,sX (by decide) _⟩),vg,h]
theorem jf (s:ByteArray) (h:s.size≤1000):(bK s).Ok:=pD (by omega)
theorem xP:dA1.Ok:=eE ⟨jf _ (by decide),eE ⟨eE ⟨jf _ (by decide),pE (by decide),trivial⟩,trivial⟩,jf _ (by decide),trivial⟩
theorem xQ:dA2.Ok:=eE ⟨eE ⟨jf _ (by decide),eE ⟨jf _ (by decide),trivial⟩,jf _ (by decide),trivial⟩,pE (by decide),trivial⟩
theorem xR:dA3.Ok:=eE ⟨jf _ (by decide),trivial⟩
theorem s6:jy sa 1=true:=by decide
theorem wV:jy ga 1=true:=by decide
theorem sE:jy bO 1=true:=by decide
theorem vK:jy eb 1=true:=by decide
theorem wW:nw dA1=true:=nC.2 ⟨dI.2 ⟨(fJ _).2 wV,dI.2 ⟨dI.2 ⟨(fJ _).2 s6,nB (.inl rfl),trivial⟩,trivial⟩,(fJ _).2 s6,trivial⟩,by
 simp [dA1,ie,r5,lP,one1,nD]⟩
theorem wY:nw dA2=true:=nC.2 ⟨dI.2 ⟨dI.2 ⟨(fJ _).2 sE,dI.2 ⟨(fJ _).2 s6,trivial⟩,(fJ _).2 s6,trivial⟩,nB (.inl rfl),trivial⟩,by
 simp [dA2,ie,r5,lP,one1,nD]⟩
theorem wZ:nw dA3=true:=nC.2 ⟨dI.2 ⟨(fJ _).2 vK,trivial⟩,by
 simp [dA3,ie,r5,lP]⟩
theorem rq {n:Nat} (h:2≤n):∃m,n=m+2:=⟨n-2,by omega⟩
theorem xx (n:Nat):(evs (n+1)).b [bK sa]=(aP sa,0):=by
 rw [evs];dsimp only;exact xO ⟨cE (evs n),(evs n).b,(evs n).q⟩ (tQ (evs n) sD)
theorem vL (n:Nat):(evs (n+1)).e one1=(bS one1,0):=by rw [evs];dsimp only;exact r9 _ (.inl rfl)
theorem yx (n:Nat):bC ((cD [sa] e0 (aP sa)).1::(aw (evs (n+2)).e [one1]).1)=(kA,0):=by
 rw [kF [sa] (by decide),mr (by simp [aw])]
 simp only [aw,List.map_cons,List.map_nil,vL]
 rfl
theorem xa:jM dA1=(kA,0):=by
 unfold jM
 have h:ge dA1=(kA,0):=by
  have h1:eF (bK ga) dh=false:=by rw [lm];exact aa (by decide)
  have h2:eF (bK ga) bW=false:=by rw [lm];exact aa (by decide)
  rw [lR (by unfold dA1;rw [fK,h1];rfl) (by unfold dA1;rw [fK,h2];rfl)]
  obtain⟨n,hn⟩:=rq (n:=dA1.msr) (by simp [dA1,fH,bx,ll];omega)
  rw [hn,dA1,kE _ (by simp [mH]),tR]
  show ((ck _ _ _ _).1,max (max (max _ _) _) _)=_
  rw [tV sD,xx]
  unfold ck
  dsimp only
  rw [yx,kF [sa] (by decide),sY]
  simp only [aw,List.map_cons,List.map_nil,vL]
  rfl
 rw [wW,if_pos rfl,h];rfl
theorem xb:jM dA2=(kA,0):=by
 unfold jM
 have h:ge dA2=(kA,0):=by
  rw [lR (by unfold dA2;rw [fK,ve (by decide)];rfl) (by unfold dA2;rw [fK,ve (by decide)];rfl)]
  obtain⟨n,hn⟩:=rq (n:=dA2.msr) (by simp [dA2,fH,bx,ll];omega)
  have hl:(evs (n+2)).e (aG [bK bO,aG [bK sa],bK sa])=(.mk 6 e0 e0 [sa] bA [aP sa],0):=by
   rw [evs]
   dsimp only
   rw [kE _ (by simp [mH]),pF]
   unfold bP
   rw [pG sD,xx]
   dsimp only
   rw [kF [sa] (by decide)]
   rfl
  rw [hn,dA2,r8 _ (.inl (by decide))]
  simp only [aw,List.map_cons,List.map_nil,hl,vL]
  rw [mr (by simp)]
  rfl
 rw [wY,if_pos rfl,h];rfl
theorem xd:jM dA3=(kz,8):=by
 unfold jM
 have h:ge dA3=(kz,2):=by
  have h1:eF (bK eb) dh=false:=by rw [lm];exact aa (by decide)
  have h2:eF (bK eb) bW=false:=by rw [lm];exact aa (by decide)
  rw [lR (by unfold dA3;rw [fK,h1];rfl) (by unfold dA3;rw [fK,h2];rfl),dA3,kE _ (by simp [mH]),sb]
 rw [wZ,if_pos rfl,h];rfl
theorem yy:kA.Ok:=by
 simp [kA,en,one1,fg,bS,aP,K.Ok,K.Oks,D.Ok,Oks,e0,sa,ByteArray.size,bA]
theorem xe:one1.cc=[.v (.int .i64 1),.v (.int .i32 0),.v (.bool false),.sl 1 [],.v (.string ⟨#[]⟩),.sl 6 []]:=rcc.2.2.2.2.2.2.2.2.2.2.2.1 1
theorem kI:Pure Tryz.prog 11 [] (.one (.v (.bool true))):=by
 have s1:=j9 ga
 have s2:=j9 sa
 have s3:=j9 bO
 have s4:=j9 eb
 have l1:=eN [bK sa,one1] (by decide)
 have l2:=eN [aG [bK sa,one1]] (by simp)
 have l3:=eN [bK ga,aG [aG [bK sa,one1]],bK sa] (by simp)
 have l4:=eN [bK sa] (by simp)
 have l5:=eN [bK bO,aG [bK sa],bK sa] (by simp)
 have l6:=eN [aG [bK bO,aG [bK sa],bK sa],one1] (by simp)
 have l7:=eN [bK eb] (by simp)
 have o1:=pY dA1 xP (by simp [dA1,ig,ep,lQ,one1,nF]) (by simp [dA1,fH,bx,ll,one1,qX])
 have o2:=pY dA2 xQ (by simp [dA2,ig,ep,lQ,one1,nF]) (by simp [dA2,fH,bx,ll,one1,qX])
 have o3:=pY dA3 xR (by simp [dA3,ig,ep,lQ]) (by simp [dA3,fH,bx,ll])
 have hs:=se kA kA yy
 have hk1:=lr ga
 have hk2:=lr ⟨#[99,97,114]⟩
 rw [show gY ga=true from yo (by simp [mH])] at hk1
 rw [show gY ⟨#[99,97,114]⟩=false from yp (by simp only [mH,List.mem_cons,List.not_mem_nil,or_false];decide)] at hk2
 rw [aU rfl] at hs
 rw [xa] at o1
 rw [xb] at o2
 rw [xd] at o3
 simp only [onA,dA1,dA2,dA3] at o1 o2 o3
 simp only [List.map_cons,List.map_nil] at l1 l2 l3 l4 l5 l6 l7
 refine fi Tryz.func11 Tryz.ntmps11 Tryz.results11 ?_
 repeat (first|(apply fw;(with_reducible constructor)<;>rfl)|(apply WpA.cd;constructor)|((first|with_reducible refine WpA.go _ rfl fun Y y=>?_|apply RunTo.id);simp only [zb,seval,w11,kcc,dcc];refine fz y ?_;clear y Y))
 refine WpA.le (st':=⟨[(1,.one (.ptr 0 1 0 0)),(0,.one (.v (.bool false)))],[some ⟨28,6,[one1.cc]⟩]⟩) (Le.freeze (fun _=>false) (Frz.ofL ?_) ?_) ?_
 ·rw [xe]
  simp only [FrzL,FzR,FzCs]
  repeat' first|exact FzC.same _ _ _|exact FzC.nil|exact rfl|exact trivial|refine And.intro ?_ ?_|(intro hz;exact absurd hz (by decide))
 ·simp only [SubZ];exact⟨⟨_,rfl,FzA.same _ _ _⟩,⟨_,rfl,FzA.same _ _ _⟩,trivial⟩
 (refine WpA.draw1c 16 [14,15] [_,?_,?_] _ _ _ _ rfl rfl rfl (by kernel_rfl) (by kernel_rfl) (by kernel_rfl) (by kernel_rfl) rfl rfl rfl rfl (by decide) fun K8 hK8=>?_);rotate_left 2;simp only [zz] at hK8 ⊢;(refine Draw1.go fun K7 k=>?_);simp only [zb,seval,w11,kcc,dcc];(refine qz (k _ _ (by rfl) ?_));clear k K7;(simp only [zz,Nat.reduceAdd,Nat.reduceSub]);(try ((refine nz (hK8 _ ?_));clear hK8 K8;(refine WpL.go _ rfl fun Y y=>?_);repeat (first|(apply fw;(with_reducible constructor)<;>rfl)|(apply WpA.cd;constructor)|((first|with_reducible refine WpA.go _ rfl fun Y y=>?_|apply RunTo.id);simp only [zb,seval,w11,kcc,dcc];refine fz y ?_;clear y Y))))
 refine Draw1.step (by rfl) (fun s9 _=>oz (s1)) ?_
 (refine Draw1.go fun K7 k=>?_);simp only [zb,seval,w11,kcc,dcc];(refine qz (k _ _ (by rfl) ?_));clear k K7;(simp only [zz,Nat.reduceAdd,Nat.reduceSub]);(try ((refine nz (hK8 _ ?_));clear hK8 K8;(refine WpL.go _ rfl fun Y y=>?_);repeat (first|(apply fw;(with_reducible constructor)<;>rfl)|(apply WpA.cd;constructor)|((first|with_reducible refine WpA.go _ rfl fun Y y=>?_|apply RunTo.id);simp only [zb,seval,w11,kcc,dcc];refine fz y ?_;clear y Y))))
 refine Draw1.step (by rfl) (fun s9 _=>oz (s2)) ?_
 (refine Draw1.go fun K7 k=>?_);simp only [zb,seval,w11,kcc,dcc];(refine qz (k _ _ (by rfl) ?_));clear k K7;(simp only [zz,Nat.reduceAdd,Nat.reduceSub]);(try ((refine nz (hK8 _ ?_));clear hK8 K8;(refine WpL.go _ rfl fun Y y=>?_);repeat (first|(apply fw;(with_reducible constructor)<;>rfl)|(apply WpA.cd;constructor)|((first|with_reducible refine WpA.go _ rfl fun Y y=>?_|apply RunTo.id);simp only [zb,seval,w11,kcc,dcc];refine fz y ?_;clear y Y))))
 refine Draw1.step (by rfl) (fun s9 _=>OpS.frozen (n:=2) (wd:=6) (ty:=28) (rows:=[(bK sa).cc,one1.cc]) (OpS.eff [(11,_),(12,_)] rfl (by rfl) ⟨rfl,rfl,trivial⟩ (by simp only [zb,seval,w11,kcc,dcc];rfl) (by simp)) rfl (by simp [ksh])) ?_;simp only [bf]
 refine Draw1.step (by rfl) (fun s9 _=>oz (l1)) ?_
 (refine Draw1.go fun K7 k=>?_);simp only [zb,seval,w11,kcc,dcc];(refine qz (k _ _ (by rfl) ?_));clear k K7;(simp only [zz,Nat.reduceAdd,Nat.reduceSub]);(try ((refine nz (hK8 _ ?_));clear hK8 K8;(refine WpL.go _ rfl fun Y y=>?_);repeat (first|(apply fw;(with_reducible constructor)<;>rfl)|(apply WpA.cd;constructor)|((first|with_reducible refine WpA.go _ rfl fun Y y=>?_|apply RunTo.id);simp only [zb,seval,w11,kcc,dcc];refine fz y ?_;clear y Y))))
 refine Draw1.step (by rfl) (fun s9 _=>OpS.frozen (n:=1) (wd:=6) (ty:=28) (rows:=[(aG [bK sa,one1]).cc]) (OpS.eff [(14,_)] rfl (by rfl) ⟨rfl,trivial⟩ (by simp only [zb,seval,w11,kcc,dcc];rfl) (by simp)) rfl (by simp [ksh])) ?_;simp only [bf]
 refine Draw1.step (by rfl) (fun s9 _=>oz (l2)) ?_
 (refine Draw1.go fun K7 k=>?_);simp only [zb,seval,w11,kcc,dcc];(refine qz (k _ _ (by rfl) ?_));clear k K7;(simp only [zz,Nat.reduceAdd,Nat.reduceSub]);(try ((refine nz (hK8 _ ?_));clear hK8 K8;(refine WpL.go _ rfl fun Y y=>?_);repeat (first|(apply fw;(with_reducible constructor)<;>rfl)|(apply WpA.cd;constructor)|((first|with_reducible refine WpA.go _ rfl fun Y y=>?_|apply RunTo.id);simp only [zb,seval,w11,kcc,dcc];refine fz y ?_;clear y Y))))
 refine Draw1.step (by rfl) (fun s9 _=>oz (s2)) ?_
 (refine Draw1.go fun K7 k=>?_);simp only [zb,seval,w11,kcc,dcc];(refine qz (k _ _ (by rfl) ?_));clear k K7;(simp only [zz,Nat.reduceAdd,Nat.reduceSub]);(try ((refine nz (hK8 _ ?_));clear hK8 K8;(refine WpL.go _ rfl fun Y y=>?_);repeat (first|(apply fw;(with_reducible constructor)<;>rfl)|(apply WpA.cd;constructor)|((first|with_reducible refine WpA.go _ rfl fun Y y=>?_|apply RunTo.id);simp only [zb,seval,w11,kcc,dcc];refine fz y ?_;clear y Y))))
 refine Draw1.step (by rfl) (fun s9 _=>OpS.frozen (n:=3) (wd:=6) (ty:=28) (rows:=[(bK ga).cc,(aG [aG [bK sa,one1]]).cc,(bK sa).cc]) (OpS.eff [(10,_),(16,_),(17,_)] rfl (by rfl) ⟨rfl,rfl,rfl,trivial⟩ (by simp only [zb,seval,w11,kcc,dcc];rfl) (by simp)) rfl (by simp [ksh])) ?_;simp only [bf]
 refine Draw1.step (by rfl) (fun s9 _=>oz (l3)) ?_
 (refine Draw1.go fun K7 k=>?_);simp only [zb,seval,w11,kcc,dcc];(refine qz (k _ _ (by rfl) ?_));clear k K7;(simp only [zz,Nat.reduceAdd,Nat.reduceSub]);(try ((refine nz (hK8 _ ?_));clear hK8 K8;(refine WpL.go _ rfl fun Y y=>?_);repeat (first|(apply fw;(with_reducible constructor)<;>rfl)|(apply WpA.cd;constructor)|((first|with_reducible refine WpA.go _ rfl fun Y y=>?_|apply RunTo.id);simp only [zb,seval,w11,kcc,dcc];refine fz y ?_;clear y Y))))
 refine Draw1.step (by rfl) (fun s9 _=>oz (o1)) ?_
 (refine Draw1.go fun K7 k=>?_);simp only [zb,seval,w11,kcc,dcc];(refine qz (k _ _ (by rfl) ?_));clear k K7;(simp only [zz,Nat.reduceAdd,Nat.reduceSub]);(try ((refine nz (hK8 _ ?_));clear hK8 K8;(refine WpL.go _ rfl fun Y y=>?_);repeat (first|(apply fw;(with_reducible constructor)<;>rfl)|(apply WpA.cd;constructor)|((first|with_reducible refine WpA.go _ rfl fun Y y=>?_|apply RunTo.id);simp only [zb,seval,w11,kcc,dcc];refine fz y ?_;clear y Y))))
 refine Draw1.eff 0 rfl rfl rfl (OpS.eff [] rfl (by rfl) trivial (by simp only [zb,seval,w11,kcc,dcc];rfl) (by first|(simp;done)|omega|(simp;omega))) ?_;(try simp only [bf]);(try ((refine Draw1.go fun K7 k=>?_);simp only [zb,seval,w11,kcc,dcc];(refine qz (k _ _ (by rfl) ?_));clear k K7;(simp only [zz,Nat.reduceAdd,Nat.reduceSub]);(try ((refine nz (hK8 _ ?_));clear hK8 K8;(refine WpL.go _ rfl fun Y y=>?_);repeat (first|(apply fw;(with_reducible constructor)<;>rfl)|(apply WpA.cd;constructor)|((first|with_reducible refine WpA.go _ rfl fun Y y=>?_|apply RunTo.id);simp only [zb,seval,w11,kcc,dcc];refine fz y ?_;clear y Y))))))
 refine Draw1.eff 1 rfl rfl rfl (OpS.eff [(2,_),(21,_)] rfl (by rfl) ⟨rfl,rfl,trivial⟩ (by simp only [zb,seval,w11,kcc,dcc];rfl) (by first|(simp;done)|omega|(simp;omega))) ?_;(try simp only [bf]);(try ((refine Draw1.go fun K7 k=>?_);simp only [zb,seval,w11,kcc,dcc];(refine qz (k _ _ (by rfl) ?_));clear k K7;(simp only [zz,Nat.reduceAdd,Nat.reduceSub]);(try ((refine nz (hK8 _ ?_));clear hK8 K8;(refine WpL.go _ rfl fun Y y=>?_);repeat (first|(apply fw;(with_reducible constructor)<;>rfl)|(apply WpA.cd;constructor)|((first|with_reducible refine WpA.go _ rfl fun Y y=>?_|apply RunTo.id);simp only [zb,seval,w11,kcc,dcc];refine fz y ?_;clear y Y))))))
 (refine WpA.draw1c 16 [14,15] [_,?_,?_] _ _ _ _ rfl rfl rfl (by kernel_rfl) (by kernel_rfl) (by kernel_rfl) (by kernel_rfl) rfl rfl rfl rfl (by decide) fun K8 hK8=>?_);rotate_left 2;simp only [zz] at hK8 ⊢;(refine Draw1.go fun K7 k=>?_);simp only [zb,seval,w11,kcc,dcc];(refine qz (k _ _ (by rfl) ?_));clear k K7;(simp only [zz,Nat.reduceAdd,Nat.reduceSub]);(try ((refine nz (hK8 _ ?_));clear hK8 K8;(refine WpL.go _ rfl fun Y y=>?_);repeat (first|(apply fw;(with_reducible constructor)<;>rfl)|(apply WpA.cd;constructor)|((first|with_reducible refine WpA.go _ rfl fun Y y=>?_|apply RunTo.id);simp only [zb,seval,w11,kcc,dcc];refine fz y ?_;clear y Y))))
 refine Draw1.step (by rfl) (fun s9 _=>oz (s3)) ?_
 (refine Draw1.go fun K7 k=>?_);simp only [zb,seval,w11,kcc,dcc];(refine qz (k _ _ (by rfl) ?_));clear k K7;(simp only [zz,Nat.reduceAdd,Nat.reduceSub]);(try ((refine nz (hK8 _ ?_));clear hK8 K8;(refine WpL.go _ rfl fun Y y=>?_);repeat (first|(apply fw;(with_reducible constructor)<;>rfl)|(apply WpA.cd;constructor)|((first|with_reducible refine WpA.go _ rfl fun Y y=>?_|apply RunTo.id);simp only [zb,seval,w11,kcc,dcc];refine fz y ?_;clear y Y))))
 refine Draw1.step (by rfl) (fun s9 _=>oz (s2)) ?_
 (refine Draw1.go fun K7 k=>?_);simp only [zb,seval,w11,kcc,dcc];(refine qz (k _ _ (by rfl) ?_));clear k K7;(simp only [zz,Nat.reduceAdd,Nat.reduceSub]);(try ((refine nz (hK8 _ ?_));clear hK8 K8;(refine WpL.go _ rfl fun Y y=>?_);repeat (first|(apply fw;(with_reducible constructor)<;>rfl)|(apply WpA.cd;constructor)|((first|with_reducible refine WpA.go _ rfl fun Y y=>?_|apply RunTo.id);simp only [zb,seval,w11,kcc,dcc];refine fz y ?_;clear y Y))))
 refine Draw1.step (by rfl) (fun s9 _=>OpS.frozen (n:=1) (wd:=6) (ty:=28) (rows:=[(bK sa).cc]) (OpS.eff [(25,_)] rfl (by rfl) ⟨rfl,trivial⟩ (by simp only [zb,seval,w11,kcc,dcc];rfl) (by simp)) rfl (by simp [ksh])) ?_;simp only [bf]
 refine Draw1.step (by rfl) (fun s9 _=>oz (l4)) ?_
 (refine Draw1.go fun K7 k=>?_);simp only [zb,seval,w11,kcc,dcc];(refine qz (k _ _ (by rfl) ?_));clear k K7;(simp only [zz,Nat.reduceAdd,Nat.reduceSub]);(try ((refine nz (hK8 _ ?_));clear hK8 K8;(refine WpL.go _ rfl fun Y y=>?_);repeat (first|(apply fw;(with_reducible constructor)<;>rfl)|(apply WpA.cd;constructor)|((first|with_reducible refine WpA.go _ rfl fun Y y=>?_|apply RunTo.id);simp only [zb,seval,w11,kcc,dcc];refine fz y ?_;clear y Y))))
 refine Draw1.step (by rfl) (fun s9 _=>oz (s2)) ?_
 (refine Draw1.go fun K7 k=>?_);simp only [zb,seval,w11,kcc,dcc];(refine qz (k _ _ (by rfl) ?_));clear k K7;(simp only [zz,Nat.reduceAdd,Nat.reduceSub]);(try ((refine nz (hK8 _ ?_));clear hK8 K8;(refine WpL.go _ rfl fun Y y=>?_);repeat (first|(apply fw;(with_reducible constructor)<;>rfl)|(apply WpA.cd;constructor)|((first|with_reducible refine WpA.go _ rfl fun Y y=>?_|apply RunTo.id);simp only [zb,seval,w11,kcc,dcc];refine fz y ?_;clear y Y))))
 refine Draw1.step (by rfl) (fun s9 _=>OpS.frozen (n:=3) (wd:=6) (ty:=28) (rows:=[(bK bO).cc,(aG [bK sa]).cc,(bK sa).cc]) (OpS.eff [(24,_),(27,_),(28,_)] rfl (by rfl) ⟨rfl,rfl,rfl,trivial⟩ (by simp only [zb,seval,w11,kcc,dcc];rfl) (by simp)) rfl (by simp [ksh])) ?_;simp only [bf]
 refine Draw1.step (by rfl) (fun s9 _=>oz (l5)) ?_
 (refine Draw1.go fun K7 k=>?_);simp only [zb,seval,w11,kcc,dcc];(refine qz (k _ _ (by rfl) ?_));clear k K7;(simp only [zz,Nat.reduceAdd,Nat.reduceSub]);(try ((refine nz (hK8 _ ?_));clear hK8 K8;(refine WpL.go _ rfl fun Y y=>?_);repeat (first|(apply fw;(with_reducible constructor)<;>rfl)|(apply WpA.cd;constructor)|((first|with_reducible refine WpA.go _ rfl fun Y y=>?_|apply RunTo.id);simp only [zb,seval,w11,kcc,dcc];refine fz y ?_;clear y Y))))
 refine Draw1.step (by rfl) (fun s9 _=>OpS.frozen (n:=2) (wd:=6) (ty:=28) (rows:=[(aG [bK bO,aG [bK sa],bK sa]).cc,one1.cc]) (OpS.eff [(30,_),(31,_)] rfl (by rfl) ⟨rfl,rfl,trivial⟩ (by simp only [zb,seval,w11,kcc,dcc];rfl) (by simp)) rfl (by simp [ksh])) ?_;simp only [bf]
 refine Draw1.step (by rfl) (fun s9 _=>oz (l6)) ?_
 (refine Draw1.go fun K7 k=>?_);simp only [zb,seval,w11,kcc,dcc];(refine qz (k _ _ (by rfl) ?_));clear k K7;(simp only [zz,Nat.reduceAdd,Nat.reduceSub]);(try ((refine nz (hK8 _ ?_));clear hK8 K8;(refine WpL.go _ rfl fun Y y=>?_);repeat (first|(apply fw;(with_reducible constructor)<;>rfl)|(apply WpA.cd;constructor)|((first|with_reducible refine WpA.go _ rfl fun Y y=>?_|apply RunTo.id);simp only [zb,seval,w11,kcc,dcc];refine fz y ?_;clear y Y))))
 refine Draw1.step (by rfl) (fun s9 _=>oz (o2)) ?_
 (refine Draw1.go fun K7 k=>?_);simp only [zb,seval,w11,kcc,dcc];(refine qz (k _ _ (by rfl) ?_));clear k K7;(simp only [zz,Nat.reduceAdd,Nat.reduceSub]);(try ((refine nz (hK8 _ ?_));clear hK8 K8;(refine WpL.go _ rfl fun Y y=>?_);repeat (first|(apply fw;(with_reducible constructor)<;>rfl)|(apply WpA.cd;constructor)|((first|with_reducible refine WpA.go _ rfl fun Y y=>?_|apply RunTo.id);simp only [zb,seval,w11,kcc,dcc];refine fz y ?_;clear y Y))))
 refine Draw1.eff 0 rfl rfl rfl (OpS.eff [] rfl (by rfl) trivial (by simp only [zb,seval,w11,kcc,dcc];rfl) (by first|(simp;done)|omega|(simp;omega))) ?_;(try simp only [bf]);(try ((refine Draw1.go fun K7 k=>?_);simp only [zb,seval,w11,kcc,dcc];(refine qz (k _ _ (by rfl) ?_));clear k K7;(simp only [zz,Nat.reduceAdd,Nat.reduceSub]);(try ((refine nz (hK8 _ ?_));clear hK8 K8;(refine WpL.go _ rfl fun Y y=>?_);repeat (first|(apply fw;(with_reducible constructor)<;>rfl)|(apply WpA.cd;constructor)|((first|with_reducible refine WpA.go _ rfl fun Y y=>?_|apply RunTo.id);simp only [zb,seval,w11,kcc,dcc];refine fz y ?_;clear y Y))))))
 refine Draw1.eff 1 rfl rfl rfl (OpS.eff [(4,_),(35,_)] rfl (by rfl) ⟨rfl,rfl,trivial⟩ (by simp only [zb,seval,w11,kcc,dcc];rfl) (by first|(simp;done)|omega|(simp;omega))) ?_;(try simp only [bf]);(try ((refine Draw1.go fun K7 k=>?_);simp only [zb,seval,w11,kcc,dcc];(refine qz (k _ _ (by rfl) ?_));clear k K7;(simp only [zz,Nat.reduceAdd,Nat.reduceSub]);(try ((refine nz (hK8 _ ?_));clear hK8 K8;(refine WpL.go _ rfl fun Y y=>?_);repeat (first|(apply fw;(with_reducible constructor)<;>rfl)|(apply WpA.cd;constructor)|((first|with_reducible refine WpA.go _ rfl fun Y y=>?_|apply RunTo.id);simp only [zb,seval,w11,kcc,dcc];refine fz y ?_;clear y Y))))))
 refine cz (s4) ?_
 (refine WpL.go _ rfl fun Y y=>?_);repeat (first|(apply fw;(with_reducible constructor)<;>rfl)|(apply WpA.cd;constructor)|((first|with_reducible refine WpA.go _ rfl fun Y y=>?_|apply RunTo.id);simp only [zb,seval,w11,kcc,dcc];refine fz y ?_;clear y Y))
 (refine WpL.frz 39 (3) (by rfl) (by first|rfl|(simp only [zz,kcc];rfl)|(simp only [zz,kcc])) (by first|rfl|(simp [kcc];done)|(simp [kcc];omega)) (by simp [ksh]) ?_);simp only [zz,kcc]
 refine cz (l7) ?_
 (refine WpL.go _ rfl fun Y y=>?_);repeat (first|(apply fw;(with_reducible constructor)<;>rfl)|(apply WpA.cd;constructor)|((first|with_reducible refine WpA.go _ rfl fun Y y=>?_|apply RunTo.id);simp only [zb,seval,w11,kcc,dcc];refine fz y ?_;clear y Y))
 refine cz (o3) ?_
 (refine WpL.go _ rfl fun Y y=>?_);repeat (first|(apply fw;(with_reducible constructor)<;>rfl)|(apply WpA.cd;constructor)|((first|with_reducible refine WpA.go _ rfl fun Y y=>?_|apply RunTo.id);simp only [zb,seval,w11,kcc,dcc];refine fz y ?_;clear y Y))
 refine cz (hs) ?_
 (refine WpL.go _ rfl fun Y y=>?_);repeat (first|(apply fw;(with_reducible constructor)<;>rfl)|(apply WpA.cd;constructor)|((first|with_reducible refine WpA.go _ rfl fun Y y=>?_|apply RunTo.id);simp only [zb,seval,w11,kcc,dcc];refine fz y ?_;clear y Y))
 refine cz (hk1) ?_
 (refine WpL.go _ rfl fun Y y=>?_);repeat (first|(apply fw;(with_reducible constructor)<;>rfl)|(apply WpA.cd;constructor)|((first|with_reducible refine WpA.go _ rfl fun Y y=>?_|apply RunTo.id);simp only [zb,seval,w11,kcc,dcc];refine fz y ?_;clear y Y))
 refine cz (hk2) ?_
 (refine WpL.go _ rfl fun Y y=>?_);repeat (first|(apply fw;(with_reducible constructor)<;>rfl)|(apply WpA.cd;constructor)|((first|with_reducible refine WpA.go _ rfl fun Y y=>?_|apply RunTo.id);simp only [zb,seval,w11,kcc,dcc];refine fz y ?_;clear y Y))
 refine ye (by simp only [zb,seval,w11,kcc,dcc];rfl) (by simp only [zv,kcc,dcc];rfl) ?_
 rfl
end Go.Proofs.YtaeioidifpebdaaGreatDoor
end
