/-
 Laid together: MayD18, Wr18, Ws18, RList, Awk18.
-/
import Derived.Test.YtaeioidifpebdaaGreatDoorG3
import Derived.Test.YtaeioidifpebdaaGreatDoorMay
import Derived.Test.YtaeioidifpebdaaGreatDoorG9
import Derived.Test.YtaeioidifpebdaaGreatDoorG5
import Derived.Test.YtaeioidifpebdaaGreatDoorG4
import Derived.Test.YtaeioidifpebdaaGreatDoorG6
section
namespace Go.Proofs.YtaeioidifpebdaaGreatDoor
open Go Go.RowKit Go.Lib
theorem DM (d:D) (hok:d.Ok) (hb:d.count<1000000000):Pure Tryz.prog 39 [.agg d.cc] (.one (.v (.bool (yF d)))):=by
 refine tM rfl fun w vs hg hv=>?_
 obtain⟨v,rfl,hv1⟩:=hv.one1
 exact UN d w v hok hb hg.tabs hv1.isD
end Go.Proofs.YtaeioidifpebdaaGreatDoor
end
section
namespace Go.Proofs.YtaeioidifpebdaaGreatDoor
open Go Go.RowKit Go.Lib
set_option linter.unusedSimpArgs false
set_option linter.unusedVariables false
set_option maxHeartbeats 4000000
set_option maxRecDepth 100000
theorem FQ {n:Nat} {ev:Ev} (hE:HE n ev):∀(m:Nat) (d:D),(kI ev m d).2≤2
 | 0,d=>Nat.zero_le _
 | m+1,d=>by
  unfold kI
  repeat' split
  ·exact vO hE _
  ·exact hE.e2 d
  ·exact Nat.zero_le _
  ·exact oA fun x hx=>by
    obtain⟨d,_,rfl⟩:=List.mem_map.1 hx
    exact FQ hE m d
def YT (d:D) (E:D→Rs) (l:List D) (n:Nat) (st:St):Prop:=∃(i:Nat) (S:List (Option Ob)) (cO:C),n=l.length-i∧i≤l.length∧At 31 11 S cO (((l.take i).map fun d=>(E d).1).map K.cc) ∧
 S[1]?=some (some ⟨31,11,[[.v (.int .i64 0),.v (.string ⟨#[]⟩),.v (.string ⟨#[]⟩),.v (.slice none 0 0),.v (.int .i64 0),.v (.int .i32 0),.v (.bool false),.v (.slice none 0 0),.v (.string ⟨#[]⟩),.v (.slice none 0 0),.v (.slice none 0 0)]]⟩)∧(∀n,cO≠.ms 1 n) ∧
 st=⟨[(51,.one (.v (.int .i64 i))),(50,.one (.v (.int .i64 l.length))),(49,.one (.sl 6 (l.map D.cc))),(2,.one (.ptr 1 1 0 0)),(3,.one (.er 0)),(11,.one cO),(12,.one (.er (jG ((l.take i).map fun d=>(E d).2))))],S⟩
theorem JR {n:Nat} {ev:Ev} (hE:HE n ev):∀(m:Nat) (d:D),d.msr<m→Gd n d→Pure Tryz.prog 40 [.agg d.cc] (rsA (kI ev m d))
 | 0,d,h,_=>absurd h (Nat.not_lt_zero _)
 | m+1,d,hm,hd=>by
  have hbig:=hE.big
  have hh1:=oY n d iR hd (by omega)
  have hh2:=oY n d eM hd (by omega)
  have hx:=hE.e d hd
  cases ho:fA d iR with
  | some l =>
   obtain⟨g1,g2⟩:=gM hd ho
   have hdf:=qK hE l g1
   rw [show kI ev (m+1) d=(.mk 4 (fE ev l).1 e0 [] bZ [(fE ev l).2.1],(fE ev l).2.2) by rw [kI,ho]]
   rw [ho] at hh1
   simp only [mF] at hh1
   simp only [dfA] at hdf
   simp only [rsA]
   refine fi Tryz.func40 Tryz.ntmps40 Tryz.results40 ?_
   repeat (first|(apply fw;focus ((with_reducible constructor)<;>constructor))|((first|with_reducible refine ga _ rfl fun Y y=>?_|(refine ca ?_;apply Exists.intro;constructor;assumption;intro Y y)|apply ri);simp only [zb,seval,w40,kcc];refine fz y ?_;clear y Y))
   refine yl (by simp only [zb,seval,w40,kcc];rfl) (by simp only [zv,kcc];rfl) ((by simp only [rcc];exact ae)) rfl
  | none =>
   rw [ho] at hh1
   cases hb:fA d eM with
   | none =>
    rw [show kI ev (m+1) d=ev.e d by rw [kI,ho];dsimp only;rw [hb]]
    rw [hb] at hh2
    simp only [mF] at hh1 hh2
    simp only [rsA] at hx ⊢
    refine fi Tryz.func40 Tryz.ntmps40 Tryz.results40 ?_
    repeat (first|(apply fw;focus ((with_reducible constructor)<;>constructor))|((first|with_reducible refine ga _ rfl fun Y y=>?_|(refine ca ?_;apply Exists.intro;constructor;assumption;intro Y y)|apply ri);simp only [zb,seval,w40,kcc];refine fz y ?_;clear y Y))
    refine ye (by simp only [zb,seval,w40,kcc];rfl) (by simp only [zv,kcc];rfl) ?_
    rfl
   | some l =>
    obtain⟨g1,g2⟩:=gM hd hb
    rw [hb] at hh2
    simp only [mF] at hh1 hh2
    by_cases hl0:l=[]
    ·subst hl0
     have hno:=gT
     rw [show kI ev (m+1) d=(bS,0) by rw [kI,ho];dsimp only;rw [hb]]
     simp only [rsA]
     refine fi Tryz.func40 Tryz.ntmps40 Tryz.results40 ?_
     repeat (first|(apply fw;focus ((with_reducible constructor)<;>constructor))|((first|with_reducible refine ga _ rfl fun Y y=>?_|(refine ca ?_;apply Exists.intro;constructor;assumption;intro Y y)|apply ri);simp only [zb,seval,w40,kcc];refine fz y ?_;clear y Y))
     refine ye (by simp only [zb,seval,w40,kcc];rfl) (by simp only [zv,kcc];rfl) ?_
     rfl
    ·have hne:((l.length:Int) == 0)=false:=by
      have:l.length≠0:=fun h=>hl0 (List.length_eq_zero_iff.1 h)
      simp;exact hl0
     have hlen:=g1.len
     have hml:(l.map D.cc).length=l.length:=List.length_map ..
     rw [show kI ev (m+1) d=(fJ (l.map fun x=>(kI ev m x).1),jG (l.map fun x=>(kI ev m x).2)) by
      obtain⟨a,r,rfl⟩:∃a r,l=a::r:=by
       match l,hl0 with
       | a::r,_=>exact⟨a,r,rfl⟩
      rw [kI,ho];dsimp only;rw [hb]]
     have hrec:∀x∈l,Pure Tryz.prog 40 [.agg x.cc] (rsA (kI ev m x)):=fun x hx=>JR hE m x (by have:=lS hx;omega) (g1.mem hx)
     have hrec2:∀x,(kI ev m x).2≤2:=FQ hE m
     generalize kI ev m=E at hrec hrec2 ⊢
     refine fi Tryz.func40 Tryz.ntmps40 Tryz.results40 ?_
     repeat (first|(apply fw;focus ((with_reducible constructor)<;>constructor))|((first|with_reducible refine ga _ rfl fun Y y=>?_|(refine ca ?_;apply Exists.intro;constructor;assumption;intro Y y)|apply ri);simp only [zb,seval,w40,kcc,hne,hml];refine fz y ?_;clear y Y))
     refine WpA.loop (YT d E l) l.length (st0:=⟨[(51,.one (.v (.int .i64 (0:Nat)))),(50,.one (.v (.int .i64 l.length))),(49,.one (.sl 6 (l.map D.cc))),(2,.one (.ptr 1 1 0 0)),(3,.one (.er 0)),(11,.one (.v (.slice none 0 0))),(12,.one (.er 0))],[some ⟨28,6,[d.cc]⟩,some ⟨31,11,[[.v (.int .i64 0),.v (.string ⟨#[]⟩),.v (.string ⟨#[]⟩),.v (.slice none 0 0),.v (.int .i64 0),.v (.int .i32 0),.v (.bool false),.v (.slice none 0 0),.v (.string ⟨#[]⟩),.v (.slice none 0 0),.v (.slice none 0 0)]]⟩]⟩) (Le.sub (by simp [Sub,find]))
      ⟨0,_,_,rfl,Nat.zero_le _,At.nil _ _ _,rfl,(fun n e=>by cases e),rfl⟩ ?_
     intro n' st hI
     obtain⟨i,S,cO,rfl,hi,hA,hbox,hne0,rfl⟩:=hI
     have hw2:IntKind.i64.wrap ((i:Int)+1)=((i+1:Nat):Int):=by rw [dQ (by omega) (by omega)];omega
     have hS1:=(List.getElem?_eq_some_iff.1 hbox).1
     by_cases hlt:i<l.length
     ·have hd1:decide ((i:Int)<(l.length:Int))=true:=by simp;omega
      have hget:=EP hlt
      have hc:=hrec l[i] (List.getElem_mem hlt)
      have hbo:=aD (jG ((l.take i).map fun d=>(E d).2)) (E l[i]).2 (oA fun x hx=>by
       obtain⟨d,_,rfl⟩:=List.mem_map.1 hx
       exact hrec2 d) (hrec2 _)
      simp only [rsA] at hc
      have hal:=hA.len
      rw [List.length_map,List.length_map,List.length_take,Nat.min_eq_left hi] at hal
      repeat (first|(apply fw;focus ((with_reducible constructor)<;>constructor))|((first|with_reducible refine ga _ rfl fun Y y=>?_|(refine ca ?_;apply Exists.intro;constructor;assumption;intro Y y)|apply ri);simp only [zb,seval,w40,hd1,hget,kcc,aK];refine fz y ?_;clear y Y))
      refine WpA.region ?_
      (try simp only [St.put]);(refine WpL.op rfl (aA (P:=Tryz.prog) rfl) (aE (by simp only [zb,seval,w40,kcc,aK];rfl) (by first|(simp;done)|omega|(simp;omega))) ?_);simp only [St.put];(refine WpL.op rfl (aA (P:=Tryz.prog) rfl) (aE (by simp only [zb,seval,w40,kcc,aK];rfl) (by first|(simp;done)|omega|(simp;omega))) ?_);simp only [St.put];(refine WpL.op rfl (aA (P:=Tryz.prog) rfl) (aE (by simp only [zb,seval,w40,kcc,aK];rfl) (by first|(simp;done)|omega|(simp;omega))) ?_);simp only [St.put]
      obtain⟨S8,j,hA8,hj8,hl8,hfr8,hpl8,hop8⟩:=dJ (P:=Tryz.prog) (T:=29) (by_:=176) bL bM bO (by omega) (S:=S++[some ⟨28,6,[l[i].cc]⟩,some ⟨31,11,[(E l[i]).1.cc]⟩,some ⟨31,11,[(E l[i]).1.cc]⟩]) (hA.app _) (q:=S.length+2) (new:=[(E l[i]).1.cc]) (bB _ _ _ _ _) (by simp) (fun n e=>by have:=hA.lt e;omega) (by simp;omega) (by simp;omega)
      simp only [List.length_cons,List.length_nil,Nat.zero_add] at hop8 hA8
      refine WpL.aop rfl (hop8 _ _ _ rfl rfl) ?_
      simp only [St.put]
      have hs:max (jG ((l.take i).map fun d=>(E d).2)) (E l[i]).2=jG ((l.take (i+1)).map fun d=>(E d).2):=by rw [iB _ hlt,nG]
      (refine WpL.go _ rfl fun Y y=>?_);repeat (first|(apply fw;focus ((with_reducible constructor)<;>constructor))|((first|with_reducible refine ga _ rfl fun Y y=>?_|apply ri);simp only [zb,seval,w40,hw2,hs];refine fz y ?_;clear y Y))
      have hpl:cO=.ms j (((l.take i).map fun d=>(E d).1).map K.cc).length∨S.length≤j:=hpl8.imp id fun q=>by rw [List.length_append] at q;omega
      refine⟨l.length-(i+1),_,by omega,Le.sub (by simp [Sub,find]),i+1,S8,.ms j ((((l.take i).map fun d=>(E d).1).map K.cc).length+1),rfl,hlt,?_,hfr8 1 _ (aM hbox) hne0,fun m e=>?_,rfl⟩
      ·rw [iB _ hlt,List.map_append];exact hA8
      ·have:=(C.ms.inj e).1
       rcases hpl with q|q
       ·exact hne0 _ (this▸q)
       ·omega
     ·have hd0:decide ((i:Int)<(l.length:Int))=false:=by simp;omega
      have hii:i=l.length:=by omega
      subst hii
      rw [List.take_length] at hA ⊢
      have hsq:=oZ (l.map fun d=>(E d).1)
      repeat (first|(apply fw;focus ((with_reducible constructor)<;>constructor)))
      ((with_reducible refine ga _ rfl fun Y y=>?_);simp only [zb,seval,w40,hd0];(refine RunTo.fn y (by first|(simp;done)|omega|(simp;omega)) ?_);clear y Y);repeat (first|(apply fw;focus ((with_reducible constructor)<;>constructor)))
      refine WpA.frzAt 11 hA.au (rM _) rfl fun S1 hl1 ho1=>?_
      have h01:=ho1 1 _ hbox hne0
      have hS3:=(List.getElem?_eq_some_iff.1 h01).1
      have hset0:∀(a:Option Ob),(S1.set 1 a)[1]?=some a:=fun a=>List.getElem?_set_self hS3
      repeat (first|(apply fw;focus ((with_reducible constructor)<;>constructor))|((first|with_reducible refine ga _ rfl fun Y y=>?_|(refine ca ?_;apply Exists.intro;constructor;assumption;intro Y y)|apply ri);simp only [zb,seval,w40,kcc,h01];refine fz y ?_;clear y Y))
      refine ye (by simp only [zb,seval,w40,kcc,hset0];rfl) (by simp only [zv,kcc,hset0];rfl) ?_
      rfl
def YD:Nat→Int
 | 0=>0
 | 1=>6
 | _=>8
noncomputable def wV (d:D):K × Int:=if yF d=true then (if (pT d).2=0 then (pT d).1 else kz,YD (pT d).2) else (kz,1)
def onA (r:K × Int):A:=.tup [.agg r.1.cc,.one (.v (.int .i64 r.2))]
theorem UY {d:D} (hok:d.Ok) (h:yF d=true):Gd (d.msr+1) d:=by
 have h1:dT d=true:=(Bool.and_eq_true_iff.1 h).1
 exact⟨(eB.1 h1).two,hok,Nat.lt_succ_self _⟩
theorem PX (d:D) (hg:Gd (d.msr+1) d) (hm:d.msr+1≤100000000):Pure Tryz.prog 40 [.agg d.cc] (rsA (pT d))∧(pT d).2≤2 :=
 ⟨JR (MG _ hm) _ d (Nat.lt_succ_self _) hg,FQ (MG _ hm) _ d⟩
theorem WP (d:D) (hok:d.Ok) (hc:d.count<1000000000) (hm:d.msr+1≤100000000):Pure Tryz.prog 17 [.agg d.cc] (onA (wV d)):=by
 have hmy:=DM d hok hc
 cases hb:yF d with
 | false =>
  rw [hb] at hmy
  rw [show wV d=(kz,1) by unfold wV;rw [hb];rfl]
  simp only [onA]
  refine fi Tryz.func17 Tryz.ntmps17 Tryz.results17 ?_
  repeat (first|(apply fw;focus ((with_reducible constructor)<;>constructor))|((first|with_reducible refine ga _ rfl fun Y y=>?_|(refine ca ?_;apply Exists.intro;constructor;assumption;intro Y y)|apply ri);simp only [zb,seval,w17,kcc];refine fz y ?_;clear y Y))
  refine yl (by simp only [zb,seval,w17,kcc];rfl) (by simp only [zv,kcc];rfl) ((by simp only [rcc];exact ae)) rfl
 | true =>
  obtain⟨ht,hle⟩:=PX d (UY hok hb) hm
  have his:Pure Tryz.prog 41 [.one (.er (pT d).2),.one (.gv 0)] (.one (.v (.bool (decide ((pT d).2=1))))):=EW (pT d).2 0 hle (by omega)
  rw [hb] at hmy
  rw [show wV d=(if (pT d).2=0 then (pT d).1 else kz,YD (pT d).2) by unfold wV;rw [hb];rfl]
  simp only [rsA] at ht
  simp only [onA]
  generalize pT d=x at *
  obtain⟨k,n⟩:=x
  dsimp only at *
  have hn:n=0∨n=1∨n=2:=by omega
  rcases hn with rfl|rfl|rfl
  ·rw [if_pos rfl]
   refine fi Tryz.func17 Tryz.ntmps17 Tryz.results17 ?_
   repeat (first|(apply fw;focus ((with_reducible constructor)<;>constructor))|((first|with_reducible refine ga _ rfl fun Y y=>?_|(refine ca ?_;apply Exists.intro;constructor;assumption;intro Y y)|apply ri);simp only [zb,seval,w17,kcc];refine fz y ?_;clear y Y))
   refine ye (by simp only [zb,seval,w17,kcc];rfl) (by simp only [zv,kcc];rfl) ?_
   rfl
  all_goals
   rw [if_neg (by decide)]
   refine fi Tryz.func17 Tryz.ntmps17 Tryz.results17 ?_
   repeat (first|(apply fw;focus ((with_reducible constructor)<;>constructor))|((first|with_reducible refine ga _ rfl fun Y y=>?_|(refine ca ?_;apply Exists.intro;constructor;assumption;intro Y y)|apply ri);simp only [zb,seval,w17,kcc];refine fz y ?_;clear y Y))
   refine yl (by simp only [zb,seval,w17,kcc];rfl) (by simp only [zv,kcc];rfl) ((by simp only [rcc];exact ae)) rfl
theorem D.cc_bd (k:Nat) (d:D):∀c∈d.cc,C.bd k c=true:=by rw [D.cc_eq];simp [C.bd]
def one1:D:=nY 1
end Go.Proofs.YtaeioidifpebdaaGreatDoor
end
