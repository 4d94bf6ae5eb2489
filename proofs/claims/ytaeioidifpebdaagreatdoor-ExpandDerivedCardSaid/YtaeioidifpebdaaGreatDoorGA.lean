/-
 Laid together: MayD18, Wr18, Ws18, RList, Awk18.
-/
import Derived.Test.YtaeioidifpebdaaGreatDoorG3
import Derived.Test.YtaeioidifpebdaaGreatDoorMay
import Derived.Test.YtaeioidifpebdaaGreatDoorG9
import Derived.Test.YtaeioidifpebdaaGreatDoorG5
import Derived.Test.YtaeioidifpebdaaGreatDoorG4
import Derived.Test.YtaeioidifpebdaaGreatDoorG6
section
namespace Go.Proofs.YtaeioidifpebdaaGreatDoor
open Go Go.RowKit Go.Lib
theorem RG (d:D) (hok:d.Ok) (hb:d.count<1000000000):Pure Tryz.prog 39 [.agg d.cc] (.one (.v (.bool (lP d)))):=by
 refine fU rfl fun w vs hg hv=>?_
 obtain⟨v,rfl,hv1⟩:=hv.one1
 exact WH d w v hok hb hg.tabs hv1.isD
end Go.Proofs.YtaeioidifpebdaaGreatDoor
end
section
namespace Go.Proofs.YtaeioidifpebdaaGreatDoor
open Go Go.RowKit Go.Lib
set_option linter.unusedSimpArgs false
set_option linter.unusedVariables false
set_option maxHeartbeats 4000000
set_option maxRecDepth 100000
theorem GW {n:Nat} {ev:Ev} (hE:HE n ev):∀(m:Nat) (d:D),(lR ev m d).2≤2
 | 0,d=>Nat.zero_le _
 | m+1,d=>by
  unfold lR
  repeat' split
  ·exact xE hE _
  ·exact hE.e2 d
  ·exact Nat.zero_le _
  ·exact oY fun x hx=>by
    obtain⟨d,_,rfl⟩:=List.mem_map.1 hx
    exact GW hE m d
def aAP (d:D) (E:D→Rs) (l:List D) (n:Nat) (st:St):Prop:=∃(i:Nat) (S:List (Option Ob)) (cO:C),n=l.length-i∧i≤l.length∧At 31 11 S cO (((l.take i).map fun d=>(E d).1).map K.cc) ∧
 S[1]?=some (some ⟨31,11,[[.v (.int .i64 0),.v (.string ⟨#[]⟩),.v (.string ⟨#[]⟩),.v (.slice none 0 0),.v (.int .i64 0),.v (.int .i32 0),.v (.bool false),.v (.slice none 0 0),.v (.string ⟨#[]⟩),.v (.slice none 0 0),.v (.slice none 0 0)]]⟩)∧(∀n,cO≠.ms 1 n) ∧
 st=⟨[(51,.one (.v (.int .i64 i))),(50,.one (.v (.int .i64 l.length))),(49,.one (.sl 6 (l.map D.cc))),(2,.one (.ptr 1 1 0 0)),(3,.one (.er 0)),(11,.one cO),(12,.one (.er (gW ((l.take i).map fun d=>(E d).2))))],S⟩
theorem KQ {n:Nat} {ev:Ev} (hE:HE n ev):∀(m:Nat) (d:D),d.msr<m→Gd n d→Pure Tryz.prog 40 [.agg d.cc] (rsA (lR ev m d))
 | 0,d,h,_=>absurd h (Nat.not_lt_zero _)
 | m+1,d,hm,hd=>by
  have hbig:=hE.big
  have hh1:=pS n d cA hd (by omega)
  have hh2:=pS n d bS hd (by omega)
  have hx:=hE.e d hd
  cases ho:dL d cA with
  | some l =>
   obtain⟨g1,g2⟩:=iD hd ho
   have hdf:=rN hE l g1
   rw [show lR ev (m+1) d=(.mk 4 (fF ev l).1 e0 [] cJ [(fF ev l).2.1],(fF ev l).2.2) by rw [lR,ho]]
   rw [ho] at hh1
   simp only [mW] at hh1
   simp only [dfA] at hdf
   simp only [rsA]
   refine fi Tryz.func40 Tryz.ntmps40 Tryz.results40 ?_
   repeat (first|(apply fw;focus ((with_reducible constructor)<;>constructor))|((first|with_reducible refine ga _ rfl fun Y y=>?_|(refine ca ?_;apply Exists.intro;constructor;assumption;intro Y y)|apply ri);simp only [zb,seval,w40,kcc];refine fz y ?_;clear y Y))
   refine yl (by simp only [zb,seval,w40,kcc];rfl) (by simp only [zv,kcc];rfl) ((by simp only [rcc];exact ae)) rfl
  | none =>
   rw [ho] at hh1
   cases hb:dL d bS with
   | none =>
    rw [show lR ev (m+1) d=ev.e d by rw [lR,ho];dsimp only;rw [hb]]
    rw [hb] at hh2
    simp only [mW] at hh1 hh2
    simp only [rsA] at hx ⊢
    refine fi Tryz.func40 Tryz.ntmps40 Tryz.results40 ?_
    repeat (first|(apply fw;focus ((with_reducible constructor)<;>constructor))|((first|with_reducible refine ga _ rfl fun Y y=>?_|(refine ca ?_;apply Exists.intro;constructor;assumption;intro Y y)|apply ri);simp only [zb,seval,w40,kcc];refine fz y ?_;clear y Y))
    refine ye (by simp only [zb,seval,w40,kcc];rfl) (by simp only [zv,kcc];rfl) ?_
    rfl
   | some l =>
    obtain⟨g1,g2⟩:=iD hd hb
    rw [hb] at hh2
    simp only [mW] at hh1 hh2
    by_cases hl0:l=[]
    ·subst hl0
     have hno:=hG
     rw [show lR ev (m+1) d=(bR,0) by rw [lR,ho];dsimp only;rw [hb]]
     simp only [rsA]
     refine fi Tryz.func40 Tryz.ntmps40 Tryz.results40 ?_
     repeat (first|(apply fw;focus ((with_reducible constructor)<;>constructor))|((first|with_reducible refine ga _ rfl fun Y y=>?_|(refine ca ?_;apply Exists.intro;constructor;assumption;intro Y y)|apply ri);simp only [zb,seval,w40,kcc];refine fz y ?_;clear y Y))
     refine ye (by simp only [zb,seval,w40,kcc];rfl) (by simp only [zv,kcc];rfl) ?_
     rfl
    ·have hne:((l.length:Int) == 0)=false:=by
      have:l.length≠0:=fun h=>hl0 (List.length_eq_zero_iff.1 h)
      simp;exact hl0
     have hlen:=g1.len
     have hml:(l.map D.cc).length=l.length:=List.length_map ..
     rw [show lR ev (m+1) d=(gV (l.map fun x=>(lR ev m x).1),gW (l.map fun x=>(lR ev m x).2)) by
      obtain⟨a,r,rfl⟩:∃a r,l=a::r:=by
       match l,hl0 with
       | a::r,_=>exact⟨a,r,rfl⟩
      rw [lR,ho];dsimp only;rw [hb]]
     have hrec:∀x∈l,Pure Tryz.prog 40 [.agg x.cc] (rsA (lR ev m x)):=fun x hx=>KQ hE m x (by have:=sK hx;omega) (g1.mem hx)
     have hrec2:∀x,(lR ev m x).2≤2:=GW hE m
     generalize lR ev m=E at hrec hrec2 ⊢
     refine fi Tryz.func40 Tryz.ntmps40 Tryz.results40 ?_
     repeat (first|(apply fw;focus ((with_reducible constructor)<;>constructor))|((first|with_reducible refine ga _ rfl fun Y y=>?_|(refine ca ?_;apply Exists.intro;constructor;assumption;intro Y y)|apply ri);simp only [zb,seval,w40,kcc,hne,hml];refine fz y ?_;clear y Y))
     refine WpA.loop (aAP d E l) l.length (st0:=⟨[(51,.one (.v (.int .i64 (0:Nat)))),(50,.one (.v (.int .i64 l.length))),(49,.one (.sl 6 (l.map D.cc))),(2,.one (.ptr 1 1 0 0)),(3,.one (.er 0)),(11,.one (.v (.slice none 0 0))),(12,.one (.er 0))],[some ⟨28,6,[d.cc]⟩,some ⟨31,11,[[.v (.int .i64 0),.v (.string ⟨#[]⟩),.v (.string ⟨#[]⟩),.v (.slice none 0 0),.v (.int .i64 0),.v (.int .i32 0),.v (.bool false),.v (.slice none 0 0),.v (.string ⟨#[]⟩),.v (.slice none 0 0),.v (.slice none 0 0)]]⟩]⟩) (Le.sub (by simp [Sub,find]))
      ⟨0,_,_,rfl,Nat.zero_le _,At.nil _ _ _,rfl,(fun n e=>by cases e),rfl⟩ ?_
     intro n' st hI
     obtain⟨i,S,cO,rfl,hi,hA,hbox,hne0,rfl⟩:=hI
     have hw2:IntKind.i64.wrap ((i:Int)+1)=((i+1:Nat):Int):=by rw [dP (by omega) (by omega)];omega
     have hS1:=(List.getElem?_eq_some_iff.1 hbox).1
     by_cases hlt:i<l.length
     ·have hd1:decide ((i:Int)<(l.length:Int))=true:=by simp;omega
      have hget:=zQ hlt
      have hc:=hrec l[i] (List.getElem_mem hlt)
      have hbo:=aF (gW ((l.take i).map fun d=>(E d).2)) (E l[i]).2 (oY fun x hx=>by
       obtain⟨d,_,rfl⟩:=List.mem_map.1 hx
       exact hrec2 d) (hrec2 _)
      simp only [rsA] at hc
      have hal:=hA.len
      rw [List.length_map,List.length_map,List.length_take,Nat.min_eq_left hi] at hal
      repeat (first|(apply fw;focus ((with_reducible constructor)<;>constructor))|((first|with_reducible refine ga _ rfl fun Y y=>?_|(refine ca ?_;apply Exists.intro;constructor;assumption;intro Y y)|apply ri);simp only [zb,seval,w40,hd1,hget,kcc,aO];refine fz y ?_;clear y Y))
      refine WpA.region ?_
      (try simp only [St.put]);(refine WpL.op rfl (aD (P:=Tryz.prog) rfl) (aJ (by simp only [zb,seval,w40,kcc,aO];rfl) (by first|(simp;done)|omega|(simp;omega))) ?_);simp only [St.put];(refine WpL.op rfl (aD (P:=Tryz.prog) rfl) (aJ (by simp only [zb,seval,w40,kcc,aO];rfl) (by first|(simp;done)|omega|(simp;omega))) ?_);simp only [St.put];(refine WpL.op rfl (aD (P:=Tryz.prog) rfl) (aJ (by simp only [zb,seval,w40,kcc,aO];rfl) (by first|(simp;done)|omega|(simp;omega))) ?_);simp only [St.put]
      obtain⟨S8,j,hA8,hj8,hl8,hfr8,hpl8,hop8⟩:=fQ (P:=Tryz.prog) (T:=29) (by_:=176) bT bU bW (by omega) (S:=S++[some ⟨28,6,[l[i].cc]⟩,some ⟨31,11,[(E l[i]).1.cc]⟩,some ⟨31,11,[(E l[i]).1.cc]⟩]) (hA.app _) (q:=S.length+2) (new:=[(E l[i]).1.cc]) (sN _ _ _ _ _) (by simp) (fun n e=>by have:=hA.lt e;omega) (by simp;omega) (by simp;omega)
      simp only [List.length_cons,List.length_nil,Nat.zero_add] at hop8 hA8
      refine WpL.aop rfl (hop8 _ _ _ rfl rfl) ?_
      simp only [St.put]
      have hs:max (gW ((l.take i).map fun d=>(E d).2)) (E l[i]).2=gW ((l.take (i+1)).map fun d=>(E d).2):=by rw [iI _ hlt,nV]
      (refine WpL.go _ rfl fun Y y=>?_);repeat (first|(apply fw;focus ((with_reducible constructor)<;>constructor))|((first|with_reducible refine ga _ rfl fun Y y=>?_|apply ri);simp only [zb,seval,w40,hw2,hs];refine fz y ?_;clear y Y))
      have hpl:cO=.ms j (((l.take i).map fun d=>(E d).1).map K.cc).length∨S.length≤j:=hpl8.imp id fun q=>by rw [List.length_append] at q;omega
      refine⟨l.length-(i+1),_,by omega,Le.sub (by simp [Sub,find]),i+1,S8,.ms j ((((l.take i).map fun d=>(E d).1).map K.cc).length+1),rfl,hlt,?_,hfr8 1 _ (dC hbox) hne0,fun m e=>?_,rfl⟩
      ·rw [iI _ hlt,List.map_append];exact hA8
      ·have:=(C.ms.inj e).1
       rcases hpl with q|q
       ·exact hne0 _ (this▸q)
       ·omega
     ·have hd0:decide ((i:Int)<(l.length:Int))=false:=by simp;omega
      have hii:i=l.length:=by omega
      subst hii
      rw [List.take_length] at hA ⊢
      have hsq:=pT (l.map fun d=>(E d).1)
      repeat (first|(apply fw;focus ((with_reducible constructor)<;>constructor)))
      ((with_reducible refine ga _ rfl fun Y y=>?_);simp only [zb,seval,w40,hd0];(refine RunTo.fn y (by first|(simp;done)|omega|(simp;omega)) ?_);clear y Y);repeat (first|(apply fw;focus ((with_reducible constructor)<;>constructor)))
      refine WpA.frzAt 11 hA.au (sP _) rfl fun S1 hl1 ho1=>?_
      have h01:=ho1 1 _ hbox hne0
      have hS3:=(List.getElem?_eq_some_iff.1 h01).1
      have hset0:∀(a:Option Ob),(S1.set 1 a)[1]?=some a:=fun a=>List.getElem?_set_self hS3
      repeat (first|(apply fw;focus ((with_reducible constructor)<;>constructor))|((first|with_reducible refine ga _ rfl fun Y y=>?_|(refine ca ?_;apply Exists.intro;constructor;assumption;intro Y y)|apply ri);simp only [zb,seval,w40,kcc,h01];refine fz y ?_;clear y Y))
      refine ye (by simp only [zb,seval,w40,kcc,hset0];rfl) (by simp only [zv,kcc,hset0];rfl) ?_
      rfl
def ZZ:Nat→Int
 | 0=>0
 | 1=>6
 | _=>8
noncomputable def pH (d:D):K × Int:=if lP d=true then (if (fX d).2=0 then (fX d).1 else kz,ZZ (fX d).2) else (kz,1)
def onA (r:K × Int):A:=.tup [.agg r.1.cc,.one (.v (.int .i64 r.2))]
theorem WI {d:D} (hok:d.Ok) (h:lP d=true):Gd (d.msr+1) d:=by
 have h1:cE d=true:=(Bool.and_eq_true_iff.1 h).1
 exact⟨(dD.1 h1).two,hok,Nat.lt_succ_self _⟩
theorem RH (d:D) (hg:Gd (d.msr+1) d) (hm:d.msr+1≤100000000):Pure Tryz.prog 40 [.agg d.cc] (rsA (fX d))∧(fX d).2≤2 :=
 ⟨KQ (NC _ hm) _ d (Nat.lt_succ_self _) hg,GW (NC _ hm) _ d⟩
theorem CQ (d:D) (hok:d.Ok) (hc:d.count<1000000000) (hm:d.msr+1≤100000000):Pure Tryz.prog 17 [.agg d.cc] (onA (pH d)):=by
 have hmy:=RG d hok hc
 cases hb:lP d with
 | false =>
  rw [hb] at hmy
  rw [show pH d=(kz,1) by unfold pH;rw [hb];rfl]
  simp only [onA]
  refine fi Tryz.func17 Tryz.ntmps17 Tryz.results17 ?_
  repeat (first|(apply fw;focus ((with_reducible constructor)<;>constructor))|((first|with_reducible refine ga _ rfl fun Y y=>?_|(refine ca ?_;apply Exists.intro;constructor;assumption;intro Y y)|apply ri);simp only [zb,seval,w17,kcc];refine fz y ?_;clear y Y))
  refine yl (by simp only [zb,seval,w17,kcc];rfl) (by simp only [zv,kcc];rfl) ((by simp only [rcc];exact ae)) rfl
 | true =>
  obtain⟨ht,hle⟩:=RH d (WI hok hb) hm
  have his:Pure Tryz.prog 41 [.one (.er (fX d).2),.one (.gv 0)] (.one (.v (.bool (decide ((fX d).2=1))))):=GG (fX d).2 0 hle (by omega)
  rw [hb] at hmy
  rw [show pH d=(if (fX d).2=0 then (fX d).1 else kz,ZZ (fX d).2) by unfold pH;rw [hb];rfl]
  simp only [rsA] at ht
  simp only [onA]
  generalize fX d=x at *
  obtain⟨k,n⟩:=x
  dsimp only at *
  have hn:n=0∨n=1∨n=2:=by omega
  rcases hn with rfl|rfl|rfl
  ·rw [if_pos rfl]
   refine fi Tryz.func17 Tryz.ntmps17 Tryz.results17 ?_
   repeat (first|(apply fw;focus ((with_reducible constructor)<;>constructor))|((first|with_reducible refine ga _ rfl fun Y y=>?_|(refine ca ?_;apply Exists.intro;constructor;assumption;intro Y y)|apply ri);simp only [zb,seval,w17,kcc];refine fz y ?_;clear y Y))
   refine ye (by simp only [zb,seval,w17,kcc];rfl) (by simp only [zv,kcc];rfl) ?_
   rfl
  all_goals
   rw [if_neg (by decide)]
   refine fi Tryz.func17 Tryz.ntmps17 Tryz.results17 ?_
   repeat (first|(apply fw;focus ((with_reducible constructor)<;>constructor))|((first|with_reducible refine ga _ rfl fun Y y=>?_|(refine ca ?_;apply Exists.intro;constructor;assumption;intro Y y)|apply ri);simp only [zb,seval,w17,kcc];refine fz y ?_;clear y Y))
   refine yl (by simp only [zb,seval,w17,kcc];rfl) (by simp only [zv,kcc];rfl) ((by simp only [rcc];exact ae)) rfl
theorem D.cc_bd (k:Nat) (d:D):∀c∈d.cc,C.bd k c=true:=by rw [D.cc_eq];simp [C.bd]
def D.co (d:D):List C:=[.v (.int .i64 d.k),.v (.int .i32 d.c),.v (.bool d.neg),.sl 1 (d.mag.map fun n=>[.v (.int .u32 n)]),.v (.string d.t),.sl 6 (d.l.map D.cc)]
def RLI (l:List D) (n:Nat) (st:St):Prop:=n≤l.length ∧
 st=⟨[(4,.one (.v (.int .i64 ((n:Int)-1)))),(0,.one (.sl 6 (l.map D.cc))),(3,.one (.ptr 1 1 0 0)),(2,.one (.ptr 0 1 0 0))],
  [some ⟨28,6,[[.v (.int .i64 0),.v (.int .i32 0),.v (.bool false),.v (.slice none 0 0),.v (.string ⟨#[]⟩),.v (.slice none 0 0)]]⟩,some ⟨28,6,[[.v (.int .i64 (aB (l.drop n)).k),.v (.int .i32 (aB (l.drop n)).c),.v (.bool (aB (l.drop n)).neg),.sl 1 ((aB (l.drop n)).mag.map fun n=>[.v (.int .u32 n)]),.v (.string (aB (l.drop n)).t),.sl 6 ((aB (l.drop n)).l.map D.cc)]]⟩]⟩
theorem NJ (l:List D) (hlen:l.length≤1000000):Pure Tryz.prog 44 [.one (.sl 6 (l.map D.cc))] (.agg (aB l).cc):=by
 have hw0:IntKind.i64.wrap ((l.length:Int)-1)=(l.length:Int)-1:=dP (by omega) (by omega)
 rw [D.cc_eq (aB l)]
 refine fi Tryz.func44 Tryz.ntmps44 Tryz.results44 ?_
 repeat (first|(apply fw;focus ((with_reducible constructor)<;>constructor))|((first|with_reducible refine ga _ rfl fun Y y=>?_|apply ri);simp only [zb,seval,w44,hw0];refine fz y ?_;clear y Y))
 refine WpA.loop (RLI l) l.length ?_ ⟨Nat.le_refl _,rfl⟩ ?_
 ·refine Le.freeze (fun _=>false) ⟨rfl,by simp,fun j b hb=>?_⟩ (by simp [SubZ,find,FzA,FzC])
  match j,hb with
  | 0,hb=>exact⟨rfl,b,hb,rfl,rfl,FzR.same _ _ _⟩
  | 1,hb =>
   simp [aB,cJ] at hb
   subst hb
   exact⟨rfl,_,rfl,rfl,rfl,⟨.inl rfl,.inl rfl,.inl rfl,FzC.nil,.inl rfl,FzC.nil,trivial⟩,trivial⟩
  | j+2,hb=>simp at hb
 intro n st hI
 obtain⟨hn,rfl⟩:=hI
 rcases n with _|n
 ·have hz:((0:Nat):Int)-1 = -1:=rfl
  rw [hz]
  have hf:decide ((0:Int)≤-1)=false:=rfl
  repeat (first|(apply fw;focus ((with_reducible constructor)<;>constructor))|((first|with_reducible refine ga _ rfl fun Y y=>?_|apply ri);simp only [zb,seval,w44,hf];refine fz y ?_;clear y Y))
  repeat (first|(apply fw;focus ((with_reducible constructor)<;>constructor))|((first|with_reducible refine ga _ rfl fun Y y=>?_|apply ri);simp only [zb,seval,w44,hf];refine fz y ?_;clear y Y))
  refine ye (by simp only [zb,seval,w44];rfl) (by simp only [zv];rfl) ?_
  rfl
 have hge:((n+1:Nat):Int)-1=(n:Int):=by omega
 have hw2:IntKind.i64.wrap ((n:Int)-1)=(n:Int)-1:=dP (by omega) (by omega)
 have hlt:n<l.length:=by omega
 have hget:=zQ hlt
 rw [D.cc_eq] at hget
 have hg0:decide ((n:Int) ≥ 0)=true:=by simp
 have hg1:decide (0≤(n:Int))=true:=by simp
 rw [hge]
 repeat (first|(apply fw;focus ((with_reducible constructor)<;>constructor))|((first|with_reducible refine ga _ rfl fun Y y=>?_|apply ri);simp only [zb,seval,w44,hg0,hg1];refine fz y ?_;clear y Y))
 (refine WpA.draw1 7 [5] ([some ⟨28,6,[[.v (.int .i64 0),.v (.int .i32 0),.v (.bool false),.v (.slice none 0 0),.v (.string ⟨#[]⟩),.v (.slice none 0 0)]]⟩,some ⟨28,6,[[.v (.int .i64 (aB (l.drop (n+1))).k),.v (.int .i32 (aB (l.drop (n+1))).c),.v (.bool (aB (l.drop (n+1))).neg),.sl 1 ((aB (l.drop (n+1))).mag.map fun n=>[.v (.int .u32 n)]),.v (.string (aB (l.drop (n+1))).t),.sl 6 ((aB (l.drop (n+1))).l.map D.cc)]]⟩]) [_,?_] _ _ _ _ rfl rfl rfl (by kernel_rfl) (by kernel_rfl) (by kernel_rfl) (by kernel_rfl) rfl rfl rfl rfl (by decide) fun K8 hK8=>?_);rotate_left 1;simp only [zz] at hK8 ⊢;(refine Draw1.go fun K7 k=>?_);simp only [zb,seval,w44,hget];(refine qz (k _ _ (by rfl) ?_));clear k K7;(simp only [zz,Nat.reduceAdd,Nat.reduceSub]);(try ((refine nz (hK8 _ ?_));clear hK8 K8;(refine WpL.go _ rfl fun Y y=>?_);repeat (first|(apply fw;focus ((with_reducible constructor)<;>constructor))|((first|with_reducible refine ga _ rfl fun Y y=>?_|apply ri);simp only [zb,seval,w44,hget];refine fz y ?_;clear y Y))))
 refine Draw1.eff 0 rfl rfl rfl (OpS.eff [(16,_),(17,_)] rfl (by rfl) ⟨rfl,rfl,trivial⟩ (by simp only [zb,seval,w44,hw2];rfl) (by first|(simp;done)|omega|(simp;omega))) ?_;(try simp only [bD]);(try ((refine Draw1.go fun K7 k=>?_);simp only [zb,seval,w44,hw2];(refine qz (k _ _ (by rfl) ?_));clear k K7;(simp only [zz,Nat.reduceAdd,Nat.reduceSub]);(try ((refine nz (hK8 _ ?_));clear hK8 K8;(refine WpL.go _ rfl fun Y y=>?_);repeat (first|(apply fw;focus ((with_reducible constructor)<;>constructor))|((first|with_reducible refine ga _ rfl fun Y y=>?_|apply ri);simp only [zb,seval,w44,hw2];refine fz y ?_;clear y Y))))))
 refine⟨n,_,by omega,?_,by omega,rfl⟩
 have hdl:aB (l.drop n)=.mk 7 0 false [] ⟨#[]⟩ [l[n],aB (l.drop (n+1))]:=by rw [List.drop_eq_getElem_cons hlt];rfl
 refine Le.trans (Le.freeze (S':=[some ⟨28,6,[[.v (.int .i64 0),.v (.int .i32 0),.v (.bool false),.v (.slice none 0 0),.v (.string ⟨#[]⟩),.v (.slice none 0 0)]]⟩,some ⟨28,6,[D.co (aB (l.drop n))]⟩,none]) (e':=[(4,.one (.v (.int .i64 ((n:Int)-1)))),(0,.one (.sl 6 (l.map D.cc))),(3,.one (.ptr 1 1 0 0)),(2,.one (.ptr 0 1 0 0))]) (fun i=>i == 2) ⟨rfl,fun j ob hj ho=>?_,fun j b hb=>?_⟩ (by simp [SubZ,find,FzA,FzC])) (Le.drop 2 (Nat.zero_le _) rfl (by simp [Sub,find]) rfl (by simp [ObBd,C.bd]))
 ·obtain rfl:j=2:=by simpa using hj
  simp at ho
  subst ho
  simp [C.shut]
 ·match j,hb with
  | 0,hb=>exact⟨rfl,b,hb,rfl,rfl,FzR.same _ _ _⟩
  | 1,hb =>
   simp at hb
   subst hb
   refine⟨rfl,_,rfl,rfl,rfl,?_,trivial⟩
   rw [hdl]
   refine⟨.inl rfl,.inl rfl,.inl rfl,FzC.nil,.inl rfl,?_,trivial⟩
   simp only [D.l,List.map_cons,List.map_nil]
   rw [D.cc_eq l[n],D.cc_eq (aB (l.drop (n+1)))]
   exact FzC.ms rfl rfl rfl
  | 2,hb=>simp at hb
  | j+3,hb=>simp at hb
theorem dcc:(∀(d:D) (r:List C),List.take 6 (d.cc++r)=d.cc)∧(∀(d:D) (r:List C),List.drop 6 (d.cc++r)=r)∧(∀(d:D) (r:List C),List.take 12 (d.cc++r)=d.cc++List.take 6 r)∧(∀(d:D) (r:List C),List.drop 12 (d.cc++r)=List.drop 6 r)∧(∀(d:D) (r:List C),List.take 18 (d.cc++r)=d.cc++List.take 12 r)∧(∀(d:D) (r:List C),List.drop 18 (d.cc++r)=List.drop 12 r)∧(∀(d:D) (r:List C),List.take 24 (d.cc++r)=d.cc++List.take 18 r)∧(∀(d:D) (r:List C),List.drop 24 (d.cc++r)=List.drop 18 r)∧(∀(d:D) (r:List C),(d.cc++r).length=r.length+6):=by
 have h:∀d:D,d.cc.length=6:=D.cc_len
 refine⟨?_,?_,?_,?_,?_,?_,?_,?_,fun d r=>by rw [List.length_append,h];omega⟩<;>intro d r<;>first|rw [List.take_append,h,List.take_of_length_le (by rw [h];omega)]|rw [List.drop_append,h,List.drop_of_length_le (by rw [h];omega)]
 all_goals simp
theorem dW (s:ByteArray):Pure Tryz.prog 21 [.one (.v (.string s))] (.agg (aE s).cc):=by
 rw [D.cc_eq]
 refine fi Tryz.func21 Tryz.ntmps21 Tryz.results21 ?_
 repeat (first|(apply fw;focus ((with_reducible constructor)<;>constructor))|((first|with_reducible refine ga _ rfl fun Y y=>?_|apply ri);simp only [zb,seval,w21];refine fz y ?_;clear y Y))
 refine yl (by simp only [zb,seval,w21];rfl) (by simp only [zv];rfl) ((by exact ae)) rfl
theorem aN (l:List D) (hlen:l.length≤1000000):Pure Tryz.prog 23 [.one (.sl 6 (l.map D.cc))] (.agg (aB l).cc):=by
 have h:=NJ l hlen
 refine fi Tryz.func23 Tryz.ntmps23 Tryz.results23 ?_
 repeat (first|(apply fw;focus ((with_reducible constructor)<;>constructor))|((first|with_reducible refine ga _ rfl fun Y y=>?_|(refine ca ?_;apply Exists.intro;constructor;assumption;intro Y y)|apply ri);simp only [zb,seval,w23,kcc,dcc];refine fz y ?_;clear y Y))
 refine ye (by simp only [zb,seval,w23,kcc,dcc];rfl) (by simp only [zv,kcc,dcc];rfl) ?_
 rfl
def sa:ByteArray:=⟨#[97]⟩
def one1:D:=eE 1
def dA1:D:=aB [aE fH,aB [aB [aE sa,one1]],aE sa]
def dA2:D:=aB [aB [aE aQ,aB [aE sa],aE sa],one1]
def dA3:D:=aB [aE dX]
def kA:K:=jZ [.mk 6 e0 e0 [sa] cJ [bP sa],dY one1]
theorem NK:iP sa=false:=YC (by simp only [jM,List.mem_cons,List.not_mem_nil,or_false];decide)
theorem YK (ev:Ev) (h:ev.e (aE sa)=(bP sa,0)):vH ev [aE sa]=(bP sa,0):=by
 rw [EM ev (by simp) (fun d hd=>by simp at hd;subst hd;exact⟨AG (by decide) _,AG (by decide) _⟩),wW,h]
theorem rB (s:ByteArray) (h:s.size≤1000):(aE s).Ok:=vL (by omega)
theorem YL:dA1.Ok:=iZ ⟨rB _ (by decide),iZ ⟨iZ ⟨rB _ (by decide),AF (by decide),trivial⟩,trivial⟩,rB _ (by decide),trivial⟩
theorem YM:dA2.Ok:=iZ ⟨iZ ⟨rB _ (by decide),iZ ⟨rB _ (by decide),trivial⟩,rB _ (by decide),trivial⟩,AF (by decide),trivial⟩
theorem YN:dA3.Ok:=iZ ⟨rB _ (by decide),trivial⟩
theorem PE:gX sa 1=true:=by decide
theorem WJ:gX fH 1=true:=by decide
theorem NL:gX aQ 1=true:=by decide
theorem UH:gX dX 1=true:=by decide
theorem WK:lP dA1=true:=oA.2 ⟨gF.2 ⟨(jN _).2 WJ,gF.2 ⟨gF.2 ⟨(jN _).2 PE,vI (.inl rfl),trivial⟩,trivial⟩,(jN _).2 PE,trivial⟩,by
 simp [dA1,mH,JX,tR,one1,vJ]⟩
theorem WM:lP dA2=true:=oA.2 ⟨gF.2 ⟨gF.2 ⟨(jN _).2 NL,gF.2 ⟨(jN _).2 PE,trivial⟩,(jN _).2 PE,trivial⟩,vI (.inl rfl),trivial⟩,by
 simp [dA2,mH,JX,tR,one1,vJ]⟩
theorem WN:lP dA3=true:=oA.2 ⟨gF.2 ⟨(jN _).2 UH,trivial⟩,by
 simp [dA3,mH,JX,tR]⟩
theorem KR {n:Nat} (h:2≤n):∃m,n=m+2:=⟨n-2,by omega⟩
theorem XP (n:Nat):(evs (n+1)).b [aE sa]=(bP sa,0):=by
 rw [evs];dsimp only;exact YK ⟨dV (evs n),(evs n).b,(evs n).q⟩ (EJ (evs n) NK)
theorem UI (n:Nat):(evs (n+1)).e one1=(dY one1,0):=by rw [evs];dsimp only;exact BW _ (.inl rfl)
theorem aAA (n:Nat):dA ((eU [sa] e0 (bP sa)).1::(aL (evs (n+2)).e [one1]).1)=(kA,0):=by
 rw [kJ [sa] (by decide),jE (by simp [aL])]
 simp only [aL,List.map_cons,List.map_nil,UI]
 rfl
theorem WO:pH dA1=(kA,0):=by
 unfold pH
 have h:fX dA1=(kA,0):=by
  have h1:fL (aE fH) cA=false:=by rw [oB];exact aA (by decide)
  have h2:fL (aE fH) bS=false:=by rw [oB];exact aA (by decide)
  rw [tU (by unfold dA1;rw [gJ,h1];rfl) (by unfold dA1;rw [gJ,h2];rfl)]
  obtain⟨n,hn⟩:=KR (n:=dA1.msr) (by simp [dA1,lQ,cC,wV];omega)
  rw [hn,dA1,oC _ (by simp [jM]),pQ]
  show ((dM _ _ _ _).1,max (max (max _ _) _) _)=_
  rw [nL NK,XP]
  unfold dM
  dsimp only
  rw [aAA,kJ [sa] (by decide),tW]
  simp only [aL,List.map_cons,List.map_nil,UI]
  rfl
 rw [WK,if_pos rfl,h];rfl
theorem WP:pH dA2=(kA,0):=by
 unfold pH
 have h:fX dA2=(kA,0):=by
  rw [tU (by unfold dA2;rw [gJ,GA (by decide)];rfl) (by unfold dA2;rw [gJ,GA (by decide)];rfl)]
  obtain⟨n,hn⟩:=KR (n:=dA2.msr) (by simp [dA2,lQ,cC,wV];omega)
  have hl:(evs (n+2)).e (aB [aE aQ,aB [aE sa],aE sa])=(.mk 6 e0 e0 [sa] cJ [bP sa],0):=by
   rw [evs]
   dsimp only
   rw [oC _ (by simp [jM]),nD]
   unfold cY
   rw [wY NK,XP]
   dsimp only
   rw [kJ [sa] (by decide)]
   rfl
  rw [hn,dA2,BV _ (.inl (by decide))]
  simp only [aL,List.map_cons,List.map_nil,hl,UI]
  rw [jE (by simp)]
  rfl
 rw [WM,if_pos rfl,h];rfl
theorem WQ:pH dA3=(kz,8):=by
 unfold pH
 have h:fX dA3=(kz,2):=by
  have h1:fL (aE dX) cA=false:=by rw [oB];exact aA (by decide)
  have h2:fL (aE dX) bS=false:=by rw [oB];exact aA (by decide)
  rw [tU (by unfold dA3;rw [gJ,h1];rfl) (by unfold dA3;rw [gJ,h2];rfl),dA3,oC _ (by simp [jM]),MQ]
 rw [WN,if_pos rfl,h];rfl
theorem aAB:kA.Ok:=by
 simp [kA,jZ,one1,eE,dY,bP,K.Ok,K.Oks,D.Ok,Oks,e0,sa,ByteArray.size,cJ]
theorem WR:one1.cc=[.v (.int .i64 1),.v (.int .i32 0),.v (.bool false),.sl 1 [],.v (.string ⟨#[]⟩),.sl 6 []]:=rcc.2.2.2.2.2.2.2.2.2.2.2.1 1
theorem NM:Pure Tryz.prog 11 [] (.one (.v (.bool true))):=by
 have s1:=dW fH
 have s2:=dW sa
 have s3:=dW aQ
 have s4:=dW dX
 have l1:=aN [aE sa,one1] (by decide)
 have l2:=aN [aB [aE sa,one1]] (by simp)
 have l3:=aN [aE fH,aB [aB [aE sa,one1]],aE sa] (by simp)
 have l4:=aN [aE sa] (by simp)
 have l5:=aN [aE aQ,aB [aE sa],aE sa] (by simp)
 have l6:=aN [aB [aE aQ,aB [aE sa],aE sa],one1] (by simp)
 have l7:=aN [aE dX] (by simp)
 have o1:=CQ dA1 YL (by simp [dA1,mI,hO,pP,one1,vK]) (by simp [dA1,lQ,cC,wV,one1,JZ])
 have o2:=CQ dA2 YM (by simp [dA2,mI,hO,pP,one1,vK]) (by simp [dA2,lQ,cC,wV,one1,JZ])
 have o3:=CQ dA3 YN (by simp [dA3,mI,hO,pP]) (by simp [dA3,lQ,cC,wV])
 have hs:=CD kA kA aAB
 have hk1:=sO fH
 have hk2:=sO ⟨#[99,97,114]⟩
 rw [show iP fH=true from ZT (by simp [jM])] at hk1
 rw [show iP ⟨#[99,97,114]⟩=false from YC (by simp only [jM,List.mem_cons,List.not_mem_nil,or_false];decide)] at hk2
 rw [bH rfl] at hs
 rw [WO] at o1
 rw [WP] at o2
 rw [WQ] at o3
 simp only [onA,dA1,dA2,dA3] at o1 o2 o3
 simp only [List.map_cons,List.map_nil] at l1 l2 l3 l4 l5 l6 l7
 refine fi Tryz.func11 Tryz.ntmps11 Tryz.results11 ?_
 repeat (first|(apply fw;focus ((with_reducible constructor)<;>constructor))|((first|with_reducible refine ga _ rfl fun Y y=>?_|apply ri);simp only [zb,seval,w11,kcc,dcc];refine fz y ?_;clear y Y))
 refine WpA.le (st':=⟨[(1,.one (.ptr 0 1 0 0)),(0,.one (.v (.bool false)))],[some ⟨28,6,[one1.cc]⟩]⟩) (Le.freeze (fun _=>false) (Frz.ofL ?_) ?_) ?_
 ·rw [WR]
  simp only [FrzL,FzR,FzCs]
  repeat' first|exact FzC.same _ _ _|exact FzC.nil|exact rfl|exact trivial|refine And.intro ?_ ?_|(intro hz;exact absurd hz (by decide))
 ·simp only [SubZ];exact⟨⟨_,rfl,FzA.same _ _ _⟩,⟨_,rfl,FzA.same _ _ _⟩,trivial⟩
 (refine WpA.draw1c 16 [14,15] [_,?_,?_] _ _ _ _ rfl rfl rfl (by kernel_rfl) (by kernel_rfl) (by kernel_rfl) (by kernel_rfl) rfl rfl rfl rfl (by decide) fun K8 hK8=>?_);rotate_left 2;simp only [zz] at hK8 ⊢;(refine Draw1.go fun K7 k=>?_);simp only [zb,seval,w11,kcc,dcc];(refine qz (k _ _ (by rfl) ?_));clear k K7;(simp only [zz,Nat.reduceAdd,Nat.reduceSub])
 refine Draw1.step (by rfl) (fun s9 _=>oz (s1)) ?_
 (refine Draw1.go fun K7 k=>?_);simp only [zb,seval,w11,kcc,dcc];(refine qz (k _ _ (by rfl) ?_));clear k K7;(simp only [zz,Nat.reduceAdd,Nat.reduceSub])
 refine Draw1.step (by rfl) (fun s9 _=>oz (s2)) ?_
 (refine Draw1.go fun K7 k=>?_);simp only [zb,seval,w11,kcc,dcc];(refine qz (k _ _ (by rfl) ?_));clear k K7;(simp only [zz,Nat.reduceAdd,Nat.reduceSub])
 refine Draw1.step (by rfl) (fun s9 _=>OpS.frozen (n:=2) (wd:=6) (ty:=28) (rows:=[(aE sa).cc,one1.cc]) (OpS.eff [(11,_),(12,_)] rfl (by rfl) ⟨rfl,rfl,trivial⟩ (by simp only [zb,seval,w11,kcc,dcc];rfl) (by simp)) rfl (by simp [ksh])) ?_;simp only [bD]
 refine Draw1.step (by rfl) (fun s9 _=>oz (l1)) ?_
 (refine Draw1.go fun K7 k=>?_);simp only [zb,seval,w11,kcc,dcc];(refine qz (k _ _ (by rfl) ?_));clear k K7;(simp only [zz,Nat.reduceAdd,Nat.reduceSub])
 refine Draw1.step (by rfl) (fun s9 _=>OpS.frozen (n:=1) (wd:=6) (ty:=28) (rows:=[(aB [aE sa,one1]).cc]) (OpS.eff [(14,_)] rfl (by rfl) ⟨rfl,trivial⟩ (by simp only [zb,seval,w11,kcc,dcc];rfl) (by simp)) rfl (by simp [ksh])) ?_;simp only [bD]
 refine Draw1.step (by rfl) (fun s9 _=>oz (l2)) ?_
 (refine Draw1.go fun K7 k=>?_);simp only [zb,seval,w11,kcc,dcc];(refine qz (k _ _ (by rfl) ?_));clear k K7;(simp only [zz,Nat.reduceAdd,Nat.reduceSub])
 refine Draw1.step (by rfl) (fun s9 _=>oz (s2)) ?_
 (refine Draw1.go fun K7 k=>?_);simp only [zb,seval,w11,kcc,dcc];(refine qz (k _ _ (by rfl) ?_));clear k K7;(simp only [zz,Nat.reduceAdd,Nat.reduceSub])
 refine Draw1.step (by rfl) (fun s9 _=>OpS.frozen (n:=3) (wd:=6) (ty:=28) (rows:=[(aE fH).cc,(aB [aB [aE sa,one1]]).cc,(aE sa).cc]) (OpS.eff [(10,_),(16,_),(17,_)] rfl (by rfl) ⟨rfl,rfl,rfl,trivial⟩ (by simp only [zb,seval,w11,kcc,dcc];rfl) (by simp)) rfl (by simp [ksh])) ?_;simp only [bD]
 refine Draw1.step (by rfl) (fun s9 _=>oz (l3)) ?_
 (refine Draw1.go fun K7 k=>?_);simp only [zb,seval,w11,kcc,dcc];(refine qz (k _ _ (by rfl) ?_));clear k K7;(simp only [zz,Nat.reduceAdd,Nat.reduceSub])
 refine Draw1.step (by rfl) (fun s9 _=>oz (o1)) ?_
 (refine Draw1.go fun K7 k=>?_);simp only [zb,seval,w11,kcc,dcc];(refine qz (k _ _ (by rfl) ?_));clear k K7;(simp only [zz,Nat.reduceAdd,Nat.reduceSub])
 refine Draw1.eff 0 rfl rfl rfl (OpS.eff [] rfl (by rfl) trivial (by simp only [zb,seval,w11,kcc,dcc];rfl) (by first|(simp;done)|omega|(simp;omega))) ?_;(try simp only [bD]);(try ((refine Draw1.go fun K7 k=>?_);simp only [zb,seval,w11,kcc,dcc];(refine qz (k _ _ (by rfl) ?_));clear k K7;(simp only [zz,Nat.reduceAdd,Nat.reduceSub]);(try ((refine nz (hK8 _ ?_));clear hK8 K8;(refine WpL.go _ rfl fun Y y=>?_);repeat (first|(apply fw;focus ((with_reducible constructor)<;>constructor))|((first|with_reducible refine ga _ rfl fun Y y=>?_|apply ri);simp only [zb,seval,w11,kcc,dcc];refine fz y ?_;clear y Y))))))
 refine Draw1.eff 1 rfl rfl rfl (OpS.eff [(2,_),(21,_)] rfl (by rfl) ⟨rfl,rfl,trivial⟩ (by simp only [zb,seval,w11,kcc,dcc];rfl) (by first|(simp;done)|omega|(simp;omega))) ?_;(try simp only [bD]);(try ((refine Draw1.go fun K7 k=>?_);simp only [zb,seval,w11,kcc,dcc];(refine qz (k _ _ (by rfl) ?_));clear k K7;(simp only [zz,Nat.reduceAdd,Nat.reduceSub]);(try ((refine nz (hK8 _ ?_));clear hK8 K8;(refine WpL.go _ rfl fun Y y=>?_);repeat (first|(apply fw;focus ((with_reducible constructor)<;>constructor))|((first|with_reducible refine ga _ rfl fun Y y=>?_|apply ri);simp only [zb,seval,w11,kcc,dcc];refine fz y ?_;clear y Y))))))
 (refine WpA.draw1c 16 [14,15] [_,?_,?_] _ _ _ _ rfl rfl rfl (by kernel_rfl) (by kernel_rfl) (by kernel_rfl) (by kernel_rfl) rfl rfl rfl rfl (by decide) fun K8 hK8=>?_);rotate_left 2;simp only [zz] at hK8 ⊢;(refine Draw1.go fun K7 k=>?_);simp only [zb,seval,w11,kcc,dcc];(refine qz (k _ _ (by rfl) ?_));clear k K7;(simp only [zz,Nat.reduceAdd,Nat.reduceSub])
 refine Draw1.step (by rfl) (fun s9 _=>oz (s3)) ?_
 (refine Draw1.go fun K7 k=>?_);simp only [zb,seval,w11,kcc,dcc];(refine qz (k _ _ (by rfl) ?_));clear k K7;(simp only [zz,Nat.reduceAdd,Nat.reduceSub])
 refine Draw1.step (by rfl) (fun s9 _=>oz (s2)) ?_
 (refine Draw1.go fun K7 k=>?_);simp only [zb,seval,w11,kcc,dcc];(refine qz (k _ _ (by rfl) ?_));clear k K7;(simp only [zz,Nat.reduceAdd,Nat.reduceSub])
 refine Draw1.step (by rfl) (fun s9 _=>OpS.frozen (n:=1) (wd:=6) (ty:=28) (rows:=[(aE sa).cc]) (OpS.eff [(25,_)] rfl (by rfl) ⟨rfl,trivial⟩ (by simp only [zb,seval,w11,kcc,dcc];rfl) (by simp)) rfl (by simp [ksh])) ?_;simp only [bD]
 refine Draw1.step (by rfl) (fun s9 _=>oz (l4)) ?_
 (refine Draw1.go fun K7 k=>?_);simp only [zb,seval,w11,kcc,dcc];(refine qz (k _ _ (by rfl) ?_));clear k K7;(simp only [zz,Nat.reduceAdd,Nat.reduceSub])
 refine Draw1.step (by rfl) (fun s9 _=>oz (s2)) ?_
 (refine Draw1.go fun K7 k=>?_);simp only [zb,seval,w11,kcc,dcc];(refine qz (k _ _ (by rfl) ?_));clear k K7;(simp only [zz,Nat.reduceAdd,Nat.reduceSub])
 refine Draw1.step (by rfl) (fun s9 _=>OpS.frozen (n:=3) (wd:=6) (ty:=28) (rows:=[(aE aQ).cc,(aB [aE sa]).cc,(aE sa).cc]) (OpS.eff [(24,_),(27,_),(28,_)] rfl (by rfl) ⟨rfl,rfl,rfl,trivial⟩ (by simp only [zb,seval,w11,kcc,dcc];rfl) (by simp)) rfl (by simp [ksh])) ?_;simp only [bD]
 refine Draw1.step (by rfl) (fun s9 _=>oz (l5)) ?_
 (refine Draw1.go fun K7 k=>?_);simp only [zb,seval,w11,kcc,dcc];(refine qz (k _ _ (by rfl) ?_));clear k K7;(simp only [zz,Nat.reduceAdd,Nat.reduceSub])
 refine Draw1.step (by rfl) (fun s9 _=>OpS.frozen (n:=2) (wd:=6) (ty:=28) (rows:=[(aB [aE aQ,aB [aE sa],aE sa]).cc,one1.cc]) (OpS.eff [(30,_),(31,_)] rfl (by rfl) ⟨rfl,rfl,trivial⟩ (by simp only [zb,seval,w11,kcc,dcc];rfl) (by simp)) rfl (by simp [ksh])) ?_;simp only [bD]
 refine Draw1.step (by rfl) (fun s9 _=>oz (l6)) ?_
 (refine Draw1.go fun K7 k=>?_);simp only [zb,seval,w11,kcc,dcc];(refine qz (k _ _ (by rfl) ?_));clear k K7;(simp only [zz,Nat.reduceAdd,Nat.reduceSub])
 refine Draw1.step (by rfl) (fun s9 _=>oz (o2)) ?_
 (refine Draw1.go fun K7 k=>?_);simp only [zb,seval,w11,kcc,dcc];(refine qz (k _ _ (by rfl) ?_));clear k K7;(simp only [zz,Nat.reduceAdd,Nat.reduceSub])
 refine Draw1.eff 0 rfl rfl rfl (OpS.eff [] rfl (by rfl) trivial (by simp only [zb,seval,w11,kcc,dcc];rfl) (by first|(simp;done)|omega|(simp;omega))) ?_;(try simp only [bD]);(try ((refine Draw1.go fun K7 k=>?_);simp only [zb,seval,w11,kcc,dcc];(refine qz (k _ _ (by rfl) ?_));clear k K7;(simp only [zz,Nat.reduceAdd,Nat.reduceSub]);(try ((refine nz (hK8 _ ?_));clear hK8 K8;(refine WpL.go _ rfl fun Y y=>?_);repeat (first|(apply fw;focus ((with_reducible constructor)<;>constructor))|((first|with_reducible refine ga _ rfl fun Y y=>?_|apply ri);simp only [zb,seval,w11,kcc,dcc];refine fz y ?_;clear y Y))))))
 refine Draw1.eff 1 rfl rfl rfl (OpS.eff [(4,_),(35,_)] rfl (by rfl) ⟨rfl,rfl,trivial⟩ (by simp only [zb,seval,w11,kcc,dcc];rfl) (by first|(simp;done)|omega|(simp;omega))) ?_;(try simp only [bD]);(try ((refine Draw1.go fun K7 k=>?_);simp only [zb,seval,w11,kcc,dcc];(refine qz (k _ _ (by rfl) ?_));clear k K7;(simp only [zz,Nat.reduceAdd,Nat.reduceSub]);(try ((refine nz (hK8 _ ?_));clear hK8 K8;(refine WpL.go _ rfl fun Y y=>?_);repeat (first|(apply fw;focus ((with_reducible constructor)<;>constructor))|((first|with_reducible refine ga _ rfl fun Y y=>?_|apply ri);simp only [zb,seval,w11,kcc,dcc];refine fz y ?_;clear y Y))))))
 refine cz (s4) ?_
 (refine WpL.go _ rfl fun Y y=>?_);repeat (first|(apply fw;focus ((with_reducible constructor)<;>constructor))|((first|with_reducible refine ga _ rfl fun Y y=>?_|apply ri);simp only [zb,seval,w11,kcc,dcc];refine fz y ?_;clear y Y))
 (refine WpL.frz 39 (3) (by rfl) (by first|rfl|(simp only [zz,kcc];rfl)|(simp only [zz,kcc])) (by first|rfl|(simp [kcc];done)|(simp [kcc];omega)) (by simp [ksh]) ?_);simp only [zz,kcc]
 repeat (first|(apply fw;focus ((with_reducible constructor)<;>constructor))|((first|with_reducible refine ga _ rfl fun Y y=>?_|(refine ca ?_;apply Exists.intro;constructor;assumption;intro Y y)|apply ri);simp only [zb,seval,w11,kcc,dcc];refine fz y ?_;clear y Y))
 refine ye (by simp only [zb,seval,w11,kcc,dcc];rfl) (by simp only [zv,kcc,dcc];rfl) ?_
 rfl
end Go.Proofs.YtaeioidifpebdaaGreatDoor
end
