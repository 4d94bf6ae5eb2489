/-
 Laid together: MayD18, Wr18, Ws18, RList, Awk18.
-/
import Derived.Test.YtaeioidifpebdaaGreatDoorG3
import Derived.Test.YtaeioidifpebdaaGreatDoorMay
import Derived.Test.YtaeioidifpebdaaGreatDoorG9
import Derived.Test.YtaeioidifpebdaaGreatDoorG5
import Derived.Test.YtaeioidifpebdaaGreatDoorG4
import Derived.Test.YtaeioidifpebdaaGreatDoorG6
section
namespace Go.Proofs.YtaeioidifpebdaaGreatDoor
open Go Go.RowKit Go.Lib
theorem PB (d:D) (hok:d.Ok) (hb:d.count<1000000000):Pure Tryz.prog 39 [.agg d.cc] (.one (.v (.bool (oD d)))):=by
 refine fB rfl fun w vs hg hv=>?_
 obtain⟨v,rfl,hv1⟩:=hv.one1
 exact UE d w v hok hb hg.tabs hv1.isD
end Go.Proofs.YtaeioidifpebdaaGreatDoor
end
section
namespace Go.Proofs.YtaeioidifpebdaaGreatDoor
open Go Go.RowKit Go.Lib
set_option linter.unusedSimpArgs false
set_option linter.unusedVariables false
set_option maxHeartbeats 4000000
set_option maxRecDepth 100000
theorem FB {n:Nat} {ev:Ev} (hE:HE n ev):∀(m:Nat) (d:D),(oV ev m d).2≤2
 | 0,d=>Nat.zero_le _
 | m+1,d=>by
  unfold oV
  repeat' split
  ·exact vR hE _
  ·exact hE.e2 d
  ·exact Nat.zero_le _
  ·exact nV fun x hx=>by
    obtain⟨d,_,rfl⟩:=List.mem_map.1 hx
    exact FB hE m d
def YK (d:D) (E:D→Rs) (l:List D) (n:Nat) (st:St):Prop:=∃(i:Nat) (S:List (Option Ob)) (cO:C),n=l.length-i∧i≤l.length∧At 31 11 S cO (((l.take i).map fun d=>(E d).1).map K.cc) ∧
 S[1]?=some (some ⟨31,11,[[.v (.int .i64 0),.v (.string ⟨#[]⟩),.v (.string ⟨#[]⟩),.v (.slice none 0 0),.v (.int .i64 0),.v (.int .i32 0),.v (.bool false),.v (.slice none 0 0),.v (.string ⟨#[]⟩),.v (.slice none 0 0),.v (.slice none 0 0)]]⟩)∧(∀n,cO≠.ms 1 n) ∧
 st=⟨[(51,.one (.v (.int .i64 i))),(50,.one (.v (.int .i64 l.length))),(49,.one (.sl 6 (l.map D.cc))),(2,.one (.ptr 1 1 0 0)),(3,.one (.er 0)),(11,.one cO),(12,.one (.er (iX ((l.take i).map fun d=>(E d).2))))],S⟩
theorem IY {n:Nat} {ev:Ev} (hE:HE n ev):∀(m:Nat) (d:D),d.msr<m→Gd n d→Pure Tryz.prog 40 [.agg d.cc] (rsA (oV ev m d))
 | 0,d,h,_=>absurd h (Nat.not_lt_zero _)
 | m+1,d,hm,hd=>by
  have hbig:=hE.big
  have hh1:=oY n d gG hd (by omega)
  have hh2:=oY n d eE hd (by omega)
  have hx:=hE.e d hd
  cases ho:eM d gG with
  | some l =>
   obtain⟨g1,g2⟩:=nH hd ho
   have hdf:=qP hE l g1
   rw [show oV ev (m+1) d=(.mk 4 (gF ev l).1 e0 [] cH [(gF ev l).2.1],(gF ev l).2.2) by rw [oV,ho]]
   rw [ho] at hh1
   simp only [lW] at hh1
   simp only [dfA] at hdf
   simp only [rsA]
   refine fi Tryz.func40 Tryz.ntmps40 Tryz.results40 ?_
   repeat (first|(apply fw;focus ((with_reducible constructor)<;>constructor))|((first|with_reducible refine ga _ rfl fun Y y=>?_|(refine ca ?_;apply Exists.intro;constructor;assumption;intro Y y)|apply ri);simp only [zb,seval,w40,kcc];refine fz y ?_;clear y Y))
   refine yl (by simp only [zb,seval,w40,kcc];rfl) (by simp only [zv,kcc];rfl) ((by simp only [rcc];exact ae)) rfl
  | none =>
   rw [ho] at hh1
   cases hb:eM d eE with
   | none =>
    rw [show oV ev (m+1) d=ev.e d by rw [oV,ho];dsimp only;rw [hb]]
    rw [hb] at hh2
    simp only [lW] at hh1 hh2
    simp only [rsA] at hx ⊢
    refine fi Tryz.func40 Tryz.ntmps40 Tryz.results40 ?_
    repeat (first|(apply fw;focus ((with_reducible constructor)<;>constructor))|((first|with_reducible refine ga _ rfl fun Y y=>?_|(refine ca ?_;apply Exists.intro;constructor;assumption;intro Y y)|apply ri);simp only [zb,seval,w40,kcc];refine fz y ?_;clear y Y))
    refine ye (by simp only [zb,seval,w40,kcc];rfl) (by simp only [zv,kcc];rfl) ?_
    rfl
   | some l =>
    obtain⟨g1,g2⟩:=nH hd hb
    rw [hb] at hh2
    simp only [lW] at hh1 hh2
    by_cases hl0:l=[]
    ·subst hl0
     have hno:=gT
     rw [show oV ev (m+1) d=(bU,0) by rw [oV,ho];dsimp only;rw [hb]]
     simp only [rsA]
     refine fi Tryz.func40 Tryz.ntmps40 Tryz.results40 ?_
     repeat (first|(apply fw;focus ((with_reducible constructor)<;>constructor))|((first|with_reducible refine ga _ rfl fun Y y=>?_|(refine ca ?_;apply Exists.intro;constructor;assumption;intro Y y)|apply ri);simp only [zb,seval,w40,kcc];refine fz y ?_;clear y Y))
     refine ye (by simp only [zb,seval,w40,kcc];rfl) (by simp only [zv,kcc];rfl) ?_
     rfl
    ·have hne:((l.length:Int) == 0)=false:=by
      have:l.length≠0:=fun h=>hl0 (List.length_eq_zero_iff.1 h)
      simp;exact hl0
     have hlen:=g1.len
     have hml:(l.map D.cc).length=l.length:=List.length_map ..
     rw [show oV ev (m+1) d=(gR (l.map fun x=>(oV ev m x).1),iX (l.map fun x=>(oV ev m x).2)) by
      obtain⟨a,r,rfl⟩:∃a r,l=a::r:=by
       match l,hl0 with
       | a::r,_=>exact⟨a,r,rfl⟩
      rw [oV,ho];dsimp only;rw [hb]]
     have hrec:∀x∈l,Pure Tryz.prog 40 [.agg x.cc] (rsA (oV ev m x)):=fun x hx=>IY hE m x (by have:=vJ hx;omega) (g1.mem hx)
     have hrec2:∀x,(oV ev m x).2≤2:=FB hE m
     generalize oV ev m=E at hrec hrec2 ⊢
     refine fi Tryz.func40 Tryz.ntmps40 Tryz.results40 ?_
     repeat (first|(apply fw;focus ((with_reducible constructor)<;>constructor))|((first|with_reducible refine ga _ rfl fun Y y=>?_|(refine ca ?_;apply Exists.intro;constructor;assumption;intro Y y)|apply ri);simp only [zb,seval,w40,kcc,hne,hml];refine fz y ?_;clear y Y))
     refine WpA.loop (YK d E l) l.length (st0:=⟨[(51,.one (.v (.int .i64 (0:Nat)))),(50,.one (.v (.int .i64 l.length))),(49,.one (.sl 6 (l.map D.cc))),(2,.one (.ptr 1 1 0 0)),(3,.one (.er 0)),(11,.one (.v (.slice none 0 0))),(12,.one (.er 0))],[some ⟨28,6,[d.cc]⟩,some ⟨31,11,[[.v (.int .i64 0),.v (.string ⟨#[]⟩),.v (.string ⟨#[]⟩),.v (.slice none 0 0),.v (.int .i64 0),.v (.int .i32 0),.v (.bool false),.v (.slice none 0 0),.v (.string ⟨#[]⟩),.v (.slice none 0 0),.v (.slice none 0 0)]]⟩]⟩) (Le.sub (by simp [Sub,find]))
      ⟨0,_,_,rfl,Nat.zero_le _,At.nil _ _ _,rfl,(fun n e=>by cases e),rfl⟩ ?_
     intro n' st hI
     obtain⟨i,S,cO,rfl,hi,hA,hbox,hne0,rfl⟩:=hI
     have hw2:IntKind.i64.wrap ((i:Int)+1)=((i+1:Nat):Int):=by rw [dA (by omega) (by omega)];omega
     have hS1:=(List.getElem?_eq_some_iff.1 hbox).1
     by_cases hlt:i<l.length
     ·have hd1:decide ((i:Int)<(l.length:Int))=true:=by simp;omega
      have hget:=vF hlt
      have hc:=hrec l[i] (List.getElem_mem hlt)
      have hbo:=aD (iX ((l.take i).map fun d=>(E d).2)) (E l[i]).2 (nV fun x hx=>by
       obtain⟨d,_,rfl⟩:=List.mem_map.1 hx
       exact hrec2 d) (hrec2 _)
      simp only [rsA] at hc
      have hal:=hA.len
      rw [List.length_map,List.length_map,List.length_take,Nat.min_eq_left hi] at hal
      repeat (first|(apply fw;focus ((with_reducible constructor)<;>constructor))|((first|with_reducible refine ga _ rfl fun Y y=>?_|(refine ca ?_;apply Exists.intro;constructor;assumption;intro Y y)|apply ri);simp only [zb,seval,w40,hd1,hget,kcc,aK];refine fz y ?_;clear y Y))
      refine WpA.region ?_
      (try simp only [St.put]);(refine WpL.op rfl (aB (P:=Tryz.prog) rfl) (aH (by simp only [zb,seval,w40,kcc,aK];rfl) (by first|(simp;done)|omega|(simp;omega))) ?_);simp only [St.put];(refine WpL.op rfl (aB (P:=Tryz.prog) rfl) (aH (by simp only [zb,seval,w40,kcc,aK];rfl) (by first|(simp;done)|omega|(simp;omega))) ?_);simp only [St.put];(refine WpL.op rfl (aB (P:=Tryz.prog) rfl) (aH (by simp only [zb,seval,w40,kcc,aK];rfl) (by first|(simp;done)|omega|(simp;omega))) ?_);simp only [St.put]
      obtain⟨S8,j,hA8,hj8,hl8,hfr8,hpl8,hop8⟩:=fK (P:=Tryz.prog) (T:=29) (by_:=176) bM bO bP (by omega) (S:=S++[some ⟨28,6,[l[i].cc]⟩,some ⟨31,11,[(E l[i]).1.cc]⟩,some ⟨31,11,[(E l[i]).1.cc]⟩]) (hA.app _) (q:=S.length+2) (new:=[(E l[i]).1.cc]) (rP _ _ _ _ _) (by simp) (fun n e=>by have:=hA.lt e;omega) (by simp;omega) (by simp;omega)
      simp only [List.length_cons,List.length_nil,Nat.zero_add] at hop8 hA8
      refine WpL.aop rfl (hop8 _ _ _ rfl rfl) ?_
      simp only [St.put]
      have hs:max (iX ((l.take i).map fun d=>(E d).2)) (E l[i]).2=iX ((l.take (i+1)).map fun d=>(E d).2):=by rw [hG _ hlt,mY]
      (refine WpL.go _ rfl fun Y y=>?_);repeat (first|(apply fw;focus ((with_reducible constructor)<;>constructor))|((first|with_reducible refine ga _ rfl fun Y y=>?_|apply ri);simp only [zb,seval,w40,hw2,hs];refine fz y ?_;clear y Y))
      have hpl:cO=.ms j (((l.take i).map fun d=>(E d).1).map K.cc).length∨S.length≤j:=hpl8.imp id fun q=>by rw [List.length_append] at q;omega
      refine⟨l.length-(i+1),_,by omega,Le.sub (by simp [Sub,find]),i+1,S8,.ms j ((((l.take i).map fun d=>(E d).1).map K.cc).length+1),rfl,hlt,?_,hfr8 1 _ (dB hbox) hne0,fun m e=>?_,rfl⟩
      ·rw [hG _ hlt,List.map_append];exact hA8
      ·have:=(C.ms.inj e).1
       rcases hpl with q|q
       ·exact hne0 _ (this▸q)
       ·omega
     ·have hd0:decide ((i:Int)<(l.length:Int))=false:=by simp;omega
      have hii:i=l.length:=by omega
      subst hii
      rw [List.take_length] at hA ⊢
      have hsq:=oZ (l.map fun d=>(E d).1)
      repeat (first|(apply fw;focus ((with_reducible constructor)<;>constructor)))
      ((with_reducible refine ga _ rfl fun Y y=>?_);simp only [zb,seval,w40,hd0];(refine RunTo.fn y (by first|(simp;done)|omega|(simp;omega)) ?_);clear y Y);repeat (first|(apply fw;focus ((with_reducible constructor)<;>constructor)))
      refine WpA.frzAt 11 hA.au (rQ _) rfl fun S1 hl1 ho1=>?_
      have h01:=ho1 1 _ hbox hne0
      have hS3:=(List.getElem?_eq_some_iff.1 h01).1
      have hset0:∀(a:Option Ob),(S1.set 1 a)[1]?=some a:=fun a=>List.getElem?_set_self hS3
      repeat (first|(apply fw;focus ((with_reducible constructor)<;>constructor))|((first|with_reducible refine ga _ rfl fun Y y=>?_|(refine ca ?_;apply Exists.intro;constructor;assumption;intro Y y)|apply ri);simp only [zb,seval,w40,kcc,h01];refine fz y ?_;clear y Y))
      refine ye (by simp only [zb,seval,w40,kcc,hset0];rfl) (by simp only [zv,kcc,hset0];rfl) ?_
      rfl
def XR:Nat→Int
 | 0=>0
 | 1=>6
 | _=>8
noncomputable def qW (d:D):K × Int:=if oD d=true then (if (oE d).2=0 then (oE d).1 else kz,XR (oE d).2) else (kz,1)
def onA (r:K × Int):A:=.tup [.agg r.1.cc,.one (.v (.int .i64 r.2))]
theorem UF {d:D} (hok:d.Ok) (h:oD d=true):Gd (d.msr+1) d:=by
 have h1:cA d=true:=(Bool.and_eq_true_iff.1 h).1
 exact⟨(dC.1 h1).two,hok,Nat.lt_succ_self _⟩
theorem PC (d:D) (hg:Gd (d.msr+1) d) (hm:d.msr+1≤100000000):Pure Tryz.prog 40 [.agg d.cc] (rsA (oE d))∧(oE d).2≤2 :=
 ⟨IY (LC _ hm) _ d (Nat.lt_succ_self _) hg,FB (LC _ hm) _ d⟩
theorem FC (d:D) (hok:d.Ok) (hc:d.count<1000000000) (hm:d.msr+1≤100000000):Pure Tryz.prog 17 [.agg d.cc] (onA (qW d)):=by
 have hmy:=PB d hok hc
 cases hb:oD d with
 | false =>
  rw [hb] at hmy
  rw [show qW d=(kz,1) by unfold qW;rw [hb];rfl]
  simp only [onA]
  refine fi Tryz.func17 Tryz.ntmps17 Tryz.results17 ?_
  repeat (first|(apply fw;focus ((with_reducible constructor)<;>constructor))|((first|with_reducible refine ga _ rfl fun Y y=>?_|(refine ca ?_;apply Exists.intro;constructor;assumption;intro Y y)|apply ri);simp only [zb,seval,w17,kcc];refine fz y ?_;clear y Y))
  refine yl (by simp only [zb,seval,w17,kcc];rfl) (by simp only [zv,kcc];rfl) ((by simp only [rcc];exact ae)) rfl
 | true =>
  obtain⟨ht,hle⟩:=PC d (UF hok hb) hm
  have his:Pure Tryz.prog 41 [.one (.er (oE d).2),.one (.gv 0)] (.one (.v (.bool (decide ((oE d).2=1))))):=EM (oE d).2 0 hle (by omega)
  rw [hb] at hmy
  rw [show qW d=(if (oE d).2=0 then (oE d).1 else kz,XR (oE d).2) by unfold qW;rw [hb];rfl]
  simp only [rsA] at ht
  simp only [onA]
  generalize oE d=x at *
  obtain⟨k,n⟩:=x
  dsimp only at *
  have hn:n=0∨n=1∨n=2:=by omega
  rcases hn with rfl|rfl|rfl
  ·rw [if_pos rfl]
   refine fi Tryz.func17 Tryz.ntmps17 Tryz.results17 ?_
   repeat (first|(apply fw;focus ((with_reducible constructor)<;>constructor))|((first|with_reducible refine ga _ rfl fun Y y=>?_|(refine ca ?_;apply Exists.intro;constructor;assumption;intro Y y)|apply ri);simp only [zb,seval,w17,kcc];refine fz y ?_;clear y Y))
   refine ye (by simp only [zb,seval,w17,kcc];rfl) (by simp only [zv,kcc];rfl) ?_
   rfl
  all_goals
   rw [if_neg (by decide)]
   refine fi Tryz.func17 Tryz.ntmps17 Tryz.results17 ?_
   repeat (first|(apply fw;focus ((with_reducible constructor)<;>constructor))|((first|with_reducible refine ga _ rfl fun Y y=>?_|(refine ca ?_;apply Exists.intro;constructor;assumption;intro Y y)|apply ri);simp only [zb,seval,w17,kcc];refine fz y ?_;clear y Y))
   refine yl (by simp only [zb,seval,w17,kcc];rfl) (by simp only [zv,kcc];rfl) ((by simp only [rcc];exact ae)) rfl
theorem D.cc_bd (k:Nat) (d:D):∀c∈d.cc,C.bd k c=true:=by rw [D.cc_eq];simp [C.bd]
def D.co (d:D):List C:=[.v (.int .i64 d.k),.v (.int .i32 d.c),.v (.bool d.neg),.sl 1 (d.mag.map fun n=>[.v (.int .u32 n)]),.v (.string d.t),.sl 6 (d.l.map D.cc)]
def RLI (l:List D) (n:Nat) (st:St):Prop:=n≤l.length ∧
 st=⟨[(4,.one (.v (.int .i64 ((n:Int)-1)))),(0,.one (.sl 6 (l.map D.cc))),(3,.one (.ptr 1 1 0 0)),(2,.one (.ptr 0 1 0 0))],
  [some ⟨28,6,[[.v (.int .i64 0),.v (.int .i32 0),.v (.bool false),.v (.slice none 0 0),.v (.string ⟨#[]⟩),.v (.slice none 0 0)]]⟩,some ⟨28,6,[[.v (.int .i64 (aE (l.drop n)).k),.v (.int .i32 (aE (l.drop n)).c),.v (.bool (aE (l.drop n)).neg),.sl 1 ((aE (l.drop n)).mag.map fun n=>[.v (.int .u32 n)]),.v (.string (aE (l.drop n)).t),.sl 6 ((aE (l.drop n)).l.map D.cc)]]⟩]⟩
theorem LI (l:List D) (hlen:l.length≤1000000):Pure Tryz.prog 44 [.one (.sl 6 (l.map D.cc))] (.agg (aE l).cc):=by
 have hw0:IntKind.i64.wrap ((l.length:Int)-1)=(l.length:Int)-1:=dA (by omega) (by omega)
 rw [D.cc_eq (aE l)]
 refine fi Tryz.func44 Tryz.ntmps44 Tryz.results44 ?_
 repeat (first|(apply fw;focus ((with_reducible constructor)<;>constructor))|((first|with_reducible refine ga _ rfl fun Y y=>?_|apply ri);simp only [zb,seval,w44,hw0];refine fz y ?_;clear y Y))
 refine WpA.loop (RLI l) l.length ?_ ⟨Nat.le_refl _,rfl⟩ ?_
 ·refine Le.freeze (fun _=>false) ⟨rfl,by simp,fun j b hb=>?_⟩ (by simp [SubZ,find,FzA,FzC])
  match j,hb with
  | 0,hb=>exact⟨rfl,b,hb,rfl,rfl,FzR.same _ _ _⟩
  | 1,hb =>
   simp [aE,cH] at hb
   subst hb
   exact⟨rfl,_,rfl,rfl,rfl,⟨.inl rfl,.inl rfl,.inl rfl,FzC.nil,.inl rfl,FzC.nil,trivial⟩,trivial⟩
  | j+2,hb=>simp at hb
 intro n st hI
 obtain⟨hn,rfl⟩:=hI
 rcases n with _|n
 ·have hz:((0:Nat):Int)-1 = -1:=rfl
  rw [hz]
  have hf:decide ((0:Int)≤-1)=false:=rfl
  repeat (first|(apply fw;focus ((with_reducible constructor)<;>constructor))|((first|with_reducible refine ga _ rfl fun Y y=>?_|apply ri);simp only [zb,seval,w44,hf];refine fz y ?_;clear y Y))
  repeat (first|(apply fw;focus ((with_reducible constructor)<;>constructor))|((first|with_reducible refine ga _ rfl fun Y y=>?_|apply ri);simp only [zb,seval,w44,hf];refine fz y ?_;clear y Y))
  refine ye (by simp only [zb,seval,w44];rfl) (by simp only [zv];rfl) ?_
  rfl
 have hge:((n+1:Nat):Int)-1=(n:Int):=by omega
 have hw2:IntKind.i64.wrap ((n:Int)-1)=(n:Int)-1:=dA (by omega) (by omega)
 have hlt:n<l.length:=by omega
 have hget:=vF hlt
 rw [D.cc_eq] at hget
 have hg0:decide ((n:Int) ≥ 0)=true:=by simp
 have hg1:decide (0≤(n:Int))=true:=by simp
 rw [hge]
 repeat (first|(apply fw;focus ((with_reducible constructor)<;>constructor))|((first|with_reducible refine ga _ rfl fun Y y=>?_|apply ri);simp only [zb,seval,w44,hg0,hg1];refine fz y ?_;clear y Y))
 (refine WpA.draw1 7 [5] ([some ⟨28,6,[[.v (.int .i64 0),.v (.int .i32 0),.v (.bool false),.v (.slice none 0 0),.v (.string ⟨#[]⟩),.v (.slice none 0 0)]]⟩,some ⟨28,6,[[.v (.int .i64 (aE (l.drop (n+1))).k),.v (.int .i32 (aE (l.drop (n+1))).c),.v (.bool (aE (l.drop (n+1))).neg),.sl 1 ((aE (l.drop (n+1))).mag.map fun n=>[.v (.int .u32 n)]),.v (.string (aE (l.drop (n+1))).t),.sl 6 ((aE (l.drop (n+1))).l.map D.cc)]]⟩]) [_,?_] _ _ _ _ rfl rfl rfl (by kernel_rfl) (by kernel_rfl) (by kernel_rfl) (by kernel_rfl) rfl rfl rfl rfl (by decide) fun K8 hK8=>?_);rotate_left 1;simp only [zz] at hK8 ⊢;(refine Draw1.go fun K7 k=>?_);simp only [zb,seval,w44,hget];(refine qz (k _ _ (by rfl) ?_));clear k K7;(simp only [zz,Nat.reduceAdd,Nat.reduceSub]);(try ((refine nz (hK8 _ ?_));clear hK8 K8;(refine WpL.go _ rfl fun Y y=>?_);repeat (first|(apply fw;focus ((with_reducible constructor)<;>constructor))|((first|with_reducible refine ga _ rfl fun Y y=>?_|apply ri);simp only [zb,seval,w44,hget];refine fz y ?_;clear y Y))))
 refine Draw1.eff 0 rfl rfl rfl (OpS.eff [(16,_),(17,_)] rfl (by rfl) ⟨rfl,rfl,trivial⟩ (by simp only [zb,seval,w44,hw2];rfl) (by first|(simp;done)|omega|(simp;omega))) ?_;(try simp only [bH]);(try ((refine Draw1.go fun K7 k=>?_);simp only [zb,seval,w44,hw2];(refine qz (k _ _ (by rfl) ?_));clear k K7;(simp only [zz,Nat.reduceAdd,Nat.reduceSub]);(try ((refine nz (hK8 _ ?_));clear hK8 K8;(refine WpL.go _ rfl fun Y y=>?_);repeat (first|(apply fw;focus ((with_reducible constructor)<;>constructor))|((first|with_reducible refine ga _ rfl fun Y y=>?_|apply ri);simp only [zb,seval,w44,hw2];refine fz y ?_;clear y Y))))))
 refine⟨n,_,by omega,?_,by omega,rfl⟩
 have hdl:aE (l.drop n)=.mk 7 0 false [] ⟨#[]⟩ [l[n],aE (l.drop (n+1))]:=by rw [List.drop_eq_getElem_cons hlt];rfl
 refine Le.trans (Le.freeze (S':=[some ⟨28,6,[[.v (.int .i64 0),.v (.int .i32 0),.v (.bool false),.v (.slice none 0 0),.v (.string ⟨#[]⟩),.v (.slice none 0 0)]]⟩,some ⟨28,6,[D.co (aE (l.drop n))]⟩,none]) (e':=[(4,.one (.v (.int .i64 ((n:Int)-1)))),(0,.one (.sl 6 (l.map D.cc))),(3,.one (.ptr 1 1 0 0)),(2,.one (.ptr 0 1 0 0))]) (fun i=>i == 2) ⟨rfl,fun j ob hj ho=>?_,fun j b hb=>?_⟩ (by simp [SubZ,find,FzA,FzC])) (Le.drop 2 (Nat.zero_le _) rfl (by simp [Sub,find]) rfl (by simp [ObBd,C.bd]))
 ·obtain rfl:j=2:=by simpa using hj
  simp at ho
  subst ho
  simp [C.shut]
 ·match j,hb with
  | 0,hb=>exact⟨rfl,b,hb,rfl,rfl,FzR.same _ _ _⟩
  | 1,hb =>
   simp at hb
   subst hb
   refine⟨rfl,_,rfl,rfl,rfl,?_,trivial⟩
   rw [hdl]
   refine⟨.inl rfl,.inl rfl,.inl rfl,FzC.nil,.inl rfl,?_,trivial⟩
   simp only [D.l,List.map_cons,List.map_nil]
   rw [D.cc_eq l[n],D.cc_eq (aE (l.drop (n+1)))]
   exact FzC.ms rfl rfl rfl
  | 2,hb=>simp at hb
  | j+3,hb=>simp at hb
def RII (d:D) (n:Nat) (st:St):Prop:=∃(x:D) (pre:List D),n=x.ht∧items d=pre++items x∧fS d=fS x ∧
 ((pre=[]∧st=⟨[(4,.one (.v (.slice none 0 0))),(1,.one (.ptr 0 1 0 0)),(2,.one (.v (.slice none 0 0))),(3,.one (.v (.bool false)))],
  [some ⟨28,6,[[.v (.int .i64 x.k),.v (.int .i32 x.c),.v (.bool x.neg),.sl 1 (x.mag.map fun n=>[.v (.int .u32 n)]),.v (.string x.t),.sl 6 (x.l.map D.cc)]]⟩]⟩) ∨
  (pre≠[]∧st=⟨[(4,.one (.ms 2 pre.length)),(1,.one (.ptr 0 1 0 0)),(2,.one (.v (.slice none 0 0))),(3,.one (.v (.bool false)))],
  [some ⟨28,6,[[.v (.int .i64 x.k),.v (.int .i32 x.c),.v (.bool x.neg),.sl 1 (x.mag.map fun n=>[.v (.int .u32 n)]),.v (.string x.t),.sl 6 (x.l.map D.cc)]]⟩,none,some ⟨28,6,pre.map D.cc⟩]⟩))
theorem xO (d:D) (hlen:(items d).length≤1000000):Pure Tryz.prog 45 [.agg d.cc] (.tup [.one (.sl 6 ((if fS d=0 then items d else []).map D.cc)),.one (.v (.bool (decide (fS d=0))))]):=by
 rw [D.cc_eq d]
 refine fi Tryz.func45 Tryz.ntmps45 Tryz.results45 ?_
 repeat (first|(apply fw;focus ((with_reducible constructor)<;>constructor))|((first|with_reducible refine ga _ rfl fun Y y=>?_|apply ri);simp only [zb,seval,w45];refine fz y ?_;clear y Y))
 refine WpA.loop (RII d) d.ht ?_ ⟨d,[],rfl,rfl,rfl,.inl ⟨rfl,rfl⟩⟩ ?_
 ·exact Le.drop 1 (Nat.zero_le _) rfl (by simp [Sub,find]) rfl (by simp [ObBd,C.bd])
 intro n' st hI
 obtain⟨x,pre,rfl,hit,hend,hI⟩:=hI
 have h22:(((2:Nat):Int) == 2)=true:=rfl
 cases hgo:oC x with
 | false =>
  obtain⟨hi0,he0⟩:=CR hgo
  rw [hi0,List.append_nil] at hit
  rw [he0] at hend
  rw [hend,hit]
  by_cases hk:x.k=7
  ·have hl2:x.l.length≠2:=by simp [oC,hk] at hgo;exact hgo
   have hlf:((x.l.length:Int) == 2)=false:=by simp;omega
   rw [hk] at hI ⊢
   rcases hI with ⟨hp,rfl⟩|⟨hp,rfl⟩
   all_goals
    repeat (first|(apply fw;focus ((with_reducible constructor)<;>constructor))|((first|with_reducible refine ga _ rfl fun Y y=>?_|apply ri);simp only [zb,seval,w45,hlf];refine fz y ?_;clear y Y))
    repeat (first|(apply fw;focus ((with_reducible constructor)<;>constructor))|((first|with_reducible refine ga _ rfl fun Y y=>?_|apply ri);simp only [zb,seval,w45,hlf];refine fz y ?_;clear y Y))
    refine yl (by simp only [zb,seval,w45];rfl) (by simp only [zv];rfl) (ALe.tup (.cons ALe.nil (.refl _))) rfl
  ·have hkf:(x.k == 7)=false:=by simp [hk]
   by_cases hk0:x.k=0
   ·rw [hk0] at hI ⊢
    rcases hI with ⟨hp,rfl⟩|⟨hp,rfl⟩
    ·subst hp
     repeat (first|(apply fw;focus ((with_reducible constructor)<;>constructor))|((first|with_reducible refine ga _ rfl fun Y y=>?_|apply ri);simp only [zb,seval,w45];refine fz y ?_;clear y Y))
     repeat (first|(apply fw;focus ((with_reducible constructor)<;>constructor))|((first|with_reducible refine ga _ rfl fun Y y=>?_|apply ri);simp only [zb,seval,w45];refine fz y ?_;clear y Y))
     repeat (first|(apply fw;focus ((with_reducible constructor)<;>constructor))|((first|with_reducible refine ga _ rfl fun Y y=>?_|apply ri);simp only [zb,seval,w45];refine fz y ?_;clear y Y))
     refine yl (by simp only [zb,seval,w45];rfl) (by simp only [zv];rfl) (ALe.tup (.cons ALe.nil (.refl _))) rfl
    ·repeat (first|(apply fw;focus ((with_reducible constructor)<;>constructor))|((first|with_reducible refine ga _ rfl fun Y y=>?_|apply ri);simp only [zb,seval,w45];refine fz y ?_;clear y Y))
     repeat (first|(apply fw;focus ((with_reducible constructor)<;>constructor))|((first|with_reducible refine ga _ rfl fun Y y=>?_|apply ri);simp only [zb,seval,w45];refine fz y ?_;clear y Y))
     repeat (first|(apply fw;focus ((with_reducible constructor)<;>constructor))|((first|with_reducible refine ga _ rfl fun Y y=>?_|apply ri);simp only [zb,seval,w45];refine fz y ?_;clear y Y))
     refine⟨by simp,_,_,_,_,(by simp only [zb,seval,w45,List.length_map];rfl),(by simp),(by simp only [zv,List.length_map];rfl),(by simp;exact fun a _=>D.cc_shut a),_,ALe.refl _,?_⟩
     rfl
   ·have hk0f:(x.k != 0)=true:=by simp [hk0]
    have hde:decide (x.k=0)=false:=by simp [hk0]
    rw [if_neg hk0,hde]
    rcases hI with ⟨hp,rfl⟩|⟨hp,rfl⟩
    all_goals
     repeat (first|(apply fw;focus ((with_reducible constructor)<;>constructor))|((first|with_reducible refine ga _ rfl fun Y y=>?_|apply ri);simp only [zb,seval,w45,hkf,hk0f];refine fz y ?_;clear y Y))
     repeat (first|(apply fw;focus ((with_reducible constructor)<;>constructor))|((first|with_reducible refine ga _ rfl fun Y y=>?_|apply ri);simp only [zb,seval,w45,hkf,hk0f];refine fz y ?_;clear y Y))
     refine yl (by simp only [zb,seval,w45];rfl) (by simp only [zv];rfl) (ALe.tup (.cons ALe.nil (.refl _))) rfl
 | true =>
  obtain⟨a,b,hl,hia,heb⟩:=HJ hgo
  have hk7:x.k=7:=by simp [oC] at hgo;exact hgo.1
  have hit':items d=(pre++[a])++items b:=by rw [hit,hia];simp
  have hht:b.ht<x.ht:=by
   have:=D.ht_lt (d:=x) (i:=1) (by simp [hl])
   simpa [hl] using this
  have hpl:pre.length<1000000:=by rw [hit'] at hlen;simp at hlen;omega
  rcases hI with ⟨hp,rfl⟩|⟨hp,rfl⟩
  ·rw [hk7,hl]
   simp only [List.map_cons,List.map_nil]
   rw [D.cc_eq a,D.cc_eq b]
   repeat (first|(apply fw;focus ((with_reducible constructor)<;>constructor))|((first|with_reducible refine ga _ rfl fun Y y=>?_|apply ri);simp only [zb,seval,w45,h22];refine fz y ?_;clear y Y))
   refine⟨b.ht,_,hht,?_,b,pre++[a],rfl,hit',hend.trans heb,.inr ⟨by simp,rfl⟩⟩
   subst hp
   refine Le.freeze (fun _=>false) ⟨rfl,by simp,fun j o hb=>?_⟩ (by simp [SubZ,find,FzA,FzC])
   refine⟨rfl,o,?_,rfl,rfl,FzR.same _ _ _⟩
   match j,hb with
   | 0,hb=>exact hb
   | 1,hb=>simp at hb
   | 2,hb=>rw [←hb,List.nil_append,List.map_cons,List.map_nil,D.cc_eq a];rfl
   | j+3,hb=>simp at hb
  ·rw [hk7,hl]
   simp only [List.map_cons,List.map_nil]
   rw [D.cc_eq a,D.cc_eq b]
   repeat (first|(apply fw;focus ((with_reducible constructor)<;>constructor))|((first|with_reducible refine ga _ rfl fun Y y=>?_|apply ri);simp only [zb,seval,w45,h22];refine fz y ?_;clear y Y))
   refine⟨b.ht,_,hht,?_,b,pre++[a],rfl,hit',hend.trans heb,.inr ⟨by simp,rfl⟩⟩
   refine Le.drop 3 (Nat.zero_le _) ?_ (by simp [Sub,find]) rfl ?_
   ·rw [List.map_append,List.map_cons,List.map_nil,D.cc_eq a];rfl
   ·simp [ObBd,C.bd]
    rintro y (⟨z,-,rfl⟩|rfl)
    ·exact D.cc_bd _ _
    ·exact D.cc_bd _ _
theorem dcc:(∀(d:D) (r:List C),List.take 6 (d.cc++r)=d.cc)∧(∀(d:D) (r:List C),List.drop 6 (d.cc++r)=r)∧(∀(d:D) (r:List C),List.take 12 (d.cc++r)=d.cc++List.take 6 r)∧(∀(d:D) (r:List C),List.drop 12 (d.cc++r)=List.drop 6 r)∧(∀(d:D) (r:List C),List.take 18 (d.cc++r)=d.cc++List.take 12 r)∧(∀(d:D) (r:List C),List.drop 18 (d.cc++r)=List.drop 12 r)∧(∀(d:D) (r:List C),List.take 24 (d.cc++r)=d.cc++List.take 18 r)∧(∀(d:D) (r:List C),List.drop 24 (d.cc++r)=List.drop 18 r)∧(∀(d:D) (r:List C),(d.cc++r).length=r.length+6):=by
 have h:∀d:D,d.cc.length=6:=D.cc_len
 refine⟨?_,?_,?_,?_,?_,?_,?_,?_,fun d r=>by rw [List.length_append,h];omega⟩<;>intro d r<;>first|rw [List.take_append,h,List.take_of_length_le (by rw [h];omega)]|rw [List.drop_append,h,List.drop_of_length_le (by rw [h];omega)]
 all_goals simp
theorem jX (s:ByteArray):Pure Tryz.prog 21 [.one (.v (.string s))] (.agg (bJ s).cc):=by
 rw [D.cc_eq]
 refine fi Tryz.func21 Tryz.ntmps21 Tryz.results21 ?_
 repeat (first|(apply fw;focus ((with_reducible constructor)<;>constructor))|((first|with_reducible refine ga _ rfl fun Y y=>?_|apply ri);simp only [zb,seval,w21];refine fz y ?_;clear y Y))
 refine yl (by simp only [zb,seval,w21];rfl) (by simp only [zv];rfl) ((by exact ae)) rfl
theorem dE (l:List D) (hlen:l.length≤1000000):Pure Tryz.prog 23 [.one (.sl 6 (l.map D.cc))] (.agg (aE l).cc):=by
 have h:=LI l hlen
 refine fi Tryz.func23 Tryz.ntmps23 Tryz.results23 ?_
 repeat (first|(apply fw;focus ((with_reducible constructor)<;>constructor))|((first|with_reducible refine ga _ rfl fun Y y=>?_|(refine ca ?_;apply Exists.intro;constructor;assumption;intro Y y)|apply ri);simp only [zb,seval,w23,kcc,dcc];refine fz y ?_;clear y Y))
 refine ye (by simp only [zb,seval,w23,kcc,dcc];rfl) (by simp only [zv,kcc,dcc];rfl) ?_
 rfl
def sa:ByteArray:=⟨#[97]⟩
def one1:D:=jR 1
def dA1:D:=aE [bJ lR,aE [aE [bJ sa,one1]],bJ sa]
def dA2:D:=aE [aE [bJ dS,aE [bJ sa],bJ sa],one1]
def dA3:D:=aE [bJ jE]
def kA:K:=fZ [.mk 6 e0 e0 [sa] cH [bL sa],bT one1]
theorem LJ:oQ sa=false:=XL (by simp only [vI,List.mem_cons,List.not_mem_nil,or_false];decide)
theorem WE (ev:Ev) (h:ev.e (bJ sa)=(bL sa,0)):zX ev [bJ sa]=(bL sa,0):=by
 rw [OD ev (by simp) (fun d hd=>by simp at hd;subst hd;exact⟨EI (by decide) _,EI (by decide) _⟩),RE,h]
theorem qG (s:ByteArray) (h:s.size≤1000):(bJ s).Ok:=RB (by omega)
theorem WF:dA1.Ok:=jF ⟨qG _ (by decide),jF ⟨jF ⟨qG _ (by decide),EF (by decide),trivial⟩,trivial⟩,qG _ (by decide),trivial⟩
theorem WG:dA2.Ok:=jF ⟨jF ⟨qG _ (by decide),jF ⟨qG _ (by decide),trivial⟩,qG _ (by decide),trivial⟩,EF (by decide),trivial⟩
theorem WH:dA3.Ok:=jF ⟨qG _ (by decide),trivial⟩
theorem MW:gN sa 1=true:=by decide
theorem UG:gN lR 1=true:=by decide
theorem LL:gN dS 1=true:=by decide
theorem SF:gN jE 1=true:=by decide
theorem UH:oD dA1=true:=rN.2 ⟨dY.2 ⟨(jS _).2 UG,dY.2 ⟨dY.2 ⟨(jS _).2 MW,tX (.inl rfl),trivial⟩,trivial⟩,(jS _).2 MW,trivial⟩,by
 simp [dA1,lI,IC,sI,one1,tY]⟩
theorem UI:oD dA2=true:=rN.2 ⟨dY.2 ⟨dY.2 ⟨(jS _).2 LL,dY.2 ⟨(jS _).2 MW,trivial⟩,(jS _).2 MW,trivial⟩,tX (.inl rfl),trivial⟩,by
 simp [dA2,lI,IC,sI,one1,tY]⟩
theorem UJ:oD dA3=true:=rN.2 ⟨dY.2 ⟨(jS _).2 SF,trivial⟩,by
 simp [dA3,lI,IC,sI]⟩
theorem IZ {n:Nat} (h:2≤n):∃m,n=m+2:=⟨n-2,by omega⟩
theorem VL (n:Nat):(evs (n+1)).b [bJ sa]=(bL sa,0):=by
 rw [evs];dsimp only;exact WE ⟨eB (evs n),(evs n).b,(evs n).q⟩ (OB (evs n) LJ)
theorem SG (n:Nat):(evs (n+1)).e one1=(bT one1,0):=by rw [evs];dsimp only;exact KK _ (.inl rfl)
theorem XS (n:Nat):dL ((fQ [sa] e0 (bL sa)).1::(aZ (evs (n+2)).e [one1]).1)=(kA,0):=by
 rw [uA [sa] (by decide),xL (by simp [aZ])]
 simp only [aZ,List.map_cons,List.map_nil,SG]
 rfl
theorem UK:qW dA1=(kA,0):=by
 unfold qW
 have h:oE dA1=(kA,0):=by
  have h1:gY (bJ lR) gG=false:=by rw [oW];exact aA (by decide)
  have h2:gY (bJ lR) eE=false:=by rw [oW];exact aA (by decide)
  rw [sK (by unfold dA1;rw [iI,h1];rfl) (by unfold dA1;rw [iI,h2];rfl)]
  obtain⟨n,hn⟩:=IZ (n:=dA1.msr) (by simp [dA1,kU,cK,vK];omega)
  rw [hn,dA1,nC _ (by simp [vI]),OC]
  show ((fT _ _ _ _).1,max (max (max _ _) _) _)=_
  rw [OE LJ,VL]
  unfold fT
  dsimp only
  rw [XS,uA [sa] (by decide),MT]
  simp only [aZ,List.map_cons,List.map_nil,SG]
  rfl
 rw [UH,if_pos rfl,h];rfl
theorem UL:qW dA2=(kA,0):=by
 unfold qW
 have h:oE dA2=(kA,0):=by
  rw [sK (by unfold dA2;rw [iI,EH (by decide)];rfl) (by unfold dA2;rw [iI,EH (by decide)];rfl)]
  obtain⟨n,hn⟩:=IZ (n:=dA2.msr) (by simp [dA2,kU,cK,vK];omega)
  have hl:(evs (n+2)).e (aE [bJ dS,aE [bJ sa],bJ sa])=(.mk 6 e0 e0 [sa] cH [bL sa],0):=by
   rw [evs]
   dsimp only
   rw [nC _ (by simp [vI]),EJ]
   unfold eR
   rw [EK LJ,VL]
   dsimp only
   rw [uA [sa] (by decide)]
   rfl
  rw [hn,dA2,KJ _ (.inl (by decide))]
  simp only [aZ,List.map_cons,List.map_nil,hl,SG]
  rw [xL (by simp)]
  rfl
 rw [UI,if_pos rfl,h];rfl
theorem UM:qW dA3=(kz,8):=by
 unfold qW
 have h:oE dA3=(kz,2):=by
  have h1:gY (bJ jE) gG=false:=by rw [oW];exact aA (by decide)
  have h2:gY (bJ jE) eE=false:=by rw [oW];exact aA (by decide)
  rw [sK (by unfold dA3;rw [iI,h1];rfl) (by unfold dA3;rw [iI,h2];rfl),dA3,nC _ (by simp [vI]),KL]
 rw [UJ,if_pos rfl,h];rfl
theorem XT:kA.Ok:=by
 simp [kA,fZ,one1,jR,bT,bL,K.Ok,K.Oks,D.Ok,Oks,e0,sa,ByteArray.size,cH]
theorem UN:one1.cc=[.v (.int .i64 1),.v (.int .i32 0),.v (.bool false),.sl 1 [],.v (.string ⟨#[]⟩),.sl 6 []]:=rcc.2.2.2.2.2.2.2.2.2.2.2.1 1
theorem LM:Pure Tryz.prog 11 [] (.one (.v (.bool true))):=by
 have s1:=jX lR
 have s2:=jX sa
 have s3:=jX dS
 have s4:=jX jE
 have l1:=dE [bJ sa,one1] (by decide)
 have l2:=dE [aE [bJ sa,one1]] (by simp)
 have l3:=dE [bJ lR,aE [aE [bJ sa,one1]],bJ sa] (by simp)
 have l4:=dE [bJ sa] (by simp)
 have l5:=dE [bJ dS,aE [bJ sa],bJ sa] (by simp)
 have l6:=dE [aE [bJ dS,aE [bJ sa],bJ sa],one1] (by simp)
 have l7:=dE [bJ jE] (by simp)
 have o1:=FC dA1 WF (by simp [dA1,lL,gV,sJ,one1,tZ]) (by simp [dA1,kU,cK,vK,one1,ID])
 have o2:=FC dA2 WG (by simp [dA2,lL,gV,sJ,one1,tZ]) (by simp [dA2,kU,cK,vK,one1,ID])
 have o3:=FC dA3 WH (by simp [dA3,lL,gV,sJ]) (by simp [dA3,kU,cK,vK])
 have hs:=KO kA kA XT
 have hk1:=vO lR
 have hk2:=vO ⟨#[99,97,114]⟩
 rw [show oQ lR=true from XK (by simp [vI])] at hk1
 rw [show oQ ⟨#[99,97,114]⟩=false from XL (by simp only [vI,List.mem_cons,List.not_mem_nil,or_false];decide)] at hk2
 rw [aY rfl] at hs
 rw [UK] at o1
 rw [UL] at o2
 rw [UM] at o3
 simp only [onA,dA1,dA2,dA3] at o1 o2 o3
 simp only [List.map_cons,List.map_nil] at l1 l2 l3 l4 l5 l6 l7
 refine fi Tryz.func11 Tryz.ntmps11 Tryz.results11 ?_
 repeat (first|(apply fw;focus ((with_reducible constructor)<;>constructor))|((first|with_reducible refine ga _ rfl fun Y y=>?_|apply ri);simp only [zb,seval,w11,kcc,dcc];refine fz y ?_;clear y Y))
 refine WpA.le (st':=⟨[(1,.one (.ptr 0 1 0 0)),(0,.one (.v (.bool false)))],[some ⟨28,6,[one1.cc]⟩]⟩) (Le.freeze (fun _=>false) (Frz.ofL ?_) ?_) ?_
 ·rw [UN]
  simp only [FrzL,FzR,FzCs]
  repeat' first|exact FzC.same _ _ _|exact FzC.nil|exact rfl|exact trivial|refine And.intro ?_ ?_|(intro hz;exact absurd hz (by decide))
 ·simp only [SubZ];exact⟨⟨_,rfl,FzA.same _ _ _⟩,⟨_,rfl,FzA.same _ _ _⟩,trivial⟩
 (refine WpA.draw1c 16 [14,15] [_,?_,?_] _ _ _ _ rfl rfl rfl (by kernel_rfl) (by kernel_rfl) (by kernel_rfl) (by kernel_rfl) rfl rfl rfl rfl (by decide) fun K8 hK8=>?_);rotate_left 2;simp only [zz] at hK8 ⊢;(refine Draw1.go fun K7 k=>?_);simp only [zb,seval,w11,kcc,dcc];(refine qz (k _ _ (by rfl) ?_));clear k K7;(simp only [zz,Nat.reduceAdd,Nat.reduceSub])
 refine Draw1.step (by rfl) (fun s9 _=>oz (s1)) ?_
 (refine Draw1.go fun K7 k=>?_);simp only [zb,seval,w11,kcc,dcc];(refine qz (k _ _ (by rfl) ?_));clear k K7;(simp only [zz,Nat.reduceAdd,Nat.reduceSub])
 refine Draw1.step (by rfl) (fun s9 _=>oz (s2)) ?_
 (refine Draw1.go fun K7 k=>?_);simp only [zb,seval,w11,kcc,dcc];(refine qz (k _ _ (by rfl) ?_));clear k K7;(simp only [zz,Nat.reduceAdd,Nat.reduceSub])
 refine Draw1.step (by rfl) (fun s9 _=>OpS.frozen (n:=2) (wd:=6) (ty:=28) (rows:=[(bJ sa).cc,one1.cc]) (OpS.eff [(11,_),(12,_)] rfl (by rfl) ⟨rfl,rfl,trivial⟩ (by simp only [zb,seval,w11,kcc,dcc];rfl) (by simp)) rfl (by simp [ksh])) ?_;simp only [bH]
 refine Draw1.step (by rfl) (fun s9 _=>oz (l1)) ?_
 (refine Draw1.go fun K7 k=>?_);simp only [zb,seval,w11,kcc,dcc];(refine qz (k _ _ (by rfl) ?_));clear k K7;(simp only [zz,Nat.reduceAdd,Nat.reduceSub])
 refine Draw1.step (by rfl) (fun s9 _=>OpS.frozen (n:=1) (wd:=6) (ty:=28) (rows:=[(aE [bJ sa,one1]).cc]) (OpS.eff [(14,_)] rfl (by rfl) ⟨rfl,trivial⟩ (by simp only [zb,seval,w11,kcc,dcc];rfl) (by simp)) rfl (by simp [ksh])) ?_;simp only [bH]
 refine Draw1.step (by rfl) (fun s9 _=>oz (l2)) ?_
 (refine Draw1.go fun K7 k=>?_);simp only [zb,seval,w11,kcc,dcc];(refine qz (k _ _ (by rfl) ?_));clear k K7;(simp only [zz,Nat.reduceAdd,Nat.reduceSub])
 refine Draw1.step (by rfl) (fun s9 _=>oz (s2)) ?_
 (refine Draw1.go fun K7 k=>?_);simp only [zb,seval,w11,kcc,dcc];(refine qz (k _ _ (by rfl) ?_));clear k K7;(simp only [zz,Nat.reduceAdd,Nat.reduceSub])
 refine Draw1.step (by rfl) (fun s9 _=>OpS.frozen (n:=3) (wd:=6) (ty:=28) (rows:=[(bJ lR).cc,(aE [aE [bJ sa,one1]]).cc,(bJ sa).cc]) (OpS.eff [(10,_),(16,_),(17,_)] rfl (by rfl) ⟨rfl,rfl,rfl,trivial⟩ (by simp only [zb,seval,w11,kcc,dcc];rfl) (by simp)) rfl (by simp [ksh])) ?_;simp only [bH]
 refine Draw1.step (by rfl) (fun s9 _=>oz (l3)) ?_
 (refine Draw1.go fun K7 k=>?_);simp only [zb,seval,w11,kcc,dcc];(refine qz (k _ _ (by rfl) ?_));clear k K7;(simp only [zz,Nat.reduceAdd,Nat.reduceSub])
 refine Draw1.step (by rfl) (fun s9 _=>oz (o1)) ?_
 (refine Draw1.go fun K7 k=>?_);simp only [zb,seval,w11,kcc,dcc];(refine qz (k _ _ (by rfl) ?_));clear k K7;(simp only [zz,Nat.reduceAdd,Nat.reduceSub])
 refine Draw1.eff 0 rfl rfl rfl (OpS.eff [] rfl (by rfl) trivial (by simp only [zb,seval,w11,kcc,dcc];rfl) (by first|(simp;done)|omega|(simp;omega))) ?_;(try simp only [bH]);(try ((refine Draw1.go fun K7 k=>?_);simp only [zb,seval,w11,kcc,dcc];(refine qz (k _ _ (by rfl) ?_));clear k K7;(simp only [zz,Nat.reduceAdd,Nat.reduceSub]);(try ((refine nz (hK8 _ ?_));clear hK8 K8;(refine WpL.go _ rfl fun Y y=>?_);repeat (first|(apply fw;focus ((with_reducible constructor)<;>constructor))|((first|with_reducible refine ga _ rfl fun Y y=>?_|apply ri);simp only [zb,seval,w11,kcc,dcc];refine fz y ?_;clear y Y))))))
 refine Draw1.eff 1 rfl rfl rfl (OpS.eff [(2,_),(21,_)] rfl (by rfl) ⟨rfl,rfl,trivial⟩ (by simp only [zb,seval,w11,kcc,dcc];rfl) (by first|(simp;done)|omega|(simp;omega))) ?_;(try simp only [bH]);(try ((refine Draw1.go fun K7 k=>?_);simp only [zb,seval,w11,kcc,dcc];(refine qz (k _ _ (by rfl) ?_));clear k K7;(simp only [zz,Nat.reduceAdd,Nat.reduceSub]);(try ((refine nz (hK8 _ ?_));clear hK8 K8;(refine WpL.go _ rfl fun Y y=>?_);repeat (first|(apply fw;focus ((with_reducible constructor)<;>constructor))|((first|with_reducible refine ga _ rfl fun Y y=>?_|apply ri);simp only [zb,seval,w11,kcc,dcc];refine fz y ?_;clear y Y))))))
 (refine WpA.draw1c 16 [14,15] [_,?_,?_] _ _ _ _ rfl rfl rfl (by kernel_rfl) (by kernel_rfl) (by kernel_rfl) (by kernel_rfl) rfl rfl rfl rfl (by decide) fun K8 hK8=>?_);rotate_left 2;simp only [zz] at hK8 ⊢;(refine Draw1.go fun K7 k=>?_);simp only [zb,seval,w11,kcc,dcc];(refine qz (k _ _ (by rfl) ?_));clear k K7;(simp only [zz,Nat.reduceAdd,Nat.reduceSub])
 refine Draw1.step (by rfl) (fun s9 _=>oz (s3)) ?_
 (refine Draw1.go fun K7 k=>?_);simp only [zb,seval,w11,kcc,dcc];(refine qz (k _ _ (by rfl) ?_));clear k K7;(simp only [zz,Nat.reduceAdd,Nat.reduceSub])
 refine Draw1.step (by rfl) (fun s9 _=>oz (s2)) ?_
 (refine Draw1.go fun K7 k=>?_);simp only [zb,seval,w11,kcc,dcc];(refine qz (k _ _ (by rfl) ?_));clear k K7;(simp only [zz,Nat.reduceAdd,Nat.reduceSub])
 refine Draw1.step (by rfl) (fun s9 _=>OpS.frozen (n:=1) (wd:=6) (ty:=28) (rows:=[(bJ sa).cc]) (OpS.eff [(25,_)] rfl (by rfl) ⟨rfl,trivial⟩ (by simp only [zb,seval,w11,kcc,dcc];rfl) (by simp)) rfl (by simp [ksh])) ?_;simp only [bH]
 refine Draw1.step (by rfl) (fun s9 _=>oz (l4)) ?_
 (refine Draw1.go fun K7 k=>?_);simp only [zb,seval,w11,kcc,dcc];(refine qz (k _ _ (by rfl) ?_));clear k K7;(simp only [zz,Nat.reduceAdd,Nat.reduceSub])
 refine Draw1.step (by rfl) (fun s9 _=>oz (s2)) ?_
 (refine Draw1.go fun K7 k=>?_);simp only [zb,seval,w11,kcc,dcc];(refine qz (k _ _ (by rfl) ?_));clear k K7;(simp only [zz,Nat.reduceAdd,Nat.reduceSub])
 refine Draw1.step (by rfl) (fun s9 _=>OpS.frozen (n:=3) (wd:=6) (ty:=28) (rows:=[(bJ dS).cc,(aE [bJ sa]).cc,(bJ sa).cc]) (OpS.eff [(24,_),(27,_),(28,_)] rfl (by rfl) ⟨rfl,rfl,rfl,trivial⟩ (by simp only [zb,seval,w11,kcc,dcc];rfl) (by simp)) rfl (by simp [ksh])) ?_;simp only [bH]
 refine Draw1.step (by rfl) (fun s9 _=>oz (l5)) ?_
 (refine Draw1.go fun K7 k=>?_);simp only [zb,seval,w11,kcc,dcc];(refine qz (k _ _ (by rfl) ?_));clear k K7;(simp only [zz,Nat.reduceAdd,Nat.reduceSub])
 refine Draw1.step (by rfl) (fun s9 _=>OpS.frozen (n:=2) (wd:=6) (ty:=28) (rows:=[(aE [bJ dS,aE [bJ sa],bJ sa]).cc,one1.cc]) (OpS.eff [(30,_),(31,_)] rfl (by rfl) ⟨rfl,rfl,trivial⟩ (by simp only [zb,seval,w11,kcc,dcc];rfl) (by simp)) rfl (by simp [ksh])) ?_;simp only [bH]
 refine Draw1.step (by rfl) (fun s9 _=>oz (l6)) ?_
 (refine Draw1.go fun K7 k=>?_);simp only [zb,seval,w11,kcc,dcc];(refine qz (k _ _ (by rfl) ?_));clear k K7;(simp only [zz,Nat.reduceAdd,Nat.reduceSub])
 refine Draw1.step (by rfl) (fun s9 _=>oz (o2)) ?_
 (refine Draw1.go fun K7 k=>?_);simp only [zb,seval,w11,kcc,dcc];(refine qz (k _ _ (by rfl) ?_));clear k K7;(simp only [zz,Nat.reduceAdd,Nat.reduceSub])
 refine Draw1.eff 0 rfl rfl rfl (OpS.eff [] rfl (by rfl) trivial (by simp only [zb,seval,w11,kcc,dcc];rfl) (by first|(simp;done)|omega|(simp;omega))) ?_;(try simp only [bH]);(try ((refine Draw1.go fun K7 k=>?_);simp only [zb,seval,w11,kcc,dcc];(refine qz (k _ _ (by rfl) ?_));clear k K7;(simp only [zz,Nat.reduceAdd,Nat.reduceSub]);(try ((refine nz (hK8 _ ?_));clear hK8 K8;(refine WpL.go _ rfl fun Y y=>?_);repeat (first|(apply fw;focus ((with_reducible constructor)<;>constructor))|((first|with_reducible refine ga _ rfl fun Y y=>?_|apply ri);simp only [zb,seval,w11,kcc,dcc];refine fz y ?_;clear y Y))))))
 refine Draw1.eff 1 rfl rfl rfl (OpS.eff [(4,_),(35,_)] rfl (by rfl) ⟨rfl,rfl,trivial⟩ (by simp only [zb,seval,w11,kcc,dcc];rfl) (by first|(simp;done)|omega|(simp;omega))) ?_;(try simp only [bH]);(try ((refine Draw1.go fun K7 k=>?_);simp only [zb,seval,w11,kcc,dcc];(refine qz (k _ _ (by rfl) ?_));clear k K7;(simp only [zz,Nat.reduceAdd,Nat.reduceSub]);(try ((refine nz (hK8 _ ?_));clear hK8 K8;(refine WpL.go _ rfl fun Y y=>?_);repeat (first|(apply fw;focus ((with_reducible constructor)<;>constructor))|((first|with_reducible refine ga _ rfl fun Y y=>?_|apply ri);simp only [zb,seval,w11,kcc,dcc];refine fz y ?_;clear y Y))))))
 refine cz (s4) ?_
 (refine WpL.go _ rfl fun Y y=>?_);repeat (first|(apply fw;focus ((with_reducible constructor)<;>constructor))|((first|with_reducible refine ga _ rfl fun Y y=>?_|apply ri);simp only [zb,seval,w11,kcc,dcc];refine fz y ?_;clear y Y))
 (refine WpL.frz 39 (3) (by rfl) (by first|rfl|(simp only [zz,kcc];rfl)|(simp only [zz,kcc])) (by first|rfl|(simp [kcc];done)|(simp [kcc];omega)) (by simp [ksh]) ?_);simp only [zz,kcc]
 repeat (first|(apply fw;focus ((with_reducible constructor)<;>constructor))|((first|with_reducible refine ga _ rfl fun Y y=>?_|(refine ca ?_;apply Exists.intro;constructor;assumption;intro Y y)|apply ri);simp only [zb,seval,w11,kcc,dcc];refine fz y ?_;clear y Y))
 refine ye (by simp only [zb,seval,w11,kcc,dcc];rfl) (by simp only [zv,kcc,dcc];rfl) ?_
 rfl
end Go.Proofs.YtaeioidifpebdaaGreatDoor
end
