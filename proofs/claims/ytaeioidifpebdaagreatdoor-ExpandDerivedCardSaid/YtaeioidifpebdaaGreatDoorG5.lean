/-
 Laid together: Core, Ex18, Lst18, Eq18, Err18, Dat18, Sl19, Same19, ESame.
-/
import Derived.Test.YtaeioidifpebdaaGreatDoorG4
import Derived.Test.YtaeioidifpebdaaGreatDoorList
import Derived.Test.YtaeioidifpebdaaGreatDoorItems
import Derived.Test.YtaeioidifpebdaaGreatDoorMake
import Derived.Test.YtaeioidifpebdaaGreatDoorPlain4
import Derived.Test.YtaeioidifpebdaaGreatDoorChecked
import Derived.WalkKit
import Derived.LaidEql
import Derived.Stop.Asserts
import Derived.RowKitTokens
import Derived.Test.YtaeioidifpebdaaGreatDoorCons
import Derived.Test.YtaeioidifpebdaaGreatDoorG2
import Derived.Test.YtaeioidifpebdaaGreatDoorSame2
import Derived.Test.YtaeioidifpebdaaGreatDoorG3
section
namespace Go.Proofs.YtaeioidifpebdaaGreatDoor
open Go Go.RowKit
set_option linter.unusedSimpArgs false
set_option linter.unusedVariables false
inductive K where
 | mk (k:Int) (name rest:ByteArray) (params:List ByteArray) (d:D) (l:List K)
namespace K
def k:K→Int|mk k _ _ _ _ _=>k
def name:K→ByteArray|mk _ n _ _ _ _=>n
def rest:K→ByteArray|mk _ _ r _ _ _=>r
def params:K→List ByteArray|mk _ _ _ p _ _=>p
def d:K→D|mk _ _ _ _ d _=>d
def l:K→List K|mk _ _ _ _ _ l=>l
end K
def dS (l:List ByteArray):List (List C):=l.map fun s=>[.v (.string s)]
theorem dQ (l:List ByteArray):(dS l).length=l.length:=by simp [dS]
theorem pN {l:List ByteArray} {i:Nat} (h:i<l.length):(dS l)[i]?=some [.v (.string l[i])]:=by simp [dS,h]
theorem nJ (l:List ByteArray):∀e∈dS l,∀c∈e,C.shut c=true:=fun e he c hc=>by
 obtain⟨s,_,rfl⟩:=List.mem_map.1 he
 simp at hc;subst hc;rfl
def K.cc:K→List C
 | mk k name rest params d l=>[.v (.int .i64 k),.v (.string name),.v (.string rest),.sl 1 (dS params),.v (.int .i64 d.k),.v (.int .i32 d.c),.v (.bool d.neg),.sl 1 (d.mag.map fun n=>[.v (.int .u32 n)]),.v (.string d.t),.sl 6 (d.l.map D.cc),.sl 11 (l.map K.cc)]
theorem K.cc_eq (c:K):c.cc=[.v (.int .i64 c.k),.v (.string c.name),.v (.string c.rest),.sl 1 (dS c.params),.v (.int .i64 c.d.k),.v (.int .i32 c.d.c),.v (.bool c.d.neg),.sl 1 (c.d.mag.map fun n=>[.v (.int .u32 n)]),.v (.string c.d.t),.sl 6 (c.d.l.map D.cc),.sl 11 (c.l.map K.cc)]:=by
 cases c;rw [K.cc];rfl
theorem K.cc_len (c:K):c.cc.length=11:=by rw [K.cc_eq];rfl
theorem YB {l:List K} {i:Nat} (h:i<l.length):(l.map K.cc)[i]?=some (l[i]).cc:=by simp [h]
theorem K.cc_shut (c:K):∀x∈c.cc,C.shut x=true:=by rw [K.cc_eq];simp [C.shut]
theorem K.cc_bd (n:Nat) (c:K):∀x∈c.cc,C.bd n x=true:=by rw [K.cc_eq];simp [C.bd]
mutual
def K.ht:K→Nat
 | .mk _ _ _ _ _ l=>K.hts l+1
def K.hts:List K→Nat
 | []=>0
 | c::l=>max c.ht (K.hts l)
end
theorem K.ht_mem {x:K}:∀{l:List K},x∈l→x.ht≤K.hts l
 | c::l,h=>by
  rw [K.hts]
  rcases List.mem_cons.1 h with rfl|h
  ·exact Nat.le_max_left _ _
  ·exact Nat.le_trans (K.ht_mem h) (Nat.le_max_right _ _)
theorem K.ht_lt {c:K} {i:Nat} (h:i<c.l.length):(c.l[i]).ht<c.ht:=by
 obtain⟨k,n,r,p,d,l⟩:=c
 have:=K.ht_mem (List.getElem_mem h)
 show _<K.hts l+1
 exact Nat.lt_succ_of_le this
theorem K.ht_pos (c:K):0<c.ht:=by cases c;rw [K.ht];omega
mutual
def K.Ok:K→Prop
 | .mk k name rest params d l=>(-9223372036854775808≤k∧k≤9223372036854775807)∧params.length≤1000000000000000∧d.Ok∧l.length≤1000000000000000∧K.Oks l
def K.Oks:List K→Prop
 | []=>True
 | c::l=>c.Ok∧K.Oks l
end
theorem K.Oks.get:∀{l:List K},K.Oks l→∀i (h:i<l.length),l[i].Ok
 | c::l,h,0,_=>h.1
 | c::l,h,i+1,hi=>K.Oks.get (l:=l) h.2 i (by simpa using hi)
theorem K.Ok.kids {c:K} (h:c.Ok):K.Oks c.l:=by cases c;exact h.2.2.2.2
theorem K.Ok.get {c:K} (h:c.Ok) (i:Nat) (hi:i<c.l.length):c.l[i].Ok:=h.kids.get i hi
theorem K.Ok.d {c:K} (h:c.Ok):c.d.Ok:=by cases c;exact h.2.2.1
theorem K.Ok.par {c:K} (h:c.Ok):c.params.length≤1000000000000000:=by cases c;exact h.2.1
theorem K.Ok.len {c:K} (h:c.Ok):c.l.length≤1000000000000000:=by cases c;exact h.2.2.2.1
theorem K.Ok.kind {c:K} (h:c.Ok) : -9223372036854775808≤c.k∧c.k≤9223372036854775807:=by cases c;exact h.1
end Go.Proofs.YtaeioidifpebdaaGreatDoor
end
section
namespace Go.Proofs.YtaeioidifpebdaaGreatDoor
open Go
set_option linter.unusedSimpArgs false
set_option linter.unusedVariables false
def e0:ByteArray:=⟨#[]⟩
def iX:ByteArray:=⟨#[113,117,111,116,101]⟩
def fE:ByteArray:=⟨#[113,117,97,115,105,113,117,111,116,101]⟩
def BQ:ByteArray:=⟨#[117,110,113,117,111,116,101]⟩
def kF:ByteArray:=⟨#[117,110,113,117,111,116,101,45,115,112,108,105,99,105,110,103]⟩
def aQ:ByteArray:=⟨#[108,97,109,98,100,97]⟩
def cA:ByteArray:=⟨#[100,101,102,105,110,101]⟩
def sJ:ByteArray:=⟨#[115,101,116,33]⟩
def sIf:ByteArray:=⟨#[105,102]⟩
def bS:ByteArray:=⟨#[98,101,103,105,110]⟩
def fH:ByteArray:=⟨#[108,101,116]⟩
def jQ:ByteArray:=⟨#[108,101,116,42]⟩
def dT:ByteArray:=⟨#[108,101,116,114,101,99]⟩
def fV:ByteArray:=⟨#[108,101,116,114,101,99,42]⟩
def iY:ByteArray:=⟨#[99,111,110,100]⟩
def mF:ByteArray:=⟨#[99,97,115,101]⟩
def nU:ByteArray:=⟨#[97,110,100]⟩
def sOr:ByteArray:=⟨#[111,114]⟩
def iR:ByteArray:=⟨#[119,104,101,110]⟩
def eB:ByteArray:=⟨#[117,110,108,101,115,115]⟩
def sDo:ByteArray:=⟨#[100,111]⟩
def dX:ByteArray:=⟨#[101,108,115,101]⟩
def gU:ByteArray:=⟨#[61,62]⟩
def bK:ByteArray:=⟨#[255,116]⟩
def eD:ByteArray:=⟨#[255,108,111,111,112]⟩
def FZ:ByteArray:=⟨#[101,113,118,63]⟩
def EH:ByteArray:=⟨#[99,111,110,115]⟩
def QM:ByteArray:=⟨#[108,105,115,116,45,62,118,101,99,116,111,114]⟩
def tQ:ByteArray:=⟨#[97,112,112,101,110,100]⟩
def jM:List ByteArray:=[iX,fE,BQ,kF,aQ,cA,sJ,sIf,bS,fH,jQ,dT,fV,iY,mF,nU,sOr,iR,eB,sDo,dX,gU]
noncomputable def iP (s:ByteArray):Bool:=jM.any fun x=>eqB s x
-- data: how much there is in one
mutual
def D.msr:D→Nat
 | .mk k _ _ _ _ l=>(if k=8 then l.length+2 else 1)+cC l
def cC:List D→Nat
 | []=>0
 | d::l=>d.msr+cC l
end
mutual
def D.Two:D→Prop
 | .mk k _ _ _ _ l=>(k=7→l.length=2)∧Twos l
def Twos:List D→Prop
 | []=>True
 | d::l=>d.Two∧Twos l
end
theorem hF (d:D):1≤d.msr:=by
 cases d with|mk k c neg mag t l=>rw [D.msr];split<;>omega
theorem JV:∀l:List D,l.length≤cC l
 | []=>by simp
 | d::l=>by rw [cC,List.length_cons];have:=hF d;have:=JV l;omega
theorem sK {d:D}:∀{l:List D},d∈l→d.msr≤cC l
 | x::l,h=>by
  rw [cC]
  rcases List.mem_cons.1 h with rfl|h
  ·omega
  ·have:=sK h;omega
theorem JW:∀(a b:List D),cC (a++b)=cC a+cC b
 | [],b=>by simp [cC]
 | d::a,b=>by rw [List.cons_append,cC,cC,JW a b];omega
theorem Twos.mem {d:D}:∀{l:List D},Twos l→d∈l→d.Two
 | x::l,h,hd=>by
  rcases List.mem_cons.1 hd with rfl|hd
  ·exact h.1
  ·exact Twos.mem h.2 hd
theorem Twos.of:∀{l:List D},(∀d∈l,d.Two)→Twos l
 | [],_=>trivial
 | x::l,h=>⟨h x (by simp),Twos.of fun d hd=>h d (by simp [hd])⟩
theorem D.Two.kids {d:D} (h:d.Two):Twos d.l:=by cases d;exact h.2
theorem D.Two.two {d:D} (h:d.Two) (hk:d.k=7):d.l.length=2:=by cases d;exact h.1 hk
theorem D.Plain.two:∀{d:D},d.Plain→d.Two
 | .mk k c neg mag t l,h=>by
  rw [D.Plain] at h
  exact⟨h.2.2.2.2.2.2.1,Twos.of fun d hd=>by
   obtain⟨i,hi,rfl⟩:=List.mem_iff_getElem.1 hd
   exact D.Plain.two ((Plains.iff l).1 h.2.2.2.2.2.2.2.2 i hi)⟩
termination_by d=>SizeOf.sizeOf d
decreasing_by
 all_goals simp_wf
 all_goals (have:=List.sizeOf_lt_of_mem hd;omega)
def D.fst (d:D):D:=d.l.getD 0 cJ
def D.snd (d:D):D:=d.l.getD 1 cJ
theorem D.Two.pair {d:D} (h:d.Two) (hk:d.k=7):d.l=[d.fst,d.snd]:=by
 have:=h.two hk
 obtain⟨k,c,neg,mag,t,l⟩:=d
 match l,this with
 | [a,b],_=>rfl
def Gd (n:Nat) (d:D):Prop:=d.Two∧d.Ok∧d.msr<n
def Gds (n:Nat) (l:List D):Prop:=Twos l∧Oks l∧cC l<n
theorem Oks.mem {d:D} {l:List D} (h:Oks l) (hd:d∈l):d.Ok:=by
 obtain⟨i,hi,rfl⟩:=List.mem_iff_getElem.1 hd
 exact h.get i hi
theorem Oks.ofMem {l:List D} (h:∀d∈l,d.Ok):Oks l:=Oks.of fun i hi=>h _ (List.getElem_mem hi)
theorem Gds.mem {n:Nat} {l:List D} (h:Gds n l) {d:D} (hd:d∈l):Gd n d:=⟨h.1.mem hd,h.2.1.mem hd,Nat.lt_of_le_of_lt (sK hd) h.2.2⟩
theorem Gds.len {n:Nat} {l:List D} (h:Gds n l):l.length<n:=Nat.lt_of_le_of_lt (JV l) h.2.2
theorem Gd.le {n m:Nat} {d:D} (h:Gd n d) (hm:n≤m):Gd m d:=⟨h.1,h.2.1,Nat.lt_of_lt_of_le h.2.2 hm⟩
theorem Gds.le {n m:Nat} {l:List D} (h:Gds n l) (hm:n≤m):Gds m l:=⟨h.1,h.2.1,Nat.lt_of_lt_of_le h.2.2 hm⟩
theorem TG {a b:List D} (h:a.Sublist b):cC a≤cC b:=by
 induction h with
 | slnil=>exact Nat.le_refl _
 | cons x _ ih=>rw [cC];omega
 | cons_cons x _ ih=>rw [cC,cC];omega
theorem Gds.sub {n:Nat} {a b:List D} (h:Gds n b) (hs:a.Sublist b):Gds n a :=
 ⟨Twos.of fun d hd=>h.1.mem (hs.subset hd),Oks.ofMem fun d hd=>h.2.1.mem (hs.subset hd),Nat.lt_of_le_of_lt (TG hs) h.2.2⟩
theorem Gds.drop {n:Nat} {l:List D} (h:Gds n l) (k:Nat):Gds n (l.drop k):=h.sub (List.drop_sublist k l)
theorem Gds.take {n:Nat} {l:List D} (h:Gds n l) (k:Nat):Gds n (l.take k):=h.sub (List.take_sublist k l)
theorem Gds.tail {n:Nat} {x:D} {l:List D} (h:Gds n (x::l)):Gds n l:=h.sub (List.sublist_cons_self x l)
theorem Gds.head {n:Nat} {x:D} {l:List D} (h:Gds n (x::l)):Gd n x:=h.mem (by simp)
theorem Gd.pair {n:Nat} {d:D} (h:Gd n d) (hk:d.k=7):d.l=[d.fst,d.snd]∧Gd n d.fst∧Gd n d.snd∧d.fst.msr+d.snd.msr+1=d.msr:=by
 have hp:=h.1.pair hk
 have ht:=h.1.kids
 have ho:=h.2.1.l
 have hm:d.msr=1+cC d.l:=by
  obtain⟨k,c,neg,mag,t,l⟩:=d
  have hk:k=7:=hk
  subst hk
  rw [D.msr];rfl
 rw [hp] at ht ho hm
 simp only [cC] at hm
 have:=h.2.2
 exact⟨hp,⟨ht.1,ho.1,by omega⟩,⟨ht.2.1,ho.2.1,by omega⟩,by omega⟩
theorem nK:∀(d:D),cC (items d)+(items d).length≤d.msr
 | .mk k c neg mag t l=>by
  unfold items
  split
  ·match l with
   | []=>simp [kH,cC]
   | [a]=>simp [kH,cC]
   | [a,b] =>
    have:=nK b
    rename_i hk
    subst hk
    simp only [kH,cC,List.length_cons,D.msr]
    rw [if_neg (by decide)]
    omega
   | a::b::c::r=>simp [kH,cC]
  ·simp [cC]
theorem BR {d:D} (hk:d.k=7):cC (items d)<d.msr:=by
 have h1:=nK d
 cases hi:items d with
 | nil=>rw [hi] at h1;simp [cC] at h1 ⊢;have:=hF d;omega
 | cons a l=>rw [hi] at h1;simp at h1;omega
theorem lC:∀(d:D),d.Two→d.Ok→Twos (items d)∧Oks (items d)
 | .mk k c neg mag t l,ht,ho=>by
  unfold items
  split
  ·match l with
   | []=>exact⟨trivial,trivial⟩
   | [a]=>exact⟨trivial,trivial⟩
   | [a,b] =>
    have h1:=ht.2
    have h2:=ho.l
    have:=lC b h1.2.1 h2.2.1
    exact⟨⟨h1.1,this.1⟩,⟨h2.1,this.2⟩⟩
   | a::b::c::r=>exact⟨trivial,trivial⟩
  ·exact⟨trivial,trivial⟩
theorem Gd.items {n:Nat} {d:D} (h:Gd n d):Gds n (Proofs.YtaeioidifpebdaaGreatDoor.items d):=by
 have h1:=nK d
 have:=h.2.2
 exact⟨(lC d h.1 h.2.1).1,(lC d h.1 h.2.1).2,by omega⟩
theorem lQ:∀l:List D,(aB l).msr=l.length+cC l+1
 | []=>by simp [aB,cJ,D.msr,cC]
 | d::l=>by
  have:=lQ l
  simp only [aB,D.msr,cC,List.length_cons]
  rw [if_neg (by decide)]
  omega
theorem EI:∀{l:List D},Twos l→(aB l).Two
 | [],_=>⟨fun h=>absurd h (by decide),trivial⟩
 | d::l,h=>⟨fun _=>rfl,h.1,EI h.2,trivial⟩
theorem gO:cJ.Ok:=⟨by decide,by decide,by simp,by decide,by decide,trivial⟩
theorem iZ:∀{l:List D},Oks l→(aB l).Ok
 | [],_=>gO
 | d::l,h=>⟨by decide,by decide,by simp,by decide,⟨by decide,by simp⟩,h.1,iZ h.2,trivial⟩
theorem Gd.vec {n:Nat} {d:D} (h:Gd n d) (hk:d.k=8):Gd n (aB d.l)∧(aB d.l).msr<d.msr:=by
 have hm:d.msr=d.l.length+2+cC d.l:=by
  obtain⟨k,c,neg,mag,t,l⟩:=d
  have hk:k=8:=hk
  subst hk
  rw [D.msr];rfl
 have h2:=lQ d.l
 have:=h.2.2
 exact⟨⟨EI h.1.kids,iZ h.2.1.l,by omega⟩,by omega⟩
-- what is computed
abbrev Rs:=K × Nat
def kz:K:=.mk 0 e0 e0 [] cJ []
def dY (d:D):K:=.mk 1 e0 e0 [] d []
def eE (k:Int):D:=.mk k 0 false [] e0 []
def bR:K:=dY (eE 9)
def kI (k:Int):K:=dY (eE k)
def bP (s:ByteArray):K:=.mk 2 s e0 [] cJ []
def gM (s:ByteArray):K:=.mk 10 s e0 [] cJ []
def aG (a b c:K):K:=.mk 5 e0 e0 [] cJ [a,b,c]
def gV:List K→K
 | [x]=>x
 | l=>.mk 7 e0 e0 [] cJ l
def eU (ps:List ByteArray) (rest:ByteArray) (b:K):Rs:=if 40<ps.length+(if rest=e0 then 0 else 1) then (kz,1) else (.mk 6 e0 rest ps cJ [b],0)
def jZ (l:List K):K:=.mk 8 e0 e0 [] cJ l
def dA (l:List K):Rs:=if 41<l.length then (kz,1) else (jZ l,0)
noncomputable def fL (d:D) (s:ByteArray):Bool:=decide (d.k=6)&&eqB d.t s
noncomputable def bL (d:D):ByteArray × Nat:=if d.k=6∧iP d.t=false then (d.t,0) else (e0,2)
def aR (d:D):List D × Nat:=if gN d=0 then (items d,0) else ([],2)
def gW (l:List Nat):Nat:=l.foldl max 0
theorem nV (l:List Nat) (x:Nat):gW (l++[x])=max (gW l) x:=by simp [gW,List.foldl_append]
def aL (E:D→Rs) (l:List D):List K × Nat:=(l.map fun d=>(E d).1,gW (l.map fun d=>(E d).2))
def eI (E:D→Rs) (l:List D):Rs:=if l=[] then (kz,2) else (gV (aL E l).1,(aL E l).2)
noncomputable def unl (l:List ByteArray):Nat:=if @decide l.Nodup (Classical.propDecidable _) then 0 else 2
mutual
def pO:D→D
 | .mk k c neg mag t l=>if k=7 then TH (.mk k c neg mag t l) l else .mk k c neg mag t l
def TH (d:D):List D→D
 | [a,b]=>pO b
 | _=>d
end
noncomputable def dR (d:D):List ByteArray × ByteArray × Nat :=
 let ps:=(items d).map fun x=>(bL x).1
 let n:=gW ((items d).map fun x=>(bL x).2)
 if (pO d).k=0 then (ps,e0,max n (unl ps)) else (ps,(bL (pO d)).1,max (max n (bL (pO d)).2) (unl (ps++[(bL (pO d)).1])))
structure Ev where
 e:D→Rs
 b:List D→Rs
 q:D→Nat→Rs
noncomputable def cY (ev:Ev) (f:D) (body:List D):Rs :=
 let fm:=dR f
 let x:=eU fm.1 fm.2.1 (ev.b body).1
 (x.1,max (max fm.2.2 (ev.b body).2) x.2)
def zR (v:ByteArray) (x:K):K:=.mk 3 v e0 [] cJ [x]
def mT:K:=.mk 9 e0 e0 [] cJ []
noncomputable def kB (names:List ByteArray) (values:List K) (body:K):Rs :=
 let f:=eU names e0 (gV ((names.zip values).map (fun p=>zR p.1 p.2)++[body]))
 let x:=dA (f.1::names.map fun _=>mT)
 (x.1,max (max (unl names) f.2) x.2)
def gY (b:D):Option (D × D):=if gN b=0 then (match items b with|[x,y]=>some (x,y)|_=>none) else none
noncomputable def aK (d:D):List ByteArray × List D × Nat :=
 let l:=(aR d).1
 (l.filterMap fun b=>(gY b).map fun p=>(bL p.1).1,l.filterMap fun b=>(gY b).map (·.2),max (aR d).2 (gW (l.map fun b=>match gY b with|some p=>(bL p.1).2|none=>2)))
noncomputable def fF (ev:Ev):List D→ByteArray × K × Nat
 | []=>(e0,kz,2)
 | [_]=>(e0,kz,2)
 | a::b::r=>if a.k=7 then ((bL a.fst).1,(cY ev a.snd (b::r)).1,max (bL a.fst).2 (cY ev a.snd (b::r)).2)
  else ((bL a).1,(ev.e b).1,max (if r=[] then (bL a).2 else max (bL a).2 2) (ev.e b).2)
noncomputable def dL (d:D) (s:ByteArray):Option (List D):=if d.k=7∧fL d.fst s=true then (if gN d.snd=0 then some (items d.snd) else none) else none
noncomputable def wU:Nat→List D→List D
 | 0,l=>l
 | n+1,l=>l.flatMap fun d=>match dL d bS with|some x=>wU n x|none=>[d]
noncomputable def spl (l:List D):List D:=wU (cC l) l
structure Bs where
 names:List ByteArray
 values:List K
 rest:List K
 err:Nat
noncomputable def cW (ev:Ev) (s:Bs) (d:D):Bs:=match dL d cA with
 | none=>⟨s.names,s.values,s.rest++[(ev.e d).1],max s.err (ev.e d).2⟩
 | some x=>⟨s.names++[(fF ev x).1],s.values++[(fF ev x).2.1],s.rest,if s.rest=[] then max s.err (fF ev x).2.2 else max (max s.err (fF ev x).2.2) 2⟩
noncomputable def mP (ev:Ev) (l:List D):Bs:=l.foldl (cW ev) ⟨[],[],[],0⟩
noncomputable def qV (s:Bs):Rs :=
 if s.rest=[] then (kz,max s.err 2) else if s.names=[] then (gV s.rest,s.err) else
  let x:=kB s.names s.values (gV s.rest)
  (x.1,max s.err x.2)
noncomputable def vH (ev:Ev) (l:List D):Rs:=qV (mP ev (spl l))
def dM (ev:Ev) (names:List ByteArray) (body:K) (values:List D):Rs :=
 let f:=eU names e0 body
 let l:=aL ev.e values
 let x:=dA (f.1::l.1)
 (x.1,max (max f.2 l.2) x.2)
def dU (ev:Ev) (test:D) (body:K):Rs:=dM ev [bK] body [test]
noncomputable def jA (ev:Ev):List D→Rs
 | a::b::r =>
  let w:=bL a
  let bs:=aK b
  let f:=eU bs.1 e0 (ev.b r).1
  let x:=kB [w.1] [f.1] (bP w.1)
  let vs:=aL ev.e bs.2.1
  let c:=dA (x.1::vs.1)
  (c.1,max (max (max (max (max (max (max w.2 bs.2.2) (unl bs.1)) (ev.b r).2) f.2) x.2) vs.2) c.2)
 | _=>(kz,2)
noncomputable def uH (ev:Ev):List D→Rs
 | []=>(kz,2)
 | a::r=>if a.k=6 then jA ev (a::r) else
  let bs:=aK a
  let x:=dM ev bs.1 (ev.b r).1 bs.2.1
  (x.1,max (max (max bs.2.2 (ev.b r).2) (unl bs.1)) x.2)
def jB (ev:Ev) (p:ByteArray × D) (s:Rs):Rs:=((dM ev [p.1] s.1 [p.2]).1,max s.2 (dM ev [p.1] s.1 [p.2]).2)
def kC (ev:Ev) (l:List (ByteArray × D)) (s:Rs):Rs:=l.foldr (jB ev) s
noncomputable def gE (ev:Ev):List D→Rs
 | []=>(kz,2)
 | a::r =>
  let bs:=aK a
  let x:=dM ev [] (ev.b r).1 []
  kC ev (bs.1.zip bs.2.1) (x.1,max (max bs.2.2 (ev.b r).2) x.2)
noncomputable def gP (ev:Ev):List D→Rs
 | []=>(kz,2)
 | a::r =>
  let bs:=aK a
  let vs:=aL ev.e bs.2.1
  let x:=kB bs.1 vs.1 (ev.b r).1
  (x.1,max (max (max bs.2.2 vs.2) (ev.b r).2) x.2)
noncomputable def iC (ev:Ev):List D→Rs
 | []=>(bR,0)
 | a::r=>match (if gN a=0 then items a else []) with
  | []=>(kz,2)
  | c::cs=>if fL c dX then (if r=[] then eI ev.e cs else (kz,2)) else
   let rest:=iC ev r
   match cs with
   | [] =>
    let x:=dU ev c (aG (bP bK) (bP bK) rest.1)
    (x.1,max rest.2 x.2)
   | f::fs=>if fL f gU then
     (match fs with
     | [g] =>
      let y:=dA [(ev.e g).1,bP bK]
      let x:=dU ev c (aG (bP bK) y.1 rest.1)
      (x.1,max (max (max rest.2 (ev.e g).2) y.2) x.2)
     | _=>(kz,2))
    else (aG (ev.e c).1 (eI ev.e cs).1 rest.1,max (max rest.2 (ev.e c).2) (eI ev.e cs).2)
def pF:List D→K
 | []=>kI 2
 | d::l=>aG (jZ [gM FZ,bP bK,dY d]) (kI 1) (pF l)
noncomputable def fB (ev:Ev):List D→Rs
 | []=>(bR,0)
 | a::r=>match (if gN a=0 then items a else []) with
  | c::f::fs=>if fL c dX then (if r=[] then eI ev.e (f::fs) else (kz,2)) else
   let b:=eI ev.e (f::fs)
   let rest:=fB ev r
   (aG (pF (aR c).1) b.1 rest.1,max (max (aR c).2 b.2) rest.2)
  | _=>(kz,2)
def mG (d:D):Option (D × D × D):=if gN d=0 then (match items d with|[v,x]=>some (v,x,v)|[v,x,y]=>some (v,x,y)|_=>none) else none
noncomputable def nX (ev:Ev):List D→Rs
 | a::b::r =>
  let sp:=(aR a).1
  if sp.all (fun d=>(mG d).isSome) then
   let ts:=sp.filterMap mG
   let names:=ts.map fun t=>(bL t.1).1
   let err:=max (max (max (aR a).2 (gW (ts.map fun t=>(bL t.1).2))) (aR b).2) (unl names)
   match (aR b).1 with
   | []=>(kz,2)
   | e::es =>
    let test:=ev.e e
    let last:=if es=[] then (bR,0) else eI ev.e es
    let body:=aL ev.e r
    let next:=aL ev.e (ts.map fun t=>t.2.2)
    let again:=dA (bP eD::next.1)
    let f:=eU names e0 (aG test.1 last.1 (gV (body.1++[again.1])))
    let x:=kB [eD] [f.1] (bP eD)
    let vs:=aL ev.e (ts.map fun t=>t.2.1)
    let c:=dA (x.1::vs.1)
    (c.1,max (max (max (max (max (max (max (max (max err test.2) last.2) body.2) next.2) again.2) f.2) x.2) vs.2) c.2)
  else (kz,2)
 | _=>(kz,2)
def yZ (a d:K):K:=jZ [gM EH,a,d]
noncomputable def rT (d:D) (s:ByteArray):Option D:=match dL d s with|some [x]=>some x|_=>none
def qW (s:ByteArray) (x:K):K:=yZ (dY (aE s)) (yZ x (dY cJ))
noncomputable def nY (ev:Ev) (d:D) (n:Nat):Rs:=match rT d BQ with
 | some y=>if n=1 then ev.e y else (qW BQ (ev.q y (n-1)).1,(ev.q y (n-1)).2)
 | none=>match rT d fE with
  | some y=>(qW fE (ev.q y (n+1)).1,(ev.q y (n+1)).2)
  | none=>if d.k=8 then (jZ [gM QM,(ev.q (aB d.l) n).1],(ev.q (aB d.l) n).2)
   else if d.k=7 then (match rT d.fst kF with
    | some y=>if n=1 then (jZ [gM tQ,(ev.e y).1,(ev.q d.snd n).1],max (ev.q d.snd n).2 (ev.e y).2)
     else (yZ (qW kF (ev.q y (n-1)).1) (ev.q d.snd n).1,max (ev.q d.snd n).2 (ev.q y (n-1)).2)
    | none=>(yZ (ev.q d.fst n).1 (ev.q d.snd n).1,max (ev.q d.snd n).2 (ev.q d.fst n).2))
   else (dY d,0)
noncomputable def dB (ev:Ev) (and:Bool):List D→Rs
 | []=>(kI (if and then 1 else 2),0)
 | [d]=>ev.e d
 | d::r =>
  let rest:=dB ev and r
  if and then (aG (ev.e d).1 rest.1 (kI 2),max rest.2 (ev.e d).2) else
   let x:=dU ev d (aG (bP bK) (bP bK) rest.1)
   (x.1,max rest.2 x.2)
noncomputable def bF (ev:Ev) (word:ByteArray) (l:List D):Rs :=
 if word=fH then uH ev l else if word=jQ then gE ev l else if word=dT∨word=fV then gP ev l else if word=iY then iC ev l else if word=sDo then nX ev l else if word=nU then dB ev true l else if word=sOr then dB ev false l else (kz,2)
noncomputable def zA (ev:Ev):List D→Rs
 | []=>(kz,2)
 | a::r =>
  let x:=dU ev a (fB ev r).1
  (x.1,max (fB ev r).2 x.2)
noncomputable def bZ (ev:Ev) (word:ByteArray) (l:List D):Rs :=
 if word=iX∧l.length=1 then (dY (l.getD 0 cJ),0)
 else if word=fE∧l.length=1 then ev.q (l.getD 0 cJ) 1
 else if word=aQ∧1≤l.length then cY ev (l.getD 0 cJ) (l.drop 1)
 else if word=sJ∧l.length=2 then (zR (bL (l.getD 0 cJ)).1 (ev.e (l.getD 1 cJ)).1,max (bL (l.getD 0 cJ)).2 (ev.e (l.getD 1 cJ)).2)
 else if word=sIf∧l.length=2 then (aG (ev.e (l.getD 0 cJ)).1 (ev.e (l.getD 1 cJ)).1 bR,(aL ev.e l).2)
 else if word=sIf∧l.length=3 then (aG (ev.e (l.getD 0 cJ)).1 (ev.e (l.getD 1 cJ)).1 (ev.e (l.getD 2 cJ)).1,(aL ev.e l).2)
 else if word=bS then eI ev.e l
 else if word=mF∧1≤l.length then zA ev l
 else if word=iR∧2≤l.length then (aG (ev.e (l.getD 0 cJ)).1 (eI ev.e (l.drop 1)).1 bR,max (ev.e (l.getD 0 cJ)).2 (eI ev.e (l.drop 1)).2)
 else if word=eB∧2≤l.length then (aG (ev.e (l.getD 0 cJ)).1 bR (eI ev.e (l.drop 1)).1,max (ev.e (l.getD 0 cJ)).2 (eI ev.e (l.drop 1)).2)
 else bF ev word l
noncomputable def dV (ev:Ev) (d:D):Rs :=
 if d.k=0 then (kz,2) else if d.k=6 then (bP (bL d).1,(bL d).2) else if d.k=7 then
  (if gN d=0 then (match items d with
   | []=>(kz,2)
   | a::r=>if a.k=6∧iP a.t=true then bZ ev a.t r else
    let x:=dA (aL ev.e (a::r)).1
    (x.1,max (aL ev.e (a::r)).2 x.2))
  else (kz,2))
 else (dY d,0)
noncomputable def evs:Nat→Ev
 | 0=>⟨fun _=>(kz,0),fun _=>(kz,0),fun _ _=>(kz,0)⟩
 | n+1=>⟨dV (evs n),vH ⟨dV (evs n),(evs n).b,(evs n).q⟩,nY ⟨dV (evs n),(evs n).b,(evs n).q⟩⟩
noncomputable def lR (E:Ev):Nat→D→Rs
 | 0,_=>(kz,0)
 | n+1,d=>match dL d cA with
  | some l=>(.mk 4 (fF E l).1 e0 [] cJ [(fF E l).2.1],(fF E l).2.2)
  | none=>match dL d bS with
   | none=>E.e d
   | some []=>(bR,0)
   | some (a::r)=>(gV ((a::r).map fun x=>(lR E n x).1),gW ((a::r).map fun x=>(lR E n x).2))
end Go.Proofs.YtaeioidifpebdaaGreatDoor
end
section
namespace Go.Proofs.YtaeioidifpebdaaGreatDoor
open Go Go.Lib
set_option linter.unusedSimpArgs false
set_option linter.unusedVariables false
theorem nZ {k c:Int} {neg:Bool} {mag:List Int} {t:ByteArray} (h:k≠8):(D.mk k c neg mag t []).depth=0:=by
 rw [D.depth_eq];simp [dto,rV,D.k,D.l,h]
def mV (a b:D):D:=.mk 7 0 false [] e0 [a,b]
theorem BS (a b:D):(mV a b).depth=max (a.depth+1) (b.depth+if b.k=7 then 0 else 1):=by
 rw [D.depth_eq]
 show max (if (7:Int)=8 then 1 else 0) (dto (mV a b) 2 _)=_
 simp [dto,rV,gC,mV,D.k,D.l]<;>rfl
def JX:List D→Nat
 | []=>0
 | d::l=>max d.depth (JX l)
theorem jC (d:D) (l:List D):aB (d::l)=mV d (aB l):=rfl
theorem mH:∀(l:List D),(aB l).depth=if l=[] then 0 else JX l+1
 | []=>by rw [show aB []=cJ from rfl,cJ,nZ (by decide)];rfl
 | [d]=>by
  rw [jC,BS,show aB []=cJ from rfl,cJ,nZ (by decide)]
  show max (d.depth+1) (0+if (0:Int)=7 then 0 else 1)=max d.depth 0+1
  rw [if_neg (by decide)];omega
 | d::e::l=>by
  rw [jC,BS,mH (e::l)]
  show max (d.depth+1) ((max e.depth (JX l)+1)+if (7:Int)=7 then 0 else 1)=max d.depth (max e.depth (JX l))+1
  rw [if_pos rfl];omega
theorem BT:cJ.Plain:=by rw [←dD];exact iW 0 (by simp) (by simp [fK,D.k,D.c,D.t,D.l,D.neg,D.mag])
theorem JY {a b:D}:(mV a b).Plain↔a.Plain∧b.Plain:=by
 unfold mV
 rw [D.Plain]
 simp [fK,D.k,D.c,D.t,D.l,D.neg,D.mag,Plains,e0]
theorem gF:∀{l:List D},(aB l).Plain↔Plains l
 | []=>by rw [show aB []=cJ from rfl];exact⟨fun _=>trivial,fun _=>BT⟩
 | d::l=>by rw [jC,JY,gF,Plains]
theorem vI {k:Int} (hk:k=1∨k=2∨k=9∨k=10):(eE k).Plain:=by
 rw [←dD];exact iW k (by omega) (by simp [fK,D.k,D.c,D.t,D.l,D.neg,D.mag,e0])
theorem jN (s:ByteArray):(aE s).Plain↔gX s 1=true:=by
 rw [←dD,aE,tP (by simp [fK,D.k,D.c,D.t,D.l,D.neg,D.mag])]
theorem oA {d:D}:lP d=true↔d.Plain∧d.depth≤64:=by
 unfold lP;rw [Bool.and_eq_true,dD,decide_eq_true_eq]
theorem tR (s:ByteArray):(aE s).depth=0:=nZ (by decide)
theorem vJ {k:Int} (h:k≠8):(eE k).depth=0:=nZ h
theorem ML:cJ.depth=0:=nZ (by decide)
theorem wV (s:ByteArray):(aE s).msr=1:=by rw [aE,D.msr];simp [cC]
theorem JZ {k:Int} (h:k≠8):(eE k).msr=1:=by rw [eE,D.msr,if_neg h];simp [cC]
theorem mI:∀(l:List D),(aB l).count=l.length+hO l+1
 | []=>rfl
 | d::l=>by rw [jC,mV,D.count,hO,hO,hO,mI l,hO,List.length_cons];omega
theorem pP (s:ByteArray):(aE s).count=1:=by rw [aE,D.count];simp [hO]
theorem vK (k:Int):(eE k).count=1:=by rw [eE,D.count];simp [hO]
theorem KA (a b:D):items (mV a b)=a::items b:=by
 unfold mV;rw [items];simp [kH]
theorem jD:∀(l:List D),items (aB l)=l
 | []=>rfl
 | d::l=>by rw [jC,KA,jD l]
theorem MM (a b:D):gN (mV a b)=gN b:=by
 unfold mV;rw [gN];simp [ED]
theorem lS:∀(l:List D),gN (aB l)=0
 | []=>rfl
 | d::l=>by rw [jC,MM,lS l]
theorem vL {s:ByteArray} (h:s.size≤140737488351232):(aE s).Ok:=by simp [aE,D.Ok,Oks,h]
theorem AF {k:Int} (h : -9223372036854775808≤k∧k≤9223372036854775807):(eE k).Ok:=by simp [eE,D.Ok,Oks,h,e0,ByteArray.size]
theorem ZT {s:ByteArray} (h:s∈jM):iP s=true:=List.any_eq_true.2 ⟨s,h,bH rfl⟩
theorem YC {s:ByteArray} (h:s∉jM):iP s=false:=by
 rw [iP,List.any_eq_false]
 intro x hx e
 have:=zV.1 e
 subst this
 exact h hx
theorem PB (s:ByteArray):(aE s).k=6:=rfl
theorem ZU (s:ByteArray):(aE s).t=s:=rfl
theorem oB (w s:ByteArray):fL (aE w) s=eqB w s:=by simp [fL,PB,ZU]
theorem GA {d:D} (h:d.k≠6) (s:ByteArray):fL d s=false:=by simp [fL,h]
theorem gJ (a:D) (r:List D) (s:ByteArray):dL (aB (a::r)) s=if fL a s=true then some r else none:=by
 rw [jC]
 unfold dL
 rw [show (mV a (aB r)).fst=a from rfl,show (mV a (aB r)).snd=aB r from rfl,show (mV a (aB r)).k=7 from rfl,lS,jD]
 by_cases h:fL a s=true
 ·rw [if_pos ⟨rfl,h⟩,if_pos rfl,if_pos h]
 ·rw [if_neg (fun q=>h q.2),if_neg h]
theorem AG {d:D} (h:d.k≠7) (s:ByteArray):dL d s=none:=if_neg fun q=>h q.1
theorem KB (l:List D):aR (aB l)=(l,0):=by unfold aR;rw [lS,jD,if_pos rfl]
theorem BU (ev:Ev) (a:D) (r:List D):dV ev (aB (a::r))=if a.k=6∧iP a.t=true then bZ ev a.t r else ((dA (aL ev.e (a::r)).1).1,max (aL ev.e (a::r)).2 (dA (aL ev.e (a::r)).1).2):=by
 unfold dV
 rw [show (aB (a::r)).k=7 from rfl,if_neg (by decide),if_neg (by decide),if_pos rfl,lS,if_pos rfl,jD]
theorem oC (ev:Ev) {s:ByteArray} (h:s∈jM) (r:List D):dV ev (aB (aE s::r))=bZ ev s r:=by
 rw [BU,if_pos ⟨rfl,ZT h⟩];rfl
theorem BV (ev:Ev) {a:D} (h:a.k≠6∨iP a.t=false) (r:List D):dV ev (aB (a::r))=((dA (aL ev.e (a::r)).1).1,max (aL ev.e (a::r)).2 (dA (aL ev.e (a::r)).1).2):=by
 rw [BU,if_neg]
 rintro ⟨q1,q2⟩
 rcases h with h|h
 ·exact h q1
 ·rw [h] at q2;cases q2
theorem sL {s:ByteArray} (h:iP s=false):bL (aE s)=(s,0):=if_pos ⟨rfl,h⟩
theorem EJ (ev:Ev) {s:ByteArray} (h:iP s=false):dV ev (aE s)=(bP s,0):=by
 unfold dV
 rw [if_neg (by rw [PB];decide),if_pos (PB s),sL h]
theorem BW (ev:Ev) {k:Int} (h:k=1∨k=2∨k=9):dV ev (eE k)=(dY (eE k),0):=by
 unfold dV
 rw [if_neg (by show ¬k=0;omega),if_neg (by show ¬k=6;omega),if_neg (by show ¬k=7;omega)]
noncomputable def fX (d:D):Rs:=lR (evs (d.msr+1)) (d.msr+1) d
theorem tU {d:D} (h1:dL d cA=none) (h2:dL d bS=none):fX d=dV (evs d.msr) d:=by
 unfold fX;rw [lR,h1];dsimp only;rw [h2];rfl
-- forms, by their words
theorem nD (ev:Ev) (a:D) (r:List D):bZ ev aQ (a::r)=cY ev a r:=by
 unfold bZ;(iterate 2 rw [if_neg (by rintro ⟨h,-⟩;exact absurd h (by decide))]);rw [if_pos ⟨rfl,by simp⟩];rfl
theorem tV (ev:Ev) (a b c:D):bZ ev sIf [a,b,c]=(aG (ev.e a).1 (ev.e b).1 (ev.e c).1,(aL ev.e [a,b,c]).2):=by
 unfold bZ;(iterate 4 rw [if_neg (by rintro ⟨h,-⟩;exact absurd h (by decide))]);rw [if_neg (by rintro ⟨-,h⟩;simp at h),if_pos ⟨rfl,rfl⟩];rfl
theorem zB (ev:Ev) (l:List D):bZ ev bS l=eI ev.e l:=by
 unfold bZ;(iterate 6 rw [if_neg (by rintro ⟨h,-⟩;exact absurd h (by decide))]);rw [if_pos rfl]
theorem MN (ev:Ev) (a b:D) (r:List D):bZ ev iR (a::b::r)=(aG (ev.e a).1 (eI ev.e (b::r)).1 bR,max (ev.e a).2 (eI ev.e (b::r)).2):=by
 unfold bZ;(iterate 6 rw [if_neg (by rintro ⟨h,-⟩;exact absurd h (by decide))]);rw [if_neg (by decide),if_neg (by rintro ⟨h,-⟩;exact absurd h (by decide)),if_pos ⟨rfl,by simp⟩];rfl
theorem GC (ev:Ev) (a b:D) (r:List D):bZ ev eB (a::b::r)=(aG (ev.e a).1 bR (eI ev.e (b::r)).1,max (ev.e a).2 (eI ev.e (b::r)).2):=by
 unfold bZ;(iterate 6 rw [if_neg (by rintro ⟨h,-⟩;exact absurd h (by decide))]);rw [if_neg (by decide)];(iterate 2 rw [if_neg (by rintro ⟨h,-⟩;exact absurd h (by decide))]);rw [if_pos ⟨rfl,by simp⟩];rfl
theorem kP (ev:Ev) {w:ByteArray} (h:w=fH∨w=jQ∨w=dT∨w=fV∨w=iY∨w=sDo∨w=nU∨w=sOr∨w=dX) (l:List D):bZ ev w l=bF ev w l:=by
 unfold bZ
 rcases h with rfl|rfl|rfl|rfl|rfl|rfl|rfl|rfl|rfl<;>((iterate 6 rw [if_neg (by rintro ⟨h,-⟩;exact absurd h (by decide))]);rw [if_neg (by decide)];(iterate 3 rw [if_neg (by rintro ⟨h,-⟩;exact absurd h (by decide))]))
theorem pQ (ev:Ev) (l:List D):bZ ev fH l=uH ev l:=by
 rw [kP ev (.inl rfl)];unfold bF;rw [if_pos rfl]
theorem MO (ev:Ev) (l:List D):bZ ev jQ l=gE ev l:=by
 rw [kP ev (.inr (.inl rfl))];unfold bF;rw [if_neg (by decide),if_pos rfl]
theorem GD (ev:Ev) (l:List D):bZ ev dT l=gP ev l:=by
 rw [kP ev (.inr (.inr (.inl rfl)))];unfold bF;rw [if_neg (by decide),if_neg (by decide),if_pos (.inl rfl)]
theorem MP (ev:Ev) (l:List D):bZ ev iY l=iC ev l:=by
 rw [kP ev (.inr (.inr (.inr (.inr (.inl rfl)))))];unfold bF;(iterate 3 rw [if_neg (by decide)]);rw [if_pos rfl]
theorem QN (ev:Ev) (l:List D):bZ ev nU l=dB ev true l:=by
 rw [kP ev (.inr (.inr (.inr (.inr (.inr (.inr (.inl rfl)))))))];unfold bF;(iterate 5 rw [if_neg (by decide)]);rw [if_pos rfl]
theorem MQ (ev:Ev) (l:List D):bZ ev dX l=(kz,2):=by
 rw [kP ev (.inr (.inr (.inr (.inr (.inr (.inr (.inr (.inr rfl))))))))];unfold bF;(iterate 7 rw [if_neg (by decide)])
-- bodies
theorem EK:∀(n:Nat) (l:List D),(∀d∈l,dL d bS=none)→wU n l=l
 | 0,l,_=>rfl
 | n+1,[],_=>rfl
 | n+1,d::l,h=>by
  have h1:=EK (n+1) l fun x hx=>h x (by simp [hx])
  rw [wU] at h1 ⊢
  rw [List.flatMap_cons,h1,h d (by simp)];rfl
theorem EL (ev:Ev):∀(l:List D) (s:Bs),(∀d∈l,dL d cA=none)→l.foldl (cW ev) s=⟨s.names,s.values,s.rest++l.map fun d=>(ev.e d).1,(l.map fun d=>(ev.e d).2).foldl max s.err⟩
 | [],s,_=>by simp
 | d::l,s,h=>by
  rw [List.foldl_cons,EL ev l _ fun x hx=>h x (by simp [hx])]
  unfold cW;rw [h d (by simp)];simp
theorem EM (ev:Ev) {l:List D} (hl:l≠[]) (h:∀d∈l,dL d bS=none∧dL d cA=none):vH ev l=eI ev.e l:=by
 unfold vH spl
 rw [EK _ _ fun d hd=>(h d hd).1,mP,EL ev l _ fun d hd=>(h d hd).2]
 unfold qV eI aL
 rw [if_neg (by simpa using hl),if_pos rfl,if_neg hl]
 simp [gW]
theorem wW (E:D→Rs) (d:D):eI E [d]=E d:=by simp [eI,aL,gV,gW]
theorem kJ (ps:List ByteArray) (h:ps.length≤40) (b:K):eU ps e0 b=(.mk 6 e0 e0 ps cJ [b],0):=by
 unfold eU;rw [if_neg (by simp;omega)]
theorem jE {l:List K} (h:l.length≤41):dA l=(jZ l,0):=if_neg (by omega)
theorem tW (s:ByteArray):unl [s]=0:=by unfold unl;rw [if_pos (by simp)]
theorem VV:unl []=0:=by unfold unl;rw [if_pos (by simp)]
theorem nL {s:ByteArray} (h:iP s=false) (x:D):aK (aB [aB [aE s,x]])=([s],[x],0):=by
 unfold aK
 rw [KB]
 have h1:gY (aB [aE s,x])=some (aE s,x):=by unfold gY;rw [lS,if_pos rfl,jD]
 simp [h1,sL h,gW]
theorem QO (a b:D):pO (mV a b)=pO b:=by unfold mV;rw [pO];simp [TH]
theorem EN:∀l:List D,pO (aB l)=cJ
 | []=>by rw [show aB []=cJ from rfl,cJ,pO];simp
 | d::l=>by rw [jC,QO,EN l]
theorem wY {s:ByteArray} (h:iP s=false):dR (aB [aE s])=([s],e0,0):=by
 unfold dR
 rw [EN,jD]
 dsimp only
 rw [show cJ.k=0 from rfl,if_pos rfl]
 simp [gW,sL h,tW]
end Go.Proofs.YtaeioidifpebdaaGreatDoor
end
section
namespace Go.Proofs.YtaeioidifpebdaaGreatDoor
open Go.RowKit Go.Extern.Stop Go.Stop Go.Extern
set_option linter.unusedSimpArgs false
set_option linter.unusedVariables false
set_option maxRecDepth 1000000
def YD:Array Value→Sem Value:=Extern.ReflectliteType.method fun t=>do Extern.Rtype.noPackHeld "Comparable" t;pure (.bool (←typeInfo t).comparable)
theorem KC (v:Value) (w:World):(Extern.ReflectliteType.typeOf #[.iface 183 v]).run Tryz.prog w=.ok (.iface 122 (.agg #[.pointer (some ⟨4,183,none⟩)])) w:=by kernel_rfl
theorem wZ (w:World):(YD #[.agg #[.pointer (some ⟨4,183,none⟩)]]).run Tryz.prog w=.ok (.bool true) w:=by kernel_rfl
theorem oD (v:Value) (w:World):(Go.method 320 122 v "Comparable").run Tryz.prog w=.ok (161,v) w:=by kernel_rfl
theorem TI:(Tryz.prog.info? 183).map (·.comparable)=some true:=by kernel_rfl
theorem TJ:(Tryz.prog.info? 208).map (·.size)=some 1:=by kernel_rfl
theorem XM (v:Value) (xT:TypeId) (w:World):(Instr.typeAssert (.iface 183 v) xT 124 true).run Tryz.prog w=.ok (.tuple #[.nilIface,.bool false]) w:=run_typeAssert_lacksB Tryz.underlying124 (by kernel_rfl) (by kernel_rfl) v xT w
theorem EO (v:Value) (xT:TypeId) (w:World):(Instr.typeAssert (.iface 183 v) xT 127 true).run Tryz.prog w=.ok (.tuple #[.nilIface,.bool false]) w:=run_typeAssert_lacksB Tryz.underlying127 (by kernel_rfl) (by kernel_rfl) v xT w
theorem BZ (v:Value) (xT:TypeId) (w:World):(Instr.typeAssert (.iface 183 v) xT 129 true).run Tryz.prog w=.ok (.tuple #[.nilIface,.bool false]) w:=run_typeAssert_lacksB Tryz.underlying129 (by kernel_rfl) (by kernel_rfl) v xT w
theorem XN (v:Value) (xT:TypeId) (w:World):(Instr.typeAssert (.iface 147 v) xT 124 true).run Tryz.prog w=.ok (.tuple #[.nilIface,.bool false]) w:=run_typeAssert_lacksB Tryz.underlying124 (by kernel_rfl) (by kernel_rfl) v xT w
theorem CA (v:Value) (xT:TypeId) (w:World):(Instr.typeAssert (.iface 147 v) xT 127 true).run Tryz.prog w=.ok (.tuple #[.iface 147 v,.bool true]) w:=run_typeAssert_hasB Tryz.underlying127 (by kernel_rfl) v xT w
theorem xA (v:Value) (w:World):(Go.method 320 147 v "Unwrap").run Tryz.prog w=.ok (171,v) w:=by kernel_rfl
theorem YE (b:Addr) (w:World) :
  Calls Tryz.prog 41 #[.nilIface,.iface 183 (.pointer (some b))] w fun e w'=>e=.returned (.bool false)∧w'=w:=by
 have hn:=run_eql_iface_nil_left (P:=Tryz.prog) w 183 (.pointer (some b)) Tryz.underlying62
 go_enter Tryz.func41,Tryz.ntmps41
 go_wp2
 go_ret
 exact⟨rfl,rfl⟩
theorem GF (pb po:Nat) (b:Addr) (w:World) (h1:w.cell? ⟨pb,po+1,none⟩=some (.iface 183 (.pointer (some b)))) :
  Calls Tryz.prog 41 #[.iface 147 (.pointer (some ⟨pb,po,none⟩)),.iface 183 (.pointer (some b))] w fun e w'=>e=.returned (.bool true)∧w'=w:=by
 obtain⟨i,hi,hcmp⟩:=Option.map_eq_some_iff.1 TI
 obtain⟨j,hj,hjs⟩:=Option.map_eq_some_iff.1 TJ
 have h8:=@run_callFunc_extern Tryz.prog 61 _ Extern.ReflectliteType.typeOf Tryz.func61 (by kernel_rfl) (by kernel_rfl) (by kernel_rfl) (by kernel_rfl)
 have h32:=@run_callFunc_extern Tryz.prog 161 _ YD Tryz.func161 (by kernel_rfl) (by kernel_rfl) (by kernel_rfl) (by kernel_rfl)
 have tT:=KC
 have cT:=wZ
 have mR:=oD
 have nE:=XM
 have uE:=EO
 have vE:=BZ
 have nW:=XN
 have uW:=CA
 have mU:=xA
 have heq:=run_eql_iface_ptr_same (P:=Tryz.prog) w b Tryz.underlying62 Tryz.underlying183 hi hcmp hj
 have hty:=run_eql_iface_types (P:=Tryz.prog) 147 183 (.pointer (some ⟨pb,po,none⟩)) (.pointer (some b)) Tryz.underlying62 (by decide) w
 go_enter Tryz.func41,Tryz.ntmps41
 go_wp2
 refine wp_loop_rounds 2 ?_
 rw [rounds_succ]
 go_wp2
 rw [rounds_succ]
 go_wp2
 go_ret
 exact⟨rfl,rfl⟩
theorem DL (pb po:Nat) (b:Addr) (a:Addr) (ca cb:Array Value) (ta tb:TypeId) (w:World) (h1:w.cell? ⟨pb,po+1,none⟩=some (.iface 183 (.pointer (some a)))) (hne:a≠b) (ha:w.heap[a.block]?=some (.cells ca ta (0,0))) (hb:w.heap[b.block]?=some (.cells cb tb (0,0))) :
  Calls Tryz.prog 41 #[.iface 147 (.pointer (some ⟨pb,po,none⟩)),.iface 183 (.pointer (some b))] w fun e w'=>e=.returned (.bool false)∧w'=w:=by
 obtain⟨i,hi,hcmp⟩:=Option.map_eq_some_iff.1 TI
 obtain⟨j,hj,hjs⟩:=Option.map_eq_some_iff.1 TJ
 have h8:=@run_callFunc_extern Tryz.prog 61 _ Extern.ReflectliteType.typeOf Tryz.func61 (by kernel_rfl) (by kernel_rfl) (by kernel_rfl) (by kernel_rfl)
 have h32:=@run_callFunc_extern Tryz.prog 161 _ YD Tryz.func161 (by kernel_rfl) (by kernel_rfl) (by kernel_rfl) (by kernel_rfl)
 have tT:=KC
 have cT:=wZ
 have mR:=oD
 have nE:=XM
 have uE:=EO
 have vE:=BZ
 have nW:=XN
 have uW:=CA
 have mU:=xA
 have heq:=run_eql_iface_ptr_other (P:=Tryz.prog) w Tryz.underlying62 Tryz.underlying183 hi hcmp hj (by rw [hjs];decide) hne ha hb
 have hty:=run_eql_iface_types (P:=Tryz.prog) 147 183 (.pointer (some ⟨pb,po,none⟩)) (.pointer (some b)) Tryz.underlying62 (by decide) w
 go_enter Tryz.func41,Tryz.ntmps41
 go_wp2
 refine wp_loop_rounds 2 ?_
 rw [rounds_succ]
 go_wp2
 rw [rounds_succ]
 go_wp2
 go_ret
 exact⟨rfl,rfl⟩
end Go.Proofs.YtaeioidifpebdaaGreatDoor
end
section
namespace Go.Proofs.YtaeioidifpebdaaGreatDoor
open Go Go.RowKit Go.Lib
set_option linter.unusedSimpArgs false
set_option linter.unusedVariables false
set_option maxHeartbeats 4000000
set_option maxRecDepth 100000
theorem TK (s:ByteArray):Pure Tryz.prog 137 [.one (.v (.string s))] (.agg (aE s).cc):=by
 refine nS fun w vs hg hv=>?_
 obtain⟨v,rfl,hv1⟩:=hv.one1
 simp only [Ca,Cc] at hv1
 obtain⟨rfl,-⟩:=hv1
 exact (VT s w).mono fun e w' ⟨v',he,hx,hr⟩=>⟨v',he,hx,IsD.ca hr⟩
theorem QP (l:List D) (hok:Oks l) (hlen:l.length≤1599289640354):Pure Tryz.prog 125 [.one (.sl 6 (l.map D.cc))] (.agg (aB l).cc):=by
 refine nS fun w vs hg hv=>?_
 obtain⟨v,rfl,hv1⟩:=hv.one1
 exact (TC l w v hok hlen hv1.isDs).mono fun e w' ⟨v',he,hx,hr⟩=>⟨v',he,hx,IsD.ca hr⟩
theorem QQ (d f:D) (hd:d.Ok) (hf:f.Ok):Pure Tryz.prog 95 [.agg d.cc,.agg f.cc] (.agg (JS d f).cc):=by
 refine nS fun w vs hg hv=>?_
 obtain⟨v,u,rfl,hv1,hu1⟩:=hv.two
 exact (TD d f w v u hd hf hv1.isD hu1.isD).mono fun e w' ⟨v',he,hx,hr⟩=>⟨v',he,hx,IsD.ca hr⟩
def eV (d:D):List D:=if gN d=0 then items d else []
theorem CB (d:D) (hok:d.Ok) (hlen:(items d).length≤1000000000):Pure Tryz.prog 83 [.agg d.cc] (.tup [.one (.sl 6 ((eV d).map D.cc)),.one (.v (.bool (decide (gN d=0))))]):=by
 refine nS fun w vs hg hv=>?_
 obtain⟨v,rfl,hv1⟩:=hv.one1
 refine (QK d w v hok hlen hv1.isD).mono fun e w' ⟨v',he,hx,hr⟩=>⟨_,he,hx,?_⟩
 simp only [Ca,Cas]
 exact⟨[v',_],rfl,v',_,rfl,IsDs.ca hr,_,_,rfl,by simp [Cc,Value.oneCell'],rfl⟩
-- errors
theorem GL.two_is {w:World} (h:GL w) (n:Nat) {u:Value} (hu:CellsAt w (erG n) 0 [u]):∃(a:Addr) (ca:Array Value) (ta:TypeId),u=.iface 183 (.pointer (some a))∧w.heap[a.block]?=some (.cells ca ta (0,0)):=by
 obtain⟨g1,a,b,ca,cb,ta,tb,g2,g3,g6,g7,g8,g4,g5⟩:=h
 have hu1:w.cell? ⟨erG n,0,none⟩=some u:=hu.1
 cases n with
 | zero =>
  have:some u=_:=hu1.symm.trans g2
  cases this
  exact⟨a,ca,ta,rfl,g4⟩
 | succ n =>
  have:some u=_:=hu1.symm.trans g3
  cases this
  exact⟨b,cb,tb,rfl,g5⟩
theorem xB {w:World} {p:Addr} {t t':TypeId} {a b:Addr} (h1:w.cell? p=some (.iface t (.pointer (some a)))) (h2:w.cell? p=some (.iface t' (.pointer (some b)))):a=b:=by
 rw [h1] at h2
 simp only [Option.some.injEq,Value.iface.injEq,Value.pointer.injEq] at h2
 exact h2.2
theorem GL.ne {w:World} (hg:GL w) {n g:Nat} (hn:n+1≤2) (hg1:g≤1) (hng:¬n=g) {t t':TypeId} {a b:Addr} (e1:w.cell? ⟨erG n,0,none⟩=some (.iface t (.pointer (some a)))) (e2:w.cell? ⟨erG g,0,none⟩=some (.iface t' (.pointer (some b)))):a≠b:=by
 intro hab
 subst hab
 obtain⟨g1,a',b',ca',cb',ta',tb',g2,g3,g6,g7,g8,-⟩:=hg
 obtain⟨rfl,rfl⟩|⟨rfl,rfl⟩:(n=0∧g=1)∨(n=1∧g=0):=by omega
 ·exact g8 ((xB g2 e1).trans (xB g3 e2).symm)
 ·exact g8 ((xB g2 e2).trans (xB g3 e1).symm)
theorem GG (n g:Nat) (hn:n≤2) (hg1:g≤1):Pure Tryz.prog 41 [.one (.er n),.one (.gv (erG g))] (.one (.v (.bool (decide (n=g+1))))):=by
 refine fU rfl fun w vs hg hv=>?_
 obtain⟨v,u,rfl,hv1,hu1⟩:=hv.two
 simp only [Ca,Cc] at hv1 hu1
 obtain⟨b,cb,tb,rfl,hb⟩:=hg.two_is g hu1.2
 cases n with
 | zero =>
  obtain rfl:v=.nilIface:=hv1
  exact (YE b w).mono fun e w' ⟨he,hw⟩=>⟨by rw [he];simp,hw▸Ext.refl _⟩
 | succ n =>
  obtain⟨pb,po,s,e,rfl,h1,h2⟩:=hv1
  obtain⟨a,ca,ta,rfl,ha⟩:=hg.two_is n h2
  have hc:w.cell? ⟨pb,po+1,none⟩=some (.iface 183 (.pointer (some a))):=h1.2.1
  have e1:w.cell? ⟨erG n,0,none⟩=some (.iface 183 (.pointer (some a))):=h2.1
  have e2:w.cell? ⟨erG g,0,none⟩=some (.iface 183 (.pointer (some b))):=hu1.2.1
  by_cases hng:n=g
  ·subst hng
   have:=xB e1 e2
   subst this
   exact (GF pb po a w hc).mono fun e w' ⟨he,hw⟩=>⟨by rw [he];simp,hw▸Ext.refl _⟩
  ·have hne:a≠b:=GL.ne hg hn hg1 hng e1 e2
   exact (DL pb po b a ca cb ta tb w hc hne ha hb).mono fun e w' ⟨he,hw⟩=>⟨by rw [he,decide_eq_false (by omega)],hw▸Ext.refl _⟩
theorem dE (s:ByteArray) (n:Nat):Pure Tryz.prog 84 [.one (.v (.string s)),.one (.gv (erG n))] (.one (.er (n+1))):=by
 refine QE fun w vs hg hv=>?_
 obtain⟨v,u,rfl,hv1,hu1⟩:=hv.two
 simp only [Ca,Cc] at hv1 hu1
 obtain⟨rfl,-⟩:=hv1
 obtain⟨b,cb,tb,rfl,hb⟩:=hg.two_is n hu1.2
 go_enter Tryz.func84,Tryz.ntmps84
 go_wp2_with fail
 refine bodyPost_ret (v:=.iface 147 (.pointer (some ⟨w.heap.size,0,none⟩))) (by simp [results,Tryz.results84,go_sem]) rfl ⟨_,rfl,(Ext.refl _).alloc _,?_⟩
 have hnew:=gQ w (.cells #[.string s,.iface 183 (.pointer (some b))] 149)
 have hx:Ext w (w.alloc (.cells #[.string s,.iface 183 (.pointer (some b))] 149)):=(Ext.refl _).alloc _
 refine⟨w.heap.size,0,.string s,.iface 183 (.pointer (some b)),rfl,⟨?_,?_,trivial⟩,⟨?_,trivial⟩⟩
 ·rw [fA,if_pos (by simp)];unfold World.cell?;rw [hnew];rfl
 ·rw [fA,if_pos (by simp)];unfold World.cell?;rw [hnew];rfl
 ·rw [fA,if_pos (by cases n<;>simp [GB,erG])]
  exact hx.keeps _ _ hu1.2.1
end Go.Proofs.YtaeioidifpebdaaGreatDoor
end
section
namespace Go.Proofs.YtaeioidifpebdaaGreatDoor
open Go Go.RowKit
set_option linter.unusedSimpArgs false
set_option linter.unusedVariables false
set_option maxHeartbeats 4000000
set_option maxRecDepth 100000
theorem cG (a b:ByteArray):(a.toList == b.toList)=eqB a b:=by
 by_cases h:a=b
 ·rw [bH h];simp [h]
 ·rw [aA h];simpa using fun e=>h (qE e)
theorem CC {P:Program} {w:World} {t e:TypeId} {a:Option Addr} {n c:Nat} (h:P.underlying t=some (.slice e)):(Op.equal t (.slice a n c) (.slice none 0 0)).run P w=.ok a.isNone w:=by
 have hun:(underlying t).run P w=.ok (.slice e) w:=by simp [underlying,program,bind,Sem.bind,Sem.run,h,pure]
 unfold Op.equal Op.maxDepth
 rw [Op.equalIn]
 cases a<;>simp only [Sem.run_bind,hun,Result.andThen_ok,Sem.run_pure,Option.isNone_none,Option.isNone_some]
theorem WpL.nilSl {P:Program} {nt:Cf} {ops:Array Oper} {Q:St→Prop} {st:St} {rest:List Oper} {d:Option Tmp} {t ty t' e:TypeId} {x:Operand} {pos:String} {aft:Array Edge} {wd:Nat} {es:List (List C)} (hd:oK nt d=true)
  (hx:rdA st.e x=some (.one (.sl wd es))) (ht:P.underlying t=some (.slice e)) (h:∀b,(es≠[]→b=false)→WpL P nt ops Q rest (st.put d (.one (.v (.bool b))))):WpL P nt ops Q (⟨d,.binOp .eql t x (.const (.slice none 0 0)) t',ty,pos,aft,none⟩::rest) st:=fun H w0 S0 m0 m a w hs Q' hQ=>by
 have h1:=hs.rd hx
 simp only [Ca,Cc] at h1
 have key:∃q n c,a.eval x=.slice q n c∧(es≠[]→q.isNone=false):=by
  rcases h1.2 with ⟨h0,hn⟩|⟨b,o,cap,hu,-⟩
  ·rcases hn with hn|⟨q,cap,hn,-⟩
   ·exact⟨_,_,_,hn,fun hne=>absurd h0 hne⟩
   ·exact⟨_,_,_,hn,fun hne=>absurd h0 hne⟩
  ·exact⟨_,_,_,hu,fun _=>rfl⟩
 obtain⟨q,n,c,hu,hq⟩:=key
 have hnext:=h q.isNone hq H w0 S0 m0 m _ w (hs.put hd (caV rfl)) Q' hQ
 unfold wpList
 rw [if_pos (by rfl)]
 refine .inl ?_
 unfold Oper.wp
 have hrun:(execOp a.eval ⟨d,.binOp .eql t x (.const (.slice none 0 0)) t',ty,pos,aft,none⟩).run P w=.ok (.value (.bool q.isNone)) w:=by
  have e2:a.eval (.const (.slice none 0 0))=.slice none 0 0:=rfl
  simp only [execOp,hu,e2,Sem.run_bind,oU (P:=P) (w:=w) _ t x (.const (.slice none 0 0)) (.slice q n c) (.slice none 0 0) (by simp) (by simp),Result.andThen_ok,binOp,CC ht,Sem.run_pure]
 rw [hrun]
 exact hnext
noncomputable def KD (l:List ByteArray) (s:ByteArray):Option Nat:=l.findIdx? fun a=>eqB s a
noncomputable def idx (l:List ByteArray) (s:ByteArray):Int:=match KD l s with|some k=>k|none=>-1
theorem QR {l:List ByteArray} {s:ByteArray} {k:Nat} (h:k<l.length) (hk:s=l[k]) (hb:∀j (h:j<l.length),j<k→s≠l[j]):KD l s=some k:=by
 unfold KD
 rw [List.findIdx?_eq_some_iff_getElem]
 exact⟨h,bH hk,fun j hj=>by rw [aA (hb j (by omega) hj)];simp⟩
theorem QS {l:List ByteArray} {s:ByteArray} (hb:∀j (h:j<l.length),s≠l[j]):KD l s=none:=by
 unfold KD
 rw [List.findIdx?_eq_none_iff]
 intro x hx
 obtain⟨j,hj,rfl⟩:=List.mem_iff_getElem.1 hx
 exact aA (hb j hj)
def IxI (l:List ByteArray) (s:ByteArray) (n:Nat) (st:St):Prop:=∃i:Nat,n=l.length-i∧i≤l.length∧(∀j (h:j<l.length),j<i→s≠l[j]) ∧
 st=⟨[(8,.one (.v (.int .i64 i))),(7,.one (.v (.int .i64 l.length))),(0,.one (.sl 1 (dS l))),(1,.one (.v (.string s)))],[]⟩
theorem MR (l:List ByteArray) (s:ByteArray) (hlen:l.length≤1000000000000001):Pure Tryz.prog 117 [.one (.sl 1 (dS l)),.one (.v (.string s))] (.one (.v (.int .i64 (idx l s)))):=by
 have hl:=dQ l
 refine Fn.intro Tryz.func117 rfl Tryz.ntmps117 Tryz.results117 (by simp only [List.length_cons,List.length_nil];decide) ?_
 repeat (first|(apply fw;focus ((with_reducible constructor)<;>constructor))|((first|with_reducible refine ga _ rfl fun Y y=>?_|apply ri);simp only [zb,seval,MG,hl];refine RunTo.fn y (by first|(simp;done)|omega|(simp;omega)) ?_;clear y Y))
 refine WpA.loop (IxI l s) l.length ?_ ⟨0,rfl,Nat.zero_le _,fun j _ h=>absurd h (Nat.not_lt_zero _),rfl⟩ ?_
 ·exact Le.sub (by simp [Sub,find])
 intro n' st hI
 obtain⟨i,rfl,hi,hb,rfl⟩:=hI
 have hw2:IntKind.i64.wrap ((i:Int)+1)=((i+1:Nat):Int):=by rw [dP (by omega) (by omega)];omega
 by_cases hlt:i<l.length
 ·have hd1:decide ((i:Int)<(l.length:Int))=true:=by simp;omega
  have hget:=pN hlt
  by_cases he:s=l[i]
  ·have hee:=bH he
   repeat (first|(apply fw;focus ((with_reducible constructor)<;>constructor))|((first|with_reducible refine ga _ rfl fun Y y=>?_|apply ri);simp only [zb,seval,MG,hd1,hget,cG,hee];refine RunTo.fn y (by first|(simp;done)|omega|(simp;omega)) ?_;clear y Y))
   refine⟨by simp,_,_,_,_,(by simp only [zb,seval,MG];rfl),(by simp),(by simp only [zv];rfl),(by simp [A.shut,C.shut]),_,ALe.refl _,?_⟩
   rw [idx,QR hlt he hb]
  ·have hee:=aA he
   repeat (first|(apply fw;focus ((with_reducible constructor)<;>constructor))|((first|with_reducible refine ga _ rfl fun Y y=>?_|apply ri);simp only [zb,seval,MG,hd1,hget,cG,hee,hw2];refine RunTo.fn y (by first|(simp;done)|omega|(simp;omega)) ?_;clear y Y))
   refine⟨l.length-(i+1),_,by omega,Le.sub (by simp [Sub,find]),i+1,rfl,hlt,fun j hj hji=>?_,rfl⟩
   rcases Nat.lt_succ_iff_lt_or_eq.1 hji with h|rfl
   ·exact hb j hj h
   ·exact he
 ·have hd0:decide ((i:Int)<(l.length:Int))=false:=by simp;omega
  repeat (first|(apply fw;focus ((with_reducible constructor)<;>constructor))|((first|with_reducible refine ga _ rfl fun Y y=>?_|apply ri);simp only [zb,seval,MG,hd0];refine RunTo.fn y (by first|(simp;done)|omega|(simp;omega)) ?_;clear y Y))
  repeat (first|(apply fw;focus ((with_reducible constructor)<;>constructor))|((first|with_reducible refine ga _ rfl fun Y y=>?_|apply ri);simp only [zb,seval,MG,hd0];refine RunTo.fn y (by first|(simp;done)|omega|(simp;omega)) ?_;clear y Y))
  refine⟨by simp,_,_,_,_,(by simp only [zb,seval,MG];rfl),(by simp),(by simp only [zv];rfl),(by simp [A.shut,C.shut]),_,ALe.refl _,?_⟩
  rw [idx,QS fun j hj=>hb j hj (by omega)]
theorem DM (l:List ByteArray) (s:ByteArray) (hlen:l.length≤1000000000000001):Pure Tryz.prog 99 [.one (.sl 1 (dS l)),.one (.v (.string s))] (.one (.v (.bool (decide (0≤idx l s))))):=by
 refine Fn.intro Tryz.func99 rfl Tryz.ntmps99 Tryz.results99 (by simp only [List.length_cons,List.length_nil];decide) ?_
 repeat (first|(apply fw;focus ((with_reducible constructor)<;>constructor))|((first|with_reducible refine ga _ rfl fun Y y=>?_|apply ri);simp only [zb,seval];refine RunTo.fn y (by first|(simp;done)|omega|(simp;omega)) ?_;clear y Y))
 refine WpL.call rfl (aD (P:=Tryz.prog) rfl) (CallA.shut rfl rfl (by kernel_rfl) (by first|exact ALes.refl _|((try simp only [rcc]);(repeat (first|exact ALes.refl _|refine ALes.cons ?_ ?_|exact ALe.refl _|exact ALe.nil|refine ALe.agg ?_|exact CLes.refl _|refine CLes.nil ?_|refine CLes.cons ?_)))) (by first|rfl|simp [dF,A.shut,C.shut]) (MR l s hlen) ?_)
 (refine WpL.go _ rfl fun Y y=>?_);repeat (first|(apply fw;focus ((with_reducible constructor)<;>constructor))|((first|with_reducible refine ga _ rfl fun Y y=>?_|apply ri);simp only [zb,seval];refine RunTo.fn y (by first|(simp;done)|omega|(simp;omega)) ?_;clear y Y))
 refine⟨by simp,_,_,_,_,(by simp only [zb,seval];rfl),(by simp),(by simp only [zv];rfl),(by simp [A.shut,C.shut]),_,ALe.refl _,?_⟩
 rfl
end Go.Proofs.YtaeioidifpebdaaGreatDoor
end
section
namespace Go.Proofs.YtaeioidifpebdaaGreatDoor
open Go Go.RowKit Go.Lib
set_option linter.unusedSimpArgs false
set_option linter.unusedVariables false
set_option maxHeartbeats 4000000
set_option maxRecDepth 100000
theorem QT (a b:D):Pure Tryz.prog 36 [.agg a.cc,.agg b.cc] (.one (.v (.bool (eqB a b)))):=by
 refine fU rfl fun w vs hg hv=>?_
 obtain⟨v,u,rfl,hv1,hu1⟩:=hv.two
 exact TF a b w v u hv1.isD hu1.isD
def EqI (a b:List ByteArray) (n:Nat) (st:St):Prop:=∃i:Nat,n=a.length-i∧i≤a.length∧a.take i=b.take i ∧
 st=⟨[(13,.one (.v (.int .i64 i))),(12,.one (.v (.int .i64 a.length))),(0,.one (.sl 1 (dS a))),(1,.one (.sl 1 (dS b)))],[]⟩
theorem KE (a b:List ByteArray) (hlen:a.length≤1000000000000000):Pure Tryz.prog 35 [.one (.sl 1 (dS a)),.one (.sl 1 (dS b))] (.one (.v (.bool (eqB a b)))):=by
 have hla:=dQ a
 have hlb:=dQ b
 by_cases hl:a.length=b.length
 case neg =>
  have hne:((a.length:Int) != (b.length:Int))=true:=by simp;omega
  rw [aA fun h=>hl (by rw [h])]
  refine Fn.intro Tryz.func35 rfl Tryz.ntmps35 Tryz.results35 (by simp only [List.length_cons,List.length_nil];decide) ?_
  repeat (first|(apply fw;focus ((with_reducible constructor)<;>constructor))|((first|with_reducible refine ga _ rfl fun Y y=>?_|apply ri);simp only [zb,seval,w35,hla,hlb,hne];refine RunTo.fn y (by first|(simp;done)|omega|(simp;omega)) ?_;clear y Y))
  refine⟨by simp,_,_,_,_,(by simp only [zb,seval,w35];rfl),(by simp),(by simp only [zv];rfl),(by simp [A.shut,C.shut]),_,ALe.refl _,?_⟩
  rfl
 have hne:((a.length:Int) != (b.length:Int))=false:=by simp;omega
 refine Fn.intro Tryz.func35 rfl Tryz.ntmps35 Tryz.results35 (by simp only [List.length_cons,List.length_nil];decide) ?_
 repeat (first|(apply fw;focus ((with_reducible constructor)<;>constructor))|((first|with_reducible refine ga _ rfl fun Y y=>?_|apply ri);simp only [zb,seval,w35,hla,hlb,hne];refine RunTo.fn y (by first|(simp;done)|omega|(simp;omega)) ?_;clear y Y))
 refine WpA.loop (EqI a b) a.length ?_ ⟨0,rfl,Nat.zero_le _,rfl,rfl⟩ ?_
 ·exact Le.sub (by simp [Sub,find])
 intro n' st hI
 obtain⟨i,rfl,hi,hb,rfl⟩:=hI
 have hw2:IntKind.i64.wrap ((i:Int)+1)=((i+1:Nat):Int):=by rw [dP (by omega) (by omega)];omega
 by_cases hlt:i<a.length
 ·have hd1:decide ((i:Int)<(a.length:Int))=true:=by simp;omega
  have hga:=pN hlt
  have hgb:=pN (l:=b) (i:=i) (by omega)
  by_cases he:a[i]=b[i]
  ·have hee:=bH he
   repeat (first|(apply fw;focus ((with_reducible constructor)<;>constructor))|((first|with_reducible refine ga _ rfl fun Y y=>?_|apply ri);simp only [zb,seval,w35,hd1];refine RunTo.fn y (by first|(simp;done)|omega|(simp;omega)) ?_;clear y Y))
   (refine WpA.draw0 9 _ _ _ rfl rfl rfl (by kernel_rfl) (by kernel_rfl) (by kernel_rfl) fun K8 hK8=>?_);simp only [zz] at hK8 ⊢;(refine Draw0.go fun K7 hK7=>?_);simp only [zb,seval,w35,hga,hgb,cG,hee,hw2];(refine RunQ.mk (by first|(simp;done)|omega|(simp;omega)) (hK7 _ _ ?_));clear hK7 K7;(try ((refine Draw0.nil (hK8 _ ?_));clear hK8 K8;(refine WpL.go _ rfl fun Y y=>?_);repeat (first|(apply fw;focus ((with_reducible constructor)<;>constructor))|((first|with_reducible refine ga _ rfl fun Y y=>?_|apply ri);simp only [zb,seval,w35,hga,hgb,cG,hee,hw2];refine RunTo.fn y (by first|(simp;done)|omega|(simp;omega)) ?_;clear y Y))))
   refine⟨a.length-(i+1),_,by omega,Le.sub (by simp [Sub,find]),i+1,rfl,hlt,?_,rfl⟩
   rw [List.take_succ_eq_append_getElem hlt,List.take_succ_eq_append_getElem (by omega),hb,he]
  ·have hee:=aA he
   rw [aA fun h=>he (by simp [h])]
   repeat (first|(apply fw;focus ((with_reducible constructor)<;>constructor))|((first|with_reducible refine ga _ rfl fun Y y=>?_|apply ri);simp only [zb,seval,w35,hd1];refine RunTo.fn y (by first|(simp;done)|omega|(simp;omega)) ?_;clear y Y))
   (refine WpA.draw0 9 _ _ _ rfl rfl rfl (by kernel_rfl) (by kernel_rfl) (by kernel_rfl) fun K8 hK8=>?_);simp only [zz] at hK8 ⊢;(refine Draw0.go fun K7 hK7=>?_);simp only [zb,seval,w35,hga,hgb,cG,hee,hw2];(refine RunQ.mk (by first|(simp;done)|omega|(simp;omega)) (hK7 _ _ ?_));clear hK7 K7;(try ((refine Draw0.nil (hK8 _ ?_));clear hK8 K8;(refine WpL.go _ rfl fun Y y=>?_);repeat (first|(apply fw;focus ((with_reducible constructor)<;>constructor))|((first|with_reducible refine ga _ rfl fun Y y=>?_|apply ri);simp only [zb,seval,w35,hga,hgb,cG,hee,hw2];refine RunTo.fn y (by first|(simp;done)|omega|(simp;omega)) ?_;clear y Y))))
   refine⟨by simp,_,_,_,_,(by simp only [zb,seval,w35];rfl),(by simp),(by simp only [zv];rfl),(by simp [A.shut,C.shut]),_,ALe.refl _,?_⟩
   rfl
 ·have hd0:decide ((i:Int)<(a.length:Int))=false:=by simp;omega
  have hii:i=a.length:=by omega
  rw [bH (show a=b by rw [hii,List.take_length,hl,List.take_length] at hb;exact hb)]
  repeat (first|(apply fw;focus ((with_reducible constructor)<;>constructor))|((first|with_reducible refine ga _ rfl fun Y y=>?_|apply ri);simp only [zb,seval,w35,hd0];refine RunTo.fn y (by first|(simp;done)|omega|(simp;omega)) ?_;clear y Y))
  repeat (first|(apply fw;focus ((with_reducible constructor)<;>constructor))|((first|with_reducible refine ga _ rfl fun Y y=>?_|apply ri);simp only [zb,seval,w35,hd0];refine RunTo.fn y (by first|(simp;done)|omega|(simp;omega)) ?_;clear y Y))
  refine⟨by simp,_,_,_,_,(by simp only [zb,seval,w35];rfl),(by simp),(by simp only [zv];rfl),(by simp [A.shut,C.shut]),_,ALe.refl _,?_⟩
  rfl
def EqF (a b:List K) (n:Nat) (st:St):Prop:=∃i:Nat,n=a.length-i∧i≤a.length∧a.take i=b.take i ∧
 st=⟨[(17,.one (.v (.int .i64 i))),(16,.one (.v (.int .i64 a.length))),(15,.one (.sl 11 (a.map K.cc))),(0,.one (.sl 11 (a.map K.cc))),(1,.one (.sl 11 (b.map K.cc))),(2,.one (.fn 14 []))],[]⟩
theorem KF (a b:List K) (hlen:a.length≤1000000000000000) (ih:∀x∈a,∀y,Pure Tryz.prog 14 [.agg x.cc,.agg y.cc] (.one (.v (.bool (eqB x y))))):Pure Tryz.prog 37 [.one (.sl 11 (a.map K.cc)),.one (.sl 11 (b.map K.cc)),.one (.fn 14 [])] (.one (.v (.bool (eqB a b)))):=by
 by_cases hl:a.length=b.length
 case neg =>
  have hne:((a.length:Int) != (b.length:Int))=true:=by simp;omega
  rw [aA fun h=>hl (by rw [h])]
  refine Fn.intro Tryz.func37 rfl Tryz.ntmps37 Tryz.results37 (by simp only [List.length_cons,List.length_nil];decide) ?_
  repeat (first|(apply fw;focus ((with_reducible constructor)<;>constructor))|((first|with_reducible refine ga _ rfl fun Y y=>?_|apply ri);simp only [zb,seval,w37,hne];refine RunTo.fn y (by first|(simp;done)|omega|(simp;omega)) ?_;clear y Y))
  refine⟨by simp,_,_,_,_,(by simp only [zb,seval,w37];rfl),(by simp),(by simp only [zv];rfl),(by simp [A.shut,C.shut]),_,ALe.refl _,?_⟩
  rfl
 have hne:((a.length:Int) != (b.length:Int))=false:=by simp;omega
 refine Fn.intro Tryz.func37 rfl Tryz.ntmps37 Tryz.results37 (by simp only [List.length_cons,List.length_nil];decide) ?_
 repeat (first|(apply fw;focus ((with_reducible constructor)<;>constructor))|((first|with_reducible refine ga _ rfl fun Y y=>?_|apply ri);simp only [zb,seval,w37,hne];refine RunTo.fn y (by first|(simp;done)|omega|(simp;omega)) ?_;clear y Y))
 refine WpA.loop (EqF a b) a.length ?_ ⟨0,rfl,Nat.zero_le _,rfl,rfl⟩ ?_
 ·exact Le.sub (by simp [Sub,find])
 intro n' st hI
 obtain⟨i,rfl,hi,hb,rfl⟩:=hI
 have hw2:IntKind.i64.wrap ((i:Int)+1)=((i+1:Nat):Int):=by rw [dP (by omega) (by omega)];omega
 by_cases hlt:i<a.length
 ·have hd1:decide ((i:Int)<(a.length:Int))=true:=by simp;omega
  have hlb:i<b.length:=by omega
  have hga:=YB hlt
  have hgb:=YB hlb
  have hc:=ih a[i] (List.getElem_mem _) b[i]
  rw [K.cc_eq] at hga hgb
  rw [K.cc_eq a[i],K.cc_eq b[i]] at hc
  by_cases he:a[i]=b[i]
  ·have hee:=bH he
   repeat (first|(apply fw;focus ((with_reducible constructor)<;>constructor))|((first|with_reducible refine ga _ rfl fun Y y=>?_|apply ri);simp only [zb,seval,w37,hd1,hga,hgb];refine RunTo.fn y (by first|(simp;done)|omega|(simp;omega)) ?_;clear y Y))
   refine WpL.call rfl (aD (P:=Tryz.prog) rfl) (CallA.shut rfl rfl (by kernel_rfl) (by first|exact ALes.refl _|((try simp only [rcc]);(repeat (first|exact ALes.refl _|refine ALes.cons ?_ ?_|exact ALe.refl _|exact ALe.nil|refine ALe.agg ?_|exact CLes.refl _|refine CLes.nil ?_|refine CLes.cons ?_)))) (by first|rfl|simp [dF,A.shut,C.shut]) (hc) ?_)
   (refine WpL.go _ rfl fun Y y=>?_);repeat (first|(apply fw;focus ((with_reducible constructor)<;>constructor))|((first|with_reducible refine ga _ rfl fun Y y=>?_|apply ri);simp only [zb,seval,w37,hee,hw2];refine RunTo.fn y (by first|(simp;done)|omega|(simp;omega)) ?_;clear y Y))
   refine⟨a.length-(i+1),_,by omega,Le.drop 0 (Nat.zero_le _) rfl (by simp [Sub,find]) (by simp [JG,A.bd,C.bd,C.bds]) (by simp [ObBd]),i+1,rfl,hlt,?_,rfl⟩
   rw [List.take_succ_eq_append_getElem hlt,List.take_succ_eq_append_getElem (by omega),hb,he]
  ·have hee:=aA he
   rw [aA (a:=a) (b:=b) fun h=>he (by simp [h])]
   repeat (first|(apply fw;focus ((with_reducible constructor)<;>constructor))|((first|with_reducible refine ga _ rfl fun Y y=>?_|apply ri);simp only [zb,seval,w37,hd1,hga,hgb];refine RunTo.fn y (by first|(simp;done)|omega|(simp;omega)) ?_;clear y Y))
   refine WpL.call rfl (aD (P:=Tryz.prog) rfl) (CallA.shut rfl rfl (by kernel_rfl) (by first|exact ALes.refl _|((try simp only [rcc]);(repeat (first|exact ALes.refl _|refine ALes.cons ?_ ?_|exact ALe.refl _|exact ALe.nil|refine ALe.agg ?_|exact CLes.refl _|refine CLes.nil ?_|refine CLes.cons ?_)))) (by first|rfl|simp [dF,A.shut,C.shut]) (hc) ?_)
   (refine WpL.go _ rfl fun Y y=>?_);repeat (first|(apply fw;focus ((with_reducible constructor)<;>constructor))|((first|with_reducible refine ga _ rfl fun Y y=>?_|apply ri);simp only [zb,seval,w37,hee,hw2];refine RunTo.fn y (by first|(simp;done)|omega|(simp;omega)) ?_;clear y Y))
   refine⟨by simp,_,_,_,_,(by simp only [zb,seval,w37];rfl),(by simp),(by simp only [zv];rfl),(by simp [A.shut,C.shut]),_,ALe.refl _,?_⟩
   rfl
 ·have hd0:decide ((i:Int)<(a.length:Int))=false:=by simp;omega
  have hii:i=a.length:=by omega
  rw [bH (show a=b by rw [hii,List.take_length,hl,List.take_length] at hb;exact hb)]
  repeat (first|(apply fw;focus ((with_reducible constructor)<;>constructor))|((first|with_reducible refine ga _ rfl fun Y y=>?_|apply ri);simp only [zb,seval,w37,hd0];refine RunTo.fn y (by first|(simp;done)|omega|(simp;omega)) ?_;clear y Y))
  repeat (first|(apply fw;focus ((with_reducible constructor)<;>constructor))|((first|with_reducible refine ga _ rfl fun Y y=>?_|apply ri);simp only [zb,seval,w37,hd0];refine RunTo.fn y (by first|(simp;done)|omega|(simp;omega)) ?_;clear y Y))
  refine⟨by simp,_,_,_,_,(by simp only [zb,seval,w37];rfl),(by simp),(by simp only [zv];rfl),(by simp [A.shut,C.shut]),_,ALe.refl _,?_⟩
  rfl
theorem K.ext' {a b:K} (h1:a.k=b.k) (h2:a.name=b.name) (h3:a.rest=b.rest) (h4:a.params=b.params) (h5:a.d=b.d) (h6:a.l=b.l):a=b:=by
 cases a;cases b
 simp only [K.k,K.name,K.rest,K.params,K.d,K.l] at *
 subst h1 h2 h3 h4 h5 h6;rfl
theorem MS:∀n (a b:K),a.ht≤n→a.Ok→Pure Tryz.prog 14 [.agg a.cc,.agg b.cc] (.one (.v (.bool (eqB a b)))):=by
 intro n
 induction n with
 | zero=>intro a b h;exact absurd h (by have:=a.ht_pos;omega)
 | succ n ih =>
  intro a b hh hok
  have hq:=KE a.params b.params hok.par
  have hd:=QT a.d b.d
  have hf:=KF a.l b.l hok.len (fun x hx y=>by
   obtain⟨i,hi,rfl⟩:=List.mem_iff_getElem.1 hx
   have:=K.ht_lt hi
   exact ih _ y (by omega) (hok.get i hi))
  rw [D.cc_eq a.d,D.cc_eq b.d] at hd
  rw [K.cc_eq a,K.cc_eq b]
  by_cases h1:a.k=b.k
  case neg =>
   have e1:(a.k == b.k)=false:=by simp [h1]
   rw [aA fun h=>h1 (by rw [h])]
   refine Fn.intro Tryz.func14 rfl Tryz.ntmps14 Tryz.results14 (by simp only [List.length_cons,List.length_nil];decide) ?_
   repeat (first|(apply fw;focus ((with_reducible constructor)<;>constructor))|((first|with_reducible refine ga _ rfl fun Y y=>?_|apply ri);simp only [zb,seval,w14,e1];refine RunTo.fn y (by first|(simp;done)|omega|(simp;omega)) ?_;clear y Y))
   refine⟨by simp,_,_,_,_,(by simp only [zb,seval,w14];rfl),(by simp),(by simp only [zv];rfl),(by simp [A.shut,C.shut]),_,ALe.refl _,?_⟩
   rfl
  have e1:(a.k == b.k)=true:=by simp [h1]
  by_cases h2:a.name=b.name
  case neg =>
   have e2:=aA h2
   rw [aA (a:=a) (b:=b) fun h=>h2 (by rw [h])]
   refine Fn.intro Tryz.func14 rfl Tryz.ntmps14 Tryz.results14 (by simp only [List.length_cons,List.length_nil];decide) ?_
   repeat (first|(apply fw;focus ((with_reducible constructor)<;>constructor))|((first|with_reducible refine ga _ rfl fun Y y=>?_|apply ri);simp only [zb,seval,w14,e1,cG,e2];refine RunTo.fn y (by first|(simp;done)|omega|(simp;omega)) ?_;clear y Y))
   refine⟨by simp,_,_,_,_,(by simp only [zb,seval,w14];rfl),(by simp),(by simp only [zv];rfl),(by simp [A.shut,C.shut]),_,ALe.refl _,?_⟩
   rfl
  have e2:=bH h2
  by_cases h3:a.rest=b.rest
  case neg =>
   have e3:=aA h3
   rw [aA (a:=a) (b:=b) fun h=>h3 (by rw [h])]
   refine Fn.intro Tryz.func14 rfl Tryz.ntmps14 Tryz.results14 (by simp only [List.length_cons,List.length_nil];decide) ?_
   repeat (first|(apply fw;focus ((with_reducible constructor)<;>constructor))|((first|with_reducible refine ga _ rfl fun Y y=>?_|apply ri);simp only [zb,seval,w14,e1,cG,e2,e3];refine RunTo.fn y (by first|(simp;done)|omega|(simp;omega)) ?_;clear y Y))
   refine⟨by simp,_,_,_,_,(by simp only [zb,seval,w14];rfl),(by simp),(by simp only [zv];rfl),(by simp [A.shut,C.shut]),_,ALe.refl _,?_⟩
   rfl
  have e3:=bH h3
  by_cases h4:a.params=b.params
  case neg =>
   have e4:=aA h4
   rw [aA (a:=a) (b:=b) fun h=>h4 (by rw [h])]
   refine Fn.intro Tryz.func14 rfl Tryz.ntmps14 Tryz.results14 (by simp only [List.length_cons,List.length_nil];decide) ?_
   repeat (first|(apply fw;focus ((with_reducible constructor)<;>constructor))|((first|with_reducible refine ga _ rfl fun Y y=>?_|apply ri);simp only [zb,seval,w14,e1,cG,e2,e3];refine RunTo.fn y (by first|(simp;done)|omega|(simp;omega)) ?_;clear y Y))
   refine WpL.call rfl (aD (P:=Tryz.prog) rfl) (CallA.shut rfl rfl (by kernel_rfl) (by first|exact ALes.refl _|((try simp only [rcc]);(repeat (first|exact ALes.refl _|refine ALes.cons ?_ ?_|exact ALe.refl _|exact ALe.nil|refine ALe.agg ?_|exact CLes.refl _|refine CLes.nil ?_|refine CLes.cons ?_)))) (by first|rfl|simp [dF,A.shut,C.shut]) (hq) ?_)
   (refine WpL.go _ rfl fun Y y=>?_);repeat (first|(apply fw;focus ((with_reducible constructor)<;>constructor))|((first|with_reducible refine ga _ rfl fun Y y=>?_|apply ri);simp only [zb,seval,w14,e4];refine RunTo.fn y (by first|(simp;done)|omega|(simp;omega)) ?_;clear y Y))
   refine⟨by simp,_,_,_,_,(by simp only [zb,seval,w14];rfl),(by simp),(by simp only [zv];rfl),(by simp [A.shut,C.shut]),_,ALe.refl _,?_⟩
   rfl
  have e4:=bH h4
  by_cases h5:a.d=b.d
  case neg =>
   have e5:=aA h5
   rw [aA (a:=a) (b:=b) fun h=>h5 (by rw [h])]
   refine Fn.intro Tryz.func14 rfl Tryz.ntmps14 Tryz.results14 (by simp only [List.length_cons,List.length_nil];decide) ?_
   repeat (first|(apply fw;focus ((with_reducible constructor)<;>constructor))|((first|with_reducible refine ga _ rfl fun Y y=>?_|apply ri);simp only [zb,seval,w14,e1,cG,e2,e3];refine RunTo.fn y (by first|(simp;done)|omega|(simp;omega)) ?_;clear y Y))
   refine WpL.call rfl (aD (P:=Tryz.prog) rfl) (CallA.shut rfl rfl (by kernel_rfl) (by first|exact ALes.refl _|((try simp only [rcc]);(repeat (first|exact ALes.refl _|refine ALes.cons ?_ ?_|exact ALe.refl _|exact ALe.nil|refine ALe.agg ?_|exact CLes.refl _|refine CLes.nil ?_|refine CLes.cons ?_)))) (by first|rfl|simp [dF,A.shut,C.shut]) (hq) ?_)
   (refine WpL.go _ rfl fun Y y=>?_);repeat (first|(apply fw;focus ((with_reducible constructor)<;>constructor))|((first|with_reducible refine ga _ rfl fun Y y=>?_|apply ri);simp only [zb,seval,w14,e4];refine RunTo.fn y (by first|(simp;done)|omega|(simp;omega)) ?_;clear y Y))
   refine WpL.call rfl (aD (P:=Tryz.prog) rfl) (CallA.shut rfl rfl (by kernel_rfl) (by first|exact ALes.refl _|((try simp only [rcc]);(repeat (first|exact ALes.refl _|refine ALes.cons ?_ ?_|exact ALe.refl _|exact ALe.nil|refine ALe.agg ?_|exact CLes.refl _|refine CLes.nil ?_|refine CLes.cons ?_)))) (by first|rfl|simp [dF,A.shut,C.shut]) (hd) ?_)
   (refine WpL.go _ rfl fun Y y=>?_);repeat (first|(apply fw;focus ((with_reducible constructor)<;>constructor))|((first|with_reducible refine ga _ rfl fun Y y=>?_|apply ri);simp only [zb,seval,w14,e5];refine RunTo.fn y (by first|(simp;done)|omega|(simp;omega)) ?_;clear y Y))
   refine⟨by simp,_,_,_,_,(by simp only [zb,seval,w14];rfl),(by simp),(by simp only [zv];rfl),(by simp [A.shut,C.shut]),_,ALe.refl _,?_⟩
   rfl
  have e5:=bH h5
  have e6:eqB a b=eqB a.l b.l:=by
   by_cases h6:a.l=b.l
   ·rw [bH h6,bH (K.ext' h1 h2 h3 h4 h5 h6)]
   ·rw [aA h6,aA fun h=>h6 (by rw [h])]
  rw [e6]
  refine Fn.intro Tryz.func14 rfl Tryz.ntmps14 Tryz.results14 (by simp only [List.length_cons,List.length_nil];decide) ?_
  repeat (first|(apply fw;focus ((with_reducible constructor)<;>constructor))|((first|with_reducible refine ga _ rfl fun Y y=>?_|apply ri);simp only [zb,seval,w14,e1,cG,e2,e3];refine RunTo.fn y (by first|(simp;done)|omega|(simp;omega)) ?_;clear y Y))
  refine WpL.call rfl (aD (P:=Tryz.prog) rfl) (CallA.shut rfl rfl (by kernel_rfl) (by first|exact ALes.refl _|((try simp only [rcc]);(repeat (first|exact ALes.refl _|refine ALes.cons ?_ ?_|exact ALe.refl _|exact ALe.nil|refine ALe.agg ?_|exact CLes.refl _|refine CLes.nil ?_|refine CLes.cons ?_)))) (by first|rfl|simp [dF,A.shut,C.shut]) (hq) ?_)
  (refine WpL.go _ rfl fun Y y=>?_);repeat (first|(apply fw;focus ((with_reducible constructor)<;>constructor))|((first|with_reducible refine ga _ rfl fun Y y=>?_|apply ri);simp only [zb,seval,w14,e4];refine RunTo.fn y (by first|(simp;done)|omega|(simp;omega)) ?_;clear y Y))
  refine WpL.call rfl (aD (P:=Tryz.prog) rfl) (CallA.shut rfl rfl (by kernel_rfl) (by first|exact ALes.refl _|((try simp only [rcc]);(repeat (first|exact ALes.refl _|refine ALes.cons ?_ ?_|exact ALe.refl _|exact ALe.nil|refine ALe.agg ?_|exact CLes.refl _|refine CLes.nil ?_|refine CLes.cons ?_)))) (by first|rfl|simp [dF,A.shut,C.shut]) (hd) ?_)
  (refine WpL.go _ rfl fun Y y=>?_);repeat (first|(apply fw;focus ((with_reducible constructor)<;>constructor))|((first|with_reducible refine ga _ rfl fun Y y=>?_|apply ri);simp only [zb,seval,w14,e5];refine RunTo.fn y (by first|(simp;done)|omega|(simp;omega)) ?_;clear y Y))
  refine WpL.call rfl (aD (P:=Tryz.prog) rfl) (CallA.lend rfl rfl (by kernel_rfl) (by simp only [zv];rfl) (by first|exact trivial|(simp;done)|(simp [C.shut];done)) rfl (hf) ?_)
  (refine WpL.go _ rfl fun Y y=>?_);repeat (first|(apply fw;focus ((with_reducible constructor)<;>constructor))|((first|with_reducible refine ga _ rfl fun Y y=>?_|apply ri);simp only [zb,seval,w14];refine RunTo.fn y (by first|(simp;done)|omega|(simp;omega)) ?_;clear y Y))
  refine⟨by simp,_,_,_,_,(by simp only [zb,seval,w14];rfl),(by simp),(by simp only [zv];rfl),(by simp [A.shut,C.shut]),_,ALe.refl _,?_⟩
  rfl
theorem CD (a b:K) (hok:a.Ok):Pure Tryz.prog 14 [.agg a.cc,.agg b.cc] (.one (.v (.bool (eqB a b)))):=MS a.ht a b (Nat.le_refl _) hok
end Go.Proofs.YtaeioidifpebdaaGreatDoor
end
