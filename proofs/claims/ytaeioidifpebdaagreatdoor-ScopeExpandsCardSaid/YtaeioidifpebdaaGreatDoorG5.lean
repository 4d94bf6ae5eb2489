/-
 Laid together: Core, Ex18, Lst18, Eq18, Err18, Dat18, Sl19, Same19, ESame.
-/
import Derived.Test.YtaeioidifpebdaaGreatDoorG4
import Derived.Test.YtaeioidifpebdaaGreatDoorList
import Derived.Test.YtaeioidifpebdaaGreatDoorItems
import Derived.Test.YtaeioidifpebdaaGreatDoorMake
import Derived.Test.YtaeioidifpebdaaGreatDoorPlain4
import Derived.Test.YtaeioidifpebdaaGreatDoorChecked
import Derived.WalkKit
import Derived.LaidEql
import Derived.Stop.Asserts
import Derived.RowKitTokens
import Derived.Test.YtaeioidifpebdaaGreatDoorCons
import Derived.Test.YtaeioidifpebdaaGreatDoorG2
import Derived.Test.YtaeioidifpebdaaGreatDoorSame2
import Derived.Test.YtaeioidifpebdaaGreatDoorG3
section
namespace Go.Proofs.YtaeioidifpebdaaGreatDoor
open Go Go.RowKit
set_option linter.unusedSimpArgs false
set_option linter.unusedVariables false
inductive K where
 | mk (k:Int) (name rest:ByteArray) (params:List ByteArray) (d:D) (l:List K)
namespace K
def k:K→Int|mk k _ _ _ _ _=>k
def name:K→ByteArray|mk _ n _ _ _ _=>n
def rest:K→ByteArray|mk _ _ r _ _ _=>r
def params:K→List ByteArray|mk _ _ _ p _ _=>p
def d:K→D|mk _ _ _ _ d _=>d
def l:K→List K|mk _ _ _ _ _ l=>l
end K
def aW (l:List ByteArray):List (List C):=l.map fun s=>[.v (.string s)]
theorem cE (l:List ByteArray):(aW l).length=l.length:=by simp [aW]
theorem nC {l:List ByteArray} {i:Nat} (h:i<l.length):(aW l)[i]?=some [.v (.string l[i])]:=by simp [aW,h]
theorem fC (l:List ByteArray):∀e∈aW l,∀c∈e,C.shut c=true:=fun e he c hc=>by
 obtain⟨s,_,rfl⟩:=List.mem_map.1 he
 simp at hc;subst hc;rfl
theorem UG (k:Nat) (l:List ByteArray):∀e∈aW l,∀c∈e,C.bd k c=true:=fun e he c hc=>by
 obtain⟨s,_,rfl⟩:=List.mem_map.1 he
 simp at hc;subst hc;rfl
def K.cc:K→List C
 | mk k name rest params d l=>[.v (.int .i64 k),.v (.string name),.v (.string rest),.sl 1 (aW params),.v (.int .i64 d.k),.v (.int .i32 d.c),.v (.bool d.neg),.sl 1 (d.mag.map fun n=>[.v (.int .u32 n)]),.v (.string d.t),.sl 6 (d.l.map D.cc),.sl 11 (l.map K.cc)]
theorem K.cc_eq (c:K):c.cc=[.v (.int .i64 c.k),.v (.string c.name),.v (.string c.rest),.sl 1 (aW c.params),.v (.int .i64 c.d.k),.v (.int .i32 c.d.c),.v (.bool c.d.neg),.sl 1 (c.d.mag.map fun n=>[.v (.int .u32 n)]),.v (.string c.d.t),.sl 6 (c.d.l.map D.cc),.sl 11 (c.l.map K.cc)]:=by
 cases c;rw [K.cc];rfl
theorem K.cc_len (c:K):c.cc.length=11:=by rw [K.cc_eq];rfl
theorem LC {l:List K} {i:Nat} (h:i<l.length):(l.map K.cc)[i]?=some (l[i]).cc:=by simp [h]
theorem K.cc_shut (c:K):∀x∈c.cc,C.shut x=true:=by rw [K.cc_eq];simp [C.shut]
theorem K.cc_bd (n:Nat) (c:K):∀x∈c.cc,C.bd n x=true:=by rw [K.cc_eq];simp [C.bd]
mutual
def K.ht:K→Nat
 | .mk _ _ _ _ _ l=>K.hts l+1
def K.hts:List K→Nat
 | []=>0
 | c::l=>max c.ht (K.hts l)
end
theorem K.ht_mem {x:K}:∀{l:List K},x∈l→x.ht≤K.hts l
 | c::l,h=>by
  rw [K.hts]
  rcases List.mem_cons.1 h with rfl|h
  ·exact Nat.le_max_left _ _
  ·exact Nat.le_trans (K.ht_mem h) (Nat.le_max_right _ _)
theorem K.ht_lt {c:K} {i:Nat} (h:i<c.l.length):(c.l[i]).ht<c.ht:=by
 obtain⟨k,n,r,p,d,l⟩:=c
 have:=K.ht_mem (List.getElem_mem h)
 show _<K.hts l+1
 exact Nat.lt_succ_of_le this
theorem K.ht_pos (c:K):0<c.ht:=by cases c;rw [K.ht];omega
mutual
def K.Ok:K→Prop
 | .mk k name rest params d l=>(-9223372036854775808≤k∧k≤9223372036854775807)∧params.length≤1000000000000000∧d.Ok∧l.length≤1000000000000000∧K.Oks l
def K.Oks:List K→Prop
 | []=>True
 | c::l=>c.Ok∧K.Oks l
end
theorem K.Oks.get:∀{l:List K},K.Oks l→∀i (h:i<l.length),l[i].Ok
 | c::l,h,0,_=>h.1
 | c::l,h,i+1,hi=>K.Oks.get (l:=l) h.2 i (by simpa using hi)
theorem K.Ok.kids {c:K} (h:c.Ok):K.Oks c.l:=by cases c;exact h.2.2.2.2
theorem K.Ok.get {c:K} (h:c.Ok) (i:Nat) (hi:i<c.l.length):c.l[i].Ok:=h.kids.get i hi
theorem K.Ok.d {c:K} (h:c.Ok):c.d.Ok:=by cases c;exact h.2.2.1
theorem K.Ok.par {c:K} (h:c.Ok):c.params.length≤1000000000000000:=by cases c;exact h.2.1
theorem K.Ok.len {c:K} (h:c.Ok):c.l.length≤1000000000000000:=by cases c;exact h.2.2.2.1
theorem K.Ok.kind {c:K} (h:c.Ok) : -9223372036854775808≤c.k∧c.k≤9223372036854775807:=by cases c;exact h.1
end Go.Proofs.YtaeioidifpebdaaGreatDoor
end
section
namespace Go.Proofs.YtaeioidifpebdaaGreatDoor
open Go
set_option linter.unusedSimpArgs false
set_option linter.unusedVariables false
def e0:ByteArray:=⟨#[]⟩
def iK:ByteArray:=⟨#[113,117,111,116,101]⟩
def eR:ByteArray:=⟨#[113,117,97,115,105,113,117,111,116,101]⟩
def AH:ByteArray:=⟨#[117,110,113,117,111,116,101]⟩
def jK:ByteArray:=⟨#[117,110,113,117,111,116,101,45,115,112,108,105,99,105,110,103]⟩
def fS:ByteArray:=⟨#[108,97,109,98,100,97]⟩
def iR:ByteArray:=⟨#[100,101,102,105,110,101]⟩
def rG:ByteArray:=⟨#[115,101,116,33]⟩
def sIf:ByteArray:=⟨#[105,102]⟩
def eM:ByteArray:=⟨#[98,101,103,105,110]⟩
def vC:ByteArray:=⟨#[108,101,116]⟩
def nV:ByteArray:=⟨#[108,101,116,42]⟩
def iE:ByteArray:=⟨#[108,101,116,114,101,99]⟩
def fT:ByteArray:=⟨#[108,101,116,114,101,99,42]⟩
def nX:ByteArray:=⟨#[99,111,110,100]⟩
def lQ:ByteArray:=⟨#[99,97,115,101]⟩
def tR:ByteArray:=⟨#[97,110,100]⟩
def sOr:ByteArray:=⟨#[111,114]⟩
def lR:ByteArray:=⟨#[119,104,101,110]⟩
def fU:ByteArray:=⟨#[117,110,108,101,115,115]⟩
def sDo:ByteArray:=⟨#[100,111]⟩
def nD:ByteArray:=⟨#[101,108,115,101]⟩
def nF:ByteArray:=⟨#[61,62]⟩
def bG:ByteArray:=⟨#[255,116]⟩
def dE:ByteArray:=⟨#[255,108,111,111,112]⟩
def EU:ByteArray:=⟨#[101,113,118,63]⟩
def CT:ByteArray:=⟨#[99,111,110,115]⟩
def OU:ByteArray:=⟨#[108,105,115,116,45,62,118,101,99,116,111,114]⟩
def sC:ByteArray:=⟨#[97,112,112,101,110,100]⟩
def WC:List ByteArray:=[iK,eR,AH,jK,fS,iR,rG,sIf,eM,vC,nV,iE,fT,nX,lQ,tR,sOr,lR,fU,sDo,nD,nF]
noncomputable def BZ (s:ByteArray):Bool:=WC.any fun x=>eqB s x
-- data: how much there is in one
mutual
def D.msr:D→Nat
 | .mk k _ _ _ _ l=>(if k=8 then l.length+2 else 1)+aY l
def aY:List D→Nat
 | []=>0
 | d::l=>d.msr+aY l
end
mutual
def D.Two:D→Prop
 | .mk k _ _ _ _ l=>(k=7→l.length=2)∧Twos l
def Twos:List D→Prop
 | []=>True
 | d::l=>d.Two∧Twos l
end
theorem eO (d:D):1≤d.msr:=by
 cases d with|mk k c neg mag t l=>rw [D.msr];split<;>omega
theorem IOq:∀l:List D,l.length≤aY l
 | []=>by simp
 | d::l=>by rw [aY,List.length_cons];have:=eO d;have:=IOq l;omega
theorem lS {d:D}:∀{l:List D},d∈l→d.msr≤aY l
 | x::l,h=>by
  rw [aY]
  rcases List.mem_cons.1 h with rfl|h
  ·omega
  ·have:=lS h;omega
theorem IP:∀(a b:List D),aY (a++b)=aY a+aY b
 | [],b=>by simp [aY]
 | d::a,b=>by rw [List.cons_append,aY,aY,IP a b];omega
theorem Twos.mem {d:D}:∀{l:List D},Twos l→d∈l→d.Two
 | x::l,h,hd=>by
  rcases List.mem_cons.1 hd with rfl|hd
  ·exact h.1
  ·exact Twos.mem h.2 hd
theorem Twos.of:∀{l:List D},(∀d∈l,d.Two)→Twos l
 | [],_=>trivial
 | x::l,h=>⟨h x (by simp),Twos.of fun d hd=>h d (by simp [hd])⟩
theorem D.Two.kids {d:D} (h:d.Two):Twos d.l:=by cases d;exact h.2
theorem D.Two.two {d:D} (h:d.Two) (hk:d.k=7):d.l.length=2:=by cases d;exact h.1 hk
theorem D.Plain.two:∀{d:D},d.Plain→d.Two
 | .mk k c neg mag t l,h=>by
  rw [D.Plain] at h
  exact⟨h.2.2.2.2.2.2.1,Twos.of fun d hd=>by
   obtain⟨i,hi,rfl⟩:=List.mem_iff_getElem.1 hd
   exact D.Plain.two ((Plains.iff l).1 h.2.2.2.2.2.2.2.2 i hi)⟩
termination_by d=>SizeOf.sizeOf d
decreasing_by
 all_goals simp_wf
 all_goals (have:=List.sizeOf_lt_of_mem hd;omega)
def D.fst (d:D):D:=d.l.getD 0 bZ
def D.snd (d:D):D:=d.l.getD 1 bZ
theorem D.Two.pair {d:D} (h:d.Two) (hk:d.k=7):d.l=[d.fst,d.snd]:=by
 have:=h.two hk
 obtain⟨k,c,neg,mag,t,l⟩:=d
 match l,this with
 | [a,b],_=>rfl
def Gd (n:Nat) (d:D):Prop:=d.Two∧d.Ok∧d.msr<n
def Gds (n:Nat) (l:List D):Prop:=Twos l∧Oks l∧aY l<n
theorem Oks.mem {d:D} {l:List D} (h:Oks l) (hd:d∈l):d.Ok:=by
 obtain⟨i,hi,rfl⟩:=List.mem_iff_getElem.1 hd
 exact h.get i hi
theorem Oks.ofMem {l:List D} (h:∀d∈l,d.Ok):Oks l:=Oks.of fun i hi=>h _ (List.getElem_mem hi)
theorem Gds.mem {n:Nat} {l:List D} (h:Gds n l) {d:D} (hd:d∈l):Gd n d:=⟨h.1.mem hd,h.2.1.mem hd,Nat.lt_of_le_of_lt (lS hd) h.2.2⟩
theorem Gds.len {n:Nat} {l:List D} (h:Gds n l):l.length<n:=Nat.lt_of_le_of_lt (IOq l) h.2.2
theorem Gd.le {n m:Nat} {d:D} (h:Gd n d) (hm:n≤m):Gd m d:=⟨h.1,h.2.1,Nat.lt_of_lt_of_le h.2.2 hm⟩
theorem Gds.le {n m:Nat} {l:List D} (h:Gds n l) (hm:n≤m):Gds m l:=⟨h.1,h.2.1,Nat.lt_of_lt_of_le h.2.2 hm⟩
theorem IQ {a b:List D} (h:a.Sublist b):aY a≤aY b:=by
 induction h with
 | slnil=>exact Nat.le_refl _
 | cons x _ ih=>rw [aY];omega
 | cons_cons x _ ih=>rw [aY,aY];omega
theorem Gds.sub {n:Nat} {a b:List D} (h:Gds n b) (hs:a.Sublist b):Gds n a :=
 ⟨Twos.of fun d hd=>h.1.mem (hs.subset hd),Oks.ofMem fun d hd=>h.2.1.mem (hs.subset hd),Nat.lt_of_le_of_lt (IQ hs) h.2.2⟩
theorem Gds.drop {n:Nat} {l:List D} (h:Gds n l) (k:Nat):Gds n (l.drop k):=h.sub (List.drop_sublist k l)
theorem Gds.take {n:Nat} {l:List D} (h:Gds n l) (k:Nat):Gds n (l.take k):=h.sub (List.take_sublist k l)
theorem Gds.tail {n:Nat} {x:D} {l:List D} (h:Gds n (x::l)):Gds n l:=h.sub (List.sublist_cons_self x l)
theorem Gds.head {n:Nat} {x:D} {l:List D} (h:Gds n (x::l)):Gd n x:=h.mem (by simp)
theorem Gd.pair {n:Nat} {d:D} (h:Gd n d) (hk:d.k=7):d.l=[d.fst,d.snd]∧Gd n d.fst∧Gd n d.snd∧d.fst.msr+d.snd.msr+1=d.msr:=by
 have hp:=h.1.pair hk
 have ht:=h.1.kids
 have ho:=h.2.1.l
 have hm:d.msr=1+aY d.l:=by
  obtain⟨k,c,neg,mag,t,l⟩:=d
  have hk:k=7:=hk
  subst hk
  rw [D.msr];rfl
 rw [hp] at ht ho hm
 simp only [aY] at hm
 have:=h.2.2
 exact⟨hp,⟨ht.1,ho.1,by omega⟩,⟨ht.2.1,ho.2.1,by omega⟩,by omega⟩
theorem iA:∀(d:D),aY (items d)+(items d).length≤d.msr
 | .mk k c neg mag t l=>by
  unfold items
  split
  ·match l with
   | []=>simp [kG,aY]
   | [a]=>simp [kG,aY]
   | [a,b] =>
    have:=iA b
    rename_i hk
    subst hk
    simp only [kG,aY,List.length_cons,D.msr]
    rw [if_neg (by decide)]
    omega
   | a::b::c::r=>simp [kG,aY]
  ·simp [aY]
theorem AJ {d:D} (hk:d.k=7):aY (items d)<d.msr:=by
 have h1:=iA d
 cases hi:items d with
 | nil=>rw [hi] at h1;simp [aY] at h1 ⊢;have:=eO d;omega
 | cons a l=>rw [hi] at h1;simp at h1;omega
theorem kH:∀(d:D),d.Two→d.Ok→Twos (items d)∧Oks (items d)
 | .mk k c neg mag t l,ht,ho=>by
  unfold items
  split
  ·match l with
   | []=>exact⟨trivial,trivial⟩
   | [a]=>exact⟨trivial,trivial⟩
   | [a,b] =>
    have h1:=ht.2
    have h2:=ho.l
    have:=kH b h1.2.1 h2.2.1
    exact⟨⟨h1.1,this.1⟩,⟨h2.1,this.2⟩⟩
   | a::b::c::r=>exact⟨trivial,trivial⟩
  ·exact⟨trivial,trivial⟩
theorem Gd.items {n:Nat} {d:D} (h:Gd n d):Gds n (Proofs.YtaeioidifpebdaaGreatDoor.items d):=by
 have h1:=iA d
 have:=h.2.2
 exact⟨(kH d h.1 h.2.1).1,(kH d h.1 h.2.1).2,by omega⟩
theorem CU:∀l:List D,(fK l).msr=l.length+aY l+1
 | []=>by simp [fK,bZ,D.msr,aY]
 | d::l=>by
  have:=CU l
  simp only [fK,D.msr,aY,List.length_cons]
  rw [if_neg (by decide)]
  omega
theorem CV:∀{l:List D},Twos l→(fK l).Two
 | [],_=>⟨fun h=>absurd h (by decide),trivial⟩
 | d::l,h=>⟨fun _=>rfl,h.1,CV h.2,trivial⟩
theorem dW:bZ.Ok:=⟨by decide,by decide,by simp,by decide,by decide,trivial⟩
theorem AK:∀{l:List D},Oks l→(fK l).Ok
 | [],_=>dW
 | d::l,h=>⟨by decide,by decide,by simp,by decide,⟨by decide,by simp⟩,h.1,AK h.2,trivial⟩
theorem Gd.vec {n:Nat} {d:D} (h:Gd n d) (hk:d.k=8):Gd n (fK d.l)∧(fK d.l).msr<d.msr:=by
 have hm:d.msr=d.l.length+2+aY d.l:=by
  obtain⟨k,c,neg,mag,t,l⟩:=d
  have hk:k=8:=hk
  subst hk
  rw [D.msr];rfl
 have h2:=CU d.l
 have:=h.2.2
 exact⟨⟨CV h.1.kids,AK h.2.1.l,by omega⟩,by omega⟩
-- what is computed
abbrev Rs:=K × Nat
def kz:K:=.mk 0 e0 e0 [] bZ []
def eC (d:D):K:=.mk 1 e0 e0 [] d []
def nY (k:Int):D:=.mk k 0 false [] e0 []
def bS:K:=eC (nY 9)
def iL (k:Int):K:=eC (nY k)
def bJ (s:ByteArray):K:=.mk 2 s e0 [] bZ []
def fI (s:ByteArray):K:=.mk 10 s e0 [] bZ []
def aF (a b c:K):K:=.mk 5 e0 e0 [] bZ [a,b,c]
def fJ:List K→K
 | [x]=>x
 | l=>.mk 7 e0 e0 [] bZ l
def eE (ps:List ByteArray) (rest:ByteArray) (b:K):Rs:=if 40<ps.length+(if rest=e0 then 0 else 1) then (kz,1) else (.mk 6 e0 rest ps bZ [b],0)
def jT (l:List K):K:=.mk 8 e0 e0 [] bZ l
def dB (l:List K):Rs:=if 41<l.length then (kz,1) else (jT l,0)
noncomputable def nN (d:D) (s:ByteArray):Bool:=decide (d.k=6)&&eqB d.t s
noncomputable def bK (d:D):ByteArray × Nat:=if d.k=6∧BZ d.t=false then (d.t,0) else (e0,2)
def aJ (d:D):List D × Nat:=if gW d=0 then (items d,0) else ([],2)
def jG (l:List Nat):Nat:=l.foldl max 0
theorem nG (l:List Nat) (x:Nat):jG (l++[x])=max (jG l) x:=by simp [jG,List.foldl_append]
def aZ (E:D→Rs) (l:List D):List K × Nat:=(l.map fun d=>(E d).1,jG (l.map fun d=>(E d).2))
def fD (E:D→Rs) (l:List D):Rs:=if l=[] then (kz,2) else (fJ (aZ E l).1,(aZ E l).2)
noncomputable def unl (l:List ByteArray):Nat:=if @decide l.Nodup (Classical.propDecidable _) then 0 else 2
mutual
def tU:D→D
 | .mk k c neg mag t l=>if k=7 then VP (.mk k c neg mag t l) l else .mk k c neg mag t l
def VP (d:D):List D→D
 | [a,b]=>tU b
 | _=>d
end
noncomputable def dK (d:D):List ByteArray × ByteArray × Nat :=
 let ps:=(items d).map fun x=>(bK x).1
 let n:=jG ((items d).map fun x=>(bK x).2)
 if (tU d).k=0 then (ps,e0,max n (unl ps)) else (ps,(bK (tU d)).1,max (max n (bK (tU d)).2) (unl (ps++[(bK (tU d)).1])))
structure Ev where
 e:D→Rs
 b:List D→Rs
 q:D→Nat→Rs
noncomputable def dU (ev:Ev) (f:D) (body:List D):Rs :=
 let fm:=dK f
 let x:=eE fm.1 fm.2.1 (ev.b body).1
 (x.1,max (max fm.2.2 (ev.b body).2) x.2)
def pR (v:ByteArray) (x:K):K:=.mk 3 v e0 [] bZ [x]
def jH:K:=.mk 9 e0 e0 [] bZ []
noncomputable def jI (names:List ByteArray) (values:List K) (body:K):Rs :=
 let f:=eE names e0 (fJ ((names.zip values).map (fun p=>pR p.1 p.2)++[body]))
 let x:=dB (f.1::names.map fun _=>jH)
 (x.1,max (max (unl names) f.2) x.2)
def gP (b:D):Option (D × D):=if gW b=0 then (match items b with|[x,y]=>some (x,y)|_=>none) else none
noncomputable def aI (d:D):List ByteArray × List D × Nat :=
 let l:=(aJ d).1
 (l.filterMap fun b=>(gP b).map fun p=>(bK p.1).1,l.filterMap fun b=>(gP b).map (·.2),max (aJ d).2 (jG (l.map fun b=>match gP b with|some p=>(bK p.1).2|none=>2)))
noncomputable def fE (ev:Ev):List D→ByteArray × K × Nat
 | []=>(e0,kz,2)
 | [_]=>(e0,kz,2)
 | a::b::r=>if a.k=7 then ((bK a.fst).1,(dU ev a.snd (b::r)).1,max (bK a.fst).2 (dU ev a.snd (b::r)).2)
  else ((bK a).1,(ev.e b).1,max (if r=[] then (bK a).2 else max (bK a).2 2) (ev.e b).2)
noncomputable def fA (d:D) (s:ByteArray):Option (List D):=if d.k=7∧nN d.fst s=true then (if gW d.snd=0 then some (items d.snd) else none) else none
noncomputable def yG:Nat→List D→List D
 | 0,l=>l
 | n+1,l=>l.flatMap fun d=>match fA d eM with|some x=>yG n x|none=>[d]
noncomputable def spl (l:List D):List D:=yG (aY l) l
structure Bs where
 names:List ByteArray
 values:List K
 rest:List K
 err:Nat
noncomputable def dF (ev:Ev) (s:Bs) (d:D):Bs:=match fA d iR with
 | none=>⟨s.names,s.values,s.rest++[(ev.e d).1],max s.err (ev.e d).2⟩
 | some x=>⟨s.names++[(fE ev x).1],s.values++[(fE ev x).2.1],s.rest,if s.rest=[] then max s.err (fE ev x).2.2 else max (max s.err (fE ev x).2.2) 2⟩
noncomputable def jP (ev:Ev) (l:List D):Bs:=l.foldl (dF ev) ⟨[],[],[],0⟩
noncomputable def pS (s:Bs):Rs :=
 if s.rest=[] then (kz,max s.err 2) else if s.names=[] then (fJ s.rest,s.err) else
  let x:=jI s.names s.values (fJ s.rest)
  (x.1,max s.err x.2)
noncomputable def CA (ev:Ev) (l:List D):Rs:=pS (jP ev (spl l))
def eD (ev:Ev) (names:List ByteArray) (body:K) (values:List D):Rs :=
 let f:=eE names e0 body
 let l:=aZ ev.e values
 let x:=dB (f.1::l.1)
 (x.1,max (max f.2 l.2) x.2)
def dL (ev:Ev) (test:D) (body:K):Rs:=eD ev [bG] body [test]
noncomputable def iM (ev:Ev):List D→Rs
 | a::b::r =>
  let w:=bK a
  let bs:=aI b
  let f:=eE bs.1 e0 (ev.b r).1
  let x:=jI [w.1] [f.1] (bJ w.1)
  let vs:=aZ ev.e bs.2.1
  let c:=dB (x.1::vs.1)
  (c.1,max (max (max (max (max (max (max w.2 bs.2.2) (unl bs.1)) (ev.b r).2) f.2) x.2) vs.2) c.2)
 | _=>(kz,2)
noncomputable def vD (ev:Ev):List D→Rs
 | []=>(kz,2)
 | a::r=>if a.k=6 then iM ev (a::r) else
  let bs:=aI a
  let x:=eD ev bs.1 (ev.b r).1 bs.2.1
  (x.1,max (max (max bs.2.2 (ev.b r).2) (unl bs.1)) x.2)
def lT (ev:Ev) (p:ByteArray × D) (s:Rs):Rs:=((eD ev [p.1] s.1 [p.2]).1,max s.2 (eD ev [p.1] s.1 [p.2]).2)
def kO (ev:Ev) (l:List (ByteArray × D)) (s:Rs):Rs:=l.foldr (lT ev) s
noncomputable def gY (ev:Ev):List D→Rs
 | []=>(kz,2)
 | a::r =>
  let bs:=aI a
  let x:=eD ev [] (ev.b r).1 []
  kO ev (bs.1.zip bs.2.1) (x.1,max (max bs.2.2 (ev.b r).2) x.2)
noncomputable def iT (ev:Ev):List D→Rs
 | []=>(kz,2)
 | a::r =>
  let bs:=aI a
  let vs:=aZ ev.e bs.2.1
  let x:=jI bs.1 vs.1 (ev.b r).1
  (x.1,max (max (max bs.2.2 vs.2) (ev.b r).2) x.2)
noncomputable def gZ (ev:Ev):List D→Rs
 | []=>(bS,0)
 | a::r=>match (if gW a=0 then items a else []) with
  | []=>(kz,2)
  | c::cs=>if nN c nD then (if r=[] then fD ev.e cs else (kz,2)) else
   let rest:=gZ ev r
   match cs with
   | [] =>
    let x:=dL ev c (aF (bJ bG) (bJ bG) rest.1)
    (x.1,max rest.2 x.2)
   | f::fs=>if nN f nF then
     (match fs with
     | [g] =>
      let y:=dB [(ev.e g).1,bJ bG]
      let x:=dL ev c (aF (bJ bG) y.1 rest.1)
      (x.1,max (max (max rest.2 (ev.e g).2) y.2) x.2)
     | _=>(kz,2))
    else (aF (ev.e c).1 (fD ev.e cs).1 rest.1,max (max rest.2 (ev.e c).2) (fD ev.e cs).2)
def kW:List D→K
 | []=>iL 2
 | d::l=>aF (jT [fI EU,bJ bG,eC d]) (iL 1) (kW l)
noncomputable def eG (ev:Ev):List D→Rs
 | []=>(bS,0)
 | a::r=>match (if gW a=0 then items a else []) with
  | c::f::fs=>if nN c nD then (if r=[] then fD ev.e (f::fs) else (kz,2)) else
   let b:=fD ev.e (f::fs)
   let rest:=eG ev r
   (aF (kW (aJ c).1) b.1 rest.1,max (max (aJ c).2 b.2) rest.2)
  | _=>(kz,2)
def kP (d:D):Option (D × D × D):=if gW d=0 then (match items d with|[v,x]=>some (v,x,v)|[v,x,y]=>some (v,x,y)|_=>none) else none
noncomputable def mA (ev:Ev):List D→Rs
 | a::b::r =>
  let sp:=(aJ a).1
  if sp.all (fun d=>(kP d).isSome) then
   let ts:=sp.filterMap kP
   let names:=ts.map fun t=>(bK t.1).1
   let err:=max (max (max (aJ a).2 (jG (ts.map fun t=>(bK t.1).2))) (aJ b).2) (unl names)
   match (aJ b).1 with
   | []=>(kz,2)
   | e::es =>
    let test:=ev.e e
    let last:=if es=[] then (bS,0) else fD ev.e es
    let body:=aZ ev.e r
    let next:=aZ ev.e (ts.map fun t=>t.2.2)
    let again:=dB (bJ dE::next.1)
    let f:=eE names e0 (aF test.1 last.1 (fJ (body.1++[again.1])))
    let x:=jI [dE] [f.1] (bJ dE)
    let vs:=aZ ev.e (ts.map fun t=>t.2.1)
    let c:=dB (x.1::vs.1)
    (c.1,max (max (max (max (max (max (max (max (max err test.2) last.2) body.2) next.2) again.2) f.2) x.2) vs.2) c.2)
  else (kz,2)
 | _=>(kz,2)
def sV (a d:K):K:=jT [fI CT,a,d]
noncomputable def qP (d:D) (s:ByteArray):Option D:=match fA d s with|some [x]=>some x|_=>none
def mK (s:ByteArray) (x:K):K:=sV (eC (rF s)) (sV x (eC bZ))
noncomputable def oM (ev:Ev) (d:D) (n:Nat):Rs:=match qP d AH with
 | some y=>if n=1 then ev.e y else (mK AH (ev.q y (n-1)).1,(ev.q y (n-1)).2)
 | none=>match qP d eR with
  | some y=>(mK eR (ev.q y (n+1)).1,(ev.q y (n+1)).2)
  | none=>if d.k=8 then (jT [fI OU,(ev.q (fK d.l) n).1],(ev.q (fK d.l) n).2)
   else if d.k=7 then (match qP d.fst jK with
    | some y=>if n=1 then (jT [fI sC,(ev.e y).1,(ev.q d.snd n).1],max (ev.q d.snd n).2 (ev.e y).2)
     else (sV (mK jK (ev.q y (n-1)).1) (ev.q d.snd n).1,max (ev.q d.snd n).2 (ev.q y (n-1)).2)
    | none=>(sV (ev.q d.fst n).1 (ev.q d.snd n).1,max (ev.q d.snd n).2 (ev.q d.fst n).2))
   else (eC d,0)
noncomputable def dA (ev:Ev) (and:Bool):List D→Rs
 | []=>(iL (if and then 1 else 2),0)
 | [d]=>ev.e d
 | d::r =>
  let rest:=dA ev and r
  if and then (aF (ev.e d).1 rest.1 (iL 2),max rest.2 (ev.e d).2) else
   let x:=dL ev d (aF (bJ bG) (bJ bG) rest.1)
   (x.1,max rest.2 x.2)
noncomputable def bU (ev:Ev) (word:ByteArray) (l:List D):Rs :=
 if word=vC then vD ev l else if word=nV then gY ev l else if word=iE∨word=fT then iT ev l else if word=nX then gZ ev l else if word=sDo then mA ev l else if word=tR then dA ev true l else if word=sOr then dA ev false l else (kz,2)
noncomputable def AL (ev:Ev):List D→Rs
 | []=>(kz,2)
 | a::r =>
  let x:=dL ev a (eG ev r).1
  (x.1,max (eG ev r).2 x.2)
noncomputable def dM (ev:Ev) (word:ByteArray) (l:List D):Rs :=
 if word=iK∧l.length=1 then (eC (l.getD 0 bZ),0)
 else if word=eR∧l.length=1 then ev.q (l.getD 0 bZ) 1
 else if word=fS∧1≤l.length then dU ev (l.getD 0 bZ) (l.drop 1)
 else if word=rG∧l.length=2 then (pR (bK (l.getD 0 bZ)).1 (ev.e (l.getD 1 bZ)).1,max (bK (l.getD 0 bZ)).2 (ev.e (l.getD 1 bZ)).2)
 else if word=sIf∧l.length=2 then (aF (ev.e (l.getD 0 bZ)).1 (ev.e (l.getD 1 bZ)).1 bS,(aZ ev.e l).2)
 else if word=sIf∧l.length=3 then (aF (ev.e (l.getD 0 bZ)).1 (ev.e (l.getD 1 bZ)).1 (ev.e (l.getD 2 bZ)).1,(aZ ev.e l).2)
 else if word=eM then fD ev.e l
 else if word=lQ∧1≤l.length then AL ev l
 else if word=lR∧2≤l.length then (aF (ev.e (l.getD 0 bZ)).1 (fD ev.e (l.drop 1)).1 bS,max (ev.e (l.getD 0 bZ)).2 (fD ev.e (l.drop 1)).2)
 else if word=fU∧2≤l.length then (aF (ev.e (l.getD 0 bZ)).1 bS (fD ev.e (l.drop 1)).1,max (ev.e (l.getD 0 bZ)).2 (fD ev.e (l.drop 1)).2)
 else bU ev word l
noncomputable def gQ (ev:Ev) (d:D):Rs :=
 if d.k=0 then (kz,2) else if d.k=6 then (bJ (bK d).1,(bK d).2) else if d.k=7 then
  (if gW d=0 then (match items d with
   | []=>(kz,2)
   | a::r=>if a.k=6∧BZ a.t=true then dM ev a.t r else
    let x:=dB (aZ ev.e (a::r)).1
    (x.1,max (aZ ev.e (a::r)).2 x.2))
  else (kz,2))
 else (eC d,0)
noncomputable def evs:Nat→Ev
 | 0=>⟨fun _=>(kz,0),fun _=>(kz,0),fun _ _=>(kz,0)⟩
 | n+1=>⟨gQ (evs n),CA ⟨gQ (evs n),(evs n).b,(evs n).q⟩,oM ⟨gQ (evs n),(evs n).b,(evs n).q⟩⟩
noncomputable def kI (E:Ev):Nat→D→Rs
 | 0,_=>(kz,0)
 | n+1,d=>match fA d iR with
  | some l=>(.mk 4 (fE E l).1 e0 [] bZ [(fE E l).2.1],(fE E l).2.2)
  | none=>match fA d eM with
   | none=>E.e d
   | some []=>(bS,0)
   | some (a::r)=>(fJ ((a::r).map fun x=>(kI E n x).1),jG ((a::r).map fun x=>(kI E n x).2))
end Go.Proofs.YtaeioidifpebdaaGreatDoor
end
section
namespace Go.Proofs.YtaeioidifpebdaaGreatDoor
open Go Go.Lib
set_option linter.unusedSimpArgs false
set_option linter.unusedVariables false
theorem nH {k c:Int} {neg:Bool} {mag:List Int} {t:ByteArray} (h:k≠8):(D.mk k c neg mag t []).depth=0:=by
 rw [D.depth_eq];simp [dto,qS,D.k,D.l,h]
def CW (a b:D):D:=.mk 7 0 false [] e0 [a,b]
theorem AM (a b:D):(CW a b).depth=max (a.depth+1) (b.depth+if b.k=7 then 0 else 1):=by
 rw [D.depth_eq]
 show max (if (7:Int)=8 then 1 else 0) (dto (CW a b) 2 _)=_
 simp [dto,qS,gG,CW,D.k,D.l]<;>rfl
def LD:List D→Nat
 | []=>0
 | d::l=>max d.depth (LD l)
theorem tV (d:D) (l:List D):fK (d::l)=CW d (fK l):=rfl
theorem xR:∀(l:List D),(fK l).depth=if l=[] then 0 else LD l+1
 | []=>by rw [show fK []=bZ from rfl,bZ,nH (by decide)];rfl
 | [d]=>by
  rw [tV,AM,show fK []=bZ from rfl,bZ,nH (by decide)]
  show max (d.depth+1) (0+if (0:Int)=7 then 0 else 1)=max d.depth 0+1
  rw [if_neg (by decide)];omega
 | d::e::l=>by
  rw [tV,AM,xR (e::l)]
  show max (d.depth+1) ((max e.depth (LD l)+1)+if (7:Int)=7 then 0 else 1)=max d.depth (max e.depth (LD l))+1
  rw [if_pos rfl];omega
theorem AO:bZ.Plain:=by rw [←eB];exact jO 0 (by simp) (by simp [kV,D.k,D.c,D.t,D.l,D.neg,D.mag])
theorem IR {a b:D}:(CW a b).Plain↔a.Plain∧b.Plain:=by
 unfold CW
 rw [D.Plain]
 simp [kV,D.k,D.c,D.t,D.l,D.neg,D.mag,Plains,e0]
theorem xS:∀{l:List D},(fK l).Plain↔Plains l
 | []=>by rw [show fK []=bZ from rfl];exact⟨fun _=>trivial,fun _=>AO⟩
 | d::l=>by rw [tV,IR,xS,Plains]
theorem LE {k:Int} (hk:k=1∨k=2∨k=9∨k=10):(nY k).Plain:=by
 rw [←eB];exact jO k (by omega) (by simp [kV,D.k,D.c,D.t,D.l,D.neg,D.mag,e0])
theorem OV (s:ByteArray):(rF s).Plain↔xD s 1=true:=by
 rw [←eB,rF,CR (by simp [kV,D.k,D.c,D.t,D.l,D.neg,D.mag])]
theorem rH {d:D}:yF d=true↔d.Plain∧d.depth≤64:=by
 unfold yF;rw [Bool.and_eq_true,eB,decide_eq_true_eq]
theorem OW (s:ByteArray):(rF s).depth=0:=nH (by decide)
theorem LF {k:Int} (h:k≠8):(nY k).depth=0:=nH h
theorem LG:bZ.depth=0:=nH (by decide)
theorem OX (s:ByteArray):(rF s).count=1:=by rw [rF,D.count];simp [kL]
theorem LH (k:Int):(nY k).count=1:=by rw [nY,D.count];simp [kL]
theorem WD {s:ByteArray} (h:s.size≤140737488351232):(rF s).Ok:=by simp [rF,D.Ok,Oks,h]
theorem UH {k:Int} (h : -9223372036854775808≤k∧k≤9223372036854775807):(nY k).Ok:=by simp [nY,D.Ok,Oks,h,e0,ByteArray.size]
noncomputable def pT (d:D):Rs:=kI (evs (d.msr+1)) (d.msr+1) d
end Go.Proofs.YtaeioidifpebdaaGreatDoor
end
section
namespace Go.Proofs.YtaeioidifpebdaaGreatDoor
open Go.RowKit Go.Extern.Stop Go.Stop Go.Extern
set_option linter.unusedSimpArgs false
set_option linter.unusedVariables false
set_option maxRecDepth 1000000
def WE:Array Value→Sem Value:=Extern.ReflectliteType.method fun t=>do Extern.Rtype.noPackHeld "Comparable" t;pure (.bool (←typeInfo t).comparable)
theorem IU (v:Value) (w:World):(Extern.ReflectliteType.typeOf #[.iface 183 v]).run Tryz.prog w=.ok (.iface 122 (.agg #[.pointer (some ⟨4,183,none⟩)])) w:=by kernel_rfl
theorem vF (w:World):(WE #[.agg #[.pointer (some ⟨4,183,none⟩)]]).run Tryz.prog w=.ok (.bool true) w:=by kernel_rfl
theorem nI (v:Value) (w:World):(Go.method 320 122 v "Comparable").run Tryz.prog w=.ok (161,v) w:=by kernel_rfl
theorem RP:(Tryz.prog.info? 183).map (·.comparable)=some true:=by kernel_rfl
theorem RQ:(Tryz.prog.info? 208).map (·.size)=some 1:=by kernel_rfl
theorem VQ (v:Value) (xT:TypeId) (w:World):(Instr.typeAssert (.iface 183 v) xT 124 true).run Tryz.prog w=.ok (.tuple #[.nilIface,.bool false]) w:=run_typeAssert_lacksB Tryz.underlying124 (by kernel_rfl) (by kernel_rfl) v xT w
theorem CX (v:Value) (xT:TypeId) (w:World):(Instr.typeAssert (.iface 183 v) xT 127 true).run Tryz.prog w=.ok (.tuple #[.nilIface,.bool false]) w:=run_typeAssert_lacksB Tryz.underlying127 (by kernel_rfl) (by kernel_rfl) v xT w
theorem AP (v:Value) (xT:TypeId) (w:World):(Instr.typeAssert (.iface 183 v) xT 129 true).run Tryz.prog w=.ok (.tuple #[.nilIface,.bool false]) w:=run_typeAssert_lacksB Tryz.underlying129 (by kernel_rfl) (by kernel_rfl) v xT w
theorem VR (v:Value) (xT:TypeId) (w:World):(Instr.typeAssert (.iface 147 v) xT 124 true).run Tryz.prog w=.ok (.tuple #[.nilIface,.bool false]) w:=run_typeAssert_lacksB Tryz.underlying124 (by kernel_rfl) (by kernel_rfl) v xT w
theorem AQ (v:Value) (xT:TypeId) (w:World):(Instr.typeAssert (.iface 147 v) xT 127 true).run Tryz.prog w=.ok (.tuple #[.iface 147 v,.bool true]) w:=run_typeAssert_hasB Tryz.underlying127 (by kernel_rfl) v xT w
theorem vG (v:Value) (w:World):(Go.method 320 147 v "Unwrap").run Tryz.prog w=.ok (171,v) w:=by kernel_rfl
theorem WF (b:Addr) (w:World) :
  Calls Tryz.prog 41 #[.nilIface,.iface 183 (.pointer (some b))] w fun e w'=>e=.returned (.bool false)∧w'=w:=by
 have hn:=run_eql_iface_nil_left (P:=Tryz.prog) w 183 (.pointer (some b)) Tryz.underlying62
 go_enter Tryz.func41,Tryz.ntmps41
 go_wp2
 go_ret
 exact⟨rfl,rfl⟩
theorem EV (pb po:Nat) (b:Addr) (w:World) (h1:w.cell? ⟨pb,po+1,none⟩=some (.iface 183 (.pointer (some b)))) :
  Calls Tryz.prog 41 #[.iface 147 (.pointer (some ⟨pb,po,none⟩)),.iface 183 (.pointer (some b))] w fun e w'=>e=.returned (.bool true)∧w'=w:=by
 obtain⟨i,hi,hcmp⟩:=Option.map_eq_some_iff.1 RP
 obtain⟨j,hj,hjs⟩:=Option.map_eq_some_iff.1 RQ
 have h8:=@run_callFunc_extern Tryz.prog 61 _ Extern.ReflectliteType.typeOf Tryz.func61 (by kernel_rfl) (by kernel_rfl) (by kernel_rfl) (by kernel_rfl)
 have h32:=@run_callFunc_extern Tryz.prog 161 _ WE Tryz.func161 (by kernel_rfl) (by kernel_rfl) (by kernel_rfl) (by kernel_rfl)
 have tT:=IU
 have cT:=vF
 have mR:=nI
 have nE:=VQ
 have uE:=CX
 have vE:=AP
 have nW:=VR
 have uW:=AQ
 have mU:=vG
 have heq:=run_eql_iface_ptr_same (P:=Tryz.prog) w b Tryz.underlying62 Tryz.underlying183 hi hcmp hj
 have hty:=run_eql_iface_types (P:=Tryz.prog) 147 183 (.pointer (some ⟨pb,po,none⟩)) (.pointer (some b)) Tryz.underlying62 (by decide) w
 go_enter Tryz.func41,Tryz.ntmps41
 go_wp2
 refine wp_loop_rounds 2 ?_
 rw [rounds_succ]
 go_wp2
 rw [rounds_succ]
 go_wp2
 go_ret
 exact⟨rfl,rfl⟩
theorem CB (pb po:Nat) (b:Addr) (a:Addr) (ca cb:Array Value) (ta tb:TypeId) (w:World) (h1:w.cell? ⟨pb,po+1,none⟩=some (.iface 183 (.pointer (some a)))) (hne:a≠b) (ha:w.heap[a.block]?=some (.cells ca ta (0,0))) (hb:w.heap[b.block]?=some (.cells cb tb (0,0))) :
  Calls Tryz.prog 41 #[.iface 147 (.pointer (some ⟨pb,po,none⟩)),.iface 183 (.pointer (some b))] w fun e w'=>e=.returned (.bool false)∧w'=w:=by
 obtain⟨i,hi,hcmp⟩:=Option.map_eq_some_iff.1 RP
 obtain⟨j,hj,hjs⟩:=Option.map_eq_some_iff.1 RQ
 have h8:=@run_callFunc_extern Tryz.prog 61 _ Extern.ReflectliteType.typeOf Tryz.func61 (by kernel_rfl) (by kernel_rfl) (by kernel_rfl) (by kernel_rfl)
 have h32:=@run_callFunc_extern Tryz.prog 161 _ WE Tryz.func161 (by kernel_rfl) (by kernel_rfl) (by kernel_rfl) (by kernel_rfl)
 have tT:=IU
 have cT:=vF
 have mR:=nI
 have nE:=VQ
 have uE:=CX
 have vE:=AP
 have nW:=VR
 have uW:=AQ
 have mU:=vG
 have heq:=run_eql_iface_ptr_other (P:=Tryz.prog) w Tryz.underlying62 Tryz.underlying183 hi hcmp hj (by rw [hjs];decide) hne ha hb
 have hty:=run_eql_iface_types (P:=Tryz.prog) 147 183 (.pointer (some ⟨pb,po,none⟩)) (.pointer (some b)) Tryz.underlying62 (by decide) w
 go_enter Tryz.func41,Tryz.ntmps41
 go_wp2
 refine wp_loop_rounds 2 ?_
 rw [rounds_succ]
 go_wp2
 rw [rounds_succ]
 go_wp2
 go_ret
 exact⟨rfl,rfl⟩
end Go.Proofs.YtaeioidifpebdaaGreatDoor
end
section
namespace Go.Proofs.YtaeioidifpebdaaGreatDoor
open Go Go.RowKit Go.Lib
set_option linter.unusedSimpArgs false
set_option linter.unusedVariables false
set_option maxHeartbeats 4000000
set_option maxRecDepth 100000
theorem RR (s:ByteArray):Pure Tryz.prog 137 [.one (.v (.string s))] (.agg (rF s).cc):=by
 refine nA fun w vs hg hv=>?_
 obtain⟨v,rfl,hv1⟩:=hv.one1
 simp only [Ca,Cc] at hv1
 obtain⟨rfl,-⟩:=hv1
 exact (UE s w).mono fun e w' ⟨v',he,hx,hr⟩=>⟨v',he,hx,IsD.ca hr⟩
theorem OY (l:List D) (hok:Oks l) (hlen:l.length≤1599289640354):Pure Tryz.prog 125 [.one (.sl 6 (l.map D.cc))] (.agg (fK l).cc):=by
 refine nA fun w vs hg hv=>?_
 obtain⟨v,rfl,hv1⟩:=hv.one1
 exact (RL l w v hok hlen hv1.isDs).mono fun e w' ⟨v',he,hx,hr⟩=>⟨v',he,hx,IsD.ca hr⟩
theorem OZ (d f:D) (hd:d.Ok) (hf:f.Ok):Pure Tryz.prog 95 [.agg d.cc,.agg f.cc] (.agg (II d f).cc):=by
 refine nA fun w vs hg hv=>?_
 obtain⟨v,u,rfl,hv1,hu1⟩:=hv.two
 exact (RM d f w v u hd hf hv1.isD hu1.isD).mono fun e w' ⟨v',he,hx,hr⟩=>⟨v',he,hx,IsD.ca hr⟩
def eJ (d:D):List D:=if gW d=0 then items d else []
theorem AR (d:D) (hok:d.Ok) (hlen:(items d).length≤1000000000):Pure Tryz.prog 83 [.agg d.cc] (.tup [.one (.sl 6 ((eJ d).map D.cc)),.one (.v (.bool (decide (gW d=0))))]):=by
 refine nA fun w vs hg hv=>?_
 obtain⟨v,rfl,hv1⟩:=hv.one1
 refine (OO d w v hok hlen hv1.isD).mono fun e w' ⟨v',he,hx,hr⟩=>⟨_,he,hx,?_⟩
 simp only [Ca,Cas]
 exact⟨[v',_],rfl,v',_,rfl,IsDs.ca hr,_,_,rfl,by simp [Cc,Value.oneCell'],rfl⟩
-- errors
theorem GL.two_is {w:World} (h:GL w) (n:Nat) {u:Value} (hu:CellsAt w (erG n) 0 [u]):∃(a:Addr) (ca:Array Value) (ta:TypeId),u=.iface 183 (.pointer (some a))∧w.heap[a.block]?=some (.cells ca ta (0,0)):=by
 obtain⟨g1,a,b,ca,cb,ta,tb,g2,g3,g6,g7,g8,g4,g5⟩:=h
 have hu1:w.cell? ⟨erG n,0,none⟩=some u:=hu.1
 cases n with
 | zero =>
  have:some u=_:=hu1.symm.trans g2
  cases this
  exact⟨a,ca,ta,rfl,g4⟩
 | succ n =>
  have:some u=_:=hu1.symm.trans g3
  cases this
  exact⟨b,cb,tb,rfl,g5⟩
theorem vH {w:World} {p:Addr} {t t':TypeId} {a b:Addr} (h1:w.cell? p=some (.iface t (.pointer (some a)))) (h2:w.cell? p=some (.iface t' (.pointer (some b)))):a=b:=by
 rw [h1] at h2
 simp only [Option.some.injEq,Value.iface.injEq,Value.pointer.injEq] at h2
 exact h2.2
theorem GL.ne {w:World} (hg:GL w) {n g:Nat} (hn:n+1≤2) (hg1:g≤1) (hng:¬n=g) {t t':TypeId} {a b:Addr} (e1:w.cell? ⟨erG n,0,none⟩=some (.iface t (.pointer (some a)))) (e2:w.cell? ⟨erG g,0,none⟩=some (.iface t' (.pointer (some b)))):a≠b:=by
 intro hab
 subst hab
 obtain⟨g1,a',b',ca',cb',ta',tb',g2,g3,g6,g7,g8,-⟩:=hg
 obtain⟨rfl,rfl⟩|⟨rfl,rfl⟩:(n=0∧g=1)∨(n=1∧g=0):=by omega
 ·exact g8 ((vH g2 e1).trans (vH g3 e2).symm)
 ·exact g8 ((vH g2 e2).trans (vH g3 e1).symm)
theorem EW (n g:Nat) (hn:n≤2) (hg1:g≤1):Pure Tryz.prog 41 [.one (.er n),.one (.gv (erG g))] (.one (.v (.bool (decide (n=g+1))))):=by
 refine tM rfl fun w vs hg hv=>?_
 obtain⟨v,u,rfl,hv1,hu1⟩:=hv.two
 simp only [Ca,Cc] at hv1 hu1
 obtain⟨b,cb,tb,rfl,hb⟩:=hg.two_is g hu1.2
 cases n with
 | zero =>
  obtain rfl:v=.nilIface:=hv1
  exact (WF b w).mono fun e w' ⟨he,hw⟩=>⟨by rw [he];simp,hw▸Ext.refl _⟩
 | succ n =>
  obtain⟨pb,po,s,e,rfl,h1,h2⟩:=hv1
  obtain⟨a,ca,ta,rfl,ha⟩:=hg.two_is n h2
  have hc:w.cell? ⟨pb,po+1,none⟩=some (.iface 183 (.pointer (some a))):=h1.2.1
  have e1:w.cell? ⟨erG n,0,none⟩=some (.iface 183 (.pointer (some a))):=h2.1
  have e2:w.cell? ⟨erG g,0,none⟩=some (.iface 183 (.pointer (some b))):=hu1.2.1
  by_cases hng:n=g
  ·subst hng
   have:=vH e1 e2
   subst this
   exact (EV pb po a w hc).mono fun e w' ⟨he,hw⟩=>⟨by rw [he];simp,hw▸Ext.refl _⟩
  ·have hne:a≠b:=GL.ne hg hn hg1 hng e1 e2
   exact (CB pb po b a ca cb ta tb w hc hne ha hb).mono fun e w' ⟨he,hw⟩=>⟨by rw [he,decide_eq_false (by omega)],hw▸Ext.refl _⟩
theorem dC (s:ByteArray) (n:Nat):Pure Tryz.prog 84 [.one (.v (.string s)),.one (.gv (erG n))] (.one (.er (n+1))):=by
 refine OH fun w vs hg hv=>?_
 obtain⟨v,u,rfl,hv1,hu1⟩:=hv.two
 simp only [Ca,Cc] at hv1 hu1
 obtain⟨rfl,-⟩:=hv1
 obtain⟨b,cb,tb,rfl,hb⟩:=hg.two_is n hu1.2
 go_enter Tryz.func84,Tryz.ntmps84
 go_wp2_with fail
 refine bodyPost_ret (v:=.iface 147 (.pointer (some ⟨w.heap.size,0,none⟩))) (by simp [results,Tryz.results84,go_sem]) rfl ⟨_,rfl,(Ext.refl _).alloc _,?_⟩
 have hnew:=gU w (.cells #[.string s,.iface 183 (.pointer (some b))] 149)
 have hx:Ext w (w.alloc (.cells #[.string s,.iface 183 (.pointer (some b))] 149)):=(Ext.refl _).alloc _
 refine⟨w.heap.size,0,.string s,.iface 183 (.pointer (some b)),rfl,⟨?_,?_,trivial⟩,⟨?_,trivial⟩⟩
 ·rw [eN,if_pos (by simp)];unfold World.cell?;rw [hnew];rfl
 ·rw [eN,if_pos (by simp)];unfold World.cell?;rw [hnew];rfl
 ·rw [eN,if_pos (by cases n<;>simp [GB,erG])]
  exact hx.keeps _ _ hu1.2.1
end Go.Proofs.YtaeioidifpebdaaGreatDoor
end
section
namespace Go.Proofs.YtaeioidifpebdaaGreatDoor
open Go Go.RowKit
set_option linter.unusedSimpArgs false
set_option linter.unusedVariables false
set_option maxHeartbeats 4000000
set_option maxRecDepth 100000
theorem cA (a b:ByteArray):(a.toList == b.toList)=eqB a b:=by
 by_cases h:a=b
 ·rw [aV h];simp [h]
 ·rw [aB h];simpa using fun e=>h (uB e)
theorem rI {P:Program} {w:World} {t e:TypeId} {a:Option Addr} {n c:Nat} (h:P.underlying t=some (.slice e)):(Op.equal t (.slice a n c) (.slice none 0 0)).run P w=.ok a.isNone w:=by
 have hun:(underlying t).run P w=.ok (.slice e) w:=by simp [underlying,program,bind,Sem.bind,Sem.run,h,pure]
 unfold Op.equal Op.maxDepth
 rw [Op.equalIn]
 cases a<;>simp only [Sem.run_bind,hun,Result.andThen_ok,Sem.run_pure,Option.isNone_none,Option.isNone_some]
theorem WpL.nilSl {P:Program} {nt:Cf} {ops:Array Oper} {Q:St→Prop} {st:St} {rest:List Oper} {d:Option Tmp} {t ty t' e:TypeId} {x:Operand} {pos:String} {aft:Array Edge} {wd:Nat} {es:List (List C)} (hd:mH nt d=true)
  (hx:rdA st.e x=some (.one (.sl wd es))) (ht:P.underlying t=some (.slice e)) (h:∀b,(es≠[]→b=false)→WpL P nt ops Q rest (st.put d (.one (.v (.bool b))))):WpL P nt ops Q (⟨d,.binOp .eql t x (.const (.slice none 0 0)) t',ty,pos,aft,none⟩::rest) st:=fun H w0 S0 m0 m a w hs Q' hQ=>by
 have h1:=hs.rd hx
 simp only [Ca,Cc] at h1
 have key:∃q n c,a.eval x=.slice q n c∧(es≠[]→q.isNone=false):=by
  rcases h1.2 with ⟨h0,hn⟩|⟨b,o,cap,hu,-⟩
  ·rcases hn with hn|⟨q,cap,hn,-⟩
   ·exact⟨_,_,_,hn,fun hne=>absurd h0 hne⟩
   ·exact⟨_,_,_,hn,fun hne=>absurd h0 hne⟩
  ·exact⟨_,_,_,hu,fun _=>rfl⟩
 obtain⟨q,n,c,hu,hq⟩:=key
 have hnext:=h q.isNone hq H w0 S0 m0 m _ w (hs.put hd (caV rfl)) Q' hQ
 unfold wpList
 rw [if_pos (by rfl)]
 refine .inl ?_
 unfold Oper.wp
 have hrun:(execOp a.eval ⟨d,.binOp .eql t x (.const (.slice none 0 0)) t',ty,pos,aft,none⟩).run P w=.ok (.value (.bool q.isNone)) w:=by
  have e2:a.eval (.const (.slice none 0 0))=.slice none 0 0:=rfl
  simp only [execOp,hu,e2,Sem.run_bind,lL (P:=P) (w:=w) _ t x (.const (.slice none 0 0)) (.slice q n c) (.slice none 0 0) (by simp) (by simp),Result.andThen_ok,binOp,rI ht,Sem.run_pure]
 rw [hrun]
 exact hnext
noncomputable def qQ (l:List ByteArray) (s:ByteArray):Option Nat:=l.findIdx? fun a=>eqB s a
noncomputable def idx (l:List ByteArray) (s:ByteArray):Int:=match qQ l s with|some k=>k|none=>-1
theorem PA {l:List ByteArray} {s:ByteArray} {k:Nat} (h:k<l.length) (hk:s=l[k]) (hb:∀j (h:j<l.length),j<k→s≠l[j]):qQ l s=some k:=by
 unfold qQ
 rw [List.findIdx?_eq_some_iff_getElem]
 exact⟨h,aV hk,fun j hj=>by rw [aB (hb j (by omega) hj)];simp⟩
theorem PB {l:List ByteArray} {s:ByteArray} (hb:∀j (h:j<l.length),s≠l[j]):qQ l s=none:=by
 unfold qQ
 rw [List.findIdx?_eq_none_iff]
 intro x hx
 obtain⟨j,hj,rfl⟩:=List.mem_iff_getElem.1 hx
 exact aB (hb j hj)
def IxI (l:List ByteArray) (s:ByteArray) (n:Nat) (st:St):Prop:=∃i:Nat,n=l.length-i∧i≤l.length∧(∀j (h:j<l.length),j<i→s≠l[j]) ∧
 st=⟨[(8,.one (.v (.int .i64 i))),(7,.one (.v (.int .i64 l.length))),(0,.one (.sl 1 (aW l))),(1,.one (.v (.string s)))],[]⟩
theorem pU (l:List ByteArray) (s:ByteArray) (hlen:l.length≤1000000000000001):Pure Tryz.prog 117 [.one (.sl 1 (aW l)),.one (.v (.string s))] (.one (.v (.int .i64 (idx l s)))):=by
 have hl:=cE l
 refine Fn.intro Tryz.func117 rfl Tryz.ntmps117 Tryz.results117 (by simp only [List.length_cons,List.length_nil];decide) ?_
 repeat (first|(apply fw;focus ((with_reducible constructor)<;>constructor))|((first|with_reducible refine ga _ rfl fun Y y=>?_|apply ri);simp only [zb,seval,KU,hl];refine RunTo.fn y (by first|(simp;done)|omega|(simp;omega)) ?_;clear y Y))
 refine WpA.loop (IxI l s) l.length ?_ ⟨0,rfl,Nat.zero_le _,fun j _ h=>absurd h (Nat.not_lt_zero _),rfl⟩ ?_
 ·exact Le.sub (by simp [Sub,find])
 intro n' st hI
 obtain⟨i,rfl,hi,hb,rfl⟩:=hI
 have hw2:IntKind.i64.wrap ((i:Int)+1)=((i+1:Nat):Int):=by rw [dQ (by omega) (by omega)];omega
 by_cases hlt:i<l.length
 ·have hd1:decide ((i:Int)<(l.length:Int))=true:=by simp;omega
  have hget:=nC hlt
  by_cases he:s=l[i]
  ·have hee:=aV he
   repeat (first|(apply fw;focus ((with_reducible constructor)<;>constructor))|((first|with_reducible refine ga _ rfl fun Y y=>?_|apply ri);simp only [zb,seval,KU,hd1,hget,cA,hee];refine RunTo.fn y (by first|(simp;done)|omega|(simp;omega)) ?_;clear y Y))
   refine⟨by simp,_,_,_,_,(by simp only [zb,seval,KU];rfl),(by simp),(by simp only [zv];rfl),(by simp [A.shut,C.shut]),_,ALe.refl _,?_⟩
   rw [idx,PA hlt he hb]
  ·have hee:=aB he
   repeat (first|(apply fw;focus ((with_reducible constructor)<;>constructor))|((first|with_reducible refine ga _ rfl fun Y y=>?_|apply ri);simp only [zb,seval,KU,hd1,hget,cA,hee,hw2];refine RunTo.fn y (by first|(simp;done)|omega|(simp;omega)) ?_;clear y Y))
   refine⟨l.length-(i+1),_,by omega,Le.sub (by simp [Sub,find]),i+1,rfl,hlt,fun j hj hji=>?_,rfl⟩
   rcases Nat.lt_succ_iff_lt_or_eq.1 hji with h|rfl
   ·exact hb j hj h
   ·exact he
 ·have hd0:decide ((i:Int)<(l.length:Int))=false:=by simp;omega
  repeat (first|(apply fw;focus ((with_reducible constructor)<;>constructor))|((first|with_reducible refine ga _ rfl fun Y y=>?_|apply ri);simp only [zb,seval,KU,hd0];refine RunTo.fn y (by first|(simp;done)|omega|(simp;omega)) ?_;clear y Y))
  repeat (first|(apply fw;focus ((with_reducible constructor)<;>constructor))|((first|with_reducible refine ga _ rfl fun Y y=>?_|apply ri);simp only [zb,seval,KU,hd0];refine RunTo.fn y (by first|(simp;done)|omega|(simp;omega)) ?_;clear y Y))
  refine⟨by simp,_,_,_,_,(by simp only [zb,seval,KU];rfl),(by simp),(by simp only [zv];rfl),(by simp [A.shut,C.shut]),_,ALe.refl _,?_⟩
  rw [idx,PB fun j hj=>hb j hj (by omega)]
theorem oO (l:List ByteArray) (s:ByteArray) (hlen:l.length≤1000000000000001):Pure Tryz.prog 99 [.one (.sl 1 (aW l)),.one (.v (.string s))] (.one (.v (.bool (decide (0≤idx l s))))):=by
 refine Fn.intro Tryz.func99 rfl Tryz.ntmps99 Tryz.results99 (by simp only [List.length_cons,List.length_nil];decide) ?_
 repeat (first|(apply fw;focus ((with_reducible constructor)<;>constructor))|((first|with_reducible refine ga _ rfl fun Y y=>?_|apply ri);simp only [zb,seval];refine RunTo.fn y (by first|(simp;done)|omega|(simp;omega)) ?_;clear y Y))
 refine WpL.call rfl (aA (P:=Tryz.prog) rfl) (CallA.shut rfl rfl (by kernel_rfl) (by first|exact ALes.refl _|((try simp only [rcc]);(repeat (first|exact ALes.refl _|refine ALes.cons ?_ ?_|exact ALe.refl _|exact ALe.nil|refine ALe.agg ?_|exact CLes.refl _|refine CLes.nil ?_|refine CLes.cons ?_)))) (by first|rfl|simp [dP,A.shut,C.shut]) (pU l s hlen) ?_)
 (refine WpL.go _ rfl fun Y y=>?_);repeat (first|(apply fw;focus ((with_reducible constructor)<;>constructor))|((first|with_reducible refine ga _ rfl fun Y y=>?_|apply ri);simp only [zb,seval];refine RunTo.fn y (by first|(simp;done)|omega|(simp;omega)) ?_;clear y Y))
 refine⟨by simp,_,_,_,_,(by simp only [zb,seval];rfl),(by simp),(by simp only [zv];rfl),(by simp [A.shut,C.shut]),_,ALe.refl _,?_⟩
 rfl
end Go.Proofs.YtaeioidifpebdaaGreatDoor
end
section
namespace Go.Proofs.YtaeioidifpebdaaGreatDoor
open Go Go.RowKit Go.Lib
set_option linter.unusedSimpArgs false
set_option linter.unusedVariables false
set_option maxHeartbeats 4000000
set_option maxRecDepth 100000
theorem PC (a b:D):Pure Tryz.prog 36 [.agg a.cc,.agg b.cc] (.one (.v (.bool (eqB a b)))):=by
 refine tM rfl fun w vs hg hv=>?_
 obtain⟨v,u,rfl,hv1,hu1⟩:=hv.two
 exact RO a b w v u hv1.isD hu1.isD
def EqI (a b:List ByteArray) (n:Nat) (st:St):Prop:=∃i:Nat,n=a.length-i∧i≤a.length∧a.take i=b.take i ∧
 st=⟨[(13,.one (.v (.int .i64 i))),(12,.one (.v (.int .i64 a.length))),(0,.one (.sl 1 (aW a))),(1,.one (.sl 1 (aW b)))],[]⟩
theorem IV (a b:List ByteArray) (hlen:a.length≤1000000000000000):Pure Tryz.prog 35 [.one (.sl 1 (aW a)),.one (.sl 1 (aW b))] (.one (.v (.bool (eqB a b)))):=by
 have hla:=cE a
 have hlb:=cE b
 by_cases hl:a.length=b.length
 case neg =>
  have hne:((a.length:Int) != (b.length:Int))=true:=by simp;omega
  rw [aB fun h=>hl (by rw [h])]
  refine Fn.intro Tryz.func35 rfl Tryz.ntmps35 Tryz.results35 (by simp only [List.length_cons,List.length_nil];decide) ?_
  repeat (first|(apply fw;focus ((with_reducible constructor)<;>constructor))|((first|with_reducible refine ga _ rfl fun Y y=>?_|apply ri);simp only [zb,seval,w35,hla,hlb,hne];refine RunTo.fn y (by first|(simp;done)|omega|(simp;omega)) ?_;clear y Y))
  refine⟨by simp,_,_,_,_,(by simp only [zb,seval,w35];rfl),(by simp),(by simp only [zv];rfl),(by simp [A.shut,C.shut]),_,ALe.refl _,?_⟩
  rfl
 have hne:((a.length:Int) != (b.length:Int))=false:=by simp;omega
 refine Fn.intro Tryz.func35 rfl Tryz.ntmps35 Tryz.results35 (by simp only [List.length_cons,List.length_nil];decide) ?_
 repeat (first|(apply fw;focus ((with_reducible constructor)<;>constructor))|((first|with_reducible refine ga _ rfl fun Y y=>?_|apply ri);simp only [zb,seval,w35,hla,hlb,hne];refine RunTo.fn y (by first|(simp;done)|omega|(simp;omega)) ?_;clear y Y))
 refine WpA.loop (EqI a b) a.length ?_ ⟨0,rfl,Nat.zero_le _,rfl,rfl⟩ ?_
 ·exact Le.sub (by simp [Sub,find])
 intro n' st hI
 obtain⟨i,rfl,hi,hb,rfl⟩:=hI
 have hw2:IntKind.i64.wrap ((i:Int)+1)=((i+1:Nat):Int):=by rw [dQ (by omega) (by omega)];omega
 by_cases hlt:i<a.length
 ·have hd1:decide ((i:Int)<(a.length:Int))=true:=by simp;omega
  have hga:=nC hlt
  have hgb:=nC (l:=b) (i:=i) (by omega)
  by_cases he:a[i]=b[i]
  ·have hee:=aV he
   repeat (first|(apply fw;focus ((with_reducible constructor)<;>constructor))|((first|with_reducible refine ga _ rfl fun Y y=>?_|apply ri);simp only [zb,seval,w35,hd1];refine RunTo.fn y (by first|(simp;done)|omega|(simp;omega)) ?_;clear y Y))
   (refine WpA.draw0 9 _ _ _ rfl rfl rfl (by kernel_rfl) (by kernel_rfl) (by kernel_rfl) fun K8 hK8=>?_);simp only [zz] at hK8 ⊢;(refine Draw0.go fun K7 hK7=>?_);simp only [zb,seval,w35,hga,hgb,cA,hee,hw2];(refine RunQ.mk (by first|(simp;done)|omega|(simp;omega)) (hK7 _ _ ?_));clear hK7 K7;(try ((refine Draw0.nil (hK8 _ ?_));clear hK8 K8;(refine WpL.go _ rfl fun Y y=>?_);repeat (first|(apply fw;focus ((with_reducible constructor)<;>constructor))|((first|with_reducible refine ga _ rfl fun Y y=>?_|apply ri);simp only [zb,seval,w35,hga,hgb,cA,hee,hw2];refine RunTo.fn y (by first|(simp;done)|omega|(simp;omega)) ?_;clear y Y))))
   refine⟨a.length-(i+1),_,by omega,Le.sub (by simp [Sub,find]),i+1,rfl,hlt,?_,rfl⟩
   rw [List.take_succ_eq_append_getElem hlt,List.take_succ_eq_append_getElem (by omega),hb,he]
  ·have hee:=aB he
   rw [aB fun h=>he (by simp [h])]
   repeat (first|(apply fw;focus ((with_reducible constructor)<;>constructor))|((first|with_reducible refine ga _ rfl fun Y y=>?_|apply ri);simp only [zb,seval,w35,hd1];refine RunTo.fn y (by first|(simp;done)|omega|(simp;omega)) ?_;clear y Y))
   (refine WpA.draw0 9 _ _ _ rfl rfl rfl (by kernel_rfl) (by kernel_rfl) (by kernel_rfl) fun K8 hK8=>?_);simp only [zz] at hK8 ⊢;(refine Draw0.go fun K7 hK7=>?_);simp only [zb,seval,w35,hga,hgb,cA,hee,hw2];(refine RunQ.mk (by first|(simp;done)|omega|(simp;omega)) (hK7 _ _ ?_));clear hK7 K7;(try ((refine Draw0.nil (hK8 _ ?_));clear hK8 K8;(refine WpL.go _ rfl fun Y y=>?_);repeat (first|(apply fw;focus ((with_reducible constructor)<;>constructor))|((first|with_reducible refine ga _ rfl fun Y y=>?_|apply ri);simp only [zb,seval,w35,hga,hgb,cA,hee,hw2];refine RunTo.fn y (by first|(simp;done)|omega|(simp;omega)) ?_;clear y Y))))
   refine⟨by simp,_,_,_,_,(by simp only [zb,seval,w35];rfl),(by simp),(by simp only [zv];rfl),(by simp [A.shut,C.shut]),_,ALe.refl _,?_⟩
   rfl
 ·have hd0:decide ((i:Int)<(a.length:Int))=false:=by simp;omega
  have hii:i=a.length:=by omega
  rw [aV (show a=b by rw [hii,List.take_length,hl,List.take_length] at hb;exact hb)]
  repeat (first|(apply fw;focus ((with_reducible constructor)<;>constructor))|((first|with_reducible refine ga _ rfl fun Y y=>?_|apply ri);simp only [zb,seval,w35,hd0];refine RunTo.fn y (by first|(simp;done)|omega|(simp;omega)) ?_;clear y Y))
  repeat (first|(apply fw;focus ((with_reducible constructor)<;>constructor))|((first|with_reducible refine ga _ rfl fun Y y=>?_|apply ri);simp only [zb,seval,w35,hd0];refine RunTo.fn y (by first|(simp;done)|omega|(simp;omega)) ?_;clear y Y))
  refine⟨by simp,_,_,_,_,(by simp only [zb,seval,w35];rfl),(by simp),(by simp only [zv];rfl),(by simp [A.shut,C.shut]),_,ALe.refl _,?_⟩
  rfl
def EqF (a b:List K) (n:Nat) (st:St):Prop:=∃i:Nat,n=a.length-i∧i≤a.length∧a.take i=b.take i ∧
 st=⟨[(17,.one (.v (.int .i64 i))),(16,.one (.v (.int .i64 a.length))),(15,.one (.sl 11 (a.map K.cc))),(0,.one (.sl 11 (a.map K.cc))),(1,.one (.sl 11 (b.map K.cc))),(2,.one (.fn 14 []))],[]⟩
theorem IW (a b:List K) (hlen:a.length≤1000000000000000) (ih:∀x∈a,∀y,Pure Tryz.prog 14 [.agg x.cc,.agg y.cc] (.one (.v (.bool (eqB x y))))):Pure Tryz.prog 37 [.one (.sl 11 (a.map K.cc)),.one (.sl 11 (b.map K.cc)),.one (.fn 14 [])] (.one (.v (.bool (eqB a b)))):=by
 by_cases hl:a.length=b.length
 case neg =>
  have hne:((a.length:Int) != (b.length:Int))=true:=by simp;omega
  rw [aB fun h=>hl (by rw [h])]
  refine Fn.intro Tryz.func37 rfl Tryz.ntmps37 Tryz.results37 (by simp only [List.length_cons,List.length_nil];decide) ?_
  repeat (first|(apply fw;focus ((with_reducible constructor)<;>constructor))|((first|with_reducible refine ga _ rfl fun Y y=>?_|apply ri);simp only [zb,seval,w37,hne];refine RunTo.fn y (by first|(simp;done)|omega|(simp;omega)) ?_;clear y Y))
  refine⟨by simp,_,_,_,_,(by simp only [zb,seval,w37];rfl),(by simp),(by simp only [zv];rfl),(by simp [A.shut,C.shut]),_,ALe.refl _,?_⟩
  rfl
 have hne:((a.length:Int) != (b.length:Int))=false:=by simp;omega
 refine Fn.intro Tryz.func37 rfl Tryz.ntmps37 Tryz.results37 (by simp only [List.length_cons,List.length_nil];decide) ?_
 repeat (first|(apply fw;focus ((with_reducible constructor)<;>constructor))|((first|with_reducible refine ga _ rfl fun Y y=>?_|apply ri);simp only [zb,seval,w37,hne];refine RunTo.fn y (by first|(simp;done)|omega|(simp;omega)) ?_;clear y Y))
 refine WpA.loop (EqF a b) a.length ?_ ⟨0,rfl,Nat.zero_le _,rfl,rfl⟩ ?_
 ·exact Le.sub (by simp [Sub,find])
 intro n' st hI
 obtain⟨i,rfl,hi,hb,rfl⟩:=hI
 have hw2:IntKind.i64.wrap ((i:Int)+1)=((i+1:Nat):Int):=by rw [dQ (by omega) (by omega)];omega
 by_cases hlt:i<a.length
 ·have hd1:decide ((i:Int)<(a.length:Int))=true:=by simp;omega
  have hlb:i<b.length:=by omega
  have hga:=LC hlt
  have hgb:=LC hlb
  have hc:=ih a[i] (List.getElem_mem _) b[i]
  rw [K.cc_eq] at hga hgb
  rw [K.cc_eq a[i],K.cc_eq b[i]] at hc
  by_cases he:a[i]=b[i]
  ·have hee:=aV he
   repeat (first|(apply fw;focus ((with_reducible constructor)<;>constructor))|((first|with_reducible refine ga _ rfl fun Y y=>?_|apply ri);simp only [zb,seval,w37,hd1,hga,hgb];refine RunTo.fn y (by first|(simp;done)|omega|(simp;omega)) ?_;clear y Y))
   refine WpL.call rfl (aA (P:=Tryz.prog) rfl) (CallA.shut rfl rfl (by kernel_rfl) (by first|exact ALes.refl _|((try simp only [rcc]);(repeat (first|exact ALes.refl _|refine ALes.cons ?_ ?_|exact ALe.refl _|exact ALe.nil|refine ALe.agg ?_|exact CLes.refl _|refine CLes.nil ?_|refine CLes.cons ?_)))) (by first|rfl|simp [dP,A.shut,C.shut]) (hc) ?_)
   (refine WpL.go _ rfl fun Y y=>?_);repeat (first|(apply fw;focus ((with_reducible constructor)<;>constructor))|((first|with_reducible refine ga _ rfl fun Y y=>?_|apply ri);simp only [zb,seval,w37,hee,hw2];refine RunTo.fn y (by first|(simp;done)|omega|(simp;omega)) ?_;clear y Y))
   refine⟨a.length-(i+1),_,by omega,Le.drop 0 (Nat.zero_le _) rfl (by simp [Sub,find]) (by simp [CJ,A.bd,C.bd,C.bds]) (by simp [ObBd]),i+1,rfl,hlt,?_,rfl⟩
   rw [List.take_succ_eq_append_getElem hlt,List.take_succ_eq_append_getElem (by omega),hb,he]
  ·have hee:=aB he
   rw [aB (a:=a) (b:=b) fun h=>he (by simp [h])]
   repeat (first|(apply fw;focus ((with_reducible constructor)<;>constructor))|((first|with_reducible refine ga _ rfl fun Y y=>?_|apply ri);simp only [zb,seval,w37,hd1,hga,hgb];refine RunTo.fn y (by first|(simp;done)|omega|(simp;omega)) ?_;clear y Y))
   refine WpL.call rfl (aA (P:=Tryz.prog) rfl) (CallA.shut rfl rfl (by kernel_rfl) (by first|exact ALes.refl _|((try simp only [rcc]);(repeat (first|exact ALes.refl _|refine ALes.cons ?_ ?_|exact ALe.refl _|exact ALe.nil|refine ALe.agg ?_|exact CLes.refl _|refine CLes.nil ?_|refine CLes.cons ?_)))) (by first|rfl|simp [dP,A.shut,C.shut]) (hc) ?_)
   (refine WpL.go _ rfl fun Y y=>?_);repeat (first|(apply fw;focus ((with_reducible constructor)<;>constructor))|((first|with_reducible refine ga _ rfl fun Y y=>?_|apply ri);simp only [zb,seval,w37,hee,hw2];refine RunTo.fn y (by first|(simp;done)|omega|(simp;omega)) ?_;clear y Y))
   refine⟨by simp,_,_,_,_,(by simp only [zb,seval,w37];rfl),(by simp),(by simp only [zv];rfl),(by simp [A.shut,C.shut]),_,ALe.refl _,?_⟩
   rfl
 ·have hd0:decide ((i:Int)<(a.length:Int))=false:=by simp;omega
  have hii:i=a.length:=by omega
  rw [aV (show a=b by rw [hii,List.take_length,hl,List.take_length] at hb;exact hb)]
  repeat (first|(apply fw;focus ((with_reducible constructor)<;>constructor))|((first|with_reducible refine ga _ rfl fun Y y=>?_|apply ri);simp only [zb,seval,w37,hd0];refine RunTo.fn y (by first|(simp;done)|omega|(simp;omega)) ?_;clear y Y))
  repeat (first|(apply fw;focus ((with_reducible constructor)<;>constructor))|((first|with_reducible refine ga _ rfl fun Y y=>?_|apply ri);simp only [zb,seval,w37,hd0];refine RunTo.fn y (by first|(simp;done)|omega|(simp;omega)) ?_;clear y Y))
  refine⟨by simp,_,_,_,_,(by simp only [zb,seval,w37];rfl),(by simp),(by simp only [zv];rfl),(by simp [A.shut,C.shut]),_,ALe.refl _,?_⟩
  rfl
theorem K.ext' {a b:K} (h1:a.k=b.k) (h2:a.name=b.name) (h3:a.rest=b.rest) (h4:a.params=b.params) (h5:a.d=b.d) (h6:a.l=b.l):a=b:=by
 cases a;cases b
 simp only [K.k,K.name,K.rest,K.params,K.d,K.l] at *
 subst h1 h2 h3 h4 h5 h6;rfl
theorem LI:∀n (a b:K),a.ht≤n→a.Ok→Pure Tryz.prog 14 [.agg a.cc,.agg b.cc] (.one (.v (.bool (eqB a b)))):=by
 intro n
 induction n with
 | zero=>intro a b h;exact absurd h (by have:=a.ht_pos;omega)
 | succ n ih =>
  intro a b hh hok
  have hq:=IV a.params b.params hok.par
  have hd:=PC a.d b.d
  have hf:=IW a.l b.l hok.len (fun x hx y=>by
   obtain⟨i,hi,rfl⟩:=List.mem_iff_getElem.1 hx
   have:=K.ht_lt hi
   exact ih _ y (by omega) (hok.get i hi))
  rw [D.cc_eq a.d,D.cc_eq b.d] at hd
  rw [K.cc_eq a,K.cc_eq b]
  by_cases h1:a.k=b.k
  case neg =>
   have e1:(a.k == b.k)=false:=by simp [h1]
   rw [aB fun h=>h1 (by rw [h])]
   refine Fn.intro Tryz.func14 rfl Tryz.ntmps14 Tryz.results14 (by simp only [List.length_cons,List.length_nil];decide) ?_
   repeat (first|(apply fw;focus ((with_reducible constructor)<;>constructor))|((first|with_reducible refine ga _ rfl fun Y y=>?_|apply ri);simp only [zb,seval,w14,e1];refine RunTo.fn y (by first|(simp;done)|omega|(simp;omega)) ?_;clear y Y))
   refine⟨by simp,_,_,_,_,(by simp only [zb,seval,w14];rfl),(by simp),(by simp only [zv];rfl),(by simp [A.shut,C.shut]),_,ALe.refl _,?_⟩
   rfl
  have e1:(a.k == b.k)=true:=by simp [h1]
  by_cases h2:a.name=b.name
  case neg =>
   have e2:=aB h2
   rw [aB (a:=a) (b:=b) fun h=>h2 (by rw [h])]
   refine Fn.intro Tryz.func14 rfl Tryz.ntmps14 Tryz.results14 (by simp only [List.length_cons,List.length_nil];decide) ?_
   repeat (first|(apply fw;focus ((with_reducible constructor)<;>constructor))|((first|with_reducible refine ga _ rfl fun Y y=>?_|apply ri);simp only [zb,seval,w14,e1,cA,e2];refine RunTo.fn y (by first|(simp;done)|omega|(simp;omega)) ?_;clear y Y))
   refine⟨by simp,_,_,_,_,(by simp only [zb,seval,w14];rfl),(by simp),(by simp only [zv];rfl),(by simp [A.shut,C.shut]),_,ALe.refl _,?_⟩
   rfl
  have e2:=aV h2
  by_cases h3:a.rest=b.rest
  case neg =>
   have e3:=aB h3
   rw [aB (a:=a) (b:=b) fun h=>h3 (by rw [h])]
   refine Fn.intro Tryz.func14 rfl Tryz.ntmps14 Tryz.results14 (by simp only [List.length_cons,List.length_nil];decide) ?_
   repeat (first|(apply fw;focus ((with_reducible constructor)<;>constructor))|((first|with_reducible refine ga _ rfl fun Y y=>?_|apply ri);simp only [zb,seval,w14,e1,cA,e2,e3];refine RunTo.fn y (by first|(simp;done)|omega|(simp;omega)) ?_;clear y Y))
   refine⟨by simp,_,_,_,_,(by simp only [zb,seval,w14];rfl),(by simp),(by simp only [zv];rfl),(by simp [A.shut,C.shut]),_,ALe.refl _,?_⟩
   rfl
  have e3:=aV h3
  by_cases h4:a.params=b.params
  case neg =>
   have e4:=aB h4
   rw [aB (a:=a) (b:=b) fun h=>h4 (by rw [h])]
   refine Fn.intro Tryz.func14 rfl Tryz.ntmps14 Tryz.results14 (by simp only [List.length_cons,List.length_nil];decide) ?_
   repeat (first|(apply fw;focus ((with_reducible constructor)<;>constructor))|((first|with_reducible refine ga _ rfl fun Y y=>?_|apply ri);simp only [zb,seval,w14,e1,cA,e2,e3];refine RunTo.fn y (by first|(simp;done)|omega|(simp;omega)) ?_;clear y Y))
   refine WpL.call rfl (aA (P:=Tryz.prog) rfl) (CallA.shut rfl rfl (by kernel_rfl) (by first|exact ALes.refl _|((try simp only [rcc]);(repeat (first|exact ALes.refl _|refine ALes.cons ?_ ?_|exact ALe.refl _|exact ALe.nil|refine ALe.agg ?_|exact CLes.refl _|refine CLes.nil ?_|refine CLes.cons ?_)))) (by first|rfl|simp [dP,A.shut,C.shut]) (hq) ?_)
   (refine WpL.go _ rfl fun Y y=>?_);repeat (first|(apply fw;focus ((with_reducible constructor)<;>constructor))|((first|with_reducible refine ga _ rfl fun Y y=>?_|apply ri);simp only [zb,seval,w14,e4];refine RunTo.fn y (by first|(simp;done)|omega|(simp;omega)) ?_;clear y Y))
   refine⟨by simp,_,_,_,_,(by simp only [zb,seval,w14];rfl),(by simp),(by simp only [zv];rfl),(by simp [A.shut,C.shut]),_,ALe.refl _,?_⟩
   rfl
  have e4:=aV h4
  by_cases h5:a.d=b.d
  case neg =>
   have e5:=aB h5
   rw [aB (a:=a) (b:=b) fun h=>h5 (by rw [h])]
   refine Fn.intro Tryz.func14 rfl Tryz.ntmps14 Tryz.results14 (by simp only [List.length_cons,List.length_nil];decide) ?_
   repeat (first|(apply fw;focus ((with_reducible constructor)<;>constructor))|((first|with_reducible refine ga _ rfl fun Y y=>?_|apply ri);simp only [zb,seval,w14,e1,cA,e2,e3];refine RunTo.fn y (by first|(simp;done)|omega|(simp;omega)) ?_;clear y Y))
   refine WpL.call rfl (aA (P:=Tryz.prog) rfl) (CallA.shut rfl rfl (by kernel_rfl) (by first|exact ALes.refl _|((try simp only [rcc]);(repeat (first|exact ALes.refl _|refine ALes.cons ?_ ?_|exact ALe.refl _|exact ALe.nil|refine ALe.agg ?_|exact CLes.refl _|refine CLes.nil ?_|refine CLes.cons ?_)))) (by first|rfl|simp [dP,A.shut,C.shut]) (hq) ?_)
   (refine WpL.go _ rfl fun Y y=>?_);repeat (first|(apply fw;focus ((with_reducible constructor)<;>constructor))|((first|with_reducible refine ga _ rfl fun Y y=>?_|apply ri);simp only [zb,seval,w14,e4];refine RunTo.fn y (by first|(simp;done)|omega|(simp;omega)) ?_;clear y Y))
   refine WpL.call rfl (aA (P:=Tryz.prog) rfl) (CallA.shut rfl rfl (by kernel_rfl) (by first|exact ALes.refl _|((try simp only [rcc]);(repeat (first|exact ALes.refl _|refine ALes.cons ?_ ?_|exact ALe.refl _|exact ALe.nil|refine ALe.agg ?_|exact CLes.refl _|refine CLes.nil ?_|refine CLes.cons ?_)))) (by first|rfl|simp [dP,A.shut,C.shut]) (hd) ?_)
   (refine WpL.go _ rfl fun Y y=>?_);repeat (first|(apply fw;focus ((with_reducible constructor)<;>constructor))|((first|with_reducible refine ga _ rfl fun Y y=>?_|apply ri);simp only [zb,seval,w14,e5];refine RunTo.fn y (by first|(simp;done)|omega|(simp;omega)) ?_;clear y Y))
   refine⟨by simp,_,_,_,_,(by simp only [zb,seval,w14];rfl),(by simp),(by simp only [zv];rfl),(by simp [A.shut,C.shut]),_,ALe.refl _,?_⟩
   rfl
  have e5:=aV h5
  have e6:eqB a b=eqB a.l b.l:=by
   by_cases h6:a.l=b.l
   ·rw [aV h6,aV (K.ext' h1 h2 h3 h4 h5 h6)]
   ·rw [aB h6,aB fun h=>h6 (by rw [h])]
  rw [e6]
  refine Fn.intro Tryz.func14 rfl Tryz.ntmps14 Tryz.results14 (by simp only [List.length_cons,List.length_nil];decide) ?_
  repeat (first|(apply fw;focus ((with_reducible constructor)<;>constructor))|((first|with_reducible refine ga _ rfl fun Y y=>?_|apply ri);simp only [zb,seval,w14,e1,cA,e2,e3];refine RunTo.fn y (by first|(simp;done)|omega|(simp;omega)) ?_;clear y Y))
  refine WpL.call rfl (aA (P:=Tryz.prog) rfl) (CallA.shut rfl rfl (by kernel_rfl) (by first|exact ALes.refl _|((try simp only [rcc]);(repeat (first|exact ALes.refl _|refine ALes.cons ?_ ?_|exact ALe.refl _|exact ALe.nil|refine ALe.agg ?_|exact CLes.refl _|refine CLes.nil ?_|refine CLes.cons ?_)))) (by first|rfl|simp [dP,A.shut,C.shut]) (hq) ?_)
  (refine WpL.go _ rfl fun Y y=>?_);repeat (first|(apply fw;focus ((with_reducible constructor)<;>constructor))|((first|with_reducible refine ga _ rfl fun Y y=>?_|apply ri);simp only [zb,seval,w14,e4];refine RunTo.fn y (by first|(simp;done)|omega|(simp;omega)) ?_;clear y Y))
  refine WpL.call rfl (aA (P:=Tryz.prog) rfl) (CallA.shut rfl rfl (by kernel_rfl) (by first|exact ALes.refl _|((try simp only [rcc]);(repeat (first|exact ALes.refl _|refine ALes.cons ?_ ?_|exact ALe.refl _|exact ALe.nil|refine ALe.agg ?_|exact CLes.refl _|refine CLes.nil ?_|refine CLes.cons ?_)))) (by first|rfl|simp [dP,A.shut,C.shut]) (hd) ?_)
  (refine WpL.go _ rfl fun Y y=>?_);repeat (first|(apply fw;focus ((with_reducible constructor)<;>constructor))|((first|with_reducible refine ga _ rfl fun Y y=>?_|apply ri);simp only [zb,seval,w14,e5];refine RunTo.fn y (by first|(simp;done)|omega|(simp;omega)) ?_;clear y Y))
  refine WpL.call rfl (aA (P:=Tryz.prog) rfl) (CallA.lend rfl rfl (by kernel_rfl) (by simp only [zv];rfl) (by first|exact trivial|(simp;done)|(simp [C.shut];done)) rfl (hf) ?_)
  (refine WpL.go _ rfl fun Y y=>?_);repeat (first|(apply fw;focus ((with_reducible constructor)<;>constructor))|((first|with_reducible refine ga _ rfl fun Y y=>?_|apply ri);simp only [zb,seval,w14];refine RunTo.fn y (by first|(simp;done)|omega|(simp;omega)) ?_;clear y Y))
  refine⟨by simp,_,_,_,_,(by simp only [zb,seval,w14];rfl),(by simp),(by simp only [zv];rfl),(by simp [A.shut,C.shut]),_,ALe.refl _,?_⟩
  rfl
theorem LJ (a b:K) (hok:a.Ok):Pure Tryz.prog 14 [.agg a.cc,.agg b.cc] (.one (.v (.bool (eqB a b)))):=LI a.ht a b (Nat.le_refl _) hok
end Go.Proofs.YtaeioidifpebdaaGreatDoor
end
