/-
 Laid together: Core, Ex18, Lst18, Eq18, Err18, Dat18, Sl19, Same19, ESame.
-/
import Derived.Test.YtaeioidifpebdaaGreatDoorG4
import Derived.Test.YtaeioidifpebdaaGreatDoorList
import Derived.Test.YtaeioidifpebdaaGreatDoorItems
import Derived.Test.YtaeioidifpebdaaGreatDoorMake
import Derived.Test.YtaeioidifpebdaaGreatDoorPlain4
import Derived.Test.YtaeioidifpebdaaGreatDoorChecked
import Derived.WalkKit
import Derived.LaidEql
import Derived.Stop.Asserts
import Derived.RowKitTokens
import Derived.Test.YtaeioidifpebdaaGreatDoorCons
import Derived.Test.YtaeioidifpebdaaGreatDoorG2
import Derived.Test.YtaeioidifpebdaaGreatDoorSame2
import Derived.Test.YtaeioidifpebdaaGreatDoorG3
section
namespace Go.Proofs.YtaeioidifpebdaaGreatDoor
open Go Go.RowKit
set_option linter.unusedSimpArgs false
set_option linter.unusedVariables false
inductive K where
 | mk (k:Int) (name rest:ByteArray) (params:List ByteArray) (d:D) (l:List K)
namespace K
def k:K→Int|mk k _ _ _ _ _=>k
def name:K→ByteArray|mk _ n _ _ _ _=>n
def rest:K→ByteArray|mk _ _ r _ _ _=>r
def params:K→List ByteArray|mk _ _ _ p _ _=>p
def d:K→D|mk _ _ _ _ d _=>d
def l:K→List K|mk _ _ _ _ _ l=>l
end K
def bp (l:List ByteArray):List (List C):=l.map fun s=>[.v (.string s)]
theorem bg (l:List ByteArray):(bp l).length=l.length:=by simp [bp]
theorem fV {l:List ByteArray} {i:Nat} (h:i<l.length):(bp l)[i]?=some [.v (.string l[i])]:=by simp [bp,h]
theorem eR (l:List ByteArray):∀e∈bp l,∀c∈e,C.shut c=true:=fun e he c hc=>by
 obtain⟨s,_,rfl⟩:=List.mem_map.1 he
 simp at hc;subst hc;rfl
def K.cc:K→List C
 | mk k name rest params d l=>[.v (.int .i64 k),.v (.string name),.v (.string rest),.sl 1 (bp params),.v (.int .i64 d.k),.v (.int .i32 d.c),.v (.bool d.neg),.sl 1 (d.mag.map fun n=>[.v (.int .u32 n)]),.v (.string d.t),.sl 6 (d.l.map D.cc),.sl 11 (l.map K.cc)]
theorem K.cc_eq (c:K):c.cc=[.v (.int .i64 c.k),.v (.string c.name),.v (.string c.rest),.sl 1 (bp c.params),.v (.int .i64 c.d.k),.v (.int .i32 c.d.c),.v (.bool c.d.neg),.sl 1 (c.d.mag.map fun n=>[.v (.int .u32 n)]),.v (.string c.d.t),.sl 6 (c.d.l.map D.cc),.sl 11 (c.l.map K.cc)]:=by
 cases c;rw [K.cc];rfl
theorem K.cc_len (c:K):c.cc.length=11:=by rw [K.cc_eq];rfl
theorem wE {l:List K} {i:Nat} (h:i<l.length):(l.map K.cc)[i]?=some (l[i]).cc:=by simp [h]
theorem K.cc_shut (c:K):∀x∈c.cc,C.shut x=true:=by rw [K.cc_eq];simp [C.shut]
theorem K.cc_bd (n:Nat) (c:K):∀x∈c.cc,C.bd n x=true:=by rw [K.cc_eq];simp [C.bd]
mutual
def K.ht:K→Nat
 | .mk _ _ _ _ _ l=>K.hts l+1
def K.hts:List K→Nat
 | []=>0
 | c::l=>max c.ht (K.hts l)
end
theorem K.ht_mem {x:K}:∀{l:List K},x∈l→x.ht≤K.hts l
 | c::l,h=>by
  rw [K.hts]
  rcases List.mem_cons.1 h with rfl|h
  ·exact Nat.le_max_left _ _
  ·exact Nat.le_trans (K.ht_mem h) (Nat.le_max_right _ _)
theorem K.ht_lt {c:K} {i:Nat} (h:i<c.l.length):(c.l[i]).ht<c.ht:=by
 obtain⟨k,n,r,p,d,l⟩:=c
 have:=K.ht_mem (List.getElem_mem h)
 show _<K.hts l+1
 exact Nat.lt_succ_of_le this
theorem K.ht_pos (c:K):0<c.ht:=by cases c;rw [K.ht];omega
mutual
def K.Ok:K→Prop
 | .mk k name rest params d l=>(-9223372036854775808≤k∧k≤9223372036854775807)∧params.length≤1000000000000000∧d.Ok∧l.length≤1000000000000000∧K.Oks l
def K.Oks:List K→Prop
 | []=>True
 | c::l=>c.Ok∧K.Oks l
end
theorem K.Oks.get:∀{l:List K},K.Oks l→∀i (h:i<l.length),l[i].Ok
 | c::l,h,0,_=>h.1
 | c::l,h,i+1,hi=>K.Oks.get (l:=l) h.2 i (by simpa using hi)
theorem K.Ok.kids {c:K} (h:c.Ok):K.Oks c.l:=by cases c;exact h.2.2.2.2
theorem K.Ok.get {c:K} (h:c.Ok) (i:Nat) (hi:i<c.l.length):c.l[i].Ok:=h.kids.get i hi
theorem K.Ok.d {c:K} (h:c.Ok):c.d.Ok:=by cases c;exact h.2.2.1
theorem K.Ok.par {c:K} (h:c.Ok):c.params.length≤1000000000000000:=by cases c;exact h.2.1
theorem K.Ok.len {c:K} (h:c.Ok):c.l.length≤1000000000000000:=by cases c;exact h.2.2.2.1
theorem K.Ok.kind {c:K} (h:c.Ok) : -9223372036854775808≤c.k∧c.k≤9223372036854775807:=by cases c;exact h.1
end Go.Proofs.YtaeioidifpebdaaGreatDoor
end
section
namespace Go.Proofs.YtaeioidifpebdaaGreatDoor
open Go
set_option linter.unusedSimpArgs false
set_option linter.unusedVariables false
def e0:ByteArray:=⟨#[]⟩
def ea:ByteArray:=⟨#[113,117,111,116,101]⟩
def cQ:ByteArray:=⟨#[113,117,97,115,105,113,117,111,116,101]⟩
def nx:ByteArray:=⟨#[117,110,113,117,111,116,101]⟩
def eH:ByteArray:=⟨#[117,110,113,117,111,116,101,45,115,112,108,105,99,105,110,103]⟩
def bO:ByteArray:=⟨#[108,97,109,98,100,97]⟩
def dh:ByteArray:=⟨#[100,101,102,105,110,101]⟩
def jF:ByteArray:=⟨#[115,101,116,33]⟩
def sIf:ByteArray:=⟨#[105,102]⟩
def bW:ByteArray:=⟨#[98,101,103,105,110]⟩
def ga:ByteArray:=⟨#[108,101,116]⟩
def gO:ByteArray:=⟨#[108,101,116,42]⟩
def dK:ByteArray:=⟨#[108,101,116,114,101,99]⟩
def de:ByteArray:=⟨#[108,101,116,114,101,99,42]⟩
def gP:ByteArray:=⟨#[99,111,110,100]⟩
def fW:ByteArray:=⟨#[99,97,115,101]⟩
def kf:ByteArray:=⟨#[97,110,100]⟩
def sOr:ByteArray:=⟨#[111,114]⟩
def fX:ByteArray:=⟨#[119,104,101,110]⟩
def dt:ByteArray:=⟨#[117,110,108,101,115,115]⟩
def sDo:ByteArray:=⟨#[100,111]⟩
def eb:ByteArray:=⟨#[101,108,115,101]⟩
def gQ:ByteArray:=⟨#[61,62]⟩
def aJ:ByteArray:=⟨#[255,116]⟩
def b8:ByteArray:=⟨#[255,108,111,111,112]⟩
def pC:ByteArray:=⟨#[101,113,118,63]⟩
def oP:ByteArray:=⟨#[99,111,110,115]⟩
def tP:ByteArray:=⟨#[108,105,115,116,45,62,118,101,99,116,111,114]⟩
def j0:ByteArray:=⟨#[97,112,112,101,110,100]⟩
def mH:List ByteArray:=[ea,cQ,nx,eH,bO,dh,jF,sIf,bW,ga,gO,dK,de,gP,fW,kf,sOr,fX,dt,sDo,eb,gQ]
noncomputable def gY (s:ByteArray):Bool:=mH.any fun x=>eqB s x
-- data: how much there is in one
mutual
def D.msr:D→Nat
 | .mk k _ _ _ _ l=>(if k=8 then l.length+2 else 1)+bx l
def bx:List D→Nat
 | []=>0
 | d::l=>d.msr+bx l
end
mutual
def D.Two:D→Prop
 | .mk k _ _ _ _ l=>(k=7→l.length=2)∧Twos l
def Twos:List D→Prop
 | []=>True
 | d::l=>d.Two∧Twos l
end
theorem dL (d:D):1≤d.msr:=by
 cases d with|mk k c neg mag t l=>rw [D.msr];split<;>omega
theorem qU:∀l:List D,l.length≤bx l
 | []=>by simp
 | d::l=>by rw [bx,List.length_cons];have:=dL d;have:=qU l;omega
theorem iI {d:D}:∀{l:List D},d∈l→d.msr≤bx l
 | x::l,h=>by
  rw [bx]
  rcases List.mem_cons.1 h with rfl|h
  ·omega
  ·have:=iI h;omega
theorem qV:∀(a b:List D),bx (a++b)=bx a+bx b
 | [],b=>by simp [bx]
 | d::a,b=>by rw [List.cons_append,bx,bx,qV a b];omega
theorem Twos.mem {d:D}:∀{l:List D},Twos l→d∈l→d.Two
 | x::l,h,hd=>by
  rcases List.mem_cons.1 hd with rfl|hd
  ·exact h.1
  ·exact Twos.mem h.2 hd
theorem Twos.of:∀{l:List D},(∀d∈l,d.Two)→Twos l
 | [],_=>trivial
 | x::l,h=>⟨h x (by simp),Twos.of fun d hd=>h d (by simp [hd])⟩
theorem D.Two.kids {d:D} (h:d.Two):Twos d.l:=by cases d;exact h.2
theorem D.Two.two {d:D} (h:d.Two) (hk:d.k=7):d.l.length=2:=by cases d;exact h.1 hk
theorem D.Plain.two:∀{d:D},d.Plain→d.Two
 | .mk k c neg mag t l,h=>by
  rw [D.Plain] at h
  exact⟨h.2.2.2.2.2.2.1,Twos.of fun d hd=>by
   obtain⟨i,hi,rfl⟩:=List.mem_iff_getElem.1 hd
   exact D.Plain.two ((Plains.iff l).1 h.2.2.2.2.2.2.2.2 i hi)⟩
termination_by d=>SizeOf.sizeOf d
decreasing_by
 all_goals simp_wf
 all_goals (have:=List.sizeOf_lt_of_mem hd;omega)
def D.fst (d:D):D:=d.l.getD 0 bA
def D.snd (d:D):D:=d.l.getD 1 bA
theorem D.Two.pair {d:D} (h:d.Two) (hk:d.k=7):d.l=[d.fst,d.snd]:=by
 have:=h.two hk
 obtain⟨k,c,neg,mag,t,l⟩:=d
 match l,this with
 | [a,b],_=>rfl
def Gd (n:Nat) (d:D):Prop:=d.Two∧d.Ok∧d.msr<n
def Gds (n:Nat) (l:List D):Prop:=Twos l∧Oks l∧bx l<n
theorem Oks.mem {d:D} {l:List D} (h:Oks l) (hd:d∈l):d.Ok:=by
 obtain⟨i,hi,rfl⟩:=List.mem_iff_getElem.1 hd
 exact h.get i hi
theorem Oks.ofMem {l:List D} (h:∀d∈l,d.Ok):Oks l:=Oks.of fun i hi=>h _ (List.getElem_mem hi)
theorem Gds.mem {n:Nat} {l:List D} (h:Gds n l) {d:D} (hd:d∈l):Gd n d:=⟨h.1.mem hd,h.2.1.mem hd,Nat.lt_of_le_of_lt (iI hd) h.2.2⟩
theorem Gds.len {n:Nat} {l:List D} (h:Gds n l):l.length<n:=Nat.lt_of_le_of_lt (qU l) h.2.2
theorem Gd.le {n m:Nat} {d:D} (h:Gd n d) (hm:n≤m):Gd m d:=⟨h.1,h.2.1,Nat.lt_of_lt_of_le h.2.2 hm⟩
theorem Gds.le {n m:Nat} {l:List D} (h:Gds n l) (hm:n≤m):Gds m l:=⟨h.1,h.2.1,Nat.lt_of_lt_of_le h.2.2 hm⟩
theorem u9 {a b:List D} (h:a.Sublist b):bx a≤bx b:=by
 induction h with
 | slnil=>exact Nat.le_refl _
 | cons x _ ih=>rw [bx];omega
 | cons_cons x _ ih=>rw [bx,bx];omega
theorem Gds.sub {n:Nat} {a b:List D} (h:Gds n b) (hs:a.Sublist b):Gds n a :=
 ⟨Twos.of fun d hd=>h.1.mem (hs.subset hd),Oks.ofMem fun d hd=>h.2.1.mem (hs.subset hd),Nat.lt_of_le_of_lt (u9 hs) h.2.2⟩
theorem Gds.drop {n:Nat} {l:List D} (h:Gds n l) (k:Nat):Gds n (l.drop k):=h.sub (List.drop_sublist k l)
theorem Gds.take {n:Nat} {l:List D} (h:Gds n l) (k:Nat):Gds n (l.take k):=h.sub (List.take_sublist k l)
theorem Gds.tail {n:Nat} {x:D} {l:List D} (h:Gds n (x::l)):Gds n l:=h.sub (List.sublist_cons_self x l)
theorem Gds.head {n:Nat} {x:D} {l:List D} (h:Gds n (x::l)):Gd n x:=h.mem (by simp)
theorem Gd.pair {n:Nat} {d:D} (h:Gd n d) (hk:d.k=7):d.l=[d.fst,d.snd]∧Gd n d.fst∧Gd n d.snd∧d.fst.msr+d.snd.msr+1=d.msr:=by
 have hp:=h.1.pair hk
 have ht:=h.1.kids
 have ho:=h.2.1.l
 have hm:d.msr=1+bx d.l:=by
  obtain⟨k,c,neg,mag,t,l⟩:=d
  have hk:k=7:=hk
  subst hk
  rw [D.msr];rfl
 rw [hp] at ht ho hm
 simp only [bx] at hm
 have:=h.2.2
 exact⟨hp,⟨ht.1,ho.1,by omega⟩,⟨ht.2.1,ho.2.1,by omega⟩,by omega⟩
theorem gE:∀(d:D),bx (items d)+(items d).length≤d.msr
 | .mk k c neg mag t l=>by
  unfold items
  split
  ·match l with
   | []=>simp [eK,bx]
   | [a]=>simp [eK,bx]
   | [a,b] =>
    have:=gE b
    rename_i hk
    subst hk
    simp only [eK,bx,List.length_cons,D.msr]
    rw [if_neg (by decide)]
    omega
   | a::b::c::r=>simp [eK,bx]
  ·simp [bx]
theorem ny {d:D} (hk:d.k=7):bx (items d)<d.msr:=by
 have h1:=gE d
 cases hi:items d with
 | nil=>rw [hi] at h1;simp [bx] at h1 ⊢;have:=dL d;omega
 | cons a l=>rw [hi] at h1;simp at h1;omega
theorem ff:∀(d:D),d.Two→d.Ok→Twos (items d)∧Oks (items d)
 | .mk k c neg mag t l,ht,ho=>by
  unfold items
  split
  ·match l with
   | []=>exact⟨trivial,trivial⟩
   | [a]=>exact⟨trivial,trivial⟩
   | [a,b] =>
    have h1:=ht.2
    have h2:=ho.l
    have:=ff b h1.2.1 h2.2.1
    exact⟨⟨h1.1,this.1⟩,⟨h2.1,this.2⟩⟩
   | a::b::c::r=>exact⟨trivial,trivial⟩
  ·exact⟨trivial,trivial⟩
theorem Gd.items {n:Nat} {d:D} (h:Gd n d):Gds n (Proofs.YtaeioidifpebdaaGreatDoor.items d):=by
 have h1:=gE d
 have:=h.2.2
 exact⟨(ff d h.1 h.2.1).1,(ff d h.1 h.2.1).2,by omega⟩
theorem fH:∀l:List D,(aG l).msr=l.length+bx l+1
 | []=>by simp [aG,bA,D.msr,bx]
 | d::l=>by
  have:=fH l
  simp only [aG,D.msr,bx,List.length_cons]
  rw [if_neg (by decide)]
  omega
theorem oQ:∀{l:List D},Twos l→(aG l).Two
 | [],_=>⟨fun h=>absurd h (by decide),trivial⟩
 | d::l,h=>⟨fun _=>rfl,h.1,oQ h.2,trivial⟩
theorem dZ:bA.Ok:=⟨by decide,by decide,by simp,by decide,by decide,trivial⟩
theorem eE:∀{l:List D},Oks l→(aG l).Ok
 | [],_=>dZ
 | d::l,h=>⟨by decide,by decide,by simp,by decide,⟨by decide,by simp⟩,h.1,eE h.2,trivial⟩
theorem Gd.vec {n:Nat} {d:D} (h:Gd n d) (hk:d.k=8):Gd n (aG d.l)∧(aG d.l).msr<d.msr:=by
 have hm:d.msr=d.l.length+2+bx d.l:=by
  obtain⟨k,c,neg,mag,t,l⟩:=d
  have hk:k=8:=hk
  subst hk
  rw [D.msr];rfl
 have h2:=fH d.l
 have:=h.2.2
 exact⟨⟨oQ h.1.kids,eE h.2.1.l,by omega⟩,by omega⟩
-- what is computed
abbrev Rs:=K × Nat
def kz:K:=.mk 0 e0 e0 [] bA []
def bS (d:D):K:=.mk 1 e0 e0 [] d []
def fg (k:Int):D:=.mk k 0 false [] e0 []
def aZ:K:=bS (fg 9)
def ey (k:Int):K:=bS (fg k)
def aP (s:ByteArray):K:=.mk 2 s e0 [] bA []
def dj (s:ByteArray):K:=.mk 10 s e0 [] bA []
def ai (a b c:K):K:=.mk 5 e0 e0 [] bA [a,b,c]
def dA:List K→K
 | [x]=>x
 | l=>.mk 7 e0 e0 [] bA l
def cD (ps:List ByteArray) (rest:ByteArray) (b:K):Rs:=if 40<ps.length+(if rest=e0 then 0 else 1) then (kz,1) else (.mk 6 e0 rest ps bA [b],0)
def en (l:List K):K:=.mk 8 e0 e0 [] bA l
def bC (l:List K):Rs:=if 41<l.length then (kz,1) else (en l,0)
noncomputable def eF (d:D) (s:ByteArray):Bool:=decide (d.k=6)&&eqB d.t s
noncomputable def aM (d:D):ByteArray × Nat:=if d.k=6∧gY d.t=false then (d.t,0) else (e0,2)
def av (d:D):List D × Nat:=if dz d=0 then (items d,0) else ([],2)
def d6 (l:List Nat):Nat:=l.foldl max 0
theorem gR (l:List Nat) (x:Nat):d6 (l++[x])=max (d6 l) x:=by simp [d6,List.foldl_append]
def aw (E:D→Rs) (l:List D):List K × Nat:=(l.map fun d=>(E d).1,d6 (l.map fun d=>(E d).2))
def cH (E:D→Rs) (l:List D):Rs:=if l=[] then (kz,2) else (dA (aw E l).1,(aw E l).2)
noncomputable def unl (l:List ByteArray):Nat:=if @decide l.Nodup (Classical.propDecidable _) then 0 else 2
mutual
def iJ:D→D
 | .mk k c neg mag t l=>if k=7 then vc (.mk k c neg mag t l) l else .mk k c neg mag t l
def vc (d:D):List D→D
 | [a,b]=>iJ b
 | _=>d
end
noncomputable def bM (d:D):List ByteArray × ByteArray × Nat :=
 let ps:=(items d).map fun x=>(aM x).1
 let n:=d6 ((items d).map fun x=>(aM x).2)
 if (iJ d).k=0 then (ps,e0,max n (unl ps)) else (ps,(aM (iJ d)).1,max (max n (aM (iJ d)).2) (unl (ps++[(aM (iJ d)).1])))
structure Ev where
 e:D→Rs
 b:List D→Rs
 q:D→Nat→Rs
noncomputable def bP (ev:Ev) (f:D) (body:List D):Rs :=
 let fm:=bM f
 let x:=cD fm.1 fm.2.1 (ev.b body).1
 (x.1,max (max fm.2.2 (ev.b body).2) x.2)
def lc (v:ByteArray) (x:K):K:=.mk 3 v e0 [] bA [x]
def fv:K:=.mk 9 e0 e0 [] bA []
noncomputable def fh (names:List ByteArray) (values:List K) (body:K):Rs :=
 let f:=cD names e0 (dA ((names.zip values).map (fun p=>lc p.1 p.2)++[body]))
 let x:=bC (f.1::names.map fun _=>fv)
 (x.1,max (max (unl names) f.2) x.2)
def dH (b:D):Option (D × D):=if dz b=0 then (match items b with|[x,y]=>some (x,y)|_=>none) else none
noncomputable def ar (d:D):List ByteArray × List D × Nat :=
 let l:=(av d).1
 (l.filterMap fun b=>(dH b).map fun p=>(aM p.1).1,l.filterMap fun b=>(dH b).map (·.2),max (av d).2 (d6 (l.map fun b=>match dH b with|some p=>(aM p.1).2|none=>2)))
noncomputable def di (ev:Ev):List D→ByteArray × K × Nat
 | []=>(e0,kz,2)
 | [_]=>(e0,kz,2)
 | a::b::r=>if a.k=7 then ((aM a.fst).1,(bP ev a.snd (b::r)).1,max (aM a.fst).2 (bP ev a.snd (b::r)).2)
  else ((aM a).1,(ev.e b).1,max (if r=[] then (aM a).2 else max (aM a).2 2) (ev.e b).2)
noncomputable def b9 (d:D) (s:ByteArray):Option (List D):=if d.k=7∧eF d.fst s=true then (if dz d.snd=0 then some (items d.snd) else none) else none
noncomputable def ld:Nat→List D→List D
 | 0,l=>l
 | n+1,l=>l.flatMap fun d=>match b9 d bW with|some x=>ld n x|none=>[d]
noncomputable def spl (l:List D):List D:=ld (bx l) l
structure Bs where
 names:List ByteArray
 values:List K
 rest:List K
 err:Nat
noncomputable def bG (ev:Ev) (s:Bs) (d:D):Bs:=match b9 d dh with
 | none=>⟨s.names,s.values,s.rest++[(ev.e d).1],max s.err (ev.e d).2⟩
 | some x=>⟨s.names++[(di ev x).1],s.values++[(di ev x).2.1],s.rest,if s.rest=[] then max s.err (di ev x).2.2 else max (max s.err (di ev x).2.2) 2⟩
noncomputable def fY (ev:Ev) (l:List D):Bs:=l.foldl (bG ev) ⟨[],[],[],0⟩
noncomputable def iu (s:Bs):Rs :=
 if s.rest=[] then (kz,max s.err 2) else if s.names=[] then (dA s.rest,s.err) else
  let x:=fh s.names s.values (dA s.rest)
  (x.1,max s.err x.2)
noncomputable def lO (ev:Ev) (l:List D):Rs:=iu (fY ev (spl l))
def ck (ev:Ev) (names:List ByteArray) (body:K) (values:List D):Rs :=
 let f:=cD names e0 body
 let l:=aw ev.e values
 let x:=bC (f.1::l.1)
 (x.1,max (max f.2 l.2) x.2)
def bT (ev:Ev) (test:D) (body:K):Rs:=ck ev [aJ] body [test]
noncomputable def eM (ev:Ev):List D→Rs
 | a::b::r =>
  let w:=aM a
  let bs:=ar b
  let f:=cD bs.1 e0 (ev.b r).1
  let x:=fh [w.1] [f.1] (aP w.1)
  let vs:=aw ev.e bs.2.1
  let c:=bC (x.1::vs.1)
  (c.1,max (max (max (max (max (max (max w.2 bs.2.2) (unl bs.1)) (ev.b r).2) f.2) x.2) vs.2) c.2)
 | _=>(kz,2)
noncomputable def lf (ev:Ev):List D→Rs
 | []=>(kz,2)
 | a::r=>if a.k=6 then eM ev (a::r) else
  let bs:=ar a
  let x:=ck ev bs.1 (ev.b r).1 bs.2.1
  (x.1,max (max (max bs.2.2 (ev.b r).2) (unl bs.1)) x.2)
def fZ (ev:Ev) (p:ByteArray × D) (s:Rs):Rs:=((ck ev [p.1] s.1 [p.2]).1,max s.2 (ck ev [p.1] s.1 [p.2]).2)
def f3 (ev:Ev) (l:List (ByteArray × D)) (s:Rs):Rs:=l.foldr (fZ ev) s
noncomputable def ec (ev:Ev):List D→Rs
 | []=>(kz,2)
 | a::r =>
  let bs:=ar a
  let x:=ck ev [] (ev.b r).1 []
  f3 ev (bs.1.zip bs.2.1) (x.1,max (max bs.2.2 (ev.b r).2) x.2)
noncomputable def eI (ev:Ev):List D→Rs
 | []=>(kz,2)
 | a::r =>
  let bs:=ar a
  let vs:=aw ev.e bs.2.1
  let x:=fh bs.1 vs.1 (ev.b r).1
  (x.1,max (max (max bs.2.2 vs.2) (ev.b r).2) x.2)
noncomputable def eo (ev:Ev):List D→Rs
 | []=>(aZ,0)
 | a::r=>match (if dz a=0 then items a else []) with
  | []=>(kz,2)
  | c::cs=>if eF c eb then (if r=[] then cH ev.e cs else (kz,2)) else
   let rest:=eo ev r
   match cs with
   | [] =>
    let x:=bT ev c (ai (aP aJ) (aP aJ) rest.1)
    (x.1,max rest.2 x.2)
   | f::fs=>if eF f gQ then
     (match fs with
     | [g] =>
      let y:=bC [(ev.e g).1,aP aJ]
      let x:=bT ev c (ai (aP aJ) y.1 rest.1)
      (x.1,max (max (max rest.2 (ev.e g).2) y.2) x.2)
     | _=>(kz,2))
    else (ai (ev.e c).1 (cH ev.e cs).1 rest.1,max (max rest.2 (ev.e c).2) (cH ev.e cs).2)
def fI:List D→K
 | []=>ey 2
 | d::l=>ai (en [dj pC,aP aJ,bS d]) (ey 1) (fI l)
noncomputable def c7 (ev:Ev):List D→Rs
 | []=>(aZ,0)
 | a::r=>match (if dz a=0 then items a else []) with
  | c::f::fs=>if eF c eb then (if r=[] then cH ev.e (f::fs) else (kz,2)) else
   let b:=cH ev.e (f::fs)
   let rest:=c7 ev r
   (ai (fI (av c).1) b.1 rest.1,max (max (av c).2 b.2) rest.2)
  | _=>(kz,2)
def f5 (d:D):Option (D × D × D):=if dz d=0 then (match items d with|[v,x]=>some (v,x,v)|[v,x,y]=>some (v,x,y)|_=>none) else none
noncomputable def iv (ev:Ev):List D→Rs
 | a::b::r =>
  let sp:=(av a).1
  if sp.all (fun d=>(f5 d).isSome) then
   let ts:=sp.filterMap f5
   let names:=ts.map fun t=>(aM t.1).1
   let err:=max (max (max (av a).2 (d6 (ts.map fun t=>(aM t.1).2))) (av b).2) (unl names)
   match (av b).1 with
   | []=>(kz,2)
   | e::es =>
    let test:=ev.e e
    let last:=if es=[] then (aZ,0) else cH ev.e es
    let body:=aw ev.e r
    let next:=aw ev.e (ts.map fun t=>t.2.2)
    let again:=bC (aP b8::next.1)
    let f:=cD names e0 (ai test.1 last.1 (dA (body.1++[again.1])))
    let x:=fh [b8] [f.1] (aP b8)
    let vs:=aw ev.e (ts.map fun t=>t.2.1)
    let c:=bC (x.1::vs.1)
    (c.1,max (max (max (max (max (max (max (max (max err test.2) last.2) body.2) next.2) again.2) f.2) x.2) vs.2) c.2)
  else (kz,2)
 | _=>(kz,2)
def km (a d:K):K:=en [dj oP,a,d]
noncomputable def js (d:D) (s:ByteArray):Option D:=match b9 d s with|some [x]=>some x|_=>none
def gw (s:ByteArray) (x:K):K:=km (bS (bK s)) (km x (bS bA))
noncomputable def iw (ev:Ev) (d:D) (n:Nat):Rs:=match js d nx with
 | some y=>if n=1 then ev.e y else (gw nx (ev.q y (n-1)).1,(ev.q y (n-1)).2)
 | none=>match js d cQ with
  | some y=>(gw cQ (ev.q y (n+1)).1,(ev.q y (n+1)).2)
  | none=>if d.k=8 then (en [dj tP,(ev.q (aG d.l) n).1],(ev.q (aG d.l) n).2)
   else if d.k=7 then (match js d.fst eH with
    | some y=>if n=1 then (en [dj j0,(ev.e y).1,(ev.q d.snd n).1],max (ev.q d.snd n).2 (ev.e y).2)
     else (km (gw eH (ev.q y (n-1)).1) (ev.q d.snd n).1,max (ev.q d.snd n).2 (ev.q y (n-1)).2)
    | none=>(km (ev.q d.fst n).1 (ev.q d.snd n).1,max (ev.q d.snd n).2 (ev.q d.fst n).2))
   else (bS d,0)
noncomputable def bL (ev:Ev) (and:Bool):List D→Rs
 | []=>(ey (if and then 1 else 2),0)
 | [d]=>ev.e d
 | d::r =>
  let rest:=bL ev and r
  if and then (ai (ev.e d).1 rest.1 (ey 2),max rest.2 (ev.e d).2) else
   let x:=bT ev d (ai (aP aJ) (aP aJ) rest.1)
   (x.1,max rest.2 x.2)
noncomputable def aQ (ev:Ev) (word:ByteArray) (l:List D):Rs :=
 if word=ga then lf ev l else if word=gO then ec ev l else if word=dK∨word=de then eI ev l else if word=gP then eo ev l else if word=sDo then iv ev l else if word=kf then bL ev true l else if word=sOr then bL ev false l else (kz,2)
noncomputable def oS (ev:Ev):List D→Rs
 | []=>(kz,2)
 | a::r =>
  let x:=bT ev a (c7 ev r).1
  (x.1,max (c7 ev r).2 x.2)
noncomputable def bD (ev:Ev) (word:ByteArray) (l:List D):Rs :=
 if word=ea∧l.length=1 then (bS (l.getD 0 bA),0)
 else if word=cQ∧l.length=1 then ev.q (l.getD 0 bA) 1
 else if word=bO∧1≤l.length then bP ev (l.getD 0 bA) (l.drop 1)
 else if word=jF∧l.length=2 then (lc (aM (l.getD 0 bA)).1 (ev.e (l.getD 1 bA)).1,max (aM (l.getD 0 bA)).2 (ev.e (l.getD 1 bA)).2)
 else if word=sIf∧l.length=2 then (ai (ev.e (l.getD 0 bA)).1 (ev.e (l.getD 1 bA)).1 aZ,(aw ev.e l).2)
 else if word=sIf∧l.length=3 then (ai (ev.e (l.getD 0 bA)).1 (ev.e (l.getD 1 bA)).1 (ev.e (l.getD 2 bA)).1,(aw ev.e l).2)
 else if word=bW then cH ev.e l
 else if word=fW∧1≤l.length then oS ev l
 else if word=fX∧2≤l.length then (ai (ev.e (l.getD 0 bA)).1 (cH ev.e (l.drop 1)).1 aZ,max (ev.e (l.getD 0 bA)).2 (cH ev.e (l.drop 1)).2)
 else if word=dt∧2≤l.length then (ai (ev.e (l.getD 0 bA)).1 aZ (cH ev.e (l.drop 1)).1,max (ev.e (l.getD 0 bA)).2 (cH ev.e (l.drop 1)).2)
 else aQ ev word l
noncomputable def cE (ev:Ev) (d:D):Rs :=
 if d.k=0 then (kz,2) else if d.k=6 then (aP (aM d).1,(aM d).2) else if d.k=7 then
  (if dz d=0 then (match items d with
   | []=>(kz,2)
   | a::r=>if a.k=6∧gY a.t=true then bD ev a.t r else
    let x:=bC (aw ev.e (a::r)).1
    (x.1,max (aw ev.e (a::r)).2 x.2))
  else (kz,2))
 else (bS d,0)
noncomputable def evs:Nat→Ev
 | 0=>⟨fun _=>(kz,0),fun _=>(kz,0),fun _ _=>(kz,0)⟩
 | n+1=>⟨cE (evs n),lO ⟨cE (evs n),(evs n).b,(evs n).q⟩,iw ⟨cE (evs n),(evs n).b,(evs n).q⟩⟩
noncomputable def fq (E:Ev):Nat→D→Rs
 | 0,_=>(kz,0)
 | n+1,d=>match b9 d dh with
  | some l=>(.mk 4 (di E l).1 e0 [] bA [(di E l).2.1],(di E l).2.2)
  | none=>match b9 d bW with
   | none=>E.e d
   | some []=>(aZ,0)
   | some (a::r)=>(dA ((a::r).map fun x=>(fq E n x).1),d6 ((a::r).map fun x=>(fq E n x).2))
end Go.Proofs.YtaeioidifpebdaaGreatDoor
end
section
namespace Go.Proofs.YtaeioidifpebdaaGreatDoor
open Go Go.Lib
set_option linter.unusedSimpArgs false
set_option linter.unusedVariables false
theorem i9 {k c:Int} {neg:Bool} {mag:List Int} {t:ByteArray} (h:k≠8):(D.mk k c neg mag t []).depth=0:=by
 rw [D.depth_eq];simp [dto,jt,D.k,D.l,h]
def gj (a b:D):D:=.mk 7 0 false [] e0 [a,b]
theorem nA (a b:D):(gj a b).depth=max (a.depth+1) (b.depth+if b.k=7 then 0 else 1):=by
 rw [D.depth_eq]
 show max (if (7:Int)=8 then 1 else 0) (dto (gj a b) 2 _)=_
 simp [dto,jt,eA,gj,D.k,D.l]<;>rfl
def r5:List D→Nat
 | []=>0
 | d::l=>max d.depth (r5 l)
theorem ee (d:D) (l:List D):aG (d::l)=gj d (aG l):=rfl
theorem ie:∀(l:List D),(aG l).depth=if l=[] then 0 else r5 l+1
 | []=>by rw [show aG []=bA from rfl,bA,i9 (by decide)];rfl
 | [d]=>by
  rw [ee,nA,show aG []=bA from rfl,bA,i9 (by decide)]
  show max (d.depth+1) (0+if (0:Int)=7 then 0 else 1)=max d.depth 0+1
  rw [if_neg (by decide)];omega
 | d::e::l=>by
  rw [ee,nA,ie (e::l)]
  show max (d.depth+1) ((max e.depth (r5 l)+1)+if (7:Int)=7 then 0 else 1)=max d.depth (max e.depth (r5 l))+1
  rw [if_pos rfl];omega
theorem r6:bA.Plain:=by rw [←bU];exact eL 0 (by simp) (by simp [fG,D.k,D.c,D.t,D.l,D.neg,D.mag])
theorem qW {a b:D}:(gj a b).Plain↔a.Plain∧b.Plain:=by
 unfold gj
 rw [D.Plain]
 simp [fG,D.k,D.c,D.t,D.l,D.neg,D.mag,Plains,e0]
theorem dI:∀{l:List D},(aG l).Plain↔Plains l
 | []=>by rw [show aG []=bA from rfl];exact⟨fun _=>trivial,fun _=>r6⟩
 | d::l=>by rw [ee,qW,dI,Plains]
theorem nB {k:Int} (hk:k=1∨k=2∨k=9∨k=10):(fg k).Plain:=by
 rw [←bU];exact eL k (by omega) (by simp [fG,D.k,D.c,D.t,D.l,D.neg,D.mag,e0])
theorem fJ (s:ByteArray):(bK s).Plain↔jy s 1=true:=by
 rw [←bU,bK,oM (by simp [fG,D.k,D.c,D.t,D.l,D.neg,D.mag])]
theorem nC {d:D}:nw d=true↔d.Plain∧d.depth≤64:=by
 unfold nw;rw [Bool.and_eq_true,bU,decide_eq_true_eq]
theorem lP (s:ByteArray):(bK s).depth=0:=i9 (by decide)
theorem nD {k:Int} (h:k≠8):(fg k).depth=0:=i9 h
theorem ll (s:ByteArray):(bK s).msr=1:=by rw [bK,D.msr];simp [bx]
theorem qX {k:Int} (h:k≠8):(fg k).msr=1:=by rw [fg,D.msr,if_neg h];simp [bx]
theorem ig:∀(l:List D),(aG l).count=l.length+ep l+1
 | []=>rfl
 | d::l=>by rw [ee,gj,D.count,ep,ep,ep,ig l,ep,List.length_cons];omega
theorem lQ (s:ByteArray):(bK s).count=1:=by rw [bK,D.count];simp [ep]
theorem nF (k:Int):(fg k).count=1:=by rw [fg,D.count];simp [ep]
theorem qY (a b:D):items (gj a b)=a::items b:=by
 unfold gj;rw [items];simp [eK]
theorem eS:∀(l:List D),items (aG l)=l
 | []=>rfl
 | d::l=>by rw [ee,qY,eS l]
theorem r7 (a b:D):dz (gj a b)=dz b:=by
 unfold gj;rw [dz];simp [oL]
theorem gT:∀(l:List D),dz (aG l)=0
 | []=>rfl
 | d::l=>by rw [ee,r7,gT l]
theorem pD {s:ByteArray} (h:s.size≤140737488351232):(bK s).Ok:=by simp [bK,D.Ok,Oks,h]
theorem pE {k:Int} (h : -9223372036854775808≤k∧k≤9223372036854775807):(fg k).Ok:=by simp [fg,D.Ok,Oks,h,e0,ByteArray.size]
theorem yo {s:ByteArray} (h:s∈mH):gY s=true:=List.any_eq_true.2 ⟨s,h,aU rfl⟩
theorem yp {s:ByteArray} (h:s∉mH):gY s=false:=by
 rw [gY,List.any_eq_false]
 intro x hx e
 have:=kK.1 e
 subst this
 exact h hx
theorem vd (s:ByteArray):(bK s).k=6:=rfl
theorem yq (s:ByteArray):(bK s).t=s:=rfl
theorem lm (w s:ByteArray):eF (bK w) s=eqB w s:=by simp [eF,vd,yq]
theorem ve {d:D} (h:d.k≠6) (s:ByteArray):eF d s=false:=by simp [eF,h]
theorem fK (a:D) (r:List D) (s:ByteArray):b9 (aG (a::r)) s=if eF a s=true then some r else none:=by
 rw [ee]
 unfold b9
 rw [show (gj a (aG r)).fst=a from rfl,show (gj a (aG r)).snd=aG r from rfl,show (gj a (aG r)).k=7 from rfl,gT,eS]
 by_cases h:eF a s=true
 ·rw [if_pos ⟨rfl,h⟩,if_pos rfl,if_pos h]
 ·rw [if_neg (fun q=>h q.2),if_neg h]
theorem sX {d:D} (h:d.k≠7) (s:ByteArray):b9 d s=none:=if_neg fun q=>h q.1
theorem vf (l:List D):av (aG l)=(l,0):=by unfold av;rw [gT,eS,if_pos rfl]
theorem nG (ev:Ev) (a:D) (r:List D):cE ev (aG (a::r))=if a.k=6∧gY a.t=true then bD ev a.t r else ((bC (aw ev.e (a::r)).1).1,max (aw ev.e (a::r)).2 (bC (aw ev.e (a::r)).1).2):=by
 unfold cE
 rw [show (aG (a::r)).k=7 from rfl,if_neg (by decide),if_neg (by decide),if_pos rfl,gT,if_pos rfl,eS]
theorem kE (ev:Ev) {s:ByteArray} (h:s∈mH) (r:List D):cE ev (aG (bK s::r))=bD ev s r:=by
 rw [nG,if_pos ⟨rfl,yo h⟩];rfl
theorem r8 (ev:Ev) {a:D} (h:a.k≠6∨gY a.t=false) (r:List D):cE ev (aG (a::r))=((bC (aw ev.e (a::r)).1).1,max (aw ev.e (a::r)).2 (bC (aw ev.e (a::r)).1).2):=by
 rw [nG,if_neg]
 rintro ⟨q1,q2⟩
 rcases h with h|h
 ·exact h q1
 ·rw [h] at q2;cases q2
theorem nH {s:ByteArray} (h:gY s=false):aM (bK s)=(s,0):=if_pos ⟨rfl,h⟩
theorem tQ (ev:Ev) {s:ByteArray} (h:gY s=false):cE ev (bK s)=(aP s,0):=by
 unfold cE
 rw [if_neg (by rw [vd];decide),if_pos (vd s),nH h]
theorem r9 (ev:Ev) {k:Int} (h:k=1∨k=2∨k=9):cE ev (fg k)=(bS (fg k),0):=by
 unfold cE
 rw [if_neg (by show ¬k=0;omega),if_neg (by show ¬k=6;omega),if_neg (by show ¬k=7;omega)]
noncomputable def ge (d:D):Rs:=fq (evs (d.msr+1)) (d.msr+1) d
theorem lR {d:D} (h1:b9 d dh=none) (h2:b9 d bW=none):ge d=cE (evs d.msr) d:=by
 unfold ge;rw [fq,h1];dsimp only;rw [h2];rfl
-- forms, by their words
theorem pF (ev:Ev) (a:D) (r:List D):bD ev bO (a::r)=bP ev a r:=by
 unfold bD;(iterate 2 rw [if_neg (by rintro ⟨h,-⟩;exact absurd h (by decide))]);rw [if_pos ⟨rfl,by simp⟩];rfl
theorem mq (ev:Ev) {w:ByteArray} (h:w=ga∨w=gO∨w=dK∨w=de∨w=gP∨w=sDo∨w=kf∨w=sOr∨w=eb) (l:List D):bD ev w l=aQ ev w l:=by
 unfold bD
 rcases h with rfl|rfl|rfl|rfl|rfl|rfl|rfl|rfl|rfl<;>((iterate 6 rw [if_neg (by rintro ⟨h,-⟩;exact absurd h (by decide))]);rw [if_neg (by decide)];(iterate 3 rw [if_neg (by rintro ⟨h,-⟩;exact absurd h (by decide))]))
theorem tR (ev:Ev) (l:List D):bD ev ga l=lf ev l:=by
 rw [mq ev (.inl rfl)];unfold aQ;rw [if_pos rfl]
theorem sb (ev:Ev) (l:List D):bD ev eb l=(kz,2):=by
 rw [mq ev (.inr (.inr (.inr (.inr (.inr (.inr (.inr (.inr rfl))))))))];unfold aQ;(iterate 7 rw [if_neg (by decide)])
-- bodies
theorem oT:∀(n:Nat) (l:List D),(∀d∈l,b9 d bW=none)→ld n l=l
 | 0,l,_=>rfl
 | n+1,[],_=>rfl
 | n+1,d::l,h=>by
  have h1:=oT (n+1) l fun x hx=>h x (by simp [hx])
  rw [ld] at h1 ⊢
  rw [List.flatMap_cons,h1,h d (by simp)];rfl
theorem oU (ev:Ev):∀(l:List D) (s:Bs),(∀d∈l,b9 d dh=none)→l.foldl (bG ev) s=⟨s.names,s.values,s.rest++l.map fun d=>(ev.e d).1,(l.map fun d=>(ev.e d).2).foldl max s.err⟩
 | [],s,_=>by simp
 | d::l,s,h=>by
  rw [List.foldl_cons,oU ev l _ fun x hx=>h x (by simp [hx])]
  unfold bG;rw [h d (by simp)];simp
theorem tU (ev:Ev) {l:List D} (hl:l≠[]) (h:∀d∈l,b9 d bW=none∧b9 d dh=none):lO ev l=cH ev.e l:=by
 unfold lO spl
 rw [oT _ _ fun d hd=>(h d hd).1,fY,oU ev l _ fun d hd=>(h d hd).2]
 unfold iu cH aw
 rw [if_neg (by simpa using hl),if_pos rfl,if_neg hl]
 simp [d6]
theorem vg (E:D→Rs) (d:D):cH E [d]=E d:=by simp [cH,aw,dA,d6]
theorem kF (ps:List ByteArray) (h:ps.length≤40) (b:K):cD ps e0 b=(.mk 6 e0 e0 ps bA [b],0):=by
 unfold cD;rw [if_neg (by simp;omega)]
theorem mr {l:List K} (h:l.length≤41):bC l=(en l,0):=if_neg (by omega)
theorem sY (s:ByteArray):unl [s]=0:=by unfold unl;rw [if_pos (by simp)]
theorem tV {s:ByteArray} (h:gY s=false) (x:D):ar (aG [aG [bK s,x]])=([s],[x],0):=by
 unfold ar
 rw [vf]
 have h1:dH (aG [bK s,x])=some (bK s,x):=by unfold dH;rw [gT,if_pos rfl,eS]
 simp [h1,nH h,d6]
theorem tW (a b:D):iJ (gj a b)=iJ b:=by unfold gj;rw [iJ];simp [vc]
theorem oV:∀l:List D,iJ (aG l)=bA
 | []=>by rw [show aG []=bA from rfl,bA,iJ];simp
 | d::l=>by rw [ee,tW,oV l]
theorem pG {s:ByteArray} (h:gY s=false):bM (aG [bK s])=([s],e0,0):=by
 unfold bM
 rw [oV,eS]
 dsimp only
 rw [show bA.k=0 from rfl,if_pos rfl]
 simp [d6,nH h,sY]
end Go.Proofs.YtaeioidifpebdaaGreatDoor
end
section
namespace Go.Proofs.YtaeioidifpebdaaGreatDoor
open Go.RowKit Go.Extern.Stop Go.Stop Go.Extern
set_option linter.unusedSimpArgs false
set_option linter.unusedVariables false
set_option maxRecDepth 1000000
def xH:Array Value→Sem Value:=Extern.ReflectliteType.method fun t=>do Extern.Rtype.noPackHeld "Comparable" t;pure (.bool (←typeInfo t).comparable)
theorem qZ (v:Value) (w:World):(Extern.ReflectliteType.typeOf #[.iface 183 v]).run Tryz.prog w=.ok (.iface 122 (.agg #[.pointer (some ⟨4,183,none⟩)])) w:=by kernel_rfl
theorem ln (w:World):(xH #[.agg #[.pointer (some ⟨4,183,none⟩)]]).run Tryz.prog w=.ok (.bool true) w:=by kernel_rfl
theorem gU (v:Value) (w:World):(Go.method 320 122 v "Comparable").run Tryz.prog w=.ok (161,v) w:=by kernel_rfl
theorem vh:(Tryz.prog.info? 183).map (·.comparable)=some true:=by kernel_rfl
theorem vi:(Tryz.prog.info? 208).map (·.size)=some 1:=by kernel_rfl
theorem xu (v:Value) (xT:TypeId) (w:World):(Instr.typeAssert (.iface 183 v) xT 124 true).run Tryz.prog w=.ok (.tuple #[.nilIface,.bool false]) w:=run_typeAssert_lacksB Tryz.underlying124 (by kernel_rfl) (by kernel_rfl) v xT w
theorem oW (v:Value) (xT:TypeId) (w:World):(Instr.typeAssert (.iface 183 v) xT 127 true).run Tryz.prog w=.ok (.tuple #[.nilIface,.bool false]) w:=run_typeAssert_lacksB Tryz.underlying127 (by kernel_rfl) (by kernel_rfl) v xT w
theorem nI (v:Value) (xT:TypeId) (w:World):(Instr.typeAssert (.iface 183 v) xT 129 true).run Tryz.prog w=.ok (.tuple #[.nilIface,.bool false]) w:=run_typeAssert_lacksB Tryz.underlying129 (by kernel_rfl) (by kernel_rfl) v xT w
theorem xv (v:Value) (xT:TypeId) (w:World):(Instr.typeAssert (.iface 147 v) xT 124 true).run Tryz.prog w=.ok (.tuple #[.nilIface,.bool false]) w:=run_typeAssert_lacksB Tryz.underlying124 (by kernel_rfl) (by kernel_rfl) v xT w
theorem nJ (v:Value) (xT:TypeId) (w:World):(Instr.typeAssert (.iface 147 v) xT 127 true).run Tryz.prog w=.ok (.tuple #[.iface 147 v,.bool true]) w:=run_typeAssert_hasB Tryz.underlying127 (by kernel_rfl) v xT w
theorem lp (v:Value) (w:World):(Go.method 320 147 v "Unwrap").run Tryz.prog w=.ok (171,v) w:=by kernel_rfl
theorem xI (b:Addr) (w:World) :
  Calls Tryz.prog 41 #[.nilIface,.iface 183 (.pointer (some b))] w fun e w'=>e=.returned (.bool false)∧w'=w:=by
 have hn:=run_eql_iface_nil_left (P:=Tryz.prog) w 183 (.pointer (some b)) Tryz.underlying62
 go_enter Tryz.func41,Tryz.ntmps41
 go_wp2
 go_ret
 exact⟨rfl,rfl⟩
theorem pH (pb po:Nat) (b:Addr) (w:World) (h1:w.cell? ⟨pb,po+1,none⟩=some (.iface 183 (.pointer (some b)))) :
  Calls Tryz.prog 41 #[.iface 147 (.pointer (some ⟨pb,po,none⟩)),.iface 183 (.pointer (some b))] w fun e w'=>e=.returned (.bool true)∧w'=w:=by
 obtain⟨i,hi,hcmp⟩:=Option.map_eq_some_iff.1 vh
 obtain⟨j,hj,hjs⟩:=Option.map_eq_some_iff.1 vi
 have h8:=@run_callFunc_extern Tryz.prog 61 _ Extern.ReflectliteType.typeOf Tryz.func61 (by kernel_rfl) (by kernel_rfl) (by kernel_rfl) (by kernel_rfl)
 have h32:=@run_callFunc_extern Tryz.prog 161 _ xH Tryz.func161 (by kernel_rfl) (by kernel_rfl) (by kernel_rfl) (by kernel_rfl)
 have tT:=qZ
 have cT:=ln
 have mR:=gU
 have nE:=xu
 have uE:=oW
 have vE:=nI
 have nW:=xv
 have uW:=nJ
 have mU:=lp
 have heq:=run_eql_iface_ptr_same (P:=Tryz.prog) w b Tryz.underlying62 Tryz.underlying183 hi hcmp hj
 have hty:=run_eql_iface_types (P:=Tryz.prog) 147 183 (.pointer (some ⟨pb,po,none⟩)) (.pointer (some b)) Tryz.underlying62 (by decide) w
 go_enter Tryz.func41,Tryz.ntmps41
 go_wp2
 refine wp_loop_rounds 2 ?_
 rw [rounds_succ]
 go_wp2
 rw [rounds_succ]
 go_wp2
 go_ret
 exact⟨rfl,rfl⟩
theorem oq (pb po:Nat) (b:Addr) (a:Addr) (ca cb:Array Value) (ta tb:TypeId) (w:World) (h1:w.cell? ⟨pb,po+1,none⟩=some (.iface 183 (.pointer (some a)))) (hne:a≠b) (ha:w.heap[a.block]?=some (.cells ca ta (0,0))) (hb:w.heap[b.block]?=some (.cells cb tb (0,0))) :
  Calls Tryz.prog 41 #[.iface 147 (.pointer (some ⟨pb,po,none⟩)),.iface 183 (.pointer (some b))] w fun e w'=>e=.returned (.bool false)∧w'=w:=by
 obtain⟨i,hi,hcmp⟩:=Option.map_eq_some_iff.1 vh
 obtain⟨j,hj,hjs⟩:=Option.map_eq_some_iff.1 vi
 have h8:=@run_callFunc_extern Tryz.prog 61 _ Extern.ReflectliteType.typeOf Tryz.func61 (by kernel_rfl) (by kernel_rfl) (by kernel_rfl) (by kernel_rfl)
 have h32:=@run_callFunc_extern Tryz.prog 161 _ xH Tryz.func161 (by kernel_rfl) (by kernel_rfl) (by kernel_rfl) (by kernel_rfl)
 have tT:=qZ
 have cT:=ln
 have mR:=gU
 have nE:=xu
 have uE:=oW
 have vE:=nI
 have nW:=xv
 have uW:=nJ
 have mU:=lp
 have heq:=run_eql_iface_ptr_other (P:=Tryz.prog) w Tryz.underlying62 Tryz.underlying183 hi hcmp hj (by rw [hjs];decide) hne ha hb
 have hty:=run_eql_iface_types (P:=Tryz.prog) 147 183 (.pointer (some ⟨pb,po,none⟩)) (.pointer (some b)) Tryz.underlying62 (by decide) w
 go_enter Tryz.func41,Tryz.ntmps41
 go_wp2
 refine wp_loop_rounds 2 ?_
 rw [rounds_succ]
 go_wp2
 rw [rounds_succ]
 go_wp2
 go_ret
 exact⟨rfl,rfl⟩
end Go.Proofs.YtaeioidifpebdaaGreatDoor
end
section
namespace Go.Proofs.YtaeioidifpebdaaGreatDoor
open Go Go.RowKit Go.Lib
set_option linter.unusedSimpArgs false
set_option linter.unusedVariables false
set_option maxHeartbeats 4000000
set_option maxRecDepth 100000
theorem vj (s:ByteArray):Pure Tryz.prog 137 [.one (.v (.string s))] (.agg (bK s).cc):=by
 refine iE fun w vs hg hv=>?_
 obtain⟨v,rfl,hv1⟩:=hv.one1
 simp only [Ca,Cc] at hv1
 obtain⟨rfl,-⟩:=hv1
 exact (wz s w).mono fun e w' ⟨v',he,hx,hr⟩=>⟨v',he,hx,IsD.ca hr⟩
theorem tX (l:List D) (hok:Oks l) (hlen:l.length≤1599289640354):Pure Tryz.prog 125 [.one (.sl 6 (l.map D.cc))] (.agg (aG l).cc):=by
 refine iE fun w vs hg hv=>?_
 obtain⟨v,rfl,hv1⟩:=hv.one1
 exact (u4 l w v hok hlen hv1.isDs).mono fun e w' ⟨v',he,hx,hr⟩=>⟨v',he,hx,IsD.ca hr⟩
theorem tY (d f:D) (hd:d.Ok) (hf:f.Ok):Pure Tryz.prog 95 [.agg d.cc,.agg f.cc] (.agg (qQ d f).cc):=by
 refine iE fun w vs hg hv=>?_
 obtain⟨v,u,rfl,hv1,hu1⟩:=hv.two
 exact (u5 d f w v u hd hf hv1.isD hu1.isD).mono fun e w' ⟨v',he,hx,hr⟩=>⟨v',he,hx,IsD.ca hr⟩
def da (d:D):List D:=if dz d=0 then items d else []
theorem nK (d:D) (hok:d.Ok) (hlen:(items d).length≤1000000000):Pure Tryz.prog 83 [.agg d.cc] (.tup [.one (.sl 6 ((da d).map D.cc)),.one (.v (.bool (decide (dz d=0))))]):=by
 refine iE fun w vs hg hv=>?_
 obtain⟨v,rfl,hv1⟩:=hv.one1
 refine (tG d w v hok hlen hv1.isD).mono fun e w' ⟨v',he,hx,hr⟩=>⟨_,he,hx,?_⟩
 simp only [Ca,Cas]
 exact⟨[v',_],rfl,v',_,rfl,IsDs.ca hr,_,_,rfl,by simp [Cc,Value.oneCell'],rfl⟩
-- errors
theorem GL.two_is {w:World} (h:GL w) (n:Nat) {u:Value} (hu:CellsAt w (erG n) 0 [u]):∃(a:Addr) (ca:Array Value) (ta:TypeId),u=.iface 183 (.pointer (some a))∧w.heap[a.block]?=some (.cells ca ta (0,0)):=by
 obtain⟨g1,a,b,ca,cb,ta,tb,g2,g3,g6,g7,g8,g4,g5⟩:=h
 have hu1:w.cell? ⟨erG n,0,none⟩=some u:=hu.1
 cases n with
 | zero =>
  have:some u=_:=hu1.symm.trans g2
  cases this
  exact⟨a,ca,ta,rfl,g4⟩
 | succ n =>
  have:some u=_:=hu1.symm.trans g3
  cases this
  exact⟨b,cb,tb,rfl,g5⟩
theorem lq {w:World} {p:Addr} {t t':TypeId} {a b:Addr} (h1:w.cell? p=some (.iface t (.pointer (some a)))) (h2:w.cell? p=some (.iface t' (.pointer (some b)))):a=b:=by
 rw [h1] at h2
 simp only [Option.some.injEq,Value.iface.injEq,Value.pointer.injEq] at h2
 exact h2.2
theorem GL.ne {w:World} (hg:GL w) {n g:Nat} (hn:n+1≤2) (hg1:g≤1) (hng:¬n=g) {t t':TypeId} {a b:Addr} (e1:w.cell? ⟨erG n,0,none⟩=some (.iface t (.pointer (some a)))) (e2:w.cell? ⟨erG g,0,none⟩=some (.iface t' (.pointer (some b)))):a≠b:=by
 intro hab
 subst hab
 obtain⟨g1,a',b',ca',cb',ta',tb',g2,g3,g6,g7,g8,-⟩:=hg
 obtain⟨rfl,rfl⟩|⟨rfl,rfl⟩:(n=0∧g=1)∨(n=1∧g=0):=by omega
 ·exact g8 ((lq g2 e1).trans (lq g3 e2).symm)
 ·exact g8 ((lq g2 e2).trans (lq g3 e1).symm)
theorem pI (n g:Nat) (hn:n≤2) (hg1:g≤1):Pure Tryz.prog 41 [.one (.er n),.one (.gv (erG g))] (.one (.v (.bool (decide (n=g+1))))):=by
 refine kB rfl fun w vs hg hv=>?_
 obtain⟨v,u,rfl,hv1,hu1⟩:=hv.two
 simp only [Ca,Cc] at hv1 hu1
 obtain⟨b,cb,tb,rfl,hb⟩:=hg.two_is g hu1.2
 cases n with
 | zero =>
  obtain rfl:v=.nilIface:=hv1
  exact (xI b w).mono fun e w' ⟨he,hw⟩=>⟨by rw [he];simp,hw▸Ext.refl _⟩
 | succ n =>
  obtain⟨pb,po,s,e,rfl,h1,h2⟩:=hv1
  obtain⟨a,ca,ta,rfl,ha⟩:=hg.two_is n h2
  have hc:w.cell? ⟨pb,po+1,none⟩=some (.iface 183 (.pointer (some a))):=h1.2.1
  have e1:w.cell? ⟨erG n,0,none⟩=some (.iface 183 (.pointer (some a))):=h2.1
  have e2:w.cell? ⟨erG g,0,none⟩=some (.iface 183 (.pointer (some b))):=hu1.2.1
  by_cases hng:n=g
  ·subst hng
   have:=lq e1 e2
   subst this
   exact (pH pb po a w hc).mono fun e w' ⟨he,hw⟩=>⟨by rw [he];simp,hw▸Ext.refl _⟩
  ·have hne:a≠b:=GL.ne hg hn hg1 hng e1 e2
   exact (oq pb po b a ca cb ta tb w hc hne ha hb).mono fun e w' ⟨he,hw⟩=>⟨by rw [he,decide_eq_false (by omega)],hw▸Ext.refl _⟩
theorem bH (s:ByteArray) (n:Nat):Pure Tryz.prog 84 [.one (.v (.string s)),.one (.gv (erG n))] (.one (.er (n+1))):=by
 refine tz fun w vs hg hv=>?_
 obtain⟨v,u,rfl,hv1,hu1⟩:=hv.two
 simp only [Ca,Cc] at hv1 hu1
 obtain⟨rfl,-⟩:=hv1
 obtain⟨b,cb,tb,rfl,hb⟩:=hg.two_is n hu1.2
 go_enter Tryz.func84,Tryz.ntmps84
 go_wp2_with fail
 refine bodyPost_ret (v:=.iface 147 (.pointer (some ⟨w.heap.size,0,none⟩))) (by simp [results,Tryz.results84,go_sem]) rfl ⟨_,rfl,(Ext.refl _).alloc _,?_⟩
 have hnew:=dN w (.cells #[.string s,.iface 183 (.pointer (some b))] 149)
 have hx:Ext w (w.alloc (.cells #[.string s,.iface 183 (.pointer (some b))] 149)):=(Ext.refl _).alloc _
 refine⟨w.heap.size,0,.string s,.iface 183 (.pointer (some b)),rfl,⟨?_,?_,trivial⟩,⟨?_,trivial⟩⟩
 ·rw [cJ,if_pos (by simp)];unfold World.cell?;rw [hnew];rfl
 ·rw [cJ,if_pos (by simp)];unfold World.cell?;rw [hnew];rfl
 ·rw [cJ,if_pos (by cases n<;>simp [GB,erG])]
  exact hx.keeps _ _ hu1.2.1
end Go.Proofs.YtaeioidifpebdaaGreatDoor
end
section
namespace Go.Proofs.YtaeioidifpebdaaGreatDoor
open Go Go.RowKit
set_option linter.unusedSimpArgs false
set_option linter.unusedVariables false
set_option maxHeartbeats 4000000
set_option maxRecDepth 100000
theorem bj (a b:ByteArray):(a.toList == b.toList)=eqB a b:=by
 by_cases h:a=b
 ·rw [aU h];simp [h]
 ·rw [aa h];simpa using fun e=>h (kL e)
theorem nL {P:Program} {w:World} {t e:TypeId} {a:Option Addr} {n c:Nat} (h:P.underlying t=some (.slice e)):(Op.equal t (.slice a n c) (.slice none 0 0)).run P w=.ok a.isNone w:=by
 have hun:(underlying t).run P w=.ok (.slice e) w:=by simp [underlying,program,bind,Sem.bind,Sem.run,h,pure]
 unfold Op.equal Op.maxDepth
 rw [Op.equalIn]
 cases a<;>simp only [Sem.run_bind,hun,Result.andThen_ok,Sem.run_pure,Option.isNone_none,Option.isNone_some]
theorem WpL.nilSl {P:Program} {nt:Cf} {ops:Array Oper} {Q:St→Prop} {st:St} {rest:List Oper} {d:Option Tmp} {t ty t' e:TypeId} {x:Operand} {pos:String} {aft:Array Edge} {wd:Nat} {es:List (List C)} (hd:gX nt d=true)
  (hx:rdA st.e x=some (.one (.sl wd es))) (ht:P.underlying t=some (.slice e)) (h:∀b,(es≠[]→b=false)→WpL P nt ops Q rest (st.put d (.one (.v (.bool b))))):WpL P nt ops Q (⟨d,.binOp .eql t x (.const (.slice none 0 0)) t',ty,pos,aft,none⟩::rest) st:=fun H w0 S0 m0 m a w hs Q' hQ=>by
 have h1:=hs.rd hx
 simp only [Ca,Cc] at h1
 have key:∃q n c,a.eval x=.slice q n c∧(es≠[]→q.isNone=false):=by
  rcases h1.2 with ⟨h0,hn⟩|⟨b,o,cap,hu,-⟩
  ·rcases hn with hn|⟨q,cap,hn,-⟩
   ·exact⟨_,_,_,hn,fun hne=>absurd h0 hne⟩
   ·exact⟨_,_,_,hn,fun hne=>absurd h0 hne⟩
  ·exact⟨_,_,_,hu,fun _=>rfl⟩
 obtain⟨q,n,c,hu,hq⟩:=key
 have hnext:=h q.isNone hq H w0 S0 m0 m _ w (hs.put hd (caV rfl)) Q' hQ
 unfold wpList
 rw [if_pos (by rfl)]
 refine .inl ?_
 unfold Oper.wp
 have hrun:(execOp a.eval ⟨d,.binOp .eql t x (.const (.slice none 0 0)) t',ty,pos,aft,none⟩).run P w=.ok (.value (.bool q.isNone)) w:=by
  have e2:a.eval (.const (.slice none 0 0))=.slice none 0 0:=rfl
  simp only [execOp,hu,e2,Sem.run_bind,hG (P:=P) (w:=w) _ t x (.const (.slice none 0 0)) (.slice q n c) (.slice none 0 0) (by simp) (by simp),Result.andThen_ok,binOp,nL ht,Sem.run_pure]
 rw [hrun]
 exact hnext
noncomputable def q9 (l:List ByteArray) (s:ByteArray):Option Nat:=l.findIdx? fun a=>eqB s a
noncomputable def idx (l:List ByteArray) (s:ByteArray):Int:=match q9 l s with|some k=>k|none=>-1
theorem tZ {l:List ByteArray} {s:ByteArray} {k:Nat} (h:k<l.length) (hk:s=l[k]) (hb:∀j (h:j<l.length),j<k→s≠l[j]):q9 l s=some k:=by
 unfold q9
 rw [List.findIdx?_eq_some_iff_getElem]
 exact⟨h,aU hk,fun j hj=>by rw [aa (hb j (by omega) hj)];simp⟩
theorem t6 {l:List ByteArray} {s:ByteArray} (hb:∀j (h:j<l.length),s≠l[j]):q9 l s=none:=by
 unfold q9
 rw [List.findIdx?_eq_none_iff]
 intro x hx
 obtain⟨j,hj,rfl⟩:=List.mem_iff_getElem.1 hx
 exact aa (hb j hj)
def IxI (l:List ByteArray) (s:ByteArray) (n:Nat) (st:St):Prop:=∃i:Nat,n=l.length-i∧i≤l.length∧(∀j (h:j<l.length),j<i→s≠l[j]) ∧
 st=⟨[(8,.one (.v (.int .i64 i))),(7,.one (.v (.int .i64 l.length))),(0,.one (.sl 1 (bp l))),(1,.one (.v (.string s)))],[]⟩
theorem sc (l:List ByteArray) (s:ByteArray) (hlen:l.length≤1000000000000001):Pure Tryz.prog 117 [.one (.sl 1 (bp l)),.one (.v (.string s))] (.one (.v (.int .i64 (idx l s)))):=by
 have hl:=bg l
 refine Fn.intro Tryz.func117 rfl Tryz.ntmps117 Tryz.results117 (by simp only [List.length_cons,List.length_nil];decide) ?_
 repeat (first|(apply fw;(with_reducible constructor)<;>rfl)|(apply WpA.cd;constructor)|((first|with_reducible refine WpA.go _ rfl fun Y y=>?_|apply RunTo.id);simp only [zb,seval,rT,hl];refine RunTo.fn y (by first|(simp;done)|omega|(simp;omega)) ?_;clear y Y))
 refine WpA.loop (IxI l s) l.length ?_ ⟨0,rfl,Nat.zero_le _,fun j _ h=>absurd h (Nat.not_lt_zero _),rfl⟩ ?_
 ·exact Le.sub (by simp [Sub,find])
 intro n' st hI
 obtain⟨i,rfl,hi,hb,rfl⟩:=hI
 have hw2:IntKind.i64.wrap ((i:Int)+1)=((i+1:Nat):Int):=by rw [cf (by omega) (by omega)];omega
 by_cases hlt:i<l.length
 ·have hd1:decide ((i:Int)<(l.length:Int))=true:=by simp;omega
  have hget:=fV hlt
  by_cases he:s=l[i]
  ·have hee:=aU he
   repeat (first|(apply fw;(with_reducible constructor)<;>rfl)|(apply WpA.cd;constructor)|((first|with_reducible refine WpA.go _ rfl fun Y y=>?_|apply RunTo.id);simp only [zb,seval,rT,hd1,hget,bj,hee];refine RunTo.fn y (by first|(simp;done)|omega|(simp;omega)) ?_;clear y Y))
   refine⟨by simp,_,_,_,_,(by simp only [zb,seval,rT];rfl),(by simp),(by simp only [zv];rfl),(by simp [A.shut,C.shut]),_,ALe.refl _,?_⟩
   rw [idx,tZ hlt he hb]
  ·have hee:=aa he
   repeat (first|(apply fw;(with_reducible constructor)<;>rfl)|(apply WpA.cd;constructor)|((first|with_reducible refine WpA.go _ rfl fun Y y=>?_|apply RunTo.id);simp only [zb,seval,rT,hd1,hget,bj,hee,hw2];refine RunTo.fn y (by first|(simp;done)|omega|(simp;omega)) ?_;clear y Y))
   refine⟨l.length-(i+1),_,by omega,Le.sub (by simp [Sub,find]),i+1,rfl,hlt,fun j hj hji=>?_,rfl⟩
   rcases Nat.lt_succ_iff_lt_or_eq.1 hji with h|rfl
   ·exact hb j hj h
   ·exact he
 ·have hd0:decide ((i:Int)<(l.length:Int))=false:=by simp;omega
  repeat (first|(apply fw;(with_reducible constructor)<;>rfl)|(apply WpA.cd;constructor)|((first|with_reducible refine WpA.go _ rfl fun Y y=>?_|apply RunTo.id);simp only [zb,seval,rT,hd0];refine RunTo.fn y (by first|(simp;done)|omega|(simp;omega)) ?_;clear y Y))
  repeat (first|(apply fw;(with_reducible constructor)<;>rfl)|(apply WpA.cd;constructor)|((first|with_reducible refine WpA.go _ rfl fun Y y=>?_|apply RunTo.id);simp only [zb,seval,rT,hd0];refine RunTo.fn y (by first|(simp;done)|omega|(simp;omega)) ?_;clear y Y))
  refine⟨by simp,_,_,_,_,(by simp only [zb,seval,rT];rfl),(by simp),(by simp only [zv];rfl),(by simp [A.shut,C.shut]),_,ALe.refl _,?_⟩
  rw [idx,t6 fun j hj=>hb j hj (by omega)]
theorem ot (l:List ByteArray) (s:ByteArray) (hlen:l.length≤1000000000000001):Pure Tryz.prog 99 [.one (.sl 1 (bp l)),.one (.v (.string s))] (.one (.v (.bool (decide (0≤idx l s))))):=by
 refine Fn.intro Tryz.func99 rfl Tryz.ntmps99 Tryz.results99 (by simp only [List.length_cons,List.length_nil];decide) ?_
 repeat (first|(apply fw;(with_reducible constructor)<;>rfl)|(apply WpA.cd;constructor)|((first|with_reducible refine WpA.go _ rfl fun Y y=>?_|apply RunTo.id);simp only [zb,seval];refine RunTo.fn y (by first|(simp;done)|omega|(simp;omega)) ?_;clear y Y))
 refine WpL.call rfl (ab (P:=Tryz.prog) rfl) (CallA.shut rfl rfl (by kernel_rfl) (by first|exact ALes.refl _|((try simp only [rcc]);(repeat (first|exact ALes.refl _|refine ALes.cons ?_ ?_|exact ALe.refl _|exact ALe.nil|refine ALe.agg ?_|exact CLes.refl _|refine CLes.nil ?_|refine CLes.cons ?_)))) (by first|rfl|simp [cK,A.shut,C.shut]) (sc l s hlen) ?_)
 (refine WpL.go _ rfl fun Y y=>?_);repeat (first|(apply fw;(with_reducible constructor)<;>rfl)|(apply WpA.cd;constructor)|((first|with_reducible refine WpA.go _ rfl fun Y y=>?_|apply RunTo.id);simp only [zb,seval];refine RunTo.fn y (by first|(simp;done)|omega|(simp;omega)) ?_;clear y Y))
 refine⟨by simp,_,_,_,_,(by simp only [zb,seval];rfl),(by simp),(by simp only [zv];rfl),(by simp [A.shut,C.shut]),_,ALe.refl _,?_⟩
 rfl
end Go.Proofs.YtaeioidifpebdaaGreatDoor
end
section
namespace Go.Proofs.YtaeioidifpebdaaGreatDoor
open Go Go.RowKit Go.Lib
set_option linter.unusedSimpArgs false
set_option linter.unusedVariables false
set_option maxHeartbeats 4000000
set_option maxRecDepth 100000
theorem t7 (a b:D):Pure Tryz.prog 36 [.agg a.cc,.agg b.cc] (.one (.v (.bool (eqB a b)))):=by
 refine kB rfl fun w vs hg hv=>?_
 obtain⟨v,u,rfl,hv1,hu1⟩:=hv.two
 exact u7 a b w v u hv1.isD hu1.isD
def EqI (a b:List ByteArray) (n:Nat) (st:St):Prop:=∃i:Nat,n=a.length-i∧i≤a.length∧a.take i=b.take i ∧
 st=⟨[(13,.one (.v (.int .i64 i))),(12,.one (.v (.int .i64 a.length))),(0,.one (.sl 1 (bp a))),(1,.one (.sl 1 (bp b)))],[]⟩
theorem ra (a b:List ByteArray) (hlen:a.length≤1000000000000000):Pure Tryz.prog 35 [.one (.sl 1 (bp a)),.one (.sl 1 (bp b))] (.one (.v (.bool (eqB a b)))):=by
 have hla:=bg a
 have hlb:=bg b
 by_cases hl:a.length=b.length
 case neg =>
  have hne:((a.length:Int) != (b.length:Int))=true:=by simp;omega
  rw [aa fun h=>hl (by rw [h])]
  refine Fn.intro Tryz.func35 rfl Tryz.ntmps35 Tryz.results35 (by simp only [List.length_cons,List.length_nil];decide) ?_
  repeat (first|(apply fw;(with_reducible constructor)<;>rfl)|(apply WpA.cd;constructor)|((first|with_reducible refine WpA.go _ rfl fun Y y=>?_|apply RunTo.id);simp only [zb,seval,w35,hla,hlb,hne];refine RunTo.fn y (by first|(simp;done)|omega|(simp;omega)) ?_;clear y Y))
  refine⟨by simp,_,_,_,_,(by simp only [zb,seval,w35];rfl),(by simp),(by simp only [zv];rfl),(by simp [A.shut,C.shut]),_,ALe.refl _,?_⟩
  rfl
 have hne:((a.length:Int) != (b.length:Int))=false:=by simp;omega
 refine Fn.intro Tryz.func35 rfl Tryz.ntmps35 Tryz.results35 (by simp only [List.length_cons,List.length_nil];decide) ?_
 repeat (first|(apply fw;(with_reducible constructor)<;>rfl)|(apply WpA.cd;constructor)|((first|with_reducible refine WpA.go _ rfl fun Y y=>?_|apply RunTo.id);simp only [zb,seval,w35,hla,hlb,hne];refine RunTo.fn y (by first|(simp;done)|omega|(simp;omega)) ?_;clear y Y))
 refine WpA.loop (EqI a b) a.length ?_ ⟨0,rfl,Nat.zero_le _,rfl,rfl⟩ ?_
 ·exact Le.sub (by simp [Sub,find])
 intro n' st hI
 obtain⟨i,rfl,hi,hb,rfl⟩:=hI
 have hw2:IntKind.i64.wrap ((i:Int)+1)=((i+1:Nat):Int):=by rw [cf (by omega) (by omega)];omega
 by_cases hlt:i<a.length
 ·have hd1:decide ((i:Int)<(a.length:Int))=true:=by simp;omega
  have hga:=fV hlt
  have hgb:=fV (l:=b) (i:=i) (by omega)
  by_cases he:a[i]=b[i]
  ·have hee:=aU he
   repeat (first|(apply fw;(with_reducible constructor)<;>rfl)|(apply WpA.cd;constructor)|((first|with_reducible refine WpA.go _ rfl fun Y y=>?_|apply RunTo.id);simp only [zb,seval,w35,hd1];refine RunTo.fn y (by first|(simp;done)|omega|(simp;omega)) ?_;clear y Y))
   (refine WpA.draw0 9 _ _ _ rfl rfl rfl (by kernel_rfl) (by kernel_rfl) (by kernel_rfl) fun K8 hK8=>?_);simp only [zz] at hK8 ⊢;(refine Draw0.go fun K7 hK7=>?_);simp only [zb,seval,w35,hga,hgb,bj,hee,hw2];(refine RunQ.mk (by first|(simp;done)|omega|(simp;omega)) (hK7 _ _ ?_));clear hK7 K7;(try ((refine Draw0.nil (hK8 _ ?_));clear hK8 K8;(refine WpL.go _ rfl fun Y y=>?_);repeat (first|(apply fw;(with_reducible constructor)<;>rfl)|(apply WpA.cd;constructor)|((first|with_reducible refine WpA.go _ rfl fun Y y=>?_|apply RunTo.id);simp only [zb,seval,w35,hga,hgb,bj,hee,hw2];refine RunTo.fn y (by first|(simp;done)|omega|(simp;omega)) ?_;clear y Y))))
   refine⟨a.length-(i+1),_,by omega,Le.sub (by simp [Sub,find]),i+1,rfl,hlt,?_,rfl⟩
   rw [List.take_succ_eq_append_getElem hlt,List.take_succ_eq_append_getElem (by omega),hb,he]
  ·have hee:=aa he
   rw [aa fun h=>he (by simp [h])]
   repeat (first|(apply fw;(with_reducible constructor)<;>rfl)|(apply WpA.cd;constructor)|((first|with_reducible refine WpA.go _ rfl fun Y y=>?_|apply RunTo.id);simp only [zb,seval,w35,hd1];refine RunTo.fn y (by first|(simp;done)|omega|(simp;omega)) ?_;clear y Y))
   (refine WpA.draw0 9 _ _ _ rfl rfl rfl (by kernel_rfl) (by kernel_rfl) (by kernel_rfl) fun K8 hK8=>?_);simp only [zz] at hK8 ⊢;(refine Draw0.go fun K7 hK7=>?_);simp only [zb,seval,w35,hga,hgb,bj,hee,hw2];(refine RunQ.mk (by first|(simp;done)|omega|(simp;omega)) (hK7 _ _ ?_));clear hK7 K7;(try ((refine Draw0.nil (hK8 _ ?_));clear hK8 K8;(refine WpL.go _ rfl fun Y y=>?_);repeat (first|(apply fw;(with_reducible constructor)<;>rfl)|(apply WpA.cd;constructor)|((first|with_reducible refine WpA.go _ rfl fun Y y=>?_|apply RunTo.id);simp only [zb,seval,w35,hga,hgb,bj,hee,hw2];refine RunTo.fn y (by first|(simp;done)|omega|(simp;omega)) ?_;clear y Y))))
   refine⟨by simp,_,_,_,_,(by simp only [zb,seval,w35];rfl),(by simp),(by simp only [zv];rfl),(by simp [A.shut,C.shut]),_,ALe.refl _,?_⟩
   rfl
 ·have hd0:decide ((i:Int)<(a.length:Int))=false:=by simp;omega
  have hii:i=a.length:=by omega
  rw [aU (show a=b by rw [hii,List.take_length,hl,List.take_length] at hb;exact hb)]
  repeat (first|(apply fw;(with_reducible constructor)<;>rfl)|(apply WpA.cd;constructor)|((first|with_reducible refine WpA.go _ rfl fun Y y=>?_|apply RunTo.id);simp only [zb,seval,w35,hd0];refine RunTo.fn y (by first|(simp;done)|omega|(simp;omega)) ?_;clear y Y))
  repeat (first|(apply fw;(with_reducible constructor)<;>rfl)|(apply WpA.cd;constructor)|((first|with_reducible refine WpA.go _ rfl fun Y y=>?_|apply RunTo.id);simp only [zb,seval,w35,hd0];refine RunTo.fn y (by first|(simp;done)|omega|(simp;omega)) ?_;clear y Y))
  refine⟨by simp,_,_,_,_,(by simp only [zb,seval,w35];rfl),(by simp),(by simp only [zv];rfl),(by simp [A.shut,C.shut]),_,ALe.refl _,?_⟩
  rfl
def EqF (a b:List K) (n:Nat) (st:St):Prop:=∃i:Nat,n=a.length-i∧i≤a.length∧a.take i=b.take i ∧
 st=⟨[(17,.one (.v (.int .i64 i))),(16,.one (.v (.int .i64 a.length))),(15,.one (.sl 11 (a.map K.cc))),(0,.one (.sl 11 (a.map K.cc))),(1,.one (.sl 11 (b.map K.cc))),(2,.one (.fn 14 []))],[]⟩
theorem rb (a b:List K) (hlen:a.length≤1000000000000000) (ih:∀x∈a,∀y,Pure Tryz.prog 14 [.agg x.cc,.agg y.cc] (.one (.v (.bool (eqB x y))))):Pure Tryz.prog 37 [.one (.sl 11 (a.map K.cc)),.one (.sl 11 (b.map K.cc)),.one (.fn 14 [])] (.one (.v (.bool (eqB a b)))):=by
 by_cases hl:a.length=b.length
 case neg =>
  have hne:((a.length:Int) != (b.length:Int))=true:=by simp;omega
  rw [aa fun h=>hl (by rw [h])]
  refine Fn.intro Tryz.func37 rfl Tryz.ntmps37 Tryz.results37 (by simp only [List.length_cons,List.length_nil];decide) ?_
  repeat (first|(apply fw;(with_reducible constructor)<;>rfl)|(apply WpA.cd;constructor)|((first|with_reducible refine WpA.go _ rfl fun Y y=>?_|apply RunTo.id);simp only [zb,seval,w37,hne];refine RunTo.fn y (by first|(simp;done)|omega|(simp;omega)) ?_;clear y Y))
  refine⟨by simp,_,_,_,_,(by simp only [zb,seval,w37];rfl),(by simp),(by simp only [zv];rfl),(by simp [A.shut,C.shut]),_,ALe.refl _,?_⟩
  rfl
 have hne:((a.length:Int) != (b.length:Int))=false:=by simp;omega
 refine Fn.intro Tryz.func37 rfl Tryz.ntmps37 Tryz.results37 (by simp only [List.length_cons,List.length_nil];decide) ?_
 repeat (first|(apply fw;(with_reducible constructor)<;>rfl)|(apply WpA.cd;constructor)|((first|with_reducible refine WpA.go _ rfl fun Y y=>?_|apply RunTo.id);simp only [zb,seval,w37,hne];refine RunTo.fn y (by first|(simp;done)|omega|(simp;omega)) ?_;clear y Y))
 refine WpA.loop (EqF a b) a.length ?_ ⟨0,rfl,Nat.zero_le _,rfl,rfl⟩ ?_
 ·exact Le.sub (by simp [Sub,find])
 intro n' st hI
 obtain⟨i,rfl,hi,hb,rfl⟩:=hI
 have hw2:IntKind.i64.wrap ((i:Int)+1)=((i+1:Nat):Int):=by rw [cf (by omega) (by omega)];omega
 by_cases hlt:i<a.length
 ·have hd1:decide ((i:Int)<(a.length:Int))=true:=by simp;omega
  have hlb:i<b.length:=by omega
  have hga:=wE hlt
  have hgb:=wE hlb
  have hc:=ih a[i] (List.getElem_mem _) b[i]
  rw [K.cc_eq] at hga hgb
  rw [K.cc_eq a[i],K.cc_eq b[i]] at hc
  by_cases he:a[i]=b[i]
  ·have hee:=aU he
   repeat (first|(apply fw;(with_reducible constructor)<;>rfl)|(apply WpA.cd;constructor)|((first|with_reducible refine WpA.go _ rfl fun Y y=>?_|apply RunTo.id);simp only [zb,seval,w37,hd1,hga,hgb];refine RunTo.fn y (by first|(simp;done)|omega|(simp;omega)) ?_;clear y Y))
   refine WpL.call rfl (ab (P:=Tryz.prog) rfl) (CallA.shut rfl rfl (by kernel_rfl) (by first|exact ALes.refl _|((try simp only [rcc]);(repeat (first|exact ALes.refl _|refine ALes.cons ?_ ?_|exact ALe.refl _|exact ALe.nil|refine ALe.agg ?_|exact CLes.refl _|refine CLes.nil ?_|refine CLes.cons ?_)))) (by first|rfl|simp [cK,A.shut,C.shut]) (hc) ?_)
   (refine WpL.go _ rfl fun Y y=>?_);repeat (first|(apply fw;(with_reducible constructor)<;>rfl)|(apply WpA.cd;constructor)|((first|with_reducible refine WpA.go _ rfl fun Y y=>?_|apply RunTo.id);simp only [zb,seval,w37,hee,hw2];refine RunTo.fn y (by first|(simp;done)|omega|(simp;omega)) ?_;clear y Y))
   refine⟨a.length-(i+1),_,by omega,Le.drop 0 (Nat.zero_le _) rfl (by simp [Sub,find]) (by simp [qJ,A.bd,C.bd,C.bds]) (by simp [ObBd]),i+1,rfl,hlt,?_,rfl⟩
   rw [List.take_succ_eq_append_getElem hlt,List.take_succ_eq_append_getElem (by omega),hb,he]
  ·have hee:=aa he
   rw [aa (a:=a) (b:=b) fun h=>he (by simp [h])]
   repeat (first|(apply fw;(with_reducible constructor)<;>rfl)|(apply WpA.cd;constructor)|((first|with_reducible refine WpA.go _ rfl fun Y y=>?_|apply RunTo.id);simp only [zb,seval,w37,hd1,hga,hgb];refine RunTo.fn y (by first|(simp;done)|omega|(simp;omega)) ?_;clear y Y))
   refine WpL.call rfl (ab (P:=Tryz.prog) rfl) (CallA.shut rfl rfl (by kernel_rfl) (by first|exact ALes.refl _|((try simp only [rcc]);(repeat (first|exact ALes.refl _|refine ALes.cons ?_ ?_|exact ALe.refl _|exact ALe.nil|refine ALe.agg ?_|exact CLes.refl _|refine CLes.nil ?_|refine CLes.cons ?_)))) (by first|rfl|simp [cK,A.shut,C.shut]) (hc) ?_)
   (refine WpL.go _ rfl fun Y y=>?_);repeat (first|(apply fw;(with_reducible constructor)<;>rfl)|(apply WpA.cd;constructor)|((first|with_reducible refine WpA.go _ rfl fun Y y=>?_|apply RunTo.id);simp only [zb,seval,w37,hee,hw2];refine RunTo.fn y (by first|(simp;done)|omega|(simp;omega)) ?_;clear y Y))
   refine⟨by simp,_,_,_,_,(by simp only [zb,seval,w37];rfl),(by simp),(by simp only [zv];rfl),(by simp [A.shut,C.shut]),_,ALe.refl _,?_⟩
   rfl
 ·have hd0:decide ((i:Int)<(a.length:Int))=false:=by simp;omega
  have hii:i=a.length:=by omega
  rw [aU (show a=b by rw [hii,List.take_length,hl,List.take_length] at hb;exact hb)]
  repeat (first|(apply fw;(with_reducible constructor)<;>rfl)|(apply WpA.cd;constructor)|((first|with_reducible refine WpA.go _ rfl fun Y y=>?_|apply RunTo.id);simp only [zb,seval,w37,hd0];refine RunTo.fn y (by first|(simp;done)|omega|(simp;omega)) ?_;clear y Y))
  repeat (first|(apply fw;(with_reducible constructor)<;>rfl)|(apply WpA.cd;constructor)|((first|with_reducible refine WpA.go _ rfl fun Y y=>?_|apply RunTo.id);simp only [zb,seval,w37,hd0];refine RunTo.fn y (by first|(simp;done)|omega|(simp;omega)) ?_;clear y Y))
  refine⟨by simp,_,_,_,_,(by simp only [zb,seval,w37];rfl),(by simp),(by simp only [zv];rfl),(by simp [A.shut,C.shut]),_,ALe.refl _,?_⟩
  rfl
theorem K.ext' {a b:K} (h1:a.k=b.k) (h2:a.name=b.name) (h3:a.rest=b.rest) (h4:a.params=b.params) (h5:a.d=b.d) (h6:a.l=b.l):a=b:=by
 cases a;cases b
 simp only [K.k,K.name,K.rest,K.params,K.d,K.l] at *
 subst h1 h2 h3 h4 h5 h6;rfl
theorem sd:∀n (a b:K),a.ht≤n→a.Ok→Pure Tryz.prog 14 [.agg a.cc,.agg b.cc] (.one (.v (.bool (eqB a b)))):=by
 intro n
 induction n with
 | zero=>intro a b h;exact absurd h (by have:=a.ht_pos;omega)
 | succ n ih =>
  intro a b hh hok
  have hq:=ra a.params b.params hok.par
  have hd:=t7 a.d b.d
  have hf:=rb a.l b.l hok.len (fun x hx y=>by
   obtain⟨i,hi,rfl⟩:=List.mem_iff_getElem.1 hx
   have:=K.ht_lt hi
   exact ih _ y (by omega) (hok.get i hi))
  rw [D.cc_eq a.d,D.cc_eq b.d] at hd
  rw [K.cc_eq a,K.cc_eq b]
  by_cases h1:a.k=b.k
  case neg =>
   have e1:(a.k == b.k)=false:=by simp [h1]
   rw [aa fun h=>h1 (by rw [h])]
   refine Fn.intro Tryz.func14 rfl Tryz.ntmps14 Tryz.results14 (by simp only [List.length_cons,List.length_nil];decide) ?_
   repeat (first|(apply fw;(with_reducible constructor)<;>rfl)|(apply WpA.cd;constructor)|((first|with_reducible refine WpA.go _ rfl fun Y y=>?_|apply RunTo.id);simp only [zb,seval,w14,e1];refine RunTo.fn y (by first|(simp;done)|omega|(simp;omega)) ?_;clear y Y))
   refine⟨by simp,_,_,_,_,(by simp only [zb,seval,w14];rfl),(by simp),(by simp only [zv];rfl),(by simp [A.shut,C.shut]),_,ALe.refl _,?_⟩
   rfl
  have e1:(a.k == b.k)=true:=by simp [h1]
  by_cases h2:a.name=b.name
  case neg =>
   have e2:=aa h2
   rw [aa (a:=a) (b:=b) fun h=>h2 (by rw [h])]
   refine Fn.intro Tryz.func14 rfl Tryz.ntmps14 Tryz.results14 (by simp only [List.length_cons,List.length_nil];decide) ?_
   repeat (first|(apply fw;(with_reducible constructor)<;>rfl)|(apply WpA.cd;constructor)|((first|with_reducible refine WpA.go _ rfl fun Y y=>?_|apply RunTo.id);simp only [zb,seval,w14,e1,bj,e2];refine RunTo.fn y (by first|(simp;done)|omega|(simp;omega)) ?_;clear y Y))
   refine⟨by simp,_,_,_,_,(by simp only [zb,seval,w14];rfl),(by simp),(by simp only [zv];rfl),(by simp [A.shut,C.shut]),_,ALe.refl _,?_⟩
   rfl
  have e2:=aU h2
  by_cases h3:a.rest=b.rest
  case neg =>
   have e3:=aa h3
   rw [aa (a:=a) (b:=b) fun h=>h3 (by rw [h])]
   refine Fn.intro Tryz.func14 rfl Tryz.ntmps14 Tryz.results14 (by simp only [List.length_cons,List.length_nil];decide) ?_
   repeat (first|(apply fw;(with_reducible constructor)<;>rfl)|(apply WpA.cd;constructor)|((first|with_reducible refine WpA.go _ rfl fun Y y=>?_|apply RunTo.id);simp only [zb,seval,w14,e1,bj,e2,e3];refine RunTo.fn y (by first|(simp;done)|omega|(simp;omega)) ?_;clear y Y))
   refine⟨by simp,_,_,_,_,(by simp only [zb,seval,w14];rfl),(by simp),(by simp only [zv];rfl),(by simp [A.shut,C.shut]),_,ALe.refl _,?_⟩
   rfl
  have e3:=aU h3
  by_cases h4:a.params=b.params
  case neg =>
   have e4:=aa h4
   rw [aa (a:=a) (b:=b) fun h=>h4 (by rw [h])]
   refine Fn.intro Tryz.func14 rfl Tryz.ntmps14 Tryz.results14 (by simp only [List.length_cons,List.length_nil];decide) ?_
   repeat (first|(apply fw;(with_reducible constructor)<;>rfl)|(apply WpA.cd;constructor)|((first|with_reducible refine WpA.go _ rfl fun Y y=>?_|apply RunTo.id);simp only [zb,seval,w14,e1,bj,e2,e3];refine RunTo.fn y (by first|(simp;done)|omega|(simp;omega)) ?_;clear y Y))
   refine WpL.call rfl (ab (P:=Tryz.prog) rfl) (CallA.shut rfl rfl (by kernel_rfl) (by first|exact ALes.refl _|((try simp only [rcc]);(repeat (first|exact ALes.refl _|refine ALes.cons ?_ ?_|exact ALe.refl _|exact ALe.nil|refine ALe.agg ?_|exact CLes.refl _|refine CLes.nil ?_|refine CLes.cons ?_)))) (by first|rfl|simp [cK,A.shut,C.shut]) (hq) ?_)
   (refine WpL.go _ rfl fun Y y=>?_);repeat (first|(apply fw;(with_reducible constructor)<;>rfl)|(apply WpA.cd;constructor)|((first|with_reducible refine WpA.go _ rfl fun Y y=>?_|apply RunTo.id);simp only [zb,seval,w14,e4];refine RunTo.fn y (by first|(simp;done)|omega|(simp;omega)) ?_;clear y Y))
   refine⟨by simp,_,_,_,_,(by simp only [zb,seval,w14];rfl),(by simp),(by simp only [zv];rfl),(by simp [A.shut,C.shut]),_,ALe.refl _,?_⟩
   rfl
  have e4:=aU h4
  by_cases h5:a.d=b.d
  case neg =>
   have e5:=aa h5
   rw [aa (a:=a) (b:=b) fun h=>h5 (by rw [h])]
   refine Fn.intro Tryz.func14 rfl Tryz.ntmps14 Tryz.results14 (by simp only [List.length_cons,List.length_nil];decide) ?_
   repeat (first|(apply fw;(with_reducible constructor)<;>rfl)|(apply WpA.cd;constructor)|((first|with_reducible refine WpA.go _ rfl fun Y y=>?_|apply RunTo.id);simp only [zb,seval,w14,e1,bj,e2,e3];refine RunTo.fn y (by first|(simp;done)|omega|(simp;omega)) ?_;clear y Y))
   refine WpL.call rfl (ab (P:=Tryz.prog) rfl) (CallA.shut rfl rfl (by kernel_rfl) (by first|exact ALes.refl _|((try simp only [rcc]);(repeat (first|exact ALes.refl _|refine ALes.cons ?_ ?_|exact ALe.refl _|exact ALe.nil|refine ALe.agg ?_|exact CLes.refl _|refine CLes.nil ?_|refine CLes.cons ?_)))) (by first|rfl|simp [cK,A.shut,C.shut]) (hq) ?_)
   (refine WpL.go _ rfl fun Y y=>?_);repeat (first|(apply fw;(with_reducible constructor)<;>rfl)|(apply WpA.cd;constructor)|((first|with_reducible refine WpA.go _ rfl fun Y y=>?_|apply RunTo.id);simp only [zb,seval,w14,e4];refine RunTo.fn y (by first|(simp;done)|omega|(simp;omega)) ?_;clear y Y))
   refine WpL.call rfl (ab (P:=Tryz.prog) rfl) (CallA.shut rfl rfl (by kernel_rfl) (by first|exact ALes.refl _|((try simp only [rcc]);(repeat (first|exact ALes.refl _|refine ALes.cons ?_ ?_|exact ALe.refl _|exact ALe.nil|refine ALe.agg ?_|exact CLes.refl _|refine CLes.nil ?_|refine CLes.cons ?_)))) (by first|rfl|simp [cK,A.shut,C.shut]) (hd) ?_)
   (refine WpL.go _ rfl fun Y y=>?_);repeat (first|(apply fw;(with_reducible constructor)<;>rfl)|(apply WpA.cd;constructor)|((first|with_reducible refine WpA.go _ rfl fun Y y=>?_|apply RunTo.id);simp only [zb,seval,w14,e5];refine RunTo.fn y (by first|(simp;done)|omega|(simp;omega)) ?_;clear y Y))
   refine⟨by simp,_,_,_,_,(by simp only [zb,seval,w14];rfl),(by simp),(by simp only [zv];rfl),(by simp [A.shut,C.shut]),_,ALe.refl _,?_⟩
   rfl
  have e5:=aU h5
  have e6:eqB a b=eqB a.l b.l:=by
   by_cases h6:a.l=b.l
   ·rw [aU h6,aU (K.ext' h1 h2 h3 h4 h5 h6)]
   ·rw [aa h6,aa fun h=>h6 (by rw [h])]
  rw [e6]
  refine Fn.intro Tryz.func14 rfl Tryz.ntmps14 Tryz.results14 (by simp only [List.length_cons,List.length_nil];decide) ?_
  repeat (first|(apply fw;(with_reducible constructor)<;>rfl)|(apply WpA.cd;constructor)|((first|with_reducible refine WpA.go _ rfl fun Y y=>?_|apply RunTo.id);simp only [zb,seval,w14,e1,bj,e2,e3];refine RunTo.fn y (by first|(simp;done)|omega|(simp;omega)) ?_;clear y Y))
  refine WpL.call rfl (ab (P:=Tryz.prog) rfl) (CallA.shut rfl rfl (by kernel_rfl) (by first|exact ALes.refl _|((try simp only [rcc]);(repeat (first|exact ALes.refl _|refine ALes.cons ?_ ?_|exact ALe.refl _|exact ALe.nil|refine ALe.agg ?_|exact CLes.refl _|refine CLes.nil ?_|refine CLes.cons ?_)))) (by first|rfl|simp [cK,A.shut,C.shut]) (hq) ?_)
  (refine WpL.go _ rfl fun Y y=>?_);repeat (first|(apply fw;(with_reducible constructor)<;>rfl)|(apply WpA.cd;constructor)|((first|with_reducible refine WpA.go _ rfl fun Y y=>?_|apply RunTo.id);simp only [zb,seval,w14,e4];refine RunTo.fn y (by first|(simp;done)|omega|(simp;omega)) ?_;clear y Y))
  refine WpL.call rfl (ab (P:=Tryz.prog) rfl) (CallA.shut rfl rfl (by kernel_rfl) (by first|exact ALes.refl _|((try simp only [rcc]);(repeat (first|exact ALes.refl _|refine ALes.cons ?_ ?_|exact ALe.refl _|exact ALe.nil|refine ALe.agg ?_|exact CLes.refl _|refine CLes.nil ?_|refine CLes.cons ?_)))) (by first|rfl|simp [cK,A.shut,C.shut]) (hd) ?_)
  (refine WpL.go _ rfl fun Y y=>?_);repeat (first|(apply fw;(with_reducible constructor)<;>rfl)|(apply WpA.cd;constructor)|((first|with_reducible refine WpA.go _ rfl fun Y y=>?_|apply RunTo.id);simp only [zb,seval,w14,e5];refine RunTo.fn y (by first|(simp;done)|omega|(simp;omega)) ?_;clear y Y))
  refine WpL.call rfl (ab (P:=Tryz.prog) rfl) (CallA.lend rfl rfl (by kernel_rfl) (by simp only [zv];rfl) (by first|exact trivial|(simp;done)|(simp [C.shut];done)) rfl (hf) ?_)
  (refine WpL.go _ rfl fun Y y=>?_);repeat (first|(apply fw;(with_reducible constructor)<;>rfl)|(apply WpA.cd;constructor)|((first|with_reducible refine WpA.go _ rfl fun Y y=>?_|apply RunTo.id);simp only [zb,seval,w14];refine RunTo.fn y (by first|(simp;done)|omega|(simp;omega)) ?_;clear y Y))
  refine⟨by simp,_,_,_,_,(by simp only [zb,seval,w14];rfl),(by simp),(by simp only [zv];rfl),(by simp [A.shut,C.shut]),_,ALe.refl _,?_⟩
  rfl
theorem se (a b:K) (hok:a.Ok):Pure Tryz.prog 14 [.agg a.cc,.agg b.cc] (.one (.v (.bool (eqB a b)))):=sd a.ht a b (Nat.le_refl _) hok
end Go.Proofs.YtaeioidifpebdaaGreatDoor
end
