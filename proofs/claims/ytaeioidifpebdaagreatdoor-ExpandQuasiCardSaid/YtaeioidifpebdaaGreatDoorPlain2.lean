/-
 Plain laws on data: counts, depths, weights. No program in sight.
-/
import Derived.Test.YtaeioidifpebdaaGreatDoorPlain
namespace Go.Proofs.YtaeioidifpebdaaGreatDoor
set_option linter.unusedSimpArgs false
set_option linter.unusedVariables false

mutual
def D.count:D→Nat
 | .mk _ _ _ _ _ l=>1+gV l
def gV:List D→Nat
 | []=>0
 | d::l=>d.count+gV l
end
theorem D.count_eq (d:D):d.count=1+gV d.l:=by cases d;rw [D.count];rfl
theorem D.count_pos (d:D):0<d.count:=by rw [D.count_eq];omega
theorem wQ (a b:List D):gV (a++b)=gV a+gV b:=by
 induction a with
 | nil=>simp [gV]
 | cons x a ih=>simp only [List.cons_append,gV,ih];omega
theorem NE (l:List D) (k:Nat) (h:k<l.length):gV (l.take (k+1))=gV (l.take k)+l[k].count:=by
 rw [List.take_succ_eq_append_getElem h,wQ];simp [gV]
theorem TD (l:List D) (k:Nat):gV (l.take k)≤gV l:=by
 have:=congrArg gV (List.take_append_drop k l)
 rw [wQ] at this;omega
theorem uJ (l:List D) (k:Nat) (h:k<l.length):l[k].count≤gV l:=by
 have h1:=NE l k h
 have h2:=TD l (k+1)
 omega
def qY:(n:Nat)→((i:Nat)→i<n→Nat)→Nat
 | 0,_=>0
 | n+1,f=>max (qY n fun i h=>f i (Nat.lt_succ_of_lt h)) (f n (Nat.lt_succ_self n))
theorem FV:∀(n:Nat) (f:(i:Nat)→i<n→Nat) (i:Nat) (h:i<n),f i h≤qY n f
 | n+1,f,i,h=>by
  rw [qY]
  by_cases e:i=n
  ·subst e;omega
  ·have:=FV n (fun i h=>f i (Nat.lt_succ_of_lt h)) i (by omega)
   omega
theorem yS:∀(n:Nat) (f:(i:Nat)→i<n→Nat) (m:Nat),(∀i h,f i h≤m)→qY n f≤m
 | 0,_,_,_=>Nat.zero_le _
 | n+1,f,m,h=>by
  rw [qY]
  have:=yS n (fun i h=>f i (Nat.lt_succ_of_lt h)) m (fun i hi=>h i _)
  have:=h n (Nat.lt_succ_self n)
  omega
theorem JO:∀(n j:Nat) (f:(i:Nat)→i<n→Nat) (h:j≤n),qY j (fun i hi=>f i (Nat.lt_of_lt_of_le hi h))≤qY n f :=
 fun n j f h=>yS _ _ _ fun i hi=>FV n f i (Nat.lt_of_lt_of_le hi h)

def D.depth (d:D):Nat :=
 max (if d.k=8 then 1 else 0) (qY d.l.length fun i h=>d.l[i].depth+if d.k=7∧i+1=d.l.length∧d.l[i].k=7 then 0 else 1)
termination_by d.ht
decreasing_by exact D.ht_lt h

def fW (d:D) (i:Nat) (h:i<d.l.length):Nat:=d.l[i].depth+if d.k=7∧i+1=d.l.length∧d.l[i].k=7 then 0 else 1
def dto (d:D) (j:Nat) (h:j≤d.l.length):Nat:=qY j fun i hi=>fW d i (Nat.lt_of_lt_of_le hi h)
theorem D.depth_eq (d:D):d.depth=max (if d.k=8 then 1 else 0) (dto d d.l.length (Nat.le_refl _)):=by
 rw [D.depth];rfl
theorem yT (d:D) (j:Nat) (h:j<d.l.length):dto d (j+1) h=max (dto d j (Nat.le_of_lt h)) (fW d j h):=rfl
theorem vV (d:D) (j:Nat) (h:j≤d.l.length) (e:d.l.length≤j):dto d j h=dto d d.l.length (Nat.le_refl _):=by
 have:j=d.l.length:=by omega
 subst this;rfl
theorem qZ:∀(n:Nat) (d:D),d.ht≤n→d.depth≤d.count
 | 0,d,h=>absurd h (by cases d;rw [D.ht];omega)
 | n+1,d,h=>by
  rw [D.depth_eq,D.count_eq]
  have:dto d d.l.length (Nat.le_refl _)≤1+gV d.l:=yS _ _ _ fun i hi=>by
   have h1:=qZ n d.l[i] (by have:=D.ht_lt hi;omega)
   have h2:=uJ d.l i hi
   unfold fW
   split<;>omega
  split<;>omega
theorem D.depth_le (d:D):d.depth≤d.count:=qZ d.ht d (Nat.le_refl _)
theorem pI (d:D) (j:Nat) (h:j≤d.l.length):dto d j h≤d.count:=by
 have h1:dto d j h≤dto d d.l.length (Nat.le_refl _):=JO d.l.length j (fun i hi=>fW d i hi) h
 have h2:=d.depth_le
 rw [D.depth_eq] at h2
 omega


mutual
def D.weigh (p:Nat × Nat × Nat × Nat):D→Int→Int
 | .mk _ _ _ mag t l,left =>
  if p.1<t.size∨p.2.1<mag.length then -1
  else dM p l (left-1-(t.size / p.2.2.1:Nat)-(mag.length / p.2.2.2:Nat))
def dM (p:Nat × Nat × Nat × Nat):List D→Int→Int
 | [],left=>left
 | d::l,left=>if left<0 then left else dM p l (d.weigh p left)
end
theorem D.weigh_eq (p:Nat × Nat × Nat × Nat) (d:D) (left:Int):d.weigh p left=if p.1<d.t.size∨p.2.1<d.mag.length then -1 else dM p d.l (left-1-(d.t.size / p.2.2.1:Nat)-(d.mag.length / p.2.2.2:Nat)):=by
 cases d;rw [D.weigh];rfl
theorem pJ (p:Nat × Nat × Nat × Nat) (l:List D) (left:Int) (h:left<0):dM p l left=left:=by
 cases l<;>simp [dM,h]
theorem sV (p:Nat × Nat × Nat × Nat) (a b:List D) (left:Int):dM p (a++b) left=dM p b (dM p a left):=by
 induction a generalizing left with
 | nil=>simp [dM]
 | cons x a ih =>
  simp only [List.cons_append,dM]
  split
  ·rename_i h;rw [pJ p b left h]
  ·exact ih _
theorem FW (p:Nat × Nat × Nat × Nat) (l:List D) (left:Int) (k:Nat) (h:k<l.length) (hn:¬dM p (l.take k) left<0):dM p (l.take (k+1)) left=l[k].weigh p (dM p (l.take k) left):=by
 rw [List.take_succ_eq_append_getElem h,sV]
 simp [dM,hn]
theorem FX (p:Nat × Nat × Nat × Nat) (l:List D) (left:Int) (k:Nat) (hn:dM p (l.take k) left<0):dM p l left=dM p (l.take k) left:=by
 have:l=l.take k++l.drop k:=(List.take_append_drop k l).symm
 conv=>lhs;rw [this]
 rw [sV,pJ _ _ _ hn]
mutual
theorem nP (p:Nat × Nat × Nat × Nat):∀(d:D) (left:Int),0≤d.weigh p left→(d.count:Int)+d.weigh p left≤left
 | .mk _ _ _ mag t l,left,h=>by
  rw [D.weigh] at h ⊢
  rw [D.count]
  split at h
  ·omega
  ·rename_i hn
   rw [if_neg hn]
   have:=uK p l _ h
   generalize t.size / p.2.2.1=q1 at *
   generalize mag.length / p.2.2.2=q2 at *
   omega
theorem uK (p:Nat × Nat × Nat × Nat):∀(l:List D) (left:Int),0≤dM p l left→(gV l:Int)+dM p l left≤left
 | [],left,h=>by simp [gV,dM]
 | d::l,left,h=>by
  rw [dM] at h ⊢
  rw [gV]
  split at h
  ·omega
  ·rename_i hn
   rw [if_neg hn]
   have h1:=uK p l _ h
   by_cases h2:0≤d.weigh p left
   ·have h3:=nP p d left h2;omega
   ·rw [pJ p l _ (by omega)] at h;omega
end

mutual
def D.Ok:D→Prop
 | .mk k c _ mag t l=>(-9223372036854775808≤k∧k≤9223372036854775807)∧(-2147483648≤c∧c≤2147483647)∧(∀m∈mag,0≤m∧m≤4294967295)∧t.size≤140737488351232∧(mag.length≤35184372087808∧l.length≤1599289640354)∧Oks l
def Oks:List D→Prop
 | []=>True
 | d::l=>d.Ok∧Oks l
end
theorem Oks.get:∀{l:List D},Oks l→∀i (h:i<l.length),l[i].Ok
 | d::l,h,0,_=>h.1
 | d::l,h,i+1,hi=>by
  simp only [List.getElem_cons_succ]
  exact Oks.get h.2 i (by simpa using hi)
theorem Oks.of:∀{l:List D},(∀i (h:i<l.length),l[i].Ok)→Oks l
 | [],_=>trivial
 | d::l,h=>⟨h 0 (by simp),Oks.of fun i hi=>h (i+1) (by simpa using hi)⟩
theorem D.Ok.k {d:D} (h:d.Ok) : -9223372036854775808≤d.k∧d.k≤9223372036854775807:=by cases d;exact h.1
theorem D.Ok.c {d:D} (h:d.Ok) : -2147483648≤d.c∧d.c≤2147483647:=by cases d;exact h.2.1
theorem D.Ok.mag {d:D} (h:d.Ok):∀m∈d.mag,0≤m∧m≤4294967295:=by cases d;exact h.2.2.1
theorem D.Ok.t {d:D} (h:d.Ok):d.t.size≤9223372036854775807:=by cases d;exact Nat.le_trans h.2.2.2.1 (by decide)
theorem D.Ok.t' {d:D} (h:d.Ok):d.t.size<9223372036854775807:=by cases d;exact Nat.lt_of_le_of_lt h.2.2.2.1 (by decide)
theorem D.Ok.magLen {d:D} (h:d.Ok):d.mag.length≤35184372087808:=by cases d;exact h.2.2.2.2.1.1
theorem D.Ok.lLen {d:D} (h:d.Ok):d.l.length≤1599289640354:=by cases d;exact h.2.2.2.2.1.2
theorem D.Ok.l {d:D} (h:d.Ok):Oks d.l:=by cases d;exact h.2.2.2.2.2
theorem D.Ok.get {d:D} (h:d.Ok) (i:Nat) (hi:i<d.l.length):d.l[i].Ok:=h.l.get i hi
end Go.Proofs.YtaeioidifpebdaaGreatDoor
