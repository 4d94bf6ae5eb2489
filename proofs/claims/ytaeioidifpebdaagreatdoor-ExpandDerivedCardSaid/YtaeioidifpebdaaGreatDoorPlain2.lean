/-
 Plain laws on data: counts, depths, weights. No program in sight.
-/
import Derived.Test.YtaeioidifpebdaaGreatDoorPlain
namespace Go.Proofs.YtaeioidifpebdaaGreatDoor
set_option linter.unusedSimpArgs false
set_option linter.unusedVariables false

mutual
def D.count:D→Nat
 | .mk _ _ _ _ _ l=>1+hO l
def hO:List D→Nat
 | []=>0
 | d::l=>d.count+hO l
end
theorem D.count_eq (d:D):d.count=1+hO d.l:=by cases d;rw [D.count];rfl
theorem D.count_pos (d:D):0<d.count:=by rw [D.count_eq];omega
theorem yH (a b:List D):hO (a++b)=hO a+hO b:=by
 induction a with
 | nil=>simp [hO]
 | cons x a ih=>simp only [List.cons_append,hO,ih];omega
theorem PP (l:List D) (k:Nat) (h:k<l.length):hO (l.take (k+1))=hO (l.take k)+l[k].count:=by
 rw [List.take_succ_eq_append_getElem h,yH];simp [hO]
theorem VH (l:List D) (k:Nat):hO (l.take k)≤hO l:=by
 have:=congrArg hO (List.take_append_drop k l)
 rw [yH] at this;omega
theorem vU (l:List D) (k:Nat) (h:k<l.length):l[k].count≤hO l:=by
 have h1:=PP l k h
 have h2:=VH l (k+1)
 omega
def rV:(n:Nat)→((i:Nat)→i<n→Nat)→Nat
 | 0,_=>0
 | n+1,f=>max (rV n fun i h=>f i (Nat.lt_succ_of_lt h)) (f n (Nat.lt_succ_self n))
theorem IL:∀(n:Nat) (f:(i:Nat)→i<n→Nat) (i:Nat) (h:i<n),f i h≤rV n f
 | n+1,f,i,h=>by
  rw [rV]
  by_cases e:i=n
  ·subst e;omega
  ·have:=IL n (fun i h=>f i (Nat.lt_succ_of_lt h)) i (by omega)
   omega
theorem AK:∀(n:Nat) (f:(i:Nat)→i<n→Nat) (m:Nat),(∀i h,f i h≤m)→rV n f≤m
 | 0,_,_,_=>Nat.zero_le _
 | n+1,f,m,h=>by
  rw [rV]
  have:=AK n (fun i h=>f i (Nat.lt_succ_of_lt h)) m (fun i hi=>h i _)
  have:=h n (Nat.lt_succ_self n)
  omega
theorem LQ:∀(n j:Nat) (f:(i:Nat)→i<n→Nat) (h:j≤n),rV j (fun i hi=>f i (Nat.lt_of_lt_of_le hi h))≤rV n f :=
 fun n j f h=>AK _ _ _ fun i hi=>IL n f i (Nat.lt_of_lt_of_le hi h)

def D.depth (d:D):Nat :=
 max (if d.k=8 then 1 else 0) (rV d.l.length fun i h=>d.l[i].depth+if d.k=7∧i+1=d.l.length∧d.l[i].k=7 then 0 else 1)
termination_by d.ht
decreasing_by exact D.ht_lt h

def gC (d:D) (i:Nat) (h:i<d.l.length):Nat:=d.l[i].depth+if d.k=7∧i+1=d.l.length∧d.l[i].k=7 then 0 else 1
def dto (d:D) (j:Nat) (h:j≤d.l.length):Nat:=rV j fun i hi=>gC d i (Nat.lt_of_lt_of_le hi h)
theorem D.depth_eq (d:D):d.depth=max (if d.k=8 then 1 else 0) (dto d d.l.length (Nat.le_refl _)):=by
 rw [D.depth];rfl
theorem AL (d:D) (j:Nat) (h:j<d.l.length):dto d (j+1) h=max (dto d j (Nat.le_of_lt h)) (gC d j h):=rfl
theorem xP (d:D) (j:Nat) (h:j≤d.l.length) (e:d.l.length≤j):dto d j h=dto d d.l.length (Nat.le_refl _):=by
 have:j=d.l.length:=by omega
 subst this;rfl
theorem rX:∀(n:Nat) (d:D),d.ht≤n→d.depth≤d.count
 | 0,d,h=>absurd h (by cases d;rw [D.ht];omega)
 | n+1,d,h=>by
  rw [D.depth_eq,D.count_eq]
  have:dto d d.l.length (Nat.le_refl _)≤1+hO d.l:=AK _ _ _ fun i hi=>by
   have h1:=rX n d.l[i] (by have:=D.ht_lt hi;omega)
   have h2:=vU d.l i hi
   unfold gC
   split<;>omega
  split<;>omega
theorem D.depth_le (d:D):d.depth≤d.count:=rX d.ht d (Nat.le_refl _)
theorem qF (d:D) (j:Nat) (h:j≤d.l.length):dto d j h≤d.count:=by
 have h1:dto d j h≤dto d d.l.length (Nat.le_refl _):=LQ d.l.length j (fun i hi=>gC d i hi) h
 have h2:=d.depth_le
 rw [D.depth_eq] at h2
 omega


mutual
def D.weigh (p:Nat × Nat × Nat × Nat):D→Int→Int
 | .mk _ _ _ mag t l,left =>
  if p.1<t.size∨p.2.1<mag.length then -1
  else dN p l (left-1-(t.size / p.2.2.1:Nat)-(mag.length / p.2.2.2:Nat))
def dN (p:Nat × Nat × Nat × Nat):List D→Int→Int
 | [],left=>left
 | d::l,left=>if left<0 then left else dN p l (d.weigh p left)
end
theorem D.weigh_eq (p:Nat × Nat × Nat × Nat) (d:D) (left:Int):d.weigh p left=if p.1<d.t.size∨p.2.1<d.mag.length then -1 else dN p d.l (left-1-(d.t.size / p.2.2.1:Nat)-(d.mag.length / p.2.2.2:Nat)):=by
 cases d;rw [D.weigh];rfl
theorem qG (p:Nat × Nat × Nat × Nat) (l:List D) (left:Int) (h:left<0):dN p l left=left:=by
 cases l<;>simp [dN,h]
theorem uI (p:Nat × Nat × Nat × Nat) (a b:List D) (left:Int):dN p (a++b) left=dN p b (dN p a left):=by
 induction a generalizing left with
 | nil=>simp [dN]
 | cons x a ih =>
  simp only [List.cons_append,dN]
  split
  ·rename_i h;rw [qG p b left h]
  ·exact ih _
theorem IM (p:Nat × Nat × Nat × Nat) (l:List D) (left:Int) (k:Nat) (h:k<l.length) (hn:¬dN p (l.take k) left<0):dN p (l.take (k+1)) left=l[k].weigh p (dN p (l.take k) left):=by
 rw [List.take_succ_eq_append_getElem h,uI]
 simp [dN,hn]
theorem IOq (p:Nat × Nat × Nat × Nat) (l:List D) (left:Int) (k:Nat) (hn:dN p (l.take k) left<0):dN p l left=dN p (l.take k) left:=by
 have:l=l.take k++l.drop k:=(List.take_append_drop k l).symm
 conv=>lhs;rw [this]
 rw [uI,qG _ _ _ hn]
mutual
theorem oP (p:Nat × Nat × Nat × Nat):∀(d:D) (left:Int),0≤d.weigh p left→(d.count:Int)+d.weigh p left≤left
 | .mk _ _ _ mag t l,left,h=>by
  rw [D.weigh] at h ⊢
  rw [D.count]
  split at h
  ·omega
  ·rename_i hn
   rw [if_neg hn]
   have:=vV p l _ h
   generalize t.size / p.2.2.1=q1 at *
   generalize mag.length / p.2.2.2=q2 at *
   omega
theorem vV (p:Nat × Nat × Nat × Nat):∀(l:List D) (left:Int),0≤dN p l left→(hO l:Int)+dN p l left≤left
 | [],left,h=>by simp [hO,dN]
 | d::l,left,h=>by
  rw [dN] at h ⊢
  rw [hO]
  split at h
  ·omega
  ·rename_i hn
   rw [if_neg hn]
   have h1:=vV p l _ h
   by_cases h2:0≤d.weigh p left
   ·have h3:=oP p d left h2;omega
   ·rw [qG p l _ (by omega)] at h;omega
end

mutual
def D.Ok:D→Prop
 | .mk k c _ mag t l=>(-9223372036854775808≤k∧k≤9223372036854775807)∧(-2147483648≤c∧c≤2147483647)∧(∀m∈mag,0≤m∧m≤4294967295)∧t.size≤140737488351232∧(mag.length≤35184372087808∧l.length≤1599289640354)∧Oks l
def Oks:List D→Prop
 | []=>True
 | d::l=>d.Ok∧Oks l
end
theorem Oks.get:∀{l:List D},Oks l→∀i (h:i<l.length),l[i].Ok
 | d::l,h,0,_=>h.1
 | d::l,h,i+1,hi=>by
  simp only [List.getElem_cons_succ]
  exact Oks.get h.2 i (by simpa using hi)
theorem Oks.of:∀{l:List D},(∀i (h:i<l.length),l[i].Ok)→Oks l
 | [],_=>trivial
 | d::l,h=>⟨h 0 (by simp),Oks.of fun i hi=>h (i+1) (by simpa using hi)⟩
theorem D.Ok.k {d:D} (h:d.Ok) : -9223372036854775808≤d.k∧d.k≤9223372036854775807:=by cases d;exact h.1
theorem D.Ok.c {d:D} (h:d.Ok) : -2147483648≤d.c∧d.c≤2147483647:=by cases d;exact h.2.1
theorem D.Ok.mag {d:D} (h:d.Ok):∀m∈d.mag,0≤m∧m≤4294967295:=by cases d;exact h.2.2.1
theorem D.Ok.t {d:D} (h:d.Ok):d.t.size≤9223372036854775807:=by cases d;exact Nat.le_trans h.2.2.2.1 (by decide)
theorem D.Ok.t' {d:D} (h:d.Ok):d.t.size<9223372036854775807:=by cases d;exact Nat.lt_of_le_of_lt h.2.2.2.1 (by decide)
theorem D.Ok.magLen {d:D} (h:d.Ok):d.mag.length≤35184372087808:=by cases d;exact h.2.2.2.2.1.1
theorem D.Ok.lLen {d:D} (h:d.Ok):d.l.length≤1599289640354:=by cases d;exact h.2.2.2.2.1.2
theorem D.Ok.l {d:D} (h:d.Ok):Oks d.l:=by cases d;exact h.2.2.2.2.2
theorem D.Ok.get {d:D} (h:d.Ok) (i:Nat) (hi:i<d.l.length):d.l[i].Ok:=h.l.get i hi
end Go.Proofs.YtaeioidifpebdaaGreatDoor
