/-
 What it means that cells read as a tree of values: a reading for every type without pointers and maps. No program in sight.
-/
import Derived.Below
namespace Go.Proofs.YtaeioidifpebdaaGreatDoor
open Go.RowKit

inductive V where
 | val (v:Value)
 | agg (ps:List V)
 | sl (es:List V)

def CellsAt (w:World) (b:Nat):Nat→List Value→Prop
 | _,[]=>True
 | o,x::xs=>w.cell? ⟨b,o,none⟩=some x∧CellsAt w b (o+1) xs

def UX (v:Value):Prop:=v=.slice none 0 0∨∃a cap,v=.slice (some a) 0 cap∧cap≤maxLen

mutual
def Rd (w:World):V→List Value→Prop
 | .val v,cs=>cs=[v]
 | .agg ps,cs=>RdAll w ps cs
 | .sl es,cs=>∃v,cs=[v]∧((es=[]∧UX v)∨∃b o cap,v=.slice (some ⟨b,o,none⟩) es.length cap∧es.length≤cap∧cap≤maxLen∧RdRow w b o es)
def RdAll (w:World):List V→List Value→Prop
 | [],cs=>cs=[]
 | p::ps,cs=>∃c1 c2,cs=c1++c2∧Rd w p c1∧RdAll w ps c2
def RdRow (w:World) (b:Nat):Nat→List V→Prop
 | _,[]=>True
 | o,e::es=>∃cs,CellsAt w b o cs∧Rd w e cs∧RdRow w b (o+cs.length) es
end

mutual
def wid:V→Nat
 | .val _=>1
 | .agg ps=>ND ps
 | .sl _=>1
def ND:List V→Nat
 | []=>0
 | p::ps=>wid p+ND ps
end

mutual
theorem Rd.len {w:World}:∀{x:V} {cs:List Value},Rd w x cs→cs.length=wid x
 | .val v,cs,h=>by simp only [Rd] at h;subst h;rfl
 | .agg ps,cs,h=>by simp only [Rd] at h;simpa [wid] using RdAll.len h
 | .sl es,cs,h=>by simp only [Rd] at h;obtain⟨v,rfl,_⟩:=h;rfl
theorem RdAll.len {w:World}:∀{ps:List V} {cs:List Value},RdAll w ps cs→cs.length=ND ps
 | [],cs,h=>by simp only [RdAll] at h;subst h;rfl
 | p::ps,cs,h=>by
  simp only [RdAll] at h
  obtain⟨c1,c2,rfl,h1,h2⟩:=h
  simp [ND,Rd.len h1,RdAll.len h2]
end

def Keeps (w w':World):Prop:=∀p v,w.cell? p=some v→w'.cell? p=some v
theorem Keeps.refl (w:World):Keeps w w:=fun _ _ h=>h
theorem Keeps.trans {a b c:World} (h:Keeps a b) (k:Keeps b c):Keeps a c:=fun p v e=>k p v (h p v e)
theorem jZ {w:World} {p:Addr} {v:Value} (h:w.cell? p=some v):p.block<w.heap.size:=by
 simp only [World.cell?] at h
 split at h
 ·rename_i e
  exact (Array.getElem?_eq_some_iff.1 e).1
 ·cases h
theorem Keeps.of_below {w w':World} (h:Below w.heap.size w w'):Keeps w w':=fun p v e=>by
 rw [h.cell (jZ e)];exact e

def Ext (w w':World):Prop:=Below w.heap.size w w'
theorem Ext.refl (w:World):Ext w w:=Below.refl _ _
theorem Ext.trans {a b c:World} (h:Ext a b) (k:Ext b c):Ext a c:=Below.trans h (Below.mono k h.size)
theorem Ext.alloc {a w:World} (h:Ext a w) (o:Obj):Ext a (w.alloc o):=Below.alloc h h.size o
theorem Ext.drew {a w:World} (h:Ext a w):Ext a w.drew:=Below.drew h
theorem Ext.setCell {a w:World} (h:Ext a w) {p:Addr} (hp:a.heap.size≤p.block) (u:Value):Ext a (w.setCell p u):=Below.setCell h hp u
theorem Ext.below {a w w':World} (h:Ext a w) (k:Below a.heap.size w w'):Ext a w':=Below.trans h k
theorem Ext.keeps {w w':World} (h:Ext w w'):Keeps w w':=Keeps.of_below h
theorem Ext.le {w w':World} (h:Ext w w'):w.heap.size≤w'.heap.size:=h.size

theorem CellsAt.keep {w w':World} (hk:Keeps w w') {b:Nat}:∀{o:Nat} {xs:List Value},CellsAt w b o xs→CellsAt w' b o xs
 | _,[],_=>trivial
 | _,_::_,h=>⟨hk _ _ h.1,CellsAt.keep hk h.2⟩
mutual
theorem Rd.keep {w w':World} (hk:Keeps w w'):∀{x:V} {cs:List Value},Rd w x cs→Rd w' x cs
 | .val v,cs,h=>by simpa only [Rd] using h
 | .agg ps,cs,h=>by simp only [Rd] at h ⊢;exact RdAll.keep hk h
 | .sl es,cs,h=>by
  simp only [Rd] at h ⊢
  obtain⟨v,hv,h0|⟨b,o,cap,e,l1,l2,h1⟩⟩:=h
  ·exact⟨v,hv,.inl h0⟩
  ·exact⟨v,hv,.inr ⟨b,o,cap,e,l1,l2,RdRow.keep hk h1⟩⟩
theorem RdAll.keep {w w':World} (hk:Keeps w w'):∀{ps:List V} {cs:List Value},RdAll w ps cs→RdAll w' ps cs
 | [],cs,h=>by simpa only [RdAll] using h
 | p::ps,cs,h=>by
  simp only [RdAll] at h ⊢
  obtain⟨c1,c2,e,h1,h2⟩:=h
  exact⟨c1,c2,e,Rd.keep hk h1,RdAll.keep hk h2⟩
theorem RdRow.keep {w w':World} (hk:Keeps w w') {b:Nat}:∀{o:Nat} {es:List V},RdRow w b o es→RdRow w' b o es
 | _,[],_=>by simp only [RdRow]
 | o,e::es,h=>by
  simp only [RdRow] at h ⊢
  obtain⟨cs,h1,h2,h3⟩:=h
  exact⟨cs,CellsAt.keep hk h1,Rd.keep hk h2,RdRow.keep hk h3⟩
end

theorem RdRow.get {w:World} {b n:Nat}:∀{o:Nat} {es:List V} (_:RdRow w b o es) (_:∀e∈es,wid e=n) (i:Nat) (hi:i<es.length),
  ∃cs,CellsAt w b (o+i*n) cs∧Rd w es[i] cs∧cs.length=n
 | o,e::es,h,hw,0,_=>by
  simp only [RdRow] at h
  obtain⟨cs,h1,h2,_⟩:=h
  exact⟨cs,by simpa using h1,h2,by rw [Rd.len h2];exact hw e (by simp)⟩
 | o,e::es,h,hw,i+1,hi=>by
  simp only [RdRow] at h
  obtain⟨cs,_,h2,h3⟩:=h
  have hl:cs.length=n:=by rw [Rd.len h2];exact hw e (by simp)
  rw [hl] at h3
  obtain⟨cs',a1,a2,a3⟩:=RdRow.get h3 (fun x hx=>hw x (by simp [hx])) i (by simpa using hi)
  refine⟨cs',?_,by simpa using a2,a3⟩
  rw [show o+(i+1)*n=o+n+i*n by rw [Nat.add_mul];omega]
  exact a1
end Go.Proofs.YtaeioidifpebdaaGreatDoor
