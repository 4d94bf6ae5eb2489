/-
 A region that draws its order and makes one variable's box: as Phi, but that what is known of slots is known beside that box (a ghost: its block, once it is made). No program in sight.
-/
import Derived.Test.YtaeioidifpebdaaGreatDoorPhi
import Derived.Test.YtaeioidifpebdaaGreatDoorOwn
namespace Go.Proofs.YtaeioidifpebdaaGreatDoor
open Go Go.RowKit

def ExtG (w:World) (g:List Nat) (w':World) (g':List Nat):Prop:=Ext w w'∧∃l,g'=l++g∧∀b∈l,w.heap.size≤b∧b<w'.heap.size
theorem ExtG.refl (w:World) (g:List Nat):ExtG w g w g:=⟨Ext.refl _,[],rfl,by simp⟩
theorem ExtG.of {w w':World} (g:List Nat) (h:Ext w w'):ExtG w g w' g:=⟨h,[],rfl,by simp⟩
theorem ExtG.trans {w w' w'':World} {g g' g'':List Nat} (h:ExtG w g w' g') (k:ExtG w' g' w'' g''):ExtG w g w'' g'':=by
 obtain⟨h1,l1,rfl,h2⟩:=h
 obtain⟨k1,l2,rfl,k2⟩:=k
 refine⟨h1.trans k1,l2++l1,by simp,fun b hb=>?_⟩
 rcases List.mem_append.1 hb with hb|hb
 ·have:=k2 b hb;have:=h1.le;omega
 ·have:=h2 b hb;have:=k1.le;omega
def BoxG (o:Obj) (v:Value) (w:World) (g:List Nat):Prop:=∃b,v=.pointer (some ⟨b,0,none⟩)∧b∈g∧w.heap[b]?=some o
theorem BoxG.ext {o:Obj} {v:Value} {w w':World} {g g':List Nat} (hx:ExtG w g w' g'):BoxG o v w g→BoxG o v w' g':=fun ⟨b,e,h1,h2⟩=>by
 obtain⟨hx,l,rfl,-⟩:=hx
 exact⟨b,e,List.mem_append_right _ h1,(hx.block b (Array.getElem?_eq_some_iff.1 h2).1).trans h2⟩
theorem ExtG.box (w:World) (g:List Nat) (o:Obj):ExtG w g (w.alloc o) (w.heap.size::g):=⟨(Ext.refl _).alloc o,[w.heap.size],rfl,fun b hb=>by
 rw [List.mem_singleton] at hb;subst hb;simp⟩
theorem BoxG.new (w:World) (g:List Nat) (o:Obj):BoxG o (.pointer (some ⟨w.heap.size,0,none⟩)) (w.alloc o) (w.heap.size::g):=⟨_,rfl,by simp,gK _ _⟩

abbrev jA:=Value→World→List Nat→Prop
def StabG (Φ:jA):Prop:=∀v w g w' g',ExtG w g w' g'→Φ v w g→Φ v w' g'
theorem StabG.const (v:Value):StabG fun x _ _=>x=v:=fun _ _ _ _ _ _ h=>h
def VA:List (Option Tmp × jA)→Tmp→Option jA
 | [],_=>none
 | (d,Φ)::Γ,t=>if d=some t then some Φ else VA Γ t
def QE (a0:Act) (Γ:List (Option Tmp × jA)) (ρ:Operand→Value) (w:World) (g:List Nat) (t:Tmp):Prop :=
 match VA Γ t with
 | some Φ=>Φ (ρ (.tmp t)) w g
 | none=>ρ (.tmp t)=a0.eval (.tmp t)
def KnowsAllG (a0:Act) (Γ:List (Option Tmp × jA)) (ρ:Operand→Value) (w:World) (g:List Nat):List Tmp→Prop
 | []=>True
 | t::ts=>QE a0 Γ ρ w g t∧KnowsAllG a0 Γ ρ w g ts
theorem KnowsAllG.of {a0:Act} {Γ:List (Option Tmp × jA)} {ρ:Operand→Value} {w:World} {g:List Nat}:∀{ts:List Tmp},(∀t∈ts,QE a0 Γ ρ w g t)→KnowsAllG a0 Γ ρ w g ts
 | [],_=>trivial
 | t::ts,h=>⟨h t (by simp),KnowsAllG.of fun t' ht=>h t' (by simp [ht])⟩
def ME (P:Program) (o:Oper) (ρ:Operand→Value) (w:World) (g:List Nat) (Φ:jA):Prop:=OpGood P o ρ w fun v w'=>∃g',ExtG w g w' g'∧Φ v w' g'
def VB (P:Program) (ops:Array Oper) (a0:Act) (w0:World) (Γ:List (Option Tmp × jA)) (o:Oper) (Φ:jA):Prop :=
 ∀ρ w g,ExtG w0 [] w g→Plain ρ→KnowsAllG a0 Γ ρ w g (o.looksAt ops)→if uM ops ρ o then ME P o ρ w g Φ else Φ undef w g
def FinalG (Q:Act→World→Prop) (w:World) (g:List Nat):List (Option Tmp × jA)→Act→Prop
 | [],a=>Q a w
 | (d,Φ)::Γ,a=>∀v,Φ v w g→FinalG Q w g Γ (a.put d v)
def PhiWalkG (P:Program) (ops:Array Oper) (a0:Act) (w0:World) (Q:Act→World→Prop):List (Option Tmp × jA)→List Oper→Prop
 | Γ,[]=>∀w g,ExtG w0 [] w g→FinalG Q w g Γ a0
 | Γ,o::l=>∃Φ,StabG Φ∧VB P ops a0 w0 Γ o Φ∧PhiWalkG P ops a0 w0 Q (Γ++[(o.dst,Φ)]) l

section
variable {P:Program} {ops:Array Oper} {a0:Act} {w0:World}
theorem PhiWalkG.parts {Q:Act→World→Prop}:∀(l:List Oper) (Γ:List (Option Tmp × jA)),PhiWalkG P ops a0 w0 Q Γ l →
  ∃Φs:List jA,Φs.length=l.length∧(∀i o Φ,l[i]?=some o→Φs[i]?=some Φ→StabG Φ∧VB P ops a0 w0 (Γ++((l.take i).map (·.dst)).zip (Φs.take i)) o Φ) ∧
   ∀w g,ExtG w0 [] w g→FinalG Q w g (Γ++(l.map (·.dst)).zip Φs) a0
 | [],Γ,h=>⟨[],rfl,fun i o Φ hi=>by simp at hi,fun w g hw=>by simpa using h w g hw⟩
 | o::l,Γ,h=>by
  obtain⟨Φ,h1,h2,h3⟩:=h
  obtain⟨Φs,e,g1,g2⟩:=PhiWalkG.parts l _ h3
  refine⟨Φ::Φs,by simp [e],fun i o' Φ' hi hΦ=>?_,fun w g hw=>by simpa using g2 w g hw⟩
  cases i with
  | zero=>simp at hi hΦ;subst hi hΦ;exact⟨h1,by simpa using h2⟩
  | succ i=>simp at hi hΦ;obtain⟨q1,q2⟩:=g1 i o' Φ' hi hΦ;exact⟨q1,by simpa using q2⟩

structure PhiInvG (ops:Array Oper) (m:Nat) (Φs:List jA) (a0:Act) (w0:World) (vs:Nat→Value) (listed:Array Bool) (a:Act) (w:World) (g:List Nat):Prop where
 head:HeadInv .any ops m listed
 ext:ExtG w0 [] w g
 size:a.tmps.size=a0.tmps.size
 defers:a.defers=a0.defers
 done:∀i o d,i<m→ops[i]?=some o→listed.getD i false=true→o.dst=some d→a.tmps[d]?=some (vs i)
 other:∀t,(∀i o,i<m→ops[i]?=some o→listed.getD i false=true→o.dst≠some t)→a.tmps[t]?=a0.tmps[t]?
 sat:∀i Φ,i<m→listed.getD i false=true→Φs[i]?=some Φ→Φ (vs i) w g

theorem PhiInvG.next {m:Nat} {Φs:List jA} {vs:Nat→Value} {listed:Array Bool} {a:Act} {w:World} {g:List Nat} (hl:PhiLook ops m a0.tmps.size) (inv:PhiInvG ops m Φs a0 w0 vs listed a w g)
  {i:Nat} {o:Oper} (ho:ops[i]?=some o) (him:i<m) (hr:i∈Region.ready .any ops listed) (hstab:∀Φ∈Φs,StabG Φ) {v:Value} {w':World} {g':List Nat} (hw:ExtG w g w' g') (hv:∀Φ,Φs[i]?=some Φ→Φ v w' g') :
  PhiInvG ops m Φs a0 w0 (fun k=>if k=i then v else vs k) (listed.setIfInBounds i true) (a.put o.dst v) w' g':=by
 have hlist:∀j,j≠i→(listed.setIfInBounds i true).getD j false=listed.getD j false:=fun j hj=>getD_set_ne false (Ne.symm hj)
 have hti:(listed.setIfInBounds i true).getD i false=true:=by
  have:i<listed.size:=by rw [inv.head.size];exact (Array.getElem?_eq_some_iff.1 ho).1
  simp [Array.getD_eq_getD_getElem?,this]
 refine⟨inv.head.set hr him,inv.ext.trans hw,by rw [uO];exact inv.size,by rw [nR];exact inv.defers,fun j oj d hj hoj hlj hd=>?_,fun t ht=>?_,fun j Φ hj hlj hΦ=>?_⟩
 ·by_cases hji:j=i
  ·subst hji
   rw [ho] at hoj;cases hoj
   rw [hd,if_pos rfl]
   exact kQ (by rw [inv.size];exact hl.bound j o d hj ho hd)
  ·rw [hlist j hji] at hlj
   rw [gD (hl.unlike i j o oj d him hj hji ho hoj hd),if_neg hji]
   exact inv.done j oj d hj hoj hlj hd
 ·rw [gD (ht i o him ho hti)]
  refine inv.other t fun j oj hj hoj hlj=>?_
  by_cases hji:j=i
  ·subst hji;rw [ho] at hoj;cases hoj;exact ht j o hj ho hti
  ·exact ht j oj hj hoj (by rw [hlist j hji];exact hlj)
 ·by_cases hji:j=i
  ·subst hji;rw [if_pos rfl];exact hv Φ hΦ
  ·rw [if_neg hji]
   rw [hlist j hji] at hlj
   exact hstab Φ (List.mem_of_getElem? hΦ) _ _ _ _ _ hw (inv.sat j Φ hj hlj hΦ)

theorem FinalG.at {Q:Act→World→Prop} {w:World} {g:List Nat} (vs:Nat→Value) (l:List Oper):∀(Φs:List jA) (k:Nat) (a:Act),Φs.length=l.length→FinalG Q w g ((l.map (·.dst)).zip Φs) a→(∀(j:Nat) (Φ:jA),Φs[j]?=some Φ→Φ (vs (k+j)) w g)→Q (vX vs l k a) w:=by
 induction l with
 | nil=>intro Φs k a _ h _;exact h
 | cons o l ih =>
  intro Φs k a he h hs
  cases Φs with
  | nil=>simp at he
  | cons Φ Φs =>
   rw [vX]
   refine ih Φs (k+1) _ (by simpa using he) (h (vs k) (hs 0 Φ (by simp))) (fun j Ψ hj=>?_)
   have:=hs (j+1) Ψ (by rw [List.getElem?_cons_succ];exact hj)
   rwa [show k+(j+1)=k+1+j by omega] at this
theorem GM {I:Array Bool→Act→World→Prop} {Op:Nat→(Act→World→Prop)→Act→World→Prop} {Qn:Act→World→Prop} {m g:Nat} (hl:PhiLook ops m a0.tmps.size) (hI:∀listed a w,I listed a w→HeadInv .any ops m listed)
  (hstep:∀(listed:Array Bool) (a:Act) (w:World),I listed a w→∀i,i<m→i∈Region.ready .any ops listed→∀K:Act→World→Prop,(∀a' w',I (listed.setIfInBounds i true) a' w'→K a' w')→Op i K a w)
  (htail:m<ops.size→Region.sinkB .any ops m=true∧Region.chainB .any ops m=true)
  (hfin:∀a w,I (eH ops.size m) a w→yZ ops Op Qn g (eH ops.size m) a w) (hg:g=iG (eH ops.size m)) :
  ∀(fuel:Nat) (listed:Array Bool) (a:Act) (w:World),fuel=iG listed→I listed a w→yZ ops Op Qn fuel listed a w:=by
 intro fuel
 induction fuel with
 | zero =>
  intro listed a w hf inv
  have hall:∀i,i<m→listed.getD i false=true:=fun i hi=>by
   cases hc:listed.getD i false with
   | true=>rfl
   | false =>
    have hi':i<listed.size:=by rw [(hI _ _ _ inv).size];have:=hl.le;omega
    have:=lZ (getD_in hi' hc)
    omega
  have e:=pK (hI _ _ _ inv) hall
  subst e
  have:=hfin a w inv
  rw [hg,←hf] at this
  exact this
 | succ fuel ih =>
  intro listed a w hf inv
  by_cases hall:∀i,i<m→listed.getD i false=true
  ·have e:=pK (hI _ _ _ inv) hall
   subst e
   have:=hfin a w inv
   rw [hg,←hf] at this
   exact this
  ·have hex:∃i,i<m∧listed.getD i false=false:=by
    apply Classical.byContradiction
    intro hn
    refine hall fun i hi=>?_
    cases hc:listed.getD i false with
    | true=>rfl
    | false=>exact absurd ⟨i,hi,hc⟩ hn
   obtain⟨i0,hi0,hc0⟩:=hex
   have hsz:=hl.le
   have hun0:listed.getD i0 true=false:=getD_in (by rw [(hI _ _ _ inv).size];omega) hc0
   -- the least one that has not come up is ready
   have hready:∃i,i∈Region.ready .any ops listed:=by
    have:∀k,k<m→listed.getD k false=false→∃i,i∈Region.ready .any ops listed:=by
     intro k
     induction k using Nat.strongRecOn with
     | _ k ihk =>
      intro hk hck
      by_cases hr:k∈Region.ready .any ops listed
      ·exact⟨k,hr⟩
      ·obtain⟨o,ho⟩:∃o,ops[k]?=some o:=⟨_,Array.getElem?_eq_getElem (by omega)⟩
       have hex:∃e∈o.after,Region.binds .any e=true∧listed.getD e.on false=false:=by
        apply Classical.byContradiction
        intro hn
        refine hr (mem_ready.2 ⟨getD_in (by rw [(hI _ _ _ inv).size];omega) hck,o,ho,fun e he hb=>?_⟩)
        cases hc:listed.getD e.on false with
        | true=>rfl
        | false=>exact absurd ⟨e,he,hb,hc⟩ hn
       obtain⟨e,he,hb,hc⟩:=hex
       have:=hl.back k o ho e he hb
       exact ihk e.on this (by omega) hc
    exact this i0 hi0 hc0
   refine⟨fun hnil=>?_,fun i hi=>?_⟩
   ·obtain⟨i,hi⟩:=hready
    rw [hnil] at hi;cases hi
   ·have him:i<m:=by
     rcases Nat.lt_or_ge i m with h|h
     ·exact h
     ·exfalso
      have hio:i<ops.size:=by
       obtain⟨_,o,ho,_⟩:=mem_ready.1 hi
       exact (Array.getElem?_eq_some_iff.1 ho).1
      obtain⟨t1,t2⟩:=htail (by omega)
      exact tail_waits t1 t2 (by omega) (hI _ _ _ inv) (m-i0) i0 rfl hi0 hun0 i h hi
    refine hstep listed a w inv i him hi _ fun a' w' inv'=>ih _ a' w' ?_ inv'
    have:=lZ (mem_ready.1 hi).1
    omega

def PhiG (P:Program) (ds:List (Option Tmp)) (a0:Act) (w0:World) (Q:Act→World→Prop):List (Option Tmp × jA)→List Oper→Prop
 | Γ,[]=>∀w g,ExtG w0 [] w g→FinalG Q w g Γ a0
 | Γ,o::l=>∃Φ,StabG Φ∧(∀ρ w g,ExtG w0 [] w g→Plain ρ→KnowsAllG a0 Γ ρ w g (looks ds o.op.operands.toList o.guard)→if wanted ds ρ o.guard then ME P o ρ w g Φ else Φ undef w g)∧PhiG P ds a0 w0 Q (Γ++[(o.dst,Φ)]) l
theorem PhiG.walk {l0:List Oper} {Q:Act→World→Prop}:∀(l:List Oper) (Γ:List (Option Tmp × jA)),PhiG P (l0.map (·.dst)) a0 w0 Q Γ l→PhiWalkG P l0.toArray a0 w0 Q Γ l
 | [],_,h=>h
 | o::l,Γ,⟨Φ,h1,h2,h3⟩=>⟨Φ,h1,fun ρ w g hx hp hk=>by rw [sA];rw [uP] at hk;exact h2 ρ w g hx hp hk,PhiG.walk l _ h3⟩
section steps
variable {ds:List (Option Tmp)} {Q:Act→World→Prop} {Γ:List (Option Tmp × jA)} {d:Option Tmp} {op:Op} {ty:TypeId} {pos:String} {aft:Array Edge} {gd:Option (Nat × Bool)} {l:List Oper}
theorem PhiG.pure {v:Value} (h:∀ρ w g,ExtG w0 [] w g→Plain ρ→KnowsAllG a0 Γ ρ w g (looks ds op.operands.toList gd)→wanted ds ρ gd=true∧(execOp ρ ⟨d,op,ty,"",#[],none⟩).run P w=.ok (.value v) w)
  (rest:PhiG P ds a0 w0 Q (Γ++[(d,fun x _ _=>x=v)]) l):PhiG P ds a0 w0 Q Γ (⟨d,op,ty,pos,aft,gd⟩::l):=by
 refine⟨fun x _ _=>x=v,StabG.const v,fun ρ w g hx hp hk=>?_,rest⟩
 obtain⟨h1,h2⟩:=h ρ w g hx hp hk
 rw [if_pos h1]
 unfold ME OpGood
 have e:execOp ρ ⟨d,op,ty,pos,aft,gd⟩=execOp ρ ⟨d,op,ty,"",#[],none⟩:=by cases op<;>rfl
 rw [e,h2]
 exact⟨Ext.refl _,g,ExtG.refl _ _,rfl⟩
theorem PhiG.skip (h:∀ρ w g,ExtG w0 [] w g→Plain ρ→KnowsAllG a0 Γ ρ w g (looks ds op.operands.toList gd)→wanted ds ρ gd=false)
  (rest:PhiG P ds a0 w0 Q (Γ++[(d,fun x _ _=>x=undef)]) l):PhiG P ds a0 w0 Q Γ (⟨d,op,ty,pos,aft,gd⟩::l):=by
 refine⟨fun x _ _=>x=undef,StabG.const _,fun ρ w g hx hp hk=>?_,rest⟩
 rw [if_neg (by rw [h ρ w g hx hp hk];exact Bool.false_ne_true)]
theorem PhiG.make (Φ:jA) (hs:StabG Φ) (h:∀ρ w g,ExtG w0 [] w g→Plain ρ→KnowsAllG a0 Γ ρ w g (looks ds op.operands.toList gd)→wanted ds ρ gd=true∧OpGood P ⟨d,op,ty,"",#[],none⟩ ρ w fun v w'=>∃g',ExtG w g w' g'∧Φ v w' g')
  (rest:PhiG P ds a0 w0 Q (Γ++[(d,Φ)]) l):PhiG P ds a0 w0 Q Γ (⟨d,op,ty,pos,aft,gd⟩::l):=by
 refine⟨Φ,hs,fun ρ w g hx hp hk=>?_,rest⟩
 obtain⟨h1,h2⟩:=h ρ w g hx hp hk
 rw [if_pos h1]
 unfold ME
 unfold OpGood at h2 ⊢
 have e:execOp ρ ⟨d,op,ty,pos,aft,gd⟩=execOp ρ ⟨d,op,ty,"",#[],none⟩:=by cases op<;>rfl
 rw [e]
 exact h2
theorem PhiG.done (h:∀w g,ExtG w0 [] w g→FinalG Q w g Γ a0):PhiG P ds a0 w0 Q Γ []:=h
attribute [irreducible] PhiG
end steps
end
end Go.Proofs.YtaeioidifpebdaaGreatDoor
