/-
 A region that draws its order, whose operations make memory and leave all that was there as it was: each operation is met once, by itself, with what is known of the slots that it looks at; whatever order is drawn. No program in sight.
-/
import Derived.Test.YtaeioidifpebdaaGreatDoorData
import Derived.StillTail
namespace Go.Proofs.YtaeioidifpebdaaGreatDoor
open Go Go.RowKit

abbrev iZ:=Value→World→Prop
def Stab (Φ:iZ):Prop:=∀v w w',Ext w w'→Φ v w→Φ v w'

def OpGood (P:Program) (o:Oper) (ρ:Operand→Value) (w:World) (Φ:iZ):Prop :=
 match (execOp ρ o).run P w with
 | .ok (.value v) w'=>Ext w w'∧Φ v w'
 | .ok .skip w'=>Ext w w'∧Φ undef w'
 | .ok (.enter f args) w'=>Ext w w'∧Calls P f args w' (fun e w''=>∃v,e=.returned v∧Ext w' w''∧Φ v w'')
 | _=>False

def bD:List (Option Tmp × iZ)→Tmp→Option iZ
 | [],_=>none
 | (d,Φ)::Γ,t=>if d=some t then some Φ else bD Γ t

def aF (a0:Act) (Γ:List (Option Tmp × iZ)) (ρ:Operand→Value) (w:World) (t:Tmp):Prop :=
 match bD Γ t with
 | some Φ=>Φ (ρ (.tmp t)) w
 | none=>ρ (.tmp t)=a0.eval (.tmp t)

def KnowsAll (a0:Act) (Γ:List (Option Tmp × iZ)) (ρ:Operand→Value) (w:World):List Tmp→Prop
 | []=>True
 | t::ts=>aF a0 Γ ρ w t∧KnowsAll a0 Γ ρ w ts
theorem KnowsAll.of {a0:Act} {Γ:List (Option Tmp × iZ)} {ρ:Operand→Value} {w:World}:∀{ts:List Tmp},(∀t∈ts,aF a0 Γ ρ w t)→KnowsAll a0 Γ ρ w ts
 | [],_=>trivial
 | t::ts,h=>⟨h t (by simp),KnowsAll.of fun t' ht=>h t' (by simp [ht])⟩

def uM (ops:Array Oper) (ρ:Operand→Value) (o:Oper):Bool :=
 match o.guard with
 | none=>true
 | some (j,want)=>match (ops[j]?).bind (·.dst) with
  | some d=>match ρ (.tmp d) with
   | .bool b=>b == want
   | _=>false
  | none=>false

def Plain (ρ:Operand→Value):Prop:=(∀v,ρ (.const v)=v)∧(∀g,ρ (.global g)=.pointer (some ⟨g,0,none⟩))∧(∀f,ρ (.func f)=.func (.func f) #[] #[])

def VO (P:Program) (ops:Array Oper) (a0:Act) (w0:World) (Γ:List (Option Tmp × iZ)) (o:Oper) (Φ:iZ):Prop :=
 ∀ρ w,Ext w0 w→Plain ρ→KnowsAll a0 Γ ρ w (o.looksAt ops)→if uM ops ρ o then OpGood P o ρ w Φ else Φ undef w

def Final (Q:Act→World→Prop) (w:World):List (Option Tmp × iZ)→Act→Prop
 | [],a=>Q a w
 | (d,Φ)::Γ,a=>∀v,Φ v w→Final Q w Γ (a.put d v)

def PhiWalk (P:Program) (ops:Array Oper) (a0:Act) (w0:World) (Q:Act→World→Prop):List (Option Tmp × iZ)→List Oper→Prop
 | Γ,[]=>∀w,Ext w0 w→Final Q w Γ a0
 | Γ,o::l=>∃Φ,Stab Φ∧VO P ops a0 w0 Γ o Φ∧PhiWalk P ops a0 w0 Q (Γ++[(o.dst,Φ)]) l

def uN (ops:Array Oper) (m sz:Nat):Bool :=
 decide (m≤ops.size) &&
 (List.range ops.size).all (fun i=>match ops[i]? with
  | none=>false
  | some o=>o.after.all (fun e=>!Region.binds .any e||decide (e.on<i))) &&
 (List.range m).all (fun i=>match ops[i]? with
  | none=>false
  | some o =>
   (match o.dst with|some d=>decide (d<sz)|none=>true) &&
   (List.range m).all (fun j=>decide (j=i)||match ops[j]? with
    | none=>false
    | some o'=>match o'.dst with
     | none=>true
     | some d=>o.dst != some d&&(!(o.looksAt ops).contains d||(if j<i then Region.waitsFor .any ops i j else Region.waitsFor .any ops j i))))

section
variable {P:Program} {ops:Array Oper} {a0:Act} {w0:World}

theorem PhiWalk.parts {Q:Act→World→Prop}:∀(l:List Oper) (Γ:List (Option Tmp × iZ)),PhiWalk P ops a0 w0 Q Γ l →
  ∃Φs:List iZ,Φs.length=l.length∧(∀i o Φ,l[i]?=some o→Φs[i]?=some Φ→Stab Φ∧VO P ops a0 w0 (Γ++((l.take i).map (·.dst)).zip (Φs.take i)) o Φ) ∧
   ∀w,Ext w0 w→Final Q w (Γ++(l.map (·.dst)).zip Φs) a0
 | [],Γ,h=>⟨[],rfl,fun i o Φ hi=>by simp at hi,fun w hw=>by simpa using h w hw⟩
 | o::l,Γ,h=>by
  obtain⟨Φ,h1,h2,h3⟩:=h
  obtain⟨Φs,e,g1,g2⟩:=PhiWalk.parts l _ h3
  refine⟨Φ::Φs,by simp [e],fun i o' Φ' hi hΦ=>?_,fun w hw=>by simpa using g2 w hw⟩
  cases i with
  | zero=>simp at hi hΦ;subst hi hΦ;exact⟨h1,by simpa using h2⟩
  | succ i=>simp at hi hΦ;obtain⟨q1,q2⟩:=g1 i o' Φ' hi hΦ;exact⟨q1,by simpa using q2⟩

theorem NI {Γ:List (Option Tmp × iZ)} {t:Tmp} (h:bD Γ t=none):∀x∈Γ,x.1≠some t:=by
 induction Γ with
 | nil=>intro x hx;cases hx
 | cons y Γ ih =>
  obtain⟨d,Φ⟩:=y
  intro x hx
  simp only [bD] at h
  split at h
  ·cases h
  ·rename_i hd
   rcases List.mem_cons.1 hx with rfl|hx
   ·exact hd
   ·exact ih h x hx
theorem NJ {Γ:List (Option Tmp × iZ)} {t:Tmp} {Φ:iZ} (h:bD Γ t=some Φ):(some t,Φ)∈Γ:=by
 induction Γ with
 | nil=>cases h
 | cons y Γ ih =>
  obtain⟨d,Ψ⟩:=y
  simp only [bD] at h
  split at h
  ·rename_i hd;subst hd;cases h;simp
  ·simp [ih h]

structure PhiInv (ops:Array Oper) (m:Nat) (Φs:List iZ) (a0:Act) (w0:World) (vs:Nat→Value) (listed:Array Bool) (a:Act) (w:World):Prop where
 head:HeadInv .any ops m listed
 ext:Ext w0 w
 size:a.tmps.size=a0.tmps.size
 defers:a.defers=a0.defers
 done:∀i o d,i<m→ops[i]?=some o→listed.getD i false=true→o.dst=some d→a.tmps[d]?=some (vs i)
 other:∀t,(∀i o,i<m→ops[i]?=some o→listed.getD i false=true→o.dst≠some t)→a.tmps[t]?=a0.tmps[t]?
 sat:∀i Φ,i<m→listed.getD i false=true→Φs[i]?=some Φ→Φ (vs i) w

structure PhiLook (ops:Array Oper) (m sz:Nat):Prop where
 le:m≤ops.size
 back:∀i o,ops[i]?=some o→∀e∈o.after,Region.binds .any e=true→e.on<i
 bound:∀i o d,i<m→ops[i]?=some o→o.dst=some d→d<sz
 unlike:∀i j o o' d,i<m→j<m→j≠i→ops[i]?=some o→ops[j]?=some o'→o'.dst=some d→o.dst≠some d
 early:∀i j o o' d,i<m→j<i→ops[i]?=some o→ops[j]?=some o'→o'.dst=some d→d∈o.looksAt ops→Region.waitsFor .any ops i j=true
 late:∀i j o o' d,i<m→j<m→i<j→ops[i]?=some o→ops[j]?=some o'→o'.dst=some d→d∈o.looksAt ops→Region.waitsFor .any ops j i=true

theorem oH {m sz:Nat} (h:uN ops m sz=true):PhiLook ops m sz:=by
 unfold uN at h
 simp only [Bool.and_eq_true,decide_eq_true_eq,List.all_eq_true,List.mem_range] at h
 obtain⟨⟨h1,h2⟩,h3⟩:=h
 have key:∀i j o o' d,i<m→j<m→j≠i→ops[i]?=some o→ops[j]?=some o'→o'.dst=some d →
   o.dst≠some d∧(d∈o.looksAt ops→(if j<i then Region.waitsFor .any ops i j else Region.waitsFor .any ops j i)=true):=by
  intro i j o o' d hi hj hne ho ho' hd
  have:=h3 i hi
  simp only [ho,Bool.and_eq_true,List.all_eq_true,List.mem_range] at this
  have:=this.2 j hj
  simp only [ho',hd,hne,decide_false,Bool.false_or,Bool.and_eq_true,bne_iff_ne,Bool.or_eq_true,Bool.not_eq_true',List.contains_eq_mem,decide_eq_false_iff_not] at this
  exact⟨this.1,fun hc=>this.2.resolve_left (fun h=>h hc)⟩
 refine⟨h1,fun i o ho e he hb=>?_,fun i o d hi ho hd=>?_,fun i j o o' d hi hj hne ho ho' hd=>(key i j o o' d hi hj hne ho ho' hd).1,fun i j o o' d hi hj ho ho' hd hm=>?_,fun i j o o' d hi hj hij ho ho' hd hm=>?_⟩
 ·have hi:i<ops.size:=(Array.getElem?_eq_some_iff.1 ho).1
  have:=h2 i hi
  simp only [ho] at this
  have:=Array.all_eq_true'.1 this e he
  simpa [hb] using this
 ·have:=h3 i hi
  simp only [ho,hd,Bool.and_eq_true,decide_eq_true_eq] at this
  exact this.1
 ·have:=(key i j o o' d hi (by omega) (by omega) ho ho' hd).2 hm
  rwa [if_pos hj] at this
 ·have:=(key i j o o' d hi hj (by omega) ho ho' hd).2 hm
  rwa [if_neg (by omega)] at this

theorem jP {a:Act} {t:Tmp} {v:Value} (h:a.tmps[t]?=some v):a.eval (.tmp t)=v:=by
 simp [Act.eval,Array.getD_eq_getD_getElem?,h]
theorem BP {a b:Act} {t:Tmp} (h:a.tmps[t]?=b.tmps[t]?):a.eval (.tmp t)=b.eval (.tmp t):=by
 simp [Act.eval,Array.getD_eq_getD_getElem?,h]

theorem yY (o:Oper) (a:Act):Region.wanted o (yielded ops a.tmps)=uM ops a.eval o:=by
 unfold Region.wanted uM
 cases hg:o.guard with
 | none=>rfl
 | some g =>
  obtain⟨j,want⟩:=g
  simp only [yielded]
  cases hd:(ops[j]?).bind (·.dst) with
  | none=>simp
  | some d =>
   simp only [Option.bind_some,Act.eval,Array.getD_eq_getD_getElem?]
   cases ht:a.tmps[d]? with
   | none=>simp [undef]
   | some x=>cases x<;>simp

theorem gD {a:Act} {x:Option Tmp} {v:Value} {t:Tmp} (h:x≠some t):(a.put x v).tmps[t]?=a.tmps[t]?:=by
 cases x with
 | none=>rfl
 | some d =>
  have:d≠t:=fun e=>h (by rw [e])
  simp [Act.put,Array.getElem?_setIfInBounds_ne this]
theorem kQ {a:Act} {v:Value} {t:Tmp} (h:t<a.tmps.size):(a.put (some t) v).tmps[t]?=some v:=by
 simp [Act.put,h]
theorem uO {a:Act} {x:Option Tmp} {v:Value}:(a.put x v).tmps.size=a.tmps.size:=by
 cases x<;>simp [Act.put]
theorem nR {a:Act} {x:Option Tmp} {v:Value}:(a.put x v).defers=a.defers:=by
 cases x<;>rfl

theorem PhiInv.next {m:Nat} {Φs:List iZ} {vs:Nat→Value} {listed:Array Bool} {a:Act} {w:World} (hl:PhiLook ops m a0.tmps.size) (inv:PhiInv ops m Φs a0 w0 vs listed a w)
  {i:Nat} {o:Oper} (ho:ops[i]?=some o) (him:i<m) (hr:i∈Region.ready .any ops listed) (hstab:∀Φ∈Φs,Stab Φ) {v:Value} {w':World} (hw:Ext w w') (hv:∀Φ,Φs[i]?=some Φ→Φ v w') :
  PhiInv ops m Φs a0 w0 (fun k=>if k=i then v else vs k) (listed.setIfInBounds i true) (a.put o.dst v) w':=by
 have hlist:∀j,j≠i→(listed.setIfInBounds i true).getD j false=listed.getD j false:=fun j hj=>getD_set_ne false (Ne.symm hj)
 have hti:(listed.setIfInBounds i true).getD i false=true:=by
  have:i<listed.size:=by rw [inv.head.size];exact (Array.getElem?_eq_some_iff.1 ho).1
  simp [Array.getD_eq_getD_getElem?,this]
 refine⟨inv.head.set hr him,inv.ext.trans hw,by rw [uO];exact inv.size,by rw [nR];exact inv.defers,fun j oj d hj hoj hlj hd=>?_,fun t ht=>?_,fun j Φ hj hlj hΦ=>?_⟩
 ·by_cases hji:j=i
  ·subst hji
   rw [ho] at hoj;cases hoj
   rw [hd,if_pos rfl]
   exact kQ (by rw [inv.size];exact hl.bound j o d hj ho hd)
  ·rw [hlist j hji] at hlj
   rw [gD (hl.unlike i j o oj d him hj hji ho hoj hd),if_neg hji]
   exact inv.done j oj d hj hoj hlj hd
 ·rw [gD (ht i o him ho hti)]
  refine inv.other t fun j oj hj hoj hlj=>?_
  by_cases hji:j=i
  ·subst hji;rw [ho] at hoj;cases hoj;exact ht j o hj ho hti
  ·exact ht j oj hj hoj (by rw [hlist j hji];exact hlj)
 ·by_cases hji:j=i
  ·subst hji;rw [if_pos rfl];exact hv Φ hΦ
  ·rw [if_neg hji]
   rw [hlist j hji] at hlj
   exact hstab Φ (List.mem_of_getElem? hΦ) _ _ _ hw (inv.sat j Φ hj hlj hΦ)

theorem DJ {l:List Oper} {Φs:List iZ} {i:Nat} {x:Option Tmp × iZ} (h:x∈((l.take i).map (·.dst)).zip (Φs.take i)) :
  ∃j o,j<i∧l[j]?=some o∧o.dst=x.1∧Φs[j]?=some x.2:=by
 obtain⟨j,hj⟩:=List.mem_iff_getElem?.1 h
 rw [List.getElem?_zip_eq_some] at hj
 obtain⟨h1,h2⟩:=hj
 rw [List.getElem?_map,Option.map_eq_some_iff] at h1
 obtain⟨o,ho,hd⟩:=h1
 rw [List.getElem?_take] at ho h2
 split at ho
 ·rename_i hji
  rw [if_pos hji] at h2
  exact⟨j,o,hji,ho,hd,h2⟩
 ·cases ho

theorem DK {l:List Oper} {Φs:List iZ} {i j:Nat} {o:Oper} {Φ:iZ} (hj:j<i) (ho:l[j]?=some o) (hΦ:Φs[j]?=some Φ):(o.dst,Φ)∈((l.take i).map (·.dst)).zip (Φs.take i):=by
 refine List.mem_iff_getElem?.2 ⟨j,?_⟩
 rw [List.getElem?_zip_eq_some]
 refine⟨?_,by rw [List.getElem?_take,if_pos hj];exact hΦ⟩
 rw [List.getElem?_map,List.getElem?_take,if_pos hj,ho];rfl

def yG (P:Program) (ops:Array Oper) (Op:Nat→(Act→World→Prop)→Act→World→Prop):Prop :=
 ∀(i:Nat) (o:Oper) (Φ:iZ) (a:Act) (w:World) (K:Act→World→Prop),ops[i]?=some o→(if uM ops a.eval o then OpGood P o a.eval w Φ else Φ undef w)→(∀v w',Ext w w'→Φ v w'→K (a.put o.dst v) w')→Op i K a w
theorem JQ {Q:Exit→Act→World→Prop}:yG P ops (wpOp P ops Q):=by
 intro i o Φ a w K ho hgo hnext
 unfold wpOp
 simp only [ho]
 rw [yY]
 split
 ·rename_i hw
  rw [if_pos hw] at hgo
  refine .inl ?_
  unfold OpGood at hgo
  unfold Oper.wp
  generalize (execOp a.eval o).run P w=r at *
  cases r with
  | ok n w' =>
   cases n<;>simp only at hgo<;>simp only [Oper.upon]
   case value u=>exact hnext _ _ hgo.1 hgo.2
   case skip=>exact hnext _ _ hgo.1 hgo.2
   case enter f args =>
    exact hgo.2.mono fun e w'' ⟨v,he,hx,hv⟩=>by subst he;exact hnext _ _ (hgo.1.trans hx) hv
  | halt x w'=>simp only at hgo
 ·rename_i hw
  rw [if_neg hw] at hgo
  exact hnext _ _ (Ext.refl _) hgo

theorem PW {Op:Nat→(Act→World→Prop)→Act→World→Prop} (hop:yG P ops Op) {m:Nat} {l:List Oper} {Φs:List iZ} {vs:Nat→Value} {listed:Array Bool} {a:Act} {w:World} (hops:∀i,i<m→l[i]?=ops[i]?) (hlen:Φs.length=m) (hl:PhiLook ops m a0.tmps.size)
  (hob:∀i o Φ,l[i]?=some o→Φs[i]?=some Φ→Stab Φ∧VO P ops a0 w0 (((l.take i).map (·.dst)).zip (Φs.take i)) o Φ) (hstab:∀Φ∈Φs,Stab Φ)
  (inv:PhiInv ops m Φs a0 w0 vs listed a w) {i:Nat} (him:i<m) (hr:i∈Region.ready .any ops listed) {K:Act→World→Prop}
  (hK:∀vs' a' w',PhiInv ops m Φs a0 w0 vs' (listed.setIfInBounds i true) a' w'→K a' w'):Op i K a w:=by
 obtain⟨hun,o,ho,hall⟩:=mem_ready.1 hr
 have hunf:listed.getD i false=false:=getD_both hun
 obtain⟨Φ,hΦ⟩:∃Φ,Φs[i]?=some Φ:=⟨_,List.getElem?_eq_getElem (by omega)⟩
 obtain⟨hs,hok⟩:=hob i o Φ (by rw [hops i him];exact ho) hΦ
 have hk:KnowsAll a0 (((l.take i).map (·.dst)).zip (Φs.take i)) a.eval w (o.looksAt ops):=KnowsAll.of fun t ht=>by
  unfold aF
  split
  ·rename_i Ψ hΨ
   obtain⟨j,oj,hji,hoj,hd,hΨj⟩:=DJ (NJ hΨ)
   rw [hops j (by omega)] at hoj
   have hwait:=hl.early i j o oj t him hji ho hoj hd ht
   obtain⟨o',ho',e,he,hb,hon⟩:=Region.waitsFor_spec hwait
   rw [ho] at ho';cases ho'
   have hlj:=hall e he hb
   rw [hon] at hlj
   rw [jP (inv.done j oj t (by omega) hoj hlj hd)]
   exact inv.sat j Ψ (by omega) hlj hΨj
  ·rename_i hnone
   refine BP (inv.other t fun j oj hj hoj hlj hd=>?_)
   rcases Nat.lt_trichotomy j i with h|h|h
   ·obtain⟨Ψ,hΨ⟩:∃Φ,Φs[j]?=some Φ:=⟨_,List.getElem?_eq_getElem (by omega)⟩
    exact NI hnone _ (DK h (by rw [hops j hj];exact hoj) hΨ) hd
   ·subst h;rw [hunf] at hlj;cases hlj
   ·have hwait:=hl.late i j o oj t him hj h ho hoj hd ht
    obtain⟨o',ho',e,he,hb,hon⟩:=Region.waitsFor_spec hwait
    have hoj':o'=oj:=by rw [hoj] at ho';exact (Option.some.inj ho').symm
    subst hoj'
    have:=inv.head.closed j o' hoj hlj e he hb
    rw [hon,hunf] at this
    cases this
 have hgo:=hok a.eval w inv.ext ⟨fun _=>rfl,fun _=>rfl,fun _=>rfl⟩ hk
 have hnext:∀v w',Ext w w'→Φ v w'→K (a.put o.dst v) w':=fun v w' hw hv=>hK _ _ _ (inv.next hl ho him hr hstab hw fun Ψ hΨ=>by rw [hΦ] at hΨ;cases hΨ;exact hv)
 exact hop i o Φ a w K ho hgo hnext

def vX (vs:Nat→Value):List Oper→Nat→Act→Act
 | [],_,a=>a
 | o::l,k,a=>vX vs l (k+1) (a.put o.dst (vs k))
theorem wT (vs:Nat→Value):∀(l:List Oper) (k:Nat) (a:Act),(vX vs l k a).defers=a.defers
 | [],_,_=>rfl
 | o::l,k,a=>by rw [vX,wT vs l,nR]
theorem DL (vs:Nat→Value) {t:Tmp}:∀(l:List Oper) (k:Nat) (a:Act),(∀o∈l,o.dst≠some t)→(vX vs l k a).tmps[t]?=a.tmps[t]?
 | [],_,_,_=>rfl
 | o::l,k,a,h=>by rw [vX,DL vs l _ _ (fun o' ho=>h o' (by simp [ho])),gD (h o (by simp))]
theorem TF (vs:Nat→Value) {t:Tmp} (l:List Oper):∀(k:Nat) (a:Act) (j:Nat) (o:Oper),t<a.tmps.size→l[j]?=some o→o.dst=some t→(∀j' o',l[j']?=some o'→j'≠j→o'.dst≠some t)→(vX vs l k a).tmps[t]?=some (vs (k+j)):=by
 induction l with
 | nil=>intro k a j o _ ho;simp at ho
 | cons o l ih =>
  intro k a j o' ht ho hd hu
  cases j with
  | zero =>
   simp only [List.getElem?_cons_zero,Option.some.injEq] at ho
   subst ho
   rw [vX,DL vs l _ _ (fun x hx=>?_),hd,kQ ht]
   ·rfl
   ·obtain⟨j,hj⟩:=List.mem_iff_getElem?.1 hx
    exact hu (j+1) x (by rw [List.getElem?_cons_succ];exact hj) (Nat.succ_ne_zero j)
  | succ j =>
   rw [List.getElem?_cons_succ] at ho
   rw [vX,ih (k+1) _ j o' (by rw [uO];exact ht) ho hd (fun j' o'' h hne=>hu (j'+1) o'' (by rw [List.getElem?_cons_succ];exact h) (fun e=>hne (Nat.succ.inj e)))]
   rw [show k+1+j=k+(j+1) by omega]
theorem Final.at {Q:Act→World→Prop} {w:World} (vs:Nat→Value) (l:List Oper):∀(Φs:List iZ) (k:Nat) (a:Act),Φs.length=l.length→Final Q w ((l.map (·.dst)).zip Φs) a→(∀(j:Nat) (Φ:iZ),Φs[j]?=some Φ→Φ (vs (k+j)) w)→Q (vX vs l k a) w:=by
 induction l with
 | nil=>intro Φs k a _ h _;exact h
 | cons o l ih =>
  intro Φs k a he h hs
  cases Φs with
  | nil=>simp at he
  | cons Φ Φs =>
   rw [vX]
   refine ih Φs (k+1) _ (by simpa using he) (h (vs k) (hs 0 Φ (by simp))) (fun j Ψ hj=>?_)
   have:=hs (j+1) Ψ (by rw [List.getElem?_cons_succ];exact hj)
   rwa [show k+(j+1)=k+1+j by omega] at this
theorem TG {a b:Act} (h2:a.defers=b.defers) (h:∀t:Nat,a.tmps[t]?=b.tmps[t]?):a=b:=by
 obtain⟨x,d⟩:=a
 obtain⟨y,e⟩:=b
 simp only at h2 h
 subst h2
 congr 1
 exact Array.ext_getElem? h

def eH (n m:Nat):Array Bool:=((List.range n).map fun i=>decide (i<m)).toArray
theorem pK {m:Nat} {listed:Array Bool} (hi:HeadInv .any ops m listed) (hall:∀i,i<m→listed.getD i false=true):listed=eH ops.size m:=by
 apply Array.ext_getElem?
 intro i
 by_cases h:i<ops.size
 ·have h':i<listed.size:=by rw [hi.size];exact h
  simp only [eH,List.getElem?_toArray,List.getElem?_map]
  rw [List.getElem?_range h]
  by_cases him:i<m
  ·have:=hall i him
   simp only [Array.getD_eq_getD_getElem?,Array.getElem?_eq_getElem h',Option.getD_some] at this
   simp [Array.getElem?_eq_getElem h',this,him]
  ·have:=hi.tail i (by omega) h
   simp only [Array.getD_eq_getD_getElem?,Array.getElem?_eq_getElem h',Option.getD_some] at this
   simp [Array.getElem?_eq_getElem h',this,him]
 ·rw [Array.getElem?_eq_none (by rw [hi.size];omega),Array.getElem?_eq_none (by simp [eH];omega)]

def iG (listed:Array Bool):Nat:=listed.toList.count false
theorem lZ {listed:Array Bool} {i:Nat} (h:listed.getD i true=false):iG listed=iG (listed.setIfInBounds i true)+1:=by
 have hi:i<listed.size:=by
  rcases Nat.lt_or_ge i listed.size with h'|h'
  ·exact h'
  ·simp [Array.getD_eq_getD_getElem?,Array.getElem?_eq_none h'] at h
 have hv:listed.toList[i]'(by simpa using hi)=false:=by
  simpa [Array.getD_eq_getD_getElem?,Array.getElem?_eq_getElem hi] using h
 have hc:0<listed.toList.count false:=List.count_pos_iff.2 (List.mem_iff_getElem.2 ⟨i,by simpa using hi,hv⟩)
 have:=List.count_set (l:=listed.toList) (a:=true) (b:=false) (i:=i) (h:=by simpa using hi)
 unfold iG
 rw [Array.toList_setIfInBounds,this]
 simp only [hv,BEq.rfl,if_true]
 rw [if_neg (by decide)]
 omega

def yZ (ops:Array Oper) (Op:Nat→(Act→World→Prop)→Act→World→Prop) (Qn:Act→World→Prop):Nat→Array Bool→Act→World→Prop
 | 0,listed,a,w=>Region.ready .any ops listed=[]∧Qn a w
 | fuel+1,listed,a,w=>(Region.ready .any ops listed=[]→Qn a w)∧∀i∈Region.ready .any ops listed,Op i (yZ ops Op Qn fuel (listed.setIfInBounds i true)) a w
theorem yH {Q:Exit→Act→World→Prop}:∀(fuel:Nat) (listed:Array Bool) (a:Act) (w:World),yZ ops (wpOp P ops Q) (Q .normal) fuel listed a w→wpAny P .any ops Q fuel listed a w
 | 0,_,_,_,h=>h
 | fuel+1,_,_,_,h=>⟨h.1,fun i hi=>wpOp_mono (fun a w=>yH fuel _ a w) (h.2 i hi)⟩
theorem yI {Q:Exit→Act→World→Prop}:∀(fuel:Nat) (listed:Array Bool) (a:Act) (w:World),wpAny P .any ops Q fuel listed a w→yZ ops (wpOp P ops Q) (Q .normal) fuel listed a w
 | 0,_,_,_,h=>h
 | fuel+1,_,_,_,h=>⟨h.1,fun i hi=>wpOp_mono (fun a w=>yI fuel _ a w) (h.2 i hi)⟩

theorem TH {Op:Nat→(Act→World→Prop)→Act→World→Prop} {Qn:Act→World→Prop} {m g:Nat} {Φs:List iZ} (hl:PhiLook ops m a0.tmps.size)
  (hstep:∀(vs:Nat→Value) (listed:Array Bool) (a:Act) (w:World),PhiInv ops m Φs a0 w0 vs listed a w→∀i,i<m→i∈Region.ready .any ops listed→∀K:Act→World→Prop,(∀vs' a' w',PhiInv ops m Φs a0 w0 vs' (listed.setIfInBounds i true) a' w'→K a' w')→Op i K a w)
  (htail:m<ops.size→Region.sinkB .any ops m=true∧Region.chainB .any ops m=true)
  (hfin:∀vs a w,PhiInv ops m Φs a0 w0 vs (eH ops.size m) a w→yZ ops Op Qn g (eH ops.size m) a w) (hg:g=iG (eH ops.size m)) :
  ∀(fuel:Nat) (vs:Nat→Value) (listed:Array Bool) (a:Act) (w:World),fuel=iG listed→PhiInv ops m Φs a0 w0 vs listed a w→yZ ops Op Qn fuel listed a w:=by
 intro fuel
 induction fuel with
 | zero =>
  intro vs listed a w hf inv
  have hall:∀i,i<m→listed.getD i false=true:=fun i hi=>by
   cases hc:listed.getD i false with
   | true=>rfl
   | false =>
    have hi':i<listed.size:=by rw [inv.head.size];have:=hl.le;omega
    have:=lZ (getD_in hi' hc)
    omega
  have e:=pK inv.head hall
  subst e
  have:=hfin vs a w inv
  rw [hg,←hf] at this
  exact this
 | succ fuel ih =>
  intro vs listed a w hf inv
  by_cases hall:∀i,i<m→listed.getD i false=true
  ·have e:=pK inv.head hall
   subst e
   have:=hfin vs a w inv
   rw [hg,←hf] at this
   exact this
  ·have hex:∃i,i<m∧listed.getD i false=false:=by
    apply Classical.byContradiction
    intro hn
    refine hall fun i hi=>?_
    cases hc:listed.getD i false with
    | true=>rfl
    | false=>exact absurd ⟨i,hi,hc⟩ hn
   obtain⟨i0,hi0,hc0⟩:=hex
   have hsz:=hl.le
   have hun0:listed.getD i0 true=false:=getD_in (by rw [inv.head.size];omega) hc0
   -- the least one that has not come up is ready
   have hready:∃i,i∈Region.ready .any ops listed:=by
    have:∀k,k<m→listed.getD k false=false→∃i,i∈Region.ready .any ops listed:=by
     intro k
     induction k using Nat.strongRecOn with
     | _ k ihk =>
      intro hk hck
      by_cases hr:k∈Region.ready .any ops listed
      ·exact⟨k,hr⟩
      ·obtain⟨o,ho⟩:∃o,ops[k]?=some o:=⟨_,Array.getElem?_eq_getElem (by omega)⟩
       have hex:∃e∈o.after,Region.binds .any e=true∧listed.getD e.on false=false:=by
        apply Classical.byContradiction
        intro hn
        refine hr (mem_ready.2 ⟨getD_in (by rw [inv.head.size];omega) hck,o,ho,fun e he hb=>?_⟩)
        cases hc:listed.getD e.on false with
        | true=>rfl
        | false=>exact absurd ⟨e,he,hb,hc⟩ hn
       obtain⟨e,he,hb,hc⟩:=hex
       have:=hl.back k o ho e he hb
       exact ihk e.on this (by omega) hc
    exact this i0 hi0 hc0
   refine⟨fun hnil=>?_,fun i hi=>?_⟩
   ·obtain⟨i,hi⟩:=hready
    rw [hnil] at hi;cases hi
   ·have him:i<m:=by
     rcases Nat.lt_or_ge i m with h|h
     ·exact h
     ·exfalso
      have hio:i<ops.size:=by
       obtain⟨_,o,ho,_⟩:=mem_ready.1 hi
       exact (Array.getElem?_eq_some_iff.1 ho).1
      obtain⟨t1,t2⟩:=htail (by omega)
      exact tail_waits t1 t2 (by omega) inv.head (m-i0) i0 rfl hi0 hun0 i h hi
    refine hstep vs listed a w inv i him hi _ fun vs' a' w' inv'=>ih vs' _ a' w' ?_ inv'
    have:=lZ (mem_ready.1 hi).1
    omega

def lB (ops:Array Oper) (m:Nat):Bool :=
 (decide (m=ops.size)||(Region.sinkB .any ops m&&Region.chainB .any ops m))&&Region.seqB .any ops (ops.size-m) m (eH ops.size m)&&decide (iG (eH ops.size m)=ops.size-m)

theorem zA {Op:Nat→(Act→World→Prop)→Act→World→Prop} {Qn Qh:Act→World→Prop} {a:Act} {w:World} {l:List Oper} (m:Nat) (hop:yG P l.toArray Op) (hB:uN l.toArray m a.tmps.size=true) (hT:lB l.toArray m=true)
  (h:PhiWalk P l.toArray a w Qh [] (l.take m)) (hend:∀a' w',Qh a' w'→yZ l.toArray Op Qn (l.toArray.size-m) (eH l.toArray.size m) a' w') :
  yZ l.toArray Op Qn l.toArray.size (Array.replicate l.toArray.size false) a { w with drawn:=w.drawn+1 }:=by
 have hl:=oH hB
 simp only [lB,Bool.and_eq_true,Bool.or_eq_true,decide_eq_true_eq] at hT
 obtain⟨⟨t1,t2⟩,t3⟩:=hT
 have hml:m≤l.length:=by simpa using hl.le
 obtain⟨Φs,hlen,hob,hfin⟩:=PhiWalk.parts _ _ h
 rw [List.length_take,Nat.min_eq_left hml] at hlen
 have hstab:∀Φ∈Φs,Stab Φ:=fun Φ hΦ=>by
  obtain⟨i,hi⟩:=List.mem_iff_getElem?.1 hΦ
  have hil:i<Φs.length:=(List.getElem?_eq_some_iff.1 hi).1
  exact (hob i _ Φ (List.getElem?_eq_getElem (by rw [List.length_take];omega)) hi).1
 have hops:∀i,i<m→(l.take m)[i]?=l.toArray[i]?:=fun i hi=>by
  rw [List.getElem?_take,if_pos hi];simp
 have inv0:PhiInv l.toArray m Φs a w (fun _=>undef) (Array.replicate l.toArray.size false) a { w with drawn:=w.drawn+1 }:=by
  have hno:∀i,(Array.replicate l.toArray.size false).getD i false=true→False:=fun i hi=>by rw [getD_replicate_false] at hi;cases hi
  exact⟨⟨by simp,fun j oj _ hl=>(hno j hl).elim,fun t _ ht=>getD_in (by simpa using ht) (getD_replicate_false _ _)⟩,(Ext.refl w).drew,rfl,rfl,fun i o d _ _ hl=>(hno i hl).elim,fun _ _=>rfl,fun i Φ _ hl=>(hno i hl).elim⟩
 refine TH (g:=l.toArray.size-m) hl (fun vs listed a' w' inv i him hr K hK=>PW hop hops hlen hl (by simpa using hob) hstab inv him hr hK) (fun hlt=>by rcases t1 with t1|t1;exact absurd t1 (by omega);exact t1) (fun vs a' w' inv=>hend _ _ ?_) t3.symm _ _ _ _ _ ?_ inv0
 ·have hall:∀i,i<m→(eH l.toArray.size m).getD i false=true:=fun i hi=>by
   have hi':i<l.length:=by omega
   simp [eH,hi',hi]
  have hp:=Final.at vs (l.take m) Φs 0 a (by rw [hlen,List.length_take,Nat.min_eq_left hml]) (by simpa using hfin w' inv.ext) (fun j Φ hj=>by
   have hjl:j<Φs.length:=(List.getElem?_eq_some_iff.1 hj).1
   rw [Nat.zero_add]
   exact inv.sat j Φ (by omega) (hall j (by omega)) hj)
  have e:vX vs (l.take m) 0 a=a':=by
   refine TG (by rw [wT];exact inv.defers.symm) (fun t=>?_)
   by_cases hex:∃j o,j<m∧l.toArray[j]?=some o∧o.dst=some t
   ·obtain⟨j,o,hj,ho,hd⟩:=hex
    rw [TF vs (l.take m) 0 a j o (hl.bound j o t hj ho hd) (by rw [hops j hj];exact ho) hd (fun j' o' hj' hne=>?_),Nat.zero_add]
    ·exact (inv.done j o t hj ho (hall j hj) hd).symm
    ·have hj'm:j'<m:=by have:=(List.getElem?_eq_some_iff.1 hj').1;rw [List.length_take] at this;omega
     rw [hops j' hj'm] at hj'
     exact hl.unlike j' j o' o t hj'm hj (Ne.symm hne) hj' ho hd
   ·rw [DL vs (l.take m) 0 a (fun o ho hd=>?_)]
    ·exact (inv.other t fun j o hj ho _ hd=>hex ⟨j,o,hj,ho,hd⟩).symm
    ·obtain⟨j,hj⟩:=List.mem_iff_getElem?.1 ho
     have hjm:j<m:=by have:=(List.getElem?_eq_some_iff.1 hj).1;rw [List.length_take] at this;omega
     rw [hops j hjm] at hj
     exact hex ⟨j,o,hjm,hj,hd⟩
  rw [e] at hp
  exact hp
 ·simp [iG]

theorem BQ {id:Nat} {Q:Exit→Act→World→Prop} {a:Act} {w:World} {l:List Oper} (m:Nat) (hm:P.follows .mixedOrders=true) (hB:uN l.toArray m a.tmps.size=true) (hT:lB l.toArray m=true)
  (h:PhiWalk P l.toArray a w (fun a' w'=>wpList P l.toArray Q (l.drop m) a' w') [] (l.take m)):(Code.region id l.toArray true).wp P Q a w:=by
 refine wp_region_any hm (yH _ _ _ _ (zA m JQ hB hT h fun a' w' hp=>yI _ _ _ _ ?_))
 simp only [lB,Bool.and_eq_true] at hT
 have hdl:(l.drop m).length=l.toArray.size-m:=by simp
 have:=wpAny_of_seq (md:=.any) (Q':=Q) (l.drop m) m (eH l.toArray.size m) a' w' (fun j=>by simp [List.getElem?_drop]) (by rw [hdl];exact hT.1.2) hp
 rwa [hdl] at this

theorem Stab.const (v:Value):Stab fun x _=>x=v:=fun _ _ _ _ h=>h

def looks (ds:List (Option Tmp)) (xs:List Operand) (g:Option (Nat × Bool)):List Tmp :=
 (xs.filterMap fun|.tmp t=>some t|_=>none)++(match g with|some (j,_)=>(match ds[j]? with|some (some d)=>[d]|_=>[])|none=>[])
def wanted (ds:List (Option Tmp)) (ρ:Operand→Value) (g:Option (Nat × Bool)):Bool :=
 match g with
 | none=>true
 | some (j,want)=>match ds[j]? with
  | some (some d)=>match ρ (.tmp d) with
   | .bool b=>b == want
   | _=>false
  | _=>false
theorem uP (l:List Oper) (o:Oper):o.looksAt l.toArray=looks (l.map (·.dst)) o.op.operands.toList o.guard:=by
 unfold Oper.looksAt looks
 congr 1
 cases o.guard with
 | none=>rfl
 | some g =>
  obtain⟨j,b⟩:=g
  simp only [List.getElem?_toArray,List.getElem?_map]
  cases l[j]? with
  | none=>rfl
  | some x=>cases hx:x.dst<;>simp [hx]
theorem sA (l:List Oper) (ρ:Operand→Value) (o:Oper):uM l.toArray ρ o=wanted (l.map (·.dst)) ρ o.guard:=by
 unfold uM wanted
 cases o.guard with
 | none=>rfl
 | some g =>
  obtain⟨j,b⟩:=g
  simp only [List.getElem?_toArray,List.getElem?_map]
  cases l[j]? with
  | none=>rfl
  | some x=>cases hx:x.dst<;>simp [hx]

def Phi (P:Program) (ds:List (Option Tmp)) (a0:Act) (w0:World) (Q:Act→World→Prop):List (Option Tmp × iZ)→List Oper→Prop
 | Γ,[]=>∀w,Ext w0 w→Final Q w Γ a0
 | Γ,o::l=>∃Φ,Stab Φ∧(∀ρ w,Ext w0 w→Plain ρ→KnowsAll a0 Γ ρ w (looks ds o.op.operands.toList o.guard)→if wanted ds ρ o.guard then OpGood P o ρ w Φ else Φ undef w)∧Phi P ds a0 w0 Q (Γ++[(o.dst,Φ)]) l
theorem Phi.walk {l0:List Oper} {Q:Act→World→Prop}:∀(l:List Oper) (Γ:List (Option Tmp × iZ)),Phi P (l0.map (·.dst)) a0 w0 Q Γ l→PhiWalk P l0.toArray a0 w0 Q Γ l
 | [],_,h=>h
 | o::l,Γ,⟨Φ,h1,h2,h3⟩=>⟨Φ,h1,fun ρ w hx hp hk=>by rw [sA];rw [uP] at hk;exact h2 ρ w hx hp hk,Phi.walk l _ h3⟩

theorem aX {id:Nat} {Q:Exit→Act→World→Prop} {a:Act} {w:World} {l:List Oper} (m:Nat) (ds:List (Option Tmp)) (l1 l2:List Oper) (hds:l.map (·.dst)=ds) (h1:l.take m=l1) (h2:l.drop m=l2)
  (hm:P.follows .mixedOrders=true) (hB:uN l.toArray m a.tmps.size=true) (hT:lB l.toArray m=true)
  (h:∀Q',(∀a' w',wpList P l.toArray Q l2 a' w'→Q' a' w')→Phi P ds a w Q' [] l1):(Code.region id l.toArray true).wp P Q a w:=by
 subst hds h1 h2
 exact BQ m hm hB hT (Phi.walk _ _ (h _ fun _ _ h=>h))

section steps
variable {ds:List (Option Tmp)} {Q:Act→World→Prop} {Γ:List (Option Tmp × iZ)} {d:Option Tmp} {op:Op} {ty:TypeId} {pos:String} {aft:Array Edge} {g:Option (Nat × Bool)} {l:List Oper}
theorem Phi.pure {v:Value} (h:∀ρ w,Ext w0 w→Plain ρ→KnowsAll a0 Γ ρ w (looks ds op.operands.toList g)→wanted ds ρ g=true∧(execOp ρ ⟨d,op,ty,"",#[],none⟩).run P w=.ok (.value v) w)
  (rest:Phi P ds a0 w0 Q (Γ++[(d,fun x _=>x=v)]) l):Phi P ds a0 w0 Q Γ (⟨d,op,ty,pos,aft,g⟩::l):=by
 refine⟨fun x _=>x=v,Stab.const v,fun ρ w hx hp hk=>?_,rest⟩
 obtain⟨h1,h2⟩:=h ρ w hx hp hk
 rw [if_pos h1]
 unfold OpGood
 have e:execOp ρ ⟨d,op,ty,pos,aft,g⟩=execOp ρ ⟨d,op,ty,"",#[],none⟩:=by cases op<;>rfl
 rw [e,h2]
 exact⟨Ext.refl _,rfl⟩
theorem Phi.skip (h:∀ρ w,Ext w0 w→Plain ρ→KnowsAll a0 Γ ρ w (looks ds op.operands.toList g)→wanted ds ρ g=false)
  (rest:Phi P ds a0 w0 Q (Γ++[(d,fun x _=>x=undef)]) l):Phi P ds a0 w0 Q Γ (⟨d,op,ty,pos,aft,g⟩::l):=by
 refine⟨fun x _=>x=undef,Stab.const _,fun ρ w hx hp hk=>?_,rest⟩
 rw [if_neg (by rw [h ρ w hx hp hk];exact Bool.false_ne_true)]
theorem Phi.make (Φ:iZ) (hs:Stab Φ) (h:∀ρ w,Ext w0 w→Plain ρ→KnowsAll a0 Γ ρ w (looks ds op.operands.toList g)→wanted ds ρ g=true∧OpGood P ⟨d,op,ty,"",#[],none⟩ ρ w Φ)
  (rest:Phi P ds a0 w0 Q (Γ++[(d,Φ)]) l):Phi P ds a0 w0 Q Γ (⟨d,op,ty,pos,aft,g⟩::l):=by
 refine⟨Φ,hs,fun ρ w hx hp hk=>?_,rest⟩
 obtain⟨h1,h2⟩:=h ρ w hx hp hk
 rw [if_pos h1]
 unfold OpGood at h2 ⊢
 have e:execOp ρ ⟨d,op,ty,pos,aft,g⟩=execOp ρ ⟨d,op,ty,"",#[],none⟩:=by cases op<;>rfl
 rw [e]
 exact h2
theorem Phi.done (h:∀w,Ext w0 w→Final Q w Γ a0):Phi P ds a0 w0 Q Γ []:=h
theorem OpGood.call {o:Oper} {ρ:Operand→Value} {w:World} {Φ:iZ} {f:FuncId} {args:Array Value} (hr:(execOp ρ o).run P w=.ok (.enter f args) w)
  (h:Calls P f args w (fun e w''=>∃v,e=.returned v∧Ext w w''∧Φ v w'')):OpGood P o ρ w Φ:=by
 unfold OpGood
 rw [hr]
 exact⟨Ext.refl _,h⟩
theorem fJ {f:FuncId} {args:Array Value} {w:World} {v:Value} (h:Calls P f args w fun e w'=>e=.returned v∧Ext w w'):Calls P f args w (fun e w''=>∃x,e=.returned x∧Ext w w''∧x=v) :=
 h.mono fun _ _ ⟨he,hx⟩=>⟨v,he,hx,rfl⟩
attribute [irreducible] Phi
end steps
end
end Go.Proofs.YtaeioidifpebdaaGreatDoor
