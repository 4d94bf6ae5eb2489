/-
  A region that draws its order and makes one variable's box: as Phi, but that what is known of slots is known beside that box (a ghost: its block, once it is made). No program in sight.
-/
import Derived.Test.YtdcmihhcpgkgiaaDoorPhi
import Derived.Test.YtdcmihhcpgkgiaaDoorOwn
namespace Go.Proofs.YtdcmihhcpgkgiaaDoor
open Go Go.RowKit

/-- Memory grows; boxes may be made. -/
def ExtG (w : World) (g : List Nat) (w' : World) (g' : List Nat) : Prop := Ext w w' ∧ ∃ l, g' = l ++ g ∧ ∀ b ∈ l, w.heap.size ≤ b ∧ b < w'.heap.size
theorem ExtG.refl (w : World) (g : List Nat) : ExtG w g w g := ⟨Ext.refl _, [], rfl, by simp⟩
theorem ExtG.of {w w' : World} (g : List Nat) (h : Ext w w') : ExtG w g w' g := ⟨h, [], rfl, by simp⟩
theorem ExtG.trans {w w' w'' : World} {g g' g'' : List Nat} (h : ExtG w g w' g') (k : ExtG w' g' w'' g'') : ExtG w g w'' g'' := by
  obtain ⟨h1, l1, rfl, h2⟩ := h
  obtain ⟨k1, l2, rfl, k2⟩ := k
  refine ⟨h1.trans k1, l2 ++ l1, by simp, fun b hb => ?_⟩
  rcases List.mem_append.1 hb with hb | hb
  · have := k2 b hb; have := h1.le; omega
  · have := h2 b hb; have := k1.le; omega
/-- Without the boxes. -/
def hidG (w : World) (g : List Nat) : World := only w fun k => decide (k ∉ g)
theorem hidG_keeps (w : World) (g : List Nat) : Keeps (hidG w g) w := only_keeps _ _
theorem hidG_ext {w w' : World} {g g' : List Nat} (h : ExtG w g w' g') : Keeps (hidG w g) (hidG w' g') := by
  obtain ⟨hx, l, rfl, h1⟩ := h
  refine Keeps.only fun k hp hk => ⟨?_, hx.block k hk⟩
  simp only [decide_eq_true_eq, List.mem_append, not_or] at hp ⊢
  exact ⟨fun hm => by have := (h1 k hm).1; omega, hp⟩
/-- What a call has made is beside the boxes. -/
theorem hidG_since {w w' : World} {g : List Nat} {w0 : World} (h0 : ExtG w0 [] w g) : Keeps (since w' w.heap.size) (hidG w' g) := by
  obtain ⟨hx, l, rfl, h1⟩ := h0
  rw [List.append_nil]
  exact Keeps.only fun k hp _ => ⟨by simp only [decide_eq_true_eq] at hp ⊢; exact fun hm => by have := (h1 k hm).2; omega, rfl⟩
/-- What was there ahead of the region is beside the boxes. -/
theorem hidG_old {w0 w : World} {g : List Nat} (h : ExtG w0 [] w g) : Keeps w0 (hidG w g) := by
  have h1 := hidG_ext h
  intro a v hc
  refine h1 a v ?_
  unfold hidG
  rw [only_cell, if_pos (by simp)]
  exact hc
/-- A box that is written stays hidden. -/
theorem hidG_heap {w w' : World} {g : List Nat} (h : ∀ k, k ∉ g → k < w.heap.size → w'.heap[k]? = w.heap[k]?) : Keeps (hidG w g) (hidG w' g) :=
  Keeps.only fun k hp hk => ⟨hp, h k (by simpa using hp) hk⟩
/-- A box. -/
def BoxG (o : Obj) (v : Value) (w : World) (g : List Nat) : Prop := ∃ b, v = .pointer (some ⟨b, 0, none⟩) ∧ b ∈ g ∧ w.heap[b]? = some o
theorem BoxG.ext {o : Obj} {v : Value} {w w' : World} {g g' : List Nat} (hx : ExtG w g w' g') : BoxG o v w g → BoxG o v w' g' := fun ⟨b, e, h1, h2⟩ => by
  obtain ⟨hx, l, rfl, -⟩ := hx
  exact ⟨b, e, List.mem_append_right _ h1, (hx.block b (Array.getElem?_eq_some_iff.1 h2).1).trans h2⟩
theorem ExtG.box (w : World) (g : List Nat) (o : Obj) : ExtG w g (w.alloc o) (w.heap.size :: g) := ⟨(Ext.refl _).alloc o, [w.heap.size], rfl, fun b hb => by
  rw [List.mem_singleton] at hb; subst hb; simp⟩
theorem BoxG.new (w : World) (g : List Nat) (o : Obj) : BoxG o (.pointer (some ⟨w.heap.size, 0, none⟩)) (w.alloc o) (w.heap.size :: g) := ⟨_, rfl, by simp, heap_new _ _⟩

abbrev GPred := Value → World → List Nat → Prop
def StabG (Φ : GPred) : Prop := ∀ v w g w' g', ExtG w g w' g' → Φ v w g → Φ v w' g'
theorem StabG.const (v : Value) : StabG fun x _ _ => x = v := fun _ _ _ _ _ _ h => h
def lookG : List (Option Tmp × GPred) → Tmp → Option GPred
  | [], _ => none
  | (d, Φ) :: Γ, t => if d = some t then some Φ else lookG Γ t
def KnowsG (a0 : Act) (Γ : List (Option Tmp × GPred)) (ρ : Operand → Value) (w : World) (g : List Nat) (t : Tmp) : Prop :=
  match lookG Γ t with
  | some Φ => Φ (ρ (.tmp t)) w g
  | none => ρ (.tmp t) = a0.eval (.tmp t)
def KnowsAllG (a0 : Act) (Γ : List (Option Tmp × GPred)) (ρ : Operand → Value) (w : World) (g : List Nat) : List Tmp → Prop
  | [] => True
  | t :: ts => KnowsG a0 Γ ρ w g t ∧ KnowsAllG a0 Γ ρ w g ts
theorem KnowsAllG.of {a0 : Act} {Γ : List (Option Tmp × GPred)} {ρ : Operand → Value} {w : World} {g : List Nat} : ∀ {ts : List Tmp}, (∀ t ∈ ts, KnowsG a0 Γ ρ w g t) → KnowsAllG a0 Γ ρ w g ts
  | [], _ => trivial
  | t :: ts, h => ⟨h t (by simp), KnowsAllG.of fun t' ht => h t' (by simp [ht])⟩
/-- What an operation must come to. -/
def GoodG (P : Program) (o : Oper) (ρ : Operand → Value) (w : World) (g : List Nat) (Φ : GPred) : Prop := OpGood P o ρ w fun v w' => ∃ g', ExtG w g w' g' ∧ Φ v w' g'
def OpOkG (P : Program) (ops : Array Oper) (a0 : Act) (w0 : World) (Γ : List (Option Tmp × GPred)) (o : Oper) (Φ : GPred) : Prop :=
  ∀ ρ w g, ExtG w0 [] w g → Plain ρ → KnowsAllG a0 Γ ρ w g (o.looksAt ops) → if wants ops ρ o then GoodG P o ρ w g Φ else Φ undef w g
def FinalG (Q : Act → World → Prop) (w : World) (g : List Nat) : List (Option Tmp × GPred) → Act → Prop
  | [], a => Q a w
  | (d, Φ) :: Γ, a => ∀ v, Φ v w g → FinalG Q w g Γ (a.put d v)
def PhiWalkG (P : Program) (ops : Array Oper) (a0 : Act) (w0 : World) (Q : Act → World → Prop) : List (Option Tmp × GPred) → List Oper → Prop
  | Γ, [] => ∀ w g, ExtG w0 [] w g → FinalG Q w g Γ a0
  | Γ, o :: l => ∃ Φ, StabG Φ ∧ OpOkG P ops a0 w0 Γ o Φ ∧ PhiWalkG P ops a0 w0 Q (Γ ++ [(o.dst, Φ)]) l

section
variable {P : Program} {ops : Array Oper} {a0 : Act} {w0 : World}
theorem PhiWalkG.parts {Q : Act → World → Prop} : ∀ (l : List Oper) (Γ : List (Option Tmp × GPred)), PhiWalkG P ops a0 w0 Q Γ l →
    ∃ Φs : List GPred, Φs.length = l.length ∧ (∀ i o Φ, l[i]? = some o → Φs[i]? = some Φ → StabG Φ ∧ OpOkG P ops a0 w0 (Γ ++ ((l.take i).map (·.dst)).zip (Φs.take i)) o Φ) ∧
      ∀ w g, ExtG w0 [] w g → FinalG Q w g (Γ ++ (l.map (·.dst)).zip Φs) a0
  | [], Γ, h => ⟨[], rfl, fun i o Φ hi => by simp at hi, fun w g hw => by simpa using h w g hw⟩
  | o :: l, Γ, h => by
    obtain ⟨Φ, h1, h2, h3⟩ := h
    obtain ⟨Φs, e, g1, g2⟩ := PhiWalkG.parts l _ h3
    refine ⟨Φ :: Φs, by simp [e], fun i o' Φ' hi hΦ => ?_, fun w g hw => by simpa using g2 w g hw⟩
    cases i with
    | zero => simp at hi hΦ; subst hi hΦ; exact ⟨h1, by simpa using h2⟩
    | succ i => simp at hi hΦ; obtain ⟨q1, q2⟩ := g1 i o' Φ' hi hΦ; exact ⟨q1, by simpa using q2⟩

theorem lookG_none {Γ : List (Option Tmp × GPred)} {t : Tmp} (h : lookG Γ t = none) : ∀ x ∈ Γ, x.1 ≠ some t := by
  induction Γ with
  | nil => intro x hx; cases hx
  | cons y Γ ih =>
    obtain ⟨d, Φ⟩ := y
    intro x hx
    simp only [lookG] at h
    split at h
    · cases h
    · rename_i hd
      rcases List.mem_cons.1 hx with rfl | hx
      · exact hd
      · exact ih h x hx
theorem lookG_some {Γ : List (Option Tmp × GPred)} {t : Tmp} {Φ : GPred} (h : lookG Γ t = some Φ) : (some t, Φ) ∈ Γ := by
  induction Γ with
  | nil => cases h
  | cons y Γ ih =>
    obtain ⟨d, Ψ⟩ := y
    simp only [lookG] at h
    split at h
    · rename_i hd; subst hd; cases h; simp
    · simp [ih h]

/-- The state while the first m operations come up in whatever order. -/
structure PhiInvG (ops : Array Oper) (m : Nat) (Φs : List GPred) (a0 : Act) (w0 : World) (vs : Nat → Value) (listed : Array Bool) (a : Act) (w : World) (g : List Nat) : Prop where
  head : HeadInv .any ops m listed
  ext : ExtG w0 [] w g
  size : a.tmps.size = a0.tmps.size
  defers : a.defers = a0.defers
  done : ∀ i o d, i < m → ops[i]? = some o → listed.getD i false = true → o.dst = some d → a.tmps[d]? = some (vs i)
  other : ∀ t, (∀ i o, i < m → ops[i]? = some o → listed.getD i false = true → o.dst ≠ some t) → a.tmps[t]? = a0.tmps[t]?
  sat : ∀ i Φ, i < m → listed.getD i false = true → Φs[i]? = some Φ → Φ (vs i) w g

theorem PhiInvG.next {m : Nat} {Φs : List GPred} {vs : Nat → Value} {listed : Array Bool} {a : Act} {w : World} {g : List Nat} (hl : PhiLook ops m a0.tmps.size) (inv : PhiInvG ops m Φs a0 w0 vs listed a w g)
    {i : Nat} {o : Oper} (ho : ops[i]? = some o) (him : i < m) (hr : i ∈ Region.ready .any ops listed) (hstab : ∀ Φ ∈ Φs, StabG Φ) {v : Value} {w' : World} {g' : List Nat} (hw : ExtG w g w' g') (hv : ∀ Φ, Φs[i]? = some Φ → Φ v w' g') :
    PhiInvG ops m Φs a0 w0 (fun k => if k = i then v else vs k) (listed.setIfInBounds i true) (a.put o.dst v) w' g' := by
  have hlist : ∀ j, j ≠ i → (listed.setIfInBounds i true).getD j false = listed.getD j false := fun j hj => getD_set_ne false (Ne.symm hj)
  have hti : (listed.setIfInBounds i true).getD i false = true := by
    have : i < listed.size := by rw [inv.head.size]; exact (Array.getElem?_eq_some_iff.1 ho).1
    simp [Array.getD_eq_getD_getElem?, this]
  refine ⟨inv.head.set hr him, inv.ext.trans hw, by rw [put_size]; exact inv.size, by rw [put_defers']; exact inv.defers, fun j oj d hj hoj hlj hd => ?_, fun t ht => ?_, fun j Φ hj hlj hΦ => ?_⟩
  · by_cases hji : j = i
    · subst hji
      rw [ho] at hoj; cases hoj
      rw [hd, if_pos rfl]
      exact put_get_eq (by rw [inv.size]; exact hl.bound j o d hj ho hd)
    · rw [hlist j hji] at hlj
      rw [put_get_ne (hl.unlike i j o oj d him hj hji ho hoj hd), if_neg hji]
      exact inv.done j oj d hj hoj hlj hd
  · rw [put_get_ne (ht i o him ho hti)]
    refine inv.other t fun j oj hj hoj hlj => ?_
    by_cases hji : j = i
    · subst hji; rw [ho] at hoj; cases hoj; exact ht j o hj ho hti
    · exact ht j oj hj hoj (by rw [hlist j hji]; exact hlj)
  · by_cases hji : j = i
    · subst hji; rw [if_pos rfl]; exact hv Φ hΦ
    · rw [if_neg hji]
      rw [hlist j hji] at hlj
      exact hstab Φ (List.mem_of_getElem? hΦ) _ _ _ _ _ hw (inv.sat j Φ hj hlj hΦ)

theorem mem_zip_takeG {l : List Oper} {Φs : List GPred} {i : Nat} {x : Option Tmp × GPred} (h : x ∈ ((l.take i).map (·.dst)).zip (Φs.take i)) :
    ∃ j o, j < i ∧ l[j]? = some o ∧ o.dst = x.1 ∧ Φs[j]? = some x.2 := by
  obtain ⟨j, hj⟩ := List.mem_iff_getElem?.1 h
  rw [List.getElem?_zip_eq_some] at hj
  obtain ⟨h1, h2⟩ := hj
  rw [List.getElem?_map, Option.map_eq_some_iff] at h1
  obtain ⟨o, ho, hd⟩ := h1
  rw [List.getElem?_take] at ho h2
  split at ho
  · rename_i hji
    rw [if_pos hji] at h2
    exact ⟨j, o, hji, ho, hd, h2⟩
  · cases ho

theorem zip_take_memG {l : List Oper} {Φs : List GPred} {i j : Nat} {o : Oper} {Φ : GPred} (hj : j < i) (ho : l[j]? = some o) (hΦ : Φs[j]? = some Φ) : (o.dst, Φ) ∈ ((l.take i).map (·.dst)).zip (Φs.take i) := by
  refine List.mem_iff_getElem?.2 ⟨j, ?_⟩
  rw [List.getElem?_zip_eq_some]
  refine ⟨?_, by rw [List.getElem?_take, if_pos hj]; exact hΦ⟩
  rw [List.getElem?_map, List.getElem?_take, if_pos hj, ho]; rfl

/-- One operation of the head comes up. -/
theorem phi_stepG {Op : Nat → (Act → World → Prop) → Act → World → Prop} (hop : OpMeans P ops Op) {m : Nat} {l : List Oper} {Φs : List GPred} {vs : Nat → Value} {listed : Array Bool} {a : Act} {w : World} {g : List Nat} (hops : ∀ i, i < m → l[i]? = ops[i]?) (hlen : Φs.length = m) (hl : PhiLook ops m a0.tmps.size)
    (hob : ∀ i o Φ, l[i]? = some o → Φs[i]? = some Φ → StabG Φ ∧ OpOkG P ops a0 w0 (((l.take i).map (·.dst)).zip (Φs.take i)) o Φ) (hstab : ∀ Φ ∈ Φs, StabG Φ)
    (inv : PhiInvG ops m Φs a0 w0 vs listed a w g) {i : Nat} (him : i < m) (hr : i ∈ Region.ready .any ops listed) {K : Act → World → Prop}
    (hK : ∀ vs' a' w' g', PhiInvG ops m Φs a0 w0 vs' (listed.setIfInBounds i true) a' w' g' → K a' w') : Op i K a w := by
  obtain ⟨hun, o, ho, hall⟩ := mem_ready.1 hr
  have hunf : listed.getD i false = false := getD_both hun
  obtain ⟨Φ, hΦ⟩ : ∃ Φ, Φs[i]? = some Φ := ⟨_, List.getElem?_eq_getElem (by omega)⟩
  obtain ⟨hs, hok⟩ := hob i o Φ (by rw [hops i him]; exact ho) hΦ
  have hk : KnowsAllG a0 (((l.take i).map (·.dst)).zip (Φs.take i)) a.eval w g (o.looksAt ops) := KnowsAllG.of fun t ht => by
    unfold KnowsG
    split
    · rename_i Ψ hΨ
      obtain ⟨j, oj, hji, hoj, hd, hΨj⟩ := mem_zip_takeG (lookG_some hΨ)
      rw [hops j (by omega)] at hoj
      have hwait := hl.early i j o oj t him hji ho hoj hd ht
      obtain ⟨o', ho', e, he, hb, hon⟩ := Region.waitsFor_spec hwait
      rw [ho] at ho'; cases ho'
      have hlj := hall e he hb
      rw [hon] at hlj
      rw [eval_tmp_of (inv.done j oj t (by omega) hoj hlj hd)]
      exact inv.sat j Ψ (by omega) hlj hΨj
    · rename_i hnone
      refine eval_tmp_same (inv.other t fun j oj hj hoj hlj hd => ?_)
      rcases Nat.lt_trichotomy j i with h | h | h
      · obtain ⟨Ψ, hΨ⟩ : ∃ Φ, Φs[j]? = some Φ := ⟨_, List.getElem?_eq_getElem (by omega)⟩
        exact lookG_none hnone _ (zip_take_memG h (by rw [hops j hj]; exact hoj) hΨ) hd
      · subst h; rw [hunf] at hlj; cases hlj
      · have hwait := hl.late i j o oj t him hj h ho hoj hd ht
        obtain ⟨o', ho', e, he, hb, hon⟩ := Region.waitsFor_spec hwait
        have hoj' : o' = oj := by rw [hoj] at ho'; exact (Option.some.inj ho').symm
        subst hoj'
        have := inv.head.closed j o' hoj hlj e he hb
        rw [hon, hunf] at this
        cases this
  have hgo := hok a.eval w g inv.ext ⟨fun _ => rfl, fun _ => rfl, fun _ => rfl⟩ hk
  refine hop i o (fun v w' => ∃ g', ExtG w g w' g' ∧ Φ v w' g') a w K ho ?_ fun v w' _ ⟨g', hw, hv⟩ => hK _ _ _ _ (inv.next hl ho him hr hstab hw fun Ψ hΨ => by rw [hΦ] at hΨ; cases hΨ; exact hv)
  split at hgo
  · rename_i h; rw [if_pos h]; exact hgo
  · rename_i h; rw [if_neg h]; exact ⟨g, ExtG.refl _ _, hgo⟩

theorem FinalG.at {Q : Act → World → Prop} {w : World} {g : List Nat} (vs : Nat → Value) (l : List Oper) : ∀ (Φs : List GPred) (k : Nat) (a : Act), Φs.length = l.length → FinalG Q w g ((l.map (·.dst)).zip Φs) a → (∀ (j : Nat) (Φ : GPred), Φs[j]? = some Φ → Φ (vs (k + j)) w g) → Q (puts vs l k a) w := by
  induction l with
  | nil => intro Φs k a _ h _; exact h
  | cons o l ih =>
    intro Φs k a he h hs
    cases Φs with
    | nil => simp at he
    | cons Φ Φs =>
      rw [puts]
      refine ih Φs (k + 1) _ (by simpa using he) (h (vs k) (hs 0 Φ (by simp))) (fun j Ψ hj => ?_)
      have := hs (j + 1) Ψ (by rw [List.getElem?_cons_succ]; exact hj)
      rwa [show k + (j + 1) = k + 1 + j by omega] at this
theorem phi_anyI {I : Array Bool → Act → World → Prop} {Op : Nat → (Act → World → Prop) → Act → World → Prop} {Qn : Act → World → Prop} {m g : Nat} (hl : PhiLook ops m a0.tmps.size) (hI : ∀ listed a w, I listed a w → HeadInv .any ops m listed)
    (hstep : ∀ (listed : Array Bool) (a : Act) (w : World), I listed a w → ∀ i, i < m → i ∈ Region.ready .any ops listed → ∀ K : Act → World → Prop, (∀ a' w', I (listed.setIfInBounds i true) a' w' → K a' w') → Op i K a w)
    (htail : m < ops.size → Region.sinkB .any ops m = true ∧ Region.chainB .any ops m = true)
    (hfin : ∀ a w, I (listedM ops.size m) a w → anyG ops Op Qn g (listedM ops.size m) a w) (hg : g = unlisted (listedM ops.size m)) :
    ∀ (fuel : Nat) (listed : Array Bool) (a : Act) (w : World), fuel = unlisted listed → I listed a w → anyG ops Op Qn fuel listed a w := by
  intro fuel
  induction fuel with
  | zero =>
    intro listed a w hf inv
    have hall : ∀ i, i < m → listed.getD i false = true := fun i hi => by
      cases hc : listed.getD i false with
      | true => rfl
      | false =>
        have hi' : i < listed.size := by rw [(hI _ _ _ inv).size]; have := hl.le; omega
        have := unlisted_set (getD_in hi' hc)
        omega
    have e := listedM_of (hI _ _ _ inv) hall
    subst e
    have := hfin a w inv
    rw [hg, ← hf] at this
    exact this
  | succ fuel ih =>
    intro listed a w hf inv
    by_cases hall : ∀ i, i < m → listed.getD i false = true
    · have e := listedM_of (hI _ _ _ inv) hall
      subst e
      have := hfin a w inv
      rw [hg, ← hf] at this
      exact this
    · have hex : ∃ i, i < m ∧ listed.getD i false = false := by
        apply Classical.byContradiction
        intro hn
        refine hall fun i hi => ?_
        cases hc : listed.getD i false with
        | true => rfl
        | false => exact absurd ⟨i, hi, hc⟩ hn
      obtain ⟨i0, hi0, hc0⟩ := hex
      have hsz := hl.le
      have hun0 : listed.getD i0 true = false := getD_in (by rw [(hI _ _ _ inv).size]; omega) hc0
      -- the least one that has not come up is ready
      have hready : ∃ i, i ∈ Region.ready .any ops listed := by
        have : ∀ k, k < m → listed.getD k false = false → ∃ i, i ∈ Region.ready .any ops listed := by
          intro k
          induction k using Nat.strongRecOn with
          | _ k ihk =>
            intro hk hck
            by_cases hr : k ∈ Region.ready .any ops listed
            · exact ⟨k, hr⟩
            · obtain ⟨o, ho⟩ : ∃ o, ops[k]? = some o := ⟨_, Array.getElem?_eq_getElem (by omega)⟩
              have hex : ∃ e ∈ o.after, Region.binds .any e = true ∧ listed.getD e.on false = false := by
                apply Classical.byContradiction
                intro hn
                refine hr (mem_ready.2 ⟨getD_in (by rw [(hI _ _ _ inv).size]; omega) hck, o, ho, fun e he hb => ?_⟩)
                cases hc : listed.getD e.on false with
                | true => rfl
                | false => exact absurd ⟨e, he, hb, hc⟩ hn
              obtain ⟨e, he, hb, hc⟩ := hex
              have := hl.back k o ho e he hb
              exact ihk e.on this (by omega) hc
        exact this i0 hi0 hc0
      refine ⟨fun hnil => ?_, fun i hi => ?_⟩
      · obtain ⟨i, hi⟩ := hready
        rw [hnil] at hi; cases hi
      · have him : i < m := by
          rcases Nat.lt_or_ge i m with h | h
          · exact h
          · exfalso
            have hio : i < ops.size := by
              obtain ⟨_, o, ho, _⟩ := mem_ready.1 hi
              exact (Array.getElem?_eq_some_iff.1 ho).1
            obtain ⟨t1, t2⟩ := htail (by omega)
            exact tail_waits t1 t2 (by omega) (hI _ _ _ inv) (m - i0) i0 rfl hi0 hun0 i h hi
        refine hstep listed a w inv i him hi _ fun a' w' inv' => ih _ a' w' ?_ inv'
        have := unlisted_set (mem_ready.1 hi).1
        omega

/-- The first m operations in whatever order, over whatever meaning of one operation. -/
theorem phi_regionG {Op : Nat → (Act → World → Prop) → Act → World → Prop} {Qn Qh : Act → World → Prop} {a : Act} {w : World} {l : List Oper} (m : Nat) (hop : OpMeans P l.toArray Op) (hB : phiB l.toArray m a.tmps.size = true) (hT : tailB l.toArray m = true)
    (h : PhiWalkG P l.toArray a w Qh [] (l.take m)) (hend : ∀ a' w', Qh a' w' → anyG l.toArray Op Qn (l.toArray.size - m) (listedM l.toArray.size m) a' w') :
    anyG l.toArray Op Qn l.toArray.size (Array.replicate l.toArray.size false) a { w with drawn := w.drawn + 1 } := by
  have hl := phiB_spec hB
  simp only [tailB, Bool.and_eq_true, Bool.or_eq_true, decide_eq_true_eq] at hT
  obtain ⟨⟨t1, t2⟩, t3⟩ := hT
  have hml : m ≤ l.length := by simpa using hl.le
  obtain ⟨Φs, hlen, hob, hfin⟩ := PhiWalkG.parts _ _ h
  rw [List.length_take, Nat.min_eq_left hml] at hlen
  have hstab : ∀ Φ ∈ Φs, StabG Φ := fun Φ hΦ => by
    obtain ⟨i, hi⟩ := List.mem_iff_getElem?.1 hΦ
    have hil : i < Φs.length := (List.getElem?_eq_some_iff.1 hi).1
    exact (hob i _ Φ (List.getElem?_eq_getElem (by rw [List.length_take]; omega)) hi).1
  have hops : ∀ i, i < m → (l.take m)[i]? = l.toArray[i]? := fun i hi => by
    rw [List.getElem?_take, if_pos hi]; simp
  have inv0 : PhiInvG l.toArray m Φs a w (fun _ => undef) (Array.replicate l.toArray.size false) a { w with drawn := w.drawn + 1 } [] := by
    have hno : ∀ i, (Array.replicate l.toArray.size false).getD i false = true → False := fun i hi => by rw [getD_replicate_false] at hi; cases hi
    exact ⟨⟨by simp, fun j oj _ hl => (hno j hl).elim, fun t _ ht => getD_in (by simpa using ht) (getD_replicate_false _ _)⟩, ExtG.of [] (Ext.refl w).drew, rfl, rfl, fun i o d _ _ hl => (hno i hl).elim, fun _ _ => rfl, fun i Φ _ hl => (hno i hl).elim⟩
  refine phi_anyI (I := fun listed a' w' => ∃ vs g', PhiInvG l.toArray m Φs a w vs listed a' w' g') (g := l.toArray.size - m) hl (fun _ _ _ ⟨_, _, h⟩ => h.head) (fun listed a' w' ⟨vs, g', inv⟩ i him hr K hK => phi_stepG hop hops hlen hl (by simpa using hob) hstab inv him hr fun vs' a'' w'' g'' h => hK _ _ ⟨vs', g'', h⟩) (fun hlt => by rcases t1 with t1 | t1; exact absurd t1 (by omega); exact t1) (fun a' w' ⟨vs, g', inv⟩ => hend _ _ ?_) t3.symm _ _ _ _ ?_ ⟨_, _, inv0⟩
  · have hall : ∀ i, i < m → (listedM l.toArray.size m).getD i false = true := fun i hi => by
      have hi' : i < l.length := by omega
      simp [listedM, hi', hi]
    have hp := FinalG.at (g := g') vs (l.take m) Φs 0 a (by rw [hlen, List.length_take, Nat.min_eq_left hml]) (by simpa using hfin w' g' inv.ext) (fun j Φ hj => by
      have hjl : j < Φs.length := (List.getElem?_eq_some_iff.1 hj).1
      rw [Nat.zero_add]
      exact inv.sat j Φ (by omega) (hall j (by omega)) hj)
    have e : puts vs (l.take m) 0 a = a' := by
      refine act_ext (by rw [puts_defers]; exact inv.defers.symm) (fun t => ?_)
      by_cases hex : ∃ j o, j < m ∧ l.toArray[j]? = some o ∧ o.dst = some t
      · obtain ⟨j, o, hj, ho, hd⟩ := hex
        rw [puts_eq vs (l.take m) 0 a j o (hl.bound j o t hj ho hd) (by rw [hops j hj]; exact ho) hd (fun j' o' hj' hne => ?_), Nat.zero_add]
        · exact (inv.done j o t hj ho (hall j hj) hd).symm
        · have hj'm : j' < m := by have := (List.getElem?_eq_some_iff.1 hj').1; rw [List.length_take] at this; omega
          rw [hops j' hj'm] at hj'
          exact hl.unlike j' j o' o t hj'm hj (Ne.symm hne) hj' ho hd
      · rw [puts_ne vs (l.take m) 0 a (fun o ho hd => ?_)]
        · exact (inv.other t fun j o hj ho _ hd => hex ⟨j, o, hj, ho, hd⟩).symm
        · obtain ⟨j, hj⟩ := List.mem_iff_getElem?.1 ho
          have hjm : j < m := by have := (List.getElem?_eq_some_iff.1 hj).1; rw [List.length_take] at this; omega
          rw [hops j hjm] at hj
          exact hex ⟨j, o, hjm, hj, hd⟩
    rw [e] at hp
    exact hp
  · simp [unlisted]

/-- **A region that draws its order**: its first m operations, each met once; what stands behind them in its one order. -/
theorem wp_region_phiG {id : Nat} {Q : Exit → Act → World → Prop} {a : Act} {w : World} {l : List Oper} (m : Nat) (hm : P.follows .mixedOrders = true) (hB : phiB l.toArray m a.tmps.size = true) (hT : tailB l.toArray m = true)
    (h : PhiWalkG P l.toArray a w (fun a' w' => wpList P l.toArray Q (l.drop m) a' w') [] (l.take m)) : (Code.region id l.toArray true).wp P Q a w := by
  refine wp_region_any hm (anyG_wp _ _ _ _ (phi_regionG m opMeans_wp hB hT h fun a' w' hp => wp_anyG _ _ _ _ ?_))
  simp only [tailB, Bool.and_eq_true] at hT
  have hdl : (l.drop m).length = l.toArray.size - m := by simp
  have := wpAny_of_seq (md := .any) (Q' := Q) (l.drop m) m (listedM l.toArray.size m) a' w' (fun j => by simp [List.getElem?_drop]) (by rw [hdl]; exact hT.1.2) hp
  rwa [hdl] at this

/-- The walk in the order of the text, by what is needed alone. -/
def PhiG (P : Program) (ds : List (Option Tmp)) (a0 : Act) (w0 : World) (Q : Act → World → Prop) : List (Option Tmp × GPred) → List Oper → Prop
  | Γ, [] => ∀ w g, ExtG w0 [] w g → FinalG Q w g Γ a0
  | Γ, o :: l => ∃ Φ, StabG Φ ∧ (∀ ρ w g, ExtG w0 [] w g → Plain ρ → KnowsAllG a0 Γ ρ w g (looks ds o.op.operands.toList o.guard) → if wanted ds ρ o.guard then GoodG P o ρ w g Φ else Φ undef w g) ∧ PhiG P ds a0 w0 Q (Γ ++ [(o.dst, Φ)]) l
theorem PhiG.walk {l0 : List Oper} {Q : Act → World → Prop} : ∀ (l : List Oper) (Γ : List (Option Tmp × GPred)), PhiG P (l0.map (·.dst)) a0 w0 Q Γ l → PhiWalkG P l0.toArray a0 w0 Q Γ l
  | [], _, h => h
  | o :: l, Γ, ⟨Φ, h1, h2, h3⟩ => ⟨Φ, h1, fun ρ w g hx hp hk => by rw [wanted_eq]; rw [looks_eq] at hk; exact h2 ρ w g hx hp hk, PhiG.walk l _ h3⟩
/-- **A region that draws its order, with a box**. -/
theorem wp_region_eachG {id : Nat} {Q : Exit → Act → World → Prop} {a : Act} {w : World} {l : List Oper} (m : Nat) (ds : List (Option Tmp)) (l1 l2 : List Oper) (hds : l.map (·.dst) = ds) (h1 : l.take m = l1) (h2 : l.drop m = l2)
    (hm : P.follows .mixedOrders = true) (hB : phiB l.toArray m a.tmps.size = true) (hT : tailB l.toArray m = true)
    (h : ∀ Q', (∀ a' w', wpList P l.toArray Q l2 a' w' → Q' a' w') → PhiG P ds a w Q' [] l1) : (Code.region id l.toArray true).wp P Q a w := by
  subst hds h1 h2
  exact wp_region_phiG m hm hB hT (PhiG.walk _ _ (h _ fun _ _ h => h))

section steps
variable {ds : List (Option Tmp)} {Q : Act → World → Prop} {Γ : List (Option Tmp × GPred)} {d : Option Tmp} {op : Op} {ty : TypeId} {pos : String} {aft : Array Edge} {gd : Option (Nat × Bool)} {l : List Oper}
/-- An operation that yields one value, whatever the world. -/
theorem PhiG.pure {v : Value} (h : ∀ ρ w g, ExtG w0 [] w g → Plain ρ → KnowsAllG a0 Γ ρ w g (looks ds op.operands.toList gd) → wanted ds ρ gd = true ∧ (execOp ρ ⟨d, op, ty, "", #[], none⟩).run P w = .ok (.value v) w)
    (rest : PhiG P ds a0 w0 Q (Γ ++ [(d, fun x _ _ => x = v)]) l) : PhiG P ds a0 w0 Q Γ (⟨d, op, ty, pos, aft, gd⟩ :: l) := by
  refine ⟨fun x _ _ => x = v, StabG.const v, fun ρ w g hx hp hk => ?_, rest⟩
  obtain ⟨h1, h2⟩ := h ρ w g hx hp hk
  rw [if_pos h1]
  unfold GoodG OpGood
  have e : execOp ρ ⟨d, op, ty, pos, aft, gd⟩ = execOp ρ ⟨d, op, ty, "", #[], none⟩ := by cases op <;> rfl
  rw [e, h2]
  exact ⟨Ext.refl _, g, ExtG.refl _ _, rfl⟩
/-- An operation that is passed over. -/
theorem PhiG.skip (h : ∀ ρ w g, ExtG w0 [] w g → Plain ρ → KnowsAllG a0 Γ ρ w g (looks ds op.operands.toList gd) → wanted ds ρ gd = false)
    (rest : PhiG P ds a0 w0 Q (Γ ++ [(d, fun x _ _ => x = undef)]) l) : PhiG P ds a0 w0 Q Γ (⟨d, op, ty, pos, aft, gd⟩ :: l) := by
  refine ⟨fun x _ _ => x = undef, StabG.const _, fun ρ w g hx hp hk => ?_, rest⟩
  rw [if_neg (by rw [h ρ w g hx hp hk]; exact Bool.false_ne_true)]
/-- An operation that makes memory, or a call. -/
theorem PhiG.make (Φ : GPred) (hs : StabG Φ) (h : ∀ ρ w g, ExtG w0 [] w g → Plain ρ → KnowsAllG a0 Γ ρ w g (looks ds op.operands.toList gd) → wanted ds ρ gd = true ∧ OpGood P ⟨d, op, ty, "", #[], none⟩ ρ w fun v w' => ∃ g', ExtG w g w' g' ∧ Φ v w' g')
    (rest : PhiG P ds a0 w0 Q (Γ ++ [(d, Φ)]) l) : PhiG P ds a0 w0 Q Γ (⟨d, op, ty, pos, aft, gd⟩ :: l) := by
  refine ⟨Φ, hs, fun ρ w g hx hp hk => ?_, rest⟩
  obtain ⟨h1, h2⟩ := h ρ w g hx hp hk
  rw [if_pos h1]
  unfold GoodG
  unfold OpGood at h2 ⊢
  have e : execOp ρ ⟨d, op, ty, pos, aft, gd⟩ = execOp ρ ⟨d, op, ty, "", #[], none⟩ := by cases op <;> rfl
  rw [e]
  exact h2
/-- Behind the last. -/
theorem PhiG.done (h : ∀ w g, ExtG w0 [] w g → FinalG Q w g Γ a0) : PhiG P ds a0 w0 Q Γ [] := h
/-- A contract that names the value. -/
theorem phiG_const {f : FuncId} {args : Array Value} {w : World} {g : List Nat} {v : Value} (h : Calls P f args w fun e w' => e = .returned v ∧ Ext w w') : Calls P f args w (fun e w'' => ∃ x, e = .returned x ∧ Ext w w'' ∧ ∃ g', ExtG w g w'' g' ∧ x = v) :=
  h.mono fun _ _ ⟨he, hx⟩ => ⟨v, he, hx, g, ExtG.of g hx, rfl⟩
/-- A contract whose result is new memory. -/
theorem phiG_fresh {f : FuncId} {args : Array Value} {w : World} {g : List Nat} {w0 : World} {R : World → Value → Prop} (hk : ∀ {a b : World} {v : Value}, Keeps a b → R a v → R b v) (h0 : ExtG w0 [] w g) (h : Calls P f args w fun e w' => ∃ v, e = .returned v ∧ Ext w w' ∧ R (since w' w.heap.size) v) :
    Calls P f args w (fun e w'' => ∃ x, e = .returned x ∧ Ext w w'' ∧ ∃ g', ExtG w g w'' g' ∧ R (hidG w'' g') x) :=
  h.mono fun _ _ ⟨v, he, hx, hv⟩ => ⟨v, he, hx, g, ExtG.of g hx, hk (hidG_since h0) hv⟩
attribute [irreducible] PhiG
end steps
end
end Go.Proofs.YtdcmihhcpgkgiaaDoor
