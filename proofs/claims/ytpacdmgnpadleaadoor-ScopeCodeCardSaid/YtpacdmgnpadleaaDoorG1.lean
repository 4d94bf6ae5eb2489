/-
 Laid together: Gl, Abs1, Abs2, Abs3, Abs4, Abs5, Abs6, AbsB, AbsC.
-/
import Derived.Test.YtpacdmgnpadleaaDoorText
import Derived.Test.YtpacdmgnpadleaaDoorOwn
import Derived.Test.YtpacdmgnpadleaaDoorPhi
import Derived.Laws.Cells
import Derived.Laws.Strings
import Derived.WalkKit
import Derived.Laws.CopyRow
section
namespace Go.Proofs.YtpacdmgnpadleaaDoor
open Go.RowKit
set_option linter.unusedSimpArgs false
set_option linter.unusedVariables false
def GB (b : Nat) : Bool := b == Tryd.lays196_ren.g 3 || b == Tryd.lays196_ren.g 4
def GL (w : World) : Prop := Tabs w
theorem GL.stays {w w' : World} (h : ∀ b, GB b = true → w'.heap[b]? = w.heap[b]?) (g : GL w) : GL w' :=
 ⟨fun c hc => (World.cell?_of_block (h _ (by simp [GB]))).trans (g.1 c hc), fun i hi => ⟨(World.cell?_of_block (h _ (by simp [GB]))).trans (g.2 i hi).1, (World.cell?_of_block (h _ (by simp [GB]))).trans (g.2 i hi).2⟩⟩
end Go.Proofs.YtpacdmgnpadleaaDoor
end
section
namespace Go.Proofs.YtpacdmgnpadleaaDoor
open Go Go.RowKit
set_option linter.unusedSimpArgs false
set_option linter.unusedVariables false
inductive C where
 | any
 | v (x : Value)
 | sl (wd : Nat) (es : List (List C))
 | ms (loc n : Nat)
 | ptr (loc n i off : Nat)
 | pf (cs : List C)
 | fn (f : FuncId) (caps : List C)
inductive A where
 | any
 | one (c : C)
 | agg (cs : List C)
 | tup (l : List A)
structure Lo where
 b : Nat
 n : Nat
 cap : Nat
 wd : Nat
structure Cx where
 r : World
 lk : List Lo
mutual
def Cc (X : Cx) : C → Value → Prop
 | .any, u => u.oneCell' = true
 | .v x, u => u = x ∧ x.oneCell' = true
 | .sl wd es, u => (∀ e ∈ es, e.length = wd) ∧ ((es = [] ∧ NoRow u) ∨ ∃ b o cap, u = .slice (some ⟨b, o, none⟩) es.length cap ∧ es.length ≤ cap ∧ cap ≤ maxLen ∧ Crow ⟨X.r, []⟩ es b o)
 | .ms loc n, u => (∃ q c, u = .slice q n c) ∧ ∃ l, X.lk[loc]? = some l ∧ n ≤ l.n ∧ (n = l.n → u = .slice (some ⟨l.b, 0, none⟩) n l.cap)
 | .ptr loc n i off, u => u.oneCell' = true ∧ ∃ l, X.lk[loc]? = some l ∧ n ≤ l.n ∧ (n = l.n → u = .pointer (some ⟨l.b, i * l.wd + off, none⟩))
 | .pf cs, u => ∃ b o vs, u = .pointer (some ⟨b, o, none⟩) ∧ CellsAt X.r b o vs ∧ Ccs ⟨X.r, []⟩ cs vs
 | .fn f caps, u => ∃ vs : List Value, u = .func (.func f) #[] vs.toArray ∧ Ccs X caps vs
def Ccs (X : Cx) : List C → List Value → Prop
 | [], us => us = []
 | c :: cs, us => ∃ u r, us = u :: r ∧ Cc X c u ∧ Ccs X cs r
def Crow (X : Cx) : List (List C) → Nat → Nat → Prop
 | [], _, _ => True
 | e :: es, b, o => ∃ vs, CellsAt X.r b o vs ∧ Ccs X e vs ∧ Crow X es b (o + vs.length)
end
mutual
def Ca (X : Cx) : A → Value → Prop
 | .any, _ => True
 | .one c, u => Cc X c u
 | .agg cs, u => ∃ us : List Value, u = .agg us.toArray ∧ Ccs X cs us
 | .tup l, u => ∃ us : List Value, u = .tuple us.toArray ∧ Cas X l us
def Cas (X : Cx) : List A → List Value → Prop
 | [], us => us = []
 | a :: l, us => ∃ u r, us = u :: r ∧ Ca X a u ∧ Cas X l r
end
def Up (m m' : List Lo) : Prop := ∀ (i : Nat) (l : Lo), m[i]? = some l → ∃ l' : Lo, m'[i]? = some l' ∧ l.n ≤ l'.n ∧ (l.n = l'.n → l' = l)
theorem Up.refl (m : List Lo) : Up m m := fun i l h => ⟨l, h, Nat.le_refl _, fun _ => rfl⟩
theorem Up.trans {a b c : List Lo} (h : Up a b) (k : Up b c) : Up a c := fun i l hl => by
 obtain ⟨l', h1, h2, h3⟩ := h i l hl
 obtain ⟨l'', k1, k2, k3⟩ := k i l' h1
 refine ⟨l'', k1, Nat.le_trans h2 k2, fun e => ?_⟩
 have e1 : l.n = l'.n := by omega
 have := h3 e1
 subst this
 exact k3 e
theorem Up.append (m n : List Lo) : Up m (m ++ n) := fun i l h => ⟨l, by rw [List.getElem?_append_left (List.getElem?_eq_some_iff.1 h).1]; exact h, Nat.le_refl _, fun _ => rfl⟩
theorem Up.nil (m : List Lo) : Up [] m := fun i l h => by simp at h
theorem ms_up {m m' : List Lo} (h : Up m m') {loc n : Nat} {Φ : Lo → Prop} (hc : ∃ l, m[loc]? = some l ∧ n ≤ l.n ∧ (n = l.n → Φ l)) : ∃ l, m'[loc]? = some l ∧ n ≤ l.n ∧ (n = l.n → Φ l) := by
 obtain ⟨l, h1, h2, h3⟩ := hc
 obtain ⟨l', k1, k2, k3⟩ := h loc l h1
 refine ⟨l', k1, Nat.le_trans h2 k2, fun e => ?_⟩
 have e1 : l.n = l'.n := by omega
 have := k3 e1
 subst this
 exact h3 e
mutual
theorem Cc.keep {X X' : Cx} (hk : Keeps X.r X'.r) (hu : Up X.lk X'.lk) : ∀ {c : C} {u : Value}, Cc X c u → Cc X' c u
 | .any, u, h => by simpa only [Cc] using h
 | .v x, u, h => by simpa only [Cc] using h
 | .sl wd es, u, h => by
  simp only [Cc] at h ⊢
  rcases h with ⟨h0, h | ⟨b, o, cap, e, l1, l2, h⟩⟩
  ·exact ⟨h0, .inl h⟩
  ·exact ⟨h0, .inr ⟨b, o, cap, e, l1, l2, Crow.keep (X := ⟨X.r, []⟩) (X' := ⟨X'.r, []⟩) hk (Up.refl _) h⟩⟩
 | .ms loc n, u, h => by simp only [Cc] at h ⊢; exact ⟨h.1, ms_up hu h.2⟩
 | .ptr loc n i off, u, h => by simp only [Cc] at h ⊢; exact ⟨h.1, ms_up hu h.2⟩
 | .pf cs, u, h => by
  simp only [Cc] at h ⊢
  obtain ⟨b, o, vs, e, h1, h2⟩ := h
  exact ⟨b, o, vs, e, h1.keep hk, Ccs.keep (X := ⟨X.r, []⟩) (X' := ⟨X'.r, []⟩) hk (Up.refl _) h2⟩
 | .fn f caps, u, h => by
  simp only [Cc] at h ⊢
  obtain ⟨vs, e, h1⟩ := h
  exact ⟨vs, e, Ccs.keep hk hu h1⟩
theorem Ccs.keep {X X' : Cx} (hk : Keeps X.r X'.r) (hu : Up X.lk X'.lk) : ∀ {cs : List C} {us : List Value}, Ccs X cs us → Ccs X' cs us
 | [], us, h => by simpa only [Ccs] using h
 | c :: cs, us, h => by
  simp only [Ccs] at h ⊢
  obtain ⟨u, r, e, h1, h2⟩ := h
  exact ⟨u, r, e, Cc.keep hk hu h1, Ccs.keep hk hu h2⟩
theorem Crow.keep {X X' : Cx} (hk : Keeps X.r X'.r) (hu : Up X.lk X'.lk) : ∀ {es : List (List C)} {b o : Nat}, Crow X es b o → Crow X' es b o
 | [], _, _, _ => by simp only [Crow]
 | e :: es, b, o, h => by
  simp only [Crow] at h ⊢
  obtain ⟨vs, h1, h2, h3⟩ := h
  exact ⟨vs, h1.keep hk, Ccs.keep hk hu h2, Crow.keep hk hu h3⟩
end
mutual
theorem Ca.keep {X X' : Cx} (hk : Keeps X.r X'.r) (hu : Up X.lk X'.lk) : ∀ {a : A} {u : Value}, Ca X a u → Ca X' a u
 | .any, u, h => by simp only [Ca]
 | .one c, u, h => by simp only [Ca] at h ⊢; exact h.keep hk hu
 | .agg cs, u, h => by
  simp only [Ca] at h ⊢
  obtain ⟨us, e, h⟩ := h
  exact ⟨us, e, h.keep hk hu⟩
 | .tup l, u, h => by
  simp only [Ca] at h ⊢
  obtain ⟨us, e, h⟩ := h
  exact ⟨us, e, Cas.keep hk hu h⟩
theorem Cas.keep {X X' : Cx} (hk : Keeps X.r X'.r) (hu : Up X.lk X'.lk) : ∀ {l : List A} {us : List Value}, Cas X l us → Cas X' l us
 | [], us, h => by simpa only [Cas] using h
 | a :: l, us, h => by
  simp only [Cas] at h ⊢
  obtain ⟨u, r, e, h1, h2⟩ := h
  exact ⟨u, r, e, Ca.keep hk hu h1, Cas.keep hk hu h2⟩
end
theorem Cc.one {X : Cx} : ∀ {c : C} {u : Value}, Cc X c u → u.oneCell' = true
 | .any, u, h => by simpa only [Cc] using h
 | .v x, u, h => by simp only [Cc] at h; obtain ⟨rfl, h⟩ := h; exact h
 | .sl wd es, u, h => by
  simp only [Cc] at h
  rcases h with ⟨-, ⟨_, rfl | ⟨a, cap, rfl, _⟩⟩ | ⟨b, o, cap, rfl, _⟩⟩ <;> rfl
 | .ms loc n, u, h => by simp only [Cc] at h; obtain ⟨⟨q, c, rfl⟩, -⟩ := h; rfl
 | .ptr loc n i off, u, h => by simp only [Cc] at h; exact h.1
 | .pf cs, u, h => by
  simp only [Cc] at h
  obtain ⟨b, o, vs, rfl, _⟩ := h
  rfl
 | .fn f caps, u, h => by
  simp only [Cc] at h
  obtain ⟨vs, rfl, _⟩ := h
  rfl
theorem Ccs.len {X : Cx} : ∀ {cs : List C} {us : List Value}, Ccs X cs us → us.length = cs.length
 | [], us, h => by simp only [Ccs] at h; subst h; rfl
 | c :: cs, us, h => by
  simp only [Ccs] at h
  obtain ⟨u, r, rfl, _, h2⟩ := h
  simp [Ccs.len h2]
theorem Ccs.one {X : Cx} : ∀ {cs : List C} {us : List Value}, Ccs X cs us → ∀ u ∈ us, u.oneCell' = true
 | [], us, h, u, hu => by simp only [Ccs] at h; subst h; cases hu
 | c :: cs, us, h, u, hu => by
  simp only [Ccs] at h
  obtain ⟨u', r, rfl, h1, h2⟩ := h
  rcases List.mem_cons.1 hu with rfl | hu
  ·exact h1.one
  ·exact Ccs.one h2 u hu
theorem Ccs.at {X : Cx} : ∀ {cs : List C} {us : List Value}, Ccs X cs us → ∀ {i : Nat} {c : C}, cs[i]? = some c → ∃ u, us[i]? = some u ∧ Cc X c u
 | c :: cs, us, h, 0, c', hc => by
  simp only [Ccs] at h
  obtain ⟨u, r, rfl, h1, h2⟩ := h
  simp at hc; subst hc
  exact ⟨u, rfl, h1⟩
 | c :: cs, us, h, i + 1, c', hc => by
  simp only [Ccs] at h
  obtain ⟨u, r, rfl, h1, h2⟩ := h
  obtain ⟨u', e, h'⟩ := Ccs.at h2 (i := i) (by simpa using hc)
  exact ⟨u', by simpa using e, h'⟩
theorem Ccs.append {X : Cx} : ∀ {cs ds : List C} {us : List Value}, Ccs X (cs ++ ds) us ↔ ∃ u1 u2, us = u1 ++ u2 ∧ Ccs X cs u1 ∧ Ccs X ds u2
 | [], ds, us => by
  simp only [List.nil_append, Ccs]
  exact ⟨fun h => ⟨[], us, rfl, rfl, h⟩, fun ⟨u1, u2, e, h1, h2⟩ => by subst h1; rw [e]; exact h2⟩
 | c :: cs, ds, us => by
  simp only [List.cons_append, Ccs]
  constructor
  ·rintro ⟨u, r, rfl, h1, h2⟩
   obtain ⟨u1, u2, rfl, h3, h4⟩ := Ccs.append.1 h2
   exact ⟨u :: u1, u2, rfl, ⟨u, u1, rfl, h1, h3⟩, h4⟩
  ·rintro ⟨u1, u2, rfl, ⟨u, r, rfl, h1, h2⟩, h3⟩
   exact ⟨u, r ++ u2, rfl, h1, Ccs.append.2 ⟨r, u2, rfl, h2, h3⟩⟩
theorem Ccs.take {X : Cx} {cs : List C} {us : List Value} (h : Ccs X cs us) (n : Nat) : Ccs X (cs.take n) (us.take n) := by
 induction cs generalizing us n with
 | nil => simp only [Ccs] at h; subst h; simp [Ccs]
 | cons c cs ih =>
  simp only [Ccs] at h
  obtain ⟨u, r, rfl, h1, h2⟩ := h
  cases n with
  | zero => simp [Ccs]
  | succ n => simp only [List.take_succ_cons, Ccs]; exact ⟨u, _, rfl, h1, ih h2 n⟩
theorem Ccs.drop {X : Cx} {cs : List C} {us : List Value} (h : Ccs X cs us) (n : Nat) : Ccs X (cs.drop n) (us.drop n) := by
 induction cs generalizing us n with
 | nil => simp only [Ccs] at h; subst h; simp [Ccs]
 | cons c cs ih =>
  simp only [Ccs] at h
  obtain ⟨u, r, rfl, h1, h2⟩ := h
  cases n with
  | zero => simp only [List.drop_zero, Ccs]; exact ⟨u, r, rfl, h1, h2⟩
  | succ n => simp only [List.drop_succ_cons]; exact ih h2 n
theorem Cas.len {X : Cx} : ∀ {l : List A} {us : List Value}, Cas X l us → us.length = l.length
 | [], us, h => by simp only [Cas] at h; subst h; rfl
 | c :: cs, us, h => by
  simp only [Cas] at h
  obtain ⟨u, r, rfl, _, h2⟩ := h
  simp [Cas.len h2]
theorem Cas.at {X : Cx} : ∀ {l : List A} {us : List Value}, Cas X l us → ∀ {i : Nat} {a : A}, l[i]? = some a → ∃ u, us[i]? = some u ∧ Ca X a u
 | c :: cs, us, h, 0, c', hc => by
  simp only [Cas] at h
  obtain ⟨u, r, rfl, h1, h2⟩ := h
  simp at hc; subst hc
  exact ⟨u, rfl, h1⟩
 | c :: cs, us, h, i + 1, c', hc => by
  simp only [Cas] at h
  obtain ⟨u, r, rfl, h1, h2⟩ := h
  obtain ⟨u', e, h'⟩ := Cas.at h2 (i := i) (by simpa using hc)
  exact ⟨u', by simpa using e, h'⟩
theorem Crow.get {X : Cx} {b n : Nat} : ∀ {es : List (List C)} {o : Nat} (_ : Crow X es b o) (_ : ∀ e ∈ es, e.length = n) (i : Nat) (e : List C) (_ : es[i]? = some e),
  ∃ vs, CellsAt X.r b (o + i * n) vs ∧ Ccs X e vs
 | e :: es, o, h, hw, 0, e', he => by
  simp only [Crow] at h
  obtain ⟨vs, h1, h2, _⟩ := h
  simp at he; subst he
  exact ⟨vs, by simpa using h1, h2⟩
 | e :: es, o, h, hw, i + 1, e', he => by
  simp only [Crow] at h
  obtain ⟨vs, _, h2, h3⟩ := h
  have hl : vs.length = n := by rw [h2.len]; exact hw e (by simp)
  rw [hl] at h3
  obtain ⟨vs', a1, a2⟩ := Crow.get h3 (fun x hx => hw x (by simp [hx])) i e' (by simpa using he)
  refine ⟨vs', ?_, a2⟩
  rw [show o + (i + 1) * n = o + n + i * n by rw [Nat.add_mul]; omega]
  exact a1
theorem Crow.drop {X : Cx} {b n : Nat} : ∀ {es : List (List C)} {o : Nat} (_ : Crow X es b o) (_ : ∀ e ∈ es, e.length = n) (i : Nat) (_ : i ≤ es.length), Crow X (es.drop i) b (o + i * n)
 | es, o, h, hw, 0, _ => by simpa using h
 | e :: es, o, h, hw, i + 1, hi => by
  simp only [Crow] at h
  obtain ⟨vs, _, h2, h3⟩ := h
  have hl : vs.length = n := by rw [h2.len]; exact hw e (by simp)
  rw [hl] at h3
  have := Crow.drop h3 (fun x hx => hw x (by simp [hx])) i (by simpa using hi)
  rw [show o + (i + 1) * n = o + n + i * n by rw [Nat.add_mul]; omega]
  simpa using this
theorem Crow.take {X : Cx} {b : Nat} : ∀ {es : List (List C)} {o : Nat} (_ : Crow X es b o) (i : Nat), Crow X (es.take i) b o
 | [], o, h, i => by simp [Crow]
 | e :: es, o, h, 0 => by simp [Crow]
 | e :: es, o, h, i + 1 => by
  simp only [List.take_succ_cons, Crow] at h ⊢
  obtain ⟨vs, h1, h2, h3⟩ := h
  exact ⟨vs, h1, h2, Crow.take h3 i⟩
structure Ob where
 ty : TypeId
 wd : Nat
 es : List (List C)
structure St where
 e : List (Nat × A)
 s : List (Option Ob)
def find : List (Nat × A) → Nat → Option A
 | [], _ => none
 | (j, x) :: r, i => if i = j then some x else find r i
def hidB (s : List (Option Ob)) (m : List Lo) (b : Nat) : Bool := (s.zip m).any fun p => p.1.isSome && p.2.b == b
theorem hidB_iff {s : List (Option Ob)} {m : List Lo} {b : Nat} : hidB s m b = true ↔ ∃ (i : Nat) (ob : Ob) (l : Lo), s[i]? = some (some ob) ∧ m[i]? = some l ∧ l.b = b := by
 unfold hidB
 rw [List.any_eq_true]
 constructor
 ·rintro ⟨⟨o, l⟩, hm, h⟩
  simp only [Bool.and_eq_true, beq_iff_eq, Option.isSome_iff_exists] at h
  obtain ⟨⟨ob, rfl⟩, h2⟩ := h
  obtain ⟨i, hi⟩ := List.mem_iff_getElem?.1 hm
  rw [List.getElem?_zip_eq_some] at hi
  exact ⟨i, ob, l, hi.1, hi.2, h2⟩
 ·rintro ⟨i, ob, l, h1, h2, h3⟩
  refine ⟨(some ob, l), List.mem_iff_getElem?.2 ⟨i, List.getElem?_zip_eq_some.2 ⟨h1, h2⟩⟩, by simp [h3]⟩
def vis (H : Nat → Bool) (s : List (Option Ob)) (m : List Lo) (w : World) : World := only w fun b => !H b && !hidB s m b
structure ObOk (X : Cx) (w : World) (l : Lo) (ob : Ob) : Prop where
 n : l.n = ob.es.length
 wd : l.wd = ob.wd
 all : ∀ e ∈ ob.es, e.length = ob.wd
 le : ob.es.length ≤ l.cap
 max : l.cap ≤ maxLen
 mem : ∃ vs rest : List Value, w.heap[l.b]? = some (.cells (vs ++ rest).toArray ob.ty (0, 0)) ∧ (vs ++ rest).length = l.cap * l.wd ∧ Ccs X ob.es.flatten vs
structure StoOk (H : Nat → Bool) (s : List (Option Ob)) (m : List Lo) (w : World) : Prop where
 len : s.length = m.length
 ok : ∀ (i : Nat) (ob : Ob) (l : Lo), s[i]? = some (some ob) → m[i]? = some l → ObOk ⟨vis H s m w, m⟩ w l ob
 uniq : ∀ (i j : Nat) (oi oj : Ob) (li lj : Lo), s[i]? = some (some oi) → s[j]? = some (some oj) → m[i]? = some li → m[j]? = some lj → li.b = lj.b → i = j
 nh : ∀ (i : Nat) (ob : Ob) (l : Lo), s[i]? = some (some ob) → m[i]? = some l → H l.b = false
 hlt : ∀ b, H b = true → b < w.heap.size
 gb : ∀ b, GB b = true → H b = false ∧ hidB s m b = false ∧ b < w.heap.size
 gl : GL w
structure Fr (S0 : Nat → Bool) (w0 w : World) : Prop where
 os : w.os = w0.os
 tape : w.tape = w0.tape
 output : w.output = w0.output
 size : w0.heap.size ≤ w.heap.size
 block : ∀ b, b < w0.heap.size → S0 b = false → w.heap[b]? = w0.heap[b]?
theorem Fr.refl (S0 : Nat → Bool) (w : World) : Fr S0 w w := ⟨rfl, rfl, rfl, Nat.le_refl _, fun _ _ _ => rfl⟩
theorem Fr.trans {S0 : Nat → Bool} {a b c : World} (h : Fr S0 a b) (k : Fr S0 b c) : Fr S0 a c :=
 ⟨k.os.trans h.os, k.tape.trans h.tape, k.output.trans h.output, Nat.le_trans h.size k.size, fun i hi hs => (k.block i (Nat.lt_of_lt_of_le hi h.size) hs).trans (h.block i hi hs)⟩
structure Cf where
 nt : Nat
 n0 : Nat
structure Sim (H : Nat → Bool) (w0 : World) (S0 : Nat → Bool) (m0 : List Lo) (nt : Cf) (st : St) (m : List Lo) (a : Act) (w : World) : Prop where
 env : ∀ i x, find st.e i = some x → ∃ u, a.tmps[i]? = some u ∧ Ca ⟨vis H st.s m w, m⟩ x u
 nts : a.tmps.size = nt.nt
 df : a.defers = []
 sto : StoOk H st.s m w
 fr : Fr S0 w0 w
 own : ∀ (i : Nat) (ob : Ob) (l : Lo), st.s[i]? = some (some ob) → m[i]? = some l → S0 l.b = true ∨ w0.heap.size ≤ l.b
 up : Up m0 m
 n0 : m0.length = nt.n0
structure Goes (s : List (Option Ob)) (m : List Lo) (w : World) (s' : List (Option Ob)) (m' : List Lo) (w' : World) : Prop where
 up : Up m m'
 os : w'.os = w.os
 tape : w'.tape = w.tape
 output : w'.output = w.output
 size : w.heap.size ≤ w'.heap.size
 block : ∀ b, b < w.heap.size → hidB s m b = false → hidB s' m' b = false ∧ w'.heap[b]? = w.heap[b]?
theorem Goes.keeps {H : Nat → Bool} {s : List (Option Ob)} {m : List Lo} {w : World} {s' : List (Option Ob)} {m' : List Lo} {w' : World} (h : Goes s m w s' m' w') : Keeps (vis H s m w) (vis H s' m' w') :=
 Keeps.only fun b hp hb => by
  simp only [Bool.and_eq_true, Bool.not_eq_true'] at hp ⊢
  obtain ⟨h1, h2⟩ := h.block b hb hp.2
  exact ⟨⟨hp.1, h1⟩, h2⟩
theorem Goes.refl (s : List (Option Ob)) (m : List Lo) (w : World) : Goes s m w s m w := ⟨Up.refl _, rfl, rfl, rfl, Nat.le_refl _, fun _ _ h => ⟨h, rfl⟩⟩
theorem Goes.gb {H : Nat → Bool} {s : List (Option Ob)} {m : List Lo} {w : World} {s' : List (Option Ob)} {m' : List Lo} {w' : World} (h : Goes s m w s' m' w') (k : ∀ b, GB b = true → H b = false ∧ hidB s m b = false ∧ b < w.heap.size) : ∀ b, GB b = true → H b = false ∧ hidB s' m' b = false ∧ b < w'.heap.size := fun b hb =>
 ⟨(k b hb).1, (h.block b (k b hb).2.2 (k b hb).2.1).1, Nat.lt_of_lt_of_le (k b hb).2.2 h.size⟩
theorem Goes.gl {H : Nat → Bool} {s : List (Option Ob)} {m : List Lo} {w : World} {s' : List (Option Ob)} {m' : List Lo} {w' : World} (h : Goes s m w s' m' w') (k : ∀ b, GB b = true → H b = false ∧ hidB s m b = false ∧ b < w.heap.size) (g : GL w) : GL w' :=
 GL.stays (fun b hb => (h.block b (k b hb).2.2 (k b hb).2.1).2) g
theorem Goes.ca {H : Nat → Bool} {s : List (Option Ob)} {m : List Lo} {w : World} {s' : List (Option Ob)} {m' : List Lo} {w' : World} (h : Goes s m w s' m' w') {x : A} {u : Value} (hc : Ca ⟨vis H s m w, m⟩ x u) : Ca ⟨vis H s' m' w', m'⟩ x u := hc.keep h.keeps h.up
theorem Sim.goes {H : Nat → Bool} {w0 : World} {S0 : Nat → Bool} {m0 : List Lo} {nt : Cf} {st : St} {m : List Lo} {a : Act} {w : World} (h : Sim H w0 S0 m0 nt st m a w) {s' : List (Option Ob)} {m' : List Lo} {w' : World}
  (hg : Goes st.s m w s' m' w') (hs : StoOk H s' m' w') (ho : ∀ (i : Nat) (ob : Ob) (l : Lo), s'[i]? = some (some ob) → m'[i]? = some l → S0 l.b = true ∨ w0.heap.size ≤ l.b) : Sim H w0 S0 m0 nt ⟨st.e, s'⟩ m' a w' := by
 refine ⟨fun i x hx => ?_, h.nts, h.df, hs, ⟨hg.os.trans h.fr.os, hg.tape.trans h.fr.tape, hg.output.trans h.fr.output, Nat.le_trans h.fr.size hg.size, fun b hb hS => ?_⟩, ho, h.up.trans hg.up, h.n0⟩
 ·obtain ⟨u, hu, hc⟩ := h.env i x hx
  exact ⟨u, hu, hg.ca hc⟩
 ·rw [← h.fr.block b hb hS]
  have hb' : b < w.heap.size := Nat.lt_of_lt_of_le hb h.fr.size
  refine (hg.block b hb' ?_).2
  cases hh : hidB st.s m b with
  | false => rfl
  | true =>
   obtain ⟨i, ob, l, h1, h2, rfl⟩ := hidB_iff.1 hh
   rcases h.own i ob l h1 h2 with h3 | h3
   ·rw [hS] at h3; cases h3
   ·omega
def St.put (st : St) (d : Option Tmp) (x : A) : St := match d with | some d => ⟨(d, x) :: st.e, st.s⟩ | none => st
def fits (nt : Cf) : Option Tmp → Bool | some d => decide (d < nt.nt) | none => true
theorem Sim.put {H : Nat → Bool} {w0 : World} {S0 : Nat → Bool} {m0 : List Lo} {nt : Cf} {st : St} {m : List Lo} {a : Act} {w : World} (h : Sim H w0 S0 m0 nt st m a w) {d : Option Tmp} (hd : fits nt d = true) {x : A} {u : Value} (hc : Ca ⟨vis H st.s m w, m⟩ x u) :
  Sim H w0 S0 m0 nt (st.put d x) m (a.put d u) w := by
 cases d with
 | none => exact h
 | some d =>
  simp only [fits, decide_eq_true_eq] at hd
  refine ⟨fun i y hy => ?_, by rw [put_size]; exact h.nts, by rw [put_defers']; exact h.df, h.sto, h.fr, h.own, h.up, h.n0⟩
  simp only [St.put, find] at hy
  split at hy
  ·rename_i e
   subst e
   cases hy
   exact ⟨u, put_get_eq (by rw [h.nts]; exact hd), hc⟩
  ·rename_i e
   obtain ⟨u', h1, h2⟩ := h.env i y hy
   exact ⟨u', by rw [put_get_ne (by simpa using fun h => e h.symm)]; exact h1, h2⟩
def Holds (H : Nat → Bool) (w0 : World) (S0 : Nat → Bool) (m0 : List Lo) (nt : Cf) (Q : Exit → St → Prop) : Exit → Act → World → Prop := fun e a w => ∃ st m, Q e st ∧ Sim H w0 S0 m0 nt st m a w
def WpA (P : Program) (nt : Cf) (c : Code) (Q : Exit → St → Prop) (st : St) : Prop := ∀ H w0 S0 m0 m a w, Sim H w0 S0 m0 nt st m a w → c.wp P (Holds H w0 S0 m0 nt Q) a w
def WpL (P : Program) (nt : Cf) (ops : Array Oper) (Q : St → Prop) (l : List Oper) (st : St) : Prop := ∀ H w0 S0 m0 m a w, Sim H w0 S0 m0 nt st m a w → ∀ Q' : Exit → Act → World → Prop, (∀ a' w', Holds H w0 S0 m0 nt (fun _ => Q) .normal a' w' → Q' .normal a' w') → wpList P ops Q' l a w
def thenA (K : St → Prop) (Q : Exit → St → Prop) : Exit → St → Prop
 | .normal, st => K st
 | e, st => Q e st
def inBlockA (id : Nat) (Q : Exit → St → Prop) : Exit → St → Prop
 | .exit id', st => if id' = id then Q .normal st else Q (.exit id') st
 | e, st => Q e st
section
variable {P : Program} {nt : Cf} {Q : Exit → St → Prop} {st : St}
theorem WpA.seq {x y : Code} (h : WpA P nt x (thenA (WpA P nt y Q) Q) st) : WpA P nt (.seq x y) Q st := fun H w0 S0 m0 m a w hs =>
 wp_seq (wp_mono (h H w0 S0 m0 m a w hs) fun e a' w' ⟨st', m', hq, hs'⟩ => by
  cases e <;> first | exact hq H w0 S0 m0 m' a' w' hs' | exact ⟨st', m', hq, hs'⟩)
theorem WpA.skip (h : Q .normal st) : WpA P nt .skip Q st := fun H w0 S0 m0 m a w hs => wp_skip ⟨st, m, h, hs⟩
theorem WpA.ret (h : Q .ret st) : WpA P nt .ret Q st := fun H w0 S0 m0 m a w hs => wp_ret ⟨st, m, h, hs⟩
theorem WpA.exit {id : Nat} (h : Q (.exit id) st) : WpA P nt (.exit id) Q st := fun H w0 S0 m0 m a w hs => wp_exit ⟨st, m, h, hs⟩
theorem WpA.block {id : Nat} {x : Code} (h : WpA P nt x (inBlockA id Q) st) : WpA P nt (.block id x) Q st := fun H w0 S0 m0 m a w hs =>
 wp_block (wp_mono (h H w0 S0 m0 m a w hs) fun e a' w' ⟨st', m', hq, hs'⟩ => by
  cases e with
  | exit id' =>
   simp only [inBlockA] at hq
   simp only [Exit.inBlock]
   split
   ·rename_i e; rw [if_pos e] at hq; exact ⟨st', m', hq, hs'⟩
   ·rename_i e; rw [if_neg e] at hq; exact ⟨st', m', hq, hs'⟩
  | _ => exact ⟨st', m', hq, hs'⟩)
theorem Sim.eval {H : Nat → Bool} {w0 : World} {S0 : Nat → Bool} {m0 : List Lo} {m : List Lo} {a : Act} {w : World} (h : Sim H w0 S0 m0 nt st m a w) {t : Tmp} {x : A} (hx : find st.e t = some x) : Ca ⟨vis H st.s m w, m⟩ x (a.eval (.tmp t)) := by
 obtain ⟨u, h1, h2⟩ := h.env t x hx
 rw [eval_tmp_of h1]; exact h2
theorem WpA.cond {t : Tmp} {x y : Code} {b : Bool} (hc : find st.e t = some (.one (.v (.bool b)))) (h1 : b = true → WpA P nt x Q st) (h2 : b = false → WpA P nt y Q st) : WpA P nt (.cond (.tmp t) x y) Q st := fun H w0 S0 m0 m a w hs => by
 have := hs.eval hc
 simp only [Ca, Cc] at this
 exact wp_cond_split this.1 (fun e => h1 e H w0 S0 m0 m a w hs) (fun e => h2 e H w0 S0 m0 m a w hs)
def Le (nt : Cf) (st st' : St) : Prop := ∀ H w0 S0 m0 m a w, Sim H w0 S0 m0 nt st m a w → ∃ m', Sim H w0 S0 m0 nt st' m' a w
theorem Le.refl (nt : Cf) (st : St) : Le nt st st := fun _ _ _ _ m _ _ h => ⟨m, h⟩
theorem Le.trans {a b c : St} (h : Le nt a b) (k : Le nt b c) : Le nt a c := fun H w0 S0 m0 m x w hs => by
 obtain ⟨m', h'⟩ := h H w0 S0 m0 m x w hs
 exact k H w0 S0 m0 m' x w h'
theorem WpA.le {c : Code} {st' : St} (hl : Le nt st st') (h : WpA P nt c Q st') : WpA P nt c Q st := fun H w0 S0 m0 m a w hs => by
 obtain ⟨m', h'⟩ := hl H w0 S0 m0 m a w hs
 exact h H w0 S0 m0 m' a w h'
theorem WpA.mono {c : Code} {Q' : Exit → St → Prop} (h : WpA P nt c Q st) (hq : ∀ e st, Q e st → Q' e st) : WpA P nt c Q' st := fun H w0 S0 m0 m a w hs =>
 wp_mono (h H w0 S0 m0 m a w hs) fun e a' w' ⟨st', m', q, s'⟩ => ⟨st', m', hq _ _ q, s'⟩
theorem wp_loop_idx {c : Code} {Q : Exit → Act → World → Prop} {a : Act} {w : World} (I : Nat → Act → World → Prop) (n0 : Nat) (h0 : I n0 a w)
  (round : ∀ n a w, I n a w → c.wp P (Exit.then (fun a' w' => ∃ k, k < n ∧ I k a' w') Q) a w) : (Code.loop c).wp P Q a w := by
 have key : ∀ n a w, I n a w → ∀ (b : Frame) (k : List Item) (cs : List Frame), ∃ e a' w', Q e a' w' ∧ Arrives P (lone (b.at a (.code c :: .inLoop c :: k)) cs w) b k cs e a' w' := by
  intro n
  induction n using Nat.strongRecOn with
  | _ n ih =>
   intro a w hI b k cs
   obtain ⟨e, a₁, w₁, hq, harr⟩ := round n a w hI b (.inLoop c :: k) cs
   cases e with
   | normal =>
    obtain ⟨j, hj, hI₁⟩ := hq
    obtain ⟨e₂, a₂, w₂, hq₂, harr₂⟩ := ih j hj a₁ w₁ hI₁ b k cs
    exact ⟨e₂, a₂, w₂, hq₂, .of_steps (Steps.trans harr (.one step_inLoop)) harr₂⟩
   | exit id => exact ⟨_, a₁, w₁, hq, .pass (x := .inLoop c) rfl (fun _ _ => .inl (by simp)) harr⟩
   | goto l => exact ⟨_, a₁, w₁, hq, .pass (x := .inLoop c) rfl (fun _ _ => .inl (by simp)) harr⟩
   | ret => exact ⟨_, a₁, w₁, hq, .pass (x := .inLoop c) rfl (fun _ _ => .inl (by simp)) harr⟩
   | panic ch => exact ⟨_, a₁, w₁, hq, .pass (x := .inLoop c) rfl (fun _ _ => .inl (by simp)) harr⟩
   | outgrown => exact ⟨_, a₁, w₁, hq, .pass (x := .inLoop c) rfl (fun _ _ => .inl (by simp)) harr⟩
 intro b k cs
 obtain ⟨e, a', w', hq, harr⟩ := key n0 a w h0 b k cs
 exact ⟨e, a', w', hq, .of_steps (.one step_loop) harr⟩
theorem WpA.loop {c : Code} (I : Nat → St → Prop) (n0 : Nat) {st0 : St} (hle : Le nt st st0) (h0 : I n0 st0)
  (round : ∀ n st, I n st → WpA P nt c (thenA (fun st' => ∃ k st'', k < n ∧ Le nt st' st'' ∧ I k st'') Q) st) : WpA P nt (.loop c) Q st := fun H w0 S0 m0 m a w hs => by
 obtain ⟨m9, hs0⟩ := hle H w0 S0 m0 m a w hs
 refine wp_loop_idx (fun n a w => ∃ st m, I n st ∧ Sim H w0 S0 m0 nt st m a w) n0 ⟨st0, m9, h0, hs0⟩ fun n a' w' ⟨st1, m1, hI, hs1⟩ => ?_
 refine wp_mono (round n st1 hI H w0 S0 m0 m1 a' w' hs1) fun e a2 w2 ⟨st2, m2, hq, hs2⟩ => ?_
 cases e with
 | normal =>
  obtain ⟨k, st3, hk, hl, hI3⟩ := hq
  obtain ⟨m3, hs3⟩ := hl H w0 S0 m0 m2 a2 w2 hs2
  exact ⟨k, hk, st3, m3, hI3, hs3⟩
 | _ => exact ⟨st2, m2, hq, hs2⟩
theorem WpA.region {id : Nat} {l : List Oper} (h : WpL P nt l.toArray (Q .normal) l st) : WpA P nt (.region id l.toArray false) Q st := fun H w0 S0 m0 m a w hs =>
 wp_region_lit (h H w0 S0 m0 m a w hs _ fun a' w' ⟨st', m', hq, hs'⟩ => ⟨st', m', hq, hs'⟩)
end
section
variable {P : Program} {nt : Cf} {ops : Array Oper} {Q : St → Prop} {st : St} {rest : List Oper}
theorem WpL.nil (h : Q st) : WpL P nt ops Q [] st := fun H w0 S0 m0 m a w hs Q' hQ => hQ a w ⟨st, m, h, hs⟩
theorem WpL.le {l : List Oper} {st' : St} (hl : Le nt st st') (h : WpL P nt ops Q l st') : WpL P nt ops Q l st := fun H w0 S0 m0 m a w hs => by
 obtain ⟨m', h'⟩ := hl H w0 S0 m0 m a w hs
 exact h H w0 S0 m0 m' a w h'
def OpA (P : Program) (nt : Cf) (op : Op) (ty : TypeId) (st : St) (x : A) (st' : St) : Prop := ∀ H w0 S0 m0 m a w, Sim H w0 S0 m0 nt st m a w →
 ∃ u w' m', ((execOp a.eval ⟨none, op, ty, "", #[], none⟩).run P w = .ok (.value u) w' ∨ ((execOp a.eval ⟨none, op, ty, "", #[], none⟩).run P w = .ok .skip w' ∧ u = undef)) ∧ Sim H w0 S0 m0 nt st' m' a w' ∧ Goes st.s m w st'.s m' w' ∧ Ca ⟨vis H st'.s m' w', m'⟩ x u
theorem exec_same (ρ : Operand → Value) (d : Option Tmp) (op : Op) (ty : TypeId) (pos : String) (aft : Array Edge) (g : Option (Nat × Bool)) : execOp ρ ⟨d, op, ty, pos, aft, g⟩ = execOp ρ ⟨none, op, ty, "", #[], none⟩ := by cases op <;> rfl
theorem WpL.op {d : Option Tmp} {op : Op} {ty : TypeId} {pos : String} {aft : Array Edge} {g : Option (Nat × Bool)} {x : A} {st' : St} (hd : fits nt d = true)
  (hg : ∀ H w0 S0 m0 m a w, Sim H w0 S0 m0 nt st m a w → Region.wanted ⟨d, op, ty, pos, aft, g⟩ (yielded ops a.tmps) = true) (h : OpA P nt op ty st x st') (hr : WpL P nt ops Q rest (st'.put d x)) : WpL P nt ops Q (⟨d, op, ty, pos, aft, g⟩ :: rest) st := fun H w0 S0 m0 m a w hs Q' hQ => by
 obtain ⟨u, w', m', hrun, hs', -, hc⟩ := h H w0 S0 m0 m a w hs
 have hnext := hr H w0 S0 m0 m' _ w' (hs'.put hd hc) Q' hQ
 unfold wpList
 rw [if_pos (hg H w0 S0 m0 m a w hs)]
 refine .inl ?_
 unfold Oper.wp
 rw [exec_same]
 rcases hrun with hrun | ⟨hrun, rfl⟩ <;> rw [hrun] <;> exact hnext
theorem WpL.pass {d : Option Tmp} {op : Op} {ty : TypeId} {pos : String} {aft : Array Edge} {g : Option (Nat × Bool)} (hd : fits nt d = true)
  (hg : ∀ H w0 S0 m0 m a w, Sim H w0 S0 m0 nt st m a w → Region.wanted ⟨d, op, ty, pos, aft, g⟩ (yielded ops a.tmps) = false) (hr : WpL P nt ops Q rest (st.put d (.tup []))) : WpL P nt ops Q (⟨d, op, ty, pos, aft, g⟩ :: rest) st := fun H w0 S0 m0 m a w hs Q' hQ => by
 have hnext := hr H w0 S0 m0 m _ w (hs.put hd (x := .tup []) (u := undef) (by simp only [Ca]; exact ⟨[], rfl, by simp [Cas]⟩)) Q' hQ
 unfold wpList
 rw [if_neg (by rw [hg H w0 S0 m0 m a w hs]; exact Bool.false_ne_true)]
 exact hnext
theorem wanted_none {d : Option Tmp} {op : Op} {ty : TypeId} {pos : String} {aft : Array Edge} : ∀ H w0 S0 m0 m a w, Sim H w0 S0 m0 nt st m a w → Region.wanted ⟨d, op, ty, pos, aft, none⟩ (yielded ops a.tmps) = true := fun _ _ _ _ _ _ _ _ => rfl
theorem wanted_tup {d : Option Tmp} {op : Op} {ty : TypeId} {pos : String} {aft : Array Edge} {j : Nat} {want : Bool} {t : Tmp} {l : List A} (hj : (ops[j]?).bind (·.dst) = some t) (hb : find st.e t = some (.tup l)) :
  ∀ H w0 S0 m0 m a w, Sim H w0 S0 m0 nt st m a w → Region.wanted ⟨d, op, ty, pos, aft, some (j, want)⟩ (yielded ops a.tmps) = false := fun H w0 S0 m0 m a w hs => by
 obtain ⟨u, h1, h2⟩ := hs.env t _ hb
 simp only [Ca] at h2
 obtain ⟨us, rfl, -⟩ := h2
 simp only [Region.wanted, yielded, hj, Option.bind_some, h1]
 rfl
theorem wanted_some {d : Option Tmp} {op : Op} {ty : TypeId} {pos : String} {aft : Array Edge} {j : Nat} {want b : Bool} {t : Tmp} (hj : (ops[j]?).bind (·.dst) = some t) (hb : find st.e t = some (.one (.v (.bool b)))) :
  ∀ H w0 S0 m0 m a w, Sim H w0 S0 m0 nt st m a w → Region.wanted ⟨d, op, ty, pos, aft, some (j, want)⟩ (yielded ops a.tmps) = (b == want) := fun H w0 S0 m0 m a w hs => by
 obtain ⟨u, h1, h2⟩ := hs.env t _ hb
 simp only [Ca, Cc] at h2
 simp only [Region.wanted, yielded, hj, Option.bind_some, h1, h2.1]
 cases b <;> cases want <;> rfl
end
theorem oneCell_cells {u : Value} (h : u.oneCell' = true) : u.cells = #[u] := by cases u <;> first | rfl | cases h
def tyI (P : Program) (t : TypeId) : Option (Bool × Nat) :=
 match P.info? t with
 | some i => match P.underlying t with
  | some (.struct _) => some (true, i.size)
  | some (.array _ _) => some (true, i.size)
  | some _ => some (false, i.size)
  | none => none
 | none => none
def fldI (P : Program) (t : TypeId) (f : Nat) : Option (Nat × TypeId) :=
 match P.underlying t with
 | some (.struct fs) => match fs[f]? with
  | some x => match P.info? x.type with
   | some i => if i.size = 0 then none else some (x.offset, x.type)
   | none => none
  | none => none
 | _ => none
def eltI (P : Program) (t : TypeId) : Option (TypeId × Nat) :=
 match P.underlying t with
 | some (.slice e) => match P.info? e with
  | some i => some (e, i.size)
  | none => none
 | _ => none
def intI (P : Program) (t : TypeId) : Option IntKind :=
 match P.underlying t with
 | some (.int k) => some k
 | _ => none
def strI (P : Program) (t : TypeId) : Bool := match P.underlying t with | some .string => true | _ => false
def boolI (P : Program) (t : TypeId) : Bool := match P.underlying t with | some .bool => true | _ => false
def ptrI (P : Program) (t : TypeId) : Bool := match P.underlying t with | some (.pointer _) => true | _ => false
def anyI (P : Program) (t : TypeId) : Bool := (P.underlying t).isSome
theorem run_isAgg {P : Program} {w : World} {t : TypeId} {b : Bool} {n : Nat} (h : tyI P t = some (b, n)) : (isAgg t).run P w = .ok b w ∧ (sizeOf t).run P w = .ok n w := by
 unfold tyI at h
 split at h
 ·rename_i i hi
  have hs : (sizeOf t).run P w = .ok i.size w := by simp [sizeOf, typeInfo, program, Sem.run, hi, bind, Sem.bind, pure]
  split at h
  all_goals (first | (cases h; done) | skip)
  all_goals
   rename_i hu
   cases h
   refine ⟨?_, hs⟩
   simp only [isAgg, underlying, program, bind, Sem.bind, Sem.run, hu, pure]
 ·cases h
def partC (b : Bool) (n : Nat) (cs : List C) : Option (Prop × A) :=
 match b with
 | true => some (n ≤ cs.length, .agg (cs.take n))
 | false => match cs with
  | c :: _ => some (True, .one c)
  | [] => none
theorem run_loadVar {P : Program} {w : World} {t : TypeId} {b : Bool} {n : Nat} {X : Cx} {cs : List C} {p : Prop} {x : A} {bl o : Nat} {vs : List Value} (ht : tyI P t = some (b, n)) (hx : partC b n cs = some (p, x)) (hp : p)
  (hv : CellsAt w bl o vs) (hc : Ccs X cs vs) : ∃ u, (loadVar t ⟨bl, o, none⟩).run P w = .ok u w ∧ Ca X x u := by
 obtain ⟨h1, h2⟩ := run_isAgg (P := P) (w := w) ht
 have hadd : ∀ j, (⟨bl, o, none⟩ : Addr).add j = ⟨bl, o + j, none⟩ := fun j => by
  unfold Addr.add; split
  ·subst_vars; rfl
  ·rfl
 cases b with
 | true =>
  simp only [partC, Option.some.injEq, Prod.mk.injEq] at hx
  obtain ⟨rfl, rfl⟩ := hx
  have hlen : (vs.take n).length = n := by rw [List.length_take, hc.len]; omega
  refine ⟨.agg (vs.take n).toArray, ?_, by simp only [Ca]; exact ⟨_, rfl, hc.take n⟩⟩
  have hl := run_loadCells_list (P := P) w ⟨bl, o, none⟩ (vs.take n) (fun j v hj => by
   rw [hadd]
   refine hv.at j v ?_
   rw [List.getElem?_take] at hj
   split at hj
   ·exact hj
   ·cases hj)
  rw [hlen] at hl
  simp only [loadVar, Sem.run_bind, h1, h2, hl, Result.andThen_ok, if_true, Sem.run_pure]
 | false =>
  cases cs with
  | nil => simp [partC] at hx
  | cons c cs =>
   simp only [partC, Option.some.injEq, Prod.mk.injEq] at hx
   obtain ⟨rfl, rfl⟩ := hx
   simp only [Ccs] at hc
   obtain ⟨u, r, rfl, hc1, -⟩ := hc
   refine ⟨u, ?_, by simp only [Ca]; exact hc1⟩
   have := hv.1
   simp only [loadVar, Sem.run_bind, h1, Result.andThen_ok, if_false, Bool.false_eq_true, load, Sem.run, this]
theorem Ca.more {r : World} {m : List Lo} {x : A} {u : Value} (h : Ca ⟨r, []⟩ x u) : Ca ⟨r, m⟩ x u := Ca.keep (X := ⟨r, []⟩) (X' := ⟨r, m⟩) (Keeps.refl r) (Up.nil m) h
def loadA (P : Program) (s : List (Option Ob)) (t : TypeId) (c : C) : Option (Prop × A) :=
 match tyI P t with
 | some (b, n) => match c with
  | .pf cs => partC b n cs
  | .ptr loc k i off => match s[loc]? with
   | some (some ob) => match ob.es[i]? with
    | some e => match partC b n (e.drop off) with
     | some (p, x) => some (p ∧ k = ob.es.length ∧ off ≤ e.length, x)
     | none => none
    | none => none
   | _ => none
  | _ => none
 | none => none
theorem flatten_get {α : Type} {wd : Nat} : ∀ {es : List (List α)} (_ : ∀ e ∈ es, e.length = wd) (i : Nat) (e : List α) (_ : es[i]? = some e), ∃ r, es.flatten.drop (i * wd) = e ++ r
 | e :: es, hw, 0, e', he => by simp at he; subst he; exact ⟨es.flatten, by simp⟩
 | e :: es, hw, i + 1, e', he => by
  obtain ⟨r, hr⟩ := flatten_get (fun x hx => hw x (List.mem_cons_of_mem _ hx)) i e' (by simpa using he)
  refine ⟨r, ?_⟩
  have hl := hw e (by simp)
  rw [List.flatten_cons, Nat.add_mul, Nat.one_mul, Nat.add_comm, ← hl, ← List.drop_drop, List.drop_left, hl]
  exact hr
theorem StoOk.lo {H : Nat → Bool} {s : List (Option Ob)} {m : List Lo} {w : World} (h : StoOk H s m w) {loc : Nat} {ob : Ob} (ho : s[loc]? = some (some ob)) : ∃ l, m[loc]? = some l := by
 have := (List.getElem?_eq_some_iff.1 ho).1
 rw [h.len] at this
 exact ⟨_, List.getElem?_eq_getElem this⟩
theorem StoOk.cells {H : Nat → Bool} {s : List (Option Ob)} {m : List Lo} {w : World} (h : StoOk H s m w) {loc i off : Nat} {ob : Ob} {l : Lo} {e : List C} (ho : s[loc]? = some (some ob)) (hl : m[loc]? = some l) (he : ob.es[i]? = some e) (hof : off ≤ e.length) :
  ∃ vs, CellsAt w l.b (i * l.wd + off) vs ∧ Ccs ⟨vis H s m w, m⟩ (e.drop off) vs := by
 obtain ⟨-, hw, ha, -, -, vs, rest, hb, -, hc⟩ := h.ok loc ob l ho hl
 obtain ⟨r, hr⟩ := flatten_get ha i e he
 have h1 := hc.drop (i * ob.wd)
 rw [hr] at h1
 have h2 := h1.drop off
 rw [List.drop_append_of_le_length hof] at h2
 obtain ⟨u1, u2, e1, h3, h4⟩ := Ccs.append.1 h2
 refine ⟨u1, CellsAt.of fun j u hu => ?_, h3⟩
 rw [cell_of hb, hw]
 have : (List.drop off (List.drop (i * ob.wd) vs))[j]? = some u := by
  rw [e1, List.getElem?_append_left (List.getElem?_eq_some_iff.1 hu).1]; exact hu
 rw [List.drop_drop, List.getElem?_drop] at this
 simp only [List.getElem?_toArray]
 rw [List.getElem?_append_left (by have := (List.getElem?_eq_some_iff.1 this).1; omega)]
 rw [← this]
theorem vis_keeps (H : Nat → Bool) (s : List (Option Ob)) (m : List Lo) (w : World) : Keeps (vis H s m w) w := only_keeps _ _
def Quiet (P : Program) (op : Op) (ty : TypeId) (s : List (Option Ob)) (ρA : Operand → Option A) (x : A) : Prop := ∀ H m w (ρ : Operand → Value), StoOk H s m w → (∀ o ∈ op.operands, ∀ y, ρA o = some y → Ca ⟨vis H s m w, m⟩ y (ρ o)) →
 ∃ u, (execOp ρ ⟨none, op, ty, "", #[], none⟩).run P w = .ok (.value u) w ∧ Ca ⟨vis H s m w, m⟩ x u
theorem load_sound {P : Program} {H : Nat → Bool} {s : List (Option Ob)} {m : List Lo} {w : World} {t : TypeId} {c : C} {p : Prop} {x : A} {u : Value} (hs : StoOk H s m w) (hl : loadA P s t c = some (p, x)) (hp : p) (h1 : Cc ⟨vis H s m w, m⟩ c u) :
  ∃ ad v, u = .pointer (some ad) ∧ (loadVar t ad).run P w = .ok v w ∧ Ca ⟨vis H s m w, m⟩ x v := by
 unfold loadA at hl
 split at hl
 case h_2 => cases hl
 rename_i b n ht
 split at hl
 ·rename_i cs
  simp only [Cc] at h1
  obtain ⟨bl, o', vs, e, h2, h3⟩ := h1
  obtain ⟨v, hr, hx⟩ := run_loadVar (P := P) ht hl hp (h2.keep (vis_keeps _ _ _ _)) h3
  exact ⟨_, v, e, hr, Ca.more hx⟩
 ·rename_i loc k i off
  split at hl
  case h_2 => cases hl
  rename_i ob ho
  split at hl
  case h_2 => cases hl
  rename_i e he
  split at hl
  case h_2 => cases hl
  rename_i p' x' hpc
  simp only [Option.some.injEq, Prod.mk.injEq] at hl
  obtain ⟨rfl, rfl⟩ := hl
  obtain ⟨hp1, hk, hoff⟩ := hp
  simp only [Cc] at h1
  obtain ⟨-, l, hl, -, he2⟩ := h1
  have hn := (hs.ok loc ob l ho hl).n
  obtain ⟨vs, h2, h3⟩ := hs.cells ho hl he hoff
  obtain ⟨v, hr, hx⟩ := run_loadVar (P := P) ht hpc hp1 h2 h3
  exact ⟨_, v, he2 (by omega), hr, hx⟩
 ·cases hl
theorem quiet_load {P : Program} {ty t : TypeId} {s : List (Option Ob)} {ρA : Operand → Option A} {o : Operand} {c : C} {p : Prop} {x : A} (hc : ρA o = some (.one c)) (hl : loadA P s t c = some (p, x)) (hp : p) : Quiet P (.load t o) ty s ρA x := by
 intro H m w ρ hs hρ
 have h1 := hρ o (by simp [Op.operands]) _ hc
 simp only [Ca] at h1
 obtain ⟨ad, v, e, hr, hx⟩ := load_sound hs hl hp h1
 refine ⟨v, ?_, hx⟩
 simp only [execOp, Instr.loadAt, Instr.sureAddr, e, Sem.run_bind, Sem.run_pure, Result.andThen_ok, hr]
def binI (op : BinOp) (k k' : IntKind) (a b : Int) : Option (Prop × Value) :=
 match op with
 | .shl => some (0 ≤ b, .int k (k.wrap (a * 2 ^ (min b.toNat k.bits))))
 | .shr => some (0 ≤ b, .int k (a.fdiv (2 ^ (min b.toNat k.bits))))
 | .add => some (k = k', .int k (k.wrap (a + b)))
 | .sub => some (k = k', .int k (k.wrap (a - b)))
 | .mul => some (k = k', .int k (k.wrap (a * b)))
 | .quo => some (k = k' ∧ b ≠ 0, .int k (k.wrap (a.tdiv b)))
 | .rem => some (k = k' ∧ b ≠ 0, .int k (a.tmod b))
 | .and => some (k = k', .int k (bits .and k a b))
 | .or => some (k = k', .int k (bits .or k a b))
 | .xor => some (k = k', .int k (bits .xor k a b))
 | .eql => some (k = k', .bool (a == b))
 | .neq => some (k = k', .bool (a != b))
 | .lss => some (k = k', .bool (decide (a < b)))
 | .leq => some (k = k', .bool (decide (a ≤ b)))
 | .gtr => some (k = k', .bool (decide (b < a)))
 | .geq => some (k = k', .bool (decide (b ≤ a)))
 | _ => none
def binS (op : BinOp) (a b : ByteArray) : Option (Prop × Value) :=
 match op with
 | .add => some (a.size + b.size ≤ 9223372036854775807, .string (a ++ b))
 | .eql => some (True, .bool (a.toList == b.toList))
 | .neq => some (True, .bool (!(a.toList == b.toList)))
 | .lss => some (True, .bool (Op.bytesLess a.toList b.toList))
 | .geq => some (True, .bool (!Op.bytesLess a.toList b.toList))
 | .leq => some (True, .bool (Op.bytesLess a.toList b.toList || a.toList == b.toList))
 | .gtr => some (True, .bool (!(Op.bytesLess a.toList b.toList || a.toList == b.toList)))
 | _ => none
def binV (P : Program) (op : BinOp) (t : TypeId) : Value → Value → Option (Prop × Value)
 | .int k a, .int k' b => binI op k k' a b
 | .string a, .string b => binS op a b
 | .bool a, .bool b => match op with
  | .eql => some (boolI P t = true, .bool (a == b))
  | .neq => some (boolI P t = true, .bool (!(a == b)))
  | _ => none
 | _, _ => none
theorem boolI_of {P : Program} {t : TypeId} (h : boolI P t = true) : P.underlying t = some .bool := by
 unfold boolI at h; split at h
 ·assumption
 ·cases h
theorem run_eqGuard {P : Program} {w : World} (op : BinOp) (t : TypeId) (x y : Operand) (a b : Value) (h1 : a ≠ .nilIface) (h2 : ∀ c, a ≠ .agg c) : (eqGuard op t x y a b).run P w = .ok () w := by
 cases a with
 | nilIface => exact absurd rfl h1
 | agg c => exact absurd rfl (h2 c)
 | _ => unfold eqGuard; cases op <;> rfl
theorem run_equal_bool {P : Program} {w : World} {t : TypeId} (h : P.underlying t = some .bool) (a b : Bool) : (Op.equal t (.bool a) (.bool b)).run P w = .ok (a == b) w := by
 have hun : (underlying t).run P w = .ok .bool w := by simp [underlying, program, bind, Sem.bind, Sem.run, h, pure]
 unfold Op.equal Op.maxDepth
 rw [Op.equalIn]
 simp only [Sem.run_bind, hun, Result.andThen_ok, Sem.run_pure]
theorem run_binV {P : Program} {w : World} {op : BinOp} {t : TypeId} {u v r : Value} {p : Prop} (h : binV P op t u v = some (p, r)) (hp : p) : (binOp op t u v).run P w = .ok r w := by
 unfold binV at h
 split at h
 ·rename_i k a k' b
  cases op <;> simp only [binI, Option.some.injEq, Prod.mk.injEq, reduceCtorEq] at h
  all_goals (obtain ⟨rfl, rfl⟩ := h)
  case shl => have : ¬ b < 0 := by omega
              simp [binOp, Op.shift, this]
  case shr => have : ¬ b < 0 := by omega
              simp [binOp, Op.shift, this]
  case quo => obtain ⟨rfl, h0⟩ := hp; simp [binOp, Op.intDiv, h0]
  case rem => obtain ⟨rfl, h0⟩ := hp; simp [binOp, Op.intDiv, h0]
  all_goals (subst hp; simp [binOp, Op.intArith, Op.intCmp, intBits_and, intBits_or, intBits_xor])
 ·rename_i a b
  cases op <;> simp only [binS, Option.some.injEq, Prod.mk.injEq, reduceCtorEq] at h
  all_goals (obtain ⟨rfl, rfl⟩ := h)
  case add =>
   have : ¬ (IntKind.i64.max < ((a.size + b.size : Nat) : Int)) := by
    have : IntKind.i64.max = 9223372036854775807 := by decide
    rw [this]; omega
   simp only [binOp, Op.stringOp]
   rw [if_neg this]; rfl
  all_goals simp [binOp, Op.stringOp]
 ·rename_i a b
  cases op <;> simp only [Option.some.injEq, Prod.mk.injEq, reduceCtorEq] at h
  all_goals
   obtain ⟨rfl, rfl⟩ := h
   have he := run_equal_bool (P := P) (w := w) (boolI_of hp) a b
   simp only [binOp, Sem.run_bind, he, Result.andThen_ok, Sem.run_pure]
 ·cases h
theorem binV_left {P : Program} {op : BinOp} {t : TypeId} {u v r : Value} {p : Prop} (h : binV P op t u v = some (p, r)) : u ≠ .nilIface ∧ (∀ c, u ≠ .agg c) ∧ r.oneCell' = true := by
 unfold binV at h
 split at h
 ·refine ⟨by simp, by simp, ?_⟩
  cases op <;> simp only [binI, Option.some.injEq, Prod.mk.injEq, reduceCtorEq] at h
  all_goals (obtain ⟨-, rfl⟩ := h; rfl)
 ·refine ⟨by simp, by simp, ?_⟩
  cases op <;> simp only [binS, Option.some.injEq, Prod.mk.injEq, reduceCtorEq] at h
  all_goals (obtain ⟨-, rfl⟩ := h; rfl)
 ·refine ⟨by simp, by simp, ?_⟩
  cases op <;> simp only [Option.some.injEq, Prod.mk.injEq, reduceCtorEq] at h
  all_goals (obtain ⟨-, rfl⟩ := h; rfl)
 ·cases h
theorem caV {X : Cx} {x : Value} (h : x.oneCell' = true) : Ca X (.one (.v x)) x := by simp only [Ca, Cc]; exact ⟨trivial, h⟩
section
variable {P : Program} {ty : TypeId} {s : List (Option Ob)} {ρA : Operand → Option A} {p : Prop}
theorem quiet_bin {op : BinOp} {t ty' : TypeId} {x y : Operand} {u v r : Value} (hx : ρA x = some (.one (.v u))) (hy : ρA y = some (.one (.v v))) (h : binV P op t u v = some (p, r)) (hp : p) : Quiet P (.binOp op t x y ty') ty s ρA (.one (.v r)) := by
 intro H m w ρ hs hρ
 have h1 := hρ x (by simp [Op.operands]) _ hx
 have h2 := hρ y (by simp [Op.operands]) _ hy
 simp only [Ca, Cc] at h1 h2
 obtain ⟨g1, g2, g3⟩ := binV_left h
 refine ⟨r, ?_, caV g3⟩
 simp only [execOp, h1.1, h2.1, Sem.run_bind, run_eqGuard (P := P) (w := w) op t x y u v g1 g2, Result.andThen_ok, run_binV h hp, Sem.run_pure]
def unV : UnOp → Value → Option Value
 | .not, .bool b => some (.bool (!b))
 | .neg, .int k n => some (.int k (k.wrap (0 - n)))
 | _, _ => none
theorem quiet_un {op : UnOp} {t : TypeId} {x : Operand} {u r : Value} (hx : ρA x = some (.one (.v u))) (h : unV op u = some r) : Quiet P (.unOp op t x) ty s ρA (.one (.v r)) := by
 intro H m w ρ hs hρ
 have h1 := hρ x (by simp [Op.operands]) _ hx
 simp only [Ca, Cc] at h1
 unfold unV at h
 split at h
 ·cases h
  refine ⟨_, by simp only [execOp, h1.1, Op.unary, Sem.run_bind, Sem.run_pure, Result.andThen_ok], caV rfl⟩
 ·cases h
  refine ⟨_, by simp only [execOp, h1.1, Op.unary, Op.intArith, Sem.run_bind, Sem.run_pure, Result.andThen_ok], caV rfl⟩
 ·cases h
theorem quiet_move {x : Operand} {a : A} (h : ρA x = some a) : Quiet P (.move x) ty s ρA a := fun H m w ρ hs hρ => ⟨_, rfl, hρ x (by simp [Op.operands]) _ h⟩
theorem quiet_assign {x : Operand} {a : A} (h : ρA x = some a) : Quiet P (.assign x) ty s ρA a := fun H m w ρ hs hρ => ⟨_, rfl, hρ x (by simp [Op.operands]) _ h⟩
theorem quiet_pick {c x y : Operand} {b : Bool} {a : A} (hc : ρA c = some (.one (.v (.bool b)))) (h : (match b with | true => ρA x | false => ρA y) = some a) : Quiet P (.pick c x y) ty s ρA a := by
 intro H m w ρ hs hρ
 have h1 := hρ c (by simp [Op.operands]) _ hc
 simp only [Ca, Cc] at h1
 cases b with
 | true => exact ⟨ρ x, by simp [execOp, h1.1, asBool], hρ x (by simp [Op.operands]) _ h⟩
 | false => exact ⟨ρ y, by simp [execOp, h1.1, asBool], hρ y (by simp [Op.operands]) _ h⟩
theorem intI_of {t : TypeId} {k : IntKind} (h : intI P t = some k) : P.underlying t = some (.int k) := by
 unfold intI at h; split at h
 ·cases h; assumption
 ·cases h
theorem strI_of {t : TypeId} (h : strI P t = true) : P.underlying t = some .string := by
 unfold strI at h; split at h
 ·assumption
 ·cases h
theorem quiet_conv {src dst : TypeId} {x : Operand} {k k' : IntKind} {n : Int} (hx : ρA x = some (.one (.v (.int k n)))) (hd : intI P dst = some k') (hs : anyI P src = true) : Quiet P (.convert src dst x) ty s ρA (.one (.v (.int k' (k'.wrap n)))) := by
 intro H m w ρ hso hρ
 have h1 := hρ x (by simp [Op.operands]) _ hx
 simp only [Ca, Cc] at h1
 have h2 := intI_of hd
 obtain ⟨d, h3⟩ := Option.isSome_iff_exists.1 hs
 refine ⟨_, ?_, caV rfl⟩
 simp only [execOp, h1.1, convert, underlying, program, bind, Sem.bind, Sem.run, h2, h3, pure, Conv.intToInt]
theorem quiet_conv_str {src dst : TypeId} {x : Operand} {b : ByteArray} (hx : ρA x = some (.one (.v (.string b)))) (hd : strI P dst = true) (hs : anyI P src = true) : Quiet P (.convert src dst x) ty s ρA (.one (.v (.string b))) := by
 intro H m w ρ hso hρ
 have h1 := hρ x (by simp [Op.operands]) _ hx
 simp only [Ca, Cc] at h1
 have h2 := strI_of hd
 obtain ⟨d, h3⟩ := Option.isSome_iff_exists.1 hs
 refine ⟨_, ?_, caV rfl⟩
 simp only [execOp, h1.1, convert, underlying, program, bind, Sem.bind, Sem.run, h2, h3, pure]
theorem add_spot (b o j : Nat) : (⟨b, o, none⟩ : Addr).add j = ⟨b, o + j, none⟩ := by
 unfold Addr.add; split
 ·subst_vars; rfl
 ·rfl
theorem run_fieldAt {w : World} {t : TypeId} {f o : Nat} {ft : TypeId} (h : fldI P t f = some (o, ft)) (b off : Nat) : (Instr.fieldAt t (.pointer (some ⟨b, off, none⟩)) f).run P w = .ok (.pointer (some ⟨b, off + o, none⟩)) w := by
 unfold fldI at h
 split at h
 case h_2 => cases h
 rename_i fs hu
 split at h
 case h_2 => cases h
 rename_i x hx
 split at h
 case h_2 => cases h
 rename_i i hi
 split at h
 case isTrue => cases h
 rename_i h0
 cases h
 simp only [Instr.fieldAt, underlying, program, bind, Sem.bind, Sem.run, hu, pure, hx, Instr.sureAddr, fieldPlace, sizeOf, typeInfo, hi, h0, if_false, add_spot]
def fieldA (c : C) (o : Nat) : Option (Prop × C) :=
 match c with
 | .ptr loc k i off => some (True, .ptr loc k i (off + o))
 | .pf cs => some (o ≤ cs.length, .pf (cs.drop o))
 | _ => none
theorem CellsAt.drop {w : World} {b : Nat} : ∀ {vs : List Value} {o n : Nat}, n ≤ vs.length → CellsAt w b o vs → CellsAt w b (o + n) (vs.drop n)
 | vs, o, 0, _, h => by simpa using h
 | v :: vs, o, n + 1, hn, h => by
  have := CellsAt.drop (n := n) (by simpa using hn) h.2
  rw [show o + (n + 1) = o + 1 + n by omega]
  simpa using this
theorem quiet_fieldAddr {t : TypeId} {x : Operand} {f o : Nat} {ft : TypeId} {c c' : C} (hx : ρA x = some (.one c)) (hf : fldI P t f = some (o, ft)) (h : fieldA c o = some (p, c')) (hp : p)
  (hlive : ∀ loc k i off, c = .ptr loc k i off → ∃ ob, s[loc]? = some (some ob) ∧ k = ob.es.length) : Quiet P (.fieldAddr t x f) ty s ρA (.one c') := by
 intro H m w ρ hs hρ
 have h1 := hρ x (by simp [Op.operands]) _ hx
 simp only [Ca] at h1
 unfold fieldA at h
 split at h
 ·rename_i loc k i off
  cases h
  obtain ⟨ob, ho, hk⟩ := hlive _ _ _ _ rfl
  simp only [Cc] at h1
  obtain ⟨-, l, hl, hle, he⟩ := h1
  have hn := (hs.ok loc ob l ho hl).n
  have he := he (by omega)
  refine ⟨_, by simp only [execOp, he, Sem.run_bind, run_fieldAt hf, Result.andThen_ok, Sem.run_pure]; rfl, ?_⟩
  simp only [Ca, Cc]
  exact ⟨rfl, l, hl, hle, fun _ => by rw [Nat.add_assoc]⟩
 ·rename_i cs
  cases h
  simp only [Cc] at h1
  obtain ⟨b, o', vs, e, h2, h3⟩ := h1
  refine ⟨_, by simp only [execOp, e, Sem.run_bind, run_fieldAt hf, Result.andThen_ok, Sem.run_pure]; rfl, ?_⟩
  simp only [Ca, Cc]
  exact ⟨b, _, vs.drop o, rfl, h2.drop (by rw [h3.len]; exact hp), h3.drop o⟩
 ·cases h
theorem run_part {w : World} {t : TypeId} {b : Bool} {n o : Nat} {X : Cx} {cs : List C} {x : A} {vs : List Value} (ht : tyI P t = some (b, n)) (hx : partC b n (cs.drop o) = some (p, x)) (hp : p) (hc : Ccs X cs vs) :
  ∃ u, (part t vs.toArray o).run P w = .ok u w ∧ Ca X x u := by
 obtain ⟨h1, h2⟩ := run_isAgg (P := P) (w := w) ht
 cases b with
 | true =>
  simp only [partC, Option.some.injEq, Prod.mk.injEq] at hx
  obtain ⟨rfl, rfl⟩ := hx
  refine ⟨.agg ((vs.drop o).take n).toArray, ?_, by simp only [Ca]; exact ⟨_, rfl, (hc.drop o).take n⟩⟩
  simp only [part, Sem.run_bind, h1, h2, Result.andThen_ok, if_true, Sem.run_pure]
  congr 2
  simp [List.take_drop]
 | false =>
  have hd := hc.drop o
  generalize hg : cs.drop o = ds at *
  cases ds with
  | nil => simp [partC] at hx
  | cons c ds =>
   simp only [partC, Option.some.injEq, Prod.mk.injEq] at hx
   obtain ⟨rfl, rfl⟩ := hx
   simp only [Ccs] at hd
   obtain ⟨u, r, hur, hc1, -⟩ := hd
   refine ⟨u, ?_, by simp only [Ca]; exact hc1⟩
   have hu : vs[o]? = some u := by
    have : (vs.drop o)[0]? = some u := by rw [hur]; rfl
    rw [List.getElem?_drop] at this; simpa using this
   simp only [part, Sem.run_bind, h1, Result.andThen_ok, if_false, Bool.false_eq_true, List.getElem?_toArray, hu, Sem.run_pure]
theorem quiet_field {t : TypeId} {x : Operand} {f o : Nat} {ft : TypeId} {b : Bool} {n : Nat} {cs : List C} {a : A} (hx : ρA x = some (.agg cs)) (hf : fldI P t f = some (o, ft)) (ht : tyI P ft = some (b, n)) (h : partC b n (cs.drop o) = some (p, a)) (hp : p) :
  Quiet P (.field t x f) ty s ρA a := by
 intro H m w ρ hs hρ
 have h1 := hρ x (by simp [Op.operands]) _ hx
 simp only [Ca] at h1
 obtain ⟨us, e, hc⟩ := h1
 obtain ⟨u, hr, hu⟩ := run_part (P := P) (w := w) ht h hp hc
 refine ⟨u, ?_, hu⟩
 unfold fldI at hf
 split at hf
 case h_2 => cases hf
 rename_i fs hus
 split at hf
 case h_2 => cases hf
 rename_i y hy
 split at hf
 case h_2 => cases hf
 split at hf
 case isTrue => cases hf
 cases hf
 have hun : (underlying t).run P w = .ok (.struct fs) w := by simp [underlying, program, bind, Sem.bind, Sem.run, hus, pure]
 simp only [execOp, e, Instr.field, Sem.run_bind, hun, Result.andThen_ok, hy, asAgg, Sem.run_pure, hr]
theorem quiet_extract {x : Operand} {i : Nat} {l : List A} {a : A} (hx : ρA x = some (.tup l)) (h : l[i]? = some a) : Quiet P (.extract x i) ty s ρA a := by
 intro H m w ρ hs hρ
 have h1 := hρ x (by simp [Op.operands]) _ hx
 simp only [Ca] at h1
 obtain ⟨us, e, hc⟩ := h1
 obtain ⟨u, hu, hca⟩ := hc.at h
 refine ⟨u, ?_, hca⟩
 simp only [execOp, e, Instr.extract, List.getElem?_toArray, hu, Sem.run_bind, Sem.run_pure, Result.andThen_ok]
theorem eltI_of {t e : TypeId} {n : Nat} (h : eltI P t = some (e, n)) : P.underlying t = some (.slice e) ∧ ∃ i, P.info? e = some i ∧ i.size = n := by
 unfold eltI at h
 split at h
 case h_2 => cases h
 rename_i e' hu
 split at h
 case h_2 => cases h
 rename_i i hi
 cases h
 exact ⟨hu, i, hi, rfl⟩
def indexA (s : List (Option Ob)) (c : C) (sz : Nat) (n : Int) : Option (Prop × C) :=
 match c with
 | .sl wd es => match es[n.toNat]? with
  | some e => some (0 ≤ n ∧ wd = sz, .pf e)
  | none => none
 | .ms loc k => match s[loc]? with
  | some (some ob) => some (0 ≤ n ∧ n < k ∧ k = ob.es.length ∧ ob.wd = sz, .ptr loc k n.toNat 0)
  | _ => none
 | _ => none
theorem run_indexAt {w : World} {t e : TypeId} {sz : Nat} (h : eltI P t = some (e, sz)) {k : IntKind} {n : Int} {b o len cap : Nat} (h0 : 0 ≤ n) (h1 : n < len) : (Instr.indexAt t (.slice (some ⟨b, o, none⟩) len cap) (.int k n)).run P w = .ok (.pointer (some ⟨b, o + n.toNat * sz, none⟩)) w := by
 obtain ⟨hu, i, hi, rfl⟩ := eltI_of h
 have hun : (underlying t).run P w = .ok (.slice e) w := by simp [underlying, program, bind, Sem.bind, Sem.run, hu, pure]
 have hsz : (sizeOf e).run P w = .ok i.size w := by simp [sizeOf, typeInfo, program, Sem.run, hi, bind, Sem.bind, pure]
 simp only [Instr.indexAt, asIntOf, Sem.run_bind, Sem.run_pure, Result.andThen_ok, hun, h0, h1, and_self, if_true, hsz, add_spot]
theorem quiet_indexAddr {t e : TypeId} {sz : Nat} {x y : Operand} {c c' : C} {k : IntKind} {n : Int} (hx : ρA x = some (.one c)) (hy : ρA y = some (.one (.v (.int k n)))) (ht : eltI P t = some (e, sz)) (h : indexA s c sz n = some (p, c')) (hp : p) :
  Quiet P (.indexAddr t x y) ty s ρA (.one c') := by
 intro H m w ρ hs hρ
 have h1 := hρ x (by simp [Op.operands]) _ hx
 have h2 := hρ y (by simp [Op.operands]) _ hy
 simp only [Ca] at h1 h2
 simp only [Cc] at h2
 unfold indexA at h
 split at h
 ·rename_i wd es
  split at h
  case h_2 => cases h
  rename_i el hel
  cases h
  obtain ⟨h0, rfl⟩ := hp
  have hlt := (List.getElem?_eq_some_iff.1 hel).1
  simp only [Cc] at h1
  obtain ⟨hw, ⟨rfl, -⟩ | ⟨b, o, cap, e1, l1, l2, hr⟩⟩ := h1
  ·simp at hlt
  obtain ⟨vs, h3, h4⟩ := hr.get hw n.toNat el hel
  refine ⟨_, by simp only [execOp, e1, h2.1, Sem.run_bind, run_indexAt ht h0 (show n < (es.length : Nat) by omega), Result.andThen_ok, Sem.run_pure]; rfl, ?_⟩
  simp only [Ca, Cc]
  exact ⟨b, _, vs, rfl, h3, h4⟩
 ·rename_i loc q
  split at h
  case h_2 => cases h
  rename_i ob ho
  cases h
  obtain ⟨h0, hlt, rfl, rfl⟩ := hp
  simp only [Cc] at h1
  obtain ⟨-, l, hl, hle, he⟩ := h1
  have hok := hs.ok loc ob l ho hl
  have he := he (by rw [hok.n])
  refine ⟨_, by simp only [execOp, he, h2.1, Sem.run_bind, run_indexAt ht h0 hlt, Result.andThen_ok, Sem.run_pure]; rfl, ?_⟩
  simp only [Ca, Cc]
  exact ⟨rfl, l, hl, hle, fun _ => by rw [hok.wd]; simp⟩
 ·cases h
theorem quiet_index_str {t : TypeId} {x y : Operand} {b : ByteArray} {k : IntKind} {n : Int} {z : UInt8} (hx : ρA x = some (.one (.v (.string b)))) (hy : ρA y = some (.one (.v (.int k n)))) (ht : strI P t = true) (h0 : 0 ≤ n) (h : b[n.toNat]? = some z) :
  Quiet P (.index t x y) ty s ρA (.one (.v (.int .u8 z.toNat))) := by
 intro H m w ρ hs hρ
 have h1 := hρ x (by simp [Op.operands]) _ hx
 have h2 := hρ y (by simp [Op.operands]) _ hy
 simp only [Ca, Cc] at h1 h2
 have hun : (underlying t).run P w = .ok .string w := by simp [underlying, program, bind, Sem.bind, Sem.run, strI_of ht, pure]
 refine ⟨_, ?_, caV rfl⟩
 simp only [execOp, h1.1, h2.1, Instr.index, asIntOf, Sem.run_bind, Sem.run_pure, Result.andThen_ok, hun, h0, if_true, h]
def lenT (P : Program) (t : TypeId) : Option Bool := match P.underlying t with | some .string => some true | some (.slice _) => some false | _ => none
theorem run_len {w : World} {t ty : TypeId} {u : Value} {n : Nat} (h : (lenT P t = some true ∧ ∃ b, u = .string b ∧ n = b.size) ∨ (lenT P t = some false ∧ ∃ a c, u = .slice a n c)) : (Builtin.len_ #[t] ty #[u]).run P w = .ok (goInt n) w := by
 rcases h with ⟨h, b, rfl, rfl⟩ | ⟨h, a, c, rfl⟩ <;> unfold lenT at h <;> split at h
 all_goals (first | (cases h; done) | skip)
 all_goals
  rename_i hu
  simp [Builtin.len_, underlying, program, bind, Sem.bind, Sem.run, hu, pure]
def lenB (s : List (Option Ob)) (e : Bool) (c : C) : Option (Prop × Int) :=
 match c with
 | .v (.string b) => some (e = true, b.size)
 | .sl _ es => some (e = false, es.length)
 | .v (.slice none 0 0) => some (e = false, 0)
 | .ms loc k => some (e = false, k)
 | _ => none
theorem quiet_len {t : TypeId} {e : Bool} {x : Operand} {c : C} {n : Int} (hx : ρA x = some (.one c)) (ht : lenT P t = some e) (h : lenB s e c = some (p, n)) (hp : p) :
  Quiet P (.call { callee := .builtin .len, args := #[x], argTypes := #[t] }) ty s ρA (.one (.v (.int .i64 n))) := by
 intro H m w ρ hs hρ
 have h1 := hρ x (by simp [Op.operands, Call.operands]) _ hx
 simp only [Ca] at h1
 have key : ∃ k : Nat, (k : Int) = n ∧ (Builtin.len_ #[t] ty #[ρ x]).run P w = .ok (goInt k) w := by
  unfold lenB at h
  split at h
  ·cases h; subst hp
   simp only [Cc] at h1
   exact ⟨_, rfl, run_len (.inl ⟨ht, _, h1.1, rfl⟩)⟩
  ·cases h; subst hp
   simp only [Cc] at h1
   obtain ⟨-, ⟨rfl, h1 | ⟨a, cap, h1, -⟩⟩ | ⟨b, o, cap, h1, -⟩⟩ := h1
   ·exact ⟨0, rfl, run_len (.inr ⟨ht, _, _, h1⟩)⟩
   ·exact ⟨0, rfl, run_len (.inr ⟨ht, _, _, h1⟩)⟩
   ·exact ⟨_, rfl, run_len (.inr ⟨ht, _, _, h1⟩)⟩
  ·cases h; subst hp
   simp only [Cc] at h1
   exact ⟨0, rfl, run_len (.inr ⟨ht, _, _, h1.1⟩)⟩
  ·cases h; subst hp
   simp only [Cc] at h1
   obtain ⟨⟨q, c, he⟩, -⟩ := h1
   exact ⟨_, rfl, run_len (.inr ⟨ht, _, _, he⟩)⟩
  ·cases h
 obtain ⟨k, rfl, hr⟩ := key
 refine ⟨_, ?_, caV rfl⟩
 simp only [execOp, resolve, invoke, builtin, Sem.run_bind, Sem.run_pure, Result.andThen_ok, List.map_toArray, List.map_cons, List.map_nil, hr, goInt]
theorem quiet_max {ts : Array TypeId} {x y : Operand} {k : IntKind} {a b : Int} (hx : ρA x = some (.one (.v (.int k a)))) (hy : ρA y = some (.one (.v (.int k b)))) :
  Quiet P (.call { callee := .builtin .max, args := #[x, y], argTypes := ts }) ty s ρA (.one (.v (.int k (if b > a then b else a)))) := by
 intro H m w ρ hs hρ
 have h1 := hρ x (by simp [Op.operands, Call.operands]) _ hx
 have h2 := hρ y (by simp [Op.operands, Call.operands]) _ hy
 simp only [Ca, Cc] at h1 h2
 refine ⟨_, ?_, caV rfl⟩
 simp [execOp, resolve, invoke, builtin, Builtin.max_, Builtin.max2, h1.1, h2.1]
theorem quiet_min {ts : Array TypeId} {x y : Operand} {k : IntKind} {a b : Int} (hx : ρA x = some (.one (.v (.int k a)))) (hy : ρA y = some (.one (.v (.int k b)))) :
  Quiet P (.call { callee := .builtin .min, args := #[x, y], argTypes := ts }) ty s ρA (.one (.v (.int k (if b < a then b else a)))) := by
 intro H m w ρ hs hρ
 have h1 := hρ x (by simp [Op.operands, Call.operands]) _ hx
 have h2 := hρ y (by simp [Op.operands, Call.operands]) _ hy
 simp only [Ca, Cc] at h1 h2
 refine ⟨_, ?_, caV rfl⟩
 simp [execOp, resolve, invoke, builtin, Builtin.min_, Builtin.min2, h1.1, h2.1]
end
def A.cs : A → Option (List C)
 | .one c => some [c]
 | .agg cs => some cs
 | _ => none
theorem Ca.cells {X : Cx} {x : A} {u : Value} {cs : List C} (h : Ca X x u) (hx : x.cs = some cs) : Ccs X cs u.cells.toList := by
 cases x with
 | one c =>
  simp only [A.cs, Option.some.injEq] at hx; subst hx
  simp only [Ca] at h
  rw [oneCell_cells h.one]
  simp only [Ccs]; exact ⟨u, [], rfl, h, rfl⟩
 | agg cs' =>
  simp only [A.cs, Option.some.injEq] at hx; subst hx
  simp only [Ca] at h
  obtain ⟨us, rfl, h⟩ := h
  simpa [Value.cells] using h
 | any => simp [A.cs] at hx
 | tup l => simp [A.cs] at hx
def over {α : Type} (l : List α) (o : Nat) (xs : List α) : List α := l.take o ++ xs ++ l.drop (o + xs.length)
theorem over_length {α : Type} {l : List α} {o : Nat} {xs : List α} (h : o + xs.length ≤ l.length) : (over l o xs).length = l.length := by
 simp [over]; omega
theorem Ccs.over {X : Cx} {cs ds : List C} {us vs : List Value} (h : Ccs X cs us) (k : Ccs X ds vs) (o : Nat) : Ccs X (over cs o ds) (Proofs.YtpacdmgnpadleaaDoor.over us o vs) := by
 unfold Proofs.YtpacdmgnpadleaaDoor.over
 rw [k.len]
 exact Ccs.append.2 ⟨_, _, rfl, Ccs.append.2 ⟨_, _, rfl, h.take o, k⟩, h.drop _⟩
theorem foldl_zipIdx_over (xs : List Value) : ∀ (cs : Array Value) (k o : Nat), o + k + xs.length ≤ cs.size → ((xs.zipIdx k).foldl (fun cs (p : Value × Nat) => cs.setIfInBounds (o + p.2) p.1) cs).toList = over cs.toList (o + k) xs := by
 induction xs with
 | nil => intro cs k o h; simp [over]
 | cons x xs ih =>
  intro cs k o h
  rw [List.zipIdx_cons, List.foldl_cons, ih _ (k + 1) o (by simp at h ⊢; omega)]
  simp only [Array.toList_setIfInBounds, over, List.length_cons]
  have h1 : o + k < cs.toList.length := by simp at h ⊢; omega
  rw [show o + (k + 1) = (o + k) + 1 by omega, List.take_succ_eq_append_getElem (by simpa using h1), List.take_set_of_le (Nat.le_refl _)]
  simp only [List.getElem_set_self, List.append_assoc, List.cons_append, List.nil_append]
  rw [List.drop_set_of_lt (by omega), show o + k + 1 + xs.length = o + k + (xs.length + 1) by omega]
def fillA (place : Nat → Option (Nat × Nat)) : List C → List (Nat × A) → Option (List C)
 | cs, [] => some cs
 | cs, (i, x) :: r => match place i with
  | none => none
  | some (o, n) => match x.cs with
   | none => none
   | some ds => if ds.length = n ∧ o + n ≤ cs.length then fillA place (over cs o ds) r else none
theorem fill_sound {X : Cx} {place : Nat → Option (Nat × Nat)} : ∀ {l : List (Nat × A)} {vl : List (Nat × Value)} {cs cs' : List C} {us : Array Value}, fillA place cs l = some cs' → Ccs X cs us.toList → vl.map (·.1) = l.map (·.1) →
  (∀ (i : Nat) (x : A) (v : Value), (l.map (·.2))[i]? = some x → (vl.map (·.2))[i]? = some v → Ca X x v) → ∃ us', Instr.fill place us vl = some us' ∧ Ccs X cs' us'.toList
 | [], [], cs, cs', us, h, hc, _, _ => by simp only [fillA, Option.some.injEq] at h; subst h; exact ⟨us, rfl, hc⟩
 | [], _ :: _, cs, cs', us, h, hc, e, _ => by simp at e
 | _ :: _, [], cs, cs', us, h, hc, e, _ => by simp at e
 | (i, x) :: l, (i', v) :: vl, cs, cs', us, h, hc, e, hv => by
  simp only [List.map_cons, List.cons.injEq] at e
  obtain ⟨rfl, e⟩ := e
  simp only [fillA] at h
  split at h
  ·cases h
  rename_i o n hpl
  split at h
  ·cases h
  rename_i ds hds
  split at h
  case isFalse => cases h
  rename_i hcond
  have hcv := (hv 0 x v (by simp) (by simp)).cells hds
  have hvl : v.cells.size = n := by rw [← Array.length_toList, hcv.len]; exact hcond.1
  have hsz : us.size = cs.length := by rw [← Array.length_toList, hc.len]
  have hov := foldl_zipIdx_over v.cells.toList us 0 o (by rw [Array.length_toList]; omega)
  obtain ⟨us', h1, h2⟩ := fill_sound (us := (v.cells.zipIdx.foldl (fun cs (c, j) => cs.setIfInBounds (o + j) c) us)) (vl := vl) h (by
   have : (v.cells.zipIdx.foldl (fun cs (c, j) => cs.setIfInBounds (o + j) c) us).toList = over us.toList o v.cells.toList := by
    rw [← Array.foldl_toList, Array.toList_zipIdx]; exact hov
   rw [this]
   exact hc.over hcv o) e (fun j y u hy hu => hv (j + 1) y u (by simpa using hy) (by simpa using hu))
  refine ⟨us', ?_, h2⟩
  rw [Instr.fill]
  simp only [hpl]
  rw [if_neg]
  ·exact h1
  ·simp only [Bool.or_eq_true, decide_eq_true_eq, not_or, ne_eq]
   refine ⟨by simp [hvl], by omega⟩
def zerI (P : Program) (t : TypeId) : Option (List Value) :=
 match P.info? t with
 | some i => match i.zero with
  | some z => if z.cells.toList.all (·.oneCell') && decide (z.cells.size = i.size) then some z.cells.toList else none
  | none => none
 | none => none
theorem zerI_of {P : Program} {t : TypeId} {zs : List Value} (h : zerI P t = some zs) : ∃ i z, P.info? t = some i ∧ i.zero = some z ∧ z.cells = zs.toArray ∧ (∀ u ∈ zs, u.oneCell' = true) ∧ zs.length = i.size := by
 unfold zerI at h
 split at h
 case h_2 => cases h
 rename_i i hi
 split at h
 case h_2 => cases h
 rename_i z hz
 split at h
 case isFalse => cases h
 rename_i hc
 cases h
 simp only [Bool.and_eq_true, List.all_eq_true, decide_eq_true_eq] at hc
 exact ⟨i, z, hi, hz, by simp, hc.1, by simpa using hc.2⟩
theorem Ccs.vals (X : Cx) : ∀ {zs : List Value}, (∀ u ∈ zs, u.oneCell' = true) → Ccs X (zs.map .v) zs
 | [], _ => by simp [Ccs]
 | z :: zs, h => by
  simp only [List.map_cons, Ccs]
  exact ⟨z, zs, rfl, by simp only [Cc]; exact ⟨trivial, h z (by simp)⟩, Ccs.vals X (fun u hu => h u (by simp [hu]))⟩
theorem run_zeroValue {P : Program} {w : World} {t : TypeId} {i : TypeInfo} {z : Value} (hi : P.info? t = some i) (hz : i.zero = some z) : (zeroValue t).run P w = .ok z w := by
 simp [zeroValue, typeInfo, program, Sem.run, hi, hz, bind, Sem.bind, pure]
def placeI (P : Program) (t : TypeId) (f : Nat) : Option (Nat × Nat) :=
 match P.underlying t with
 | some (.struct fs) => match fs[f]? with
  | some x => match P.info? x.type with
   | some i => some (x.offset, i.size)
   | none => none
  | none => none
 | _ => none
def fldsI (P : Program) (t : TypeId) : Bool :=
 match P.underlying t with
 | some (.struct fs) => fs.toList.all fun x => (P.info? x.type).isSome
 | _ => false
theorem run_places {P : Program} {w : World} : ∀ (fs : List Field), (∀ x ∈ fs, (P.info? x.type).isSome = true) → (fs.mapM fun f => do pure (f.offset, ← sizeOf f.type) : Sem (List (Nat × Nat))).run P w = .ok (fs.map fun f => (f.offset, P.cellsOf f.type)) w
 | [], _ => by simp
 | f :: fs, h => by
  obtain ⟨i, hi⟩ := Option.isSome_iff_exists.1 (h f (by simp))
  have hs : (sizeOf f.type).run P w = .ok (P.cellsOf f.type) w := by simp [sizeOf, typeInfo, program, Sem.run, hi, bind, Sem.bind, pure, Program.cellsOf]
  rw [List.mapM_cons]
  simp only [Sem.run_bind, hs, Result.andThen_ok, Sem.run_pure, run_places fs (fun x hx => h x (by simp [hx])), List.map_cons]
section
variable {P : Program} {ty : TypeId} {s : List (Option Ob)} {ρA : Operand → Option A} {p : Prop}
def partsA (ρA : Operand → Option A) : List (Nat × Operand) → Option (List (Nat × A))
 | [] => some []
 | (i, x) :: r => match ρA x with
  | some a => match partsA ρA r with
   | some l => some ((i, a) :: l)
   | none => none
  | none => none
theorem partsA_spec : ∀ {l : List (Nat × Operand)} {pl : List (Nat × A)}, partsA ρA l = some pl → pl.map (·.1) = l.map (·.1) ∧ ∀ (i : Nat) (x : A), (pl.map (·.2))[i]? = some x → ∃ o, (l.map (·.2))[i]? = some o ∧ ρA o = some x
 | [], pl, h => by simp only [partsA, Option.some.injEq] at h; subst h; simp
 | (i, x) :: r, pl, h => by
  simp only [partsA] at h
  split at h
  case h_2 => cases h
  rename_i a ha
  split at h
  case h_2 => cases h
  rename_i l hl
  cases h
  obtain ⟨h1, h2⟩ := partsA_spec hl
  refine ⟨by simp [h1], fun j y hy => ?_⟩
  cases j with
  | zero => simp at hy; subst hy; exact ⟨x, by simp, ha⟩
  | succ j => obtain ⟨o, h3, h4⟩ := h2 j y (by simpa using hy); exact ⟨o, by simpa using h3, h4⟩
theorem quiet_build {t : TypeId} {parts : List (Nat × Operand)} {pl : List (Nat × A)} {zs : List Value} {cs : List C} (hp : partsA ρA parts = some pl) (hz : zerI P t = some zs) (hf : fldsI P t = true) (h : fillA (placeI P t) (zs.map .v) pl = some cs) :
  Quiet P (.build t parts.toArray) ty s ρA (.agg cs) := by
 intro H m w ρ hs hρ
 obtain ⟨i, z, hi, hzz, hzc, h1, hzl⟩ := zerI_of hz
 obtain ⟨hp1, hp2⟩ := partsA_spec hp
 unfold fldsI at hf
 split at hf
 case h_2 => cases hf
 rename_i fs hu
 rw [List.all_eq_true] at hf
 have hun : (underlying t).run P w = .ok (.struct fs) w := by simp [underlying, program, bind, Sem.bind, Sem.run, hu, pure]
 have hpl : ∀ f, placeI P t f = (fs.map fun f => (f.offset, P.cellsOf f.type))[f]? := fun f => by
  unfold placeI
  simp only [hu, Array.getElem?_map]
  cases hx : fs[f]? with
  | none => rfl
  | some x =>
   obtain ⟨j, hj⟩ := Option.isSome_iff_exists.1 (hf x (by rw [← Array.mem_def]; exact Array.mem_of_getElem? hx))
   simp [hj, Program.cellsOf]
 have hpl' : placeI P t = fun f => (fs.map fun f => (f.offset, P.cellsOf f.type))[f]? := funext hpl
 rw [hpl'] at h
 obtain ⟨us', g1, g2⟩ := fill_sound (X := ⟨vis H s m w, m⟩) (us := z.cells) (vl := (parts.map fun (p : Nat × Operand) => (p.1, ρ p.2))) h (by rw [hzc]; exact Ccs.vals _ h1) (by rw [hp1]; simp [Function.comp_def]) (fun j x v hx hv => by
  obtain ⟨o, ho, hox⟩ := hp2 j x hx
  refine (show v = ρ o from ?_) ▸ hρ o ?_ x hox
  ·simp only [List.map_map, List.getElem?_map, Option.map_eq_some_iff, Function.comp_def] at hv ho
   obtain ⟨p1, e1, rfl⟩ := hv
   obtain ⟨p2, e2, rfl⟩ := ho
   rw [e1] at e2; cases e2; rfl
  ·simp only [Op.operands]
   have := List.mem_of_getElem? ho
   simpa using this)
 refine ⟨.agg us', ?_, by simp only [Ca]; exact ⟨us'.toList, by simp, g2⟩⟩
 have hm : (fs.mapM fun f => do pure (f.offset, ← sizeOf f.type) : Sem (Array (Nat × Nat))).run P w = .ok (fs.map fun f => (f.offset, P.cellsOf f.type)) w := by
  rw [Array.mapM_eq_mapM_toList]
  have := run_places (P := P) (w := w) fs.toList hf
  rw [map_eq_pure_bind]
  simp only [Sem.run_bind, this, Result.andThen_ok, Sem.run_pure]
  congr 1
  apply Array.toList_inj.1
  simp
 simp only [execOp, Instr.build, Sem.run_bind, run_zeroValue hi hzz, Result.andThen_ok, hun, hm, List.map_toArray, g1, Sem.run_pure]
end
theorem hidB_append {s : List (Option Ob)} {m : List Lo} (h : s.length = m.length) (o : Option Ob) (l : Lo) (b : Nat) : hidB (s ++ [o]) (m ++ [l]) b = (hidB s m b || (o.isSome && l.b == b)) := by
 unfold hidB
 rw [List.zip_append h]
 simp
section
variable {H : Nat → Bool} {w0 : World} {S0 : Nat → Bool} {m0 : List Lo} {nt : Cf} {st : St} {m : List Lo} {a : Act} {w : World}
theorem StoOk.lt (h : StoOk H st.s m w) {i : Nat} {ob : Ob} {l : Lo} (h1 : st.s[i]? = some (some ob)) (h2 : m[i]? = some l) : l.b < w.heap.size := by
 obtain ⟨vs, rest, hb, -⟩ := (h.ok i ob l h1 h2).mem
 exact (Array.getElem?_eq_some_iff.1 hb).1
theorem ObOk.carry {X X' : Cx} {w w' : World} {l : Lo} {ob : Ob} (h : ObOk X w l ob) (hk : Keeps X.r X'.r) (hu : Up X.lk X'.lk) (hb : w'.heap[l.b]? = w.heap[l.b]?) : ObOk X' w' l ob := by
 obtain ⟨h1, h2, h3, h4, h5, vs, rest, h6, h7, h8⟩ := h
 exact ⟨h1, h2, h3, h4, h5, vs, rest, hb.trans h6, h7, h8.keep hk hu⟩
theorem Sim.new (h : Sim H w0 S0 m0 nt st m a w) (ob : Ob) (cap : Nat) (vs rest : List Value) (hall : ∀ e ∈ ob.es, e.length = ob.wd) (hle : ob.es.length ≤ cap) (hmax : cap ≤ maxLen) (hlen : (vs ++ rest).length = cap * ob.wd) (hc : Ccs ⟨vis H st.s m w, m⟩ ob.es.flatten vs)
  {w' : World} (hw : w'.heap = w.heap.push (.cells (vs ++ rest).toArray ob.ty (0, 0))) (ho : w'.os = w.os) (ht : w'.tape = w.tape) (hu : w'.output = w.output) :
  Sim H w0 S0 m0 nt ⟨st.e, st.s ++ [some ob]⟩ (m ++ [⟨w.heap.size, ob.es.length, cap, ob.wd⟩]) a w' ∧ Goes st.s m w (st.s ++ [some ob]) (m ++ [⟨w.heap.size, ob.es.length, cap, ob.wd⟩]) w' := by
 have hsl := h.sto.len
 have hold : ∀ b, b < w.heap.size → w'.heap[b]? = w.heap[b]? := fun b hb => by rw [hw, Array.getElem?_push, if_neg (by omega)]
 have hnew : w'.heap[w.heap.size]? = some (.cells (vs ++ rest).toArray ob.ty (0, 0)) := by rw [hw, Array.getElem?_push, if_pos rfl]
 have hg : Goes st.s m w (st.s ++ [some ob]) (m ++ [⟨w.heap.size, ob.es.length, cap, ob.wd⟩]) w' := by
  refine ⟨Up.append _ _, ho, ht, hu, by rw [hw]; simp, fun b hb hh => ⟨?_, hold b hb⟩⟩
  rw [hidB_append hsl, hh]
  simp; omega
 have hcase : ∀ (i : Nat) (o : Ob) (l : Lo), (st.s ++ [some ob])[i]? = some (some o) → (m ++ [⟨w.heap.size, ob.es.length, cap, ob.wd⟩])[i]? = some l → (st.s[i]? = some (some o) ∧ m[i]? = some l) ∨ (i = st.s.length ∧ o = ob ∧ l = ⟨w.heap.size, ob.es.length, cap, ob.wd⟩) := by
  intro i o l h1 h2
  rcases Nat.lt_trichotomy i st.s.length with hi | hi | hi
  ·rw [List.getElem?_append_left hi] at h1
   rw [List.getElem?_append_left (by omega)] at h2
   exact .inl ⟨h1, h2⟩
  ·subst hi
   rw [List.getElem?_append_right (Nat.le_refl _), Nat.sub_self] at h1
   rw [hsl, List.getElem?_append_right (Nat.le_refl _), Nat.sub_self] at h2
   simp at h1 h2
   exact .inr ⟨rfl, h1.symm, h2.symm⟩
  ·rw [List.getElem?_eq_none (by simp; omega)] at h1
   cases h1
 refine ⟨h.goes hg ⟨by simp [hsl], fun i o l h1 h2 => ?_, fun i j oi oj li lj h1 h2 h3 h4 e => ?_, fun i o l h1 h2 => ?_, fun b hb => Nat.lt_of_lt_of_le (h.sto.hlt b hb) hg.size, hg.gb h.sto.gb, hg.gl h.sto.gb h.sto.gl⟩ fun i o l h1 h2 => ?_, hg⟩
 ·rcases hcase i o l h1 h2 with ⟨g1, g2⟩ | ⟨-, rfl, rfl⟩
  ·exact (h.sto.ok i o l g1 g2).carry hg.keeps hg.up (hold _ (h.sto.lt g1 g2))
  ·exact ⟨rfl, rfl, hall, hle, hmax, vs, rest, hnew, hlen, hc.keep hg.keeps hg.up⟩
 ·rcases hcase i oi li h1 h3 with ⟨g1, g2⟩ | ⟨e1, rfl, rfl⟩ <;> rcases hcase j oj lj h2 h4 with ⟨g3, g4⟩ | ⟨e2, rfl, rfl⟩
  ·exact h.sto.uniq i j oi oj li lj g1 g3 g2 g4 e
  ·have := h.sto.lt g1 g2; rw [e] at this; exact absurd this (Nat.lt_irrefl _)
  ·have := h.sto.lt g3 g4; rw [← e] at this; exact absurd this (Nat.lt_irrefl _)
  ·rw [e1, e2]
 ·rcases hcase i o l h1 h2 with ⟨g1, g2⟩ | ⟨-, rfl, rfl⟩
  ·exact h.sto.nh i o l g1 g2
  ·cases hh : H w.heap.size with
   | false => rfl
   | true => exact absurd (h.sto.hlt _ hh) (Nat.lt_irrefl _)
 ·rcases hcase i o l h1 h2 with ⟨g1, g2⟩ | ⟨-, rfl, rfl⟩
  ·exact h.own i o l g1 g2
  ·exact .inr h.fr.size
theorem Sim.turn (h : Sim H w0 S0 m0 nt st m a w) {loc : Nat} {ob ob' : Ob} {l l' : Lo} (ho : st.s[loc]? = some (some ob)) (hl : m[loc]? = some l) {w' : World} (hn : l.n ≤ l'.n) (he : l.n = l'.n → l' = l)
  (hos : w'.os = w.os) (htp : w'.tape = w.tape) (hou : w'.output = w.output) (hsz : w.heap.size ≤ w'.heap.size) (hbl : ∀ b, b < w.heap.size → b ≠ l.b → w'.heap[b]? = w.heap[b]?) (hwh : l'.b = l.b ∨ w.heap.size ≤ l'.b)
  (hok : ObOk ⟨vis H st.s m w, m⟩ w' l' ob') : Sim H w0 S0 m0 nt ⟨st.e, st.s.set loc (some ob')⟩ (m.set loc l') a w' ∧ Goes st.s m w (st.s.set loc (some ob')) (m.set loc l') w' := by
 have hls : loc < st.s.length := (List.getElem?_eq_some_iff.1 ho).1
 have hlm : loc < m.length := (List.getElem?_eq_some_iff.1 hl).1
 have hcase : ∀ (i : Nat) (o : Ob) (q : Lo), (st.s.set loc (some ob'))[i]? = some (some o) → (m.set loc l')[i]? = some q → (i = loc ∧ o = ob' ∧ q = l') ∨ (i ≠ loc ∧ st.s[i]? = some (some o) ∧ m[i]? = some q) := by
  intro i o q h1 h2
  rw [List.getElem?_set] at h1 h2
  by_cases hi : loc = i
  ·subst hi
   simp [hls] at h1
   simp [hlm] at h2
   exact .inl ⟨rfl, h1.symm, h2.symm⟩
  ·rw [if_neg hi] at h1 h2
   exact .inr ⟨fun e => hi e.symm, h1, h2⟩
 have hhid : hidB st.s m l.b = true := hidB_iff.2 ⟨loc, ob, l, ho, hl, rfl⟩
 have hg : Goes st.s m w (st.s.set loc (some ob')) (m.set loc l') w' := by
  refine ⟨fun i q hq => ?_, hos, htp, hou, hsz, fun b hb hh => ⟨?_, hbl b hb fun e => by rw [e, hhid] at hh; cases hh⟩⟩
  ·by_cases hi : loc = i
   ·subst hi
    rw [hl] at hq; cases hq
    exact ⟨l', by simp [List.getElem?_set, hlm], hn, he⟩
   ·exact ⟨q, by rw [List.getElem?_set, if_neg hi]; exact hq, Nat.le_refl _, fun _ => rfl⟩
  ·cases hc : hidB (st.s.set loc (some ob')) (m.set loc l') b with
   | false => rfl
   | true =>
    obtain ⟨i, o, q, h1, h2, rfl⟩ := hidB_iff.1 hc
    rcases hcase i o q h1 h2 with ⟨-, -, rfl⟩ | ⟨-, h3, h4⟩
    ·rcases hwh with h' | h'
     ·rw [h', hhid] at hh; cases hh
     ·omega
    ·rw [hidB_iff.2 ⟨i, o, q, h3, h4, rfl⟩] at hh; cases hh
 refine ⟨h.goes hg ⟨by simp [h.sto.len], fun i o q h1 h2 => ?_, fun i j oi oj li lj h1 h2 h3 h4 e => ?_, fun i o q h1 h2 => ?_, fun b hb => Nat.lt_of_lt_of_le (h.sto.hlt b hb) hsz, hg.gb h.sto.gb, hg.gl h.sto.gb h.sto.gl⟩ fun i o q h1 h2 => ?_, hg⟩
 ·rcases hcase i o q h1 h2 with ⟨-, rfl, rfl⟩ | ⟨hi, g1, g2⟩
  ·obtain ⟨a1, a2, a3, a4, a5, vs, rest, a6, a7, a8⟩ := hok
   exact ⟨a1, a2, a3, a4, a5, vs, rest, a6, a7, a8.keep hg.keeps hg.up⟩
  ·refine (h.sto.ok i o q g1 g2).carry hg.keeps hg.up (hbl _ (h.sto.lt g1 g2) fun e => hi (h.sto.uniq i loc o ob q l g1 ho g2 hl e))
 ·rcases hcase i oi li h1 h3 with ⟨rfl, rfl, rfl⟩ | ⟨hi, g1, g2⟩ <;> rcases hcase j oj lj h2 h4 with ⟨rfl, rfl, rfl⟩ | ⟨hj, g3, g4⟩
  ·rfl
  ·exfalso
   rcases hwh with h' | h'
   ·exact hj (h.sto.uniq j _ oj ob lj l g3 ho g4 hl (by rw [← e, h']))
   ·have := h.sto.lt g3 g4; omega
  ·exfalso
   rcases hwh with h' | h'
   ·exact hi (h.sto.uniq i _ oi ob li l g1 ho g2 hl (by rw [e, h']))
   ·have := h.sto.lt g1 g2; omega
  ·exact h.sto.uniq i j oi oj li lj g1 g3 g2 g4 e
 ·rcases hcase i o q h1 h2 with ⟨rfl, rfl, rfl⟩ | ⟨hi, g1, g2⟩
  ·rcases hwh with h' | h'
   ·rw [h']; exact h.sto.nh _ ob l ho hl
   ·cases hh : H q.b with
    | false => rfl
    | true => have := h.sto.hlt _ hh; omega
  ·exact h.sto.nh i o q g1 g2
 ·rcases hcase i o q h1 h2 with ⟨rfl, rfl, rfl⟩ | ⟨hi, g1, g2⟩
  ·rcases hwh with h' | h'
   ·rw [h']; exact h.own _ ob l ho hl
   ·exact .inr (Nat.le_trans h.fr.size h')
  ·exact h.own i o q g1 g2
end
section
variable {P : Program} {nt : Cf} {ty : TypeId} {st : St}
def constA : Value → Option A
 | .agg us => if us.toList.all (·.oneCell') = true then some (.agg (us.toList.map .v)) else none
 | _ => none
theorem ccsV {X : Cx} : ∀ {l : List Value}, l.all (·.oneCell') = true → Ccs X (l.map .v) l
 | [], _ => by simp [Ccs]
 | v :: l, h => by
  simp only [List.all_cons, Bool.and_eq_true] at h
  simp only [List.map_cons, Ccs]
  exact ⟨v, l, rfl, by simp only [Cc]; exact ⟨trivial, h.1⟩, ccsV h.2⟩
theorem constA_ca {X : Cx} {v : Value} {y : A} (h : constA v = some y) : Ca X y v := by
 unfold constA at h
 split at h
 ·split at h
  ·rename_i us hu
   cases h
   simp only [Ca]
   exact ⟨us.toList, by simp, ccsV hu⟩
  ·cases h
 ·cases h
def rdA (e : List (Nat × A)) : Operand → Option A
 | .tmp t => find e t
 | .const v => if v.oneCell' = true then some (.one (.v v)) else constA v
 | .func f => some (.one (.fn f []))
 | .global _ => none
theorem Sim.rd {H : Nat → Bool} {w0 : World} {S0 : Nat → Bool} {m0 : List Lo} {m : List Lo} {a : Act} {w : World} (h : Sim H w0 S0 m0 nt st m a w) {x : Operand} {y : A} (hx : rdA st.e x = some y) : Ca ⟨vis H st.s m w, m⟩ y (a.eval x) := by
 unfold rdA at hx
 split at hx
 ·exact h.eval hx
 ·split at hx
  ·rename_i h1
   cases hx
   exact caV h1
  ·exact constA_ca hx
 ·cases hx
  simp only [Ca, Cc]
  exact ⟨[], rfl, by simp [Ccs]⟩
 ·cases hx
theorem OpA.quiet {op : Op} {x : A} (h : Quiet P op ty st.s (rdA st.e) x) : OpA P nt op ty st x st := fun H w0 S0 m0 m a w hs => by
 obtain ⟨u, hr, hc⟩ := h H m w a.eval hs.sto (fun o _ y hy => hs.rd hy)
 exact ⟨u, w, m, .inl hr, hs, Goes.refl _ _ _, hc⟩
theorem OpA.box {t : TypeId} {x : Operand} {y : A} {cs : List C} (hy : rdA st.e x = some y) (hc : y.cs = some cs) : OpA P nt (.box t x) ty st (.one (.ptr st.s.length 1 0 0)) ⟨st.e, st.s ++ [some ⟨t, cs.length, [cs]⟩]⟩ := fun H w0 S0 m0 m a w hs => by
 have h1 := (hs.rd hy).cells hc
 have hn := hs.new ⟨t, cs.length, [cs]⟩ 1 (a.eval x).cells.toList [] (by simp) (by simp) (by simp [maxLen]) (by simpa using h1.len) (by simpa using h1) (w' := w.alloc (.cells (a.eval x).cells t)) (by simp only [List.append_nil, Array.toArray_toList]; rfl) rfl rfl rfl
 refine ⟨.pointer (some ⟨w.heap.size, 0, none⟩), _, _, .inl ?_, hn.1, hn.2, ?_⟩
 ·rfl
 ·simp only [Ca, Cc]
  refine ⟨rfl, ⟨w.heap.size, 1, 1, cs.length⟩, ?_, Nat.le_refl _, fun _ => by simp⟩
  rw [hs.sto.len, List.getElem?_append_right (Nat.le_refl _)]; simp
theorem OpA.alloc {t : TypeId} {zs : List Value} (hz : zerI P t = some zs) : OpA P nt (.alloc t) ty st (.one (.ptr st.s.length 1 0 0)) ⟨st.e, st.s ++ [some ⟨t, zs.length, [zs.map .v]⟩]⟩ := fun H w0 S0 m0 m a w hs => by
 obtain ⟨i, z, hi, hzz, hzc, h1, hzl⟩ := zerI_of hz
 have hn := hs.new ⟨t, zs.length, [zs.map .v]⟩ 1 zs [] (by simp) (by simp) (by simp [maxLen]) (by simp) (by simpa using Ccs.vals _ h1) (w' := w.alloc (.cells z.cells t)) (by rw [hzc, List.append_nil]; rfl) rfl rfl rfl
 refine ⟨.pointer (some ⟨w.heap.size, 0, none⟩), _, _, .inl ?_, hn.1, hn.2, ?_⟩
 ·simp only [execOp, Instr.alloc, Sem.run_bind, run_zeroValue hi hzz, Result.andThen_ok]
  rfl
 ·simp only [Ca, Cc]
  refine ⟨rfl, ⟨w.heap.size, 1, 1, zs.length⟩, ?_, Nat.le_refl _, fun _ => by simp⟩
  rw [hs.sto.len, List.getElem?_append_right (Nat.le_refl _)]; simp
theorem flatten_set {α : Type} {wd : Nat} : ∀ {es : List (List α)} (_ : ∀ e ∈ es, e.length = wd) (i : Nat) (e : List α) (_ : es[i]? = some e) (off : Nat) (xs : List α) (_ : off + xs.length ≤ e.length), (es.set i (over e off xs)).flatten = over es.flatten (i * wd + off) xs
 | e :: es, hw, 0, e', he, off, xs, hx => by
  simp at he; subst he
  simp only [List.set_cons_zero, List.flatten_cons, over, Nat.zero_mul, Nat.zero_add]
  rw [List.take_append_of_le_length (by omega), List.drop_append_of_le_length (by omega)]
  simp
 | e :: es, hw, i + 1, e', he, off, xs, hx => by
  have hl := hw e (by simp)
  have := flatten_set (fun x hx => hw x (List.mem_cons_of_mem _ hx)) i e' (by simpa using he) off xs hx
  rw [List.set_cons_succ, List.flatten_cons, List.flatten_cons, this]
  unfold over
  have h1 : (i + 1) * wd + off = e.length + (i * wd + off) := by rw [Nat.add_mul, hl]; omega
  rw [h1, List.take_length_add_append, show e.length + (i * wd + off) + xs.length = e.length + (i * wd + off + xs.length) by omega, List.drop_length_add_append]
  simp
theorem OpA.store {t : TypeId} {x y : Operand} {loc k i off : Nat} {v : A} {ds : List C} {b : Bool} {n : Nat} {ob : Ob} {e : List C} (hx : rdA st.e x = some (.one (.ptr loc k i off))) (hy : rdA st.e y = some v) (hd : v.cs = some ds) (ht : tyI P t = some (b, n)) (hn : ds.length = n)
  (ho : st.s[loc]? = some (some ob)) (he : ob.es[i]? = some e) (hk : k = ob.es.length) (hoff : off + ds.length ≤ e.length) :
  OpA P nt (.store t x y) ty st .any ⟨st.e, st.s.set loc (some ⟨ob.ty, ob.wd, ob.es.set i (over e off ds)⟩)⟩ := fun H w0 S0 m0 m a w hs => by
 have h1 := hs.rd hx
 have h2 := (hs.rd hy).cells hd
 simp only [Ca, Cc] at h1
 obtain ⟨-, l, hl, -, hp⟩ := h1
 have hob := hs.sto.ok loc ob l ho hl
 have hp := hp (by rw [hob.n]; exact hk)
 obtain ⟨a1, a2, a3, a4, a5, vs, rest, a6, a7, a8⟩ := hob
 have hil : i < ob.es.length := (List.getElem?_eq_some_iff.1 he).1
 have hel : e.length = ob.wd := a3 e (List.mem_of_getElem? he)
 have hfl : ob.es.flatten.length = ob.es.length * ob.wd := by
  rw [List.length_flatten]
  have : ob.es.map List.length = List.replicate ob.es.length ob.wd := List.eq_replicate_iff.2 ⟨by simp, fun x hx => by obtain ⟨e, he, rfl⟩ := List.mem_map.1 hx; exact a3 e he⟩
  rw [this]; simp
 have hvl : vs.length = ob.es.length * ob.wd := by rw [a8.len, hfl]
 have hbd : i * l.wd + off + ds.length ≤ vs.length := by
  rw [hvl, a2]
  have : (i + 1) * ob.wd ≤ ob.es.length * ob.wd := Nat.mul_le_mul_right _ hil
  rw [Nat.add_mul] at this
  omega
 have hul : (a.eval y).cells.toList.length = ds.length := h2.len
 have hst := run_storeCells_at (P := P) l.b (i * l.wd + off) ob.ty (a.eval y).cells.toList 0 (vs ++ rest).toArray w a6 (by simp at hul ⊢; omega) h2.one
 have hov : ((vs ++ rest).toArray.toList.take (i * l.wd + off + 0) ++ (a.eval y).cells.toList ++ (vs ++ rest).toArray.toList.drop (i * l.wd + off + 0 + (a.eval y).cells.toList.length)) = over vs (i * l.wd + off) (a.eval y).cells.toList ++ rest := by
  simp only [Nat.add_zero, over]
  rw [List.take_append_of_le_length (by omega), List.drop_append_of_le_length (by omega)]
  simp
 rw [hov] at hst
 obtain ⟨hag, hsz⟩ := run_isAgg (P := P) (w := w) ht
 have hovl := over_length (l := vs) (o := i * l.wd + off) (xs := (a.eval y).cells.toList) (by omega)
 have hok : ObOk ⟨vis H st.s m w, m⟩ (w.setRow l.b (over vs (i * l.wd + off) (a.eval y).cells.toList ++ rest).toArray) l ⟨ob.ty, ob.wd, ob.es.set i (over e off ds)⟩ := by
  refine ⟨by simpa using a1, a2, fun e' he' => ?_, by simpa using a4, a5, over vs (i * l.wd + off) (a.eval y).cells.toList, rest, setRow_heap _ _ _ _ _ _ a6, ?_, ?_⟩
  ·rcases List.mem_or_eq_of_mem_set he' with h | h
   ·exact a3 e' h
   ·rw [h, over_length hoff, hel]
  ·rw [List.length_append, hovl, ← List.length_append]; exact a7
  ·have := flatten_set a3 i e he off ds hoff
   simp only [this]
   rw [a2]
   exact a8.over h2 _
 have hnew := hs.turn (l' := l) ho hl (w' := w.setRow l.b (over vs (i * l.wd + off) (a.eval y).cells.toList ++ rest).toArray) (Nat.le_refl _) (fun _ => rfl) rfl rfl rfl (by simp [World.setRow]) (fun b hb hne => setRow_other _ _ _ _ hne) (.inl rfl) hok
 have hset : m.set loc l = m := by
  apply List.ext_getElem?
  intro j
  rw [List.getElem?_set]
  split
  ·rename_i e'; subst e'; rw [if_pos (List.getElem?_eq_some_iff.1 hl).1, hl]
  ·rfl
 rw [hset] at hnew
 refine ⟨undef, _, m, .inr ⟨?_, rfl⟩, hnew.1, hnew.2, by simp only [Ca]⟩
 have hcs : ¬ ((a.eval y).cells.size ≠ n) := by rw [← Array.length_toList, hul, hn]; simp
 simp only [execOp, Instr.storeAt, hp, Instr.sureAddr, storeVar, Sem.run_bind, Sem.run_pure, Result.andThen_ok, hsz, hcs, if_false, hst]
end
def bytI (P : Program) (t : TypeId) : Option Nat :=
 match P.underlying t with
 | some (.slice e) => match P.info? e with
  | some i => some i.bytes
  | none => none
 | _ => none
def chunk (wd : Nat) : Nat → List C → List (List C)
 | 0, _ => []
 | n + 1, l => l.take wd :: chunk wd n (l.drop wd)
theorem chunk_length (wd : Nat) : ∀ (n : Nat) (l : List C), (chunk wd n l).length = n
 | 0, _ => rfl
 | n + 1, l => by simp [chunk, chunk_length wd n]
theorem chunk_wd {wd : Nat} : ∀ {n : Nat} {l : List C}, l.length = n * wd → ∀ e ∈ chunk wd n l, e.length = wd
 | 0, _, _, e, he => by simp [chunk] at he
 | n + 1, l, hl, e, he => by
  rw [Nat.add_mul] at hl
  simp only [chunk, List.mem_cons] at he
  rcases he with rfl | he
  ·rw [List.length_take]; omega
  ·exact chunk_wd (by rw [List.length_drop]; omega) e he
theorem chunk_flatten {wd : Nat} : ∀ {n : Nat} {l : List C}, l.length = n * wd → (chunk wd n l).flatten = l
 | 0, l, hl => by simp only [Nat.zero_mul] at hl; simp [chunk, List.eq_nil_of_length_eq_zero hl]
 | n + 1, l, hl => by
  rw [Nat.add_mul] at hl
  simp only [chunk, List.flatten_cons]
  rw [chunk_flatten (by rw [List.length_drop]; omega), List.take_append_drop]
theorem zeros_list (z : List Value) : ∀ n : Nat, ((Array.range (n * z.length)).map (fun i => z.toArray[i % z.toArray.size]!)).toList = (List.replicate n z).flatten
 | 0 => by simp
 | n + 1 => by
  have ih := zeros_list z n
  simp only [Array.toList_map, Array.toList_range, List.size_toArray] at ih ⊢
  rw [Nat.add_mul, Nat.one_mul, List.range_add, List.map_append, ih, List.replicate_succ', List.flatten_append]
  congr 1
  simp only [List.map_map, List.flatten_cons, List.flatten_nil, List.append_nil]
  apply List.ext_getElem?
  intro i
  rw [List.getElem?_map]
  by_cases hi : i < z.length
  ·rw [List.getElem?_range hi]
   simp only [Option.map_some, Function.comp_def]
   have : (n * z.length + i) % z.length = i := by rw [Nat.mul_comm, Nat.mul_add_mod]; exact Nat.mod_eq_of_lt hi
   rw [this]
   simp [hi]
  ·rw [List.getElem?_eq_none (by simp; omega), List.getElem?_eq_none (by omega)]
   rfl
theorem fillA_length {place : Nat → Option (Nat × Nat)} : ∀ {l : List (Nat × A)} {cs cs' : List C}, fillA place cs l = some cs' → cs'.length = cs.length
 | [], cs, cs', h => by simp only [fillA, Option.some.injEq] at h; subst h; rfl
 | (i, x) :: l, cs, cs', h => by
  simp only [fillA] at h
  split at h
  ·cases h
  split at h
  ·cases h
  split at h
  ·rename_i hc; rw [fillA_length h, over_length (by omega)]
  ·cases h
section
variable {P : Program} {nt : Cf} {ty : TypeId} {st : St}
theorem OpA.buildSlice {t et : TypeId} {sz len : Nat} {parts : List (Nat × Operand)} {pl : List (Nat × A)} {zs : List Value} {cs : List C} (ht : eltI P t = some (et, sz)) (hz : zerI P et = some zs) (hp : partsA (rdA st.e) parts = some pl) (hsz : len * sz ≤ 16777216) (hlen : len ≤ 16777216)
  (h : fillA (fun i => some (i * sz, sz)) ((List.replicate len (zs.map .v)).flatten) pl = some cs) :
  OpA P nt (.buildSlice t len parts.toArray) ty st (.one (.ms st.s.length len)) ⟨st.e, st.s ++ [some ⟨et, sz, chunk sz len cs⟩]⟩ := fun H w0 S0 m0 m a w hs => by
 obtain ⟨hu, i, hi, hisz⟩ := eltI_of ht
 obtain ⟨i', z, hi', hzz, hzc, h1, hzl⟩ := zerI_of hz
 rw [hi] at hi'; cases hi'
 obtain ⟨hp1, hp2⟩ := partsA_spec hp
 have hun : (underlying t).run P w = .ok (.slice et) w := by simp [underlying, program, bind, Sem.bind, Sem.run, hu, pure]
 have hszr : (sizeOf et).run P w = .ok sz w := by simp [sizeOf, typeInfo, program, Sem.run, hi, bind, Sem.bind, pure, hisz]
 have hzsz : zs.length = sz := by rw [hzl, hisz]
 have hfl : ((List.replicate len (zs.map C.v)).flatten) = ((List.replicate len zs).flatten).map .v := by
  rw [List.map_flatten, List.map_replicate]
 have hcl : cs.length = len * sz := by
  rw [fillA_length h, hfl, List.length_map, List.length_flatten, List.map_replicate, hzsz]; simp
 have hzarr : ((Array.range (len * sz)).map (fun i => (if len * sz = 0 then #[] else z.cells)[i % (if len * sz = 0 then #[] else z.cells).size]!)).toList = (List.replicate len zs).flatten := by
  by_cases h0 : len * sz = 0
  ·have : (List.replicate len zs).flatten = [] := List.eq_nil_of_length_eq_zero (by rw [List.length_flatten, List.map_replicate, hzsz]; simpa using h0)
   rw [this]; simp [h0]
  ·rw [if_neg h0, hzc]
   have := zeros_list zs len
   rw [hzsz] at this
   exact this
 obtain ⟨us', g1, g2⟩ := fill_sound (X := ⟨vis H st.s m w, m⟩) (us := (Array.range (len * sz)).map (fun i => (if len * sz = 0 then #[] else z.cells)[i % (if len * sz = 0 then #[] else z.cells).size]!)) (vl := (parts.map fun (p : Nat × Operand) => (p.1, a.eval p.2))) h (by
  rw [hzarr, hfl]
  exact Ccs.vals _ (fun u hu => by obtain ⟨l, hl, hul⟩ := List.mem_flatten.1 hu; exact h1 u (by rw [List.eq_of_mem_replicate hl] at hul; exact hul))) (by rw [hp1]; simp [Function.comp_def]) (fun j x v hx hv => by
  obtain ⟨o, ho, hox⟩ := hp2 j x hx
  refine (show v = a.eval o from ?_) ▸ hs.rd hox
  simp only [List.map_map, List.getElem?_map, Option.map_eq_some_iff, Function.comp_def] at hv ho
  obtain ⟨p1, e1, rfl⟩ := hv
  obtain ⟨p2, e2, rfl⟩ := ho
  rw [e1] at e2; cases e2; rfl)
 have hn := hs.new ⟨et, sz, chunk sz len cs⟩ len us'.toList [] (chunk_wd hcl) (by simp [chunk_length]) (by simp only [maxLen]; omega) (by rw [List.append_nil, g2.len, hcl]) (by rw [chunk_flatten hcl]; exact g2) (w' := w.alloc (.cells us' et)) (by simp only [List.append_nil, Array.toArray_toList]; rfl) rfl rfl rfl
 refine ⟨.slice (some ⟨w.heap.size, 0, none⟩) len len, _, _, .inl ?_, hn.1, hn.2, ?_⟩
 ·have hn24 : ¬ (len * sz > 2 ^ 24) := by omega
  simp only [execOp, Instr.buildSlice, Sem.run_bind, hun, Result.andThen_ok, hszr]
  rw [if_neg hn24]
  by_cases h0 : len * sz = 0
  ·simp only [h0, if_true, List.map_toArray, Sem.run_pure, Sem.run_bind, Result.andThen_ok] at g1 ⊢
   rw [g1]; rfl
  ·simp only [h0, if_false, List.map_toArray, Sem.run_pure, Sem.run_bind, Result.andThen_ok, run_zeroValue hi hzz] at g1 ⊢
   rw [g1]; rfl
 ·simp only [Ca, Cc]
  refine ⟨⟨_, _, rfl⟩, ⟨w.heap.size, len, len, sz⟩, ?_, Nat.le_refl _, fun _ => rfl⟩
  rw [hs.sto.len, List.getElem?_append_right (Nat.le_refl _)]; simp [chunk_length]
def srcA (s : List (Option Ob)) (sz : Nat) (c : C) : Option (Prop × List (List C)) :=
 match c with
 | .sl wd es => some (wd = sz, es)
 | .ms loc k => match s[loc]? with
  | some (some ob) => some (k = ob.es.length ∧ ob.wd = sz, ob.es)
  | _ => none
 | .v (.slice none 0 0) => some (True, [])
 | _ => none
theorem flat_len {es : List (List C)} {wd : Nat} (h : ∀ e ∈ es, e.length = wd) : es.flatten.length = es.length * wd := by
 rw [List.length_flatten]
 have : es.map List.length = List.replicate es.length wd := List.eq_replicate_iff.2 ⟨by simp, fun x hx => by obtain ⟨e, he, rfl⟩ := List.mem_map.1 hx; exact h e he⟩
 rw [this]; simp
theorem Crow.cells {X : Cx} {b : Nat} : ∀ {es : List (List C)} {o : Nat}, Crow X es b o → ∃ vs, CellsAt X.r b o vs ∧ Ccs X es.flatten vs
 | [], o, _ => ⟨[], trivial, by simp [Ccs]⟩
 | e :: es, o, h => by
  simp only [Crow] at h
  obtain ⟨vs, h1, h2, h3⟩ := h
  obtain ⟨us, g1, g2⟩ := Crow.cells h3
  exact ⟨vs ++ us, CellsAt.append.2 ⟨h1, g1⟩, by rw [List.flatten_cons]; exact Ccs.append.2 ⟨vs, us, rfl, h2, g2⟩⟩
theorem srcA_sound {H : Nat → Bool} {s : List (Option Ob)} {m : List Lo} {w : World} {sz : Nat} {c : C} {p : Prop} {es : List (List C)} {u : Value} (hs : StoOk H s m w) (h : srcA s sz c = some (p, es)) (hp : p) (hc : Cc ⟨vis H s m w, m⟩ c u) :
  (∀ e ∈ es, e.length = sz) ∧ ((es = [] ∧ u = .slice none 0 0) ∨ ∃ ad cap news, u = .slice (some ad) es.length cap ∧ news.length = es.length * sz ∧ (∀ (j : Nat) (v : Value), news[j]? = some v → w.cell? (ad.add j) = some v) ∧ Ccs ⟨vis H s m w, m⟩ es.flatten news) := by
 unfold srcA at h
 split at h
 ·rename_i wd es'
  simp only [Option.some.injEq, Prod.mk.injEq] at h
  obtain ⟨rfl, rfl⟩ := h
  subst hp
  simp only [Cc] at hc
  obtain ⟨hw, ⟨rfl, rfl | ⟨ad, cap, rfl, -⟩⟩ | ⟨b, o, cap, rfl, -, -, hr⟩⟩ := hc
  ·exact ⟨hw, .inl ⟨rfl, rfl⟩⟩
  ·exact ⟨hw, .inr ⟨ad, cap, [], rfl, by simp, by simp, by simp [Ccs]⟩⟩
  ·obtain ⟨vs, g1, g2⟩ := hr.cells
   refine ⟨hw, .inr ⟨⟨b, o, none⟩, cap, vs, rfl, by rw [g2.len, flat_len hw], fun j v hj => ?_, Ccs.keep (X := ⟨vis H s m w, []⟩) (X' := ⟨vis H s m w, m⟩) (Keeps.refl _) (Up.nil _) g2⟩⟩
   rw [add_spot]
   exact vis_keeps _ _ _ _ _ _ (g1.at j v hj)
 ·rename_i loc k
  split at h
  case h_2 => cases h
  rename_i ob ho
  simp only [Option.some.injEq, Prod.mk.injEq] at h
  obtain ⟨rfl, rfl⟩ := h
  obtain ⟨rfl, rfl⟩ := hp
  simp only [Cc] at hc
  obtain ⟨-, l, hl, -, he⟩ := hc
  have hob := hs.ok loc ob l ho hl
  have he := he (by rw [hob.n])
  obtain ⟨a1, a2, a3, a4, a5, vs, rest, a6, a7, a8⟩ := hob
  refine ⟨a3, .inr ⟨_, _, vs, he, by rw [a8.len, flat_len a3], fun j v hj => ?_, a8⟩⟩
  rw [add_spot, cell_of a6]
  simp only [Nat.zero_add, List.getElem?_toArray]
  rw [List.getElem?_append_left (List.getElem?_eq_some_iff.1 hj).1]; exact hj
 ·cases h
  simp only [Cc] at hc
  exact ⟨by simp, .inl ⟨rfl, hc.1⟩⟩
 ·cases h
theorem bytI_of {t e : TypeId} {i : TypeInfo} {n : Nat} (h : bytI P t = some n) (hu : P.underlying t = some (.slice e)) (hi : P.info? e = some i) : i.bytes = n := by
 unfold bytI at h
 rw [hu] at h
 simp only [hi, Option.some.injEq] at h
 exact h
theorem exec_append {w : World} {a : Act} {x y : Operand} {t : TypeId} {v : Value} {w' : World} (h : (Builtin.append_ #[t, t] ty #[a.eval x, a.eval y]).run P w = .ok v w') :
  (execOp a.eval ⟨none, .call { callee := .builtin .append, args := #[x, y], argTypes := #[t, t] }, ty, "", #[], none⟩).run P w = .ok (.value v) w' := by
 simp only [execOp, resolve, invoke, builtin, Sem.run_bind, Sem.run_pure, Result.andThen_ok, List.map_toArray, List.map_cons, List.map_nil, h]
theorem OpA.append {t et : TypeId} {sz by_ : Nat} {x y : Operand} {loc k : Nat} {c : C} {p : Prop} {xs : List (List C)} {zs : List Value} {ob : Ob} (ht : eltI P t = some (et, sz)) (hb : bytI P t = some by_) (hz : zerI P et = some zs) (hx : rdA st.e x = some (.one (.ms loc k))) (hy : rdA st.e y = some (.one c))
  (hsrc : srcA st.s sz c = some (p, xs)) (hp : p) (ho : st.s[loc]? = some (some ob)) (hk : k = ob.es.length) (hty : ob.ty = et) (hwd : ob.wd = sz) (hsz : 0 < sz) (hbd : (ob.es.length + xs.length) * by_ ≤ 140737488355328) (hbd2 : ob.es.length + xs.length ≤ 140737488355328) :
  OpA P nt (.call { callee := .builtin .append, args := #[x, y], argTypes := #[t, t] }) ty st (.one (.ms loc (ob.es.length + xs.length))) ⟨st.e, st.s.set loc (some ⟨ob.ty, ob.wd, ob.es ++ xs⟩)⟩ := fun H w0 S0 m0 m a w hs => by
 obtain ⟨hu, i, hi, hisz⟩ := eltI_of ht
 have hbytes := bytI_of hb hu hi
 obtain ⟨i', z, hi', hzz, hzc, h1z, hzl⟩ := zerI_of hz
 rw [hi] at hi'; cases hi'
 have hcx := hs.rd hx
 have hcy := hs.rd hy
 simp only [Ca] at hcx hcy
 obtain ⟨hall, hsr⟩ := srcA_sound hs.sto hsrc hp hcy
 simp only [Cc] at hcx
 obtain ⟨-, l, hl, -, hex⟩ := hcx
 have hob := hs.sto.ok loc ob l ho hl
 have hex := hex (by rw [hob.n]; exact hk)
 obtain ⟨a1, a2, a3, a4, a5, vs, rest, a6, a7, a8⟩ := hob
 have hvl : vs.length = ob.es.length * sz := by rw [a8.len, flat_len a3, hwd]
 have hlm : loc < m.length := (List.getElem?_eq_some_iff.1 hl).1
 have hall' : ∀ e ∈ ob.es ++ xs, e.length = ob.wd := fun e he => by
  rcases List.mem_append.1 he with h | h
  ·exact a3 e h
  ·rw [hwd]; exact hall e h
 subst hk
 rcases hsr with ⟨rfl, eu⟩ | ⟨ad, cap, news, eu, hnl, hcell, hcn⟩
 · -- nothing
  have hok : ObOk ⟨vis H st.s m w, m⟩ w l ⟨ob.ty, ob.wd, ob.es ++ []⟩ := ⟨by simpa using a1, a2, by simpa using a3, by simpa using a4, a5, vs, rest, a6, a7, by simpa using a8⟩
  have hnew := hs.turn (l' := l) ho hl (w' := w) (Nat.le_refl _) (fun _ => rfl) rfl rfl rfl (Nat.le_refl _) (fun _ _ _ => rfl) (.inl rfl) hok
  refine ⟨_, w, _, .inl (exec_append (v := .slice (some ⟨l.b, 0, none⟩) ob.es.length l.cap) ?_), hnew.1, hnew.2, ?_⟩
  ·rw [hex, eu]
   have hrun := run_append_owned_none (P := P) (w := w) 0 t ty et i sz hu hi (.slice (some ⟨l.b, 0, none⟩) ob.es.length l.cap) ob.es.length vs ⟨by rw [hvl], .inr ⟨l.b, l.cap, (vs ++ rest).toArray, rfl, Nat.zero_le _, by rw [← hty]; exact a6, a4, a5, by simpa [a2, hwd] using a7, by rw [← hvl]; simp⟩⟩
   exact hrun
  ·simp only [Ca, Cc]
   refine ⟨⟨some ⟨l.b, 0, none⟩, l.cap, by simp⟩, l, by simp [List.getElem?_set, hlm], by rw [a1]; simp, fun _ => by simp⟩
 ·have hnews1 : ∀ u ∈ news, u.oneCell' = true := hcn.one
  by_cases hroom : ob.es.length + xs.length ≤ l.cap
  · -- there is room
   have hcap : (vs ++ rest).length = l.cap * sz := by rw [a7, a2, hwd]
   have hfit : ob.es.length * i.size + news.length ≤ (vs ++ rest).toArray.size := by
    rw [hisz, hnl, List.size_toArray, hcap, ← Nat.add_mul]; exact Nat.mul_le_mul_right _ hroom
   have hrun := run_append_room (P := P) w t ty et i hu hi l.b ob.es.length l.cap (vs ++ rest).toArray (by rw [← hty]; exact a6) ad xs.length cap news (by rw [hisz]; exact hnl) hcell hnews1 hroom hfit
   have hcells : ((vs ++ rest).toArray.toList.take (ob.es.length * i.size) ++ news ++ (vs ++ rest).toArray.toList.drop (ob.es.length * i.size + news.length)) = (vs ++ news) ++ rest.drop news.length := by
    rw [hisz, ← hvl]
    simp only [List.toList_toArray, List.take_left', List.append_assoc]
    rw [List.drop_length_add_append]
   rw [hcells] at hrun
   have hok : ObOk ⟨vis H st.s m w, m⟩ (w.setRow l.b ((vs ++ news) ++ rest.drop news.length).toArray) ⟨l.b, ob.es.length + xs.length, l.cap, l.wd⟩ ⟨ob.ty, ob.wd, ob.es ++ xs⟩ := by
    refine ⟨by simp, a2, hall', by simpa using hroom, a5, vs ++ news, rest.drop news.length, setRow_heap _ _ _ _ _ _ a6, ?_, ?_⟩
    ·have : news.length ≤ rest.length := by
      rw [List.size_toArray, List.length_append, hisz, ← hvl] at hfit; omega
     simp only [List.length_append, List.length_drop] at a7 ⊢
     omega
    ·rw [List.flatten_append]; exact Ccs.append.2 ⟨vs, news, rfl, a8, hcn⟩
   have hnew := hs.turn ho hl (w' := w.setRow l.b ((vs ++ news) ++ rest.drop news.length).toArray) (l' := ⟨l.b, ob.es.length + xs.length, l.cap, l.wd⟩) (by rw [a1]; exact Nat.le_add_right _ _) (fun e => by cases l; simp only at a1 e ⊢; rw [← e]) rfl rfl rfl (by simp [World.setRow]) (fun b hb hne => setRow_other _ _ _ _ hne) (.inl rfl) hok
   refine ⟨.slice (some ⟨l.b, 0, none⟩) (ob.es.length + xs.length) l.cap, _, _, .inl (exec_append ?_), hnew.1, hnew.2, ?_⟩
   ·rw [hex, eu]; exact hrun
   ·simp only [Ca, Cc]
    refine ⟨⟨_, _, rfl⟩, ⟨l.b, ob.es.length + xs.length, l.cap, l.wd⟩, by simp [List.getElem?_set, hlm], Nat.le_refl _, fun _ => rfl⟩
  · -- it grows
   have holds : ∀ (j : Nat) (u : Value), vs[j]? = some u → w.cell? ((⟨l.b, 0, none⟩ : Addr).add j) = some u := fun j u hj => by
    rw [add_spot, cell_of a6]
    simp only [Nat.zero_add, List.getElem?_toArray]
    rw [List.getElem?_append_left (List.getElem?_eq_some_iff.1 hj).1]; exact hj
   have hrun := run_append_grow (P := P) w t ty et i z hu hi hzz ⟨l.b, 0, none⟩ ob.es.length l.cap vs (by rw [hisz]; exact hvl) holds ad xs.length cap news (by rw [hisz]; exact hnl) hcell (by omega) (by omega) (growslice_fits (by omega) (by rw [hbytes]; exact hbd))
   generalize hgc : grownCap w (ob.es.length + xs.length) l.cap et = gc at hrun
   have hge : ob.es.length + xs.length ≤ gc := by rw [← hgc]; exact grownCap_ge _ _ _ _
   have hmx : gc ≤ maxLen := by rw [← hgc]; exact grownCap_le_maxLen _ _ _ _ (by simp only [maxLen]; omega)
   have hzs : z.cells.size = sz := by rw [hzc, List.size_toArray, hzl, hisz]
   have harr : vs.toArray ++ news.toArray ++ Builtin.zeroCells z.cells (gc - (ob.es.length + xs.length)) = ((vs ++ news) ++ (Builtin.zeroCells z.cells (gc - (ob.es.length + xs.length))).toList).toArray := by
    apply Array.toList_inj.1; simp
   rw [harr] at hrun
   have hok : ObOk ⟨vis H st.s m w, m⟩ (w.drew.alloc (.cells ((vs ++ news) ++ (Builtin.zeroCells z.cells (gc - (ob.es.length + xs.length))).toList).toArray et)) ⟨w.heap.size, ob.es.length + xs.length, gc, l.wd⟩ ⟨ob.ty, ob.wd, ob.es ++ xs⟩ := by
    refine ⟨by simp, a2, hall', by simpa using hge, hmx, vs ++ news, (Builtin.zeroCells z.cells (gc - (ob.es.length + xs.length))).toList, ?_, ?_, ?_⟩
    ·rw [hty]; exact heap_new w.drew _
    ·simp only [List.length_append, Array.length_toList, size_zeroCells, hzs, hvl, hnl, a2, hwd]
     rw [← Nat.add_mul, ← Nat.add_mul]
     congr 1
     omega
    ·rw [List.flatten_append]; exact Ccs.append.2 ⟨vs, news, rfl, a8, hcn⟩
   have hnew := hs.turn ho hl (w' := w.drew.alloc (.cells ((vs ++ news) ++ (Builtin.zeroCells z.cells (gc - (ob.es.length + xs.length))).toList).toArray et)) (l' := ⟨w.heap.size, ob.es.length + xs.length, gc, l.wd⟩) (by rw [a1]; exact Nat.le_add_right _ _) (fun e => by exfalso; simp only [a1] at e; omega) rfl rfl rfl (by show w.heap.size ≤ (w.heap.push _).size; simp) (fun b hb hne => by rw [Below.heap_alloc _ _ _ (by exact hb)]; rfl) (.inr (Nat.le_refl _)) hok
   refine ⟨.slice (some ⟨w.heap.size, 0, none⟩) (ob.es.length + xs.length) gc, _, _, .inl (exec_append ?_), hnew.1, hnew.2, ?_⟩
   ·rw [hex, eu]; exact hrun
   ·simp only [Ca, Cc]
    refine ⟨⟨_, _, rfl⟩, ⟨w.heap.size, ob.es.length + xs.length, gc, l.wd⟩, by simp [List.getElem?_set, hlm], Nat.le_refl _, fun _ => rfl⟩
theorem OpA.append_nil {t et : TypeId} {sz by_ : Nat} {x y : Operand} {c : C} {p : Prop} {xs : List (List C)} {zs : List Value} (ht : eltI P t = some (et, sz)) (hb : bytI P t = some by_) (hz : zerI P et = some zs) (hx : rdA st.e x = some (.one (.v (.slice none 0 0)))) (hy : rdA st.e y = some (.one c))
  (hsrc : srcA st.s sz c = some (p, xs)) (hp : p) (hne : 0 < xs.length) (hbd : xs.length * by_ ≤ 140737488355328) (hbd2 : xs.length ≤ 140737488355328) :
  OpA P nt (.call { callee := .builtin .append, args := #[x, y], argTypes := #[t, t] }) ty st (.one (.ms st.s.length xs.length)) ⟨st.e, st.s ++ [some ⟨et, sz, xs⟩]⟩ := fun H w0 S0 m0 m a w hs => by
 obtain ⟨hu, i, hi, hisz⟩ := eltI_of ht
 have hbytes := bytI_of hb hu hi
 obtain ⟨i', z, hi', hzz, hzc, h1z, hzl⟩ := zerI_of hz
 rw [hi] at hi'; cases hi'
 have hcx := hs.rd hx
 have hcy := hs.rd hy
 simp only [Ca] at hcx hcy
 obtain ⟨hall, hsr⟩ := srcA_sound hs.sto hsrc hp hcy
 simp only [Cc] at hcx
 rcases hsr with ⟨rfl, eu⟩ | ⟨ad, cap, news, eu, hnl, hcell, hcn⟩
 ·simp at hne
 have hrun := run_append_nil (P := P) w t ty et i z hu hi hzz ad xs.length cap news (by rw [hisz]; exact hnl) hcell hne (by omega) (by rw [hbytes]; omega)
 generalize hgc : grownCap w xs.length 0 et = gc at hrun
 have hge : xs.length ≤ gc := by rw [← hgc]; exact grownCap_ge _ _ _ _
 have hmx : gc ≤ maxLen := by rw [← hgc]; exact grownCap_le_maxLen _ _ _ _ (by simp only [maxLen]; omega)
 have hzs : z.cells.size = sz := by rw [hzc, List.size_toArray, hzl, hisz]
 have harr : news.toArray ++ Builtin.zeroCells z.cells (gc - xs.length) = (news ++ (Builtin.zeroCells z.cells (gc - xs.length)).toList).toArray := by
  apply Array.toList_inj.1; simp
 rw [harr] at hrun
 have hn := hs.new ⟨et, sz, xs⟩ gc news (Builtin.zeroCells z.cells (gc - xs.length)).toList hall hge hmx (by
  simp only [List.length_append, Array.length_toList, size_zeroCells, hzs, hnl]
  rw [← Nat.add_mul]; congr 1; omega) hcn (w' := w.drew.alloc (.cells (news ++ (Builtin.zeroCells z.cells (gc - xs.length)).toList).toArray et)) rfl rfl rfl rfl
 refine ⟨.slice (some ⟨w.heap.size, 0, none⟩) xs.length gc, _, _, .inl (exec_append ?_), hn.1, hn.2, ?_⟩
 ·rw [hcx.1, eu]; exact hrun
 ·simp only [Ca, Cc]
  refine ⟨⟨_, _, rfl⟩, ⟨w.heap.size, xs.length, gc, sz⟩, ?_, Nat.le_refl _, fun _ => rfl⟩
  rw [hs.sto.len, List.getElem?_append_right (Nat.le_refl _)]; simp
end
section
variable {P : Program} {ty : TypeId} {s : List (Option Ob)} {ρA : Operand → Option A} {p : Prop}
def bndA (ρA : Operand → Option A) (dflt : Int) : Option Operand → Option Int
 | none => some dflt
 | some x => match ρA x with
  | some (.one (.v (.int _ n))) => some n
  | _ => none
theorem run_bound {w : World} {k : IntKind} {n : Int} {y : Nat} {code : BoundsCode} (h0 : 0 ≤ n) (h1 : n ≤ y) : (Instr.sliceBound (.int k n) y code).run P w = .ok n.toNat w := by
 simp only [Instr.sliceBound, asIntOf, Sem.run_bind, Sem.run_pure, Result.andThen_ok, h0, h1, and_self, if_true]
theorem bnd_val {X : Cx} {ρ : Operand → Value} {dflt : Int} {o : Option Operand} {n : Int} (h : bndA ρA dflt o = some n) (hρ : ∀ x, o = some x → ∀ y, ρA x = some y → Ca X y (ρ x)) : (o = none ∧ n = dflt) ∨ ∃ x k, o = some x ∧ ρ x = .int k n := by
 unfold bndA at h
 split at h
 ·cases h; exact .inl ⟨rfl, rfl⟩
 ·rename_i x
  split at h
  case h_2 => cases h
  rename_i k n' hx
  cases h
  have := hρ x rfl _ hx
  simp only [Ca, Cc] at this
  exact .inr ⟨x, k, rfl, this.1⟩
theorem run_bounds {w : World} {isSlice : Bool} {len cap : Nat} {lo hi : Option Value} {l h : Int} (h0 : 0 ≤ l) (h1 : l ≤ h) (h2 : h ≤ len) (hc : len ≤ cap) (hlo : (lo = none ∧ l = 0) ∨ ∃ k, lo = some (.int k l)) (hhi : (hi = none ∧ h = len) ∨ ∃ k, hi = some (.int k h)) :
  (Instr.sliceBounds isSlice len cap lo hi none).run P w = .ok (l.toNat, h.toNat, cap) w := by
 unfold Instr.sliceBounds
 rcases hhi with ⟨rfl, rfl⟩ | ⟨k, rfl⟩ <;> rcases hlo with ⟨rfl, rfl⟩ | ⟨k', rfl⟩
 ·simp [Sem.run_bind]
 ·simp only [Sem.run_bind, Sem.run_pure, Result.andThen_ok, run_bound (P := P) (w := w) (y := len) h0 (by omega), Int.toNat_natCast]
 ·simp only [Sem.run_bind, Sem.run_pure, Result.andThen_ok, run_bound (P := P) (w := w) (y := cap) (n := h) (by omega) (by omega)]; rfl
 ·simp only [Sem.run_bind, Sem.run_pure, Result.andThen_ok, run_bound (P := P) (w := w) (y := cap) (n := h) (by omega) (by omega), run_bound (P := P) (w := w) (y := h.toNat) (n := l) h0 (by omega)]
theorem quiet_slice_str {t : TypeId} {x : Operand} {lo hi : Option Operand} {b : ByteArray} {l h : Int} (hx : ρA x = some (.one (.v (.string b)))) (ht : strI P t = true) (hl : bndA ρA 0 lo = some l) (hh : bndA ρA b.size hi = some h) (h0 : 0 ≤ l) (h1 : l ≤ h) (h2 : h ≤ b.size) :
  Quiet P (.slice t x lo hi none) ty s ρA (.one (.v (.string (b.extract l.toNat h.toNat)))) := by
 intro H m w ρ hs hρ
 have g1 := hρ x (by simp [Op.operands]) _ hx
 simp only [Ca, Cc] at g1
 have hu := strI_of ht
 have hun : (underlying t).run P w = .ok .string w := by simp [underlying, program, bind, Sem.bind, Sem.run, hu, pure]
 have gl := bnd_val hl (X := ⟨vis H s m w, m⟩) (ρ := ρ) (fun y hy z hz => hρ y (by simp [Op.operands, hy]) z hz)
 have gh := bnd_val hh (X := ⟨vis H s m w, m⟩) (ρ := ρ) (fun y hy z hz => hρ y (by simp [Op.operands, hy]) z hz)
 have hb := run_bounds (P := P) (w := w) (isSlice := false) (len := b.size) (cap := b.size) (lo := lo.map ρ) (hi := hi.map ρ) h0 h1 h2 (Nat.le_refl _) (by rcases gl with ⟨rfl, rfl⟩ | ⟨y, k, rfl, e⟩; exact .inl ⟨rfl, rfl⟩; exact .inr ⟨k, by simp [e]⟩) (by rcases gh with ⟨rfl, rfl⟩ | ⟨y, k, rfl, e⟩; exact .inl ⟨rfl, rfl⟩; exact .inr ⟨k, by simp [e]⟩)
 refine ⟨_, ?_, caV rfl⟩
 simp only [execOp, Instr.sliceAt, g1.1, Sem.run_bind, hun, Result.andThen_ok, Instr.slice, Option.map_none, Option.isSome_none, Bool.false_eq_true, if_false, hb, Sem.run_pure]
theorem quiet_slice_sl {t e : TypeId} {sz : Nat} {x : Operand} {lo hi : Option Operand} {wd : Nat} {es : List (List C)} {l h : Int} (hx : ρA x = some (.one (.sl wd es))) (ht : eltI P t = some (e, sz)) (hw : wd = sz) (hl : bndA ρA 0 lo = some l) (hh : bndA ρA es.length hi = some h) (h0 : 0 ≤ l) (h1 : l ≤ h) (h2 : h ≤ es.length) :
  Quiet P (.slice t x lo hi none) ty s ρA (.one (.sl wd ((es.take h.toNat).drop l.toNat))) := by
 subst hw
 intro H m w ρ hs hρ
 have g1 := hρ x (by simp [Op.operands]) _ hx
 simp only [Ca, Cc] at g1
 obtain ⟨hu, i, hi', hisz⟩ := eltI_of ht
 have hun : (underlying t).run P w = .ok (.slice e) w := by simp [underlying, program, bind, Sem.bind, Sem.run, hu, pure]
 have hszr : (sizeOf e).run P w = .ok wd w := by simp [sizeOf, typeInfo, program, Sem.run, hi', bind, Sem.bind, pure, hisz]
 have gl := bnd_val hl (X := ⟨vis H s m w, m⟩) (ρ := ρ) (fun y hy z hz => hρ y (by simp [Op.operands, hy]) z hz)
 have gh := bnd_val hh (X := ⟨vis H s m w, m⟩) (ρ := ρ) (fun y hy z hz => hρ y (by simp [Op.operands, hy]) z hz)
 have hb : ∀ cap, es.length ≤ cap → (Instr.sliceBounds true es.length cap (lo.map ρ) (hi.map ρ) none).run P w = .ok (l.toNat, h.toNat, cap) w := fun cap hc => run_bounds (P := P) (w := w) h0 h1 h2 hc (by rcases gl with ⟨rfl, rfl⟩ | ⟨y, k, rfl, e⟩; exact .inl ⟨rfl, rfl⟩; exact .inr ⟨k, by simp [e]⟩) (by rcases gh with ⟨rfl, rfl⟩ | ⟨y, k, rfl, e⟩; exact .inl ⟨rfl, rfl⟩; exact .inr ⟨k, by simp [e]⟩)
 have hwd : ∀ e ∈ (es.take h.toNat).drop l.toNat, e.length = wd := fun e he => g1.1 e (List.mem_of_mem_take (List.mem_of_mem_drop he))
 have hlen : ((es.take h.toNat).drop l.toNat).length = h.toNat - l.toNat := by rw [List.length_drop, List.length_take]; omega
 have run : ∀ a cap, ρ x = .slice a es.length cap → es.length ≤ cap → (execOp ρ ⟨none, .slice t x lo hi none, ty, "", #[], none⟩).run P w = .ok (.value (.slice (if cap = l.toNat then a else a.map (·.add (l.toNat * wd))) (h.toNat - l.toNat) (cap - l.toNat))) w := fun a cap e hc => by
  simp only [execOp, Instr.sliceAt, e, Sem.run_bind, hun, Result.andThen_ok, Instr.slice, Option.map_none, hb cap hc, hszr, Sem.run_pure]
 have hw1 := g1.1
 rcases g1 with ⟨-, ⟨rfl, eu | ⟨ad, cap, eu, hcm⟩⟩ | ⟨b, o, cap, eu, hc, hcm, hr⟩⟩
 ·have hl0 : l = 0 := by simp at h2; omega
  have hh0 : h = 0 := by simp at h2; omega
  subst hl0 hh0
  refine ⟨_, run none 0 eu (Nat.le_refl _), ?_⟩
  simp only [Ca, Cc]
  exact ⟨by simp, .inl ⟨by simp, .inl rfl⟩⟩
 ·have hl0 : l = 0 := by simp at h2; omega
  have hh0 : h = 0 := by simp at h2; omega
  subst hl0 hh0
  refine ⟨_, run (some ad) cap eu (Nat.zero_le _), ?_⟩
  simp only [Ca, Cc]
  refine ⟨by simp, .inl ⟨by simp, .inr ?_⟩⟩
  simp only [Int.toNat_zero, Nat.sub_zero, Nat.zero_mul, Addr.add, if_true, Option.map_some, ite_self]
  exact ⟨ad, cap, rfl, hcm⟩
 ·refine ⟨_, run _ cap eu hc, ?_⟩
  simp only [Ca, Cc]
  refine ⟨hwd, ?_⟩
  by_cases hlh : l.toNat = h.toNat
  ·refine .inl ⟨List.eq_nil_of_length_eq_zero (by rw [hlen]; omega), .inr ?_⟩
   rw [hlh, Nat.sub_self]
   split
   ·exact ⟨_, _, rfl, by omega⟩
   ·exact ⟨_, _, rfl, by omega⟩
  ·refine .inr ⟨b, o + l.toNat * wd, cap - l.toNat, ?_, by rw [hlen]; omega, by omega, ?_⟩
   ·rw [if_neg (by omega), hlen]; simp only [Option.map_some, add_spot]
   ·exact Crow.drop (hr.take h.toNat) (fun e he => hw1 e (List.mem_of_mem_take he)) l.toNat (by rw [List.length_take]; omega)
def liveB (s : List (Option Ob)) : C → Option Prop
 | .pf _ => some True
 | .ptr loc k _ _ => match s[loc]? with
  | some (some ob) => some (k = ob.es.length)
  | _ => none
 | _ => none
theorem live_ptr {H : Nat → Bool} {m : List Lo} {w : World} {c : C} {u : Value} (hs : StoOk H s m w) (h : liveB s c = some p) (hp : p) (hc : Cc ⟨vis H s m w, m⟩ c u) : ∃ a, u = .pointer (some a) := by
 unfold liveB at h
 split at h
 ·simp only [Cc] at hc
  obtain ⟨b, o, vs, rfl, -⟩ := hc
  exact ⟨_, rfl⟩
 ·rename_i loc k i off
  split at h
  case h_2 => cases h
  rename_i ob ho
  cases h
  subst hp
  simp only [Cc] at hc
  obtain ⟨-, l, hl, -, he⟩ := hc
  exact ⟨_, he (by rw [(hs.ok loc ob l ho hl).n])⟩
 ·cases h
theorem quiet_nilCheck {x : Operand} {c : C} (hx : ρA x = some (.one c)) (h : liveB s c = some p) (hp : p) : Quiet P (.nilCheck x) ty s ρA (.one c) := by
 intro H m w ρ hs hρ
 have g := hρ x (by simp [Op.operands]) _ hx
 simp only [Ca] at g
 obtain ⟨a, e⟩ := live_ptr hs h hp g
 refine ⟨_, ?_, by simp only [Ca]; exact g⟩
 simp only [execOp, e, Sem.run_pure]
def capsA (ρA : Operand → Option A) : List Operand → Option (List C)
 | [] => some []
 | x :: r => match ρA x with
  | some (.one c) => match capsA ρA r with
   | some l => some (c :: l)
   | none => none
  | _ => none
theorem capsA_sound {X : Cx} {ρ : Operand → Value} : ∀ {l : List Operand} {cs : List C}, capsA ρA l = some cs → (∀ o ∈ l, ∀ y, ρA o = some y → Ca X y (ρ o)) → Ccs X cs (l.map ρ)
 | [], cs, h, _ => by simp only [capsA, Option.some.injEq] at h; subst h; simp [Ccs]
 | x :: r, cs, h, hρ => by
  simp only [capsA] at h
  split at h
  case h_2 => cases h
  rename_i c hc
  split at h
  case h_2 => cases h
  rename_i l hl
  cases h
  have := hρ x (by simp) _ hc
  simp only [Ca] at this
  simp only [List.map_cons, Ccs]
  exact ⟨_, _, rfl, this, capsA_sound hl (fun o ho => hρ o (by simp [ho]))⟩
theorem quiet_makeFunc {f : FuncId} {caps : List Operand} {cs : List C} (h : capsA ρA caps = some cs) : Quiet P (.makeFunc (.func f) #[] caps.toArray) ty s ρA (.one (.fn f cs)) := by
 intro H m w ρ hs hρ
 refine ⟨_, rfl, ?_⟩
 simp only [Ca, Cc]
 exact ⟨caps.map ρ, by simp, capsA_sound h (fun o ho => hρ o (by simpa [Op.operands] using ho))⟩
theorem run_eql_ptr_nil {w : World} {t e : TypeId} {a : Option Addr} (h : P.underlying t = some (.pointer e)) : (Op.equal t (.pointer a) (.pointer none)).run P w = .ok a.isNone w := by
 have hun : (underlying t).run P w = .ok (.pointer e) w := by simp [underlying, program, bind, Sem.bind, Sem.run, h, pure]
 unfold Op.equal Op.maxDepth
 rw [Op.equalIn]
 cases a <;> simp only [Sem.run_bind, hun, Result.andThen_ok, Sem.run_pure, Option.isNone_none, Option.isNone_some]
theorem ptrI_of {t : TypeId} (h : ptrI P t = true) : ∃ e, P.underlying t = some (.pointer e) := by
 unfold ptrI at h; split at h
 ·exact ⟨_, by assumption⟩
 ·cases h
def nilV (op : BinOp) (isNil : Bool) : Option Value :=
 match op with
 | .eql => some (.bool isNil)
 | .neq => some (.bool (!isNil))
 | _ => none
theorem quiet_nil {op : BinOp} {t t' : TypeId} {x y : Operand} {c : C} {r : Value} (hx : ρA x = some (.one c)) (hy : ρA y = some (.one (.v (.pointer none)))) (ht : ptrI P t = true) (hr : nilV op false = some r) (h : liveB s c = some p) (hp : p) : Quiet P (.binOp op t x y t') ty s ρA (.one (.v r)) := by
 intro H m w ρ hs hρ
 have g1 := hρ x (by simp [Op.operands]) _ hx
 have g2 := hρ y (by simp [Op.operands]) _ hy
 simp only [Ca] at g1 g2
 obtain ⟨a, e⟩ := live_ptr hs h hp g1
 simp only [Cc] at g2
 obtain ⟨te, hu⟩ := ptrI_of ht
 have he := run_eql_ptr_nil (P := P) (w := w) (a := some a) hu
 unfold nilV at hr
 split at hr <;> cases hr
 all_goals
  refine ⟨_, ?_, caV rfl⟩
  simp only [execOp, e, g2.1, Sem.run_bind, run_eqGuard (P := P) (w := w) _ t x y (.pointer (some a)) (.pointer none) (by simp) (by simp), Result.andThen_ok, binOp, he, Sem.run_pure, Option.isNone_some]
theorem quiet_nil_nil {op : BinOp} {t t' : TypeId} {x y : Operand} {r : Value} (hx : ρA x = some (.one (.v (.pointer none)))) (hy : ρA y = some (.one (.v (.pointer none)))) (ht : ptrI P t = true) (hr : nilV op true = some r) : Quiet P (.binOp op t x y t') ty s ρA (.one (.v r)) := by
 intro H m w ρ hs hρ
 have g1 := hρ x (by simp [Op.operands]) _ hx
 have g2 := hρ y (by simp [Op.operands]) _ hy
 simp only [Ca, Cc] at g1 g2
 obtain ⟨te, hu⟩ := ptrI_of ht
 have he := run_eql_ptr_nil (P := P) (w := w) (a := none) hu
 unfold nilV at hr
 split at hr <;> cases hr
 all_goals
  refine ⟨_, ?_, caV rfl⟩
  simp only [execOp, g1.1, g2.1, Sem.run_bind, run_eqGuard (P := P) (w := w) _ t x y (.pointer none) (.pointer none) (by simp) (by simp), Result.andThen_ok, binOp, he, Sem.run_pure, Option.isNone_none]
end
end Go.Proofs.YtpacdmgnpadleaaDoor
end
