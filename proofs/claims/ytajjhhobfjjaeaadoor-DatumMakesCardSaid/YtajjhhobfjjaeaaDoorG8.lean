/-
  Laid together: Pass, Pass2, Pass3, Pass4, Pass5, Frz, Drw.
-/
import Derived.Test.YtajjhhobfjjaeaaDoorG3

section
/-
  Places of a store under other names: for calls that are handed objects.
-/
namespace Go.Proofs.YtajjhhobfjjaeaaDoor
open Go Go.RowKit
set_option linter.unusedSimpArgs false
set_option linter.unusedVariables false
mutual
def C.ren (f : Nat → Nat) : C → C
  | .any => .any
  | .v x => .v x
  | .sl wd es => .sl wd es
  | .ms loc n => .ms (f loc) n
  | .ptr loc n i off => .ptr (f loc) n i off
  | .pf cs => .pf cs
  | .fn g caps => .fn g (C.rens f caps)
def C.rens (f : Nat → Nat) : List C → List C
  | [] => []
  | c :: cs => c.ren f :: C.rens f cs
end
mutual
def A.ren (f : Nat → Nat) : A → A
  | .any => .any
  | .one c => .one (c.ren f)
  | .agg cs => .agg (C.rens f cs)
  | .tup l => .tup (A.rens f l)
def A.rens (f : Nat → Nat) : List A → List A
  | [] => []
  | a :: l => a.ren f :: A.rens f l
end
def Ob.ren (f : Nat → Nat) (ob : Ob) : Ob := ⟨ob.ty, ob.wd, ob.es.map (C.rens f)⟩
theorem C.rens_len (f : Nat → Nat) : ∀ cs : List C, (C.rens f cs).length = cs.length
  | [] => rfl
  | c :: cs => by simp [C.rens, C.rens_len f cs]
theorem C.rens_append (f : Nat → Nat) : ∀ a b : List C, C.rens f (a ++ b) = C.rens f a ++ C.rens f b
  | [], b => rfl
  | c :: cs, b => by simp [C.rens, C.rens_append f cs b]
theorem C.rens_flat (f : Nat → Nat) : ∀ es : List (List C), (es.map (C.rens f)).flatten = C.rens f es.flatten
  | [] => rfl
  | e :: es => by simp [C.rens_append, C.rens_flat f es]
mutual
theorem Cc.ren {r : World} {m M : List Lo} {f : Nat → Nat} (h : ∀ i, m[i]? = M[f i]?) : ∀ (c : C) (u : Value), Cc ⟨r, M⟩ (c.ren f) u ↔ Cc ⟨r, m⟩ c u
  | .any, u => by simp only [C.ren, Cc]
  | .v x, u => by simp only [C.ren, Cc]
  | .sl wd es, u => by simp only [C.ren, Cc]
  | .ms loc n, u => by simp only [C.ren, Cc, h]
  | .ptr loc n i off, u => by simp only [C.ren, Cc, h]
  | .pf cs, u => by simp only [C.ren, Cc]
  | .fn g caps, u => by simp only [C.ren, Cc, Ccs.ren h caps]
theorem Ccs.ren {r : World} {m M : List Lo} {f : Nat → Nat} (h : ∀ i, m[i]? = M[f i]?) : ∀ (cs : List C) (us : List Value), Ccs ⟨r, M⟩ (C.rens f cs) us ↔ Ccs ⟨r, m⟩ cs us
  | [], us => by simp only [C.rens, Ccs]
  | c :: cs, us => by simp only [C.rens, Ccs, Cc.ren h c, Ccs.ren h cs]
end
mutual
theorem Ca.ren {r : World} {m M : List Lo} {f : Nat → Nat} (h : ∀ i, m[i]? = M[f i]?) : ∀ (a : A) (u : Value), Ca ⟨r, M⟩ (a.ren f) u ↔ Ca ⟨r, m⟩ a u
  | .any, u => by simp only [A.ren, Ca]
  | .one c, u => by simp only [A.ren, Ca, Cc.ren h c]
  | .agg cs, u => by simp only [A.ren, Ca, Ccs.ren h cs]
  | .tup l, u => by simp only [A.ren, Ca, Cas.ren h l]
theorem Cas.ren {r : World} {m M : List Lo} {f : Nat → Nat} (h : ∀ i, m[i]? = M[f i]?) : ∀ (l : List A) (us : List Value), Cas ⟨r, M⟩ (A.rens f l) us ↔ Cas ⟨r, m⟩ l us
  | [], us => by simp only [A.rens, Cas]
  | a :: l, us => by simp only [A.rens, Cas, Ca.ren h a, Cas.ren h l]
end
theorem ObOk.ren {r w : World} {m M : List Lo} {f : Nat → Nat} (h : ∀ i, m[i]? = M[f i]?) {l : Lo} {ob : Ob} : ObOk ⟨r, M⟩ w l (ob.ren f) ↔ ObOk ⟨r, m⟩ w l ob := by
  constructor
  · intro k
    exact ⟨by simpa [Ob.ren] using k.n, k.wd, fun e he => by simpa [C.rens_len, Ob.ren] using k.all (C.rens f e) (List.mem_map.2 ⟨e, he, rfl⟩), by simpa [Ob.ren] using k.le, k.max, by
      obtain ⟨vs, rest, h1, h2, h3⟩ := k.mem
      refine ⟨vs, rest, h1, h2, ?_⟩
      simp only [Ob.ren, C.rens_flat] at h3
      exact (Ccs.ren h _ _).1 h3⟩
  · intro k
    exact ⟨by simpa [Ob.ren] using k.n, k.wd, fun e he => by
        obtain ⟨e', he', rfl⟩ := List.mem_map.1 he
        simpa [C.rens_len, Ob.ren] using k.all e' he', by simpa [Ob.ren] using k.le, k.max, by
      obtain ⟨vs, rest, h1, h2, h3⟩ := k.mem
      refine ⟨vs, rest, h1, h2, ?_⟩
      simp only [Ob.ren, C.rens_flat]
      exact (Ccs.ren h _ _).2 h3⟩
/-- Where the callee's places lie among the caller's. -/
def rn (ρ : List Nat) (N : Nat) (i : Nat) : Nat := ρ.getD i (N + (i - ρ.length))
def putAll {α : Type} (S : List α) : List Nat → List α → List α
  | j :: ρ, x :: s => putAll (S.set j x) ρ s
  | _, _ => S
def mix {α : Type} (ρ : List Nat) (S s : List α) : List α := putAll S ρ s ++ s.drop ρ.length
theorem putAll_len {α : Type} : ∀ (S : List α) (ρ : List Nat) (s : List α), (putAll S ρ s).length = S.length
  | S, [], s => by simp [putAll]
  | S, j :: ρ, [] => by simp [putAll]
  | S, j :: ρ, x :: s => by simp [putAll, putAll_len]
theorem putAll_other {α : Type} : ∀ (S : List α) (ρ : List Nat) (s : List α) (j : Nat), j ∉ ρ → (putAll S ρ s)[j]? = S[j]?
  | S, [], s, j, h => by simp [putAll]
  | S, k :: ρ, [], j, h => by simp [putAll]
  | S, k :: ρ, x :: s, j, h => by
    simp only [List.mem_cons, not_or] at h
    rw [putAll, putAll_other _ ρ s j h.2, List.getElem?_set_ne (fun e => h.1 e.symm)]
theorem putAll_at {α : Type} : ∀ (S : List α) (ρ : List Nat) (s : List α) (i j : Nat), ρ.Nodup → ρ.length ≤ s.length → (∀ k ∈ ρ, k < S.length) → ρ[i]? = some j → (putAll S ρ s)[j]? = s[i]?
  | S, [], s, i, j, _, _, _, h => by simp at h
  | S, k :: ρ, [], i, j, _, hl, _, h => by simp at hl
  | S, k :: ρ, x :: s, 0, j, hn, hl, hb, h => by
    simp only [List.getElem?_cons_zero, Option.some.injEq] at h
    subst h
    rw [putAll, putAll_other _ _ _ _ (List.nodup_cons.1 hn).1]
    simp [hb k (by simp)]
  | S, k :: ρ, x :: s, i + 1, j, hn, hl, hb, h => by
    rw [putAll]
    simp only [List.getElem?_cons_succ] at h ⊢
    exact putAll_at _ ρ s i j (List.nodup_cons.1 hn).2 (by simpa using hl) (fun q hq => by simpa using hb q (by simp [hq])) h
theorem mix_at {α : Type} {S s : List α} {ρ : List Nat} (hn : ρ.Nodup) (hl : ρ.length ≤ s.length) (hb : ∀ k ∈ ρ, k < S.length) (i : Nat) : (mix ρ S s)[rn ρ S.length i]? = s[i]? := by
  unfold mix rn
  by_cases hi : i < ρ.length
  · have e : ρ[i]? = some ρ[i] := List.getElem?_eq_getElem hi
    rw [List.getD_eq_getElem?_getD, e, Option.getD_some, List.getElem?_append_left (by rw [putAll_len]; exact hb _ (List.getElem_mem hi))]
    exact putAll_at S ρ s i _ hn hl hb e
  · have e : ρ[i]? = none := List.getElem?_eq_none (by omega)
    rw [List.getD_eq_getElem?_getD, e, Option.getD_none, List.getElem?_append_right (by rw [putAll_len]; omega), putAll_len, List.getElem?_drop]
    congr 1; omega
theorem mix_other {α : Type} {S s : List α} {ρ : List Nat} {j : Nat} (hj : j < S.length) (hn : j ∉ ρ) : (mix ρ S s)[j]? = S[j]? := by
  unfold mix
  rw [List.getElem?_append_left (by rw [putAll_len]; exact hj), putAll_other _ _ _ _ hn]
theorem mix_cover {α : Type} {S s : List α} {ρ : List Nat} (hl : ρ.length ≤ s.length) {j : Nat} (hj : j < (mix ρ S s).length) : (j < S.length ∧ j ∉ ρ) ∨ ∃ i, j = rn ρ S.length i := by
  by_cases h : j < S.length
  · by_cases h2 : j ∈ ρ
    · obtain ⟨i, hi, rfl⟩ := List.mem_iff_getElem.1 h2
      exact .inr ⟨i, by simp [rn, hi]⟩
    · exact .inl ⟨h, h2⟩
  · refine .inr ⟨ρ.length + (j - S.length), ?_⟩
    simp only [rn]
    rw [List.getD_eq_getElem?_getD, List.getElem?_eq_none (by omega), Option.getD_none]
    omega
end Go.Proofs.YtajjhhobfjjaeaaDoor
end

section
/-
  A call that is handed objects: the callee's state, and the caller's behind it.
-/
namespace Go.Proofs.YtajjhhobfjjaeaaDoor
open Go Go.RowKit
set_option linter.unusedSimpArgs false
set_option linter.unusedVariables false
/-- What is handed over: these of the caller's objects, under the callee's names. -/
structure Handed (S : List (Option Ob)) (ρ : List Nat) (s : List (Option Ob)) : Prop where
  len : ρ.length = s.length
  nodup : ρ.Nodup
  lt : ∀ k ∈ ρ, k < S.length
  get : ∀ i, i < s.length → S[rn ρ S.length i]? = (s[i]?).map (Option.map (Ob.ren (rn ρ S.length)))
def pick (M : List Lo) (ρ : List Nat) : List Lo := ρ.map fun j => M.getD j ⟨0, 0, 0, 0⟩
def hidden (H : Nat → Bool) (S : List (Option Ob)) (M : List Lo) (s : List (Option Ob)) (m : List Lo) (b : Nat) : Bool := H b || (hidB S M b && !hidB s m b)
theorem pick_at {M : List Lo} {ρ : List Nat} (h : ∀ k ∈ ρ, k < M.length) (i : Nat) : (pick M ρ)[i]? = M[rn ρ M.length i]? := by
  unfold pick rn
  by_cases hi : i < ρ.length
  · have hlt := h _ (List.getElem_mem hi)
    simp [hi, hlt]
  · rw [List.getElem?_eq_none (by simp; omega), List.getD_eq_getElem?_getD, List.getElem?_eq_none (l := ρ) (by omega), Option.getD_none, List.getElem?_eq_none (by omega)]
section
variable {H : Nat → Bool} {w0 : World} {S0 : Nat → Bool} {m0 : List Lo} {nt : Cf} {st : St} {M : List Lo} {a : Act} {w w' : World} {ρ : List Nat} {s s' : List (Option Ob)} {m' : List Lo}
theorem Handed.at (hh : Handed st.s ρ s) (hl : st.s.length = M.length) {i : Nat} {ob : Ob} {l : Lo} (h1 : s[i]? = some (some ob)) (h2 : (pick M ρ)[i]? = some l) : st.s[rn ρ st.s.length i]? = some (some (ob.ren (rn ρ st.s.length))) ∧ M[rn ρ st.s.length i]? = some l := by
  refine ⟨?_, ?_⟩
  · rw [hh.get i (List.getElem?_eq_some_iff.1 h1).1, h1]; rfl
  · rw [hl, ← pick_at (by rw [← hl]; exact hh.lt)]; exact h2
theorem Handed.hid (hh : Handed st.s ρ s) (hl : st.s.length = M.length) {b : Nat} (hb : hidB s (pick M ρ) b = true) : hidB st.s M b = true := by
  obtain ⟨i, ob, l, h1, h2, rfl⟩ := hidB_iff.1 hb
  obtain ⟨h3, h4⟩ := hh.at hl h1 h2
  exact hidB_iff.2 ⟨_, _, l, h3, h4, rfl⟩
theorem rn_inj (hn : ρ.Nodup) {N i j : Nat} (hi : i < ρ.length) (hj : j < ρ.length) (h : rn ρ N i = rn ρ N j) : i = j := by
  simp only [rn, List.getD_eq_getElem?_getD, List.getElem?_eq_getElem hi, List.getElem?_eq_getElem hj, Option.getD_some] at h
  have hp := List.pairwise_iff_getElem.1 hn
  rcases Nat.lt_trichotomy i j with g | g | g
  · exact absurd h (hp i j hi hj g)
  · exact g
  · exact absurd h.symm (hp j i hj hi g)
theorem Handed.vis (hh : Handed st.s ρ s) (hl : st.s.length = M.length) (w : World) : Go.Proofs.YtajjhhobfjjaeaaDoor.vis (hidden H st.s M s (pick M ρ)) s (pick M ρ) w = Go.Proofs.YtajjhhobfjjaeaaDoor.vis H st.s M w := by
  unfold Go.Proofs.YtajjhhobfjjaeaaDoor.vis
  congr 1
  funext b
  unfold hidden
  have := hh.hid hl (b := b)
  cases h1 : H b <;> cases h2 : hidB st.s M b <;> cases h3 : hidB s (pick M ρ) b <;> simp_all
theorem Handed.sto (hh : Handed st.s ρ s) (hs : StoOk H st.s M w) : StoOk (hidden H st.s M s (pick M ρ)) s (pick M ρ) w := by
  have hl := hs.len
  have hpl : (pick M ρ).length = s.length := by rw [pick, List.length_map, hh.len]
  refine ⟨hpl.symm, fun i ob l h1 h2 => ?_, fun i j oi oj li lj h1 h2 h3 h4 hb => ?_, fun i ob l h1 h2 => ?_, fun b hb => ?_, fun b hb => ?_, hs.gl⟩
  · obtain ⟨h3, h4⟩ := hh.at hl h1 h2
    have := hs.ok _ _ _ h3 h4
    rw [hh.vis hl]
    exact (ObOk.ren (fun i => by rw [hl]; exact pick_at (by rw [← hl]; exact hh.lt) i)).1 this
  · obtain ⟨a1, a2⟩ := hh.at hl h1 h3
    obtain ⟨b1, b2⟩ := hh.at hl h2 h4
    exact rn_inj hh.nodup (by rw [hh.len]; exact (List.getElem?_eq_some_iff.1 h1).1) (by rw [hh.len]; exact (List.getElem?_eq_some_iff.1 h2).1) (hs.uniq _ _ _ _ _ _ a1 b1 a2 b2 hb)
  · obtain ⟨h3, h4⟩ := hh.at hl h1 h2
    have e1 : hidB s (pick M ρ) l.b = true := hidB_iff.2 ⟨i, ob, l, h1, h2, rfl⟩
    simp [hidden, hs.nh _ _ _ h3 h4, e1]
  · simp only [hidden, Bool.or_eq_true, Bool.and_eq_true] at hb
    rcases hb with hb | ⟨hb, -⟩
    · exact hs.hlt b hb
    · exact hs.hid_lt hb
  · obtain ⟨g1, g2, g3⟩ := hs.gb b hb
    refine ⟨by simp [hidden, g1, g2], ?_, g3⟩
    cases hc : hidB s (pick M ρ) b with
    | false => rfl
    | true => rw [hh.hid hl hc] at g2; cases g2
/-- One of the caller's objects that is not handed over. -/
def Other (S : List (Option Ob)) (M : List Lo) (ρ : List Nat) (b : Nat) : Prop := ∃ (j : Nat) (ob : Ob) (l : Lo), j ∉ ρ ∧ S[j]? = some (some ob) ∧ M[j]? = some l ∧ l.b = b
theorem Handed.other (hh : Handed st.s ρ s) (hs : StoOk H st.s M w) {b : Nat} : Other st.s M ρ b ↔ (hidB st.s M b && !hidB s (pick M ρ) b) = true := by
  have hl := hs.len
  constructor
  · rintro ⟨j, ob, l, hj, h1, h2, rfl⟩
    have e1 : hidB st.s M l.b = true := hidB_iff.2 ⟨j, ob, l, h1, h2, rfl⟩
    have e2 : hidB s (pick M ρ) l.b = false := by
      cases hc : hidB s (pick M ρ) l.b with
      | false => rfl
      | true =>
        obtain ⟨i, ob', l', k1, k2, k3⟩ := hidB_iff.1 hc
        obtain ⟨k4, k5⟩ := hh.at hl k1 k2
        have := hs.uniq _ _ _ _ _ _ k4 h1 k5 h2 k3
        have hi : i < ρ.length := by rw [hh.len]; exact (List.getElem?_eq_some_iff.1 k1).1
        refine absurd ?_ hj
        rw [← this, rn, List.getD_eq_getElem?_getD, List.getElem?_eq_getElem hi]
        exact List.getElem_mem hi
    simp [e1, e2]
  · intro h
    simp only [Bool.and_eq_true, Bool.not_eq_true'] at h
    obtain ⟨j, ob, l, h1, h2, rfl⟩ := hidB_iff.1 h.1
    refine ⟨j, ob, l, fun hj => ?_, h1, h2, rfl⟩
    obtain ⟨i, hi, rfl⟩ := List.mem_iff_getElem.1 hj
    have e : rn ρ st.s.length i = ρ[i] := by simp [rn, hi]
    have hg := hh.get i (by rw [← hh.len]; exact hi)
    rw [e, h1] at hg
    have hm : (pick M ρ)[i]? = some l := by rw [pick_at (by rw [← hl]; exact hh.lt), ← hl, e]; exact h2
    cases hsi : s[i]? with
    | none => rw [hsi] at hg; cases hg
    | some o =>
      cases o with
      | none => rw [hsi] at hg; simp at hg
      | some ob' =>
        have := hidB_iff.2 ⟨i, ob', l, hsi, hm, rfl⟩
        rw [h.2] at this; cases this
end
end Go.Proofs.YtajjhhobfjjaeaaDoor
end

section
/-
  A call that is handed objects: the caller's state behind it.
-/
namespace Go.Proofs.YtajjhhobfjjaeaaDoor
open Go Go.RowKit
set_option linter.unusedSimpArgs false
set_option linter.unusedVariables false
section
variable {H : Nat → Bool} {w0 : World} {S0 : Nat → Bool} {m0 : List Lo} {nt : Cf} {st : St} {M : List Lo} {a : Act} {w w' : World} {ρ : List Nat} {s s' : List (Option Ob)} {m' : List Lo}
/-- The caller's store behind a call. -/
def back (S : List (Option Ob)) (ρ : List Nat) (s' : List (Option Ob)) : List (Option Ob) := mix ρ S (s'.map (Option.map (Ob.ren (rn ρ S.length))))
theorem Sim.back (h : Sim H w0 S0 m0 nt st M a w) (hh : Handed st.s ρ s) (h' : StoOk (hidden H st.s M s (pick M ρ)) s' m' w') (hfr : Fr (hidB s (pick M ρ)) w w') (hup : Up (pick M ρ) m')
    (hnew : ∀ (i : Nat) (ob : Ob) (l : Lo), s'[i]? = some (some ob) → m'[i]? = some l → hidB s (pick M ρ) l.b = true ∨ w.heap.size ≤ l.b) :
    Sim H w0 S0 m0 nt ⟨st.e, Go.Proofs.YtajjhhobfjjaeaaDoor.back st.s ρ s'⟩ (mix ρ M m') a w' ∧ Goes st.s M w (Go.Proofs.YtajjhhobfjjaeaaDoor.back st.s ρ s') (mix ρ M m') w' ∧ ∀ (r : A) (v : Value), Ca ⟨vis (hidden H st.s M s (pick M ρ)) s' m' w', m'⟩ r v → Ca ⟨vis H (Go.Proofs.YtajjhhobfjjaeaaDoor.back st.s ρ s') (mix ρ M m') w', mix ρ M m'⟩ (r.ren (rn ρ st.s.length)) v := by
  have hs := h.sto
  have hl := hs.len
  have hltM : ∀ k ∈ ρ, k < M.length := by rw [← hl]; exact hh.lt
  have hpl : (pick M ρ).length = ρ.length := by simp [pick]
  have hn : ρ.length ≤ m'.length := by
    rcases Nat.eq_zero_or_pos ρ.length with h0 | h0
    · omega
    · obtain ⟨l', e, -⟩ := hup (ρ.length - 1) _ (List.getElem?_eq_getElem (by omega))
      have := (List.getElem?_eq_some_iff.1 e).1
      omega
  have hns : ρ.length ≤ s'.length := by rw [h'.len]; exact hn
  have hM : ∀ i, m'[i]? = (mix ρ M m')[rn ρ st.s.length i]? := fun i => by rw [hl]; exact (mix_at hh.nodup hn hltM i).symm
  have hS : ∀ i, (Go.Proofs.YtajjhhobfjjaeaaDoor.back st.s ρ s')[rn ρ st.s.length i]? = (s'[i]?).map (Option.map (Ob.ren (rn ρ st.s.length))) := fun i => by
    unfold Go.Proofs.YtajjhhobfjjaeaaDoor.back
    rw [mix_at hh.nodup (by simpa using hns) hh.lt i, List.getElem?_map]
  have cov : ∀ (j : Nat) (ob : Ob) (l : Lo), (Go.Proofs.YtajjhhobfjjaeaaDoor.back st.s ρ s')[j]? = some (some ob) → (mix ρ M m')[j]? = some l → (j ∉ ρ ∧ st.s[j]? = some (some ob) ∧ M[j]? = some l) ∨ ∃ i ob', j = rn ρ st.s.length i ∧ s'[i]? = some (some ob') ∧ ob = ob'.ren (rn ρ st.s.length) ∧ m'[i]? = some l := fun j ob l h1 h2 => by
    have hj := (List.getElem?_eq_some_iff.1 h1).1
    rcases mix_cover (S := st.s) (s := s'.map (Option.map (Ob.ren (rn ρ st.s.length)))) (ρ := ρ) (by simpa using hns) hj with ⟨g1, g2⟩ | ⟨i, rfl⟩
    · refine .inl ⟨g2, ?_, ?_⟩
      · unfold Go.Proofs.YtajjhhobfjjaeaaDoor.back at h1; rw [mix_other g1 g2] at h1; exact h1
      · rw [mix_other (by rw [← hl]; exact g1) g2] at h2; exact h2
    · refine .inr ⟨i, ?_⟩
      rw [hS] at h1
      rw [← hM] at h2
      cases hsi : s'[i]? with
      | none => rw [hsi] at h1; cases h1
      | some o =>
        cases o with
        | none => rw [hsi] at h1; simp at h1
        | some ob' =>
          rw [hsi] at h1
          simp only [Option.map_some, Option.some.injEq] at h1
          exact ⟨ob', rfl, rfl, h1.symm, h2⟩
  have hot : ∀ b, Other st.s M ρ b → hidden H st.s M s (pick M ρ) b = true := fun b hb => by
    unfold hidden; rw [(hh.other hs).1 hb]; simp
  have hid' : ∀ b, hidB (Go.Proofs.YtajjhhobfjjaeaaDoor.back st.s ρ s') (mix ρ M m') b = true ↔ (hidB s' m' b = true ∨ Other st.s M ρ b) := fun b => by
    constructor
    · intro hb
      obtain ⟨j, ob, l, h1, h2, rfl⟩ := hidB_iff.1 hb
      rcases cov j ob l h1 h2 with ⟨g1, g2, g3⟩ | ⟨i, ob', rfl, g2, rfl, g4⟩
      · exact .inr ⟨j, ob, l, g1, g2, g3, rfl⟩
      · exact .inl (hidB_iff.2 ⟨i, ob', l, g2, g4, rfl⟩)
    · rintro (hb | ⟨j, ob, l, g1, g2, g3, rfl⟩)
      · obtain ⟨i, ob, l, h1, h2, rfl⟩ := hidB_iff.1 hb
        exact hidB_iff.2 ⟨rn ρ st.s.length i, ob.ren (rn ρ st.s.length), l, by rw [hS, h1]; rfl, by rw [← hM]; exact h2, rfl⟩
      · have hj := (List.getElem?_eq_some_iff.1 g2).1
        exact hidB_iff.2 ⟨j, ob, l, by unfold Go.Proofs.YtajjhhobfjjaeaaDoor.back; rw [mix_other hj g1]; exact g2, by rw [mix_other (by rw [← hl]; exact hj) g1]; exact g3, rfl⟩
  have hv : vis (hidden H st.s M s (pick M ρ)) s' m' w' = vis H (Go.Proofs.YtajjhhobfjjaeaaDoor.back st.s ρ s') (mix ρ M m') w' := by
    unfold vis
    congr 1
    funext b
    have h1 := hid' b
    have h2 := hh.other hs (b := b)
    unfold hidden
    cases e1 : H b <;> cases e2 : (hidB st.s M b && !hidB s (pick M ρ) b) <;> cases e3 : hidB s' m' b <;> cases e4 : hidB (Go.Proofs.YtajjhhobfjjaeaaDoor.back st.s ρ s') (mix ρ M m') b <;> simp_all
  have hg : Goes st.s M w (Go.Proofs.YtajjhhobfjjaeaaDoor.back st.s ρ s') (mix ρ M m') w' := by
    refine ⟨fun j l hj => ?_, hfr.os, hfr.tape, hfr.output, hfr.size, fun b hb hf => ⟨?_, hfr.block b hb ?_⟩⟩
    · by_cases hjr : j ∈ ρ
      · obtain ⟨i, hi, rfl⟩ := List.mem_iff_getElem.1 hjr
        have e : rn ρ st.s.length i = ρ[i] := by simp [rn, hi]
        obtain ⟨l', k1, k2, k3⟩ := hup i l (by rw [pick_at hltM, ← hl, e]; exact hj)
        exact ⟨l', by rw [← e, ← hM]; exact k1, k2, k3⟩
      · exact ⟨l, by rw [mix_other (List.getElem?_eq_some_iff.1 hj).1 hjr]; exact hj, Nat.le_refl _, fun _ => rfl⟩
    · cases hc : hidB (Go.Proofs.YtajjhhobfjjaeaaDoor.back st.s ρ s') (mix ρ M m') b with
      | false => rfl
      | true =>
        rcases (hid' b).1 hc with k | k
        · obtain ⟨i, ob, l, h1, h2, rfl⟩ := hidB_iff.1 k
          rcases hnew i ob l h1 h2 with k | k
          · rw [hh.hid hl k] at hf; cases hf
          · omega
        · have := (hh.other hs).1 k
          rw [hf] at this; simp at this
    · cases hc : hidB s (pick M ρ) b with
      | false => rfl
      | true => rw [hh.hid hl hc] at hf; cases hf
  have hsto : StoOk H (Go.Proofs.YtajjhhobfjjaeaaDoor.back st.s ρ s') (mix ρ M m') w' := by
    refine ⟨?_, fun j ob l h1 h2 => ?_, fun i j oi oj li lj h1 h2 h3 h4 hb => ?_, fun j ob l h1 h2 => ?_, fun b hb => Nat.lt_of_lt_of_le (hs.hlt b hb) hfr.size, fun b hb => ?_, h'.gl⟩
    · unfold Go.Proofs.YtajjhhobfjjaeaaDoor.back mix
      simp only [List.length_append, putAll_len, List.length_drop, List.length_map, hl, h'.len]
    · rcases cov j ob l h1 h2 with ⟨g1, g2, g3⟩ | ⟨i, ob', rfl, g2, rfl, g4⟩
      · refine (hs.ok j ob l g2 g3).carry hg.keeps hg.up (hfr.block _ (hs.lt g2 g3) ?_)
        have := (hh.other hs).1 ⟨j, ob, l, g1, g2, g3, rfl⟩
        simp only [Bool.and_eq_true, Bool.not_eq_true'] at this
        exact this.2
      · rw [← hv]
        exact (ObOk.ren hM).2 (h'.ok i ob' l g2 g4)
    · rcases cov i oi li h1 h3 with ⟨g1, g2, g3⟩ | ⟨i', oi', rfl, g2, rfl, g4⟩ <;> rcases cov j oj lj h2 h4 with ⟨k1, k2, k3⟩ | ⟨j', oj', rfl, k2, rfl, k4⟩
      · exact hs.uniq _ _ _ _ _ _ g2 k2 g3 k3 hb
      · have e1 := h'.nh _ _ _ k2 k4
        rw [← hb, hot _ ⟨i, oi, li, g1, g2, g3, rfl⟩] at e1; cases e1
      · have e1 := h'.nh _ _ _ g2 g4
        rw [hb, hot _ ⟨j, oj, lj, k1, k2, k3, rfl⟩] at e1; cases e1
      · rw [h'.uniq _ _ _ _ _ _ g2 k2 g4 k4 hb]
    · rcases cov j ob l h1 h2 with ⟨g1, g2, g3⟩ | ⟨i, ob', rfl, g2, rfl, g4⟩
      · exact hs.nh _ _ _ g2 g3
      · have := h'.nh _ _ _ g2 g4
        simp only [hidden, Bool.or_eq_false_iff] at this
        exact this.1
    · obtain ⟨k1, k2, k3⟩ := h'.gb b hb
      refine ⟨?_, ?_, k3⟩
      · simp only [hidden, Bool.or_eq_false_iff] at k1; exact k1.1
      · cases hc : hidB (Go.Proofs.YtajjhhobfjjaeaaDoor.back st.s ρ s') (mix ρ M m') b with
        | false => rfl
        | true =>
          rcases (hid' b).1 hc with k | k
          · rw [k2] at k; cases k
          · rw [hot b k] at k1; cases k1
  refine ⟨h.goes hg hsto fun j ob l h1 h2 => ?_, hg, fun r v hr => ?_⟩
  · rcases cov j ob l h1 h2 with ⟨g1, g2, g3⟩ | ⟨i, ob', rfl, g2, rfl, g4⟩
    · exact h.own j ob l g2 g3
    · rcases hnew i ob' l g2 g4 with k | k
      · obtain ⟨i0, ob0, l0, k1, k2, k3⟩ := hidB_iff.1 k
        obtain ⟨k4, k5⟩ := hh.at hl k1 k2
        rw [← k3]
        exact h.own _ _ _ k4 k5
      · exact .inr (Nat.le_trans h.fr.size k)
  · rw [← hv]
    exact (Ca.ren hM r v).2 hr
end
end Go.Proofs.YtajjhhobfjjaeaaDoor
end

section
/-
  Rules: a call that is handed objects; a function that is handed objects, by its body.
-/
namespace Go.Proofs.YtajjhhobfjjaeaaDoor
open Go Go.RowKit
set_option linter.unusedSimpArgs false
set_option linter.unusedVariables false
section
variable {P : Program} {nt : Cf} {ops : Array Oper} {Q : St → Prop} {st : St} {rest : List Oper}
theorem WpL.hand {d : Option Tmp} {fo : Operand} {args : List Operand} {tys : Array TypeId} {ty : TypeId} {pos : String} {aft : Array Edge} {g : Option (Nat × Bool)} {f : FuncId} {caps : List C} {xs xs' : List A} {s : List (Option Ob)} {ρ : List Nat} {R : A → List (Option Ob) → Prop} (hd : fits nt d = true)
    (hg : ∀ H w0 S0 m0 m a w, Sim H w0 S0 m0 nt st m a w → Region.wanted ⟨d, .call { callee := .value fo, args := args.toArray, argTypes := tys }, ty, pos, aft, g⟩ (yielded ops a.tmps) = true)
    (hf : rdA st.e fo = some (.one (.fn f caps))) (ha : rdAs st.e args = some xs) (hc : callable P f = true) (hx : xs ++ caps.map .one = A.rens (rn ρ st.s.length) xs') (hh : Handed st.s ρ s) (hfn : Fn P f xs' s R)
    (h : ∀ r s', R r s' → WpL P nt ops Q rest (St.put ⟨st.e, back st.s ρ s'⟩ d (r.ren (rn ρ st.s.length)))) : WpL P nt ops Q (⟨d, .call { callee := .value fo, args := args.toArray, argTypes := tys }, ty, pos, aft, g⟩ :: rest) st := fun H w0 S0 m0 m a w hs Q' hQ => by
  obtain ⟨vs, hrun, hv⟩ := run_call (tys := tys) (ty := ty) hs hf ha hc
  unfold wpList
  rw [if_pos (hg H w0 S0 m0 m a w hs)]
  refine .inl ?_
  unfold Oper.wp
  rw [exec_same, hrun]
  have hl := hs.sto.len
  rw [hx] at hv
  have hv' := (Cas.ren (m := pick m ρ) (fun i => by rw [hl]; exact pick_at (by rw [← hl]; exact hh.lt) i) _ _).1 hv
  rw [← hh.vis hl] at hv'
  refine (hfn _ (pick m ρ) w vs (hh.sto hs.sto) hv').mono fun e w' ⟨v, m', r, s', he, hR, hso, hca, hfr, hup, hnew⟩ => ?_
  subst he
  obtain ⟨hsim, -, hval⟩ := hs.back hh hso hfr hup hnew
  exact h r s' hR H w0 S0 m0 _ _ w' (hsim.put hd (hval r v hca)) Q' hQ
end
/-- What stands at the end of a function that is handed objects. -/
def EndS (P : Program) (nt : Cf) (rs : List ResultVar) (R : A → List (Option Ob) → Prop) : Exit → St → Prop := fun e st => (e = .ret ∨ e = .normal) ∧ ∃ st' q l, Le nt st st' ∧ resA P st'.s st'.e rs = some (q, l) ∧ q ∧ R (tupA l) st'.s
theorem Fn.introS {P : Program} {f : FuncId} {fn : Func} {c : Code} {args : List A} {s : List (Option Ob)} {R : A → List (Option Ob) → Prop} {nt : Nat} {rs : List ResultVar} (hf : P.funcs[f]? = some fn) (hb : fn.body = some c) (hnt : fn.ntmps = nt) (hrs : fn.results = rs.toArray) (hn : args.length ≤ nt) (h : WpA P ⟨nt, s.length⟩ c (EndS P ⟨nt, s.length⟩ rs R) ⟨args0 0 args, s⟩) :
    Fn P f args s R := by
  subst hnt
  intro H m w vs hs hv
  refine calls_of_wp hf hb ?_
  have hl := hv.len
  have hsim : Sim H w (hidB s m) m ⟨fn.ntmps, s.length⟩ ⟨args0 0 args, s⟩ m { tmps := vs.toArray ++ Array.replicate (fn.ntmps - vs.toArray.size) undef, defers := [] } w := by
    refine ⟨fun i x hx => ?_, by simp; omega, rfl, hs, Fr.refl _ _, fun i ob l h1 h2 => .inl (hidB_iff.2 ⟨i, ob, l, h1, h2, rfl⟩), Up.refl _, hs.len.symm⟩
    obtain ⟨-, h2⟩ := find_args0 args 0 i x hx
    obtain ⟨u, hu, hc⟩ := hv.at h2
    refine ⟨u, ?_, hc⟩
    simp only [Nat.sub_zero] at hu
    rw [Array.getElem?_append_left (by simpa using (List.getElem?_eq_some_iff.1 hu).1)]
    simpa using hu
  refine wp_mono (h H w _ m m _ w hsim) fun e a' w' ⟨st1, m1, ⟨he, st', q, l, hle, hr, hq, hR⟩, hs1⟩ => ?_
  obtain ⟨m', hs'⟩ := hle _ _ _ _ _ _ _ hs1
  obtain ⟨u, hu, hc⟩ := hs'.results (P := P) (fn := fn) (by rw [hrs]; exact hr) hq
  have hfin : ∃ v m' r s', Ending.returned u = .returned v ∧ R r s' ∧ StoOk H s' m' w' ∧ Ca ⟨vis H s' m' w', m'⟩ r v ∧ Fr (hidB s m) w w' ∧ Up m m' ∧ ∀ (i : Nat) (ob : Ob) (l : Lo), s'[i]? = some (some ob) → m'[i]? = some l → hidB s m l.b = true ∨ w.heap.size ≤ l.b :=
    ⟨u, m', _, st'.s, rfl, hR, hs'.sto, hc, hs'.fr, hs'.up, hs'.own⟩
  rcases he with rfl | rfl <;> exact ⟨hs'.df, u, hu, hfin⟩
end Go.Proofs.YtajjhhobfjjaeaaDoor
end

section
/-
  A state under other names: some of its objects, in another order.
-/
namespace Go.Proofs.YtajjhhobfjjaeaaDoor
open Go Go.RowKit
set_option linter.unusedSimpArgs false
set_option linter.unusedVariables false
/-- What is handed over, as it is found by looking. -/
theorem Handed.of {S s : List (Option Ob)} {ρ : List Nat} (hn : ρ.Nodup) (hg : ρ.map (S[·]?) = s.map fun o => some (o.map (Ob.ren (rn ρ S.length)))) : Handed S ρ s := by
  have hl : ρ.length = s.length := by simpa using congrArg List.length hg
  refine ⟨hl, hn, fun k hk => ?_, fun i hi => ?_⟩
  · have h1 : S[k]? ∈ ρ.map (S[·]?) := List.mem_map.2 ⟨k, hk, rfl⟩
    rw [hg] at h1
    obtain ⟨o, -, ho⟩ := List.mem_map.1 h1
    exact (List.getElem?_eq_some_iff.1 ho.symm).1
  · have h1 := congrArg (fun l => l[i]?) hg
    simp only [List.getElem?_map] at h1
    have hi' : i < ρ.length := by omega
    rw [List.getElem?_eq_getElem hi', List.getElem?_eq_getElem hi] at h1
    simp only [Option.map_some, Option.some.injEq] at h1
    rw [List.getElem?_eq_getElem hi, Option.map_some]
    rw [show rn ρ S.length i = ρ[i] by simp [rn, hi']]
    exact h1
def SubR (f : Nat → Nat) (e : List (Nat × A)) : List (Nat × A) → Prop
  | [] => True
  | (i, x) :: r => find e i = some (x.ren f) ∧ SubR f e r
theorem SubR.find {f : Nat → Nat} {e : List (Nat × A)} : ∀ {e' : List (Nat × A)} {i : Nat} {x : A}, SubR f e e' → Go.Proofs.YtajjhhobfjjaeaaDoor.find e' i = some x → Go.Proofs.YtajjhhobfjjaeaaDoor.find e i = some (x.ren f)
  | [], i, x, _, h => by simp [Go.Proofs.YtajjhhobfjjaeaaDoor.find] at h
  | (j, y) :: r, i, x, hs, h => by
    simp only [SubR] at hs
    simp only [Go.Proofs.YtajjhhobfjjaeaaDoor.find] at h
    split at h
    · rename_i e; subst e; cases h; exact hs.1
    · exact hs.2.find h
theorem Le.names {nt : Cf} {e e' : List (Nat × A)} {S s : List (Option Ob)} (ρ : List Nat) (hh : Handed S ρ s) (h0 : ∀ i, i < nt.n0 → ρ[i]? = some i) (he : SubR (rn ρ S.length) e e') : Le nt ⟨e, S⟩ ⟨e', s⟩ := fun H w0 S0 m0 M a w h => by
  have hs := h.sto
  have hl : S.length = M.length := hs.len
  have hltM : ∀ k ∈ ρ, k < M.length := by rw [← hl]; exact hh.lt
  have hp : ∀ i, (pick M ρ)[i]? = M[rn ρ S.length i]? := fun i => by rw [hl]; exact pick_at hltM i
  have hat : ∀ {i : Nat} {ob : Ob} {l : Lo}, s[i]? = some (some ob) → (pick M ρ)[i]? = some l → S[rn ρ S.length i]? = some (some (ob.ren (rn ρ S.length))) ∧ M[rn ρ S.length i]? = some l := fun h1 h2 => hh.at (st := ⟨e, S⟩) hl h1 h2
  have hid : ∀ b, hidB s (pick M ρ) b = true → hidB S M b = true := fun b hb => hh.hid (st := ⟨e, S⟩) hl hb
  have hk : Keeps (vis H S M w) (vis H s (pick M ρ) w) := Keeps.only fun b hb _ => by
    simp only [Bool.and_eq_true, Bool.not_eq_true'] at hb ⊢
    refine ⟨⟨hb.1, ?_⟩, trivial⟩
    cases hc : hidB s (pick M ρ) b with
    | false => rfl
    | true => rw [hid b hc] at hb; cases hb.2
  refine ⟨pick M ρ, fun i x hx => ?_, h.nts, h.df, ⟨by simp [pick, hh.len], fun i ob l h1 h2 => ?_, fun i j oi oj li lj h1 h2 h3 h4 hb => ?_, fun i ob l h1 h2 => ?_, hs.hlt, fun b hb => ?_, hs.gl⟩, h.fr, fun i ob l h1 h2 => ?_, fun i l hi => ?_, h.n0⟩
  · obtain ⟨u, hu, hc⟩ := h.env i _ (he.find hx)
    exact ⟨u, hu, Ca.keep (X := ⟨vis H S M w, pick M ρ⟩) (X' := ⟨vis H s (pick M ρ) w, pick M ρ⟩) hk (Up.refl _) ((Ca.ren hp x u).1 hc)⟩
  · obtain ⟨h3, h4⟩ := hat h1 h2
    exact ((ObOk.ren hp).1 (hs.ok _ _ _ h3 h4)).carry (X' := ⟨vis H s (pick M ρ) w, pick M ρ⟩) hk (Up.refl _) rfl
  · obtain ⟨a1, a2⟩ := hat h1 h3
    obtain ⟨b1, b2⟩ := hat h2 h4
    exact rn_inj hh.nodup (by rw [hh.len]; exact (List.getElem?_eq_some_iff.1 h1).1) (by rw [hh.len]; exact (List.getElem?_eq_some_iff.1 h2).1) (hs.uniq _ _ _ _ _ _ a1 b1 a2 b2 hb)
  · obtain ⟨h3, h4⟩ := hat h1 h2
    exact hs.nh _ _ _ h3 h4
  · obtain ⟨g1, g2, g3⟩ := hs.gb b hb
    refine ⟨g1, ?_, g3⟩
    cases hc : hidB s (pick M ρ) b with
    | false => rfl
    | true => rw [hid b hc] at g2; cases g2
  · obtain ⟨h3, h4⟩ := hat h1 h2
    exact h.own _ _ _ h3 h4
  · have hi0 : i < nt.n0 := by rw [← h.n0]; exact (List.getElem?_eq_some_iff.1 hi).1
    obtain ⟨l', k1, k2, k3⟩ := h.up i l hi
    refine ⟨l', ?_, k2, k3⟩
    rw [hp, rn, List.getD_eq_getElem?_getD, h0 i hi0, Option.getD_some]
    exact k1
end Go.Proofs.YtajjhhobfjjaeaaDoor
end

section
/-
  Objects that are not written any more become frozen rows; calls that see a state's objects as frozen rows.
-/
namespace Go.Proofs.YtajjhhobfjjaeaaDoor
open Go Go.RowKit
set_option linter.unusedSimpArgs false
set_option linter.unusedVariables false
/-- A cell, and what it is when the places that z names are frozen. -/
def FzC (S : List (Option Ob)) (z : Nat → Bool) (c c' : C) : Prop := c' = c ∨ (∃ loc ob, c = .ms loc ob.es.length ∧ z loc = true ∧ S[loc]? = some (some ob) ∧ c' = .sl ob.wd ob.es) ∨ (c = .v (.slice none 0 0) ∧ ∃ wd, c' = .sl wd [])
theorem FzC.same (S : List (Option Ob)) (z : Nat → Bool) (c : C) : FzC S z c c := .inl rfl
theorem FzC.ms {S : List (Option Ob)} {z : Nat → Bool} {loc n wd : Nat} {ty : TypeId} {es : List (List C)} (hz : z loc = true) (hS : S[loc]? = some (some ⟨ty, wd, es⟩)) (hn : n = es.length) : FzC S z (.ms loc n) (.sl wd es) := .inr (.inl ⟨loc, ⟨ty, wd, es⟩, by rw [hn], hz, hS, rfl⟩)
theorem FzC.nil {S : List (Option Ob)} {z : Nat → Bool} {wd : Nat} : FzC S z (.v (.slice none 0 0)) (.sl wd []) := .inr (.inr ⟨rfl, wd, rfl⟩)
def FzCs (S : List (Option Ob)) (z : Nat → Bool) : List C → List C → Prop
  | [], [] => True
  | c :: l, d :: k => FzC S z c d ∧ FzCs S z l k
  | _, _ => False
def FzR (S : List (Option Ob)) (z : Nat → Bool) : List (List C) → List (List C) → Prop
  | [], [] => True
  | c :: l, d :: k => FzCs S z c d ∧ FzR S z l k
  | _, _ => False
def FzA (S : List (Option Ob)) (z : Nat → Bool) : A → A → Prop
  | .one c, .one d => FzC S z c d
  | .agg l, .agg k => FzCs S z l k
  | a, b => b = a
def SubZ (S : List (Option Ob)) (z : Nat → Bool) (e : List (Nat × A)) : List (Nat × A) → Prop
  | [] => True
  | (i, x) :: r => (∃ y, find e i = some y ∧ FzA S z y x) ∧ SubZ S z e r
theorem FzCs.same (S : List (Option Ob)) (z : Nat → Bool) : ∀ l : List C, FzCs S z l l
  | [] => trivial
  | c :: l => ⟨.inl rfl, FzCs.same S z l⟩
theorem FzR.same (S : List (Option Ob)) (z : Nat → Bool) : ∀ l : List (List C), FzR S z l l
  | [] => trivial
  | c :: l => ⟨FzCs.same S z c, FzR.same S z l⟩
theorem FzA.same (S : List (Option Ob)) (z : Nat → Bool) : ∀ x : A, FzA S z x x
  | .one c => .inl rfl
  | .agg l => FzCs.same S z l
  | .any => rfl
  | .tup _ => rfl
theorem FzR.of {S : List (Option Ob)} {z : Nat → Bool} : ∀ {l k : List (List C)}, l.length = k.length → (∀ (i : Nat) (a b : List C), l[i]? = some a → k[i]? = some b → FzCs S z a b) → FzR S z l k
  | [], [], _, _ => trivial
  | [], _ :: _, h, _ => by simp at h
  | _ :: _, [], h, _ => by simp at h
  | a :: l, b :: k, h, g => ⟨g 0 a b rfl rfl, FzR.of (by simpa using h) fun i a b h1 h2 => g (i + 1) a b (by simpa using h1) (by simpa using h2)⟩
theorem FzCs.len {S : List (Option Ob)} {z : Nat → Bool} : ∀ {l k : List C}, FzCs S z l k → l.length = k.length
  | [], [], _ => rfl
  | [], _ :: _, h => by simp [FzCs] at h
  | _ :: _, [], h => by simp [FzCs] at h
  | a :: l, b :: k, h => by simp only [FzCs] at h; simp [h.2.len]
theorem FzR.len {S : List (Option Ob)} {z : Nat → Bool} : ∀ {l k : List (List C)}, FzR S z l k → l.length = k.length
  | [], [], _ => rfl
  | [], _ :: _, h => by simp [FzR] at h
  | _ :: _, [], h => by simp [FzR] at h
  | a :: l, b :: k, h => by simp only [FzR] at h; simp [h.2.len]
theorem FzR.all {S : List (Option Ob)} {z : Nat → Bool} {wd : Nat} : ∀ {l k : List (List C)}, FzR S z l k → (∀ e ∈ l, e.length = wd) → ∀ e ∈ k, e.length = wd
  | [], [], _, _ => by simp
  | [], _ :: _, h, _ => by simp [FzR] at h
  | _ :: _, [], h, _ => by simp [FzR] at h
  | a :: l, b :: k, h, g => by
    simp only [FzR] at h
    intro e he
    rcases List.mem_cons.1 he with rfl | he
    · rw [← h.1.len]; exact g a (by simp)
    · exact h.2.all (fun e he => g e (by simp [he])) e he
theorem FzR.flat {S : List (Option Ob)} {z : Nat → Bool} : ∀ {l k : List (List C)}, FzR S z l k → FzCs S z l.flatten k.flatten
  | [], [], _ => trivial
  | [], _ :: _, h => by simp [FzR] at h
  | _ :: _, [], h => by simp [FzR] at h
  | a :: l, b :: k, h => by
    simp only [FzR] at h
    rw [List.flatten_cons, List.flatten_cons]
    have : ∀ {a b x y : List C}, FzCs S z a b → FzCs S z x y → FzCs S z (a ++ x) (b ++ y) := by
      intro a
      induction a with
      | nil => intro b x y h1 h2; cases b with
        | nil => exact h2
        | cons _ _ => simp [FzCs] at h1
      | cons c a ih => intro b x y h1 h2; cases b with
        | nil => simp [FzCs] at h1
        | cons d b => simp only [FzCs, List.cons_append] at h1 ⊢; exact ⟨h1.1, ih h1.2 h2⟩
    exact this h.1 h.2.flat
theorem SubZ.find {S : List (Option Ob)} {z : Nat → Bool} {e : List (Nat × A)} : ∀ {e' : List (Nat × A)} {i : Nat} {x : A}, SubZ S z e e' → Go.Proofs.YtajjhhobfjjaeaaDoor.find e' i = some x → ∃ y, Go.Proofs.YtajjhhobfjjaeaaDoor.find e i = some y ∧ FzA S z y x
  | [], i, x, _, h => by simp [Go.Proofs.YtajjhhobfjjaeaaDoor.find] at h
  | (j, y) :: r, i, x, hs, h => by
    simp only [SubZ] at hs
    simp only [Go.Proofs.YtajjhhobfjjaeaaDoor.find] at h
    split at h
    · rename_i e; subst e; cases h; exact hs.1
    · exact hs.2.find h
section
variable {H : Nat → Bool} {S S' : List (Option Ob)} {z : Nat → Bool} {m : List Lo} {w : World}
/-- What the new store is. -/
structure Frz (S S' : List (Option Ob)) (z : Nat → Bool) : Prop where
  len : S'.length = S.length
  shut : ∀ i ob, z i = true → S[i]? = some (some ob) → ∀ r ∈ ob.es, ∀ c ∈ r, C.shut c = true
  get : ∀ i b, S'[i]? = some (some b) → z i = false ∧ ∃ a, S[i]? = some (some a) ∧ a.ty = b.ty ∧ a.wd = b.wd ∧ FzR S z a.es b.es
theorem Frz.keeps (hf : Frz S S' z) : Keeps (vis H S m w) (vis H S' m w) := Keeps.only fun b hb _ => by
  simp only [Bool.and_eq_true, Bool.not_eq_true'] at hb ⊢
  refine ⟨⟨hb.1, ?_⟩, trivial⟩
  cases hc : hidB S' m b with
  | false => rfl
  | true =>
    obtain ⟨i, ob, l, h1, h2, rfl⟩ := hidB_iff.1 hc
    obtain ⟨-, a, h3, -⟩ := hf.get i ob h1
    rw [hidB_iff.2 ⟨i, a, l, h3, h2, rfl⟩] at hb; cases hb.2
theorem Frz.cell (hf : Frz S S' z) (hs : StoOk H S m w) {c c' : C} {u : Value} (h : FzC S z c c') (hc : Cc ⟨vis H S m w, m⟩ c u) : Cc ⟨vis H S' m w, m⟩ c' u := by
  rcases h with rfl | ⟨loc, ob, rfl, hz, ho, rfl⟩ | ⟨rfl, wd, rfl⟩
  · exact Cc.keep (X := ⟨vis H S m w, m⟩) (X' := ⟨vis H S' m w, m⟩) hf.keeps (Up.refl _) hc
  · simp only [Cc] at hc
    obtain ⟨-, l, hl, -, he⟩ := hc
    have hob := hs.ok loc ob l ho hl
    have he := he hob.n.symm
    obtain ⟨a1, a2, a3, a4, a5, vs, rest, a6, a7, a8⟩ := hob
    have hH := hs.nh loc ob l ho hl
    have hid : hidB S' m l.b = false := by
      cases hc : hidB S' m l.b with
      | false => rfl
      | true =>
        obtain ⟨j, oj, lj, h1, h2, h3⟩ := hidB_iff.1 hc
        obtain ⟨hzj, aj, h4, -⟩ := hf.get j oj h1
        obtain rfl := hs.uniq j loc aj ob lj l h4 ho h2 hl h3
        rw [hz] at hzj; cases hzj
    have hcells : CellsAt (vis H S' m w) l.b 0 vs := CellsAt.of fun j v hj => by
      unfold vis
      rw [only_cell, if_pos (by simp [hH, hid]), cell_of a6]
      simp only [Nat.zero_add, List.getElem?_toArray]
      rw [List.getElem?_append_left (List.getElem?_eq_some_iff.1 hj).1]; exact hj
    have h8 : Ccs ⟨vis H S' m w, []⟩ ob.es.flatten vs := a8.shut hf.keeps (fun c hc => by
      obtain ⟨e, he, hce⟩ := List.mem_flatten.1 hc
      exact hf.shut loc ob hz ho e he c hce)
    simp only [Cc]
    refine ⟨a3, .inr ⟨l.b, 0, l.cap, he, a4, a5, Crow.of (X := ⟨vis H S' m w, []⟩) a3 hcells h8⟩⟩
  · simp only [Cc] at hc ⊢
    exact ⟨by simp, .inl ⟨trivial, .inl hc.1⟩⟩
theorem Frz.cells (hf : Frz S S' z) (hs : StoOk H S m w) : ∀ {c c' : List C} {u : List Value}, FzCs S z c c' → Ccs ⟨vis H S m w, m⟩ c u → Ccs ⟨vis H S' m w, m⟩ c' u
  | [], [], u, _, hc => by simpa only [Ccs] using hc
  | [], _ :: _, u, h, _ => by simp [FzCs] at h
  | _ :: _, [], u, h, _ => by simp [FzCs] at h
  | c :: l, d :: k, us, h, hc => by
    simp only [FzCs] at h
    simp only [Ccs] at hc ⊢
    obtain ⟨u, r, e, h1, h2⟩ := hc
    exact ⟨u, r, e, hf.cell hs h.1 h1, hf.cells hs h.2 h2⟩
theorem Frz.val (hf : Frz S S' z) (hs : StoOk H S m w) {x y : A} {u : Value} (h : FzA S z x y) (hc : Ca ⟨vis H S m w, m⟩ x u) : Ca ⟨vis H S' m w, m⟩ y u := by
  unfold FzA at h
  split at h
  · simp only [Ca] at hc ⊢; exact hf.cell hs h hc
  · simp only [Ca] at hc ⊢
    obtain ⟨us, e, hc⟩ := hc
    exact ⟨us, e, hf.cells hs h hc⟩
  · subst h
    exact Ca.keep (X := ⟨vis H S m w, m⟩) (X' := ⟨vis H S' m w, m⟩) hf.keeps (Up.refl _) hc
theorem Frz.sto (hf : Frz S S' z) (hs : StoOk H S m w) : StoOk H S' m w := by
  refine ⟨by rw [hf.len]; exact hs.len, fun i ob l h1 h2 => ?_, fun i j oi oj li lj h1 h2 h3 h4 hb => ?_, fun i ob l h1 h2 => ?_, hs.hlt, fun b hb => ?_, hs.gl⟩
  · obtain ⟨hz, a, h3, e1, e2, h4⟩ := hf.get i ob h1
    obtain ⟨a1, a2, a3, a4, a5, vs, rest, a6, a7, a8⟩ := hs.ok i a l h3 h2
    refine ⟨by rw [a1, h4.len], by rw [a2, e2], by rw [← e2]; exact h4.all a3, by rw [← h4.len]; exact a4, a5, vs, rest, by rw [← e1]; exact a6, a7, hf.cells hs h4.flat a8⟩
  · obtain ⟨-, a, g1, -⟩ := hf.get i oi h1
    obtain ⟨-, b, g2, -⟩ := hf.get j oj h2
    exact hs.uniq i j a b li lj g1 g2 h3 h4 hb
  · obtain ⟨-, a, g1, -⟩ := hf.get i ob h1
    exact hs.nh i a l g1 h2
  · obtain ⟨g1, g2, g3⟩ := hs.gb b hb
    refine ⟨g1, ?_, g3⟩
    cases hc : hidB S' m b with
    | false => rfl
    | true =>
      obtain ⟨i, ob, l, h1, h2, rfl⟩ := hidB_iff.1 hc
      obtain ⟨-, a, h3, -⟩ := hf.get i ob h1
      rw [hidB_iff.2 ⟨i, a, l, h3, h2, rfl⟩] at g2; cases g2
end
theorem Le.freeze {nt : Cf} {e e' : List (Nat × A)} {S S' : List (Option Ob)} (z : Nat → Bool) (hf : Frz S S' z) (he : SubZ S z e e') : Le nt ⟨e, S⟩ ⟨e', S'⟩ := fun H w0 S0 m0 m a w h => by
  refine ⟨m, fun i x hx => ?_, h.nts, h.df, hf.sto h.sto, h.fr, fun i ob l h1 h2 => ?_, h.up, h.n0⟩
  · obtain ⟨y, h1, h2⟩ := he.find hx
    obtain ⟨u, hu, hc⟩ := h.env i y h1
    exact ⟨u, hu, hf.val h.sto h2 hc⟩
  · obtain ⟨-, b, h3, -⟩ := hf.get i ob h1
    exact h.own i b l h3 h2
/-- Arguments, as they are seen from outside. -/
def Vw (s : List (Option Ob)) (xs xs' : List A) : Prop := ∀ H m w vs, StoOk H s m w → Cas ⟨vis H s m w, m⟩ xs vs → Cas ⟨vis H [] [] w, []⟩ xs' vs
theorem Vw.view {s : List (Option Ob)} {xs ys zs : List A} {p : Prop} (hv : viewAs s xs = some (p, ys)) (hp : p) (hl : ALes ys zs) : Vw s xs zs := fun H m w vs hs hc => hl _ _ (viewAs_sound hs hv hp hc)
theorem Vw.frz2 {S S1 S2 : List (Option Ob)} {z1 z2 : Nat → Bool} {x y x' : A} (h1 : Frz S S1 z1) (h2 : Frz S1 S2 z2) (hx : FzA S z1 x y) (hy : FzA S1 z2 y x') (hsh : x'.shut = true) : Vw S [x] [x'] := fun H m w vs hs hv => by
  simp only [Cas] at hv ⊢
  obtain ⟨u, r, e, hu, hr⟩ := hv
  refine ⟨u, r, e, ?_, hr⟩
  have := h2.val (h1.sto hs) hy (h1.val hs hx hu)
  exact Ca.keep (X := ⟨vis H S2 m w, []⟩) (X' := ⟨vis H [] [] w, []⟩) (vis_sub _ _ _ _) (Up.refl _) (Ca.shut hsh this)
/-- A call of one whose answer is new memory, with arguments that are seen from outside. -/
theorem CallA.madeV {P : Program} {nt : Cf} {st : St} {fo : Operand} {args : List Operand} {f : FuncId} {caps : List C} {xs xs' : List A} {K : A → Prop} {r : A} (hf : rdA st.e fo = some (.one (.fn f caps))) (ha : rdAs st.e args = some xs) (hc : callable P f = true)
    (hv : Vw st.s (xs ++ caps.map .one) xs') (hfn : Made P f xs' r) (hK : K r) : CallA P nt fo args st K := by
  refine ⟨f, caps, xs, hf, ha, hc, fun H w0 S0 m0 m a w hs vs hvs => ?_⟩
  refine (hfn w vs hs.sto.gl (Cas.keep (X := ⟨vis H [] [] w, []⟩) (X' := ⟨w, []⟩) (vis_keeps _ _ _ _) (Up.refl _) (hv H m w vs hs.sto hvs))).mono fun e w' ⟨v, he, hx, hr⟩ => ⟨v, r, he, hK, hx.fr _, ?_⟩
  refine Ca.keep (X := ⟨since w' w.heap.size, []⟩) (X' := ⟨vis H st.s m w', m⟩) (Keeps.only fun b hp hb => ?_) (fun i l h => by simp at h) hr
  simp only [decide_eq_true_eq] at hp
  refine ⟨?_, rfl⟩
  cases hH : H b with
  | true => have := hs.sto.hlt b hH; omega
  | false =>
    cases hB : hidB st.s m b with
    | true => have := hs.sto.hid_lt hB; omega
    | false => rfl
/-- A call of one that writes nothing and answers something flat, with arguments that are seen from outside. -/
theorem lendV_calls {P : Program} {f : FuncId} {xs xs' : List A} {r : A} {H : Nat → Bool} {s : List (Option Ob)} {m : List Lo} {w : World} (hv : Vw s xs xs') (hfl : r.flat = true) (hfn : Pure P f xs' r) (hs : StoOk H s m w) (vs : List Value) (hvs : Cas ⟨vis H s m w, m⟩ xs vs) :
    Calls P f vs.toArray w fun e w' => ∃ v, e = .returned v ∧ Fr (fun _ => false) w w' ∧ Ca ⟨vis H s m w', m⟩ r v := by
  have h0 : StoOk H [] [] w := ⟨rfl, by simp, by simp, by simp, hs.hlt, fun b hb => ⟨(hs.gb b hb).1, rfl, (hs.gb b hb).2.2⟩, hs.gl⟩
  refine (hfn _ [] w vs h0 (hv H m w vs hs hvs)).mono fun e w' ⟨v, m', r', s', he, ⟨hr1, hr2⟩, hso, hca, hfr, _, _⟩ => ?_
  subst hr1 hr2
  exact ⟨v, he, ⟨hfr.os, hfr.tape, hfr.output, hfr.size, fun b hb _ => hfr.block b hb rfl⟩, hca.flat hfl⟩
theorem CallA.lendV {P : Program} {nt : Cf} {st : St} {fo : Operand} {args : List Operand} {f : FuncId} {caps : List C} {xs xs' : List A} {K : A → Prop} {r : A} (hf : rdA st.e fo = some (.one (.fn f caps))) (ha : rdAs st.e args = some xs) (hc : callable P f = true)
    (hv : Vw st.s (xs ++ caps.map .one) xs') (hfl : r.flat = true) (hfn : Pure P f xs' r) (hK : K r) : CallA P nt fo args st K :=
  ⟨f, caps, xs, hf, ha, hc, fun H w0 S0 m0 m a w hs vs hvs => (lendV_calls hv hfl hfn hs.sto vs hvs).mono fun e w' ⟨v, he, h1, h2⟩ => ⟨v, r, he, hK, h1, h2⟩⟩
theorem OpS.lendV {P : Program} {nt : Cf} {ds : List (Option Tmp)} {e : List (Nat × A)} {s : List (Option Ob)} {d : Option Tmp} {ty : TypeId} {pos : String} {aft : Array Edge} {g : Option (Nat × Bool)} {fo : Operand} {args : List Operand} {tys : Array TypeId} {f : FuncId} {caps : List C} {xs xs' : List A} {r : A} (hg : guardA ds e g = some true) (hf : rdA e fo = some (.one (.fn f caps))) (ha : rdAs e args = some xs) (hc : callable P f = true)
    (hv : Vw s (xs ++ caps.map .one) xs') (hfl : r.flat = true) (hfn : Pure P f xs' r) : OpS P nt ds ⟨d, .call { callee := .value fo, args := args.toArray, argTypes := tys }, ty, pos, aft, g⟩ e s r s :=
  OpS.call hg hf ha hc fun H w0 S0 m0 mm a w hs vs hvs => lendV_calls hv hfl hfn hs.sto vs hvs
theorem OpS.lendW {P : Program} {nt : Cf} {ds : List (Option Tmp)} {e : List (Nat × A)} {s s' : List (Option Ob)} {d : Option Tmp} {ty : TypeId} {pos : String} {aft : Array Edge} {g : Option (Nat × Bool)} {fo : Operand} {args : List Operand} {tys : Array TypeId} {f : FuncId} {caps : List C} {xs xs' : List A} {r : A} (hg : guardA ds e g = some true) (hf : rdA e fo = some (.one (.fn f caps))) (ha : rdAs e args = some xs) (hc : callable P f = true)
    (hv : Vw s (xs ++ caps.map .one) xs') (hfl : r.flat = true) (hfn : Pure P f xs' r) (he : s' = s) : OpS P nt ds ⟨d, .call { callee := .value fo, args := args.toArray, argTypes := tys }, ty, pos, aft, g⟩ e s r s' := by
  subst he; exact OpS.lendV hg hf ha hc hv hfl hfn
/-- Fewer slots. -/
theorem Le.sub {nt : Cf} {e e' : List (Nat × A)} {s : List (Option Ob)} (he : Sub e e') : Le nt ⟨e, s⟩ ⟨e', s⟩ := fun H w0 S0 m0 m a w h => ⟨m, fun i x hx => h.env i x (he.find hx), h.nts, h.df, h.sto, h.fr, h.own, h.up, h.n0⟩
/-- What stands at the end of a function that answers with objects: the answer first, then what is left of the store. -/
def EndT (P : Program) (nt : Cf) (rs : List ResultVar) (R : A → List (Option Ob) → Prop) : Exit → St → Prop := fun e st => (e = .ret ∨ e = .normal) ∧ ∃ q l r s', resA P st.s st.e rs = some (q, l) ∧ q ∧ Le ⟨1, nt.n0⟩ ⟨[(0, tupA l)], st.s⟩ ⟨[(0, r)], s'⟩ ∧ R r s'
theorem Fn.introT {P : Program} {f : FuncId} {fn : Func} {c : Code} {args : List A} {s : List (Option Ob)} {R : A → List (Option Ob) → Prop} {nt : Nat} {rs : List ResultVar} (hf : P.funcs[f]? = some fn) (hb : fn.body = some c) (hnt : fn.ntmps = nt) (hrs : fn.results = rs.toArray) (hn : args.length ≤ nt) (h : WpA P ⟨nt, s.length⟩ c (EndT P ⟨nt, s.length⟩ rs R) ⟨args0 0 args, s⟩) :
    Fn P f args s R := by
  subst hnt
  intro H m w vs hs hv
  refine calls_of_wp hf hb ?_
  have hl := hv.len
  have hsim : Sim H w (hidB s m) m ⟨fn.ntmps, s.length⟩ ⟨args0 0 args, s⟩ m { tmps := vs.toArray ++ Array.replicate (fn.ntmps - vs.toArray.size) undef, defers := [] } w := by
    refine ⟨fun i x hx => ?_, by simp; omega, rfl, hs, Fr.refl _ _, fun i ob l h1 h2 => .inl (hidB_iff.2 ⟨i, ob, l, h1, h2, rfl⟩), Up.refl _, hs.len.symm⟩
    obtain ⟨-, h2⟩ := find_args0 args 0 i x hx
    obtain ⟨u, hu, hc⟩ := hv.at h2
    refine ⟨u, ?_, hc⟩
    simp only [Nat.sub_zero] at hu
    rw [Array.getElem?_append_left (by simpa using (List.getElem?_eq_some_iff.1 hu).1)]
    simpa using hu
  refine wp_mono (h H w _ m m _ w hsim) fun e a' w' ⟨st1, m1, ⟨he, q, l, r, s', hr, hq, hle, hR⟩, hs1⟩ => ?_
  obtain ⟨u, hu, hc⟩ := hs1.results (P := P) (fn := fn) (by rw [hrs]; exact hr) hq
  obtain ⟨m', hs'⟩ := hle H w (hidB s m) m m1 { tmps := #[u], defers := [] } w' ⟨fun i x hx => (by
    simp only [find] at hx
    split at hx
    · rename_i e; subst e; cases hx; exact ⟨u, rfl, hc⟩
    · cases hx), rfl, rfl, hs1.sto, hs1.fr, hs1.own, hs1.up, hs1.n0⟩
  obtain ⟨u', hu', hc'⟩ := hs'.env 0 r (by simp [find])
  obtain rfl : u' = u := by simpa using hu'.symm
  have hfin : ∃ v m' r s', Ending.returned u' = .returned v ∧ R r s' ∧ StoOk H s' m' w' ∧ Ca ⟨vis H s' m' w', m'⟩ r v ∧ Fr (hidB s m) w w' ∧ Up m m' ∧ ∀ (i : Nat) (ob : Ob) (l : Lo), s'[i]? = some (some ob) → m'[i]? = some l → hidB s m l.b = true ∨ w.heap.size ≤ l.b :=
    ⟨u', m', r, s', rfl, hR, hs'.sto, hc', hs'.fr, hs'.up, hs'.own⟩
  rcases he with rfl | rfl <;> exact ⟨hs1.df, u', hu, hfin⟩
end Go.Proofs.YtajjhhobfjjaeaaDoor
end

section
/-
  A region that draws its order, with effects one behind the other: appends, slices that are built, calls that answer with objects. No program in sight.
-/
namespace Go.Proofs.YtajjhhobfjjaeaaDoor
open Go Go.RowKit
set_option linter.unusedSimpArgs false
set_option linter.unusedVariables false
/-- What is the same in both. -/
def SLe (c s : List (Option Ob)) : Prop := ∀ (i : Nat) (ob : Ob), c[i]? = some (some ob) → s[i]? = some (some ob)
section
variable {P : Program} {c s : List (Option Ob)} {ρ : Operand → Option A}
theorem live_mono (h : SLe c s) {x : C} {p : Prop} (hx : liveB c x = some p) : liveB s x = some p := by
  cases x with
  | ptr loc k i off =>
    simp only [liveB] at hx ⊢
    split at hx
    · rename_i ob ho; rw [h _ _ ho]; exact hx
    · cases hx
  | _ => exact hx
theorem load_mono (h : SLe c s) {t : TypeId} {x : C} {r : Prop × A} (hx : loadA P c t x = some r) : loadA P s t x = some r := by
  unfold loadA at hx ⊢
  cases ht : tyI P t with
  | none => rw [ht] at hx; cases hx
  | some bn =>
    rw [ht] at hx
    cases x with
    | ptr loc k i off =>
      simp only at hx ⊢
      split at hx
      · rename_i ob ho; rw [h _ _ ho]; exact hx
      · cases hx
    | _ => exact hx
theorem index_mono (h : SLe c s) {sz : Nat} {n : Int} {x : C} {r : Prop × C} (hx : indexA c x sz n = some r) : indexA s x sz n = some r := by
  cases x with
  | ms loc k =>
    simp only [indexA] at hx ⊢
    split at hx
    · rename_i ob ho; rw [h _ _ ho]; exact hx
    · cases hx
  | _ => exact hx
theorem len_mono (h : SLe c s) {e : Bool} {x : C} {r : Prop × Int} (hx : lenB c e x = some r) : lenB s e x = some r := by
  unfold lenB at hx ⊢
  split at hx
  · exact hx
  · exact hx
  · exact hx
  · split at hx
    · rename_i ob ho; rw [h _ _ ho]; exact hx
    · cases hx
  · cases hx
theorem qop_mono (h : SLe c s) {op : Op} {r : Prop × A} (hx : qop P c ρ op = some r) : qop P s ρ op = some r := by
  cases op with
  | load t x =>
    simp only [qop] at hx ⊢
    split at hx
    · exact load_mono h hx
    · cases hx
  | nilCheck x =>
    simp only [qop] at hx ⊢
    split at hx
    · split at hx
      · rename_i p hp; simp only [live_mono h hp]; exact hx
      · cases hx
    · cases hx
  | fieldAddr t x f =>
    simp only [qop] at hx ⊢
    split at hx
    · rename_i c1 h1
      split at hx
      · rename_i o ft h2
        split at hx
        · rename_i p c' h3
          cases c1 with
          | ptr loc k i off =>
            simp only at hx
            split at hx
            · rename_i ob ho; simp only [h3, h _ _ ho]; exact hx
            · cases hx
          | _ => simp only [h3]; exact hx
        · cases hx
      · cases hx
    · cases hx
  | indexAddr t x y =>
    simp only [qop] at hx ⊢
    split at hx
    · split at hx
      · split at hx
        · split at hx
          · rename_i p c' h4; simp only [index_mono h h4]; exact hx
          · cases hx
        · cases hx
      · cases hx
    · cases hx
  | binOp o t x y z =>
    simp only [qop] at hx ⊢
    split at hx
    · exact hx
    · split at hx
      · split at hx
        · split at hx
          · rename_i hp; simp only [live_mono h hp]; exact hx
          · cases hx
        · cases hx
      · cases hx
    · cases hx
  | call cl =>
    simp only [qop] at hx ⊢
    split at hx
    · split at hx
      · split at hx
        · split at hx
          · split at hx
            · rename_i hp; simp only [len_mono h hp]; exact hx
            · cases hx
          · cases hx
        · cases hx
      · cases hx
    · exact hx
    · exact hx
    · exact hx
  | _ => exact hx
end
theorem SLe.nil (s : List (Option Ob)) : SLe [] s := fun i ob h => by simp at h
theorem SLe.refl (s : List (Option Ob)) : SLe s s := fun _ _ h => h
theorem SLe.app (s t : List (Option Ob)) : SLe s (s ++ t) := fun i ob h => by rw [List.getElem?_append_left (List.getElem?_eq_some_iff.1 h).1]; exact h
theorem SLe.none {c s : List (Option Ob)} {o : Option Ob} (h : SLe c s) : SLe (Option.none :: c) (o :: s) := fun i ob hi => by
  cases i with
  | zero => simp at hi
  | succ i => simpa using h i ob (by simpa using hi)
theorem SLe.same {c s : List (Option Ob)} {o : Option Ob} (h : SLe c s) : SLe (o :: c) (o :: s) := fun i ob hi => by
  cases i with
  | zero => simpa using hi
  | succ i => simpa using h i ob (by simpa using hi)
section
variable {P : Program} {nt : Cf} {ds : List (Option Tmp)} {E : List Nat} {ss : List (List (Option Ob))} {c : List (Option Ob)} {K : List (Nat × A) → Prop} {i : Nat} {e : List (Nat × A)}
/-- With effects, one behind the other; what is quiet looks at what stays. -/
def Draw1 (P : Program) (nt : Cf) (ds : List (Option Tmp)) (c : List (Option Ob)) (E : List Nat) (ss : List (List (Option Ob))) (K : List (Nat × A) → Prop) (i : Nat) (e : List (Nat × A)) (l : List Oper) : Prop := E.Nodup → (∀ s ∈ ss, SLe c s) ∧ DrawE P nt ds E ss K i e l
theorem Draw1.step {o : Oper} {l : List Oper} {x : A} (hi : E.contains i = false) (h : ∀ s, SLe c s → OpS P nt ds o e s x s) (hr : Draw1 P nt ds c E ss K (i + 1) (putE e o.dst x) l) : Draw1 P nt ds c E ss K i e (o :: l) := fun hn =>
  have hi' : i ∉ E := by simpa using hi
  ⟨(hr hn).1, x, ⟨fun q hq => absurd (List.mem_of_getElem? hq) hi', fun _ s hs => h s ((hr hn).1 s hs)⟩, (hr hn).2⟩
/-- None of the effects is among these. -/
def offE (E : List Nat) (i j : Nat) : Bool := E.all fun k => decide (k < i) || decide (j ≤ k)
theorem offE_at {i j : Nat} (h : offE E i j = true) (hij : i < j) : E.contains i = false := by
  simp only [offE, List.all_eq_true, Bool.or_eq_true, decide_eq_true_eq] at h
  cases hc : E.contains i with
  | false => rfl
  | true => have := h i (by simpa using hc); omega
theorem runQ_len : ∀ {l : List Oper} {e : List (Nat × A)} {p : Prop} {l' : List Oper} {e' : List (Nat × A)}, runQ P ds c l e = (p, l', e') → l'.length ≤ l.length
  | [], e, p, l', e', h => by simp only [runQ, Prod.mk.injEq] at h; obtain ⟨-, rfl, -⟩ := h; simp
  | o :: rest, e, p, l', e', h => by
    simp only [runQ] at h
    split at h
    · split at h
      · generalize hrun : runQ P ds c rest _ = rr at h
        obtain ⟨q2, l2, e2⟩ := rr
        simp only [Prod.mk.injEq] at h
        obtain ⟨-, rfl, -⟩ := h
        have := runQ_len hrun
        simp; omega
      · simp only [Prod.mk.injEq] at h; obtain ⟨-, rfl, -⟩ := h; simp
    · have := runQ_len h; simp; omega
    · simp only [Prod.mk.injEq] at h; obtain ⟨-, rfl, -⟩ := h; simp
theorem Draw1.run : ∀ {l : List Oper} {e : List (Nat × A)} {p : Prop} {l' : List Oper} {e' : List (Nat × A)} {i : Nat}, runQ P ds c l e = (p, l', e') → p → offE E i (i + (l.length - l'.length)) = true → Draw1 P nt ds c E ss K (i + (l.length - l'.length)) e' l' → Draw1 P nt ds c E ss K i e l
  | [], e, p, l', e', i, h, hp, ho, hr => by
    simp only [runQ, Prod.mk.injEq] at h
    obtain ⟨-, rfl, rfl⟩ := h
    simpa using hr
  | o :: rest, e, p, l', e', i, h, hp, ho, hr => by
    obtain ⟨d, op, ty, pos, aft, g⟩ := o
    simp only [runQ] at h
    have tail : ∀ {n : Nat}, n ≤ rest.length → offE E i (i + (rest.length + 1 - n)) = true → offE E (i + 1) (i + 1 + (rest.length - n)) = true ∧ E.contains i = false := fun {n} hn h => by
      refine ⟨?_, offE_at h (by omega)⟩
      simp only [offE, List.all_eq_true, Bool.or_eq_true, decide_eq_true_eq] at h ⊢
      intro k hk
      have := h k hk
      omega
    split at h
    · rename_i hg
      split at h
      · rename_i q x hq
        generalize hrun : runQ P ds c rest _ = rr at h
        obtain ⟨q2, l2, e2⟩ := rr
        simp only [Prod.mk.injEq] at h
        obtain ⟨rfl, rfl, rfl⟩ := h
        have hle := runQ_len hrun
        simp only [List.length_cons] at ho hr
        obtain ⟨h1, h2⟩ := tail hle ho
        refine Draw1.step h2 (fun s hs => OpS.quiet hg (qop_mono hs hq) hp.1) (Draw1.run hrun hp.2 h1 ?_)
        rw [show i + 1 + (rest.length - l2.length) = i + (rest.length + 1 - l2.length) by omega]
        exact hr
      · simp only [Prod.mk.injEq] at h
        obtain ⟨-, rfl, rfl⟩ := h
        simpa using hr
    · rename_i hg
      have hle := runQ_len h
      simp only [List.length_cons] at ho hr
      obtain ⟨h1, h2⟩ := tail hle ho
      refine Draw1.step h2 (fun s hs => OpS.pass hg) (Draw1.run h hp h1 ?_)
      rw [show i + 1 + (rest.length - l'.length) = i + (rest.length + 1 - l'.length) by omega]
      exact hr
    · simp only [Prod.mk.injEq] at h
      obtain ⟨-, rfl, rfl⟩ := h
      simpa using hr
theorem Draw1.go {l : List Oper} (h : ∀ K' : List Oper → List (Nat × A) → Prop, (∀ l' e', offE E i (i + (l.length - l'.length)) = true → Draw1 P nt ds c E ss K (i + (l.length - l'.length)) e' l' → K' l' e') → RunQ (runQ P ds c l e) K') : Draw1 P nt ds c E ss K i e l := by
  have := h (fun l' e' => offE E i (i + (l.length - l'.length)) = true ∧ Draw1 P nt ds c E ss K (i + (l.length - l'.length)) e' l') (fun _ _ h k => ⟨h, k⟩)
  exact Draw1.run rfl this.1 this.2.1 this.2.2
theorem Draw1.nil (hc : ∀ s ∈ ss, SLe c s) (h : K e) : Draw1 P nt ds c E ss K i e [] := fun _ => ⟨hc, h⟩
/-- An effect, at its place. -/
theorem Draw1.eff {o : Oper} {l : List Oper} {x : A} {s s' : List (Option Ob)} (q : Nat) (hE : E[q]? = some i) (hs : ss[q]? = some s) (hs' : ss[q + 1]? = some s') (h : OpS P nt ds o e s x s') (hr : Draw1 P nt ds c E ss K (i + 1) (putE e o.dst x) l) : Draw1 P nt ds c E ss K i e (o :: l) := fun hn => by
  refine ⟨(hr hn).1, x, ⟨fun q' hq => ?_, fun hi => absurd (List.mem_of_getElem? hE) hi⟩, (hr hn).2⟩
  obtain rfl : q' = q := (List.getElem?_inj (List.getElem?_eq_some_iff.1 hq).1 hn).1 (hq.trans hE.symm)
  exact ⟨s, s', hs, hs', h⟩
theorem WpA.draw1 {Q : Exit → St → Prop} {st : St} {id : Nat} {l : List Oper} (n : Nat) (E : List Nat) (c : List (Option Ob)) (ss : List (List (Option Ob))) (ds : List (Option Tmp)) (l1 l2 : List Oper) (last : List (Option Ob)) (hds : l.map (·.dst) = ds) (h1 : l.take n = l1) (h2 : l.drop n = l2) (hm : P.follows .mixedOrders = true) (hB : phiB l.toArray n nt.nt = true) (hT : tailB l.toArray n = true) (hE : chE l.toArray E = true)
    (hEn : (E.all fun i => decide (i < n)) = true) (hss : ss.length = E.length + 1) (h0 : ss[0]? = some st.s) (hlast : ss[E.length]? = some last) (hN : E.Nodup)
    (h : ∀ K : List (Nat × A) → Prop, (∀ e, WpL P nt l.toArray (Q .normal) l2 ⟨e, last⟩ → K e) → Draw1 P nt ds c E ss K 0 st.e l1) : WpA P nt (.region id l.toArray true) Q st := by
  subst h1 h2
  exact WpA.drawE n E ss hds hm hB hT hE hEn hss h0 fun K hK => h K (fun e he => hK e fun s hs => by rw [hlast] at hs; cases hs; exact he) hN |>.2
variable {d : Option Tmp} {op : Op} {ty : TypeId} {pos : String} {aft : Array Edge} {g : Option (Nat × Bool)} {s : List (Option Ob)}
/-- An operation that makes or writes an object. -/
theorem OpS.eff {x : A} {p : Prop} {s' : List (Option Ob)} (e' : List (Nat × A)) (hg : guardA ds e g = some true) (he : (e'.all fun t => decide (t.1 < nt.nt) && (looks ds op.operands.toList g).contains t.1) = true) (hf : Sub e e') (hq : aop P ⟨e', s⟩ op = some (p, x, ⟨e', s'⟩)) (hp : p) : OpS P nt ds ⟨d, op, ty, pos, aft, g⟩ e s x s' := fun H w0 S0 m0 mm a w hs hk => by
  rw [guardD hk hg, if_pos rfl]
  have hkey : ∀ {l : List (Nat × A)} {t : Nat} {y : A}, find l t = some y → ∃ z ∈ l, z.1 = t := by
    intro l
    induction l with
    | nil => intro t y h; simp [find] at h
    | cons z l ih =>
      obtain ⟨j, x⟩ := z
      intro t y h
      simp only [find] at h
      split at h
      · rename_i e; exact ⟨(j, x), by simp, e.symm⟩
      · obtain ⟨z, hz, e⟩ := ih h; exact ⟨z, by simp [hz], e⟩
  have hs2 : Sim H w0 S0 m0 nt ⟨e', s⟩ mm a w := by
    refine ⟨fun t y hy => ?_, hs.nts, hs.df, hs.sto, hs.fr, hs.own, hs.up, hs.n0⟩
    obtain ⟨z, hz, e1⟩ := hkey hy
    have h1 := List.all_eq_true.1 he z hz
    simp only [Bool.and_eq_true, decide_eq_true_eq, List.contains_iff_mem, e1] at h1
    have h2 := hk t h1.2 y (hf.find hy)
    have hlt : t < a.tmps.size := by rw [hs.nts]; exact h1.1
    refine ⟨a.tmps[t], Array.getElem?_eq_getElem hlt, ?_⟩
    have : a.eval (.tmp t) = a.tmps[t] := by simp [Act.eval, Array.getElem?_eq_getElem hlt, hlt]
    rw [← this]; exact h2
  obtain ⟨u, w', m', hr, h1, h2, h3⟩ := aop_sound (ty := ty) (nt := nt) hq hp H w0 S0 m0 mm a w hs2
  have h1' : Sim H w0 S0 m0 nt ⟨[], s'⟩ m' a w' := ⟨fun t y hy => by simp [find] at hy, h1.nts, h1.df, h1.sto, h1.fr, h1.own, h1.up, h1.n0⟩
  unfold OpTo
  rw [exec_same]
  rcases hr with hr | ⟨hr, rfl⟩
  · rw [hr]; exact ⟨m', h1', h2, h3⟩
  · rw [hr]; exact ⟨m', h1', h2, h3⟩
/-- A call that is handed objects, or answers with them. -/
theorem OpS.hand {fo : Operand} {args : List Operand} {tys : Array TypeId} {f : FuncId} {caps : List C} {xs xs' : List A} {s1 s2 : List (Option Ob)} {ρ : List Nat} {r : A} (hg : guardA ds e g = some true) (hf : rdA e fo = some (.one (.fn f caps))) (ha : rdAs e args = some xs) (hc : callable P f = true)
    (hx : xs ++ caps.map .one = A.rens (rn ρ s.length) xs') (hh : Handed s ρ s1) (hfn : Fn P f xs' s1 fun x s => x = r ∧ s = s2) :
    OpS P nt ds ⟨d, .call { callee := .value fo, args := args.toArray, argTypes := tys }, ty, pos, aft, g⟩ e s (r.ren (rn ρ s.length)) (back s ρ s2) := fun H w0 S0 m0 mm a w hs hk => by
  rw [guardD hk hg, if_pos rfl]
  have hrd : ∀ o ∈ fo :: args, ∀ y, rdA e o = some y → Ca ⟨vis H s mm w, mm⟩ y (a.eval o) := fun o ho y hy => know_rd hk (by simp [Op.operands, Call.operands]; rcases List.mem_cons.1 ho with h | h; exact .inl h; exact .inr h) hy
  have h1 := hrd fo (by simp) _ hf
  simp only [Ca, Cc] at h1
  obtain ⟨us, ef, hu⟩ := h1
  have hv := (know_rds hrd (fun o ho => by simp [ho]) ha).append (Cas.ones hu)
  have hrun : (execOp a.eval ⟨none, .call { callee := .value fo, args := args.toArray, argTypes := tys }, ty, "", #[], none⟩).run P w = .ok (.enter f (args.map a.eval ++ us).toArray) w := by
    simp only [execOp, resolve, ef, Deferred.ofValue, Sem.run_bind, Sem.run_pure, Result.andThen_ok, invoke, List.map_toArray]
    have : ((#[] : Array Value) ++ (args.map a.eval).toArray ++ us.toArray) = (args.map a.eval ++ us).toArray := by simp
    rw [this, run_callFunc hc]
  unfold OpTo
  rw [exec_same, hrun]
  have hl := hs.sto.len
  simp only at hl
  rw [hx] at hv
  have hv' := (Cas.ren (m := pick mm ρ) (fun i => by rw [hl]; exact pick_at (by rw [← hl]; exact hh.lt) i) _ _).1 hv
  have e9 := Handed.vis (H := H) (w := w) (st := ⟨[], s⟩) hh hl
  simp only at e9
  rw [← e9] at hv'
  refine (hfn _ (pick mm ρ) w _ (hh.sto hs.sto) hv').mono fun e' w' ⟨v, m', r', s', he, ⟨hR1, hR2⟩, hso, hca, hfr, hup, hnew⟩ => ?_
  subst he hR1 hR2
  obtain ⟨hsim, hgo, hval⟩ := hs.back hh hso hfr hup hnew
  exact ⟨v, rfl, _, hsim, hgo, hval _ v hca⟩
end
end Go.Proofs.YtajjhhobfjjaeaaDoor
end
