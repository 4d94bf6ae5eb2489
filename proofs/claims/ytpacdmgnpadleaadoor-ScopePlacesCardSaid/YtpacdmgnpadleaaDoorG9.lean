/-
  Laid together: Ren19, Copied, Turn, LawPlaces.
-/
import Derived.Test.YtpacdmgnpadleaaDoorG8
import Derived.Test.YtpacdmgnpadleaaDoorG5
import Derived.Test.YtpacdmgnpadleaaDoorG4
import Derived.Test.YtpacdmgnpadleaaDoorG7
import Derived.Test.YtpacdmgnpadleaaDoorCopy2
import Derived.Test.YtpacdmgnpadleaaDoorG3

section
/-
  Expressions with other names for their variables, and their code: with other global names, the same. No program in sight.
-/
namespace Go.Proofs.YtpacdmgnpadleaaDoor
open Go Go.RowKit Go.Lib
set_option linter.unusedSimpArgs false
set_option linter.unusedVariables false
/-- A name with some letters behind it; none stays none. -/
noncomputable def nmBy (by_ s : ByteArray) : ByteArray := if s = ⟨#[]⟩ then s else s ++ by_
theorem bytes_nil {a : ByteArray} : a = ⟨#[]⟩ ↔ a.size = 0 := by
  constructor
  · rintro rfl; rfl
  · intro h
    obtain ⟨d⟩ := a
    have : d.size = 0 := h
    rw [Array.size_eq_zero_iff] at this
    rw [this]
theorem bytes_app_size (a b : ByteArray) : (a ++ b).size = a.size + b.size := by simp
theorem bytes_app_right {a b c : ByteArray} (h : a ++ c = b ++ c) : a = b := by
  have h1 := congrArg (fun x : ByteArray => x.data.toList) h
  simp only [ByteArray.data_append, Array.toList_append] at h1
  have h2 := List.append_cancel_right h1
  obtain ⟨a⟩ := a
  obtain ⟨b⟩ := b
  congr 1
  exact Array.toList_inj.1 h2
theorem nmBy_nil (b s : ByteArray) : nmBy b s = ⟨#[]⟩ ↔ s = ⟨#[]⟩ := by
  unfold nmBy
  split
  · rfl
  · rename_i h
    rw [bytes_nil, bytes_app_size]
    rw [bytes_nil] at h ⊢
    omega
theorem nmBy_inj {b s t : ByteArray} (h : nmBy b s = nmBy b t) : s = t := by
  by_cases hs : s = ⟨#[]⟩
  · have h1 : nmBy b s = ⟨#[]⟩ := (nmBy_nil b s).2 hs
    rw [h] at h1
    rw [hs, (nmBy_nil b t).1 h1]
  · by_cases ht : t = ⟨#[]⟩
    · have h1 : nmBy b t = ⟨#[]⟩ := (nmBy_nil b t).2 ht
      rw [← h] at h1
      rw [ht, (nmBy_nil b s).1 h1]
    · unfold nmBy at h
      rw [if_neg hs, if_neg ht] at h
      exact bytes_app_right h
theorem nmBy_eqB (b s t : ByteArray) : eqB (nmBy b s) (nmBy b t) = eqB s t := by
  by_cases h : s = t
  · rw [h, eqB_pos rfl, eqB_pos rfl]
  · rw [eqB_neg h, eqB_neg fun e => h (nmBy_inj e)]
mutual
noncomputable def K.ren (b : ByteArray) : K → K
  | .mk k name rest params d l => .mk k (if k = 10 then name else nmBy b name) (nmBy b rest) (params.map (nmBy b)) d (K.rens b l)
noncomputable def K.rens (b : ByteArray) : List K → List K
  | [] => []
  | c :: l => c.ren b :: K.rens b l
end
theorem K.rens_map (b : ByteArray) : ∀ l : List K, K.rens b l = l.map (K.ren b)
  | [] => rfl
  | c :: l => by rw [K.rens, List.map_cons, K.rens_map b l]
theorem K.ren_eq (b : ByteArray) (x : K) : x.ren b = .mk x.k (if x.k = 10 then x.name else nmBy b x.name) (nmBy b x.rest) (x.params.map (nmBy b)) x.d (x.l.map (K.ren b)) := by
  cases x; rw [K.ren, K.rens_map]; rfl
theorem allN_ren (b : ByteArray) (x : K) : allN (x.ren b) = (allN x).map (nmBy b) := by
  obtain ⟨k, name, rest, params, d, l⟩ := x
  have hn := nmBy_nil b rest
  rw [K.ren]
  by_cases h : rest = ⟨#[]⟩
  · have h' := hn.2 h
    subst h
    simp [allN, K.rest, K.params, h']
  · have h' : ¬ nmBy b rest = ⟨#[]⟩ := fun e => h (hn.1 e)
    simp [allN, K.rest, K.params, h, h']
theorem varsOk_ren (b : ByteArray) (l : List ByteArray) : VarsOk (l.map (nmBy b)) ↔ VarsOk l := by
  unfold VarsOk
  rw [List.length_map]
  refine and_congr Iff.rfl (and_congr (not_congr ?_) ?_)
  · rw [List.mem_map]
    constructor
    · rintro ⟨s, hs, h⟩; rw [(nmBy_nil b s).1 h] at hs; exact hs
    · intro h; exact ⟨_, h, (nmBy_nil b _).2 rfl⟩
  · unfold List.Nodup
    rw [List.pairwise_map]
    exact ⟨fun h => h.imp fun hne e => hne (by rw [e]), fun h => h.imp fun hne e => hne (nmBy_inj e)⟩
theorem propB_congr {p q : Prop} (h : p ↔ q) : propB p = propB q := by rw [show p = q from propext h]
theorem ifName (b : ByteArray) (k : Int) (name : ByteArray) : ((if k = 10 then name else nmBy b name) = ⟨#[]⟩) ↔ name = ⟨#[]⟩ := by
  split
  · rfl
  · exact nmBy_nil b _
theorem map_nil_iff {α β : Type} (f : α → β) (l : List α) : l.map f = [] ↔ l = [] := by cases l <;> simp
theorem bare_ren (b : ByteArray) (x : K) : x.ren b = (x.ren b).bare ↔ x = x.bare := by
  obtain ⟨k, name, rest, params, d, l⟩ := x
  have h1 := ifName b k name
  have h2 := nmBy_nil b rest
  have h3 := map_nil_iff (nmBy b) params
  rw [K.ren]
  simp only [K.bare, K.k, K.name, K.rest, K.params, K.d, K.l, K.mk.injEq, true_and, and_true]
  refine and_congr ?_ (and_congr ?_ (and_congr ?_ Iff.rfl))
  · by_cases q : k = 2 ∨ k = 3 ∨ k = 4 ∨ k = 10
    · simp only [q, if_true]
    · simp only [q, if_false]; exact h1
  · by_cases q : k = 6
    · simp only [q, if_true]
    · simp only [q, if_false]; exact h2
  · by_cases q : k = 6
    · simp only [q, if_true]
    · simp only [q, if_false]; exact h3
theorem eqB_congr {α β : Type} {a b : α} {c d : β} (h : a = b ↔ c = d) : eqB a b = eqB c d := by
  by_cases q : a = b
  · rw [eqB_pos q, eqB_pos (h.1 q)]
  · rw [eqB_neg q, eqB_neg fun e => q (h.2 e)]
theorem cntB_ren (b : ByteArray) (x : K) : cntB (x.ren b) = cntB x := by
  obtain ⟨k, name, rest, params, d, l⟩ := x
  rw [K.ren]; simp only [cntB, K.k, K.l, K.rens_map, List.length_map]; rfl
mutual
theorem may_ren (b : ByteArray) : ∀ (x : K) (t : Bool), (x.ren b).may t = x.may t
  | .mk k name rest params d l, t => by
    have h1 := cntB_ren b (.mk k name rest params d l)
    have h2 := eqB_congr (bare_ren b (.mk k name rest params d l))
    have h3 := allN_ren b (.mk k name rest params d l)
    have h4 := propB_congr (varsOk_ren b (allN (.mk k name rest params d l)))
    have h5 := eqB_congr (ifName b k name)
    have h6 := mays_ren b l (t && decide (k = 7))
    rw [K.ren] at h1 h2 h3 ⊢
    rw [K.may, K.may, h1, h2, h3, h4, h6]
    rw [h5]
theorem mays_ren (b : ByteArray) : ∀ (l : List K) (t : Bool), K.mays (K.rens b l) t = K.mays l t
  | [], t => by rw [K.rens]
  | c :: l, t => by rw [K.rens, K.mays, K.mays, may_ren b c t, mays_ren b l t]
end
theorem all_ren (b : ByteArray) (l : List K) : (l.map (K.ren b)).all (·.may true) = l.all (·.may true) := by
  rw [List.all_map]
  congr 1
  funext x
  exact may_ren b x true
theorem posn_ren (b : ByteArray) (l : List ByteArray) (s : ByteArray) : posn (l.map (nmBy b)) (nmBy b s) = posn l s := by
  unfold posn
  rw [List.findIdx?_map]
  congr 1
  funext a
  exact nmBy_eqB b s a
theorem numN_ren (b : ByteArray) (l : List ByteArray) (s : ByteArray) : numN (l.map (nmBy b)) (nmBy b s) = numN l s := by
  unfold numN; rw [posn_ren, List.length_map]
theorem addN_ren (b : ByteArray) (l : List ByteArray) (s : ByteArray) : addN (l.map (nmBy b)) (nmBy b s) = (addN l s).map (nmBy b) := by
  unfold addN; rw [posn_ren]
  split <;> simp
theorem placeN_ren (b : ByteArray) (s : ByteArray) : ∀ sc : List (List ByteArray), placeN (nmBy b s) (sc.map (List.map (nmBy b))) = placeN s sc
  | [] => rfl
  | l :: r => by rw [List.map_cons, placeN, placeN, posn_ren, placeN_ren b s r]
/-- Code with other global names. -/
noncomputable def Cd.ren (b : ByteArray) (c : Cd) : Cd := { c with globals := c.globals.map (nmBy b) }
theorem varN_ren (b : ByteArray) (c : Cd) (sc : List (List ByteArray)) (s : ByteArray) (lo gl : Int) : varN (c.ren b) (sc.map (List.map (nmBy b))) (nmBy b s) lo gl = ((varN c sc s lo gl).1, (varN c sc s lo gl).2.ren b) := by
  unfold varN
  rw [← List.map_reverse, placeN_ren]
  cases placeN s sc.reverse with
  | some ok => rfl
  | none => simp only [Cd.ren, numN_ren, addN_ren]
theorem nodeN_ren (b : ByteArray) (c : Cd) (x : K) (sc : List (List ByteArray)) (hk : 1 ≤ x.k ∧ x.k ≤ 10) : nodeN (c.ren b) (x.ren b) (sc.map (List.map (nmBy b))) = ((nodeN c x sc).1, (nodeN c x sc).2.ren b) := by
  have hv := fun s lo gl => varN_ren b c sc s lo gl
  have h0 : ∀ s, varN (c.ren b) [] (nmBy b s) 0 6 = ((varN c [] s 0 6).1, (varN c [] s 0 6).2.ren b) := fun s => varN_ren b c [] s 0 6
  obtain ⟨k, name, rest, params, d, l⟩ := x
  have h6 := nmBy_nil b rest
  rw [K.ren]
  simp only [K.k] at hk
  have : k = 1 ∨ k = 2 ∨ k = 3 ∨ k = 4 ∨ k = 5 ∨ k = 6 ∨ k = 7 ∨ k = 8 ∨ k = 9 ∨ k = 10 := by omega
  rcases this with rfl | rfl | rfl | rfl | rfl | rfl | rfl | rfl | rfl | rfl
  case inr.inr.inr.inr.inr.inl =>
    by_cases h : rest = ⟨#[]⟩
    · have h' := h6.2 h
      subst h
      simp [nodeN, K.k, K.name, K.rest, K.params, K.d, h']
    · have h' : ¬ nmBy b rest = ⟨#[]⟩ := fun e => h (h6.1 e)
      simp [nodeN, K.k, K.name, K.rest, K.params, K.d, h, h']
  all_goals simp [nodeN, K.k, K.name, K.rest, K.params, K.d, hv, h0]
  all_goals first | rfl | exact ⟨rfl, rfl⟩
mutual
theorem size_ren (b : ByteArray) : ∀ x : K, (x.ren b).size = x.size
  | .mk k name rest params d l => by rw [K.ren, K.size, K.size, sizes_ren b l]
theorem sizes_ren (b : ByteArray) : ∀ l : List K, K.sizes (K.rens b l) = K.sizes l
  | [] => by rw [K.rens]
  | c :: l => by rw [K.rens, K.sizes, K.sizes, size_ren b c, sizes_ren b l]
end
theorem ats_ren (b : ByteArray) : ∀ (l : List K) (n : Nat), ats (K.rens b l) n = ats l n
  | [], n => by rw [K.rens]
  | c :: l, n => by rw [K.rens, ats, ats, size_ren, ats_ren b l]
theorem scIn_ren (b : ByteArray) (x : K) (sc : List (List ByteArray)) : scIn (x.ren b) (sc.map (List.map (nmBy b))) = (scIn x sc).map (List.map (nmBy b)) := by
  have h := allN_ren b x
  have hk : (x.ren b).k = x.k := by rw [K.ren_eq]; rfl
  unfold scIn
  rw [hk, h]
  split
  · rw [List.map_append, List.map_cons, List.map_nil]
  · rfl
theorem renL (b : ByteArray) (x : K) : (x.ren b).l = K.rens b x.l := by cases x; rw [K.ren]; rfl
mutual
theorem emit_ren (b : ByteArray) : ∀ (x : K) (c : Cd) (sc : List (List ByteArray)) (n : Nat), x.Pk → emit (x.ren b) (c.ren b) (sc.map (List.map (nmBy b))) n = ((emit x c sc n).1, (emit x c sc n).2.ren b)
  | .mk k name rest params d l, c, sc, n, h => by
    have h1 := nodeN_ren b c (.mk k name rest params d l) sc h.kind
    have h2 := scIn_ren b (.mk k name rest params d l) sc
    have h3 := renL b (.mk k name rest params d l)
    rw [emit_eq, emit_eq, h1, h2, h3]
    simp only [K.l]
    rw [ats_ren, emits_ren b l _ _ _ h.2.2.2.2]
theorem emits_ren (b : ByteArray) : ∀ (l : List K) (c : Cd) (sc : List (List ByteArray)) (n : Nat), K.Pks l → emits (K.rens b l) (c.ren b) (sc.map (List.map (nmBy b))) n = ((emits l c sc n).1, (emits l c sc n).2.ren b)
  | [], c, sc, n, h => by rw [K.rens, emits, emits]
  | x :: l, c, sc, n, h => by
    rw [K.rens, emits, emits]
    simp only
    rw [emit_ren b x c sc n h.1, size_ren]
    simp only
    rw [emits_ren b l _ _ _ h.2]
end
theorem topN_ren (b : ByteArray) (c : Cd) (x : K) (h : x.Pk) : topN (c.ren b) (x.ren b) = (topN c x).ren b := by
  have h1 : emit (x.ren b) (c.ren b) [] (c.ren b).nodes.length = _ := emit_ren b x c [] c.nodes.length h
  unfold topN putN
  rw [h1]
  rfl
theorem codeN_ren (b : ByteArray) : ∀ (l : List K), K.Pks l → codeN (l.map (K.ren b)) = (codeN l).ren b := by
  have key : ∀ (l : List K) (c : Cd), K.Pks l → (l.map (K.ren b)).foldl topN (c.ren b) = (l.foldl topN c).ren b := by
    intro l
    induction l with
    | nil => intro c _; rfl
    | cons x l ih =>
      intro c h
      rw [List.map_cons, List.foldl_cons, List.foldl_cons, topN_ren b c x h.1, ih _ h.2]
  intro l h
  exact key l .zero h
/-- Names that are not empty. -/
def Ne (l : List ByteArray) : Prop := ∀ s ∈ l, s ≠ ⟨#[]⟩
theorem addN_ne' {l : List ByteArray} {s : ByteArray} (h : Ne l) (hs : s ≠ ⟨#[]⟩) : Ne (addN l s) := by
  unfold addN
  split
  · exact h
  · intro t ht
    rcases List.mem_append.1 ht with q | q
    · exact h t q
    · rw [List.mem_singleton.1 q]; exact hs
theorem varN_ne (c : Cd) (sc : List (List ByteArray)) (s : ByteArray) (lo gl : Int) (h : Ne c.globals) (hs : s ≠ ⟨#[]⟩) : Ne (varN c sc s lo gl).2.globals := by
  unfold varN
  split
  · exact h
  · exact addN_ne' h hs
theorem may_name {x : K} {t : Bool} (hm : x.may t = true) (hk : x.k = 2 ∨ x.k = 3 ∨ x.k = 4) : x.name ≠ ⟨#[]⟩ := by
  obtain ⟨k, name, rest, params, d, l⟩ := x
  simp only [K.k, K.name] at hk ⊢
  intro he
  have h1 : eqB name ⟨#[]⟩ = true := eqB_pos he
  rw [K.may, h1] at hm
  rcases hk with rfl | rfl | rfl <;> simp at hm
theorem nodeN_ne (c : Cd) (x : K) (sc : List (List ByteArray)) {t : Bool} (hm : x.may t = true) (h : Ne c.globals) : Ne (nodeN c x sc).2.globals := by
  have h2 := fun k => may_name (x := x) hm k
  unfold nodeN
  by_cases k1 : x.k = 1
  · rw [if_pos k1]; exact h
  rw [if_neg k1]
  by_cases k2 : x.k = 2
  · rw [if_pos k2]; exact varN_ne _ _ _ _ _ h (h2 (.inl k2))
  rw [if_neg k2]
  by_cases k3 : x.k = 3
  · rw [if_pos k3]; exact varN_ne _ _ _ _ _ h (h2 (.inr (.inl k3)))
  rw [if_neg k3]
  by_cases k4 : x.k = 4
  · rw [if_pos k4]; exact varN_ne _ _ _ _ _ h (h2 (.inr (.inr k4)))
  rw [if_neg k4]
  repeat' split
  all_goals exact h
theorem may_kids {k : Int} {name rest : ByteArray} {params : List ByteArray} {d : D} {l : List K} {top : Bool} (hm : (K.mk k name rest params d l).may top = true) : ∃ t, K.mays l t = true := by
  rw [K.may] at hm
  simp only [Bool.and_eq_true] at hm
  by_cases k1 : k = 1
  · subst k1
    have h0 := hm.1.1
    simp [cntB, K.k, K.l] at h0
    subst h0
    exact ⟨true, by simp [K.mays]⟩
  · have := hm.2
    rw [if_neg k1] at this
    simp only [Bool.and_eq_true] at this
    exact ⟨_, this.2⟩
mutual
theorem emit_ne : ∀ (x : K) (c : Cd) (sc : List (List ByteArray)) (n : Nat) (t : Bool), x.may t = true → Ne c.globals → Ne (emit x c sc n).2.globals
  | .mk k name rest params d l, c, sc, n, t, hm, h => by
    have h1 := nodeN_ne c (.mk k name rest params d l) sc hm h
    obtain ⟨t', ht⟩ := may_kids hm
    rw [emit_eq]
    exact emits_ne l _ _ _ t' ht h1
theorem emits_ne : ∀ (l : List K) (c : Cd) (sc : List (List ByteArray)) (n : Nat) (t : Bool), K.mays l t = true → Ne c.globals → Ne (emits l c sc n).2.globals
  | [], c, sc, n, t, hm, h => by rw [emits]; exact h
  | x :: l, c, sc, n, t, hm, h => by
    rw [K.mays, Bool.and_eq_true] at hm
    rw [emits]
    exact emits_ne l _ _ _ t hm.2 (emit_ne x c sc n t hm.1 h)
end
theorem codeN_ne (l : List K) (hm : l.all (·.may true) = true) : Ne (codeN l).globals := by
  have key : ∀ (l : List K) (c : Cd), l.all (·.may true) = true → Ne c.globals → Ne (l.foldl topN c).globals := by
    intro l
    induction l with
    | nil => intro c _ h; exact h
    | cons x l ih =>
      intro c hm h
      rw [List.all_cons, Bool.and_eq_true] at hm
      rw [List.foldl_cons]
      exact ih _ hm.2 (emit_ne x c [] _ true hm.1 h)
  exact key l .zero hm (fun s hs => by cases hs)
end Go.Proofs.YtpacdmgnpadleaaDoor
end

section
/-
  An expression in memory of its own: the law's copied.
-/
namespace Go.Proofs.YtpacdmgnpadleaaDoor
open Go Go.RowKit Go.Lib
set_option linter.unusedSimpArgs false
set_option linter.unusedVariables false
set_option maxHeartbeats 4000000
set_option maxRecDepth 100000
def CopR (S : List (Option Ob)) (x : K) (r : A) (S' : List (Option Ob)) : Prop := ∃ cs fp, r = .agg cs ∧ OwnK S' x cs fp ∧ fp.Nodup ∧ (∀ j ∈ fp, S.length ≤ j) ∧ S.length ≤ S'.length ∧ ∀ (j : Nat) (o : Option Ob), S[j]? = some o → S'[j]? = some o
def zeroOb : Ob := ⟨33, 11, [[.v (.int .i64 0), .v (.string ⟨#[]⟩), .v (.string ⟨#[]⟩), .v (.slice none 0 0), .v (.int .i64 0), .v (.int .i32 0), .v (.bool false), .v (.slice none 0 0), .v (.string ⟨#[]⟩), .v (.slice none 0 0), .v (.slice none 0 0)]]⟩
def CopI (S : List (Option Ob)) (x : K) (n : Nat) (st : St) : Prop := ∃ (i : Nat) (S' : List (Option Ob)) (cL : C) (rows : List (List C)) (fL fR : List Nat), n = x.l.length - i ∧ i ≤ x.l.length ∧
  S'[S.length]? = some (some ⟨33, 11, [ownCs x (.ms (S.length + 2) x.params.length) (.sl 11 (x.l.map K.cc))]⟩) ∧ S'[S.length + 1]? = some (some zeroOb) ∧ S'[S.length + 2]? = some (some ⟨9, 1, strC x.params⟩) ∧
  LAt S' cL rows fL ∧ OwnKs S' (x.l.take i) rows fR ∧ (fL ++ fR).Nodup ∧ (∀ j ∈ fL ++ fR, S.length + 3 ≤ j) ∧ (∀ (j : Nat) (o : Option Ob), S[j]? = some o → S'[j]? = some o) ∧
  st = ⟨[(4, .one (.v (.int .i64 i))), (3, .one cL), (1, .one (.ptr S.length 1 0 0)), (2, .one (.ptr (S.length + 1) 1 0 0))], S'⟩
theorem LAt.at {S : List (Option Ob)} {c : C} {rows : List (List C)} {f : List Nat} (h : LAt S c rows f) : At 33 11 S c rows := by
  rcases h with ⟨h1, h2, _⟩ | ⟨h1, j, h2, _, h3⟩
  · exact .inl ⟨h1, h2⟩
  · exact .inr ⟨h1, j, h2, h3⟩
theorem LAt.own {S : List (Option Ob)} {c : C} {rows : List (List C)} {f : List Nat} (h : LAt S c rows f) {j n : Nat} (e : c = .ms j n) : j ∈ f := by
  rcases h with ⟨_, rfl, _⟩ | ⟨_, i, rfl, rfl, _⟩
  · cases e
  · cases e; simp
theorem rcopy_pure (d : D) (hok : d.Ok) : Pure Tryd.prog 24 [.agg d.cc] (.agg d.cc) := by
  refine pure_old fun w vs hg hv => ?_
  obtain ⟨v, rfl, hv1⟩ := hv.one1
  exact (rcopy_any d w v hok hv1.isD).mono fun e w' ⟨v', he, hx, hr⟩ => ⟨v', he, hx, (IsD.ca hr)⟩
theorem K.Lg.len {c : K} (h : c.Lg) : c.l.length ≤ 1000000000 := by cases c; exact h.2.2.2.2.1
theorem K.Lg.par {c : K} (h : c.Lg) : c.params.length ≤ 1000 := by cases c; exact h.2.1
theorem K.Lg.d {c : K} (h : c.Lg) : c.d.Ok := by cases c; exact h.2.2.1
theorem K.Lg.get {c : K} (h : c.Lg) (i : Nat) (hi : i < c.l.length) : c.l[i].Lg := by cases c; exact h.2.2.2.2.2.get i hi
def CopTo (n : Nat) : Prop := ∀ (x : K), x.ht ≤ n → x.Lg → ∀ S, Fn Tryd.prog 11 [.agg x.cc] S (CopR S x)
theorem cop_step (n : Nat) (ih : CopTo n) : CopTo (n + 1) := by
  intro x hh hx S
  have hcp := rcopy_pure x.d hx.d
  have hlx := hx.len
  have hpl := strC_len x.params
  have hpx := hx.par
  rw [D.cc_eq] at hcp
  rw [K.cc_eq]
  refine Fn.introT Tryd.func11 rfl Tryd.ntmps11 Tryd.results11 (by simp only [List.length_cons, List.length_nil]; decide) ?_
  repeat (first | (apply fw; focus ((with_reducible constructor) <;> rfl)) | ((refine WpA.cond_t ?_ ?_); focus (simp only [find, seval]; done)) | ((refine WpA.cond_f ?_ ?_); focus (simp only [find, seval]; done)) | ((with_reducible refine WpA.go _ rfl fun K9 hK9 => ?_); simp only [zb, Value.oneCell', seval, w11, List.length_append, get_app0, get_app1, get_app2, set_app0, set_app1, set_app2, hpl]; (refine RunTo.mk (by first | exact trivial | omega | (simp; done) | (simp; omega)) (hK9 _ _ ?_)); clear hK9 K9))
  refine WpL.call rfl (guardA_sound (P := Tryd.prog) rfl) (CallA.shut rfl rfl (by kernel_rfl) (by first | exact ALes.refl _ | (simp only [List.cons_append, List.nil_append, List.map_nil]; exact ALes.refl _)) (by first | rfl | (simp [shuts, A.shut, C.shut]; done)) (hcp) ?_)
  ((refine WpL.go _ rfl fun K9 hK9 => ?_); simp only [zb, Value.oneCell', seval, w11, List.length_append, get_app0, get_app1, set_app0, set_app1]; (refine RunTo.mk (by first | exact trivial | omega | (simp; done) | (simp; omega)) (hK9 _ _ ?_)); clear hK9 K9); repeat (first | (apply fw; focus ((with_reducible constructor) <;> rfl)) | ((refine WpA.cond_t ?_ ?_); focus (simp only [find, seval]; done)) | ((refine WpA.cond_f ?_ ?_); focus (simp only [find, seval]; done)) | ((with_reducible refine WpA.go _ rfl fun K9 hK9 => ?_); simp only [zb, Value.oneCell', seval, w11, List.length_append, get_app0, get_app1, set_app0, set_app1]; (refine RunTo.mk (by first | exact trivial | omega | (simp; done) | (simp; omega)) (hK9 _ _ ?_)); clear hK9 K9))
  refine WpA.loop (CopI S x) x.l.length (st0 := ⟨[(4, .one (.v (.int .i64 (0 : Nat)))), (3, .one (.v (.slice none 0 0))), (1, .one (.ptr S.length 1 0 0)), (2, .one (.ptr (S.length + 1) 1 0 0))], S ++ [some ⟨33, 11, [ownCs x (.ms (S.length + 2) x.params.length) (.sl 11 (x.l.map K.cc))]⟩, some zeroOb, some ⟨9, 1, strC x.params⟩]⟩) (Le.sub (by simp [Sub, find]))
    ⟨0, _, .v (.slice none 0 0), [], [], [], rfl, Nat.zero_le _, get_app0 _ _ _, get_app1 _ _ _ _, get_app2 _ _ _ _ _, .inl ⟨rfl, rfl, rfl⟩, by rw [List.take_zero, OwnKs]; exact ⟨rfl, rfl⟩, by simp, by simp, fun j o h => up_app h, rfl⟩ ?_
  intro n' st hst
  obtain ⟨i, S', cL, rows, fL, fR, rfl, hi, hb, hz, hP, hL, hR, hnd, hge, hk, rfl⟩ := hst
  have hw2 : IntKind.i64.wrap ((i : Int) + 1) = ((i + 1 : Nat) : Int) := by rw [wrap64 (by omega) (by omega)]; omega
  have hlP := (List.getElem?_eq_some_iff.1 hP).1
  have hoff : ∀ {j : Nat}, j < S.length + 3 → ∀ n, cL ≠ .ms j n := fun hj n e => by have := hge _ (List.mem_append.2 (.inl (hL.own e))); omega
  have hrl := hR.len
  rw [List.length_take, Nat.min_eq_left hi] at hrl
  by_cases hlt : i < x.l.length
  · have hd1 : decide ((i : Int) < (x.l.length : Int)) = true := by simp; omega
    have hget := getK hlt
    have hht := K.ht_lt hlt
    have hcop := ih x.l[i] (by omega) (hx.get i hlt) S'
    have hb' := hb
    simp only [ownCs] at hb'
    rw [K.cc_eq] at hget hcop
    repeat (first | (apply fw; focus ((with_reducible constructor) <;> rfl)) | ((refine WpA.cond_t ?_ ?_); focus (simp only [find, seval]; done)) | ((refine WpA.cond_f ?_ ?_); focus (simp only [find, seval]; done)) | ((with_reducible refine WpA.go _ rfl fun K9 hK9 => ?_); simp only [zb, Value.oneCell', seval, w11, hb', hd1, hget]; (refine RunTo.mk (by first | exact trivial | omega | (simp; done) | (simp; omega)) (hK9 _ _ ?_)); clear hK9 K9))
    refine WpL.handAll rfl (guardA_sound (P := Tryd.prog) rfl) rfl rfl (by kernel_rfl) (ALes.refl _) hcop ?_
    rintro _ S7 ⟨cs, f7, rfl, hO7, hd7, hg7, hl7, hk7⟩
    have hlt7 := hO7.lt
    have hltR := hR.lt
    have hltL := hL.lt
    have hc7 := hO7.len
    have hc8 : List.take 11 cs = cs := List.take_of_length_le (by omega)
    obtain ⟨S8, j8, hA8, hj8, hl8, hfr8, hpl8, hop8⟩ := append_op (P := Tryd.prog) (T := 22) (by_ := 176) elt_22 byt_22 zel_22 (by omega) (S := S7 ++ [some ⟨33, 11, [cs]⟩]) ((hL.at.stay fun j hj _ => hk7 j _ hj).app _) (q := S7.length) (new := [cs]) (by simp) (by simp) (fun n e => by have := hltL _ (hL.own e); omega) (by simp; omega) (by simp; omega)
    simp only [List.length_cons, List.length_nil, Nat.zero_add] at hop8 hA8
    (try simp only [St.put]); (refine WpL.op rfl (guardA_sound (P := Tryd.prog) rfl) (aop_sound (by simp only [zb, Value.oneCell', seval, w11, hc7, hc8, if_true]; rfl) (by first | exact trivial | omega | (simp; done) | (simp; omega))) ?_); simp only [St.put]
    refine WpL.aop rfl (hop8 _ _ _ rfl rfl) ?_
    simp only [St.put]
    ((refine WpL.go _ rfl fun K9 hK9 => ?_); simp only [zb, Value.oneCell', seval, w11, hw2]; (refine RunTo.mk (by first | exact trivial | omega | (simp; done) | (simp; omega)) (hK9 _ _ ?_)); clear hK9 K9); repeat (first | (apply fw; focus ((with_reducible constructor) <;> rfl)) | ((refine WpA.cond_t ?_ ?_); focus (simp only [find, seval]; done)) | ((refine WpA.cond_f ?_ ?_); focus (simp only [find, seval]; done)) | ((with_reducible refine WpA.go _ rfl fun K9 hK9 => ?_); simp only [zb, Value.oneCell', seval, w11, hw2]; (refine RunTo.mk (by first | exact trivial | omega | (simp; done) | (simp; omega)) (hK9 _ _ ?_)); clear hK9 K9))
    have stays : ∀ (j : Nat) (o : Option Ob), S'[j]? = some o → (∀ n, cL ≠ .ms j n) → S8[j]? = some o := fun j o h hn => hfr8 j o (up_app (hk7 j o h)) hn
    have news : ∀ j ∈ f7, S8[j]? = S7[j]? := fun j hj => by
      have h7 := hlt7 j hj
      obtain ⟨o, ho⟩ : ∃ o, S7[j]? = some o := ⟨_, List.getElem?_eq_getElem h7⟩
      rw [ho]
      exact hfr8 j o (up_app ho) fun n e => by have := hltL _ (hL.own e); have := hg7 j hj; omega
    have olds : ∀ j ∈ fR, S8[j]? = S'[j]? := fun j hj => by
      obtain ⟨o, ho⟩ : ∃ o, S'[j]? = some o := ⟨_, List.getElem?_eq_getElem (hltR j hj)⟩
      rw [ho]
      exact stays j o ho fun n e => (List.nodup_append.1 hnd).2.2 j (hL.own e) j hj rfl
    have hsn := OwnKs.snoc (hO7.keep news) (hR.keep olds)
    rw [← List.take_succ_eq_append_getElem hlt] at hsn
    simp at hl8
    have hpj : j8 ∈ fL ∨ S7.length + 1 ≤ j8 := hpl8.imp (fun e => hL.own e) (fun h => by simpa using h)
    have hd := List.nodup_append.1 hnd
    refine ⟨x.l.length - (i + 1), _, by omega, Le.sub (by simp [Sub, find]), i + 1, S8, .ms j8 (rows.length + 1), rows ++ [cs], [j8], fR ++ f7, rfl, hlt, stays _ _ hb (hoff (by omega)), stays _ _ hz (hoff (by omega)), stays _ _ hP (hoff (by omega)), .inr ⟨by simp, j8, by simp, rfl, hj8⟩, hsn, ?_, ?_, fun j o h => stays j o (hk j o h) (hoff (by have := (List.getElem?_eq_some_iff.1 h).1; omega)), rfl⟩
    · rw [List.singleton_append, List.nodup_cons, List.nodup_append]
      refine ⟨fun h => ?_, hd.2.1, hd7, fun a ha b hb e => ?_⟩
      · rcases List.mem_append.1 h with h | h
        · rcases hpj with q | q
          · exact hd.2.2 _ q _ h rfl
          · have := hltR _ h; omega
        · rcases hpj with q | q
          · have := hltL _ q; have := hg7 _ h; omega
          · have := hlt7 _ h; omega
      · subst e
        have := hltR _ ha; have := hg7 _ hb; omega
    · intro j hj
      rcases List.mem_append.1 hj with h | h
      · rw [List.mem_singleton.1 h]
        rcases hpj with q | q
        · exact hge _ (List.mem_append.2 (.inl q))
        · omega
      · rcases List.mem_append.1 h with h | h
        · exact hge _ (List.mem_append.2 (.inr h))
        · have := hg7 _ h; omega
  · have hd0 : decide ((i : Int) < (x.l.length : Int)) = false := by simp; omega
    have hii : i = x.l.length := by omega
    subst hii
    rw [List.take_length] at hR
    have hb' := hb
    simp only [ownCs] at hb'
    simp only [zeroOb] at hz
    have hb1 : ∀ z : Option Ob, (S'.set S.length z)[S.length]? = some z := fun z => List.getElem?_set_self (by omega)
    have hz1 : ∀ z : Option Ob, (S'.set S.length z)[S.length + 1]? = _ := fun z => (List.getElem?_set_ne (by omega)).trans hz
    repeat (first | (apply fw; focus ((with_reducible constructor) <;> rfl)) | ((refine WpA.cond_t ?_ ?_); focus (simp only [find, seval]; done)) | ((refine WpA.cond_f ?_ ?_); focus (simp only [find, seval]; done)) | ((with_reducible refine WpA.go _ rfl fun K9 hK9 => ?_); simp only [zb, Value.oneCell', seval, w11, hd0, hb', hz, hb1, hz1]; (refine RunTo.mk (by first | exact trivial | omega | (simp; done) | (simp; omega)) (hK9 _ _ ?_)); clear hK9 K9))
    repeat (first | (apply fw; focus ((with_reducible constructor) <;> rfl)) | ((refine WpA.cond_t ?_ ?_); focus (simp only [find, seval]; done)) | ((refine WpA.cond_f ?_ ?_); focus (simp only [find, seval]; done)) | ((with_reducible refine WpA.go _ rfl fun K9 hK9 => ?_); simp only [zb, Value.oneCell', seval, w11, hd0, hb', hz, hb1, hz1]; (refine RunTo.mk (by first | exact trivial | omega | (simp; done) | (simp; omega)) (hK9 _ _ ?_)); clear hK9 K9))
    have hl9 : ∀ z : Option Ob, S.length + 1 < (S'.set S.length z).length := fun z => by simp; omega
    refine ⟨.inl rfl, _, _, _, _, (by simp only [resA, find, reduceIte, Nat.reduceEqDiff, loadA, partC, List.getElem?_set_self (hl9 _), List.getElem?_cons_zero, List.drop_zero, List.take_succ_cons, List.take_zero, List.length_cons, List.length_nil, w11]; rfl), by simp, Le.refl _ _, ownCs x (.ms (S.length + 2) x.params.length) cL, (S.length + 2) :: (fL ++ fR), rfl, ?_, ?_, ?_, ?_, ?_⟩
    · have hs : ∀ {j : Nat} (a b : Option Ob), S.length + 2 ≤ j → ((S'.set S.length a).set (S.length + 1) b)[j]? = S'[j]? := fun a b h => by rw [List.getElem?_set_ne (by omega), List.getElem?_set_ne (by omega)]
      exact OwnK.iff.2 ⟨_, cL, rows, fL, fR, rfl, (hs _ _ (Nat.le_refl _)).trans hP, hL.keep fun j hj => hs _ _ (by have := hge j (List.mem_append.2 (.inl hj)); omega), hR.keep fun j hj => hs _ _ (by have := hge j (List.mem_append.2 (.inr hj)); omega), rfl⟩
    · rw [List.nodup_cons]
      exact ⟨fun h => by have := hge _ h; omega, hnd⟩
    · intro j hj
      rcases List.mem_cons.1 hj with rfl | h
      · omega
      · have := hge _ h; omega
    · simp; omega
    · intro j o h
      have := (List.getElem?_eq_some_iff.1 h).1
      rw [List.getElem?_set_ne (by omega), List.getElem?_set_ne (by omega)]
      exact hk j o h
theorem cop_upto : ∀ n, CopTo n
  | 0 => fun x h => absurd h (by have := x.ht_pos; omega)
  | n + 1 => cop_step n (cop_upto n)
end Go.Proofs.YtpacdmgnpadleaaDoor
end

section
/-
  Other names for an expression's variables, written into its own memory: the law's turn.
-/
namespace Go.Proofs.YtpacdmgnpadleaaDoor
open Go Go.RowKit Go.Lib
set_option linter.unusedSimpArgs false
set_option linter.unusedVariables false
set_option maxHeartbeats 4000000
set_option maxRecDepth 100000
/-- A call that is handed the whole store, in a region that draws its order. -/
theorem OpS.handAll {P : Program} {nt : Cf} {ds : List (Option Tmp)} {d : Option Tmp} {ty : TypeId} {pos : String} {aft : Array Edge} {g : Option (Nat × Bool)} {e : List (Nat × A)} {s : List (Option Ob)} {fo : Operand} {args : List Operand} {tys : Array TypeId} {f : FuncId} {caps : List C} {xs xs' : List A} {s2 : List (Option Ob)} {r : A} (hg : guardA ds e g = some true) (hf : rdA e fo = some (.one (.fn f caps))) (ha : rdAs e args = some xs) (hc : callable P f = true)
    (hx : ALes (xs ++ caps.map .one) xs') (hfn : Fn P f xs' s fun x s => x = r ∧ s = s2) :
    OpS P nt ds ⟨d, .call { callee := .value fo, args := args.toArray, argTypes := tys }, ty, pos, aft, g⟩ e s r s2 := fun H w0 S0 m0 mm a w hs hk => by
  rw [guardD hk hg, if_pos rfl]
  have hrd : ∀ o ∈ fo :: args, ∀ y, rdA e o = some y → Ca ⟨vis H s mm w, mm⟩ y (a.eval o) := fun o ho y hy => know_rd hk (by simp [Op.operands, Call.operands]; rcases List.mem_cons.1 ho with h | h; exact .inl h; exact .inr h) hy
  have h1 := hrd fo (by simp) _ hf
  simp only [Ca, Cc] at h1
  obtain ⟨us, ef, hu⟩ := h1
  have hv := (know_rds hrd (fun o ho => by simp [ho]) ha).append (Cas.ones hu)
  have hrun : (execOp a.eval ⟨none, .call { callee := .value fo, args := args.toArray, argTypes := tys }, ty, "", #[], none⟩).run P w = .ok (.enter f (args.map a.eval ++ us).toArray) w := by
    simp only [execOp, resolve, ef, Deferred.ofValue, Sem.run_bind, Sem.run_pure, Result.andThen_ok, invoke, List.map_toArray]
    have : ((#[] : Array Value) ++ (args.map a.eval).toArray ++ us.toArray) = (args.map a.eval ++ us).toArray := by simp
    rw [this, run_callFunc hc]
  unfold OpTo
  rw [exec_same, hrun]
  refine (hfn _ mm w _ hs.sto (hx _ _ hv)).mono fun e' w' ⟨v, m', r', s', he, ⟨hR1, hR2⟩, hso, hca, hfr, hup, hnew⟩ => ?_
  subst he hR1 hR2
  obtain ⟨h1, h2⟩ := hs.all hso hfr hup hnew
  exact ⟨v, rfl, m', h1, h2, hca⟩
/-- Steps that are chosen one behind the other. -/
theorem chain {α : Type} (n : Nat) (I : Nat → α → Prop) (R : Nat → α → α → Prop) (a0 : α) (h0 : I 0 a0) (hs : ∀ i a, i < n → I i a → ∃ b, I (i + 1) b ∧ R i a b) : ∃ F : Nat → α, F 0 = a0 ∧ (∀ i, i ≤ n → I i (F i)) ∧ ∀ i, i < n → R i (F i) (F (i + 1)) := by
  classical
  let G : Nat → α := Nat.rec a0 fun i a => if h : i < n ∧ I i a then Classical.choose (hs i a h.1 h.2) else a
  have hG : ∀ i, i ≤ n → I i (G i) := by
    intro i
    induction i with
    | zero => intro _; exact h0
    | succ i ih =>
      intro hi
      have h : i < n ∧ I i (G i) := ⟨by omega, ih (by omega)⟩
      have e : G (i + 1) = Classical.choose (hs i (G i) h.1 h.2) := dif_pos h
      rw [e]
      exact (Classical.choose_spec (hs i (G i) h.1 h.2)).1
  refine ⟨G, rfl, hG, fun i hi => ?_⟩
  have h : i < n ∧ I i (G i) := ⟨hi, hG i (by omega)⟩
  have e : G (i + 1) = Classical.choose (hs i (G i) h.1 h.2) := dif_pos h
  rw [e]
  exact (Classical.choose_spec (hs i (G i) h.1 h.2)).2
mutual
/-- Names that are not too long. -/
def K.Nm : K → Prop
  | .mk _ name rest params _ l => name.size ≤ 500 ∧ rest.size ≤ 500 ∧ (∀ s ∈ params, s.size ≤ 500) ∧ K.Nms l
def K.Nms : List K → Prop
  | [] => True
  | c :: l => c.Nm ∧ K.Nms l
end
theorem K.Nms.get : ∀ {l : List K}, K.Nms l → ∀ i (h : i < l.length), l[i].Nm
  | c :: l, h, 0, _ => h.1
  | c :: l, h, i + 1, hi => K.Nms.get (l := l) h.2 i (by simpa using hi)
theorem K.Nm.get {c : K} (h : c.Nm) (i : Nat) (hi : i < c.l.length) : c.l[i].Nm := by cases c; exact h.2.2.2.get i hi
theorem K.Nm.name {c : K} (h : c.Nm) : c.name.size ≤ 500 := by cases c; exact h.1
theorem K.Nm.rest {c : K} (h : c.Nm) : c.rest.size ≤ 500 := by cases c; exact h.2.1
theorem K.Nm.par {c : K} (h : c.Nm) : ∀ s ∈ c.params, s.size ≤ 500 := by cases c; exact h.2.2.1
/-- Some of them turned. -/
def mtk {α : Type} (f : α → α) (l : List α) (i : Nat) : List α := (l.take i).map f ++ l.drop i
theorem mtk_zero {α : Type} (f : α → α) (l : List α) : mtk f l 0 = l := by simp [mtk]
theorem mtk_all {α : Type} (f : α → α) (l : List α) : mtk f l l.length = l.map f := by simp [mtk]
theorem mtk_len {α : Type} (f : α → α) (l : List α) (i : Nat) : (mtk f l i).length = l.length := by simp [mtk]; omega
theorem mtk_get {α : Type} (f : α → α) {l : List α} {i : Nat} (h : i < l.length) : (mtk f l i)[i]? = some l[i] := by
  unfold mtk
  rw [List.getElem?_append_right (by simp; omega)]
  simp [Nat.min_eq_left (Nat.le_of_lt h), h]
theorem mtk_at {α : Type} (f : α → α) {l : List α} {i : Nat} (h : i < l.length) (h' : i < (mtk f l i).length) : (mtk f l i)[i] = l[i] := by
  have := mtk_get f h
  rw [List.getElem?_eq_getElem h'] at this
  exact Option.some.inj this
theorem mtk_set {α : Type} (f : α → α) {l : List α} {i : Nat} (h : i < l.length) : (mtk f l i).set i (f l[i]) = mtk f l (i + 1) := by
  unfold mtk
  have e : i - ((l.take i).map f).length = 0 := by simp; omega
  rw [List.set_append_right _ _ (by simp; omega), e, List.take_succ_eq_append_getElem h, List.map_append, List.drop_eq_getElem_cons h, List.set_cons_zero, List.append_assoc]
  rfl
theorem mtk_same {α : Type} (f : α → α) {l : List α} {i : Nat} (h : i < l.length) (hf : f l[i] = l[i]) : mtk f l (i + 1) = mtk f l i := by
  rw [← mtk_set f h, hf]
  have h' : i < (mtk f l i).length := by rw [mtk_len]; exact h
  rw [← mtk_at f h h']
  exact List.set_getElem_self h'
theorem set_same {α : Type} {l : List α} {j : Nat} {a : α} (h : l[j]? = some a) : l.set j a = l := by
  obtain ⟨hj, rfl⟩ := List.getElem?_eq_some_iff.1 h
  exact List.set_getElem_self hj
theorem strC_set (l : List ByteArray) (i : Nat) (s : ByteArray) : (strC l).set i [.v (.string s)] = strC (l.set i s) := by simp [strC, List.map_set]
/-- An expression's box. -/
def ownOb (x : K) (cP cL : C) : Ob := ⟨33, 11, [ownCs x cP cL]⟩
def TurnTo (by_ : ByteArray) (n : Nat) : Prop := ∀ (x : K), x.ht ≤ n → x.Lg → x.Nm → ∀ (S : List (Option Ob)) (cs : List C) (fp : List Nat), OwnK S x cs fp → fp.Nodup → ∃ cs' S9, OwnK S9 (x.ren by_) cs' fp ∧ S.length ≤ S9.length ∧ (∀ j, j < S.length → j ∉ fp → S9[j]? = S[j]?) ∧ Fn Tryd.prog 35 [.agg cs, .one (.v (.string by_))] S (fun r S' => r = .agg cs' ∧ S' = S9)
theorem turn_step (by_ : ByteArray) (hby : by_.size ≤ 50) (n : Nat) (ih : TurnTo by_ n) : TurnTo by_ (n + 1) := by
  intro x hh hx hn S cs fp hO hd
  rw [OwnK.iff] at hO
  obtain ⟨jP, cL, rows, fL, fR, rfl, hP, hL, hR, rfl⟩ := hO
  have hlP := (List.getElem?_eq_some_iff.1 hP).1
  have hlL := hL.lt
  have hlR := hR.lt
  have hlx := hx.len
  have hpx := hx.par
  have hnm := hn.name
  have hnr := hn.rest
  have hnp := hn.par
  -- behind the first loop
  obtain ⟨B, hB⟩ : ∃ B, B = ownOb (x.ren by_) (.ms jP x.params.length) cL := ⟨_, rfl⟩
  obtain ⟨S1, hS1⟩ : ∃ S1, S1 = (S ++ [some B, some zeroOb]).set jP (some ⟨9, 1, strC (x.params.map (nmBy by_))⟩) := ⟨_, rfl⟩
  have hl1 : S1.length = S.length + 2 := by rw [hS1]; simp
  have hb1 : S1[S.length]? = some (some B) := by rw [hS1, List.getElem?_set_ne (by omega)]; exact get_app0 _ _ _
  have hz1 : S1[S.length + 1]? = some (some zeroOb) := by rw [hS1, List.getElem?_set_ne (by omega)]; exact get_app1 _ _ _ _
  have hP1 : S1[jP]? = some (some ⟨9, 1, strC (x.params.map (nmBy by_))⟩) := by rw [hS1]; exact List.getElem?_set_self (by simp; omega)
  have hk1 : ∀ j, j < S.length → j ≠ jP → S1[j]? = S[j]? := fun j hj hne => by rw [hS1, List.getElem?_set_ne (fun e => hne e.symm), List.getElem?_append_left hj]
  have hdc := List.nodup_cons.1 hd
  have hdd := List.nodup_append.1 hdc.2
  have hL1 : LAt S1 cL rows fL := hL.keep fun j hj => hk1 j (hlL j hj) fun e => hdc.1 (by rw [← e]; exact List.mem_append.2 (.inl hj))
  have hR1 : OwnKs S1 x.l rows fR := hR.keep fun j hj => hk1 j (hlR j hj) fun e => hdc.1 (by rw [← e]; exact List.mem_append.2 (.inr hj))
  -- the rounds of the second loop
  have hF := chain x.l.length (fun i (a : List (Option Ob) × List (List C)) => a.1[S.length]? = some (some B) ∧ a.1[S.length + 1]? = some (some zeroOb) ∧ a.1[jP]? = some (some ⟨9, 1, strC (x.params.map (nmBy by_))⟩) ∧ LAt a.1 cL a.2 fL ∧ OwnKs a.1 (mtk (K.ren by_) x.l i) a.2 fR ∧ S.length + 2 ≤ a.1.length ∧ ∀ j, j < S.length → j ∉ jP :: (fL ++ fR) → a.1[j]? = S[j]?)
    (fun i a b => ∃ jL r0 cs' S9, jL < S.length ∧ cL = .ms jL a.2.length ∧ a.1[jL]? = some (some ⟨33, 11, a.2⟩) ∧ a.2[i]? = some r0 ∧ r0.length = 11 ∧ cs'.length = 11 ∧ Fn Tryd.prog 35 [.agg r0, .one (.v (.string by_))] a.1 (fun r S' => r = .agg cs' ∧ S' = S9) ∧ S9[S.length]? = some (some B) ∧ S9[jL]? = some (some ⟨33, 11, a.2⟩) ∧ b = (S9.set jL (some ⟨33, 11, a.2.set i cs'⟩), a.2.set i cs')) (S1, rows)
    ⟨hb1, hz1, hP1, hL1, by rw [mtk_zero]; exact hR1, by show S.length + 2 ≤ S1.length; omega, fun j hj hn => hk1 j hj fun e => hn (by simp [e])⟩ ?_
  case refine_1 =>
    rintro i ⟨A, q⟩ hi ⟨g1, g2, g3, g4, g5, g6, g7⟩
    simp only at g1 g2 g3 g4 g5 g6 g7 ⊢
    obtain ⟨r0, fa, fx, fb, e1, e2, e3, e4⟩ := g5.at i (by rw [mtk_len]; exact hi)
    rw [mtk_at _ hi] at e3
    have hdf := hdd.2.1
    rw [e2] at hdf
    have hd1 := List.nodup_append.1 hdf
    have hd2 := List.nodup_append.1 hd1.2.1
    have hht := K.ht_lt hi
    obtain ⟨cs', S9, t1, t2, t3, t4⟩ := ih x.l[i] (by omega) (hx.get i hi) (hn.get i hi) A r0 fx e3 hd2.1
    have hql : q ≠ [] := fun e => by rw [e] at e1; simp at e1
    rcases g4 with ⟨h, -⟩ | ⟨-, jL, hcL, hfL, hjj⟩
    · exact absurd h hql
    rw [hfL] at hdd hdc hlL
    have hxR : ∀ j, j ∈ fx → j ∈ fR := fun j hj => by rw [e2]; simp [hj]
    have hjL := hlL jL (by simp)
    have hJx : jL ∉ fx := fun h => hdd.2.2 jL (by simp) jL (hxR _ h) rfl
    have hJR : jL ∉ fR := fun h => hdd.2.2 jL (by simp) jL h rfl
    have hPx : jP ∉ fx := fun h => hdc.1 (List.mem_append.2 (.inr (hxR _ h)))
    have hPL : jP ≠ jL := fun h => hdc.1 (List.mem_append.2 (.inl (by simp [h])))
    have off : ∀ j, S.length ≤ j → j ∉ fx := fun j hj h => by have := hlR j (hxR _ h); omega
    have s9 : ∀ j, j < A.length → j ∉ fx → j ≠ jL → (S9.set jL (some ⟨33, 11, q.set i cs'⟩))[j]? = A[j]? := fun j h1 h2 h3 => by
      rw [List.getElem?_set_ne (fun e => h3 e.symm)]; exact t3 j h1 h2
    refine ⟨(S9.set jL (some ⟨33, 11, q.set i cs'⟩), q.set i cs'), ⟨(s9 _ (by omega) (off _ (by omega)) (by omega)).trans g1, (s9 _ (by omega) (off _ (by omega)) (by omega)).trans g2, (s9 _ (by omega) hPx hPL).trans g3, .inr ⟨fun e => hql (by simpa using e), jL, by simp [hcL], hfL, List.getElem?_set_self (by omega)⟩, ?_, by simp; omega, fun j hj hnj => ?_⟩, jL, r0, cs', S9, hjL, hcL, hjj, e1, e3.len, t1.len, t4, (t3 _ (by omega) (off _ (by omega))).trans g1, (t3 _ (by omega) hJx).trans hjj, rfl⟩
    · have := e4 (S9.set jL (some ⟨33, 11, q.set i cs'⟩)) (x.l[i].ren by_) cs' (fun j hj => s9 j (by
        have : j ∈ fR := by rw [e2]; rcases hj with h | h <;> simp [h]
        have := hlR j this; omega) (fun h => by
          rcases hj with h' | h'
          · exact hd1.2.2 j h' j (List.mem_append.2 (.inl h)) rfl
          · exact hd2.2.2 j h j h' rfl) (fun e => by
          refine hJR ?_
          rw [← e, e2]; rcases hj with h | h <;> simp [h])) (t1.keep fun j hj => by rw [List.getElem?_set_ne (fun e => hJx (by rw [e]; exact hj))])
      rw [mtk_set _ hi] at this
      exact this
    · have h1 : j ∉ fx := fun h => hnj (by simp [hxR j h])
      have h2 : j ≠ jL := fun e => hnj (by simp [e, hfL])
      exact (s9 j (by omega) h1 h2).trans (g7 j hj hnj)
  obtain ⟨F, hF0, hFI, hFR⟩ := hF
  obtain ⟨f1, f2, f3, f4, f5, f6, f7⟩ := hFI x.l.length (Nat.le_refl _)
  rw [mtk_all] at f5
  have hs9 : ∀ j, j ≠ S.length + 1 → ∀ z, ((F x.l.length).1.set (S.length + 1) z)[j]? = (F x.l.length).1[j]? := fun j hj z => List.getElem?_set_ne (fun e => hj e.symm)
  refine ⟨ownCs (x.ren by_) (.ms jP x.params.length) cL, (F x.l.length).1.set (S.length + 1) (some B), ?_, by simp; omega, fun j h1 h2 => (hs9 j (by omega) _).trans (f7 j h1 h2), ?_⟩
  · rw [OwnK.iff]
    have e1 : (x.ren by_).params = x.params.map (nmBy by_) := by rw [K.ren_eq]; rfl
    have e2 : (x.ren by_).l = x.l.map (K.ren by_) := by rw [K.ren_eq]; rfl
    rw [e1, e2]
    refine ⟨jP, cL, (F x.l.length).2, fL, fR, by simp, (hs9 _ (by omega) _).trans f3, f4.keep fun j hj => hs9 _ (by have := hlL j hj; omega) _, f5.keep fun j hj => hs9 _ (by have := hlR j hj; omega) _, rfl⟩
  have hF1 : (F 0).1 = S1 := by rw [hF0]
  have rk : (x.ren by_).k = x.k := by rw [K.ren_eq]; rfl
  have rd : (x.ren by_).d = x.d := by rw [K.ren_eq]; rfl
  have rr : (x.ren by_).rest = nmBy by_ x.rest := by rw [K.ren_eq]; rfl
  have rn : (x.ren by_).name = if x.k = 10 then x.name else nmBy by_ x.name := by rw [K.ren_eq]; rfl
  have hB2 : B = ⟨33, 11, [ownCs (x.ren by_) (.ms jP x.params.length) cL]⟩ := hB
  simp only [ownCs, rk, rd] at hB2 ⊢
  obtain ⟨nm, hnm'⟩ : ∃ nm, nm = (x.ren by_).name := ⟨_, rfl⟩
  obtain ⟨rs, hrs'⟩ : ∃ rs, rs = (x.ren by_).rest := ⟨_, rfl⟩
  rw [← hnm', ← hrs'] at hB2 ⊢
  rw [← hnm'] at rn
  rw [← hrs'] at rr
  clear hnm' hrs'
  refine Fn.introT Tryd.func35 rfl Tryd.ntmps35 Tryd.results35 (by simp only [List.length_cons, List.length_nil]; decide) ?_
  (refine WpA.seq ?_); (refine WpA.region ?_); (refine WpL.go _ rfl fun K9 hK9 => ?_); simp only [zb, Value.oneCell', seval, w35, List.length_append]; (refine RunTo.mk (by first | exact trivial | omega | (simp; done) | (simp; omega)) (hK9 _ _ ?_)); clear hK9 K9; (refine WpL.nil ?_); (refine thenA_n ?_)
  refine WpA.via ⟨[(1, .one (.v (.string by_))), (2, .one (.ptr S.length 1 0 0)), (4, .one (.ptr (S.length + 1) 1 0 0))], S ++ [some ⟨33, 11, [[.v (.int .i64 x.k), .v (.string nm), .v (.string x.rest), .ms jP x.params.length, .v (.int .i64 x.d.k), .v (.int .i32 x.d.c), .v (.bool x.d.neg), .sl 1 (x.d.mag.map fun n => [.v (.int .u32 n)]), .v (.string x.d.t), .sl 6 (x.d.l.map D.cc), cL]]⟩, some zeroOb]⟩ ?_ ?_
  · by_cases k10 : x.k = 10
    · have q1 : (x.k != 10) = false := by simp [k10]
      rw [if_pos k10] at rn
      rw [rn]
      repeat (first | (apply fw; focus ((with_reducible constructor) <;> rfl)) | ((refine WpA.cond_t ?_ ?_); focus (simp only [find, seval]; done)) | ((refine WpA.cond_f ?_ ?_); focus (simp only [find, seval]; done)) | ((with_reducible refine WpA.go _ rfl fun K9 hK9 => ?_); simp only [zb, Value.oneCell', seval, w35, get_app0, set_app0, q1]; (refine RunTo.mk (by first | exact trivial | omega | (simp; done) | (simp; omega)) (hK9 _ _ ?_)); clear hK9 K9))
      exact Le.sub (by simp [Sub, find])
    · have q1 : (x.k != 10) = true := by simp [k10]
      rw [if_neg k10] at rn
      by_cases h : x.name = ⟨#[]⟩
      · have q2 := eqB_pos h
        rw [nmBy, if_pos h] at rn
        rw [rn]
        repeat (first | (apply fw; focus ((with_reducible constructor) <;> rfl)) | ((refine WpA.cond_t ?_ ?_); focus (simp only [find, seval]; done)) | ((refine WpA.cond_f ?_ ?_); focus (simp only [find, seval]; done)) | ((with_reducible refine WpA.go _ rfl fun K9 hK9 => ?_); simp only [zb, Value.oneCell', seval, w35, get_app0, set_app0, q1, strEq, q2]; (refine RunTo.mk (by first | exact trivial | omega | (simp; done) | (simp; omega)) (hK9 _ _ ?_)); clear hK9 K9))
        exact Le.sub (by simp [Sub, find])
      · have q2 := eqB_neg h
        rw [nmBy, if_neg h] at rn
        rw [rn]
        repeat (first | (apply fw; focus ((with_reducible constructor) <;> rfl)) | ((refine WpA.cond_t ?_ ?_); focus (simp only [find, seval]; done)) | ((refine WpA.cond_f ?_ ?_); focus (simp only [find, seval]; done)) | ((with_reducible refine WpA.go _ rfl fun K9 hK9 => ?_); simp only [zb, Value.oneCell', seval, w35, get_app0, set_app0, q1, strEq, q2]; (refine RunTo.mk (by first | exact trivial | omega | (simp; done) | (simp; omega)) (hK9 _ _ ?_)); clear hK9 K9))
        exact Le.sub (by simp [Sub, find])
  clear rn
  refine WpA.via ⟨[(1, .one (.v (.string by_))), (2, .one (.ptr S.length 1 0 0)), (4, .one (.ptr (S.length + 1) 1 0 0))], S ++ [some ⟨33, 11, [[.v (.int .i64 x.k), .v (.string nm), .v (.string rs), .ms jP x.params.length, .v (.int .i64 x.d.k), .v (.int .i32 x.d.c), .v (.bool x.d.neg), .sl 1 (x.d.mag.map fun n => [.v (.int .u32 n)]), .v (.string x.d.t), .sl 6 (x.d.l.map D.cc), cL]]⟩, some zeroOb]⟩ ?_ ?_
  · by_cases h : x.rest = ⟨#[]⟩
    · have q2 := eqB_pos h
      rw [nmBy, if_pos h] at rr
      rw [rr]
      repeat (first | (apply fw; focus ((with_reducible constructor) <;> rfl)) | ((refine WpA.cond_t ?_ ?_); focus (simp only [find, seval]; done)) | ((refine WpA.cond_f ?_ ?_); focus (simp only [find, seval]; done)) | ((with_reducible refine WpA.go _ rfl fun K9 hK9 => ?_); simp only [zb, Value.oneCell', seval, w35, get_app0, set_app0, strEq, q2]; (refine RunTo.mk (by first | exact trivial | omega | (simp; done) | (simp; omega)) (hK9 _ _ ?_)); clear hK9 K9))
      exact Le.sub (by simp [Sub, find])
    · have q2 := eqB_neg h
      rw [nmBy, if_neg h] at rr
      rw [rr]
      repeat (first | (apply fw; focus ((with_reducible constructor) <;> rfl)) | ((refine WpA.cond_t ?_ ?_); focus (simp only [find, seval]; done)) | ((refine WpA.cond_f ?_ ?_); focus (simp only [find, seval]; done)) | ((with_reducible refine WpA.go _ rfl fun K9 hK9 => ?_); simp only [zb, Value.oneCell', seval, w35, get_app0, set_app0, strEq, q2]; (refine RunTo.mk (by first | exact trivial | omega | (simp; done) | (simp; omega)) (hK9 _ _ ?_)); clear hK9 K9))
      exact Le.sub (by simp [Sub, find])
  clear rr
  rw [← hB2]
  obtain ⟨T0, hT0⟩ : ∃ T0 : List (Option Ob), T0 = S ++ [some B, some zeroOb] := ⟨_, rfl⟩
  have hT1 : T0[S.length]? = some (some B) := by rw [hT0]; exact get_app0 _ _ _
  have hT2 : T0[jP]? = some (some ⟨9, 1, strC x.params⟩) := by rw [hT0]; exact up_app hP
  have hTl : jP < T0.length := (List.getElem?_eq_some_iff.1 hT2).1
  rw [← hT0] at hS1 ⊢
  
  refine WpA.via ⟨[(1, .one (.v (.string by_))), (2, .one (.ptr S.length 1 0 0)), (4, .one (.ptr (S.length + 1) 1 0 0))], S1⟩ ?_ ?_
  · repeat (first | (apply fw; focus ((with_reducible constructor) <;> rfl)) | ((refine WpA.cond_t ?_ ?_); focus (simp only [find, seval]; done)) | ((refine WpA.cond_f ?_ ?_); focus (simp only [find, seval]; done)) | ((with_reducible refine WpA.go _ rfl fun K9 hK9 => ?_); simp only [zb, Value.oneCell', seval, w35]; (refine RunTo.mk (by first | exact trivial | omega | (simp; done) | (simp; omega)) (hK9 _ _ ?_)); clear hK9 K9))
    refine WpA.loop (fun n st => ∃ i, n = x.params.length - i ∧ i ≤ x.params.length ∧ st = ⟨[(5, .one (.v (.int .i64 (i : Nat)))), (1, .one (.v (.string by_))), (2, .one (.ptr S.length 1 0 0)), (4, .one (.ptr (S.length + 1) 1 0 0))], T0.set jP (some ⟨9, 1, strC (mtk (nmBy by_) x.params i)⟩)⟩) x.params.length (st0 := ⟨[(5, .one (.v (.int .i64 (0 : Nat)))), (1, .one (.v (.string by_))), (2, .one (.ptr S.length 1 0 0)), (4, .one (.ptr (S.length + 1) 1 0 0))], T0.set jP (some ⟨9, 1, strC (mtk (nmBy by_) x.params 0)⟩)⟩) ?_ ⟨0, rfl, Nat.zero_le _, rfl⟩ ?_
    · rw [mtk_zero, set_same hT2]
      exact Le.sub (by simp [Sub, find])
    intro n' st hst
    obtain ⟨i, rfl, hi, rfl⟩ := hst
    have hw2 : IntKind.i64.wrap ((i : Int) + 1) = ((i + 1 : Nat) : Int) := by rw [wrap64 (by omega) (by omega)]; omega
    have hql : (strC (mtk (nmBy by_) x.params i)).length = x.params.length := by rw [strC_len, mtk_len]
    have w1 : (T0.set jP (some ⟨9, 1, strC (mtk (nmBy by_) x.params i)⟩))[S.length]? = some (some B) := by rw [List.getElem?_set_ne (by omega)]; exact hT1
    have w2 : (T0.set jP (some ⟨9, 1, strC (mtk (nmBy by_) x.params i)⟩))[jP]? = some (some ⟨9, 1, strC (mtk (nmBy by_) x.params i)⟩) := List.getElem?_set_self hTl
    rw [hB2] at w1
    by_cases hlt : i < x.params.length
    · have hd1 : decide ((i : Int) < (x.params.length : Int)) = true := by simp; omega
      have hg := mtk_get (nmBy by_) hlt
      have hg2 : (strC (mtk (nmBy by_) x.params i))[i]? = some [.v (.string x.params[i])] := by simp only [strC, List.getElem?_map, hg, Option.map_some]
      have hps := hnp _ (List.getElem_mem hlt)
      by_cases h : x.params[i] = ⟨#[]⟩
      · have q2 := eqB_pos h
        repeat (first | (apply fw; focus ((with_reducible constructor) <;> rfl)) | ((refine WpA.cond_t ?_ ?_); focus (simp only [find, seval]; done)) | ((refine WpA.cond_f ?_ ?_); focus (simp only [find, seval]; done)) | ((with_reducible refine WpA.go _ rfl fun K9 hK9 => ?_); simp only [zb, Value.oneCell', seval, w35, w1, w2, hd1, hql, hg2, strEq, q2, hw2]; (refine RunTo.mk (by first | exact trivial | omega | (simp; done) | (simp; omega)) (hK9 _ _ ?_)); clear hK9 K9))
        refine ⟨x.params.length - (i + 1), ⟨[(5, .one (.v (.int .i64 ((i + 1 : Nat) : Int)))), (1, .one (.v (.string by_))), (2, .one (.ptr S.length 1 0 0)), (4, .one (.ptr (S.length + 1) 1 0 0))], T0.set jP (some ⟨9, 1, strC (mtk (nmBy by_) x.params (i + 1))⟩)⟩, by omega, ?_, i + 1, rfl, hlt, rfl⟩
        rw [mtk_same (nmBy by_) hlt (by rw [nmBy, if_pos h])]
        exact Le.sub (by simp [Sub, find])
      · have q2 := eqB_neg h
        repeat (first | (apply fw; focus ((with_reducible constructor) <;> rfl)) | ((refine WpA.cond_t ?_ ?_); focus (simp only [find, seval]; done)) | ((refine WpA.cond_f ?_ ?_); focus (simp only [find, seval]; done)) | ((with_reducible refine WpA.go _ rfl fun K9 hK9 => ?_); simp only [zb, Value.oneCell', seval, w35, w1, w2, hd1, hql, hg2, strEq, q2]; (refine RunTo.mk (by first | exact trivial | omega | (simp; done) | (simp; omega)) (hK9 _ _ ?_)); clear hK9 K9))
        (refine WpA.draw0 11 _ _ _ rfl rfl rfl (by kernel_rfl) (by kernel_rfl) (by kernel_rfl) fun K8 hK8 => ?_); simp only [List.take_succ_cons, List.take_zero, List.drop_succ_cons, List.drop_zero, List.map_cons, List.map_nil] at hK8 ⊢; (refine Draw0.go fun K7 hK7 => ?_); simp only [runQ, putE, zb, Value.oneCell', seval, w35, w1, w2, hql, hg2, List.set_set, strC_set, hw2]; (refine RunQ.mk (by first | exact trivial | omega | (simp; done) | (simp; omega)) (hK7 _ _ ?_)); clear hK7 K7; (try ((refine Draw0.nil (hK8 _ ?_)); clear hK8 K8; ((refine WpL.go _ rfl fun K9 hK9 => ?_); simp only [zb, Value.oneCell', seval, w35, w1, w2, hql, hg2, List.set_set, strC_set, hw2]; (refine RunTo.mk (by first | exact trivial | omega | (simp; done) | (simp; omega)) (hK9 _ _ ?_)); clear hK9 K9); repeat (first | (apply fw; focus ((with_reducible constructor) <;> rfl)) | ((refine WpA.cond_t ?_ ?_); focus (simp only [find, seval]; done)) | ((refine WpA.cond_f ?_ ?_); focus (simp only [find, seval]; done)) | ((with_reducible refine WpA.go _ rfl fun K9 hK9 => ?_); simp only [zb, Value.oneCell', seval, w35, w1, w2, hql, hg2, List.set_set, strC_set, hw2]; (refine RunTo.mk (by first | exact trivial | omega | (simp; done) | (simp; omega)) (hK9 _ _ ?_)); clear hK9 K9))))
        refine ⟨x.params.length - (i + 1), ⟨[(5, .one (.v (.int .i64 ((i + 1 : Nat) : Int)))), (1, .one (.v (.string by_))), (2, .one (.ptr S.length 1 0 0)), (4, .one (.ptr (S.length + 1) 1 0 0))], T0.set jP (some ⟨9, 1, strC (mtk (nmBy by_) x.params (i + 1))⟩)⟩, by omega, ?_, i + 1, rfl, hlt, rfl⟩
        rw [← mtk_set (nmBy by_) hlt, nmBy, if_neg h]
        exact Le.sub (by simp [Sub, find])
    · have hd0 : decide ((i : Int) < (x.params.length : Int)) = false := by simp; omega
      have hii : i = x.params.length := by omega
      subst hii
      rw [mtk_all] at *
      rw [← hS1] at *
      repeat (first | (apply fw; focus ((with_reducible constructor) <;> rfl)) | ((refine WpA.cond_t ?_ ?_); focus (simp only [find, seval]; done)) | ((refine WpA.cond_f ?_ ?_); focus (simp only [find, seval]; done)) | ((with_reducible refine WpA.go _ rfl fun K9 hK9 => ?_); simp only [zb, Value.oneCell', seval, w35, w1, hd0]; (refine RunTo.mk (by first | exact trivial | omega | (simp; done) | (simp; omega)) (hK9 _ _ ?_)); clear hK9 K9))
      exact Le.sub (by simp [Sub, find])
  clear hT0 hT1 hT2 hTl hb1 hz1 hP1 hk1 hL1 hR1 hl1
  repeat (first | (apply fw; focus ((with_reducible constructor) <;> rfl)) | ((refine WpA.cond_t ?_ ?_); focus (simp only [find, seval]; done)) | ((refine WpA.cond_f ?_ ?_); focus (simp only [find, seval]; done)) | ((with_reducible refine WpA.go _ rfl fun K9 hK9 => ?_); simp only [zb, Value.oneCell', seval, w35]; (refine RunTo.mk (by first | exact trivial | omega | (simp; done) | (simp; omega)) (hK9 _ _ ?_)); clear hK9 K9))
  refine WpA.loop (fun n st => ∃ i, n = x.l.length - i ∧ i ≤ x.l.length ∧ st = ⟨[(6, .one (.v (.int .i64 (i : Nat)))), (1, .one (.v (.string by_))), (2, .one (.ptr S.length 1 0 0)), (4, .one (.ptr (S.length + 1) 1 0 0))], (F i).1⟩) x.l.length (st0 := ⟨[(6, .one (.v (.int .i64 (0 : Nat)))), (1, .one (.v (.string by_))), (2, .one (.ptr S.length 1 0 0)), (4, .one (.ptr (S.length + 1) 1 0 0))], (F 0).1⟩) (by rw [hF1]; exact Le.sub (by simp [Sub, find])) ⟨0, rfl, Nat.zero_le _, rfl⟩ ?_
  intro n' st hst
  obtain ⟨i, rfl, hi, rfl⟩ := hst
  have hw2 : IntKind.i64.wrap ((i : Int) + 1) = ((i + 1 : Nat) : Int) := by rw [wrap64 (by omega) (by omega)]; omega
  obtain ⟨w1, w2, -, w4, w5, -, -⟩ := hFI i hi
  by_cases hlt : i < x.l.length
  · have hd1 : decide ((i : Int) < (x.l.length : Int)) = true := by simp; omega
    obtain ⟨jL, r0, cs', S9, hjlt, hcL, hjj, hr0, hr11, hc11, hfn, h9b, h9L, hFi⟩ := hFR i hlt
    have hql := w5.len
    rw [mtk_len] at hql
    rw [hql] at hcL
    generalize hFq : (F i).2 = q at *
    generalize hFs : (F i).1 = A at *
    have hr12 : List.take 11 r0 = r0 := List.take_of_length_le (by omega)
    have hr13 : List.drop 11 r0 = [] := List.drop_of_length_le (by omega)
    obtain ⟨c9, hc9⟩ : ∃ c9 : List (Option Ob), c9 = pts [(S.length, B), (jL, ⟨33, 11, q⟩)] := ⟨_, rfl⟩
    have q1 : c9[S.length]? = some (some B) := by rw [hc9]; exact pts_get (q := (S.length, B)) (by simp)
    have q2 : c9[jL]? = some (some ⟨33, 11, q⟩) := by rw [hc9]; exact pts_get (q := (jL, _)) (by rw [List.find?_cons_of_neg (by simp; omega)]; simp)
    have hle : ∀ s ∈ [A, S9], LeS c9 s := by
      rw [hc9]
      intro s hs
      refine LeS.pts ?_
      simp only [List.mem_cons, List.not_mem_nil, or_false, forall_eq_or_imp, forall_eq] at hs ⊢
      rcases hs with rfl | rfl
      · exact ⟨⟨_, w1, rfl, rfl, FzR.same _ _ _⟩, ⟨_, hjj, rfl, rfl, FzR.same _ _ _⟩⟩
      · exact ⟨⟨_, h9b, rfl, rfl, FzR.same _ _ _⟩, ⟨_, h9L, rfl, rfl, FzR.same _ _ _⟩⟩
    rw [hB2] at w1 q1
    repeat (first | (apply fw; focus ((with_reducible constructor) <;> rfl)) | ((refine WpA.cond_t ?_ ?_); focus (simp only [find, seval]; done)) | ((refine WpA.cond_f ?_ ?_); focus (simp only [find, seval]; done)) | ((with_reducible refine WpA.go _ rfl fun K9 hK9 => ?_); simp only [zb, Value.oneCell', seval, w35, w1, hcL, hd1]; (refine RunTo.mk (by first | exact trivial | omega | (simp; done) | (simp; omega)) (hK9 _ _ ?_)); clear hK9 K9))
    skip
    skip
    (refine WpA.draw1 11 [9] c9 [A, S9] _ _ _ _ rfl rfl rfl (by kernel_rfl) (by kernel_rfl) (by kernel_rfl) (by kernel_rfl) rfl rfl rfl rfl (by decide) fun K8 hK8 => ?_)
    simp only [List.take_succ_cons, List.take_zero, List.drop_succ_cons, List.drop_zero, List.map_cons, List.map_nil] at hK8 ⊢
    (refine Draw1.go fun K7 hK7 => ?_); simp only [runQ, putE, zb, Value.oneCell', seval, w35, q1, q2, hcL, hr0, hr11, hr12, hql]; (refine RunQ.mk (by first | exact trivial | omega | (simp; done) | (simp; omega)) (hK7 _ _ (by rfl) ?_)); clear hK7 K7; (simp only [List.length_cons, List.length_nil, Nat.reduceAdd, Nat.reduceSub]); (try ((refine Draw1.nil hle (hK8 _ ?_)); clear hK8 K8; ((refine WpL.go _ rfl fun K9 hK9 => ?_); simp only [zb, Value.oneCell', seval, w35, q1, q2, hcL, hr0, hr11, hr12, hql]; (refine RunTo.mk (by first | exact trivial | omega | (simp; done) | (simp; omega)) (hK9 _ _ ?_)); clear hK9 K9); repeat (first | (apply fw; focus ((with_reducible constructor) <;> rfl)) | ((refine WpA.cond_t ?_ ?_); focus (simp only [find, seval]; done)) | ((refine WpA.cond_f ?_ ?_); focus (simp only [find, seval]; done)) | ((with_reducible refine WpA.go _ rfl fun K9 hK9 => ?_); simp only [zb, Value.oneCell', seval, w35, q1, q2, hcL, hr0, hr11, hr12, hql]; (refine RunTo.mk (by first | exact trivial | omega | (simp; done) | (simp; omega)) (hK9 _ _ ?_)); clear hK9 K9))))
    refine Draw1.eff 0 rfl rfl rfl (OpS.handAll rfl rfl rfl (by kernel_rfl) (ALes.refl _) hfn) ?_
    simp only [putE]
    (refine Draw1.go fun K7 hK7 => ?_); simp only [runQ, putE, zb, Value.oneCell', seval, w35, q1, q2, h9L, hr0, hr11, hr12, hr13, hc11, hql, hw2]; (refine RunQ.mk (by first | exact trivial | omega | (simp; done) | (simp; omega)) (hK7 _ _ (by rfl) ?_)); clear hK7 K7; (simp only [List.length_cons, List.length_nil, Nat.reduceAdd, Nat.reduceSub]); (try ((refine Draw1.nil hle (hK8 _ ?_)); clear hK8 K8; ((refine WpL.go _ rfl fun K9 hK9 => ?_); simp only [zb, Value.oneCell', seval, w35, q1, q2, h9L, hr0, hr11, hr12, hr13, hc11, hql, hw2]; (refine RunTo.mk (by first | exact trivial | omega | (simp; done) | (simp; omega)) (hK9 _ _ ?_)); clear hK9 K9); repeat (first | (apply fw; focus ((with_reducible constructor) <;> rfl)) | ((refine WpA.cond_t ?_ ?_); focus (simp only [find, seval]; done)) | ((refine WpA.cond_f ?_ ?_); focus (simp only [find, seval]; done)) | ((with_reducible refine WpA.go _ rfl fun K9 hK9 => ?_); simp only [zb, Value.oneCell', seval, w35, q1, q2, h9L, hr0, hr11, hr12, hr13, hc11, hql, hw2]; (refine RunTo.mk (by first | exact trivial | omega | (simp; done) | (simp; omega)) (hK9 _ _ ?_)); clear hK9 K9))))
    refine ⟨x.l.length - (i + 1), ⟨[(6, .one (.v (.int .i64 ((i + 1 : Nat) : Int)))), (1, .one (.v (.string by_))), (2, .one (.ptr S.length 1 0 0)), (4, .one (.ptr (S.length + 1) 1 0 0))], (F (i + 1)).1⟩, by omega, ?_, i + 1, rfl, hlt, rfl⟩
    rw [hFi]
    exact Le.sub (by simp [Sub, find])
  · have hd0 : decide ((i : Int) < (x.l.length : Int)) = false := by simp; omega
    have hii : i = x.l.length := by omega
    subst hii
    rw [hB2] at w1
    simp only [zeroOb] at w2
    have hl9 : S.length + 1 < (F x.l.length).1.length := (List.getElem?_eq_some_iff.1 w2).1
    have hw5 := w5.len
    rw [mtk_len] at hw5
    have hlen : ∀ s (e : Bool), lenB s e cL = some (e = false, (x.l.length : Int)) := fun s e => by
      rw [← hw5]
      exact w4.at.len s e
    repeat (first | (apply fw; focus ((with_reducible constructor) <;> rfl)) | ((refine WpA.cond_t ?_ ?_); focus (simp only [find, seval]; done)) | ((refine WpA.cond_f ?_ ?_); focus (simp only [find, seval]; done)) | ((with_reducible refine WpA.go _ rfl fun K9 hK9 => ?_); simp only [zb, Value.oneCell', seval, w35, w1, w2, hd0, hlen]; (refine RunTo.mk (by first | exact trivial | omega | (simp; done) | (simp; omega)) (hK9 _ _ ?_)); clear hK9 K9))
    repeat (first | (apply fw; focus ((with_reducible constructor) <;> rfl)) | ((refine WpA.cond_t ?_ ?_); focus (simp only [find, seval]; done)) | ((refine WpA.cond_f ?_ ?_); focus (simp only [find, seval]; done)) | ((with_reducible refine WpA.go _ rfl fun K9 hK9 => ?_); simp only [zb, Value.oneCell', seval, w35, w1, w2, hd0, hlen]; (refine RunTo.mk (by first | exact trivial | omega | (simp; done) | (simp; omega)) (hK9 _ _ ?_)); clear hK9 K9))
    refine ⟨.inl rfl, _, _, _, _, (by simp only [resA, find, reduceIte, Nat.reduceEqDiff, loadA, partC, List.getElem?_set_self hl9, List.getElem?_cons_zero, List.drop_zero, List.take_succ_cons, List.take_zero, List.length_cons, List.length_nil, w35]; rfl), by simp, Le.refl _ _, rfl, ?_⟩
    rw [hB2]
theorem turn_upto (by_ : ByteArray) (hby : by_.size ≤ 50) : ∀ n, TurnTo by_ n
  | 0 => fun x h => absurd h (by have := x.ht_pos; omega)
  | n + 1 => turn_step by_ hby n (turn_upto by_ hby n)
end Go.Proofs.YtpacdmgnpadleaaDoor
end

section
/-
  The law ScopePlaces.
-/
namespace Go.Proofs.YtpacdmgnpadleaaDoor
open Go Go.RowKit Go.Lib
set_option linter.unusedSimpArgs false
set_option linter.unusedVariables false
set_option maxHeartbeats 4000000
set_option maxRecDepth 100000
theorem renamed_pure (by_ : ByteArray) (hby : by_.size ≤ 50) (x : K) (hx : x.Lg) (hn : x.Nm) : Pure Tryd.prog 19 [.agg x.cc, .one (.v (.string by_))] (.agg (x.ren by_).cc) := by
  refine Fn.frozen (R := fun r s => ∃ cs fp, r = .agg cs ∧ OwnK s (x.ren by_) cs fp) (by simp only [A.shut, List.all_eq_true]; exact fun c hc => (x.ren by_).cc_shut c hc) ?_ ?_
  case refine_2 =>
    rintro r s ⟨cs, fp, rfl, h⟩
    exact h.fz fun _ _ => rfl
  have hc0 := cop_upto x.ht x (Nat.le_refl _) hx
  rw [K.cc_eq] at hc0 ⊢
  refine Fn.introT Tryd.func19 rfl Tryd.ntmps19 Tryd.results19 (by simp only [List.length_cons, List.length_nil]; decide) ?_
  repeat (first | (apply fw; focus ((with_reducible constructor) <;> rfl)) | ((refine WpA.cond_t ?_ ?_); focus (simp only [find, seval]; done)) | ((refine WpA.cond_f ?_ ?_); focus (simp only [find, seval]; done)) | ((with_reducible refine WpA.go _ rfl fun K9 hK9 => ?_); simp only [zb, Value.oneCell', seval, w19]; (refine RunTo.mk (by first | exact trivial | omega | (simp; done) | (simp; omega)) (hK9 _ _ ?_)); clear hK9 K9))
  refine WpL.handAll rfl (guardA_sound (P := Tryd.prog) rfl) rfl rfl (by kernel_rfl) (ALes.refl _) (hc0 _) ?_
  rintro _ S1 ⟨cs, fp, rfl, h1, h2, h3, h4, h5⟩
  have hl := h1.len
  simp only [List.length_cons, List.length_nil] at h3
  have b0 := h5 0 _ rfl
  have b1 := h5 1 _ rfl
  have hlt0 := (List.getElem?_eq_some_iff.1 b0).1
  have hlt1 := (List.getElem?_eq_some_iff.1 b1).1
  have d11 : List.drop 11 cs = [] := List.drop_of_length_le (by omega)
  have t11 : List.take 11 cs = cs := List.take_of_length_le (by omega)
  have c0 : ∀ z : Option Ob, (S1.set 0 z)[0]? = some z := fun z => List.getElem?_set_self hlt0
  ((refine WpL.go _ rfl fun K9 hK9 => ?_); simp only [zb, Value.oneCell', seval, w19, b0, hl, d11, t11, c0]; (refine RunTo.mk (by first | exact trivial | omega | (simp; done) | (simp; omega)) (hK9 _ _ ?_)); clear hK9 K9); repeat (first | (apply fw; focus ((with_reducible constructor) <;> rfl)) | ((refine WpA.cond_t ?_ ?_); focus (simp only [find, seval]; done)) | ((refine WpA.cond_f ?_ ?_); focus (simp only [find, seval]; done)) | ((with_reducible refine WpA.go _ rfl fun K9 hK9 => ?_); simp only [zb, Value.oneCell', seval, w19, b0, hl, d11, t11, c0]; (refine RunTo.mk (by first | exact trivial | omega | (simp; done) | (simp; omega)) (hK9 _ _ ?_)); clear hK9 K9))
  obtain ⟨S2, hS2⟩ : ∃ S2, S2 = S1.set 0 (some ⟨33, 11, [cs]⟩) := ⟨_, rfl⟩
  have h6 : OwnK S2 x cs fp := h1.keep fun j hj => by rw [hS2, List.getElem?_set_ne (by have := h3 j hj; omega)]
  obtain ⟨cs', S9, k1, k2, k3, k4⟩ := turn_upto by_ hby x.ht x (Nat.le_refl _) hx hn S2 cs fp h6 h2
  rw [← hS2]
  refine WpL.handAll rfl (guardA_sound (P := Tryd.prog) rfl) rfl rfl (by kernel_rfl) (ALes.refl _) k4 ?_
  rintro _ S' ⟨rfl, hs9⟩
  rw [hs9]
  clear hs9 S'
  have hl2 : S2.length = S1.length := by rw [hS2]; simp
  have e1 : S9[1]? = _ := (k3 1 (by omega) (fun h => by have := h3 1 h; omega)).trans ((by rw [hS2, List.getElem?_set_ne (by omega)] : S2[1]? = S1[1]?).trans b1)
  have hl9 := k1.len
  have d9 : List.drop 11 cs' = [] := List.drop_of_length_le (by omega)
  have t9 : List.take 11 cs' = cs' := List.take_of_length_le (by omega)
  have hlt9 : 1 < S9.length := by omega
  ((refine WpL.go _ rfl fun K9 hK9 => ?_); simp only [zb, Value.oneCell', seval, w19, e1, hl9, d9, t9]; (refine RunTo.mk (by first | exact trivial | omega | (simp; done) | (simp; omega)) (hK9 _ _ ?_)); clear hK9 K9); repeat (first | (apply fw; focus ((with_reducible constructor) <;> rfl)) | ((refine WpA.cond_t ?_ ?_); focus (simp only [find, seval]; done)) | ((refine WpA.cond_f ?_ ?_); focus (simp only [find, seval]; done)) | ((with_reducible refine WpA.go _ rfl fun K9 hK9 => ?_); simp only [zb, Value.oneCell', seval, w19, e1, hl9, d9, t9]; (refine RunTo.mk (by first | exact trivial | omega | (simp; done) | (simp; omega)) (hK9 _ _ ?_)); clear hK9 K9))
  refine ⟨.inl rfl, _, _, _, _, (by simp only [resA, find, reduceIte, Nat.reduceEqDiff, loadA, partC, List.getElem?_set_self hlt9, List.getElem?_cons_zero, List.drop_zero, List.take_succ_cons, List.take_zero, List.length_cons, List.length_nil, w19]; rfl), by simp [hl9], Le.refl _ _, cs', fp, ?_, k1.keep fun j hj => by rw [List.getElem?_set_ne (by have := h3 j hj; omega)]⟩
  simp only [tupA, t9, List.append_nil]
mutual
theorem meas_nm : ∀ (x : K) (left : Int), 0 ≤ left → 0 ≤ x.meas left → x.Nm
  | .mk k name rest params d l, left, h, h0 => by
    rw [K.meas_eq] at h0
    by_cases hc : 100 < (K.mk k name rest params d l).params.length ∨ 500 < (K.mk k name rest params d l).name.size ∨ 500 < (K.mk k name rest params d l).rest.size ∨ ∃ s ∈ (K.mk k name rest params d l).params, 500 < s.size
    · rw [if_pos hc] at h0; omega
    · rw [if_neg hc] at h0
      change 0 ≤ K.meass l (d.weigh p19 (left - 1)) at h0
      exact ⟨Nat.not_lt.1 fun hn => hc (.inr (.inl hn)), Nat.not_lt.1 fun hn => hc (.inr (.inr (.inl hn))), fun s hs => Nat.not_lt.1 fun hn => hc (.inr (.inr (.inr ⟨s, hs, hn⟩))), meass_nm l _ h0⟩
theorem meass_nm : ∀ (l : List K) (left : Int), 0 ≤ K.meass l left → K.Nms l
  | [], _, _ => trivial
  | x :: l, left, h => by
    rw [K.meass] at h
    by_cases hc : left < 0
    · rw [if_pos hc] at h; omega
    · rw [if_neg hc] at h
      by_cases hx : x.meas left < 0
      · rw [meass_neg _ _ hx] at h; omega
      · exact ⟨meas_nm x left (by omega) (by omega), meass_nm l _ h⟩
end
mutual
theorem lg_ren (b : ByteArray) : ∀ {x : K}, x.Lg → (x.ren b).Lg
  | .mk k name rest params d l, h => by
    rw [K.ren]
    exact ⟨h.1, by rw [List.length_map]; exact h.2.1, h.2.2.1, h.2.2.2.1, by rw [K.rens_map, List.length_map]; exact h.2.2.2.2.1, lgs_ren b h.2.2.2.2.2⟩
theorem lgs_ren (b : ByteArray) : ∀ {l : List K}, K.Lgs l → K.Lgs (K.rens b l)
  | [], _ => trivial
  | c :: l, h => by rw [K.rens]; exact ⟨lg_ren b h.1, lgs_ren b h.2⟩
end
/-- Names that are not too long. -/
def Sz (l : List ByteArray) : Prop := ∀ s ∈ l, s.size ≤ 500
theorem addN_sz {l : List ByteArray} {s : ByteArray} (h : Sz l) (hs : s.size ≤ 500) : Sz (addN l s) := by
  unfold addN
  split
  · exact h
  · intro t ht
    rcases List.mem_append.1 ht with q | q
    · exact h t q
    · rw [List.mem_singleton.1 q]; exact hs
theorem varN_sz (c : Cd) (sc : List (List ByteArray)) (s : ByteArray) (lo gl : Int) (h : Sz c.globals) (hs : s.size ≤ 500) : Sz (varN c sc s lo gl).2.globals := by
  unfold varN
  split
  · exact h
  · exact addN_sz h hs
theorem nodeN_sz (c : Cd) (x : K) (sc : List (List ByteArray)) (hm : x.Nm) (h : Sz c.globals) : Sz (nodeN c x sc).2.globals := by
  unfold nodeN
  repeat' split
  all_goals first | exact h | exact varN_sz _ _ _ _ _ h hm.name
mutual
theorem emit_sz : ∀ (x : K) (c : Cd) (sc : List (List ByteArray)) (n : Nat), x.Nm → Sz c.globals → Sz (emit x c sc n).2.globals
  | .mk k name rest params d l, c, sc, n, hm, h => by
    have h1 := nodeN_sz c (.mk k name rest params d l) sc hm h
    rw [emit_eq]
    exact emits_sz l _ _ _ hm.2.2.2 h1
theorem emits_sz : ∀ (l : List K) (c : Cd) (sc : List (List ByteArray)) (n : Nat), K.Nms l → Sz c.globals → Sz (emits l c sc n).2.globals
  | [], c, sc, n, hm, h => by rw [emits]; exact h
  | x :: l, c, sc, n, hm, h => by
    rw [emits]
    exact emits_sz l _ _ _ hm.2 (emit_sz x c sc n hm.1 h)
end
theorem codeN_sz (l : List K) (hm : K.Nms l) : Sz (codeN l).globals := by
  have key : ∀ (l : List K) (c : Cd), K.Nms l → Sz c.globals → Sz (l.foldl topN c).globals := by
    intro l
    induction l with
    | nil => intro c _ h; exact h
    | cons x l ih =>
      intro c hm h
      rw [List.foldl_cons]
      exact ih _ hm.2 (emit_sz x c [] _ hm.1 h)
  exact key l .zero hm (fun s hs => by cases hs)
theorem codeA_both (l : List K) (by_ : ByteArray) (hlg : K.Lgs l) (hnm : K.Nms l) (hsz : K.sizes l ≤ 1500) : ∃ (a : Cd) (ev : Int), codeA l = .tup [.agg (codeC a), .one (.v (.int .i64 ev))] ∧ codeA (l.map (K.ren by_)) = .tup [.agg (codeC (a.ren by_)), .one (.v (.int .i64 ev))] ∧ Ne a.globals ∧ Sz a.globals ∧ a.Bd := by
  cases hm : l.all (·.may true) with
  | false =>
    have hm2 : (l.map (K.ren by_)).all (·.may true) = false := by rw [all_ren, hm]
    exact ⟨.zero, 1, codeA_no hm, codeA_no hm2, fun s hs => (by cases hs), fun s hs => (by cases hs), ⟨by simp [Cd.zero], by simp [Cd.zero], by simp [Cd.zero], by simp [Cd.zero], by simp [Cd.zero]⟩⟩
  | true =>
    have hm2 : (l.map (K.ren by_)).all (·.may true) = true := by rw [all_ren, hm]
    have hpk : K.Pks l := K.Lgs.pks (t := true) hlg (by rw [K.mays_any]; rw [List.all_eq_not_any_not] at hm; exact hm)
    refine ⟨codeN l, 0, codeA_yes hm, ?_, codeN_ne l hm, codeN_sz l hnm, codeN_bd l (by omega)⟩
    rw [codeA_yes hm2, codeN_ren by_ l hpk]
def OthI (l : List K) (by_ : ByteArray) (n : Nat) (st : St) : Prop := ∃ (i : Nat) (S : List (Option Ob)) (cO : C), n = l.length - i ∧ i ≤ l.length ∧ At 33 11 S cO ((l.take i).map fun x => (x.ren by_).cc) ∧
  st = ⟨[(6, .one (.v (.int .i64 i))), (5, .one cO), (0, .one (.sl 11 (l.map K.cc))), (1, .one (.v (.string by_)))], S⟩
theorem lawPlaces_pure (l : List K) (by_ : ByteArray) (hok : K.Oks l) (hlen : l.length ≤ 1000000000000000) (hbs : by_.size ≤ 140737488351232) : Pure Tryd.prog 5 [.one (.sl 11 (l.map K.cc)), .one (.v (.string by_))] (.one (.v (.bool true))) := by
  have hh := heavy_pure l hok hlen
  have hlt := fun h => light_all (l := l) hok h
  cases hb1 : decide (K.meass l 1500 < 0)
  case true =>
    rw [hb1] at hh
    refine Fn.intro Tryd.func5 rfl Tryd.ntmps5 Tryd.results5 (by simp only [List.length_cons, List.length_nil]; decide) ?_
    repeat (first | (apply fw; focus ((with_reducible constructor) <;> rfl)) | ((refine WpA.cond_t ?_ ?_); focus (simp only [find, seval]; done)) | ((refine WpA.cond_f ?_ ?_); focus (simp only [find, seval]; done)) | ((with_reducible refine WpA.go _ rfl fun K9 hK9 => ?_); simp only [zb, Value.oneCell', seval, w5]; (refine RunTo.mk (by first | exact trivial | omega | (simp; done) | (simp; omega)) (hK9 _ _ ?_)); clear hK9 K9))
    refine WpL.call rfl (guardA_sound (P := Tryd.prog) rfl) (CallA.shut rfl rfl (by kernel_rfl) (by first | exact ALes.refl _ | (simp only [List.cons_append, List.nil_append, List.map_nil]; exact ALes.refl _)) (by first | rfl | (simp [shuts, A.shut, C.shut]; done)) (hh) ?_)
    ((refine WpL.go _ rfl fun K9 hK9 => ?_); simp only [zb, Value.oneCell', seval, w5]; (refine RunTo.mk (by first | exact trivial | omega | (simp; done) | (simp; omega)) (hK9 _ _ ?_)); clear hK9 K9); repeat (first | (apply fw; focus ((with_reducible constructor) <;> rfl)) | ((refine WpA.cond_t ?_ ?_); focus (simp only [find, seval]; done)) | ((refine WpA.cond_f ?_ ?_); focus (simp only [find, seval]; done)) | ((with_reducible refine WpA.go _ rfl fun K9 hK9 => ?_); simp only [zb, Value.oneCell', seval, w5]; (refine RunTo.mk (by first | exact trivial | omega | (simp; done) | (simp; omega)) (hK9 _ _ ?_)); clear hK9 K9))
    refine WpL.call rfl (guardA_sound (P := Tryd.prog) rfl) (CallA.shut rfl rfl (by kernel_rfl) (by first | exact ALes.refl _ | (simp only [List.cons_append, List.nil_append, List.map_nil]; exact ALes.refl _)) (by first | rfl | (simp [shuts, A.shut, C.shut]; done)) (awake_pure) ?_)
    ((refine WpL.go _ rfl fun K9 hK9 => ?_); simp only [zb, Value.oneCell', seval, w5]; (refine RunTo.mk (by first | exact trivial | omega | (simp; done) | (simp; omega)) (hK9 _ _ ?_)); clear hK9 K9); repeat (first | (apply fw; focus ((with_reducible constructor) <;> rfl)) | ((refine WpA.cond_t ?_ ?_); focus (simp only [find, seval]; done)) | ((refine WpA.cond_f ?_ ?_); focus (simp only [find, seval]; done)) | ((with_reducible refine WpA.go _ rfl fun K9 hK9 => ?_); simp only [zb, Value.oneCell', seval, w5]; (refine RunTo.mk (by first | exact trivial | omega | (simp; done) | (simp; omega)) (hK9 _ _ ?_)); clear hK9 K9))
    refine ⟨by first | exact .inl rfl | exact .inr rfl, _, _, _, _, (by simp only [resA, find, reduceIte, Nat.reduceEqDiff, loadA, partC, List.getElem?_cons_zero, List.getElem?_cons_succ, List.drop_zero, List.drop_succ_cons, List.take_succ_cons, List.take_zero, List.length_cons, List.length_nil, w5]; rfl), (by first | exact trivial | (simp; done)), (by simp only [tupA, viewA, viewC, viewCs, viewAs, List.getElem?_cons_zero, List.getElem?_cons_succ]; rfl), (by first | exact trivial | (simp; done)), _, ALe.refl _, ?_⟩
    rfl
  rw [hb1] at hh
  obtain ⟨hlg, hsz, hll⟩ := hlt (of_decide_eq_false hb1)
  have hnm := meass_nm l 1500 (Int.not_lt.1 (of_decide_eq_false hb1))
  by_cases hby : by_.size ≤ 50
  case neg =>
    have hd : decide ((50 : Int) < (by_.size : Int)) = true := by simp; omega
    refine Fn.intro Tryd.func5 rfl Tryd.ntmps5 Tryd.results5 (by simp only [List.length_cons, List.length_nil]; decide) ?_
    repeat (first | (apply fw; focus ((with_reducible constructor) <;> rfl)) | ((refine WpA.cond_t ?_ ?_); focus (simp only [find, seval]; done)) | ((refine WpA.cond_f ?_ ?_); focus (simp only [find, seval]; done)) | ((with_reducible refine WpA.go _ rfl fun K9 hK9 => ?_); simp only [zb, Value.oneCell', seval, w5]; (refine RunTo.mk (by first | exact trivial | omega | (simp; done) | (simp; omega)) (hK9 _ _ ?_)); clear hK9 K9))
    refine WpL.call rfl (guardA_sound (P := Tryd.prog) rfl) (CallA.shut rfl rfl (by kernel_rfl) (by first | exact ALes.refl _ | (simp only [List.cons_append, List.nil_append, List.map_nil]; exact ALes.refl _)) (by first | rfl | (simp [shuts, A.shut, C.shut]; done)) (hh) ?_)
    ((refine WpL.go _ rfl fun K9 hK9 => ?_); simp only [zb, Value.oneCell', seval, w5, hd]; (refine RunTo.mk (by first | exact trivial | omega | (simp; done) | (simp; omega)) (hK9 _ _ ?_)); clear hK9 K9); repeat (first | (apply fw; focus ((with_reducible constructor) <;> rfl)) | ((refine WpA.cond_t ?_ ?_); focus (simp only [find, seval]; done)) | ((refine WpA.cond_f ?_ ?_); focus (simp only [find, seval]; done)) | ((with_reducible refine WpA.go _ rfl fun K9 hK9 => ?_); simp only [zb, Value.oneCell', seval, w5, hd]; (refine RunTo.mk (by first | exact trivial | omega | (simp; done) | (simp; omega)) (hK9 _ _ ?_)); clear hK9 K9))
    refine WpL.call rfl (guardA_sound (P := Tryd.prog) rfl) (CallA.shut rfl rfl (by kernel_rfl) (by first | exact ALes.refl _ | (simp only [List.cons_append, List.nil_append, List.map_nil]; exact ALes.refl _)) (by first | rfl | (simp [shuts, A.shut, C.shut]; done)) (awake_pure) ?_)
    ((refine WpL.go _ rfl fun K9 hK9 => ?_); simp only [zb, Value.oneCell', seval, w5]; (refine RunTo.mk (by first | exact trivial | omega | (simp; done) | (simp; omega)) (hK9 _ _ ?_)); clear hK9 K9); repeat (first | (apply fw; focus ((with_reducible constructor) <;> rfl)) | ((refine WpA.cond_t ?_ ?_); focus (simp only [find, seval]; done)) | ((refine WpA.cond_f ?_ ?_); focus (simp only [find, seval]; done)) | ((with_reducible refine WpA.go _ rfl fun K9 hK9 => ?_); simp only [zb, Value.oneCell', seval, w5]; (refine RunTo.mk (by first | exact trivial | omega | (simp; done) | (simp; omega)) (hK9 _ _ ?_)); clear hK9 K9))
    refine ⟨by first | exact .inl rfl | exact .inr rfl, _, _, _, _, (by simp only [resA, find, reduceIte, Nat.reduceEqDiff, loadA, partC, List.getElem?_cons_zero, List.getElem?_cons_succ, List.drop_zero, List.drop_succ_cons, List.take_succ_cons, List.take_zero, List.length_cons, List.length_nil, w5]; rfl), (by first | exact trivial | (simp; done)), (by simp only [tupA, viewA, viewC, viewCs, viewAs, List.getElem?_cons_zero, List.getElem?_cons_succ]; rfl), (by first | exact trivial | (simp; done)), _, ALe.refl _, ?_⟩
    rfl
  have hd : decide ((50 : Int) < (by_.size : Int)) = false := by simp; omega
  have hcp := code_pure l hlg (by omega) (by omega)
  have mcp := code_pure (l.map (K.ren by_)) (by rw [← K.rens_map]; exact lgs_ren by_ hlg) (by simp; omega) (by rw [← K.rens_map, sizes_ren]; omega)
  refine Fn.intro Tryd.func5 rfl Tryd.ntmps5 Tryd.results5 (by simp only [List.length_cons, List.length_nil]; decide) ?_
  repeat (first | (apply fw; focus ((with_reducible constructor) <;> rfl)) | ((refine WpA.cond_t ?_ ?_); focus (simp only [find, seval]; done)) | ((refine WpA.cond_f ?_ ?_); focus (simp only [find, seval]; done)) | ((with_reducible refine WpA.go _ rfl fun K9 hK9 => ?_); simp only [zb, Value.oneCell', seval, w5]; (refine RunTo.mk (by first | exact trivial | omega | (simp; done) | (simp; omega)) (hK9 _ _ ?_)); clear hK9 K9))
  refine WpL.call rfl (guardA_sound (P := Tryd.prog) rfl) (CallA.shut rfl rfl (by kernel_rfl) (by first | exact ALes.refl _ | (simp only [List.cons_append, List.nil_append, List.map_nil]; exact ALes.refl _)) (by first | rfl | (simp [shuts, A.shut, C.shut]; done)) (hh) ?_)
  ((refine WpL.go _ rfl fun K9 hK9 => ?_); simp only [zb, Value.oneCell', seval, w5, hd]; (refine RunTo.mk (by first | exact trivial | omega | (simp; done) | (simp; omega)) (hK9 _ _ ?_)); clear hK9 K9); repeat (first | (apply fw; focus ((with_reducible constructor) <;> rfl)) | ((refine WpA.cond_t ?_ ?_); focus (simp only [find, seval]; done)) | ((refine WpA.cond_f ?_ ?_); focus (simp only [find, seval]; done)) | ((with_reducible refine WpA.go _ rfl fun K9 hK9 => ?_); simp only [zb, Value.oneCell', seval, w5, hd]; (refine RunTo.mk (by first | exact trivial | omega | (simp; done) | (simp; omega)) (hK9 _ _ ?_)); clear hK9 K9))
  repeat (first | (apply fw; focus ((with_reducible constructor) <;> rfl)) | ((refine WpA.cond_t ?_ ?_); focus (simp only [find, seval]; done)) | ((refine WpA.cond_f ?_ ?_); focus (simp only [find, seval]; done)) | ((with_reducible refine WpA.go _ rfl fun K9 hK9 => ?_); simp only [zb, Value.oneCell', seval, w5]; (refine RunTo.mk (by first | exact trivial | omega | (simp; done) | (simp; omega)) (hK9 _ _ ?_)); clear hK9 K9))
  refine WpA.loop (OthI l by_) l.length (st0 := ⟨[(6, .one (.v (.int .i64 (0 : Nat)))), (5, .one (.v (.slice none 0 0))), (0, .one (.sl 11 (l.map K.cc))), (1, .one (.v (.string by_)))], []⟩) (Le.sub (by simp [Sub, find])) ⟨0, _, _, rfl, Nat.zero_le _, At.nil _ _ _, rfl⟩ ?_
  intro n' st hst
  obtain ⟨i, S, cO, rfl, hi, hA, rfl⟩ := hst
  have hw2 : IntKind.i64.wrap ((i : Int) + 1) = ((i + 1 : Nat) : Int) := by rw [wrap64 (by omega) (by omega)]; omega
  by_cases hlt : i < l.length
  · have hd1 : decide ((i : Int) < (l.length : Int)) = true := by simp; omega
    have hget := getK hlt
    have hml : l[i] ∈ l := List.getElem_mem _
    have hrp := renamed_pure by_ hby l[i] (hlg.mem hml) (hnm.get i hlt)
    obtain ⟨S8, jL, hA8, hj8, hl8, hfr8, hpl8, hop8⟩ := append_op (P := Tryd.prog) (T := 22) (by_ := 176) elt_22 byt_22 zel_22 (by omega) (S := S ++ [some ⟨33, 11, [(l[i].ren by_).cc]⟩]) (hA.app _) (q := S.length) (new := [(l[i].ren by_).cc]) (by simp) (by simp) (fun n e => by have := hA.lt e; omega) (by simp; omega) (by simp; omega)
    have hrL : ((l.take i).map fun x => (x.ren by_).cc) ++ [(l[i].ren by_).cc] = (l.take (i + 1)).map fun x => (x.ren by_).cc := by rw [List.take_succ_eq_append_getElem hlt, List.map_append]; rfl
    rw [hrL] at hA8
    rw [K.cc_eq (l[i].ren by_)] at hop8 hrp
    rw [K.cc_eq l[i]] at hget hrp
    simp only [List.length_cons, List.length_nil, Nat.zero_add] at hop8 hA8
    repeat (first | (apply fw; focus ((with_reducible constructor) <;> rfl)) | ((refine WpA.cond_t ?_ ?_); focus (simp only [find, seval]; done)) | ((refine WpA.cond_f ?_ ?_); focus (simp only [find, seval]; done)) | ((with_reducible refine WpA.go _ rfl fun K9 hK9 => ?_); simp only [zb, Value.oneCell', seval, w5, hd1, hget]; (refine RunTo.mk (by first | exact trivial | omega | (simp; done) | (simp; omega)) (hK9 _ _ ?_)); clear hK9 K9))
    refine WpL.call rfl (guardA_sound (P := Tryd.prog) rfl) (CallA.shut rfl rfl (by kernel_rfl) (by first | exact ALes.refl _ | (simp only [List.cons_append, List.nil_append, List.map_nil]; exact ALes.refl _)) (by first | rfl | (simp [shuts, A.shut, C.shut]; done)) (hrp) ?_)
    (try simp only [St.put]); (refine WpL.op rfl (guardA_sound (P := Tryd.prog) rfl) (aop_sound (by simp only [zb, Value.oneCell', seval, w5]; rfl) (by first | exact trivial | omega | (simp; done) | (simp; omega))) ?_); simp only [St.put]
    refine WpL.aop rfl (hop8 _ _ _ rfl rfl) ?_
    simp only [St.put]
    ((refine WpL.go _ rfl fun K9 hK9 => ?_); simp only [zb, Value.oneCell', seval, w5, hw2]; (refine RunTo.mk (by first | exact trivial | omega | (simp; done) | (simp; omega)) (hK9 _ _ ?_)); clear hK9 K9); repeat (first | (apply fw; focus ((with_reducible constructor) <;> rfl)) | ((refine WpA.cond_t ?_ ?_); focus (simp only [find, seval]; done)) | ((refine WpA.cond_f ?_ ?_); focus (simp only [find, seval]; done)) | ((with_reducible refine WpA.go _ rfl fun K9 hK9 => ?_); simp only [zb, Value.oneCell', seval, w5, hw2]; (refine RunTo.mk (by first | exact trivial | omega | (simp; done) | (simp; omega)) (hK9 _ _ ?_)); clear hK9 K9))
    exact ⟨l.length - (i + 1), _, by omega, Le.sub (by simp [Sub, find]), i + 1, S8, _, rfl, hlt, hA8, rfl⟩
  · have hd0 : decide ((i : Int) < (l.length : Int)) = false := by simp; omega
    have hii : i = l.length := by omega
    subst hii
    rw [List.take_length] at hA
    repeat (first | (apply fw; focus ((with_reducible constructor) <;> rfl)) | ((refine WpA.cond_t ?_ ?_); focus (simp only [find, seval]; done)) | ((refine WpA.cond_f ?_ ?_); focus (simp only [find, seval]; done)) | ((with_reducible refine WpA.go _ rfl fun K9 hK9 => ?_); simp only [zb, Value.oneCell', seval, w5, hd0]; (refine RunTo.mk (by first | exact trivial | omega | (simp; done) | (simp; omega)) (hK9 _ _ ?_)); clear hK9 K9))
    obtain ⟨S8, z, hz1, hz2, hz3, hz4⟩ := hA.freeze (fun r hr c hc => by
      obtain ⟨x, _, rfl⟩ := List.mem_map.1 hr
      exact (x.ren by_).cc_shut c hc)
    have hmm : ((l.map (K.ren by_)).map K.cc) = l.map fun x => (x.ren by_).cc := by simp
    rw [hmm] at mcp
    refine WpL.le (st' := ⟨[(36, .one (.sl 11 (l.map K.cc))), (0, .one (.sl 11 (l.map K.cc))), (1, .one (.v (.string by_))), (5, .one (.sl 11 (l.map fun x => (x.ren by_).cc)))], []⟩) ?_ ?_
    · refine (Le.freeze (e' := [(36, .one (.sl 11 (l.map K.cc))), (0, .one (.sl 11 (l.map K.cc))), (1, .one (.v (.string by_))), (5, .one (.sl 11 (l.map fun x => (x.ren by_).cc)))]) z hz1 ?_).trans (Le.drop 0 (Nat.zero_le _) rfl (by simp [Sub, find]) rfl (by simp [ObBd]))
      simp only [SubZ]
      exact ⟨⟨_, rfl, FzA.same _ _ _⟩, ⟨_, rfl, FzA.same _ _ _⟩, ⟨_, rfl, FzA.same _ _ _⟩, ⟨_, rfl, hz2⟩, trivial⟩
    clear hz1 hz2 hz3 hz4 hA
    obtain ⟨a, ev, ha1, ha2, hne, hsz5, hbd⟩ := codeA_both l by_ hlg hnm hsz
    rw [ha1] at hcp
    rw [ha2] at mcp
    have hsame := sameCode_pure a a hbd
    rw [eqB_pos rfl] at hsame
    have hg1 := strC_len a.globals
    have hg2 : (strC (a.globals.map (nmBy by_))).length = a.globals.length := by rw [strC_len, List.length_map]
    have hgl : a.globals.length ≤ 1000000000 := by have := hbd.2.2.1; omega
    simp only [codeC, Cd.ren] at hcp mcp hsame
    clear ha1 ha2 hok hh hlg hnm hsz
    refine WpL.call rfl (guardA_sound (P := Tryd.prog) rfl) (CallA.shut rfl rfl (by kernel_rfl) (by first | exact ALes.refl _ | (simp only [List.cons_append, List.nil_append, List.map_nil]; exact ALes.refl _)) (by first | rfl | (simp [shuts, A.shut, C.shut]; done)) (hcp) ?_)
    ((refine WpL.go _ rfl fun K9 hK9 => ?_); simp only [zb, Value.oneCell', seval, w5]; (refine RunTo.mk (by first | exact trivial | omega | (simp; done) | (simp; omega)) (hK9 _ _ ?_)); clear hK9 K9); repeat (first | (apply fw; focus ((with_reducible constructor) <;> rfl)) | ((refine WpA.cond_t ?_ ?_); focus (simp only [find, seval]; done)) | ((refine WpA.cond_f ?_ ?_); focus (simp only [find, seval]; done)) | ((with_reducible refine WpA.go _ rfl fun K9 hK9 => ?_); simp only [zb, Value.oneCell', seval, w5]; (refine RunTo.mk (by first | exact trivial | omega | (simp; done) | (simp; omega)) (hK9 _ _ ?_)); clear hK9 K9))
    refine WpL.call rfl (guardA_sound (P := Tryd.prog) rfl) (CallA.shut rfl rfl (by kernel_rfl) (by first | exact ALes.refl _ | (simp only [List.cons_append, List.nil_append, List.map_nil]; exact ALes.refl _)) (by first | rfl | (simp [shuts, A.shut, C.shut]; done)) (mcp) ?_)
    ((refine WpL.go _ rfl fun K9 hK9 => ?_); simp only [zb, Value.oneCell', seval, w5, hg1, hg2]; (refine RunTo.mk (by first | exact trivial | omega | (simp; done) | (simp; omega)) (hK9 _ _ ?_)); clear hK9 K9); repeat (first | (apply fw; focus ((with_reducible constructor) <;> rfl)) | ((refine WpA.cond_t ?_ ?_); focus (simp only [find, seval]; done)) | ((refine WpA.cond_f ?_ ?_); focus (simp only [find, seval]; done)) | ((with_reducible refine WpA.go _ rfl fun K9 hK9 => ?_); simp only [zb, Value.oneCell', seval, w5, hg1, hg2]; (refine RunTo.mk (by first | exact trivial | omega | (simp; done) | (simp; omega)) (hK9 _ _ ?_)); clear hK9 K9))
    refine WpA.loop (fun n st => ∃ i, n = a.globals.length - i ∧ i ≤ a.globals.length ∧ st = ⟨[(11, .one (.v (.int .i64 (i : Nat)))), (1, .one (.v (.string by_))), (7, .one (.ptr 0 1 0 0)), (9, .one (.ptr 1 1 0 0))], [some ⟨39, 5, [[.sl 4 (a.nodes.map Nd.row), .sl 6 (a.consts.map D.cc), .sl 1 (strC a.globals), .sl 1 (strC a.prims), .sl 1 (intC a.tops)]]⟩, some ⟨39, 5, [[.sl 4 (a.nodes.map Nd.row), .sl 6 (a.consts.map D.cc), .sl 1 (strC (a.globals.map (nmBy by_))), .sl 1 (strC a.prims), .sl 1 (intC a.tops)]]⟩]⟩) a.globals.length (Le.sub (by simp [Sub, find])) ⟨0, rfl, Nat.zero_le _, rfl⟩ ?_
    intro n' st hst
    obtain ⟨i, rfl, hi, rfl⟩ := hst
    have hw2 : IntKind.i64.wrap ((i : Int) + 1) = ((i + 1 : Nat) : Int) := by rw [wrap64 (by omega) (by omega)]; omega
    by_cases hlt : i < a.globals.length
    · have hd1 : decide ((i : Int) < (a.globals.length : Int)) = true := by simp; omega
      have hm := List.getElem_mem hlt
      have hs5 := hsz5 _ hm
      have h1 := strC_get hlt
      have h2 : (strC (a.globals.map (nmBy by_)))[i]? = some [.v (.string (a.globals[i] ++ by_))] := by
        rw [strC_get (by simpa using hlt), List.getElem_map, nmBy, if_neg (hne _ hm)]
      have h3 : eqB (a.globals[i] ++ by_) (a.globals[i] ++ by_) = true := eqB_pos rfl
      repeat (first | (apply fw; focus ((with_reducible constructor) <;> rfl)) | ((refine WpA.cond_t ?_ ?_); focus (simp only [find, seval]; done)) | ((refine WpA.cond_f ?_ ?_); focus (simp only [find, seval]; done)) | ((with_reducible refine WpA.go _ rfl fun K9 hK9 => ?_); simp only [zb, Value.oneCell', seval, w5, hg1, hd1]; (refine RunTo.mk (by first | exact trivial | omega | (simp; done) | (simp; omega)) (hK9 _ _ ?_)); clear hK9 K9))
      (refine WpA.draw0 12 _ _ _ rfl rfl rfl (by kernel_rfl) (by kernel_rfl) (by kernel_rfl) fun K8 hK8 => ?_); simp only [List.take_succ_cons, List.take_zero, List.drop_succ_cons, List.drop_zero, List.map_cons, List.map_nil] at hK8 ⊢; (refine Draw0.go fun K7 hK7 => ?_); simp only [runQ, putE, zb, Value.oneCell', seval, w5, h1, h2, hg1, hg2, strEq, h3, hw2]; (refine RunQ.mk (by first | exact trivial | omega | (simp; done) | (simp; omega)) (hK7 _ _ ?_)); clear hK7 K7; (try ((refine Draw0.nil (hK8 _ ?_)); clear hK8 K8; ((refine WpL.go _ rfl fun K9 hK9 => ?_); simp only [zb, Value.oneCell', seval, w5, h1, h2, hg1, hg2, strEq, h3, hw2]; (refine RunTo.mk (by first | exact trivial | omega | (simp; done) | (simp; omega)) (hK9 _ _ ?_)); clear hK9 K9); repeat (first | (apply fw; focus ((with_reducible constructor) <;> rfl)) | ((refine WpA.cond_t ?_ ?_); focus (simp only [find, seval]; done)) | ((refine WpA.cond_f ?_ ?_); focus (simp only [find, seval]; done)) | ((with_reducible refine WpA.go _ rfl fun K9 hK9 => ?_); simp only [zb, Value.oneCell', seval, w5, h1, h2, hg1, hg2, strEq, h3, hw2]; (refine RunTo.mk (by first | exact trivial | omega | (simp; done) | (simp; omega)) (hK9 _ _ ?_)); clear hK9 K9))))
      exact ⟨a.globals.length - (i + 1), _, by omega, Le.sub (by simp [Sub, find]), i + 1, rfl, hlt, rfl⟩
    · have hd0 : decide ((i : Int) < (a.globals.length : Int)) = false := by simp; omega
      repeat (first | (apply fw; focus ((with_reducible constructor) <;> rfl)) | ((refine WpA.cond_t ?_ ?_); focus (simp only [find, seval]; done)) | ((refine WpA.cond_f ?_ ?_); focus (simp only [find, seval]; done)) | ((with_reducible refine WpA.go _ rfl fun K9 hK9 => ?_); simp only [zb, Value.oneCell', seval, w5, hg1, hd0]; (refine RunTo.mk (by first | exact trivial | omega | (simp; done) | (simp; omega)) (hK9 _ _ ?_)); clear hK9 K9))
      repeat (first | (apply fw; focus ((with_reducible constructor) <;> rfl)) | ((refine WpA.cond_t ?_ ?_); focus (simp only [find, seval]; done)) | ((refine WpA.cond_f ?_ ?_); focus (simp only [find, seval]; done)) | ((with_reducible refine WpA.go _ rfl fun K9 hK9 => ?_); simp only [zb, Value.oneCell', seval, w5, hg1, hd0]; (refine RunTo.mk (by first | exact trivial | omega | (simp; done) | (simp; omega)) (hK9 _ _ ?_)); clear hK9 K9))
      refine WpL.call rfl (guardA_sound (P := Tryd.prog) rfl) (CallA.shut rfl rfl (by kernel_rfl) (by first | exact ALes.refl _ | (simp only [List.cons_append, List.nil_append, List.map_nil]; exact ALes.refl _)) (by first | rfl | (simp [shuts, A.shut, C.shut]; done)) (hsame) ?_)
      ((refine WpL.go _ rfl fun K9 hK9 => ?_); simp only [zb, Value.oneCell', seval, w5]; (refine RunTo.mk (by first | exact trivial | omega | (simp; done) | (simp; omega)) (hK9 _ _ ?_)); clear hK9 K9); repeat (first | (apply fw; focus ((with_reducible constructor) <;> rfl)) | ((refine WpA.cond_t ?_ ?_); focus (simp only [find, seval]; done)) | ((refine WpA.cond_f ?_ ?_); focus (simp only [find, seval]; done)) | ((with_reducible refine WpA.go _ rfl fun K9 hK9 => ?_); simp only [zb, Value.oneCell', seval, w5]; (refine RunTo.mk (by first | exact trivial | omega | (simp; done) | (simp; omega)) (hK9 _ _ ?_)); clear hK9 K9))
      refine WpL.call rfl (guardA_sound (P := Tryd.prog) rfl) (CallA.shut rfl rfl (by kernel_rfl) (by first | exact ALes.refl _ | (simp only [List.cons_append, List.nil_append, List.map_nil]; exact ALes.refl _)) (by first | rfl | (simp [shuts, A.shut, C.shut]; done)) (awake_pure) ?_)
      ((refine WpL.go _ rfl fun K9 hK9 => ?_); simp only [zb, Value.oneCell', seval, w5]; (refine RunTo.mk (by first | exact trivial | omega | (simp; done) | (simp; omega)) (hK9 _ _ ?_)); clear hK9 K9); repeat (first | (apply fw; focus ((with_reducible constructor) <;> rfl)) | ((refine WpA.cond_t ?_ ?_); focus (simp only [find, seval]; done)) | ((refine WpA.cond_f ?_ ?_); focus (simp only [find, seval]; done)) | ((with_reducible refine WpA.go _ rfl fun K9 hK9 => ?_); simp only [zb, Value.oneCell', seval, w5]; (refine RunTo.mk (by first | exact trivial | omega | (simp; done) | (simp; omega)) (hK9 _ _ ?_)); clear hK9 K9))
      refine ⟨by first | exact .inl rfl | exact .inr rfl, _, _, _, _, (by simp only [resA, find, reduceIte, Nat.reduceEqDiff, loadA, partC, List.getElem?_cons_zero, List.getElem?_cons_succ, List.drop_zero, List.drop_succ_cons, List.take_succ_cons, List.take_zero, List.length_cons, List.length_nil, w5]; rfl), (by first | exact trivial | (simp; done)), (by simp only [tupA, viewA, viewC, viewCs, viewAs, List.getElem?_cons_zero, List.getElem?_cons_succ]; rfl), (by first | exact trivial | (simp; done)), _, ALe.refl _, ?_⟩
      rfl
end Go.Proofs.YtpacdmgnpadleaaDoor
end
