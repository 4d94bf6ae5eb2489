/-
 Laid together: Core, OwnK, Sl19, Same19, ESame, Fun19, Bare19, Var19.
-/
import Derived.Test.YtpacdmgnpadleaaDoorG4
import Derived.Test.YtpacdmgnpadleaaDoorG2
import Derived.Test.YtpacdmgnpadleaaDoorSame2
import Derived.Test.YtpacdmgnpadleaaDoorG3
section
namespace Go.Proofs.YtpacdmgnpadleaaDoor
open Go Go.RowKit
set_option linter.unusedSimpArgs false
set_option linter.unusedVariables false
inductive K where
 | mk (k : Int) (name rest : ByteArray) (params : List ByteArray) (d : D) (l : List K)
namespace K
def k : K → Int | mk k _ _ _ _ _ => k
def name : K → ByteArray | mk _ n _ _ _ _ => n
def rest : K → ByteArray | mk _ _ r _ _ _ => r
def params : K → List ByteArray | mk _ _ _ p _ _ => p
def d : K → D | mk _ _ _ _ d _ => d
def l : K → List K | mk _ _ _ _ _ l => l
end K
def strC (l : List ByteArray) : List (List C) := l.map fun s => [.v (.string s)]
theorem strC_len (l : List ByteArray) : (strC l).length = l.length := by simp [strC]
theorem strC_get {l : List ByteArray} {i : Nat} (h : i < l.length) : (strC l)[i]? = some [.v (.string l[i])] := by simp [strC, h]
theorem strC_shut (l : List ByteArray) : ∀ e ∈ strC l, ∀ c ∈ e, C.shut c = true := fun e he c hc => by
 obtain ⟨s, _, rfl⟩ := List.mem_map.1 he
 simp at hc; subst hc; rfl
theorem strC_bd (k : Nat) (l : List ByteArray) : ∀ e ∈ strC l, ∀ c ∈ e, C.bd k c = true := fun e he c hc => by
 obtain ⟨s, _, rfl⟩ := List.mem_map.1 he
 simp at hc; subst hc; rfl
def K.cc : K → List C
 | mk k name rest params d l => [.v (.int .i64 k), .v (.string name), .v (.string rest), .sl 1 (strC params), .v (.int .i64 d.k), .v (.int .i32 d.c), .v (.bool d.neg), .sl 1 (d.mag.map fun n => [.v (.int .u32 n)]), .v (.string d.t), .sl 6 (d.l.map D.cc), .sl 11 (l.map K.cc)]
theorem K.cc_eq (c : K) : c.cc = [.v (.int .i64 c.k), .v (.string c.name), .v (.string c.rest), .sl 1 (strC c.params), .v (.int .i64 c.d.k), .v (.int .i32 c.d.c), .v (.bool c.d.neg), .sl 1 (c.d.mag.map fun n => [.v (.int .u32 n)]), .v (.string c.d.t), .sl 6 (c.d.l.map D.cc), .sl 11 (c.l.map K.cc)] := by
 cases c; rw [K.cc]; rfl
theorem K.cc_len (c : K) : c.cc.length = 11 := by rw [K.cc_eq]; rfl
theorem getK {l : List K} {i : Nat} (h : i < l.length) : (l.map K.cc)[i]? = some (l[i]).cc := by simp [h]
theorem K.cc_shut (c : K) : ∀ x ∈ c.cc, C.shut x = true := by rw [K.cc_eq]; simp [C.shut]
mutual
def K.ht : K → Nat
 | .mk _ _ _ _ _ l => K.hts l + 1
def K.hts : List K → Nat
 | [] => 0
 | c :: l => max c.ht (K.hts l)
end
theorem K.ht_mem {x : K} : ∀ {l : List K}, x ∈ l → x.ht ≤ K.hts l
 | c :: l, h => by
  rw [K.hts]
  rcases List.mem_cons.1 h with rfl | h
  ·exact Nat.le_max_left _ _
  ·exact Nat.le_trans (K.ht_mem h) (Nat.le_max_right _ _)
theorem K.ht_lt {c : K} {i : Nat} (h : i < c.l.length) : (c.l[i]).ht < c.ht := by
 obtain ⟨k, n, r, p, d, l⟩ := c
 have := K.ht_mem (List.getElem_mem h)
 show _ < K.hts l + 1
 exact Nat.lt_succ_of_le this
theorem K.ht_pos (c : K) : 0 < c.ht := by cases c; rw [K.ht]; omega
mutual
def K.Ok : K → Prop
 | .mk k name rest params d l => (-9223372036854775808 ≤ k ∧ k ≤ 9223372036854775807) ∧ params.length ≤ 1000000000000000 ∧ d.Ok ∧ l.length ≤ 1000000000000000 ∧ K.Oks l
def K.Oks : List K → Prop
 | [] => True
 | c :: l => c.Ok ∧ K.Oks l
end
theorem K.Oks.get : ∀ {l : List K}, K.Oks l → ∀ i (h : i < l.length), l[i].Ok
 | c :: l, h, 0, _ => h.1
 | c :: l, h, i + 1, hi => K.Oks.get (l := l) h.2 i (by simpa using hi)
theorem K.Ok.kids {c : K} (h : c.Ok) : K.Oks c.l := by cases c; exact h.2.2.2.2
theorem K.Ok.get {c : K} (h : c.Ok) (i : Nat) (hi : i < c.l.length) : c.l[i].Ok := h.kids.get i hi
theorem K.Ok.d {c : K} (h : c.Ok) : c.d.Ok := by cases c; exact h.2.2.1
theorem K.Ok.par {c : K} (h : c.Ok) : c.params.length ≤ 1000000000000000 := by cases c; exact h.2.1
theorem K.Ok.len {c : K} (h : c.Ok) : c.l.length ≤ 1000000000000000 := by cases c; exact h.2.2.2.1
theorem K.Ok.kind {c : K} (h : c.Ok) : -9223372036854775808 ≤ c.k ∧ c.k ≤ 9223372036854775807 := by cases c; exact h.1
end Go.Proofs.YtpacdmgnpadleaaDoor
end
section
namespace Go.Proofs.YtpacdmgnpadleaaDoor
open Go Go.RowKit
set_option linter.unusedSimpArgs false
set_option linter.unusedVariables false
theorem set_app0 {α : Type} (S T : List α) (a x : α) : (S ++ a :: T).set S.length x = S ++ x :: T := by simp
def ownCs (x : K) (cP cL : C) : List C := [.v (.int .i64 x.k), .v (.string x.name), .v (.string x.rest), cP, .v (.int .i64 x.d.k), .v (.int .i32 x.d.c), .v (.bool x.d.neg), .sl 1 (x.d.mag.map fun n => [.v (.int .u32 n)]), .v (.string x.d.t), .sl 6 (x.d.l.map D.cc), cL]
def LAt (S : List (Option Ob)) (c : C) (rows : List (List C)) (f : List Nat) : Prop := (rows = [] ∧ c = .v (.slice none 0 0) ∧ f = []) ∨ (rows ≠ [] ∧ ∃ j, c = .ms j rows.length ∧ f = [j] ∧ S[j]? = some (some ⟨33, 11, rows⟩))
mutual
def OwnK (S : List (Option Ob)) : K → List C → List Nat → Prop
 | .mk k name rest params d l, cs, fp => ∃ (jP : Nat) (cL : C) (rows : List (List C)) (fL fR : List Nat), cs = ownCs (.mk k name rest params d l) (.ms jP params.length) cL ∧ S[jP]? = some (some ⟨9, 1, strC params⟩) ∧ LAt S cL rows fL ∧ OwnKs S l rows fR ∧ fp = jP :: (fL ++ fR)
def OwnKs (S : List (Option Ob)) : List K → List (List C) → List Nat → Prop
 | [], rows, fp => rows = [] ∧ fp = []
 | x :: l, rows, fp => ∃ (r : List C) (rs : List (List C)) (f1 f2 : List Nat), rows = r :: rs ∧ fp = f1 ++ f2 ∧ OwnK S x r f1 ∧ OwnKs S l rs f2
end
theorem OwnK.iff {S : List (Option Ob)} {x : K} {cs : List C} {fp : List Nat} : OwnK S x cs fp ↔ ∃ (jP : Nat) (cL : C) (rows : List (List C)) (fL fR : List Nat), cs = ownCs x (.ms jP x.params.length) cL ∧ S[jP]? = some (some ⟨9, 1, strC x.params⟩) ∧ LAt S cL rows fL ∧ OwnKs S x.l rows fR ∧ fp = jP :: (fL ++ fR) := by
 cases x; rw [OwnK]; rfl
theorem OwnK.len {S : List (Option Ob)} {x : K} {cs : List C} {fp : List Nat} (h : OwnK S x cs fp) : cs.length = 11 := by
 rw [OwnK.iff] at h
 obtain ⟨jP, cL, rows, fL, fR, rfl, -⟩ := h
 rfl
theorem LAt.keep {S S' : List (Option Ob)} {c : C} {rows : List (List C)} {f : List Nat} (h : LAt S c rows f) (hk : ∀ j ∈ f, S'[j]? = S[j]?) : LAt S' c rows f := by
 rcases h with h | ⟨h1, j, h2, rfl, h3⟩
 ·exact .inl h
 ·exact .inr ⟨h1, j, h2, rfl, (hk j (by simp)).trans h3⟩
theorem LAt.lt {S : List (Option Ob)} {c : C} {rows : List (List C)} {f : List Nat} (h : LAt S c rows f) : ∀ j ∈ f, j < S.length := by
 rcases h with ⟨_, _, rfl⟩ | ⟨h1, j, h2, rfl, h3⟩
 ·simp
 ·intro i hi; rw [List.mem_singleton.1 hi]; exact (List.getElem?_eq_some_iff.1 h3).1
mutual
theorem OwnK.keep {S S' : List (Option Ob)} : ∀ {x : K} {cs : List C} {fp : List Nat}, OwnK S x cs fp → (∀ j ∈ fp, S'[j]? = S[j]?) → OwnK S' x cs fp
 | .mk k name rest params d l, cs, fp, h, hk => by
  rw [OwnK] at h ⊢
  obtain ⟨jP, cL, rows, fL, fR, e, h1, h2, h3, rfl⟩ := h
  exact ⟨jP, cL, rows, fL, fR, e, (hk jP (by simp)).trans h1, h2.keep fun j hj => hk j (by simp [hj]), OwnKs.keep h3 fun j hj => hk j (by simp [hj]), rfl⟩
theorem OwnKs.keep {S S' : List (Option Ob)} : ∀ {l : List K} {rows : List (List C)} {fp : List Nat}, OwnKs S l rows fp → (∀ j ∈ fp, S'[j]? = S[j]?) → OwnKs S' l rows fp
 | [], rows, fp, h, _ => by rw [OwnKs] at h ⊢; exact h
 | x :: l, rows, fp, h, hk => by
  rw [OwnKs] at h ⊢
  obtain ⟨r, rs, f1, f2, e, rfl, h1, h2⟩ := h
  exact ⟨r, rs, f1, f2, e, rfl, OwnK.keep h1 fun j hj => hk j (by simp [hj]), OwnKs.keep h2 fun j hj => hk j (by simp [hj])⟩
end
mutual
theorem OwnK.lt {S : List (Option Ob)} : ∀ {x : K} {cs : List C} {fp : List Nat}, OwnK S x cs fp → ∀ j ∈ fp, j < S.length
 | .mk k name rest params d l, cs, fp, h => by
  rw [OwnK] at h
  obtain ⟨jP, cL, rows, fL, fR, e, h1, h2, h3, rfl⟩ := h
  intro j hj
  rcases List.mem_cons.1 hj with rfl | hj
  ·exact (List.getElem?_eq_some_iff.1 h1).1
  ·rcases List.mem_append.1 hj with hj | hj
   ·exact h2.lt j hj
   ·exact OwnKs.lt h3 j hj
theorem OwnKs.lt {S : List (Option Ob)} : ∀ {l : List K} {rows : List (List C)} {fp : List Nat}, OwnKs S l rows fp → ∀ j ∈ fp, j < S.length
 | [], rows, fp, h => by rw [OwnKs] at h; rw [h.2]; simp
 | x :: l, rows, fp, h => by
  rw [OwnKs] at h
  obtain ⟨r, rs, f1, f2, e, rfl, h1, h2⟩ := h
  intro j hj
  rcases List.mem_append.1 hj with hj | hj
  ·exact OwnK.lt h1 j hj
  ·exact OwnKs.lt h2 j hj
end
theorem OwnKs.len {S : List (Option Ob)} : ∀ {l : List K} {rows : List (List C)} {fp : List Nat}, OwnKs S l rows fp → rows.length = l.length
 | [], rows, fp, h => by rw [OwnKs] at h; rw [h.1]; rfl
 | x :: l, rows, fp, h => by
  rw [OwnKs] at h
  obtain ⟨r, rs, f1, f2, rfl, _, h1, h2⟩ := h
  simp [OwnKs.len h2]
theorem strC_flat (l : List ByteArray) : ∀ e ∈ strC l, e.length = 1 := fun e he => by
 obtain ⟨s, _, rfl⟩ := List.mem_map.1 he
 rfl
theorem strC_flatsh (l : List ByteArray) : ∀ c ∈ (strC l).flatten, C.shut c = true := fun c hc => by
 obtain ⟨e, he, hce⟩ := List.mem_flatten.1 hc
 exact strC_shut l e he c hce
theorem cc_flatsh (l : List K) : ∀ c ∈ (l.map K.cc).flatten, C.shut c = true := fun c hc => by
 obtain ⟨e, he, hce⟩ := List.mem_flatten.1 hc
 obtain ⟨x, _, rfl⟩ := List.mem_map.1 he
 exact x.cc_shut c hce
mutual
theorem OwnK.fz {S : List (Option Ob)} {z : Nat → Bool} : ∀ {x : K} {cs : List C} {fp : List Nat}, OwnK S x cs fp → (∀ j ∈ fp, z j = true) → FzDs S z cs x.cc
 | .mk k name rest params d l, cs, fp, h, hz => by
  rw [OwnK] at h
  obtain ⟨jP, cL, rows, fL, fR, rfl, h1, h2, h3, rfl⟩ := h
  have hr := OwnKs.fz h3 fun j hj => hz j (by simp [hj])
  have hl := OwnKs.len h3
  rw [K.cc_eq]
  simp only [ownCs, FzDs, K.k, K.name, K.rest, K.params, K.d, K.l]
  refine ⟨.same _, .same _, .same _, ?_, .same _, .same _, .same _, .same _, .same _, .same _, ?_, trivial⟩
  ·exact .ms (hz jP (by simp)) h1 (strC_len _).symm rfl (strC_flat _) rfl (strC_flatsh _) fun k a b h1 h2 => by rw [h1] at h2; cases h2; exact .same _
  ·rcases h2 with ⟨rfl, rfl, rfl⟩ | ⟨hne, j, rfl, rfl, hj⟩
   ·have : l = [] := List.eq_nil_of_length_eq_zero (by simpa using hl.symm)
    subst this
    exact .nil 11
   ·refine .ms (hz j (by simp)) hj rfl (by simp [hl]) (fun e he => ?_) hr.len (cc_flatsh l) fun k a b h1 h2 => hr.get k a b h1 h2
    obtain ⟨x, _, rfl⟩ := List.mem_map.1 he
    exact x.cc_len
theorem OwnKs.fz {S : List (Option Ob)} {z : Nat → Bool} : ∀ {l : List K} {rows : List (List C)} {fp : List Nat}, OwnKs S l rows fp → (∀ j ∈ fp, z j = true) → FzDs S z rows.flatten (l.map K.cc).flatten
 | [], rows, fp, h, _ => by rw [OwnKs] at h; rw [h.1]; exact trivial
 | x :: l, rows, fp, h, hz => by
  rw [OwnKs] at h
  obtain ⟨r, rs, f1, f2, rfl, rfl, h1, h2⟩ := h
  rw [List.map_cons, List.flatten_cons, List.flatten_cons]
  exact (OwnK.fz h1 fun j hj => hz j (by simp [hj])).app (OwnKs.fz h2 fun j hj => hz j (by simp [hj]))
end
theorem OwnKs.snoc {S : List (Option Ob)} {x : K} {r : List C} {f2 : List Nat} (hx : OwnK S x r f2) : ∀ {l : List K} {rows : List (List C)} {f1 : List Nat}, OwnKs S l rows f1 → OwnKs S (l ++ [x]) (rows ++ [r]) (f1 ++ f2)
 | [], rows, f1, h => by
  rw [OwnKs] at h
  obtain ⟨rfl, rfl⟩ := h
  rw [List.nil_append, OwnKs]
  exact ⟨r, [], f2, [], rfl, by simp, hx, by rw [OwnKs]; exact ⟨rfl, rfl⟩⟩
 | y :: l, rows, f1, h => by
  rw [OwnKs] at h
  obtain ⟨r', rs, g1, g2, rfl, rfl, h1, h2⟩ := h
  rw [List.cons_append, OwnKs]
  exact ⟨r', rs ++ [r], g1, g2 ++ f2, rfl, by simp, h1, OwnKs.snoc hx h2⟩
theorem OwnKs.at {S : List (Option Ob)} : ∀ {l : List K} {rows : List (List C)} {fp : List Nat}, OwnKs S l rows fp → ∀ (i : Nat) (hi : i < l.length), ∃ (r : List C) (fa fx fb : List Nat), rows[i]? = some r ∧ fp = fa ++ (fx ++ fb) ∧ OwnK S l[i] r fx ∧
  ∀ (S' : List (Option Ob)) (x' : K) (r' : List C), (∀ j, j ∈ fa ∨ j ∈ fb → S'[j]? = S[j]?) → OwnK S' x' r' fx → OwnKs S' (l.set i x') (rows.set i r') fp
 | x :: l, rows, fp, h, 0, hi => by
  rw [OwnKs] at h
  obtain ⟨r, rs, f1, f2, rfl, rfl, h1, h2⟩ := h
  refine ⟨r, [], f1, f2, rfl, rfl, h1, fun S' x' r' hk hx => ?_⟩
  rw [List.set_cons_zero, List.set_cons_zero, OwnKs]
  exact ⟨r', rs, f1, f2, rfl, rfl, hx, OwnKs.keep h2 fun j hj => hk j (.inr hj)⟩
 | x :: l, rows, fp, h, i + 1, hi => by
  rw [OwnKs] at h
  obtain ⟨r, rs, f1, f2, rfl, rfl, h1, h2⟩ := h
  obtain ⟨r0, fa, fx, fb, e1, rfl, h3, h4⟩ := OwnKs.at h2 i (by simpa using hi)
  refine ⟨r0, f1 ++ fa, fx, fb, by simpa using e1, by simp, h3, fun S' x' r' hk hx => ?_⟩
  rw [List.set_cons_succ, List.set_cons_succ, OwnKs]
  exact ⟨r, rs.set i r', f1, fa ++ (fx ++ fb), rfl, rfl, OwnK.keep h1 fun j hj => hk j (.inl (by simp [hj])), h4 S' x' r' (fun j hj => hk j (hj.imp (fun h => by simp [h]) id)) hx⟩
end Go.Proofs.YtpacdmgnpadleaaDoor
end
section
namespace Go.Proofs.YtpacdmgnpadleaaDoor
open Go Go.RowKit
set_option linter.unusedSimpArgs false
set_option linter.unusedVariables false
set_option maxHeartbeats 4000000
set_option maxRecDepth 100000
theorem strEq (a b : ByteArray) : (a.toList == b.toList) = eqB a b := by
 by_cases h : a = b
 ·rw [eqB_pos h]; simp [h]
 ·rw [eqB_neg h]; simpa using fun e => h (eq_of_toList e)
theorem run_eql_sl_nil {P : Program} {w : World} {t e : TypeId} {a : Option Addr} {n c : Nat} (h : P.underlying t = some (.slice e)) : (Op.equal t (.slice a n c) (.slice none 0 0)).run P w = .ok a.isNone w := by
 have hun : (underlying t).run P w = .ok (.slice e) w := by simp [underlying, program, bind, Sem.bind, Sem.run, h, pure]
 unfold Op.equal Op.maxDepth
 rw [Op.equalIn]
 cases a <;> simp only [Sem.run_bind, hun, Result.andThen_ok, Sem.run_pure, Option.isNone_none, Option.isNone_some]
theorem WpL.nilSl {P : Program} {nt : Cf} {ops : Array Oper} {Q : St → Prop} {st : St} {rest : List Oper} {d : Option Tmp} {t ty t' e : TypeId} {x : Operand} {pos : String} {aft : Array Edge} {wd : Nat} {es : List (List C)} (hd : fits nt d = true)
  (hx : rdA st.e x = some (.one (.sl wd es))) (ht : P.underlying t = some (.slice e)) (h : ∀ b, (es ≠ [] → b = false) → WpL P nt ops Q rest (st.put d (.one (.v (.bool b))))) : WpL P nt ops Q (⟨d, .binOp .eql t x (.const (.slice none 0 0)) t', ty, pos, aft, none⟩ :: rest) st := fun H w0 S0 m0 m a w hs Q' hQ => by
 have h1 := hs.rd hx
 simp only [Ca, Cc] at h1
 have key : ∃ q n c, a.eval x = .slice q n c ∧ (es ≠ [] → q.isNone = false) := by
  rcases h1.2 with ⟨h0, hn⟩ | ⟨b, o, cap, hu, -⟩
  ·rcases hn with hn | ⟨q, cap, hn, -⟩
   ·exact ⟨_, _, _, hn, fun hne => absurd h0 hne⟩
   ·exact ⟨_, _, _, hn, fun hne => absurd h0 hne⟩
  ·exact ⟨_, _, _, hu, fun _ => rfl⟩
 obtain ⟨q, n, c, hu, hq⟩ := key
 have hnext := h q.isNone hq H w0 S0 m0 m _ w (hs.put hd (caV rfl)) Q' hQ
 unfold wpList
 rw [if_pos (by rfl)]
 refine .inl ?_
 unfold Oper.wp
 have hrun : (execOp a.eval ⟨d, .binOp .eql t x (.const (.slice none 0 0)) t', ty, pos, aft, none⟩).run P w = .ok (.value (.bool q.isNone)) w := by
  have e2 : a.eval (.const (.slice none 0 0)) = .slice none 0 0 := rfl
  simp only [execOp, hu, e2, Sem.run_bind, run_eqGuard (P := P) (w := w) _ t x (.const (.slice none 0 0)) (.slice q n c) (.slice none 0 0) (by simp) (by simp), Result.andThen_ok, binOp, run_eql_sl_nil ht, Sem.run_pure]
 rw [hrun]
 exact hnext
noncomputable def posn (l : List ByteArray) (s : ByteArray) : Option Nat := l.findIdx? fun a => eqB s a
noncomputable def idx (l : List ByteArray) (s : ByteArray) : Int := match posn l s with | some k => k | none => -1
theorem posn_some {l : List ByteArray} {s : ByteArray} {k : Nat} (h : k < l.length) (hk : s = l[k]) (hb : ∀ j (h : j < l.length), j < k → s ≠ l[j]) : posn l s = some k := by
 unfold posn
 rw [List.findIdx?_eq_some_iff_getElem]
 exact ⟨h, eqB_pos hk, fun j hj => by rw [eqB_neg (hb j (by omega) hj)]; simp⟩
theorem posn_none {l : List ByteArray} {s : ByteArray} (hb : ∀ j (h : j < l.length), s ≠ l[j]) : posn l s = none := by
 unfold posn
 rw [List.findIdx?_eq_none_iff]
 intro x hx
 obtain ⟨j, hj, rfl⟩ := List.mem_iff_getElem.1 hx
 exact eqB_neg (hb j hj)
def IxI (l : List ByteArray) (s : ByteArray) (n : Nat) (st : St) : Prop := ∃ i : Nat, n = l.length - i ∧ i ≤ l.length ∧ (∀ j (h : j < l.length), j < i → s ≠ l[j]) ∧
 st = ⟨[(8, .one (.v (.int .i64 i))), (7, .one (.v (.int .i64 l.length))), (0, .one (.sl 1 (strC l))), (1, .one (.v (.string s)))], []⟩
theorem index_pure (l : List ByteArray) (s : ByteArray) (hlen : l.length ≤ 1000000000000001) : Pure Tryd.prog 72 [.one (.sl 1 (strC l)), .one (.v (.string s))] (.one (.v (.int .i64 (idx l s)))) := by
 have hl := strC_len l
 refine Fn.intro Tryd.func72 rfl Tryd.ntmps72 Tryd.results72 (by simp only [List.length_cons, List.length_nil]; decide) ?_
 repeat (first | (apply fw; (with_reducible constructor) <;> rfl) | (apply WpA.cd; constructor) | ((first | with_reducible refine WpA.go _ rfl fun Y y => ?_ | apply RunTo.id); simp only [zb, seval, w72, hl]; refine RunTo.fn y (by first | (simp; done) | omega | (simp; omega)) ?_; clear y Y))
 refine WpA.loop (IxI l s) l.length ?_ ⟨0, rfl, Nat.zero_le _, fun j _ h => absurd h (Nat.not_lt_zero _), rfl⟩ ?_
 ·exact Le.sub (by simp [Sub, find])
 intro n' st hI
 obtain ⟨i, rfl, hi, hb, rfl⟩ := hI
 have hw2 : IntKind.i64.wrap ((i : Int) + 1) = ((i + 1 : Nat) : Int) := by rw [wrap64 (by omega) (by omega)]; omega
 by_cases hlt : i < l.length
 ·have hd1 : decide ((i : Int) < (l.length : Int)) = true := by simp; omega
  have hget := strC_get hlt
  by_cases he : s = l[i]
  ·have hee := eqB_pos he
   repeat (first | (apply fw; (with_reducible constructor) <;> rfl) | (apply WpA.cd; constructor) | ((first | with_reducible refine WpA.go _ rfl fun Y y => ?_ | apply RunTo.id); simp only [zb, seval, w72, hd1, hget, strEq, hee]; refine RunTo.fn y (by first | (simp; done) | omega | (simp; omega)) ?_; clear y Y))
   refine ⟨by simp, _, _, _, _, (by simp only [zb, seval, w72]; rfl), (by simp), (by simp only [zv]; rfl), (by simp), _, ALe.refl _, ?_⟩
   rw [idx, posn_some hlt he hb]
  ·have hee := eqB_neg he
   repeat (first | (apply fw; (with_reducible constructor) <;> rfl) | (apply WpA.cd; constructor) | ((first | with_reducible refine WpA.go _ rfl fun Y y => ?_ | apply RunTo.id); simp only [zb, seval, w72, hd1, hget, strEq, hee, hw2]; refine RunTo.fn y (by first | (simp; done) | omega | (simp; omega)) ?_; clear y Y))
   refine ⟨l.length - (i + 1), _, by omega, Le.sub (by simp [Sub, find]), i + 1, rfl, hlt, fun j hj hji => ?_, rfl⟩
   rcases Nat.lt_succ_iff_lt_or_eq.1 hji with h | rfl
   ·exact hb j hj h
   ·exact he
 ·have hd0 : decide ((i : Int) < (l.length : Int)) = false := by simp; omega
  repeat (first | (apply fw; (with_reducible constructor) <;> rfl) | (apply WpA.cd; constructor) | ((first | with_reducible refine WpA.go _ rfl fun Y y => ?_ | apply RunTo.id); simp only [zb, seval, w72, hd0]; refine RunTo.fn y (by first | (simp; done) | omega | (simp; omega)) ?_; clear y Y))
  repeat (first | (apply fw; (with_reducible constructor) <;> rfl) | (apply WpA.cd; constructor) | ((first | with_reducible refine WpA.go _ rfl fun Y y => ?_ | apply RunTo.id); simp only [zb, seval, w72, hd0]; refine RunTo.fn y (by first | (simp; done) | omega | (simp; omega)) ?_; clear y Y))
  refine ⟨by simp, _, _, _, _, (by simp only [zb, seval, w72]; rfl), (by simp), (by simp only [zv]; rfl), (by simp), _, ALe.refl _, ?_⟩
  rw [idx, posn_none fun j hj => hb j hj (by omega)]
theorem contains_pure (l : List ByteArray) (s : ByteArray) (hlen : l.length ≤ 1000000000000001) : Pure Tryd.prog 57 [.one (.sl 1 (strC l)), .one (.v (.string s))] (.one (.v (.bool (decide (0 ≤ idx l s))))) := by
 refine Fn.intro Tryd.func57 rfl Tryd.ntmps57 Tryd.results57 (by simp only [List.length_cons, List.length_nil]; decide) ?_
 repeat (first | (apply fw; (with_reducible constructor) <;> rfl) | (apply WpA.cd; constructor) | ((first | with_reducible refine WpA.go _ rfl fun Y y => ?_ | apply RunTo.id); simp only [zb, seval]; refine RunTo.fn y (by first | (simp; done) | omega | (simp; omega)) ?_; clear y Y))
 refine WpL.call rfl (guardA_sound (P := Tryd.prog) rfl) (CallA.shut rfl rfl (by kernel_rfl) (ALes.refl _) (by first | rfl | simp [shuts, A.shut, C.shut]) (index_pure l s hlen) ?_)
 (refine WpL.go _ rfl fun Y y => ?_); repeat (first | (apply fw; (with_reducible constructor) <;> rfl) | (apply WpA.cd; constructor) | ((first | with_reducible refine WpA.go _ rfl fun Y y => ?_ | apply RunTo.id); simp only [zb, seval]; refine RunTo.fn y (by first | (simp; done) | omega | (simp; omega)) ?_; clear y Y))
 refine ⟨by simp, _, _, _, _, (by simp only [zb, seval]; rfl), (by simp), (by simp only [zv]; rfl), (by simp), _, ALe.refl _, ?_⟩
 rfl
end Go.Proofs.YtpacdmgnpadleaaDoor
end
section
namespace Go.Proofs.YtpacdmgnpadleaaDoor
open Go Go.RowKit Go.Lib
set_option linter.unusedSimpArgs false
set_option linter.unusedVariables false
set_option maxHeartbeats 4000000
set_option maxRecDepth 100000
theorem same_pure (a b : D) : Pure Tryd.prog 53 [.agg a.cc, .agg b.cc] (.one (.v (.bool (eqB a b)))) := by
 refine pure_old_v rfl fun w vs hg hv => ?_
 obtain ⟨v, u, rfl, hv1, hu1⟩ := hv.two
 exact same_any a b w v u hv1.isD hu1.isD
def EqI (a b : List ByteArray) (n : Nat) (st : St) : Prop := ∃ i : Nat, n = a.length - i ∧ i ≤ a.length ∧ a.take i = b.take i ∧
 st = ⟨[(13, .one (.v (.int .i64 i))), (12, .one (.v (.int .i64 a.length))), (0, .one (.sl 1 (strC a))), (1, .one (.sl 1 (strC b)))], []⟩
theorem equalS_pure (a b : List ByteArray) (hlen : a.length ≤ 1000000000000000) : Pure Tryd.prog 52 [.one (.sl 1 (strC a)), .one (.sl 1 (strC b))] (.one (.v (.bool (eqB a b)))) := by
 have hla := strC_len a
 have hlb := strC_len b
 by_cases hl : a.length = b.length
 case neg =>
  have hne : ((a.length : Int) != (b.length : Int)) = true := by simp; omega
  rw [eqB_neg fun h => hl (by rw [h])]
  refine Fn.intro Tryd.func52 rfl Tryd.ntmps52 Tryd.results52 (by simp only [List.length_cons, List.length_nil]; decide) ?_
  repeat (first | (apply fw; (with_reducible constructor) <;> rfl) | (apply WpA.cd; constructor) | ((first | with_reducible refine WpA.go _ rfl fun Y y => ?_ | apply RunTo.id); simp only [zb, seval, w52, hla, hlb, hne]; refine RunTo.fn y (by first | (simp; done) | omega | (simp; omega)) ?_; clear y Y))
  refine ⟨by simp, _, _, _, _, (by simp only [zb, seval, w52]; rfl), (by simp), (by simp only [zv]; rfl), (by simp), _, ALe.refl _, ?_⟩
  rfl
 have hne : ((a.length : Int) != (b.length : Int)) = false := by simp; omega
 refine Fn.intro Tryd.func52 rfl Tryd.ntmps52 Tryd.results52 (by simp only [List.length_cons, List.length_nil]; decide) ?_
 repeat (first | (apply fw; (with_reducible constructor) <;> rfl) | (apply WpA.cd; constructor) | ((first | with_reducible refine WpA.go _ rfl fun Y y => ?_ | apply RunTo.id); simp only [zb, seval, w52, hla, hlb, hne]; refine RunTo.fn y (by first | (simp; done) | omega | (simp; omega)) ?_; clear y Y))
 refine WpA.loop (EqI a b) a.length ?_ ⟨0, rfl, Nat.zero_le _, rfl, rfl⟩ ?_
 ·exact Le.sub (by simp [Sub, find])
 intro n' st hI
 obtain ⟨i, rfl, hi, hb, rfl⟩ := hI
 have hw2 : IntKind.i64.wrap ((i : Int) + 1) = ((i + 1 : Nat) : Int) := by rw [wrap64 (by omega) (by omega)]; omega
 by_cases hlt : i < a.length
 ·have hd1 : decide ((i : Int) < (a.length : Int)) = true := by simp; omega
  have hga := strC_get hlt
  have hgb := strC_get (l := b) (i := i) (by omega)
  by_cases he : a[i] = b[i]
  ·have hee := eqB_pos he
   repeat (first | (apply fw; (with_reducible constructor) <;> rfl) | (apply WpA.cd; constructor) | ((first | with_reducible refine WpA.go _ rfl fun Y y => ?_ | apply RunTo.id); simp only [zb, seval, w52, hd1]; refine RunTo.fn y (by first | (simp; done) | omega | (simp; omega)) ?_; clear y Y))
   (refine WpA.draw0 9 _ _ _ rfl rfl rfl (by kernel_rfl) (by kernel_rfl) (by kernel_rfl) fun K8 hK8 => ?_); simp only [zz] at hK8 ⊢; (refine Draw0.go fun K7 hK7 => ?_); simp only [zb, seval, w52, hga, hgb, strEq, hee, hw2]; (refine RunQ.mk (by first | (simp; done) | omega | (simp; omega)) (hK7 _ _ ?_)); clear hK7 K7; (try ((refine Draw0.nil (hK8 _ ?_)); clear hK8 K8; (refine WpL.go _ rfl fun Y y => ?_); repeat (first | (apply fw; (with_reducible constructor) <;> rfl) | (apply WpA.cd; constructor) | ((first | with_reducible refine WpA.go _ rfl fun Y y => ?_ | apply RunTo.id); simp only [zb, seval, w52, hga, hgb, strEq, hee, hw2]; refine RunTo.fn y (by first | (simp; done) | omega | (simp; omega)) ?_; clear y Y))))
   refine ⟨a.length - (i + 1), _, by omega, Le.sub (by simp [Sub, find]), i + 1, rfl, hlt, ?_, rfl⟩
   rw [List.take_succ_eq_append_getElem hlt, List.take_succ_eq_append_getElem (by omega), hb, he]
  ·have hee := eqB_neg he
   rw [eqB_neg fun h => he (by simp [h])]
   repeat (first | (apply fw; (with_reducible constructor) <;> rfl) | (apply WpA.cd; constructor) | ((first | with_reducible refine WpA.go _ rfl fun Y y => ?_ | apply RunTo.id); simp only [zb, seval, w52, hd1]; refine RunTo.fn y (by first | (simp; done) | omega | (simp; omega)) ?_; clear y Y))
   (refine WpA.draw0 9 _ _ _ rfl rfl rfl (by kernel_rfl) (by kernel_rfl) (by kernel_rfl) fun K8 hK8 => ?_); simp only [zz] at hK8 ⊢; (refine Draw0.go fun K7 hK7 => ?_); simp only [zb, seval, w52, hga, hgb, strEq, hee, hw2]; (refine RunQ.mk (by first | (simp; done) | omega | (simp; omega)) (hK7 _ _ ?_)); clear hK7 K7; (try ((refine Draw0.nil (hK8 _ ?_)); clear hK8 K8; (refine WpL.go _ rfl fun Y y => ?_); repeat (first | (apply fw; (with_reducible constructor) <;> rfl) | (apply WpA.cd; constructor) | ((first | with_reducible refine WpA.go _ rfl fun Y y => ?_ | apply RunTo.id); simp only [zb, seval, w52, hga, hgb, strEq, hee, hw2]; refine RunTo.fn y (by first | (simp; done) | omega | (simp; omega)) ?_; clear y Y))))
   refine ⟨by simp, _, _, _, _, (by simp only [zb, seval, w52]; rfl), (by simp), (by simp only [zv]; rfl), (by simp), _, ALe.refl _, ?_⟩
   rfl
 ·have hd0 : decide ((i : Int) < (a.length : Int)) = false := by simp; omega
  have hii : i = a.length := by omega
  rw [eqB_pos (show a = b by rw [hii, List.take_length, hl, List.take_length] at hb; exact hb)]
  repeat (first | (apply fw; (with_reducible constructor) <;> rfl) | (apply WpA.cd; constructor) | ((first | with_reducible refine WpA.go _ rfl fun Y y => ?_ | apply RunTo.id); simp only [zb, seval, w52, hd0]; refine RunTo.fn y (by first | (simp; done) | omega | (simp; omega)) ?_; clear y Y))
  repeat (first | (apply fw; (with_reducible constructor) <;> rfl) | (apply WpA.cd; constructor) | ((first | with_reducible refine WpA.go _ rfl fun Y y => ?_ | apply RunTo.id); simp only [zb, seval, w52, hd0]; refine RunTo.fn y (by first | (simp; done) | omega | (simp; omega)) ?_; clear y Y))
  refine ⟨by simp, _, _, _, _, (by simp only [zb, seval, w52]; rfl), (by simp), (by simp only [zv]; rfl), (by simp), _, ALe.refl _, ?_⟩
  rfl
def EqF (a b : List K) (n : Nat) (st : St) : Prop := ∃ i : Nat, n = a.length - i ∧ i ≤ a.length ∧ a.take i = b.take i ∧
 st = ⟨[(17, .one (.v (.int .i64 i))), (16, .one (.v (.int .i64 a.length))), (15, .one (.sl 11 (a.map K.cc))), (0, .one (.sl 11 (a.map K.cc))), (1, .one (.sl 11 (b.map K.cc))), (2, .one (.fn 38 []))], []⟩
theorem equalF_pure (a b : List K) (hlen : a.length ≤ 1000000000000000) (ih : ∀ x ∈ a, ∀ y, Pure Tryd.prog 38 [.agg x.cc, .agg y.cc] (.one (.v (.bool (eqB x y))))) : Pure Tryd.prog 54 [.one (.sl 11 (a.map K.cc)), .one (.sl 11 (b.map K.cc)), .one (.fn 38 [])] (.one (.v (.bool (eqB a b)))) := by
 by_cases hl : a.length = b.length
 case neg =>
  have hne : ((a.length : Int) != (b.length : Int)) = true := by simp; omega
  rw [eqB_neg fun h => hl (by rw [h])]
  refine Fn.intro Tryd.func54 rfl Tryd.ntmps54 Tryd.results54 (by simp only [List.length_cons, List.length_nil]; decide) ?_
  repeat (first | (apply fw; (with_reducible constructor) <;> rfl) | (apply WpA.cd; constructor) | ((first | with_reducible refine WpA.go _ rfl fun Y y => ?_ | apply RunTo.id); simp only [zb, seval, w54, hne]; refine RunTo.fn y (by first | (simp; done) | omega | (simp; omega)) ?_; clear y Y))
  refine ⟨by simp, _, _, _, _, (by simp only [zb, seval, w54]; rfl), (by simp), (by simp only [zv]; rfl), (by simp), _, ALe.refl _, ?_⟩
  rfl
 have hne : ((a.length : Int) != (b.length : Int)) = false := by simp; omega
 refine Fn.intro Tryd.func54 rfl Tryd.ntmps54 Tryd.results54 (by simp only [List.length_cons, List.length_nil]; decide) ?_
 repeat (first | (apply fw; (with_reducible constructor) <;> rfl) | (apply WpA.cd; constructor) | ((first | with_reducible refine WpA.go _ rfl fun Y y => ?_ | apply RunTo.id); simp only [zb, seval, w54, hne]; refine RunTo.fn y (by first | (simp; done) | omega | (simp; omega)) ?_; clear y Y))
 refine WpA.loop (EqF a b) a.length ?_ ⟨0, rfl, Nat.zero_le _, rfl, rfl⟩ ?_
 ·exact Le.sub (by simp [Sub, find])
 intro n' st hI
 obtain ⟨i, rfl, hi, hb, rfl⟩ := hI
 have hw2 : IntKind.i64.wrap ((i : Int) + 1) = ((i + 1 : Nat) : Int) := by rw [wrap64 (by omega) (by omega)]; omega
 by_cases hlt : i < a.length
 ·have hd1 : decide ((i : Int) < (a.length : Int)) = true := by simp; omega
  have hlb : i < b.length := by omega
  have hga := getK hlt
  have hgb := getK hlb
  have hc := ih a[i] (List.getElem_mem _) b[i]
  rw [K.cc_eq] at hga hgb
  rw [K.cc_eq a[i], K.cc_eq b[i]] at hc
  by_cases he : a[i] = b[i]
  ·have hee := eqB_pos he
   repeat (first | (apply fw; (with_reducible constructor) <;> rfl) | (apply WpA.cd; constructor) | ((first | with_reducible refine WpA.go _ rfl fun Y y => ?_ | apply RunTo.id); simp only [zb, seval, w54, hd1, hga, hgb]; refine RunTo.fn y (by first | (simp; done) | omega | (simp; omega)) ?_; clear y Y))
   refine WpL.call rfl (guardA_sound (P := Tryd.prog) rfl) (CallA.shut rfl rfl (by kernel_rfl) (ALes.refl _) (by first | rfl | simp [shuts, A.shut, C.shut]) (hc) ?_)
   (refine WpL.go _ rfl fun Y y => ?_); repeat (first | (apply fw; (with_reducible constructor) <;> rfl) | (apply WpA.cd; constructor) | ((first | with_reducible refine WpA.go _ rfl fun Y y => ?_ | apply RunTo.id); simp only [zb, seval, w54, hee, hw2]; refine RunTo.fn y (by first | (simp; done) | omega | (simp; omega)) ?_; clear y Y))
   refine ⟨a.length - (i + 1), _, by omega, Le.drop 0 (Nat.zero_le _) rfl (by simp [Sub, find]) (by simp [envBd, A.bd, C.bd, C.bds]) (by simp [ObBd]), i + 1, rfl, hlt, ?_, rfl⟩
   rw [List.take_succ_eq_append_getElem hlt, List.take_succ_eq_append_getElem (by omega), hb, he]
  ·have hee := eqB_neg he
   rw [eqB_neg (a := a) (b := b) fun h => he (by simp [h])]
   repeat (first | (apply fw; (with_reducible constructor) <;> rfl) | (apply WpA.cd; constructor) | ((first | with_reducible refine WpA.go _ rfl fun Y y => ?_ | apply RunTo.id); simp only [zb, seval, w54, hd1, hga, hgb]; refine RunTo.fn y (by first | (simp; done) | omega | (simp; omega)) ?_; clear y Y))
   refine WpL.call rfl (guardA_sound (P := Tryd.prog) rfl) (CallA.shut rfl rfl (by kernel_rfl) (ALes.refl _) (by first | rfl | simp [shuts, A.shut, C.shut]) (hc) ?_)
   (refine WpL.go _ rfl fun Y y => ?_); repeat (first | (apply fw; (with_reducible constructor) <;> rfl) | (apply WpA.cd; constructor) | ((first | with_reducible refine WpA.go _ rfl fun Y y => ?_ | apply RunTo.id); simp only [zb, seval, w54, hee, hw2]; refine RunTo.fn y (by first | (simp; done) | omega | (simp; omega)) ?_; clear y Y))
   refine ⟨by simp, _, _, _, _, (by simp only [zb, seval, w54]; rfl), (by simp), (by simp only [zv]; rfl), (by simp), _, ALe.refl _, ?_⟩
   rfl
 ·have hd0 : decide ((i : Int) < (a.length : Int)) = false := by simp; omega
  have hii : i = a.length := by omega
  rw [eqB_pos (show a = b by rw [hii, List.take_length, hl, List.take_length] at hb; exact hb)]
  repeat (first | (apply fw; (with_reducible constructor) <;> rfl) | (apply WpA.cd; constructor) | ((first | with_reducible refine WpA.go _ rfl fun Y y => ?_ | apply RunTo.id); simp only [zb, seval, w54, hd0]; refine RunTo.fn y (by first | (simp; done) | omega | (simp; omega)) ?_; clear y Y))
  repeat (first | (apply fw; (with_reducible constructor) <;> rfl) | (apply WpA.cd; constructor) | ((first | with_reducible refine WpA.go _ rfl fun Y y => ?_ | apply RunTo.id); simp only [zb, seval, w54, hd0]; refine RunTo.fn y (by first | (simp; done) | omega | (simp; omega)) ?_; clear y Y))
  refine ⟨by simp, _, _, _, _, (by simp only [zb, seval, w54]; rfl), (by simp), (by simp only [zv]; rfl), (by simp), _, ALe.refl _, ?_⟩
  rfl
theorem K.ext' {a b : K} (h1 : a.k = b.k) (h2 : a.name = b.name) (h3 : a.rest = b.rest) (h4 : a.params = b.params) (h5 : a.d = b.d) (h6 : a.l = b.l) : a = b := by
 cases a; cases b
 simp only [K.k, K.name, K.rest, K.params, K.d, K.l] at *
 subst h1 h2 h3 h4 h5 h6; rfl
theorem esame_upto : ∀ n (a b : K), a.ht ≤ n → a.Ok → Pure Tryd.prog 38 [.agg a.cc, .agg b.cc] (.one (.v (.bool (eqB a b)))) := by
 intro n
 induction n with
 | zero => intro a b h; exact absurd h (by have := a.ht_pos; omega)
 | succ n ih =>
  intro a b hh hok
  have hq := equalS_pure a.params b.params hok.par
  have hd := same_pure a.d b.d
  have hf := equalF_pure a.l b.l hok.len (fun x hx y => by
   obtain ⟨i, hi, rfl⟩ := List.mem_iff_getElem.1 hx
   have := K.ht_lt hi
   exact ih _ y (by omega) (hok.get i hi))
  rw [D.cc_eq a.d, D.cc_eq b.d] at hd
  rw [K.cc_eq a, K.cc_eq b]
  by_cases h1 : a.k = b.k
  case neg =>
   have e1 : (a.k == b.k) = false := by simp [h1]
   rw [eqB_neg fun h => h1 (by rw [h])]
   refine Fn.intro Tryd.func38 rfl Tryd.ntmps38 Tryd.results38 (by simp only [List.length_cons, List.length_nil]; decide) ?_
   repeat (first | (apply fw; (with_reducible constructor) <;> rfl) | (apply WpA.cd; constructor) | ((first | with_reducible refine WpA.go _ rfl fun Y y => ?_ | apply RunTo.id); simp only [zb, seval, w38, e1]; refine RunTo.fn y (by first | (simp; done) | omega | (simp; omega)) ?_; clear y Y))
   refine ⟨by simp, _, _, _, _, (by simp only [zb, seval, w38]; rfl), (by simp), (by simp only [zv]; rfl), (by simp), _, ALe.refl _, ?_⟩
   rfl
  have e1 : (a.k == b.k) = true := by simp [h1]
  by_cases h2 : a.name = b.name
  case neg =>
   have e2 := eqB_neg h2
   rw [eqB_neg (a := a) (b := b) fun h => h2 (by rw [h])]
   refine Fn.intro Tryd.func38 rfl Tryd.ntmps38 Tryd.results38 (by simp only [List.length_cons, List.length_nil]; decide) ?_
   repeat (first | (apply fw; (with_reducible constructor) <;> rfl) | (apply WpA.cd; constructor) | ((first | with_reducible refine WpA.go _ rfl fun Y y => ?_ | apply RunTo.id); simp only [zb, seval, w38, e1, strEq, e2]; refine RunTo.fn y (by first | (simp; done) | omega | (simp; omega)) ?_; clear y Y))
   refine ⟨by simp, _, _, _, _, (by simp only [zb, seval, w38]; rfl), (by simp), (by simp only [zv]; rfl), (by simp), _, ALe.refl _, ?_⟩
   rfl
  have e2 := eqB_pos h2
  by_cases h3 : a.rest = b.rest
  case neg =>
   have e3 := eqB_neg h3
   rw [eqB_neg (a := a) (b := b) fun h => h3 (by rw [h])]
   refine Fn.intro Tryd.func38 rfl Tryd.ntmps38 Tryd.results38 (by simp only [List.length_cons, List.length_nil]; decide) ?_
   repeat (first | (apply fw; (with_reducible constructor) <;> rfl) | (apply WpA.cd; constructor) | ((first | with_reducible refine WpA.go _ rfl fun Y y => ?_ | apply RunTo.id); simp only [zb, seval, w38, e1, strEq, e2, e3]; refine RunTo.fn y (by first | (simp; done) | omega | (simp; omega)) ?_; clear y Y))
   refine ⟨by simp, _, _, _, _, (by simp only [zb, seval, w38]; rfl), (by simp), (by simp only [zv]; rfl), (by simp), _, ALe.refl _, ?_⟩
   rfl
  have e3 := eqB_pos h3
  by_cases h4 : a.params = b.params
  case neg =>
   have e4 := eqB_neg h4
   rw [eqB_neg (a := a) (b := b) fun h => h4 (by rw [h])]
   refine Fn.intro Tryd.func38 rfl Tryd.ntmps38 Tryd.results38 (by simp only [List.length_cons, List.length_nil]; decide) ?_
   repeat (first | (apply fw; (with_reducible constructor) <;> rfl) | (apply WpA.cd; constructor) | ((first | with_reducible refine WpA.go _ rfl fun Y y => ?_ | apply RunTo.id); simp only [zb, seval, w38, e1, strEq, e2, e3]; refine RunTo.fn y (by first | (simp; done) | omega | (simp; omega)) ?_; clear y Y))
   refine WpL.call rfl (guardA_sound (P := Tryd.prog) rfl) (CallA.shut rfl rfl (by kernel_rfl) (ALes.refl _) (by first | rfl | simp [shuts, A.shut, C.shut]) (hq) ?_)
   (refine WpL.go _ rfl fun Y y => ?_); repeat (first | (apply fw; (with_reducible constructor) <;> rfl) | (apply WpA.cd; constructor) | ((first | with_reducible refine WpA.go _ rfl fun Y y => ?_ | apply RunTo.id); simp only [zb, seval, w38, e4]; refine RunTo.fn y (by first | (simp; done) | omega | (simp; omega)) ?_; clear y Y))
   refine ⟨by simp, _, _, _, _, (by simp only [zb, seval, w38]; rfl), (by simp), (by simp only [zv]; rfl), (by simp), _, ALe.refl _, ?_⟩
   rfl
  have e4 := eqB_pos h4
  by_cases h5 : a.d = b.d
  case neg =>
   have e5 := eqB_neg h5
   rw [eqB_neg (a := a) (b := b) fun h => h5 (by rw [h])]
   refine Fn.intro Tryd.func38 rfl Tryd.ntmps38 Tryd.results38 (by simp only [List.length_cons, List.length_nil]; decide) ?_
   repeat (first | (apply fw; (with_reducible constructor) <;> rfl) | (apply WpA.cd; constructor) | ((first | with_reducible refine WpA.go _ rfl fun Y y => ?_ | apply RunTo.id); simp only [zb, seval, w38, e1, strEq, e2, e3]; refine RunTo.fn y (by first | (simp; done) | omega | (simp; omega)) ?_; clear y Y))
   refine WpL.call rfl (guardA_sound (P := Tryd.prog) rfl) (CallA.shut rfl rfl (by kernel_rfl) (ALes.refl _) (by first | rfl | simp [shuts, A.shut, C.shut]) (hq) ?_)
   (refine WpL.go _ rfl fun Y y => ?_); repeat (first | (apply fw; (with_reducible constructor) <;> rfl) | (apply WpA.cd; constructor) | ((first | with_reducible refine WpA.go _ rfl fun Y y => ?_ | apply RunTo.id); simp only [zb, seval, w38, e4]; refine RunTo.fn y (by first | (simp; done) | omega | (simp; omega)) ?_; clear y Y))
   refine WpL.call rfl (guardA_sound (P := Tryd.prog) rfl) (CallA.shut rfl rfl (by kernel_rfl) (ALes.refl _) (by first | rfl | simp [shuts, A.shut, C.shut]) (hd) ?_)
   (refine WpL.go _ rfl fun Y y => ?_); repeat (first | (apply fw; (with_reducible constructor) <;> rfl) | (apply WpA.cd; constructor) | ((first | with_reducible refine WpA.go _ rfl fun Y y => ?_ | apply RunTo.id); simp only [zb, seval, w38, e5]; refine RunTo.fn y (by first | (simp; done) | omega | (simp; omega)) ?_; clear y Y))
   refine ⟨by simp, _, _, _, _, (by simp only [zb, seval, w38]; rfl), (by simp), (by simp only [zv]; rfl), (by simp), _, ALe.refl _, ?_⟩
   rfl
  have e5 := eqB_pos h5
  have e6 : eqB a b = eqB a.l b.l := by
   by_cases h6 : a.l = b.l
   ·rw [eqB_pos h6, eqB_pos (K.ext' h1 h2 h3 h4 h5 h6)]
   ·rw [eqB_neg h6, eqB_neg fun h => h6 (by rw [h])]
  rw [e6]
  refine Fn.intro Tryd.func38 rfl Tryd.ntmps38 Tryd.results38 (by simp only [List.length_cons, List.length_nil]; decide) ?_
  repeat (first | (apply fw; (with_reducible constructor) <;> rfl) | (apply WpA.cd; constructor) | ((first | with_reducible refine WpA.go _ rfl fun Y y => ?_ | apply RunTo.id); simp only [zb, seval, w38, e1, strEq, e2, e3]; refine RunTo.fn y (by first | (simp; done) | omega | (simp; omega)) ?_; clear y Y))
  refine WpL.call rfl (guardA_sound (P := Tryd.prog) rfl) (CallA.shut rfl rfl (by kernel_rfl) (ALes.refl _) (by first | rfl | simp [shuts, A.shut, C.shut]) (hq) ?_)
  (refine WpL.go _ rfl fun Y y => ?_); repeat (first | (apply fw; (with_reducible constructor) <;> rfl) | (apply WpA.cd; constructor) | ((first | with_reducible refine WpA.go _ rfl fun Y y => ?_ | apply RunTo.id); simp only [zb, seval, w38, e4]; refine RunTo.fn y (by first | (simp; done) | omega | (simp; omega)) ?_; clear y Y))
  refine WpL.call rfl (guardA_sound (P := Tryd.prog) rfl) (CallA.shut rfl rfl (by kernel_rfl) (ALes.refl _) (by first | rfl | simp [shuts, A.shut, C.shut]) (hd) ?_)
  (refine WpL.go _ rfl fun Y y => ?_); repeat (first | (apply fw; (with_reducible constructor) <;> rfl) | (apply WpA.cd; constructor) | ((first | with_reducible refine WpA.go _ rfl fun Y y => ?_ | apply RunTo.id); simp only [zb, seval, w38, e5]; refine RunTo.fn y (by first | (simp; done) | omega | (simp; omega)) ?_; clear y Y))
  refine WpL.call rfl (guardA_sound (P := Tryd.prog) rfl) (CallA.lend rfl rfl (by kernel_rfl) (by simp only [zv]; rfl) (by first | exact trivial | (simp; done) | (simp [C.shut]; done)) rfl (hf) ?_)
  (refine WpL.go _ rfl fun Y y => ?_); repeat (first | (apply fw; (with_reducible constructor) <;> rfl) | (apply WpA.cd; constructor) | ((first | with_reducible refine WpA.go _ rfl fun Y y => ?_ | apply RunTo.id); simp only [zb, seval, w38]; refine RunTo.fn y (by first | (simp; done) | omega | (simp; omega)) ?_; clear y Y))
  refine ⟨by simp, _, _, _, _, (by simp only [zb, seval, w38]; rfl), (by simp), (by simp only [zv]; rfl), (by simp), _, ALe.refl _, ?_⟩
  rfl
theorem esame_pure (a b : K) (hok : a.Ok) : Pure Tryd.prog 38 [.agg a.cc, .agg b.cc] (.one (.v (.bool (eqB a b)))) := esame_upto a.ht a b (Nat.le_refl _) hok
def idxF {α : Type} (l : List α) (g : α → Bool) : Int := match l.findIdx? g with | some k => k | none => -1
theorem idxF_some {α : Type} {l : List α} {g : α → Bool} {k : Nat} (h : k < l.length) (hk : g l[k] = true) (hb : ∀ j (h : j < l.length), j < k → g l[j] = false) : idxF l g = k := by
 unfold idxF
 rw [List.findIdx?_eq_some_iff_getElem.2 ⟨h, hk, fun j hj => by rw [hb j (by omega) hj]; simp⟩]
theorem idxF_none {α : Type} {l : List α} {g : α → Bool} (hb : ∀ j (h : j < l.length), g l[j] = false) : idxF l g = -1 := by
 unfold idxF
 rw [List.findIdx?_eq_none_iff.2 fun x hx => by
  obtain ⟨j, hj, rfl⟩ := List.mem_iff_getElem.1 hx
  exact hb j hj]
theorem idxF_any {α : Type} (l : List α) (g : α → Bool) : decide (0 ≤ idxF l g) = l.any g := by
 unfold idxF
 cases h : l.findIdx? g with
 | none =>
  rw [List.findIdx?_eq_none_iff] at h
  have : l.any g = false := by rw [List.any_eq_false]; intro x hx; rw [h x hx]; simp
  rw [this]; rfl
 | some k =>
  obtain ⟨hk, h1, -⟩ := List.findIdx?_eq_some_iff_getElem.1 h
  have : l.any g = true := List.any_eq_true.2 ⟨_, List.getElem_mem hk, h1⟩
  rw [this]; simp
def IfI0 (f : FuncId) (tp : Bool) (l : List K) (g : K → Bool) (n : Nat) (st : St) : Prop := ∃ i : Nat, n = l.length - i ∧ i ≤ l.length ∧ (∀ j (h : j < l.length), j < i → g l[j] = false) ∧
 st = ⟨[(8, .one (.v (.int .i64 i))), (7, .one (.v (.int .i64 l.length))), (0, .one (.sl 11 (l.map K.cc))), (1, .one (.fn f []))], []⟩
theorem indexF0_pure (f : FuncId) (tp : Bool) (hcal : callable Tryd.prog f = true) (l : List K) (g : K → Bool) (hlen : l.length ≤ 1000000000000000) (hf : ∀ x ∈ l, Pure Tryd.prog f (.agg x.cc :: ([] : List C).map .one) (.one (.v (.bool (g x))))) : Pure Tryd.prog 46 [.one (.sl 11 (l.map K.cc)), .one (.fn f [])] (.one (.v (.int .i64 (idxF l g)))) := by
 refine Fn.intro Tryd.func46 rfl Tryd.ntmps46 Tryd.results46 (by simp only [List.length_cons, List.length_nil]; decide) ?_
 repeat (first | (apply fw; (with_reducible constructor) <;> rfl) | (apply WpA.cd; constructor) | ((first | with_reducible refine WpA.go _ rfl fun Y y => ?_ | apply RunTo.id); simp only [zb, seval, w46]; refine RunTo.fn y (by first | (simp; done) | omega | (simp; omega)) ?_; clear y Y))
 refine WpA.loop (IfI0 f tp l g) l.length ?_ ⟨0, rfl, Nat.zero_le _, fun j _ h => absurd h (Nat.not_lt_zero _), rfl⟩ ?_
 ·exact Le.sub (by simp [Sub, find])
 intro n' st hI
 obtain ⟨i, rfl, hi, hb, rfl⟩ := hI
 have hw2 : IntKind.i64.wrap ((i : Int) + 1) = ((i + 1 : Nat) : Int) := by rw [wrap64 (by omega) (by omega)]; omega
 by_cases hlt : i < l.length
 ·have hd1 : decide ((i : Int) < (l.length : Int)) = true := by simp; omega
  have hget := getK hlt
  have hc := hf l[i] (List.getElem_mem _)
  rw [K.cc_eq] at hget hc
  repeat (first | (apply fw; (with_reducible constructor) <;> rfl) | (apply WpA.cd; constructor) | ((first | with_reducible refine WpA.go _ rfl fun Y y => ?_ | apply RunTo.id); simp only [zb, seval, w46, hd1, hget]; refine RunTo.fn y (by first | (simp; done) | omega | (simp; omega)) ?_; clear y Y))
  refine WpL.call rfl (guardA_sound (P := Tryd.prog) rfl) (CallA.shut rfl rfl hcal (ALes.refl _) rfl hc ?_)
  cases hg : g l[i] with
  | true =>
   (refine WpL.go _ rfl fun Y y => ?_); repeat (first | (apply fw; (with_reducible constructor) <;> rfl) | (apply WpA.cd; constructor) | ((first | with_reducible refine WpA.go _ rfl fun Y y => ?_ | apply RunTo.id); simp only [zb, seval, w46]; refine RunTo.fn y (by first | (simp; done) | omega | (simp; omega)) ?_; clear y Y))
   refine ⟨by simp, _, _, _, _, (by simp only [zb, seval, w46]; rfl), (by simp), (by simp only [zv]; rfl), (by simp), _, ALe.refl _, ?_⟩
   rw [idxF_some hlt hg hb]
  | false =>
   (refine WpL.go _ rfl fun Y y => ?_); repeat (first | (apply fw; (with_reducible constructor) <;> rfl) | (apply WpA.cd; constructor) | ((first | with_reducible refine WpA.go _ rfl fun Y y => ?_ | apply RunTo.id); simp only [zb, seval, w46, hw2]; refine RunTo.fn y (by first | (simp; done) | omega | (simp; omega)) ?_; clear y Y))
   refine ⟨l.length - (i + 1), _, by omega, Le.sub (by simp [Sub, find]), i + 1, rfl, hlt, fun j hj hji => ?_, rfl⟩
   rcases Nat.lt_succ_iff_lt_or_eq.1 hji with h | rfl
   ·exact hb j hj h
   ·exact hg
 ·have hd0 : decide ((i : Int) < (l.length : Int)) = false := by simp; omega
  repeat (first | (apply fw; (with_reducible constructor) <;> rfl) | (apply WpA.cd; constructor) | ((first | with_reducible refine WpA.go _ rfl fun Y y => ?_ | apply RunTo.id); simp only [zb, seval, w46, hd0]; refine RunTo.fn y (by first | (simp; done) | omega | (simp; omega)) ?_; clear y Y))
  repeat (first | (apply fw; (with_reducible constructor) <;> rfl) | (apply WpA.cd; constructor) | ((first | with_reducible refine WpA.go _ rfl fun Y y => ?_ | apply RunTo.id); simp only [zb, seval, w46, hd0]; refine RunTo.fn y (by first | (simp; done) | omega | (simp; omega)) ?_; clear y Y))
  refine ⟨by simp, _, _, _, _, (by simp only [zb, seval, w46]; rfl), (by simp), (by simp only [zv]; rfl), (by simp), _, ALe.refl _, ?_⟩
  rw [idxF_none fun j hj => hb j hj (by omega)]
theorem containsF0_pure (f : FuncId) (tp : Bool) (hcal : callable Tryd.prog f = true) (l : List K) (g : K → Bool) (hlen : l.length ≤ 1000000000000000) (hf : ∀ x ∈ l, Pure Tryd.prog f (.agg x.cc :: ([] : List C).map .one) (.one (.v (.bool (g x))))) : Pure Tryd.prog 27 [.one (.sl 11 (l.map K.cc)), .one (.fn f [])] (.one (.v (.bool (l.any g)))) := by
 rw [← idxF_any]
 refine Fn.intro Tryd.func27 rfl Tryd.ntmps27 Tryd.results27 (by simp only [List.length_cons, List.length_nil]; decide) ?_
 repeat (first | (apply fw; (with_reducible constructor) <;> rfl) | (apply WpA.cd; constructor) | ((first | with_reducible refine WpA.go _ rfl fun Y y => ?_ | apply RunTo.id); simp only [zb, seval]; refine RunTo.fn y (by first | (simp; done) | omega | (simp; omega)) ?_; clear y Y))
 refine WpL.call rfl (guardA_sound (P := Tryd.prog) rfl) (CallA.lend rfl rfl (by kernel_rfl) (by simp only [zv]; rfl) (by first | exact trivial | (simp; done) | (simp [C.shut]; done)) rfl (indexF0_pure f tp hcal l g hlen hf) ?_)
 (refine WpL.go _ rfl fun Y y => ?_); repeat (first | (apply fw; (with_reducible constructor) <;> rfl) | (apply WpA.cd; constructor) | ((first | with_reducible refine WpA.go _ rfl fun Y y => ?_ | apply RunTo.id); simp only [zb, seval]; refine RunTo.fn y (by first | (simp; done) | omega | (simp; omega)) ?_; clear y Y))
 refine ⟨by simp, _, _, _, _, (by simp only [zb, seval]; rfl), (by simp), (by simp only [zv]; rfl), (by simp), _, ALe.refl _, ?_⟩
 rfl
def IfI1 (f : FuncId) (tp : Bool) (l : List K) (g : K → Bool) (n : Nat) (st : St) : Prop := ∃ i : Nat, n = l.length - i ∧ i ≤ l.length ∧ (∀ j (h : j < l.length), j < i → g l[j] = false) ∧
 st = ⟨[(8, .one (.v (.int .i64 i))), (7, .one (.v (.int .i64 l.length))), (0, .one (.sl 11 (l.map K.cc))), (1, .one (.fn f [.pf [.v (.bool tp)]]))], []⟩
theorem indexF1_pure (f : FuncId) (tp : Bool) (hcal : callable Tryd.prog f = true) (l : List K) (g : K → Bool) (hlen : l.length ≤ 1000000000000000) (hf : ∀ x ∈ l, Pure Tryd.prog f (.agg x.cc :: ([.pf [.v (.bool tp)]] : List C).map .one) (.one (.v (.bool (g x))))) : Pure Tryd.prog 46 [.one (.sl 11 (l.map K.cc)), .one (.fn f [.pf [.v (.bool tp)]])] (.one (.v (.int .i64 (idxF l g)))) := by
 refine Fn.intro Tryd.func46 rfl Tryd.ntmps46 Tryd.results46 (by simp only [List.length_cons, List.length_nil]; decide) ?_
 repeat (first | (apply fw; (with_reducible constructor) <;> rfl) | (apply WpA.cd; constructor) | ((first | with_reducible refine WpA.go _ rfl fun Y y => ?_ | apply RunTo.id); simp only [zb, seval, w46]; refine RunTo.fn y (by first | (simp; done) | omega | (simp; omega)) ?_; clear y Y))
 refine WpA.loop (IfI1 f tp l g) l.length ?_ ⟨0, rfl, Nat.zero_le _, fun j _ h => absurd h (Nat.not_lt_zero _), rfl⟩ ?_
 ·exact Le.sub (by simp [Sub, find])
 intro n' st hI
 obtain ⟨i, rfl, hi, hb, rfl⟩ := hI
 have hw2 : IntKind.i64.wrap ((i : Int) + 1) = ((i + 1 : Nat) : Int) := by rw [wrap64 (by omega) (by omega)]; omega
 by_cases hlt : i < l.length
 ·have hd1 : decide ((i : Int) < (l.length : Int)) = true := by simp; omega
  have hget := getK hlt
  have hc := hf l[i] (List.getElem_mem _)
  rw [K.cc_eq] at hget hc
  repeat (first | (apply fw; (with_reducible constructor) <;> rfl) | (apply WpA.cd; constructor) | ((first | with_reducible refine WpA.go _ rfl fun Y y => ?_ | apply RunTo.id); simp only [zb, seval, w46, hd1, hget]; refine RunTo.fn y (by first | (simp; done) | omega | (simp; omega)) ?_; clear y Y))
  refine WpL.call rfl (guardA_sound (P := Tryd.prog) rfl) (CallA.shut rfl rfl hcal (ALes.refl _) rfl hc ?_)
  cases hg : g l[i] with
  | true =>
   (refine WpL.go _ rfl fun Y y => ?_); repeat (first | (apply fw; (with_reducible constructor) <;> rfl) | (apply WpA.cd; constructor) | ((first | with_reducible refine WpA.go _ rfl fun Y y => ?_ | apply RunTo.id); simp only [zb, seval, w46]; refine RunTo.fn y (by first | (simp; done) | omega | (simp; omega)) ?_; clear y Y))
   refine ⟨by simp, _, _, _, _, (by simp only [zb, seval, w46]; rfl), (by simp), (by simp only [zv]; rfl), (by simp), _, ALe.refl _, ?_⟩
   rw [idxF_some hlt hg hb]
  | false =>
   (refine WpL.go _ rfl fun Y y => ?_); repeat (first | (apply fw; (with_reducible constructor) <;> rfl) | (apply WpA.cd; constructor) | ((first | with_reducible refine WpA.go _ rfl fun Y y => ?_ | apply RunTo.id); simp only [zb, seval, w46, hw2]; refine RunTo.fn y (by first | (simp; done) | omega | (simp; omega)) ?_; clear y Y))
   refine ⟨l.length - (i + 1), _, by omega, Le.sub (by simp [Sub, find]), i + 1, rfl, hlt, fun j hj hji => ?_, rfl⟩
   rcases Nat.lt_succ_iff_lt_or_eq.1 hji with h | rfl
   ·exact hb j hj h
   ·exact hg
 ·have hd0 : decide ((i : Int) < (l.length : Int)) = false := by simp; omega
  repeat (first | (apply fw; (with_reducible constructor) <;> rfl) | (apply WpA.cd; constructor) | ((first | with_reducible refine WpA.go _ rfl fun Y y => ?_ | apply RunTo.id); simp only [zb, seval, w46, hd0]; refine RunTo.fn y (by first | (simp; done) | omega | (simp; omega)) ?_; clear y Y))
  repeat (first | (apply fw; (with_reducible constructor) <;> rfl) | (apply WpA.cd; constructor) | ((first | with_reducible refine WpA.go _ rfl fun Y y => ?_ | apply RunTo.id); simp only [zb, seval, w46, hd0]; refine RunTo.fn y (by first | (simp; done) | omega | (simp; omega)) ?_; clear y Y))
  refine ⟨by simp, _, _, _, _, (by simp only [zb, seval, w46]; rfl), (by simp), (by simp only [zv]; rfl), (by simp), _, ALe.refl _, ?_⟩
  rw [idxF_none fun j hj => hb j hj (by omega)]
theorem containsF1_pure (f : FuncId) (tp : Bool) (hcal : callable Tryd.prog f = true) (l : List K) (g : K → Bool) (hlen : l.length ≤ 1000000000000000) (hf : ∀ x ∈ l, Pure Tryd.prog f (.agg x.cc :: ([.pf [.v (.bool tp)]] : List C).map .one) (.one (.v (.bool (g x))))) : Pure Tryd.prog 27 [.one (.sl 11 (l.map K.cc)), .one (.fn f [.pf [.v (.bool tp)]])] (.one (.v (.bool (l.any g)))) := by
 rw [← idxF_any]
 refine Fn.intro Tryd.func27 rfl Tryd.ntmps27 Tryd.results27 (by simp only [List.length_cons, List.length_nil]; decide) ?_
 repeat (first | (apply fw; (with_reducible constructor) <;> rfl) | (apply WpA.cd; constructor) | ((first | with_reducible refine WpA.go _ rfl fun Y y => ?_ | apply RunTo.id); simp only [zb, seval]; refine RunTo.fn y (by first | (simp; done) | omega | (simp; omega)) ?_; clear y Y))
 refine WpL.call rfl (guardA_sound (P := Tryd.prog) rfl) (CallA.lend rfl rfl (by kernel_rfl) (by simp only [zv]; rfl) (by first | exact trivial | (simp; done) | (simp [C.shut]; done)) rfl (indexF1_pure f tp hcal l g hlen hf) ?_)
 (refine WpL.go _ rfl fun Y y => ?_); repeat (first | (apply fw; (with_reducible constructor) <;> rfl) | (apply WpA.cd; constructor) | ((first | with_reducible refine WpA.go _ rfl fun Y y => ?_ | apply RunTo.id); simp only [zb, seval]; refine RunTo.fn y (by first | (simp; done) | omega | (simp; omega)) ?_; clear y Y))
 refine ⟨by simp, _, _, _, _, (by simp only [zb, seval]; rfl), (by simp), (by simp only [zv]; rfl), (by simp), _, ALe.refl _, ?_⟩
 rfl
def cntB (c : K) : Bool := if c.k = 1 ∨ c.k = 2 ∨ c.k = 9 ∨ c.k = 10 then decide (c.l.length = 0) else if c.k = 3 ∨ c.k = 4 ∨ c.k = 6 then decide (c.l.length = 1) else if c.k = 5 then decide (c.l.length = 3) else if c.k = 7 then decide (2 ≤ c.l.length) else if c.k = 8 then decide (1 ≤ c.l.length) && decide (c.l.length ≤ 41) else false
theorem natEq (n m : Nat) : ((n : Int) == (m : Int)) = decide (n = m) := by
 by_cases h : n = m
 ·simp [h]
 ·simp [h]; omega
theorem count_pure (c : K) : Pure Tryd.prog 37 [.agg c.cc] (.one (.v (.bool (cntB c)))) := by
 obtain ⟨k, name, rest, params, d, l⟩ := c
 rw [K.cc_eq]
 simp only [K.k, K.name, K.rest, K.params, K.d, K.l]
 have z0 : ((l.length : Int) == 0) = decide (l.length = 0) := natEq l.length 0
 have z1 : ((l.length : Int) == 1) = decide (l.length = 1) := natEq l.length 1
 have z3 : ((l.length : Int) == 3) = decide (l.length = 3) := natEq l.length 3
 have g2 : decide ((2 : Int) ≤ (l.length : Int)) = decide (2 ≤ l.length) := by apply decide_eq_decide.2; omega
 have g1 : decide ((1 : Int) ≤ (l.length : Int)) = decide (1 ≤ l.length) := by apply decide_eq_decide.2; omega
 have g41 : decide ((l.length : Int) ≤ (41 : Int)) = decide (l.length ≤ 41) := by apply decide_eq_decide.2; omega
 by_cases k1 : k = 1
 ·subst k1
  refine Fn.intro Tryd.func37 rfl Tryd.ntmps37 Tryd.results37 (by simp only [List.length_cons, List.length_nil]; decide) ?_
  repeat (first | (apply fw; (with_reducible constructor) <;> rfl) | (apply WpA.cd; constructor) | ((first | with_reducible refine WpA.go _ rfl fun Y y => ?_ | apply RunTo.id); simp only [zb, seval, w37, z0, z1, z3, g2]; refine RunTo.fn y (by first | (simp; done) | omega | (simp; omega)) ?_; clear y Y))
  refine ⟨by simp, _, _, _, _, (by simp only [zb, seval, w37]; rfl), (by simp), (by simp only [zv]; rfl), (by simp), _, ALe.refl _, ?_⟩
  simp [cntB, K.k, K.l] <;> exact decide_eq_decide.2 Iff.rfl
 by_cases k2 : k = 2
 ·subst k2
  refine Fn.intro Tryd.func37 rfl Tryd.ntmps37 Tryd.results37 (by simp only [List.length_cons, List.length_nil]; decide) ?_
  repeat (first | (apply fw; (with_reducible constructor) <;> rfl) | (apply WpA.cd; constructor) | ((first | with_reducible refine WpA.go _ rfl fun Y y => ?_ | apply RunTo.id); simp only [zb, seval, w37, z0, z1, z3, g2]; refine RunTo.fn y (by first | (simp; done) | omega | (simp; omega)) ?_; clear y Y))
  refine ⟨by simp, _, _, _, _, (by simp only [zb, seval, w37]; rfl), (by simp), (by simp only [zv]; rfl), (by simp), _, ALe.refl _, ?_⟩
  simp [cntB, K.k, K.l] <;> exact decide_eq_decide.2 Iff.rfl
 by_cases k9 : k = 9
 ·subst k9
  refine Fn.intro Tryd.func37 rfl Tryd.ntmps37 Tryd.results37 (by simp only [List.length_cons, List.length_nil]; decide) ?_
  repeat (first | (apply fw; (with_reducible constructor) <;> rfl) | (apply WpA.cd; constructor) | ((first | with_reducible refine WpA.go _ rfl fun Y y => ?_ | apply RunTo.id); simp only [zb, seval, w37, z0, z1, z3, g2]; refine RunTo.fn y (by first | (simp; done) | omega | (simp; omega)) ?_; clear y Y))
  refine ⟨by simp, _, _, _, _, (by simp only [zb, seval, w37]; rfl), (by simp), (by simp only [zv]; rfl), (by simp), _, ALe.refl _, ?_⟩
  simp [cntB, K.k, K.l] <;> exact decide_eq_decide.2 Iff.rfl
 by_cases k10 : k = 10
 ·subst k10
  refine Fn.intro Tryd.func37 rfl Tryd.ntmps37 Tryd.results37 (by simp only [List.length_cons, List.length_nil]; decide) ?_
  repeat (first | (apply fw; (with_reducible constructor) <;> rfl) | (apply WpA.cd; constructor) | ((first | with_reducible refine WpA.go _ rfl fun Y y => ?_ | apply RunTo.id); simp only [zb, seval, w37, z0, z1, z3, g2]; refine RunTo.fn y (by first | (simp; done) | omega | (simp; omega)) ?_; clear y Y))
  refine ⟨by simp, _, _, _, _, (by simp only [zb, seval, w37]; rfl), (by simp), (by simp only [zv]; rfl), (by simp), _, ALe.refl _, ?_⟩
  simp [cntB, K.k, K.l] <;> exact decide_eq_decide.2 Iff.rfl
 by_cases k3 : k = 3
 ·subst k3
  refine Fn.intro Tryd.func37 rfl Tryd.ntmps37 Tryd.results37 (by simp only [List.length_cons, List.length_nil]; decide) ?_
  repeat (first | (apply fw; (with_reducible constructor) <;> rfl) | (apply WpA.cd; constructor) | ((first | with_reducible refine WpA.go _ rfl fun Y y => ?_ | apply RunTo.id); simp only [zb, seval, w37, z0, z1, z3, g2]; refine RunTo.fn y (by first | (simp; done) | omega | (simp; omega)) ?_; clear y Y))
  refine ⟨by simp, _, _, _, _, (by simp only [zb, seval, w37]; rfl), (by simp), (by simp only [zv]; rfl), (by simp), _, ALe.refl _, ?_⟩
  simp [cntB, K.k, K.l] <;> exact decide_eq_decide.2 Iff.rfl
 by_cases k4 : k = 4
 ·subst k4
  refine Fn.intro Tryd.func37 rfl Tryd.ntmps37 Tryd.results37 (by simp only [List.length_cons, List.length_nil]; decide) ?_
  repeat (first | (apply fw; (with_reducible constructor) <;> rfl) | (apply WpA.cd; constructor) | ((first | with_reducible refine WpA.go _ rfl fun Y y => ?_ | apply RunTo.id); simp only [zb, seval, w37, z0, z1, z3, g2]; refine RunTo.fn y (by first | (simp; done) | omega | (simp; omega)) ?_; clear y Y))
  refine ⟨by simp, _, _, _, _, (by simp only [zb, seval, w37]; rfl), (by simp), (by simp only [zv]; rfl), (by simp), _, ALe.refl _, ?_⟩
  simp [cntB, K.k, K.l] <;> exact decide_eq_decide.2 Iff.rfl
 by_cases k6 : k = 6
 ·subst k6
  refine Fn.intro Tryd.func37 rfl Tryd.ntmps37 Tryd.results37 (by simp only [List.length_cons, List.length_nil]; decide) ?_
  repeat (first | (apply fw; (with_reducible constructor) <;> rfl) | (apply WpA.cd; constructor) | ((first | with_reducible refine WpA.go _ rfl fun Y y => ?_ | apply RunTo.id); simp only [zb, seval, w37, z0, z1, z3, g2]; refine RunTo.fn y (by first | (simp; done) | omega | (simp; omega)) ?_; clear y Y))
  refine ⟨by simp, _, _, _, _, (by simp only [zb, seval, w37]; rfl), (by simp), (by simp only [zv]; rfl), (by simp), _, ALe.refl _, ?_⟩
  simp [cntB, K.k, K.l] <;> exact decide_eq_decide.2 Iff.rfl
 by_cases k5 : k = 5
 ·subst k5
  refine Fn.intro Tryd.func37 rfl Tryd.ntmps37 Tryd.results37 (by simp only [List.length_cons, List.length_nil]; decide) ?_
  repeat (first | (apply fw; (with_reducible constructor) <;> rfl) | (apply WpA.cd; constructor) | ((first | with_reducible refine WpA.go _ rfl fun Y y => ?_ | apply RunTo.id); simp only [zb, seval, w37, z0, z1, z3, g2]; refine RunTo.fn y (by first | (simp; done) | omega | (simp; omega)) ?_; clear y Y))
  refine ⟨by simp, _, _, _, _, (by simp only [zb, seval, w37]; rfl), (by simp), (by simp only [zv]; rfl), (by simp), _, ALe.refl _, ?_⟩
  simp [cntB, K.k, K.l] <;> exact decide_eq_decide.2 Iff.rfl
 by_cases k7 : k = 7
 ·subst k7
  refine Fn.intro Tryd.func37 rfl Tryd.ntmps37 Tryd.results37 (by simp only [List.length_cons, List.length_nil]; decide) ?_
  repeat (first | (apply fw; (with_reducible constructor) <;> rfl) | (apply WpA.cd; constructor) | ((first | with_reducible refine WpA.go _ rfl fun Y y => ?_ | apply RunTo.id); simp only [zb, seval, w37, z0, z1, z3, g2]; refine RunTo.fn y (by first | (simp; done) | omega | (simp; omega)) ?_; clear y Y))
  refine ⟨by simp, _, _, _, _, (by simp only [zb, seval, w37]; rfl), (by simp), (by simp only [zv]; rfl), (by simp), _, ALe.refl _, ?_⟩
  simp [cntB, K.k, K.l] <;> exact decide_eq_decide.2 Iff.rfl
 by_cases k8 : k = 8
 ·subst k8
  have hc8 : cntB (.mk 8 name rest params d l) = (decide (1 ≤ l.length) && decide (l.length ≤ 41)) := rfl
  cases hl : decide (1 ≤ l.length) with
  | true =>
   refine Fn.intro Tryd.func37 rfl Tryd.ntmps37 Tryd.results37 (by simp only [List.length_cons, List.length_nil]; decide) ?_
   repeat (first | (apply fw; (with_reducible constructor) <;> rfl) | (apply WpA.cd; constructor) | ((first | with_reducible refine WpA.go _ rfl fun Y y => ?_ | apply RunTo.id); simp only [zb, seval, w37, g1, hl, g41]; refine RunTo.fn y (by first | (simp; done) | omega | (simp; omega)) ?_; clear y Y))
   refine ⟨by simp, _, _, _, _, (by simp only [zb, seval, w37]; rfl), (by simp), (by simp only [zv]; rfl), (by simp), _, ALe.refl _, ?_⟩
   rw [hc8, hl]; rfl
  | false =>
   refine Fn.intro Tryd.func37 rfl Tryd.ntmps37 Tryd.results37 (by simp only [List.length_cons, List.length_nil]; decide) ?_
   repeat (first | (apply fw; (with_reducible constructor) <;> rfl) | (apply WpA.cd; constructor) | ((first | with_reducible refine WpA.go _ rfl fun Y y => ?_ | apply RunTo.id); simp only [zb, seval, w37, g1, hl, g41]; refine RunTo.fn y (by first | (simp; done) | omega | (simp; omega)) ?_; clear y Y))
   refine ⟨by simp, _, _, _, _, (by simp only [zb, seval, w37]; rfl), (by simp), (by simp only [zv]; rfl), (by simp), _, ALe.refl _, ?_⟩
   rw [hc8, hl]; rfl
 have b1 : (k == 1) = false := by simp [k1]
 have b2 : (k == 2) = false := by simp [k2]
 have b9 : (k == 9) = false := by simp [k9]
 have b10 : (k == 10) = false := by simp [k10]
 have b3 : (k == 3) = false := by simp [k3]
 have b4 : (k == 4) = false := by simp [k4]
 have b6 : (k == 6) = false := by simp [k6]
 have b5 : (k == 5) = false := by simp [k5]
 have b7 : (k == 7) = false := by simp [k7]
 have b8 : (k == 8) = false := by simp [k8]
 refine Fn.intro Tryd.func37 rfl Tryd.ntmps37 Tryd.results37 (by simp only [List.length_cons, List.length_nil]; decide) ?_
 repeat (first | (apply fw; (with_reducible constructor) <;> rfl) | (apply WpA.cd; constructor) | ((first | with_reducible refine WpA.go _ rfl fun Y y => ?_ | apply RunTo.id); simp only [zb, seval, w37, b1, b2, b9, b10, b3, b4, b6, b5, b7, b8]; refine RunTo.fn y (by first | (simp; done) | omega | (simp; omega)) ?_; clear y Y))
 refine ⟨by simp, _, _, _, _, (by simp only [zb, seval, w37]; rfl), (by simp), (by simp only [zv]; rfl), (by simp), _, ALe.refl _, ?_⟩
 simp [cntB, K.k, K.l, k1, k2, k3, k4, k5, k6, k7, k8, k9, k10]
def dZ : D := .mk 0 0 false [] ⟨#[]⟩ []
def K.bare (c : K) : K := .mk c.k (if c.k = 2 ∨ c.k = 3 ∨ c.k = 4 ∨ c.k = 10 then c.name else ⟨#[]⟩) (if c.k = 6 then c.rest else ⟨#[]⟩) (if c.k = 6 then c.params else []) (if c.k = 1 then c.d else dZ) c.l
theorem bare_pure (c : K) : Pure Tryd.prog 39 [.agg c.cc] (.agg c.bare.cc) := by
 obtain ⟨k, name, rest, params, d, l⟩ := c
 rw [K.cc_eq]
 simp only [K.k, K.name, K.rest, K.params, K.d, K.l]
 by_cases k1 : k = 1
 ·subst k1
  refine Fn.intro Tryd.func39 rfl Tryd.ntmps39 Tryd.results39 (by simp only [List.length_cons, List.length_nil]; decide) ?_
  repeat (first | (apply fw; (with_reducible constructor) <;> rfl) | (apply WpA.cd; constructor) | ((first | with_reducible refine WpA.go _ rfl fun Y y => ?_ | apply RunTo.id); simp only [zb, seval, w39]; refine RunTo.fn y (by first | (simp; done) | omega | (simp; omega)) ?_; clear y Y))
  refine ⟨by simp, _, _, _, _, (by simp only [zb, seval, w39]; rfl), (by simp), (by simp only [zv]; rfl), (by simp), _, (by rw [K.cc_eq]; exact ALe.agg (by repeat (first | exact CLes.refl _ | refine CLes.nil ?_ | refine CLes.cons ?_))), rfl⟩
 by_cases k2 : k = 2
 ·subst k2
  refine Fn.intro Tryd.func39 rfl Tryd.ntmps39 Tryd.results39 (by simp only [List.length_cons, List.length_nil]; decide) ?_
  repeat (first | (apply fw; (with_reducible constructor) <;> rfl) | (apply WpA.cd; constructor) | ((first | with_reducible refine WpA.go _ rfl fun Y y => ?_ | apply RunTo.id); simp only [zb, seval, w39]; refine RunTo.fn y (by first | (simp; done) | omega | (simp; omega)) ?_; clear y Y))
  refine ⟨by simp, _, _, _, _, (by simp only [zb, seval, w39]; rfl), (by simp), (by simp only [zv]; rfl), (by simp), _, (by rw [K.cc_eq]; exact ALe.agg (by repeat (first | exact CLes.refl _ | refine CLes.nil ?_ | refine CLes.cons ?_))), rfl⟩
 by_cases k3 : k = 3
 ·subst k3
  refine Fn.intro Tryd.func39 rfl Tryd.ntmps39 Tryd.results39 (by simp only [List.length_cons, List.length_nil]; decide) ?_
  repeat (first | (apply fw; (with_reducible constructor) <;> rfl) | (apply WpA.cd; constructor) | ((first | with_reducible refine WpA.go _ rfl fun Y y => ?_ | apply RunTo.id); simp only [zb, seval, w39]; refine RunTo.fn y (by first | (simp; done) | omega | (simp; omega)) ?_; clear y Y))
  refine ⟨by simp, _, _, _, _, (by simp only [zb, seval, w39]; rfl), (by simp), (by simp only [zv]; rfl), (by simp), _, (by rw [K.cc_eq]; exact ALe.agg (by repeat (first | exact CLes.refl _ | refine CLes.nil ?_ | refine CLes.cons ?_))), rfl⟩
 by_cases k4 : k = 4
 ·subst k4
  refine Fn.intro Tryd.func39 rfl Tryd.ntmps39 Tryd.results39 (by simp only [List.length_cons, List.length_nil]; decide) ?_
  repeat (first | (apply fw; (with_reducible constructor) <;> rfl) | (apply WpA.cd; constructor) | ((first | with_reducible refine WpA.go _ rfl fun Y y => ?_ | apply RunTo.id); simp only [zb, seval, w39]; refine RunTo.fn y (by first | (simp; done) | omega | (simp; omega)) ?_; clear y Y))
  refine ⟨by simp, _, _, _, _, (by simp only [zb, seval, w39]; rfl), (by simp), (by simp only [zv]; rfl), (by simp), _, (by rw [K.cc_eq]; exact ALe.agg (by repeat (first | exact CLes.refl _ | refine CLes.nil ?_ | refine CLes.cons ?_))), rfl⟩
 by_cases k10 : k = 10
 ·subst k10
  refine Fn.intro Tryd.func39 rfl Tryd.ntmps39 Tryd.results39 (by simp only [List.length_cons, List.length_nil]; decide) ?_
  repeat (first | (apply fw; (with_reducible constructor) <;> rfl) | (apply WpA.cd; constructor) | ((first | with_reducible refine WpA.go _ rfl fun Y y => ?_ | apply RunTo.id); simp only [zb, seval, w39]; refine RunTo.fn y (by first | (simp; done) | omega | (simp; omega)) ?_; clear y Y))
  refine ⟨by simp, _, _, _, _, (by simp only [zb, seval, w39]; rfl), (by simp), (by simp only [zv]; rfl), (by simp), _, (by rw [K.cc_eq]; exact ALe.agg (by repeat (first | exact CLes.refl _ | refine CLes.nil ?_ | refine CLes.cons ?_))), rfl⟩
 by_cases k6 : k = 6
 ·subst k6
  refine Fn.intro Tryd.func39 rfl Tryd.ntmps39 Tryd.results39 (by simp only [List.length_cons, List.length_nil]; decide) ?_
  repeat (first | (apply fw; (with_reducible constructor) <;> rfl) | (apply WpA.cd; constructor) | ((first | with_reducible refine WpA.go _ rfl fun Y y => ?_ | apply RunTo.id); simp only [zb, seval, w39]; refine RunTo.fn y (by first | (simp; done) | omega | (simp; omega)) ?_; clear y Y))
  skip
  (refine WpA.draw1 8 [5, 7] ([some ⟨33, 11, [[.v (.int .i64 6), .v (.string name), .v (.string rest), .sl 1 (strC params), .v (.int .i64 d.k), .v (.int .i32 d.c), .v (.bool d.neg), .sl 1 (d.mag.map fun n => [.v (.int .u32 n)]), .v (.string d.t), .sl 6 (d.l.map D.cc), .sl 11 (l.map K.cc)]]⟩]) [[some ⟨33, 11, [[.v (.int .i64 6), .v (.string name), .v (.string rest), .sl 1 (strC params), .v (.int .i64 d.k), .v (.int .i32 d.c), .v (.bool d.neg), .sl 1 (d.mag.map fun n => [.v (.int .u32 n)]), .v (.string d.t), .sl 6 (d.l.map D.cc), .sl 11 (l.map K.cc)]]⟩, some ⟨33, 11, [[.v (.int .i64 0), .v (.string ⟨#[]⟩), .v (.string ⟨#[]⟩), .v (.slice none 0 0), .v (.int .i64 0), .v (.int .i32 0), .v (.bool false), .v (.slice none 0 0), .v (.string ⟨#[]⟩), .v (.slice none 0 0), .v (.slice none 0 0)]]⟩, some ⟨33, 11, [[.v (.int .i64 6), .v (.string ⟨#[]⟩), .v (.string ⟨#[]⟩), .v (.slice none 0 0), .v (.int .i64 0), .v (.int .i32 0), .v (.bool false), .v (.slice none 0 0), .v (.string ⟨#[]⟩), .v (.slice none 0 0), .sl 11 (l.map K.cc)]]⟩], [some ⟨33, 11, [[.v (.int .i64 6), .v (.string name), .v (.string rest), .sl 1 (strC params), .v (.int .i64 d.k), .v (.int .i32 d.c), .v (.bool d.neg), .sl 1 (d.mag.map fun n => [.v (.int .u32 n)]), .v (.string d.t), .sl 6 (d.l.map D.cc), .sl 11 (l.map K.cc)]]⟩, some ⟨33, 11, [[.v (.int .i64 0), .v (.string ⟨#[]⟩), .v (.string ⟨#[]⟩), .v (.slice none 0 0), .v (.int .i64 0), .v (.int .i32 0), .v (.bool false), .v (.slice none 0 0), .v (.string ⟨#[]⟩), .v (.slice none 0 0), .v (.slice none 0 0)]]⟩, some ⟨33, 11, [[.v (.int .i64 6), .v (.string ⟨#[]⟩), .v (.string ⟨#[]⟩), .sl 1 (strC params), .v (.int .i64 0), .v (.int .i32 0), .v (.bool false), .v (.slice none 0 0), .v (.string ⟨#[]⟩), .v (.slice none 0 0), .sl 11 (l.map K.cc)]]⟩], [some ⟨33, 11, [[.v (.int .i64 6), .v (.string name), .v (.string rest), .sl 1 (strC params), .v (.int .i64 d.k), .v (.int .i32 d.c), .v (.bool d.neg), .sl 1 (d.mag.map fun n => [.v (.int .u32 n)]), .v (.string d.t), .sl 6 (d.l.map D.cc), .sl 11 (l.map K.cc)]]⟩, some ⟨33, 11, [[.v (.int .i64 0), .v (.string ⟨#[]⟩), .v (.string ⟨#[]⟩), .v (.slice none 0 0), .v (.int .i64 0), .v (.int .i32 0), .v (.bool false), .v (.slice none 0 0), .v (.string ⟨#[]⟩), .v (.slice none 0 0), .v (.slice none 0 0)]]⟩, some ⟨33, 11, [[.v (.int .i64 6), .v (.string ⟨#[]⟩), .v (.string rest), .sl 1 (strC params), .v (.int .i64 0), .v (.int .i32 0), .v (.bool false), .v (.slice none 0 0), .v (.string ⟨#[]⟩), .v (.slice none 0 0), .sl 11 (l.map K.cc)]]⟩]] _ _ _ _ rfl rfl rfl (by kernel_rfl) (by kernel_rfl) (by kernel_rfl) (by kernel_rfl) rfl rfl rfl rfl (by decide) fun K8 hK8 => ?_)
  simp only [zz] at hK8 ⊢
  (refine Draw1.go fun K7 hK7 => ?_); simp only [zb, seval, w39]; (refine RunQ.mk (by first | (simp; done) | omega | (simp; omega)) (hK7 _ _ (by rfl) ?_)); clear hK7 K7; (simp only [zz, Nat.reduceAdd, Nat.reduceSub]); (try ((refine Draw1.nil (by simp only [List.mem_cons, List.not_mem_nil, or_false, forall_eq_or_imp, forall_eq]; refine ⟨?_, ?_, ?_⟩ <;> (refine LeS.of ?_) <;> (repeat (first | exact SLe.nil _ | exact SLe.refl _ | exact SLe.app _ _ | refine SLe.same ?_ | refine SLe.none ?_))) (hK8 _ ?_)); clear hK8 K8; (refine WpL.go _ rfl fun Y y => ?_); repeat (first | (apply fw; (with_reducible constructor) <;> rfl) | (apply WpA.cd; constructor) | ((first | with_reducible refine WpA.go _ rfl fun Y y => ?_ | apply RunTo.id); simp only [zb, seval, w39]; refine RunTo.fn y (by first | (simp; done) | omega | (simp; omega)) ?_; clear y Y))))
  refine Draw1.stepA (x := .one (.ptr 2 1 0 3)) (by rfl) (fun s9 hs9 => ?_) ?_
  ·simp only [List.mem_cons, List.not_mem_nil, or_false] at hs9
   rcases hs9 with rfl | rfl | rfl
   all_goals exact OpS.quiet rfl (by simp only [qop, rdA, find, reduceIte, Nat.reduceEqDiff, fld_33_3, fieldA, List.getElem?_cons_zero, List.getElem?_cons_succ]; rfl) (by simp)
  simp only [putE]
  refine Draw1.eff 0 rfl rfl rfl (OpS.eff [(22, _), (19, _)] rfl (by rfl) ⟨rfl, rfl, trivial⟩ (by simp only [zb, seval, w39]; rfl) (by first | (simp; done) | omega | (simp; omega))) ?_; (try simp only [putE]); (try ((refine Draw1.go fun K7 hK7 => ?_); simp only [zb, seval, w39]; (refine RunQ.mk (by first | (simp; done) | omega | (simp; omega)) (hK7 _ _ (by rfl) ?_)); clear hK7 K7; (simp only [zz, Nat.reduceAdd, Nat.reduceSub]); (try ((refine Draw1.nil (by simp only [List.mem_cons, List.not_mem_nil, or_false, forall_eq_or_imp, forall_eq]; refine ⟨?_, ?_, ?_⟩ <;> (refine LeS.of ?_) <;> (repeat (first | exact SLe.nil _ | exact SLe.refl _ | exact SLe.app _ _ | refine SLe.same ?_ | refine SLe.none ?_))) (hK8 _ ?_)); clear hK8 K8; (refine WpL.go _ rfl fun Y y => ?_); repeat (first | (apply fw; (with_reducible constructor) <;> rfl) | (apply WpA.cd; constructor) | ((first | with_reducible refine WpA.go _ rfl fun Y y => ?_ | apply RunTo.id); simp only [zb, seval, w39]; refine RunTo.fn y (by first | (simp; done) | omega | (simp; omega)) ?_; clear y Y))))))
  refine Draw1.stepA (x := .one (.ptr 2 1 0 2)) (by rfl) (fun s9 hs9 => ?_) ?_
  ·simp only [List.mem_cons, List.not_mem_nil, or_false] at hs9
   rcases hs9 with rfl | rfl | rfl
   all_goals exact OpS.quiet rfl (by simp only [qop, rdA, find, reduceIte, Nat.reduceEqDiff, fld_33_2, fieldA, List.getElem?_cons_zero, List.getElem?_cons_succ]; rfl) (by simp)
  simp only [putE]
  refine Draw1.eff 1 rfl rfl rfl (OpS.eff [(23, _), (21, _)] rfl (by rfl) ⟨rfl, rfl, trivial⟩ (by simp only [zb, seval, w39]; rfl) (by first | (simp; done) | omega | (simp; omega))) ?_; (try simp only [putE]); (try ((refine Draw1.go fun K7 hK7 => ?_); simp only [zb, seval, w39]; (refine RunQ.mk (by first | (simp; done) | omega | (simp; omega)) (hK7 _ _ (by rfl) ?_)); clear hK7 K7; (simp only [zz, Nat.reduceAdd, Nat.reduceSub]); (try ((refine Draw1.nil (by simp only [List.mem_cons, List.not_mem_nil, or_false, forall_eq_or_imp, forall_eq]; refine ⟨?_, ?_, ?_⟩ <;> (refine LeS.of ?_) <;> (repeat (first | exact SLe.nil _ | exact SLe.refl _ | exact SLe.app _ _ | refine SLe.same ?_ | refine SLe.none ?_))) (hK8 _ ?_)); clear hK8 K8; (refine WpL.go _ rfl fun Y y => ?_); repeat (first | (apply fw; (with_reducible constructor) <;> rfl) | (apply WpA.cd; constructor) | ((first | with_reducible refine WpA.go _ rfl fun Y y => ?_ | apply RunTo.id); simp only [zb, seval, w39]; refine RunTo.fn y (by first | (simp; done) | omega | (simp; omega)) ?_; clear y Y))))))
  refine ⟨by simp, _, _, _, _, (by simp only [zb, seval, w39]; rfl), (by simp), (by simp only [zv]; rfl), (by simp), _, (by rw [K.cc_eq]; exact ALe.agg (by repeat (first | exact CLes.refl _ | refine CLes.nil ?_ | refine CLes.cons ?_))), rfl⟩
 have b1 : (k == 1) = false := by simp [k1]
 have b2 : (k == 2) = false := by simp [k2]
 have b3 : (k == 3) = false := by simp [k3]
 have b4 : (k == 4) = false := by simp [k4]
 have b6 : (k == 6) = false := by simp [k6]
 have b10 : (k == 10) = false := by simp [k10]
 have hbr : K.bare (.mk k name rest params d l) = .mk k ⟨#[]⟩ ⟨#[]⟩ [] dZ l := by simp [K.bare, K.k, K.l, k1, k2, k3, k4, k6, k10]
 rw [hbr]
 refine Fn.intro Tryd.func39 rfl Tryd.ntmps39 Tryd.results39 (by simp only [List.length_cons, List.length_nil]; decide) ?_
 repeat (first | (apply fw; (with_reducible constructor) <;> rfl) | (apply WpA.cd; constructor) | ((first | with_reducible refine WpA.go _ rfl fun Y y => ?_ | apply RunTo.id); simp only [zb, seval, w39, b1, b2, b3, b4, b6, b10]; refine RunTo.fn y (by first | (simp; done) | omega | (simp; omega)) ?_; clear y Y))
 refine ⟨by simp, _, _, _, _, (by simp only [zb, seval, w39]; rfl), (by simp), (by simp only [zv]; rfl), (by simp), _, (by rw [K.cc_eq]; exact ALe.agg (by repeat (first | exact CLes.refl _ | refine CLes.nil ?_ | refine CLes.cons ?_))), rfl⟩
theorem cloneO (l : List ByteArray) (hlen : l.length ≤ 1000000000000) : Fn Tryd.prog 58 [.one (.sl 1 (strC l))] [] (fun r s => (l = [] ∧ r = .one (.v (.slice none 0 0)) ∧ s = []) ∨ (r = .one (.ms 0 l.length) ∧ s = [some ⟨9, 1, strC l⟩])) := by
 have hl := strC_len l
 refine Fn.introT Tryd.func58 rfl Tryd.ntmps58 Tryd.results58 (by simp only [List.length_cons, List.length_nil]; decide) ?_
 repeat (first | (apply fw; (with_reducible constructor) <;> rfl) | (apply WpA.cd; constructor) | ((first | with_reducible refine WpA.go _ rfl fun Y y => ?_ | apply RunTo.id); simp only [zb, seval, w58]; refine RunTo.fn y (by first | (simp; done) | omega | (simp; omega)) ?_; clear y Y))
 refine WpL.nilSl rfl rfl Tryd.underlying25 fun b hb => ?_
 cases b with
 | true =>
  have : strC l = [] := by
   cases h : strC l with
   | nil => rfl
   | cons a r => have := hb (by simp [h]); cases this
  (refine WpL.go _ rfl fun Y y => ?_); repeat (first | (apply fw; (with_reducible constructor) <;> rfl) | (apply WpA.cd; constructor) | ((first | with_reducible refine WpA.go _ rfl fun Y y => ?_ | apply RunTo.id); simp only [zb, seval, w58]; refine RunTo.fn y (by first | (simp; done) | omega | (simp; omega)) ?_; clear y Y))
  refine ⟨.inl rfl, _, _, _, _, (by simp only [zb, seval]; rfl), trivial, Le.refl _ _, .inl ⟨?_, rfl, rfl⟩⟩
  simpa [strC] using this
 | false =>
  (refine WpL.go _ rfl fun Y y => ?_); repeat (first | (apply fw; (with_reducible constructor) <;> rfl) | (apply WpA.cd; constructor) | ((first | with_reducible refine WpA.go _ rfl fun Y y => ?_ | apply RunTo.id); simp only [zb, seval, w58, hl]; refine RunTo.fn y (by first | (simp; done) | omega | (simp; omega)) ?_; clear y Y))
  refine ⟨.inl rfl, _, _, _, _, (by simp only [zb, seval]; rfl), trivial, Le.refl _ _, .inr ⟨?_, ?_⟩⟩
  ·simp [tupA, hl]
  ·simp
noncomputable def allN (c : K) : List ByteArray := if c.rest = ⟨#[]⟩ then c.params else c.params ++ [c.rest]
theorem strC_app (a b : List ByteArray) : strC (a ++ b) = strC a ++ strC b := by simp [strC]
theorem ob_strC_ren (f : Nat → Nat) (t : TypeId) (w : Nat) (l : List ByteArray) : Ob.ren f ⟨t, w, strC l⟩ = ⟨t, w, strC l⟩ := by simp [Ob.ren, strC, C.rens, C.ren]
theorem all_pure (c : K) (hlen : c.params.length ≤ 1000000000) : Pure Tryd.prog 42 [.agg c.cc] (.one (.sl 1 (strC (allN c)))) := by
 obtain ⟨k, name, rest, params, d, l⟩ := c
 rw [K.cc_eq]
 simp only [K.k, K.name, K.rest, K.params, K.d, K.l] at hlen ⊢
 have hl := strC_len params
 by_cases hr : rest = ⟨#[]⟩
 ·have hre : eqB rest ⟨#[]⟩ = true := eqB_pos hr
  have hal : allN (.mk k name rest params d l) = params := if_pos hr
  rw [hal]
  refine Fn.intro Tryd.func42 rfl Tryd.ntmps42 Tryd.results42 (by simp only [List.length_cons, List.length_nil]; decide) ?_
  repeat (first | (apply fw; (with_reducible constructor) <;> rfl) | (apply WpA.cd; constructor) | ((first | with_reducible refine WpA.go _ rfl fun Y y => ?_ | apply RunTo.id); simp only [zb, seval, w42]; refine RunTo.fn y (by first | (simp; done) | omega | (simp; omega)) ?_; clear y Y))
  refine WpL.hand (s := []) (ρ := []) rfl (guardA_sound (P := Tryd.prog) rfl) rfl rfl (by kernel_rfl) rfl (Handed.of (by simp) rfl) (cloneO params (by omega)) ?_
  rintro _ _ (⟨h0, rfl, rfl⟩ | ⟨rfl, rfl⟩)
  ·subst h0
   simp only [back, mix, putAll, List.map_nil, List.drop_nil, List.append_nil, A.ren, C.ren]
   (refine WpL.go _ rfl fun Y y => ?_); repeat (first | (apply fw; (with_reducible constructor) <;> rfl) | (apply WpA.cd; constructor) | ((first | with_reducible refine WpA.go _ rfl fun Y y => ?_ | apply RunTo.id); simp only [zb, seval, w42, strEq, hre]; refine RunTo.fn y (by first | (simp; done) | omega | (simp; omega)) ?_; clear y Y))
   refine ⟨by simp, _, _, _, _, (by simp only [zb, seval, w42]; rfl), (by simp), (by simp only [zv]; rfl), (by simp), _, ALe.nil, rfl⟩
  ·simp only [back, mix, putAll, List.map_cons, List.map_nil, List.length_nil, List.drop_zero, List.cons_append, List.nil_append, A.ren, C.ren, Option.map_some, List.length_cons, rn, List.getD_nil, Nat.zero_add, Nat.sub_zero, Nat.add_zero, ob_strC_ren]
   (refine WpL.go _ rfl fun Y y => ?_); repeat (first | (apply fw; (with_reducible constructor) <;> rfl) | (apply WpA.cd; constructor) | ((first | with_reducible refine WpA.go _ rfl fun Y y => ?_ | apply RunTo.id); simp only [zb, seval, w42, strEq, hre]; refine RunTo.fn y (by first | (simp; done) | omega | (simp; omega)) ?_; clear y Y))
   refine ⟨by simp, _, _, _, _, (by simp only [zb, seval, w42]; rfl), (by simp), (by simp only [zv]; rfl), (by simp [hl]; exact strC_shut params), _, ALe.refl _, ?_⟩
   rfl
 ·have hre : eqB rest ⟨#[]⟩ = false := eqB_neg hr
  have hal : allN (.mk k name rest params d l) = params ++ [rest] := if_neg hr
  rw [hal]
  refine Fn.intro Tryd.func42 rfl Tryd.ntmps42 Tryd.results42 (by simp only [List.length_cons, List.length_nil]; decide) ?_
  repeat (first | (apply fw; (with_reducible constructor) <;> rfl) | (apply WpA.cd; constructor) | ((first | with_reducible refine WpA.go _ rfl fun Y y => ?_ | apply RunTo.id); simp only [zb, seval, w42]; refine RunTo.fn y (by first | (simp; done) | omega | (simp; omega)) ?_; clear y Y))
  refine WpL.hand (s := []) (ρ := []) rfl (guardA_sound (P := Tryd.prog) rfl) rfl rfl (by kernel_rfl) rfl (Handed.of (by simp) rfl) (cloneO params (by omega)) ?_
  rintro _ _ (⟨h0, rfl, rfl⟩ | ⟨rfl, rfl⟩)
  ·subst h0
   simp only [back, mix, putAll, List.map_nil, List.drop_nil, List.append_nil, A.ren, C.ren]
   (refine WpL.go _ rfl fun Y y => ?_); repeat (first | (apply fw; (with_reducible constructor) <;> rfl) | (apply WpA.cd; constructor) | ((first | with_reducible refine WpA.go _ rfl fun Y y => ?_ | apply RunTo.id); simp only [zb, seval, w42, strEq, hre]; refine RunTo.fn y (by first | (simp; done) | omega | (simp; omega)) ?_; clear y Y))
   refine ⟨by simp, _, _, _, _, (by simp only [zb, seval, w42]; rfl), (by simp), (by simp only [zv]; rfl), (by simp [C.shut]), _, ALe.refl _, ?_⟩
   rfl
  ·simp only [back, mix, putAll, List.map_cons, List.map_nil, List.length_nil, List.drop_zero, List.cons_append, List.nil_append, A.ren, C.ren, Option.map_some, List.length_cons, rn, List.getD_nil, Nat.zero_add, Nat.sub_zero, Nat.add_zero, ob_strC_ren]
   (refine WpL.go _ rfl fun Y y => ?_); repeat (first | (apply fw; (with_reducible constructor) <;> rfl) | (apply WpA.cd; constructor) | ((first | with_reducible refine WpA.go _ rfl fun Y y => ?_ | apply RunTo.id); simp only [zb, seval, w42, strEq, hre, hl]; refine RunTo.fn y (by first | (simp; done) | omega | (simp; omega)) ?_; clear y Y))
   refine ⟨by simp, _, _, _, _, (by simp only [zb, seval, w42]; rfl), (by simp), (by simp only [zv]; rfl), (by (refine ⟨by simp [hl], fun e he => ?_⟩); exact (List.mem_append.1 he).elim (strC_shut _ e) (fun h => strC_shut [rest] e h)), _, ALe.refl _, ?_⟩
   rw [strC_app]; rfl
theorem idx_iff (l : List ByteArray) (s : ByteArray) : 0 ≤ idx l s ↔ s ∈ l := by
 unfold idx
 cases h : posn l s with
 | none =>
  unfold posn at h
  rw [List.findIdx?_eq_none_iff] at h
  simp only [Int.reduceNeg, Int.reduceLE, false_iff]
  intro hs
  have := h s hs
  rw [eqB_pos rfl] at this; cases this
 | some k =>
  unfold posn at h
  obtain ⟨hk, h1, -⟩ := List.findIdx?_eq_some_iff_getElem.1 h
  simp only [Int.natCast_nonneg, true_iff]
  rw [eqB_iff.1 h1]; exact List.getElem_mem hk
noncomputable def propB (p : Prop) : Bool := @decide p (Classical.propDecidable _)
theorem propB_iff {p : Prop} : propB p = true ↔ p := by unfold propB; exact @decide_eq_true_iff _ (Classical.propDecidable _)
theorem propB_pos {p : Prop} (h : p) : propB p = true := propB_iff.2 h
theorem propB_neg {p : Prop} (h : ¬ p) : propB p = false := by
 cases hc : propB p with
 | false => rfl
 | true => exact absurd (propB_iff.1 hc) h
def VarsOk (l : List ByteArray) : Prop := l.length ≤ 40 ∧ ⟨#[]⟩ ∉ l ∧ l.Nodup
theorem strC_take (l : List ByteArray) (i : Nat) : (strC l).take i = strC (l.take i) := by simp [strC]
theorem nodup_take {l : List ByteArray} {i : Nat} (h : i < l.length) : (l.take (i + 1)).Nodup ↔ ((l.take i).Nodup ∧ l[i] ∉ l.take i) := by
 rw [List.take_succ_eq_append_getElem h, List.nodup_append]
 simp only [List.nodup_cons, List.not_mem_nil, not_false_eq_true, List.nodup_nil, and_self, true_and, List.mem_cons, or_false]
 constructor
 ·rintro ⟨h1, h2⟩; exact ⟨h1, fun hm => h2 _ hm _ rfl rfl⟩
 ·rintro ⟨h1, h2⟩; exact ⟨h1, fun a ha b hb e => h2 (by rw [← hb, ← e]; exact ha)⟩
def VaI (l : List ByteArray) (n : Nat) (st : St) : Prop := ∃ i : Nat, n = l.length - i ∧ i ≤ l.length ∧ (l.take i).Nodup ∧
 st = ⟨[(14, .one (.v (.int .i64 i))), (13, .one (.v (.int .i64 l.length))), (12, .one (.sl 1 (strC l))), (0, .one (.sl 1 (strC l)))], []⟩
theorem variables_pure (l : List ByteArray) (hlen : l.length ≤ 1000000000000000) : Pure Tryd.prog 41 [.one (.sl 1 (strC l))] (.one (.v (.bool (propB (VarsOk l))))) := by
 have hl := strC_len l
 by_cases h40 : 40 < l.length
 ·have hd : decide ((40 : Int) < (l.length : Int)) = true := by simp; omega
  rw [propB_neg fun h => by have := h.1; omega]
  refine Fn.intro Tryd.func41 rfl Tryd.ntmps41 Tryd.results41 (by simp only [List.length_cons, List.length_nil]; decide) ?_
  repeat (first | (apply fw; (with_reducible constructor) <;> rfl) | (apply WpA.cd; constructor) | ((first | with_reducible refine WpA.go _ rfl fun Y y => ?_ | apply RunTo.id); simp only [zb, seval, w41, hl, hd]; refine RunTo.fn y (by first | (simp; done) | omega | (simp; omega)) ?_; clear y Y))
  refine ⟨by simp, _, _, _, _, (by simp only [zb, seval, w41]; rfl), (by simp), (by simp only [zv]; rfl), (by simp), _, ALe.refl _, ?_⟩
  rfl
 have hd : decide ((40 : Int) < (l.length : Int)) = false := by simp; omega
 have hc := contains_pure l ⟨#[]⟩ (by omega)
 by_cases h0 : (⟨#[]⟩ : ByteArray) ∈ l
 ·have h0' : decide (0 ≤ idx l ⟨#[]⟩) = true := decide_eq_true ((idx_iff _ _).2 h0)
  rw [propB_neg fun h => h.2.1 h0]
  refine Fn.intro Tryd.func41 rfl Tryd.ntmps41 Tryd.results41 (by simp only [List.length_cons, List.length_nil]; decide) ?_
  repeat (first | (apply fw; (with_reducible constructor) <;> rfl) | (apply WpA.cd; constructor) | ((first | with_reducible refine WpA.go _ rfl fun Y y => ?_ | apply RunTo.id); simp only [zb, seval, w41, hl, hd]; refine RunTo.fn y (by first | (simp; done) | omega | (simp; omega)) ?_; clear y Y))
  refine WpL.call rfl (guardA_sound (P := Tryd.prog) rfl) (CallA.shut rfl rfl (by kernel_rfl) (ALes.refl _) (by first | rfl | simp [shuts, A.shut, C.shut]) (hc) ?_)
  (refine WpL.go _ rfl fun Y y => ?_); repeat (first | (apply fw; (with_reducible constructor) <;> rfl) | (apply WpA.cd; constructor) | ((first | with_reducible refine WpA.go _ rfl fun Y y => ?_ | apply RunTo.id); simp only [zb, seval, w41, h0']; refine RunTo.fn y (by first | (simp; done) | omega | (simp; omega)) ?_; clear y Y))
  refine ⟨by simp, _, _, _, _, (by simp only [zb, seval, w41]; rfl), (by simp), (by simp only [zv]; rfl), (by simp), _, ALe.refl _, ?_⟩
  rfl
 have h0' : decide (0 ≤ idx l ⟨#[]⟩) = false := decide_eq_false fun h => h0 ((idx_iff _ _).1 h)
 refine Fn.intro Tryd.func41 rfl Tryd.ntmps41 Tryd.results41 (by simp only [List.length_cons, List.length_nil]; decide) ?_
 repeat (first | (apply fw; (with_reducible constructor) <;> rfl) | (apply WpA.cd; constructor) | ((first | with_reducible refine WpA.go _ rfl fun Y y => ?_ | apply RunTo.id); simp only [zb, seval, w41, hl, hd]; refine RunTo.fn y (by first | (simp; done) | omega | (simp; omega)) ?_; clear y Y))
 refine WpL.call rfl (guardA_sound (P := Tryd.prog) rfl) (CallA.shut rfl rfl (by kernel_rfl) (ALes.refl _) (by first | rfl | simp [shuts, A.shut, C.shut]) (hc) ?_)
 (refine WpL.go _ rfl fun Y y => ?_); repeat (first | (apply fw; (with_reducible constructor) <;> rfl) | (apply WpA.cd; constructor) | ((first | with_reducible refine WpA.go _ rfl fun Y y => ?_ | apply RunTo.id); simp only [zb, seval, w41, h0', hl]; refine RunTo.fn y (by first | (simp; done) | omega | (simp; omega)) ?_; clear y Y))
 refine WpA.loop (VaI l) l.length ?_ ⟨0, rfl, Nat.zero_le _, by simp, rfl⟩ ?_
 ·exact Le.sub (by simp [Sub, find])
 intro n' st hI
 obtain ⟨i, rfl, hi, hb, rfl⟩ := hI
 have hw2 : IntKind.i64.wrap ((i : Int) + 1) = ((i + 1 : Nat) : Int) := by rw [wrap64 (by omega) (by omega)]; omega
 by_cases hlt : i < l.length
 ·have hd1 : decide ((i : Int) < (l.length : Int)) = true := by simp; omega
  have hget := strC_get hlt
  have hc2 := contains_pure (l.take i) l[i] (by rw [List.length_take]; omega)
  by_cases hm : l[i] ∈ l.take i
  ·have hm' : decide (0 ≤ idx (l.take i) l[i]) = true := decide_eq_true ((idx_iff _ _).2 hm)
   rw [propB_neg fun h => by
    have h9 := h.2.2
    have := (nodup_take hlt).1 ((List.take_sublist _ _).nodup h9)
    exact this.2 hm]
   repeat (first | (apply fw; (with_reducible constructor) <;> rfl) | (apply WpA.cd; constructor) | ((first | with_reducible refine WpA.go _ rfl fun Y y => ?_ | apply RunTo.id); simp only [zb, seval, w41, hd1, hget, hl, strC_take, Int.toNat_zero]; refine RunTo.fn y (by first | (simp; done) | omega | (simp; omega)) ?_; clear y Y))
   refine WpL.call rfl (guardA_sound (P := Tryd.prog) rfl) (CallA.shut rfl rfl (by kernel_rfl) (ALes.refl _) (by first | rfl | simp [shuts, A.shut, C.shut]) (hc2) ?_)
   (refine WpL.go _ rfl fun Y y => ?_); repeat (first | (apply fw; (with_reducible constructor) <;> rfl) | (apply WpA.cd; constructor) | ((first | with_reducible refine WpA.go _ rfl fun Y y => ?_ | apply RunTo.id); simp only [zb, seval, w41, hm']; refine RunTo.fn y (by first | (simp; done) | omega | (simp; omega)) ?_; clear y Y))
   refine ⟨by simp, _, _, _, _, (by simp only [zb, seval, w41]; rfl), (by simp), (by simp only [zv]; rfl), (by simp), _, ALe.refl _, ?_⟩
   rfl
  ·have hm' : decide (0 ≤ idx (l.take i) l[i]) = false := decide_eq_false fun h => hm ((idx_iff _ _).1 h)
   repeat (first | (apply fw; (with_reducible constructor) <;> rfl) | (apply WpA.cd; constructor) | ((first | with_reducible refine WpA.go _ rfl fun Y y => ?_ | apply RunTo.id); simp only [zb, seval, w41, hd1, hget, hl, strC_take, Int.toNat_zero]; refine RunTo.fn y (by first | (simp; done) | omega | (simp; omega)) ?_; clear y Y))
   refine WpL.call rfl (guardA_sound (P := Tryd.prog) rfl) (CallA.shut rfl rfl (by kernel_rfl) (ALes.refl _) (by first | rfl | simp [shuts, A.shut, C.shut]) (hc2) ?_)
   (refine WpL.go _ rfl fun Y y => ?_); repeat (first | (apply fw; (with_reducible constructor) <;> rfl) | (apply WpA.cd; constructor) | ((first | with_reducible refine WpA.go _ rfl fun Y y => ?_ | apply RunTo.id); simp only [zb, seval, w41, hm', hw2]; refine RunTo.fn y (by first | (simp; done) | omega | (simp; omega)) ?_; clear y Y))
   exact ⟨l.length - (i + 1), _, by omega, Le.sub (by simp [Sub, find]), i + 1, rfl, hlt, (nodup_take hlt).2 ⟨hb, hm⟩, rfl⟩
 ·have hd0 : decide ((i : Int) < (l.length : Int)) = false := by simp; omega
  have hii : i = l.length := by omega
  rw [propB_pos ⟨by omega, h0, by rw [hii, List.take_length] at hb; exact hb⟩]
  repeat (first | (apply fw; (with_reducible constructor) <;> rfl) | (apply WpA.cd; constructor) | ((first | with_reducible refine WpA.go _ rfl fun Y y => ?_ | apply RunTo.id); simp only [zb, seval, w41, hd0]; refine RunTo.fn y (by first | (simp; done) | omega | (simp; omega)) ?_; clear y Y))
  repeat (first | (apply fw; (with_reducible constructor) <;> rfl) | (apply WpA.cd; constructor) | ((first | with_reducible refine WpA.go _ rfl fun Y y => ?_ | apply RunTo.id); simp only [zb, seval, w41, hd0]; refine RunTo.fn y (by first | (simp; done) | omega | (simp; omega)) ?_; clear y Y))
  refine ⟨by simp, _, _, _, _, (by simp only [zb, seval, w41]; rfl), (by simp), (by simp only [zv]; rfl), (by simp), _, ALe.refl _, ?_⟩
  rfl
end Go.Proofs.YtpacdmgnpadleaaDoor
end
