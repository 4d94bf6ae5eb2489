/-
  Laid together: LawInnerK.
-/
import Derived.Test.YtpacdmgnpadleaaDoorG8

section
/-
  The law ScopeInner.
-/
namespace Go.Proofs.YtpacdmgnpadleaaDoor
open Go Go.RowKit Go.Lib
set_option linter.unusedSimpArgs false
set_option linter.unusedVariables false
set_option maxHeartbeats 4000000
set_option maxRecDepth 100000
def oth : ByteArray := ⟨#[111, 116, 104, 101, 114]⟩
def inP (s : ByteArray) (b : Bool) : List ByteArray := if b then [oth, s] else [oth]
/-- Lambdas within one another, the outermost first. -/
def inK (s : ByteArray) : List Bool → K
  | [] => kRef s
  | b :: r => .mk 6 ⟨#[]⟩ ⟨#[]⟩ (inP s b) dZ [inK s r]
theorem oth_ne : oth ≠ ⟨#[]⟩ := fun e => by have := congrArg (fun x : ByteArray => x.data.toList) e; simp [oth] at this
theorem allN_in (s : ByteArray) (b : Bool) (r : List Bool) : allN (inK s (b :: r)) = inP s b := by simp [inK, allN, K.rest, K.params]
theorem inK_may (s : ByteArray) (h1 : s ≠ ⟨#[]⟩) (h2 : s ≠ oth) : ∀ (r : List Bool) (t : Bool), (inK s r).may t = true
  | [], t => kRef_may s h1 t
  | b :: r, t => by
    have ih := inK_may s h1 h2 r false
    rw [inK, K.may]
    rw [eqB_pos (show K.mk 6 ⟨#[]⟩ ⟨#[]⟩ (inP s b) dZ [inK s r] = K.bare (K.mk 6 ⟨#[]⟩ ⟨#[]⟩ (inP s b) dZ [inK s r]) by simp [K.bare, K.k, K.name, K.rest, K.params, K.d, K.l])]
    rw [propB_pos (show VarsOk (allN (K.mk 6 ⟨#[]⟩ ⟨#[]⟩ (inP s b) dZ [inK s r])) by
      have := allN_in s b r
      rw [inK] at this
      rw [this]
      cases b <;> simp [VarsOk, inP, oth_ne, Ne.symm oth_ne, h1, Ne.symm h1, h2, Ne.symm h2])]
    simp [cntB, K.k, K.l, K.mays, ih]
theorem inK_size (s : ByteArray) : ∀ r : List Bool, (inK s r).size = r.length + 1
  | [] => by simp [inK, kRef, K.size, K.sizes]
  | b :: r => by rw [inK, K.size]; simp [K.sizes, inK_size s r]
theorem inK_lg (s : ByteArray) : ∀ r : List Bool, (inK s r).Lg
  | [] => by
    have hc : dZ.count < 1000000000 := by simp [dZ, D.count, cnts]
    simp [inK, kRef, K.Lg, K.Lgs, dZ_ok, hc]
  | b :: r => by
    have hc : dZ.count < 1000000000 := by simp [dZ, D.count, cnts]
    have : (inP s b).length ≤ 1000 := by cases b <;> simp [inP]
    simp only [inK, K.Lg, K.Lgs]
    exact ⟨by omega, this, dZ_ok, hc, by simp, inK_lg s r, trivial⟩
/-- The last node, and all. -/
theorem inK_emit (s : ByteArray) : ∀ (r : List Bool) (c : Cd) (sc : List (List ByteArray)) (n : Nat), (emit (inK s r) c sc n).2 = (varN c (sc ++ r.map (inP s)) s 2 3).2 ∧ (emit (inK s r) c sc n).1[r.length]? = some ⟨(varN c (sc ++ r.map (inP s)) s 2 3).1.1, (varN c (sc ++ r.map (inP s)) s 2 3).1.2.1, (varN c (sc ++ r.map (inP s)) s 2 3).1.2.2, []⟩
  | [], c, sc, n => by
    rw [emit_eq]
    simp [inK, kRef, nodeN, K.k, K.name, K.l, emits, ats]
  | b :: r, c, sc, n => by
    obtain ⟨h1, h2⟩ := inK_emit s r c (sc ++ [inP s b]) (n + 1)
    have hsc : scIn (inK s (b :: r)) sc = sc ++ [inP s b] := by
      rw [scIn, if_pos (by simp [inK, K.k]), allN_in]
    have hnd : (nodeN c (inK s (b :: r)) sc).2 = c := by simp [inK, nodeN, K.k]
    rw [emit_eq, hsc, hnd]
    have hl : (inK s (b :: r)).l = [inK s r] := by rw [inK]; rfl
    rw [hl, emits_one]
    simp only [List.length_cons, List.getElem?_cons_succ, List.map_cons]
    rw [List.append_assoc] at h1 h2
    exact ⟨h1, h2⟩
theorem posn_in (s : ByteArray) (h2 : s ≠ oth) (b : Bool) : posn (inP s b) s = if b then some 1 else none := by
  have e1 : eqB s oth = false := eqB_neg h2
  have e2 : eqB s s = true := eqB_pos rfl
  cases b <;> simp [posn, inP, List.findIdx?_cons, e1, e2]
theorem placeN_in (s : ByteArray) (h2 : s ≠ oth) : ∀ has : List Bool, placeN s (has.map (inP s)) = (has.findIdx? id).map fun k => (k, 1)
  | [] => rfl
  | b :: has => by
    rw [List.map_cons, placeN, posn_in s h2]
    cases b with
    | true => simp [List.findIdx?_cons]
    | false =>
      simp only [Bool.false_eq_true, if_false, List.findIdx?_cons, id]
      rw [placeN_in s h2 has]
      cases has.findIdx? id <;> simp
def wantI (l : List Bool) : Int := match l.findIdx? id with | some k => k | none => -1
theorem varN_con' (c : Cd) (sc : List (List ByteArray)) (s : ByteArray) (lo gl : Int) : (varN c sc s lo gl).2.consts = c.consts := by
  unfold varN
  split <;> rfl
theorem inK_code (s : ByteArray) (h2 : s ≠ oth) (has : List Bool) : (codeN [inK s has.reverse]).nodes.length = has.length + 1 ∧ (codeN [inK s has.reverse]).consts = [] ∧
    (match has.findIdx? id with
    | some k => (codeN [inK s has.reverse]).nodes[has.length]? = some ⟨2, k, 1, []⟩ ∧ (codeN [inK s has.reverse]).globals = []
    | none => (codeN [inK s has.reverse]).nodes[has.length]? = some ⟨3, 0, 0, []⟩ ∧ (codeN [inK s has.reverse]).globals = [s]) := by
  have h3 := codeN_len [inK s has.reverse]
  rw [K.sizes, K.sizes, inK_size, List.length_reverse] at h3
  obtain ⟨g1, g2⟩ := inK_emit s has.reverse .zero [] 0
  have hc : codeN [inK s has.reverse] = { putN .zero (inK s has.reverse) [] with tops := [((0 : Nat) : Int)] } := rfl
  have hn : (codeN [inK s has.reverse]).nodes = (emit (inK s has.reverse) .zero [] 0).1 := by rw [hc]; simp [putN, Cd.with, Cd.zero]
  have hcs : (codeN [inK s has.reverse]).consts = (emit (inK s has.reverse) .zero [] 0).2.consts := by rw [hc]; rfl
  have hgs : (codeN [inK s has.reverse]).globals = (emit (inK s has.reverse) .zero [] 0).2.globals := by rw [hc]; rfl
  rw [List.length_reverse] at g2
  have hp : placeN s ([] ++ has.reverse.map (inP s)).reverse = (has.findIdx? id).map fun k => (k, 1) := by
    rw [List.nil_append, ← List.map_reverse, List.reverse_reverse]
    exact placeN_in s h2 has
  refine ⟨by omega, ?_, ?_⟩
  · rw [hcs, g1, (varN_con' _ _ _ _ _)]; rfl
  · rw [hn, hgs, g1, g2]
    unfold varN
    rw [hp]
    cases has.findIdx? id with
    | some k => exact ⟨rfl, rfl⟩
    | none => exact ⟨rfl, rfl⟩
def boolC (l : List Bool) : List (List C) := l.map fun b => [.v (.bool b)]
theorem boolC_len (l : List Bool) : (boolC l).length = l.length := by simp [boolC]
theorem boolC_get {l : List Bool} {i : Nat} (h : i < l.length) : (boolC l)[i]? = some [.v (.bool l[i])] := by simp [boolC, h]
theorem wantI_true {l : List Bool} {i : Nat} (h : i < l.length) (hb : l[i] = true) : wantI (l.take (i + 1)) = match (l.take i).findIdx? id with | some k => (k : Int) | none => (i : Int) := by
  unfold wantI
  rw [List.take_succ_eq_append_getElem h, List.findIdx?_append, hb]
  cases (l.take i).findIdx? id with
  | some k => simp
  | none => simp [List.findIdx?_cons, List.length_take, Nat.min_eq_left (Nat.le_of_lt h)]
theorem wantI_false {l : List Bool} {i : Nat} (h : i < l.length) (hb : l[i] = false) : wantI (l.take (i + 1)) = wantI (l.take i) := by
  unfold wantI
  rw [List.take_succ_eq_append_getElem h, List.findIdx?_append, hb]
  cases (l.take i).findIdx? id with
  | some k => simp
  | none => simp [List.findIdx?_cons]
theorem rev_take {l : List Bool} {i : Nat} (h : i < l.length) : (l.take (i + 1)).reverse = l[i] :: (l.take i).reverse := by rw [List.take_succ_eq_append_getElem h]; simp
theorem coreOb_in (s : ByteArray) (b : Bool) (r : List Bool) : coreOb (inK s (b :: r)) = ⟨33, 11, [[.v (.int .i64 6), .v (.string ⟨#[]⟩), .v (.string ⟨#[]⟩), .sl 1 (strC (inP s b)), .v (.int .i64 0), .v (.int .i32 0), .v (.bool false), .sl 1 [], .v (.string ⟨#[]⟩), .sl 6 [], .sl 11 [(inK s r).cc]]]⟩ := by
  simp [coreOb, inK, K.k, K.name, K.rest, K.params, K.d, K.l, dZ, D.k, D.c, D.neg, D.mag, D.t, D.l]
theorem coreOb_ref (s : ByteArray) : coreOb (inK s []) = ⟨33, 11, [[.v (.int .i64 2), .v (.string s), .v (.string ⟨#[]⟩), .sl 1 [], .v (.int .i64 0), .v (.int .i32 0), .v (.bool false), .sl 1 [], .v (.string ⟨#[]⟩), .sl 6 [], .sl 11 []]]⟩ := by
  simp [coreOb, inK, kRef, K.k, K.name, K.rest, K.params, K.d, K.l, dZ, D.k, D.c, D.neg, D.mag, D.t, D.l, strC]
def InI (s : ByteArray) (has : List Bool) (n : Nat) (st : St) : Prop := ∃ i : Nat, n = has.length - i ∧ i ≤ has.length ∧
  st = ⟨[(7, .one (.v (.int .i64 i))), (6, .one (.v (.int .i64 (wantI (has.take i))))), (0, .one (.sl 1 (boolC has))), (1, .one (.v (.string s))), (5, .one (.ptr 0 1 0 0))], [some (coreOb (inK s (has.take i).reverse))]⟩
theorem lawInner_pure (has : List Bool) (s : ByteArray) (hss : s.size ≤ 140737488351232) : Pure Tryd.prog 8 [.one (.sl 1 (boolC has)), .one (.v (.string s))] (.one (.v (.bool true))) := by
  have hl := boolC_len has
  have d1 : decide ((30 : Int) < (has.length : Int)) = decide (30 < has.length) := by apply decide_eq_decide.2; omega
  have d2 : decide ((100 : Int) < (s.size : Int)) = decide (100 < s.size) := by apply decide_eq_decide.2; omega
  by_cases k1 : 30 < has.length
  · refine Fn.intro Tryd.func8 rfl Tryd.ntmps8 Tryd.results8 (by simp only [List.length_cons, List.length_nil]; decide) ?_
    repeat (first | with_reducible (first | refine roundsA_s ?_ | refine thenA_n ?_ | refine thenA_r ?_ | refine thenA_e ?_ | refine inBlockA_n ?_ | refine inBlockA_r ?_ | refine inBlockA_s ?_ | refine inBlockA_o rfl ?_ | refine WpA.seq ?_ | refine WpA.block ?_ | refine WpA.skip ?_ | refine WpA.ret ?_ | refine WpA.exit ?_ | refine WpL.nil ?_) | ((refine WpA.cond_t ?_ ?_); focus (simp only [find, reduceIte, Nat.reduceEqDiff]; done)) | ((refine WpA.cond_f ?_ ?_); focus (simp only [find, reduceIte, Nat.reduceEqDiff]; done)) | ((with_reducible refine WpA.region ?_); (refine WpL.go _ rfl fun K9 hK9 => ?_); simp only [zz, zy, constA, runL, guardA, srcA, chunk, nilV, liveB, capsA, bndA, aop, qop, rdA, rdAs, args0, find, A.cs, St.put, fits, loadA, partC, fieldA, indexA, lenB, binV, binI, binS, unV, over, partsA, fillA, Value.oneCell', seval, w8, hl, d1, k1]; (refine RunTo.mk (by first | exact trivial | omega | (simp; done) | (simp; omega)) (hK9 _ _ ?_)); clear hK9 K9))
    refine WpL.call rfl (guardA_sound (P := Tryd.prog) rfl) (CallA.shut rfl rfl (by kernel_rfl) (by first | exact ALes.refl _ | (simp only [List.cons_append, List.nil_append, List.map_nil]; exact ALes.refl _)) (by first | rfl | (simp [shuts, A.shut, C.shut]; done)) (awake_pure) ?_)
    ((refine WpL.go _ rfl fun K9 hK9 => ?_); simp only [zz, zy, constA, runL, guardA, srcA, chunk, nilV, liveB, capsA, bndA, aop, qop, rdA, rdAs, args0, find, A.cs, St.put, fits, loadA, partC, fieldA, indexA, lenB, binV, binI, binS, unV, over, partsA, fillA, Value.oneCell', seval, w8]; (refine RunTo.mk (by first | exact trivial | omega | (simp; done) | (simp; omega)) (hK9 _ _ ?_)); clear hK9 K9); repeat (first | with_reducible (first | refine roundsA_s ?_ | refine thenA_n ?_ | refine thenA_r ?_ | refine thenA_e ?_ | refine inBlockA_n ?_ | refine inBlockA_r ?_ | refine inBlockA_s ?_ | refine inBlockA_o rfl ?_ | refine WpA.seq ?_ | refine WpA.block ?_ | refine WpA.skip ?_ | refine WpA.ret ?_ | refine WpA.exit ?_ | refine WpL.nil ?_) | ((refine WpA.cond_t ?_ ?_); focus (simp only [find, reduceIte, Nat.reduceEqDiff]; done)) | ((refine WpA.cond_f ?_ ?_); focus (simp only [find, reduceIte, Nat.reduceEqDiff]; done)) | ((with_reducible refine WpA.region ?_); (refine WpL.go _ rfl fun K9 hK9 => ?_); simp only [zz, zy, constA, runL, guardA, srcA, chunk, nilV, liveB, capsA, bndA, aop, qop, rdA, rdAs, args0, find, A.cs, St.put, fits, loadA, partC, fieldA, indexA, lenB, binV, binI, binS, unV, over, partsA, fillA, Value.oneCell', seval, w8]; (refine RunTo.mk (by first | exact trivial | omega | (simp; done) | (simp; omega)) (hK9 _ _ ?_)); clear hK9 K9))
    refine ⟨by first | exact .inl rfl | exact .inr rfl, _, _, _, _, (by simp only [resA, find, reduceIte, Nat.reduceEqDiff, loadA, partC, List.getElem?_cons_zero, List.getElem?_cons_succ, List.drop_zero, List.drop_succ_cons, List.take_succ_cons, List.take_zero, List.length_cons, List.length_nil, w8]; rfl), (by first | exact trivial | (simp; done)), (by simp only [tupA, viewA, viewC, viewCs, viewAs, List.getElem?_cons_zero, List.getElem?_cons_succ]; rfl), (by first | exact trivial | (simp; done)), _, ALe.refl _, ?_⟩
    rfl
  by_cases k2 : 100 < s.size
  · refine Fn.intro Tryd.func8 rfl Tryd.ntmps8 Tryd.results8 (by simp only [List.length_cons, List.length_nil]; decide) ?_
    repeat (first | with_reducible (first | refine roundsA_s ?_ | refine thenA_n ?_ | refine thenA_r ?_ | refine thenA_e ?_ | refine inBlockA_n ?_ | refine inBlockA_r ?_ | refine inBlockA_s ?_ | refine inBlockA_o rfl ?_ | refine WpA.seq ?_ | refine WpA.block ?_ | refine WpA.skip ?_ | refine WpA.ret ?_ | refine WpA.exit ?_ | refine WpL.nil ?_) | ((refine WpA.cond_t ?_ ?_); focus (simp only [find, reduceIte, Nat.reduceEqDiff]; done)) | ((refine WpA.cond_f ?_ ?_); focus (simp only [find, reduceIte, Nat.reduceEqDiff]; done)) | ((with_reducible refine WpA.region ?_); (refine WpL.go _ rfl fun K9 hK9 => ?_); simp only [zz, zy, constA, runL, guardA, srcA, chunk, nilV, liveB, capsA, bndA, aop, qop, rdA, rdAs, args0, find, A.cs, St.put, fits, loadA, partC, fieldA, indexA, lenB, binV, binI, binS, unV, over, partsA, fillA, Value.oneCell', seval, w8, hl, d1, k1, d2, k2]; (refine RunTo.mk (by first | exact trivial | omega | (simp; done) | (simp; omega)) (hK9 _ _ ?_)); clear hK9 K9))
    refine WpL.call rfl (guardA_sound (P := Tryd.prog) rfl) (CallA.shut rfl rfl (by kernel_rfl) (by first | exact ALes.refl _ | (simp only [List.cons_append, List.nil_append, List.map_nil]; exact ALes.refl _)) (by first | rfl | (simp [shuts, A.shut, C.shut]; done)) (awake_pure) ?_)
    ((refine WpL.go _ rfl fun K9 hK9 => ?_); simp only [zz, zy, constA, runL, guardA, srcA, chunk, nilV, liveB, capsA, bndA, aop, qop, rdA, rdAs, args0, find, A.cs, St.put, fits, loadA, partC, fieldA, indexA, lenB, binV, binI, binS, unV, over, partsA, fillA, Value.oneCell', seval, w8]; (refine RunTo.mk (by first | exact trivial | omega | (simp; done) | (simp; omega)) (hK9 _ _ ?_)); clear hK9 K9); repeat (first | with_reducible (first | refine roundsA_s ?_ | refine thenA_n ?_ | refine thenA_r ?_ | refine thenA_e ?_ | refine inBlockA_n ?_ | refine inBlockA_r ?_ | refine inBlockA_s ?_ | refine inBlockA_o rfl ?_ | refine WpA.seq ?_ | refine WpA.block ?_ | refine WpA.skip ?_ | refine WpA.ret ?_ | refine WpA.exit ?_ | refine WpL.nil ?_) | ((refine WpA.cond_t ?_ ?_); focus (simp only [find, reduceIte, Nat.reduceEqDiff]; done)) | ((refine WpA.cond_f ?_ ?_); focus (simp only [find, reduceIte, Nat.reduceEqDiff]; done)) | ((with_reducible refine WpA.region ?_); (refine WpL.go _ rfl fun K9 hK9 => ?_); simp only [zz, zy, constA, runL, guardA, srcA, chunk, nilV, liveB, capsA, bndA, aop, qop, rdA, rdAs, args0, find, A.cs, St.put, fits, loadA, partC, fieldA, indexA, lenB, binV, binI, binS, unV, over, partsA, fillA, Value.oneCell', seval, w8]; (refine RunTo.mk (by first | exact trivial | omega | (simp; done) | (simp; omega)) (hK9 _ _ ?_)); clear hK9 K9))
    refine ⟨by first | exact .inl rfl | exact .inr rfl, _, _, _, _, (by simp only [resA, find, reduceIte, Nat.reduceEqDiff, loadA, partC, List.getElem?_cons_zero, List.getElem?_cons_succ, List.drop_zero, List.drop_succ_cons, List.take_succ_cons, List.take_zero, List.length_cons, List.length_nil, w8]; rfl), (by first | exact trivial | (simp; done)), (by simp only [tupA, viewA, viewC, viewCs, viewAs, List.getElem?_cons_zero, List.getElem?_cons_succ]; rfl), (by first | exact trivial | (simp; done)), _, ALe.refl _, ?_⟩
    rfl
  cases k3 : eqB s ⟨#[]⟩ with
  | true =>
    refine Fn.intro Tryd.func8 rfl Tryd.ntmps8 Tryd.results8 (by simp only [List.length_cons, List.length_nil]; decide) ?_
    repeat (first | with_reducible (first | refine roundsA_s ?_ | refine thenA_n ?_ | refine thenA_r ?_ | refine thenA_e ?_ | refine inBlockA_n ?_ | refine inBlockA_r ?_ | refine inBlockA_s ?_ | refine inBlockA_o rfl ?_ | refine WpA.seq ?_ | refine WpA.block ?_ | refine WpA.skip ?_ | refine WpA.ret ?_ | refine WpA.exit ?_ | refine WpL.nil ?_) | ((refine WpA.cond_t ?_ ?_); focus (simp only [find, reduceIte, Nat.reduceEqDiff]; done)) | ((refine WpA.cond_f ?_ ?_); focus (simp only [find, reduceIte, Nat.reduceEqDiff]; done)) | ((with_reducible refine WpA.region ?_); (refine WpL.go _ rfl fun K9 hK9 => ?_); simp only [zz, zy, constA, runL, guardA, srcA, chunk, nilV, liveB, capsA, bndA, aop, qop, rdA, rdAs, args0, find, A.cs, St.put, fits, loadA, partC, fieldA, indexA, lenB, binV, binI, binS, unV, over, partsA, fillA, Value.oneCell', seval, w8, hl, d1, k1, d2, k2, strEq, k3]; (refine RunTo.mk (by first | exact trivial | omega | (simp; done) | (simp; omega)) (hK9 _ _ ?_)); clear hK9 K9))
    refine WpL.call rfl (guardA_sound (P := Tryd.prog) rfl) (CallA.shut rfl rfl (by kernel_rfl) (by first | exact ALes.refl _ | (simp only [List.cons_append, List.nil_append, List.map_nil]; exact ALes.refl _)) (by first | rfl | (simp [shuts, A.shut, C.shut]; done)) (awake_pure) ?_)
    ((refine WpL.go _ rfl fun K9 hK9 => ?_); simp only [zz, zy, constA, runL, guardA, srcA, chunk, nilV, liveB, capsA, bndA, aop, qop, rdA, rdAs, args0, find, A.cs, St.put, fits, loadA, partC, fieldA, indexA, lenB, binV, binI, binS, unV, over, partsA, fillA, Value.oneCell', seval, w8]; (refine RunTo.mk (by first | exact trivial | omega | (simp; done) | (simp; omega)) (hK9 _ _ ?_)); clear hK9 K9); repeat (first | with_reducible (first | refine roundsA_s ?_ | refine thenA_n ?_ | refine thenA_r ?_ | refine thenA_e ?_ | refine inBlockA_n ?_ | refine inBlockA_r ?_ | refine inBlockA_s ?_ | refine inBlockA_o rfl ?_ | refine WpA.seq ?_ | refine WpA.block ?_ | refine WpA.skip ?_ | refine WpA.ret ?_ | refine WpA.exit ?_ | refine WpL.nil ?_) | ((refine WpA.cond_t ?_ ?_); focus (simp only [find, reduceIte, Nat.reduceEqDiff]; done)) | ((refine WpA.cond_f ?_ ?_); focus (simp only [find, reduceIte, Nat.reduceEqDiff]; done)) | ((with_reducible refine WpA.region ?_); (refine WpL.go _ rfl fun K9 hK9 => ?_); simp only [zz, zy, constA, runL, guardA, srcA, chunk, nilV, liveB, capsA, bndA, aop, qop, rdA, rdAs, args0, find, A.cs, St.put, fits, loadA, partC, fieldA, indexA, lenB, binV, binI, binS, unV, over, partsA, fillA, Value.oneCell', seval, w8]; (refine RunTo.mk (by first | exact trivial | omega | (simp; done) | (simp; omega)) (hK9 _ _ ?_)); clear hK9 K9))
    refine ⟨by first | exact .inl rfl | exact .inr rfl, _, _, _, _, (by simp only [resA, find, reduceIte, Nat.reduceEqDiff, loadA, partC, List.getElem?_cons_zero, List.getElem?_cons_succ, List.drop_zero, List.drop_succ_cons, List.take_succ_cons, List.take_zero, List.length_cons, List.length_nil, w8]; rfl), (by first | exact trivial | (simp; done)), (by simp only [tupA, viewA, viewC, viewCs, viewAs, List.getElem?_cons_zero, List.getElem?_cons_succ]; rfl), (by first | exact trivial | (simp; done)), _, ALe.refl _, ?_⟩
    rfl
  | false =>
  cases k4 : eqB s ⟨#[111, 116, 104, 101, 114]⟩ with
  | true =>
    refine Fn.intro Tryd.func8 rfl Tryd.ntmps8 Tryd.results8 (by simp only [List.length_cons, List.length_nil]; decide) ?_
    repeat (first | with_reducible (first | refine roundsA_s ?_ | refine thenA_n ?_ | refine thenA_r ?_ | refine thenA_e ?_ | refine inBlockA_n ?_ | refine inBlockA_r ?_ | refine inBlockA_s ?_ | refine inBlockA_o rfl ?_ | refine WpA.seq ?_ | refine WpA.block ?_ | refine WpA.skip ?_ | refine WpA.ret ?_ | refine WpA.exit ?_ | refine WpL.nil ?_) | ((refine WpA.cond_t ?_ ?_); focus (simp only [find, reduceIte, Nat.reduceEqDiff]; done)) | ((refine WpA.cond_f ?_ ?_); focus (simp only [find, reduceIte, Nat.reduceEqDiff]; done)) | ((with_reducible refine WpA.region ?_); (refine WpL.go _ rfl fun K9 hK9 => ?_); simp only [zz, zy, constA, runL, guardA, srcA, chunk, nilV, liveB, capsA, bndA, aop, qop, rdA, rdAs, args0, find, A.cs, St.put, fits, loadA, partC, fieldA, indexA, lenB, binV, binI, binS, unV, over, partsA, fillA, Value.oneCell', seval, w8, hl, d1, k1, d2, k2, strEq, k3, k4]; (refine RunTo.mk (by first | exact trivial | omega | (simp; done) | (simp; omega)) (hK9 _ _ ?_)); clear hK9 K9))
    refine WpL.call rfl (guardA_sound (P := Tryd.prog) rfl) (CallA.shut rfl rfl (by kernel_rfl) (by first | exact ALes.refl _ | (simp only [List.cons_append, List.nil_append, List.map_nil]; exact ALes.refl _)) (by first | rfl | (simp [shuts, A.shut, C.shut]; done)) (awake_pure) ?_)
    ((refine WpL.go _ rfl fun K9 hK9 => ?_); simp only [zz, zy, constA, runL, guardA, srcA, chunk, nilV, liveB, capsA, bndA, aop, qop, rdA, rdAs, args0, find, A.cs, St.put, fits, loadA, partC, fieldA, indexA, lenB, binV, binI, binS, unV, over, partsA, fillA, Value.oneCell', seval, w8]; (refine RunTo.mk (by first | exact trivial | omega | (simp; done) | (simp; omega)) (hK9 _ _ ?_)); clear hK9 K9); repeat (first | with_reducible (first | refine roundsA_s ?_ | refine thenA_n ?_ | refine thenA_r ?_ | refine thenA_e ?_ | refine inBlockA_n ?_ | refine inBlockA_r ?_ | refine inBlockA_s ?_ | refine inBlockA_o rfl ?_ | refine WpA.seq ?_ | refine WpA.block ?_ | refine WpA.skip ?_ | refine WpA.ret ?_ | refine WpA.exit ?_ | refine WpL.nil ?_) | ((refine WpA.cond_t ?_ ?_); focus (simp only [find, reduceIte, Nat.reduceEqDiff]; done)) | ((refine WpA.cond_f ?_ ?_); focus (simp only [find, reduceIte, Nat.reduceEqDiff]; done)) | ((with_reducible refine WpA.region ?_); (refine WpL.go _ rfl fun K9 hK9 => ?_); simp only [zz, zy, constA, runL, guardA, srcA, chunk, nilV, liveB, capsA, bndA, aop, qop, rdA, rdAs, args0, find, A.cs, St.put, fits, loadA, partC, fieldA, indexA, lenB, binV, binI, binS, unV, over, partsA, fillA, Value.oneCell', seval, w8]; (refine RunTo.mk (by first | exact trivial | omega | (simp; done) | (simp; omega)) (hK9 _ _ ?_)); clear hK9 K9))
    refine ⟨by first | exact .inl rfl | exact .inr rfl, _, _, _, _, (by simp only [resA, find, reduceIte, Nat.reduceEqDiff, loadA, partC, List.getElem?_cons_zero, List.getElem?_cons_succ, List.drop_zero, List.drop_succ_cons, List.take_succ_cons, List.take_zero, List.length_cons, List.length_nil, w8]; rfl), (by first | exact trivial | (simp; done)), (by simp only [tupA, viewA, viewC, viewCs, viewAs, List.getElem?_cons_zero, List.getElem?_cons_succ]; rfl), (by first | exact trivial | (simp; done)), _, ALe.refl _, ?_⟩
    rfl
  | false =>
  have hs1 : s ≠ ⟨#[]⟩ := fun e => by rw [eqB_pos e] at k3; cases k3
  have hs2 : s ≠ oth := fun e => by rw [eqB_pos (show s = ⟨#[111, 116, 104, 101, 114]⟩ from e)] at k4; cases k4
  refine Fn.intro Tryd.func8 rfl Tryd.ntmps8 Tryd.results8 (by simp only [List.length_cons, List.length_nil]; decide) ?_
  repeat (first | with_reducible (first | refine roundsA_s ?_ | refine thenA_n ?_ | refine thenA_r ?_ | refine thenA_e ?_ | refine inBlockA_n ?_ | refine inBlockA_r ?_ | refine inBlockA_s ?_ | refine inBlockA_o rfl ?_ | refine WpA.seq ?_ | refine WpA.block ?_ | refine WpA.skip ?_ | refine WpA.ret ?_ | refine WpA.exit ?_ | refine WpL.nil ?_) | ((refine WpA.cond_t ?_ ?_); focus (simp only [find, reduceIte, Nat.reduceEqDiff]; done)) | ((refine WpA.cond_f ?_ ?_); focus (simp only [find, reduceIte, Nat.reduceEqDiff]; done)) | ((with_reducible refine WpA.region ?_); (refine WpL.go _ rfl fun K9 hK9 => ?_); simp only [zz, zy, constA, runL, guardA, srcA, chunk, nilV, liveB, capsA, bndA, aop, qop, rdA, rdAs, args0, find, A.cs, St.put, fits, loadA, partC, fieldA, indexA, lenB, binV, binI, binS, unV, over, partsA, fillA, Value.oneCell', seval, w8, hl, d1, k1, d2, k2, strEq, k3, k4]; (refine RunTo.mk (by first | exact trivial | omega | (simp; done) | (simp; omega)) (hK9 _ _ ?_)); clear hK9 K9))
  refine WpA.loop (InI s has) has.length ?_ ⟨0, rfl, Nat.zero_le _, rfl⟩ ?_
  · rw [List.take_zero, List.reverse_nil, coreOb_ref]
    refine Le.freeze (fun _ => false) (Frz.ofL ?_) ?_
    · simp only [FrzL, FzR, FzCs]
      repeat' first | exact FzC.same _ _ _ | exact FzC.nil | exact rfl | exact trivial | refine And.intro ?_ ?_
    · simp only [SubZ]
      exact ⟨⟨_, rfl, FzA.same _ _ _⟩, ⟨_, rfl, FzA.same _ _ _⟩, ⟨_, rfl, FzA.same _ _ _⟩, ⟨_, rfl, FzA.same _ _ _⟩, ⟨_, rfl, FzA.same _ _ _⟩, trivial⟩
  intro n' st hst
  obtain ⟨i, rfl, hi, rfl⟩ := hst
  have hw2 : IntKind.i64.wrap ((i : Int) + 1) = ((i + 1 : Nat) : Int) := by rw [wrap64 (by omega) (by omega)]; omega
  by_cases hlt : i < has.length
  · have hd1 : decide ((i : Int) < (has.length : Int)) = true := by simp; omega
    have hget := boolC_get hlt
    have hrev := rev_take hlt
    generalize hx : inK s (has.take i).reverse = x at *
    have hcc := x.cc_eq
    have hsh := x.cc_shut
    have hfin : ∀ (e : List (Nat × A)) (v : Int) (b : Bool) (pa : Nat) (q : Nat) (t : List (Option Ob)), has[i] = b → v = wantI (has.take (i + 1)) → Sub e [(7, .one (.v (.int .i64 ((i + 1 : Nat) : Int)))), (6, .one (.v (.int .i64 v))), (0, .one (.sl 1 (boolC has))), (1, .one (.v (.string s))), (5, .one (.ptr 0 1 0 0))] →
        (t = [some ⟨9, 1, [[.v (.string oth)]]⟩, some ⟨33, 11, [x.cc]⟩] ∧ pa = 1 ∧ q = 2 ∧ b = false) ∨ (t = [some ⟨9, 1, [[.v (.string oth)]]⟩, some ⟨9, 1, [[.v (.string oth)], [.v (.string s)]]⟩, some ⟨33, 11, [x.cc]⟩] ∧ pa = 2 ∧ q = 3 ∧ b = true) →
        Le ⟨129, 0⟩ ⟨e, some ⟨33, 11, [[.v (.int .i64 6), .v (.string ⟨#[]⟩), .v (.string ⟨#[]⟩), .ms pa (inP s b).length, .v (.int .i64 0), .v (.int .i32 0), .v (.bool false), .v (.slice none 0 0), .v (.string ⟨#[]⟩), .v (.slice none 0 0), .ms q 1]]⟩ :: t⟩
          ⟨[(7, .one (.v (.int .i64 ((i + 1 : Nat) : Int)))), (6, .one (.v (.int .i64 (wantI (has.take (i + 1)))))), (0, .one (.sl 1 (boolC has))), (1, .one (.v (.string s))), (5, .one (.ptr 0 1 0 0))], [some (coreOb (inK s (has.take (i + 1)).reverse))]⟩ := fun e v b pa q t hb hv he ht => by
      rw [hrev, coreOb_in, hx, hb, ← hv]
      refine (Le.sub he).trans ?_
      rcases ht with ⟨rfl, rfl, rfl, rfl⟩ | ⟨rfl, rfl, rfl, rfl⟩
      · refine Le.trans (Le.freeze (S' := [some ⟨33, 11, [[.v (.int .i64 6), .v (.string ⟨#[]⟩), .v (.string ⟨#[]⟩), .sl 1 (strC (inP s false)), .v (.int .i64 0), .v (.int .i32 0), .v (.bool false), .sl 1 [], .v (.string ⟨#[]⟩), .sl 6 [], .sl 11 [x.cc]]]⟩, none, none]) (e' := [(7, .one (.v (.int .i64 ((i + 1 : Nat) : Int)))), (6, .one (.v (.int .i64 v))), (0, .one (.sl 1 (boolC has))), (1, .one (.v (.string s))), (5, .one (.ptr 0 1 0 0))]) (fun j => j != 0) (Frz.ofL ?_) ?_) (Le.drop 1 (Nat.zero_le _) rfl (by simp [Sub, find]) rfl (by simp [ObBd, C.bd]))
        · simp only [FrzL, FzR, FzCs]
          repeat' first | exact FzC.same _ _ _ | exact FzC.nil | exact FzC.ms rfl rfl rfl | exact rfl | exact trivial | refine And.intro ?_ ?_ | (intro hz ob ho; cases ho; intro r hr c hc; simp at hr; subst hr; first | exact hsh c hc | (simp at hc; subst hc; rfl))
        · simp only [SubZ]
          exact ⟨⟨_, rfl, FzA.same _ _ _⟩, ⟨_, rfl, FzA.same _ _ _⟩, ⟨_, rfl, FzA.same _ _ _⟩, ⟨_, rfl, FzA.same _ _ _⟩, ⟨_, rfl, FzA.same _ _ _⟩, trivial⟩
      · refine Le.trans (Le.freeze (S' := [some ⟨33, 11, [[.v (.int .i64 6), .v (.string ⟨#[]⟩), .v (.string ⟨#[]⟩), .sl 1 (strC (inP s true)), .v (.int .i64 0), .v (.int .i32 0), .v (.bool false), .sl 1 [], .v (.string ⟨#[]⟩), .sl 6 [], .sl 11 [x.cc]]]⟩, none, none, none]) (e' := [(7, .one (.v (.int .i64 ((i + 1 : Nat) : Int)))), (6, .one (.v (.int .i64 v))), (0, .one (.sl 1 (boolC has))), (1, .one (.v (.string s))), (5, .one (.ptr 0 1 0 0))]) (fun j => j != 0) (Frz.ofL ?_) ?_) (Le.drop 1 (Nat.zero_le _) rfl (by simp [Sub, find]) rfl (by simp [ObBd, C.bd]))
        · simp only [FrzL, FzR, FzCs]
          repeat' first | exact FzC.same _ _ _ | exact FzC.nil | exact FzC.ms rfl rfl rfl | exact rfl | exact trivial | refine And.intro ?_ ?_ | (intro hz ob ho; cases ho; intro r hr c hc; simp at hr; first | (subst hr; exact hsh c hc) | (subst hr; simp at hc; subst hc; rfl) | (rcases hr with rfl | rfl <;> (simp at hc; subst hc; rfl)))
        · simp only [SubZ]
          exact ⟨⟨_, rfl, FzA.same _ _ _⟩, ⟨_, rfl, FzA.same _ _ _⟩, ⟨_, rfl, FzA.same _ _ _⟩, ⟨_, rfl, FzA.same _ _ _⟩, ⟨_, rfl, FzA.same _ _ _⟩, trivial⟩
    rw [hcc] at hfin
    simp only [coreOb]
    cases hb : has[i] with
    | false =>
      rw [hb] at hget
      have hwv := wantI_false hlt hb
      repeat (first | with_reducible (first | refine roundsA_s ?_ | refine thenA_n ?_ | refine thenA_r ?_ | refine thenA_e ?_ | refine inBlockA_n ?_ | refine inBlockA_r ?_ | refine inBlockA_s ?_ | refine inBlockA_o rfl ?_ | refine WpA.seq ?_ | refine WpA.block ?_ | refine WpA.skip ?_ | refine WpA.ret ?_ | refine WpA.exit ?_ | refine WpL.nil ?_) | ((refine WpA.cond_t ?_ ?_); focus (simp only [find, reduceIte, Nat.reduceEqDiff]; done)) | ((refine WpA.cond_f ?_ ?_); focus (simp only [find, reduceIte, Nat.reduceEqDiff]; done)) | ((with_reducible refine WpA.region ?_); (refine WpL.go _ rfl fun K9 hK9 => ?_); simp only [zz, zy, constA, runL, guardA, srcA, chunk, nilV, liveB, capsA, bndA, aop, qop, rdA, rdAs, args0, find, A.cs, St.put, fits, loadA, partC, fieldA, indexA, lenB, binV, binI, binS, unV, over, partsA, fillA, Value.oneCell', seval, w8, hl, hd1, hget, hw2]; (refine RunTo.mk (by first | exact trivial | omega | (simp; done) | (simp; omega)) (hK9 _ _ ?_)); clear hK9 K9))
      exact ⟨has.length - (i + 1), _, by omega, hfin _ _ _ _ _ _ hb hwv.symm (by simp [Sub, find]) (.inl ⟨rfl, rfl, rfl, rfl⟩), i + 1, rfl, hlt, rfl⟩
    | true =>
      rw [hb] at hget
      have hwv := wantI_true hlt hb
      cases hf : (has.take i).findIdx? id with
      | none =>
        have hwi : wantI (has.take i) = -1 := by unfold wantI; rw [hf]
        rw [hf] at hwv
        have hdn : decide (wantI (has.take i) < 0) = true := by rw [hwi]; rfl
        repeat (first | with_reducible (first | refine roundsA_s ?_ | refine thenA_n ?_ | refine thenA_r ?_ | refine thenA_e ?_ | refine inBlockA_n ?_ | refine inBlockA_r ?_ | refine inBlockA_s ?_ | refine inBlockA_o rfl ?_ | refine WpA.seq ?_ | refine WpA.block ?_ | refine WpA.skip ?_ | refine WpA.ret ?_ | refine WpA.exit ?_ | refine WpL.nil ?_) | ((refine WpA.cond_t ?_ ?_); focus (simp only [find, reduceIte, Nat.reduceEqDiff]; done)) | ((refine WpA.cond_f ?_ ?_); focus (simp only [find, reduceIte, Nat.reduceEqDiff]; done)) | ((with_reducible refine WpA.region ?_); (refine WpL.go _ rfl fun K9 hK9 => ?_); simp only [zz, zy, constA, runL, guardA, srcA, chunk, nilV, liveB, capsA, bndA, aop, qop, rdA, rdAs, args0, find, A.cs, St.put, fits, loadA, partC, fieldA, indexA, lenB, binV, binI, binS, unV, over, partsA, fillA, Value.oneCell', seval, w8, hl, hd1, hget, hdn, hw2]; (refine RunTo.mk (by first | exact trivial | omega | (simp; done) | (simp; omega)) (hK9 _ _ ?_)); clear hK9 K9))
        exact ⟨has.length - (i + 1), _, by omega, hfin _ _ _ _ _ _ hb hwv.symm (by simp [Sub, find]) (.inr ⟨rfl, rfl, rfl, rfl⟩), i + 1, rfl, hlt, rfl⟩
      | some k =>
        have hwi : wantI (has.take i) = k := by unfold wantI; rw [hf]
        rw [hf] at hwv
        have hdn : decide (wantI (has.take i) < 0) = false := by rw [hwi]; simp
        repeat (first | with_reducible (first | refine roundsA_s ?_ | refine thenA_n ?_ | refine thenA_r ?_ | refine thenA_e ?_ | refine inBlockA_n ?_ | refine inBlockA_r ?_ | refine inBlockA_s ?_ | refine inBlockA_o rfl ?_ | refine WpA.seq ?_ | refine WpA.block ?_ | refine WpA.skip ?_ | refine WpA.ret ?_ | refine WpA.exit ?_ | refine WpL.nil ?_) | ((refine WpA.cond_t ?_ ?_); focus (simp only [find, reduceIte, Nat.reduceEqDiff]; done)) | ((refine WpA.cond_f ?_ ?_); focus (simp only [find, reduceIte, Nat.reduceEqDiff]; done)) | ((with_reducible refine WpA.region ?_); (refine WpL.go _ rfl fun K9 hK9 => ?_); simp only [zz, zy, constA, runL, guardA, srcA, chunk, nilV, liveB, capsA, bndA, aop, qop, rdA, rdAs, args0, find, A.cs, St.put, fits, loadA, partC, fieldA, indexA, lenB, binV, binI, binS, unV, over, partsA, fillA, Value.oneCell', seval, w8, hl, hd1, hget, hdn, hw2]; (refine RunTo.mk (by first | exact trivial | omega | (simp; done) | (simp; omega)) (hK9 _ _ ?_)); clear hK9 K9))
        exact ⟨has.length - (i + 1), _, by omega, hfin _ _ _ _ _ _ hb (hwi.trans hwv.symm) (by simp [Sub, find]) (.inr ⟨rfl, rfl, rfl, rfl⟩), i + 1, rfl, hlt, rfl⟩
  · have hd0 : decide ((i : Int) < (has.length : Int)) = false := by simp; omega
    have hii : i = has.length := by omega
    subst hii
    rw [List.take_length]
    obtain ⟨g1, g2, g3⟩ := inK_code s hs2 has
    have hcp := code_pure [inK s has.reverse] ⟨inK_lg s _, trivial⟩ (by simp) (by simp [K.sizes, inK_size]; omega)
    rw [show codeA [inK s has.reverse] = .tup [.agg (codeC (codeN [inK s has.reverse])), .one (.v (.int .i64 0))] by unfold codeA; rw [if_pos (by simp [inK_may s hs1 hs2])]] at hcp
    generalize codeN [inK s has.reverse] = c at *
    rw [List.map_cons, List.map_nil] at hcp
    generalize hx : inK s has.reverse = x at *
    have hsl := rsamelist_pure [] []
    rw [eqB_pos rfl] at hsl
    have hw3 : IntKind.i64.wrap ((has.length : Int) + 1) = ((has.length + 1 : Nat) : Int) := by rw [wrap64 (by omega) (by omega)]; omega
    have hss2 : eqB s s = true := eqB_pos rfl
    have z1 : ((1 : Nat) : Int) = 1 := rfl
    have z0 : ((0 : Nat) : Int) = 0 := rfl
    simp only [codeC] at hcp
    simp only [coreOb]
    repeat (first | with_reducible (first | refine roundsA_s ?_ | refine thenA_n ?_ | refine thenA_r ?_ | refine thenA_e ?_ | refine inBlockA_n ?_ | refine inBlockA_r ?_ | refine inBlockA_s ?_ | refine inBlockA_o rfl ?_ | refine WpA.seq ?_ | refine WpA.block ?_ | refine WpA.skip ?_ | refine WpA.ret ?_ | refine WpA.exit ?_ | refine WpL.nil ?_) | ((refine WpA.cond_t ?_ ?_); focus (simp only [find, reduceIte, Nat.reduceEqDiff]; done)) | ((refine WpA.cond_f ?_ ?_); focus (simp only [find, reduceIte, Nat.reduceEqDiff]; done)) | ((with_reducible refine WpA.region ?_); (refine WpL.go _ rfl fun K9 hK9 => ?_); simp only [zz, zy, constA, runL, guardA, srcA, chunk, nilV, liveB, capsA, bndA, aop, qop, rdA, rdAs, args0, find, A.cs, St.put, fits, loadA, partC, fieldA, indexA, lenB, binV, binI, binS, unV, over, partsA, fillA, Value.oneCell', seval, w8, hl, hd0]; (refine RunTo.mk (by first | exact trivial | omega | (simp; done) | (simp; omega)) (hK9 _ _ ?_)); clear hK9 K9))
    repeat (first | with_reducible (first | refine roundsA_s ?_ | refine thenA_n ?_ | refine thenA_r ?_ | refine thenA_e ?_ | refine inBlockA_n ?_ | refine inBlockA_r ?_ | refine inBlockA_s ?_ | refine inBlockA_o rfl ?_ | refine WpA.seq ?_ | refine WpA.block ?_ | refine WpA.skip ?_ | refine WpA.ret ?_ | refine WpA.exit ?_ | refine WpL.nil ?_) | ((refine WpA.cond_t ?_ ?_); focus (simp only [find, reduceIte, Nat.reduceEqDiff]; done)) | ((refine WpA.cond_f ?_ ?_); focus (simp only [find, reduceIte, Nat.reduceEqDiff]; done)) | ((with_reducible refine WpA.region ?_); (refine WpL.go _ rfl fun K9 hK9 => ?_); simp only [zz, zy, constA, runL, guardA, srcA, chunk, nilV, liveB, capsA, bndA, aop, qop, rdA, rdAs, args0, find, A.cs, St.put, fits, loadA, partC, fieldA, indexA, lenB, binV, binI, binS, unV, over, partsA, fillA, Value.oneCell', seval, w8, hl, hd0]; (refine RunTo.mk (by first | exact trivial | omega | (simp; done) | (simp; omega)) (hK9 _ _ ?_)); clear hK9 K9))
    refine WpL.le (st' := ⟨[(53, .one (.sl 11 [x.cc])), (6, .one (.v (.int .i64 (wantI has)))), (0, .one (.sl 1 (boolC has))), (1, .one (.v (.string s)))], [none, none]⟩) (Le.freeze (fun i => i == 1) (Frz.ofL ?_) ?_) ?_
    · simp only [FrzL]
      exact ⟨fun h => absurd h (by decide), fun _ ob ho => by cases ho; intro r hr c hc; simp at hr; subst hr; rw [← x.cc_eq] at hc; exact x.cc_shut c hc, trivial⟩
    · simp only [SubZ]
      rw [x.cc_eq]
      exact ⟨⟨_, rfl, FzC.ms rfl rfl rfl⟩, ⟨_, rfl, FzA.same _ _ _⟩, ⟨_, rfl, FzA.same _ _ _⟩, ⟨_, rfl, FzA.same _ _ _⟩, trivial⟩
    refine WpL.call rfl (guardA_sound (P := Tryd.prog) rfl) (CallA.shut rfl rfl (by kernel_rfl) (by first | exact ALes.refl _ | (simp only [List.cons_append, List.nil_append, List.map_nil]; exact ALes.refl _)) (by first | rfl | (simp [shuts, A.shut, C.shut]; done)) (hcp) ?_)
    have hnl : decide ((has.length : Nat) < c.nodes.length) = true := by simp; omega
    cases hf : has.findIdx? id with
    | some k =>
      rw [hf] at g3
      have hwi : wantI has = k := by unfold wantI; rw [hf]
      have hgn : (c.nodes.map Nd.row)[has.length]? = some [.v (.int .i64 2), .v (.int .i64 k), .v (.int .i64 1), .sl 1 []] := by rw [List.getElem?_map, g3.1]; rfl
      have hdn : decide (((k : Nat) : Int) < 0) = false := by simp
      rw [hwi]
      ((refine WpL.go _ rfl fun K9 hK9 => ?_); simp only [zz, zy, constA, runL, guardA, srcA, chunk, nilV, liveB, capsA, bndA, aop, qop, rdA, rdAs, args0, find, A.cs, St.put, fits, loadA, partC, fieldA, indexA, lenB, binV, binI, binS, unV, over, partsA, fillA, Value.oneCell', seval, w8, hl, hw3, g1, hgn, hdn, g2, g3.2, strC, z0]; (refine RunTo.mk (by first | exact trivial | omega | (simp; done) | (simp; omega)) (hK9 _ _ ?_)); clear hK9 K9); repeat (first | with_reducible (first | refine roundsA_s ?_ | refine thenA_n ?_ | refine thenA_r ?_ | refine thenA_e ?_ | refine inBlockA_n ?_ | refine inBlockA_r ?_ | refine inBlockA_s ?_ | refine inBlockA_o rfl ?_ | refine WpA.seq ?_ | refine WpA.block ?_ | refine WpA.skip ?_ | refine WpA.ret ?_ | refine WpA.exit ?_ | refine WpL.nil ?_) | ((refine WpA.cond_t ?_ ?_); focus (simp only [find, reduceIte, Nat.reduceEqDiff]; done)) | ((refine WpA.cond_f ?_ ?_); focus (simp only [find, reduceIte, Nat.reduceEqDiff]; done)) | ((with_reducible refine WpA.region ?_); (refine WpL.go _ rfl fun K9 hK9 => ?_); simp only [zz, zy, constA, runL, guardA, srcA, chunk, nilV, liveB, capsA, bndA, aop, qop, rdA, rdAs, args0, find, A.cs, St.put, fits, loadA, partC, fieldA, indexA, lenB, binV, binI, binS, unV, over, partsA, fillA, Value.oneCell', seval, w8, hl, hw3, g1, hgn, hdn, g2, g3.2, strC, z0]; (refine RunTo.mk (by first | exact trivial | omega | (simp; done) | (simp; omega)) (hK9 _ _ ?_)); clear hK9 K9))
      refine WpL.call rfl (guardA_sound (P := Tryd.prog) rfl) (CallA.shut rfl rfl (by kernel_rfl) (ALes.cons (ALe.refl _) (ALes.cons ALe.nil (ALes.refl _))) rfl hsl ?_)
      ((refine WpL.go _ rfl fun K9 hK9 => ?_); simp only [zz, zy, constA, runL, guardA, srcA, chunk, nilV, liveB, capsA, bndA, aop, qop, rdA, rdAs, args0, find, A.cs, St.put, fits, loadA, partC, fieldA, indexA, lenB, binV, binI, binS, unV, over, partsA, fillA, Value.oneCell', seval, w8]; (refine RunTo.mk (by first | exact trivial | omega | (simp; done) | (simp; omega)) (hK9 _ _ ?_)); clear hK9 K9); repeat (first | with_reducible (first | refine roundsA_s ?_ | refine thenA_n ?_ | refine thenA_r ?_ | refine thenA_e ?_ | refine inBlockA_n ?_ | refine inBlockA_r ?_ | refine inBlockA_s ?_ | refine inBlockA_o rfl ?_ | refine WpA.seq ?_ | refine WpA.block ?_ | refine WpA.skip ?_ | refine WpA.ret ?_ | refine WpA.exit ?_ | refine WpL.nil ?_) | ((refine WpA.cond_t ?_ ?_); focus (simp only [find, reduceIte, Nat.reduceEqDiff]; done)) | ((refine WpA.cond_f ?_ ?_); focus (simp only [find, reduceIte, Nat.reduceEqDiff]; done)) | ((with_reducible refine WpA.region ?_); (refine WpL.go _ rfl fun K9 hK9 => ?_); simp only [zz, zy, constA, runL, guardA, srcA, chunk, nilV, liveB, capsA, bndA, aop, qop, rdA, rdAs, args0, find, A.cs, St.put, fits, loadA, partC, fieldA, indexA, lenB, binV, binI, binS, unV, over, partsA, fillA, Value.oneCell', seval, w8]; (refine RunTo.mk (by first | exact trivial | omega | (simp; done) | (simp; omega)) (hK9 _ _ ?_)); clear hK9 K9))
      refine WpL.call rfl (guardA_sound (P := Tryd.prog) rfl) (CallA.shut rfl rfl (by kernel_rfl) (by first | exact ALes.refl _ | (simp only [List.cons_append, List.nil_append, List.map_nil]; exact ALes.refl _)) (by first | rfl | (simp [shuts, A.shut, C.shut]; done)) (awake_pure) ?_)
      ((refine WpL.go _ rfl fun K9 hK9 => ?_); simp only [zz, zy, constA, runL, guardA, srcA, chunk, nilV, liveB, capsA, bndA, aop, qop, rdA, rdAs, args0, find, A.cs, St.put, fits, loadA, partC, fieldA, indexA, lenB, binV, binI, binS, unV, over, partsA, fillA, Value.oneCell', seval, w8]; (refine RunTo.mk (by first | exact trivial | omega | (simp; done) | (simp; omega)) (hK9 _ _ ?_)); clear hK9 K9); repeat (first | with_reducible (first | refine roundsA_s ?_ | refine thenA_n ?_ | refine thenA_r ?_ | refine thenA_e ?_ | refine inBlockA_n ?_ | refine inBlockA_r ?_ | refine inBlockA_s ?_ | refine inBlockA_o rfl ?_ | refine WpA.seq ?_ | refine WpA.block ?_ | refine WpA.skip ?_ | refine WpA.ret ?_ | refine WpA.exit ?_ | refine WpL.nil ?_) | ((refine WpA.cond_t ?_ ?_); focus (simp only [find, reduceIte, Nat.reduceEqDiff]; done)) | ((refine WpA.cond_f ?_ ?_); focus (simp only [find, reduceIte, Nat.reduceEqDiff]; done)) | ((with_reducible refine WpA.region ?_); (refine WpL.go _ rfl fun K9 hK9 => ?_); simp only [zz, zy, constA, runL, guardA, srcA, chunk, nilV, liveB, capsA, bndA, aop, qop, rdA, rdAs, args0, find, A.cs, St.put, fits, loadA, partC, fieldA, indexA, lenB, binV, binI, binS, unV, over, partsA, fillA, Value.oneCell', seval, w8]; (refine RunTo.mk (by first | exact trivial | omega | (simp; done) | (simp; omega)) (hK9 _ _ ?_)); clear hK9 K9))
      refine ⟨by first | exact .inl rfl | exact .inr rfl, _, _, _, _, (by simp only [resA, find, reduceIte, Nat.reduceEqDiff, loadA, partC, List.getElem?_cons_zero, List.getElem?_cons_succ, List.drop_zero, List.drop_succ_cons, List.take_succ_cons, List.take_zero, List.length_cons, List.length_nil, w8]; rfl), (by first | exact trivial | (simp; done)), (by simp only [tupA, viewA, viewC, viewCs, viewAs, List.getElem?_cons_zero, List.getElem?_cons_succ]; rfl), (by first | exact trivial | (simp; done)), _, ALe.refl _, ?_⟩
      rfl
    | none =>
      rw [hf] at g3
      have hwi : wantI has = -1 := by unfold wantI; rw [hf]
      have hgn : (c.nodes.map Nd.row)[has.length]? = some [.v (.int .i64 3), .v (.int .i64 0), .v (.int .i64 0), .sl 1 []] := by rw [List.getElem?_map, g3.1]; rfl
      have hgs : strC c.globals = [[.v (.string s)]] := by rw [g3.2]; rfl
      rw [hwi]
      ((refine WpL.go _ rfl fun K9 hK9 => ?_); simp only [zz, zy, constA, runL, guardA, srcA, chunk, nilV, liveB, capsA, bndA, aop, qop, rdA, rdAs, args0, find, A.cs, St.put, fits, loadA, partC, fieldA, indexA, lenB, binV, binI, binS, unV, over, partsA, fillA, Value.oneCell', seval, w8, hl, hw3, g1, hgn, hgs, strEq, hss2, z1]; (refine RunTo.mk (by first | exact trivial | omega | (simp; done) | (simp; omega)) (hK9 _ _ ?_)); clear hK9 K9); repeat (first | with_reducible (first | refine roundsA_s ?_ | refine thenA_n ?_ | refine thenA_r ?_ | refine thenA_e ?_ | refine inBlockA_n ?_ | refine inBlockA_r ?_ | refine inBlockA_s ?_ | refine inBlockA_o rfl ?_ | refine WpA.seq ?_ | refine WpA.block ?_ | refine WpA.skip ?_ | refine WpA.ret ?_ | refine WpA.exit ?_ | refine WpL.nil ?_) | ((refine WpA.cond_t ?_ ?_); focus (simp only [find, reduceIte, Nat.reduceEqDiff]; done)) | ((refine WpA.cond_f ?_ ?_); focus (simp only [find, reduceIte, Nat.reduceEqDiff]; done)) | ((with_reducible refine WpA.region ?_); (refine WpL.go _ rfl fun K9 hK9 => ?_); simp only [zz, zy, constA, runL, guardA, srcA, chunk, nilV, liveB, capsA, bndA, aop, qop, rdA, rdAs, args0, find, A.cs, St.put, fits, loadA, partC, fieldA, indexA, lenB, binV, binI, binS, unV, over, partsA, fillA, Value.oneCell', seval, w8, hl, hw3, g1, hgn, hgs, strEq, hss2, z1]; (refine RunTo.mk (by first | exact trivial | omega | (simp; done) | (simp; omega)) (hK9 _ _ ?_)); clear hK9 K9))
      refine WpL.call rfl (guardA_sound (P := Tryd.prog) rfl) (CallA.shut rfl rfl (by kernel_rfl) (by first | exact ALes.refl _ | (simp only [List.cons_append, List.nil_append, List.map_nil]; exact ALes.refl _)) (by first | rfl | (simp [shuts, A.shut, C.shut]; done)) (awake_pure) ?_)
      ((refine WpL.go _ rfl fun K9 hK9 => ?_); simp only [zz, zy, constA, runL, guardA, srcA, chunk, nilV, liveB, capsA, bndA, aop, qop, rdA, rdAs, args0, find, A.cs, St.put, fits, loadA, partC, fieldA, indexA, lenB, binV, binI, binS, unV, over, partsA, fillA, Value.oneCell', seval, w8]; (refine RunTo.mk (by first | exact trivial | omega | (simp; done) | (simp; omega)) (hK9 _ _ ?_)); clear hK9 K9); repeat (first | with_reducible (first | refine roundsA_s ?_ | refine thenA_n ?_ | refine thenA_r ?_ | refine thenA_e ?_ | refine inBlockA_n ?_ | refine inBlockA_r ?_ | refine inBlockA_s ?_ | refine inBlockA_o rfl ?_ | refine WpA.seq ?_ | refine WpA.block ?_ | refine WpA.skip ?_ | refine WpA.ret ?_ | refine WpA.exit ?_ | refine WpL.nil ?_) | ((refine WpA.cond_t ?_ ?_); focus (simp only [find, reduceIte, Nat.reduceEqDiff]; done)) | ((refine WpA.cond_f ?_ ?_); focus (simp only [find, reduceIte, Nat.reduceEqDiff]; done)) | ((with_reducible refine WpA.region ?_); (refine WpL.go _ rfl fun K9 hK9 => ?_); simp only [zz, zy, constA, runL, guardA, srcA, chunk, nilV, liveB, capsA, bndA, aop, qop, rdA, rdAs, args0, find, A.cs, St.put, fits, loadA, partC, fieldA, indexA, lenB, binV, binI, binS, unV, over, partsA, fillA, Value.oneCell', seval, w8]; (refine RunTo.mk (by first | exact trivial | omega | (simp; done) | (simp; omega)) (hK9 _ _ ?_)); clear hK9 K9))
      refine ⟨by first | exact .inl rfl | exact .inr rfl, _, _, _, _, (by simp only [resA, find, reduceIte, Nat.reduceEqDiff, loadA, partC, List.getElem?_cons_zero, List.getElem?_cons_succ, List.drop_zero, List.drop_succ_cons, List.take_succ_cons, List.take_zero, List.length_cons, List.length_nil, w8]; rfl), (by first | exact trivial | (simp; done)), (by simp only [tupA, viewA, viewC, viewCs, viewAs, List.getElem?_cons_zero, List.getElem?_cons_succ]; rfl), (by first | exact trivial | (simp; done)), _, ALe.refl _, ?_⟩
      rfl
end Go.Proofs.YtpacdmgnpadleaaDoor
end
