/-
  Laid together: LawPartsK.
-/
import Derived.Test.YtpacdmgnpadleaaDoorG8

section
/-
  The law ScopeParts.
-/
namespace Go.Proofs.YtpacdmgnpadleaaDoor
open Go Go.RowKit Go.Lib
set_option linter.unusedSimpArgs false
set_option linter.unusedVariables false
set_option maxHeartbeats 4000000
set_option maxRecDepth 100000
mutual
theorem emit_kids : ∀ (x : K) (c : Cd) (sc : List (List ByteArray)) (n : Nat), ∀ nd ∈ (emit x c sc n).1, nd.l.length ≤ x.size
  | .mk k name rest params d l, c, sc, n, nd, h => by
    rw [emit_eq] at h
    rw [K.size_eq]
    rcases List.mem_cons.1 h with rfl | h
    · show (ats l (n + 1)).length ≤ K.sizes l + 1
      rw [ats_len]
      have := K.len_sizes l; omega
    · have := emits_kids l _ _ _ nd h
      show _ ≤ K.sizes l + 1
      omega
theorem emits_kids : ∀ (l : List K) (c : Cd) (sc : List (List ByteArray)) (n : Nat), ∀ nd ∈ (emits l c sc n).1, nd.l.length ≤ K.sizes l
  | [], c, sc, n, nd, h => by rw [emits] at h; cases h
  | x :: l, c, sc, n, nd, h => by
    rw [emits] at h
    rw [K.sizes]
    rcases List.mem_append.1 h with h | h
    · have := emit_kids x c sc n nd h; omega
    · have := emits_kids l _ _ _ nd h; omega
end
theorem codeN_kids : ∀ (l : List K), ∀ nd ∈ (codeN l).nodes, nd.l.length ≤ K.sizes l := by
  intro l
  have key : ∀ (l : List K) (c : Cd) (m : Nat), (∀ nd ∈ c.nodes, nd.l.length ≤ m) → ∀ nd ∈ (l.foldl topN c).nodes, nd.l.length ≤ m + K.sizes l := by
    intro l
    induction l with
    | nil => intro c m h nd hn; have := h nd hn; simp [K.sizes]; exact this
    | cons x l ih =>
      intro c m h nd hn
      have := ih (topN c x) (m + x.size) (fun nd hn => by
        have hn' : nd ∈ c.nodes ++ (emit x c [] c.nodes.length).1 := hn
        rcases List.mem_append.1 hn' with h1 | h1
        · have := h nd h1; omega
        · have := emit_kids x _ _ _ nd h1; omega) nd hn
      rw [K.sizes]; omega
  have := key l .zero 0 (by simp [Cd.zero])
  simpa [codeN] using this
theorem codeN_bd (l : List K) (h : K.sizes l ≤ 900000000) : (codeN l).Bd := by
  have h1 := codeN_most l
  unfold Cd.most at h1
  have h2 := K.len_sizes l
  refine ⟨by rw [codeN_len]; omega, fun nd hn => ?_, by omega, by omega, by rw [codeN_tops]; omega⟩
  have := codeN_kids l nd hn
  omega
/-- A code begins with another one. -/
structure Cd.Pre (a b : Cd) : Prop where
  n : a.nodes <+: b.nodes
  c : a.consts <+: b.consts
  g : a.globals <+: b.globals
  p : a.prims <+: b.prims
  t : a.tops <+: b.tops
theorem Cd.Pre.refl (a : Cd) : a.Pre a := ⟨List.prefix_refl _, List.prefix_refl _, List.prefix_refl _, List.prefix_refl _, List.prefix_refl _⟩
theorem Cd.Pre.trans {a b c : Cd} (h : a.Pre b) (k : b.Pre c) : a.Pre c := ⟨h.n.trans k.n, h.c.trans k.c, h.g.trans k.g, h.p.trans k.p, h.t.trans k.t⟩
theorem addN_pre (l : List ByteArray) (s : ByteArray) : l <+: addN l s := by
  unfold addN
  split
  · exact List.prefix_refl _
  · exact List.prefix_append _ _
theorem varN_pre (c : Cd) (sc : List (List ByteArray)) (s : ByteArray) (lo gl : Int) : c.Pre (varN c sc s lo gl).2 := by
  unfold varN
  split
  · exact Cd.Pre.refl _
  · exact ⟨List.prefix_refl _, List.prefix_refl _, addN_pre _ _, List.prefix_refl _, List.prefix_refl _⟩
theorem nodeN_pre (c : Cd) (x : K) (sc : List (List ByteArray)) : c.Pre (nodeN c x sc).2 := by
  unfold nodeN
  repeat' split
  all_goals first
    | exact varN_pre _ _ _ _ _
    | exact Cd.Pre.refl _
    | exact ⟨List.prefix_refl _, List.prefix_append _ _, List.prefix_refl _, List.prefix_refl _, List.prefix_refl _⟩
    | exact ⟨List.prefix_refl _, List.prefix_refl _, List.prefix_refl _, addN_pre _ _, List.prefix_refl _⟩
mutual
theorem emit_pre : ∀ (x : K) (c : Cd) (sc : List (List ByteArray)) (n : Nat), c.Pre (emit x c sc n).2
  | .mk k name rest params d l, c, sc, n => by
    rw [emit_eq]
    exact (nodeN_pre c (.mk k name rest params d l) sc).trans (emits_pre l _ _ _)
theorem emits_pre : ∀ (l : List K) (c : Cd) (sc : List (List ByteArray)) (n : Nat), c.Pre (emits l c sc n).2
  | [], c, sc, n => by rw [emits]; exact Cd.Pre.refl _
  | x :: l, c, sc, n => by rw [emits]; exact (emit_pre x c sc n).trans (emits_pre l _ _ _)
end
theorem topN_pre (c : Cd) (x : K) : c.Pre (topN c x) := by
  have h := emit_pre x c [] c.nodes.length
  exact ⟨List.prefix_append _ _, h.c, h.g, h.p, List.prefix_append _ _⟩
theorem codeN_pre (l m : List K) : (codeN l).Pre (codeN (l ++ m)) := by
  have key : ∀ (m : List K) (c : Cd), c.Pre (m.foldl topN c) := by
    intro m
    induction m with
    | nil => intro c; exact Cd.Pre.refl _
    | cons x m ih => intro c; exact (topN_pre c x).trans (ih _)
  rw [codeN, codeN, List.foldl_append]
  exact key m _
theorem take_pre {α β : Type} {a b : List α} (f : α → β) (h : a <+: b) : (b.map f).take a.length = a.map f := by
  obtain ⟨t, rfl⟩ := h
  simp
theorem K.Lgs.app : ∀ {a b : List K}, K.Lgs a → K.Lgs b → K.Lgs (a ++ b)
  | [], b, _, h => h
  | x :: a, b, h, k => ⟨h.1, K.Lgs.app h.2 k⟩
theorem codeA_no {l : List K} (h : l.all (·.may true) = false) : codeA l = .tup [.agg (codeC .zero), .one (.v (.int .i64 1))] := by unfold codeA; rw [h]; rfl
theorem codeA_yes {l : List K} (h : l.all (·.may true) = true) : codeA l = .tup [.agg (codeC (codeN l)), .one (.v (.int .i64 0))] := by unfold codeA; rw [h]; rfl
theorem lawParts_pure (l m : List K) (hok : K.Oks l) (hlen : l.length ≤ 1000000000000000) (mok : K.Oks m) (mlen : m.length ≤ 1000000000000000) : Pure Tryd.prog 6 [.one (.sl 11 (l.map K.cc)), .one (.sl 11 (m.map K.cc))] (.one (.v (.bool true))) := by
  have hh := heavy_pure l hok hlen
  have mh := heavy_pure m mok mlen
  have hlt := fun h => light_all (l := l) hok h
  have mlt := fun h => light_all (l := m) mok h
  generalize hb1 : decide (K.meass l 1500 < 0) = b1 at hh
  generalize hb2 : decide (K.meass m 1500 < 0) = b2 at mh
  refine Fn.intro Tryd.func6 rfl Tryd.ntmps6 Tryd.results6 (by simp only [List.length_cons, List.length_nil]; decide) ?_
  repeat (first | with_reducible (first | refine roundsA_s ?_ | refine thenA_n ?_ | refine thenA_r ?_ | refine thenA_e ?_ | refine inBlockA_n ?_ | refine inBlockA_r ?_ | refine inBlockA_s ?_ | refine inBlockA_o rfl ?_ | refine WpA.seq ?_ | refine WpA.block ?_ | refine WpA.skip ?_ | refine WpA.ret ?_ | refine WpA.exit ?_ | refine WpL.nil ?_) | ((refine WpA.cond_t ?_ ?_); focus (simp only [find, reduceIte, Nat.reduceEqDiff]; done)) | ((refine WpA.cond_f ?_ ?_); focus (simp only [find, reduceIte, Nat.reduceEqDiff]; done)) | ((with_reducible refine WpA.region ?_); (refine WpL.go _ rfl fun K9 hK9 => ?_); simp only [zz, zy, constA, runL, guardA, srcA, chunk, nilV, liveB, capsA, bndA, aop, qop, rdA, rdAs, args0, find, A.cs, St.put, fits, loadA, partC, fieldA, indexA, lenB, binV, binI, binS, unV, over, partsA, fillA, Value.oneCell', seval, w6]; (refine RunTo.mk (by first | exact trivial | omega | (simp; done) | (simp; omega)) (hK9 _ _ ?_)); clear hK9 K9))
  refine WpL.call rfl (guardA_sound (P := Tryd.prog) rfl) (CallA.shut rfl rfl (by kernel_rfl) (by first | exact ALes.refl _ | (simp only [List.cons_append, List.nil_append, List.map_nil]; exact ALes.refl _)) (by first | rfl | (simp [shuts, A.shut, C.shut]; done)) (hh) ?_)
  cases b1
  case true =>
    ((refine WpL.go _ rfl fun K9 hK9 => ?_); simp only [zz, zy, constA, runL, guardA, srcA, chunk, nilV, liveB, capsA, bndA, aop, qop, rdA, rdAs, args0, find, A.cs, St.put, fits, loadA, partC, fieldA, indexA, lenB, binV, binI, binS, unV, over, partsA, fillA, Value.oneCell', seval, w6]; (refine RunTo.mk (by first | exact trivial | omega | (simp; done) | (simp; omega)) (hK9 _ _ ?_)); clear hK9 K9); repeat (first | with_reducible (first | refine roundsA_s ?_ | refine thenA_n ?_ | refine thenA_r ?_ | refine thenA_e ?_ | refine inBlockA_n ?_ | refine inBlockA_r ?_ | refine inBlockA_s ?_ | refine inBlockA_o rfl ?_ | refine WpA.seq ?_ | refine WpA.block ?_ | refine WpA.skip ?_ | refine WpA.ret ?_ | refine WpA.exit ?_ | refine WpL.nil ?_) | ((refine WpA.cond_t ?_ ?_); focus (simp only [find, reduceIte, Nat.reduceEqDiff]; done)) | ((refine WpA.cond_f ?_ ?_); focus (simp only [find, reduceIte, Nat.reduceEqDiff]; done)) | ((with_reducible refine WpA.region ?_); (refine WpL.go _ rfl fun K9 hK9 => ?_); simp only [zz, zy, constA, runL, guardA, srcA, chunk, nilV, liveB, capsA, bndA, aop, qop, rdA, rdAs, args0, find, A.cs, St.put, fits, loadA, partC, fieldA, indexA, lenB, binV, binI, binS, unV, over, partsA, fillA, Value.oneCell', seval, w6]; (refine RunTo.mk (by first | exact trivial | omega | (simp; done) | (simp; omega)) (hK9 _ _ ?_)); clear hK9 K9))
    refine WpL.call rfl (guardA_sound (P := Tryd.prog) rfl) (CallA.shut rfl rfl (by kernel_rfl) (by first | exact ALes.refl _ | (simp only [List.cons_append, List.nil_append, List.map_nil]; exact ALes.refl _)) (by first | rfl | (simp [shuts, A.shut, C.shut]; done)) (awake_pure) ?_)
    ((refine WpL.go _ rfl fun K9 hK9 => ?_); simp only [zz, zy, constA, runL, guardA, srcA, chunk, nilV, liveB, capsA, bndA, aop, qop, rdA, rdAs, args0, find, A.cs, St.put, fits, loadA, partC, fieldA, indexA, lenB, binV, binI, binS, unV, over, partsA, fillA, Value.oneCell', seval, w6]; (refine RunTo.mk (by first | exact trivial | omega | (simp; done) | (simp; omega)) (hK9 _ _ ?_)); clear hK9 K9); repeat (first | with_reducible (first | refine roundsA_s ?_ | refine thenA_n ?_ | refine thenA_r ?_ | refine thenA_e ?_ | refine inBlockA_n ?_ | refine inBlockA_r ?_ | refine inBlockA_s ?_ | refine inBlockA_o rfl ?_ | refine WpA.seq ?_ | refine WpA.block ?_ | refine WpA.skip ?_ | refine WpA.ret ?_ | refine WpA.exit ?_ | refine WpL.nil ?_) | ((refine WpA.cond_t ?_ ?_); focus (simp only [find, reduceIte, Nat.reduceEqDiff]; done)) | ((refine WpA.cond_f ?_ ?_); focus (simp only [find, reduceIte, Nat.reduceEqDiff]; done)) | ((with_reducible refine WpA.region ?_); (refine WpL.go _ rfl fun K9 hK9 => ?_); simp only [zz, zy, constA, runL, guardA, srcA, chunk, nilV, liveB, capsA, bndA, aop, qop, rdA, rdAs, args0, find, A.cs, St.put, fits, loadA, partC, fieldA, indexA, lenB, binV, binI, binS, unV, over, partsA, fillA, Value.oneCell', seval, w6]; (refine RunTo.mk (by first | exact trivial | omega | (simp; done) | (simp; omega)) (hK9 _ _ ?_)); clear hK9 K9))
    refine ⟨by first | exact .inl rfl | exact .inr rfl, _, _, _, _, (by simp only [resA, find, reduceIte, Nat.reduceEqDiff, loadA, partC, List.getElem?_cons_zero, List.getElem?_cons_succ, List.drop_zero, List.drop_succ_cons, List.take_succ_cons, List.take_zero, List.length_cons, List.length_nil, w6]; rfl), (by first | exact trivial | (simp; done)), (by simp only [tupA, viewA, viewC, viewCs, viewAs, List.getElem?_cons_zero, List.getElem?_cons_succ]; rfl), (by first | exact trivial | (simp; done)), _, ALe.refl _, ?_⟩
    rfl
  ((refine WpL.go _ rfl fun K9 hK9 => ?_); simp only [zz, zy, constA, runL, guardA, srcA, chunk, nilV, liveB, capsA, bndA, aop, qop, rdA, rdAs, args0, find, A.cs, St.put, fits, loadA, partC, fieldA, indexA, lenB, binV, binI, binS, unV, over, partsA, fillA, Value.oneCell', seval, w6]; (refine RunTo.mk (by first | exact trivial | omega | (simp; done) | (simp; omega)) (hK9 _ _ ?_)); clear hK9 K9); repeat (first | with_reducible (first | refine roundsA_s ?_ | refine thenA_n ?_ | refine thenA_r ?_ | refine thenA_e ?_ | refine inBlockA_n ?_ | refine inBlockA_r ?_ | refine inBlockA_s ?_ | refine inBlockA_o rfl ?_ | refine WpA.seq ?_ | refine WpA.block ?_ | refine WpA.skip ?_ | refine WpA.ret ?_ | refine WpA.exit ?_ | refine WpL.nil ?_) | ((refine WpA.cond_t ?_ ?_); focus (simp only [find, reduceIte, Nat.reduceEqDiff]; done)) | ((refine WpA.cond_f ?_ ?_); focus (simp only [find, reduceIte, Nat.reduceEqDiff]; done)) | ((with_reducible refine WpA.region ?_); (refine WpL.go _ rfl fun K9 hK9 => ?_); simp only [zz, zy, constA, runL, guardA, srcA, chunk, nilV, liveB, capsA, bndA, aop, qop, rdA, rdAs, args0, find, A.cs, St.put, fits, loadA, partC, fieldA, indexA, lenB, binV, binI, binS, unV, over, partsA, fillA, Value.oneCell', seval, w6]; (refine RunTo.mk (by first | exact trivial | omega | (simp; done) | (simp; omega)) (hK9 _ _ ?_)); clear hK9 K9))
  refine WpL.call rfl (guardA_sound (P := Tryd.prog) rfl) (CallA.shut rfl rfl (by kernel_rfl) (by first | exact ALes.refl _ | (simp only [List.cons_append, List.nil_append, List.map_nil]; exact ALes.refl _)) (by first | rfl | (simp [shuts, A.shut, C.shut]; done)) (mh) ?_)
  cases b2
  case true =>
    ((refine WpL.go _ rfl fun K9 hK9 => ?_); simp only [zz, zy, constA, runL, guardA, srcA, chunk, nilV, liveB, capsA, bndA, aop, qop, rdA, rdAs, args0, find, A.cs, St.put, fits, loadA, partC, fieldA, indexA, lenB, binV, binI, binS, unV, over, partsA, fillA, Value.oneCell', seval, w6]; (refine RunTo.mk (by first | exact trivial | omega | (simp; done) | (simp; omega)) (hK9 _ _ ?_)); clear hK9 K9); repeat (first | with_reducible (first | refine roundsA_s ?_ | refine thenA_n ?_ | refine thenA_r ?_ | refine thenA_e ?_ | refine inBlockA_n ?_ | refine inBlockA_r ?_ | refine inBlockA_s ?_ | refine inBlockA_o rfl ?_ | refine WpA.seq ?_ | refine WpA.block ?_ | refine WpA.skip ?_ | refine WpA.ret ?_ | refine WpA.exit ?_ | refine WpL.nil ?_) | ((refine WpA.cond_t ?_ ?_); focus (simp only [find, reduceIte, Nat.reduceEqDiff]; done)) | ((refine WpA.cond_f ?_ ?_); focus (simp only [find, reduceIte, Nat.reduceEqDiff]; done)) | ((with_reducible refine WpA.region ?_); (refine WpL.go _ rfl fun K9 hK9 => ?_); simp only [zz, zy, constA, runL, guardA, srcA, chunk, nilV, liveB, capsA, bndA, aop, qop, rdA, rdAs, args0, find, A.cs, St.put, fits, loadA, partC, fieldA, indexA, lenB, binV, binI, binS, unV, over, partsA, fillA, Value.oneCell', seval, w6]; (refine RunTo.mk (by first | exact trivial | omega | (simp; done) | (simp; omega)) (hK9 _ _ ?_)); clear hK9 K9))
    refine WpL.call rfl (guardA_sound (P := Tryd.prog) rfl) (CallA.shut rfl rfl (by kernel_rfl) (by first | exact ALes.refl _ | (simp only [List.cons_append, List.nil_append, List.map_nil]; exact ALes.refl _)) (by first | rfl | (simp [shuts, A.shut, C.shut]; done)) (awake_pure) ?_)
    ((refine WpL.go _ rfl fun K9 hK9 => ?_); simp only [zz, zy, constA, runL, guardA, srcA, chunk, nilV, liveB, capsA, bndA, aop, qop, rdA, rdAs, args0, find, A.cs, St.put, fits, loadA, partC, fieldA, indexA, lenB, binV, binI, binS, unV, over, partsA, fillA, Value.oneCell', seval, w6]; (refine RunTo.mk (by first | exact trivial | omega | (simp; done) | (simp; omega)) (hK9 _ _ ?_)); clear hK9 K9); repeat (first | with_reducible (first | refine roundsA_s ?_ | refine thenA_n ?_ | refine thenA_r ?_ | refine thenA_e ?_ | refine inBlockA_n ?_ | refine inBlockA_r ?_ | refine inBlockA_s ?_ | refine inBlockA_o rfl ?_ | refine WpA.seq ?_ | refine WpA.block ?_ | refine WpA.skip ?_ | refine WpA.ret ?_ | refine WpA.exit ?_ | refine WpL.nil ?_) | ((refine WpA.cond_t ?_ ?_); focus (simp only [find, reduceIte, Nat.reduceEqDiff]; done)) | ((refine WpA.cond_f ?_ ?_); focus (simp only [find, reduceIte, Nat.reduceEqDiff]; done)) | ((with_reducible refine WpA.region ?_); (refine WpL.go _ rfl fun K9 hK9 => ?_); simp only [zz, zy, constA, runL, guardA, srcA, chunk, nilV, liveB, capsA, bndA, aop, qop, rdA, rdAs, args0, find, A.cs, St.put, fits, loadA, partC, fieldA, indexA, lenB, binV, binI, binS, unV, over, partsA, fillA, Value.oneCell', seval, w6]; (refine RunTo.mk (by first | exact trivial | omega | (simp; done) | (simp; omega)) (hK9 _ _ ?_)); clear hK9 K9))
    refine ⟨by first | exact .inl rfl | exact .inr rfl, _, _, _, _, (by simp only [resA, find, reduceIte, Nat.reduceEqDiff, loadA, partC, List.getElem?_cons_zero, List.getElem?_cons_succ, List.drop_zero, List.drop_succ_cons, List.take_succ_cons, List.take_zero, List.length_cons, List.length_nil, w6]; rfl), (by first | exact trivial | (simp; done)), (by simp only [tupA, viewA, viewC, viewCs, viewAs, List.getElem?_cons_zero, List.getElem?_cons_succ]; rfl), (by first | exact trivial | (simp; done)), _, ALe.refl _, ?_⟩
    rfl
  obtain ⟨hlg, hsz, hll⟩ := hlt (of_decide_eq_false hb1)
  obtain ⟨mlg, msz, mll⟩ := mlt (of_decide_eq_false hb2)
  have hcp := code_pure l hlg (by omega) (by omega)
  have mcp := code_pure (l ++ m) (hlg.app mlg) (by simp; omega) (by rw [K.sizes_append]; omega)
  rw [List.map_append] at mcp
  have hbl : ∀ (o : Option Ob) (ev : Int), Le ⟨126, 0⟩ ⟨[(26, .one (.ms 1 (l.length + m.length))), (0, .one (.sl 11 (l.map K.cc))), (1, .one (.sl 11 (m.map K.cc))), (5, .one (.ptr 0 1 0 0)), (6, .one (.v (.int .i64 ev)))], [o, some ⟨33, 11, l.map K.cc ++ m.map K.cc⟩]⟩ ⟨[(26, .one (.sl 11 (l.map K.cc ++ m.map K.cc))), (0, .one (.sl 11 (l.map K.cc))), (1, .one (.sl 11 (m.map K.cc))), (5, .one (.ptr 0 1 0 0)), (6, .one (.v (.int .i64 ev)))], [o, none]⟩ := fun o ev => by
    have hsh : ∀ r ∈ l.map K.cc ++ m.map K.cc, ∀ c ∈ r, C.shut c = true := fun r hr c hc => by
      rcases List.mem_append.1 hr with h | h <;> (obtain ⟨x, _, rfl⟩ := List.mem_map.1 h; exact x.cc_shut c hc)
    refine Le.freeze (fun i => i == 1) (Frz.ofL ?_) ?_
    · cases o with
      | none =>
        simp only [FrzL]
        exact ⟨fun h => absurd h (by decide), fun _ ob ho => by cases ho; exact hsh, trivial⟩
      | some b =>
        simp only [FrzL]
        exact ⟨rfl, trivial, trivial, FzR.same _ _ _, fun _ ob ho => by cases ho; exact hsh, trivial⟩
    · simp only [SubZ]
      exact ⟨⟨_, rfl, FzC.ms rfl rfl (by simp)⟩, ⟨_, rfl, FzA.same _ _ _⟩, ⟨_, rfl, FzA.same _ _ _⟩, ⟨_, rfl, FzA.same _ _ _⟩, ⟨_, rfl, FzA.same _ _ _⟩, trivial⟩
  cases hm : l.all (·.may true) with
  | false =>
    have hm2 : (l ++ m).all (·.may true) = false := by rw [List.all_append, hm]; rfl
    rw [codeA_no hm] at hcp
    rw [codeA_no hm2] at mcp
    simp only [codeC] at hcp mcp
    ((refine WpL.go _ rfl fun K9 hK9 => ?_); simp only [zz, zy, constA, runL, guardA, srcA, chunk, nilV, liveB, capsA, bndA, aop, qop, rdA, rdAs, args0, find, A.cs, St.put, fits, loadA, partC, fieldA, indexA, lenB, binV, binI, binS, unV, over, partsA, fillA, Value.oneCell', seval, w6]; (refine RunTo.mk (by first | exact trivial | omega | (simp; done) | (simp; omega)) (hK9 _ _ ?_)); clear hK9 K9); repeat (first | with_reducible (first | refine roundsA_s ?_ | refine thenA_n ?_ | refine thenA_r ?_ | refine thenA_e ?_ | refine inBlockA_n ?_ | refine inBlockA_r ?_ | refine inBlockA_s ?_ | refine inBlockA_o rfl ?_ | refine WpA.seq ?_ | refine WpA.block ?_ | refine WpA.skip ?_ | refine WpA.ret ?_ | refine WpA.exit ?_ | refine WpL.nil ?_) | ((refine WpA.cond_t ?_ ?_); focus (simp only [find, reduceIte, Nat.reduceEqDiff]; done)) | ((refine WpA.cond_f ?_ ?_); focus (simp only [find, reduceIte, Nat.reduceEqDiff]; done)) | ((with_reducible refine WpA.region ?_); (refine WpL.go _ rfl fun K9 hK9 => ?_); simp only [zz, zy, constA, runL, guardA, srcA, chunk, nilV, liveB, capsA, bndA, aop, qop, rdA, rdAs, args0, find, A.cs, St.put, fits, loadA, partC, fieldA, indexA, lenB, binV, binI, binS, unV, over, partsA, fillA, Value.oneCell', seval, w6]; (refine RunTo.mk (by first | exact trivial | omega | (simp; done) | (simp; omega)) (hK9 _ _ ?_)); clear hK9 K9))
    refine WpL.call rfl (guardA_sound (P := Tryd.prog) rfl) (CallA.shut rfl rfl (by kernel_rfl) (by first | exact ALes.refl _ | (simp only [List.cons_append, List.nil_append, List.map_nil]; exact ALes.refl _)) (by first | rfl | (simp [shuts, A.shut, C.shut]; done)) (hcp) ?_)
    ((refine WpL.go _ rfl fun K9 hK9 => ?_); simp only [zz, zy, constA, runL, guardA, srcA, chunk, nilV, liveB, capsA, bndA, aop, qop, rdA, rdAs, args0, find, A.cs, St.put, fits, loadA, partC, fieldA, indexA, lenB, binV, binI, binS, unV, over, partsA, fillA, Value.oneCell', seval, w6]; (refine RunTo.mk (by first | exact trivial | omega | (simp; done) | (simp; omega)) (hK9 _ _ ?_)); clear hK9 K9); repeat (first | with_reducible (first | refine roundsA_s ?_ | refine thenA_n ?_ | refine thenA_r ?_ | refine thenA_e ?_ | refine inBlockA_n ?_ | refine inBlockA_r ?_ | refine inBlockA_s ?_ | refine inBlockA_o rfl ?_ | refine WpA.seq ?_ | refine WpA.block ?_ | refine WpA.skip ?_ | refine WpA.ret ?_ | refine WpA.exit ?_ | refine WpL.nil ?_) | ((refine WpA.cond_t ?_ ?_); focus (simp only [find, reduceIte, Nat.reduceEqDiff]; done)) | ((refine WpA.cond_f ?_ ?_); focus (simp only [find, reduceIte, Nat.reduceEqDiff]; done)) | ((with_reducible refine WpA.region ?_); (refine WpL.go _ rfl fun K9 hK9 => ?_); simp only [zz, zy, constA, runL, guardA, srcA, chunk, nilV, liveB, capsA, bndA, aop, qop, rdA, rdAs, args0, find, A.cs, St.put, fits, loadA, partC, fieldA, indexA, lenB, binV, binI, binS, unV, over, partsA, fillA, Value.oneCell', seval, w6]; (refine RunTo.mk (by first | exact trivial | omega | (simp; done) | (simp; omega)) (hK9 _ _ ?_)); clear hK9 K9))
    refine WpL.le ((Le.sub (by simp [Sub, find])).trans (hbl _ 1)) ?_
    refine WpL.call rfl (guardA_sound (P := Tryd.prog) rfl) (CallA.shut rfl rfl (by kernel_rfl) (by first | exact ALes.refl _ | (simp only [List.cons_append, List.nil_append, List.map_nil]; exact ALes.refl _)) (by first | rfl | (simp [shuts, A.shut, C.shut]; done)) (mcp) ?_)
    ((refine WpL.go _ rfl fun K9 hK9 => ?_); simp only [zz, zy, constA, runL, guardA, srcA, chunk, nilV, liveB, capsA, bndA, aop, qop, rdA, rdAs, args0, find, A.cs, St.put, fits, loadA, partC, fieldA, indexA, lenB, binV, binI, binS, unV, over, partsA, fillA, Value.oneCell', seval, w6]; (refine RunTo.mk (by first | exact trivial | omega | (simp; done) | (simp; omega)) (hK9 _ _ ?_)); clear hK9 K9); repeat (first | with_reducible (first | refine roundsA_s ?_ | refine thenA_n ?_ | refine thenA_r ?_ | refine thenA_e ?_ | refine inBlockA_n ?_ | refine inBlockA_r ?_ | refine inBlockA_s ?_ | refine inBlockA_o rfl ?_ | refine WpA.seq ?_ | refine WpA.block ?_ | refine WpA.skip ?_ | refine WpA.ret ?_ | refine WpA.exit ?_ | refine WpL.nil ?_) | ((refine WpA.cond_t ?_ ?_); focus (simp only [find, reduceIte, Nat.reduceEqDiff]; done)) | ((refine WpA.cond_f ?_ ?_); focus (simp only [find, reduceIte, Nat.reduceEqDiff]; done)) | ((with_reducible refine WpA.region ?_); (refine WpL.go _ rfl fun K9 hK9 => ?_); simp only [zz, zy, constA, runL, guardA, srcA, chunk, nilV, liveB, capsA, bndA, aop, qop, rdA, rdAs, args0, find, A.cs, St.put, fits, loadA, partC, fieldA, indexA, lenB, binV, binI, binS, unV, over, partsA, fillA, Value.oneCell', seval, w6]; (refine RunTo.mk (by first | exact trivial | omega | (simp; done) | (simp; omega)) (hK9 _ _ ?_)); clear hK9 K9))
    refine WpL.call rfl (guardA_sound (P := Tryd.prog) rfl) (CallA.shut rfl rfl (by kernel_rfl) (by first | exact ALes.refl _ | (simp only [List.cons_append, List.nil_append, List.map_nil]; exact ALes.refl _)) (by first | rfl | (simp [shuts, A.shut, C.shut]; done)) (awake_pure) ?_)
    ((refine WpL.go _ rfl fun K9 hK9 => ?_); simp only [zz, zy, constA, runL, guardA, srcA, chunk, nilV, liveB, capsA, bndA, aop, qop, rdA, rdAs, args0, find, A.cs, St.put, fits, loadA, partC, fieldA, indexA, lenB, binV, binI, binS, unV, over, partsA, fillA, Value.oneCell', seval, w6]; (refine RunTo.mk (by first | exact trivial | omega | (simp; done) | (simp; omega)) (hK9 _ _ ?_)); clear hK9 K9); repeat (first | with_reducible (first | refine roundsA_s ?_ | refine thenA_n ?_ | refine thenA_r ?_ | refine thenA_e ?_ | refine inBlockA_n ?_ | refine inBlockA_r ?_ | refine inBlockA_s ?_ | refine inBlockA_o rfl ?_ | refine WpA.seq ?_ | refine WpA.block ?_ | refine WpA.skip ?_ | refine WpA.ret ?_ | refine WpA.exit ?_ | refine WpL.nil ?_) | ((refine WpA.cond_t ?_ ?_); focus (simp only [find, reduceIte, Nat.reduceEqDiff]; done)) | ((refine WpA.cond_f ?_ ?_); focus (simp only [find, reduceIte, Nat.reduceEqDiff]; done)) | ((with_reducible refine WpA.region ?_); (refine WpL.go _ rfl fun K9 hK9 => ?_); simp only [zz, zy, constA, runL, guardA, srcA, chunk, nilV, liveB, capsA, bndA, aop, qop, rdA, rdAs, args0, find, A.cs, St.put, fits, loadA, partC, fieldA, indexA, lenB, binV, binI, binS, unV, over, partsA, fillA, Value.oneCell', seval, w6]; (refine RunTo.mk (by first | exact trivial | omega | (simp; done) | (simp; omega)) (hK9 _ _ ?_)); clear hK9 K9))
    refine ⟨by first | exact .inl rfl | exact .inr rfl, _, _, _, _, (by simp only [resA, find, reduceIte, Nat.reduceEqDiff, loadA, partC, List.getElem?_cons_zero, List.getElem?_cons_succ, List.drop_zero, List.drop_succ_cons, List.take_succ_cons, List.take_zero, List.length_cons, List.length_nil, w6]; rfl), (by first | exact trivial | (simp; done)), (by simp only [tupA, viewA, viewC, viewCs, viewAs, List.getElem?_cons_zero, List.getElem?_cons_succ]; rfl), (by first | exact trivial | (simp; done)), _, ALe.refl _, ?_⟩
    rfl
  | true =>
    rw [codeA_yes hm] at hcp
    cases hm2 : (l ++ m).all (·.may true) with
    | false =>
      rw [codeA_no hm2] at mcp
      simp only [codeC] at hcp mcp
      ((refine WpL.go _ rfl fun K9 hK9 => ?_); simp only [zz, zy, constA, runL, guardA, srcA, chunk, nilV, liveB, capsA, bndA, aop, qop, rdA, rdAs, args0, find, A.cs, St.put, fits, loadA, partC, fieldA, indexA, lenB, binV, binI, binS, unV, over, partsA, fillA, Value.oneCell', seval, w6]; (refine RunTo.mk (by first | exact trivial | omega | (simp; done) | (simp; omega)) (hK9 _ _ ?_)); clear hK9 K9); repeat (first | with_reducible (first | refine roundsA_s ?_ | refine thenA_n ?_ | refine thenA_r ?_ | refine thenA_e ?_ | refine inBlockA_n ?_ | refine inBlockA_r ?_ | refine inBlockA_s ?_ | refine inBlockA_o rfl ?_ | refine WpA.seq ?_ | refine WpA.block ?_ | refine WpA.skip ?_ | refine WpA.ret ?_ | refine WpA.exit ?_ | refine WpL.nil ?_) | ((refine WpA.cond_t ?_ ?_); focus (simp only [find, reduceIte, Nat.reduceEqDiff]; done)) | ((refine WpA.cond_f ?_ ?_); focus (simp only [find, reduceIte, Nat.reduceEqDiff]; done)) | ((with_reducible refine WpA.region ?_); (refine WpL.go _ rfl fun K9 hK9 => ?_); simp only [zz, zy, constA, runL, guardA, srcA, chunk, nilV, liveB, capsA, bndA, aop, qop, rdA, rdAs, args0, find, A.cs, St.put, fits, loadA, partC, fieldA, indexA, lenB, binV, binI, binS, unV, over, partsA, fillA, Value.oneCell', seval, w6]; (refine RunTo.mk (by first | exact trivial | omega | (simp; done) | (simp; omega)) (hK9 _ _ ?_)); clear hK9 K9))
      refine WpL.call rfl (guardA_sound (P := Tryd.prog) rfl) (CallA.shut rfl rfl (by kernel_rfl) (by first | exact ALes.refl _ | (simp only [List.cons_append, List.nil_append, List.map_nil]; exact ALes.refl _)) (by first | rfl | (simp [shuts, A.shut, C.shut]; done)) (hcp) ?_)
      ((refine WpL.go _ rfl fun K9 hK9 => ?_); simp only [zz, zy, constA, runL, guardA, srcA, chunk, nilV, liveB, capsA, bndA, aop, qop, rdA, rdAs, args0, find, A.cs, St.put, fits, loadA, partC, fieldA, indexA, lenB, binV, binI, binS, unV, over, partsA, fillA, Value.oneCell', seval, w6]; (refine RunTo.mk (by first | exact trivial | omega | (simp; done) | (simp; omega)) (hK9 _ _ ?_)); clear hK9 K9); repeat (first | with_reducible (first | refine roundsA_s ?_ | refine thenA_n ?_ | refine thenA_r ?_ | refine thenA_e ?_ | refine inBlockA_n ?_ | refine inBlockA_r ?_ | refine inBlockA_s ?_ | refine inBlockA_o rfl ?_ | refine WpA.seq ?_ | refine WpA.block ?_ | refine WpA.skip ?_ | refine WpA.ret ?_ | refine WpA.exit ?_ | refine WpL.nil ?_) | ((refine WpA.cond_t ?_ ?_); focus (simp only [find, reduceIte, Nat.reduceEqDiff]; done)) | ((refine WpA.cond_f ?_ ?_); focus (simp only [find, reduceIte, Nat.reduceEqDiff]; done)) | ((with_reducible refine WpA.region ?_); (refine WpL.go _ rfl fun K9 hK9 => ?_); simp only [zz, zy, constA, runL, guardA, srcA, chunk, nilV, liveB, capsA, bndA, aop, qop, rdA, rdAs, args0, find, A.cs, St.put, fits, loadA, partC, fieldA, indexA, lenB, binV, binI, binS, unV, over, partsA, fillA, Value.oneCell', seval, w6]; (refine RunTo.mk (by first | exact trivial | omega | (simp; done) | (simp; omega)) (hK9 _ _ ?_)); clear hK9 K9))
      refine WpL.le ((Le.sub (by simp [Sub, find])).trans (hbl _ 0)) ?_
      refine WpL.call rfl (guardA_sound (P := Tryd.prog) rfl) (CallA.shut rfl rfl (by kernel_rfl) (by first | exact ALes.refl _ | (simp only [List.cons_append, List.nil_append, List.map_nil]; exact ALes.refl _)) (by first | rfl | (simp [shuts, A.shut, C.shut]; done)) (mcp) ?_)
      ((refine WpL.go _ rfl fun K9 hK9 => ?_); simp only [zz, zy, constA, runL, guardA, srcA, chunk, nilV, liveB, capsA, bndA, aop, qop, rdA, rdAs, args0, find, A.cs, St.put, fits, loadA, partC, fieldA, indexA, lenB, binV, binI, binS, unV, over, partsA, fillA, Value.oneCell', seval, w6]; (refine RunTo.mk (by first | exact trivial | omega | (simp; done) | (simp; omega)) (hK9 _ _ ?_)); clear hK9 K9); repeat (first | with_reducible (first | refine roundsA_s ?_ | refine thenA_n ?_ | refine thenA_r ?_ | refine thenA_e ?_ | refine inBlockA_n ?_ | refine inBlockA_r ?_ | refine inBlockA_s ?_ | refine inBlockA_o rfl ?_ | refine WpA.seq ?_ | refine WpA.block ?_ | refine WpA.skip ?_ | refine WpA.ret ?_ | refine WpA.exit ?_ | refine WpL.nil ?_) | ((refine WpA.cond_t ?_ ?_); focus (simp only [find, reduceIte, Nat.reduceEqDiff]; done)) | ((refine WpA.cond_f ?_ ?_); focus (simp only [find, reduceIte, Nat.reduceEqDiff]; done)) | ((with_reducible refine WpA.region ?_); (refine WpL.go _ rfl fun K9 hK9 => ?_); simp only [zz, zy, constA, runL, guardA, srcA, chunk, nilV, liveB, capsA, bndA, aop, qop, rdA, rdAs, args0, find, A.cs, St.put, fits, loadA, partC, fieldA, indexA, lenB, binV, binI, binS, unV, over, partsA, fillA, Value.oneCell', seval, w6]; (refine RunTo.mk (by first | exact trivial | omega | (simp; done) | (simp; omega)) (hK9 _ _ ?_)); clear hK9 K9))
      refine WpL.call rfl (guardA_sound (P := Tryd.prog) rfl) (CallA.shut rfl rfl (by kernel_rfl) (by first | exact ALes.refl _ | (simp only [List.cons_append, List.nil_append, List.map_nil]; exact ALes.refl _)) (by first | rfl | (simp [shuts, A.shut, C.shut]; done)) (awake_pure) ?_)
      ((refine WpL.go _ rfl fun K9 hK9 => ?_); simp only [zz, zy, constA, runL, guardA, srcA, chunk, nilV, liveB, capsA, bndA, aop, qop, rdA, rdAs, args0, find, A.cs, St.put, fits, loadA, partC, fieldA, indexA, lenB, binV, binI, binS, unV, over, partsA, fillA, Value.oneCell', seval, w6]; (refine RunTo.mk (by first | exact trivial | omega | (simp; done) | (simp; omega)) (hK9 _ _ ?_)); clear hK9 K9); repeat (first | with_reducible (first | refine roundsA_s ?_ | refine thenA_n ?_ | refine thenA_r ?_ | refine thenA_e ?_ | refine inBlockA_n ?_ | refine inBlockA_r ?_ | refine inBlockA_s ?_ | refine inBlockA_o rfl ?_ | refine WpA.seq ?_ | refine WpA.block ?_ | refine WpA.skip ?_ | refine WpA.ret ?_ | refine WpA.exit ?_ | refine WpL.nil ?_) | ((refine WpA.cond_t ?_ ?_); focus (simp only [find, reduceIte, Nat.reduceEqDiff]; done)) | ((refine WpA.cond_f ?_ ?_); focus (simp only [find, reduceIte, Nat.reduceEqDiff]; done)) | ((with_reducible refine WpA.region ?_); (refine WpL.go _ rfl fun K9 hK9 => ?_); simp only [zz, zy, constA, runL, guardA, srcA, chunk, nilV, liveB, capsA, bndA, aop, qop, rdA, rdAs, args0, find, A.cs, St.put, fits, loadA, partC, fieldA, indexA, lenB, binV, binI, binS, unV, over, partsA, fillA, Value.oneCell', seval, w6]; (refine RunTo.mk (by first | exact trivial | omega | (simp; done) | (simp; omega)) (hK9 _ _ ?_)); clear hK9 K9))
      refine ⟨by first | exact .inl rfl | exact .inr rfl, _, _, _, _, (by simp only [resA, find, reduceIte, Nat.reduceEqDiff, loadA, partC, List.getElem?_cons_zero, List.getElem?_cons_succ, List.drop_zero, List.drop_succ_cons, List.take_succ_cons, List.take_zero, List.length_cons, List.length_nil, w6]; rfl), (by first | exact trivial | (simp; done)), (by simp only [tupA, viewA, viewC, viewCs, viewAs, List.getElem?_cons_zero, List.getElem?_cons_succ]; rfl), (by first | exact trivial | (simp; done)), _, ALe.refl _, ?_⟩
      rfl
    | true =>
      rw [codeA_yes hm2] at mcp
      have hpre := codeN_pre l m
      have hbd := codeN_bd l (by omega)
      have ht1 := codeN_tops l
      have ht2 := codeN_tops (l ++ m)
      rw [List.length_append] at ht2
      have hsame := sameCode_pure (codeN l) (codeN l) hbd
      rw [eqB_pos rfl] at hsame
      simp only [codeC] at hcp mcp hsame
      generalize codeN l = a at *
      generalize codeN (l ++ m) = b at *
      have q1 := hpre.n.length_le
      have q2 := hpre.c.length_le
      have q3 := hpre.g.length_le
      have q4 := hpre.p.length_le
      have q5 := hpre.t.length_le
      have r1 : decide ((b.nodes.length : Int) < (a.nodes.length : Int)) = false := by simp; omega
      have r2 : decide ((b.consts.length : Int) < (a.consts.length : Int)) = false := by simp; omega
      have r3 : decide ((b.globals.length : Int) < (a.globals.length : Int)) = false := by simp; omega
      have r4 : decide ((b.prims.length : Int) < (a.prims.length : Int)) = false := by simp; omega
      have s1 := strC_len a.globals
      have s2 := strC_len b.globals
      have s3 := strC_len a.prims
      have s4 := strC_len b.prims
      have s5 : (intC a.tops).length = a.tops.length := intC_len _
      have s6 : (intC b.tops).length = l.length + m.length := by rw [intC_len, ht2]
      have w1 : IntKind.i64.wrap ((l.length : Int) + (m.length : Int)) = ((l.length + m.length : Nat) : Int) := by rw [wrap64 (by omega) (by omega)]; omega
      have t1 : List.take a.nodes.length (b.nodes.map Nd.row) = a.nodes.map Nd.row := take_pre _ hpre.n
      have t2 : List.take a.consts.length (b.consts.map D.cc) = a.consts.map D.cc := take_pre _ hpre.c
      have t3 : List.take a.globals.length (strC b.globals) = strC a.globals := take_pre _ hpre.g
      have t4 : List.take a.prims.length (strC b.prims) = strC a.prims := take_pre _ hpre.p
      have t5 : List.take a.tops.length (intC b.tops) = intC a.tops := take_pre _ hpre.t
      ((refine WpL.go _ rfl fun K9 hK9 => ?_); simp only [zz, zy, constA, runL, guardA, srcA, chunk, nilV, liveB, capsA, bndA, aop, qop, rdA, rdAs, args0, find, A.cs, St.put, fits, loadA, partC, fieldA, indexA, lenB, binV, binI, binS, unV, over, partsA, fillA, Value.oneCell', seval, w6]; (refine RunTo.mk (by first | exact trivial | omega | (simp; done) | (simp; omega)) (hK9 _ _ ?_)); clear hK9 K9); repeat (first | with_reducible (first | refine roundsA_s ?_ | refine thenA_n ?_ | refine thenA_r ?_ | refine thenA_e ?_ | refine inBlockA_n ?_ | refine inBlockA_r ?_ | refine inBlockA_s ?_ | refine inBlockA_o rfl ?_ | refine WpA.seq ?_ | refine WpA.block ?_ | refine WpA.skip ?_ | refine WpA.ret ?_ | refine WpA.exit ?_ | refine WpL.nil ?_) | ((refine WpA.cond_t ?_ ?_); focus (simp only [find, reduceIte, Nat.reduceEqDiff]; done)) | ((refine WpA.cond_f ?_ ?_); focus (simp only [find, reduceIte, Nat.reduceEqDiff]; done)) | ((with_reducible refine WpA.region ?_); (refine WpL.go _ rfl fun K9 hK9 => ?_); simp only [zz, zy, constA, runL, guardA, srcA, chunk, nilV, liveB, capsA, bndA, aop, qop, rdA, rdAs, args0, find, A.cs, St.put, fits, loadA, partC, fieldA, indexA, lenB, binV, binI, binS, unV, over, partsA, fillA, Value.oneCell', seval, w6]; (refine RunTo.mk (by first | exact trivial | omega | (simp; done) | (simp; omega)) (hK9 _ _ ?_)); clear hK9 K9))
      refine WpL.call rfl (guardA_sound (P := Tryd.prog) rfl) (CallA.shut rfl rfl (by kernel_rfl) (by first | exact ALes.refl _ | (simp only [List.cons_append, List.nil_append, List.map_nil]; exact ALes.refl _)) (by first | rfl | (simp [shuts, A.shut, C.shut]; done)) (hcp) ?_)
      ((refine WpL.go _ rfl fun K9 hK9 => ?_); simp only [zz, zy, constA, runL, guardA, srcA, chunk, nilV, liveB, capsA, bndA, aop, qop, rdA, rdAs, args0, find, A.cs, St.put, fits, loadA, partC, fieldA, indexA, lenB, binV, binI, binS, unV, over, partsA, fillA, Value.oneCell', seval, w6]; (refine RunTo.mk (by first | exact trivial | omega | (simp; done) | (simp; omega)) (hK9 _ _ ?_)); clear hK9 K9); repeat (first | with_reducible (first | refine roundsA_s ?_ | refine thenA_n ?_ | refine thenA_r ?_ | refine thenA_e ?_ | refine inBlockA_n ?_ | refine inBlockA_r ?_ | refine inBlockA_s ?_ | refine inBlockA_o rfl ?_ | refine WpA.seq ?_ | refine WpA.block ?_ | refine WpA.skip ?_ | refine WpA.ret ?_ | refine WpA.exit ?_ | refine WpL.nil ?_) | ((refine WpA.cond_t ?_ ?_); focus (simp only [find, reduceIte, Nat.reduceEqDiff]; done)) | ((refine WpA.cond_f ?_ ?_); focus (simp only [find, reduceIte, Nat.reduceEqDiff]; done)) | ((with_reducible refine WpA.region ?_); (refine WpL.go _ rfl fun K9 hK9 => ?_); simp only [zz, zy, constA, runL, guardA, srcA, chunk, nilV, liveB, capsA, bndA, aop, qop, rdA, rdAs, args0, find, A.cs, St.put, fits, loadA, partC, fieldA, indexA, lenB, binV, binI, binS, unV, over, partsA, fillA, Value.oneCell', seval, w6]; (refine RunTo.mk (by first | exact trivial | omega | (simp; done) | (simp; omega)) (hK9 _ _ ?_)); clear hK9 K9))
      refine WpL.le ((Le.sub (by simp [Sub, find])).trans (hbl _ 0)) ?_
      refine WpL.call rfl (guardA_sound (P := Tryd.prog) rfl) (CallA.shut rfl rfl (by kernel_rfl) (by first | exact ALes.refl _ | (simp only [List.cons_append, List.nil_append, List.map_nil]; exact ALes.refl _)) (by first | rfl | (simp [shuts, A.shut, C.shut]; done)) (mcp) ?_)
      ((refine WpL.go _ rfl fun K9 hK9 => ?_); simp only [zz, zy, constA, runL, guardA, srcA, chunk, nilV, liveB, capsA, bndA, aop, qop, rdA, rdAs, args0, find, A.cs, St.put, fits, loadA, partC, fieldA, indexA, lenB, binV, binI, binS, unV, over, partsA, fillA, Value.oneCell', seval, w6, r1, r2, r3, r4, s1, s2, s3, s4, s5, s6, w1, t1, t2, t3, t4, t5, Int.toNat_zero]; (refine RunTo.mk (by first | exact trivial | omega | (simp; done) | (simp; omega)) (hK9 _ _ ?_)); clear hK9 K9); repeat (first | with_reducible (first | refine roundsA_s ?_ | refine thenA_n ?_ | refine thenA_r ?_ | refine thenA_e ?_ | refine inBlockA_n ?_ | refine inBlockA_r ?_ | refine inBlockA_s ?_ | refine inBlockA_o rfl ?_ | refine WpA.seq ?_ | refine WpA.block ?_ | refine WpA.skip ?_ | refine WpA.ret ?_ | refine WpA.exit ?_ | refine WpL.nil ?_) | ((refine WpA.cond_t ?_ ?_); focus (simp only [find, reduceIte, Nat.reduceEqDiff]; done)) | ((refine WpA.cond_f ?_ ?_); focus (simp only [find, reduceIte, Nat.reduceEqDiff]; done)) | ((with_reducible refine WpA.region ?_); (refine WpL.go _ rfl fun K9 hK9 => ?_); simp only [zz, zy, constA, runL, guardA, srcA, chunk, nilV, liveB, capsA, bndA, aop, qop, rdA, rdAs, args0, find, A.cs, St.put, fits, loadA, partC, fieldA, indexA, lenB, binV, binI, binS, unV, over, partsA, fillA, Value.oneCell', seval, w6, r1, r2, r3, r4, s1, s2, s3, s4, s5, s6, w1, t1, t2, t3, t4, t5, Int.toNat_zero]; (refine RunTo.mk (by first | exact trivial | omega | (simp; done) | (simp; omega)) (hK9 _ _ ?_)); clear hK9 K9))
      refine WpL.call rfl (guardA_sound (P := Tryd.prog) rfl) (CallA.shut rfl rfl (by kernel_rfl) (by first | exact ALes.refl _ | (simp only [List.cons_append, List.nil_append, List.map_nil]; exact ALes.refl _)) (by first | rfl | (simp [shuts, A.shut, C.shut]; done)) (hsame) ?_)
      ((refine WpL.go _ rfl fun K9 hK9 => ?_); simp only [zz, zy, constA, runL, guardA, srcA, chunk, nilV, liveB, capsA, bndA, aop, qop, rdA, rdAs, args0, find, A.cs, St.put, fits, loadA, partC, fieldA, indexA, lenB, binV, binI, binS, unV, over, partsA, fillA, Value.oneCell', seval, w6]; (refine RunTo.mk (by first | exact trivial | omega | (simp; done) | (simp; omega)) (hK9 _ _ ?_)); clear hK9 K9); repeat (first | with_reducible (first | refine roundsA_s ?_ | refine thenA_n ?_ | refine thenA_r ?_ | refine thenA_e ?_ | refine inBlockA_n ?_ | refine inBlockA_r ?_ | refine inBlockA_s ?_ | refine inBlockA_o rfl ?_ | refine WpA.seq ?_ | refine WpA.block ?_ | refine WpA.skip ?_ | refine WpA.ret ?_ | refine WpA.exit ?_ | refine WpL.nil ?_) | ((refine WpA.cond_t ?_ ?_); focus (simp only [find, reduceIte, Nat.reduceEqDiff]; done)) | ((refine WpA.cond_f ?_ ?_); focus (simp only [find, reduceIte, Nat.reduceEqDiff]; done)) | ((with_reducible refine WpA.region ?_); (refine WpL.go _ rfl fun K9 hK9 => ?_); simp only [zz, zy, constA, runL, guardA, srcA, chunk, nilV, liveB, capsA, bndA, aop, qop, rdA, rdAs, args0, find, A.cs, St.put, fits, loadA, partC, fieldA, indexA, lenB, binV, binI, binS, unV, over, partsA, fillA, Value.oneCell', seval, w6]; (refine RunTo.mk (by first | exact trivial | omega | (simp; done) | (simp; omega)) (hK9 _ _ ?_)); clear hK9 K9))
      refine WpL.call rfl (guardA_sound (P := Tryd.prog) rfl) (CallA.shut rfl rfl (by kernel_rfl) (by first | exact ALes.refl _ | (simp only [List.cons_append, List.nil_append, List.map_nil]; exact ALes.refl _)) (by first | rfl | (simp [shuts, A.shut, C.shut]; done)) (awake_pure) ?_)
      ((refine WpL.go _ rfl fun K9 hK9 => ?_); simp only [zz, zy, constA, runL, guardA, srcA, chunk, nilV, liveB, capsA, bndA, aop, qop, rdA, rdAs, args0, find, A.cs, St.put, fits, loadA, partC, fieldA, indexA, lenB, binV, binI, binS, unV, over, partsA, fillA, Value.oneCell', seval, w6]; (refine RunTo.mk (by first | exact trivial | omega | (simp; done) | (simp; omega)) (hK9 _ _ ?_)); clear hK9 K9); repeat (first | with_reducible (first | refine roundsA_s ?_ | refine thenA_n ?_ | refine thenA_r ?_ | refine thenA_e ?_ | refine inBlockA_n ?_ | refine inBlockA_r ?_ | refine inBlockA_s ?_ | refine inBlockA_o rfl ?_ | refine WpA.seq ?_ | refine WpA.block ?_ | refine WpA.skip ?_ | refine WpA.ret ?_ | refine WpA.exit ?_ | refine WpL.nil ?_) | ((refine WpA.cond_t ?_ ?_); focus (simp only [find, reduceIte, Nat.reduceEqDiff]; done)) | ((refine WpA.cond_f ?_ ?_); focus (simp only [find, reduceIte, Nat.reduceEqDiff]; done)) | ((with_reducible refine WpA.region ?_); (refine WpL.go _ rfl fun K9 hK9 => ?_); simp only [zz, zy, constA, runL, guardA, srcA, chunk, nilV, liveB, capsA, bndA, aop, qop, rdA, rdAs, args0, find, A.cs, St.put, fits, loadA, partC, fieldA, indexA, lenB, binV, binI, binS, unV, over, partsA, fillA, Value.oneCell', seval, w6]; (refine RunTo.mk (by first | exact trivial | omega | (simp; done) | (simp; omega)) (hK9 _ _ ?_)); clear hK9 K9))
      refine ⟨by first | exact .inl rfl | exact .inr rfl, _, _, _, _, (by simp only [resA, find, reduceIte, Nat.reduceEqDiff, loadA, partC, List.getElem?_cons_zero, List.getElem?_cons_succ, List.drop_zero, List.drop_succ_cons, List.take_succ_cons, List.take_zero, List.length_cons, List.length_nil, w6]; rfl), (by first | exact trivial | (simp; done)), (by simp only [tupA, viewA, viewC, viewCs, viewAs, List.getElem?_cons_zero, List.getElem?_cons_succ]; rfl), (by first | exact trivial | (simp; done)), _, ALe.refl _, ?_⟩
      rfl
end Go.Proofs.YtpacdmgnpadleaaDoor
end
