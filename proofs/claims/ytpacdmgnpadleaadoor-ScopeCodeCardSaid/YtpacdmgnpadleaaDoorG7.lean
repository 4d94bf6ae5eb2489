/-
 Laid together: Emit19, PutA, Put19, May19, Code19.
-/
import Derived.Test.YtpacdmgnpadleaaDoorG6
import Derived.Test.YtpacdmgnpadleaaDoorG5
import Derived.Test.YtpacdmgnpadleaaDoorMay
section
namespace Go.Proofs.YtpacdmgnpadleaaDoor
open Go Go.RowKit
set_option linter.unusedSimpArgs false
set_option linter.unusedVariables false
mutual
def K.size : K → Nat
 | .mk _ _ _ _ _ l => K.sizes l + 1
def K.sizes : List K → Nat
 | [] => 0
 | c :: l => c.size + K.sizes l
end
theorem K.size_pos (c : K) : 0 < c.size := by cases c; rw [K.size]; omega
theorem K.size_eq (c : K) : c.size = K.sizes c.l + 1 := by cases c; rw [K.size]; rfl
theorem K.sizes_append : ∀ a b : List K, K.sizes (a ++ b) = K.sizes a + K.sizes b
 | [], b => by simp [K.sizes]
 | c :: a, b => by simp [K.sizes, K.sizes_append a b]; omega
theorem K.sizes_take {l : List K} {i : Nat} (h : i < l.length) : K.sizes (l.take (i + 1)) = K.sizes (l.take i) + l[i].size := by
 rw [List.take_succ_eq_append_getElem h, K.sizes_append]; simp [K.sizes]
theorem K.sizes_take_le (l : List K) (i : Nat) : K.sizes (l.take i) ≤ K.sizes l := by
 conv => rhs; rw [← List.take_append_drop i l, K.sizes_append]
 omega
theorem K.sizes_take_lt {l : List K} {i : Nat} (h : i < l.length) : K.sizes (l.take i) + l[i].size ≤ K.sizes l := by
 rw [← K.sizes_take h]; exact K.sizes_take_le _ _
def ats : List K → Nat → List Int
 | [], _ => []
 | x :: l, n => (n : Int) :: ats l (n + x.size)
theorem ats_append : ∀ (a b : List K) (n : Nat), ats (a ++ b) n = ats a n ++ ats b (n + K.sizes a)
 | [], b, n => by simp [ats, K.sizes]
 | x :: a, b, n => by simp [ats, K.sizes, ats_append a b, Nat.add_assoc]
theorem ats_take {l : List K} {i : Nat} (h : i < l.length) (n : Nat) : ats (l.take (i + 1)) n = ats (l.take i) n ++ [((n + K.sizes (l.take i) : Nat) : Int)] := by
 rw [List.take_succ_eq_append_getElem h, ats_append]; simp [ats]
theorem ats_len : ∀ (l : List K) (n : Nat), (ats l n).length = l.length
 | [], _ => rfl
 | x :: l, n => by simp [ats, ats_len l]
noncomputable def scIn (x : K) (sc : List (List ByteArray)) : List (List ByteArray) := if x.k = 6 then sc ++ [allN x] else sc
mutual
noncomputable def emit : K → Cd → List (List ByteArray) → Nat → List Nd × Cd
 | .mk k name rest params d l, c, sc, n =>
  let t := nodeN c (.mk k name rest params d l) sc
  let r := emits l t.2 (scIn (.mk k name rest params d l) sc) (n + 1)
  (⟨t.1.1, t.1.2.1, t.1.2.2, ats l (n + 1)⟩ :: r.1, r.2)
noncomputable def emits : List K → Cd → List (List ByteArray) → Nat → List Nd × Cd
 | [], c, _, _ => ([], c)
 | x :: l, c, sc, n =>
  let r := emit x c sc n
  let q := emits l r.2 sc (n + x.size)
  (r.1 ++ q.1, q.2)
end
theorem emit_eq (x : K) (c : Cd) (sc : List (List ByteArray)) (n : Nat) : emit x c sc n = (⟨(nodeN c x sc).1.1, (nodeN c x sc).1.2.1, (nodeN c x sc).1.2.2, ats x.l (n + 1)⟩ :: (emits x.l (nodeN c x sc).2 (scIn x sc) (n + 1)).1, (emits x.l (nodeN c x sc).2 (scIn x sc) (n + 1)).2) := by
 cases x; rw [emit]; rfl
mutual
theorem emit_len : ∀ (x : K) (c : Cd) (sc : List (List ByteArray)) (n : Nat), (emit x c sc n).1.length = x.size
 | .mk k name rest params d l, c, sc, n => by rw [emit_eq, K.size_eq]; simp only [List.length_cons]; rw [emits_len]
theorem emits_len : ∀ (l : List K) (c : Cd) (sc : List (List ByteArray)) (n : Nat), (emits l c sc n).1.length = K.sizes l
 | [], c, sc, n => by rw [emits, K.sizes]; rfl
 | x :: l, c, sc, n => by rw [emits, K.sizes]; simp only [List.length_append]; rw [emit_len, emits_len]
end
theorem emits_append : ∀ (a b : List K) (c : Cd) (sc : List (List ByteArray)) (n : Nat), emits (a ++ b) c sc n = ((emits a c sc n).1 ++ (emits b (emits a c sc n).2 sc (n + K.sizes a)).1, (emits b (emits a c sc n).2 sc (n + K.sizes a)).2)
 | [], b, c, sc, n => by rw [List.nil_append, emits, K.sizes]; rfl
 | x :: a, b, c, sc, n => by
  rw [List.cons_append, emits, emits, K.sizes]
  simp only
  rw [emits_append a b]
  simp only [List.append_assoc, Nat.add_assoc]
theorem emits_one (x : K) (c : Cd) (sc : List (List ByteArray)) (n : Nat) : emits [x] c sc n = emit x c sc n := by
 rw [emits, emits]; simp
def Cd.with (c : Cd) (N : List Nd) (T : List Int) : Cd := { c with nodes := N, tops := T }
theorem nodeN_with (c : Cd) (x : K) (sc : List (List ByteArray)) (N : List Nd) (T : List Int) : nodeN (c.with N T) x sc = ((nodeN c x sc).1, (nodeN c x sc).2.with N T) := by
 have hv : ∀ s sc lo gl, varN (c.with N T) sc s lo gl = ((varN c sc s lo gl).1, (varN c sc s lo gl).2.with N T) := fun s sc lo gl => by
  unfold varN
  cases placeN s sc.reverse with
  | none => rfl
  | some ok => rfl
 unfold nodeN
 simp only [hv]
 repeat' split
 all_goals rfl
mutual
theorem emit_with : ∀ (x : K) (c : Cd) (sc : List (List ByteArray)) (n : Nat) (N : List Nd) (T : List Int), emit x (c.with N T) sc n = ((emit x c sc n).1, (emit x c sc n).2.with N T)
 | .mk k name rest params d l, c, sc, n, N, T => by
  rw [emit_eq, emit_eq, nodeN_with]
  simp only
  rw [emits_with]
theorem emits_with : ∀ (l : List K) (c : Cd) (sc : List (List ByteArray)) (n : Nat) (N : List Nd) (T : List Int), emits l (c.with N T) sc n = ((emits l c sc n).1, (emits l c sc n).2.with N T)
 | [], c, sc, n, N, T => by rw [emits, emits]
 | x :: l, c, sc, n, N, T => by
  rw [emits, emits]
  simp only
  rw [emit_with x]
  simp only
  rw [emits_with l]
end
theorem nodeN_keeps (c : Cd) (x : K) (sc : List (List ByteArray)) : (nodeN c x sc).2.nodes = c.nodes ∧ (nodeN c x sc).2.tops = c.tops := by
 have h := nodeN_with c x sc c.nodes c.tops
 have e : c.with c.nodes c.tops = c := rfl
 rw [e] at h
 have h2 := congrArg Prod.snd h
 simp only at h2
 rw [h2]
 exact ⟨rfl, rfl⟩
noncomputable def putN (c : Cd) (x : K) (sc : List (List ByteArray)) : Cd := (emit x c sc c.nodes.length).2.with (c.nodes ++ (emit x c sc c.nodes.length).1) c.tops
noncomputable def stepC (c : Cd) (x : K) (sc : List (List ByteArray)) (nd : Nd) (i : Nat) : Cd := (emits (x.l.take i) (nodeN c x sc).2 (scIn x sc) (c.nodes.length + 1)).2.with (c.nodes ++ nd :: (emits (x.l.take i) (nodeN c x sc).2 (scIn x sc) (c.nodes.length + 1)).1) c.tops
theorem stepC_len (c : Cd) (x : K) (sc : List (List ByteArray)) (nd : Nd) (i : Nat) : (stepC c x sc nd i).nodes.length = c.nodes.length + 1 + K.sizes (x.l.take i) := by
 simp only [stepC, Cd.with, List.length_append, List.length_cons]
 rw [emits_len]; omega
theorem stepC_zero (c : Cd) (x : K) (sc : List (List ByteArray)) (nd : Nd) : stepC c x sc nd 0 = (nodeN c x sc).2.with (c.nodes ++ [nd]) c.tops := by
 simp only [stepC, List.take_zero, emits]
theorem stepC_succ (c : Cd) (x : K) (sc : List (List ByteArray)) (nd : Nd) {i : Nat} (h : i < x.l.length) : putN (stepC c x sc nd i) x.l[i] (scIn x sc) = stepC c x sc nd (i + 1) := by
 unfold putN
 rw [stepC_len]
 conv => rhs; unfold stepC
 rw [List.take_succ_eq_append_getElem h, emits_append, emits_one]
 unfold stepC
 rw [emit_with]
 simp only [Cd.with, List.append_assoc, List.cons_append]
theorem stepC_all (c : Cd) (x : K) (sc : List (List ByteArray)) (nd : Nd) : putN c x sc = (stepC c x sc nd x.l.length).with ((stepC c x sc nd x.l.length).nodes.set c.nodes.length ⟨(nodeN c x sc).1.1, (nodeN c x sc).1.2.1, (nodeN c x sc).1.2.2, ats x.l (c.nodes.length + 1)⟩) c.tops := by
 unfold putN stepC
 rw [emit_eq, List.take_length]
 simp only [Cd.with]
 rw [List.set_append_right _ _ (Nat.le_refl _), Nat.sub_self, List.set_cons_zero]
theorem putN_len (c : Cd) (x : K) (sc : List (List ByteArray)) : (putN c x sc).nodes.length = c.nodes.length + x.size := by
 simp only [putN, Cd.with, List.length_append]; rw [emit_len]
def Cd.most (c : Cd) : Nat := max c.consts.length (max c.globals.length c.prims.length)
theorem addN_len (l : List ByteArray) (s : ByteArray) : (addN l s).length ≤ l.length + 1 := by
 unfold addN; split <;> simp
theorem varN_most (c : Cd) (sc : List (List ByteArray)) (s : ByteArray) (lo gl : Int) : (varN c sc s lo gl).2.most ≤ c.most + 1 := by
 unfold varN
 split
 ·exact Nat.le_succ _
 ·have := addN_len c.globals s
  simp only [Cd.most]; omega
theorem nodeN_most (c : Cd) (x : K) (sc : List (List ByteArray)) : (nodeN c x sc).2.most ≤ c.most + 1 := by
 have h1 := fun sc lo gl => varN_most c sc x.name lo gl
 have h2 := addN_len c.prims x.name
 unfold nodeN
 repeat' split
 all_goals first | exact h1 _ _ _ | (simp only [Cd.most, List.length_append, List.length_cons, List.length_nil]; omega) | exact Nat.le_succ _
mutual
theorem emit_most : ∀ (x : K) (c : Cd) (sc : List (List ByteArray)) (n : Nat), (emit x c sc n).2.most ≤ c.most + x.size
 | .mk k name rest params d l, c, sc, n => by
  rw [emit_eq, K.size_eq]
  have h1 := nodeN_most c (.mk k name rest params d l) sc
  have h2 := emits_most l (nodeN c (.mk k name rest params d l) sc).2 (scIn (.mk k name rest params d l) sc) (n + 1)
  show (emits l _ _ _).2.most ≤ c.most + (K.sizes l + 1)
  omega
theorem emits_most : ∀ (l : List K) (c : Cd) (sc : List (List ByteArray)) (n : Nat), (emits l c sc n).2.most ≤ c.most + K.sizes l
 | [], c, sc, n => by rw [emits, K.sizes]; exact Nat.le_refl _
 | x :: l, c, sc, n => by
  rw [emits, K.sizes]
  have h1 := emit_most x c sc n
  have h2 := emits_most l (emit x c sc n).2 sc (n + x.size)
  simp only
  omega
end
theorem with_most (c : Cd) (N : List Nd) (T : List Int) : (c.with N T).most = c.most := rfl
theorem stepC_most (c : Cd) (x : K) (sc : List (List ByteArray)) (nd : Nd) (i : Nat) : (stepC c x sc nd i).most ≤ c.most + 1 + K.sizes (x.l.take i) := by
 unfold stepC
 rw [with_most]
 have h1 := nodeN_most c x sc
 have h2 := emits_most (x.l.take i) (nodeN c x sc).2 (scIn x sc) (c.nodes.length + 1)
 omega
theorem putN_most (c : Cd) (x : K) (sc : List (List ByteArray)) : (putN c x sc).most ≤ c.most + x.size := by
 unfold putN
 rw [with_most]
 exact emit_most _ _ _ _
mutual
def K.Pk : K → Prop
 | .mk k _ _ params d l => (1 ≤ k ∧ k ≤ 10) ∧ params.length ≤ 1000 ∧ d.Ok ∧ l.length ≤ 1000000000 ∧ K.Pks l
def K.Pks : List K → Prop
 | [] => True
 | c :: l => c.Pk ∧ K.Pks l
end
theorem K.Pks.get : ∀ {l : List K}, K.Pks l → ∀ i (h : i < l.length), l[i].Pk
 | c :: l, h, 0, _ => h.1
 | c :: l, h, i + 1, hi => K.Pks.get (l := l) h.2 i (by simpa using hi)
theorem K.Pk.get {c : K} (h : c.Pk) (i : Nat) (hi : i < c.l.length) : c.l[i].Pk := by cases c; exact h.2.2.2.2.get i hi
theorem K.Pk.kind {c : K} (h : c.Pk) : 1 ≤ c.k ∧ c.k ≤ 10 := by cases c; exact h.1
theorem K.Pk.par {c : K} (h : c.Pk) : c.params.length ≤ 1000 := by cases c; exact h.2.1
theorem K.Pk.d {c : K} (h : c.Pk) : c.d.Ok := by cases c; exact h.2.2.1
theorem K.Pk.len {c : K} (h : c.Pk) : c.l.length ≤ 1000000000 := by cases c; exact h.2.2.2.1
theorem allN_len (c : K) : (allN c).length ≤ c.params.length + 1 := by unfold allN; split <;> simp
end Go.Proofs.YtpacdmgnpadleaaDoor
end
section
namespace Go.Proofs.YtpacdmgnpadleaaDoor
open Go Go.RowKit Go.Lib
set_option linter.unusedSimpArgs false
set_option linter.unusedVariables false
set_option maxHeartbeats 4000000
set_option maxRecDepth 100000
theorem node_fn (p : Nat) (S : List (Option Ob)) (c : Cd) (x : K) (sc : List (List ByteArray)) {cN cC cG cP cT : C} (hI : CoderIn p S c cN cC cG cP cT) (hx : x.Pk) (hm : c.most ≤ 1000000000) (hlen : sc.length ≤ 1000000000) (hll : ∀ l ∈ sc, l.length ≤ 1000000000) : Fn Tryd.prog 47 [.one (.ptr p 1 0 0), .agg x.cc, .one (.sl 1 (scC sc))] S (NodeR p S cN cT (nodeN c x sc)) := by
 have hk := hx.kind
 have hd := hx.d
 have h1 : c.consts.length ≤ 1000000000 := by unfold Cd.most at hm; omega
 have h2 : c.globals.length ≤ 1000000000 := by unfold Cd.most at hm; omega
 have h3 : c.prims.length ≤ 1000000000 := by unfold Cd.most at hm; omega
 obtain ⟨k, name, rest, params, d, l⟩ := x
 simp only [K.k, K.d] at hk hd
 have : k = 1 ∨ k = 2 ∨ k = 3 ∨ k = 4 ∨ k = 5 ∨ k = 6 ∨ k = 7 ∨ k = 8 ∨ k = 9 ∨ k = 10 := by omega
 rcases this with rfl | rfl | rfl | rfl | rfl | rfl | rfl | rfl | rfl | rfl
 ·exact node1 p S c name rest params d l sc hI hd h1
 ·exact node2 p S c name rest params d l sc hI h2 hlen hll
 ·exact node3 p S c name rest params d l sc hI h2 hlen hll
 ·exact node4 p S c name rest params d l sc hI h2
 ·exact node5 p S c name rest params d l sc hI
 ·exact node6 p S c name rest params d l sc hI
 ·exact node7 p S c name rest params d l sc hI
 ·exact node8 p S c name rest params d l sc hI
 ·exact node9 p S c name rest params d l sc hI
 ·exact node10 p S c name rest params d l sc hI h3
theorem scC_app (a b : List (List ByteArray)) : scC (a ++ b) = scC a ++ scC b := by simp [scC]
theorem scC_shut (l : List (List ByteArray)) : ∀ e ∈ scC l, ∀ c ∈ e, C.shut c = true := fun e he c hc => by
 obtain ⟨s, _, rfl⟩ := List.mem_map.1 he
 simp at hc; subst hc
 simp [C.shut]
theorem ob_scC_ren (f : Nat → Nat) (t : TypeId) (w : Nat) (l : List (List ByteArray)) : Ob.ren f ⟨t, w, scC l⟩ = ⟨t, w, scC l⟩ := by simp [Ob.ren, scC, C.rens, C.ren]
theorem intC_shut (l : List Int) : ∀ e ∈ intC l, ∀ c ∈ e, C.shut c = true := fun e he c hc => by
 obtain ⟨s, _, rfl⟩ := List.mem_map.1 he
 simp at hc; subst hc; rfl
theorem intC_len (l : List Int) : (intC l).length = l.length := by simp [intC]
theorem intC_app (a b : List Int) : intC (a ++ b) = intC a ++ intC b := by simp [intC]
def scX (sc : List (List ByteArray)) : C := if sc = [] then .v (.slice none 0 0) else .sl 1 (scC sc)
theorem scX_le (sc : List (List ByteArray)) : ALe (.one (scX sc)) (.one (.sl 1 (scC sc))) := by
 unfold scX
 split
 ·rename_i h; subst h; exact ALe.nil
 ·exact ALe.refl _
theorem WpL.nilV {P : Program} {nt : Cf} {ops : Array Oper} {Q : St → Prop} {st : St} {rest : List Oper} {d : Option Tmp} {t ty t' e : TypeId} {x : Operand} {pos : String} {aft : Array Edge} (hd : fits nt d = true)
  (hx : rdA st.e x = some (.one (.v (.slice none 0 0)))) (ht : P.underlying t = some (.slice e)) (h : WpL P nt ops Q rest (st.put d (.one (.v (.bool true))))) : WpL P nt ops Q (⟨d, .binOp .eql t x (.const (.slice none 0 0)) t', ty, pos, aft, none⟩ :: rest) st := fun H w0 S0 m0 m a w hs Q' hQ => by
 have h1 := hs.rd hx
 simp only [Ca, Cc] at h1
 have hu := h1.1
 have hnext := h H w0 S0 m0 m _ w (hs.put hd (caV rfl)) Q' hQ
 unfold wpList
 rw [if_pos (by rfl)]
 refine .inl ?_
 unfold Oper.wp
 have hrun : (execOp a.eval ⟨d, .binOp .eql t x (.const (.slice none 0 0)) t', ty, pos, aft, none⟩).run P w = .ok (.value (.bool true)) w := by
  have e2 : a.eval (.const (.slice none 0 0)) = .slice none 0 0 := rfl
  simp only [execOp, hu, e2, Sem.run_bind, run_eqGuard (P := P) (w := w) _ t x (.const (.slice none 0 0)) (.slice none 0 0) (.slice none 0 0) (by simp) (by simp), Result.andThen_ok, binOp, run_eql_sl_nil ht, Sem.run_pure, Option.isNone_none]
 rw [hrun]
 exact hnext
theorem cloneNil : Fn Tryd.prog 48 [.one (.v (.slice none 0 0))] [] (fun r s => r = .one (.v (.slice none 0 0)) ∧ s = []) := by
 refine Fn.introT Tryd.func48 rfl Tryd.ntmps48 Tryd.results48 (by simp only [List.length_cons, List.length_nil]; decide) ?_
 repeat (first | (apply fw; (with_reducible constructor) <;> rfl) | (apply WpA.cd; constructor) | ((first | with_reducible refine WpA.go _ rfl fun Y y => ?_ | apply RunTo.id); simp only [zb, seval, w48]; refine RunTo.fn y (by first | (simp; done) | omega | (simp; omega)) ?_; clear y Y))
 refine WpL.nilV rfl rfl Tryd.underlying76 ?_
 (refine WpL.go _ rfl fun Y y => ?_); repeat (first | (apply fw; (with_reducible constructor) <;> rfl) | (apply WpA.cd; constructor) | ((first | with_reducible refine WpA.go _ rfl fun Y y => ?_ | apply RunTo.id); simp only [zb, seval, w48]; refine RunTo.fn y (by first | (simp; done) | omega | (simp; omega)) ?_; clear y Y))
 exact ⟨.inl rfl, _, _, _, _, (by simp only [zb, seval]; rfl), trivial, Le.refl _ _, rfl, rfl⟩
theorem cloneSc (sc : List (List ByteArray)) (hne : sc ≠ []) (hlen : sc.length ≤ 1000000000) : Fn Tryd.prog 48 [.one (.sl 1 (scC sc))] [] (fun r s => r = .one (.ms 0 sc.length) ∧ s = [some ⟨25, 1, scC sc⟩]) := by
 have hl := scC_len sc
 refine Fn.introT Tryd.func48 rfl Tryd.ntmps48 Tryd.results48 (by simp only [List.length_cons, List.length_nil]; decide) ?_
 repeat (first | (apply fw; (with_reducible constructor) <;> rfl) | (apply WpA.cd; constructor) | ((first | with_reducible refine WpA.go _ rfl fun Y y => ?_ | apply RunTo.id); simp only [zb, seval, w48]; refine RunTo.fn y (by first | (simp; done) | omega | (simp; omega)) ?_; clear y Y))
 refine WpL.nilSl rfl rfl Tryd.underlying76 fun b hb => ?_
 have hb' := hb (fun e => hne (by simpa [scC] using e))
 subst hb'
 (refine WpL.go _ rfl fun Y y => ?_); repeat (first | (apply fw; (with_reducible constructor) <;> rfl) | (apply WpA.cd; constructor) | ((first | with_reducible refine WpA.go _ rfl fun Y y => ?_ | apply RunTo.id); simp only [zb, seval, w48, hl]; refine RunTo.fn y (by first | (simp; done) | omega | (simp; omega)) ?_; clear y Y))
 refine ⟨.inl rfl, _, _, _, _, (by simp only [zb, seval]; rfl), trivial, Le.refl _ _, ?_, ?_⟩
 ·simp [tupA, hl]
 ·simp
theorem clone_op (S : List (Option Ob)) (sc : List (List ByteArray)) (hlen : sc.length ≤ 1000000000) : ∃ S1 X', At 25 1 S1 X' (scC sc) ∧ S.length ≤ S1.length ∧ (∀ (j : Nat) (o : Option Ob), S[j]? = some o → S1[j]? = some o) ∧ (∀ j n, X' = .ms j n → S.length ≤ j) ∧
  ∀ {nt : Cf} {ds : List (Option Tmp)} {d : Option Tmp} {ty : TypeId} {pos : String} {aft : Array Edge} {g : Option (Nat × Bool)} {e : List (Nat × A)} {x1 : Operand} {tys : Array TypeId}, guardA ds e g = some true → rdA e x1 = some (.one (scX sc)) →
   OpS Tryd.prog nt ds ⟨d, .call { callee := .value (.func 48), args := #[x1], argTypes := tys }, ty, pos, aft, g⟩ e S (.one X') S1 := by
 by_cases h : sc = []
 ·subst h
  refine ⟨S, .v (.slice none 0 0), At.nil _ _ _, Nat.le_refl _, fun _ _ h => h, (fun j n e => by cases e), ?_⟩
  intro nt ds d ty pos aft g e x1 tys hg h1
  have := OpS.hand (P := Tryd.prog) (nt := nt) (d := d) (ty := ty) (pos := pos) (aft := aft) (tys := tys) (s := S) (s1 := []) (ρ := []) (fo := .func 48) (args := [x1]) (caps := []) (xs := [.one (.v (.slice none 0 0))]) hg rfl (by simp only [rdAs, h1]; rfl) (by kernel_rfl) rfl (Handed.of (by simp) rfl) cloneNil
  have e1 : back S [] [] = S := by simp [back, mix, putAll]
  rw [e1] at this
  exact this
 ·refine ⟨S ++ [some ⟨25, 1, scC sc⟩], .ms S.length sc.length, .inr ⟨by simpa [scC] using h, S.length, by rw [scC_len], by simp⟩, by simp, fun j o h => up_app h, (fun j n e => by cases e; exact Nat.le_refl _), ?_⟩
  intro nt ds d ty pos aft g e x1 tys hg h1
  have hX : scX sc = .sl 1 (scC sc) := if_neg h
  rw [hX] at h1
  have := OpS.hand (P := Tryd.prog) (nt := nt) (d := d) (ty := ty) (pos := pos) (aft := aft) (tys := tys) (s := S) (s1 := []) (ρ := []) (fo := .func 48) (args := [x1]) (caps := []) (xs := [.one (.sl 1 (scC sc))]) hg rfl (by simp only [rdAs, h1]) (by kernel_rfl) (by simp [A.rens, A.ren, C.ren]) (Handed.of (by simp) rfl) (cloneSc sc h hlen)
  have e1 : back S [] [some ⟨25, 1, scC sc⟩] = S ++ [some ⟨25, 1, scC sc⟩] := by
   simp only [back, mix, putAll, List.map_cons, List.map_nil, List.length_nil, List.drop_zero, Option.map_some, ob_scC_ren]
  have e2 : A.ren (rn [] S.length) (.one (.ms 0 sc.length)) = .one (.ms S.length sc.length) := by
   simp [A.ren, C.ren, rn]
  rw [e1, e2] at this
  exact this
theorem CoderIn.keep {p : Nat} {S S' : List (Option Ob)} {c : Cd} {cN cC cG cP cT : C} (h : CoderIn p S c cN cC cG cP cT) (hs : ∀ (j : Nat) (ob : Ob), S[j]? = some (some ob) → (j = p ∨ (∃ n, cN = .ms j n) ∨ (∃ n, cC = .ms j n) ∨ (∃ n, cG = .ms j n) ∨ (∃ n, cP = .ms j n) ∨ (∃ n, cT = .ms j n)) → S'[j]? = some (some ob)) : CoderIn p S' c cN cC cG cP cT :=
 ⟨hs p _ h.1 (.inl rfl), h.2.1.stay fun j hj e => hs j _ hj (.inr (.inl ⟨_, e⟩)), h.2.2.1.stay fun j hj e => hs j _ hj (.inr (.inr (.inl ⟨_, e⟩))), h.2.2.2.1.stay fun j hj e => hs j _ hj (.inr (.inr (.inr (.inl ⟨_, e⟩)))), h.2.2.2.2.1.stay fun j hj e => hs j _ hj (.inr (.inr (.inr (.inr (.inl ⟨_, e⟩))))), h.2.2.2.2.2.1.stay fun j hj e => hs j _ hj (.inr (.inr (.inr (.inr (.inr ⟨_, e⟩))))), h.2.2.2.2.2.2⟩
theorem CoderIn.tys {p : Nat} {S : List (Option Ob)} {c : Cd} {cN cC cG cP cT : C} (h : CoderIn p S c cN cC cG cP cT) {j : Nat} {ob : Ob} (hj : S[j]? = some (some ob)) (hc : j = p ∨ (∃ n, cN = .ms j n) ∨ (∃ n, cC = .ms j n) ∨ (∃ n, cG = .ms j n) ∨ (∃ n, cP = .ms j n) ∨ (∃ n, cT = .ms j n)) : ob.ty = 64 ∨ ob.ty = 55 ∨ ob.ty = 31 ∨ ob.ty = 9 ∨ ob.ty = 3 := by
 rcases hc with rfl | ⟨n, e⟩ | ⟨n, e⟩ | ⟨n, e⟩ | ⟨n, e⟩ | ⟨n, e⟩
 ·have := h.1; rw [hj] at this; cases this; exact .inl rfl
 ·have := h.2.1.ty e; rw [hj] at this; cases this; exact .inr (.inl rfl)
 ·have := h.2.2.1.ty e; rw [hj] at this; cases this; exact .inr (.inr (.inl rfl))
 ·have := h.2.2.2.1.ty e; rw [hj] at this; cases this; exact .inr (.inr (.inr (.inl rfl)))
 ·have := h.2.2.2.2.1.ty e; rw [hj] at this; cases this; exact .inr (.inr (.inr (.inl rfl)))
 ·have := h.2.2.2.2.2.1.ty e; rw [hj] at this; cases this; exact .inr (.inr (.inr (.inr rfl)))
theorem CoderIn.newN {p : Nat} {S S1 : List (Option Ob)} {c : Cd} {cN cC cG cP cT cN' : C} {N' : List Nd} (hI : CoderIn p S c cN cC cG cP cT) (hA : At 55 4 S1 cN' (N'.map Nd.row)) (hl : S.length ≤ S1.length) (hfr : ∀ (j : Nat) (o : Option Ob), S[j]? = some o → (∀ n, cN ≠ .ms j n) → S1[j]? = some o) :
  CoderIn p (S1.set p (some ⟨64, 5, [[cN', cC, cG, cP, cT]]⟩)) { c with nodes := N' } cN' cC cG cP cT ∧ Frm p [55] S (S1.set p (some ⟨64, 5, [[cN', cC, cG, cP, cT]]⟩)) := by
 have hpS : p < S.length := (List.getElem?_eq_some_iff.1 hI.1).1
 have hP := hI.2.1
 have g1 := hfr p _ hI.1 (hP.apart hI.1 (by show (64 : Nat) ≠ _; decide))
 have stays : ∀ (j : Nat) (ob : Ob) (a : Option Ob), S[j]? = some (some ob) → j ≠ p → (∀ n, cN ≠ .ms j n) → (S1.set p a)[j]? = some (some ob) := fun j ob a h1 h2 h3 => by
  rw [List.getElem?_set_ne (fun e => h2 e.symm)]
  exact hfr j _ h1 h3
 have np : ∀ {j : Nat} {ob : Ob}, S[j]? = some (some ob) → ob.ty ≠ 64 → j ≠ p := fun h1 h2 e => by subst e; rw [hI.1] at h1; cases h1; exact h2 rfl
 refine ⟨⟨List.getElem?_set_self (by omega), hA.stay fun j hj _ => ?_, hI.2.2.1.stay fun j hj _ => stays j _ _ hj (np hj (by show (31 : Nat) ≠ _; decide)) (hP.apart hj (by show (31 : Nat) ≠ _; decide)), hI.2.2.2.1.stay fun j hj e => stays j _ _ hj (np hj (by show (9 : Nat) ≠ _; decide)) (hP.apart hj (by show (9 : Nat) ≠ _; decide)), hI.2.2.2.2.1.stay fun j hj e => stays j _ _ hj (np hj (by show (9 : Nat) ≠ _; decide)) (hP.apart hj (by show (9 : Nat) ≠ _; decide)), hI.2.2.2.2.2.1.stay fun j hj _ => stays j _ _ hj (np hj (by show (3 : Nat) ≠ _; decide)) (hP.apart hj (by show (3 : Nat) ≠ _; decide)), hI.2.2.2.2.2.2⟩, by simp; omega, fun j ob h1 h2 h3 => stays j _ _ h1 h2 (hP.apart h1 (fun e => h3 (by simp [e])))⟩
 have n2 : p ≠ j := fun e => by subst e; rw [g1] at hj; cases hj
 rw [List.getElem?_set_ne n2]; exact hj
def PutR (p : Nat) (S : List (Option Ob)) (c : Cd) (x : K) (sc : List (List ByteArray)) (cT : C) (r : A) (S' : List (Option Ob)) : Prop := r = .one (.v (.int .i64 c.nodes.length)) ∧ (∃ cN' cC' cG' cP', CoderIn p S' (putN c x sc) cN' cC' cG' cP' cT) ∧ Frm p [9, 31, 55] S S'
def coreOb (x : K) : Ob := ⟨33, 11, [[.v (.int .i64 x.k), .v (.string x.name), .v (.string x.rest), .sl 1 (strC x.params), .v (.int .i64 x.d.k), .v (.int .i32 x.d.c), .v (.bool x.d.neg), .sl 1 (x.d.mag.map fun n => [.v (.int .u32 n)]), .v (.string x.d.t), .sl 6 (x.d.l.map D.cc), .sl 11 (x.l.map K.cc)]]⟩
theorem FzR.last {S : List (Option Ob)} {z : Nat → Bool} {a b : List C} (h : FzCs S z a b) : ∀ l : List (List C), FzR S z (l ++ [a]) (l ++ [b])
 | [] => ⟨h, trivial⟩
 | r :: l => ⟨FzCs.same _ _ _, FzR.last h l⟩
def PutUpTo (n : Nat) : Prop := ∀ (x : K), x.ht ≤ n → x.Pk → ∀ (p : Nat) (S : List (Option Ob)) (c : Cd) (sc : List (List ByteArray)) (cN cC cG cP cT : C), CoderIn p S c cN cC cG cP cT → c.most + x.size ≤ 1000000000 → c.nodes.length + x.size ≤ 1000000000 → sc.length + x.ht ≤ 1000000000 → (∀ l ∈ sc, l.length ≤ 1000000000) → Fn Tryd.prog 29 [.one (.ptr p 1 0 0), .agg x.cc, .one (scX sc)] S (PutR p S c x sc cT)
def PutI (p : Nat) (S : List (Option Ob)) (c : Cd) (x : K) (sc : List (List ByteArray)) (nd : Nd) (cT : C) (n : Nat) (st : St) : Prop := ∃ (i : Nat) (S' : List (Option Ob)) (cN cC cG cP cL : C), n = x.l.length - i ∧ i ≤ x.l.length ∧ CoderIn p S' (stepC c x sc nd i) cN cC cG cP cT ∧ At 3 1 S' cL (intC (ats (x.l.take i) (c.nodes.length + 1))) ∧ (∀ j k, cL = .ms j k → S.length ≤ j) ∧ S'[S.length]? = some (some (coreOb x)) ∧ Frm p [9, 31, 55] S S' ∧
 st = ⟨[(46, .one (.v (.int .i64 i))), (45, .one (.v (.int .i64 x.l.length))), (44, .one (.sl 11 (x.l.map K.cc))), (9, .one cL), (0, .one (.ptr p 1 0 0)), (4, .one (.ptr S.length 1 0 0)), (2, .one (scX (scIn x sc))), (7, .one (.v (.int .i64 c.nodes.length)))], S'⟩
theorem CoderIn.setN {p : Nat} {S : List (Option Ob)} {c : Cd} {cC cG cP cT : C} {jN m : Nat} {N' : List Nd} (hI : CoderIn p S c (.ms jN m) cC cG cP cT) (hN : N'.length = c.nodes.length) : CoderIn p (S.set jN (some ⟨55, 4, N'.map Nd.row⟩)) { c with nodes := N' } (.ms jN m) cC cG cP cT := by
 have hty := hI.2.1.ty (j := jN) rfl
 have hp : jN ≠ p := fun e => by subst e; have := hI.1; rw [hty] at this; cases this
 have hs : ∀ {t : TypeId}, t ≠ 55 → ∀ ob, S[jN]? = some (some ob) → ob.ty ≠ t := fun ht ob ho e => by rw [hty] at ho; cases ho; exact ht e.symm
 refine ⟨by rw [List.getElem?_set_ne hp]; exact hI.1, ?_, hI.2.2.1.set (hs (by decide)), hI.2.2.2.1.set (hs (by decide)), hI.2.2.2.2.1.set (hs (by decide)), hI.2.2.2.2.2.1.set (hs (by decide)), hI.2.2.2.2.2.2⟩
 rcases hI.2.1 with ⟨-, h⟩ | ⟨hne, j, h, hj⟩
 ·cases h
 ·simp only [List.length_map] at h
  cases h
  refine .inr ⟨fun e => hne ?_, jN, by simp [hN], List.getElem?_set_self (List.getElem?_eq_some_iff.1 hty).1⟩
  have : N' = [] := by simpa using e
  rw [this] at hN
  have : c.nodes = [] := List.eq_nil_of_length_eq_zero hN.symm
  rw [this]; rfl
theorem CoderIn.offL {p : Nat} {S : List (Option Ob)} {c : Cd} {cN cC cG cP cT cL : C} {rows : List (List C)} (h : CoderIn p S c cN cC cG cP cT) (hL : At 3 1 S cL rows) (hT : ∀ j n m, cT = .ms j n → cL ≠ .ms j m) {j : Nat} {ob : Ob} (hj : S[j]? = some (some ob)) (hc : j = p ∨ (∃ n, cN = .ms j n) ∨ (∃ n, cC = .ms j n) ∨ (∃ n, cG = .ms j n) ∨ (∃ n, cP = .ms j n) ∨ (∃ n, cT = .ms j n)) (n : Nat) : cL ≠ .ms j n := fun e => by
 have hl := hL.ty e
 rcases hc with rfl | ⟨n, e⟩ | ⟨n, e⟩ | ⟨n, e⟩ | ⟨n, e⟩ | ⟨n, e2⟩
 ·have := h.1; rw [hl] at this; cases this
 ·have := h.2.1.ty e; rw [hl] at this; cases this
 ·have := h.2.2.1.ty e; rw [hl] at this; cases this
 ·have := h.2.2.2.1.ty e; rw [hl] at this; cases this
 ·have := h.2.2.2.2.1.ty e; rw [hl] at this; cases this
 ·exact hT j n _ e2 e
theorem put_step (n : Nat) (ih : PutUpTo n) : PutUpTo (n + 1) := by
 intro x hh hx p S c sc cN cC cG cP cT hI hm hn hs hll
 have hsz := x.size_pos
 have hXl := scX_le sc
 have hnode := fun T => node_fn p (S ++ T) c x sc (hI.app T) hx (by omega) (by have := x.ht_pos; omega) hll
 have hclone := fun S => clone_op S sc (by have := x.ht_pos; omega)
 have hall := all_pure x (by have := hx.par; omega)
 obtain ⟨X, hX⟩ : ∃ X, X = scX sc := ⟨_, rfl⟩
 rw [← hX] at hXl ⊢
 rw [← hX] at hclone
 have hNl := hI.2.1.len
 rw [List.length_map] at hNl
 have hpS : p < S.length := (List.getElem?_eq_some_iff.1 hI.1).1
 have hpp : ∀ T, (S ++ T)[p]? = some (some ⟨64, 5, [[cN, cC, cG, cP, cT]]⟩) := fun T => up_app hI.1
 rw [K.cc_eq] at hnode hall ⊢
 refine Fn.introT Tryd.func29 rfl Tryd.ntmps29 Tryd.results29 (by simp only [List.length_cons, List.length_nil]; decide) ?_
 repeat (first | (apply fw; (with_reducible constructor) <;> rfl) | (apply WpA.cd; constructor) | ((first | with_reducible refine WpA.go _ rfl fun Y y => ?_ | apply RunTo.id); simp only [zb, seval, w29, get_app0, hpp, ↓hNl]; refine RunTo.fn y (by first | (simp; done) | omega | (simp; omega)) ?_; clear y Y))
 refine WpL.handAll rfl (guardA_sound (P := Tryd.prog) rfl) rfl rfl (by kernel_rfl) (ALes.cons (ALe.refl _) (ALes.cons (ALe.refl _) (ALes.cons hXl (ALes.refl _)))) (hnode _) ?_
 rintro _ S1 ⟨rfl, ⟨cC1, cG1, cP1, hI1⟩, hF1⟩
 obtain ⟨hkN, hkT⟩ := nodeN_keeps c x sc
 have hnm := nodeN_most c x sc
 generalize hnd : nodeN c x sc = t at *
 obtain ⟨⟨o, a, b⟩, c1⟩ := t
 simp only at hkN hkT hnm
 simp only [nodeA]
 have hl1 : S.length < S1.length := by have := hF1.1; simp at this; omega
 have hc1 : S1[S.length]? = some (some (coreOb x)) := hF1.2 _ _ (get_app0 _ _ _) (by omega) (by show (33 : Nat) ∉ _; decide)
 have hgl : ∀ z : Option Ob, (S1 ++ [z])[S1.length]? = some z := fun z => by simp
 have hset : ∀ z y : Option Ob, (S1 ++ [z]).set S1.length y = S1 ++ [y] := fun z y => by simp
 (refine WpL.go _ rfl fun Y y => ?_); repeat (first | (apply fw; (with_reducible constructor) <;> rfl) | (apply WpA.cd; constructor) | ((first | with_reducible refine WpA.go _ rfl fun Y y => ?_ | apply RunTo.id); simp only [zb, seval, w29, hgl, hset]; refine RunTo.fn y (by first | (simp; done) | omega | (simp; omega)) ?_; clear y Y))
 obtain ⟨S2, hS2⟩ : ∃ S2 : List (Option Ob), S2 = S1 ++ [some ⟨55, 4, [[.v (.int .i64 o), .v (.int .i64 a), .v (.int .i64 b), .v (.slice none 0 0)]]⟩] := ⟨_, rfl⟩
 have hI2 : CoderIn p S2 c1 cN cC1 cG1 cP1 cT := by rw [hS2]; exact hI1.app _
 have hl2 : S2.length = S1.length + 1 := by rw [hS2]; simp
 have a2 : S2[S.length]? = some (some (coreOb x)) := by rw [hS2]; exact up_app hc1
 have a3 : S2[S1.length]? = some (some ⟨55, 4, [[.v (.int .i64 o), .v (.int .i64 a), .v (.int .i64 b), .v (.slice none 0 0)]]⟩) := by rw [hS2]; exact hgl _
 have hF2 : Frm p [9, 31] S S2 := by
  refine ⟨by omega, fun j ob h1 h2 h3 => ?_⟩
  rw [hS2]
  exact up_app (hF1.2 j ob (up_app h1) h2 h3)
 rw [← hS2]
 have a1 := hI2.1
 obtain ⟨S3, hS3⟩ : ∃ S3 : List (Option Ob), S3 = S2 ++ [some ⟨55, 4, [[.v (.int .i64 o), .v (.int .i64 a), .v (.int .i64 b), .v (.slice none 0 0)]]⟩] := ⟨_, rfl⟩
 have u3 : ∀ {j : Nat} {z : Option Ob}, S2[j]? = some z → S3[j]? = some z := fun h => by rw [hS3]; exact up_app h
 have hI3 : CoderIn p S3 c1 cN cC1 cG1 cP1 cT := by rw [hS3]; exact hI2.app _
 have b3 : S3[S2.length]? = some (some ⟨55, 4, [[.v (.int .i64 o), .v (.int .i64 a), .v (.int .i64 b), .v (.slice none 0 0)]]⟩) := by rw [hS3]; simp
 have hl3 : S3.length = S2.length + 1 := by rw [hS3]; simp
 obtain ⟨S4, j, hA4, hj4, hl4, hfr4, hpl4, hop⟩ := append_op (P := Tryd.prog) (T := 36) (by_ := 48) elt_36 byt_36 zel_36 (by omega) hI3.2.1 b3 (by simp) (fun n e => by have := hI2.2.1.lt e; omega) (by simp; rw [hkN]; omega) (by simp; rw [hkN]; omega)
 simp only [List.length_map, List.length_cons, List.length_nil, Nat.zero_add, hkN] at hA4 hop hpl4 hj4
 have hap : ∀ {i : Nat} {ob : Ob}, S3[i]? = some (some ob) → ob.ty ≠ 55 → ∀ n, cN ≠ .ms i n := fun hj ht => hI3.2.1.apart hj ht
 have d1 := hfr4 _ _ (u3 a1) (hap (u3 a1) (by show (64 : Nat) ≠ _; decide))
 have d2 := hfr4 _ _ (u3 a2) (hap (u3 a2) (by show (33 : Nat) ≠ _; decide))
 have d3 := hfr4 _ _ (u3 a3) (fun n e => by have := hI1.2.1.lt e; omega)
 have hlj : j < S4.length := (List.getElem?_eq_some_iff.1 hj4).1
 obtain ⟨c9, hc9⟩ : ∃ c9 : List (Option Ob), c9 = pts [(p, ⟨64, 5, [[cN, cC1, cG1, cP1, cT]]⟩), (S1.length, ⟨55, 4, [[.v (.int .i64 o), .v (.int .i64 a), .v (.int .i64 b), .v (.slice none 0 0)]]⟩)] := ⟨_, rfl⟩
 have q1 : c9[p]? = some (some ⟨64, 5, [[cN, cC1, cG1, cP1, cT]]⟩) := by rw [hc9]; exact pts_get (q := (p, _)) (by simp)
 have q2 : c9[S1.length]? = some (some ⟨55, 4, [[.v (.int .i64 o), .v (.int .i64 a), .v (.int .i64 b), .v (.slice none 0 0)]]⟩) := by rw [hc9]; exact pts_get (q := (S1.length, _)) (by rw [List.find?_cons_of_neg (by simp; omega)]; simp)
 have hle : ∀ s ∈ [S2, S3, S4], LeS c9 s := by
  rw [hc9]
  intro s hs
  refine LeS.pts ?_
  simp only [List.mem_cons, List.not_mem_nil, or_false, forall_eq_or_imp, forall_eq] at hs ⊢
  rcases hs with rfl | rfl | rfl
  ·exact ⟨⟨_, a1, rfl, rfl, FzR.same _ _ _⟩, ⟨_, a3, rfl, rfl, FzR.same _ _ _⟩⟩
  ·exact ⟨⟨_, u3 a1, rfl, rfl, FzR.same _ _ _⟩, ⟨_, u3 a3, rfl, rfl, FzR.same _ _ _⟩⟩
  ·exact ⟨⟨_, d1, rfl, rfl, FzR.same _ _ _⟩, ⟨_, d3, rfl, rfl, FzR.same _ _ _⟩⟩
 have hrow : (c1.nodes.map Nd.row) = c.nodes.map Nd.row := by rw [hkN]
 subst hS3
 skip
 skip
 (refine WpA.draw1 12 [7, 8] c9 [S2, S2 ++ [some ⟨55, 4, [[.v (.int .i64 o), .v (.int .i64 a), .v (.int .i64 b), .v (.slice none 0 0)]]⟩], S4] _ _ _ _ rfl rfl rfl (by kernel_rfl) (by kernel_rfl) (by kernel_rfl) (by kernel_rfl) rfl rfl rfl rfl (by decide) fun K8 hK8 => ?_)
 simp only [zz] at hK8 ⊢
 (refine Draw1.go fun K7 hK7 => ?_); simp only [zb, seval, w29, q1, q2]; (refine RunQ.mk (by first | (simp; done) | omega | (simp; omega)) (hK7 _ _ (by rfl) ?_)); clear hK7 K7; (simp only [zz, Nat.reduceAdd, Nat.reduceSub]); (try ((refine Draw1.nil hle (hK8 _ ?_)); clear hK8 K8; (refine WpL.go _ rfl fun Y y => ?_); repeat (first | (apply fw; (with_reducible constructor) <;> rfl) | (apply WpA.cd; constructor) | ((first | with_reducible refine WpA.go _ rfl fun Y y => ?_ | apply RunTo.id); simp only [zb, seval, w29, q1, q2]; refine RunTo.fn y (by first | (simp; done) | omega | (simp; omega)) ?_; clear y Y))))
 refine Draw1.eff 0 rfl rfl rfl (OpS.eff [(28, _)] rfl (by rfl) ⟨rfl, trivial⟩ (by simp only [zb, seval, w29]; rfl) (by first | (simp; done) | omega | (simp; omega))) ?_; (try simp only [putE]); (try ((refine Draw1.go fun K7 hK7 => ?_); simp only [zb, seval, w29]; (refine RunQ.mk (by first | (simp; done) | omega | (simp; omega)) (hK7 _ _ (by rfl) ?_)); clear hK7 K7; (simp only [zz, Nat.reduceAdd, Nat.reduceSub]); (try ((refine Draw1.nil hle (hK8 _ ?_)); clear hK8 K8; (refine WpL.go _ rfl fun Y y => ?_); repeat (first | (apply fw; (with_reducible constructor) <;> rfl) | (apply WpA.cd; constructor) | ((first | with_reducible refine WpA.go _ rfl fun Y y => ?_ | apply RunTo.id); simp only [zb, seval, w29]; refine RunTo.fn y (by first | (simp; done) | omega | (simp; omega)) ?_; clear y Y))))))
 refine Draw1.eff 1 rfl rfl rfl (OpS.aop [(27, _), (29, _)] rfl (by rfl) ⟨rfl, rfl, trivial⟩ (hop _ _ _ rfl rfl)) ?_
 simp only [putE]
 (refine Draw1.go fun K7 hK7 => ?_); simp only [zb, seval, w29, q1, q2, d1]; (refine RunQ.mk (by first | (simp; done) | omega | (simp; omega)) (hK7 _ _ (by rfl) ?_)); clear hK7 K7; (simp only [zz, Nat.reduceAdd, Nat.reduceSub]); (try ((refine Draw1.nil hle (hK8 _ ?_)); clear hK8 K8; (refine WpL.go _ rfl fun Y y => ?_); repeat (first | (apply fw; (with_reducible constructor) <;> rfl) | (apply WpA.cd; constructor) | ((first | with_reducible refine WpA.go _ rfl fun Y y => ?_ | apply RunTo.id); simp only [zb, seval, w29, q1, q2, d1]; refine RunTo.fn y (by first | (simp; done) | omega | (simp; omega)) ?_; clear y Y))))
 obtain ⟨nd, hndd⟩ : ∃ nd : Nd, nd = ⟨o, a, b, []⟩ := ⟨_, rfl⟩
 have hrowN : (c.nodes ++ [nd]).map Nd.row = c.nodes.map Nd.row ++ [[.v (.int .i64 o), .v (.int .i64 a), .v (.int .i64 b), .sl 1 []]] := by rw [hndd]; simp [Nd.row, intC]
 have hjp : j ≠ p := fun e => by subst e; rw [hj4] at d1; cases d1
 have hjS : j ≠ S.length := fun e => by subst e; rw [hj4] at d2; cases d2
 obtain ⟨S5, hS5⟩ : ∃ S5 : List (Option Ob), S5 = (S4.set j (some ⟨55, 4, (c.nodes ++ [nd]).map Nd.row⟩)).set p (some ⟨64, 5, [[.ms j (c.nodes.length + 1), cC1, cG1, cP1, cT]]⟩) := ⟨_, rfl⟩
 have hA5 : At 55 4 (S4.set j (some ⟨55, 4, (c.nodes ++ [nd]).map Nd.row⟩)) (.ms j (c.nodes.length + 1)) ((c.nodes ++ [nd]).map Nd.row) := .inr ⟨by simp, j, by simp, List.getElem?_set_self hlj⟩
 have hR5 := hI2.newN hA5 (by simp; omega) (fun i z hi hn => by
  have : j ≠ i := fun e => by
   subst e
   rcases hpl4 with h | h
   ·exact hn _ h
   ·have := (List.getElem?_eq_some_iff.1 hi).1; simp at h; omega
  rw [List.getElem?_set_ne this]
  exact hfr4 i z (u3 hi) hn)
 rw [← hS5] at hR5
 obtain ⟨hI5, hF25⟩ := hR5
 have e2 : S5[S.length]? = some (some (coreOb x)) := hF25.2 _ _ a2 (by omega) (by show (33 : Nat) ∉ _; decide)
 have hF5 : Frm p [9, 31, 55] S S5 := (hF2.mono (fun t ht => by simp at ht ⊢; rcases ht with h | h <;> simp [h])).trans (hF25.mono (fun t ht => by simp at ht ⊢; simp [ht]))
 have hc2 : ({ c1 with nodes := c.nodes ++ [nd] } : Cd) = stepC c x sc nd 0 := by rw [stepC_zero, hnd]; simp only [Cd.with, ← hkT]
 rw [hc2] at hI5
 refine WpA.le (st' := ⟨[(7, .one (.v (.int .i64 c.nodes.length))), (4, .one (.ptr S.length 1 0 0)), (0, .one (.ptr p 1 0 0)), (2, .one X)], S5⟩) ?_ ?_
 ·have hfz : (S4.set p (some ⟨64, 5, [[.ms j (c.nodes.length + 1), cC1, cG1, cP1, cT]]⟩)).set j (some ⟨55, 4, (c.nodes ++ [nd]).map Nd.row⟩) = S5 := by rw [hS5]; exact List.set_comm _ _ (Ne.symm hjp)
  rw [← hfz]
  refine Le.freeze (fun _ => false) (Frz.less ((List.getElem?_set_ne (Ne.symm hjp)).trans hj4) rfl rfl ?_) ?_
  ·rw [hrowN]
   exact FzR.last (by simp only [FzCs]; exact ⟨FzC.same _ _ _, FzC.same _ _ _, FzC.same _ _ _, FzC.nil, trivial⟩) _
  ·simp only [SubZ]
   exact ⟨⟨_, rfl, FzA.same _ _ _⟩, ⟨_, rfl, FzA.same _ _ _⟩, ⟨_, rfl, FzA.same _ _ _⟩, ⟨_, rfl, FzA.same _ _ _⟩, trivial⟩
 clear hS5 hA5 hF25 hc2 hrowN hop hle q1 q2 hc9 c9 d1 d2 d3 hap hfr4 hpl4 hj4 hlj hA4 b3 u3 hI3 hl3 hF2 a1 a2 a3 hl2 hI2 hS2 hset hgl hc1 hI1 hF1 hrow hjp hjS hnode hpp hNl
 have e2' := e2
 simp only [coreOb] at e2
 have hS5l : S.length < S5.length := (List.getElem?_eq_some_iff.1 e2').1
 by_cases hk : x.k = 6
 case' pos =>
  have hkk : (x.k == 6) = true := by simp [hk]
  have hsi : scIn x sc = sc ++ [allN x] := if_pos hk
  have hrw : scC sc ++ [[.sl 1 (strC (allN x))]] = scC (scIn x sc) := by rw [hsi, scC_app]; rfl
  obtain ⟨T1, X1, hA1, hl1, hf1, hp1, hop1⟩ := hclone S5
  obtain ⟨T3, hT3⟩ : ∃ T3 : List (Option Ob), T3 = T1 ++ [some ⟨25, 1, [[.sl 1 (strC (allN x))]]⟩] := ⟨_, rfl⟩
  have u3 : ∀ {j : Nat} {z : Option Ob}, T1[j]? = some z → T3[j]? = some z := fun h => by rw [hT3]; exact up_app h
  have b3 : T3[T1.length]? = some (some ⟨25, 1, [[.sl 1 (strC (allN x))]]⟩) := by rw [hT3]; simp
  have hA3 : At 25 1 T3 X1 (scC sc) := by rw [hT3]; exact hA1.app _
  have hl3 : T3.length = T1.length + 1 := by rw [hT3]; simp
  obtain ⟨T2, j2, hA2, hj2, hl2, hfr2, hpl2, hop2⟩ := append_op (P := Tryd.prog) (T := 76) (by_ := 24) elt_76 byt_76 zel_76 (by omega) hA3 b3 (by simp) (fun n e => by have := hA1.lt e; omega) (by rw [scC_len]; simp; omega) (by rw [scC_len]; simp; omega)
  rw [hrw] at hA2 hj2
  simp only [scC_len, List.length_cons, List.length_nil, Nat.zero_add] at hA2 hop2 hpl2
  have hX1 : ∀ i, i < S5.length → ∀ n, X1 ≠ .ms i n := fun i hi n e => by have := hp1 _ _ e; omega
  have c1' := hf1 _ _ e2'
  have c2' := hfr2 _ _ (u3 c1') (hX1 _ hS5l)
  obtain ⟨c9, hc9⟩ : ∃ c9 : List (Option Ob), c9 = pts [(S.length, coreOb x)] := ⟨_, rfl⟩
  have q1 : c9[S.length]? = some (some (coreOb x)) := by rw [hc9]; exact pts_get (q := (S.length, coreOb x)) (by simp)
  have hle : ∀ s ∈ [S5, T1, T1, T3, T2], LeS c9 s := by
   rw [hc9]
   intro s hs
   refine LeS.pts ?_
   simp only [List.mem_cons, List.not_mem_nil, or_false, forall_eq_or_imp, forall_eq] at hs ⊢
   rcases hs with rfl | rfl | rfl | rfl | rfl
   ·exact ⟨_, e2', rfl, rfl, FzR.same _ _ _⟩
   ·exact ⟨_, c1', rfl, rfl, FzR.same _ _ _⟩
   ·exact ⟨_, c1', rfl, rfl, FzR.same _ _ _⟩
   ·exact ⟨_, u3 c1', rfl, rfl, FzR.same _ _ _⟩
   ·exact ⟨_, c2', rfl, rfl, FzR.same _ _ _⟩
  have c2 := c2'
  simp only [coreOb] at q1 c2
  repeat (first | (apply fw; (with_reducible constructor) <;> rfl) | (apply WpA.cd; constructor) | ((first | with_reducible refine WpA.go _ rfl fun Y y => ?_ | apply RunTo.id); simp only [zb, seval, w29, e2, hkk]; refine RunTo.fn y (by first | (simp; done) | omega | (simp; omega)) ?_; clear y Y))
  skip
  skip
  (refine WpA.draw1 6 [1, 3, 4, 5] c9 [S5, T1, T1, T3, T2] _ _ _ _ rfl rfl rfl (by kernel_rfl) (by kernel_rfl) (by kernel_rfl) (by kernel_rfl) rfl rfl rfl rfl (by decide) fun K8 hK8 => ?_)
  simp only [zz] at hK8 ⊢
  (refine Draw1.go fun K7 hK7 => ?_); simp only [zb, seval, w29, q1]; (refine RunQ.mk (by first | (simp; done) | omega | (simp; omega)) (hK7 _ _ (by rfl) ?_)); clear hK7 K7; (simp only [zz, Nat.reduceAdd, Nat.reduceSub]); (try ((refine Draw1.nil hle (hK8 _ ?_)); clear hK8 K8; (refine WpL.go _ rfl fun Y y => ?_); repeat (first | (apply fw; (with_reducible constructor) <;> rfl) | (apply WpA.cd; constructor) | ((first | with_reducible refine WpA.go _ rfl fun Y y => ?_ | apply RunTo.id); simp only [zb, seval, w29, q1]; refine RunTo.fn y (by first | (simp; done) | omega | (simp; omega)) ?_; clear y Y))))
  refine Draw1.eff 0 rfl rfl rfl (hop1 rfl rfl) ?_
  simp only [putE]
  (refine Draw1.go fun K7 hK7 => ?_); simp only [zb, seval, w29, q1]; (refine RunQ.mk (by first | (simp; done) | omega | (simp; omega)) (hK7 _ _ (by rfl) ?_)); clear hK7 K7; (simp only [zz, Nat.reduceAdd, Nat.reduceSub]); (try ((refine Draw1.nil hle (hK8 _ ?_)); clear hK8 K8; (refine WpL.go _ rfl fun Y y => ?_); repeat (first | (apply fw; (with_reducible constructor) <;> rfl) | (apply WpA.cd; constructor) | ((first | with_reducible refine WpA.go _ rfl fun Y y => ?_ | apply RunTo.id); simp only [zb, seval, w29, q1]; refine RunTo.fn y (by first | (simp; done) | omega | (simp; omega)) ?_; clear y Y))))
  refine Draw1.eff 1 rfl rfl rfl (OpS.shut rfl rfl rfl (by kernel_rfl) (ALes.refl _) (by first | rfl | (simp [shuts, A.shut, C.shut]; done)) hall) ?_
  simp only [putE]
  refine Draw1.eff 2 rfl rfl rfl (OpS.eff [(40, _)] rfl (by rfl) ⟨rfl, trivial⟩ (by simp only [zb, seval, w29]; rw [hT3]) (by simp)) ?_
  simp only [putE]
  refine Draw1.eff 3 rfl rfl rfl (OpS.aop [(38, _), (41, _)] rfl (by rfl) ⟨rfl, rfl, trivial⟩ (hop2 _ _ _ rfl rfl)) ?_
  simp only [putE]
  (refine Draw1.go fun K7 hK7 => ?_); simp only [zb, seval, w29, c2]; (refine RunQ.mk (by first | (simp; done) | omega | (simp; omega)) (hK7 _ _ (by rfl) ?_)); clear hK7 K7; (simp only [zz, Nat.reduceAdd, Nat.reduceSub]); (try ((refine Draw1.nil hle (hK8 _ ?_)); clear hK8 K8; (refine WpL.go _ rfl fun Y y => ?_); repeat (first | (apply fw; (with_reducible constructor) <;> rfl) | (apply WpA.cd; constructor) | ((first | with_reducible refine WpA.go _ rfl fun Y y => ?_ | apply RunTo.id); simp only [zb, seval, w29, c2]; refine RunTo.fn y (by first | (simp; done) | omega | (simp; omega)) ?_; clear y Y))))
  obtain ⟨S6, z, hz1, hz2, hz3, hz4⟩ := hA2.freeze (scC_shut _)
  have stays : ∀ (i : Nat) (o : Option Ob), S5[i]? = some o → S6[i]? = some o := fun i o hi => by
   have hi5 := (List.getElem?_eq_some_iff.1 hi).1
   refine hz4 i o (hfr2 i o (u3 (hf1 i o hi)) (hX1 i hi5)) fun n e => ?_
   cases e
   rcases hpl2 with h | h
   ·exact hX1 _ hi5 _ h
   ·omega
  have hI6 := hI5.keep (fun j ob hj _ => stays j _ hj)
  have e6 := stays _ _ e2'
  have hF6 : Frm p [9, 31, 55] S S6 := hF5.trans ⟨by omega, fun j ob h1 _ _ => stays j _ h1⟩
  refine WpA.le (st' := ⟨[(46, .one (.v (.int .i64 (0 : Nat)))), (45, .one (.v (.int .i64 x.l.length))), (44, .one (.sl 11 (x.l.map K.cc))), (9, .one (.v (.slice none 0 0))), (0, .one (.ptr p 1 0 0)), (4, .one (.ptr S.length 1 0 0)), (2, .one (scX (scIn x sc))), (7, .one (.v (.int .i64 c.nodes.length)))], S6⟩) ?_ ?_
  ·refine Le.freeze z hz1 ?_
   have hXs : scX (scIn x sc) = .sl 1 (scC (scIn x sc)) := by unfold scX; rw [if_neg (by rw [hsi]; simp)]
   simp only [SubZ]
   refine ⟨⟨_, rfl, FzA.same _ _ _⟩, ⟨_, rfl, FzA.same _ _ _⟩, ⟨_, rfl, FzA.same _ _ _⟩, ⟨_, rfl, FzA.same _ _ _⟩, ⟨_, rfl, FzA.same _ _ _⟩, ⟨_, rfl, FzA.same _ _ _⟩, ⟨_, rfl, ?_⟩, ⟨_, rfl, FzA.same _ _ _⟩, trivial⟩
   rw [hXs]
   simp only [FzA]
   exact hz2
  clear hop1 hop2 hle q1 hc9 c9 c1' c2' c2 hA1 hf1 hp1 hA3 b3 u3 hT3 hA2 hj2 hfr2 hpl2 hX1 hz1 hz2 hz4 stays
 case' neg =>
  have hkk : (x.k == 6) = false := by simp [hk]
  have hsi : scIn x sc = sc := if_neg hk
  repeat (first | (apply fw; (with_reducible constructor) <;> rfl) | (apply WpA.cd; constructor) | ((first | with_reducible refine WpA.go _ rfl fun Y y => ?_ | apply RunTo.id); simp only [zb, seval, w29, e2, hkk]; refine RunTo.fn y (by first | (simp; done) | omega | (simp; omega)) ?_; clear y Y))
  obtain ⟨S6, hS6⟩ : ∃ S6, S6 = S5 := ⟨_, rfl⟩
  have hI6 : CoderIn p S6 (stepC c x sc nd 0) (.ms j (c.nodes.length + 1)) cC1 cG1 cP1 cT := by rw [hS6]; exact hI5
  have e6 : S6[S.length]? = some (some (coreOb x)) := by rw [hS6]; exact e2'
  have hF6 : Frm p [9, 31, 55] S S6 := by rw [hS6]; exact hF5
  refine WpA.le (st' := ⟨[(46, .one (.v (.int .i64 (0 : Nat)))), (45, .one (.v (.int .i64 x.l.length))), (44, .one (.sl 11 (x.l.map K.cc))), (9, .one (.v (.slice none 0 0))), (0, .one (.ptr p 1 0 0)), (4, .one (.ptr S.length 1 0 0)), (2, .one (scX (scIn x sc))), (7, .one (.v (.int .i64 c.nodes.length)))], S6⟩) (by rw [hS6, hsi, ← hX]; exact Le.sub (by simp [Sub, find])) ?_
  clear hS6
 all_goals
  clear e2 e2' hI5 hF5 hclone hXl hall hkk hsi hS5l
  refine WpA.loop (PutI p S c x sc nd cT) x.l.length (Le.refl _ _) ⟨0, S6, _, _, _, _, _, rfl, Nat.zero_le _, hI6, At.nil _ _ _, (fun j k e => by cases e), e6, hF6, rfl⟩ ?_
  clear hI6 e6 hF6
  intro n' st hst
  obtain ⟨i, S', cN', cC', cG', cP', cL, rfl, hi, hI', hL', hLS, hcr, hF', rfl⟩ := hst
  have hw2 : IntKind.i64.wrap ((i : Int) + 1) = ((i + 1 : Nat) : Int) := by rw [wrap64 (by have := hx.len; omega) (by have := hx.len; omega)]; omega
  have hse := x.size_eq
  by_cases hlt : i < x.l.length
  ·have hd1 : decide ((i : Int) < (x.l.length : Int)) = true := by simp; omega
   have hget := getK hlt
   have hgl : ∀ z : Option Ob, (S' ++ [z])[S'.length]? = some z := fun z => by simp
   have hset : ∀ z y : Option Ob, (S' ++ [z]).set S'.length y = S' ++ [y] := fun z y => by simp
   have hht := K.ht_lt hlt
   have htl := K.sizes_take_lt hlt
   have hsl : (scIn x sc).length + x.l[i].ht ≤ 1000000000 := by
    unfold scIn
    split
    ·simp; omega
    ·omega
   have hsll : ∀ l ∈ scIn x sc, l.length ≤ 1000000000 := by
    by_cases h6 : x.k = 6
    ·rw [scIn, if_pos h6]
     intro l hl
     rcases List.mem_append.1 hl with h | h
     ·exact hll l h
     ·obtain rfl : l = allN x := by simpa using h
      have := allN_len x; have := hx.par; omega
    ·rw [scIn, if_neg h6]; exact hll
   have hput := ih x.l[i] (by omega) (hx.get i hlt) p (S' ++ [some (coreOb x.l[i])]) _ (scIn x sc) _ _ _ _ _ (hI'.app _) (by have := stepC_most c x sc nd i; omega) (by rw [stepC_len]; omega) hsl hsll
   rw [K.cc_eq] at hget hput
   simp only [coreOb] at hput
   repeat (first | (apply fw; (with_reducible constructor) <;> rfl) | (apply WpA.cd; constructor) | ((first | with_reducible refine WpA.go _ rfl fun Y y => ?_ | apply RunTo.id); simp only [zb, seval, w29, hd1, hget, hgl, hset]; refine RunTo.fn y (by first | (simp; done) | omega | (simp; omega)) ?_; clear y Y))
   refine WpL.handAll rfl (guardA_sound (P := Tryd.prog) rfl) rfl rfl (by kernel_rfl) (ALes.refl _) hput ?_
   rintro _ S7 ⟨rfl, ⟨cN7, cC7, cG7, cP7, hI7⟩, hF7⟩
   rw [stepC_succ c x sc nd hlt] at hI7
   simp only [stepC_len]
   have hL7 : At 3 1 S7 cL (intC (ats (x.l.take i) (c.nodes.length + 1))) := hL'.stay fun j hj e => hF7.2 j _ (up_app hj) (fun e2 => by subst e2; have := hLS _ _ e; omega) (by show (3 : Nat) ∉ _; decide)
   have hcr7 : S7[S.length]? = some (some (coreOb x)) := hF7.2 _ _ (up_app hcr) (by omega) (by show (33 : Nat) ∉ _; decide)
   have hl7 := hF7.1
   simp only [List.length_append, List.length_cons, List.length_nil] at hl7
   obtain ⟨S8, jL, hA8, hj8, hl8, hfr8, hpl8, hop8⟩ := append_op (P := Tryd.prog) (T := 37) (by_ := 8) elt_37 byt_37 zel_37 (by omega) (S := S7 ++ [some ⟨3, 1, [[.v (.int .i64 ((c.nodes.length + 1 + K.sizes (x.l.take i) : Nat) : Int))]]⟩]) (hL7.app _) (q := S7.length) (new := [[.v (.int .i64 ((c.nodes.length + 1 + K.sizes (x.l.take i) : Nat) : Int))]]) (by simp) (by simp) (fun n e => by have := hL7.lt e; omega) (by have := hx.len; rw [intC_len, ats_len, List.length_take]; simp; omega) (by have := hx.len; rw [intC_len, ats_len, List.length_take]; simp; omega)
   have hrL : intC (ats (x.l.take i) (c.nodes.length + 1)) ++ [[.v (.int .i64 ((c.nodes.length + 1 + K.sizes (x.l.take i) : Nat) : Int))]] = intC (ats (x.l.take (i + 1)) (c.nodes.length + 1)) := by rw [ats_take hlt, intC_app]; rfl
   rw [hrL] at hA8
   simp only [List.length_cons, List.length_nil, Nat.zero_add] at hop8
   have hpS : ∀ {j : Nat}, j < S.length → ∀ n, cL ≠ .ms j n := fun hj n e => by have := hLS _ _ e; omega
   have hlx := hx.len
   (try simp only [St.put]); (refine WpL.op rfl (guardA_sound (P := Tryd.prog) rfl) (aop_sound (by simp only [zb, seval, w29]; rfl) (by first | (simp; done) | omega | (simp; omega))) ?_); simp only [St.put]
   refine WpL.aop rfl (hop8 _ _ _ rfl rfl) ?_
   simp only [St.put]
   (refine WpL.go _ rfl fun Y y => ?_); repeat (first | (apply fw; (with_reducible constructor) <;> rfl) | (apply WpA.cd; constructor) | ((first | with_reducible refine WpA.go _ rfl fun Y y => ?_ | apply RunTo.id); simp only [zb, seval, w29, hw2]; refine RunTo.fn y (by first | (simp; done) | omega | (simp; omega)) ?_; clear y Y))
   have hT7 : ∀ j n m, cT = .ms j n → cL ≠ .ms j m := fun j n m e e' => by have h1 := hI.2.2.2.2.2.1.lt e; have h2 := hLS _ _ e'; omega
   refine ⟨x.l.length - (i + 1), _, by omega, Le.sub (by simp [Sub, find]), i + 1, S8, cN7, cC7, cG7, cP7, .ms jL ((intC (ats (x.l.take i) (c.nodes.length + 1))).length + 1), rfl, hlt, hI7.keep (fun j ob hj hc => hfr8 j _ (up_app hj) (hI7.offL hL7 hT7 hj hc)), hA8, fun j k e => ?_, hfr8 _ _ (up_app hcr7) (fun n e => by have := hL7.ty e; rw [hcr7] at this; cases this), ⟨?_, fun j ob h1 h2 h3 => ?_⟩, rfl⟩
   ·cases e
    rcases hpl8 with h | h
    ·exact hLS _ _ h
    ·simp at h; have := hF'.1; omega
   ·simp at hl8; have := hF'.1; omega
   ·have hj := (List.getElem?_eq_some_iff.1 h1).1
    exact hfr8 j _ (up_app (hF7.2 j ob (up_app (hF'.2 j ob h1 h2 h3)) h2 h3)) (hpS hj)
  ·have hd0 : decide ((i : Int) < (x.l.length : Int)) = false := by simp; omega
   have hii : i = x.l.length := by omega
   subst hii
   have hT7 : ∀ j n m, cT = .ms j n → cL ≠ .ms j m := fun j n m e e' => by have h1 := hI.2.2.2.2.2.1.lt e; have h2 := hLS _ _ e'; omega
   obtain ⟨S8, z, hz1, hz2, hz3, hz4⟩ := hL'.freeze (intC_shut _)
   have hI8 : CoderIn p S8 (stepC c x sc nd x.l.length) cN' cC' cG' cP' cT := hI'.keep (fun j ob hj hc => hz4 j _ hj (hI'.offL hL' hT7 hj hc))
   have hF8 : Frm p [9, 31, 55] S S8 := ⟨by have := hF'.1; omega, fun j ob h1 h2 h3 => hz4 j _ (hF'.2 j ob h1 h2 h3) fun n e => by have := hLS _ _ e; have := (List.getElem?_eq_some_iff.1 h1).1; omega⟩
   refine WpA.le (st' := ⟨[(46, .one (.v (.int .i64 x.l.length))), (45, .one (.v (.int .i64 x.l.length))), (9, .one (.sl 1 (intC (ats x.l (c.nodes.length + 1))))), (0, .one (.ptr p 1 0 0)), (7, .one (.v (.int .i64 c.nodes.length)))], S8⟩) ?_ ?_
   ·refine Le.freeze z hz1 ?_
    rw [List.take_length] at hz2
    simp only [SubZ]
    refine ⟨⟨_, rfl, FzA.same _ _ _⟩, ⟨_, rfl, FzA.same _ _ _⟩, ⟨_, rfl, ?_⟩, ⟨_, rfl, FzA.same _ _ _⟩, ⟨_, rfl, FzA.same _ _ _⟩, trivial⟩
    simp only [FzA]
    exact hz2
   clear hz1 hz2 hz4 hL' hI'
   have hNl := stepC_len c x sc nd x.l.length
   rw [List.take_length] at hNl
   rcases hI8.2.1 with ⟨h0, rfl⟩ | ⟨hne, jN, rfl, hjN⟩
   ·have : (stepC c x sc nd x.l.length).nodes = [] := by simpa using h0
    rw [this] at hNl; simp at hNl; omega
   rw [List.length_map] at hI8
   have hrn : ((stepC c x sc nd x.l.length).nodes.map Nd.row)[c.nodes.length]? = some [.v (.int .i64 o), .v (.int .i64 a), .v (.int .i64 b), .sl 1 []] := by
    rw [List.getElem?_map, stepC]
    simp [Cd.with, hndd, Nd.row, intC]
   have hp8 := hI8.1
   have hd2 : decide ((x.l.length : Int) < (x.l.length : Int)) = false := by simp
   repeat (first | (apply fw; (with_reducible constructor) <;> rfl) | (apply WpA.cd; constructor) | ((first | with_reducible refine WpA.go _ rfl fun Y y => ?_ | apply RunTo.id); simp only [zb, seval, w29, hd2, hp8, hjN, hrn, List.length_map]; refine RunTo.fn y (by first | (simp; done) | omega | (simp; omega)) ?_; clear y Y))
   repeat (first | (apply fw; (with_reducible constructor) <;> rfl) | (apply WpA.cd; constructor) | ((first | with_reducible refine WpA.go _ rfl fun Y y => ?_ | apply RunTo.id); simp only [zb, seval, w29, hd2, hp8, hjN, hrn, List.length_map]; refine RunTo.fn y (by first | (simp; done) | omega | (simp; omega)) ?_; clear y Y))
   refine ⟨.inl rfl, _, _, _, _, (by simp only [zb, seval]; rfl), trivial, Le.refl _ _, rfl, ⟨.ms jN (stepC c x sc nd x.l.length).nodes.length, cC', cG', cP', ?_⟩, ?_, fun k ob h1 h2 h3 => ?_⟩
   ·have h9 := hI8.setN (N' := (stepC c x sc nd x.l.length).nodes.set c.nodes.length ⟨o, a, b, ats x.l (c.nodes.length + 1)⟩) (by simp)
    rw [List.map_set] at h9
    rw [stepC_all c x sc nd, hnd]
    exact h9
   ·simp; exact hF8.1
   ·have h4 := hF8.2 k ob h1 h2 h3
    rw [List.getElem?_set_ne (fun e => by subst e; rw [hjN] at h4; cases h4; exact h3 (by simp))]
    exact h4
theorem put_upto : ∀ n, PutUpTo n
 | 0 => fun x h => absurd h (by have := x.ht_pos; omega)
 | n + 1 => put_step n (put_upto n)
theorem put_fn (x : K) (hx : x.Pk) (p : Nat) (S : List (Option Ob)) (c : Cd) (sc : List (List ByteArray)) (cN cC cG cP cT : C) (hI : CoderIn p S c cN cC cG cP cT) (hm : c.most + x.size ≤ 1000000000) (hn : c.nodes.length + x.size ≤ 1000000000) (hs : sc.length + x.ht ≤ 1000000000) (hl : ∀ l ∈ sc, l.length ≤ 1000000000) :
  Fn Tryd.prog 29 [.one (.ptr p 1 0 0), .agg x.cc, .one (scX sc)] S (PutR p S c x sc cT) := put_upto x.ht x (Nat.le_refl _) hx p S c sc cN cC cG cP cT hI hm hn hs hl
theorem dmay_pure (d : D) (hok : d.Ok) (hb : d.count < 1000000000) : Pure Tryd.prog 40 [.agg d.cc] (.one (.v (.bool (mayB d)))) := by
 refine pure_old_v rfl fun w vs hg hv => ?_
 obtain ⟨v, rfl, hv1⟩ := hv.one1
 exact may_any d w v hok hb hg hv1.isD
mutual
noncomputable def K.may : K → Bool → Bool
 | .mk k name rest params d l, top => cntB (.mk k name rest params d l) && eqB (K.mk k name rest params d l) (K.bare (.mk k name rest params d l)) && (if k = 1 then mayB d else (if k = 4 then top && !eqB name ⟨#[]⟩ else if k = 2 ∨ k = 3 ∨ k = 10 then !eqB name ⟨#[]⟩ else if k = 6 then propB (VarsOk (allN (.mk k name rest params d l))) else true) && K.mays l (top && decide (k = 7)))
noncomputable def K.mays : List K → Bool → Bool
 | [], _ => true
 | c :: l, t => c.may t && K.mays l t
end
theorem K.mays_any : ∀ (l : List K) (t : Bool), K.mays l t = !(l.any fun x => !x.may t)
 | [], t => by simp [K.mays]
 | c :: l, t => by rw [K.mays, K.mays_any l t]; simp
mutual
def K.Sm : K → Prop
 | .mk _ _ _ params d l => params.length ≤ 1000000000 ∧ d.count < 1000000000 ∧ K.Sms l
def K.Sms : List K → Prop
 | [] => True
 | c :: l => c.Sm ∧ K.Sms l
end
theorem K.Sms.get : ∀ {l : List K}, K.Sms l → ∀ i (h : i < l.length), l[i].Sm
 | c :: l, h, 0, _ => h.1
 | c :: l, h, i + 1, hi => K.Sms.get (l := l) h.2 i (by simpa using hi)
theorem may_upto : ∀ n (c : K) (top : Bool), c.ht ≤ n → c.Ok → c.Sm → Pure Tryd.prog 25 [.agg c.cc, .one (.v (.bool top))] (.one (.v (.bool (c.may top)))) := by
 intro n
 induction n with
 | zero => intro c top h; exact absurd h (by have := c.ht_pos; omega)
 | succ n ih =>
  intro c top hh hok hsm
  have hcl : ∀ (t : Bool), ∀ x ∈ c.l, Pure Tryd.prog 43 (.agg x.cc :: ([.pf [.v (.bool t)]] : List C).map .one) (.one (.v (.bool (!x.may t)))) := fun t x hx => by
   obtain ⟨i, hi, rfl⟩ := List.mem_iff_getElem.1 hx
   have hlt := K.ht_lt hi
   have hi2 := ih c.l[i] t (by omega) (hok.get i hi) (by cases c; exact hsm.2.2.get i hi)
   rw [K.cc_eq] at hi2 ⊢
   simp only [List.map_cons, List.map_nil]
   refine Fn.intro Tryd.func43 rfl Tryd.ntmps43 Tryd.results43 (by simp only [List.length_cons, List.length_nil]; decide) ?_
   repeat (first | (apply fw; (with_reducible constructor) <;> rfl) | (apply WpA.cd; constructor) | ((first | with_reducible refine WpA.go _ rfl fun Y y => ?_ | apply RunTo.id); simp only [zb, seval, w43]; refine RunTo.fn y (by first | (simp; done) | omega | (simp; omega)) ?_; clear y Y))
   refine WpL.call rfl (guardA_sound (P := Tryd.prog) rfl) (CallA.shut rfl rfl (by kernel_rfl) (ALes.refl _) (by first | rfl | simp [shuts, A.shut, C.shut]) (hi2) ?_)
   (refine WpL.go _ rfl fun Y y => ?_); repeat (first | (apply fw; (with_reducible constructor) <;> rfl) | (apply WpA.cd; constructor) | ((first | with_reducible refine WpA.go _ rfl fun Y y => ?_ | apply RunTo.id); simp only [zb, seval, w43]; refine RunTo.fn y (by first | (simp; done) | omega | (simp; omega)) ?_; clear y Y))
   refine ⟨by simp, _, _, _, _, (by simp only [zb, seval, w43]; rfl), (by simp), (by simp only [zv]; rfl), (by simp), _, ALe.refl _, ?_⟩
   rfl
  have hcf := fun t => containsF1_pure 43 t (by kernel_rfl) c.l (fun x => !x.may t) hok.len (hcl t)
  have hcn := count_pure c
  have hbr := bare_pure c
  have hsa := esame_pure c c.bare hok
  have hal := all_pure c (by cases c; exact hsm.1)
  have hva := variables_pure (allN c) (by
   have : c.params.length ≤ 1000000000 := by cases c; exact hsm.1
   unfold allN
   split <;> simp <;> omega)
  have hdm := dmay_pure c.d hok.d (by cases c; exact hsm.2.1)
  obtain ⟨k, name, rest, params, d, l⟩ := c
  have hme : K.may (.mk k name rest params d l) top = (cntB (.mk k name rest params d l) && eqB (K.mk k name rest params d l) (K.bare (.mk k name rest params d l)) && (if k = 1 then mayB d else (if k = 4 then top && !eqB name ⟨#[]⟩ else if k = 2 ∨ k = 3 ∨ k = 10 then !eqB name ⟨#[]⟩ else if k = 6 then propB (VarsOk (allN (.mk k name rest params d l))) else true) && K.mays l (top && decide (k = 7)))) := by rw [K.may]
  rw [hme]
  generalize hcb : cntB (.mk k name rest params d l) = cb at *
  generalize heb : eqB (K.mk k name rest params d l) (K.bare (.mk k name rest params d l)) = eb at *
  generalize hab : propB (VarsOk (allN (.mk k name rest params d l))) = vb at *
  generalize allN (.mk k name rest params d l) = al at *
  generalize hbk : K.bare (.mk k name rest params d l) = bk at *
  rw [K.cc_eq (.mk k name rest params d l)] at hcn hbr hsa hal ⊢
  rw [K.cc_eq bk] at hbr hsa
  simp only [K.k, K.name, K.rest, K.params, K.d, K.l] at *
  rw [D.cc_eq] at hdm
  cases cb with
  | false =>
   refine Fn.intro Tryd.func25 rfl Tryd.ntmps25 Tryd.results25 (by simp only [List.length_cons, List.length_nil]; decide) ?_
   repeat (first | (apply fw; (with_reducible constructor) <;> rfl) | (apply WpA.cd; constructor) | ((first | with_reducible refine WpA.go _ rfl fun Y y => ?_ | apply RunTo.id); simp only [zb, seval, w25]; refine RunTo.fn y (by first | (simp; done) | omega | (simp; omega)) ?_; clear y Y))
   (refine WpA.draw0 10 _ _ _ rfl rfl rfl (by kernel_rfl) (by kernel_rfl) (by kernel_rfl) fun K8 hK8 => ?_); simp only [zz] at hK8 ⊢; (refine Draw0.go fun K7 hK7 => ?_); simp only [zb, seval, w25]; (refine RunQ.mk (by first | (simp; done) | omega | (simp; omega)) (hK7 _ _ ?_)); clear hK7 K7; (try ((refine Draw0.nil (hK8 _ ?_)); clear hK8 K8; (refine WpL.go _ rfl fun Y y => ?_); repeat (first | (apply fw; (with_reducible constructor) <;> rfl) | (apply WpA.cd; constructor) | ((first | with_reducible refine WpA.go _ rfl fun Y y => ?_ | apply RunTo.id); simp only [zb, seval, w25]; refine RunTo.fn y (by first | (simp; done) | omega | (simp; omega)) ?_; clear y Y))))
   refine Draw0.step (OpS.shut rfl rfl rfl (by kernel_rfl) (ALes.refl _) (by first | rfl | simp [shuts, A.shut, C.shut]) (hcn)) ?_
   (refine Draw0.go fun K7 hK7 => ?_); simp only [zb, seval, w25]; (refine RunQ.mk (by first | (simp; done) | omega | (simp; omega)) (hK7 _ _ ?_)); clear hK7 K7; (try ((refine Draw0.nil (hK8 _ ?_)); clear hK8 K8; (refine WpL.go _ rfl fun Y y => ?_); repeat (first | (apply fw; (with_reducible constructor) <;> rfl) | (apply WpA.cd; constructor) | ((first | with_reducible refine WpA.go _ rfl fun Y y => ?_ | apply RunTo.id); simp only [zb, seval, w25]; refine RunTo.fn y (by first | (simp; done) | omega | (simp; omega)) ?_; clear y Y))))
   refine ⟨by simp, _, _, _, _, (by simp only [zb, seval, w25]; rfl), (by simp), (by simp only [zv]; rfl), (by simp), _, ALe.refl _, ?_⟩
   simp
  | true =>
   cases eb with
   | false =>
    refine Fn.intro Tryd.func25 rfl Tryd.ntmps25 Tryd.results25 (by simp only [List.length_cons, List.length_nil]; decide) ?_
    repeat (first | (apply fw; (with_reducible constructor) <;> rfl) | (apply WpA.cd; constructor) | ((first | with_reducible refine WpA.go _ rfl fun Y y => ?_ | apply RunTo.id); simp only [zb, seval, w25]; refine RunTo.fn y (by first | (simp; done) | omega | (simp; omega)) ?_; clear y Y))
    (refine WpA.draw0 10 _ _ _ rfl rfl rfl (by kernel_rfl) (by kernel_rfl) (by kernel_rfl) fun K8 hK8 => ?_); simp only [zz] at hK8 ⊢; (refine Draw0.go fun K7 hK7 => ?_); simp only [zb, seval, w25]; (refine RunQ.mk (by first | (simp; done) | omega | (simp; omega)) (hK7 _ _ ?_)); clear hK7 K7; (try ((refine Draw0.nil (hK8 _ ?_)); clear hK8 K8; (refine WpL.go _ rfl fun Y y => ?_); repeat (first | (apply fw; (with_reducible constructor) <;> rfl) | (apply WpA.cd; constructor) | ((first | with_reducible refine WpA.go _ rfl fun Y y => ?_ | apply RunTo.id); simp only [zb, seval, w25]; refine RunTo.fn y (by first | (simp; done) | omega | (simp; omega)) ?_; clear y Y))))
    refine Draw0.step (OpS.shut rfl rfl rfl (by kernel_rfl) (ALes.refl _) (by first | rfl | simp [shuts, A.shut, C.shut]) (hcn)) ?_
    (refine Draw0.go fun K7 hK7 => ?_); simp only [zb, seval, w25]; (refine RunQ.mk (by first | (simp; done) | omega | (simp; omega)) (hK7 _ _ ?_)); clear hK7 K7; (try ((refine Draw0.nil (hK8 _ ?_)); clear hK8 K8; (refine WpL.go _ rfl fun Y y => ?_); repeat (first | (apply fw; (with_reducible constructor) <;> rfl) | (apply WpA.cd; constructor) | ((first | with_reducible refine WpA.go _ rfl fun Y y => ?_ | apply RunTo.id); simp only [zb, seval, w25]; refine RunTo.fn y (by first | (simp; done) | omega | (simp; omega)) ?_; clear y Y))))
    refine Draw0.step (OpS.shut rfl rfl rfl (by kernel_rfl) (ALes.refl _) (by first | rfl | simp [shuts, A.shut, C.shut]) (hbr)) ?_
    (refine Draw0.go fun K7 hK7 => ?_); simp only [zb, seval, w25]; (refine RunQ.mk (by first | (simp; done) | omega | (simp; omega)) (hK7 _ _ ?_)); clear hK7 K7; (try ((refine Draw0.nil (hK8 _ ?_)); clear hK8 K8; (refine WpL.go _ rfl fun Y y => ?_); repeat (first | (apply fw; (with_reducible constructor) <;> rfl) | (apply WpA.cd; constructor) | ((first | with_reducible refine WpA.go _ rfl fun Y y => ?_ | apply RunTo.id); simp only [zb, seval, w25]; refine RunTo.fn y (by first | (simp; done) | omega | (simp; omega)) ?_; clear y Y))))
    refine Draw0.step (OpS.shut rfl rfl rfl (by kernel_rfl) (ALes.refl _) (by first | rfl | simp [shuts, A.shut, C.shut]) (hsa)) ?_
    (refine Draw0.go fun K7 hK7 => ?_); simp only [zb, seval, w25]; (refine RunQ.mk (by first | (simp; done) | omega | (simp; omega)) (hK7 _ _ ?_)); clear hK7 K7; (try ((refine Draw0.nil (hK8 _ ?_)); clear hK8 K8; (refine WpL.go _ rfl fun Y y => ?_); repeat (first | (apply fw; (with_reducible constructor) <;> rfl) | (apply WpA.cd; constructor) | ((first | with_reducible refine WpA.go _ rfl fun Y y => ?_ | apply RunTo.id); simp only [zb, seval, w25]; refine RunTo.fn y (by first | (simp; done) | omega | (simp; omega)) ?_; clear y Y))))
    refine ⟨by simp, _, _, _, _, (by simp only [zb, seval, w25]; rfl), (by simp), (by simp only [zv]; rfl), (by simp), _, ALe.refl _, ?_⟩
    simp
   | true =>
    simp only [Bool.true_and]
    refine Fn.intro Tryd.func25 rfl Tryd.ntmps25 Tryd.results25 (by simp only [List.length_cons, List.length_nil]; decide) ?_
    repeat (first | (apply fw; (with_reducible constructor) <;> rfl) | (apply WpA.cd; constructor) | ((first | with_reducible refine WpA.go _ rfl fun Y y => ?_ | apply RunTo.id); simp only [zb, seval, w25]; refine RunTo.fn y (by first | (simp; done) | omega | (simp; omega)) ?_; clear y Y))
    (refine WpA.draw0 10 _ _ _ rfl rfl rfl (by kernel_rfl) (by kernel_rfl) (by kernel_rfl) fun K8 hK8 => ?_); simp only [zz] at hK8 ⊢; (refine Draw0.go fun K7 hK7 => ?_); simp only [zb, seval, w25]; (refine RunQ.mk (by first | (simp; done) | omega | (simp; omega)) (hK7 _ _ ?_)); clear hK7 K7; (try ((refine Draw0.nil (hK8 _ ?_)); clear hK8 K8; (refine WpL.go _ rfl fun Y y => ?_); repeat (first | (apply fw; (with_reducible constructor) <;> rfl) | (apply WpA.cd; constructor) | ((first | with_reducible refine WpA.go _ rfl fun Y y => ?_ | apply RunTo.id); simp only [zb, seval, w25]; refine RunTo.fn y (by first | (simp; done) | omega | (simp; omega)) ?_; clear y Y))))
    refine Draw0.step (OpS.shut rfl rfl rfl (by kernel_rfl) (ALes.refl _) (by first | rfl | simp [shuts, A.shut, C.shut]) (hcn)) ?_
    (refine Draw0.go fun K7 hK7 => ?_); simp only [zb, seval, w25]; (refine RunQ.mk (by first | (simp; done) | omega | (simp; omega)) (hK7 _ _ ?_)); clear hK7 K7; (try ((refine Draw0.nil (hK8 _ ?_)); clear hK8 K8; (refine WpL.go _ rfl fun Y y => ?_); repeat (first | (apply fw; (with_reducible constructor) <;> rfl) | (apply WpA.cd; constructor) | ((first | with_reducible refine WpA.go _ rfl fun Y y => ?_ | apply RunTo.id); simp only [zb, seval, w25]; refine RunTo.fn y (by first | (simp; done) | omega | (simp; omega)) ?_; clear y Y))))
    refine Draw0.step (OpS.shut rfl rfl rfl (by kernel_rfl) (ALes.refl _) (by first | rfl | simp [shuts, A.shut, C.shut]) (hbr)) ?_
    (refine Draw0.go fun K7 hK7 => ?_); simp only [zb, seval, w25]; (refine RunQ.mk (by first | (simp; done) | omega | (simp; omega)) (hK7 _ _ ?_)); clear hK7 K7; (try ((refine Draw0.nil (hK8 _ ?_)); clear hK8 K8; (refine WpL.go _ rfl fun Y y => ?_); repeat (first | (apply fw; (with_reducible constructor) <;> rfl) | (apply WpA.cd; constructor) | ((first | with_reducible refine WpA.go _ rfl fun Y y => ?_ | apply RunTo.id); simp only [zb, seval, w25]; refine RunTo.fn y (by first | (simp; done) | omega | (simp; omega)) ?_; clear y Y))))
    refine Draw0.step (OpS.shut rfl rfl rfl (by kernel_rfl) (ALes.refl _) (by first | rfl | simp [shuts, A.shut, C.shut]) (hsa)) ?_
    by_cases k1 : k = 1
    ·subst k1
     (refine Draw0.go fun K7 hK7 => ?_); simp only [zb, seval, w25]; (refine RunQ.mk (by first | (simp; done) | omega | (simp; omega)) (hK7 _ _ ?_)); clear hK7 K7; (try ((refine Draw0.nil (hK8 _ ?_)); clear hK8 K8; (refine WpL.go _ rfl fun Y y => ?_); repeat (first | (apply fw; (with_reducible constructor) <;> rfl) | (apply WpA.cd; constructor) | ((first | with_reducible refine WpA.go _ rfl fun Y y => ?_ | apply RunTo.id); simp only [zb, seval, w25]; refine RunTo.fn y (by first | (simp; done) | omega | (simp; omega)) ?_; clear y Y))))
     refine WpL.call rfl (guardA_sound (P := Tryd.prog) rfl) (CallA.shut rfl rfl (by kernel_rfl) (ALes.refl _) (by first | rfl | simp [shuts, A.shut, C.shut]) (hdm) ?_)
     (refine WpL.go _ rfl fun Y y => ?_); repeat (first | (apply fw; (with_reducible constructor) <;> rfl) | (apply WpA.cd; constructor) | ((first | with_reducible refine WpA.go _ rfl fun Y y => ?_ | apply RunTo.id); simp only [zb, seval, w25]; refine RunTo.fn y (by first | (simp; done) | omega | (simp; omega)) ?_; clear y Y))
     refine ⟨by simp, _, _, _, _, (by simp only [zb, seval, w25]; rfl), (by simp), (by simp only [zv]; rfl), (by simp), _, ALe.refl _, ?_⟩
     simp
    by_cases k4 : k = 4
    ·subst k4
     cases top with
     | false =>
      (refine Draw0.go fun K7 hK7 => ?_); simp only [zb, seval, w25]; (refine RunQ.mk (by first | (simp; done) | omega | (simp; omega)) (hK7 _ _ ?_)); clear hK7 K7; (try ((refine Draw0.nil (hK8 _ ?_)); clear hK8 K8; (refine WpL.go _ rfl fun Y y => ?_); repeat (first | (apply fw; (with_reducible constructor) <;> rfl) | (apply WpA.cd; constructor) | ((first | with_reducible refine WpA.go _ rfl fun Y y => ?_ | apply RunTo.id); simp only [zb, seval, w25]; refine RunTo.fn y (by first | (simp; done) | omega | (simp; omega)) ?_; clear y Y))))
      refine ⟨by simp, _, _, _, _, (by simp only [zb, seval, w25]; rfl), (by simp), (by simp only [zv]; rfl), (by simp), _, ALe.refl _, ?_⟩
      simp
     | true =>
      cases hn : eqB name ⟨#[]⟩ with
      | true =>
       (refine Draw0.go fun K7 hK7 => ?_); simp only [zb, seval, w25, strEq, hn]; (refine RunQ.mk (by first | (simp; done) | omega | (simp; omega)) (hK7 _ _ ?_)); clear hK7 K7; (try ((refine Draw0.nil (hK8 _ ?_)); clear hK8 K8; (refine WpL.go _ rfl fun Y y => ?_); repeat (first | (apply fw; (with_reducible constructor) <;> rfl) | (apply WpA.cd; constructor) | ((first | with_reducible refine WpA.go _ rfl fun Y y => ?_ | apply RunTo.id); simp only [zb, seval, w25, strEq, hn]; refine RunTo.fn y (by first | (simp; done) | omega | (simp; omega)) ?_; clear y Y))))
       refine ⟨by simp, _, _, _, _, (by simp only [zb, seval, w25]; rfl), (by simp), (by simp only [zv]; rfl), (by simp), _, ALe.refl _, ?_⟩
       simp [hn]
      | false =>
       (refine Draw0.go fun K7 hK7 => ?_); simp only [zb, seval, w25, strEq, hn]; (refine RunQ.mk (by first | (simp; done) | omega | (simp; omega)) (hK7 _ _ ?_)); clear hK7 K7; (try ((refine Draw0.nil (hK8 _ ?_)); clear hK8 K8; (refine WpL.go _ rfl fun Y y => ?_); repeat (first | (apply fw; (with_reducible constructor) <;> rfl) | (apply WpA.cd; constructor) | ((first | with_reducible refine WpA.go _ rfl fun Y y => ?_ | apply RunTo.id); simp only [zb, seval, w25, strEq, hn]; refine RunTo.fn y (by first | (simp; done) | omega | (simp; omega)) ?_; clear y Y))))
       refine WpL.call rfl (guardA_sound (P := Tryd.prog) rfl) (CallA.lend rfl rfl (by kernel_rfl) (by simp only [zv]; rfl) (by first | exact trivial | (simp; done) | (simp [C.shut]; done)) rfl (hcf false) ?_)
       (refine WpL.go _ rfl fun Y y => ?_); repeat (first | (apply fw; (with_reducible constructor) <;> rfl) | (apply WpA.cd; constructor) | ((first | with_reducible refine WpA.go _ rfl fun Y y => ?_ | apply RunTo.id); simp only [zb, seval, w25]; refine RunTo.fn y (by first | (simp; done) | omega | (simp; omega)) ?_; clear y Y))
       refine ⟨by simp, _, _, _, _, (by simp only [zb, seval, w25]; rfl), (by simp), (by simp only [zv]; rfl), (by simp), _, ALe.refl _, ?_⟩
       rw [K.mays_any]; simp [hn]
    by_cases kr : k = 2 ∨ k = 3 ∨ k = 10
    ·cases hn : eqB name ⟨#[]⟩ with
     | true =>
      rcases kr with rfl | rfl | rfl
      all_goals
       (refine Draw0.go fun K7 hK7 => ?_); simp only [zb, seval, w25, strEq, hn]; (refine RunQ.mk (by first | (simp; done) | omega | (simp; omega)) (hK7 _ _ ?_)); clear hK7 K7; (try ((refine Draw0.nil (hK8 _ ?_)); clear hK8 K8; (refine WpL.go _ rfl fun Y y => ?_); repeat (first | (apply fw; (with_reducible constructor) <;> rfl) | (apply WpA.cd; constructor) | ((first | with_reducible refine WpA.go _ rfl fun Y y => ?_ | apply RunTo.id); simp only [zb, seval, w25, strEq, hn]; refine RunTo.fn y (by first | (simp; done) | omega | (simp; omega)) ?_; clear y Y))))
       refine ⟨by simp, _, _, _, _, (by simp only [zb, seval, w25]; rfl), (by simp), (by simp only [zv]; rfl), (by simp), _, ALe.refl _, ?_⟩
       simp [hn]
     | false =>
      cases top <;> rcases kr with rfl | rfl | rfl
      all_goals
       (refine Draw0.go fun K7 hK7 => ?_); simp only [zb, seval, w25, strEq, hn]; (refine RunQ.mk (by first | (simp; done) | omega | (simp; omega)) (hK7 _ _ ?_)); clear hK7 K7; (try ((refine Draw0.nil (hK8 _ ?_)); clear hK8 K8; (refine WpL.go _ rfl fun Y y => ?_); repeat (first | (apply fw; (with_reducible constructor) <;> rfl) | (apply WpA.cd; constructor) | ((first | with_reducible refine WpA.go _ rfl fun Y y => ?_ | apply RunTo.id); simp only [zb, seval, w25, strEq, hn]; refine RunTo.fn y (by first | (simp; done) | omega | (simp; omega)) ?_; clear y Y))))
       refine WpL.call rfl (guardA_sound (P := Tryd.prog) rfl) (CallA.lend rfl rfl (by kernel_rfl) (by simp only [zv]; rfl) (by first | exact trivial | (simp; done) | (simp [C.shut]; done)) rfl (hcf false) ?_)
       (refine WpL.go _ rfl fun Y y => ?_); repeat (first | (apply fw; (with_reducible constructor) <;> rfl) | (apply WpA.cd; constructor) | ((first | with_reducible refine WpA.go _ rfl fun Y y => ?_ | apply RunTo.id); simp only [zb, seval, w25]; refine RunTo.fn y (by first | (simp; done) | omega | (simp; omega)) ?_; clear y Y))
       refine ⟨by simp, _, _, _, _, (by simp only [zb, seval, w25]; rfl), (by simp), (by simp only [zv]; rfl), (by simp), _, ALe.refl _, ?_⟩
       rw [K.mays_any]; simp [hn]
    have k2 : k ≠ 2 := fun e => kr (.inl e)
    have k3 : k ≠ 3 := fun e => kr (.inr (.inl e))
    have k10 : k ≠ 10 := fun e => kr (.inr (.inr e))
    by_cases k6 : k = 6
    ·subst k6
     cases vb with
     | false =>
      (refine Draw0.go fun K7 hK7 => ?_); simp only [zb, seval, w25]; (refine RunQ.mk (by first | (simp; done) | omega | (simp; omega)) (hK7 _ _ ?_)); clear hK7 K7; (try ((refine Draw0.nil (hK8 _ ?_)); clear hK8 K8; (refine WpL.go _ rfl fun Y y => ?_); repeat (first | (apply fw; (with_reducible constructor) <;> rfl) | (apply WpA.cd; constructor) | ((first | with_reducible refine WpA.go _ rfl fun Y y => ?_ | apply RunTo.id); simp only [zb, seval, w25]; refine RunTo.fn y (by first | (simp; done) | omega | (simp; omega)) ?_; clear y Y))))
      refine WpL.call rfl (guardA_sound (P := Tryd.prog) rfl) (CallA.shut rfl rfl (by kernel_rfl) (ALes.refl _) (by first | rfl | simp [shuts, A.shut, C.shut]) (hal) ?_)
      (refine WpL.go _ rfl fun Y y => ?_); repeat (first | (apply fw; (with_reducible constructor) <;> rfl) | (apply WpA.cd; constructor) | ((first | with_reducible refine WpA.go _ rfl fun Y y => ?_ | apply RunTo.id); simp only [zb, seval, w25]; refine RunTo.fn y (by first | (simp; done) | omega | (simp; omega)) ?_; clear y Y))
      refine WpL.call rfl (guardA_sound (P := Tryd.prog) rfl) (CallA.shut rfl rfl (by kernel_rfl) (ALes.refl _) (by first | rfl | simp [shuts, A.shut, C.shut]) (hva) ?_)
      (refine WpL.go _ rfl fun Y y => ?_); repeat (first | (apply fw; (with_reducible constructor) <;> rfl) | (apply WpA.cd; constructor) | ((first | with_reducible refine WpA.go _ rfl fun Y y => ?_ | apply RunTo.id); simp only [zb, seval, w25]; refine RunTo.fn y (by first | (simp; done) | omega | (simp; omega)) ?_; clear y Y))
      refine ⟨by simp, _, _, _, _, (by simp only [zb, seval, w25]; rfl), (by simp), (by simp only [zv]; rfl), (by simp), _, ALe.refl _, ?_⟩
      simp
     | true =>
      cases top
      all_goals
       (refine Draw0.go fun K7 hK7 => ?_); simp only [zb, seval, w25]; (refine RunQ.mk (by first | (simp; done) | omega | (simp; omega)) (hK7 _ _ ?_)); clear hK7 K7; (try ((refine Draw0.nil (hK8 _ ?_)); clear hK8 K8; (refine WpL.go _ rfl fun Y y => ?_); repeat (first | (apply fw; (with_reducible constructor) <;> rfl) | (apply WpA.cd; constructor) | ((first | with_reducible refine WpA.go _ rfl fun Y y => ?_ | apply RunTo.id); simp only [zb, seval, w25]; refine RunTo.fn y (by first | (simp; done) | omega | (simp; omega)) ?_; clear y Y))))
       refine WpL.call rfl (guardA_sound (P := Tryd.prog) rfl) (CallA.shut rfl rfl (by kernel_rfl) (ALes.refl _) (by first | rfl | simp [shuts, A.shut, C.shut]) (hal) ?_)
       (refine WpL.go _ rfl fun Y y => ?_); repeat (first | (apply fw; (with_reducible constructor) <;> rfl) | (apply WpA.cd; constructor) | ((first | with_reducible refine WpA.go _ rfl fun Y y => ?_ | apply RunTo.id); simp only [zb, seval, w25]; refine RunTo.fn y (by first | (simp; done) | omega | (simp; omega)) ?_; clear y Y))
       refine WpL.call rfl (guardA_sound (P := Tryd.prog) rfl) (CallA.shut rfl rfl (by kernel_rfl) (ALes.refl _) (by first | rfl | simp [shuts, A.shut, C.shut]) (hva) ?_)
       (refine WpL.go _ rfl fun Y y => ?_); repeat (first | (apply fw; (with_reducible constructor) <;> rfl) | (apply WpA.cd; constructor) | ((first | with_reducible refine WpA.go _ rfl fun Y y => ?_ | apply RunTo.id); simp only [zb, seval, w25]; refine RunTo.fn y (by first | (simp; done) | omega | (simp; omega)) ?_; clear y Y))
       refine WpL.call rfl (guardA_sound (P := Tryd.prog) rfl) (CallA.lend rfl rfl (by kernel_rfl) (by simp only [zv]; rfl) (by first | exact trivial | (simp; done) | (simp [C.shut]; done)) rfl (hcf false) ?_)
       (refine WpL.go _ rfl fun Y y => ?_); repeat (first | (apply fw; (with_reducible constructor) <;> rfl) | (apply WpA.cd; constructor) | ((first | with_reducible refine WpA.go _ rfl fun Y y => ?_ | apply RunTo.id); simp only [zb, seval, w25]; refine RunTo.fn y (by first | (simp; done) | omega | (simp; omega)) ?_; clear y Y))
       refine ⟨by simp, _, _, _, _, (by simp only [zb, seval, w25]; rfl), (by simp), (by simp only [zv]; rfl), (by simp), _, ALe.refl _, ?_⟩
       rw [K.mays_any]; simp
    by_cases k7 : k = 7
    ·subst k7
     cases top with
     | false =>
      (refine Draw0.go fun K7 hK7 => ?_); simp only [zb, seval, w25]; (refine RunQ.mk (by first | (simp; done) | omega | (simp; omega)) (hK7 _ _ ?_)); clear hK7 K7; (try ((refine Draw0.nil (hK8 _ ?_)); clear hK8 K8; (refine WpL.go _ rfl fun Y y => ?_); repeat (first | (apply fw; (with_reducible constructor) <;> rfl) | (apply WpA.cd; constructor) | ((first | with_reducible refine WpA.go _ rfl fun Y y => ?_ | apply RunTo.id); simp only [zb, seval, w25]; refine RunTo.fn y (by first | (simp; done) | omega | (simp; omega)) ?_; clear y Y))))
      refine WpL.call rfl (guardA_sound (P := Tryd.prog) rfl) (CallA.lend rfl rfl (by kernel_rfl) (by simp only [zv]; rfl) (by first | exact trivial | (simp; done) | (simp [C.shut]; done)) rfl (hcf false) ?_)
      (refine WpL.go _ rfl fun Y y => ?_); repeat (first | (apply fw; (with_reducible constructor) <;> rfl) | (apply WpA.cd; constructor) | ((first | with_reducible refine WpA.go _ rfl fun Y y => ?_ | apply RunTo.id); simp only [zb, seval, w25]; refine RunTo.fn y (by first | (simp; done) | omega | (simp; omega)) ?_; clear y Y))
      refine ⟨by simp, _, _, _, _, (by simp only [zb, seval, w25]; rfl), (by simp), (by simp only [zv]; rfl), (by simp), _, ALe.refl _, ?_⟩
      rw [K.mays_any]; simp
     | true =>
      (refine Draw0.go fun K7 hK7 => ?_); simp only [zb, seval, w25]; (refine RunQ.mk (by first | (simp; done) | omega | (simp; omega)) (hK7 _ _ ?_)); clear hK7 K7; (try ((refine Draw0.nil (hK8 _ ?_)); clear hK8 K8; (refine WpL.go _ rfl fun Y y => ?_); repeat (first | (apply fw; (with_reducible constructor) <;> rfl) | (apply WpA.cd; constructor) | ((first | with_reducible refine WpA.go _ rfl fun Y y => ?_ | apply RunTo.id); simp only [zb, seval, w25]; refine RunTo.fn y (by first | (simp; done) | omega | (simp; omega)) ?_; clear y Y))))
      refine WpL.call rfl (guardA_sound (P := Tryd.prog) rfl) (CallA.lend rfl rfl (by kernel_rfl) (by simp only [zv]; rfl) (by first | exact trivial | (simp; done) | (simp [C.shut]; done)) rfl (hcf true) ?_)
      (refine WpL.go _ rfl fun Y y => ?_); repeat (first | (apply fw; (with_reducible constructor) <;> rfl) | (apply WpA.cd; constructor) | ((first | with_reducible refine WpA.go _ rfl fun Y y => ?_ | apply RunTo.id); simp only [zb, seval, w25]; refine RunTo.fn y (by first | (simp; done) | omega | (simp; omega)) ?_; clear y Y))
      refine ⟨by simp, _, _, _, _, (by simp only [zb, seval, w25]; rfl), (by simp), (by simp only [zv]; rfl), (by simp), _, ALe.refl _, ?_⟩
      rw [K.mays_any]; simp
    have b1 : (k == 1) = false := by simp [k1]
    have b2 : (k == 2) = false := by simp [k2]
    have b3 : (k == 3) = false := by simp [k3]
    have b4 : (k == 4) = false := by simp [k4]
    have b6 : (k == 6) = false := by simp [k6]
    have b7 : (k == 7) = false := by simp [k7]
    have b10 : (k == 10) = false := by simp [k10]
    cases top
    all_goals
     (refine Draw0.go fun K7 hK7 => ?_); simp only [zb, seval, w25, b1, b2, b3, b4, b6, b7, b10]; (refine RunQ.mk (by first | (simp; done) | omega | (simp; omega)) (hK7 _ _ ?_)); clear hK7 K7; (try ((refine Draw0.nil (hK8 _ ?_)); clear hK8 K8; (refine WpL.go _ rfl fun Y y => ?_); repeat (first | (apply fw; (with_reducible constructor) <;> rfl) | (apply WpA.cd; constructor) | ((first | with_reducible refine WpA.go _ rfl fun Y y => ?_ | apply RunTo.id); simp only [zb, seval, w25, b1, b2, b3, b4, b6, b7, b10]; refine RunTo.fn y (by first | (simp; done) | omega | (simp; omega)) ?_; clear y Y))))
     refine WpL.call rfl (guardA_sound (P := Tryd.prog) rfl) (CallA.lend rfl rfl (by kernel_rfl) (by simp only [zv]; rfl) (by first | exact trivial | (simp; done) | (simp [C.shut]; done)) rfl (hcf false) ?_)
     (refine WpL.go _ rfl fun Y y => ?_); repeat (first | (apply fw; (with_reducible constructor) <;> rfl) | (apply WpA.cd; constructor) | ((first | with_reducible refine WpA.go _ rfl fun Y y => ?_ | apply RunTo.id); simp only [zb, seval, w25, b1, b2, b3, b4, b6, b7, b10]; refine RunTo.fn y (by first | (simp; done) | omega | (simp; omega)) ?_; clear y Y))
     refine ⟨by simp, _, _, _, _, (by simp only [zb, seval, w25]; rfl), (by simp), (by simp only [zv]; rfl), (by simp), _, ALe.refl _, ?_⟩
     rw [K.mays_any]; simp [k1, k2, k3, k4, k6, k7, k10]
theorem may_pure (c : K) (hok : c.Ok) (hsm : c.Sm) : Pure Tryd.prog 12 [.agg c.cc] (.one (.v (.bool (c.may true)))) := by
 have h := may_upto c.ht c true (Nat.le_refl _) hok hsm
 rw [K.cc_eq] at h ⊢
 refine Fn.intro Tryd.func12 rfl Tryd.ntmps12 Tryd.results12 (by simp only [List.length_cons, List.length_nil]; decide) ?_
 repeat (first | (apply fw; (with_reducible constructor) <;> rfl) | (apply WpA.cd; constructor) | ((first | with_reducible refine WpA.go _ rfl fun Y y => ?_ | apply RunTo.id); simp only [zb, seval, ty_33]; refine RunTo.fn y (by first | (simp; done) | omega | (simp; omega)) ?_; clear y Y))
 refine WpL.call rfl (guardA_sound (P := Tryd.prog) rfl) (CallA.shut rfl rfl (by kernel_rfl) (ALes.refl _) (by first | rfl | simp [shuts, A.shut, C.shut]) (h) ?_)
 (refine WpL.go _ rfl fun Y y => ?_); repeat (first | (apply fw; (with_reducible constructor) <;> rfl) | (apply WpA.cd; constructor) | ((first | with_reducible refine WpA.go _ rfl fun Y y => ?_ | apply RunTo.id); simp only [zb, seval, ty_33]; refine RunTo.fn y (by first | (simp; done) | omega | (simp; omega)) ?_; clear y Y))
 refine ⟨by simp, _, _, _, _, (by simp only [zb, seval, ty_33]; rfl), (by simp), (by simp only [zv]; rfl), (by simp), _, ALe.refl _, ?_⟩
 rfl
theorem At.see {t : TypeId} {wd : Nat} {S : List (Option Ob)} {c : C} {rows : List (List C)} (h : At t wd S c rows) (hs : ∀ r ∈ rows, ∀ c ∈ r, C.shut c = true) : ∃ p c', viewC S c = some (p, c') ∧ p ∧ ∀ l k, CLes l k → CLes (c' :: l) (.sl wd rows :: k) := by
 rcases h with ⟨rfl, rfl⟩ | ⟨hne, j, rfl, hj⟩
 ·exact ⟨True, .v (.slice none 0 0), rfl, trivial, fun l k h => CLes.nil h⟩
 ·exact ⟨rows.length = rows.length ∧ ∀ e ∈ rows, ∀ c ∈ e, C.shut c = true, .sl wd rows, by simp only [viewC, hj], ⟨rfl, hs⟩, fun l k h => CLes.cons h⟩
theorem nd_shut (l : List Nd) : ∀ e ∈ l.map Nd.row, ∀ c ∈ e, C.shut c = true := fun e he c hc => by
 obtain ⟨s, _, rfl⟩ := List.mem_map.1 he
 simp only [Nd.row, List.mem_cons, List.not_mem_nil, or_false] at hc
 rcases hc with rfl | rfl | rfl | rfl <;> simp [C.shut]
theorem dat_shut (l : List D) : ∀ e ∈ l.map D.cc, ∀ c ∈ e, C.shut c = true := fun e he c hc => by
 obtain ⟨s, _, rfl⟩ := List.mem_map.1 he
 rw [D.cc_eq] at hc
 simp only [List.mem_cons, List.not_mem_nil, or_false] at hc
 rcases hc with rfl | rfl | rfl | rfl | rfl | rfl <;> simp [C.shut]
def codeC (c : Cd) : List C := [.sl 4 (c.nodes.map Nd.row), .sl 6 (c.consts.map D.cc), .sl 1 (strC c.globals), .sl 1 (strC c.prims), .sl 1 (intC c.tops)]
def Cd.zero : Cd := ⟨[], [], [], [], []⟩
noncomputable def topN (c : Cd) (x : K) : Cd := { putN c x [] with tops := c.tops ++ [(c.nodes.length : Int)] }
noncomputable def codeN (l : List K) : Cd := l.foldl topN .zero
theorem codeN_take {l : List K} {i : Nat} (h : i < l.length) : codeN (l.take (i + 1)) = topN (codeN (l.take i)) l[i] := by
 rw [List.take_succ_eq_append_getElem h, codeN, List.foldl_append]; rfl
theorem codeN_len : ∀ l : List K, (codeN l).nodes.length = K.sizes l := by
 intro l
 have key : ∀ (l : List K) (c : Cd), (l.foldl topN c).nodes.length = c.nodes.length + K.sizes l := by
  intro l
  induction l with
  | nil => intro c; simp [K.sizes]
  | cons x l ih =>
   intro c
   rw [List.foldl_cons, ih, K.sizes]
   show (putN c x []).nodes.length + _ = _
   rw [putN_len]; omega
 have := key l .zero
 simpa [codeN, Cd.zero] using this
theorem codeN_most : ∀ l : List K, (codeN l).most ≤ K.sizes l := by
 intro l
 have key : ∀ (l : List K) (c : Cd), (l.foldl topN c).most ≤ c.most + K.sizes l := by
  intro l
  induction l with
  | nil => intro c; simp [K.sizes]
  | cons x l ih =>
   intro c
   rw [List.foldl_cons, K.sizes]
   have h1 := ih (topN c x)
   have h2 : (topN c x).most ≤ c.most + x.size := putN_most c x []
   omega
 have := key l .zero
 simpa [codeN, Cd.zero, Cd.most] using this
theorem codeN_tops : ∀ l : List K, (codeN l).tops.length = l.length := by
 intro l
 have key : ∀ (l : List K) (c : Cd), (l.foldl topN c).tops.length = c.tops.length + l.length := by
  intro l
  induction l with
  | nil => intro c; simp
  | cons x l ih =>
   intro c
   rw [List.foldl_cons, ih]
   simp [topN]; omega
 have := key l .zero
 simpa [codeN, Cd.zero] using this
noncomputable def codeA (l : List K) : A := if l.all (·.may true) then .tup [.agg (codeC (codeN l)), .one (.v (.int .i64 0))] else .tup [.agg (codeC .zero), .one (.v (.int .i64 1))]
theorem CoderIn.newT {p : Nat} {S S1 : List (Option Ob)} {c : Cd} {cN cC cG cP cT cT' : C} {T' : List Int} (hI : CoderIn p S c cN cC cG cP cT) (hA : At 3 1 S1 cT' (intC T')) (hl : S.length ≤ S1.length) (hfr : ∀ (j : Nat) (o : Option Ob), S[j]? = some o → (∀ n, cT ≠ .ms j n) → S1[j]? = some o) :
  CoderIn p (S1.set p (some ⟨64, 5, [[cN, cC, cG, cP, cT']]⟩)) { c with tops := T' } cN cC cG cP cT' ∧ Frm p [3] S (S1.set p (some ⟨64, 5, [[cN, cC, cG, cP, cT']]⟩)) := by
 have hpS : p < S.length := (List.getElem?_eq_some_iff.1 hI.1).1
 have hP := hI.2.2.2.2.2.1
 have g1 := hfr p _ hI.1 (hP.apart hI.1 (by show (64 : Nat) ≠ _; decide))
 have stays : ∀ (j : Nat) (ob : Ob) (a : Option Ob), S[j]? = some (some ob) → j ≠ p → (∀ n, cT ≠ .ms j n) → (S1.set p a)[j]? = some (some ob) := fun j ob a h1 h2 h3 => by
  rw [List.getElem?_set_ne (fun e => h2 e.symm)]
  exact hfr j _ h1 h3
 have np : ∀ {j : Nat} {ob : Ob}, S[j]? = some (some ob) → ob.ty ≠ 64 → j ≠ p := fun h1 h2 e => by subst e; rw [hI.1] at h1; cases h1; exact h2 rfl
 refine ⟨⟨List.getElem?_set_self (by omega), hI.2.1.stay fun j hj _ => stays j _ _ hj (np hj (by show (55 : Nat) ≠ _; decide)) (hP.apart hj (by show (55 : Nat) ≠ _; decide)), hI.2.2.1.stay fun j hj _ => stays j _ _ hj (np hj (by show (31 : Nat) ≠ _; decide)) (hP.apart hj (by show (31 : Nat) ≠ _; decide)), hI.2.2.2.1.stay fun j hj e => stays j _ _ hj (np hj (by show (9 : Nat) ≠ _; decide)) (hP.apart hj (by show (9 : Nat) ≠ _; decide)), hI.2.2.2.2.1.stay fun j hj e => stays j _ _ hj (np hj (by show (9 : Nat) ≠ _; decide)) (hP.apart hj (by show (9 : Nat) ≠ _; decide)), hA.stay fun j hj _ => ?_, hI.2.2.2.2.2.2⟩, by simp; omega, fun j ob h1 h2 h3 => stays j _ _ h1 h2 (hP.apart h1 (fun e => h3 (by simp [e])))⟩
 have n2 : p ≠ j := fun e => by subst e; rw [g1] at hj; cases hj
 rw [List.getElem?_set_ne n2]; exact hj
mutual
def K.Lg : K → Prop
 | .mk k _ _ params d l => (-9223372036854775808 ≤ k ∧ k ≤ 9223372036854775807) ∧ params.length ≤ 1000 ∧ d.Ok ∧ d.count < 1000000000 ∧ l.length ≤ 1000000000 ∧ K.Lgs l
def K.Lgs : List K → Prop
 | [] => True
 | c :: l => c.Lg ∧ K.Lgs l
end
theorem K.Lgs.get : ∀ {l : List K}, K.Lgs l → ∀ i (h : i < l.length), l[i].Lg
 | c :: l, h, 0, _ => h.1
 | c :: l, h, i + 1, hi => K.Lgs.get (l := l) h.2 i (by simpa using hi)
theorem K.Lgs.mem {l : List K} (h : K.Lgs l) {x : K} (hx : x ∈ l) : x.Lg := by
 obtain ⟨i, hi, rfl⟩ := List.mem_iff_getElem.1 hx
 exact h.get i hi
mutual
theorem K.Lg.ok : ∀ {c : K}, c.Lg → c.Ok
 | .mk _ _ _ _ _ _, h => ⟨h.1, by have := h.2.1; omega, h.2.2.1, by have := h.2.2.2.2.1; omega, K.Lgs.oks h.2.2.2.2.2⟩
theorem K.Lgs.oks : ∀ {l : List K}, K.Lgs l → K.Oks l
 | [], _ => trivial
 | c :: l, h => ⟨K.Lg.ok h.1, K.Lgs.oks h.2⟩
end
mutual
theorem K.Lg.sm : ∀ {c : K}, c.Lg → c.Sm
 | .mk _ _ _ _ _ _, h => ⟨by have := h.2.1; omega, h.2.2.2.1, K.Lgs.sms h.2.2.2.2.2⟩
theorem K.Lgs.sms : ∀ {l : List K}, K.Lgs l → K.Sms l
 | [], _ => trivial
 | c :: l, h => ⟨K.Lg.sm h.1, K.Lgs.sms h.2⟩
end
theorem cntB_kind {c : K} (h : cntB c = true) : 1 ≤ c.k ∧ c.k ≤ 10 := by
 unfold cntB at h
 split at h
 ·omega
 ·split at h
  ·omega
  ·split at h
   ·omega
   ·split at h
    ·omega
    ·split at h
     ·omega
     ·cases h
mutual
theorem K.Lg.pk : ∀ {c : K} {top : Bool}, c.Lg → c.may top = true → c.Pk
 | .mk k name rest params d l, top, h, hm => by
  rw [K.may] at hm
  simp only [Bool.and_eq_true] at hm
  have hk := cntB_kind hm.1.1
  have hms : ∃ t, K.mays l t = true := by
   by_cases k1 : k = 1
   ·subst k1
    have h0 := hm.1.1
    simp [cntB, K.k, K.l] at h0
    subst h0
    exact ⟨true, by simp [K.mays]⟩
   ·have := hm.2
    rw [if_neg k1] at this
    simp only [Bool.and_eq_true] at this
    exact ⟨_, this.2⟩
  obtain ⟨t, ht⟩ := hms
  exact ⟨hk, h.2.1, h.2.2.1, h.2.2.2.2.1, K.Lgs.pks h.2.2.2.2.2 ht⟩
theorem K.Lgs.pks : ∀ {l : List K} {t : Bool}, K.Lgs l → K.mays l t = true → K.Pks l
 | [], _, _, _ => trivial
 | c :: l, t, h, hm => by
  rw [K.mays, Bool.and_eq_true] at hm
  exact ⟨K.Lg.pk h.1 hm.1, K.Lgs.pks h.2 hm.2⟩
end
mutual
theorem K.ht_size : ∀ c : K, c.ht ≤ c.size
 | .mk _ _ _ _ _ l => by rw [K.ht, K.size]; have := K.hts_sizes l; omega
theorem K.hts_sizes : ∀ l : List K, K.hts l ≤ K.sizes l
 | [] => by rw [K.hts]; omega
 | c :: l => by rw [K.hts, K.sizes]; have := K.ht_size c; have := K.hts_sizes l; omega
end
theorem codeCl_pure (x : K) (h : x.Lg) : Pure Tryd.prog 28 (.agg x.cc :: ([] : List C).map .one) (.one (.v (.bool (!x.may true)))) := by
 have hm := may_pure x h.ok h.sm
 rw [K.cc_eq] at hm ⊢
 simp only [List.map_nil]
 refine Fn.intro Tryd.func28 rfl Tryd.ntmps28 Tryd.results28 (by simp only [List.length_cons, List.length_nil]; decide) ?_
 repeat (first | (apply fw; (with_reducible constructor) <;> rfl) | (apply WpA.cd; constructor) | ((first | with_reducible refine WpA.go _ rfl fun Y y => ?_ | apply RunTo.id); simp only [zb, seval, ty_33]; refine RunTo.fn y (by first | (simp; done) | omega | (simp; omega)) ?_; clear y Y))
 refine WpL.call rfl (guardA_sound (P := Tryd.prog) rfl) (CallA.shut rfl rfl (by kernel_rfl) (ALes.refl _) (by first | rfl | simp [shuts, A.shut, C.shut]) (hm) ?_)
 (refine WpL.go _ rfl fun Y y => ?_); repeat (first | (apply fw; (with_reducible constructor) <;> rfl) | (apply WpA.cd; constructor) | ((first | with_reducible refine WpA.go _ rfl fun Y y => ?_ | apply RunTo.id); simp only [zb, seval, ty_33]; refine RunTo.fn y (by first | (simp; done) | omega | (simp; omega)) ?_; clear y Y))
 refine ⟨by simp, _, _, _, _, (by simp only [zb, seval, ty_33]; rfl), (by simp), (by simp only [zv]; rfl), (by simp), _, ALe.refl _, ?_⟩
 rfl
def CodI (l : List K) (n : Nat) (st : St) : Prop := ∃ (i : Nat) (S : List (Option Ob)) (cN cC cG cP cT : C), n = l.length - i ∧ i ≤ l.length ∧ CoderIn 1 S (codeN (l.take i)) cN cC cG cP cT ∧ S[0]? = some (some ⟨39, 5, [[.v (.slice none 0 0), .v (.slice none 0 0), .v (.slice none 0 0), .v (.slice none 0 0), .v (.slice none 0 0)]]⟩) ∧
 st = ⟨[(15, .one (.v (.int .i64 i))), (14, .one (.v (.int .i64 l.length))), (13, .one (.sl 11 (l.map K.cc))), (4, .one (.ptr 1 1 0 0)), (2, .one (.ptr 0 1 0 0)), (3, .one (.v (.int .i64 0)))], S⟩
theorem code_pure (l : List K) (h : K.Lgs l) (hlen : l.length ≤ 1000000000) (hsz : K.sizes l ≤ 900000000) : Pure Tryd.prog 14 [.one (.sl 11 (l.map K.cc))] (codeA l) := by
 have hcf := containsF0_pure 28 true (by kernel_rfl) l (fun x => !x.may true) (by omega) (fun x hx => codeCl_pure x (h.mem hx))
 have hall : l.all (·.may true) = !(l.any fun x => !x.may true) := List.all_eq_not_any_not ..
 unfold codeA
 rw [hall]
 cases hany : l.any fun x => !x.may true with
 | true =>
  refine Fn.intro Tryd.func14 rfl Tryd.ntmps14 Tryd.results14 (by simp only [List.length_cons, List.length_nil]; decide) ?_
  repeat (first | (apply fw; (with_reducible constructor) <;> rfl) | (apply WpA.cd; constructor) | ((first | with_reducible refine WpA.go _ rfl fun Y y => ?_ | apply RunTo.id); simp only [zb, seval, w14]; refine RunTo.fn y (by first | (simp; done) | omega | (simp; omega)) ?_; clear y Y))
  refine WpL.call rfl (guardA_sound (P := Tryd.prog) rfl) (CallA.lend rfl rfl (by kernel_rfl) (by simp only [zv]; rfl) (by first | exact trivial | (simp; done) | (simp [C.shut]; done)) rfl (hcf) ?_)
  (refine WpL.go _ rfl fun Y y => ?_); repeat (first | (apply fw; (with_reducible constructor) <;> rfl) | (apply WpA.cd; constructor) | ((first | with_reducible refine WpA.go _ rfl fun Y y => ?_ | apply RunTo.id); simp only [zb, seval, w14, hany]; refine RunTo.fn y (by first | (simp; done) | omega | (simp; omega)) ?_; clear y Y))
  refine ⟨by simp, _, _, _, _, (by simp only [zb, seval, w14]; rfl), (by simp), (by simp only [zv]; rfl), (by simp), _, (by exact ALe.tup (ALes.cons (ALe.agg (CLes.nil (CLes.nil (CLes.nil (CLes.nil (CLes.nil (CLes.refl _))))))) (ALes.refl _))), rfl⟩
 | false =>
  rw [hany] at hall
  refine Fn.intro Tryd.func14 rfl Tryd.ntmps14 Tryd.results14 (by simp only [List.length_cons, List.length_nil]; decide) ?_
  repeat (first | (apply fw; (with_reducible constructor) <;> rfl) | (apply WpA.cd; constructor) | ((first | with_reducible refine WpA.go _ rfl fun Y y => ?_ | apply RunTo.id); simp only [zb, seval, w14]; refine RunTo.fn y (by first | (simp; done) | omega | (simp; omega)) ?_; clear y Y))
  refine WpL.call rfl (guardA_sound (P := Tryd.prog) rfl) (CallA.lend rfl rfl (by kernel_rfl) (by simp only [zv]; rfl) (by first | exact trivial | (simp; done) | (simp [C.shut]; done)) rfl (hcf) ?_)
  (refine WpL.go _ rfl fun Y y => ?_); repeat (first | (apply fw; (with_reducible constructor) <;> rfl) | (apply WpA.cd; constructor) | ((first | with_reducible refine WpA.go _ rfl fun Y y => ?_ | apply RunTo.id); simp only [zb, seval, w14, hany]; refine RunTo.fn y (by first | (simp; done) | omega | (simp; omega)) ?_; clear y Y))
  have hmay : ∀ x ∈ l, x.may true = true := fun x hx => by
   have := List.any_eq_false.1 hany x hx
   simpa using this
  simp only [Bool.not_false, if_true]
  refine WpA.loop (CodI l) l.length (st0 := ⟨[(15, .one (.v (.int .i64 (0 : Nat)))), (14, .one (.v (.int .i64 l.length))), (13, .one (.sl 11 (l.map K.cc))), (4, .one (.ptr 1 1 0 0)), (2, .one (.ptr 0 1 0 0)), (3, .one (.v (.int .i64 0)))], [some ⟨39, 5, [[.v (.slice none 0 0), .v (.slice none 0 0), .v (.slice none 0 0), .v (.slice none 0 0), .v (.slice none 0 0)]]⟩, some ⟨64, 5, [[.v (.slice none 0 0), .v (.slice none 0 0), .v (.slice none 0 0), .v (.slice none 0 0), .v (.slice none 0 0)]]⟩]⟩) (Le.sub (by simp [Sub, find])) ⟨0, _, _, _, _, _, _, rfl, Nat.zero_le _, ⟨rfl, At.nil _ _ _, At.nil _ _ _, At.nil _ _ _, At.nil _ _ _, At.nil _ _ _, fun j n m e => by cases e⟩, rfl, rfl⟩ ?_
  intro n' st hst
  obtain ⟨i, S', cN', cC', cG', cP', cT', rfl, hi, hI', hr0, rfl⟩ := hst
  have hw2 : IntKind.i64.wrap ((i : Int) + 1) = ((i + 1 : Nat) : Int) := by rw [wrap64 (by omega) (by omega)]; omega
  by_cases hlt : i < l.length
  ·have hd1 : decide ((i : Int) < (l.length : Int)) = true := by simp; omega
   have hget := getK hlt
   have hgl : ∀ z : Option Ob, (S' ++ [z])[S'.length]? = some z := fun z => by simp
   have hset : ∀ z y : Option Ob, (S' ++ [z]).set S'.length y = S' ++ [y] := fun z y => by simp
   have hml : l[i] ∈ l := List.getElem_mem _
   have htl := K.sizes_take_lt hlt
   have hmost := codeN_most (l.take i)
   have hnod := codeN_len (l.take i)
   have hht := l[i].ht_size
   have hput := put_fn l[i] ((h.mem hml).pk (hmay _ hml)) 1 (S' ++ [some (coreOb l[i])]) _ [] _ _ _ _ _ (hI'.app _) (by omega) (by omega) (by simp; omega) (by simp)
   have hsx : scX [] = .v (.slice none 0 0) := if_pos rfl
   have hp1 : ∀ T, (S' ++ T)[1]? = some (some ⟨64, 5, [[cN', cC', cG', cP', cT']]⟩) := fun T => up_app hI'.1
   rw [hsx] at hput
   rw [K.cc_eq] at hget hput
   simp only [coreOb] at hput
   repeat (first | (apply fw; (with_reducible constructor) <;> rfl) | (apply WpA.cd; constructor) | ((first | with_reducible refine WpA.go _ rfl fun Y y => ?_ | apply RunTo.id); simp only [zb, seval, w14, hd1, hget, hgl, hset, hp1]; refine RunTo.fn y (by first | (simp; done) | omega | (simp; omega)) ?_; clear y Y))
   refine WpL.handAll rfl (guardA_sound (P := Tryd.prog) rfl) rfl rfl (by kernel_rfl) (ALes.refl _) hput ?_
   rintro _ S7 ⟨rfl, ⟨cN7, cC7, cG7, cP7, hI7⟩, hF7⟩
   have hp7 := hI7.1
   (try simp only [St.put]); (refine WpL.op rfl (guardA_sound (P := Tryd.prog) rfl) (aop_sound (by simp only [zb, seval, w14]; rfl) (by first | (simp; done) | omega | (simp; omega))) ?_); simp only [St.put]
   refine WpL.nil ?_
   refine thenA_n ?_
   refine WpA.region ?_
   (try simp only [St.put]); (refine WpL.op rfl (guardA_sound (P := Tryd.prog) rfl) (aop_sound (by simp only [zb, seval, w14, hp7]; rfl) (by first | (simp; done) | omega | (simp; omega))) ?_); simp only [St.put]; (refine WpL.op rfl (guardA_sound (P := Tryd.prog) rfl) (aop_sound (by simp only [zb, seval, w14, hp7]; rfl) (by first | (simp; done) | omega | (simp; omega))) ?_); simp only [St.put]; (refine WpL.op rfl (guardA_sound (P := Tryd.prog) rfl) (aop_sound (by simp only [zb, seval, w14, hp7]; rfl) (by first | (simp; done) | omega | (simp; omega))) ?_); simp only [St.put]; (refine WpL.op rfl (guardA_sound (P := Tryd.prog) rfl) (aop_sound (by simp only [zb, seval, w14, hp7]; rfl) (by first | (simp; done) | omega | (simp; omega))) ?_); simp only [St.put]; (refine WpL.op rfl (guardA_sound (P := Tryd.prog) rfl) (aop_sound (by simp only [zb, seval, w14, hp7]; rfl) (by first | (simp; done) | omega | (simp; omega))) ?_); simp only [St.put]; (refine WpL.op rfl (guardA_sound (P := Tryd.prog) rfl) (aop_sound (by simp only [zb, seval, w14, hp7]; rfl) (by first | (simp; done) | omega | (simp; omega))) ?_); simp only [St.put]; (refine WpL.op rfl (guardA_sound (P := Tryd.prog) rfl) (aop_sound (by simp only [zb, seval, w14, hp7]; rfl) (by first | (simp; done) | omega | (simp; omega))) ?_); simp only [St.put]; (refine WpL.op rfl (guardA_sound (P := Tryd.prog) rfl) (aop_sound (by simp only [zb, seval, w14, hp7]; rfl) (by first | (simp; done) | omega | (simp; omega))) ?_); simp only [St.put]
   have ht7 : (putN (codeN (l.take i)) l[i] []).tops = (codeN (l.take i)).tops := rfl
   have htl2 : (codeN (l.take i)).tops.length ≤ l.length := by rw [codeN_tops, List.length_take]; omega
   obtain ⟨S8, jL, hA8, hj8, hl8, hfr8, hpl8, hop8⟩ := append_op (P := Tryd.prog) (T := 37) (by_ := 8) elt_37 byt_37 zel_37 (by omega) (S := S7 ++ [some ⟨3, 1, [[.v (.int .i64 ((codeN (l.take i)).nodes.length : Int))]]⟩]) (hI7.2.2.2.2.2.1.app _) (q := S7.length) (new := [[.v (.int .i64 ((codeN (l.take i)).nodes.length : Int))]]) (by simp) (by simp) (fun n e => by have := hI7.2.2.2.2.2.1.lt e; omega) (by rw [intC_len, ht7]; simp; omega) (by rw [intC_len, ht7]; simp; omega)
   have hrL : intC (putN (codeN (l.take i)) l[i] []).tops ++ [[.v (.int .i64 ((codeN (l.take i)).nodes.length : Int))]] = intC ((codeN (l.take i)).tops ++ [((codeN (l.take i)).nodes.length : Int)]) := by rw [intC_app]; rfl
   rw [hrL] at hA8
   simp only [List.length_cons, List.length_nil, Nat.zero_add] at hop8 hA8
   have hp8 := hfr8 _ _ (up_app hI7.1) (hI7.2.2.2.2.2.1.apart hI7.1 (by show (64 : Nat) ≠ _; decide))
   refine WpL.aop rfl (hop8 _ _ _ rfl rfl) ?_
   simp only [St.put]
   (refine WpL.go _ rfl fun Y y => ?_); repeat (first | (apply fw; (with_reducible constructor) <;> rfl) | (apply WpA.cd; constructor) | ((first | with_reducible refine WpA.go _ rfl fun Y y => ?_ | apply RunTo.id); simp only [zb, seval, w14, hp7, hp8, hw2]; refine RunTo.fn y (by first | (simp; done) | omega | (simp; omega)) ?_; clear y Y))
   have hR := hI7.newT hA8 (by simp at hl8; omega) (fun j o hj hn => hfr8 j o (up_app hj) hn)
   refine ⟨l.length - (i + 1), _, by omega, Le.sub (by simp [Sub, find]), i + 1, _, cN7, cC7, cG7, cP7, .ms jL ((intC (putN (codeN (l.take i)) l[i] []).tops).length + 1), rfl, hlt, ?_, hR.2.2 0 _ (hF7.2 0 _ (up_app hr0) (by omega) (by show (39 : Nat) ∉ _; decide)) (by omega) (by show (39 : Nat) ∉ _; decide), rfl⟩
   rw [codeN_take hlt]
   exact hR.1
  ·have hd0 : decide ((i : Int) < (l.length : Int)) = false := by simp; omega
   have hii : i = l.length := by omega
   subst hii
   rw [List.take_length] at hI'
   have hp1 := hI'.1
   repeat (first | (apply fw; (with_reducible constructor) <;> rfl) | (apply WpA.cd; constructor) | ((first | with_reducible refine WpA.go _ rfl fun Y y => ?_ | apply RunTo.id); simp only [zb, seval, w14, hd0, hp1, hr0]; refine RunTo.fn y (by first | (simp; done) | omega | (simp; omega)) ?_; clear y Y))
   repeat (first | (apply fw; (with_reducible constructor) <;> rfl) | (apply WpA.cd; constructor) | ((first | with_reducible refine WpA.go _ rfl fun Y y => ?_ | apply RunTo.id); simp only [zb, seval, w14, hd0, hp1, hr0]; refine RunTo.fn y (by first | (simp; done) | omega | (simp; omega)) ?_; clear y Y))
   have hne0 : ∀ (j : Nat) (ob : Ob), S'[j]? = some (some ob) → (j = 1 ∨ (∃ n, cN' = .ms j n) ∨ (∃ n, cC' = .ms j n) ∨ (∃ n, cG' = .ms j n) ∨ (∃ n, cP' = .ms j n) ∨ (∃ n, cT' = .ms j n)) → 0 ≠ j := fun j ob hj hc e => by
    subst e
    have := hI'.tys hj hc
    rw [hr0] at hj; cases hj
    rcases this with h | h | h | h | h <;> exact absurd h (by decide)
   have hI9 : CoderIn 1 (S'.set 0 (some ⟨39, 5, [[cN', cC', cG', cP', cT']]⟩)) (codeN l) cN' cC' cG' cP' cT' := hI'.keep fun j ob hj hc => by rw [List.getElem?_set_ne (hne0 j ob hj hc)]; exact hj
   have hl0 : 0 < S'.length := (List.getElem?_eq_some_iff.1 hr0).1
   obtain ⟨p1, c1, v1, w1, x1⟩ := hI9.2.1.see (nd_shut _)
   obtain ⟨p2, c2, v2, w2, x2⟩ := hI9.2.2.1.see (dat_shut _)
   obtain ⟨p3, c3, v3, w3, x3⟩ := hI9.2.2.2.1.see (strC_shut _)
   obtain ⟨p4, c4, v4, w4, x4⟩ := hI9.2.2.2.2.1.see (strC_shut _)
   obtain ⟨p5, c5, v5, w5, x5⟩ := hI9.2.2.2.2.2.1.see (intC_shut _)
   refine ⟨.inl rfl, _, _, _, _, (by simp only [zb, seval, List.getElem?_set_self hl0, w14]; rfl), by simp, (by simp only [tupA, viewA, viewAs, viewCs, viewC, v1, v2, v3, v4, v5]; rfl), by simp [w1, w2, w3, w4, w5], _, ALe.tup (ALes.cons (ALe.agg (x1 _ _ (x2 _ _ (x3 _ _ (x4 _ _ (x5 _ _ (CLes.refl _))))))) (ALes.refl _)), rfl⟩
end Go.Proofs.YtpacdmgnpadleaaDoor
end
