/-
  Laid together: REnc27, LawOne.
-/
import Derived.Test.YtdcmihhcpgkgiaaDoorL5
import Derived.Test.YtdcmihhcpgkgiaaDoorL7
import Derived.Test.YtdcmihhcpgkgiaaDoorG7

section
namespace Go.Proofs.YtdcmihhcpgkgiaaDoor
open Go Go.RowKit Go.Lib
set_option linter.unusedSimpArgs false
set_option linter.unusedVariables false
set_option maxHeartbeats 4000000
set_option maxRecDepth 100000
section
variable {P : Program} {nt : Cf} {e : List (Nat × A)} {ds : List (Option Tmp)} {d : Option Tmp} {op : Op} {ty : TypeId} {pos : String} {aft : Array Edge} {g : Option (Nat × Bool)} {s : List (Option Ob)}
/-- An operation that makes or writes an object, by its own law. -/
theorem OpS.effO {x : A} {s1 s' : List (Option Ob)} (e' : List (Nat × A)) (hg : guardA ds e g = some true) (he : (e'.all fun t => decide (t.1 < nt.nt) && (looks ds op.operands.toList g).contains t.1) = true) (hf : Sub e e') (hq : OpA P nt op ty ⟨e', s⟩ x ⟨e', s1⟩) (hs1 : s1 = s') : OpS P nt ds ⟨d, op, ty, pos, aft, g⟩ e s x s' := fun H w0 S0 m0 mm a w hs hk => by
  subst hs1
  rw [guardD hk hg, if_pos rfl]
  have hkey : ∀ {l : List (Nat × A)} {t : Nat} {y : A}, find l t = some y → ∃ z ∈ l, z.1 = t := by
    intro l
    induction l with
    | nil => intro t y h; simp [find] at h
    | cons z l ih =>
      obtain ⟨j, x⟩ := z
      intro t y h
      simp only [find] at h
      split at h
      · rename_i e; exact ⟨(j, x), by simp, e.symm⟩
      · obtain ⟨z, hz, e⟩ := ih h; exact ⟨z, by simp [hz], e⟩
  have hs2 : Sim H w0 S0 m0 nt ⟨e', s⟩ mm a w := by
    refine ⟨fun t y hy => ?_, hs.nts, hs.df, hs.sto, hs.fr, hs.own, hs.up, hs.n0⟩
    obtain ⟨z, hz, e1⟩ := hkey hy
    have h1 := List.all_eq_true.1 he z hz
    simp only [Bool.and_eq_true, decide_eq_true_eq, List.contains_iff_mem, e1] at h1
    have h2 := hk t h1.2 y (hf.find hy)
    have hlt : t < a.tmps.size := by rw [hs.nts]; exact h1.1
    refine ⟨a.tmps[t], Array.getElem?_eq_getElem hlt, ?_⟩
    have : a.eval (.tmp t) = a.tmps[t] := by simp [Act.eval, Array.getElem?_eq_getElem hlt, hlt]
    rw [← this]; exact h2
  obtain ⟨u, w', m', hr, h1, h2, h3⟩ := hq H w0 S0 m0 mm a w hs2
  have h1' : Sim H w0 S0 m0 nt ⟨[], s1⟩ m' a w' := ⟨fun t y hy => by simp [find] at hy, h1.nts, h1.df, h1.sto, h1.fr, h1.own, h1.up, h1.n0⟩
  unfold OpTo
  rw [exec_same]
  rcases hr with hr | ⟨hr, rfl⟩
  · rw [hr]; exact ⟨m', h1', h2, h3⟩
  · rw [hr]; exact ⟨m', h1', h2, h3⟩
end
theorem OpS.num {nt : Cf} {e : List (Nat × A)} {ds : List (Option Tmp)} {d : Option Tmp} {ty : TypeId} {pos : String} {aft : Array Edge} {s : List (Option Ob)} {args : List Operand} {tys : Array TypeId} {n : Int} {s' : List (Option Ob)} (hn : I64 n) (ha : rdAs e args = some [.one (.v (.int .i64 n))]) (hs' : s ++ [some ⟨5, 1, bC (numN (zig n))⟩] = s') :
    OpS Tryd.prog nt ds ⟨d, .call { callee := .value (.func 23), args := args.toArray, argTypes := tys }, ty, pos, aft, none⟩ e s (.one (.ms s.length (numN (zig n)).length)) s' := by
  subst hs'
  have := OpS.hand (P := Tryd.prog) (nt := nt) (ds := ds) (d := d) (ty := ty) (pos := pos) (aft := aft) (s := s) (tys := tys) (g := none) (ρ := []) (s1 := []) (xs' := [.one (.v (.int .i64 n))]) (caps := []) (fo := .func 23) (args := args) (e := e) rfl rfl ha (by kernel_rfl) (by simp [A.rens, A.ren, C.ren]) (Handed.of (by decide) rfl) (num_fn n hn)
  simpa [back, mix, putAll, Ob.ren, C.rens, C.ren, rn, bC_ren, A.ren] using this
/-- The store of the document's Encode. -/
def rst (j : Jb) (B : List UInt8) (T : List (Option Ob)) : List (Option Ob) := some (jobOb j) :: some ⟨5, 1, bC B⟩ :: T
theorem rst_bd (j : Jb) (B : List UInt8) (n : Nat) : ObBd n (rst j B []) := by
  simp [rst, ObBd, jobOb, Jb.cs, C.bd, bC]
theorem encL_ge (j : Jb) : j.src.size + j.inp.size ≤ (encL j).length := by
  have h1 : j.src.data.toList.length = j.src.size := Array.length_toList
  have h2 : j.inp.data.toList.length = j.inp.size := Array.length_toList
  simp only [encL, txtL, List.length_append]; omega
def REncI (j : Jb) (n : Nat) (st : St) : Prop := ∃ k : Nat, n = j.fs.length - k ∧ k ≤ j.fs.length ∧
  st = ⟨[(5, .one (.v (.int .i64 k))), (4, .one (.ms 1 (encP j ++ encN (j.fs.take k)).length)), (1, .one (.ptr 0 1 0 0))], rst j (encP j ++ encN (j.fs.take k)) []⟩
theorem rencode_pure (j : Jb) (hj : j.Ok) : Pure Tryd.prog 12 [.agg j.cs] (.tup [.one (.v (.string (encA j).1)), .one (.v (.int .i64 (encA j).2))]) := by
  obtain ⟨h1, h2, h3, h4, h5, h6⟩ := hj
  have hfl := fC_len j.fs
  refine Fn.intro Tryd.func12 rfl Tryd.ntmps12 Tryd.results12 (by simp only [List.length_cons, List.length_nil]; decide) ?_
  by_cases hn : 1000 < j.fs.length
  · have hd1 : decide ((1000 : Int) < (j.fs.length : Int)) = true := by simp; omega
    have hA : encA j = (⟨#[]⟩, 12) := by unfold encA; rw [if_pos (.inl hn)]
    rw [hA]
    repeat (first | (apply fw; focus ((with_reducible constructor) <;> rfl)) | (apply WpA.cd; focus constructor) | ((first | with_reducible refine WpA.go _ rfl fun Y y => ?_ | apply RunTo.id); simp only [zb, seval, w12, txtA, Jb.cs, hfl, hd1]; refine RunTo.fn y (by first | exact trivial | omega | (simp; done) | (simp; omega)) ?_; clear y Y))
    refine ⟨by simp, _, _, _, _, (by simp only [zb, seval, w12]; rfl), (by simp), (by simp only [zv]; rfl), (by simp), _, ALe.refl _, ?_⟩
    rfl
  have hd1 : decide ((1000 : Int) < (j.fs.length : Int)) = false := by simp; omega
  by_cases hb : 65536 < j.src.size
  · have hd2 : decide ((65536 : Int) < (j.src.size : Int)) = true := by simp; omega
    have hA : encA j = (⟨#[]⟩, 12) := by unfold encA; rw [if_pos (.inr (by omega))]
    rw [hA]
    repeat (first | (apply fw; focus ((with_reducible constructor) <;> rfl)) | (apply WpA.cd; focus constructor) | ((first | with_reducible refine WpA.go _ rfl fun Y y => ?_ | apply RunTo.id); simp only [zb, seval, w12, txtA, Jb.cs, hfl, hd1, hd2]; refine RunTo.fn y (by first | exact trivial | omega | (simp; done) | (simp; omega)) ?_; clear y Y))
    refine ⟨by simp, _, _, _, _, (by simp only [zb, seval, w12]; rfl), (by simp), (by simp only [zv]; rfl), (by simp), _, ALe.refl _, ?_⟩
    rfl
  have hd2 : decide ((65536 : Int) < (j.src.size : Int)) = false := by simp; omega
  by_cases hb' : 65536 < j.inp.size
  · have hd2' : decide ((65536 : Int) < (j.inp.size : Int)) = true := by simp; omega
    have hA : encA j = (⟨#[]⟩, 12) := by unfold encA; rw [if_pos (.inr (by omega))]
    rw [hA]
    repeat (first | (apply fw; focus ((with_reducible constructor) <;> rfl)) | (apply WpA.cd; focus constructor) | ((first | with_reducible refine WpA.go _ rfl fun Y y => ?_ | apply RunTo.id); simp only [zb, seval, w12, txtA, Jb.cs, hfl, hd1, hd2, hd2']; refine RunTo.fn y (by first | exact trivial | omega | (simp; done) | (simp; omega)) ?_; clear y Y))
    refine ⟨by simp, _, _, _, _, (by simp only [zb, seval, w12]; rfl), (by simp), (by simp only [zv]; rfl), (by simp), _, ALe.refl _, ?_⟩
    rfl
  have hd2' : decide ((65536 : Int) < (j.inp.size : Int)) = false := by simp; omega
  have hge := encL_ge j
  have l1 := numN_len10 h3
  have l2 := numN_len10 h4
  have e1 := bC_len (numN (zig j.lim))
  have e2 := bC_len (numN (zig j.fu))
  have hiI : I64 (j.inp.size : Int) := by constructor <;> omega
  have hfI : I64 (j.fs.length : Int) := by constructor <;> omega
  have hsI : I64 (j.src.size : Int) := by constructor <;> omega
  have l3 := numN_len10 hiI
  have l4 := numN_len10 hfI
  have l5 := numN_len10 hsI
  have e3 := bC_len (numN (zig j.inp.size))
  have e4 := bC_len (numN (zig j.fs.length))
  have e5 := bC_len (numN (zig j.src.size))
  repeat (first | (apply fw; focus ((with_reducible constructor) <;> rfl)) | (apply WpA.cd; focus constructor) | ((first | with_reducible refine WpA.go _ rfl fun Y y => ?_ | apply RunTo.id); simp only [zb, seval, w12, txtA, Jb.cs, hfl, hd1, hd2, hd2']; refine RunTo.fn y (by first | exact trivial | omega | (simp; done) | (simp; omega)) ?_; clear y Y))
  (refine WpA.draw1 7 [2, 6] ([some ⟨24, 5, [[.v (.string j.src), .v (.string j.inp), .v (.int .i64 j.lim), .v (.int .i64 j.fu), .sl 3 (fC j.fs)]]⟩]) [_, ?_, ?_] _ _ _ _ rfl rfl rfl (by kernel_rfl) (by kernel_rfl) (by kernel_rfl) (by kernel_rfl) rfl rfl rfl rfl (by decide) fun K8 hK8 => ?_); rotate_left 2; simp only [zz] at hK8 ⊢; (refine Draw1.go fun K7 hK7 => ?_); simp only [zb, seval, w12]; (refine RunQ.mk (by first | exact trivial | omega | (simp; done) | (simp; omega)) (hK7 _ _ (by rfl) ?_)); clear hK7 K7; (simp only [zz, Nat.reduceAdd, Nat.reduceSub]); (try ((refine Draw1.nil (by simp only [List.mem_cons, List.not_mem_nil, or_false, forall_eq_or_imp, forall_eq]; refine ⟨?_, ?_, ?_⟩ <;> (refine LeS.of ?_) <;> (repeat (first | exact SLe.nil _ | exact SLe.refl _ | exact SLe.app _ _ | refine SLe.same ?_ | refine SLe.none ?_))) (hK8 _ ?_)); clear hK8 K8; (refine WpL.go _ rfl fun Y y => ?_); repeat (first | (apply fw; focus ((with_reducible constructor) <;> rfl)) | (apply WpA.cd; focus constructor) | ((first | with_reducible refine WpA.go _ rfl fun Y y => ?_ | apply RunTo.id); simp only [zb, seval, w12]; refine RunTo.fn y (by first | exact trivial | omega | (simp; done) | (simp; omega)) ?_; clear y Y))))
  refine Draw1.eff 0 rfl rfl rfl (OpS.num h3 rfl (by simp only [List.cons_append, List.nil_append]; rfl)) ?_
  simp only [putE]
  (refine Draw1.go fun K7 hK7 => ?_); simp only [zb, seval, w12]; (refine RunQ.mk (by first | exact trivial | omega | (simp; done) | (simp; omega)) (hK7 _ _ (by rfl) ?_)); clear hK7 K7; (simp only [zz, Nat.reduceAdd, Nat.reduceSub]); (try ((refine Draw1.nil (by simp only [List.mem_cons, List.not_mem_nil, or_false, forall_eq_or_imp, forall_eq]; refine ⟨?_, ?_, ?_⟩ <;> (refine LeS.of ?_) <;> (repeat (first | exact SLe.nil _ | exact SLe.refl _ | exact SLe.app _ _ | refine SLe.same ?_ | refine SLe.none ?_))) (hK8 _ ?_)); clear hK8 K8; (refine WpL.go _ rfl fun Y y => ?_); repeat (first | (apply fw; focus ((with_reducible constructor) <;> rfl)) | (apply WpA.cd; focus constructor) | ((first | with_reducible refine WpA.go _ rfl fun Y y => ?_ | apply RunTo.id); simp only [zb, seval, w12]; refine RunTo.fn y (by first | exact trivial | omega | (simp; done) | (simp; omega)) ?_; clear y Y))))
  refine Draw1.step (by rfl) (fun s9 _ => OpS.shut rfl rfl rfl (by kernel_rfl) (ALes.refl _) (by first | rfl | simp [shuts, A.shut, C.shut]) (rnum_pure j.fu h4)) ?_
  refine Draw1.eff 1 rfl rfl rfl (OpS.eff [(25, _), (28, _)] rfl (by rfl) ⟨rfl, rfl, trivial⟩ (by simp only [zb, seval, w12, e1, e2]; rfl) (by first | exact trivial | omega | (simp; done) | (simp; omega))) ?_; (try simp only [putE]); (try ((refine Draw1.go fun K7 hK7 => ?_); simp only [zb, seval, w12, e1, e2]; (refine RunQ.mk (by first | exact trivial | omega | (simp; done) | (simp; omega)) (hK7 _ _ (by rfl) ?_)); clear hK7 K7; (simp only [zz, Nat.reduceAdd, Nat.reduceSub]); (try ((refine Draw1.nil (by simp only [List.mem_cons, List.not_mem_nil, or_false, forall_eq_or_imp, forall_eq]; refine ⟨?_, ?_, ?_⟩ <;> (refine LeS.of ?_) <;> (repeat (first | exact SLe.nil _ | exact SLe.refl _ | exact SLe.app _ _ | refine SLe.same ?_ | refine SLe.none ?_))) (hK8 _ ?_)); clear hK8 K8; (refine WpL.go _ rfl fun Y y => ?_); repeat (first | (apply fw; focus ((with_reducible constructor) <;> rfl)) | (apply WpA.cd; focus constructor) | ((first | with_reducible refine WpA.go _ rfl fun Y y => ?_ | apply RunTo.id); simp only [zb, seval, w12, e1, e2]; refine RunTo.fn y (by first | exact trivial | omega | (simp; done) | (simp; omega)) ?_; clear y Y))))))
  have hB1 : bC (numN (zig j.lim)) ++ bC (numN (zig j.fu)) = bC (putL [j.lim, j.fu]) := by simp [putL, bC_append]
  have hL1 : (numN (zig j.lim)).length + (numN (zig j.fu)).length = (putL [j.lim, j.fu]).length := by simp [putL]
  rw [hB1, hL1]
  refine WpA.le (Le.sub (e' := [(4, .one (.ms 1 (putL [j.lim, j.fu]).length)), (1, .one (.ptr 0 1 0 0))]) (by simp [Sub, find])) ?_
  have b1 := bC_len (putL [j.lim, j.fu])
  have hB2 : bC (putL [j.lim, j.fu]) ++ (bC (numN (zig j.inp.size)) ++ bC j.inp.data.toList) = bC (putL [j.lim, j.fu] ++ txtL j.inp) := by rw [txtL, bC_append, bC_append]
  have hsl : j.inp.data.toList.length = j.inp.size := Array.length_toList
  have hL2 : (putL [j.lim, j.fu]).length + (numN (zig j.inp.size)).length + j.inp.size = (putL [j.lim, j.fu] ++ txtL j.inp).length := by simp only [txtL, List.length_append, hsl]; omega
  have hP : encP j ++ encN (j.fs.take 0) = putL [j.lim, j.fu] ++ txtL j.inp ++ numN (zig j.fs.length) := by simp [encP, encN, putL]
  have hp0 := putL_len [j.lim, j.fu] (by simp [h3, h4])
  have hp1 := txtL_len j.inp h2
  simp only [List.length_cons, List.length_nil] at hp0
  have hPl : (encP j).length ≤ 70040 := by
    have := congrArg List.length hP
    simp only [List.take_zero, encN, List.flatMap_nil, List.append_nil, List.length_append] at this; omega
  have hNl : ∀ k, (encN (j.fs.take k)).length ≤ 36000 := fun k => by
    have := encN_len (j.fs.take k) fun c hc => h6 c (List.mem_of_mem_take hc)
    rw [List.length_take] at this; omega
  generalize putL [j.lim, j.fu] = B1 at *
  (refine WpA.draw1 9 [5, 8] ([some ⟨24, 5, [[.v (.string j.src), .v (.string j.inp), .v (.int .i64 j.lim), .v (.int .i64 j.fu), .sl 3 (fC j.fs)]]⟩]) [_, ?_, ?_] _ _ _ _ rfl rfl rfl (by kernel_rfl) (by kernel_rfl) (by kernel_rfl) (by kernel_rfl) rfl rfl rfl rfl (by decide) fun K8 hK8 => ?_); rotate_left 2; simp only [zz] at hK8 ⊢; (refine Draw1.go fun K7 hK7 => ?_); simp only [zb, seval, w12]; (refine RunQ.mk (by first | exact trivial | omega | (simp; done) | (simp; omega)) (hK7 _ _ (by rfl) ?_)); clear hK7 K7; (simp only [zz, Nat.reduceAdd, Nat.reduceSub]); (try ((refine Draw1.nil (by simp only [List.mem_cons, List.not_mem_nil, or_false, forall_eq_or_imp, forall_eq]; refine ⟨?_, ?_, ?_⟩ <;> (refine LeS.of ?_) <;> (repeat (first | exact SLe.nil _ | exact SLe.refl _ | exact SLe.app _ _ | refine SLe.same ?_ | refine SLe.none ?_))) (hK8 _ ?_)); clear hK8 K8; (refine WpL.go _ rfl fun Y y => ?_); repeat (first | (apply fw; focus ((with_reducible constructor) <;> rfl)) | (apply WpA.cd; focus constructor) | ((first | with_reducible refine WpA.go _ rfl fun Y y => ?_ | apply RunTo.id); simp only [zb, seval, w12]; refine RunTo.fn y (by first | exact trivial | omega | (simp; done) | (simp; omega)) ?_; clear y Y))))
  refine Draw1.step (by rfl) (fun s9 _ => OpS.shut rfl rfl rfl (by kernel_rfl) (ALes.refl _) (by first | rfl | simp [shuts, A.shut, C.shut]) (rnum_pure j.inp.size hiI)) ?_
  refine Draw1.eff 0 rfl rfl rfl (OpS.eff [(30, _), (34, _)] rfl (by rfl) ⟨rfl, rfl, trivial⟩ (by simp only [zb, seval, w12, b1, e3]; rfl) (by first | exact trivial | omega | (simp; done) | (simp; omega))) ?_; (try simp only [putE]); (try ((refine Draw1.go fun K7 hK7 => ?_); simp only [zb, seval, w12, b1, e3]; (refine RunQ.mk (by first | exact trivial | omega | (simp; done) | (simp; omega)) (hK7 _ _ (by rfl) ?_)); clear hK7 K7; (simp only [zz, Nat.reduceAdd, Nat.reduceSub]); (try ((refine Draw1.nil (by simp only [List.mem_cons, List.not_mem_nil, or_false, forall_eq_or_imp, forall_eq]; refine ⟨?_, ?_, ?_⟩ <;> (refine LeS.of ?_) <;> (repeat (first | exact SLe.nil _ | exact SLe.refl _ | exact SLe.app _ _ | refine SLe.same ?_ | refine SLe.none ?_))) (hK8 _ ?_)); clear hK8 K8; (refine WpL.go _ rfl fun Y y => ?_); repeat (first | (apply fw; focus ((with_reducible constructor) <;> rfl)) | (apply WpA.cd; focus constructor) | ((first | with_reducible refine WpA.go _ rfl fun Y y => ?_ | apply RunTo.id); simp only [zb, seval, w12, b1, e3]; refine RunTo.fn y (by first | exact trivial | omega | (simp; done) | (simp; omega)) ?_; clear y Y))))))
  (refine Draw1.go fun K7 hK7 => ?_); simp only [zb, seval, w12]; (refine RunQ.mk (by first | exact trivial | omega | (simp; done) | (simp; omega)) (hK7 _ _ (by rfl) ?_)); clear hK7 K7; (simp only [zz, Nat.reduceAdd, Nat.reduceSub]); (try ((refine Draw1.nil (by simp only [List.mem_cons, List.not_mem_nil, or_false, forall_eq_or_imp, forall_eq]; refine ⟨?_, ?_, ?_⟩ <;> (refine LeS.of ?_) <;> (repeat (first | exact SLe.nil _ | exact SLe.refl _ | exact SLe.app _ _ | refine SLe.same ?_ | refine SLe.none ?_))) (hK8 _ ?_)); clear hK8 K8; (refine WpL.go _ rfl fun Y y => ?_); repeat (first | (apply fw; focus ((with_reducible constructor) <;> rfl)) | (apply WpA.cd; focus constructor) | ((first | with_reducible refine WpA.go _ rfl fun Y y => ?_ | apply RunTo.id); simp only [zb, seval, w12]; refine RunTo.fn y (by first | exact trivial | omega | (simp; done) | (simp; omega)) ?_; clear y Y))))
  refine Draw1.eff 1 rfl rfl rfl (OpS.effO [(35, _), (37, _)] rfl (by rfl) ⟨rfl, rfl, trivial⟩ (OpA.appStr (ob := ⟨5, 1, bC B1 ++ bC (numN (zig j.inp.size))⟩) elt_42 byt_42 zer_5 (by kernel_rfl) rfl rfl rfl (by simp only [List.length_append, b1, e3]) rfl rfl (by simp only [List.length_append, b1, e3]; omega) (by simp only [List.length_append, b1, e3]; omega)) (by simp only [List.set_cons_succ, List.set_cons_zero]; rfl)) ?_
  simp only [putE]
  (refine Draw1.go fun K7 hK7 => ?_); simp only [zb, seval, w12, txtA, List.length_append, b1, e3, hsl, Jb.cs, hfl]; (refine RunQ.mk (by first | exact trivial | omega | (simp; done) | (simp; omega)) (hK7 _ _ (by rfl) ?_)); clear hK7 K7; (simp only [zz, Nat.reduceAdd, Nat.reduceSub]); (try ((refine Draw1.nil (by simp only [List.mem_cons, List.not_mem_nil, or_false, forall_eq_or_imp, forall_eq]; refine ⟨?_, ?_, ?_⟩ <;> (refine LeS.of ?_) <;> (repeat (first | exact SLe.nil _ | exact SLe.refl _ | exact SLe.app _ _ | refine SLe.same ?_ | refine SLe.none ?_))) (hK8 _ ?_)); clear hK8 K8; (refine WpL.go _ rfl fun Y y => ?_); repeat (first | (apply fw; focus ((with_reducible constructor) <;> rfl)) | (apply WpA.cd; focus constructor) | ((first | with_reducible refine WpA.go _ rfl fun Y y => ?_ | apply RunTo.id); simp only [zb, seval, w12, txtA, List.length_append, b1, e3, hsl, Jb.cs, hfl]; refine RunTo.fn y (by first | exact trivial | omega | (simp; done) | (simp; omega)) ?_; clear y Y))))
  rw [hB2, hL2]
  have b2 := bC_len (B1 ++ txtL j.inp)
  have hL3 : (B1 ++ txtL j.inp).length + (numN (zig j.fs.length)).length = (B1 ++ txtL j.inp ++ numN (zig j.fs.length)).length := by simp only [List.length_append]
  have hB3 := bC_append (B1 ++ txtL j.inp) (numN (zig j.fs.length))
  have hb2l : (B1 ++ txtL j.inp).length ≤ 70030 := by simp only [List.length_append]; omega
  generalize B1 ++ txtL j.inp = B2 at *
  refine WpL.call rfl (guardA_sound (P := Tryd.prog) rfl) (CallA.shut rfl rfl (by kernel_rfl) (ALes.refl _) (by first | rfl | simp [shuts, A.shut, C.shut]) (rnum_pure j.fs.length hfI) ?_)
  (refine WpL.go _ rfl fun Y y => ?_); repeat (first | (apply fw; focus ((with_reducible constructor) <;> rfl)) | (apply WpA.cd; focus constructor) | ((first | with_reducible refine WpA.go _ rfl fun Y y => ?_ | apply RunTo.id); simp only [zb, seval, w12, b2, e4, hfl]; refine RunTo.fn y (by first | exact trivial | omega | (simp; done) | (simp; omega)) ?_; clear y Y))
  refine WpA.loop (REncI j) j.fs.length ?_ ⟨0, rfl, Nat.zero_le _, rfl⟩ ?_
  · rw [hP, rst, ← hB3, ← hL3]
    exact Le.sub (by simp [Sub, find])
  intro n' st hI
  obtain ⟨k, rfl, hk, rfl⟩ := hI
  have hw2 : IntKind.i64.wrap ((k : Int) + 1) = ((k + 1 : Nat) : Int) := by rw [wrap64 (by omega) (by omega)]; omega
  have hNk := hNl k
  by_cases hlt : k < j.fs.length
  · have hd3 : decide ((k : Int) < (j.fs.length : Int)) = true := by simp; omega
    have hga := fC_get hlt
    have hin := h6 j.fs[k] (by simp)
    have hsn := encN_snoc hlt
    simp only [Co.l] at hin hsn
    have i1 := hin j.fs[k].s (by simp)
    have i2 := hin j.fs[k].g (by simp)
    have i3 := hin j.fs[k].t (by simp)
    have m1 := numN_len10 i1
    have m2 := numN_len10 i2
    have m3 := numN_len10 i3
    have n1 := bC_len (numN (zig j.fs[k].s))
    have n2 := bC_len (numN (zig j.fs[k].g))
    have n3 := bC_len (numN (zig j.fs[k].t))
    have hnx : encP j ++ encN (j.fs.take (k + 1)) = encP j ++ encN (j.fs.take k) ++ numN (zig j.fs[k].s) ++ numN (zig j.fs[k].g) ++ numN (zig j.fs[k].t) := by rw [hsn]; simp [putL]
    have hbk : (encP j ++ encN (j.fs.take k)).length ≤ 120000 := by simp only [List.length_append]; omega
    have bk := bC_len (encP j ++ encN (j.fs.take k))
    generalize encP j ++ encN (j.fs.take k) = Bk at *
    repeat (first | (apply fw; focus ((with_reducible constructor) <;> rfl)) | (apply WpA.cd; focus constructor) | ((first | with_reducible refine WpA.go _ rfl fun Y y => ?_ | apply RunTo.id); simp only [zb, seval, w12, rst, jobOb, Jb.cs, hfl, hd3, hga]; refine RunTo.fn y (by first | exact trivial | omega | (simp; done) | (simp; omega)) ?_; clear y Y))
    (refine WpA.draw1 13 [4, 8, 12] ([some ⟨24, 5, [[.v (.string j.src), .v (.string j.inp), .v (.int .i64 j.lim), .v (.int .i64 j.fu), .sl 3 (fC j.fs)]]⟩, none, some ⟨48, 3, [[.v (.int .i64 j.fs[k].s), .v (.int .i64 j.fs[k].g), .v (.int .i64 j.fs[k].t)]]⟩]) [_, ?_, ?_, ?_] _ _ _ _ rfl rfl rfl (by kernel_rfl) (by kernel_rfl) (by kernel_rfl) (by kernel_rfl) rfl rfl rfl rfl (by decide) fun K8 hK8 => ?_); rotate_left 3; simp only [zz] at hK8 ⊢; (refine Draw1.go fun K7 hK7 => ?_); simp only [zb, seval, w12]; (refine RunQ.mk (by first | exact trivial | omega | (simp; done) | (simp; omega)) (hK7 _ _ (by rfl) ?_)); clear hK7 K7; (simp only [zz, Nat.reduceAdd, Nat.reduceSub]); (try ((refine Draw1.nil (by simp only [List.mem_cons, List.not_mem_nil, or_false, forall_eq_or_imp, forall_eq]; refine ⟨?_, ?_, ?_, ?_⟩ <;> (refine LeS.of ?_) <;> (repeat (first | exact SLe.nil _ | exact SLe.refl _ | exact SLe.app _ _ | refine SLe.same ?_ | refine SLe.none ?_))) (hK8 _ ?_)); clear hK8 K8; (refine WpL.go _ rfl fun Y y => ?_); repeat (first | (apply fw; focus ((with_reducible constructor) <;> rfl)) | (apply WpA.cd; focus constructor) | ((first | with_reducible refine WpA.go _ rfl fun Y y => ?_ | apply RunTo.id); simp only [zb, seval, w12]; refine RunTo.fn y (by first | exact trivial | omega | (simp; done) | (simp; omega)) ?_; clear y Y))))
    refine Draw1.step (by rfl) (fun s9 _ => OpS.shut rfl rfl rfl (by kernel_rfl) (ALes.refl _) (by first | rfl | simp [shuts, A.shut, C.shut]) (rnum_pure _ i1)) ?_
    refine Draw1.eff 0 rfl rfl rfl (OpS.eff [(57, _), (60, _)] rfl (by rfl) ⟨rfl, rfl, trivial⟩ (by simp only [zb, seval, w12, bk, n1]; rfl) (by first | exact trivial | omega | (simp; done) | (simp; omega))) ?_; (try simp only [putE]); (try ((refine Draw1.go fun K7 hK7 => ?_); simp only [zb, seval, w12, bk, n1]; (refine RunQ.mk (by first | exact trivial | omega | (simp; done) | (simp; omega)) (hK7 _ _ (by rfl) ?_)); clear hK7 K7; (simp only [zz, Nat.reduceAdd, Nat.reduceSub]); (try ((refine Draw1.nil (by simp only [List.mem_cons, List.not_mem_nil, or_false, forall_eq_or_imp, forall_eq]; refine ⟨?_, ?_, ?_, ?_⟩ <;> (refine LeS.of ?_) <;> (repeat (first | exact SLe.nil _ | exact SLe.refl _ | exact SLe.app _ _ | refine SLe.same ?_ | refine SLe.none ?_))) (hK8 _ ?_)); clear hK8 K8; (refine WpL.go _ rfl fun Y y => ?_); repeat (first | (apply fw; focus ((with_reducible constructor) <;> rfl)) | (apply WpA.cd; focus constructor) | ((first | with_reducible refine WpA.go _ rfl fun Y y => ?_ | apply RunTo.id); simp only [zb, seval, w12, bk, n1]; refine RunTo.fn y (by first | exact trivial | omega | (simp; done) | (simp; omega)) ?_; clear y Y))))))
    refine Draw1.step (by rfl) (fun s9 _ => OpS.shut rfl rfl rfl (by kernel_rfl) (ALes.refl _) (by first | rfl | simp [shuts, A.shut, C.shut]) (rnum_pure _ i2)) ?_
    refine Draw1.eff 1 rfl rfl rfl (OpS.eff [(61, _), (64, _)] rfl (by rfl) ⟨rfl, rfl, trivial⟩ (by simp only [zb, seval, w12, List.length_append, bk, n1, n2]; rfl) (by first | exact trivial | omega | (simp; done) | (simp; omega))) ?_; (try simp only [putE]); (try ((refine Draw1.go fun K7 hK7 => ?_); simp only [zb, seval, w12, List.length_append, bk, n1, n2]; (refine RunQ.mk (by first | exact trivial | omega | (simp; done) | (simp; omega)) (hK7 _ _ (by rfl) ?_)); clear hK7 K7; (simp only [zz, Nat.reduceAdd, Nat.reduceSub]); (try ((refine Draw1.nil (by simp only [List.mem_cons, List.not_mem_nil, or_false, forall_eq_or_imp, forall_eq]; refine ⟨?_, ?_, ?_, ?_⟩ <;> (refine LeS.of ?_) <;> (repeat (first | exact SLe.nil _ | exact SLe.refl _ | exact SLe.app _ _ | refine SLe.same ?_ | refine SLe.none ?_))) (hK8 _ ?_)); clear hK8 K8; (refine WpL.go _ rfl fun Y y => ?_); repeat (first | (apply fw; focus ((with_reducible constructor) <;> rfl)) | (apply WpA.cd; focus constructor) | ((first | with_reducible refine WpA.go _ rfl fun Y y => ?_ | apply RunTo.id); simp only [zb, seval, w12, List.length_append, bk, n1, n2]; refine RunTo.fn y (by first | exact trivial | omega | (simp; done) | (simp; omega)) ?_; clear y Y))))))
    refine Draw1.step (by rfl) (fun s9 _ => OpS.shut rfl rfl rfl (by kernel_rfl) (ALes.refl _) (by first | rfl | simp [shuts, A.shut, C.shut]) (rnum_pure _ i3)) ?_
    refine Draw1.eff 2 rfl rfl rfl (OpS.eff [(65, _), (68, _)] rfl (by rfl) ⟨rfl, rfl, trivial⟩ (by simp only [zb, seval, w12, List.length_append, bk, n1, n2, n3, hw2]; rfl) (by first | exact trivial | omega | (simp; done) | (simp; omega))) ?_; (try simp only [putE]); (try ((refine Draw1.go fun K7 hK7 => ?_); simp only [zb, seval, w12, List.length_append, bk, n1, n2, n3, hw2]; (refine RunQ.mk (by first | exact trivial | omega | (simp; done) | (simp; omega)) (hK7 _ _ (by rfl) ?_)); clear hK7 K7; (simp only [zz, Nat.reduceAdd, Nat.reduceSub]); (try ((refine Draw1.nil (by simp only [List.mem_cons, List.not_mem_nil, or_false, forall_eq_or_imp, forall_eq]; refine ⟨?_, ?_, ?_, ?_⟩ <;> (refine LeS.of ?_) <;> (repeat (first | exact SLe.nil _ | exact SLe.refl _ | exact SLe.app _ _ | refine SLe.same ?_ | refine SLe.none ?_))) (hK8 _ ?_)); clear hK8 K8; (refine WpL.go _ rfl fun Y y => ?_); repeat (first | (apply fw; focus ((with_reducible constructor) <;> rfl)) | (apply WpA.cd; focus constructor) | ((first | with_reducible refine WpA.go _ rfl fun Y y => ?_ | apply RunTo.id); simp only [zb, seval, w12, List.length_append, bk, n1, n2, n3, hw2]; refine RunTo.fn y (by first | exact trivial | omega | (simp; done) | (simp; omega)) ?_; clear y Y))))))
    have hLk : Bk.length + ((numN (zig j.fs[k].s)).length + (numN (zig j.fs[k].g)).length) + (numN (zig j.fs[k].t)).length = (Bk ++ numN (zig j.fs[k].s) ++ numN (zig j.fs[k].g) ++ numN (zig j.fs[k].t)).length := by simp only [List.length_append]; omega
    have hEk : bC Bk ++ (bC (numN (zig j.fs[k].s)) ++ (bC (numN (zig j.fs[k].g)) ++ bC (numN (zig j.fs[k].t)))) = bC (Bk ++ numN (zig j.fs[k].s) ++ numN (zig j.fs[k].g) ++ numN (zig j.fs[k].t)) := by simp only [bC_append, List.append_assoc]
    rw [hLk, hEk, ← hnx]
    refine ⟨j.fs.length - (k + 1), ⟨[(5, .one (.v (.int .i64 (k + 1 : Nat)))), (4, .one (.ms 1 (encP j ++ encN (j.fs.take (k + 1))).length)), (1, .one (.ptr 0 1 0 0))], rst j (encP j ++ encN (j.fs.take (k + 1))) []⟩, by omega, Le.drop 2 (Nat.zero_le _) rfl (by simp [Sub, find]) (by simp [envBd, A.bd, C.bd]) (rst_bd j _ _), k + 1, rfl, hlt, rfl⟩
  have hd3 : decide ((k : Int) < (j.fs.length : Int)) = false := by simp; omega
  obtain rfl : k = j.fs.length := by omega
  rw [List.take_length] at *
  have hpL := txtL_len j.src h1
  have hL : encL j = (encP j ++ encN j.fs) ++ txtL j.src := by simp [encL, encP]
  have hbk : (encP j ++ encN j.fs).length ≤ 120000 := by simp only [List.length_append]; omega
  generalize encP j ++ encN j.fs = Bk at *
  have bk := bC_len Bk
  have hsl2 : j.src.data.toList.length = j.src.size := Array.length_toList
  have hBf : bC Bk ++ (bC (numN (zig j.src.size)) ++ bC j.src.data.toList) = bC (encL j) := by rw [hL, txtL, bC_append, bC_append]
  have hLf : Bk.length + (numN (zig j.src.size)).length + j.src.size = (encL j).length := by rw [hL]; simp only [txtL, List.length_append, hsl2]; omega
  repeat (first | (apply fw; focus ((with_reducible constructor) <;> rfl)) | (apply WpA.cd; focus constructor) | ((first | with_reducible refine WpA.go _ rfl fun Y y => ?_ | apply RunTo.id); simp only [zb, seval, w12, rst, jobOb, Jb.cs, hfl, hd3]; refine RunTo.fn y (by first | exact trivial | omega | (simp; done) | (simp; omega)) ?_; clear y Y))
  (refine WpA.draw1 9 [5, 8] ([some ⟨24, 5, [[.v (.string j.src), .v (.string j.inp), .v (.int .i64 j.lim), .v (.int .i64 j.fu), .sl 3 (fC j.fs)]]⟩]) [_, ?_, ?_] _ _ _ _ rfl rfl rfl (by kernel_rfl) (by kernel_rfl) (by kernel_rfl) (by kernel_rfl) rfl rfl rfl rfl (by decide) fun K8 hK8 => ?_); rotate_left 2; simp only [zz] at hK8 ⊢; (refine Draw1.go fun K7 hK7 => ?_); simp only [zb, seval, w12]; (refine RunQ.mk (by first | exact trivial | omega | (simp; done) | (simp; omega)) (hK7 _ _ (by rfl) ?_)); clear hK7 K7; (simp only [zz, Nat.reduceAdd, Nat.reduceSub]); (try ((refine Draw1.nil (by simp only [List.mem_cons, List.not_mem_nil, or_false, forall_eq_or_imp, forall_eq]; refine ⟨?_, ?_, ?_⟩ <;> (refine LeS.of ?_) <;> (repeat (first | exact SLe.nil _ | exact SLe.refl _ | exact SLe.app _ _ | refine SLe.same ?_ | refine SLe.none ?_))) (hK8 _ ?_)); clear hK8 K8; (refine WpL.go _ rfl fun Y y => ?_); repeat (first | (apply fw; focus ((with_reducible constructor) <;> rfl)) | (apply WpA.cd; focus constructor) | ((first | with_reducible refine WpA.go _ rfl fun Y y => ?_ | apply RunTo.id); simp only [zb, seval, w12]; refine RunTo.fn y (by first | exact trivial | omega | (simp; done) | (simp; omega)) ?_; clear y Y))))
  refine Draw1.step (by rfl) (fun s9 _ => OpS.shut rfl rfl rfl (by kernel_rfl) (ALes.refl _) (by first | rfl | simp [shuts, A.shut, C.shut]) (rnum_pure j.src.size hsI)) ?_
  refine Draw1.eff 0 rfl rfl rfl (OpS.eff [(70, _), (74, _)] rfl (by rfl) ⟨rfl, rfl, trivial⟩ (by simp only [zb, seval, w12, bk, e5]; rfl) (by first | exact trivial | omega | (simp; done) | (simp; omega))) ?_; (try simp only [putE]); (try ((refine Draw1.go fun K7 hK7 => ?_); simp only [zb, seval, w12, bk, e5]; (refine RunQ.mk (by first | exact trivial | omega | (simp; done) | (simp; omega)) (hK7 _ _ (by rfl) ?_)); clear hK7 K7; (simp only [zz, Nat.reduceAdd, Nat.reduceSub]); (try ((refine Draw1.nil (by simp only [List.mem_cons, List.not_mem_nil, or_false, forall_eq_or_imp, forall_eq]; refine ⟨?_, ?_, ?_⟩ <;> (refine LeS.of ?_) <;> (repeat (first | exact SLe.nil _ | exact SLe.refl _ | exact SLe.app _ _ | refine SLe.same ?_ | refine SLe.none ?_))) (hK8 _ ?_)); clear hK8 K8; (refine WpL.go _ rfl fun Y y => ?_); repeat (first | (apply fw; focus ((with_reducible constructor) <;> rfl)) | (apply WpA.cd; focus constructor) | ((first | with_reducible refine WpA.go _ rfl fun Y y => ?_ | apply RunTo.id); simp only [zb, seval, w12, bk, e5]; refine RunTo.fn y (by first | exact trivial | omega | (simp; done) | (simp; omega)) ?_; clear y Y))))))
  (refine Draw1.go fun K7 hK7 => ?_); simp only [zb, seval, w12]; (refine RunQ.mk (by first | exact trivial | omega | (simp; done) | (simp; omega)) (hK7 _ _ (by rfl) ?_)); clear hK7 K7; (simp only [zz, Nat.reduceAdd, Nat.reduceSub]); (try ((refine Draw1.nil (by simp only [List.mem_cons, List.not_mem_nil, or_false, forall_eq_or_imp, forall_eq]; refine ⟨?_, ?_, ?_⟩ <;> (refine LeS.of ?_) <;> (repeat (first | exact SLe.nil _ | exact SLe.refl _ | exact SLe.app _ _ | refine SLe.same ?_ | refine SLe.none ?_))) (hK8 _ ?_)); clear hK8 K8; (refine WpL.go _ rfl fun Y y => ?_); repeat (first | (apply fw; focus ((with_reducible constructor) <;> rfl)) | (apply WpA.cd; focus constructor) | ((first | with_reducible refine WpA.go _ rfl fun Y y => ?_ | apply RunTo.id); simp only [zb, seval, w12]; refine RunTo.fn y (by first | exact trivial | omega | (simp; done) | (simp; omega)) ?_; clear y Y))))
  refine Draw1.eff 1 rfl rfl rfl (OpS.effO [(75, _), (77, _)] rfl (by rfl) ⟨rfl, rfl, trivial⟩ (OpA.appStr (ob := ⟨5, 1, bC Bk ++ bC (numN (zig j.src.size))⟩) elt_42 byt_42 zer_5 (by kernel_rfl) rfl rfl rfl (by simp only [List.length_append, bk, e5]) rfl rfl (by simp only [List.length_append, bk, e5]; omega) (by simp only [List.length_append, bk, e5]; omega)) (by simp only [List.set_cons_succ, List.set_cons_zero]; rfl)) ?_
  simp only [putE]
  have hbc := bC_len (encL j)
  (refine Draw1.go fun K7 hK7 => ?_); simp only [zb, seval, w12, txtA, List.length_append, bk, e5, hsl2, Jb.cs, hfl]; (refine RunQ.mk (by first | exact trivial | omega | (simp; done) | (simp; omega)) (hK7 _ _ (by rfl) ?_)); clear hK7 K7; (simp only [zz, Nat.reduceAdd, Nat.reduceSub]); (try ((refine Draw1.nil (by simp only [List.mem_cons, List.not_mem_nil, or_false, forall_eq_or_imp, forall_eq]; refine ⟨?_, ?_, ?_⟩ <;> (refine LeS.of ?_) <;> (repeat (first | exact SLe.nil _ | exact SLe.refl _ | exact SLe.app _ _ | refine SLe.same ?_ | refine SLe.none ?_))) (hK8 _ ?_)); clear hK8 K8; (refine WpL.go _ rfl fun Y y => ?_); repeat (first | (apply fw; focus ((with_reducible constructor) <;> rfl)) | (apply WpA.cd; focus constructor) | ((first | with_reducible refine WpA.go _ rfl fun Y y => ?_ | apply RunTo.id); simp only [zb, seval, w12, txtA, List.length_append, bk, e5, hsl2, Jb.cs, hfl]; refine RunTo.fn y (by first | exact trivial | omega | (simp; done) | (simp; omega)) ?_; clear y Y))))
  rw [hBf, hLf]
  by_cases hbig : 65536 < (encL j).length
  · have hd4 : decide ((65536 : Int) < ((encL j).length : Int)) = true := by simp; omega
    have hA : encA j = (⟨#[]⟩, 12) := by unfold encA; split <;> first | rfl | rw [if_pos hbig]
    rw [hA, hd4]
    repeat (first | (apply fw; focus ((with_reducible constructor) <;> rfl)) | (apply WpA.cd; focus constructor) | ((first | with_reducible refine WpA.go _ rfl fun Y y => ?_ | apply RunTo.id); simp only [zb, seval, w12, txtA, hbc]; refine RunTo.fn y (by first | exact trivial | omega | (simp; done) | (simp; omega)) ?_; clear y Y))
    refine ⟨by simp, _, _, _, _, (by simp only [zb, seval, w12]; rfl), (by simp), (by simp only [zv]; rfl), (by simp), _, ALe.refl _, ?_⟩
    rfl
  · have hd4 : decide ((65536 : Int) < ((encL j).length : Int)) = false := by simp; omega
    have hA : encA j = (⟨(encL j).toArray⟩, 0) := by unfold encA; rw [if_neg (by omega), if_neg hbig]
    rw [hA, hd4]
    repeat (first | (apply fw; focus ((with_reducible constructor) <;> rfl)) | (apply WpA.cd; focus constructor) | ((first | with_reducible refine WpA.go _ rfl fun Y y => ?_ | apply RunTo.id); simp only [zb, seval, w12, txtA, hbc, unB, unB_bC]; refine RunTo.fn y (by first | exact trivial | omega | (simp; done) | (simp; omega)) ?_; clear y Y))
    refine ⟨by simp, _, _, _, _, (by simp only [zb, seval, w12]; rfl), (by simp), (by simp only [zv]; rfl), (by simp), _, ALe.refl _, ?_⟩
    rfl
theorem prA_ok {j : Jb} (h : (prA j).2 = 0) : j.fs.length ≤ 1000 ∧ (prT j).size ≤ 65536 ∧ prA j = (prT j, 0) := by
  unfold prA at h ⊢
  split at h
  · cases h
  · split at h
    · cases h
    · rename_i h1 h2
      rw [if_neg h1, if_neg h2]
      exact ⟨by omega, by omega, rfl⟩
theorem prA_or (j : Jb) : (prA j).2 = 0 ∨ (prA j).2 = 12 := by
  unfold prA
  split
  · exact .inr rfl
  · split
    · exact .inr rfl
    · exact .inl rfl
theorem lawOne_pure (b s : ByteArray) : Pure Tryd.prog 8 [.one (.v (.string b)), .one (.v (.string s))] (.one (.v (.bool true))) := by
  refine Fn.intro Tryd.func8 rfl Tryd.ntmps8 Tryd.results8 (by simp only [List.length_cons, List.length_nil]; decide) ?_
  by_cases hb : 70000 < b.size
  · have hd1 : decide ((70000 : Int) < (b.size : Int)) = true := decide_eq_true (by omega)
    repeat (first | (apply fw; focus ((with_reducible constructor) <;> rfl)) | (apply WpA.cd; focus constructor) | ((first | with_reducible refine WpA.go _ rfl fun Y y => ?_ | apply RunTo.id); simp only [zb, seval, w8, txtA, hd1]; refine RunTo.fn y (by first | exact trivial | omega | (simp; done) | (simp; omega)) ?_; clear y Y))
    refine WpL.call rfl (guardA_sound (P := Tryd.prog) rfl) (CallA.shut rfl rfl (by kernel_rfl) (ALes.refl _) (by first | rfl | simp [shuts, A.shut, C.shut]) (awake_pure) ?_)
    (refine WpL.go _ rfl fun Y y => ?_); repeat (first | (apply fw; focus ((with_reducible constructor) <;> rfl)) | (apply WpA.cd; focus constructor) | ((first | with_reducible refine WpA.go _ rfl fun Y y => ?_ | apply RunTo.id); simp only [zb, seval, w8]; refine RunTo.fn y (by first | exact trivial | omega | (simp; done) | (simp; omega)) ?_; clear y Y))
    refine ⟨by simp, _, _, _, _, (by simp only [zb, seval, w8]; rfl), (by simp), (by simp only [zv]; rfl), (by simp), _, ALe.refl _, ?_⟩
    rfl
  have hd1 : decide ((70000 : Int) < (b.size : Int)) = false := decide_eq_false (by omega)
  by_cases hs : 70000 < s.size
  · have hd2 : decide ((70000 : Int) < (s.size : Int)) = true := decide_eq_true (by omega)
    repeat (first | (apply fw; focus ((with_reducible constructor) <;> rfl)) | (apply WpA.cd; focus constructor) | ((first | with_reducible refine WpA.go _ rfl fun Y y => ?_ | apply RunTo.id); simp only [zb, seval, w8, txtA, hd1, hd2]; refine RunTo.fn y (by first | exact trivial | omega | (simp; done) | (simp; omega)) ?_; clear y Y))
    refine WpL.call rfl (guardA_sound (P := Tryd.prog) rfl) (CallA.shut rfl rfl (by kernel_rfl) (ALes.refl _) (by first | rfl | simp [shuts, A.shut, C.shut]) (awake_pure) ?_)
    (refine WpL.go _ rfl fun Y y => ?_); repeat (first | (apply fw; focus ((with_reducible constructor) <;> rfl)) | (apply WpA.cd; focus constructor) | ((first | with_reducible refine WpA.go _ rfl fun Y y => ?_ | apply RunTo.id); simp only [zb, seval, w8]; refine RunTo.fn y (by first | exact trivial | omega | (simp; done) | (simp; omega)) ?_; clear y Y))
    refine ⟨by simp, _, _, _, _, (by simp only [zb, seval, w8]; rfl), (by simp), (by simp only [zv]; rfl), (by simp), _, ALe.refl _, ?_⟩
    rfl
  have hd2 : decide ((70000 : Int) < (s.size : Int)) = false := decide_eq_false (by omega)
  have t1 : Pure Tryd.prog 17 [.one (.v (.string b))] (.tup [.agg (decV b.data.toList).1.cs, .one (.v (.int .i64 (decV b.data.toList).2))]) := sdecode_pure b.data.toList (by rw [show b.data.toList.length = b.size from Array.length_toList]; omega)
  obtain ⟨p1, hok⟩ := parse_all s
  have t4 := print_pure (parseR s).job hok
  repeat (first | (apply fw; focus ((with_reducible constructor) <;> rfl)) | (apply WpA.cd; focus constructor) | ((first | with_reducible refine WpA.go _ rfl fun Y y => ?_ | apply RunTo.id); simp only [zb, seval, w8, txtA, hd1, hd2]; refine RunTo.fn y (by first | exact trivial | omega | (simp; done) | (simp; omega)) ?_; clear y Y))
  refine WpL.call rfl (guardA_sound (P := Tryd.prog) rfl) (CallA.shut rfl rfl (by kernel_rfl) (ALes.refl _) (by first | rfl | simp [shuts, A.shut, C.shut]) (t1) ?_)

  by_cases he : (decV b.data.toList).2 = 0
  · have hV : decV b.data.toList = ((decV b.data.toList).1, 0) := by rw [← he]
    obtain ⟨o1, o2, o3, o4⟩ := enc_dec hV
    have t2 := encode_pure (decV b.data.toList).1 o1
    have eA : encA (decV b.data.toList).1 = (b, 0) := by
      have hge := encL_ge (decV b.data.toList).1
      rw [o3] at hge
      unfold encA
      rw [o3, if_neg (by omega), if_neg (by omega)]
    rw [eA] at t2
    have hself : (b.toList == b.toList) = true := by simp
    generalize decV b.data.toList = V at *
    obtain ⟨jj, ee⟩ := V
    simp only at he t2
    subst he
    simp only [Jb.cs] at t2
    (refine WpL.go _ rfl fun Y y => ?_); repeat (first | (apply fw; focus ((with_reducible constructor) <;> rfl)) | (apply WpA.cd; focus constructor) | ((first | with_reducible refine WpA.go _ rfl fun Y y => ?_ | apply RunTo.id); simp only [zb, seval, w8, Jb.cs]; refine RunTo.fn y (by first | exact trivial | omega | (simp; done) | (simp; omega)) ?_; clear y Y))
    refine WpL.call rfl (guardA_sound (P := Tryd.prog) rfl) (CallA.shut rfl rfl (by kernel_rfl) (ALes.refl _) (by first | rfl | simp [shuts, A.shut, C.shut]) (t2) ?_)
    (refine WpL.go _ rfl fun Y y => ?_); repeat (first | (apply fw; focus ((with_reducible constructor) <;> rfl)) | (apply WpA.cd; focus constructor) | ((first | with_reducible refine WpA.go _ rfl fun Y y => ?_ | apply RunTo.id); simp only [zb, seval, w8, Jb.cs, hself]; refine RunTo.fn y (by first | exact trivial | omega | (simp; done) | (simp; omega)) ?_; clear y Y))
    refine WpL.call rfl (guardA_sound (P := Tryd.prog) rfl) (CallA.shut rfl rfl (by kernel_rfl) (ALes.refl _) (by first | rfl | simp [shuts, A.shut, C.shut]) (p1) ?_)
    by_cases hg : (parseR s).err = 0
    · have hg1 : ((parseR s).err != 0) = false := by simp [hg]
      (refine WpL.go _ rfl fun Y y => ?_); repeat (first | (apply fw; focus ((with_reducible constructor) <;> rfl)) | (apply WpA.cd; focus constructor) | ((first | with_reducible refine WpA.go _ rfl fun Y y => ?_ | apply RunTo.id); simp only [zb, seval, w8, Jb.cs, hg1]; refine RunTo.fn y (by first | exact trivial | omega | (simp; done) | (simp; omega)) ?_; clear y Y))
      refine WpL.call rfl (guardA_sound (P := Tryd.prog) rfl) (CallA.shut rfl rfl (by kernel_rfl) (ALes.refl _) (by first | rfl | simp [shuts, A.shut, C.shut]) (t4) ?_)
      rcases prA_or (parseR s).job with hp | hp
      · obtain ⟨q1, q2, q3⟩ := prA_ok hp
        rw [q3]
        have p5 := (parse_all (prT (parseR s).job)).1
        rw [parse_print (parseR s).job hok q1 q2] at p5
        have ts := same_pure (parseR s).job (by omega)
        simp only [PResG.job, Jb.cs] at p5 ts
        (refine WpL.go _ rfl fun Y y => ?_); repeat (first | (apply fw; focus ((with_reducible constructor) <;> rfl)) | (apply WpA.cd; focus constructor) | ((first | with_reducible refine WpA.go _ rfl fun Y y => ?_ | apply RunTo.id); simp only [zb, seval, w8, Jb.cs, PResG.job]; refine RunTo.fn y (by first | exact trivial | omega | (simp; done) | (simp; omega)) ?_; clear y Y))
        refine WpL.call rfl (guardA_sound (P := Tryd.prog) rfl) (CallA.shut rfl rfl (by kernel_rfl) (ALes.refl _) (by first | rfl | simp [shuts, A.shut, C.shut]) (p5) ?_)
        (refine WpL.go _ rfl fun Y y => ?_); repeat (first | (apply fw; focus ((with_reducible constructor) <;> rfl)) | (apply WpA.cd; focus constructor) | ((first | with_reducible refine WpA.go _ rfl fun Y y => ?_ | apply RunTo.id); simp only [zb, seval, w8, Jb.cs]; refine RunTo.fn y (by first | exact trivial | omega | (simp; done) | (simp; omega)) ?_; clear y Y))
        refine WpL.call rfl (guardA_sound (P := Tryd.prog) rfl) (CallA.shut rfl rfl (by kernel_rfl) (ALes.refl _) (by first | rfl | simp [shuts, A.shut, C.shut]) (ts) ?_)
        (refine WpL.go _ rfl fun Y y => ?_); repeat (first | (apply fw; focus ((with_reducible constructor) <;> rfl)) | (apply WpA.cd; focus constructor) | ((first | with_reducible refine WpA.go _ rfl fun Y y => ?_ | apply RunTo.id); simp only [zb, seval, w8, Jb.cs]; refine RunTo.fn y (by first | exact trivial | omega | (simp; done) | (simp; omega)) ?_; clear y Y))
        refine WpL.call rfl (guardA_sound (P := Tryd.prog) rfl) (CallA.shut rfl rfl (by kernel_rfl) (ALes.refl _) (by first | rfl | simp [shuts, A.shut, C.shut]) (awake_pure) ?_)
        (refine WpL.go _ rfl fun Y y => ?_); repeat (first | (apply fw; focus ((with_reducible constructor) <;> rfl)) | (apply WpA.cd; focus constructor) | ((first | with_reducible refine WpA.go _ rfl fun Y y => ?_ | apply RunTo.id); simp only [zb, seval, w8, Jb.cs]; refine RunTo.fn y (by first | exact trivial | omega | (simp; done) | (simp; omega)) ?_; clear y Y))
        refine ⟨by simp, _, _, _, _, (by simp only [zb, seval, w8]; rfl), (by simp), (by simp only [zv]; rfl), (by simp), _, ALe.refl _, ?_⟩
        rfl
      · rw [hp]
        (refine WpL.go _ rfl fun Y y => ?_); repeat (first | (apply fw; focus ((with_reducible constructor) <;> rfl)) | (apply WpA.cd; focus constructor) | ((first | with_reducible refine WpA.go _ rfl fun Y y => ?_ | apply RunTo.id); simp only [zb, seval, w8, Jb.cs]; refine RunTo.fn y (by first | exact trivial | omega | (simp; done) | (simp; omega)) ?_; clear y Y))
        refine WpL.call rfl (guardA_sound (P := Tryd.prog) rfl) (CallA.shut rfl rfl (by kernel_rfl) (ALes.refl _) (by first | rfl | simp [shuts, A.shut, C.shut]) (awake_pure) ?_)
        (refine WpL.go _ rfl fun Y y => ?_); repeat (first | (apply fw; focus ((with_reducible constructor) <;> rfl)) | (apply WpA.cd; focus constructor) | ((first | with_reducible refine WpA.go _ rfl fun Y y => ?_ | apply RunTo.id); simp only [zb, seval, w8, Jb.cs]; refine RunTo.fn y (by first | exact trivial | omega | (simp; done) | (simp; omega)) ?_; clear y Y))
        refine ⟨by simp, _, _, _, _, (by simp only [zb, seval, w8]; rfl), (by simp), (by simp only [zv]; rfl), (by simp), _, ALe.refl _, ?_⟩
        rfl
    · have hg1 : ((parseR s).err != 0) = true := by simp [hg]
      (refine WpL.go _ rfl fun Y y => ?_); repeat (first | (apply fw; focus ((with_reducible constructor) <;> rfl)) | (apply WpA.cd; focus constructor) | ((first | with_reducible refine WpA.go _ rfl fun Y y => ?_ | apply RunTo.id); simp only [zb, seval, w8, Jb.cs, hg1]; refine RunTo.fn y (by first | exact trivial | omega | (simp; done) | (simp; omega)) ?_; clear y Y))
      refine WpL.call rfl (guardA_sound (P := Tryd.prog) rfl) (CallA.shut rfl rfl (by kernel_rfl) (ALes.refl _) (by first | rfl | simp [shuts, A.shut, C.shut]) (awake_pure) ?_)
      (refine WpL.go _ rfl fun Y y => ?_); repeat (first | (apply fw; focus ((with_reducible constructor) <;> rfl)) | (apply WpA.cd; focus constructor) | ((first | with_reducible refine WpA.go _ rfl fun Y y => ?_ | apply RunTo.id); simp only [zb, seval, w8, Jb.cs]; refine RunTo.fn y (by first | exact trivial | omega | (simp; done) | (simp; omega)) ?_; clear y Y))
      refine ⟨by simp, _, _, _, _, (by simp only [zb, seval, w8]; rfl), (by simp), (by simp only [zv]; rfl), (by simp), _, ALe.refl _, ?_⟩
      rfl
  · have he1 : ((decV b.data.toList).2 == 0) = false := by simp [he]
    (refine WpL.go _ rfl fun Y y => ?_); repeat (first | (apply fw; focus ((with_reducible constructor) <;> rfl)) | (apply WpA.cd; focus constructor) | ((first | with_reducible refine WpA.go _ rfl fun Y y => ?_ | apply RunTo.id); simp only [zb, seval, w8, Jb.cs, he1]; refine RunTo.fn y (by first | exact trivial | omega | (simp; done) | (simp; omega)) ?_; clear y Y))
    refine WpL.call rfl (guardA_sound (P := Tryd.prog) rfl) (CallA.shut rfl rfl (by kernel_rfl) (ALes.refl _) (by first | rfl | simp [shuts, A.shut, C.shut]) (p1) ?_)
    by_cases hg : (parseR s).err = 0
    · have hg1 : ((parseR s).err != 0) = false := by simp [hg]
      (refine WpL.go _ rfl fun Y y => ?_); repeat (first | (apply fw; focus ((with_reducible constructor) <;> rfl)) | (apply WpA.cd; focus constructor) | ((first | with_reducible refine WpA.go _ rfl fun Y y => ?_ | apply RunTo.id); simp only [zb, seval, w8, Jb.cs, hg1]; refine RunTo.fn y (by first | exact trivial | omega | (simp; done) | (simp; omega)) ?_; clear y Y))
      refine WpL.call rfl (guardA_sound (P := Tryd.prog) rfl) (CallA.shut rfl rfl (by kernel_rfl) (ALes.refl _) (by first | rfl | simp [shuts, A.shut, C.shut]) (t4) ?_)
      rcases prA_or (parseR s).job with hp | hp
      · obtain ⟨q1, q2, q3⟩ := prA_ok hp
        rw [q3]
        have p5 := (parse_all (prT (parseR s).job)).1
        rw [parse_print (parseR s).job hok q1 q2] at p5
        have ts := same_pure (parseR s).job (by omega)
        simp only [PResG.job, Jb.cs] at p5 ts
        (refine WpL.go _ rfl fun Y y => ?_); repeat (first | (apply fw; focus ((with_reducible constructor) <;> rfl)) | (apply WpA.cd; focus constructor) | ((first | with_reducible refine WpA.go _ rfl fun Y y => ?_ | apply RunTo.id); simp only [zb, seval, w8, Jb.cs, PResG.job]; refine RunTo.fn y (by first | exact trivial | omega | (simp; done) | (simp; omega)) ?_; clear y Y))
        refine WpL.call rfl (guardA_sound (P := Tryd.prog) rfl) (CallA.shut rfl rfl (by kernel_rfl) (ALes.refl _) (by first | rfl | simp [shuts, A.shut, C.shut]) (p5) ?_)
        (refine WpL.go _ rfl fun Y y => ?_); repeat (first | (apply fw; focus ((with_reducible constructor) <;> rfl)) | (apply WpA.cd; focus constructor) | ((first | with_reducible refine WpA.go _ rfl fun Y y => ?_ | apply RunTo.id); simp only [zb, seval, w8, Jb.cs]; refine RunTo.fn y (by first | exact trivial | omega | (simp; done) | (simp; omega)) ?_; clear y Y))
        refine WpL.call rfl (guardA_sound (P := Tryd.prog) rfl) (CallA.shut rfl rfl (by kernel_rfl) (ALes.refl _) (by first | rfl | simp [shuts, A.shut, C.shut]) (ts) ?_)
        (refine WpL.go _ rfl fun Y y => ?_); repeat (first | (apply fw; focus ((with_reducible constructor) <;> rfl)) | (apply WpA.cd; focus constructor) | ((first | with_reducible refine WpA.go _ rfl fun Y y => ?_ | apply RunTo.id); simp only [zb, seval, w8, Jb.cs]; refine RunTo.fn y (by first | exact trivial | omega | (simp; done) | (simp; omega)) ?_; clear y Y))
        refine WpL.call rfl (guardA_sound (P := Tryd.prog) rfl) (CallA.shut rfl rfl (by kernel_rfl) (ALes.refl _) (by first | rfl | simp [shuts, A.shut, C.shut]) (awake_pure) ?_)
        (refine WpL.go _ rfl fun Y y => ?_); repeat (first | (apply fw; focus ((with_reducible constructor) <;> rfl)) | (apply WpA.cd; focus constructor) | ((first | with_reducible refine WpA.go _ rfl fun Y y => ?_ | apply RunTo.id); simp only [zb, seval, w8, Jb.cs]; refine RunTo.fn y (by first | exact trivial | omega | (simp; done) | (simp; omega)) ?_; clear y Y))
        refine ⟨by simp, _, _, _, _, (by simp only [zb, seval, w8]; rfl), (by simp), (by simp only [zv]; rfl), (by simp), _, ALe.refl _, ?_⟩
        rfl
      · rw [hp]
        (refine WpL.go _ rfl fun Y y => ?_); repeat (first | (apply fw; focus ((with_reducible constructor) <;> rfl)) | (apply WpA.cd; focus constructor) | ((first | with_reducible refine WpA.go _ rfl fun Y y => ?_ | apply RunTo.id); simp only [zb, seval, w8, Jb.cs]; refine RunTo.fn y (by first | exact trivial | omega | (simp; done) | (simp; omega)) ?_; clear y Y))
        refine WpL.call rfl (guardA_sound (P := Tryd.prog) rfl) (CallA.shut rfl rfl (by kernel_rfl) (ALes.refl _) (by first | rfl | simp [shuts, A.shut, C.shut]) (awake_pure) ?_)
        (refine WpL.go _ rfl fun Y y => ?_); repeat (first | (apply fw; focus ((with_reducible constructor) <;> rfl)) | (apply WpA.cd; focus constructor) | ((first | with_reducible refine WpA.go _ rfl fun Y y => ?_ | apply RunTo.id); simp only [zb, seval, w8, Jb.cs]; refine RunTo.fn y (by first | exact trivial | omega | (simp; done) | (simp; omega)) ?_; clear y Y))
        refine ⟨by simp, _, _, _, _, (by simp only [zb, seval, w8]; rfl), (by simp), (by simp only [zv]; rfl), (by simp), _, ALe.refl _, ?_⟩
        rfl
    · have hg1 : ((parseR s).err != 0) = true := by simp [hg]
      (refine WpL.go _ rfl fun Y y => ?_); repeat (first | (apply fw; focus ((with_reducible constructor) <;> rfl)) | (apply WpA.cd; focus constructor) | ((first | with_reducible refine WpA.go _ rfl fun Y y => ?_ | apply RunTo.id); simp only [zb, seval, w8, Jb.cs, hg1]; refine RunTo.fn y (by first | exact trivial | omega | (simp; done) | (simp; omega)) ?_; clear y Y))
      refine WpL.call rfl (guardA_sound (P := Tryd.prog) rfl) (CallA.shut rfl rfl (by kernel_rfl) (ALes.refl _) (by first | rfl | simp [shuts, A.shut, C.shut]) (awake_pure) ?_)
      (refine WpL.go _ rfl fun Y y => ?_); repeat (first | (apply fw; focus ((with_reducible constructor) <;> rfl)) | (apply WpA.cd; focus constructor) | ((first | with_reducible refine WpA.go _ rfl fun Y y => ?_ | apply RunTo.id); simp only [zb, seval, w8, Jb.cs]; refine RunTo.fn y (by first | exact trivial | omega | (simp; done) | (simp; omega)) ?_; clear y Y))
      refine ⟨by simp, _, _, _, _, (by simp only [zb, seval, w8]; rfl), (by simp), (by simp only [zv]; rfl), (by simp), _, ALe.refl _, ?_⟩
      rfl
end Go.Proofs.YtdcmihhcpgkgiaaDoor
end
