/-
  Laid together: May19, Code19, Meas19, MeasB19, Awake19, Pre19, FrzN, With19.
-/
import Derived.Test.YtpacdmgnpadleaaDoorG5
import Derived.Test.YtpacdmgnpadleaaDoorMay
import Derived.Test.YtpacdmgnpadleaaDoorG7
import Derived.Test.YtpacdmgnpadleaaDoorG4

section
/-
  Whether an expression may be: scope.may, scope.May.
-/
namespace Go.Proofs.YtpacdmgnpadleaaDoor
open Go Go.RowKit Go.Lib
set_option linter.unusedSimpArgs false
set_option linter.unusedVariables false
set_option maxHeartbeats 4000000
set_option maxRecDepth 100000
theorem dmay_pure (d : D) (hok : d.Ok) (hb : d.count < 1000000000) : Pure Tryd.prog 40 [.agg d.cc] (.one (.v (.bool (mayB d)))) := by
  refine pure_old_v rfl fun w vs hg hv => ?_
  obtain ⟨v, rfl, hv1⟩ := hv.one1
  exact may_any d w v hok hb hg hv1.isD
mutual
noncomputable def K.may : K → Bool → Bool
  | .mk k name rest params d l, top => cntB (.mk k name rest params d l) && eqB (K.mk k name rest params d l) (K.bare (.mk k name rest params d l)) && (if k = 1 then mayB d else (if k = 4 then top && !eqB name ⟨#[]⟩ else if k = 2 ∨ k = 3 ∨ k = 10 then !eqB name ⟨#[]⟩ else if k = 6 then propB (VarsOk (allN (.mk k name rest params d l))) else true) && K.mays l (top && decide (k = 7)))
noncomputable def K.mays : List K → Bool → Bool
  | [], _ => true
  | c :: l, t => c.may t && K.mays l t
end
theorem K.mays_any : ∀ (l : List K) (t : Bool), K.mays l t = !(l.any fun x => !x.may t)
  | [], t => by simp [K.mays]
  | c :: l, t => by rw [K.mays, K.mays_any l t]; simp
mutual
/-- Data that are counted. -/
def K.Sm : K → Prop
  | .mk _ _ _ params d l => params.length ≤ 1000000000 ∧ d.count < 1000000000 ∧ K.Sms l
def K.Sms : List K → Prop
  | [] => True
  | c :: l => c.Sm ∧ K.Sms l
end
theorem K.Sms.get : ∀ {l : List K}, K.Sms l → ∀ i (h : i < l.length), l[i].Sm
  | c :: l, h, 0, _ => h.1
  | c :: l, h, i + 1, hi => K.Sms.get (l := l) h.2 i (by simpa using hi)
theorem may_upto : ∀ n (c : K) (top : Bool), c.ht ≤ n → c.Ok → c.Sm → Pure Tryd.prog 25 [.agg c.cc, .one (.v (.bool top))] (.one (.v (.bool (c.may top)))) := by
  intro n
  induction n with
  | zero => intro c top h; exact absurd h (by have := c.ht_pos; omega)
  | succ n ih =>
    intro c top hh hok hsm
    have hcl : ∀ (t : Bool), ∀ x ∈ c.l, Pure Tryd.prog 43 (.agg x.cc :: ([.pf [.v (.bool t)]] : List C).map .one) (.one (.v (.bool (!x.may t)))) := fun t x hx => by
      obtain ⟨i, hi, rfl⟩ := List.mem_iff_getElem.1 hx
      have hlt := K.ht_lt hi
      have hi2 := ih c.l[i] t (by omega) (hok.get i hi) (by cases c; exact hsm.2.2.get i hi)
      rw [K.cc_eq] at hi2 ⊢
      simp only [List.map_cons, List.map_nil]
      refine Fn.intro Tryd.func43 rfl Tryd.ntmps43 Tryd.results43 (by simp only [List.length_cons, List.length_nil]; decide) ?_
      repeat (first | with_reducible (first | refine roundsA_s ?_ | refine thenA_n ?_ | refine thenA_r ?_ | refine thenA_e ?_ | refine inBlockA_n ?_ | refine inBlockA_r ?_ | refine inBlockA_s ?_ | refine inBlockA_o rfl ?_ | refine WpA.seq ?_ | refine WpA.block ?_ | refine WpA.skip ?_ | refine WpA.ret ?_ | refine WpA.exit ?_ | refine WpL.nil ?_) | ((refine WpA.cond_t ?_ ?_); focus (simp only [find, reduceIte, Nat.reduceEqDiff]; done)) | ((refine WpA.cond_f ?_ ?_); focus (simp only [find, reduceIte, Nat.reduceEqDiff]; done)) | ((with_reducible refine WpA.region ?_); (refine WpL.go _ rfl fun K9 hK9 => ?_); simp only [zz, zy, constA, runL, guardA, srcA, chunk, nilV, liveB, capsA, bndA, aop, qop, rdA, rdAs, args0, find, A.cs, St.put, fits, loadA, partC, fieldA, indexA, lenB, binV, binI, binS, unV, over, partsA, fillA, Value.oneCell', seval, ty_33, ty_4]; (refine RunTo.mk (by first | exact trivial | omega | (simp; done) | (simp; omega)) (hK9 _ _ ?_)); clear hK9 K9))
      refine WpL.call rfl (guardA_sound (P := Tryd.prog) rfl) (CallA.shut rfl rfl (by kernel_rfl) (by first | exact ALes.refl _ | (simp only [List.cons_append, List.nil_append, List.map_nil]; exact ALes.refl _)) (by first | rfl | (simp [shuts, A.shut, C.shut]; done)) (hi2) ?_)
      ((refine WpL.go _ rfl fun K9 hK9 => ?_); simp only [zz, zy, constA, runL, guardA, srcA, chunk, nilV, liveB, capsA, bndA, aop, qop, rdA, rdAs, args0, find, A.cs, St.put, fits, loadA, partC, fieldA, indexA, lenB, binV, binI, binS, unV, over, partsA, fillA, Value.oneCell', seval, ty_33, ty_4]; (refine RunTo.mk (by first | exact trivial | omega | (simp; done) | (simp; omega)) (hK9 _ _ ?_)); clear hK9 K9); repeat (first | with_reducible (first | refine roundsA_s ?_ | refine thenA_n ?_ | refine thenA_r ?_ | refine thenA_e ?_ | refine inBlockA_n ?_ | refine inBlockA_r ?_ | refine inBlockA_s ?_ | refine inBlockA_o rfl ?_ | refine WpA.seq ?_ | refine WpA.block ?_ | refine WpA.skip ?_ | refine WpA.ret ?_ | refine WpA.exit ?_ | refine WpL.nil ?_) | ((refine WpA.cond_t ?_ ?_); focus (simp only [find, reduceIte, Nat.reduceEqDiff]; done)) | ((refine WpA.cond_f ?_ ?_); focus (simp only [find, reduceIte, Nat.reduceEqDiff]; done)) | ((with_reducible refine WpA.region ?_); (refine WpL.go _ rfl fun K9 hK9 => ?_); simp only [zz, zy, constA, runL, guardA, srcA, chunk, nilV, liveB, capsA, bndA, aop, qop, rdA, rdAs, args0, find, A.cs, St.put, fits, loadA, partC, fieldA, indexA, lenB, binV, binI, binS, unV, over, partsA, fillA, Value.oneCell', seval, ty_33, ty_4]; (refine RunTo.mk (by first | exact trivial | omega | (simp; done) | (simp; omega)) (hK9 _ _ ?_)); clear hK9 K9))
      refine ⟨by first | exact .inl rfl | exact .inr rfl, _, _, _, _, (by simp only [resA, find, reduceIte, Nat.reduceEqDiff, loadA, partC, List.getElem?_cons_zero, List.getElem?_cons_succ, List.drop_zero, List.drop_succ_cons, List.take_succ_cons, List.take_zero, List.length_cons, List.length_nil, ty_33, ty_4]; rfl), (by first | exact trivial | (simp; done)), (by simp only [tupA, viewA, viewC, viewCs, viewAs, List.getElem?_cons_zero, List.getElem?_cons_succ]; rfl), (by first | exact trivial | (simp; done)), _, ALe.refl _, ?_⟩
      rfl
    have hcf := fun t => containsF1_pure 43 t (by kernel_rfl) c.l (fun x => !x.may t) hok.len (hcl t)
    have hcn := count_pure c
    have hbr := bare_pure c
    have hsa := esame_pure c c.bare hok
    have hal := all_pure c (by cases c; exact hsm.1)
    have hva := variables_pure (allN c) (by
      have : c.params.length ≤ 1000000000 := by cases c; exact hsm.1
      unfold allN
      split <;> simp <;> omega)
    have hdm := dmay_pure c.d hok.d (by cases c; exact hsm.2.1)
    obtain ⟨k, name, rest, params, d, l⟩ := c
    have hme : K.may (.mk k name rest params d l) top = (cntB (.mk k name rest params d l) && eqB (K.mk k name rest params d l) (K.bare (.mk k name rest params d l)) && (if k = 1 then mayB d else (if k = 4 then top && !eqB name ⟨#[]⟩ else if k = 2 ∨ k = 3 ∨ k = 10 then !eqB name ⟨#[]⟩ else if k = 6 then propB (VarsOk (allN (.mk k name rest params d l))) else true) && K.mays l (top && decide (k = 7)))) := by rw [K.may]
    rw [hme]
    generalize hcb : cntB (.mk k name rest params d l) = cb at *
    generalize heb : eqB (K.mk k name rest params d l) (K.bare (.mk k name rest params d l)) = eb at *
    generalize hab : propB (VarsOk (allN (.mk k name rest params d l))) = vb at *
    generalize allN (.mk k name rest params d l) = al at *
    generalize hbk : K.bare (.mk k name rest params d l) = bk at *
    rw [K.cc_eq (.mk k name rest params d l)] at hcn hbr hsa hal ⊢
    rw [K.cc_eq bk] at hbr hsa
    simp only [K.k, K.name, K.rest, K.params, K.d, K.l] at *
    rw [D.cc_eq] at hdm
    cases cb with
    | false =>
      refine Fn.intro Tryd.func25 rfl Tryd.ntmps25 Tryd.results25 (by simp only [List.length_cons, List.length_nil]; decide) ?_
      repeat (first | with_reducible (first | refine roundsA_s ?_ | refine thenA_n ?_ | refine thenA_r ?_ | refine thenA_e ?_ | refine inBlockA_n ?_ | refine inBlockA_r ?_ | refine inBlockA_s ?_ | refine inBlockA_o rfl ?_ | refine WpA.seq ?_ | refine WpA.block ?_ | refine WpA.skip ?_ | refine WpA.ret ?_ | refine WpA.exit ?_ | refine WpL.nil ?_) | ((refine WpA.cond_t ?_ ?_); focus (simp only [find, reduceIte, Nat.reduceEqDiff]; done)) | ((refine WpA.cond_f ?_ ?_); focus (simp only [find, reduceIte, Nat.reduceEqDiff]; done)) | ((with_reducible refine WpA.region ?_); (refine WpL.go _ rfl fun K9 hK9 => ?_); simp only [zz, zy, constA, runL, guardA, srcA, chunk, nilV, liveB, capsA, bndA, aop, qop, rdA, rdAs, args0, find, A.cs, St.put, fits, loadA, partC, fieldA, indexA, lenB, binV, binI, binS, unV, over, partsA, fillA, Value.oneCell', seval, ty_33, fld_33_0, ty_3, fld_33_4, ty_31, ty_4, fld_33_1, ty_9, fld_33_5, ty_22]; (refine RunTo.mk (by first | exact trivial | omega | (simp; done) | (simp; omega)) (hK9 _ _ ?_)); clear hK9 K9))
      (refine WpA.draw0 10 _ _ _ rfl rfl rfl (by kernel_rfl) (by kernel_rfl) (by kernel_rfl) fun K8 hK8 => ?_); simp only [List.take_succ_cons, List.take_zero, List.drop_succ_cons, List.drop_zero, List.map_cons, List.map_nil] at hK8 ⊢; (refine Draw0.go fun K7 hK7 => ?_); simp only [runQ, putE, zz, zy, constA, runL, guardA, srcA, chunk, nilV, liveB, capsA, bndA, aop, qop, rdA, rdAs, args0, find, A.cs, St.put, fits, loadA, partC, fieldA, indexA, lenB, binV, binI, binS, unV, over, partsA, fillA, Value.oneCell', seval, ty_33, fld_33_0, ty_3, fld_33_4, ty_31, ty_4, fld_33_1, ty_9, fld_33_5, ty_22]; (refine RunQ.mk (by first | exact trivial | omega | (simp; done) | (simp; omega)) (hK7 _ _ ?_)); clear hK7 K7; (try ((refine Draw0.nil (hK8 _ ?_)); clear hK8 K8; ((refine WpL.go _ rfl fun K9 hK9 => ?_); simp only [zz, zy, constA, runL, guardA, srcA, chunk, nilV, liveB, capsA, bndA, aop, qop, rdA, rdAs, args0, find, A.cs, St.put, fits, loadA, partC, fieldA, indexA, lenB, binV, binI, binS, unV, over, partsA, fillA, Value.oneCell', seval, ty_33, fld_33_0, ty_3, fld_33_4, ty_31, ty_4, fld_33_1, ty_9, fld_33_5, ty_22]; (refine RunTo.mk (by first | exact trivial | omega | (simp; done) | (simp; omega)) (hK9 _ _ ?_)); clear hK9 K9); repeat (first | with_reducible (first | refine roundsA_s ?_ | refine thenA_n ?_ | refine thenA_r ?_ | refine thenA_e ?_ | refine inBlockA_n ?_ | refine inBlockA_r ?_ | refine inBlockA_s ?_ | refine inBlockA_o rfl ?_ | refine WpA.seq ?_ | refine WpA.block ?_ | refine WpA.skip ?_ | refine WpA.ret ?_ | refine WpA.exit ?_ | refine WpL.nil ?_) | ((refine WpA.cond_t ?_ ?_); focus (simp only [find, reduceIte, Nat.reduceEqDiff]; done)) | ((refine WpA.cond_f ?_ ?_); focus (simp only [find, reduceIte, Nat.reduceEqDiff]; done)) | ((with_reducible refine WpA.region ?_); (refine WpL.go _ rfl fun K9 hK9 => ?_); simp only [zz, zy, constA, runL, guardA, srcA, chunk, nilV, liveB, capsA, bndA, aop, qop, rdA, rdAs, args0, find, A.cs, St.put, fits, loadA, partC, fieldA, indexA, lenB, binV, binI, binS, unV, over, partsA, fillA, Value.oneCell', seval, ty_33, fld_33_0, ty_3, fld_33_4, ty_31, ty_4, fld_33_1, ty_9, fld_33_5, ty_22]; (refine RunTo.mk (by first | exact trivial | omega | (simp; done) | (simp; omega)) (hK9 _ _ ?_)); clear hK9 K9))))
      refine Draw0.step (OpS.shut rfl rfl rfl (by kernel_rfl) (by first | exact ALes.refl _ | (simp only [List.cons_append, List.nil_append, List.map_nil]; exact ALes.refl _)) (by first | rfl | (simp [shuts, A.shut, C.shut]; done)) (hcn)) ?_
      (refine Draw0.go fun K7 hK7 => ?_); simp only [runQ, putE, zz, zy, constA, runL, guardA, srcA, chunk, nilV, liveB, capsA, bndA, aop, qop, rdA, rdAs, args0, find, A.cs, St.put, fits, loadA, partC, fieldA, indexA, lenB, binV, binI, binS, unV, over, partsA, fillA, Value.oneCell', seval, ty_33, fld_33_0, ty_3, fld_33_4, ty_31, ty_4, fld_33_1, ty_9, fld_33_5, ty_22]; (refine RunQ.mk (by first | exact trivial | omega | (simp; done) | (simp; omega)) (hK7 _ _ ?_)); clear hK7 K7; (try ((refine Draw0.nil (hK8 _ ?_)); clear hK8 K8; ((refine WpL.go _ rfl fun K9 hK9 => ?_); simp only [zz, zy, constA, runL, guardA, srcA, chunk, nilV, liveB, capsA, bndA, aop, qop, rdA, rdAs, args0, find, A.cs, St.put, fits, loadA, partC, fieldA, indexA, lenB, binV, binI, binS, unV, over, partsA, fillA, Value.oneCell', seval, ty_33, fld_33_0, ty_3, fld_33_4, ty_31, ty_4, fld_33_1, ty_9, fld_33_5, ty_22]; (refine RunTo.mk (by first | exact trivial | omega | (simp; done) | (simp; omega)) (hK9 _ _ ?_)); clear hK9 K9); repeat (first | with_reducible (first | refine roundsA_s ?_ | refine thenA_n ?_ | refine thenA_r ?_ | refine thenA_e ?_ | refine inBlockA_n ?_ | refine inBlockA_r ?_ | refine inBlockA_s ?_ | refine inBlockA_o rfl ?_ | refine WpA.seq ?_ | refine WpA.block ?_ | refine WpA.skip ?_ | refine WpA.ret ?_ | refine WpA.exit ?_ | refine WpL.nil ?_) | ((refine WpA.cond_t ?_ ?_); focus (simp only [find, reduceIte, Nat.reduceEqDiff]; done)) | ((refine WpA.cond_f ?_ ?_); focus (simp only [find, reduceIte, Nat.reduceEqDiff]; done)) | ((with_reducible refine WpA.region ?_); (refine WpL.go _ rfl fun K9 hK9 => ?_); simp only [zz, zy, constA, runL, guardA, srcA, chunk, nilV, liveB, capsA, bndA, aop, qop, rdA, rdAs, args0, find, A.cs, St.put, fits, loadA, partC, fieldA, indexA, lenB, binV, binI, binS, unV, over, partsA, fillA, Value.oneCell', seval, ty_33, fld_33_0, ty_3, fld_33_4, ty_31, ty_4, fld_33_1, ty_9, fld_33_5, ty_22]; (refine RunTo.mk (by first | exact trivial | omega | (simp; done) | (simp; omega)) (hK9 _ _ ?_)); clear hK9 K9))))
      refine ⟨by first | exact .inl rfl | exact .inr rfl, _, _, _, _, (by simp only [resA, find, reduceIte, Nat.reduceEqDiff, loadA, partC, List.getElem?_cons_zero, List.getElem?_cons_succ, List.drop_zero, List.drop_succ_cons, List.take_succ_cons, List.take_zero, List.length_cons, List.length_nil, ty_33, fld_33_0, ty_3, fld_33_4, ty_31, ty_4, fld_33_1, ty_9, fld_33_5, ty_22]; rfl), (by first | exact trivial | (simp; done)), (by simp only [tupA, viewA, viewC, viewCs, viewAs, List.getElem?_cons_zero, List.getElem?_cons_succ]; rfl), (by first | exact trivial | (simp; done)), _, ALe.refl _, ?_⟩
      simp
    | true =>
      cases eb with
      | false =>
        refine Fn.intro Tryd.func25 rfl Tryd.ntmps25 Tryd.results25 (by simp only [List.length_cons, List.length_nil]; decide) ?_
        repeat (first | with_reducible (first | refine roundsA_s ?_ | refine thenA_n ?_ | refine thenA_r ?_ | refine thenA_e ?_ | refine inBlockA_n ?_ | refine inBlockA_r ?_ | refine inBlockA_s ?_ | refine inBlockA_o rfl ?_ | refine WpA.seq ?_ | refine WpA.block ?_ | refine WpA.skip ?_ | refine WpA.ret ?_ | refine WpA.exit ?_ | refine WpL.nil ?_) | ((refine WpA.cond_t ?_ ?_); focus (simp only [find, reduceIte, Nat.reduceEqDiff]; done)) | ((refine WpA.cond_f ?_ ?_); focus (simp only [find, reduceIte, Nat.reduceEqDiff]; done)) | ((with_reducible refine WpA.region ?_); (refine WpL.go _ rfl fun K9 hK9 => ?_); simp only [zz, zy, constA, runL, guardA, srcA, chunk, nilV, liveB, capsA, bndA, aop, qop, rdA, rdAs, args0, find, A.cs, St.put, fits, loadA, partC, fieldA, indexA, lenB, binV, binI, binS, unV, over, partsA, fillA, Value.oneCell', seval, ty_33, fld_33_0, ty_3, fld_33_4, ty_31, ty_4, fld_33_1, ty_9, fld_33_5, ty_22]; (refine RunTo.mk (by first | exact trivial | omega | (simp; done) | (simp; omega)) (hK9 _ _ ?_)); clear hK9 K9))
        (refine WpA.draw0 10 _ _ _ rfl rfl rfl (by kernel_rfl) (by kernel_rfl) (by kernel_rfl) fun K8 hK8 => ?_); simp only [List.take_succ_cons, List.take_zero, List.drop_succ_cons, List.drop_zero, List.map_cons, List.map_nil] at hK8 ⊢; (refine Draw0.go fun K7 hK7 => ?_); simp only [runQ, putE, zz, zy, constA, runL, guardA, srcA, chunk, nilV, liveB, capsA, bndA, aop, qop, rdA, rdAs, args0, find, A.cs, St.put, fits, loadA, partC, fieldA, indexA, lenB, binV, binI, binS, unV, over, partsA, fillA, Value.oneCell', seval, ty_33, fld_33_0, ty_3, fld_33_4, ty_31, ty_4, fld_33_1, ty_9, fld_33_5, ty_22]; (refine RunQ.mk (by first | exact trivial | omega | (simp; done) | (simp; omega)) (hK7 _ _ ?_)); clear hK7 K7; (try ((refine Draw0.nil (hK8 _ ?_)); clear hK8 K8; ((refine WpL.go _ rfl fun K9 hK9 => ?_); simp only [zz, zy, constA, runL, guardA, srcA, chunk, nilV, liveB, capsA, bndA, aop, qop, rdA, rdAs, args0, find, A.cs, St.put, fits, loadA, partC, fieldA, indexA, lenB, binV, binI, binS, unV, over, partsA, fillA, Value.oneCell', seval, ty_33, fld_33_0, ty_3, fld_33_4, ty_31, ty_4, fld_33_1, ty_9, fld_33_5, ty_22]; (refine RunTo.mk (by first | exact trivial | omega | (simp; done) | (simp; omega)) (hK9 _ _ ?_)); clear hK9 K9); repeat (first | with_reducible (first | refine roundsA_s ?_ | refine thenA_n ?_ | refine thenA_r ?_ | refine thenA_e ?_ | refine inBlockA_n ?_ | refine inBlockA_r ?_ | refine inBlockA_s ?_ | refine inBlockA_o rfl ?_ | refine WpA.seq ?_ | refine WpA.block ?_ | refine WpA.skip ?_ | refine WpA.ret ?_ | refine WpA.exit ?_ | refine WpL.nil ?_) | ((refine WpA.cond_t ?_ ?_); focus (simp only [find, reduceIte, Nat.reduceEqDiff]; done)) | ((refine WpA.cond_f ?_ ?_); focus (simp only [find, reduceIte, Nat.reduceEqDiff]; done)) | ((with_reducible refine WpA.region ?_); (refine WpL.go _ rfl fun K9 hK9 => ?_); simp only [zz, zy, constA, runL, guardA, srcA, chunk, nilV, liveB, capsA, bndA, aop, qop, rdA, rdAs, args0, find, A.cs, St.put, fits, loadA, partC, fieldA, indexA, lenB, binV, binI, binS, unV, over, partsA, fillA, Value.oneCell', seval, ty_33, fld_33_0, ty_3, fld_33_4, ty_31, ty_4, fld_33_1, ty_9, fld_33_5, ty_22]; (refine RunTo.mk (by first | exact trivial | omega | (simp; done) | (simp; omega)) (hK9 _ _ ?_)); clear hK9 K9))))
        refine Draw0.step (OpS.shut rfl rfl rfl (by kernel_rfl) (by first | exact ALes.refl _ | (simp only [List.cons_append, List.nil_append, List.map_nil]; exact ALes.refl _)) (by first | rfl | (simp [shuts, A.shut, C.shut]; done)) (hcn)) ?_
        (refine Draw0.go fun K7 hK7 => ?_); simp only [runQ, putE, zz, zy, constA, runL, guardA, srcA, chunk, nilV, liveB, capsA, bndA, aop, qop, rdA, rdAs, args0, find, A.cs, St.put, fits, loadA, partC, fieldA, indexA, lenB, binV, binI, binS, unV, over, partsA, fillA, Value.oneCell', seval, ty_33, fld_33_0, ty_3, fld_33_4, ty_31, ty_4, fld_33_1, ty_9, fld_33_5, ty_22]; (refine RunQ.mk (by first | exact trivial | omega | (simp; done) | (simp; omega)) (hK7 _ _ ?_)); clear hK7 K7; (try ((refine Draw0.nil (hK8 _ ?_)); clear hK8 K8; ((refine WpL.go _ rfl fun K9 hK9 => ?_); simp only [zz, zy, constA, runL, guardA, srcA, chunk, nilV, liveB, capsA, bndA, aop, qop, rdA, rdAs, args0, find, A.cs, St.put, fits, loadA, partC, fieldA, indexA, lenB, binV, binI, binS, unV, over, partsA, fillA, Value.oneCell', seval, ty_33, fld_33_0, ty_3, fld_33_4, ty_31, ty_4, fld_33_1, ty_9, fld_33_5, ty_22]; (refine RunTo.mk (by first | exact trivial | omega | (simp; done) | (simp; omega)) (hK9 _ _ ?_)); clear hK9 K9); repeat (first | with_reducible (first | refine roundsA_s ?_ | refine thenA_n ?_ | refine thenA_r ?_ | refine thenA_e ?_ | refine inBlockA_n ?_ | refine inBlockA_r ?_ | refine inBlockA_s ?_ | refine inBlockA_o rfl ?_ | refine WpA.seq ?_ | refine WpA.block ?_ | refine WpA.skip ?_ | refine WpA.ret ?_ | refine WpA.exit ?_ | refine WpL.nil ?_) | ((refine WpA.cond_t ?_ ?_); focus (simp only [find, reduceIte, Nat.reduceEqDiff]; done)) | ((refine WpA.cond_f ?_ ?_); focus (simp only [find, reduceIte, Nat.reduceEqDiff]; done)) | ((with_reducible refine WpA.region ?_); (refine WpL.go _ rfl fun K9 hK9 => ?_); simp only [zz, zy, constA, runL, guardA, srcA, chunk, nilV, liveB, capsA, bndA, aop, qop, rdA, rdAs, args0, find, A.cs, St.put, fits, loadA, partC, fieldA, indexA, lenB, binV, binI, binS, unV, over, partsA, fillA, Value.oneCell', seval, ty_33, fld_33_0, ty_3, fld_33_4, ty_31, ty_4, fld_33_1, ty_9, fld_33_5, ty_22]; (refine RunTo.mk (by first | exact trivial | omega | (simp; done) | (simp; omega)) (hK9 _ _ ?_)); clear hK9 K9))))
        refine Draw0.step (OpS.shut rfl rfl rfl (by kernel_rfl) (by first | exact ALes.refl _ | (simp only [List.cons_append, List.nil_append, List.map_nil]; exact ALes.refl _)) (by first | rfl | (simp [shuts, A.shut, C.shut]; done)) (hbr)) ?_
        (refine Draw0.go fun K7 hK7 => ?_); simp only [runQ, putE, zz, zy, constA, runL, guardA, srcA, chunk, nilV, liveB, capsA, bndA, aop, qop, rdA, rdAs, args0, find, A.cs, St.put, fits, loadA, partC, fieldA, indexA, lenB, binV, binI, binS, unV, over, partsA, fillA, Value.oneCell', seval, ty_33, fld_33_0, ty_3, fld_33_4, ty_31, ty_4, fld_33_1, ty_9, fld_33_5, ty_22]; (refine RunQ.mk (by first | exact trivial | omega | (simp; done) | (simp; omega)) (hK7 _ _ ?_)); clear hK7 K7; (try ((refine Draw0.nil (hK8 _ ?_)); clear hK8 K8; ((refine WpL.go _ rfl fun K9 hK9 => ?_); simp only [zz, zy, constA, runL, guardA, srcA, chunk, nilV, liveB, capsA, bndA, aop, qop, rdA, rdAs, args0, find, A.cs, St.put, fits, loadA, partC, fieldA, indexA, lenB, binV, binI, binS, unV, over, partsA, fillA, Value.oneCell', seval, ty_33, fld_33_0, ty_3, fld_33_4, ty_31, ty_4, fld_33_1, ty_9, fld_33_5, ty_22]; (refine RunTo.mk (by first | exact trivial | omega | (simp; done) | (simp; omega)) (hK9 _ _ ?_)); clear hK9 K9); repeat (first | with_reducible (first | refine roundsA_s ?_ | refine thenA_n ?_ | refine thenA_r ?_ | refine thenA_e ?_ | refine inBlockA_n ?_ | refine inBlockA_r ?_ | refine inBlockA_s ?_ | refine inBlockA_o rfl ?_ | refine WpA.seq ?_ | refine WpA.block ?_ | refine WpA.skip ?_ | refine WpA.ret ?_ | refine WpA.exit ?_ | refine WpL.nil ?_) | ((refine WpA.cond_t ?_ ?_); focus (simp only [find, reduceIte, Nat.reduceEqDiff]; done)) | ((refine WpA.cond_f ?_ ?_); focus (simp only [find, reduceIte, Nat.reduceEqDiff]; done)) | ((with_reducible refine WpA.region ?_); (refine WpL.go _ rfl fun K9 hK9 => ?_); simp only [zz, zy, constA, runL, guardA, srcA, chunk, nilV, liveB, capsA, bndA, aop, qop, rdA, rdAs, args0, find, A.cs, St.put, fits, loadA, partC, fieldA, indexA, lenB, binV, binI, binS, unV, over, partsA, fillA, Value.oneCell', seval, ty_33, fld_33_0, ty_3, fld_33_4, ty_31, ty_4, fld_33_1, ty_9, fld_33_5, ty_22]; (refine RunTo.mk (by first | exact trivial | omega | (simp; done) | (simp; omega)) (hK9 _ _ ?_)); clear hK9 K9))))
        refine Draw0.step (OpS.shut rfl rfl rfl (by kernel_rfl) (by first | exact ALes.refl _ | (simp only [List.cons_append, List.nil_append, List.map_nil]; exact ALes.refl _)) (by first | rfl | (simp [shuts, A.shut, C.shut]; done)) (hsa)) ?_
        (refine Draw0.go fun K7 hK7 => ?_); simp only [runQ, putE, zz, zy, constA, runL, guardA, srcA, chunk, nilV, liveB, capsA, bndA, aop, qop, rdA, rdAs, args0, find, A.cs, St.put, fits, loadA, partC, fieldA, indexA, lenB, binV, binI, binS, unV, over, partsA, fillA, Value.oneCell', seval, ty_33, fld_33_0, ty_3, fld_33_4, ty_31, ty_4, fld_33_1, ty_9, fld_33_5, ty_22]; (refine RunQ.mk (by first | exact trivial | omega | (simp; done) | (simp; omega)) (hK7 _ _ ?_)); clear hK7 K7; (try ((refine Draw0.nil (hK8 _ ?_)); clear hK8 K8; ((refine WpL.go _ rfl fun K9 hK9 => ?_); simp only [zz, zy, constA, runL, guardA, srcA, chunk, nilV, liveB, capsA, bndA, aop, qop, rdA, rdAs, args0, find, A.cs, St.put, fits, loadA, partC, fieldA, indexA, lenB, binV, binI, binS, unV, over, partsA, fillA, Value.oneCell', seval, ty_33, fld_33_0, ty_3, fld_33_4, ty_31, ty_4, fld_33_1, ty_9, fld_33_5, ty_22]; (refine RunTo.mk (by first | exact trivial | omega | (simp; done) | (simp; omega)) (hK9 _ _ ?_)); clear hK9 K9); repeat (first | with_reducible (first | refine roundsA_s ?_ | refine thenA_n ?_ | refine thenA_r ?_ | refine thenA_e ?_ | refine inBlockA_n ?_ | refine inBlockA_r ?_ | refine inBlockA_s ?_ | refine inBlockA_o rfl ?_ | refine WpA.seq ?_ | refine WpA.block ?_ | refine WpA.skip ?_ | refine WpA.ret ?_ | refine WpA.exit ?_ | refine WpL.nil ?_) | ((refine WpA.cond_t ?_ ?_); focus (simp only [find, reduceIte, Nat.reduceEqDiff]; done)) | ((refine WpA.cond_f ?_ ?_); focus (simp only [find, reduceIte, Nat.reduceEqDiff]; done)) | ((with_reducible refine WpA.region ?_); (refine WpL.go _ rfl fun K9 hK9 => ?_); simp only [zz, zy, constA, runL, guardA, srcA, chunk, nilV, liveB, capsA, bndA, aop, qop, rdA, rdAs, args0, find, A.cs, St.put, fits, loadA, partC, fieldA, indexA, lenB, binV, binI, binS, unV, over, partsA, fillA, Value.oneCell', seval, ty_33, fld_33_0, ty_3, fld_33_4, ty_31, ty_4, fld_33_1, ty_9, fld_33_5, ty_22]; (refine RunTo.mk (by first | exact trivial | omega | (simp; done) | (simp; omega)) (hK9 _ _ ?_)); clear hK9 K9))))
        refine ⟨by first | exact .inl rfl | exact .inr rfl, _, _, _, _, (by simp only [resA, find, reduceIte, Nat.reduceEqDiff, loadA, partC, List.getElem?_cons_zero, List.getElem?_cons_succ, List.drop_zero, List.drop_succ_cons, List.take_succ_cons, List.take_zero, List.length_cons, List.length_nil, ty_33, fld_33_0, ty_3, fld_33_4, ty_31, ty_4, fld_33_1, ty_9, fld_33_5, ty_22]; rfl), (by first | exact trivial | (simp; done)), (by simp only [tupA, viewA, viewC, viewCs, viewAs, List.getElem?_cons_zero, List.getElem?_cons_succ]; rfl), (by first | exact trivial | (simp; done)), _, ALe.refl _, ?_⟩
        simp
      | true =>
        simp only [Bool.true_and]
        refine Fn.intro Tryd.func25 rfl Tryd.ntmps25 Tryd.results25 (by simp only [List.length_cons, List.length_nil]; decide) ?_
        repeat (first | with_reducible (first | refine roundsA_s ?_ | refine thenA_n ?_ | refine thenA_r ?_ | refine thenA_e ?_ | refine inBlockA_n ?_ | refine inBlockA_r ?_ | refine inBlockA_s ?_ | refine inBlockA_o rfl ?_ | refine WpA.seq ?_ | refine WpA.block ?_ | refine WpA.skip ?_ | refine WpA.ret ?_ | refine WpA.exit ?_ | refine WpL.nil ?_) | ((refine WpA.cond_t ?_ ?_); focus (simp only [find, reduceIte, Nat.reduceEqDiff]; done)) | ((refine WpA.cond_f ?_ ?_); focus (simp only [find, reduceIte, Nat.reduceEqDiff]; done)) | ((with_reducible refine WpA.region ?_); (refine WpL.go _ rfl fun K9 hK9 => ?_); simp only [zz, zy, constA, runL, guardA, srcA, chunk, nilV, liveB, capsA, bndA, aop, qop, rdA, rdAs, args0, find, A.cs, St.put, fits, loadA, partC, fieldA, indexA, lenB, binV, binI, binS, unV, over, partsA, fillA, Value.oneCell', seval, ty_33, fld_33_0, ty_3, fld_33_4, ty_31, ty_4, fld_33_1, ty_9, fld_33_5, ty_22]; (refine RunTo.mk (by first | exact trivial | omega | (simp; done) | (simp; omega)) (hK9 _ _ ?_)); clear hK9 K9))
        (refine WpA.draw0 10 _ _ _ rfl rfl rfl (by kernel_rfl) (by kernel_rfl) (by kernel_rfl) fun K8 hK8 => ?_); simp only [List.take_succ_cons, List.take_zero, List.drop_succ_cons, List.drop_zero, List.map_cons, List.map_nil] at hK8 ⊢; (refine Draw0.go fun K7 hK7 => ?_); simp only [runQ, putE, zz, zy, constA, runL, guardA, srcA, chunk, nilV, liveB, capsA, bndA, aop, qop, rdA, rdAs, args0, find, A.cs, St.put, fits, loadA, partC, fieldA, indexA, lenB, binV, binI, binS, unV, over, partsA, fillA, Value.oneCell', seval, ty_33, fld_33_0, ty_3, fld_33_4, ty_31, ty_4, fld_33_1, ty_9, fld_33_5, ty_22]; (refine RunQ.mk (by first | exact trivial | omega | (simp; done) | (simp; omega)) (hK7 _ _ ?_)); clear hK7 K7; (try ((refine Draw0.nil (hK8 _ ?_)); clear hK8 K8; ((refine WpL.go _ rfl fun K9 hK9 => ?_); simp only [zz, zy, constA, runL, guardA, srcA, chunk, nilV, liveB, capsA, bndA, aop, qop, rdA, rdAs, args0, find, A.cs, St.put, fits, loadA, partC, fieldA, indexA, lenB, binV, binI, binS, unV, over, partsA, fillA, Value.oneCell', seval, ty_33, fld_33_0, ty_3, fld_33_4, ty_31, ty_4, fld_33_1, ty_9, fld_33_5, ty_22]; (refine RunTo.mk (by first | exact trivial | omega | (simp; done) | (simp; omega)) (hK9 _ _ ?_)); clear hK9 K9); repeat (first | with_reducible (first | refine roundsA_s ?_ | refine thenA_n ?_ | refine thenA_r ?_ | refine thenA_e ?_ | refine inBlockA_n ?_ | refine inBlockA_r ?_ | refine inBlockA_s ?_ | refine inBlockA_o rfl ?_ | refine WpA.seq ?_ | refine WpA.block ?_ | refine WpA.skip ?_ | refine WpA.ret ?_ | refine WpA.exit ?_ | refine WpL.nil ?_) | ((refine WpA.cond_t ?_ ?_); focus (simp only [find, reduceIte, Nat.reduceEqDiff]; done)) | ((refine WpA.cond_f ?_ ?_); focus (simp only [find, reduceIte, Nat.reduceEqDiff]; done)) | ((with_reducible refine WpA.region ?_); (refine WpL.go _ rfl fun K9 hK9 => ?_); simp only [zz, zy, constA, runL, guardA, srcA, chunk, nilV, liveB, capsA, bndA, aop, qop, rdA, rdAs, args0, find, A.cs, St.put, fits, loadA, partC, fieldA, indexA, lenB, binV, binI, binS, unV, over, partsA, fillA, Value.oneCell', seval, ty_33, fld_33_0, ty_3, fld_33_4, ty_31, ty_4, fld_33_1, ty_9, fld_33_5, ty_22]; (refine RunTo.mk (by first | exact trivial | omega | (simp; done) | (simp; omega)) (hK9 _ _ ?_)); clear hK9 K9))))
        refine Draw0.step (OpS.shut rfl rfl rfl (by kernel_rfl) (by first | exact ALes.refl _ | (simp only [List.cons_append, List.nil_append, List.map_nil]; exact ALes.refl _)) (by first | rfl | (simp [shuts, A.shut, C.shut]; done)) (hcn)) ?_
        (refine Draw0.go fun K7 hK7 => ?_); simp only [runQ, putE, zz, zy, constA, runL, guardA, srcA, chunk, nilV, liveB, capsA, bndA, aop, qop, rdA, rdAs, args0, find, A.cs, St.put, fits, loadA, partC, fieldA, indexA, lenB, binV, binI, binS, unV, over, partsA, fillA, Value.oneCell', seval, ty_33, fld_33_0, ty_3, fld_33_4, ty_31, ty_4, fld_33_1, ty_9, fld_33_5, ty_22]; (refine RunQ.mk (by first | exact trivial | omega | (simp; done) | (simp; omega)) (hK7 _ _ ?_)); clear hK7 K7; (try ((refine Draw0.nil (hK8 _ ?_)); clear hK8 K8; ((refine WpL.go _ rfl fun K9 hK9 => ?_); simp only [zz, zy, constA, runL, guardA, srcA, chunk, nilV, liveB, capsA, bndA, aop, qop, rdA, rdAs, args0, find, A.cs, St.put, fits, loadA, partC, fieldA, indexA, lenB, binV, binI, binS, unV, over, partsA, fillA, Value.oneCell', seval, ty_33, fld_33_0, ty_3, fld_33_4, ty_31, ty_4, fld_33_1, ty_9, fld_33_5, ty_22]; (refine RunTo.mk (by first | exact trivial | omega | (simp; done) | (simp; omega)) (hK9 _ _ ?_)); clear hK9 K9); repeat (first | with_reducible (first | refine roundsA_s ?_ | refine thenA_n ?_ | refine thenA_r ?_ | refine thenA_e ?_ | refine inBlockA_n ?_ | refine inBlockA_r ?_ | refine inBlockA_s ?_ | refine inBlockA_o rfl ?_ | refine WpA.seq ?_ | refine WpA.block ?_ | refine WpA.skip ?_ | refine WpA.ret ?_ | refine WpA.exit ?_ | refine WpL.nil ?_) | ((refine WpA.cond_t ?_ ?_); focus (simp only [find, reduceIte, Nat.reduceEqDiff]; done)) | ((refine WpA.cond_f ?_ ?_); focus (simp only [find, reduceIte, Nat.reduceEqDiff]; done)) | ((with_reducible refine WpA.region ?_); (refine WpL.go _ rfl fun K9 hK9 => ?_); simp only [zz, zy, constA, runL, guardA, srcA, chunk, nilV, liveB, capsA, bndA, aop, qop, rdA, rdAs, args0, find, A.cs, St.put, fits, loadA, partC, fieldA, indexA, lenB, binV, binI, binS, unV, over, partsA, fillA, Value.oneCell', seval, ty_33, fld_33_0, ty_3, fld_33_4, ty_31, ty_4, fld_33_1, ty_9, fld_33_5, ty_22]; (refine RunTo.mk (by first | exact trivial | omega | (simp; done) | (simp; omega)) (hK9 _ _ ?_)); clear hK9 K9))))
        refine Draw0.step (OpS.shut rfl rfl rfl (by kernel_rfl) (by first | exact ALes.refl _ | (simp only [List.cons_append, List.nil_append, List.map_nil]; exact ALes.refl _)) (by first | rfl | (simp [shuts, A.shut, C.shut]; done)) (hbr)) ?_
        (refine Draw0.go fun K7 hK7 => ?_); simp only [runQ, putE, zz, zy, constA, runL, guardA, srcA, chunk, nilV, liveB, capsA, bndA, aop, qop, rdA, rdAs, args0, find, A.cs, St.put, fits, loadA, partC, fieldA, indexA, lenB, binV, binI, binS, unV, over, partsA, fillA, Value.oneCell', seval, ty_33, fld_33_0, ty_3, fld_33_4, ty_31, ty_4, fld_33_1, ty_9, fld_33_5, ty_22]; (refine RunQ.mk (by first | exact trivial | omega | (simp; done) | (simp; omega)) (hK7 _ _ ?_)); clear hK7 K7; (try ((refine Draw0.nil (hK8 _ ?_)); clear hK8 K8; ((refine WpL.go _ rfl fun K9 hK9 => ?_); simp only [zz, zy, constA, runL, guardA, srcA, chunk, nilV, liveB, capsA, bndA, aop, qop, rdA, rdAs, args0, find, A.cs, St.put, fits, loadA, partC, fieldA, indexA, lenB, binV, binI, binS, unV, over, partsA, fillA, Value.oneCell', seval, ty_33, fld_33_0, ty_3, fld_33_4, ty_31, ty_4, fld_33_1, ty_9, fld_33_5, ty_22]; (refine RunTo.mk (by first | exact trivial | omega | (simp; done) | (simp; omega)) (hK9 _ _ ?_)); clear hK9 K9); repeat (first | with_reducible (first | refine roundsA_s ?_ | refine thenA_n ?_ | refine thenA_r ?_ | refine thenA_e ?_ | refine inBlockA_n ?_ | refine inBlockA_r ?_ | refine inBlockA_s ?_ | refine inBlockA_o rfl ?_ | refine WpA.seq ?_ | refine WpA.block ?_ | refine WpA.skip ?_ | refine WpA.ret ?_ | refine WpA.exit ?_ | refine WpL.nil ?_) | ((refine WpA.cond_t ?_ ?_); focus (simp only [find, reduceIte, Nat.reduceEqDiff]; done)) | ((refine WpA.cond_f ?_ ?_); focus (simp only [find, reduceIte, Nat.reduceEqDiff]; done)) | ((with_reducible refine WpA.region ?_); (refine WpL.go _ rfl fun K9 hK9 => ?_); simp only [zz, zy, constA, runL, guardA, srcA, chunk, nilV, liveB, capsA, bndA, aop, qop, rdA, rdAs, args0, find, A.cs, St.put, fits, loadA, partC, fieldA, indexA, lenB, binV, binI, binS, unV, over, partsA, fillA, Value.oneCell', seval, ty_33, fld_33_0, ty_3, fld_33_4, ty_31, ty_4, fld_33_1, ty_9, fld_33_5, ty_22]; (refine RunTo.mk (by first | exact trivial | omega | (simp; done) | (simp; omega)) (hK9 _ _ ?_)); clear hK9 K9))))
        refine Draw0.step (OpS.shut rfl rfl rfl (by kernel_rfl) (by first | exact ALes.refl _ | (simp only [List.cons_append, List.nil_append, List.map_nil]; exact ALes.refl _)) (by first | rfl | (simp [shuts, A.shut, C.shut]; done)) (hsa)) ?_
        by_cases k1 : k = 1
        · subst k1
          (refine Draw0.go fun K7 hK7 => ?_); simp only [runQ, putE, zz, zy, constA, runL, guardA, srcA, chunk, nilV, liveB, capsA, bndA, aop, qop, rdA, rdAs, args0, find, A.cs, St.put, fits, loadA, partC, fieldA, indexA, lenB, binV, binI, binS, unV, over, partsA, fillA, Value.oneCell', seval, ty_33, fld_33_0, ty_3, fld_33_4, ty_31, ty_4, fld_33_1, ty_9, fld_33_5, ty_22]; (refine RunQ.mk (by first | exact trivial | omega | (simp; done) | (simp; omega)) (hK7 _ _ ?_)); clear hK7 K7; (try ((refine Draw0.nil (hK8 _ ?_)); clear hK8 K8; ((refine WpL.go _ rfl fun K9 hK9 => ?_); simp only [zz, zy, constA, runL, guardA, srcA, chunk, nilV, liveB, capsA, bndA, aop, qop, rdA, rdAs, args0, find, A.cs, St.put, fits, loadA, partC, fieldA, indexA, lenB, binV, binI, binS, unV, over, partsA, fillA, Value.oneCell', seval, ty_33, fld_33_0, ty_3, fld_33_4, ty_31, ty_4, fld_33_1, ty_9, fld_33_5, ty_22]; (refine RunTo.mk (by first | exact trivial | omega | (simp; done) | (simp; omega)) (hK9 _ _ ?_)); clear hK9 K9); repeat (first | with_reducible (first | refine roundsA_s ?_ | refine thenA_n ?_ | refine thenA_r ?_ | refine thenA_e ?_ | refine inBlockA_n ?_ | refine inBlockA_r ?_ | refine inBlockA_s ?_ | refine inBlockA_o rfl ?_ | refine WpA.seq ?_ | refine WpA.block ?_ | refine WpA.skip ?_ | refine WpA.ret ?_ | refine WpA.exit ?_ | refine WpL.nil ?_) | ((refine WpA.cond_t ?_ ?_); focus (simp only [find, reduceIte, Nat.reduceEqDiff]; done)) | ((refine WpA.cond_f ?_ ?_); focus (simp only [find, reduceIte, Nat.reduceEqDiff]; done)) | ((with_reducible refine WpA.region ?_); (refine WpL.go _ rfl fun K9 hK9 => ?_); simp only [zz, zy, constA, runL, guardA, srcA, chunk, nilV, liveB, capsA, bndA, aop, qop, rdA, rdAs, args0, find, A.cs, St.put, fits, loadA, partC, fieldA, indexA, lenB, binV, binI, binS, unV, over, partsA, fillA, Value.oneCell', seval, ty_33, fld_33_0, ty_3, fld_33_4, ty_31, ty_4, fld_33_1, ty_9, fld_33_5, ty_22]; (refine RunTo.mk (by first | exact trivial | omega | (simp; done) | (simp; omega)) (hK9 _ _ ?_)); clear hK9 K9))))
          refine WpL.call rfl (guardA_sound (P := Tryd.prog) rfl) (CallA.shut rfl rfl (by kernel_rfl) (by first | exact ALes.refl _ | (simp only [List.cons_append, List.nil_append, List.map_nil]; exact ALes.refl _)) (by first | rfl | (simp [shuts, A.shut, C.shut]; done)) (hdm) ?_)
          ((refine WpL.go _ rfl fun K9 hK9 => ?_); simp only [zz, zy, constA, runL, guardA, srcA, chunk, nilV, liveB, capsA, bndA, aop, qop, rdA, rdAs, args0, find, A.cs, St.put, fits, loadA, partC, fieldA, indexA, lenB, binV, binI, binS, unV, over, partsA, fillA, Value.oneCell', seval, ty_33, fld_33_0, ty_3, fld_33_4, ty_31, ty_4, fld_33_1, ty_9, fld_33_5, ty_22]; (refine RunTo.mk (by first | exact trivial | omega | (simp; done) | (simp; omega)) (hK9 _ _ ?_)); clear hK9 K9); repeat (first | with_reducible (first | refine roundsA_s ?_ | refine thenA_n ?_ | refine thenA_r ?_ | refine thenA_e ?_ | refine inBlockA_n ?_ | refine inBlockA_r ?_ | refine inBlockA_s ?_ | refine inBlockA_o rfl ?_ | refine WpA.seq ?_ | refine WpA.block ?_ | refine WpA.skip ?_ | refine WpA.ret ?_ | refine WpA.exit ?_ | refine WpL.nil ?_) | ((refine WpA.cond_t ?_ ?_); focus (simp only [find, reduceIte, Nat.reduceEqDiff]; done)) | ((refine WpA.cond_f ?_ ?_); focus (simp only [find, reduceIte, Nat.reduceEqDiff]; done)) | ((with_reducible refine WpA.region ?_); (refine WpL.go _ rfl fun K9 hK9 => ?_); simp only [zz, zy, constA, runL, guardA, srcA, chunk, nilV, liveB, capsA, bndA, aop, qop, rdA, rdAs, args0, find, A.cs, St.put, fits, loadA, partC, fieldA, indexA, lenB, binV, binI, binS, unV, over, partsA, fillA, Value.oneCell', seval, ty_33, fld_33_0, ty_3, fld_33_4, ty_31, ty_4, fld_33_1, ty_9, fld_33_5, ty_22]; (refine RunTo.mk (by first | exact trivial | omega | (simp; done) | (simp; omega)) (hK9 _ _ ?_)); clear hK9 K9))
          refine ⟨by first | exact .inl rfl | exact .inr rfl, _, _, _, _, (by simp only [resA, find, reduceIte, Nat.reduceEqDiff, loadA, partC, List.getElem?_cons_zero, List.getElem?_cons_succ, List.drop_zero, List.drop_succ_cons, List.take_succ_cons, List.take_zero, List.length_cons, List.length_nil, ty_33, fld_33_0, ty_3, fld_33_4, ty_31, ty_4, fld_33_1, ty_9, fld_33_5, ty_22]; rfl), (by first | exact trivial | (simp; done)), (by simp only [tupA, viewA, viewC, viewCs, viewAs, List.getElem?_cons_zero, List.getElem?_cons_succ]; rfl), (by first | exact trivial | (simp; done)), _, ALe.refl _, ?_⟩
          simp
        by_cases k4 : k = 4
        · subst k4
          cases top with
          | false =>
            (refine Draw0.go fun K7 hK7 => ?_); simp only [runQ, putE, zz, zy, constA, runL, guardA, srcA, chunk, nilV, liveB, capsA, bndA, aop, qop, rdA, rdAs, args0, find, A.cs, St.put, fits, loadA, partC, fieldA, indexA, lenB, binV, binI, binS, unV, over, partsA, fillA, Value.oneCell', seval, ty_33, fld_33_0, ty_3, fld_33_4, ty_31, ty_4, fld_33_1, ty_9, fld_33_5, ty_22]; (refine RunQ.mk (by first | exact trivial | omega | (simp; done) | (simp; omega)) (hK7 _ _ ?_)); clear hK7 K7; (try ((refine Draw0.nil (hK8 _ ?_)); clear hK8 K8; ((refine WpL.go _ rfl fun K9 hK9 => ?_); simp only [zz, zy, constA, runL, guardA, srcA, chunk, nilV, liveB, capsA, bndA, aop, qop, rdA, rdAs, args0, find, A.cs, St.put, fits, loadA, partC, fieldA, indexA, lenB, binV, binI, binS, unV, over, partsA, fillA, Value.oneCell', seval, ty_33, fld_33_0, ty_3, fld_33_4, ty_31, ty_4, fld_33_1, ty_9, fld_33_5, ty_22]; (refine RunTo.mk (by first | exact trivial | omega | (simp; done) | (simp; omega)) (hK9 _ _ ?_)); clear hK9 K9); repeat (first | with_reducible (first | refine roundsA_s ?_ | refine thenA_n ?_ | refine thenA_r ?_ | refine thenA_e ?_ | refine inBlockA_n ?_ | refine inBlockA_r ?_ | refine inBlockA_s ?_ | refine inBlockA_o rfl ?_ | refine WpA.seq ?_ | refine WpA.block ?_ | refine WpA.skip ?_ | refine WpA.ret ?_ | refine WpA.exit ?_ | refine WpL.nil ?_) | ((refine WpA.cond_t ?_ ?_); focus (simp only [find, reduceIte, Nat.reduceEqDiff]; done)) | ((refine WpA.cond_f ?_ ?_); focus (simp only [find, reduceIte, Nat.reduceEqDiff]; done)) | ((with_reducible refine WpA.region ?_); (refine WpL.go _ rfl fun K9 hK9 => ?_); simp only [zz, zy, constA, runL, guardA, srcA, chunk, nilV, liveB, capsA, bndA, aop, qop, rdA, rdAs, args0, find, A.cs, St.put, fits, loadA, partC, fieldA, indexA, lenB, binV, binI, binS, unV, over, partsA, fillA, Value.oneCell', seval, ty_33, fld_33_0, ty_3, fld_33_4, ty_31, ty_4, fld_33_1, ty_9, fld_33_5, ty_22]; (refine RunTo.mk (by first | exact trivial | omega | (simp; done) | (simp; omega)) (hK9 _ _ ?_)); clear hK9 K9))))
            refine ⟨by first | exact .inl rfl | exact .inr rfl, _, _, _, _, (by simp only [resA, find, reduceIte, Nat.reduceEqDiff, loadA, partC, List.getElem?_cons_zero, List.getElem?_cons_succ, List.drop_zero, List.drop_succ_cons, List.take_succ_cons, List.take_zero, List.length_cons, List.length_nil, ty_33, fld_33_0, ty_3, fld_33_4, ty_31, ty_4, fld_33_1, ty_9, fld_33_5, ty_22]; rfl), (by first | exact trivial | (simp; done)), (by simp only [tupA, viewA, viewC, viewCs, viewAs, List.getElem?_cons_zero, List.getElem?_cons_succ]; rfl), (by first | exact trivial | (simp; done)), _, ALe.refl _, ?_⟩
            simp
          | true =>
            cases hn : eqB name ⟨#[]⟩ with
            | true =>
              (refine Draw0.go fun K7 hK7 => ?_); simp only [runQ, putE, zz, zy, constA, runL, guardA, srcA, chunk, nilV, liveB, capsA, bndA, aop, qop, rdA, rdAs, args0, find, A.cs, St.put, fits, loadA, partC, fieldA, indexA, lenB, binV, binI, binS, unV, over, partsA, fillA, Value.oneCell', seval, ty_33, fld_33_0, ty_3, fld_33_4, ty_31, ty_4, fld_33_1, ty_9, fld_33_5, ty_22, strEq, hn]; (refine RunQ.mk (by first | exact trivial | omega | (simp; done) | (simp; omega)) (hK7 _ _ ?_)); clear hK7 K7; (try ((refine Draw0.nil (hK8 _ ?_)); clear hK8 K8; ((refine WpL.go _ rfl fun K9 hK9 => ?_); simp only [zz, zy, constA, runL, guardA, srcA, chunk, nilV, liveB, capsA, bndA, aop, qop, rdA, rdAs, args0, find, A.cs, St.put, fits, loadA, partC, fieldA, indexA, lenB, binV, binI, binS, unV, over, partsA, fillA, Value.oneCell', seval, ty_33, fld_33_0, ty_3, fld_33_4, ty_31, ty_4, fld_33_1, ty_9, fld_33_5, ty_22, strEq, hn]; (refine RunTo.mk (by first | exact trivial | omega | (simp; done) | (simp; omega)) (hK9 _ _ ?_)); clear hK9 K9); repeat (first | with_reducible (first | refine roundsA_s ?_ | refine thenA_n ?_ | refine thenA_r ?_ | refine thenA_e ?_ | refine inBlockA_n ?_ | refine inBlockA_r ?_ | refine inBlockA_s ?_ | refine inBlockA_o rfl ?_ | refine WpA.seq ?_ | refine WpA.block ?_ | refine WpA.skip ?_ | refine WpA.ret ?_ | refine WpA.exit ?_ | refine WpL.nil ?_) | ((refine WpA.cond_t ?_ ?_); focus (simp only [find, reduceIte, Nat.reduceEqDiff]; done)) | ((refine WpA.cond_f ?_ ?_); focus (simp only [find, reduceIte, Nat.reduceEqDiff]; done)) | ((with_reducible refine WpA.region ?_); (refine WpL.go _ rfl fun K9 hK9 => ?_); simp only [zz, zy, constA, runL, guardA, srcA, chunk, nilV, liveB, capsA, bndA, aop, qop, rdA, rdAs, args0, find, A.cs, St.put, fits, loadA, partC, fieldA, indexA, lenB, binV, binI, binS, unV, over, partsA, fillA, Value.oneCell', seval, ty_33, fld_33_0, ty_3, fld_33_4, ty_31, ty_4, fld_33_1, ty_9, fld_33_5, ty_22, strEq, hn]; (refine RunTo.mk (by first | exact trivial | omega | (simp; done) | (simp; omega)) (hK9 _ _ ?_)); clear hK9 K9))))
              refine ⟨by first | exact .inl rfl | exact .inr rfl, _, _, _, _, (by simp only [resA, find, reduceIte, Nat.reduceEqDiff, loadA, partC, List.getElem?_cons_zero, List.getElem?_cons_succ, List.drop_zero, List.drop_succ_cons, List.take_succ_cons, List.take_zero, List.length_cons, List.length_nil, ty_33, fld_33_0, ty_3, fld_33_4, ty_31, ty_4, fld_33_1, ty_9, fld_33_5, ty_22]; rfl), (by first | exact trivial | (simp; done)), (by simp only [tupA, viewA, viewC, viewCs, viewAs, List.getElem?_cons_zero, List.getElem?_cons_succ]; rfl), (by first | exact trivial | (simp; done)), _, ALe.refl _, ?_⟩
              simp [hn]
            | false =>
              (refine Draw0.go fun K7 hK7 => ?_); simp only [runQ, putE, zz, zy, constA, runL, guardA, srcA, chunk, nilV, liveB, capsA, bndA, aop, qop, rdA, rdAs, args0, find, A.cs, St.put, fits, loadA, partC, fieldA, indexA, lenB, binV, binI, binS, unV, over, partsA, fillA, Value.oneCell', seval, ty_33, fld_33_0, ty_3, fld_33_4, ty_31, ty_4, fld_33_1, ty_9, fld_33_5, ty_22, strEq, hn]; (refine RunQ.mk (by first | exact trivial | omega | (simp; done) | (simp; omega)) (hK7 _ _ ?_)); clear hK7 K7; (try ((refine Draw0.nil (hK8 _ ?_)); clear hK8 K8; ((refine WpL.go _ rfl fun K9 hK9 => ?_); simp only [zz, zy, constA, runL, guardA, srcA, chunk, nilV, liveB, capsA, bndA, aop, qop, rdA, rdAs, args0, find, A.cs, St.put, fits, loadA, partC, fieldA, indexA, lenB, binV, binI, binS, unV, over, partsA, fillA, Value.oneCell', seval, ty_33, fld_33_0, ty_3, fld_33_4, ty_31, ty_4, fld_33_1, ty_9, fld_33_5, ty_22, strEq, hn]; (refine RunTo.mk (by first | exact trivial | omega | (simp; done) | (simp; omega)) (hK9 _ _ ?_)); clear hK9 K9); repeat (first | with_reducible (first | refine roundsA_s ?_ | refine thenA_n ?_ | refine thenA_r ?_ | refine thenA_e ?_ | refine inBlockA_n ?_ | refine inBlockA_r ?_ | refine inBlockA_s ?_ | refine inBlockA_o rfl ?_ | refine WpA.seq ?_ | refine WpA.block ?_ | refine WpA.skip ?_ | refine WpA.ret ?_ | refine WpA.exit ?_ | refine WpL.nil ?_) | ((refine WpA.cond_t ?_ ?_); focus (simp only [find, reduceIte, Nat.reduceEqDiff]; done)) | ((refine WpA.cond_f ?_ ?_); focus (simp only [find, reduceIte, Nat.reduceEqDiff]; done)) | ((with_reducible refine WpA.region ?_); (refine WpL.go _ rfl fun K9 hK9 => ?_); simp only [zz, zy, constA, runL, guardA, srcA, chunk, nilV, liveB, capsA, bndA, aop, qop, rdA, rdAs, args0, find, A.cs, St.put, fits, loadA, partC, fieldA, indexA, lenB, binV, binI, binS, unV, over, partsA, fillA, Value.oneCell', seval, ty_33, fld_33_0, ty_3, fld_33_4, ty_31, ty_4, fld_33_1, ty_9, fld_33_5, ty_22, strEq, hn]; (refine RunTo.mk (by first | exact trivial | omega | (simp; done) | (simp; omega)) (hK9 _ _ ?_)); clear hK9 K9))))
              refine WpL.call rfl (guardA_sound (P := Tryd.prog) rfl) (CallA.lend rfl rfl (by kernel_rfl) (by simp only [viewAs, viewA, viewC, viewCs, List.cons_append, List.nil_append, List.map_nil, List.getElem?_cons_zero, List.getElem?_cons_succ]; rfl) (by first | exact trivial | (simp; done) | (simp [C.shut]; done)) rfl (hcf false) ?_)
              ((refine WpL.go _ rfl fun K9 hK9 => ?_); simp only [zz, zy, constA, runL, guardA, srcA, chunk, nilV, liveB, capsA, bndA, aop, qop, rdA, rdAs, args0, find, A.cs, St.put, fits, loadA, partC, fieldA, indexA, lenB, binV, binI, binS, unV, over, partsA, fillA, Value.oneCell', seval, ty_33, fld_33_0, ty_3, fld_33_4, ty_31, ty_4, fld_33_1, ty_9, fld_33_5, ty_22]; (refine RunTo.mk (by first | exact trivial | omega | (simp; done) | (simp; omega)) (hK9 _ _ ?_)); clear hK9 K9); repeat (first | with_reducible (first | refine roundsA_s ?_ | refine thenA_n ?_ | refine thenA_r ?_ | refine thenA_e ?_ | refine inBlockA_n ?_ | refine inBlockA_r ?_ | refine inBlockA_s ?_ | refine inBlockA_o rfl ?_ | refine WpA.seq ?_ | refine WpA.block ?_ | refine WpA.skip ?_ | refine WpA.ret ?_ | refine WpA.exit ?_ | refine WpL.nil ?_) | ((refine WpA.cond_t ?_ ?_); focus (simp only [find, reduceIte, Nat.reduceEqDiff]; done)) | ((refine WpA.cond_f ?_ ?_); focus (simp only [find, reduceIte, Nat.reduceEqDiff]; done)) | ((with_reducible refine WpA.region ?_); (refine WpL.go _ rfl fun K9 hK9 => ?_); simp only [zz, zy, constA, runL, guardA, srcA, chunk, nilV, liveB, capsA, bndA, aop, qop, rdA, rdAs, args0, find, A.cs, St.put, fits, loadA, partC, fieldA, indexA, lenB, binV, binI, binS, unV, over, partsA, fillA, Value.oneCell', seval, ty_33, fld_33_0, ty_3, fld_33_4, ty_31, ty_4, fld_33_1, ty_9, fld_33_5, ty_22]; (refine RunTo.mk (by first | exact trivial | omega | (simp; done) | (simp; omega)) (hK9 _ _ ?_)); clear hK9 K9))
              refine ⟨by first | exact .inl rfl | exact .inr rfl, _, _, _, _, (by simp only [resA, find, reduceIte, Nat.reduceEqDiff, loadA, partC, List.getElem?_cons_zero, List.getElem?_cons_succ, List.drop_zero, List.drop_succ_cons, List.take_succ_cons, List.take_zero, List.length_cons, List.length_nil, ty_33, fld_33_0, ty_3, fld_33_4, ty_31, ty_4, fld_33_1, ty_9, fld_33_5, ty_22]; rfl), (by first | exact trivial | (simp; done)), (by simp only [tupA, viewA, viewC, viewCs, viewAs, List.getElem?_cons_zero, List.getElem?_cons_succ]; rfl), (by first | exact trivial | (simp; done)), _, ALe.refl _, ?_⟩
              rw [K.mays_any]; simp [hn]
        by_cases kr : k = 2 ∨ k = 3 ∨ k = 10
        · cases hn : eqB name ⟨#[]⟩ with
          | true =>
            rcases kr with rfl | rfl | rfl
            all_goals
              (refine Draw0.go fun K7 hK7 => ?_); simp only [runQ, putE, zz, zy, constA, runL, guardA, srcA, chunk, nilV, liveB, capsA, bndA, aop, qop, rdA, rdAs, args0, find, A.cs, St.put, fits, loadA, partC, fieldA, indexA, lenB, binV, binI, binS, unV, over, partsA, fillA, Value.oneCell', seval, ty_33, fld_33_0, ty_3, fld_33_4, ty_31, ty_4, fld_33_1, ty_9, fld_33_5, ty_22, strEq, hn]; (refine RunQ.mk (by first | exact trivial | omega | (simp; done) | (simp; omega)) (hK7 _ _ ?_)); clear hK7 K7; (try ((refine Draw0.nil (hK8 _ ?_)); clear hK8 K8; ((refine WpL.go _ rfl fun K9 hK9 => ?_); simp only [zz, zy, constA, runL, guardA, srcA, chunk, nilV, liveB, capsA, bndA, aop, qop, rdA, rdAs, args0, find, A.cs, St.put, fits, loadA, partC, fieldA, indexA, lenB, binV, binI, binS, unV, over, partsA, fillA, Value.oneCell', seval, ty_33, fld_33_0, ty_3, fld_33_4, ty_31, ty_4, fld_33_1, ty_9, fld_33_5, ty_22, strEq, hn]; (refine RunTo.mk (by first | exact trivial | omega | (simp; done) | (simp; omega)) (hK9 _ _ ?_)); clear hK9 K9); repeat (first | with_reducible (first | refine roundsA_s ?_ | refine thenA_n ?_ | refine thenA_r ?_ | refine thenA_e ?_ | refine inBlockA_n ?_ | refine inBlockA_r ?_ | refine inBlockA_s ?_ | refine inBlockA_o rfl ?_ | refine WpA.seq ?_ | refine WpA.block ?_ | refine WpA.skip ?_ | refine WpA.ret ?_ | refine WpA.exit ?_ | refine WpL.nil ?_) | ((refine WpA.cond_t ?_ ?_); focus (simp only [find, reduceIte, Nat.reduceEqDiff]; done)) | ((refine WpA.cond_f ?_ ?_); focus (simp only [find, reduceIte, Nat.reduceEqDiff]; done)) | ((with_reducible refine WpA.region ?_); (refine WpL.go _ rfl fun K9 hK9 => ?_); simp only [zz, zy, constA, runL, guardA, srcA, chunk, nilV, liveB, capsA, bndA, aop, qop, rdA, rdAs, args0, find, A.cs, St.put, fits, loadA, partC, fieldA, indexA, lenB, binV, binI, binS, unV, over, partsA, fillA, Value.oneCell', seval, ty_33, fld_33_0, ty_3, fld_33_4, ty_31, ty_4, fld_33_1, ty_9, fld_33_5, ty_22, strEq, hn]; (refine RunTo.mk (by first | exact trivial | omega | (simp; done) | (simp; omega)) (hK9 _ _ ?_)); clear hK9 K9))))
              refine ⟨by first | exact .inl rfl | exact .inr rfl, _, _, _, _, (by simp only [resA, find, reduceIte, Nat.reduceEqDiff, loadA, partC, List.getElem?_cons_zero, List.getElem?_cons_succ, List.drop_zero, List.drop_succ_cons, List.take_succ_cons, List.take_zero, List.length_cons, List.length_nil, ty_33, fld_33_0, ty_3, fld_33_4, ty_31, ty_4, fld_33_1, ty_9, fld_33_5, ty_22]; rfl), (by first | exact trivial | (simp; done)), (by simp only [tupA, viewA, viewC, viewCs, viewAs, List.getElem?_cons_zero, List.getElem?_cons_succ]; rfl), (by first | exact trivial | (simp; done)), _, ALe.refl _, ?_⟩
              simp [hn]
          | false =>
            cases top <;> rcases kr with rfl | rfl | rfl
            all_goals
              (refine Draw0.go fun K7 hK7 => ?_); simp only [runQ, putE, zz, zy, constA, runL, guardA, srcA, chunk, nilV, liveB, capsA, bndA, aop, qop, rdA, rdAs, args0, find, A.cs, St.put, fits, loadA, partC, fieldA, indexA, lenB, binV, binI, binS, unV, over, partsA, fillA, Value.oneCell', seval, ty_33, fld_33_0, ty_3, fld_33_4, ty_31, ty_4, fld_33_1, ty_9, fld_33_5, ty_22, strEq, hn]; (refine RunQ.mk (by first | exact trivial | omega | (simp; done) | (simp; omega)) (hK7 _ _ ?_)); clear hK7 K7; (try ((refine Draw0.nil (hK8 _ ?_)); clear hK8 K8; ((refine WpL.go _ rfl fun K9 hK9 => ?_); simp only [zz, zy, constA, runL, guardA, srcA, chunk, nilV, liveB, capsA, bndA, aop, qop, rdA, rdAs, args0, find, A.cs, St.put, fits, loadA, partC, fieldA, indexA, lenB, binV, binI, binS, unV, over, partsA, fillA, Value.oneCell', seval, ty_33, fld_33_0, ty_3, fld_33_4, ty_31, ty_4, fld_33_1, ty_9, fld_33_5, ty_22, strEq, hn]; (refine RunTo.mk (by first | exact trivial | omega | (simp; done) | (simp; omega)) (hK9 _ _ ?_)); clear hK9 K9); repeat (first | with_reducible (first | refine roundsA_s ?_ | refine thenA_n ?_ | refine thenA_r ?_ | refine thenA_e ?_ | refine inBlockA_n ?_ | refine inBlockA_r ?_ | refine inBlockA_s ?_ | refine inBlockA_o rfl ?_ | refine WpA.seq ?_ | refine WpA.block ?_ | refine WpA.skip ?_ | refine WpA.ret ?_ | refine WpA.exit ?_ | refine WpL.nil ?_) | ((refine WpA.cond_t ?_ ?_); focus (simp only [find, reduceIte, Nat.reduceEqDiff]; done)) | ((refine WpA.cond_f ?_ ?_); focus (simp only [find, reduceIte, Nat.reduceEqDiff]; done)) | ((with_reducible refine WpA.region ?_); (refine WpL.go _ rfl fun K9 hK9 => ?_); simp only [zz, zy, constA, runL, guardA, srcA, chunk, nilV, liveB, capsA, bndA, aop, qop, rdA, rdAs, args0, find, A.cs, St.put, fits, loadA, partC, fieldA, indexA, lenB, binV, binI, binS, unV, over, partsA, fillA, Value.oneCell', seval, ty_33, fld_33_0, ty_3, fld_33_4, ty_31, ty_4, fld_33_1, ty_9, fld_33_5, ty_22, strEq, hn]; (refine RunTo.mk (by first | exact trivial | omega | (simp; done) | (simp; omega)) (hK9 _ _ ?_)); clear hK9 K9))))
              refine WpL.call rfl (guardA_sound (P := Tryd.prog) rfl) (CallA.lend rfl rfl (by kernel_rfl) (by simp only [viewAs, viewA, viewC, viewCs, List.cons_append, List.nil_append, List.map_nil, List.getElem?_cons_zero, List.getElem?_cons_succ]; rfl) (by first | exact trivial | (simp; done) | (simp [C.shut]; done)) rfl (hcf false) ?_)
              ((refine WpL.go _ rfl fun K9 hK9 => ?_); simp only [zz, zy, constA, runL, guardA, srcA, chunk, nilV, liveB, capsA, bndA, aop, qop, rdA, rdAs, args0, find, A.cs, St.put, fits, loadA, partC, fieldA, indexA, lenB, binV, binI, binS, unV, over, partsA, fillA, Value.oneCell', seval, ty_33, fld_33_0, ty_3, fld_33_4, ty_31, ty_4, fld_33_1, ty_9, fld_33_5, ty_22]; (refine RunTo.mk (by first | exact trivial | omega | (simp; done) | (simp; omega)) (hK9 _ _ ?_)); clear hK9 K9); repeat (first | with_reducible (first | refine roundsA_s ?_ | refine thenA_n ?_ | refine thenA_r ?_ | refine thenA_e ?_ | refine inBlockA_n ?_ | refine inBlockA_r ?_ | refine inBlockA_s ?_ | refine inBlockA_o rfl ?_ | refine WpA.seq ?_ | refine WpA.block ?_ | refine WpA.skip ?_ | refine WpA.ret ?_ | refine WpA.exit ?_ | refine WpL.nil ?_) | ((refine WpA.cond_t ?_ ?_); focus (simp only [find, reduceIte, Nat.reduceEqDiff]; done)) | ((refine WpA.cond_f ?_ ?_); focus (simp only [find, reduceIte, Nat.reduceEqDiff]; done)) | ((with_reducible refine WpA.region ?_); (refine WpL.go _ rfl fun K9 hK9 => ?_); simp only [zz, zy, constA, runL, guardA, srcA, chunk, nilV, liveB, capsA, bndA, aop, qop, rdA, rdAs, args0, find, A.cs, St.put, fits, loadA, partC, fieldA, indexA, lenB, binV, binI, binS, unV, over, partsA, fillA, Value.oneCell', seval, ty_33, fld_33_0, ty_3, fld_33_4, ty_31, ty_4, fld_33_1, ty_9, fld_33_5, ty_22]; (refine RunTo.mk (by first | exact trivial | omega | (simp; done) | (simp; omega)) (hK9 _ _ ?_)); clear hK9 K9))
              refine ⟨by first | exact .inl rfl | exact .inr rfl, _, _, _, _, (by simp only [resA, find, reduceIte, Nat.reduceEqDiff, loadA, partC, List.getElem?_cons_zero, List.getElem?_cons_succ, List.drop_zero, List.drop_succ_cons, List.take_succ_cons, List.take_zero, List.length_cons, List.length_nil, ty_33, fld_33_0, ty_3, fld_33_4, ty_31, ty_4, fld_33_1, ty_9, fld_33_5, ty_22]; rfl), (by first | exact trivial | (simp; done)), (by simp only [tupA, viewA, viewC, viewCs, viewAs, List.getElem?_cons_zero, List.getElem?_cons_succ]; rfl), (by first | exact trivial | (simp; done)), _, ALe.refl _, ?_⟩
              rw [K.mays_any]; simp [hn]
        have k2 : k ≠ 2 := fun e => kr (.inl e)
        have k3 : k ≠ 3 := fun e => kr (.inr (.inl e))
        have k10 : k ≠ 10 := fun e => kr (.inr (.inr e))
        by_cases k6 : k = 6
        · subst k6
          cases vb with
          | false =>
            (refine Draw0.go fun K7 hK7 => ?_); simp only [runQ, putE, zz, zy, constA, runL, guardA, srcA, chunk, nilV, liveB, capsA, bndA, aop, qop, rdA, rdAs, args0, find, A.cs, St.put, fits, loadA, partC, fieldA, indexA, lenB, binV, binI, binS, unV, over, partsA, fillA, Value.oneCell', seval, ty_33, fld_33_0, ty_3, fld_33_4, ty_31, ty_4, fld_33_1, ty_9, fld_33_5, ty_22]; (refine RunQ.mk (by first | exact trivial | omega | (simp; done) | (simp; omega)) (hK7 _ _ ?_)); clear hK7 K7; (try ((refine Draw0.nil (hK8 _ ?_)); clear hK8 K8; ((refine WpL.go _ rfl fun K9 hK9 => ?_); simp only [zz, zy, constA, runL, guardA, srcA, chunk, nilV, liveB, capsA, bndA, aop, qop, rdA, rdAs, args0, find, A.cs, St.put, fits, loadA, partC, fieldA, indexA, lenB, binV, binI, binS, unV, over, partsA, fillA, Value.oneCell', seval, ty_33, fld_33_0, ty_3, fld_33_4, ty_31, ty_4, fld_33_1, ty_9, fld_33_5, ty_22]; (refine RunTo.mk (by first | exact trivial | omega | (simp; done) | (simp; omega)) (hK9 _ _ ?_)); clear hK9 K9); repeat (first | with_reducible (first | refine roundsA_s ?_ | refine thenA_n ?_ | refine thenA_r ?_ | refine thenA_e ?_ | refine inBlockA_n ?_ | refine inBlockA_r ?_ | refine inBlockA_s ?_ | refine inBlockA_o rfl ?_ | refine WpA.seq ?_ | refine WpA.block ?_ | refine WpA.skip ?_ | refine WpA.ret ?_ | refine WpA.exit ?_ | refine WpL.nil ?_) | ((refine WpA.cond_t ?_ ?_); focus (simp only [find, reduceIte, Nat.reduceEqDiff]; done)) | ((refine WpA.cond_f ?_ ?_); focus (simp only [find, reduceIte, Nat.reduceEqDiff]; done)) | ((with_reducible refine WpA.region ?_); (refine WpL.go _ rfl fun K9 hK9 => ?_); simp only [zz, zy, constA, runL, guardA, srcA, chunk, nilV, liveB, capsA, bndA, aop, qop, rdA, rdAs, args0, find, A.cs, St.put, fits, loadA, partC, fieldA, indexA, lenB, binV, binI, binS, unV, over, partsA, fillA, Value.oneCell', seval, ty_33, fld_33_0, ty_3, fld_33_4, ty_31, ty_4, fld_33_1, ty_9, fld_33_5, ty_22]; (refine RunTo.mk (by first | exact trivial | omega | (simp; done) | (simp; omega)) (hK9 _ _ ?_)); clear hK9 K9))))
            refine WpL.call rfl (guardA_sound (P := Tryd.prog) rfl) (CallA.shut rfl rfl (by kernel_rfl) (by first | exact ALes.refl _ | (simp only [List.cons_append, List.nil_append, List.map_nil]; exact ALes.refl _)) (by first | rfl | (simp [shuts, A.shut, C.shut]; done)) (hal) ?_)
            ((refine WpL.go _ rfl fun K9 hK9 => ?_); simp only [zz, zy, constA, runL, guardA, srcA, chunk, nilV, liveB, capsA, bndA, aop, qop, rdA, rdAs, args0, find, A.cs, St.put, fits, loadA, partC, fieldA, indexA, lenB, binV, binI, binS, unV, over, partsA, fillA, Value.oneCell', seval, ty_33, fld_33_0, ty_3, fld_33_4, ty_31, ty_4, fld_33_1, ty_9, fld_33_5, ty_22]; (refine RunTo.mk (by first | exact trivial | omega | (simp; done) | (simp; omega)) (hK9 _ _ ?_)); clear hK9 K9); repeat (first | with_reducible (first | refine roundsA_s ?_ | refine thenA_n ?_ | refine thenA_r ?_ | refine thenA_e ?_ | refine inBlockA_n ?_ | refine inBlockA_r ?_ | refine inBlockA_s ?_ | refine inBlockA_o rfl ?_ | refine WpA.seq ?_ | refine WpA.block ?_ | refine WpA.skip ?_ | refine WpA.ret ?_ | refine WpA.exit ?_ | refine WpL.nil ?_) | ((refine WpA.cond_t ?_ ?_); focus (simp only [find, reduceIte, Nat.reduceEqDiff]; done)) | ((refine WpA.cond_f ?_ ?_); focus (simp only [find, reduceIte, Nat.reduceEqDiff]; done)) | ((with_reducible refine WpA.region ?_); (refine WpL.go _ rfl fun K9 hK9 => ?_); simp only [zz, zy, constA, runL, guardA, srcA, chunk, nilV, liveB, capsA, bndA, aop, qop, rdA, rdAs, args0, find, A.cs, St.put, fits, loadA, partC, fieldA, indexA, lenB, binV, binI, binS, unV, over, partsA, fillA, Value.oneCell', seval, ty_33, fld_33_0, ty_3, fld_33_4, ty_31, ty_4, fld_33_1, ty_9, fld_33_5, ty_22]; (refine RunTo.mk (by first | exact trivial | omega | (simp; done) | (simp; omega)) (hK9 _ _ ?_)); clear hK9 K9))
            refine WpL.call rfl (guardA_sound (P := Tryd.prog) rfl) (CallA.shut rfl rfl (by kernel_rfl) (by first | exact ALes.refl _ | (simp only [List.cons_append, List.nil_append, List.map_nil]; exact ALes.refl _)) (by first | rfl | (simp [shuts, A.shut, C.shut]; done)) (hva) ?_)
            ((refine WpL.go _ rfl fun K9 hK9 => ?_); simp only [zz, zy, constA, runL, guardA, srcA, chunk, nilV, liveB, capsA, bndA, aop, qop, rdA, rdAs, args0, find, A.cs, St.put, fits, loadA, partC, fieldA, indexA, lenB, binV, binI, binS, unV, over, partsA, fillA, Value.oneCell', seval, ty_33, fld_33_0, ty_3, fld_33_4, ty_31, ty_4, fld_33_1, ty_9, fld_33_5, ty_22]; (refine RunTo.mk (by first | exact trivial | omega | (simp; done) | (simp; omega)) (hK9 _ _ ?_)); clear hK9 K9); repeat (first | with_reducible (first | refine roundsA_s ?_ | refine thenA_n ?_ | refine thenA_r ?_ | refine thenA_e ?_ | refine inBlockA_n ?_ | refine inBlockA_r ?_ | refine inBlockA_s ?_ | refine inBlockA_o rfl ?_ | refine WpA.seq ?_ | refine WpA.block ?_ | refine WpA.skip ?_ | refine WpA.ret ?_ | refine WpA.exit ?_ | refine WpL.nil ?_) | ((refine WpA.cond_t ?_ ?_); focus (simp only [find, reduceIte, Nat.reduceEqDiff]; done)) | ((refine WpA.cond_f ?_ ?_); focus (simp only [find, reduceIte, Nat.reduceEqDiff]; done)) | ((with_reducible refine WpA.region ?_); (refine WpL.go _ rfl fun K9 hK9 => ?_); simp only [zz, zy, constA, runL, guardA, srcA, chunk, nilV, liveB, capsA, bndA, aop, qop, rdA, rdAs, args0, find, A.cs, St.put, fits, loadA, partC, fieldA, indexA, lenB, binV, binI, binS, unV, over, partsA, fillA, Value.oneCell', seval, ty_33, fld_33_0, ty_3, fld_33_4, ty_31, ty_4, fld_33_1, ty_9, fld_33_5, ty_22]; (refine RunTo.mk (by first | exact trivial | omega | (simp; done) | (simp; omega)) (hK9 _ _ ?_)); clear hK9 K9))
            refine ⟨by first | exact .inl rfl | exact .inr rfl, _, _, _, _, (by simp only [resA, find, reduceIte, Nat.reduceEqDiff, loadA, partC, List.getElem?_cons_zero, List.getElem?_cons_succ, List.drop_zero, List.drop_succ_cons, List.take_succ_cons, List.take_zero, List.length_cons, List.length_nil, ty_33, fld_33_0, ty_3, fld_33_4, ty_31, ty_4, fld_33_1, ty_9, fld_33_5, ty_22]; rfl), (by first | exact trivial | (simp; done)), (by simp only [tupA, viewA, viewC, viewCs, viewAs, List.getElem?_cons_zero, List.getElem?_cons_succ]; rfl), (by first | exact trivial | (simp; done)), _, ALe.refl _, ?_⟩
            simp
          | true =>
            cases top
            all_goals
              (refine Draw0.go fun K7 hK7 => ?_); simp only [runQ, putE, zz, zy, constA, runL, guardA, srcA, chunk, nilV, liveB, capsA, bndA, aop, qop, rdA, rdAs, args0, find, A.cs, St.put, fits, loadA, partC, fieldA, indexA, lenB, binV, binI, binS, unV, over, partsA, fillA, Value.oneCell', seval, ty_33, fld_33_0, ty_3, fld_33_4, ty_31, ty_4, fld_33_1, ty_9, fld_33_5, ty_22]; (refine RunQ.mk (by first | exact trivial | omega | (simp; done) | (simp; omega)) (hK7 _ _ ?_)); clear hK7 K7; (try ((refine Draw0.nil (hK8 _ ?_)); clear hK8 K8; ((refine WpL.go _ rfl fun K9 hK9 => ?_); simp only [zz, zy, constA, runL, guardA, srcA, chunk, nilV, liveB, capsA, bndA, aop, qop, rdA, rdAs, args0, find, A.cs, St.put, fits, loadA, partC, fieldA, indexA, lenB, binV, binI, binS, unV, over, partsA, fillA, Value.oneCell', seval, ty_33, fld_33_0, ty_3, fld_33_4, ty_31, ty_4, fld_33_1, ty_9, fld_33_5, ty_22]; (refine RunTo.mk (by first | exact trivial | omega | (simp; done) | (simp; omega)) (hK9 _ _ ?_)); clear hK9 K9); repeat (first | with_reducible (first | refine roundsA_s ?_ | refine thenA_n ?_ | refine thenA_r ?_ | refine thenA_e ?_ | refine inBlockA_n ?_ | refine inBlockA_r ?_ | refine inBlockA_s ?_ | refine inBlockA_o rfl ?_ | refine WpA.seq ?_ | refine WpA.block ?_ | refine WpA.skip ?_ | refine WpA.ret ?_ | refine WpA.exit ?_ | refine WpL.nil ?_) | ((refine WpA.cond_t ?_ ?_); focus (simp only [find, reduceIte, Nat.reduceEqDiff]; done)) | ((refine WpA.cond_f ?_ ?_); focus (simp only [find, reduceIte, Nat.reduceEqDiff]; done)) | ((with_reducible refine WpA.region ?_); (refine WpL.go _ rfl fun K9 hK9 => ?_); simp only [zz, zy, constA, runL, guardA, srcA, chunk, nilV, liveB, capsA, bndA, aop, qop, rdA, rdAs, args0, find, A.cs, St.put, fits, loadA, partC, fieldA, indexA, lenB, binV, binI, binS, unV, over, partsA, fillA, Value.oneCell', seval, ty_33, fld_33_0, ty_3, fld_33_4, ty_31, ty_4, fld_33_1, ty_9, fld_33_5, ty_22]; (refine RunTo.mk (by first | exact trivial | omega | (simp; done) | (simp; omega)) (hK9 _ _ ?_)); clear hK9 K9))))
              refine WpL.call rfl (guardA_sound (P := Tryd.prog) rfl) (CallA.shut rfl rfl (by kernel_rfl) (by first | exact ALes.refl _ | (simp only [List.cons_append, List.nil_append, List.map_nil]; exact ALes.refl _)) (by first | rfl | (simp [shuts, A.shut, C.shut]; done)) (hal) ?_)
              ((refine WpL.go _ rfl fun K9 hK9 => ?_); simp only [zz, zy, constA, runL, guardA, srcA, chunk, nilV, liveB, capsA, bndA, aop, qop, rdA, rdAs, args0, find, A.cs, St.put, fits, loadA, partC, fieldA, indexA, lenB, binV, binI, binS, unV, over, partsA, fillA, Value.oneCell', seval, ty_33, fld_33_0, ty_3, fld_33_4, ty_31, ty_4, fld_33_1, ty_9, fld_33_5, ty_22]; (refine RunTo.mk (by first | exact trivial | omega | (simp; done) | (simp; omega)) (hK9 _ _ ?_)); clear hK9 K9); repeat (first | with_reducible (first | refine roundsA_s ?_ | refine thenA_n ?_ | refine thenA_r ?_ | refine thenA_e ?_ | refine inBlockA_n ?_ | refine inBlockA_r ?_ | refine inBlockA_s ?_ | refine inBlockA_o rfl ?_ | refine WpA.seq ?_ | refine WpA.block ?_ | refine WpA.skip ?_ | refine WpA.ret ?_ | refine WpA.exit ?_ | refine WpL.nil ?_) | ((refine WpA.cond_t ?_ ?_); focus (simp only [find, reduceIte, Nat.reduceEqDiff]; done)) | ((refine WpA.cond_f ?_ ?_); focus (simp only [find, reduceIte, Nat.reduceEqDiff]; done)) | ((with_reducible refine WpA.region ?_); (refine WpL.go _ rfl fun K9 hK9 => ?_); simp only [zz, zy, constA, runL, guardA, srcA, chunk, nilV, liveB, capsA, bndA, aop, qop, rdA, rdAs, args0, find, A.cs, St.put, fits, loadA, partC, fieldA, indexA, lenB, binV, binI, binS, unV, over, partsA, fillA, Value.oneCell', seval, ty_33, fld_33_0, ty_3, fld_33_4, ty_31, ty_4, fld_33_1, ty_9, fld_33_5, ty_22]; (refine RunTo.mk (by first | exact trivial | omega | (simp; done) | (simp; omega)) (hK9 _ _ ?_)); clear hK9 K9))
              refine WpL.call rfl (guardA_sound (P := Tryd.prog) rfl) (CallA.shut rfl rfl (by kernel_rfl) (by first | exact ALes.refl _ | (simp only [List.cons_append, List.nil_append, List.map_nil]; exact ALes.refl _)) (by first | rfl | (simp [shuts, A.shut, C.shut]; done)) (hva) ?_)
              ((refine WpL.go _ rfl fun K9 hK9 => ?_); simp only [zz, zy, constA, runL, guardA, srcA, chunk, nilV, liveB, capsA, bndA, aop, qop, rdA, rdAs, args0, find, A.cs, St.put, fits, loadA, partC, fieldA, indexA, lenB, binV, binI, binS, unV, over, partsA, fillA, Value.oneCell', seval, ty_33, fld_33_0, ty_3, fld_33_4, ty_31, ty_4, fld_33_1, ty_9, fld_33_5, ty_22]; (refine RunTo.mk (by first | exact trivial | omega | (simp; done) | (simp; omega)) (hK9 _ _ ?_)); clear hK9 K9); repeat (first | with_reducible (first | refine roundsA_s ?_ | refine thenA_n ?_ | refine thenA_r ?_ | refine thenA_e ?_ | refine inBlockA_n ?_ | refine inBlockA_r ?_ | refine inBlockA_s ?_ | refine inBlockA_o rfl ?_ | refine WpA.seq ?_ | refine WpA.block ?_ | refine WpA.skip ?_ | refine WpA.ret ?_ | refine WpA.exit ?_ | refine WpL.nil ?_) | ((refine WpA.cond_t ?_ ?_); focus (simp only [find, reduceIte, Nat.reduceEqDiff]; done)) | ((refine WpA.cond_f ?_ ?_); focus (simp only [find, reduceIte, Nat.reduceEqDiff]; done)) | ((with_reducible refine WpA.region ?_); (refine WpL.go _ rfl fun K9 hK9 => ?_); simp only [zz, zy, constA, runL, guardA, srcA, chunk, nilV, liveB, capsA, bndA, aop, qop, rdA, rdAs, args0, find, A.cs, St.put, fits, loadA, partC, fieldA, indexA, lenB, binV, binI, binS, unV, over, partsA, fillA, Value.oneCell', seval, ty_33, fld_33_0, ty_3, fld_33_4, ty_31, ty_4, fld_33_1, ty_9, fld_33_5, ty_22]; (refine RunTo.mk (by first | exact trivial | omega | (simp; done) | (simp; omega)) (hK9 _ _ ?_)); clear hK9 K9))
              refine WpL.call rfl (guardA_sound (P := Tryd.prog) rfl) (CallA.lend rfl rfl (by kernel_rfl) (by simp only [viewAs, viewA, viewC, viewCs, List.cons_append, List.nil_append, List.map_nil, List.getElem?_cons_zero, List.getElem?_cons_succ]; rfl) (by first | exact trivial | (simp; done) | (simp [C.shut]; done)) rfl (hcf false) ?_)
              ((refine WpL.go _ rfl fun K9 hK9 => ?_); simp only [zz, zy, constA, runL, guardA, srcA, chunk, nilV, liveB, capsA, bndA, aop, qop, rdA, rdAs, args0, find, A.cs, St.put, fits, loadA, partC, fieldA, indexA, lenB, binV, binI, binS, unV, over, partsA, fillA, Value.oneCell', seval, ty_33, fld_33_0, ty_3, fld_33_4, ty_31, ty_4, fld_33_1, ty_9, fld_33_5, ty_22]; (refine RunTo.mk (by first | exact trivial | omega | (simp; done) | (simp; omega)) (hK9 _ _ ?_)); clear hK9 K9); repeat (first | with_reducible (first | refine roundsA_s ?_ | refine thenA_n ?_ | refine thenA_r ?_ | refine thenA_e ?_ | refine inBlockA_n ?_ | refine inBlockA_r ?_ | refine inBlockA_s ?_ | refine inBlockA_o rfl ?_ | refine WpA.seq ?_ | refine WpA.block ?_ | refine WpA.skip ?_ | refine WpA.ret ?_ | refine WpA.exit ?_ | refine WpL.nil ?_) | ((refine WpA.cond_t ?_ ?_); focus (simp only [find, reduceIte, Nat.reduceEqDiff]; done)) | ((refine WpA.cond_f ?_ ?_); focus (simp only [find, reduceIte, Nat.reduceEqDiff]; done)) | ((with_reducible refine WpA.region ?_); (refine WpL.go _ rfl fun K9 hK9 => ?_); simp only [zz, zy, constA, runL, guardA, srcA, chunk, nilV, liveB, capsA, bndA, aop, qop, rdA, rdAs, args0, find, A.cs, St.put, fits, loadA, partC, fieldA, indexA, lenB, binV, binI, binS, unV, over, partsA, fillA, Value.oneCell', seval, ty_33, fld_33_0, ty_3, fld_33_4, ty_31, ty_4, fld_33_1, ty_9, fld_33_5, ty_22]; (refine RunTo.mk (by first | exact trivial | omega | (simp; done) | (simp; omega)) (hK9 _ _ ?_)); clear hK9 K9))
              refine ⟨by first | exact .inl rfl | exact .inr rfl, _, _, _, _, (by simp only [resA, find, reduceIte, Nat.reduceEqDiff, loadA, partC, List.getElem?_cons_zero, List.getElem?_cons_succ, List.drop_zero, List.drop_succ_cons, List.take_succ_cons, List.take_zero, List.length_cons, List.length_nil, ty_33, fld_33_0, ty_3, fld_33_4, ty_31, ty_4, fld_33_1, ty_9, fld_33_5, ty_22]; rfl), (by first | exact trivial | (simp; done)), (by simp only [tupA, viewA, viewC, viewCs, viewAs, List.getElem?_cons_zero, List.getElem?_cons_succ]; rfl), (by first | exact trivial | (simp; done)), _, ALe.refl _, ?_⟩
              rw [K.mays_any]; simp
        by_cases k7 : k = 7
        · subst k7
          cases top with
          | false =>
            (refine Draw0.go fun K7 hK7 => ?_); simp only [runQ, putE, zz, zy, constA, runL, guardA, srcA, chunk, nilV, liveB, capsA, bndA, aop, qop, rdA, rdAs, args0, find, A.cs, St.put, fits, loadA, partC, fieldA, indexA, lenB, binV, binI, binS, unV, over, partsA, fillA, Value.oneCell', seval, ty_33, fld_33_0, ty_3, fld_33_4, ty_31, ty_4, fld_33_1, ty_9, fld_33_5, ty_22]; (refine RunQ.mk (by first | exact trivial | omega | (simp; done) | (simp; omega)) (hK7 _ _ ?_)); clear hK7 K7; (try ((refine Draw0.nil (hK8 _ ?_)); clear hK8 K8; ((refine WpL.go _ rfl fun K9 hK9 => ?_); simp only [zz, zy, constA, runL, guardA, srcA, chunk, nilV, liveB, capsA, bndA, aop, qop, rdA, rdAs, args0, find, A.cs, St.put, fits, loadA, partC, fieldA, indexA, lenB, binV, binI, binS, unV, over, partsA, fillA, Value.oneCell', seval, ty_33, fld_33_0, ty_3, fld_33_4, ty_31, ty_4, fld_33_1, ty_9, fld_33_5, ty_22]; (refine RunTo.mk (by first | exact trivial | omega | (simp; done) | (simp; omega)) (hK9 _ _ ?_)); clear hK9 K9); repeat (first | with_reducible (first | refine roundsA_s ?_ | refine thenA_n ?_ | refine thenA_r ?_ | refine thenA_e ?_ | refine inBlockA_n ?_ | refine inBlockA_r ?_ | refine inBlockA_s ?_ | refine inBlockA_o rfl ?_ | refine WpA.seq ?_ | refine WpA.block ?_ | refine WpA.skip ?_ | refine WpA.ret ?_ | refine WpA.exit ?_ | refine WpL.nil ?_) | ((refine WpA.cond_t ?_ ?_); focus (simp only [find, reduceIte, Nat.reduceEqDiff]; done)) | ((refine WpA.cond_f ?_ ?_); focus (simp only [find, reduceIte, Nat.reduceEqDiff]; done)) | ((with_reducible refine WpA.region ?_); (refine WpL.go _ rfl fun K9 hK9 => ?_); simp only [zz, zy, constA, runL, guardA, srcA, chunk, nilV, liveB, capsA, bndA, aop, qop, rdA, rdAs, args0, find, A.cs, St.put, fits, loadA, partC, fieldA, indexA, lenB, binV, binI, binS, unV, over, partsA, fillA, Value.oneCell', seval, ty_33, fld_33_0, ty_3, fld_33_4, ty_31, ty_4, fld_33_1, ty_9, fld_33_5, ty_22]; (refine RunTo.mk (by first | exact trivial | omega | (simp; done) | (simp; omega)) (hK9 _ _ ?_)); clear hK9 K9))))
            refine WpL.call rfl (guardA_sound (P := Tryd.prog) rfl) (CallA.lend rfl rfl (by kernel_rfl) (by simp only [viewAs, viewA, viewC, viewCs, List.cons_append, List.nil_append, List.map_nil, List.getElem?_cons_zero, List.getElem?_cons_succ]; rfl) (by first | exact trivial | (simp; done) | (simp [C.shut]; done)) rfl (hcf false) ?_)
            ((refine WpL.go _ rfl fun K9 hK9 => ?_); simp only [zz, zy, constA, runL, guardA, srcA, chunk, nilV, liveB, capsA, bndA, aop, qop, rdA, rdAs, args0, find, A.cs, St.put, fits, loadA, partC, fieldA, indexA, lenB, binV, binI, binS, unV, over, partsA, fillA, Value.oneCell', seval, ty_33, fld_33_0, ty_3, fld_33_4, ty_31, ty_4, fld_33_1, ty_9, fld_33_5, ty_22]; (refine RunTo.mk (by first | exact trivial | omega | (simp; done) | (simp; omega)) (hK9 _ _ ?_)); clear hK9 K9); repeat (first | with_reducible (first | refine roundsA_s ?_ | refine thenA_n ?_ | refine thenA_r ?_ | refine thenA_e ?_ | refine inBlockA_n ?_ | refine inBlockA_r ?_ | refine inBlockA_s ?_ | refine inBlockA_o rfl ?_ | refine WpA.seq ?_ | refine WpA.block ?_ | refine WpA.skip ?_ | refine WpA.ret ?_ | refine WpA.exit ?_ | refine WpL.nil ?_) | ((refine WpA.cond_t ?_ ?_); focus (simp only [find, reduceIte, Nat.reduceEqDiff]; done)) | ((refine WpA.cond_f ?_ ?_); focus (simp only [find, reduceIte, Nat.reduceEqDiff]; done)) | ((with_reducible refine WpA.region ?_); (refine WpL.go _ rfl fun K9 hK9 => ?_); simp only [zz, zy, constA, runL, guardA, srcA, chunk, nilV, liveB, capsA, bndA, aop, qop, rdA, rdAs, args0, find, A.cs, St.put, fits, loadA, partC, fieldA, indexA, lenB, binV, binI, binS, unV, over, partsA, fillA, Value.oneCell', seval, ty_33, fld_33_0, ty_3, fld_33_4, ty_31, ty_4, fld_33_1, ty_9, fld_33_5, ty_22]; (refine RunTo.mk (by first | exact trivial | omega | (simp; done) | (simp; omega)) (hK9 _ _ ?_)); clear hK9 K9))
            refine ⟨by first | exact .inl rfl | exact .inr rfl, _, _, _, _, (by simp only [resA, find, reduceIte, Nat.reduceEqDiff, loadA, partC, List.getElem?_cons_zero, List.getElem?_cons_succ, List.drop_zero, List.drop_succ_cons, List.take_succ_cons, List.take_zero, List.length_cons, List.length_nil, ty_33, fld_33_0, ty_3, fld_33_4, ty_31, ty_4, fld_33_1, ty_9, fld_33_5, ty_22]; rfl), (by first | exact trivial | (simp; done)), (by simp only [tupA, viewA, viewC, viewCs, viewAs, List.getElem?_cons_zero, List.getElem?_cons_succ]; rfl), (by first | exact trivial | (simp; done)), _, ALe.refl _, ?_⟩
            rw [K.mays_any]; simp
          | true =>
            (refine Draw0.go fun K7 hK7 => ?_); simp only [runQ, putE, zz, zy, constA, runL, guardA, srcA, chunk, nilV, liveB, capsA, bndA, aop, qop, rdA, rdAs, args0, find, A.cs, St.put, fits, loadA, partC, fieldA, indexA, lenB, binV, binI, binS, unV, over, partsA, fillA, Value.oneCell', seval, ty_33, fld_33_0, ty_3, fld_33_4, ty_31, ty_4, fld_33_1, ty_9, fld_33_5, ty_22]; (refine RunQ.mk (by first | exact trivial | omega | (simp; done) | (simp; omega)) (hK7 _ _ ?_)); clear hK7 K7; (try ((refine Draw0.nil (hK8 _ ?_)); clear hK8 K8; ((refine WpL.go _ rfl fun K9 hK9 => ?_); simp only [zz, zy, constA, runL, guardA, srcA, chunk, nilV, liveB, capsA, bndA, aop, qop, rdA, rdAs, args0, find, A.cs, St.put, fits, loadA, partC, fieldA, indexA, lenB, binV, binI, binS, unV, over, partsA, fillA, Value.oneCell', seval, ty_33, fld_33_0, ty_3, fld_33_4, ty_31, ty_4, fld_33_1, ty_9, fld_33_5, ty_22]; (refine RunTo.mk (by first | exact trivial | omega | (simp; done) | (simp; omega)) (hK9 _ _ ?_)); clear hK9 K9); repeat (first | with_reducible (first | refine roundsA_s ?_ | refine thenA_n ?_ | refine thenA_r ?_ | refine thenA_e ?_ | refine inBlockA_n ?_ | refine inBlockA_r ?_ | refine inBlockA_s ?_ | refine inBlockA_o rfl ?_ | refine WpA.seq ?_ | refine WpA.block ?_ | refine WpA.skip ?_ | refine WpA.ret ?_ | refine WpA.exit ?_ | refine WpL.nil ?_) | ((refine WpA.cond_t ?_ ?_); focus (simp only [find, reduceIte, Nat.reduceEqDiff]; done)) | ((refine WpA.cond_f ?_ ?_); focus (simp only [find, reduceIte, Nat.reduceEqDiff]; done)) | ((with_reducible refine WpA.region ?_); (refine WpL.go _ rfl fun K9 hK9 => ?_); simp only [zz, zy, constA, runL, guardA, srcA, chunk, nilV, liveB, capsA, bndA, aop, qop, rdA, rdAs, args0, find, A.cs, St.put, fits, loadA, partC, fieldA, indexA, lenB, binV, binI, binS, unV, over, partsA, fillA, Value.oneCell', seval, ty_33, fld_33_0, ty_3, fld_33_4, ty_31, ty_4, fld_33_1, ty_9, fld_33_5, ty_22]; (refine RunTo.mk (by first | exact trivial | omega | (simp; done) | (simp; omega)) (hK9 _ _ ?_)); clear hK9 K9))))
            refine WpL.call rfl (guardA_sound (P := Tryd.prog) rfl) (CallA.lend rfl rfl (by kernel_rfl) (by simp only [viewAs, viewA, viewC, viewCs, List.cons_append, List.nil_append, List.map_nil, List.getElem?_cons_zero, List.getElem?_cons_succ]; rfl) (by first | exact trivial | (simp; done) | (simp [C.shut]; done)) rfl (hcf true) ?_)
            ((refine WpL.go _ rfl fun K9 hK9 => ?_); simp only [zz, zy, constA, runL, guardA, srcA, chunk, nilV, liveB, capsA, bndA, aop, qop, rdA, rdAs, args0, find, A.cs, St.put, fits, loadA, partC, fieldA, indexA, lenB, binV, binI, binS, unV, over, partsA, fillA, Value.oneCell', seval, ty_33, fld_33_0, ty_3, fld_33_4, ty_31, ty_4, fld_33_1, ty_9, fld_33_5, ty_22]; (refine RunTo.mk (by first | exact trivial | omega | (simp; done) | (simp; omega)) (hK9 _ _ ?_)); clear hK9 K9); repeat (first | with_reducible (first | refine roundsA_s ?_ | refine thenA_n ?_ | refine thenA_r ?_ | refine thenA_e ?_ | refine inBlockA_n ?_ | refine inBlockA_r ?_ | refine inBlockA_s ?_ | refine inBlockA_o rfl ?_ | refine WpA.seq ?_ | refine WpA.block ?_ | refine WpA.skip ?_ | refine WpA.ret ?_ | refine WpA.exit ?_ | refine WpL.nil ?_) | ((refine WpA.cond_t ?_ ?_); focus (simp only [find, reduceIte, Nat.reduceEqDiff]; done)) | ((refine WpA.cond_f ?_ ?_); focus (simp only [find, reduceIte, Nat.reduceEqDiff]; done)) | ((with_reducible refine WpA.region ?_); (refine WpL.go _ rfl fun K9 hK9 => ?_); simp only [zz, zy, constA, runL, guardA, srcA, chunk, nilV, liveB, capsA, bndA, aop, qop, rdA, rdAs, args0, find, A.cs, St.put, fits, loadA, partC, fieldA, indexA, lenB, binV, binI, binS, unV, over, partsA, fillA, Value.oneCell', seval, ty_33, fld_33_0, ty_3, fld_33_4, ty_31, ty_4, fld_33_1, ty_9, fld_33_5, ty_22]; (refine RunTo.mk (by first | exact trivial | omega | (simp; done) | (simp; omega)) (hK9 _ _ ?_)); clear hK9 K9))
            refine ⟨by first | exact .inl rfl | exact .inr rfl, _, _, _, _, (by simp only [resA, find, reduceIte, Nat.reduceEqDiff, loadA, partC, List.getElem?_cons_zero, List.getElem?_cons_succ, List.drop_zero, List.drop_succ_cons, List.take_succ_cons, List.take_zero, List.length_cons, List.length_nil, ty_33, fld_33_0, ty_3, fld_33_4, ty_31, ty_4, fld_33_1, ty_9, fld_33_5, ty_22]; rfl), (by first | exact trivial | (simp; done)), (by simp only [tupA, viewA, viewC, viewCs, viewAs, List.getElem?_cons_zero, List.getElem?_cons_succ]; rfl), (by first | exact trivial | (simp; done)), _, ALe.refl _, ?_⟩
            rw [K.mays_any]; simp
        have b1 : (k == 1) = false := by simp [k1]
        have b2 : (k == 2) = false := by simp [k2]
        have b3 : (k == 3) = false := by simp [k3]
        have b4 : (k == 4) = false := by simp [k4]
        have b6 : (k == 6) = false := by simp [k6]
        have b7 : (k == 7) = false := by simp [k7]
        have b10 : (k == 10) = false := by simp [k10]
        cases top
        all_goals
          (refine Draw0.go fun K7 hK7 => ?_); simp only [runQ, putE, zz, zy, constA, runL, guardA, srcA, chunk, nilV, liveB, capsA, bndA, aop, qop, rdA, rdAs, args0, find, A.cs, St.put, fits, loadA, partC, fieldA, indexA, lenB, binV, binI, binS, unV, over, partsA, fillA, Value.oneCell', seval, ty_33, fld_33_0, ty_3, fld_33_4, ty_31, ty_4, fld_33_1, ty_9, fld_33_5, ty_22, b1, b2, b3, b4, b6, b7, b10]; (refine RunQ.mk (by first | exact trivial | omega | (simp; done) | (simp; omega)) (hK7 _ _ ?_)); clear hK7 K7; (try ((refine Draw0.nil (hK8 _ ?_)); clear hK8 K8; ((refine WpL.go _ rfl fun K9 hK9 => ?_); simp only [zz, zy, constA, runL, guardA, srcA, chunk, nilV, liveB, capsA, bndA, aop, qop, rdA, rdAs, args0, find, A.cs, St.put, fits, loadA, partC, fieldA, indexA, lenB, binV, binI, binS, unV, over, partsA, fillA, Value.oneCell', seval, ty_33, fld_33_0, ty_3, fld_33_4, ty_31, ty_4, fld_33_1, ty_9, fld_33_5, ty_22, b1, b2, b3, b4, b6, b7, b10]; (refine RunTo.mk (by first | exact trivial | omega | (simp; done) | (simp; omega)) (hK9 _ _ ?_)); clear hK9 K9); repeat (first | with_reducible (first | refine roundsA_s ?_ | refine thenA_n ?_ | refine thenA_r ?_ | refine thenA_e ?_ | refine inBlockA_n ?_ | refine inBlockA_r ?_ | refine inBlockA_s ?_ | refine inBlockA_o rfl ?_ | refine WpA.seq ?_ | refine WpA.block ?_ | refine WpA.skip ?_ | refine WpA.ret ?_ | refine WpA.exit ?_ | refine WpL.nil ?_) | ((refine WpA.cond_t ?_ ?_); focus (simp only [find, reduceIte, Nat.reduceEqDiff]; done)) | ((refine WpA.cond_f ?_ ?_); focus (simp only [find, reduceIte, Nat.reduceEqDiff]; done)) | ((with_reducible refine WpA.region ?_); (refine WpL.go _ rfl fun K9 hK9 => ?_); simp only [zz, zy, constA, runL, guardA, srcA, chunk, nilV, liveB, capsA, bndA, aop, qop, rdA, rdAs, args0, find, A.cs, St.put, fits, loadA, partC, fieldA, indexA, lenB, binV, binI, binS, unV, over, partsA, fillA, Value.oneCell', seval, ty_33, fld_33_0, ty_3, fld_33_4, ty_31, ty_4, fld_33_1, ty_9, fld_33_5, ty_22, b1, b2, b3, b4, b6, b7, b10]; (refine RunTo.mk (by first | exact trivial | omega | (simp; done) | (simp; omega)) (hK9 _ _ ?_)); clear hK9 K9))))
          refine WpL.call rfl (guardA_sound (P := Tryd.prog) rfl) (CallA.lend rfl rfl (by kernel_rfl) (by simp only [viewAs, viewA, viewC, viewCs, List.cons_append, List.nil_append, List.map_nil, List.getElem?_cons_zero, List.getElem?_cons_succ]; rfl) (by first | exact trivial | (simp; done) | (simp [C.shut]; done)) rfl (hcf false) ?_)
          ((refine WpL.go _ rfl fun K9 hK9 => ?_); simp only [zz, zy, constA, runL, guardA, srcA, chunk, nilV, liveB, capsA, bndA, aop, qop, rdA, rdAs, args0, find, A.cs, St.put, fits, loadA, partC, fieldA, indexA, lenB, binV, binI, binS, unV, over, partsA, fillA, Value.oneCell', seval, ty_33, fld_33_0, ty_3, fld_33_4, ty_31, ty_4, fld_33_1, ty_9, fld_33_5, ty_22, b1, b2, b3, b4, b6, b7, b10]; (refine RunTo.mk (by first | exact trivial | omega | (simp; done) | (simp; omega)) (hK9 _ _ ?_)); clear hK9 K9); repeat (first | with_reducible (first | refine roundsA_s ?_ | refine thenA_n ?_ | refine thenA_r ?_ | refine thenA_e ?_ | refine inBlockA_n ?_ | refine inBlockA_r ?_ | refine inBlockA_s ?_ | refine inBlockA_o rfl ?_ | refine WpA.seq ?_ | refine WpA.block ?_ | refine WpA.skip ?_ | refine WpA.ret ?_ | refine WpA.exit ?_ | refine WpL.nil ?_) | ((refine WpA.cond_t ?_ ?_); focus (simp only [find, reduceIte, Nat.reduceEqDiff]; done)) | ((refine WpA.cond_f ?_ ?_); focus (simp only [find, reduceIte, Nat.reduceEqDiff]; done)) | ((with_reducible refine WpA.region ?_); (refine WpL.go _ rfl fun K9 hK9 => ?_); simp only [zz, zy, constA, runL, guardA, srcA, chunk, nilV, liveB, capsA, bndA, aop, qop, rdA, rdAs, args0, find, A.cs, St.put, fits, loadA, partC, fieldA, indexA, lenB, binV, binI, binS, unV, over, partsA, fillA, Value.oneCell', seval, ty_33, fld_33_0, ty_3, fld_33_4, ty_31, ty_4, fld_33_1, ty_9, fld_33_5, ty_22, b1, b2, b3, b4, b6, b7, b10]; (refine RunTo.mk (by first | exact trivial | omega | (simp; done) | (simp; omega)) (hK9 _ _ ?_)); clear hK9 K9))
          refine ⟨by first | exact .inl rfl | exact .inr rfl, _, _, _, _, (by simp only [resA, find, reduceIte, Nat.reduceEqDiff, loadA, partC, List.getElem?_cons_zero, List.getElem?_cons_succ, List.drop_zero, List.drop_succ_cons, List.take_succ_cons, List.take_zero, List.length_cons, List.length_nil, ty_33, fld_33_0, ty_3, fld_33_4, ty_31, ty_4, fld_33_1, ty_9, fld_33_5, ty_22]; rfl), (by first | exact trivial | (simp; done)), (by simp only [tupA, viewA, viewC, viewCs, viewAs, List.getElem?_cons_zero, List.getElem?_cons_succ]; rfl), (by first | exact trivial | (simp; done)), _, ALe.refl _, ?_⟩
          rw [K.mays_any]; simp [k1, k2, k3, k4, k6, k7, k10]
theorem may_pure (c : K) (hok : c.Ok) (hsm : c.Sm) : Pure Tryd.prog 12 [.agg c.cc] (.one (.v (.bool (c.may true)))) := by
  have h := may_upto c.ht c true (Nat.le_refl _) hok hsm
  rw [K.cc_eq] at h ⊢
  refine Fn.intro Tryd.func12 rfl Tryd.ntmps12 Tryd.results12 (by simp only [List.length_cons, List.length_nil]; decide) ?_
  repeat (first | with_reducible (first | refine roundsA_s ?_ | refine thenA_n ?_ | refine thenA_r ?_ | refine thenA_e ?_ | refine inBlockA_n ?_ | refine inBlockA_r ?_ | refine inBlockA_s ?_ | refine inBlockA_o rfl ?_ | refine WpA.seq ?_ | refine WpA.block ?_ | refine WpA.skip ?_ | refine WpA.ret ?_ | refine WpA.exit ?_ | refine WpL.nil ?_) | ((refine WpA.cond_t ?_ ?_); focus (simp only [find, reduceIte, Nat.reduceEqDiff]; done)) | ((refine WpA.cond_f ?_ ?_); focus (simp only [find, reduceIte, Nat.reduceEqDiff]; done)) | ((with_reducible refine WpA.region ?_); (refine WpL.go _ rfl fun K9 hK9 => ?_); simp only [zz, zy, constA, runL, guardA, srcA, chunk, nilV, liveB, capsA, bndA, aop, qop, rdA, rdAs, args0, find, A.cs, St.put, fits, loadA, partC, fieldA, indexA, lenB, binV, binI, binS, unV, over, partsA, fillA, Value.oneCell', seval, ty_33]; (refine RunTo.mk (by first | exact trivial | omega | (simp; done) | (simp; omega)) (hK9 _ _ ?_)); clear hK9 K9))
  refine WpL.call rfl (guardA_sound (P := Tryd.prog) rfl) (CallA.shut rfl rfl (by kernel_rfl) (by first | exact ALes.refl _ | (simp only [List.cons_append, List.nil_append, List.map_nil]; exact ALes.refl _)) (by first | rfl | (simp [shuts, A.shut, C.shut]; done)) (h) ?_)
  ((refine WpL.go _ rfl fun K9 hK9 => ?_); simp only [zz, zy, constA, runL, guardA, srcA, chunk, nilV, liveB, capsA, bndA, aop, qop, rdA, rdAs, args0, find, A.cs, St.put, fits, loadA, partC, fieldA, indexA, lenB, binV, binI, binS, unV, over, partsA, fillA, Value.oneCell', seval, ty_33]; (refine RunTo.mk (by first | exact trivial | omega | (simp; done) | (simp; omega)) (hK9 _ _ ?_)); clear hK9 K9); repeat (first | with_reducible (first | refine roundsA_s ?_ | refine thenA_n ?_ | refine thenA_r ?_ | refine thenA_e ?_ | refine inBlockA_n ?_ | refine inBlockA_r ?_ | refine inBlockA_s ?_ | refine inBlockA_o rfl ?_ | refine WpA.seq ?_ | refine WpA.block ?_ | refine WpA.skip ?_ | refine WpA.ret ?_ | refine WpA.exit ?_ | refine WpL.nil ?_) | ((refine WpA.cond_t ?_ ?_); focus (simp only [find, reduceIte, Nat.reduceEqDiff]; done)) | ((refine WpA.cond_f ?_ ?_); focus (simp only [find, reduceIte, Nat.reduceEqDiff]; done)) | ((with_reducible refine WpA.region ?_); (refine WpL.go _ rfl fun K9 hK9 => ?_); simp only [zz, zy, constA, runL, guardA, srcA, chunk, nilV, liveB, capsA, bndA, aop, qop, rdA, rdAs, args0, find, A.cs, St.put, fits, loadA, partC, fieldA, indexA, lenB, binV, binI, binS, unV, over, partsA, fillA, Value.oneCell', seval, ty_33]; (refine RunTo.mk (by first | exact trivial | omega | (simp; done) | (simp; omega)) (hK9 _ _ ?_)); clear hK9 K9))
  refine ⟨by first | exact .inl rfl | exact .inr rfl, _, _, _, _, (by simp only [resA, find, reduceIte, Nat.reduceEqDiff, loadA, partC, List.getElem?_cons_zero, List.getElem?_cons_succ, List.drop_zero, List.drop_succ_cons, List.take_succ_cons, List.take_zero, List.length_cons, List.length_nil, ty_33]; rfl), (by first | exact trivial | (simp; done)), (by simp only [tupA, viewA, viewC, viewCs, viewAs, List.getElem?_cons_zero, List.getElem?_cons_succ]; rfl), (by first | exact trivial | (simp; done)), _, ALe.refl _, ?_⟩
  rfl
end Go.Proofs.YtpacdmgnpadleaaDoor
end

section
/-
  The code of expressions: scope.Code.
-/
namespace Go.Proofs.YtpacdmgnpadleaaDoor
open Go Go.RowKit Go.Lib
set_option linter.unusedSimpArgs false
set_option linter.unusedVariables false
set_option maxHeartbeats 4000000
set_option maxRecDepth 100000
/-- How a row of a store is seen from outside. -/
theorem At.see {t : TypeId} {wd : Nat} {S : List (Option Ob)} {c : C} {rows : List (List C)} (h : At t wd S c rows) (hs : ∀ r ∈ rows, ∀ c ∈ r, C.shut c = true) : ∃ p c', viewC S c = some (p, c') ∧ p ∧ ∀ l k, CLes l k → CLes (c' :: l) (.sl wd rows :: k) := by
  rcases h with ⟨rfl, rfl⟩ | ⟨hne, j, rfl, hj⟩
  · exact ⟨True, .v (.slice none 0 0), rfl, trivial, fun l k h => CLes.nil h⟩
  · exact ⟨rows.length = rows.length ∧ ∀ e ∈ rows, ∀ c ∈ e, C.shut c = true, .sl wd rows, by simp only [viewC, hj], ⟨rfl, hs⟩, fun l k h => CLes.cons h⟩
theorem nd_shut (l : List Nd) : ∀ e ∈ l.map Nd.row, ∀ c ∈ e, C.shut c = true := fun e he c hc => by
  obtain ⟨s, _, rfl⟩ := List.mem_map.1 he
  simp only [Nd.row, List.mem_cons, List.not_mem_nil, or_false] at hc
  rcases hc with rfl | rfl | rfl | rfl <;> simp [C.shut]
theorem dat_shut (l : List D) : ∀ e ∈ l.map D.cc, ∀ c ∈ e, C.shut c = true := fun e he c hc => by
  obtain ⟨s, _, rfl⟩ := List.mem_map.1 he
  rw [D.cc_eq] at hc
  simp only [List.mem_cons, List.not_mem_nil, or_false] at hc
  rcases hc with rfl | rfl | rfl | rfl | rfl | rfl <;> simp [C.shut]
/-- A code's cells. -/
def codeC (c : Cd) : List C := [.sl 4 (c.nodes.map Nd.row), .sl 6 (c.consts.map D.cc), .sl 1 (strC c.globals), .sl 1 (strC c.prims), .sl 1 (intC c.tops)]
def Cd.zero : Cd := ⟨[], [], [], [], []⟩
noncomputable def topN (c : Cd) (x : K) : Cd := { putN c x [] with tops := c.tops ++ [(c.nodes.length : Int)] }
noncomputable def codeN (l : List K) : Cd := l.foldl topN .zero
theorem codeN_take {l : List K} {i : Nat} (h : i < l.length) : codeN (l.take (i + 1)) = topN (codeN (l.take i)) l[i] := by
  rw [List.take_succ_eq_append_getElem h, codeN, List.foldl_append]; rfl
theorem codeN_len : ∀ l : List K, (codeN l).nodes.length = K.sizes l := by
  intro l
  have key : ∀ (l : List K) (c : Cd), (l.foldl topN c).nodes.length = c.nodes.length + K.sizes l := by
    intro l
    induction l with
    | nil => intro c; simp [K.sizes]
    | cons x l ih =>
      intro c
      rw [List.foldl_cons, ih, K.sizes]
      show (putN c x []).nodes.length + _ = _
      rw [putN_len]; omega
  have := key l .zero
  simpa [codeN, Cd.zero] using this
theorem codeN_most : ∀ l : List K, (codeN l).most ≤ K.sizes l := by
  intro l
  have key : ∀ (l : List K) (c : Cd), (l.foldl topN c).most ≤ c.most + K.sizes l := by
    intro l
    induction l with
    | nil => intro c; simp [K.sizes]
    | cons x l ih =>
      intro c
      rw [List.foldl_cons, K.sizes]
      have h1 := ih (topN c x)
      have h2 : (topN c x).most ≤ c.most + x.size := putN_most c x []
      omega
  have := key l .zero
  simpa [codeN, Cd.zero, Cd.most] using this
theorem codeN_tops : ∀ l : List K, (codeN l).tops.length = l.length := by
  intro l
  have key : ∀ (l : List K) (c : Cd), (l.foldl topN c).tops.length = c.tops.length + l.length := by
    intro l
    induction l with
    | nil => intro c; simp
    | cons x l ih =>
      intro c
      rw [List.foldl_cons, ih]
      simp [topN]; omega
  have := key l .zero
  simpa [codeN, Cd.zero] using this
noncomputable def codeA (l : List K) : A := if l.all (·.may true) then .tup [.agg (codeC (codeN l)), .one (.v (.int .i64 0))] else .tup [.agg (codeC .zero), .one (.v (.int .i64 1))]
/-- Another row of tops. -/
theorem CoderIn.newT {p : Nat} {S S1 : List (Option Ob)} {c : Cd} {cN cC cG cP cT cT' : C} {T' : List Int} (hI : CoderIn p S c cN cC cG cP cT) (hA : At 3 1 S1 cT' (intC T')) (hl : S.length ≤ S1.length) (hfr : ∀ (j : Nat) (o : Option Ob), S[j]? = some o → (∀ n, cT ≠ .ms j n) → S1[j]? = some o) :
    CoderIn p (S1.set p (some ⟨64, 5, [[cN, cC, cG, cP, cT']]⟩)) { c with tops := T' } cN cC cG cP cT' ∧ Frm p [3] S (S1.set p (some ⟨64, 5, [[cN, cC, cG, cP, cT']]⟩)) := by
  have hpS : p < S.length := (List.getElem?_eq_some_iff.1 hI.1).1
  have hP := hI.2.2.2.2.2.1
  have g1 := hfr p _ hI.1 (hP.apart hI.1 (by show (64 : Nat) ≠ _; decide))
  have stays : ∀ (j : Nat) (ob : Ob) (a : Option Ob), S[j]? = some (some ob) → j ≠ p → (∀ n, cT ≠ .ms j n) → (S1.set p a)[j]? = some (some ob) := fun j ob a h1 h2 h3 => by
    rw [List.getElem?_set_ne (fun e => h2 e.symm)]
    exact hfr j _ h1 h3
  have np : ∀ {j : Nat} {ob : Ob}, S[j]? = some (some ob) → ob.ty ≠ 64 → j ≠ p := fun h1 h2 e => by subst e; rw [hI.1] at h1; cases h1; exact h2 rfl
  refine ⟨⟨List.getElem?_set_self (by omega), hI.2.1.stay fun j hj _ => stays j _ _ hj (np hj (by show (55 : Nat) ≠ _; decide)) (hP.apart hj (by show (55 : Nat) ≠ _; decide)), hI.2.2.1.stay fun j hj _ => stays j _ _ hj (np hj (by show (31 : Nat) ≠ _; decide)) (hP.apart hj (by show (31 : Nat) ≠ _; decide)), hI.2.2.2.1.stay fun j hj e => stays j _ _ hj (np hj (by show (9 : Nat) ≠ _; decide)) (hP.apart hj (by show (9 : Nat) ≠ _; decide)), hI.2.2.2.2.1.stay fun j hj e => stays j _ _ hj (np hj (by show (9 : Nat) ≠ _; decide)) (hP.apart hj (by show (9 : Nat) ≠ _; decide)), hA.stay fun j hj _ => ?_, hI.2.2.2.2.2.2⟩, by simp; omega, fun j ob h1 h2 h3 => stays j _ _ h1 h2 (hP.apart h1 (fun e => h3 (by simp [e])))⟩
  have n2 : p ≠ j := fun e => by subst e; rw [g1] at hj; cases hj
  rw [List.getElem?_set_ne n2]; exact hj
mutual
/-- Expressions that are not too many. -/
def K.Lg : K → Prop
  | .mk k _ _ params d l => (-9223372036854775808 ≤ k ∧ k ≤ 9223372036854775807) ∧ params.length ≤ 1000 ∧ d.Ok ∧ d.count < 1000000000 ∧ l.length ≤ 1000000000 ∧ K.Lgs l
def K.Lgs : List K → Prop
  | [] => True
  | c :: l => c.Lg ∧ K.Lgs l
end
theorem K.Lgs.get : ∀ {l : List K}, K.Lgs l → ∀ i (h : i < l.length), l[i].Lg
  | c :: l, h, 0, _ => h.1
  | c :: l, h, i + 1, hi => K.Lgs.get (l := l) h.2 i (by simpa using hi)
theorem K.Lgs.mem {l : List K} (h : K.Lgs l) {x : K} (hx : x ∈ l) : x.Lg := by
  obtain ⟨i, hi, rfl⟩ := List.mem_iff_getElem.1 hx
  exact h.get i hi
mutual
theorem K.Lg.ok : ∀ {c : K}, c.Lg → c.Ok
  | .mk _ _ _ _ _ _, h => ⟨h.1, by have := h.2.1; omega, h.2.2.1, by have := h.2.2.2.2.1; omega, K.Lgs.oks h.2.2.2.2.2⟩
theorem K.Lgs.oks : ∀ {l : List K}, K.Lgs l → K.Oks l
  | [], _ => trivial
  | c :: l, h => ⟨K.Lg.ok h.1, K.Lgs.oks h.2⟩
end
mutual
theorem K.Lg.sm : ∀ {c : K}, c.Lg → c.Sm
  | .mk _ _ _ _ _ _, h => ⟨by have := h.2.1; omega, h.2.2.2.1, K.Lgs.sms h.2.2.2.2.2⟩
theorem K.Lgs.sms : ∀ {l : List K}, K.Lgs l → K.Sms l
  | [], _ => trivial
  | c :: l, h => ⟨K.Lg.sm h.1, K.Lgs.sms h.2⟩
end
theorem cntB_kind {c : K} (h : cntB c = true) : 1 ≤ c.k ∧ c.k ≤ 10 := by
  unfold cntB at h
  split at h
  · omega
  · split at h
    · omega
    · split at h
      · omega
      · split at h
        · omega
        · split at h
          · omega
          · cases h
mutual
theorem K.Lg.pk : ∀ {c : K} {top : Bool}, c.Lg → c.may top = true → c.Pk
  | .mk k name rest params d l, top, h, hm => by
    rw [K.may] at hm
    simp only [Bool.and_eq_true] at hm
    have hk := cntB_kind hm.1.1
    have hms : ∃ t, K.mays l t = true := by
      by_cases k1 : k = 1
      · subst k1
        have h0 := hm.1.1
        simp [cntB, K.k, K.l] at h0
        subst h0
        exact ⟨true, by simp [K.mays]⟩
      · have := hm.2
        rw [if_neg k1] at this
        simp only [Bool.and_eq_true] at this
        exact ⟨_, this.2⟩
    obtain ⟨t, ht⟩ := hms
    exact ⟨hk, h.2.1, h.2.2.1, h.2.2.2.2.1, K.Lgs.pks h.2.2.2.2.2 ht⟩
theorem K.Lgs.pks : ∀ {l : List K} {t : Bool}, K.Lgs l → K.mays l t = true → K.Pks l
  | [], _, _, _ => trivial
  | c :: l, t, h, hm => by
    rw [K.mays, Bool.and_eq_true] at hm
    exact ⟨K.Lg.pk h.1 hm.1, K.Lgs.pks h.2 hm.2⟩
end
mutual
theorem K.ht_size : ∀ c : K, c.ht ≤ c.size
  | .mk _ _ _ _ _ l => by rw [K.ht, K.size]; have := K.hts_sizes l; omega
theorem K.hts_sizes : ∀ l : List K, K.hts l ≤ K.sizes l
  | [] => by rw [K.hts]; omega
  | c :: l => by rw [K.hts, K.sizes]; have := K.ht_size c; have := K.hts_sizes l; omega
end
theorem K.size_le {x : K} : ∀ {l : List K}, x ∈ l → x.size ≤ K.sizes l
  | c :: l, h => by
    rw [K.sizes]
    rcases List.mem_cons.1 h with rfl | h
    · omega
    · have := K.size_le h; omega
theorem codeCl_pure (x : K) (h : x.Lg) : Pure Tryd.prog 28 (.agg x.cc :: ([] : List C).map .one) (.one (.v (.bool (!x.may true)))) := by
  have hm := may_pure x h.ok h.sm
  rw [K.cc_eq] at hm ⊢
  simp only [List.map_nil]
  refine Fn.intro Tryd.func28 rfl Tryd.ntmps28 Tryd.results28 (by simp only [List.length_cons, List.length_nil]; decide) ?_
  repeat (first | with_reducible (first | refine roundsA_s ?_ | refine thenA_n ?_ | refine thenA_r ?_ | refine thenA_e ?_ | refine inBlockA_n ?_ | refine inBlockA_r ?_ | refine inBlockA_s ?_ | refine inBlockA_o rfl ?_ | refine WpA.seq ?_ | refine WpA.block ?_ | refine WpA.skip ?_ | refine WpA.ret ?_ | refine WpA.exit ?_ | refine WpL.nil ?_) | ((refine WpA.cond_t ?_ ?_); focus (simp only [find, reduceIte, Nat.reduceEqDiff]; done)) | ((refine WpA.cond_f ?_ ?_); focus (simp only [find, reduceIte, Nat.reduceEqDiff]; done)) | ((with_reducible refine WpA.region ?_); (refine WpL.go _ rfl fun K9 hK9 => ?_); simp only [zz, zy, constA, runL, guardA, srcA, chunk, nilV, liveB, capsA, bndA, aop, qop, rdA, rdAs, args0, find, A.cs, St.put, fits, loadA, partC, fieldA, indexA, lenB, binV, binI, binS, unV, over, partsA, fillA, Value.oneCell', seval, ty_33]; (refine RunTo.mk (by first | exact trivial | omega | (simp; done) | (simp; omega)) (hK9 _ _ ?_)); clear hK9 K9))
  refine WpL.call rfl (guardA_sound (P := Tryd.prog) rfl) (CallA.shut rfl rfl (by kernel_rfl) (by first | exact ALes.refl _ | (simp only [List.cons_append, List.nil_append, List.map_nil]; exact ALes.refl _)) (by first | rfl | (simp [shuts, A.shut, C.shut]; done)) (hm) ?_)
  ((refine WpL.go _ rfl fun K9 hK9 => ?_); simp only [zz, zy, constA, runL, guardA, srcA, chunk, nilV, liveB, capsA, bndA, aop, qop, rdA, rdAs, args0, find, A.cs, St.put, fits, loadA, partC, fieldA, indexA, lenB, binV, binI, binS, unV, over, partsA, fillA, Value.oneCell', seval, ty_33]; (refine RunTo.mk (by first | exact trivial | omega | (simp; done) | (simp; omega)) (hK9 _ _ ?_)); clear hK9 K9); repeat (first | with_reducible (first | refine roundsA_s ?_ | refine thenA_n ?_ | refine thenA_r ?_ | refine thenA_e ?_ | refine inBlockA_n ?_ | refine inBlockA_r ?_ | refine inBlockA_s ?_ | refine inBlockA_o rfl ?_ | refine WpA.seq ?_ | refine WpA.block ?_ | refine WpA.skip ?_ | refine WpA.ret ?_ | refine WpA.exit ?_ | refine WpL.nil ?_) | ((refine WpA.cond_t ?_ ?_); focus (simp only [find, reduceIte, Nat.reduceEqDiff]; done)) | ((refine WpA.cond_f ?_ ?_); focus (simp only [find, reduceIte, Nat.reduceEqDiff]; done)) | ((with_reducible refine WpA.region ?_); (refine WpL.go _ rfl fun K9 hK9 => ?_); simp only [zz, zy, constA, runL, guardA, srcA, chunk, nilV, liveB, capsA, bndA, aop, qop, rdA, rdAs, args0, find, A.cs, St.put, fits, loadA, partC, fieldA, indexA, lenB, binV, binI, binS, unV, over, partsA, fillA, Value.oneCell', seval, ty_33]; (refine RunTo.mk (by first | exact trivial | omega | (simp; done) | (simp; omega)) (hK9 _ _ ?_)); clear hK9 K9))
  refine ⟨by first | exact .inl rfl | exact .inr rfl, _, _, _, _, (by simp only [resA, find, reduceIte, Nat.reduceEqDiff, loadA, partC, List.getElem?_cons_zero, List.getElem?_cons_succ, List.drop_zero, List.drop_succ_cons, List.take_succ_cons, List.take_zero, List.length_cons, List.length_nil, ty_33]; rfl), (by first | exact trivial | (simp; done)), (by simp only [tupA, viewA, viewC, viewCs, viewAs, List.getElem?_cons_zero, List.getElem?_cons_succ]; rfl), (by first | exact trivial | (simp; done)), _, ALe.refl _, ?_⟩
  rfl
def CodI (l : List K) (n : Nat) (st : St) : Prop := ∃ (i : Nat) (S : List (Option Ob)) (cN cC cG cP cT : C), n = l.length - i ∧ i ≤ l.length ∧ CoderIn 1 S (codeN (l.take i)) cN cC cG cP cT ∧ S[0]? = some (some ⟨39, 5, [[.v (.slice none 0 0), .v (.slice none 0 0), .v (.slice none 0 0), .v (.slice none 0 0), .v (.slice none 0 0)]]⟩) ∧
  st = ⟨[(15, .one (.v (.int .i64 i))), (14, .one (.v (.int .i64 l.length))), (13, .one (.sl 11 (l.map K.cc))), (4, .one (.ptr 1 1 0 0)), (2, .one (.ptr 0 1 0 0)), (3, .one (.v (.int .i64 0)))], S⟩
theorem code_pure (l : List K) (h : K.Lgs l) (hlen : l.length ≤ 1000000000) (hsz : K.sizes l ≤ 900000000) : Pure Tryd.prog 14 [.one (.sl 11 (l.map K.cc))] (codeA l) := by
  have hcf := containsF0_pure 28 true (by kernel_rfl) l (fun x => !x.may true) (by omega) (fun x hx => codeCl_pure x (h.mem hx))
  have hall : l.all (·.may true) = !(l.any fun x => !x.may true) := List.all_eq_not_any_not ..
  unfold codeA
  rw [hall]
  cases hany : l.any fun x => !x.may true with
  | true =>
    refine Fn.intro Tryd.func14 rfl Tryd.ntmps14 Tryd.results14 (by simp only [List.length_cons, List.length_nil]; decide) ?_
    repeat (first | with_reducible (first | refine roundsA_s ?_ | refine thenA_n ?_ | refine thenA_r ?_ | refine thenA_e ?_ | refine inBlockA_n ?_ | refine inBlockA_r ?_ | refine inBlockA_s ?_ | refine inBlockA_o rfl ?_ | refine WpA.seq ?_ | refine WpA.block ?_ | refine WpA.skip ?_ | refine WpA.ret ?_ | refine WpA.exit ?_ | refine WpL.nil ?_) | ((refine WpA.cond_t ?_ ?_); focus (simp only [find, reduceIte, Nat.reduceEqDiff]; done)) | ((refine WpA.cond_f ?_ ?_); focus (simp only [find, reduceIte, Nat.reduceEqDiff]; done)) | ((with_reducible refine WpA.region ?_); (refine WpL.go _ rfl fun K9 hK9 => ?_); simp only [zz, zy, constA, runL, guardA, srcA, chunk, nilV, liveB, capsA, bndA, aop, qop, rdA, rdAs, args0, find, A.cs, St.put, fits, loadA, partC, fieldA, indexA, lenB, binV, binI, binS, unV, over, partsA, fillA, Value.oneCell', seval, zer_39, flds_39, plc_39_0, plc_39_1, plc_39_2, plc_39_3, plc_39_4, ty_39, zer_64, flds_64, plc_64_0, len_22, elt_22, byt_22, zel_22, ty_33, zer_33, fld_64_0, fld_39_4, ty_37, elt_37, zel_37, byt_37, len_37]; (refine RunTo.mk (by first | exact trivial | omega | (simp; done) | (simp; omega)) (hK9 _ _ ?_)); clear hK9 K9))
    refine WpL.call rfl (guardA_sound (P := Tryd.prog) rfl) (CallA.lend rfl rfl (by kernel_rfl) (by simp only [viewAs, viewA, viewC, viewCs, List.cons_append, List.nil_append, List.map_nil, List.getElem?_cons_zero, List.getElem?_cons_succ]; rfl) (by first | exact trivial | (simp; done) | (simp [C.shut]; done)) rfl (hcf) ?_)
    ((refine WpL.go _ rfl fun K9 hK9 => ?_); simp only [zz, zy, constA, runL, guardA, srcA, chunk, nilV, liveB, capsA, bndA, aop, qop, rdA, rdAs, args0, find, A.cs, St.put, fits, loadA, partC, fieldA, indexA, lenB, binV, binI, binS, unV, over, partsA, fillA, Value.oneCell', seval, zer_39, flds_39, plc_39_0, plc_39_1, plc_39_2, plc_39_3, plc_39_4, ty_39, zer_64, flds_64, plc_64_0, len_22, elt_22, byt_22, zel_22, ty_33, zer_33, fld_64_0, fld_39_4, ty_37, elt_37, zel_37, byt_37, len_37, hany]; (refine RunTo.mk (by first | exact trivial | omega | (simp; done) | (simp; omega)) (hK9 _ _ ?_)); clear hK9 K9); repeat (first | with_reducible (first | refine roundsA_s ?_ | refine thenA_n ?_ | refine thenA_r ?_ | refine thenA_e ?_ | refine inBlockA_n ?_ | refine inBlockA_r ?_ | refine inBlockA_s ?_ | refine inBlockA_o rfl ?_ | refine WpA.seq ?_ | refine WpA.block ?_ | refine WpA.skip ?_ | refine WpA.ret ?_ | refine WpA.exit ?_ | refine WpL.nil ?_) | ((refine WpA.cond_t ?_ ?_); focus (simp only [find, reduceIte, Nat.reduceEqDiff]; done)) | ((refine WpA.cond_f ?_ ?_); focus (simp only [find, reduceIte, Nat.reduceEqDiff]; done)) | ((with_reducible refine WpA.region ?_); (refine WpL.go _ rfl fun K9 hK9 => ?_); simp only [zz, zy, constA, runL, guardA, srcA, chunk, nilV, liveB, capsA, bndA, aop, qop, rdA, rdAs, args0, find, A.cs, St.put, fits, loadA, partC, fieldA, indexA, lenB, binV, binI, binS, unV, over, partsA, fillA, Value.oneCell', seval, zer_39, flds_39, plc_39_0, plc_39_1, plc_39_2, plc_39_3, plc_39_4, ty_39, zer_64, flds_64, plc_64_0, len_22, elt_22, byt_22, zel_22, ty_33, zer_33, fld_64_0, fld_39_4, ty_37, elt_37, zel_37, byt_37, len_37, hany]; (refine RunTo.mk (by first | exact trivial | omega | (simp; done) | (simp; omega)) (hK9 _ _ ?_)); clear hK9 K9))
    refine ⟨by first | exact .inl rfl | exact .inr rfl, _, _, _, _, (by simp only [resA, find, reduceIte, Nat.reduceEqDiff, loadA, partC, List.getElem?_cons_zero, List.getElem?_cons_succ, List.drop_zero, List.drop_succ_cons, List.take_succ_cons, List.take_zero, List.length_cons, List.length_nil, zer_39, flds_39, plc_39_0, plc_39_1, plc_39_2, plc_39_3, plc_39_4, ty_39, zer_64, flds_64, plc_64_0, len_22, elt_22, byt_22, zel_22, ty_33, zer_33, fld_64_0, fld_39_4, ty_37, elt_37, zel_37, byt_37, len_37]; rfl), (by first | exact trivial | (simp; done)), (by simp only [tupA, viewA, viewC, viewCs, viewAs, List.getElem?_cons_zero, List.getElem?_cons_succ]; rfl), (by first | exact trivial | (simp; done)), _, (by exact ALe.tup (ALes.cons (ALe.agg (CLes.nil (CLes.nil (CLes.nil (CLes.nil (CLes.nil (CLes.refl _))))))) (ALes.refl _))), rfl⟩
  | false =>
    rw [hany] at hall
    refine Fn.intro Tryd.func14 rfl Tryd.ntmps14 Tryd.results14 (by simp only [List.length_cons, List.length_nil]; decide) ?_
    repeat (first | with_reducible (first | refine roundsA_s ?_ | refine thenA_n ?_ | refine thenA_r ?_ | refine thenA_e ?_ | refine inBlockA_n ?_ | refine inBlockA_r ?_ | refine inBlockA_s ?_ | refine inBlockA_o rfl ?_ | refine WpA.seq ?_ | refine WpA.block ?_ | refine WpA.skip ?_ | refine WpA.ret ?_ | refine WpA.exit ?_ | refine WpL.nil ?_) | ((refine WpA.cond_t ?_ ?_); focus (simp only [find, reduceIte, Nat.reduceEqDiff]; done)) | ((refine WpA.cond_f ?_ ?_); focus (simp only [find, reduceIte, Nat.reduceEqDiff]; done)) | ((with_reducible refine WpA.region ?_); (refine WpL.go _ rfl fun K9 hK9 => ?_); simp only [zz, zy, constA, runL, guardA, srcA, chunk, nilV, liveB, capsA, bndA, aop, qop, rdA, rdAs, args0, find, A.cs, St.put, fits, loadA, partC, fieldA, indexA, lenB, binV, binI, binS, unV, over, partsA, fillA, Value.oneCell', seval, zer_39, flds_39, plc_39_0, plc_39_1, plc_39_2, plc_39_3, plc_39_4, ty_39, zer_64, flds_64, plc_64_0, len_22, elt_22, byt_22, zel_22, ty_33, zer_33, fld_64_0, fld_39_4, ty_37, elt_37, zel_37, byt_37, len_37]; (refine RunTo.mk (by first | exact trivial | omega | (simp; done) | (simp; omega)) (hK9 _ _ ?_)); clear hK9 K9))
    refine WpL.call rfl (guardA_sound (P := Tryd.prog) rfl) (CallA.lend rfl rfl (by kernel_rfl) (by simp only [viewAs, viewA, viewC, viewCs, List.cons_append, List.nil_append, List.map_nil, List.getElem?_cons_zero, List.getElem?_cons_succ]; rfl) (by first | exact trivial | (simp; done) | (simp [C.shut]; done)) rfl (hcf) ?_)
    ((refine WpL.go _ rfl fun K9 hK9 => ?_); simp only [zz, zy, constA, runL, guardA, srcA, chunk, nilV, liveB, capsA, bndA, aop, qop, rdA, rdAs, args0, find, A.cs, St.put, fits, loadA, partC, fieldA, indexA, lenB, binV, binI, binS, unV, over, partsA, fillA, Value.oneCell', seval, zer_39, flds_39, plc_39_0, plc_39_1, plc_39_2, plc_39_3, plc_39_4, ty_39, zer_64, flds_64, plc_64_0, len_22, elt_22, byt_22, zel_22, ty_33, zer_33, fld_64_0, fld_39_4, ty_37, elt_37, zel_37, byt_37, len_37, hany]; (refine RunTo.mk (by first | exact trivial | omega | (simp; done) | (simp; omega)) (hK9 _ _ ?_)); clear hK9 K9); repeat (first | with_reducible (first | refine roundsA_s ?_ | refine thenA_n ?_ | refine thenA_r ?_ | refine thenA_e ?_ | refine inBlockA_n ?_ | refine inBlockA_r ?_ | refine inBlockA_s ?_ | refine inBlockA_o rfl ?_ | refine WpA.seq ?_ | refine WpA.block ?_ | refine WpA.skip ?_ | refine WpA.ret ?_ | refine WpA.exit ?_ | refine WpL.nil ?_) | ((refine WpA.cond_t ?_ ?_); focus (simp only [find, reduceIte, Nat.reduceEqDiff]; done)) | ((refine WpA.cond_f ?_ ?_); focus (simp only [find, reduceIte, Nat.reduceEqDiff]; done)) | ((with_reducible refine WpA.region ?_); (refine WpL.go _ rfl fun K9 hK9 => ?_); simp only [zz, zy, constA, runL, guardA, srcA, chunk, nilV, liveB, capsA, bndA, aop, qop, rdA, rdAs, args0, find, A.cs, St.put, fits, loadA, partC, fieldA, indexA, lenB, binV, binI, binS, unV, over, partsA, fillA, Value.oneCell', seval, zer_39, flds_39, plc_39_0, plc_39_1, plc_39_2, plc_39_3, plc_39_4, ty_39, zer_64, flds_64, plc_64_0, len_22, elt_22, byt_22, zel_22, ty_33, zer_33, fld_64_0, fld_39_4, ty_37, elt_37, zel_37, byt_37, len_37, hany]; (refine RunTo.mk (by first | exact trivial | omega | (simp; done) | (simp; omega)) (hK9 _ _ ?_)); clear hK9 K9))
    have hmay : ∀ x ∈ l, x.may true = true := fun x hx => by
      have := List.any_eq_false.1 hany x hx
      simpa using this
    simp only [Bool.not_false, if_true]
    refine WpA.loop (CodI l) l.length (st0 := ⟨[(15, .one (.v (.int .i64 (0 : Nat)))), (14, .one (.v (.int .i64 l.length))), (13, .one (.sl 11 (l.map K.cc))), (4, .one (.ptr 1 1 0 0)), (2, .one (.ptr 0 1 0 0)), (3, .one (.v (.int .i64 0)))], [some ⟨39, 5, [[.v (.slice none 0 0), .v (.slice none 0 0), .v (.slice none 0 0), .v (.slice none 0 0), .v (.slice none 0 0)]]⟩, some ⟨64, 5, [[.v (.slice none 0 0), .v (.slice none 0 0), .v (.slice none 0 0), .v (.slice none 0 0), .v (.slice none 0 0)]]⟩]⟩) (Le.sub (by simp [Sub, find])) ⟨0, _, _, _, _, _, _, rfl, Nat.zero_le _, ⟨rfl, At.nil _ _ _, At.nil _ _ _, At.nil _ _ _, At.nil _ _ _, At.nil _ _ _, fun j n m e => by cases e⟩, rfl, rfl⟩ ?_
    intro n' st hst
    obtain ⟨i, S', cN', cC', cG', cP', cT', rfl, hi, hI', hr0, rfl⟩ := hst
    have hw2 : IntKind.i64.wrap ((i : Int) + 1) = ((i + 1 : Nat) : Int) := by rw [wrap64 (by omega) (by omega)]; omega
    by_cases hlt : i < l.length
    · have hd1 : decide ((i : Int) < (l.length : Int)) = true := by simp; omega
      have hget := getK hlt
      have hgl : ∀ z : Option Ob, (S' ++ [z])[S'.length]? = some z := fun z => by simp
      have hset : ∀ z y : Option Ob, (S' ++ [z]).set S'.length y = S' ++ [y] := fun z y => by simp
      have hml : l[i] ∈ l := List.getElem_mem _
      have htl := K.sizes_take_lt hlt
      have hmost := codeN_most (l.take i)
      have hnod := codeN_len (l.take i)
      have hht := l[i].ht_size
      have hput := put_fn l[i] ((h.mem hml).pk (hmay _ hml)) 1 (S' ++ [some (coreOb l[i])]) _ [] _ _ _ _ _ (hI'.app _) (by omega) (by omega) (by simp; omega) (by simp)
      have hsx : scX [] = .v (.slice none 0 0) := if_pos rfl
      have hp1 : ∀ T, (S' ++ T)[1]? = some (some ⟨64, 5, [[cN', cC', cG', cP', cT']]⟩) := fun T => up_app hI'.1
      rw [hsx] at hput
      rw [K.cc_eq] at hget hput
      simp only [coreOb] at hput
      repeat (first | with_reducible (first | refine roundsA_s ?_ | refine thenA_n ?_ | refine thenA_r ?_ | refine thenA_e ?_ | refine inBlockA_n ?_ | refine inBlockA_r ?_ | refine inBlockA_s ?_ | refine inBlockA_o rfl ?_ | refine WpA.seq ?_ | refine WpA.block ?_ | refine WpA.skip ?_ | refine WpA.ret ?_ | refine WpA.exit ?_ | refine WpL.nil ?_) | ((refine WpA.cond_t ?_ ?_); focus (simp only [find, reduceIte, Nat.reduceEqDiff]; done)) | ((refine WpA.cond_f ?_ ?_); focus (simp only [find, reduceIte, Nat.reduceEqDiff]; done)) | ((with_reducible refine WpA.region ?_); (refine WpL.go _ rfl fun K9 hK9 => ?_); simp only [zz, zy, constA, runL, guardA, srcA, chunk, nilV, liveB, capsA, bndA, aop, qop, rdA, rdAs, args0, find, A.cs, St.put, fits, loadA, partC, fieldA, indexA, lenB, binV, binI, binS, unV, over, partsA, fillA, Value.oneCell', seval, zer_39, flds_39, plc_39_0, plc_39_1, plc_39_2, plc_39_3, plc_39_4, ty_39, zer_64, flds_64, plc_64_0, len_22, elt_22, byt_22, zel_22, ty_33, zer_33, fld_64_0, fld_39_4, ty_37, elt_37, zel_37, byt_37, len_37, hd1, hget, hgl, hset, hp1]; (refine RunTo.mk (by first | exact trivial | omega | (simp; done) | (simp; omega)) (hK9 _ _ ?_)); clear hK9 K9))
      refine WpL.handAll rfl (guardA_sound (P := Tryd.prog) rfl) rfl rfl (by kernel_rfl) (ALes.refl _) hput ?_
      rintro _ S7 ⟨rfl, ⟨cN7, cC7, cG7, cP7, hI7⟩, hF7⟩
      have hp7 := hI7.1
      (try simp only [St.put]); (refine WpL.op rfl (guardA_sound (P := Tryd.prog) rfl) (aop_sound (by simp only [zz, zy, constA, runL, guardA, srcA, chunk, nilV, liveB, capsA, bndA, aop, qop, rdA, rdAs, args0, find, A.cs, St.put, fits, loadA, partC, fieldA, indexA, lenB, binV, binI, binS, unV, over, partsA, fillA, Value.oneCell', seval, zer_39, flds_39, plc_39_0, plc_39_1, plc_39_2, plc_39_3, plc_39_4, ty_39, zer_64, flds_64, plc_64_0, len_22, elt_22, byt_22, zel_22, ty_33, zer_33, fld_64_0, fld_39_4, ty_37, elt_37, zel_37, byt_37, len_37]; rfl) (by first | exact trivial | omega | (simp; done) | (simp; omega))) ?_); simp only [St.put]
      refine WpL.nil ?_
      refine thenA_n ?_
      refine WpA.region ?_
      (try simp only [St.put]); (refine WpL.op rfl (guardA_sound (P := Tryd.prog) rfl) (aop_sound (by simp only [zz, zy, constA, runL, guardA, srcA, chunk, nilV, liveB, capsA, bndA, aop, qop, rdA, rdAs, args0, find, A.cs, St.put, fits, loadA, partC, fieldA, indexA, lenB, binV, binI, binS, unV, over, partsA, fillA, Value.oneCell', seval, zer_39, flds_39, plc_39_0, plc_39_1, plc_39_2, plc_39_3, plc_39_4, ty_39, zer_64, flds_64, plc_64_0, len_22, elt_22, byt_22, zel_22, ty_33, zer_33, fld_64_0, fld_39_4, ty_37, elt_37, zel_37, byt_37, len_37, hp7]; rfl) (by first | exact trivial | omega | (simp; done) | (simp; omega))) ?_); simp only [St.put]; (refine WpL.op rfl (guardA_sound (P := Tryd.prog) rfl) (aop_sound (by simp only [zz, zy, constA, runL, guardA, srcA, chunk, nilV, liveB, capsA, bndA, aop, qop, rdA, rdAs, args0, find, A.cs, St.put, fits, loadA, partC, fieldA, indexA, lenB, binV, binI, binS, unV, over, partsA, fillA, Value.oneCell', seval, zer_39, flds_39, plc_39_0, plc_39_1, plc_39_2, plc_39_3, plc_39_4, ty_39, zer_64, flds_64, plc_64_0, len_22, elt_22, byt_22, zel_22, ty_33, zer_33, fld_64_0, fld_39_4, ty_37, elt_37, zel_37, byt_37, len_37, hp7]; rfl) (by first | exact trivial | omega | (simp; done) | (simp; omega))) ?_); simp only [St.put]; (refine WpL.op rfl (guardA_sound (P := Tryd.prog) rfl) (aop_sound (by simp only [zz, zy, constA, runL, guardA, srcA, chunk, nilV, liveB, capsA, bndA, aop, qop, rdA, rdAs, args0, find, A.cs, St.put, fits, loadA, partC, fieldA, indexA, lenB, binV, binI, binS, unV, over, partsA, fillA, Value.oneCell', seval, zer_39, flds_39, plc_39_0, plc_39_1, plc_39_2, plc_39_3, plc_39_4, ty_39, zer_64, flds_64, plc_64_0, len_22, elt_22, byt_22, zel_22, ty_33, zer_33, fld_64_0, fld_39_4, ty_37, elt_37, zel_37, byt_37, len_37, hp7]; rfl) (by first | exact trivial | omega | (simp; done) | (simp; omega))) ?_); simp only [St.put]; (refine WpL.op rfl (guardA_sound (P := Tryd.prog) rfl) (aop_sound (by simp only [zz, zy, constA, runL, guardA, srcA, chunk, nilV, liveB, capsA, bndA, aop, qop, rdA, rdAs, args0, find, A.cs, St.put, fits, loadA, partC, fieldA, indexA, lenB, binV, binI, binS, unV, over, partsA, fillA, Value.oneCell', seval, zer_39, flds_39, plc_39_0, plc_39_1, plc_39_2, plc_39_3, plc_39_4, ty_39, zer_64, flds_64, plc_64_0, len_22, elt_22, byt_22, zel_22, ty_33, zer_33, fld_64_0, fld_39_4, ty_37, elt_37, zel_37, byt_37, len_37, hp7]; rfl) (by first | exact trivial | omega | (simp; done) | (simp; omega))) ?_); simp only [St.put]; (refine WpL.op rfl (guardA_sound (P := Tryd.prog) rfl) (aop_sound (by simp only [zz, zy, constA, runL, guardA, srcA, chunk, nilV, liveB, capsA, bndA, aop, qop, rdA, rdAs, args0, find, A.cs, St.put, fits, loadA, partC, fieldA, indexA, lenB, binV, binI, binS, unV, over, partsA, fillA, Value.oneCell', seval, zer_39, flds_39, plc_39_0, plc_39_1, plc_39_2, plc_39_3, plc_39_4, ty_39, zer_64, flds_64, plc_64_0, len_22, elt_22, byt_22, zel_22, ty_33, zer_33, fld_64_0, fld_39_4, ty_37, elt_37, zel_37, byt_37, len_37, hp7]; rfl) (by first | exact trivial | omega | (simp; done) | (simp; omega))) ?_); simp only [St.put]; (refine WpL.op rfl (guardA_sound (P := Tryd.prog) rfl) (aop_sound (by simp only [zz, zy, constA, runL, guardA, srcA, chunk, nilV, liveB, capsA, bndA, aop, qop, rdA, rdAs, args0, find, A.cs, St.put, fits, loadA, partC, fieldA, indexA, lenB, binV, binI, binS, unV, over, partsA, fillA, Value.oneCell', seval, zer_39, flds_39, plc_39_0, plc_39_1, plc_39_2, plc_39_3, plc_39_4, ty_39, zer_64, flds_64, plc_64_0, len_22, elt_22, byt_22, zel_22, ty_33, zer_33, fld_64_0, fld_39_4, ty_37, elt_37, zel_37, byt_37, len_37, hp7]; rfl) (by first | exact trivial | omega | (simp; done) | (simp; omega))) ?_); simp only [St.put]; (refine WpL.op rfl (guardA_sound (P := Tryd.prog) rfl) (aop_sound (by simp only [zz, zy, constA, runL, guardA, srcA, chunk, nilV, liveB, capsA, bndA, aop, qop, rdA, rdAs, args0, find, A.cs, St.put, fits, loadA, partC, fieldA, indexA, lenB, binV, binI, binS, unV, over, partsA, fillA, Value.oneCell', seval, zer_39, flds_39, plc_39_0, plc_39_1, plc_39_2, plc_39_3, plc_39_4, ty_39, zer_64, flds_64, plc_64_0, len_22, elt_22, byt_22, zel_22, ty_33, zer_33, fld_64_0, fld_39_4, ty_37, elt_37, zel_37, byt_37, len_37, hp7]; rfl) (by first | exact trivial | omega | (simp; done) | (simp; omega))) ?_); simp only [St.put]; (refine WpL.op rfl (guardA_sound (P := Tryd.prog) rfl) (aop_sound (by simp only [zz, zy, constA, runL, guardA, srcA, chunk, nilV, liveB, capsA, bndA, aop, qop, rdA, rdAs, args0, find, A.cs, St.put, fits, loadA, partC, fieldA, indexA, lenB, binV, binI, binS, unV, over, partsA, fillA, Value.oneCell', seval, zer_39, flds_39, plc_39_0, plc_39_1, plc_39_2, plc_39_3, plc_39_4, ty_39, zer_64, flds_64, plc_64_0, len_22, elt_22, byt_22, zel_22, ty_33, zer_33, fld_64_0, fld_39_4, ty_37, elt_37, zel_37, byt_37, len_37, hp7]; rfl) (by first | exact trivial | omega | (simp; done) | (simp; omega))) ?_); simp only [St.put]
      have ht7 : (putN (codeN (l.take i)) l[i] []).tops = (codeN (l.take i)).tops := rfl
      have htl2 : (codeN (l.take i)).tops.length ≤ l.length := by rw [codeN_tops, List.length_take]; omega
      obtain ⟨S8, jL, hA8, hj8, hl8, hfr8, hpl8, hop8⟩ := append_op (P := Tryd.prog) (T := 37) (by_ := 8) elt_37 byt_37 zel_37 (by omega) (S := S7 ++ [some ⟨3, 1, [[.v (.int .i64 ((codeN (l.take i)).nodes.length : Int))]]⟩]) (hI7.2.2.2.2.2.1.app _) (q := S7.length) (new := [[.v (.int .i64 ((codeN (l.take i)).nodes.length : Int))]]) (by simp) (by simp) (fun n e => by have := hI7.2.2.2.2.2.1.lt e; omega) (by rw [intC_len, ht7]; simp; omega) (by rw [intC_len, ht7]; simp; omega)
      have hrL : intC (putN (codeN (l.take i)) l[i] []).tops ++ [[.v (.int .i64 ((codeN (l.take i)).nodes.length : Int))]] = intC ((codeN (l.take i)).tops ++ [((codeN (l.take i)).nodes.length : Int)]) := by rw [intC_app]; rfl
      rw [hrL] at hA8
      simp only [List.length_cons, List.length_nil, Nat.zero_add] at hop8 hA8
      have hp8 := hfr8 _ _ (up_app hI7.1) (hI7.2.2.2.2.2.1.apart hI7.1 (by show (64 : Nat) ≠ _; decide))
      refine WpL.aop rfl (hop8 _ _ _ rfl rfl) ?_
      simp only [St.put]
      ((refine WpL.go _ rfl fun K9 hK9 => ?_); simp only [zz, zy, constA, runL, guardA, srcA, chunk, nilV, liveB, capsA, bndA, aop, qop, rdA, rdAs, args0, find, A.cs, St.put, fits, loadA, partC, fieldA, indexA, lenB, binV, binI, binS, unV, over, partsA, fillA, Value.oneCell', seval, zer_39, flds_39, plc_39_0, plc_39_1, plc_39_2, plc_39_3, plc_39_4, ty_39, zer_64, flds_64, plc_64_0, len_22, elt_22, byt_22, zel_22, ty_33, zer_33, fld_64_0, fld_39_4, ty_37, elt_37, zel_37, byt_37, len_37, hp7, hp8, hw2]; (refine RunTo.mk (by first | exact trivial | omega | (simp; done) | (simp; omega)) (hK9 _ _ ?_)); clear hK9 K9); repeat (first | with_reducible (first | refine roundsA_s ?_ | refine thenA_n ?_ | refine thenA_r ?_ | refine thenA_e ?_ | refine inBlockA_n ?_ | refine inBlockA_r ?_ | refine inBlockA_s ?_ | refine inBlockA_o rfl ?_ | refine WpA.seq ?_ | refine WpA.block ?_ | refine WpA.skip ?_ | refine WpA.ret ?_ | refine WpA.exit ?_ | refine WpL.nil ?_) | ((refine WpA.cond_t ?_ ?_); focus (simp only [find, reduceIte, Nat.reduceEqDiff]; done)) | ((refine WpA.cond_f ?_ ?_); focus (simp only [find, reduceIte, Nat.reduceEqDiff]; done)) | ((with_reducible refine WpA.region ?_); (refine WpL.go _ rfl fun K9 hK9 => ?_); simp only [zz, zy, constA, runL, guardA, srcA, chunk, nilV, liveB, capsA, bndA, aop, qop, rdA, rdAs, args0, find, A.cs, St.put, fits, loadA, partC, fieldA, indexA, lenB, binV, binI, binS, unV, over, partsA, fillA, Value.oneCell', seval, zer_39, flds_39, plc_39_0, plc_39_1, plc_39_2, plc_39_3, plc_39_4, ty_39, zer_64, flds_64, plc_64_0, len_22, elt_22, byt_22, zel_22, ty_33, zer_33, fld_64_0, fld_39_4, ty_37, elt_37, zel_37, byt_37, len_37, hp7, hp8, hw2]; (refine RunTo.mk (by first | exact trivial | omega | (simp; done) | (simp; omega)) (hK9 _ _ ?_)); clear hK9 K9))
      have hR := hI7.newT hA8 (by simp at hl8; omega) (fun j o hj hn => hfr8 j o (up_app hj) hn)
      refine ⟨l.length - (i + 1), _, by omega, Le.sub (by simp [Sub, find]), i + 1, _, cN7, cC7, cG7, cP7, .ms jL ((intC (putN (codeN (l.take i)) l[i] []).tops).length + 1), rfl, hlt, ?_, hR.2.2 0 _ (hF7.2 0 _ (up_app hr0) (by omega) (by show (39 : Nat) ∉ _; decide)) (by omega) (by show (39 : Nat) ∉ _; decide), rfl⟩
      rw [codeN_take hlt]
      exact hR.1
    · have hd0 : decide ((i : Int) < (l.length : Int)) = false := by simp; omega
      have hii : i = l.length := by omega
      subst hii
      rw [List.take_length] at hI'
      have hp1 := hI'.1
      repeat (first | with_reducible (first | refine roundsA_s ?_ | refine thenA_n ?_ | refine thenA_r ?_ | refine thenA_e ?_ | refine inBlockA_n ?_ | refine inBlockA_r ?_ | refine inBlockA_s ?_ | refine inBlockA_o rfl ?_ | refine WpA.seq ?_ | refine WpA.block ?_ | refine WpA.skip ?_ | refine WpA.ret ?_ | refine WpA.exit ?_ | refine WpL.nil ?_) | ((refine WpA.cond_t ?_ ?_); focus (simp only [find, reduceIte, Nat.reduceEqDiff]; done)) | ((refine WpA.cond_f ?_ ?_); focus (simp only [find, reduceIte, Nat.reduceEqDiff]; done)) | ((with_reducible refine WpA.region ?_); (refine WpL.go _ rfl fun K9 hK9 => ?_); simp only [zz, zy, constA, runL, guardA, srcA, chunk, nilV, liveB, capsA, bndA, aop, qop, rdA, rdAs, args0, find, A.cs, St.put, fits, loadA, partC, fieldA, indexA, lenB, binV, binI, binS, unV, over, partsA, fillA, Value.oneCell', seval, zer_39, flds_39, plc_39_0, plc_39_1, plc_39_2, plc_39_3, plc_39_4, ty_39, zer_64, flds_64, plc_64_0, len_22, elt_22, byt_22, zel_22, ty_33, zer_33, fld_64_0, fld_39_4, ty_37, elt_37, zel_37, byt_37, len_37, hd0, hp1, hr0]; (refine RunTo.mk (by first | exact trivial | omega | (simp; done) | (simp; omega)) (hK9 _ _ ?_)); clear hK9 K9))
      repeat (first | with_reducible (first | refine roundsA_s ?_ | refine thenA_n ?_ | refine thenA_r ?_ | refine thenA_e ?_ | refine inBlockA_n ?_ | refine inBlockA_r ?_ | refine inBlockA_s ?_ | refine inBlockA_o rfl ?_ | refine WpA.seq ?_ | refine WpA.block ?_ | refine WpA.skip ?_ | refine WpA.ret ?_ | refine WpA.exit ?_ | refine WpL.nil ?_) | ((refine WpA.cond_t ?_ ?_); focus (simp only [find, reduceIte, Nat.reduceEqDiff]; done)) | ((refine WpA.cond_f ?_ ?_); focus (simp only [find, reduceIte, Nat.reduceEqDiff]; done)) | ((with_reducible refine WpA.region ?_); (refine WpL.go _ rfl fun K9 hK9 => ?_); simp only [zz, zy, constA, runL, guardA, srcA, chunk, nilV, liveB, capsA, bndA, aop, qop, rdA, rdAs, args0, find, A.cs, St.put, fits, loadA, partC, fieldA, indexA, lenB, binV, binI, binS, unV, over, partsA, fillA, Value.oneCell', seval, zer_39, flds_39, plc_39_0, plc_39_1, plc_39_2, plc_39_3, plc_39_4, ty_39, zer_64, flds_64, plc_64_0, len_22, elt_22, byt_22, zel_22, ty_33, zer_33, fld_64_0, fld_39_4, ty_37, elt_37, zel_37, byt_37, len_37, hd0, hp1, hr0]; (refine RunTo.mk (by first | exact trivial | omega | (simp; done) | (simp; omega)) (hK9 _ _ ?_)); clear hK9 K9))
      have hne0 : ∀ (j : Nat) (ob : Ob), S'[j]? = some (some ob) → (j = 1 ∨ (∃ n, cN' = .ms j n) ∨ (∃ n, cC' = .ms j n) ∨ (∃ n, cG' = .ms j n) ∨ (∃ n, cP' = .ms j n) ∨ (∃ n, cT' = .ms j n)) → 0 ≠ j := fun j ob hj hc e => by
        subst e
        have := hI'.tys hj hc
        rw [hr0] at hj; cases hj
        rcases this with h | h | h | h | h <;> exact absurd h (by decide)
      have hI9 : CoderIn 1 (S'.set 0 (some ⟨39, 5, [[cN', cC', cG', cP', cT']]⟩)) (codeN l) cN' cC' cG' cP' cT' := hI'.keep fun j ob hj hc => by rw [List.getElem?_set_ne (hne0 j ob hj hc)]; exact hj
      have hl0 : 0 < S'.length := (List.getElem?_eq_some_iff.1 hr0).1
      obtain ⟨p1, c1, v1, w1, x1⟩ := hI9.2.1.see (nd_shut _)
      obtain ⟨p2, c2, v2, w2, x2⟩ := hI9.2.2.1.see (dat_shut _)
      obtain ⟨p3, c3, v3, w3, x3⟩ := hI9.2.2.2.1.see (strC_shut _)
      obtain ⟨p4, c4, v4, w4, x4⟩ := hI9.2.2.2.2.1.see (strC_shut _)
      obtain ⟨p5, c5, v5, w5, x5⟩ := hI9.2.2.2.2.2.1.see (intC_shut _)
      refine ⟨.inl rfl, _, _, _, _, (by simp only [resA, find, reduceIte, Nat.reduceEqDiff, loadA, partC, List.getElem?_set_self hl0, List.getElem?_cons_zero, List.drop_zero, List.take_succ_cons, List.take_zero, List.length_cons, List.length_nil, zer_39, flds_39, plc_39_0, plc_39_1, plc_39_2, plc_39_3, plc_39_4, ty_39, zer_64, flds_64, plc_64_0, len_22, elt_22, byt_22, zel_22, ty_33, zer_33, fld_64_0, fld_39_4, ty_37, elt_37, zel_37, byt_37, len_37]; rfl), by simp, (by simp only [tupA, viewA, viewAs, viewCs, viewC, v1, v2, v3, v4, v5]; rfl), by simp [w1, w2, w3, w4, w5], _, ALe.tup (ALes.cons (ALe.agg (x1 _ _ (x2 _ _ (x3 _ _ (x4 _ _ (x5 _ _ (CLes.refl _))))))) (ALes.refl _)), rfl⟩
end Go.Proofs.YtpacdmgnpadleaaDoor
end

section
/-
  How much expressions are: weigh, measure, heavy of layer 19.
-/
namespace Go.Proofs.YtpacdmgnpadleaaDoor
open Go Go.RowKit Go.Lib
set_option linter.unusedSimpArgs false
set_option linter.unusedVariables false
set_option maxHeartbeats 4000000
set_option maxRecDepth 100000
def p19 : Nat × Nat × Nat × Nat := (300, 100, 1000, 1000)
theorem w19_eq (d : D) (left : Int) : d.weigh p19 left = if 300 < d.t.size ∨ 100 < d.mag.length then -1 else weighs p19 d.l (left - 1) := by
  rw [D.weigh_eq]
  show (if 300 < d.t.size ∨ 100 < d.mag.length then (-1 : Int) else weighs p19 d.l (left - 1 - (d.t.size / 1000 : Nat) - (d.mag.length / 1000 : Nat))) = _
  by_cases h : 300 < d.t.size ∨ 100 < d.mag.length
  · rw [if_pos h, if_pos h]
  · rw [if_neg h, if_neg h, Nat.div_eq_of_lt (by omega), Nat.div_eq_of_lt (by omega)]
    simp
mutual
theorem w19_bd : ∀ (d : D) (left : Int), -1 ≤ left → -2 ≤ d.weigh p19 left ∧ d.weigh p19 left ≤ max left (-1)
  | .mk k c neg mag t l, left, h => by
    rw [w19_eq]
    by_cases hc : 300 < (D.mk k c neg mag t l).t.size ∨ 100 < (D.mk k c neg mag t l).mag.length
    · rw [if_pos hc]; omega
    · rw [if_neg hc]
      have := ws19_bd l (left - 1) (by omega)
      show -2 ≤ weighs p19 l (left - 1) ∧ weighs p19 l (left - 1) ≤ max left (-1)
      omega
theorem ws19_bd : ∀ (l : List D) (left : Int), -2 ≤ left → -2 ≤ weighs p19 l left ∧ weighs p19 l left ≤ max left (-1)
  | [], left, h => by simp only [weighs]; omega
  | d :: l, left, h => by
    rw [weighs]
    by_cases hc : left < 0
    · rw [if_pos hc]; omega
    · rw [if_neg hc]
      have h1 := w19_bd d left (by omega)
      have h2 := ws19_bd l (d.weigh p19 left) (by omega)
      omega
end
def WgI (d : D) (left : Int) (n : Nat) (st : St) : Prop := ∃ i : Nat, n = d.l.length - i ∧ i ≤ d.l.length ∧
  st = ⟨[(5, .one (.v (.int .i64 i))), (1, .one (.v (.int .i64 (weighs p19 (d.l.take i) (left - 1))))), (2, .one (.ptr 0 1 0 0))], [some ⟨31, 6, [[.v (.int .i64 d.k), .v (.int .i32 d.c), .v (.bool d.neg), .sl 1 (d.mag.map fun n => [.v (.int .u32 n)]), .v (.string d.t), .sl 6 (d.l.map D.cc)]]⟩]⟩
theorem w19_upto : ∀ n (d : D), d.ht ≤ n → d.Ok → ∀ left : Int, -1 ≤ left → left ≤ 1000000000 → Pure Tryd.prog 36 [.agg d.cc, .one (.v (.int .i64 left))] (.one (.v (.int .i64 (d.weigh p19 left)))) := by
  intro n
  induction n with
  | zero => intro d h; exact absurd h (by cases d; rw [D.ht]; omega)
  | succ n ih =>
    intro d hh hok left h0 h1
    have hws : IntKind.i64.wrap (left - 1) = left - 1 := wrap64 (by omega) (by omega)
    have hlen : d.l.length ≤ 100000000000000 := by cases d; have := hok.2.2.2.2.1.2; simp only [D.l]; omega
    rw [w19_eq]
    have hts : decide ((300 : Int) < (d.t.size : Int)) = decide (300 < d.t.size) := by apply decide_eq_decide.2; omega
    have hms : decide ((100 : Int) < (d.mag.length : Int)) = decide (100 < d.mag.length) := by apply decide_eq_decide.2; omega
    rw [D.cc_eq]
    by_cases ht : 300 < d.t.size
    · rw [if_pos (.inl ht)]
      refine Fn.intro Tryd.func36 rfl Tryd.ntmps36 Tryd.results36 (by simp only [List.length_cons, List.length_nil]; decide) ?_
      repeat (first | with_reducible (first | refine roundsA_s ?_ | refine thenA_n ?_ | refine thenA_r ?_ | refine thenA_e ?_ | refine inBlockA_n ?_ | refine inBlockA_r ?_ | refine inBlockA_s ?_ | refine inBlockA_o rfl ?_ | refine WpA.seq ?_ | refine WpA.block ?_ | refine WpA.skip ?_ | refine WpA.ret ?_ | refine WpA.exit ?_ | refine WpL.nil ?_) | ((refine WpA.cond_t ?_ ?_); focus (simp only [find, reduceIte, Nat.reduceEqDiff]; done)) | ((refine WpA.cond_f ?_ ?_); focus (simp only [find, reduceIte, Nat.reduceEqDiff]; done)) | ((with_reducible refine WpA.region ?_); (refine WpL.go _ rfl fun K9 hK9 => ?_); simp only [zz, zy, constA, runL, guardA, srcA, chunk, nilV, liveB, capsA, bndA, aop, qop, rdA, rdAs, args0, find, A.cs, St.put, fits, loadA, partC, fieldA, indexA, lenB, binV, binI, binS, unV, over, partsA, fillA, Value.oneCell', seval, fld_31_3, ty_9, len_9, str_9, fld_31_2, fld_28_1, ty_26, len_26, elt_26, byt_26, zel_26, fld_31_4, ty_29, len_29, elt_29, byt_29, zel_29, ty_31, hws, hts, ht]; (refine RunTo.mk (by first | exact trivial | omega | (simp; done) | (simp; omega)) (hK9 _ _ ?_)); clear hK9 K9))
      refine ⟨by first | exact .inl rfl | exact .inr rfl, _, _, _, _, (by simp only [resA, find, reduceIte, Nat.reduceEqDiff, loadA, partC, List.getElem?_cons_zero, List.getElem?_cons_succ, List.drop_zero, List.drop_succ_cons, List.take_succ_cons, List.take_zero, List.length_cons, List.length_nil, fld_31_3, ty_9, len_9, str_9, fld_31_2, fld_28_1, ty_26, len_26, elt_26, byt_26, zel_26, fld_31_4, ty_29, len_29, elt_29, byt_29, zel_29, ty_31]; rfl), (by first | exact trivial | (simp; done)), (by simp only [tupA, viewA, viewC, viewCs, viewAs, List.getElem?_cons_zero, List.getElem?_cons_succ]; rfl), (by first | exact trivial | (simp; done)), _, ALe.refl _, ?_⟩
      rfl
    by_cases hm : 100 < d.mag.length
    · rw [if_pos (.inr hm)]
      refine Fn.intro Tryd.func36 rfl Tryd.ntmps36 Tryd.results36 (by simp only [List.length_cons, List.length_nil]; decide) ?_
      repeat (first | with_reducible (first | refine roundsA_s ?_ | refine thenA_n ?_ | refine thenA_r ?_ | refine thenA_e ?_ | refine inBlockA_n ?_ | refine inBlockA_r ?_ | refine inBlockA_s ?_ | refine inBlockA_o rfl ?_ | refine WpA.seq ?_ | refine WpA.block ?_ | refine WpA.skip ?_ | refine WpA.ret ?_ | refine WpA.exit ?_ | refine WpL.nil ?_) | ((refine WpA.cond_t ?_ ?_); focus (simp only [find, reduceIte, Nat.reduceEqDiff]; done)) | ((refine WpA.cond_f ?_ ?_); focus (simp only [find, reduceIte, Nat.reduceEqDiff]; done)) | ((with_reducible refine WpA.region ?_); (refine WpL.go _ rfl fun K9 hK9 => ?_); simp only [zz, zy, constA, runL, guardA, srcA, chunk, nilV, liveB, capsA, bndA, aop, qop, rdA, rdAs, args0, find, A.cs, St.put, fits, loadA, partC, fieldA, indexA, lenB, binV, binI, binS, unV, over, partsA, fillA, Value.oneCell', seval, fld_31_3, ty_9, len_9, str_9, fld_31_2, fld_28_1, ty_26, len_26, elt_26, byt_26, zel_26, fld_31_4, ty_29, len_29, elt_29, byt_29, zel_29, ty_31, hws, hts, ht, hms, hm]; (refine RunTo.mk (by first | exact trivial | omega | (simp; done) | (simp; omega)) (hK9 _ _ ?_)); clear hK9 K9))
      refine ⟨by first | exact .inl rfl | exact .inr rfl, _, _, _, _, (by simp only [resA, find, reduceIte, Nat.reduceEqDiff, loadA, partC, List.getElem?_cons_zero, List.getElem?_cons_succ, List.drop_zero, List.drop_succ_cons, List.take_succ_cons, List.take_zero, List.length_cons, List.length_nil, fld_31_3, ty_9, len_9, str_9, fld_31_2, fld_28_1, ty_26, len_26, elt_26, byt_26, zel_26, fld_31_4, ty_29, len_29, elt_29, byt_29, zel_29, ty_31]; rfl), (by first | exact trivial | (simp; done)), (by simp only [tupA, viewA, viewC, viewCs, viewAs, List.getElem?_cons_zero, List.getElem?_cons_succ]; rfl), (by first | exact trivial | (simp; done)), _, ALe.refl _, ?_⟩
      rfl
    rw [if_neg (by omega)]
    refine Fn.intro Tryd.func36 rfl Tryd.ntmps36 Tryd.results36 (by simp only [List.length_cons, List.length_nil]; decide) ?_
    repeat (first | with_reducible (first | refine roundsA_s ?_ | refine thenA_n ?_ | refine thenA_r ?_ | refine thenA_e ?_ | refine inBlockA_n ?_ | refine inBlockA_r ?_ | refine inBlockA_s ?_ | refine inBlockA_o rfl ?_ | refine WpA.seq ?_ | refine WpA.block ?_ | refine WpA.skip ?_ | refine WpA.ret ?_ | refine WpA.exit ?_ | refine WpL.nil ?_) | ((refine WpA.cond_t ?_ ?_); focus (simp only [find, reduceIte, Nat.reduceEqDiff]; done)) | ((refine WpA.cond_f ?_ ?_); focus (simp only [find, reduceIte, Nat.reduceEqDiff]; done)) | ((with_reducible refine WpA.region ?_); (refine WpL.go _ rfl fun K9 hK9 => ?_); simp only [zz, zy, constA, runL, guardA, srcA, chunk, nilV, liveB, capsA, bndA, aop, qop, rdA, rdAs, args0, find, A.cs, St.put, fits, loadA, partC, fieldA, indexA, lenB, binV, binI, binS, unV, over, partsA, fillA, Value.oneCell', seval, fld_31_3, ty_9, len_9, str_9, fld_31_2, fld_28_1, ty_26, len_26, elt_26, byt_26, zel_26, fld_31_4, ty_29, len_29, elt_29, byt_29, zel_29, ty_31, hws, hts, ht, hms, hm]; (refine RunTo.mk (by first | exact trivial | omega | (simp; done) | (simp; omega)) (hK9 _ _ ?_)); clear hK9 K9))
    refine WpA.loop (WgI d left) d.l.length ?_ ⟨0, rfl, Nat.zero_le _, rfl⟩ ?_
    · exact Le.drop 1 (Nat.zero_le _) rfl (by simp [Sub, find, weighs]) rfl (by simp [ObBd, C.bd])
    intro n' st hst
    obtain ⟨i, rfl, hi, rfl⟩ := hst
    have hw2 : IntKind.i64.wrap ((i : Int) + 1) = ((i + 1 : Nat) : Int) := by rw [wrap64 (by omega) (by omega)]; omega
    have hbd := ws19_bd (d.l.take i) (left - 1) (by omega)
    generalize hv : weighs p19 (d.l.take i) (left - 1) = v at *
    by_cases hlt : i < d.l.length
    · have hd1 : decide ((i : Int) < (d.l.length : Int)) = true := by simp; omega
      by_cases hn : v < 0
      · have hge : decide ((0 : Int) ≤ v) = false := by simp; omega
        have hst := weighs_stop p19 d.l (left - 1) i (by rw [hv]; exact hn)
        repeat (first | with_reducible (first | refine roundsA_s ?_ | refine thenA_n ?_ | refine thenA_r ?_ | refine thenA_e ?_ | refine inBlockA_n ?_ | refine inBlockA_r ?_ | refine inBlockA_s ?_ | refine inBlockA_o rfl ?_ | refine WpA.seq ?_ | refine WpA.block ?_ | refine WpA.skip ?_ | refine WpA.ret ?_ | refine WpA.exit ?_ | refine WpL.nil ?_) | ((refine WpA.cond_t ?_ ?_); focus (simp only [find, reduceIte, Nat.reduceEqDiff]; done)) | ((refine WpA.cond_f ?_ ?_); focus (simp only [find, reduceIte, Nat.reduceEqDiff]; done)) | ((with_reducible refine WpA.region ?_); (refine WpL.go _ rfl fun K9 hK9 => ?_); simp only [zz, zy, constA, runL, guardA, srcA, chunk, nilV, liveB, capsA, bndA, aop, qop, rdA, rdAs, args0, find, A.cs, St.put, fits, loadA, partC, fieldA, indexA, lenB, binV, binI, binS, unV, over, partsA, fillA, Value.oneCell', seval, fld_31_3, ty_9, len_9, str_9, fld_31_2, fld_28_1, ty_26, len_26, elt_26, byt_26, zel_26, fld_31_4, ty_29, len_29, elt_29, byt_29, zel_29, ty_31, hd1, hge]; (refine RunTo.mk (by first | exact trivial | omega | (simp; done) | (simp; omega)) (hK9 _ _ ?_)); clear hK9 K9))
        repeat (first | with_reducible (first | refine roundsA_s ?_ | refine thenA_n ?_ | refine thenA_r ?_ | refine thenA_e ?_ | refine inBlockA_n ?_ | refine inBlockA_r ?_ | refine inBlockA_s ?_ | refine inBlockA_o rfl ?_ | refine WpA.seq ?_ | refine WpA.block ?_ | refine WpA.skip ?_ | refine WpA.ret ?_ | refine WpA.exit ?_ | refine WpL.nil ?_) | ((refine WpA.cond_t ?_ ?_); focus (simp only [find, reduceIte, Nat.reduceEqDiff]; done)) | ((refine WpA.cond_f ?_ ?_); focus (simp only [find, reduceIte, Nat.reduceEqDiff]; done)) | ((with_reducible refine WpA.region ?_); (refine WpL.go _ rfl fun K9 hK9 => ?_); simp only [zz, zy, constA, runL, guardA, srcA, chunk, nilV, liveB, capsA, bndA, aop, qop, rdA, rdAs, args0, find, A.cs, St.put, fits, loadA, partC, fieldA, indexA, lenB, binV, binI, binS, unV, over, partsA, fillA, Value.oneCell', seval, fld_31_3, ty_9, len_9, str_9, fld_31_2, fld_28_1, ty_26, len_26, elt_26, byt_26, zel_26, fld_31_4, ty_29, len_29, elt_29, byt_29, zel_29, ty_31, hd1, hge]; (refine RunTo.mk (by first | exact trivial | omega | (simp; done) | (simp; omega)) (hK9 _ _ ?_)); clear hK9 K9))
        refine ⟨by first | exact .inl rfl | exact .inr rfl, _, _, _, _, (by simp only [resA, find, reduceIte, Nat.reduceEqDiff, loadA, partC, List.getElem?_cons_zero, List.getElem?_cons_succ, List.drop_zero, List.drop_succ_cons, List.take_succ_cons, List.take_zero, List.length_cons, List.length_nil, fld_31_3, ty_9, len_9, str_9, fld_31_2, fld_28_1, ty_26, len_26, elt_26, byt_26, zel_26, fld_31_4, ty_29, len_29, elt_29, byt_29, zel_29, ty_31]; rfl), (by first | exact trivial | (simp; done)), (by simp only [tupA, viewA, viewC, viewCs, viewAs, List.getElem?_cons_zero, List.getElem?_cons_succ]; rfl), (by first | exact trivial | (simp; done)), _, ALe.refl _, ?_⟩
        rw [hst, hv]
      · have hge : decide ((0 : Int) ≤ v) = true := by simp; omega
        have hget := getC hlt
        have hc := ih d.l[i] (by have := D.ht_lt hlt; omega) (by cases d; exact hok.2.2.2.2.2.get i hlt) v (by omega) (by omega)
        have hsu := weighs_succ p19 d.l (left - 1) i hlt (by rw [hv]; exact hn)
        rw [D.cc_eq] at hget hc
        repeat (first | with_reducible (first | refine roundsA_s ?_ | refine thenA_n ?_ | refine thenA_r ?_ | refine thenA_e ?_ | refine inBlockA_n ?_ | refine inBlockA_r ?_ | refine inBlockA_s ?_ | refine inBlockA_o rfl ?_ | refine WpA.seq ?_ | refine WpA.block ?_ | refine WpA.skip ?_ | refine WpA.ret ?_ | refine WpA.exit ?_ | refine WpL.nil ?_) | ((refine WpA.cond_t ?_ ?_); focus (simp only [find, reduceIte, Nat.reduceEqDiff]; done)) | ((refine WpA.cond_f ?_ ?_); focus (simp only [find, reduceIte, Nat.reduceEqDiff]; done)) | ((with_reducible refine WpA.region ?_); (refine WpL.go _ rfl fun K9 hK9 => ?_); simp only [zz, zy, constA, runL, guardA, srcA, chunk, nilV, liveB, capsA, bndA, aop, qop, rdA, rdAs, args0, find, A.cs, St.put, fits, loadA, partC, fieldA, indexA, lenB, binV, binI, binS, unV, over, partsA, fillA, Value.oneCell', seval, fld_31_3, ty_9, len_9, str_9, fld_31_2, fld_28_1, ty_26, len_26, elt_26, byt_26, zel_26, fld_31_4, ty_29, len_29, elt_29, byt_29, zel_29, ty_31, hd1, hge, hget]; (refine RunTo.mk (by first | exact trivial | omega | (simp; done) | (simp; omega)) (hK9 _ _ ?_)); clear hK9 K9))
        refine WpL.call rfl (guardA_sound (P := Tryd.prog) rfl) (CallA.shut rfl rfl (by kernel_rfl) (by first | exact ALes.refl _ | (simp only [List.cons_append, List.nil_append, List.map_nil]; exact ALes.refl _)) (by first | rfl | (simp [shuts, A.shut, C.shut]; done)) (hc) ?_)
        ((refine WpL.go _ rfl fun K9 hK9 => ?_); simp only [zz, zy, constA, runL, guardA, srcA, chunk, nilV, liveB, capsA, bndA, aop, qop, rdA, rdAs, args0, find, A.cs, St.put, fits, loadA, partC, fieldA, indexA, lenB, binV, binI, binS, unV, over, partsA, fillA, Value.oneCell', seval, fld_31_3, ty_9, len_9, str_9, fld_31_2, fld_28_1, ty_26, len_26, elt_26, byt_26, zel_26, fld_31_4, ty_29, len_29, elt_29, byt_29, zel_29, ty_31, hw2]; (refine RunTo.mk (by first | exact trivial | omega | (simp; done) | (simp; omega)) (hK9 _ _ ?_)); clear hK9 K9); repeat (first | with_reducible (first | refine roundsA_s ?_ | refine thenA_n ?_ | refine thenA_r ?_ | refine thenA_e ?_ | refine inBlockA_n ?_ | refine inBlockA_r ?_ | refine inBlockA_s ?_ | refine inBlockA_o rfl ?_ | refine WpA.seq ?_ | refine WpA.block ?_ | refine WpA.skip ?_ | refine WpA.ret ?_ | refine WpA.exit ?_ | refine WpL.nil ?_) | ((refine WpA.cond_t ?_ ?_); focus (simp only [find, reduceIte, Nat.reduceEqDiff]; done)) | ((refine WpA.cond_f ?_ ?_); focus (simp only [find, reduceIte, Nat.reduceEqDiff]; done)) | ((with_reducible refine WpA.region ?_); (refine WpL.go _ rfl fun K9 hK9 => ?_); simp only [zz, zy, constA, runL, guardA, srcA, chunk, nilV, liveB, capsA, bndA, aop, qop, rdA, rdAs, args0, find, A.cs, St.put, fits, loadA, partC, fieldA, indexA, lenB, binV, binI, binS, unV, over, partsA, fillA, Value.oneCell', seval, fld_31_3, ty_9, len_9, str_9, fld_31_2, fld_28_1, ty_26, len_26, elt_26, byt_26, zel_26, fld_31_4, ty_29, len_29, elt_29, byt_29, zel_29, ty_31, hw2]; (refine RunTo.mk (by first | exact trivial | omega | (simp; done) | (simp; omega)) (hK9 _ _ ?_)); clear hK9 K9))
        refine ⟨d.l.length - (i + 1), _, by omega, ?_, i + 1, rfl, hlt, rfl⟩
        rw [hsu, hv]
        exact Le.drop 1 (Nat.zero_le _) rfl (by simp [Sub, find]) rfl (by simp [ObBd, C.bd])
    · have hd0 : decide ((i : Int) < (d.l.length : Int)) = false := by simp; omega
      have hii : i = d.l.length := by omega
      subst hii
      repeat (first | with_reducible (first | refine roundsA_s ?_ | refine thenA_n ?_ | refine thenA_r ?_ | refine thenA_e ?_ | refine inBlockA_n ?_ | refine inBlockA_r ?_ | refine inBlockA_s ?_ | refine inBlockA_o rfl ?_ | refine WpA.seq ?_ | refine WpA.block ?_ | refine WpA.skip ?_ | refine WpA.ret ?_ | refine WpA.exit ?_ | refine WpL.nil ?_) | ((refine WpA.cond_t ?_ ?_); focus (simp only [find, reduceIte, Nat.reduceEqDiff]; done)) | ((refine WpA.cond_f ?_ ?_); focus (simp only [find, reduceIte, Nat.reduceEqDiff]; done)) | ((with_reducible refine WpA.region ?_); (refine WpL.go _ rfl fun K9 hK9 => ?_); simp only [zz, zy, constA, runL, guardA, srcA, chunk, nilV, liveB, capsA, bndA, aop, qop, rdA, rdAs, args0, find, A.cs, St.put, fits, loadA, partC, fieldA, indexA, lenB, binV, binI, binS, unV, over, partsA, fillA, Value.oneCell', seval, fld_31_3, ty_9, len_9, str_9, fld_31_2, fld_28_1, ty_26, len_26, elt_26, byt_26, zel_26, fld_31_4, ty_29, len_29, elt_29, byt_29, zel_29, ty_31, hd0]; (refine RunTo.mk (by first | exact trivial | omega | (simp; done) | (simp; omega)) (hK9 _ _ ?_)); clear hK9 K9))
      repeat (first | with_reducible (first | refine roundsA_s ?_ | refine thenA_n ?_ | refine thenA_r ?_ | refine thenA_e ?_ | refine inBlockA_n ?_ | refine inBlockA_r ?_ | refine inBlockA_s ?_ | refine inBlockA_o rfl ?_ | refine WpA.seq ?_ | refine WpA.block ?_ | refine WpA.skip ?_ | refine WpA.ret ?_ | refine WpA.exit ?_ | refine WpL.nil ?_) | ((refine WpA.cond_t ?_ ?_); focus (simp only [find, reduceIte, Nat.reduceEqDiff]; done)) | ((refine WpA.cond_f ?_ ?_); focus (simp only [find, reduceIte, Nat.reduceEqDiff]; done)) | ((with_reducible refine WpA.region ?_); (refine WpL.go _ rfl fun K9 hK9 => ?_); simp only [zz, zy, constA, runL, guardA, srcA, chunk, nilV, liveB, capsA, bndA, aop, qop, rdA, rdAs, args0, find, A.cs, St.put, fits, loadA, partC, fieldA, indexA, lenB, binV, binI, binS, unV, over, partsA, fillA, Value.oneCell', seval, fld_31_3, ty_9, len_9, str_9, fld_31_2, fld_28_1, ty_26, len_26, elt_26, byt_26, zel_26, fld_31_4, ty_29, len_29, elt_29, byt_29, zel_29, ty_31, hd0]; (refine RunTo.mk (by first | exact trivial | omega | (simp; done) | (simp; omega)) (hK9 _ _ ?_)); clear hK9 K9))
      refine ⟨by first | exact .inl rfl | exact .inr rfl, _, _, _, _, (by simp only [resA, find, reduceIte, Nat.reduceEqDiff, loadA, partC, List.getElem?_cons_zero, List.getElem?_cons_succ, List.drop_zero, List.drop_succ_cons, List.take_succ_cons, List.take_zero, List.length_cons, List.length_nil, fld_31_3, ty_9, len_9, str_9, fld_31_2, fld_28_1, ty_26, len_26, elt_26, byt_26, zel_26, fld_31_4, ty_29, len_29, elt_29, byt_29, zel_29, ty_31]; rfl), (by first | exact trivial | (simp; done)), (by simp only [tupA, viewA, viewC, viewCs, viewAs, List.getElem?_cons_zero, List.getElem?_cons_succ]; rfl), (by first | exact trivial | (simp; done)), _, ALe.refl _, ?_⟩
      rw [List.take_length] at hv
      rw [hv]
theorem w19_pure (d : D) (hok : d.Ok) (left : Int) (h0 : -1 ≤ left) (h1 : left ≤ 1000000000) : Pure Tryd.prog 36 [.agg d.cc, .one (.v (.int .i64 left))] (.one (.v (.int .i64 (d.weigh p19 left)))) := w19_upto d.ht d (Nat.le_refl _) hok left h0 h1
mutual
def K.meas : K → Int → Int
  | .mk _ name rest params d l, left => if 100 < params.length ∨ 500 < name.size ∨ 500 < rest.size ∨ ∃ s ∈ params, 500 < s.size then -1 else K.meass l (d.weigh p19 (left - 1))
def K.meass : List K → Int → Int
  | [], left => left
  | c :: l, left => if left < 0 then left else K.meass l (c.meas left)
end
theorem K.meas_eq (x : K) (left : Int) : x.meas left = if 100 < x.params.length ∨ 500 < x.name.size ∨ 500 < x.rest.size ∨ ∃ s ∈ x.params, 500 < s.size then -1 else K.meass x.l (x.d.weigh p19 (left - 1)) := by
  cases x; rw [K.meas]; rfl
theorem meass_neg (l : List K) (left : Int) (h : left < 0) : K.meass l left = left := by
  cases l <;> simp [K.meass, h]
theorem meass_append (a b : List K) (left : Int) : K.meass (a ++ b) left = K.meass b (K.meass a left) := by
  induction a generalizing left with
  | nil => simp [K.meass]
  | cons x a ih =>
    simp only [List.cons_append, K.meass]
    by_cases h : left < 0
    · rw [if_pos h, if_pos h, meass_neg b left h]
    · rw [if_neg h, if_neg h]; exact ih _
theorem meass_succ (l : List K) (left : Int) (k : Nat) (h : k < l.length) (hn : ¬ K.meass (l.take k) left < 0) : K.meass (l.take (k + 1)) left = l[k].meas (K.meass (l.take k) left) := by
  rw [List.take_succ_eq_append_getElem h, meass_append]
  simp [K.meass, hn]
theorem meass_stop (l : List K) (left : Int) (k : Nat) (hn : K.meass (l.take k) left < 0) : K.meass l left = K.meass (l.take k) left := by
  conv => lhs; rw [← List.take_append_drop k l, meass_append, meass_neg _ _ hn]
mutual
theorem meas_bd : ∀ (x : K) (left : Int), 0 ≤ left → -2 ≤ x.meas left ∧ x.meas left ≤ left
  | .mk k name rest params d l, left, h => by
    rw [K.meas_eq]
    by_cases hc : 100 < (K.mk k name rest params d l).params.length ∨ 500 < (K.mk k name rest params d l).name.size ∨ 500 < (K.mk k name rest params d l).rest.size ∨ ∃ s ∈ (K.mk k name rest params d l).params, 500 < s.size
    · rw [if_pos hc]; omega
    · rw [if_neg hc]
      have h1 := w19_bd d (left - 1) (by omega)
      have h2 := meass_bd l (d.weigh p19 (left - 1)) (by omega)
      show -2 ≤ K.meass l (d.weigh p19 (left - 1)) ∧ K.meass l (d.weigh p19 (left - 1)) ≤ left
      omega
theorem meass_bd : ∀ (l : List K) (left : Int), -2 ≤ left → -2 ≤ K.meass l left ∧ K.meass l left ≤ left
  | [], left, h => by simp only [K.meass]; omega
  | x :: l, left, h => by
    rw [K.meass]
    by_cases hc : left < 0
    · rw [if_pos hc]; omega
    · rw [if_neg hc]
      have h1 := meas_bd x left (by omega)
      have h2 := meass_bd l (x.meas left) (by omega)
      omega
end
/-- What is light is small. -/
def K.Light (x : K) : Prop := x.params.length ≤ 100 ∧ x.name.size ≤ 500 ∧ x.rest.size ≤ 500 ∧ (∀ s ∈ x.params, s.size ≤ 500)
mutual
theorem meas_size : ∀ (x : K) (left : Int), 0 ≤ left → 0 ≤ x.meas left → (x.size : Int) + x.meas left ≤ left
  | .mk k name rest params d l, left, h, h0 => by
    rw [K.meas_eq] at h0 ⊢
    by_cases hc : 100 < (K.mk k name rest params d l).params.length ∨ 500 < (K.mk k name rest params d l).name.size ∨ 500 < (K.mk k name rest params d l).rest.size ∨ ∃ s ∈ (K.mk k name rest params d l).params, 500 < s.size
    · rw [if_pos hc] at h0; omega
    · rw [if_neg hc] at h0 ⊢
      have h1 := w19_bd d (left - 1) (by omega)
      have h2 := meass_size l (d.weigh p19 (left - 1)) h0
      rw [K.size_eq]
      show ((K.sizes l + 1 : Nat) : Int) + K.meass l (d.weigh p19 (left - 1)) ≤ left
      change 0 ≤ K.meass l (d.weigh p19 (left - 1)) at h0
      have h3 := meass_bd l (d.weigh p19 (left - 1)) (by omega)
      omega
theorem meass_size : ∀ (l : List K) (left : Int), 0 ≤ K.meass l left → (K.sizes l : Int) + K.meass l left ≤ left
  | [], left, h => by simp [K.meass, K.sizes]
  | x :: l, left, h => by
    rw [K.meass] at h ⊢
    rw [K.sizes]
    by_cases hc : left < 0
    · rw [if_pos hc] at h; omega
    · rw [if_neg hc] at h ⊢
      by_cases hx : x.meas left < 0
      · rw [meass_neg _ _ hx] at h; omega
      · have h1 := meas_size x left (by omega) (by omega)
        have h2 := meass_size l (x.meas left) h
        omega
end
theorem K.len_sizes : ∀ l : List K, l.length ≤ K.sizes l
  | [] => Nat.zero_le _
  | x :: l => by rw [K.sizes, List.length_cons]; have := x.size_pos; have := K.len_sizes l; omega
mutual
theorem meas_lg : ∀ (x : K) (left : Int), 0 ≤ left → left ≤ 1000000 → 0 ≤ x.meas left → x.Ok → x.Lg
  | .mk k name rest params d l, left, h, hl, h0, hok => by
    rw [K.meas_eq] at h0
    by_cases hc : 100 < (K.mk k name rest params d l).params.length ∨ 500 < (K.mk k name rest params d l).name.size ∨ 500 < (K.mk k name rest params d l).rest.size ∨ ∃ s ∈ (K.mk k name rest params d l).params, 500 < s.size
    · rw [if_pos hc] at h0; omega
    · rw [if_neg hc] at h0
      have h1 := w19_bd d (left - 1) (by omega)
      change 0 ≤ K.meass l (d.weigh p19 (left - 1)) at h0
      have h3 : 0 ≤ d.weigh p19 (left - 1) := by
        refine Int.not_lt.1 fun hn => ?_
        rw [meass_neg _ _ hn] at h0; omega
      have h4 := weigh_count p19 d (left - 1) h3
      have h5 := meass_size l _ h0
      have h6 : l.length ≤ K.sizes l := K.len_sizes l
      have h7 : params.length ≤ 100 := by
        refine Nat.not_lt.1 fun hn => hc (.inl hn)
      exact ⟨hok.1, by omega, hok.2.2.1, by omega, by omega, meass_lg l _ (by omega) h0 hok.2.2.2.2⟩
theorem meass_lg : ∀ (l : List K) (left : Int), left ≤ 1000000 → 0 ≤ K.meass l left → K.Oks l → K.Lgs l
  | [], _, _, _, _ => trivial
  | x :: l, left, hl, h, hok => by
    rw [K.meass] at h
    by_cases hc : left < 0
    · rw [if_pos hc] at h; omega
    · rw [if_neg hc] at h
      by_cases hx : x.meas left < 0
      · rw [meass_neg _ _ hx] at h; omega
      · have h1 := meas_bd x left (by omega)
        exact ⟨meas_lg x left (by omega) hl (by omega) hok.1, meass_lg l _ (by omega) h hok.2⟩
end
end Go.Proofs.YtpacdmgnpadleaaDoor
end

section
/-
  measure, heavy of layer 19.
-/
namespace Go.Proofs.YtpacdmgnpadleaaDoor
open Go Go.RowKit Go.Lib
set_option linter.unusedSimpArgs false
set_option linter.unusedVariables false
set_option maxHeartbeats 4000000
set_option maxRecDepth 100000
def M1I (x : K) (left : Int) (n : Nat) (st : St) : Prop := ∃ i : Nat, n = x.params.length - i ∧ i ≤ x.params.length ∧ (∀ j (h : j < x.params.length), j < i → x.params[j].size ≤ 500) ∧
  st = ⟨[(5, .one (.v (.int .i64 i))), (1, .one (.v (.int .i64 (left - 1)))), (2, .one (.ptr 0 1 0 0))], [some (coreOb x)]⟩
def M2I (x : K) (v : Int) (n : Nat) (st : St) : Prop := ∃ i : Nat, n = x.l.length - i ∧ i ≤ x.l.length ∧
  st = ⟨[(6, .one (.v (.int .i64 i))), (1, .one (.v (.int .i64 (K.meass (x.l.take i) v)))), (2, .one (.ptr 0 1 0 0))], [some (coreOb x)]⟩
theorem coreOb_bd (n : Nat) (x : K) : ObBd n [some (coreOb x)] := by simp [coreOb, ObBd, C.bd]
theorem meas_upto : ∀ n (x : K), x.ht ≤ n → x.Ok → ∀ left : Int, 0 ≤ left → left ≤ 1000000000 → Pure Tryd.prog 23 [.agg x.cc, .one (.v (.int .i64 left))] (.one (.v (.int .i64 (x.meas left)))) := by
  intro n
  induction n with
  | zero => intro x h; exact absurd h (by have := x.ht_pos; omega)
  | succ n ih =>
    intro x hh hok left h0 h1
    have hws : IntKind.i64.wrap (left - 1) = left - 1 := wrap64 (by omega) (by omega)
    have hlen := hok.len
    have hpl := hok.par
    have hsl := strC_len x.params
    have e1 : decide ((100 : Int) < (x.params.length : Int)) = decide (100 < x.params.length) := by apply decide_eq_decide.2; omega
    have e2 : decide ((500 : Int) < (x.name.size : Int)) = decide (500 < x.name.size) := by apply decide_eq_decide.2; omega
    have e3 : decide ((500 : Int) < (x.rest.size : Int)) = decide (500 < x.rest.size) := by apply decide_eq_decide.2; omega
    have hw := w19_pure x.d hok.d (left - 1) (by omega) (by omega)
    rw [K.meas_eq]
    rw [D.cc_eq] at hw
    rw [K.cc_eq]
    by_cases a1 : 100 < x.params.length
    · rw [if_pos (.inl a1)]
      refine Fn.intro Tryd.func23 rfl Tryd.ntmps23 Tryd.results23 (by simp only [List.length_cons, List.length_nil]; decide) ?_
      repeat (first | with_reducible (first | refine roundsA_s ?_ | refine thenA_n ?_ | refine thenA_r ?_ | refine thenA_e ?_ | refine inBlockA_n ?_ | refine inBlockA_r ?_ | refine inBlockA_s ?_ | refine inBlockA_o rfl ?_ | refine WpA.seq ?_ | refine WpA.block ?_ | refine WpA.skip ?_ | refine WpA.ret ?_ | refine WpA.exit ?_ | refine WpL.nil ?_) | ((refine WpA.cond_t ?_ ?_); focus (simp only [find, reduceIte, Nat.reduceEqDiff]; done)) | ((refine WpA.cond_f ?_ ?_); focus (simp only [find, reduceIte, Nat.reduceEqDiff]; done)) | ((with_reducible refine WpA.region ?_); (refine WpL.go _ rfl fun K9 hK9 => ?_); simp only [zz, zy, constA, runL, guardA, srcA, chunk, nilV, liveB, capsA, bndA, aop, qop, rdA, rdAs, args0, find, A.cs, St.put, fits, loadA, partC, fieldA, indexA, lenB, binV, binI, binS, unV, over, partsA, fillA, Value.oneCell', seval, fld_33_3, ty_25, len_25, elt_25, byt_25, zel_25, fld_33_1, ty_9, len_9, str_9, fld_33_2, fld_33_4, ty_31, fld_33_5, ty_22, len_22, elt_22, byt_22, zel_22, ty_33, hws, hsl, e1, a1]; (refine RunTo.mk (by first | exact trivial | omega | (simp; done) | (simp; omega)) (hK9 _ _ ?_)); clear hK9 K9))
      refine ⟨by first | exact .inl rfl | exact .inr rfl, _, _, _, _, (by simp only [resA, find, reduceIte, Nat.reduceEqDiff, loadA, partC, List.getElem?_cons_zero, List.getElem?_cons_succ, List.drop_zero, List.drop_succ_cons, List.take_succ_cons, List.take_zero, List.length_cons, List.length_nil, fld_33_3, ty_25, len_25, elt_25, byt_25, zel_25, fld_33_1, ty_9, len_9, str_9, fld_33_2, fld_33_4, ty_31, fld_33_5, ty_22, len_22, elt_22, byt_22, zel_22, ty_33]; rfl), (by first | exact trivial | (simp; done)), (by simp only [tupA, viewA, viewC, viewCs, viewAs, List.getElem?_cons_zero, List.getElem?_cons_succ]; rfl), (by first | exact trivial | (simp; done)), _, ALe.refl _, ?_⟩
      rfl
    by_cases a2 : 500 < x.name.size
    · rw [if_pos (.inr (.inl a2))]
      refine Fn.intro Tryd.func23 rfl Tryd.ntmps23 Tryd.results23 (by simp only [List.length_cons, List.length_nil]; decide) ?_
      repeat (first | with_reducible (first | refine roundsA_s ?_ | refine thenA_n ?_ | refine thenA_r ?_ | refine thenA_e ?_ | refine inBlockA_n ?_ | refine inBlockA_r ?_ | refine inBlockA_s ?_ | refine inBlockA_o rfl ?_ | refine WpA.seq ?_ | refine WpA.block ?_ | refine WpA.skip ?_ | refine WpA.ret ?_ | refine WpA.exit ?_ | refine WpL.nil ?_) | ((refine WpA.cond_t ?_ ?_); focus (simp only [find, reduceIte, Nat.reduceEqDiff]; done)) | ((refine WpA.cond_f ?_ ?_); focus (simp only [find, reduceIte, Nat.reduceEqDiff]; done)) | ((with_reducible refine WpA.region ?_); (refine WpL.go _ rfl fun K9 hK9 => ?_); simp only [zz, zy, constA, runL, guardA, srcA, chunk, nilV, liveB, capsA, bndA, aop, qop, rdA, rdAs, args0, find, A.cs, St.put, fits, loadA, partC, fieldA, indexA, lenB, binV, binI, binS, unV, over, partsA, fillA, Value.oneCell', seval, fld_33_3, ty_25, len_25, elt_25, byt_25, zel_25, fld_33_1, ty_9, len_9, str_9, fld_33_2, fld_33_4, ty_31, fld_33_5, ty_22, len_22, elt_22, byt_22, zel_22, ty_33, hws, hsl, e1, a1, e2, a2]; (refine RunTo.mk (by first | exact trivial | omega | (simp; done) | (simp; omega)) (hK9 _ _ ?_)); clear hK9 K9))
      refine ⟨by first | exact .inl rfl | exact .inr rfl, _, _, _, _, (by simp only [resA, find, reduceIte, Nat.reduceEqDiff, loadA, partC, List.getElem?_cons_zero, List.getElem?_cons_succ, List.drop_zero, List.drop_succ_cons, List.take_succ_cons, List.take_zero, List.length_cons, List.length_nil, fld_33_3, ty_25, len_25, elt_25, byt_25, zel_25, fld_33_1, ty_9, len_9, str_9, fld_33_2, fld_33_4, ty_31, fld_33_5, ty_22, len_22, elt_22, byt_22, zel_22, ty_33]; rfl), (by first | exact trivial | (simp; done)), (by simp only [tupA, viewA, viewC, viewCs, viewAs, List.getElem?_cons_zero, List.getElem?_cons_succ]; rfl), (by first | exact trivial | (simp; done)), _, ALe.refl _, ?_⟩
      rfl
    by_cases a3 : 500 < x.rest.size
    · rw [if_pos (.inr (.inr (.inl a3)))]
      refine Fn.intro Tryd.func23 rfl Tryd.ntmps23 Tryd.results23 (by simp only [List.length_cons, List.length_nil]; decide) ?_
      repeat (first | with_reducible (first | refine roundsA_s ?_ | refine thenA_n ?_ | refine thenA_r ?_ | refine thenA_e ?_ | refine inBlockA_n ?_ | refine inBlockA_r ?_ | refine inBlockA_s ?_ | refine inBlockA_o rfl ?_ | refine WpA.seq ?_ | refine WpA.block ?_ | refine WpA.skip ?_ | refine WpA.ret ?_ | refine WpA.exit ?_ | refine WpL.nil ?_) | ((refine WpA.cond_t ?_ ?_); focus (simp only [find, reduceIte, Nat.reduceEqDiff]; done)) | ((refine WpA.cond_f ?_ ?_); focus (simp only [find, reduceIte, Nat.reduceEqDiff]; done)) | ((with_reducible refine WpA.region ?_); (refine WpL.go _ rfl fun K9 hK9 => ?_); simp only [zz, zy, constA, runL, guardA, srcA, chunk, nilV, liveB, capsA, bndA, aop, qop, rdA, rdAs, args0, find, A.cs, St.put, fits, loadA, partC, fieldA, indexA, lenB, binV, binI, binS, unV, over, partsA, fillA, Value.oneCell', seval, fld_33_3, ty_25, len_25, elt_25, byt_25, zel_25, fld_33_1, ty_9, len_9, str_9, fld_33_2, fld_33_4, ty_31, fld_33_5, ty_22, len_22, elt_22, byt_22, zel_22, ty_33, hws, hsl, e1, a1, e2, a2, e3, a3]; (refine RunTo.mk (by first | exact trivial | omega | (simp; done) | (simp; omega)) (hK9 _ _ ?_)); clear hK9 K9))
      refine ⟨by first | exact .inl rfl | exact .inr rfl, _, _, _, _, (by simp only [resA, find, reduceIte, Nat.reduceEqDiff, loadA, partC, List.getElem?_cons_zero, List.getElem?_cons_succ, List.drop_zero, List.drop_succ_cons, List.take_succ_cons, List.take_zero, List.length_cons, List.length_nil, fld_33_3, ty_25, len_25, elt_25, byt_25, zel_25, fld_33_1, ty_9, len_9, str_9, fld_33_2, fld_33_4, ty_31, fld_33_5, ty_22, len_22, elt_22, byt_22, zel_22, ty_33]; rfl), (by first | exact trivial | (simp; done)), (by simp only [tupA, viewA, viewC, viewCs, viewAs, List.getElem?_cons_zero, List.getElem?_cons_succ]; rfl), (by first | exact trivial | (simp; done)), _, ALe.refl _, ?_⟩
      rfl
    refine Fn.intro Tryd.func23 rfl Tryd.ntmps23 Tryd.results23 (by simp only [List.length_cons, List.length_nil]; decide) ?_
    repeat (first | with_reducible (first | refine roundsA_s ?_ | refine thenA_n ?_ | refine thenA_r ?_ | refine thenA_e ?_ | refine inBlockA_n ?_ | refine inBlockA_r ?_ | refine inBlockA_s ?_ | refine inBlockA_o rfl ?_ | refine WpA.seq ?_ | refine WpA.block ?_ | refine WpA.skip ?_ | refine WpA.ret ?_ | refine WpA.exit ?_ | refine WpL.nil ?_) | ((refine WpA.cond_t ?_ ?_); focus (simp only [find, reduceIte, Nat.reduceEqDiff]; done)) | ((refine WpA.cond_f ?_ ?_); focus (simp only [find, reduceIte, Nat.reduceEqDiff]; done)) | ((with_reducible refine WpA.region ?_); (refine WpL.go _ rfl fun K9 hK9 => ?_); simp only [zz, zy, constA, runL, guardA, srcA, chunk, nilV, liveB, capsA, bndA, aop, qop, rdA, rdAs, args0, find, A.cs, St.put, fits, loadA, partC, fieldA, indexA, lenB, binV, binI, binS, unV, over, partsA, fillA, Value.oneCell', seval, fld_33_3, ty_25, len_25, elt_25, byt_25, zel_25, fld_33_1, ty_9, len_9, str_9, fld_33_2, fld_33_4, ty_31, fld_33_5, ty_22, len_22, elt_22, byt_22, zel_22, ty_33, hws, hsl, e1, a1, e2, a2, e3, a3]; (refine RunTo.mk (by first | exact trivial | omega | (simp; done) | (simp; omega)) (hK9 _ _ ?_)); clear hK9 K9))
    refine WpA.loop (M1I x left) x.params.length ?_ ⟨0, rfl, Nat.zero_le _, fun j _ h => absurd h (Nat.not_lt_zero _), rfl⟩ ?_
    · exact Le.drop 1 (Nat.zero_le _) rfl (by simp [Sub, find]) rfl (coreOb_bd _ _)
    intro n' st hst
    obtain ⟨i, rfl, hi, hb, rfl⟩ := hst
    have hw2 : IntKind.i64.wrap ((i : Int) + 1) = ((i + 1 : Nat) : Int) := by rw [wrap64 (by omega) (by omega)]; omega
    simp only [coreOb]
    by_cases hlt : i < x.params.length
    · have hd1 : decide ((i : Int) < (x.params.length : Int)) = true := by simp; omega
      have hget := strC_get hlt
      have e4 : decide ((500 : Int) < (x.params[i].size : Int)) = decide (500 < x.params[i].size) := by apply decide_eq_decide.2; omega
      by_cases a4 : 500 < x.params[i].size
      · rw [if_pos (.inr (.inr (.inr ⟨_, List.getElem_mem hlt, a4⟩)))]
        repeat (first | with_reducible (first | refine roundsA_s ?_ | refine thenA_n ?_ | refine thenA_r ?_ | refine thenA_e ?_ | refine inBlockA_n ?_ | refine inBlockA_r ?_ | refine inBlockA_s ?_ | refine inBlockA_o rfl ?_ | refine WpA.seq ?_ | refine WpA.block ?_ | refine WpA.skip ?_ | refine WpA.ret ?_ | refine WpA.exit ?_ | refine WpL.nil ?_) | ((refine WpA.cond_t ?_ ?_); focus (simp only [find, reduceIte, Nat.reduceEqDiff]; done)) | ((refine WpA.cond_f ?_ ?_); focus (simp only [find, reduceIte, Nat.reduceEqDiff]; done)) | ((with_reducible refine WpA.region ?_); (refine WpL.go _ rfl fun K9 hK9 => ?_); simp only [zz, zy, constA, runL, guardA, srcA, chunk, nilV, liveB, capsA, bndA, aop, qop, rdA, rdAs, args0, find, A.cs, St.put, fits, loadA, partC, fieldA, indexA, lenB, binV, binI, binS, unV, over, partsA, fillA, Value.oneCell', seval, fld_33_3, ty_25, len_25, elt_25, byt_25, zel_25, fld_33_1, ty_9, len_9, str_9, fld_33_2, fld_33_4, ty_31, fld_33_5, ty_22, len_22, elt_22, byt_22, zel_22, ty_33, hsl, hd1, hget, e4, a4]; (refine RunTo.mk (by first | exact trivial | omega | (simp; done) | (simp; omega)) (hK9 _ _ ?_)); clear hK9 K9))
        refine ⟨by first | exact .inl rfl | exact .inr rfl, _, _, _, _, (by simp only [resA, find, reduceIte, Nat.reduceEqDiff, loadA, partC, List.getElem?_cons_zero, List.getElem?_cons_succ, List.drop_zero, List.drop_succ_cons, List.take_succ_cons, List.take_zero, List.length_cons, List.length_nil, fld_33_3, ty_25, len_25, elt_25, byt_25, zel_25, fld_33_1, ty_9, len_9, str_9, fld_33_2, fld_33_4, ty_31, fld_33_5, ty_22, len_22, elt_22, byt_22, zel_22, ty_33]; rfl), (by first | exact trivial | (simp; done)), (by simp only [tupA, viewA, viewC, viewCs, viewAs, List.getElem?_cons_zero, List.getElem?_cons_succ]; rfl), (by first | exact trivial | (simp; done)), _, ALe.refl _, ?_⟩
        rfl
      · repeat (first | with_reducible (first | refine roundsA_s ?_ | refine thenA_n ?_ | refine thenA_r ?_ | refine thenA_e ?_ | refine inBlockA_n ?_ | refine inBlockA_r ?_ | refine inBlockA_s ?_ | refine inBlockA_o rfl ?_ | refine WpA.seq ?_ | refine WpA.block ?_ | refine WpA.skip ?_ | refine WpA.ret ?_ | refine WpA.exit ?_ | refine WpL.nil ?_) | ((refine WpA.cond_t ?_ ?_); focus (simp only [find, reduceIte, Nat.reduceEqDiff]; done)) | ((refine WpA.cond_f ?_ ?_); focus (simp only [find, reduceIte, Nat.reduceEqDiff]; done)) | ((with_reducible refine WpA.region ?_); (refine WpL.go _ rfl fun K9 hK9 => ?_); simp only [zz, zy, constA, runL, guardA, srcA, chunk, nilV, liveB, capsA, bndA, aop, qop, rdA, rdAs, args0, find, A.cs, St.put, fits, loadA, partC, fieldA, indexA, lenB, binV, binI, binS, unV, over, partsA, fillA, Value.oneCell', seval, fld_33_3, ty_25, len_25, elt_25, byt_25, zel_25, fld_33_1, ty_9, len_9, str_9, fld_33_2, fld_33_4, ty_31, fld_33_5, ty_22, len_22, elt_22, byt_22, zel_22, ty_33, hsl, hd1, hget, e4, a4, hw2]; (refine RunTo.mk (by first | exact trivial | omega | (simp; done) | (simp; omega)) (hK9 _ _ ?_)); clear hK9 K9))
        refine ⟨x.params.length - (i + 1), _, by omega, Le.drop 1 (Nat.zero_le _) rfl (by simp [Sub, find]) rfl (coreOb_bd _ _), i + 1, rfl, hlt, fun j hj hji => ?_, rfl⟩
        rcases Nat.lt_succ_iff_lt_or_eq.1 hji with h | rfl
        · exact hb j hj h
        · omega
    have hd0 : decide ((i : Int) < (x.params.length : Int)) = false := by simp; omega
    rw [if_neg (by
      rintro (h | h | h | ⟨s, hs, h⟩)
      · exact a1 h
      · exact a2 h
      · exact a3 h
      · obtain ⟨j, hj, rfl⟩ := List.mem_iff_getElem.1 hs
        have := hb j hj (by omega); omega)]
    repeat (first | with_reducible (first | refine roundsA_s ?_ | refine thenA_n ?_ | refine thenA_r ?_ | refine thenA_e ?_ | refine inBlockA_n ?_ | refine inBlockA_r ?_ | refine inBlockA_s ?_ | refine inBlockA_o rfl ?_ | refine WpA.seq ?_ | refine WpA.block ?_ | refine WpA.skip ?_ | refine WpA.ret ?_ | refine WpA.exit ?_ | refine WpL.nil ?_) | ((refine WpA.cond_t ?_ ?_); focus (simp only [find, reduceIte, Nat.reduceEqDiff]; done)) | ((refine WpA.cond_f ?_ ?_); focus (simp only [find, reduceIte, Nat.reduceEqDiff]; done)) | ((with_reducible refine WpA.region ?_); (refine WpL.go _ rfl fun K9 hK9 => ?_); simp only [zz, zy, constA, runL, guardA, srcA, chunk, nilV, liveB, capsA, bndA, aop, qop, rdA, rdAs, args0, find, A.cs, St.put, fits, loadA, partC, fieldA, indexA, lenB, binV, binI, binS, unV, over, partsA, fillA, Value.oneCell', seval, fld_33_3, ty_25, len_25, elt_25, byt_25, zel_25, fld_33_1, ty_9, len_9, str_9, fld_33_2, fld_33_4, ty_31, fld_33_5, ty_22, len_22, elt_22, byt_22, zel_22, ty_33, hsl, hd0]; (refine RunTo.mk (by first | exact trivial | omega | (simp; done) | (simp; omega)) (hK9 _ _ ?_)); clear hK9 K9))
    repeat (first | with_reducible (first | refine roundsA_s ?_ | refine thenA_n ?_ | refine thenA_r ?_ | refine thenA_e ?_ | refine inBlockA_n ?_ | refine inBlockA_r ?_ | refine inBlockA_s ?_ | refine inBlockA_o rfl ?_ | refine WpA.seq ?_ | refine WpA.block ?_ | refine WpA.skip ?_ | refine WpA.ret ?_ | refine WpA.exit ?_ | refine WpL.nil ?_) | ((refine WpA.cond_t ?_ ?_); focus (simp only [find, reduceIte, Nat.reduceEqDiff]; done)) | ((refine WpA.cond_f ?_ ?_); focus (simp only [find, reduceIte, Nat.reduceEqDiff]; done)) | ((with_reducible refine WpA.region ?_); (refine WpL.go _ rfl fun K9 hK9 => ?_); simp only [zz, zy, constA, runL, guardA, srcA, chunk, nilV, liveB, capsA, bndA, aop, qop, rdA, rdAs, args0, find, A.cs, St.put, fits, loadA, partC, fieldA, indexA, lenB, binV, binI, binS, unV, over, partsA, fillA, Value.oneCell', seval, fld_33_3, ty_25, len_25, elt_25, byt_25, zel_25, fld_33_1, ty_9, len_9, str_9, fld_33_2, fld_33_4, ty_31, fld_33_5, ty_22, len_22, elt_22, byt_22, zel_22, ty_33, hsl, hd0]; (refine RunTo.mk (by first | exact trivial | omega | (simp; done) | (simp; omega)) (hK9 _ _ ?_)); clear hK9 K9))
    refine WpL.call rfl (guardA_sound (P := Tryd.prog) rfl) (CallA.shut rfl rfl (by kernel_rfl) (by first | exact ALes.refl _ | (simp only [List.cons_append, List.nil_append, List.map_nil]; exact ALes.refl _)) (by first | rfl | (simp [shuts, A.shut, C.shut]; done)) (hw) ?_)
    ((refine WpL.go _ rfl fun K9 hK9 => ?_); simp only [zz, zy, constA, runL, guardA, srcA, chunk, nilV, liveB, capsA, bndA, aop, qop, rdA, rdAs, args0, find, A.cs, St.put, fits, loadA, partC, fieldA, indexA, lenB, binV, binI, binS, unV, over, partsA, fillA, Value.oneCell', seval, fld_33_3, ty_25, len_25, elt_25, byt_25, zel_25, fld_33_1, ty_9, len_9, str_9, fld_33_2, fld_33_4, ty_31, fld_33_5, ty_22, len_22, elt_22, byt_22, zel_22, ty_33]; (refine RunTo.mk (by first | exact trivial | omega | (simp; done) | (simp; omega)) (hK9 _ _ ?_)); clear hK9 K9); repeat (first | with_reducible (first | refine roundsA_s ?_ | refine thenA_n ?_ | refine thenA_r ?_ | refine thenA_e ?_ | refine inBlockA_n ?_ | refine inBlockA_r ?_ | refine inBlockA_s ?_ | refine inBlockA_o rfl ?_ | refine WpA.seq ?_ | refine WpA.block ?_ | refine WpA.skip ?_ | refine WpA.ret ?_ | refine WpA.exit ?_ | refine WpL.nil ?_) | ((refine WpA.cond_t ?_ ?_); focus (simp only [find, reduceIte, Nat.reduceEqDiff]; done)) | ((refine WpA.cond_f ?_ ?_); focus (simp only [find, reduceIte, Nat.reduceEqDiff]; done)) | ((with_reducible refine WpA.region ?_); (refine WpL.go _ rfl fun K9 hK9 => ?_); simp only [zz, zy, constA, runL, guardA, srcA, chunk, nilV, liveB, capsA, bndA, aop, qop, rdA, rdAs, args0, find, A.cs, St.put, fits, loadA, partC, fieldA, indexA, lenB, binV, binI, binS, unV, over, partsA, fillA, Value.oneCell', seval, fld_33_3, ty_25, len_25, elt_25, byt_25, zel_25, fld_33_1, ty_9, len_9, str_9, fld_33_2, fld_33_4, ty_31, fld_33_5, ty_22, len_22, elt_22, byt_22, zel_22, ty_33]; (refine RunTo.mk (by first | exact trivial | omega | (simp; done) | (simp; omega)) (hK9 _ _ ?_)); clear hK9 K9))
    have hvb := w19_bd x.d (left - 1) (by omega)
    generalize x.d.weigh p19 (left - 1) = v at *
    clear hd0 hlt hw2 hb hw
    refine WpA.loop (M2I x v) x.l.length ?_ ⟨0, rfl, Nat.zero_le _, rfl⟩ ?_
    · exact Le.drop 1 (Nat.zero_le _) rfl (by simp [Sub, find, K.meass]) rfl (coreOb_bd _ _)
    intro n' st hst
    obtain ⟨k, rfl, hk, rfl⟩ := hst
    have hw2 : IntKind.i64.wrap ((k : Int) + 1) = ((k + 1 : Nat) : Int) := by rw [wrap64 (by omega) (by omega)]; omega
    have hbd := meass_bd (x.l.take k) v (by omega)
    generalize hu : K.meass (x.l.take k) v = u at *
    simp only [coreOb]
    by_cases hlt : k < x.l.length
    · have hd1 : decide ((k : Int) < (x.l.length : Int)) = true := by simp; omega
      by_cases hn : u < 0
      · have hge : decide ((0 : Int) ≤ u) = false := by simp; omega
        have hst := meass_stop x.l v k (by rw [hu]; exact hn)
        repeat (first | with_reducible (first | refine roundsA_s ?_ | refine thenA_n ?_ | refine thenA_r ?_ | refine thenA_e ?_ | refine inBlockA_n ?_ | refine inBlockA_r ?_ | refine inBlockA_s ?_ | refine inBlockA_o rfl ?_ | refine WpA.seq ?_ | refine WpA.block ?_ | refine WpA.skip ?_ | refine WpA.ret ?_ | refine WpA.exit ?_ | refine WpL.nil ?_) | ((refine WpA.cond_t ?_ ?_); focus (simp only [find, reduceIte, Nat.reduceEqDiff]; done)) | ((refine WpA.cond_f ?_ ?_); focus (simp only [find, reduceIte, Nat.reduceEqDiff]; done)) | ((with_reducible refine WpA.region ?_); (refine WpL.go _ rfl fun K9 hK9 => ?_); simp only [zz, zy, constA, runL, guardA, srcA, chunk, nilV, liveB, capsA, bndA, aop, qop, rdA, rdAs, args0, find, A.cs, St.put, fits, loadA, partC, fieldA, indexA, lenB, binV, binI, binS, unV, over, partsA, fillA, Value.oneCell', seval, fld_33_3, ty_25, len_25, elt_25, byt_25, zel_25, fld_33_1, ty_9, len_9, str_9, fld_33_2, fld_33_4, ty_31, fld_33_5, ty_22, len_22, elt_22, byt_22, zel_22, ty_33, hd1, hge]; (refine RunTo.mk (by first | exact trivial | omega | (simp; done) | (simp; omega)) (hK9 _ _ ?_)); clear hK9 K9))
        repeat (first | with_reducible (first | refine roundsA_s ?_ | refine thenA_n ?_ | refine thenA_r ?_ | refine thenA_e ?_ | refine inBlockA_n ?_ | refine inBlockA_r ?_ | refine inBlockA_s ?_ | refine inBlockA_o rfl ?_ | refine WpA.seq ?_ | refine WpA.block ?_ | refine WpA.skip ?_ | refine WpA.ret ?_ | refine WpA.exit ?_ | refine WpL.nil ?_) | ((refine WpA.cond_t ?_ ?_); focus (simp only [find, reduceIte, Nat.reduceEqDiff]; done)) | ((refine WpA.cond_f ?_ ?_); focus (simp only [find, reduceIte, Nat.reduceEqDiff]; done)) | ((with_reducible refine WpA.region ?_); (refine WpL.go _ rfl fun K9 hK9 => ?_); simp only [zz, zy, constA, runL, guardA, srcA, chunk, nilV, liveB, capsA, bndA, aop, qop, rdA, rdAs, args0, find, A.cs, St.put, fits, loadA, partC, fieldA, indexA, lenB, binV, binI, binS, unV, over, partsA, fillA, Value.oneCell', seval, fld_33_3, ty_25, len_25, elt_25, byt_25, zel_25, fld_33_1, ty_9, len_9, str_9, fld_33_2, fld_33_4, ty_31, fld_33_5, ty_22, len_22, elt_22, byt_22, zel_22, ty_33, hd1, hge]; (refine RunTo.mk (by first | exact trivial | omega | (simp; done) | (simp; omega)) (hK9 _ _ ?_)); clear hK9 K9))
        refine ⟨by first | exact .inl rfl | exact .inr rfl, _, _, _, _, (by simp only [resA, find, reduceIte, Nat.reduceEqDiff, loadA, partC, List.getElem?_cons_zero, List.getElem?_cons_succ, List.drop_zero, List.drop_succ_cons, List.take_succ_cons, List.take_zero, List.length_cons, List.length_nil, fld_33_3, ty_25, len_25, elt_25, byt_25, zel_25, fld_33_1, ty_9, len_9, str_9, fld_33_2, fld_33_4, ty_31, fld_33_5, ty_22, len_22, elt_22, byt_22, zel_22, ty_33]; rfl), (by first | exact trivial | (simp; done)), (by simp only [tupA, viewA, viewC, viewCs, viewAs, List.getElem?_cons_zero, List.getElem?_cons_succ]; rfl), (by first | exact trivial | (simp; done)), _, ALe.refl _, ?_⟩
        rw [hst, hu]
      · have hge : decide ((0 : Int) ≤ u) = true := by simp; omega
        have hget := getK hlt
        have hc := ih x.l[k] (by have := K.ht_lt hlt; omega) (hok.get k hlt) u (by omega) (by omega)
        have hsu := meass_succ x.l v k hlt (by rw [hu]; exact hn)
        rw [K.cc_eq] at hget hc
        repeat (first | with_reducible (first | refine roundsA_s ?_ | refine thenA_n ?_ | refine thenA_r ?_ | refine thenA_e ?_ | refine inBlockA_n ?_ | refine inBlockA_r ?_ | refine inBlockA_s ?_ | refine inBlockA_o rfl ?_ | refine WpA.seq ?_ | refine WpA.block ?_ | refine WpA.skip ?_ | refine WpA.ret ?_ | refine WpA.exit ?_ | refine WpL.nil ?_) | ((refine WpA.cond_t ?_ ?_); focus (simp only [find, reduceIte, Nat.reduceEqDiff]; done)) | ((refine WpA.cond_f ?_ ?_); focus (simp only [find, reduceIte, Nat.reduceEqDiff]; done)) | ((with_reducible refine WpA.region ?_); (refine WpL.go _ rfl fun K9 hK9 => ?_); simp only [zz, zy, constA, runL, guardA, srcA, chunk, nilV, liveB, capsA, bndA, aop, qop, rdA, rdAs, args0, find, A.cs, St.put, fits, loadA, partC, fieldA, indexA, lenB, binV, binI, binS, unV, over, partsA, fillA, Value.oneCell', seval, fld_33_3, ty_25, len_25, elt_25, byt_25, zel_25, fld_33_1, ty_9, len_9, str_9, fld_33_2, fld_33_4, ty_31, fld_33_5, ty_22, len_22, elt_22, byt_22, zel_22, ty_33, hd1, hge, hget]; (refine RunTo.mk (by first | exact trivial | omega | (simp; done) | (simp; omega)) (hK9 _ _ ?_)); clear hK9 K9))
        refine WpL.call rfl (guardA_sound (P := Tryd.prog) rfl) (CallA.shut rfl rfl (by kernel_rfl) (by first | exact ALes.refl _ | (simp only [List.cons_append, List.nil_append, List.map_nil]; exact ALes.refl _)) (by first | rfl | (simp [shuts, A.shut, C.shut]; done)) (hc) ?_)
        ((refine WpL.go _ rfl fun K9 hK9 => ?_); simp only [zz, zy, constA, runL, guardA, srcA, chunk, nilV, liveB, capsA, bndA, aop, qop, rdA, rdAs, args0, find, A.cs, St.put, fits, loadA, partC, fieldA, indexA, lenB, binV, binI, binS, unV, over, partsA, fillA, Value.oneCell', seval, fld_33_3, ty_25, len_25, elt_25, byt_25, zel_25, fld_33_1, ty_9, len_9, str_9, fld_33_2, fld_33_4, ty_31, fld_33_5, ty_22, len_22, elt_22, byt_22, zel_22, ty_33, hw2]; (refine RunTo.mk (by first | exact trivial | omega | (simp; done) | (simp; omega)) (hK9 _ _ ?_)); clear hK9 K9); repeat (first | with_reducible (first | refine roundsA_s ?_ | refine thenA_n ?_ | refine thenA_r ?_ | refine thenA_e ?_ | refine inBlockA_n ?_ | refine inBlockA_r ?_ | refine inBlockA_s ?_ | refine inBlockA_o rfl ?_ | refine WpA.seq ?_ | refine WpA.block ?_ | refine WpA.skip ?_ | refine WpA.ret ?_ | refine WpA.exit ?_ | refine WpL.nil ?_) | ((refine WpA.cond_t ?_ ?_); focus (simp only [find, reduceIte, Nat.reduceEqDiff]; done)) | ((refine WpA.cond_f ?_ ?_); focus (simp only [find, reduceIte, Nat.reduceEqDiff]; done)) | ((with_reducible refine WpA.region ?_); (refine WpL.go _ rfl fun K9 hK9 => ?_); simp only [zz, zy, constA, runL, guardA, srcA, chunk, nilV, liveB, capsA, bndA, aop, qop, rdA, rdAs, args0, find, A.cs, St.put, fits, loadA, partC, fieldA, indexA, lenB, binV, binI, binS, unV, over, partsA, fillA, Value.oneCell', seval, fld_33_3, ty_25, len_25, elt_25, byt_25, zel_25, fld_33_1, ty_9, len_9, str_9, fld_33_2, fld_33_4, ty_31, fld_33_5, ty_22, len_22, elt_22, byt_22, zel_22, ty_33, hw2]; (refine RunTo.mk (by first | exact trivial | omega | (simp; done) | (simp; omega)) (hK9 _ _ ?_)); clear hK9 K9))
        refine ⟨x.l.length - (k + 1), _, by omega, ?_, k + 1, rfl, hlt, rfl⟩
        rw [hsu, hu]
        exact Le.drop 1 (Nat.zero_le _) rfl (by simp [Sub, find]) rfl (coreOb_bd _ _)
    · have hd0 : decide ((k : Int) < (x.l.length : Int)) = false := by simp; omega
      have hii : k = x.l.length := by omega
      subst hii
      repeat (first | with_reducible (first | refine roundsA_s ?_ | refine thenA_n ?_ | refine thenA_r ?_ | refine thenA_e ?_ | refine inBlockA_n ?_ | refine inBlockA_r ?_ | refine inBlockA_s ?_ | refine inBlockA_o rfl ?_ | refine WpA.seq ?_ | refine WpA.block ?_ | refine WpA.skip ?_ | refine WpA.ret ?_ | refine WpA.exit ?_ | refine WpL.nil ?_) | ((refine WpA.cond_t ?_ ?_); focus (simp only [find, reduceIte, Nat.reduceEqDiff]; done)) | ((refine WpA.cond_f ?_ ?_); focus (simp only [find, reduceIte, Nat.reduceEqDiff]; done)) | ((with_reducible refine WpA.region ?_); (refine WpL.go _ rfl fun K9 hK9 => ?_); simp only [zz, zy, constA, runL, guardA, srcA, chunk, nilV, liveB, capsA, bndA, aop, qop, rdA, rdAs, args0, find, A.cs, St.put, fits, loadA, partC, fieldA, indexA, lenB, binV, binI, binS, unV, over, partsA, fillA, Value.oneCell', seval, fld_33_3, ty_25, len_25, elt_25, byt_25, zel_25, fld_33_1, ty_9, len_9, str_9, fld_33_2, fld_33_4, ty_31, fld_33_5, ty_22, len_22, elt_22, byt_22, zel_22, ty_33, hd0]; (refine RunTo.mk (by first | exact trivial | omega | (simp; done) | (simp; omega)) (hK9 _ _ ?_)); clear hK9 K9))
      repeat (first | with_reducible (first | refine roundsA_s ?_ | refine thenA_n ?_ | refine thenA_r ?_ | refine thenA_e ?_ | refine inBlockA_n ?_ | refine inBlockA_r ?_ | refine inBlockA_s ?_ | refine inBlockA_o rfl ?_ | refine WpA.seq ?_ | refine WpA.block ?_ | refine WpA.skip ?_ | refine WpA.ret ?_ | refine WpA.exit ?_ | refine WpL.nil ?_) | ((refine WpA.cond_t ?_ ?_); focus (simp only [find, reduceIte, Nat.reduceEqDiff]; done)) | ((refine WpA.cond_f ?_ ?_); focus (simp only [find, reduceIte, Nat.reduceEqDiff]; done)) | ((with_reducible refine WpA.region ?_); (refine WpL.go _ rfl fun K9 hK9 => ?_); simp only [zz, zy, constA, runL, guardA, srcA, chunk, nilV, liveB, capsA, bndA, aop, qop, rdA, rdAs, args0, find, A.cs, St.put, fits, loadA, partC, fieldA, indexA, lenB, binV, binI, binS, unV, over, partsA, fillA, Value.oneCell', seval, fld_33_3, ty_25, len_25, elt_25, byt_25, zel_25, fld_33_1, ty_9, len_9, str_9, fld_33_2, fld_33_4, ty_31, fld_33_5, ty_22, len_22, elt_22, byt_22, zel_22, ty_33, hd0]; (refine RunTo.mk (by first | exact trivial | omega | (simp; done) | (simp; omega)) (hK9 _ _ ?_)); clear hK9 K9))
      refine ⟨by first | exact .inl rfl | exact .inr rfl, _, _, _, _, (by simp only [resA, find, reduceIte, Nat.reduceEqDiff, loadA, partC, List.getElem?_cons_zero, List.getElem?_cons_succ, List.drop_zero, List.drop_succ_cons, List.take_succ_cons, List.take_zero, List.length_cons, List.length_nil, fld_33_3, ty_25, len_25, elt_25, byt_25, zel_25, fld_33_1, ty_9, len_9, str_9, fld_33_2, fld_33_4, ty_31, fld_33_5, ty_22, len_22, elt_22, byt_22, zel_22, ty_33]; rfl), (by first | exact trivial | (simp; done)), (by simp only [tupA, viewA, viewC, viewCs, viewAs, List.getElem?_cons_zero, List.getElem?_cons_succ]; rfl), (by first | exact trivial | (simp; done)), _, ALe.refl _, ?_⟩
      rw [List.take_length] at hu
      rw [hu]
def HvI (l : List K) (n : Nat) (st : St) : Prop := ∃ i : Nat, n = l.length - i ∧ i ≤ l.length ∧
  st = ⟨[(4, .one (.v (.int .i64 i))), (3, .one (.v (.int .i64 (K.meass (l.take i) 1500)))), (0, .one (.sl 11 (l.map K.cc)))], []⟩
theorem heavy_pure (l : List K) (hok : K.Oks l) (hlen : l.length ≤ 1000000000000000) : Pure Tryd.prog 9 [.one (.sl 11 (l.map K.cc))] (.one (.v (.bool (decide (K.meass l 1500 < 0))))) := by
  refine Fn.intro Tryd.func9 rfl Tryd.ntmps9 Tryd.results9 (by simp only [List.length_cons, List.length_nil]; decide) ?_
  repeat (first | with_reducible (first | refine roundsA_s ?_ | refine thenA_n ?_ | refine thenA_r ?_ | refine thenA_e ?_ | refine inBlockA_n ?_ | refine inBlockA_r ?_ | refine inBlockA_s ?_ | refine inBlockA_o rfl ?_ | refine WpA.seq ?_ | refine WpA.block ?_ | refine WpA.skip ?_ | refine WpA.ret ?_ | refine WpA.exit ?_ | refine WpL.nil ?_) | ((refine WpA.cond_t ?_ ?_); focus (simp only [find, reduceIte, Nat.reduceEqDiff]; done)) | ((refine WpA.cond_f ?_ ?_); focus (simp only [find, reduceIte, Nat.reduceEqDiff]; done)) | ((with_reducible refine WpA.region ?_); (refine WpL.go _ rfl fun K9 hK9 => ?_); simp only [zz, zy, constA, runL, guardA, srcA, chunk, nilV, liveB, capsA, bndA, aop, qop, rdA, rdAs, args0, find, A.cs, St.put, fits, loadA, partC, fieldA, indexA, lenB, binV, binI, binS, unV, over, partsA, fillA, Value.oneCell', seval, len_22, elt_22, byt_22, zel_22, ty_33]; (refine RunTo.mk (by first | exact trivial | omega | (simp; done) | (simp; omega)) (hK9 _ _ ?_)); clear hK9 K9))
  refine WpA.loop (HvI l) l.length ?_ ⟨0, rfl, Nat.zero_le _, rfl⟩ ?_
  · exact Le.sub (by simp [Sub, find, K.meass])
  intro n' st hst
  obtain ⟨i, rfl, hi, rfl⟩ := hst
  have hw2 : IntKind.i64.wrap ((i : Int) + 1) = ((i + 1 : Nat) : Int) := by rw [wrap64 (by omega) (by omega)]; omega
  have hbd := meass_bd (l.take i) 1500 (by omega)
  generalize hu : K.meass (l.take i) 1500 = u at *
  by_cases hlt : i < l.length
  · have hd1 : decide ((i : Int) < (l.length : Int)) = true := by simp; omega
    by_cases hn : u < 0
    · have hge : decide ((0 : Int) ≤ u) = false := by simp; omega
      have hst := meass_stop l 1500 i (by rw [hu]; exact hn)
      repeat (first | with_reducible (first | refine roundsA_s ?_ | refine thenA_n ?_ | refine thenA_r ?_ | refine thenA_e ?_ | refine inBlockA_n ?_ | refine inBlockA_r ?_ | refine inBlockA_s ?_ | refine inBlockA_o rfl ?_ | refine WpA.seq ?_ | refine WpA.block ?_ | refine WpA.skip ?_ | refine WpA.ret ?_ | refine WpA.exit ?_ | refine WpL.nil ?_) | ((refine WpA.cond_t ?_ ?_); focus (simp only [find, reduceIte, Nat.reduceEqDiff]; done)) | ((refine WpA.cond_f ?_ ?_); focus (simp only [find, reduceIte, Nat.reduceEqDiff]; done)) | ((with_reducible refine WpA.region ?_); (refine WpL.go _ rfl fun K9 hK9 => ?_); simp only [zz, zy, constA, runL, guardA, srcA, chunk, nilV, liveB, capsA, bndA, aop, qop, rdA, rdAs, args0, find, A.cs, St.put, fits, loadA, partC, fieldA, indexA, lenB, binV, binI, binS, unV, over, partsA, fillA, Value.oneCell', seval, len_22, elt_22, byt_22, zel_22, ty_33, hd1, hge]; (refine RunTo.mk (by first | exact trivial | omega | (simp; done) | (simp; omega)) (hK9 _ _ ?_)); clear hK9 K9))
      repeat (first | with_reducible (first | refine roundsA_s ?_ | refine thenA_n ?_ | refine thenA_r ?_ | refine thenA_e ?_ | refine inBlockA_n ?_ | refine inBlockA_r ?_ | refine inBlockA_s ?_ | refine inBlockA_o rfl ?_ | refine WpA.seq ?_ | refine WpA.block ?_ | refine WpA.skip ?_ | refine WpA.ret ?_ | refine WpA.exit ?_ | refine WpL.nil ?_) | ((refine WpA.cond_t ?_ ?_); focus (simp only [find, reduceIte, Nat.reduceEqDiff]; done)) | ((refine WpA.cond_f ?_ ?_); focus (simp only [find, reduceIte, Nat.reduceEqDiff]; done)) | ((with_reducible refine WpA.region ?_); (refine WpL.go _ rfl fun K9 hK9 => ?_); simp only [zz, zy, constA, runL, guardA, srcA, chunk, nilV, liveB, capsA, bndA, aop, qop, rdA, rdAs, args0, find, A.cs, St.put, fits, loadA, partC, fieldA, indexA, lenB, binV, binI, binS, unV, over, partsA, fillA, Value.oneCell', seval, len_22, elt_22, byt_22, zel_22, ty_33, hd1, hge]; (refine RunTo.mk (by first | exact trivial | omega | (simp; done) | (simp; omega)) (hK9 _ _ ?_)); clear hK9 K9))
      refine ⟨by first | exact .inl rfl | exact .inr rfl, _, _, _, _, (by simp only [resA, find, reduceIte, Nat.reduceEqDiff, loadA, partC, List.getElem?_cons_zero, List.getElem?_cons_succ, List.drop_zero, List.drop_succ_cons, List.take_succ_cons, List.take_zero, List.length_cons, List.length_nil, len_22, elt_22, byt_22, zel_22, ty_33]; rfl), (by first | exact trivial | (simp; done)), (by simp only [tupA, viewA, viewC, viewCs, viewAs, List.getElem?_cons_zero, List.getElem?_cons_succ]; rfl), (by first | exact trivial | (simp; done)), _, ALe.refl _, ?_⟩
      rw [hst, hu]
    · have hge : decide ((0 : Int) ≤ u) = true := by simp; omega
      have hget := getK hlt
      have hc := meas_upto l[i].ht l[i] (Nat.le_refl _) (hok.get i hlt) u (by omega) (by omega)
      have hsu := meass_succ l 1500 i hlt (by rw [hu]; exact hn)
      rw [K.cc_eq] at hget hc
      repeat (first | with_reducible (first | refine roundsA_s ?_ | refine thenA_n ?_ | refine thenA_r ?_ | refine thenA_e ?_ | refine inBlockA_n ?_ | refine inBlockA_r ?_ | refine inBlockA_s ?_ | refine inBlockA_o rfl ?_ | refine WpA.seq ?_ | refine WpA.block ?_ | refine WpA.skip ?_ | refine WpA.ret ?_ | refine WpA.exit ?_ | refine WpL.nil ?_) | ((refine WpA.cond_t ?_ ?_); focus (simp only [find, reduceIte, Nat.reduceEqDiff]; done)) | ((refine WpA.cond_f ?_ ?_); focus (simp only [find, reduceIte, Nat.reduceEqDiff]; done)) | ((with_reducible refine WpA.region ?_); (refine WpL.go _ rfl fun K9 hK9 => ?_); simp only [zz, zy, constA, runL, guardA, srcA, chunk, nilV, liveB, capsA, bndA, aop, qop, rdA, rdAs, args0, find, A.cs, St.put, fits, loadA, partC, fieldA, indexA, lenB, binV, binI, binS, unV, over, partsA, fillA, Value.oneCell', seval, len_22, elt_22, byt_22, zel_22, ty_33, hd1, hge, hget]; (refine RunTo.mk (by first | exact trivial | omega | (simp; done) | (simp; omega)) (hK9 _ _ ?_)); clear hK9 K9))
      refine WpL.call rfl (guardA_sound (P := Tryd.prog) rfl) (CallA.shut rfl rfl (by kernel_rfl) (by first | exact ALes.refl _ | (simp only [List.cons_append, List.nil_append, List.map_nil]; exact ALes.refl _)) (by first | rfl | (simp [shuts, A.shut, C.shut]; done)) (hc) ?_)
      ((refine WpL.go _ rfl fun K9 hK9 => ?_); simp only [zz, zy, constA, runL, guardA, srcA, chunk, nilV, liveB, capsA, bndA, aop, qop, rdA, rdAs, args0, find, A.cs, St.put, fits, loadA, partC, fieldA, indexA, lenB, binV, binI, binS, unV, over, partsA, fillA, Value.oneCell', seval, len_22, elt_22, byt_22, zel_22, ty_33, hw2]; (refine RunTo.mk (by first | exact trivial | omega | (simp; done) | (simp; omega)) (hK9 _ _ ?_)); clear hK9 K9); repeat (first | with_reducible (first | refine roundsA_s ?_ | refine thenA_n ?_ | refine thenA_r ?_ | refine thenA_e ?_ | refine inBlockA_n ?_ | refine inBlockA_r ?_ | refine inBlockA_s ?_ | refine inBlockA_o rfl ?_ | refine WpA.seq ?_ | refine WpA.block ?_ | refine WpA.skip ?_ | refine WpA.ret ?_ | refine WpA.exit ?_ | refine WpL.nil ?_) | ((refine WpA.cond_t ?_ ?_); focus (simp only [find, reduceIte, Nat.reduceEqDiff]; done)) | ((refine WpA.cond_f ?_ ?_); focus (simp only [find, reduceIte, Nat.reduceEqDiff]; done)) | ((with_reducible refine WpA.region ?_); (refine WpL.go _ rfl fun K9 hK9 => ?_); simp only [zz, zy, constA, runL, guardA, srcA, chunk, nilV, liveB, capsA, bndA, aop, qop, rdA, rdAs, args0, find, A.cs, St.put, fits, loadA, partC, fieldA, indexA, lenB, binV, binI, binS, unV, over, partsA, fillA, Value.oneCell', seval, len_22, elt_22, byt_22, zel_22, ty_33, hw2]; (refine RunTo.mk (by first | exact trivial | omega | (simp; done) | (simp; omega)) (hK9 _ _ ?_)); clear hK9 K9))
      refine ⟨l.length - (i + 1), _, by omega, ?_, i + 1, rfl, hlt, rfl⟩
      rw [hsu, hu]
      exact Le.sub (by simp [Sub, find])
  · have hd0 : decide ((i : Int) < (l.length : Int)) = false := by simp; omega
    have hii : i = l.length := by omega
    subst hii
    repeat (first | with_reducible (first | refine roundsA_s ?_ | refine thenA_n ?_ | refine thenA_r ?_ | refine thenA_e ?_ | refine inBlockA_n ?_ | refine inBlockA_r ?_ | refine inBlockA_s ?_ | refine inBlockA_o rfl ?_ | refine WpA.seq ?_ | refine WpA.block ?_ | refine WpA.skip ?_ | refine WpA.ret ?_ | refine WpA.exit ?_ | refine WpL.nil ?_) | ((refine WpA.cond_t ?_ ?_); focus (simp only [find, reduceIte, Nat.reduceEqDiff]; done)) | ((refine WpA.cond_f ?_ ?_); focus (simp only [find, reduceIte, Nat.reduceEqDiff]; done)) | ((with_reducible refine WpA.region ?_); (refine WpL.go _ rfl fun K9 hK9 => ?_); simp only [zz, zy, constA, runL, guardA, srcA, chunk, nilV, liveB, capsA, bndA, aop, qop, rdA, rdAs, args0, find, A.cs, St.put, fits, loadA, partC, fieldA, indexA, lenB, binV, binI, binS, unV, over, partsA, fillA, Value.oneCell', seval, len_22, elt_22, byt_22, zel_22, ty_33, hd0]; (refine RunTo.mk (by first | exact trivial | omega | (simp; done) | (simp; omega)) (hK9 _ _ ?_)); clear hK9 K9))
    repeat (first | with_reducible (first | refine roundsA_s ?_ | refine thenA_n ?_ | refine thenA_r ?_ | refine thenA_e ?_ | refine inBlockA_n ?_ | refine inBlockA_r ?_ | refine inBlockA_s ?_ | refine inBlockA_o rfl ?_ | refine WpA.seq ?_ | refine WpA.block ?_ | refine WpA.skip ?_ | refine WpA.ret ?_ | refine WpA.exit ?_ | refine WpL.nil ?_) | ((refine WpA.cond_t ?_ ?_); focus (simp only [find, reduceIte, Nat.reduceEqDiff]; done)) | ((refine WpA.cond_f ?_ ?_); focus (simp only [find, reduceIte, Nat.reduceEqDiff]; done)) | ((with_reducible refine WpA.region ?_); (refine WpL.go _ rfl fun K9 hK9 => ?_); simp only [zz, zy, constA, runL, guardA, srcA, chunk, nilV, liveB, capsA, bndA, aop, qop, rdA, rdAs, args0, find, A.cs, St.put, fits, loadA, partC, fieldA, indexA, lenB, binV, binI, binS, unV, over, partsA, fillA, Value.oneCell', seval, len_22, elt_22, byt_22, zel_22, ty_33, hd0]; (refine RunTo.mk (by first | exact trivial | omega | (simp; done) | (simp; omega)) (hK9 _ _ ?_)); clear hK9 K9))
    refine ⟨by first | exact .inl rfl | exact .inr rfl, _, _, _, _, (by simp only [resA, find, reduceIte, Nat.reduceEqDiff, loadA, partC, List.getElem?_cons_zero, List.getElem?_cons_succ, List.drop_zero, List.drop_succ_cons, List.take_succ_cons, List.take_zero, List.length_cons, List.length_nil, len_22, elt_22, byt_22, zel_22, ty_33]; rfl), (by first | exact trivial | (simp; done)), (by simp only [tupA, viewA, viewC, viewCs, viewAs, List.getElem?_cons_zero, List.getElem?_cons_succ]; rfl), (by first | exact trivial | (simp; done)), _, ALe.refl _, ?_⟩
    rw [List.take_length] at hu
    rw [hu]
/-- What is not heavy. -/
theorem light_all {l : List K} (hok : K.Oks l) (h : ¬ K.meass l 1500 < 0) : K.Lgs l ∧ K.sizes l ≤ 1500 ∧ l.length ≤ 1500 := by
  have h1 := meass_size l 1500 (by omega)
  have h2 := K.len_sizes l
  exact ⟨meass_lg l 1500 (by omega) (by omega) hok, by omega, by omega⟩
end Go.Proofs.YtpacdmgnpadleaaDoor
end

section
/-
  The laws' example of layer 19.
-/
namespace Go.Proofs.YtpacdmgnpadleaaDoor
open Go Go.RowKit Go.Lib
set_option linter.unusedSimpArgs false
set_option linter.unusedVariables false
set_option maxHeartbeats 4000000
set_option maxRecDepth 100000
def e0 : ByteArray := ⟨#[]⟩
def kRef (s : ByteArray) : K := .mk 2 s ⟨#[]⟩ [] dZ []
def kF : K := .mk 8 ⟨#[]⟩ ⟨#[]⟩ [] dZ [kRef ⟨#[102]⟩, kRef ⟨#[98]⟩]
def kLam : K := .mk 6 ⟨#[]⟩ ⟨#[98]⟩ [⟨#[97]⟩] dZ [kF]
def rcc (s : ByteArray) : List C := [.v (.int .i64 2), .v (.string s), .v (.string ⟨#[]⟩), .sl 1 [], .v (.int .i64 0), .v (.int .i32 0), .v (.bool false), .sl 1 [], .v (.string ⟨#[]⟩), .sl 6 [], .sl 11 []]
def fcc (c : C) : List C := [.v (.int .i64 8), .v (.string ⟨#[]⟩), .v (.string ⟨#[]⟩), .sl 1 [], .v (.int .i64 0), .v (.int .i32 0), .v (.bool false), .sl 1 [], .v (.string ⟨#[]⟩), .sl 6 [], c]
def lcc (a c : C) : List C := [.v (.int .i64 6), .v (.string ⟨#[]⟩), .v (.string ⟨#[98]⟩), a, .v (.int .i64 0), .v (.int .i32 0), .v (.bool false), .sl 1 [], .v (.string ⟨#[]⟩), .sl 6 [], c]
theorem kLam_cc : [kLam].map K.cc = [lcc (.sl 1 [[.v (.string ⟨#[97]⟩)]]) (.sl 11 [fcc (.sl 11 [rcc ⟨#[102]⟩, rcc ⟨#[98]⟩])])] := by
  simp [kLam, kF, kRef, K.cc_eq, K.k, K.name, K.rest, K.params, K.d, K.l, dZ, D.k, D.c, D.neg, D.mag, D.t, D.l, strC, rcc, fcc, lcc]
theorem ne_b {a b : UInt8} (h : a ≠ b) : eqB (⟨#[a]⟩ : ByteArray) ⟨#[b]⟩ = false := eqB_neg fun e => h (by have := congrArg (fun x : ByteArray => x.data.toList) e; simpa using this)
theorem ne_e (a : UInt8) : eqB (⟨#[a]⟩ : ByteArray) ⟨#[]⟩ = false := eqB_neg fun e => by have := congrArg (fun x : ByteArray => x.data.toList) e; simp at this
theorem ne_1 {a b : UInt8} (h : a ≠ b) : (⟨#[a]⟩ : ByteArray) ≠ ⟨#[b]⟩ := fun e => h (by have := congrArg (fun x : ByteArray => x.data.toList) e; simpa using this)
theorem ne_0 (a : UInt8) : (⟨#[a]⟩ : ByteArray) ≠ ⟨#[]⟩ := fun e => by have := congrArg (fun x : ByteArray => x.data.toList) e; simp at this
theorem kRef_may (s : ByteArray) (hs : s ≠ ⟨#[]⟩) (t : Bool) : (kRef s).may t = true := by
  rw [kRef, K.may]
  rw [eqB_pos (show K.mk 2 s ⟨#[]⟩ [] dZ [] = K.bare (K.mk 2 s ⟨#[]⟩ [] dZ []) by simp [K.bare, K.k, K.name, K.rest, K.params, K.d, K.l]), eqB_neg hs]
  simp [cntB, K.k, K.l, K.mays]
theorem kLam_may : kLam.may true = true := by
  have h1 := kRef_may ⟨#[102]⟩ (ne_0 _) false
  have h2 := kRef_may ⟨#[98]⟩ (ne_0 _) false
  have h3 : kF.may false = true := by
    rw [kF, K.may]
    rw [eqB_pos (show K.mk 8 ⟨#[]⟩ ⟨#[]⟩ [] dZ [kRef ⟨#[102]⟩, kRef ⟨#[98]⟩] = K.bare (K.mk 8 ⟨#[]⟩ ⟨#[]⟩ [] dZ [kRef ⟨#[102]⟩, kRef ⟨#[98]⟩]) by simp [K.bare, K.k, K.name, K.rest, K.params, K.d, K.l])]
    simp [cntB, K.k, K.l, K.mays, h1, h2]
  rw [kLam, K.may]
  rw [eqB_pos (show K.mk 6 ⟨#[]⟩ ⟨#[98]⟩ [⟨#[97]⟩] dZ [kF] = K.bare (K.mk 6 ⟨#[]⟩ ⟨#[98]⟩ [⟨#[97]⟩] dZ [kF]) by simp [K.bare, K.k, K.name, K.rest, K.params, K.d, K.l])]
  rw [propB_pos (show VarsOk (allN (K.mk 6 ⟨#[]⟩ ⟨#[98]⟩ [⟨#[97]⟩] dZ [kF])) by
    have n1 := ne_0 97
    have n2 := ne_0 98
    have n3 := ne_1 (show (97 : UInt8) ≠ 98 by decide)
    simp [VarsOk, allN, K.rest, K.params, n1, n2, n3, Ne.symm n1, Ne.symm n2])]
  simp [cntB, K.k, K.l, K.mays, h3]
theorem kLam_code : codeN [kLam] = ⟨[⟨8, 1, 1, [1]⟩, ⟨10, 0, 0, [2, 3]⟩, ⟨3, 0, 0, []⟩, ⟨2, 0, 1, []⟩], [], [⟨#[102]⟩], [], [0]⟩ := by
  have n1 := ne_b (show (102 : UInt8) ≠ 97 by decide)
  have n2 := ne_b (show (102 : UInt8) ≠ 98 by decide)
  have n3 := ne_b (show (98 : UInt8) ≠ 97 by decide)
  have n4 := eqB_pos (rfl : (⟨#[98]⟩ : ByteArray) = ⟨#[98]⟩)
  have n5 := ne_0 98
  simp [codeN, topN, putN, Cd.with, Cd.zero, emit_eq, emits, kLam, kF, kRef, nodeN, varN, placeN, posn, scIn, allN, K.k, K.name, K.rest, K.params, K.d, K.l, ats, K.size, K.sizes, numN, addN, List.findIdx?_cons, n1, n2, n3, n4, n5]
theorem kLam_lg : K.Lgs [kLam] := by
  have hd := dZ_ok
  have hc : dZ.count < 1000000000 := by simp [dZ, D.count, cnts]
  simp [K.Lgs, K.Lg, kLam, kF, kRef, hd, hc]
theorem awake_pure : Pure Tryd.prog 10 [] (.one (.v (.bool true))) := by
  have hcp := code_pure [kLam] kLam_lg (by simp) (by simp [K.sizes, K.size, kLam, kF, kRef])
  have hca : codeA [kLam] = .tup [.agg (codeC (codeN [kLam])), .one (.v (.int .i64 0))] := by
    unfold codeA
    rw [if_pos (by simp [kLam_may])]
  rw [hca, kLam_code, kLam_cc] at hcp
  have hff : eqB (⟨#[102]⟩ : ByteArray) ⟨#[102]⟩ = true := eqB_pos rfl
  refine Fn.intro Tryd.func10 rfl Tryd.ntmps10 Tryd.results10 (by simp only [List.length_cons, List.length_nil]; decide) ?_
  repeat (first | with_reducible (first | refine roundsA_s ?_ | refine thenA_n ?_ | refine thenA_r ?_ | refine thenA_e ?_ | refine inBlockA_n ?_ | refine inBlockA_r ?_ | refine inBlockA_s ?_ | refine inBlockA_o rfl ?_ | refine WpA.seq ?_ | refine WpA.block ?_ | refine WpA.skip ?_ | refine WpA.ret ?_ | refine WpA.exit ?_ | refine WpL.nil ?_) | ((refine WpA.cond_t ?_ ?_); focus (simp only [find, reduceIte, Nat.reduceEqDiff]; done)) | ((refine WpA.cond_f ?_ ?_); focus (simp only [find, reduceIte, Nat.reduceEqDiff]; done)) | ((with_reducible refine WpA.region ?_); (refine WpL.go _ rfl fun K9 hK9 => ?_); simp only [zz, zy, constA, runL, guardA, srcA, chunk, nilV, liveB, capsA, bndA, aop, qop, rdA, rdAs, args0, find, A.cs, St.put, fits, loadA, partC, fieldA, indexA, lenB, binV, binI, binS, unV, over, partsA, fillA, Value.oneCell', seval, w10]; (refine RunTo.mk (by first | exact trivial | omega | (simp; done) | (simp; omega)) (hK9 _ _ ?_)); clear hK9 K9))
  refine WpL.le (st' := ⟨[(13, .one (.ms 4 1))], [some ⟨33, 11, [rcc ⟨#[102]⟩, rcc ⟨#[98]⟩]⟩, none, some ⟨9, 1, [[.v (.string ⟨#[97]⟩)]]⟩, some ⟨33, 11, [fcc (.ms 0 2)]⟩, some ⟨33, 11, [lcc (.ms 2 1) (.ms 3 1)]⟩]⟩) (Le.freeze (fun _ => false) (Frz.ofL ?_) ?_) ?_
  · simp only [FrzL, FzR, FzCs, rcc, fcc, lcc]
    repeat' first | exact FzC.same _ _ _ | exact FzC.nil | exact FzC.ms rfl rfl rfl | exact rfl | exact trivial | refine And.intro ?_ ?_ | (intro hz; exact absurd hz (by decide))
  · simp only [SubZ]; exact ⟨⟨_, rfl, FzA.same _ _ _⟩, trivial⟩
  refine WpL.le (st' := ⟨[(13, .one (.ms 4 1))], [none, none, none, some ⟨33, 11, [fcc (.sl 11 [rcc ⟨#[102]⟩, rcc ⟨#[98]⟩])]⟩, some ⟨33, 11, [lcc (.sl 1 [[.v (.string ⟨#[97]⟩)]]) (.ms 3 1)]⟩]⟩) (Le.freeze (fun i => i == 0 || i == 2) (Frz.ofL ?_) ?_) ?_
  · simp only [FrzL, FzR, FzCs, fcc, lcc]
    repeat' first | exact FzC.same _ _ _ | exact FzC.nil | exact FzC.ms rfl rfl rfl | exact rfl | exact trivial | refine And.intro ?_ ?_ | (intro hz; exact absurd hz (by decide)) | (intro hz ob ho; cases ho; simp [C.shut, rcc])
  · simp only [SubZ]; exact ⟨⟨_, rfl, FzA.same _ _ _⟩, trivial⟩
  refine WpL.le (st' := ⟨[(13, .one (.ms 4 1))], [none, none, none, none, some ⟨33, 11, [lcc (.sl 1 [[.v (.string ⟨#[97]⟩)]]) (.sl 11 [fcc (.sl 11 [rcc ⟨#[102]⟩, rcc ⟨#[98]⟩])])]⟩]⟩) (Le.freeze (fun i => i == 3) (Frz.ofL ?_) ?_) ?_
  · simp only [FrzL, FzR, FzCs, lcc]
    repeat' first | exact FzC.same _ _ _ | exact FzC.nil | exact FzC.ms rfl rfl rfl | exact rfl | exact trivial | refine And.intro ?_ ?_ | (intro hz; exact absurd hz (by decide)) | (intro hz ob ho; cases ho; simp [C.shut, fcc])
  · simp only [SubZ]; exact ⟨⟨_, rfl, FzA.same _ _ _⟩, trivial⟩
  refine WpL.le (st' := ⟨[(13, .one (.sl 11 [lcc (.sl 1 [[.v (.string ⟨#[97]⟩)]]) (.sl 11 [fcc (.sl 11 [rcc ⟨#[102]⟩, rcc ⟨#[98]⟩])])]))], [none, none, none, none, none]⟩) (Le.freeze (fun i => i == 4) (Frz.ofL ?_) ?_) ?_
  · simp only [FrzL, FzR, FzCs, lcc]
    repeat' first | exact FzC.same _ _ _ | exact FzC.nil | exact FzC.ms rfl rfl rfl | exact rfl | exact trivial | refine And.intro ?_ ?_ | (intro hz; exact absurd hz (by decide)) | (intro hz ob ho; cases ho; simp [C.shut, lcc])
  · simp only [SubZ]; exact ⟨⟨_, rfl, FzC.ms rfl rfl rfl⟩, trivial⟩
  refine WpL.call rfl (guardA_sound (P := Tryd.prog) rfl) (CallA.shut rfl rfl (by kernel_rfl) (by first | exact ALes.refl _ | (simp only [List.cons_append, List.nil_append, List.map_nil]; exact ALes.refl _)) (by first | rfl | (simp [shuts, A.shut, C.shut]; done)) (hcp) ?_)
  simp only [codeC, Nd.row, intC, strC, List.map_cons, List.map_nil]
  have c4 : ((4 : Nat) : Int) = 4 := rfl
  have c1 : ((1 : Nat) : Int) = 1 := rfl
  ((refine WpL.go _ rfl fun K9 hK9 => ?_); simp only [zz, zy, constA, runL, guardA, srcA, chunk, nilV, liveB, capsA, bndA, aop, qop, rdA, rdAs, args0, find, A.cs, St.put, fits, loadA, partC, fieldA, indexA, lenB, binV, binI, binS, unV, over, partsA, fillA, Value.oneCell', seval, w10, strEq, hff, c4, c1]; (refine RunTo.mk (by first | exact trivial | omega | (simp; done) | (simp; omega)) (hK9 _ _ ?_)); clear hK9 K9); repeat (first | with_reducible (first | refine roundsA_s ?_ | refine thenA_n ?_ | refine thenA_r ?_ | refine thenA_e ?_ | refine inBlockA_n ?_ | refine inBlockA_r ?_ | refine inBlockA_s ?_ | refine inBlockA_o rfl ?_ | refine WpA.seq ?_ | refine WpA.block ?_ | refine WpA.skip ?_ | refine WpA.ret ?_ | refine WpA.exit ?_ | refine WpL.nil ?_) | ((refine WpA.cond_t ?_ ?_); focus (simp only [find, reduceIte, Nat.reduceEqDiff]; done)) | ((refine WpA.cond_f ?_ ?_); focus (simp only [find, reduceIte, Nat.reduceEqDiff]; done)) | ((with_reducible refine WpA.region ?_); (refine WpL.go _ rfl fun K9 hK9 => ?_); simp only [zz, zy, constA, runL, guardA, srcA, chunk, nilV, liveB, capsA, bndA, aop, qop, rdA, rdAs, args0, find, A.cs, St.put, fits, loadA, partC, fieldA, indexA, lenB, binV, binI, binS, unV, over, partsA, fillA, Value.oneCell', seval, w10, strEq, hff, c4, c1]; (refine RunTo.mk (by first | exact trivial | omega | (simp; done) | (simp; omega)) (hK9 _ _ ?_)); clear hK9 K9))
  refine ⟨by first | exact .inl rfl | exact .inr rfl, _, _, _, _, (by simp only [resA, find, reduceIte, Nat.reduceEqDiff, loadA, partC, List.getElem?_cons_zero, List.getElem?_cons_succ, List.drop_zero, List.drop_succ_cons, List.take_succ_cons, List.take_zero, List.length_cons, List.length_nil, w10]; rfl), (by first | exact trivial | (simp; done)), (by simp only [tupA, viewA, viewC, viewCs, viewAs, List.getElem?_cons_zero, List.getElem?_cons_succ]; rfl), (by first | exact trivial | (simp; done)), _, ALe.refl _, ?_⟩
  rfl
end Go.Proofs.YtpacdmgnpadleaaDoor
end

section
/-
  What a code begins with; how much there is. No program in sight.
-/
namespace Go.Proofs.YtpacdmgnpadleaaDoor
open Go Go.RowKit Go.Lib
set_option linter.unusedSimpArgs false
set_option linter.unusedVariables false
theorem intC_get {l : List Int} {i : Nat} (h : i < l.length) : (intC l)[i]? = some [.v (.int .i64 l[i])] := by simp [intC, h]
/-- Sizes such as are compared. -/
def Cd.Bd (c : Cd) : Prop := c.nodes.length ≤ 1000000000 ∧ (∀ x ∈ c.nodes, x.l.length ≤ 1000000000) ∧ c.globals.length ≤ 1000000000 ∧ c.prims.length ≤ 1000000000 ∧ c.tops.length ≤ 1000000000
mutual
theorem emit_kids : ∀ (x : K) (c : Cd) (sc : List (List ByteArray)) (n : Nat), ∀ nd ∈ (emit x c sc n).1, nd.l.length ≤ x.size
  | .mk k name rest params d l, c, sc, n, nd, h => by
    rw [emit_eq] at h
    rw [K.size_eq]
    rcases List.mem_cons.1 h with rfl | h
    · show (ats l (n + 1)).length ≤ K.sizes l + 1
      rw [ats_len]
      have := K.len_sizes l; omega
    · have := emits_kids l _ _ _ nd h
      show _ ≤ K.sizes l + 1
      omega
theorem emits_kids : ∀ (l : List K) (c : Cd) (sc : List (List ByteArray)) (n : Nat), ∀ nd ∈ (emits l c sc n).1, nd.l.length ≤ K.sizes l
  | [], c, sc, n, nd, h => by rw [emits] at h; cases h
  | x :: l, c, sc, n, nd, h => by
    rw [emits] at h
    rw [K.sizes]
    rcases List.mem_append.1 h with h | h
    · have := emit_kids x c sc n nd h; omega
    · have := emits_kids l _ _ _ nd h; omega
end
theorem codeN_kids : ∀ (l : List K), ∀ nd ∈ (codeN l).nodes, nd.l.length ≤ K.sizes l := by
  intro l
  have key : ∀ (l : List K) (c : Cd) (m : Nat), (∀ nd ∈ c.nodes, nd.l.length ≤ m) → ∀ nd ∈ (l.foldl topN c).nodes, nd.l.length ≤ m + K.sizes l := by
    intro l
    induction l with
    | nil => intro c m h nd hn; have := h nd hn; simp [K.sizes]; exact this
    | cons x l ih =>
      intro c m h nd hn
      have := ih (topN c x) (m + x.size) (fun nd hn => by
        have hn' : nd ∈ c.nodes ++ (emit x c [] c.nodes.length).1 := hn
        rcases List.mem_append.1 hn' with h1 | h1
        · have := h nd h1; omega
        · have := emit_kids x _ _ _ nd h1; omega) nd hn
      rw [K.sizes]; omega
  have := key l .zero 0 (by simp [Cd.zero])
  simpa [codeN] using this
theorem codeN_bd (l : List K) (h : K.sizes l ≤ 900000000) : (codeN l).Bd := by
  have h1 := codeN_most l
  unfold Cd.most at h1
  have h2 := K.len_sizes l
  refine ⟨by rw [codeN_len]; omega, fun nd hn => ?_, by omega, by omega, by rw [codeN_tops]; omega⟩
  have := codeN_kids l nd hn
  omega
/-- A code begins with another one. -/
structure Cd.Pre (a b : Cd) : Prop where
  n : a.nodes <+: b.nodes
  c : a.consts <+: b.consts
  g : a.globals <+: b.globals
  p : a.prims <+: b.prims
  t : a.tops <+: b.tops
theorem Cd.Pre.refl (a : Cd) : a.Pre a := ⟨List.prefix_refl _, List.prefix_refl _, List.prefix_refl _, List.prefix_refl _, List.prefix_refl _⟩
theorem Cd.Pre.trans {a b c : Cd} (h : a.Pre b) (k : b.Pre c) : a.Pre c := ⟨h.n.trans k.n, h.c.trans k.c, h.g.trans k.g, h.p.trans k.p, h.t.trans k.t⟩
theorem addN_pre (l : List ByteArray) (s : ByteArray) : l <+: addN l s := by
  unfold addN
  split
  · exact List.prefix_refl _
  · exact List.prefix_append _ _
theorem varN_pre (c : Cd) (sc : List (List ByteArray)) (s : ByteArray) (lo gl : Int) : c.Pre (varN c sc s lo gl).2 := by
  unfold varN
  split
  · exact Cd.Pre.refl _
  · exact ⟨List.prefix_refl _, List.prefix_refl _, addN_pre _ _, List.prefix_refl _, List.prefix_refl _⟩
theorem nodeN_pre (c : Cd) (x : K) (sc : List (List ByteArray)) : c.Pre (nodeN c x sc).2 := by
  unfold nodeN
  repeat' split
  all_goals first
    | exact varN_pre _ _ _ _ _
    | exact Cd.Pre.refl _
    | exact ⟨List.prefix_refl _, List.prefix_append _ _, List.prefix_refl _, List.prefix_refl _, List.prefix_refl _⟩
    | exact ⟨List.prefix_refl _, List.prefix_refl _, List.prefix_refl _, addN_pre _ _, List.prefix_refl _⟩
mutual
theorem emit_pre : ∀ (x : K) (c : Cd) (sc : List (List ByteArray)) (n : Nat), c.Pre (emit x c sc n).2
  | .mk k name rest params d l, c, sc, n => by
    rw [emit_eq]
    exact (nodeN_pre c (.mk k name rest params d l) sc).trans (emits_pre l _ _ _)
theorem emits_pre : ∀ (l : List K) (c : Cd) (sc : List (List ByteArray)) (n : Nat), c.Pre (emits l c sc n).2
  | [], c, sc, n => by rw [emits]; exact Cd.Pre.refl _
  | x :: l, c, sc, n => by rw [emits]; exact (emit_pre x c sc n).trans (emits_pre l _ _ _)
end
theorem topN_pre (c : Cd) (x : K) : c.Pre (topN c x) := by
  have h := emit_pre x c [] c.nodes.length
  exact ⟨List.prefix_append _ _, h.c, h.g, h.p, List.prefix_append _ _⟩
theorem codeN_pre (l m : List K) : (codeN l).Pre (codeN (l ++ m)) := by
  have key : ∀ (m : List K) (c : Cd), c.Pre (m.foldl topN c) := by
    intro m
    induction m with
    | nil => intro c; exact Cd.Pre.refl _
    | cons x m ih => intro c; exact (topN_pre c x).trans (ih _)
  rw [codeN, codeN, List.foldl_append]
  exact key m _
theorem take_pre {α β : Type} {a b : List α} (f : α → β) (h : a <+: b) : (b.map f).take a.length = a.map f := by
  obtain ⟨t, rfl⟩ := h
  simp
theorem K.Lgs.app : ∀ {a b : List K}, K.Lgs a → K.Lgs b → K.Lgs (a ++ b)
  | [], b, _, h => h
  | x :: a, b, h, k => ⟨h.1, K.Lgs.app h.2 k⟩
theorem codeA_no {l : List K} (h : l.all (·.may true) = false) : codeA l = .tup [.agg (codeC .zero), .one (.v (.int .i64 1))] := by unfold codeA; rw [h]; rfl
theorem codeA_yes {l : List K} (h : l.all (·.may true) = true) : codeA l = .tup [.agg (codeC (codeN l)), .one (.v (.int .i64 0))] := by unfold codeA; rw [h]; rfl
end Go.Proofs.YtpacdmgnpadleaaDoor
end

section
/-
  A slice that is built, in a region that draws its order, and is never written: a frozen row at once. No program in sight.
-/
namespace Go.Proofs.YtpacdmgnpadleaaDoor
open Go Go.RowKit
set_option linter.unusedSimpArgs false
set_option linter.unusedVariables false
/-- Where branches come together. -/
theorem WpA.via {P : Program} {nt : Cf} {x y : Code} {Q : Exit → St → Prop} {st : St} (st' : St) (hx : WpA P nt x (thenA (fun s => Le nt s st') Q) st) (hy : WpA P nt y Q st') : WpA P nt (.seq x y) Q st :=
  WpA.seq (hx.mono fun e s h => by
    cases e with
    | normal => exact hy.le h
    | _ => exact h)
mutual
theorem Cc.bd {X : Cx} : ∀ {c : C} {u : Value}, Cc X c u → C.bd X.lk.length c = true
  | .any, u, h => rfl
  | .v x, u, h => rfl
  | .sl wd es, u, h => rfl
  | .ms loc n, u, h => by
    simp only [Cc] at h
    obtain ⟨-, l, hl, -⟩ := h
    simp only [C.bd, decide_eq_true_eq]
    exact (List.getElem?_eq_some_iff.1 hl).1
  | .ptr loc n i off, u, h => by
    simp only [Cc] at h
    obtain ⟨-, l, hl, -⟩ := h
    simp only [C.bd, decide_eq_true_eq]
    exact (List.getElem?_eq_some_iff.1 hl).1
  | .pf cs, u, h => rfl
  | .fn f caps, u, h => by
    simp only [Cc] at h
    obtain ⟨vs, -, h1⟩ := h
    simp only [C.bd]
    exact Ccs.bd h1
theorem Ccs.bd {X : Cx} : ∀ {cs : List C} {us : List Value}, Ccs X cs us → C.bds X.lk.length cs = true
  | [], us, h => rfl
  | c :: cs, us, h => by
    simp only [Ccs] at h
    obtain ⟨u, r, e, h1, h2⟩ := h
    simp only [C.bds, Bool.and_eq_true]
    exact ⟨Cc.bd h1, Ccs.bd h2⟩
end
theorem bds_all {k : Nat} : ∀ {cs : List C}, C.bds k cs = true → ∀ c ∈ cs, C.bd k c = true
  | c :: cs, h, x, hx => by
    simp only [C.bds, Bool.and_eq_true] at h
    rcases List.mem_cons.1 hx with rfl | hx
    · exact h.1
    · exact bds_all h.2 x hx
theorem StoOk.bd {H : Nat → Bool} {s : List (Option Ob)} {m : List Lo} {w : World} (hs : StoOk H s m w) {i : Nat} {ob : Ob} (h : s[i]? = some (some ob)) : ∀ c ∈ ob.es.flatten, C.bd s.length c = true := by
  have hi := (List.getElem?_eq_some_iff.1 h).1
  obtain ⟨l, hl⟩ : ∃ l, m[i]? = some l := ⟨_, List.getElem?_eq_getElem (by rw [← hs.len]; exact hi)⟩
  obtain ⟨-, -, -, -, -, vs, rest, -, -, h8⟩ := hs.ok i ob l h hl
  have := Ccs.bd h8
  rw [hs.len]
  exact bds_all this
theorem Sim.drop {H : Nat → Bool} {w0 : World} {S0 : Nat → Bool} {m0 : List Lo} {nt : Cf} {s t : List (Option Ob)} {m : List Lo} {a : Act} {w : World} (h : Sim H w0 S0 m0 nt ⟨[], s ++ t⟩ m a w) (hk : nt.n0 ≤ s.length) (hob : ∀ (i : Nat) (ob : Ob), s[i]? = some (some ob) → ∀ c ∈ ob.es.flatten, C.bd s.length c = true) :
    Sim H w0 S0 m0 nt ⟨[], s⟩ (m.take s.length) a w ∧ Keeps (vis H (s ++ t) m w) (vis H s (m.take s.length) w) := by
  have hup : ∀ (i : Nat) (ob : Ob), s[i]? = some (some ob) → i < s.length ∧ (s ++ t)[i]? = some (some ob) := fun i ob hi => by
    have := (List.getElem?_eq_some_iff.1 hi).1
    exact ⟨this, by rw [List.getElem?_append_left this]; exact hi⟩
  have hlm : ∀ (i : Nat) (l : Lo), (m.take s.length)[i]? = some l → m[i]? = some l := fun i l hi => by
    rw [List.getElem?_take] at hi
    split at hi
    · exact hi
    · cases hi
  have hsub : ∀ b, hidB (s ++ t) m b = false → hidB s (m.take s.length) b = false := fun b hp => by
    cases hc : hidB s (m.take s.length) b with
    | false => rfl
    | true =>
      obtain ⟨i, ob, l, h1, h2, h3⟩ := hidB_iff.1 hc
      rw [hidB_iff.2 ⟨i, ob, l, (hup i ob h1).2, hlm i l h2, h3⟩] at hp
      exact hp
  have hvis : Keeps (vis H (s ++ t) m w) (vis H s (m.take s.length) w) := Keeps.only fun b hp _ => by
    simp only [Bool.and_eq_true, Bool.not_eq_true'] at hp ⊢
    exact ⟨⟨hp.1, hsub b hp.2⟩, trivial⟩
  have hlen := h.sto.len
  simp only [List.length_append] at hlen
  refine ⟨⟨fun i x hx => by simp [find] at hx, h.nts, h.df, ⟨by simp; omega, fun i ob l h1 h2 => ?_, fun i j oi oj li lj h1 h2 h3 h4 e => h.sto.uniq i j oi oj li lj (hup i oi h1).2 (hup j oj h2).2 (hlm i li h3) (hlm j lj h4) e, fun i ob l h1 h2 => h.sto.nh i ob l (hup i ob h1).2 (hlm i l h2), h.sto.hlt, fun b hb => ⟨(h.sto.gb b hb).1, hsub b (h.sto.gb b hb).2.1, (h.sto.gb b hb).2.2⟩, h.sto.gl⟩, h.fr, fun i ob l h1 h2 => h.own i ob l (hup i ob h1).2 (hlm i l h2), fun i l hl => ?_, h.n0⟩, hvis⟩
  · obtain ⟨a1, a2, a3, a4, a5, vs, rest, a6, a7, a8⟩ := h.sto.ok i ob l (hup i ob h1).2 (hlm i l h2)
    exact ⟨a1, a2, a3, a4, a5, vs, rest, a6, a7, Ccs.takes hvis (bds_of (hob i ob h1)) a8⟩
  · have hi := (List.getElem?_eq_some_iff.1 hl).1
    rw [h.n0] at hi
    obtain ⟨l', k1, k2, k3⟩ := h.up i l hl
    exact ⟨l', by rw [List.getElem?_take, if_pos (by omega)]; exact k1, k2, k3⟩
theorem OpTo.mono {P : Program} {o : Oper} {ρ : Operand → Value} {w : World} {Ψ Ψ' : Value → World → Prop} (h : OpTo P o ρ w Ψ) (hm : ∀ v w', Ψ v w' → Ψ' v w') : OpTo P o ρ w Ψ' := by
  unfold OpTo at h ⊢
  revert h
  generalize (execOp ρ o).run P w = r
  intro h
  split at h
  · exact hm _ _ h
  · exact hm _ _ h
  all_goals first | exact h.mono fun e w' ⟨v, h1, h2⟩ => ⟨v, h1, hm _ _ h2⟩ | exact h
theorem OpS.frozen {P : Program} {nt : Cf} {ds : List (Option Tmp)} {o : Oper} {e : List (Nat × A)} {s : List (Option Ob)} {n wd : Nat} {ty : TypeId} {rows : List (List C)} (h : OpS P nt ds o e s (.one (.ms s.length n)) (s ++ [some ⟨ty, wd, rows⟩])) (hn : n = rows.length) (hsh : ∀ r ∈ rows, ∀ c ∈ r, C.shut c = true) : OpS P nt ds o e s (.one (.sl wd rows)) s := fun H w0 S0 m0 mm a w hs hk => by
  have h1 := h H w0 S0 m0 mm a w hs hk
  split
  · rename_i hw
    rw [if_pos hw] at h1
    refine h1.mono fun v w' ⟨mm', g1, g2, g3⟩ => ?_
    have hj : (s ++ [some (⟨ty, wd, rows⟩ : Ob)])[s.length]? = some (some ⟨ty, wd, rows⟩) := by simp
    have hf := Frz.at hj hsh
    have e1 : (s ++ [some (⟨ty, wd, rows⟩ : Ob)]).set s.length none = s ++ [none] := by simp
    rw [e1] at hf
    have hv := hf.val (x := .one (.ms s.length n)) (y := .one (.sl wd rows)) g1.sto (FzC.ms (by simp) hj hn) g3
    have hs2 : Sim H w0 S0 m0 nt ⟨[], s ++ [none]⟩ mm' a w' := ⟨fun i x hx => by simp [find] at hx, g1.nts, g1.df, hf.sto g1.sto, g1.fr, fun i ob l k1 k2 => by
      obtain ⟨-, b, k3, -⟩ := hf.get i ob k1
      exact g1.own i b l k3 k2, g1.up, g1.n0⟩
    have hn0 : nt.n0 ≤ s.length := by
      have hl := hs.sto.len
      simp only at hl
      rw [hl, ← hs.n0]
      refine Nat.le_of_not_lt fun hlt => ?_
      obtain ⟨l', k1, -⟩ := hs.up mm.length (m0[mm.length]) (List.getElem?_eq_getElem hlt)
      have := (List.getElem?_eq_some_iff.1 k1).1
      omega
    obtain ⟨q1, q2⟩ := hs2.drop hn0 (fun i ob hi => hs.sto.bd hi)
    refine ⟨_, q1, ⟨fun i l hl => ?_, g2.os, g2.tape, g2.output, g2.size, fun b hb hh => ?_⟩, ?_⟩
    · have hi := (List.getElem?_eq_some_iff.1 hl).1
      have hlen := hs.sto.len
      simp only at hlen
      obtain ⟨l', k1, k2, k3⟩ := g2.up i l hl
      exact ⟨l', by rw [List.getElem?_take, if_pos (by omega)]; exact k1, k2, k3⟩
    · obtain ⟨k1, k2⟩ := g2.block b hb hh
      refine ⟨?_, k2⟩
      cases hc : hidB s (mm'.take s.length) b with
      | false => rfl
      | true =>
        obtain ⟨i, ob, l, j1, j2, j3⟩ := hidB_iff.1 hc
        have hi := (List.getElem?_eq_some_iff.1 j1).1
        rw [List.getElem?_take, if_pos hi] at j2
        rw [hidB_iff.2 ⟨i, ob, l, by rw [List.getElem?_append_left hi]; exact j1, j2, j3⟩] at k1; cases k1
    · exact Ca.take q2 (by rfl) hv
  · rename_i hw
    rw [if_neg hw] at h1
    exact absurd h1.2 (by simp)
end Go.Proofs.YtpacdmgnpadleaaDoor
end

section
/-
  Each number of a node is within what it counts: plain.
-/
namespace Go.Proofs.YtpacdmgnpadleaaDoor
open Go Go.RowKit
set_option linter.unusedSimpArgs false
set_option linter.unusedVariables false
def NdOk (c : Cd) (nd : Nd) (ar : List Int) : Prop :=
  (nd.op = 1 → ∃ k : Nat, nd.a = k ∧ k < c.consts.length) ∧ ((nd.op = 3 ∨ nd.op = 5 ∨ nd.op = 6) → ∃ k : Nat, nd.a = k ∧ k < c.globals.length) ∧ (nd.op = 12 → ∃ k : Nat, nd.a = k ∧ k < c.prims.length) ∧ ((nd.op = 2 ∨ nd.op = 4) → ∃ (o k : Nat) (v : Int), nd.a = o ∧ nd.b = k ∧ o < ar.length ∧ ar[ar.length - 1 - o]? = some v ∧ (k : Int) < v) ∧ (nd.op = 8 → 0 ≤ nd.a ∧ nd.a ≤ 1000000 ∧ 0 ≤ nd.b ∧ nd.b ≤ 1)
def arIn (nd : Nd) (ar : List Int) : List Int := if nd.op = 8 then ar ++ [nd.a + nd.b] else ar
def Snd (c : Cd) : Nat → Nat → List Int → Prop
  | 0, _, _ => False
  | f + 1, n, ar => ∃ nd, c.nodes[n]? = some nd ∧ NdOk c nd ar ∧ ∀ (i : Nat) (h : i < nd.l.length), ∃ m : Nat, nd.l[i] = m ∧ n < m ∧ m < c.nodes.length ∧ Snd c f m (arIn nd ar)
structure LeC (a b : Cd) : Prop where
  c : a.consts.length ≤ b.consts.length
  g : a.globals.length ≤ b.globals.length
  p : a.prims.length ≤ b.prims.length
theorem Cd.Pre.le {a b : Cd} (h : a.Pre b) : LeC a b := ⟨h.c.length_le, h.g.length_le, h.p.length_le⟩
theorem LeC.trans {a b c : Cd} (h : LeC a b) (k : LeC b c) : LeC a c := ⟨Nat.le_trans h.c k.c, Nat.le_trans h.g k.g, Nat.le_trans h.p k.p⟩
def arOf (sc : List (List ByteArray)) : List Int := sc.map fun l => (l.length : Int)
theorem numN_nat (l : List ByteArray) (s : ByteArray) : ∃ k : Nat, numN l s = k ∧ k < (addN l s).length := by
  unfold numN addN
  cases h : posn l s with
  | none => exact ⟨l.length, rfl, by simp⟩
  | some k =>
    unfold posn at h
    exact ⟨k, rfl, (List.findIdx?_eq_some_iff_getElem.1 h).1⟩
theorem placeN_at (s : ByteArray) : ∀ (r : List (List ByteArray)) (o k : Nat), placeN s r = some (o, k) → ∃ h : o < r.length, k < r[o].length
  | [], o, k, h => by simp [placeN] at h
  | l :: r, o, k, h => by
    rw [placeN] at h
    cases hp : posn l s with
    | some k' =>
      rw [hp] at h
      simp only [Option.some.injEq, Prod.mk.injEq] at h
      obtain ⟨rfl, rfl⟩ := h
      unfold posn at hp
      exact ⟨by simp, by simpa using (List.findIdx?_eq_some_iff_getElem.1 hp).1⟩
    | none =>
      rw [hp] at h
      simp only at h
      cases hq : placeN s r with
      | none => rw [hq] at h; cases h
      | some ok =>
        obtain ⟨o', k'⟩ := ok
        rw [hq] at h
        simp only [Option.some.injEq, Prod.mk.injEq] at h
        obtain ⟨rfl, rfl⟩ := h
        obtain ⟨h1, h2⟩ := placeN_at s r o' k' hq
        exact ⟨by simp; omega, by simpa using h2⟩
theorem varN_ok (c e : Cd) (sc : List (List ByteArray)) (s : ByteArray) (lo gl : Int) (l : List Int) (hle : LeC (varN c sc s lo gl).2 e) (hlo : lo = 2 ∨ lo = 4 ∨ (sc = [])) (hgl : gl = 3 ∨ gl = 5 ∨ gl = 6) : NdOk e ⟨(varN c sc s lo gl).1.1, (varN c sc s lo gl).1.2.1, (varN c sc s lo gl).1.2.2, l⟩ (arOf sc) ∧ (varN c sc s lo gl).1.1 ≠ 8 := by
  unfold varN at hle ⊢
  cases hp : placeN s sc.reverse with
  | none =>
    rw [hp] at hle
    simp only at hle ⊢
    obtain ⟨k, h1, h2⟩ := numN_nat c.globals s
    have h3 := hle.g
    simp only at h3
    refine ⟨⟨fun h => ?_, fun _ => ⟨k, h1, by omega⟩, fun h => ?_, fun h => ?_, fun h => ?_⟩, ?_⟩
    all_goals (try simp only at h); omega
  | some ok =>
    obtain ⟨o, k⟩ := ok
    obtain ⟨h1, h2⟩ := placeN_at _ _ _ _ hp
    have h3 : o < sc.length := by simpa using h1
    have hlo2 : lo = 2 ∨ lo = 4 := by
      rcases hlo with h | h | h
      · exact .inl h
      · exact .inr h
      · subst h; simp at h3
    simp only
    refine ⟨⟨fun h => ?_, fun h => ?_, fun h => ?_, fun _ => ⟨o, k, ((sc.reverse[o]).length : Int), rfl, rfl, by simpa [arOf] using h3, ?_, ?_⟩, fun h => ?_⟩, ?_⟩
    any_goals first | ((try simp only at h); omega; done) | omega
    · simp only [arOf, List.length_map]
      rw [List.getElem?_map, List.getElem_reverse]
      simp [show sc.length - 1 - o < sc.length by omega]
theorem emits_at (l : List K) (c : Cd) (sc : List (List ByteArray)) (m : Nat) {i : Nat} (h : i < l.length) : ∃ c' pre post, (emits l c sc m).1 = pre ++ (emit l[i] c' sc (m + K.sizes (l.take i))).1 ++ post ∧ pre.length = K.sizes (l.take i) ∧ LeC (emit l[i] c' sc (m + K.sizes (l.take i))).2 (emits l c sc m).2 := by
  have hl : l = l.take i ++ ([l[i]] ++ l.drop (i + 1)) := by
    rw [← List.append_assoc, ← List.take_succ_eq_append_getElem h, List.take_append_drop]
  refine ⟨(emits (l.take i) c sc m).2, (emits (l.take i) c sc m).1, (emits (l.drop (i + 1)) (emit l[i] (emits (l.take i) c sc m).2 sc (m + K.sizes (l.take i))).2 sc (m + K.sizes (l.take i) + K.sizes [l[i]])).1, ?_, emits_len _ _ _ _, ?_⟩
  · conv => lhs; rw [hl, emits_append, emits_append, emits_one]
    simp only [List.append_assoc]
  · conv => rhs; rw [hl, emits_append, emits_append, emits_one]
    exact (emits_pre _ _ _ _).le
theorem emit_snd : ∀ (f : Nat) (x : K), x.ht ≤ f → x.Pk → ∀ (c e : Cd) (sc : List (List ByteArray)) (n : Nat) (pre post : List Nd), e.nodes = pre ++ (emit x c sc n).1 ++ post → pre.length = n → LeC (emit x c sc n).2 e → Snd e f n (arOf sc) := by
  intro f
  induction f with
  | zero => intro x h; exact absurd h (by have := x.ht_pos; omega)
  | succ f ih =>
    intro x hh hx c e sc n pre post hn hp hle
    have hem := emit_eq x c sc n
    have hpre : LeC (nodeN c x sc).2 e := by
      refine LeC.trans ?_ hle
      rw [hem]
      exact (emits_pre _ _ _ _).le
    have hnd : e.nodes[n]? = some ⟨(nodeN c x sc).1.1, (nodeN c x sc).1.2.1, (nodeN c x sc).1.2.2, ats x.l (n + 1)⟩ := by
      rw [hn, hem, ← hp, List.append_assoc, List.getElem?_append_right (Nat.le_refl _), Nat.sub_self]
      rfl
    have hkd := hx.kind
    have hpar := hx.par
    have hkey : NdOk e ⟨(nodeN c x sc).1.1, (nodeN c x sc).1.2.1, (nodeN c x sc).1.2.2, ats x.l (n + 1)⟩ (arOf sc) ∧ arIn ⟨(nodeN c x sc).1.1, (nodeN c x sc).1.2.1, (nodeN c x sc).1.2.2, ats x.l (n + 1)⟩ (arOf sc) = arOf (scIn x sc) := by
      have off : ∀ (p : Int × Int × Int), p.1 ≠ 8 → x.k ≠ 6 → arIn ⟨p.1, p.2.1, p.2.2, ats x.l (n + 1)⟩ (arOf sc) = arOf (scIn x sc) := fun p h1 h2 => by
        unfold arIn scIn
        rw [if_neg h1, if_neg h2]
      unfold nodeN at hpre ⊢
      by_cases k1 : x.k = 1
      · rw [if_pos k1] at hpre ⊢
        have := hpre.c
        simp only [List.length_append, List.length_cons, List.length_nil] at this
        refine ⟨⟨fun _ => ⟨_, rfl, by omega⟩, fun h => ?_, fun h => ?_, fun h => ?_, fun h => ?_⟩, off (1, _, _) (by simp) (by omega)⟩
        all_goals simp at h
      rw [if_neg k1] at hpre ⊢
      by_cases k2 : x.k = 2
      · rw [if_pos k2] at hpre ⊢
        have := varN_ok c e sc x.name 2 3 (ats x.l (n + 1)) hpre (.inl rfl) (.inl rfl)
        exact ⟨this.1, off _ this.2 (by omega)⟩
      rw [if_neg k2] at hpre ⊢
      by_cases k3 : x.k = 3
      · rw [if_pos k3] at hpre ⊢
        have := varN_ok c e sc x.name 4 5 (ats x.l (n + 1)) hpre (.inr (.inl rfl)) (.inr (.inl rfl))
        exact ⟨this.1, off _ this.2 (by omega)⟩
      rw [if_neg k3] at hpre ⊢
      by_cases k4 : x.k = 4
      · rw [if_pos k4] at hpre ⊢
        have hz : ∀ c : Cd, varN c [] x.name 0 6 = ((6, numN c.globals x.name, 0), { c with globals := addN c.globals x.name }) := fun c => rfl
        rw [hz] at hpre ⊢
        obtain ⟨k, h1, h2⟩ := numN_nat c.globals x.name
        have h3 := hpre.g
        simp only at h3
        refine ⟨⟨fun h => ?_, fun _ => ⟨k, h1, by omega⟩, fun h => ?_, fun h => ?_, fun h => ?_⟩, off (6, _, _) (by simp) (by omega)⟩
        all_goals simp at h
      rw [if_neg k4] at hpre ⊢
      by_cases k5 : x.k = 5
      · rw [if_pos k5]
        refine ⟨⟨fun h => ?_, fun h => ?_, fun h => ?_, fun h => ?_, fun h => ?_⟩, off (7, _, _) (by simp) (by omega)⟩
        all_goals simp at h
      rw [if_neg k5] at hpre ⊢
      by_cases k6 : x.k = 6
      · rw [if_pos k6]
        have hr : (0 : Int) ≤ (if x.rest = ⟨#[]⟩ then 0 else 1) ∧ (if x.rest = ⟨#[]⟩ then 0 else 1 : Int) ≤ 1 := by split <;> omega
        refine ⟨⟨fun h => ?_, fun h => ?_, fun h => ?_, fun h => ?_, fun _ => ⟨by simp, by simp only; omega, hr.1, hr.2⟩⟩, ?_⟩
        any_goals simp at h
        unfold arIn scIn
        rw [if_pos rfl, if_pos k6]
        simp only [arOf, List.map_append, List.map_cons, List.map_nil]
        have : (x.params.length : Int) + (if x.rest = ⟨#[]⟩ then 0 else 1) = ((allN x).length : Int) := by
          unfold allN
          split <;> simp
        rw [this]
      rw [if_neg k6] at hpre ⊢
      by_cases k7 : x.k = 7
      · rw [if_pos k7]
        refine ⟨⟨fun h => ?_, fun h => ?_, fun h => ?_, fun h => ?_, fun h => ?_⟩, off (9, _, _) (by simp) (by omega)⟩
        all_goals simp at h
      rw [if_neg k7] at hpre ⊢
      by_cases k8 : x.k = 8
      · rw [if_pos k8]
        refine ⟨⟨fun h => ?_, fun h => ?_, fun h => ?_, fun h => ?_, fun h => ?_⟩, off (10, _, _) (by simp) (by omega)⟩
        all_goals simp at h
      rw [if_neg k8] at hpre ⊢
      by_cases k9 : x.k = 9
      · rw [if_pos k9]
        refine ⟨⟨fun h => ?_, fun h => ?_, fun h => ?_, fun h => ?_, fun h => ?_⟩, off (11, _, _) (by simp) (by omega)⟩
        all_goals simp at h
      rw [if_neg k9] at hpre ⊢
      obtain ⟨k, h1, h2⟩ := numN_nat c.prims x.name
      have h3 := hpre.p
      simp only at h3
      refine ⟨⟨fun h => ?_, fun h => ?_, fun _ => ⟨k, h1, by omega⟩, fun h => ?_, fun h => ?_⟩, off (12, _, _) (by simp) (by omega)⟩
      all_goals simp at h
    refine ⟨_, hnd, hkey.1, fun i hi => ?_⟩
    simp only [ats_len] at hi
    rw [hkey.2]
    obtain ⟨c', pre', post', h1, h2, h3⟩ := emits_at x.l (nodeN c x sc).2 (scIn x sc) (n + 1) hi
    have hval : (ats x.l (n + 1))[i]'(by rw [ats_len]; exact hi) = ((n + 1 + K.sizes (x.l.take i) : Nat) : Int) := by
      have h4 := ats_take hi (n + 1)
      have h5 : (ats (x.l.take (i + 1)) (n + 1))[i]? = some ((n + 1 + K.sizes (x.l.take i) : Nat) : Int) := by
        rw [h4, List.getElem?_append_right (by rw [ats_len, List.length_take]; omega), ats_len, List.length_take, Nat.min_eq_left (by omega), Nat.sub_self]; rfl
      have h6 : ats x.l (n + 1) = ats (x.l.take (i + 1)) (n + 1) ++ ats (x.l.drop (i + 1)) (n + 1 + K.sizes (x.l.take (i + 1))) := by
        rw [← ats_append, List.take_append_drop]
      have h7 : (ats x.l (n + 1))[i]? = some ((n + 1 + K.sizes (x.l.take i) : Nat) : Int) := by
        rw [h6, List.getElem?_append_left (by rw [ats_len, List.length_take]; omega)]
        exact h5
      exact Option.some.inj ((List.getElem?_eq_getElem _).symm.trans h7)
    have hnodes : e.nodes = (pre ++ ⟨(nodeN c x sc).1.1, (nodeN c x sc).1.2.1, (nodeN c x sc).1.2.2, ats x.l (n + 1)⟩ :: pre') ++ (emit x.l[i] c' (scIn x sc) (n + 1 + K.sizes (x.l.take i))).1 ++ (post' ++ post) := by
      rw [hn, hem]
      simp only [h1, List.append_assoc, List.cons_append]
    have hlen : n + 1 + K.sizes (x.l.take i) < e.nodes.length := by
      rw [hnodes]
      simp only [List.length_append, List.length_cons, emit_len, h2]
      have := x.l[i].size_pos
      omega
    refine ⟨n + 1 + K.sizes (x.l.take i), hval, by omega, hlen, ih x.l[i] (by have := K.ht_lt hi; omega) (hx.get i hi) c' e (scIn x sc) _ _ _ hnodes (by simp [h2]; omega) (h3.trans ?_)⟩
    refine LeC.trans ?_ hle
    rw [hem]
    exact ⟨Nat.le_refl _, Nat.le_refl _, Nat.le_refl _⟩
end Go.Proofs.YtpacdmgnpadleaaDoor
end
