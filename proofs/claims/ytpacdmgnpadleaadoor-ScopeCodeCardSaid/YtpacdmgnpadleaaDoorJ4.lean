/-
 Laid together: SameK, RMayK, RCode19, LawCode.
-/
import Derived.Test.YtpacdmgnpadleaaDoorG8
import Derived.Test.YtpacdmgnpadleaaDoorG3
import Derived.Test.YtpacdmgnpadleaaDoorSame3
import Derived.Test.YtpacdmgnpadleaaDoorG7
import Derived.Test.YtpacdmgnpadleaaDoorJ2
import Derived.Test.YtpacdmgnpadleaaDoorJ3
section
namespace Go.Proofs.YtpacdmgnpadleaaDoor
open Go Go.RowKit Go.Lib
set_option linter.unusedSimpArgs false
set_option linter.unusedVariables false
set_option maxHeartbeats 4000000
set_option maxRecDepth 100000
theorem rsame_pure (a b : D) : Pure Tryd.prog 31 [.agg a.cc, .agg b.cc] (.one (.v (.bool (eqB a b)))) := by
 refine pure_old_v rfl fun w vs hg hv => ?_
 obtain ⟨v, u, rfl, hv1, hu1⟩ := hv.two
 exact rsame_any a b w v u hv1.isD hu1.isD
theorem K.ext6 {a b : K} (h1 : a.k = b.k) (h2 : a.name = b.name) (h3 : a.rest = b.rest) (h4 : a.d = b.d) (h5 : a.params = b.params) (h6 : a.l = b.l) : a = b := by
 cases a; cases b; simp only [K.k, K.name, K.rest, K.d, K.params, K.l] at *; simp_all
def Sk1 (a b : K) (n : Nat) (st : St) : Prop := ∃ i : Nat, n = a.params.length - i ∧ i ≤ a.params.length ∧ a.params.take i = b.params.take i ∧
 st = ⟨[(5, .one (.v (.int .i64 i))), (2, .one (.ptr 0 1 0 0)), (3, .one (.ptr 1 1 0 0))], [some (coreOb a), some (coreOb b)]⟩
def Sk2 (a b : K) (n : Nat) (st : St) : Prop := ∃ i : Nat, n = a.l.length - i ∧ i ≤ a.l.length ∧ a.l.take i = b.l.take i ∧
 st = ⟨[(6, .one (.v (.int .i64 i))), (2, .one (.ptr 0 1 0 0)), (3, .one (.ptr 1 1 0 0))], [some (coreOb a), some (coreOb b)]⟩
theorem co2_bd (n : Nat) (a b : K) : ObBd n [some (coreOb a), some (coreOb b)] := by simp [coreOb, ObBd, C.bd]
theorem sameK_upto : ∀ n (a : K), a.ht ≤ n → a.Ok → ∀ b : K, Pure Tryd.prog 16 [.agg a.cc, .agg b.cc] (.one (.v (.bool (eqB a b)))) := by
 intro n
 induction n with
 | zero => intro a h; exact absurd h (by have := a.ht_pos; omega)
 | succ n ih =>
  intro a hh hok b
  have hfin : a ≠ b → eqB a b = false := fun h => eqB_neg h
  have hpa := strC_len a.params
  have hpb := strC_len b.params
  have hlen := hok.len
  have hpl := hok.par
  have hd := rsame_pure a.d b.d
  rw [D.cc_eq a.d, D.cc_eq b.d] at hd
  rw [K.cc_eq a, K.cc_eq b]
  by_cases q1 : a.k = b.k
  case neg =>
   have f1 := eqB_neg q1
   rw [hfin fun e => q1 (by rw [e])]
   refine Fn.intro Tryd.func16 rfl Tryd.ntmps16 Tryd.results16 (by simp only [List.length_cons, List.length_nil]; decide) ?_
   repeat (first | (apply fw; (with_reducible constructor) <;> rfl) | (apply WpA.cd; constructor) | ((first | with_reducible refine WpA.go _ rfl fun Y y => ?_ | apply RunTo.id); simp only [zb, seval, w16, intEq, intNe, strEq, strNe, f1]; refine RunTo.fn y (by first | (simp; done) | omega | (simp; omega)) ?_; clear y Y))
   refine ⟨by simp, _, _, _, _, (by simp only [zb, seval, w16]; rfl), (by simp), (by simp only [zv]; rfl), (by simp), _, ALe.refl _, ?_⟩
   rfl
  have f1 := eqB_pos q1
  by_cases q2 : a.name = b.name
  case neg =>
   have f2 := eqB_neg q2
   rw [hfin fun e => q2 (by rw [e])]
   refine Fn.intro Tryd.func16 rfl Tryd.ntmps16 Tryd.results16 (by simp only [List.length_cons, List.length_nil]; decide) ?_
   repeat (first | (apply fw; (with_reducible constructor) <;> rfl) | (apply WpA.cd; constructor) | ((first | with_reducible refine WpA.go _ rfl fun Y y => ?_ | apply RunTo.id); simp only [zb, seval, w16, intEq, intNe, strEq, strNe, f1, f2]; refine RunTo.fn y (by first | (simp; done) | omega | (simp; omega)) ?_; clear y Y))
   refine ⟨by simp, _, _, _, _, (by simp only [zb, seval, w16]; rfl), (by simp), (by simp only [zv]; rfl), (by simp), _, ALe.refl _, ?_⟩
   rfl
  have f2 := eqB_pos q2
  by_cases q3 : a.rest = b.rest
  case neg =>
   have f3 := eqB_neg q3
   rw [hfin fun e => q3 (by rw [e])]
   refine Fn.intro Tryd.func16 rfl Tryd.ntmps16 Tryd.results16 (by simp only [List.length_cons, List.length_nil]; decide) ?_
   repeat (first | (apply fw; (with_reducible constructor) <;> rfl) | (apply WpA.cd; constructor) | ((first | with_reducible refine WpA.go _ rfl fun Y y => ?_ | apply RunTo.id); simp only [zb, seval, w16, intEq, intNe, strEq, strNe, f1, f2, f3]; refine RunTo.fn y (by first | (simp; done) | omega | (simp; omega)) ?_; clear y Y))
   refine ⟨by simp, _, _, _, _, (by simp only [zb, seval, w16]; rfl), (by simp), (by simp only [zv]; rfl), (by simp), _, ALe.refl _, ?_⟩
   rfl
  have f3 := eqB_pos q3
  by_cases q4 : a.d = b.d
  case neg =>
   rw [eqB_neg q4] at hd
   rw [hfin fun e => q4 (by rw [e])]
   refine Fn.intro Tryd.func16 rfl Tryd.ntmps16 Tryd.results16 (by simp only [List.length_cons, List.length_nil]; decide) ?_
   repeat (first | (apply fw; (with_reducible constructor) <;> rfl) | (apply WpA.cd; constructor) | ((first | with_reducible refine WpA.go _ rfl fun Y y => ?_ | apply RunTo.id); simp only [zb, seval, w16, intEq, intNe, strEq, strNe, f1, f2, f3]; refine RunTo.fn y (by first | (simp; done) | omega | (simp; omega)) ?_; clear y Y))
   refine WpL.call rfl (guardA_sound (P := Tryd.prog) rfl) (CallA.shut rfl rfl (by kernel_rfl) (ALes.refl _) (by first | rfl | simp [shuts, A.shut, C.shut]) (hd) ?_)
   (refine WpL.go _ rfl fun Y y => ?_); repeat (first | (apply fw; (with_reducible constructor) <;> rfl) | (apply WpA.cd; constructor) | ((first | with_reducible refine WpA.go _ rfl fun Y y => ?_ | apply RunTo.id); simp only [zb, seval, w16]; refine RunTo.fn y (by first | (simp; done) | omega | (simp; omega)) ?_; clear y Y))
   refine ⟨by simp, _, _, _, _, (by simp only [zb, seval, w16]; rfl), (by simp), (by simp only [zv]; rfl), (by simp), _, ALe.refl _, ?_⟩
   rfl
  rw [eqB_pos q4] at hd
  by_cases q5 : a.params.length = b.params.length
  case neg =>
   have f5 : eqB (a.params.length : Int) (b.params.length : Int) = false := eqB_neg fun e => q5 (by omega)
   rw [hfin fun e => q5 (by rw [e])]
   refine Fn.intro Tryd.func16 rfl Tryd.ntmps16 Tryd.results16 (by simp only [List.length_cons, List.length_nil]; decide) ?_
   repeat (first | (apply fw; (with_reducible constructor) <;> rfl) | (apply WpA.cd; constructor) | ((first | with_reducible refine WpA.go _ rfl fun Y y => ?_ | apply RunTo.id); simp only [zb, seval, w16, intEq, intNe, strEq, strNe, f1, f2, f3]; refine RunTo.fn y (by first | (simp; done) | omega | (simp; omega)) ?_; clear y Y))
   refine WpL.call rfl (guardA_sound (P := Tryd.prog) rfl) (CallA.shut rfl rfl (by kernel_rfl) (ALes.refl _) (by first | rfl | simp [shuts, A.shut, C.shut]) (hd) ?_)
   (refine WpL.go _ rfl fun Y y => ?_); repeat (first | (apply fw; (with_reducible constructor) <;> rfl) | (apply WpA.cd; constructor) | ((first | with_reducible refine WpA.go _ rfl fun Y y => ?_ | apply RunTo.id); simp only [zb, seval, w16, hpa, hpb, intEq, intNe, f5]; refine RunTo.fn y (by first | (simp; done) | omega | (simp; omega)) ?_; clear y Y))
   refine ⟨by simp, _, _, _, _, (by simp only [zb, seval, w16]; rfl), (by simp), (by simp only [zv]; rfl), (by simp), _, ALe.refl _, ?_⟩
   rfl
  have f5 : eqB (a.params.length : Int) (b.params.length : Int) = true := eqB_pos (by rw [q5])
  by_cases q6 : a.l.length = b.l.length
  case neg =>
   have f6 : eqB (a.l.length : Int) (b.l.length : Int) = false := eqB_neg fun e => q6 (by omega)
   rw [hfin fun e => q6 (by rw [e])]
   refine Fn.intro Tryd.func16 rfl Tryd.ntmps16 Tryd.results16 (by simp only [List.length_cons, List.length_nil]; decide) ?_
   repeat (first | (apply fw; (with_reducible constructor) <;> rfl) | (apply WpA.cd; constructor) | ((first | with_reducible refine WpA.go _ rfl fun Y y => ?_ | apply RunTo.id); simp only [zb, seval, w16, intEq, intNe, strEq, strNe, f1, f2, f3]; refine RunTo.fn y (by first | (simp; done) | omega | (simp; omega)) ?_; clear y Y))
   refine WpL.call rfl (guardA_sound (P := Tryd.prog) rfl) (CallA.shut rfl rfl (by kernel_rfl) (ALes.refl _) (by first | rfl | simp [shuts, A.shut, C.shut]) (hd) ?_)
   (refine WpL.go _ rfl fun Y y => ?_); repeat (first | (apply fw; (with_reducible constructor) <;> rfl) | (apply WpA.cd; constructor) | ((first | with_reducible refine WpA.go _ rfl fun Y y => ?_ | apply RunTo.id); simp only [zb, seval, w16, hpa, hpb, intEq, intNe, f5, f6]; refine RunTo.fn y (by first | (simp; done) | omega | (simp; omega)) ?_; clear y Y))
   refine ⟨by simp, _, _, _, _, (by simp only [zb, seval, w16]; rfl), (by simp), (by simp only [zv]; rfl), (by simp), _, ALe.refl _, ?_⟩
   rfl
  have f6 : eqB (a.l.length : Int) (b.l.length : Int) = true := eqB_pos (by rw [q6])
  refine Fn.intro Tryd.func16 rfl Tryd.ntmps16 Tryd.results16 (by simp only [List.length_cons, List.length_nil]; decide) ?_
  repeat (first | (apply fw; (with_reducible constructor) <;> rfl) | (apply WpA.cd; constructor) | ((first | with_reducible refine WpA.go _ rfl fun Y y => ?_ | apply RunTo.id); simp only [zb, seval, w16, intEq, intNe, strEq, strNe, f1, f2, f3]; refine RunTo.fn y (by first | (simp; done) | omega | (simp; omega)) ?_; clear y Y))
  refine WpL.call rfl (guardA_sound (P := Tryd.prog) rfl) (CallA.shut rfl rfl (by kernel_rfl) (ALes.refl _) (by first | rfl | simp [shuts, A.shut, C.shut]) (hd) ?_)
  (refine WpL.go _ rfl fun Y y => ?_); repeat (first | (apply fw; (with_reducible constructor) <;> rfl) | (apply WpA.cd; constructor) | ((first | with_reducible refine WpA.go _ rfl fun Y y => ?_ | apply RunTo.id); simp only [zb, seval, w16, hpa, hpb, intEq, intNe, f5, f6]; refine RunTo.fn y (by first | (simp; done) | omega | (simp; omega)) ?_; clear y Y))
  refine WpA.loop (Sk1 a b) a.params.length ?_ ⟨0, rfl, Nat.zero_le _, rfl, rfl⟩ ?_
  ·exact Le.drop 2 (Nat.zero_le _) rfl (by simp [Sub, find]) rfl (co2_bd _ _ _)
  clear f1 f2 f3 f5 f6 hd
  intro n' st hst
  obtain ⟨i, rfl, hi, hb, rfl⟩ := hst
  have hw2 : IntKind.i64.wrap ((i : Int) + 1) = ((i + 1 : Nat) : Int) := by rw [wrap64 (by omega) (by omega)]; omega
  simp only [coreOb]
  by_cases hlt : i < a.params.length
  ·have hd1 : decide ((i : Int) < (a.params.length : Int)) = true := by simp; omega
   have hga := strC_get hlt
   have hgb := strC_get (l := b.params) (i := i) (by omega)
   by_cases he : a.params[i] = b.params[i]
   ·have hee := eqB_pos he
    repeat (first | (apply fw; (with_reducible constructor) <;> rfl) | (apply WpA.cd; constructor) | ((first | with_reducible refine WpA.go _ rfl fun Y y => ?_ | apply RunTo.id); simp only [zb, seval, w16, hpa, hd1]; refine RunTo.fn y (by first | (simp; done) | omega | (simp; omega)) ?_; clear y Y))
    (refine WpA.draw0 11 _ _ _ rfl rfl rfl (by kernel_rfl) (by kernel_rfl) (by kernel_rfl) fun K8 hK8 => ?_); simp only [zz] at hK8 ⊢; (refine Draw0.go fun K7 hK7 => ?_); simp only [zb, seval, w16, hga, hgb, strEq, strNe, hee, hw2]; (refine RunQ.mk (by first | (simp; done) | omega | (simp; omega)) (hK7 _ _ ?_)); clear hK7 K7; (try ((refine Draw0.nil (hK8 _ ?_)); clear hK8 K8; (refine WpL.go _ rfl fun Y y => ?_); repeat (first | (apply fw; (with_reducible constructor) <;> rfl) | (apply WpA.cd; constructor) | ((first | with_reducible refine WpA.go _ rfl fun Y y => ?_ | apply RunTo.id); simp only [zb, seval, w16, hga, hgb, strEq, strNe, hee, hw2]; refine RunTo.fn y (by first | (simp; done) | omega | (simp; omega)) ?_; clear y Y))))
    refine ⟨a.params.length - (i + 1), _, by omega, Le.drop 2 (Nat.zero_le _) rfl (by simp [Sub, find]) rfl (co2_bd _ _ _), i + 1, rfl, hlt, ?_, rfl⟩
    rw [List.take_succ_eq_append_getElem hlt, List.take_succ_eq_append_getElem (by omega), hb, he]
   ·have hee := eqB_neg he
    rw [hfin fun e => he (by simp [e])]
    repeat (first | (apply fw; (with_reducible constructor) <;> rfl) | (apply WpA.cd; constructor) | ((first | with_reducible refine WpA.go _ rfl fun Y y => ?_ | apply RunTo.id); simp only [zb, seval, w16, hpa, hd1]; refine RunTo.fn y (by first | (simp; done) | omega | (simp; omega)) ?_; clear y Y))
    (refine WpA.draw0 11 _ _ _ rfl rfl rfl (by kernel_rfl) (by kernel_rfl) (by kernel_rfl) fun K8 hK8 => ?_); simp only [zz] at hK8 ⊢; (refine Draw0.go fun K7 hK7 => ?_); simp only [zb, seval, w16, hga, hgb, strEq, strNe, hee, hw2]; (refine RunQ.mk (by first | (simp; done) | omega | (simp; omega)) (hK7 _ _ ?_)); clear hK7 K7; (try ((refine Draw0.nil (hK8 _ ?_)); clear hK8 K8; (refine WpL.go _ rfl fun Y y => ?_); repeat (first | (apply fw; (with_reducible constructor) <;> rfl) | (apply WpA.cd; constructor) | ((first | with_reducible refine WpA.go _ rfl fun Y y => ?_ | apply RunTo.id); simp only [zb, seval, w16, hga, hgb, strEq, strNe, hee, hw2]; refine RunTo.fn y (by first | (simp; done) | omega | (simp; omega)) ?_; clear y Y))))
    refine ⟨by simp, _, _, _, _, (by simp only [zb, seval, w16]; rfl), (by simp), (by simp only [zv]; rfl), (by simp), _, ALe.refl _, ?_⟩
    rfl
  have hd0 : decide ((i : Int) < (a.params.length : Int)) = false := by simp; omega
  have hpp : a.params = b.params := by
   have hii : i = a.params.length := by omega
   rw [hii, List.take_length, q5, List.take_length] at hb; exact hb
  repeat (first | (apply fw; (with_reducible constructor) <;> rfl) | (apply WpA.cd; constructor) | ((first | with_reducible refine WpA.go _ rfl fun Y y => ?_ | apply RunTo.id); simp only [zb, seval, w16, hpa, hd0]; refine RunTo.fn y (by first | (simp; done) | omega | (simp; omega)) ?_; clear y Y))
  repeat (first | (apply fw; (with_reducible constructor) <;> rfl) | (apply WpA.cd; constructor) | ((first | with_reducible refine WpA.go _ rfl fun Y y => ?_ | apply RunTo.id); simp only [zb, seval, w16, hpa, hd0]; refine RunTo.fn y (by first | (simp; done) | omega | (simp; omega)) ?_; clear y Y))
  refine WpA.loop (Sk2 a b) a.l.length ?_ ⟨0, rfl, Nat.zero_le _, rfl, rfl⟩ ?_
  ·exact Le.drop 2 (Nat.zero_le _) rfl (by simp [Sub, find]) rfl (co2_bd _ _ _)
  clear hd0 hlt hb hi hw2
  intro n' st hst
  obtain ⟨j, rfl, hj, hb, rfl⟩ := hst
  have hw2 : IntKind.i64.wrap ((j : Int) + 1) = ((j + 1 : Nat) : Int) := by rw [wrap64 (by omega) (by omega)]; omega
  simp only [coreOb]
  by_cases hlt : j < a.l.length
  ·have hd1 : decide ((j : Int) < (a.l.length : Int)) = true := by simp; omega
   have hga := getK hlt
   have hgb := getK (l := b.l) (i := j) (by omega)
   have hc := ih a.l[j] (by have := K.ht_lt hlt; omega) (hok.get j hlt) b.l[j]
   rw [K.cc_eq] at hga hgb
   rw [K.cc_eq a.l[j], K.cc_eq b.l[j]] at hc
   by_cases he : a.l[j] = b.l[j]
   ·rw [eqB_pos he] at hc
    repeat (first | (apply fw; (with_reducible constructor) <;> rfl) | (apply WpA.cd; constructor) | ((first | with_reducible refine WpA.go _ rfl fun Y y => ?_ | apply RunTo.id); simp only [zb, seval, w16, hd1]; refine RunTo.fn y (by first | (simp; done) | omega | (simp; omega)) ?_; clear y Y))
    (refine WpA.draw0 12 _ _ _ rfl rfl rfl (by kernel_rfl) (by kernel_rfl) (by kernel_rfl) fun K8 hK8 => ?_); simp only [zz] at hK8 ⊢; (refine Draw0.go fun K7 hK7 => ?_); simp only [zb, seval, w16, hga, hgb]; (refine RunQ.mk (by first | (simp; done) | omega | (simp; omega)) (hK7 _ _ ?_)); clear hK7 K7; (try ((refine Draw0.nil (hK8 _ ?_)); clear hK8 K8; (refine WpL.go _ rfl fun Y y => ?_); repeat (first | (apply fw; (with_reducible constructor) <;> rfl) | (apply WpA.cd; constructor) | ((first | with_reducible refine WpA.go _ rfl fun Y y => ?_ | apply RunTo.id); simp only [zb, seval, w16, hga, hgb]; refine RunTo.fn y (by first | (simp; done) | omega | (simp; omega)) ?_; clear y Y))))
    refine Draw0.step (OpS.shut rfl rfl rfl (by kernel_rfl) (ALes.refl _) (by first | rfl | simp [shuts, A.shut, C.shut]) (hc)) ?_
    (refine Draw0.go fun K7 hK7 => ?_); simp only [zb, seval, w16, hw2]; (refine RunQ.mk (by first | (simp; done) | omega | (simp; omega)) (hK7 _ _ ?_)); clear hK7 K7; (try ((refine Draw0.nil (hK8 _ ?_)); clear hK8 K8; (refine WpL.go _ rfl fun Y y => ?_); repeat (first | (apply fw; (with_reducible constructor) <;> rfl) | (apply WpA.cd; constructor) | ((first | with_reducible refine WpA.go _ rfl fun Y y => ?_ | apply RunTo.id); simp only [zb, seval, w16, hw2]; refine RunTo.fn y (by first | (simp; done) | omega | (simp; omega)) ?_; clear y Y))))
    refine ⟨a.l.length - (j + 1), _, by omega, Le.drop 2 (Nat.zero_le _) rfl (by simp [Sub, find]) rfl (co2_bd _ _ _), j + 1, rfl, hlt, ?_, rfl⟩
    rw [List.take_succ_eq_append_getElem hlt, List.take_succ_eq_append_getElem (by omega), hb, he]
   ·rw [eqB_neg he] at hc
    rw [hfin fun e => he (by simp [e])]
    repeat (first | (apply fw; (with_reducible constructor) <;> rfl) | (apply WpA.cd; constructor) | ((first | with_reducible refine WpA.go _ rfl fun Y y => ?_ | apply RunTo.id); simp only [zb, seval, w16, hd1]; refine RunTo.fn y (by first | (simp; done) | omega | (simp; omega)) ?_; clear y Y))
    (refine WpA.draw0 12 _ _ _ rfl rfl rfl (by kernel_rfl) (by kernel_rfl) (by kernel_rfl) fun K8 hK8 => ?_); simp only [zz] at hK8 ⊢; (refine Draw0.go fun K7 hK7 => ?_); simp only [zb, seval, w16, hga, hgb]; (refine RunQ.mk (by first | (simp; done) | omega | (simp; omega)) (hK7 _ _ ?_)); clear hK7 K7; (try ((refine Draw0.nil (hK8 _ ?_)); clear hK8 K8; (refine WpL.go _ rfl fun Y y => ?_); repeat (first | (apply fw; (with_reducible constructor) <;> rfl) | (apply WpA.cd; constructor) | ((first | with_reducible refine WpA.go _ rfl fun Y y => ?_ | apply RunTo.id); simp only [zb, seval, w16, hga, hgb]; refine RunTo.fn y (by first | (simp; done) | omega | (simp; omega)) ?_; clear y Y))))
    refine Draw0.step (OpS.shut rfl rfl rfl (by kernel_rfl) (ALes.refl _) (by first | rfl | simp [shuts, A.shut, C.shut]) (hc)) ?_
    (refine Draw0.go fun K7 hK7 => ?_); simp only [zb, seval, w16, hw2]; (refine RunQ.mk (by first | (simp; done) | omega | (simp; omega)) (hK7 _ _ ?_)); clear hK7 K7; (try ((refine Draw0.nil (hK8 _ ?_)); clear hK8 K8; (refine WpL.go _ rfl fun Y y => ?_); repeat (first | (apply fw; (with_reducible constructor) <;> rfl) | (apply WpA.cd; constructor) | ((first | with_reducible refine WpA.go _ rfl fun Y y => ?_ | apply RunTo.id); simp only [zb, seval, w16, hw2]; refine RunTo.fn y (by first | (simp; done) | omega | (simp; omega)) ?_; clear y Y))))
    refine ⟨by simp, _, _, _, _, (by simp only [zb, seval, w16]; rfl), (by simp), (by simp only [zv]; rfl), (by simp), _, ALe.refl _, ?_⟩
    rfl
  ·have hd0 : decide ((j : Int) < (a.l.length : Int)) = false := by simp; omega
   have hll : a.l = b.l := by
    have hii : j = a.l.length := by omega
    rw [hii, List.take_length, q6, List.take_length] at hb; exact hb
   rw [eqB_pos (K.ext6 q1 q2 q3 q4 hpp hll)]
   repeat (first | (apply fw; (with_reducible constructor) <;> rfl) | (apply WpA.cd; constructor) | ((first | with_reducible refine WpA.go _ rfl fun Y y => ?_ | apply RunTo.id); simp only [zb, seval, w16, hd0]; refine RunTo.fn y (by first | (simp; done) | omega | (simp; omega)) ?_; clear y Y))
   repeat (first | (apply fw; (with_reducible constructor) <;> rfl) | (apply WpA.cd; constructor) | ((first | with_reducible refine WpA.go _ rfl fun Y y => ?_ | apply RunTo.id); simp only [zb, seval, w16, hd0]; refine RunTo.fn y (by first | (simp; done) | omega | (simp; omega)) ?_; clear y Y))
   refine ⟨by simp, _, _, _, _, (by simp only [zb, seval, w16]; rfl), (by simp), (by simp only [zv]; rfl), (by simp), _, ALe.refl _, ?_⟩
   rfl
theorem sameK_pure (a b : K) (hok : a.Ok) : Pure Tryd.prog 16 [.agg a.cc, .agg b.cc] (.one (.v (.bool (eqB a b)))) := sameK_upto a.ht a (Nat.le_refl _) hok b
def leastK (k : Int) : Int := if k = 3 ∨ k = 4 ∨ k = 6 ∨ k = 8 then 1 else if k = 5 then 3 else if k = 7 then 2 else 0
def mostK (k : Int) : Int := if k = 3 ∨ k = 4 ∨ k = 6 then 1 else if k = 5 then 3 else if k = 7 then 4611686018427387904 else if k = 8 then 41 else 0
def namedB (k : Int) : Bool := decide (k = 2 ∨ k = 3 ∨ k = 4 ∨ k = 10)
theorem mays_all : ∀ (l : List K) (t : Bool), K.mays l t = l.all (·.may t)
 | [], t => by simp [K.mays]
 | c :: l, t => by rw [K.mays, mays_all l t]; simp
structure MayOk (x : K) (top : Bool) : Prop where
 least : leastK x.k ≤ (x.l.length : Int)
 most : (x.l.length : Int) ≤ mostK x.k
 name : namedB x.k = !eqB x.name ⟨#[]⟩
 par : x.k = 6 ∨ (x.params = [] ∧ x.rest = ⟨#[]⟩)
 dat : x.k = 1 ∨ x.d = dZ
 may : x.k = 1 → mayB x.d = true
 vars : VarsOk (allN x)
 kids : x.l.all (·.may (top && decide (x.k = 7))) = true
theorem ite_own {α : Type} {p : Prop} [Decidable p] {a b : α} : (a = if p then a else b) ↔ p ∨ a = b := by
 by_cases h : p <;> simp [h]
theorem may_ok {x : K} {top : Bool} (hk : 1 ≤ x.k ∧ x.k ≤ 10) (h4 : x.k = 4 → top = true) (hl : x.l.length ≤ 1000000000000000) : x.may top = true ↔ MayOk x top := by
 obtain ⟨k, name, rest, params, d, l⟩ := x
 simp only [K.k, K.l] at hk h4 hl
 have hcn : cntB (K.mk k name rest params d l) = if k = 1 ∨ k = 2 ∨ k = 9 ∨ k = 10 then decide (l.length = 0) else if k = 3 ∨ k = 4 ∨ k = 6 then decide (l.length = 1) else if k = 5 then decide (l.length = 3) else if k = 7 then decide (2 ≤ l.length) else if k = 8 then decide (1 ≤ l.length) && decide (l.length ≤ 41) else false := rfl
 have hv0 : params = [] → rest = ⟨#[]⟩ → VarsOk (allN (K.mk k name rest params d l)) := fun h1 h2 => by subst h1 h2; simp [allN, K.rest, K.params, VarsOk]
 have hb : K.mk k name rest params d l = K.bare (K.mk k name rest params d l) ↔ ((k = 2 ∨ k = 3 ∨ k = 4 ∨ k = 10) ∨ name = ⟨#[]⟩) ∧ (k = 6 ∨ (params = [] ∧ rest = ⟨#[]⟩)) ∧ (k = 1 ∨ d = dZ) := by
  have hbe : K.bare (K.mk k name rest params d l) = K.mk k (if k = 2 ∨ k = 3 ∨ k = 4 ∨ k = 10 then name else ⟨#[]⟩) (if k = 6 then rest else ⟨#[]⟩) (if k = 6 then params else []) (if k = 1 then d else dZ) l := rfl
  rw [hbe]
  simp only [K.mk.injEq, true_and, and_true, ite_own]
  constructor
  ·rintro ⟨a, b, c, e⟩
   exact ⟨a, by rcases b with h | h; exact .inl h; exact c.imp id fun h' => ⟨h', h⟩, e⟩
  ·rintro ⟨a, b, e⟩
   exact ⟨a, b.imp id And.right, b.imp id And.left, e⟩
 rw [K.may]
 simp only [Bool.and_eq_true, eqB_iff, hb, mays_all]
 have hnB : ∀ b : Bool, (b = !eqB name ⟨#[]⟩) ↔ (b = true ↔ name ≠ ⟨#[]⟩) := fun b => by
  by_cases h : name = ⟨#[]⟩
  ·rw [eqB_pos h]; cases b <;> simp [h]
  ·rw [eqB_neg h]; cases b <;> simp [h]
 have hn0 : (!eqB name ⟨#[]⟩) = true ↔ name ≠ ⟨#[]⟩ := by
  by_cases h : name = ⟨#[]⟩
  ·rw [eqB_pos h]; simp [h]
  ·rw [eqB_neg h]; simp [h]
 have hk0 : k = 1 ∨ k = 2 ∨ k = 3 ∨ k = 4 ∨ k = 5 ∨ k = 6 ∨ k = 7 ∨ k = 8 ∨ k = 9 ∨ k = 10 := by omega
 constructor
 ·rintro ⟨⟨h1, h2, h3, h4'⟩, h5⟩
  refine ⟨?_, ?_, ?_, h3, h4', ?_, ?_, ?_⟩
  all_goals try simp only [K.k, K.l, K.name, K.d]
  ·rw [hcn] at h1
   rcases hk0 with rfl | rfl | rfl | rfl | rfl | rfl | rfl | rfl | rfl | rfl <;> simp only [leastK, Int.reduceEq, or_true, true_or, or_false, false_or, or_self, reduceIte, decide_eq_true_eq, Bool.and_eq_true] at h1 ⊢ <;> omega
  ·rw [hcn] at h1
   rcases hk0 with rfl | rfl | rfl | rfl | rfl | rfl | rfl | rfl | rfl | rfl <;> simp only [mostK, Int.reduceEq, or_true, true_or, or_false, false_or, or_self, reduceIte, decide_eq_true_eq, Bool.and_eq_true] at h1 ⊢ <;> omega
  ·rw [hnB]
   rcases hk0 with rfl | rfl | rfl | rfl | rfl | rfl | rfl | rfl | rfl | rfl <;> simp [namedB, hn0] at h2 h5 ⊢ <;> first | exact h2 | exact h5.1 | exact h5.1.2
  ·rintro rfl; simpa using h5
  ·by_cases q : k = 6
   ·subst q
    simp [propB_iff] at h5
    exact h5.1
   ·rcases h3 with h | h
    ·exact absurd h q
    ·exact hv0 h.1 h.2
  ·by_cases q : k = 1
   ·subst q
    have : l = [] := by rw [hcn] at h1; simpa using h1
    subst this; rfl
   ·rw [if_neg q] at h5
    simp only [Bool.and_eq_true] at h5
    exact h5.2
 ·rintro ⟨h1, h2, h3, h4', h5, h6, h7, h8⟩
  simp only [K.k, K.l, K.name, K.params, K.rest, K.d] at h1 h2 h3 h4' h5 h6 h8
  rw [hnB] at h3
  refine ⟨⟨?_, ?_, h4', h5⟩, ?_⟩
  ·rw [hcn]
   rcases hk0 with rfl | rfl | rfl | rfl | rfl | rfl | rfl | rfl | rfl | rfl <;> simp only [leastK, mostK, Int.reduceEq, or_true, true_or, or_false, false_or, or_self, reduceIte, decide_eq_true_eq, Bool.and_eq_true] at h1 h2 ⊢ <;> omega
  ·rcases hk0 with rfl | rfl | rfl | rfl | rfl | rfl | rfl | rfl | rfl | rfl <;> simp [namedB] at h3 ⊢ <;> exact h3
  ·by_cases q : k = 1
   ·rw [if_pos q]; exact h6 q
   ·rw [if_neg q]
    simp only [Bool.and_eq_true]
    refine ⟨?_, h8⟩
    have hp := propB_pos h7
    rcases hk0 with rfl | rfl | rfl | rfl | rfl | rfl | rfl | rfl | rfl | rfl <;> simp [namedB, hn0, h4, hp] at h3 ⊢ <;> exact h3
theorem not_ok {x : K} {top : Bool} (hk : 1 ≤ x.k ∧ x.k ≤ 10) (h4 : x.k = 4 → top = true) (hl : x.l.length ≤ 1000000000000000) (h : ¬ MayOk x top) : x.may top = false := by
 cases hm : x.may top with
 | false => rfl
 | true => exact absurd ((may_ok hk h4 hl).1 hm) h
theorem may_odd {x : K} {top : Bool} (hk : ¬ (1 ≤ x.k ∧ x.k ≤ 10)) : x.may top = false := by
 cases hm : x.may top with
 | false => rfl
 | true =>
  obtain ⟨k, name, rest, params, d, l⟩ := x
  rw [K.may] at hm
  simp only [Bool.and_eq_true] at hm
  exact absurd (cntB_kind hm.1.1) hk
theorem may_def {x : K} (hk : x.k = 4) : x.may false = false := by
 obtain ⟨k, name, rest, params, d, l⟩ := x
 simp only [K.k] at hk
 subst hk
 rw [K.may]
 simp
mutual
def K.Sd : K → Prop
 | .mk _ _ _ _ d l => SmallTo d.ht d ∧ K.Sds l
def K.Sds : List K → Prop
 | [] => True
 | c :: l => c.Sd ∧ K.Sds l
end
theorem K.Sds.get : ∀ {l : List K}, K.Sds l → ∀ i (h : i < l.length), l[i].Sd
 | c :: l, h, 0, _ => h.1
 | c :: l, h, i + 1, hi => K.Sds.get (l := l) h.2 i (by simpa using hi)
theorem K.Sd.get {c : K} (h : c.Sd) (i : Nat) (hi : i < c.l.length) : c.l[i].Sd := by cases c; exact h.2.get i hi
theorem K.Sd.d {c : K} (h : c.Sd) : SmallTo c.d.ht c.d := by cases c; exact h.1
theorem K.Sm.d {c : K} (h : c.Sm) : c.d.count < 1000000000 := by cases c; exact h.2.1
theorem K.Sm.get {c : K} (h : c.Sm) (i : Nat) (hi : i < c.l.length) : c.l[i].Sm := by cases c; exact h.2.2.get i hi
theorem K.Sm.par {c : K} (h : c.Sm) : c.params.length ≤ 1000000000 := by cases c; exact h.1
def NdTo (l : List ByteArray) (i : Nat) : Prop := (∀ a b (hb : b < l.length) (hab : a < b), b < i → l[a]'(by omega) ≠ l[b]) ∧ ∀ a (h : a < l.length), a < i → l[a] ≠ ⟨#[]⟩
theorem NdTo.zero (l : List ByteArray) : NdTo l 0 := ⟨fun a b _ _ h => absurd h (Nat.not_lt_zero _), fun a _ h => absurd h (Nat.not_lt_zero _)⟩
theorem NdTo.succ {l : List ByteArray} {i : Nat} (h : NdTo l i) (hi : i < l.length) (he : l[i] ≠ ⟨#[]⟩) (hd : ∀ a (h : a < l.length), a < i → l[i] ≠ l[a]) : NdTo l (i + 1) := by
 refine ⟨fun a b hb hab hbi => ?_, fun a h' ha => ?_⟩
 ·rcases Nat.lt_succ_iff_lt_or_eq.1 hbi with h1 | rfl
  ·exact h.1 a b hb hab h1
  ·exact fun e => hd a (by omega) hab e.symm
 ·rcases Nat.lt_succ_iff_lt_or_eq.1 ha with h1 | rfl
  ·exact h.2 a h' h1
  ·exact he
theorem NdTo.all {l : List ByteArray} (h : NdTo l l.length) : ⟨#[]⟩ ∉ l ∧ l.Nodup := by
 refine ⟨fun hm => ?_, List.pairwise_iff_getElem.2 fun i j hi hj hij => h.1 i j hj hij hj⟩
 obtain ⟨i, hi, e⟩ := List.mem_iff_getElem.1 hm
 exact h.2 i hi hi e
def RmayTo (n : Nat) : Prop := ∀ (x : K) (top : Bool), x.ht ≤ n → x.Ok → x.Sm → x.Sd → Pure Tryd.prog 26 [.agg x.cc, .one (.v (.bool top))] (.one (.v (.bool (x.may top))))
theorem rmay_step (n : Nat) (ih : RmayTo n) : RmayTo (n + 1) := by
 intro x top hh hok hsm hsd
 have hlen := hok.len
 have hpl := strC_len x.params
 have hppl := hsm.par
 have c1 : coreOb x = coreOb x := rfl
 rw [K.cc_eq]
 refine Fn.intro Tryd.func26 rfl Tryd.ntmps26 Tryd.results26 (by simp only [List.length_cons, List.length_nil]; decide) ?_
 by_cases hk : 1 ≤ x.k ∧ x.k ≤ 10
 case neg =>
  rw [may_odd hk]
  have e1 : (x.k == 1) = false := by simp; omega
  have e2 : (x.k == 2) = false := by simp; omega
  have e3 : (x.k == 3) = false := by simp; omega
  have e4 : (x.k == 4) = false := by simp; omega
  have e5 : (x.k == 5) = false := by simp; omega
  have e6 : (x.k == 6) = false := by simp; omega
  have e7 : (x.k == 7) = false := by simp; omega
  have e8 : (x.k == 8) = false := by simp; omega
  have e9 : (x.k == 9) = false := by simp; omega
  have e10 : (x.k == 10) = false := by simp; omega
  repeat (first | (apply fw; (with_reducible constructor) <;> rfl) | (apply WpA.cd; constructor) | ((first | with_reducible refine WpA.go _ rfl fun Y y => ?_ | apply RunTo.id); simp only [zb, seval, w26, e1, e2, e3, e4, e5, e6, e7, e8, e9, e10]; refine RunTo.fn y (by first | (simp; done) | omega | (simp; omega)) ?_; clear y Y))
  refine ⟨by simp, _, _, _, _, (by simp only [zb, seval, w26]; rfl), (by simp), (by simp only [zv]; rfl), (by simp), _, ALe.refl _, ?_⟩
  rfl
 by_cases h4 : x.k = 4 → top = true
 case neg =>
  have hk4 : x.k = 4 := Classical.byContradiction fun h => h4 fun h' => absurd h' h
  have ht : top = false := by cases top with | false => rfl | true => exact absurd (fun _ => rfl) h4
  subst ht
  rw [may_def hk4, hk4]
  repeat (first | (apply fw; (with_reducible constructor) <;> rfl) | (apply WpA.cd; constructor) | ((first | with_reducible refine WpA.go _ rfl fun Y y => ?_ | apply RunTo.id); simp only [zb, seval, w26]; refine RunTo.fn y (by first | (simp; done) | omega | (simp; omega)) ?_; clear y Y))
  refine ⟨by simp, _, _, _, _, (by simp only [zb, seval, w26]; rfl), (by simp), (by simp only [zv]; rfl), (by simp), _, ALe.refl _, ?_⟩
  rfl
 (refine WpA.seq ?_); (refine WpA.region ?_); (refine WpL.go _ rfl fun Y y => ?_); simp only [zb, seval, w26]; (refine RunTo.fn y (by first | (simp; done) | omega | (simp; omega)) ?_); clear y Y; (refine WpL.nil ?_); (refine thenA_n ?_); (refine WpA.seq ?_); (refine WpA.region ?_); (refine WpL.go _ rfl fun Y y => ?_); simp only [zb, seval, w26]; (refine RunTo.fn y (by first | (simp; done) | omega | (simp; omega)) ?_); clear y Y; (refine WpL.nil ?_); (refine thenA_n ?_); (refine WpA.seq ?_); (refine WpA.region ?_); (refine WpL.go _ rfl fun Y y => ?_); simp only [zb, seval, w26]; (refine RunTo.fn y (by first | (simp; done) | omega | (simp; omega)) ?_); clear y Y; (refine WpL.nil ?_); (refine thenA_n ?_)
 refine WpA.viaR (fun st' => st' = ⟨[(5, .one (.v (.int .i64 (leastK x.k)))), (6, .one (.v (.int .i64 (mostK x.k)))), (7, .one (.v (.bool (namedB x.k)))), (8, .one (.v (.bool (decide (x.k = 6))))), (9, .one (.v (.bool (decide (x.k = 1))))), (2, .one (.ptr 0 1 0 0)), (1, .one (.v (.bool top)))], [some (coreOb x)]⟩) ?_ ?_
 ·have hk0 : x.k = 1 ∨ x.k = 2 ∨ x.k = 3 ∨ x.k = 4 ∨ x.k = 5 ∨ x.k = 6 ∨ x.k = 7 ∨ x.k = 8 ∨ x.k = 9 ∨ x.k = 10 := by omega
  unfold coreOb
  rcases hk0 with q | q | q | q | q | q | q | q | q | q
  case inr.inr.inr.inl =>
   have ht := h4 q
   subst ht
   rw [q]
   repeat (first | (apply fw; (with_reducible constructor) <;> rfl) | (apply WpA.cd; constructor) | ((first | with_reducible refine WpA.go _ rfl fun Y y => ?_ | apply RunTo.id); simp only [zb, seval, w26]; refine RunTo.fn y (by first | (simp; done) | omega | (simp; omega)) ?_; clear y Y))
   exact ⟨_, Le.sub (by simp [Sub, find, leastK, mostK, namedB]), rfl⟩
  all_goals
   rw [q]
   repeat (first | (apply fw; (with_reducible constructor) <;> rfl) | (apply WpA.cd; constructor) | ((first | with_reducible refine WpA.go _ rfl fun Y y => ?_ | apply RunTo.id); simp only [zb, seval, w26]; refine RunTo.fn y (by first | (simp; done) | omega | (simp; omega)) ?_; clear y Y))
   exact ⟨_, Le.sub (by simp [Sub, find, leastK, mostK, namedB]), rfl⟩
 rintro _ rfl
 have hno := fun h => not_ok hk h4 hlen h
 have hyes := (may_ok hk h4 hlen (top := top)).2
 unfold coreOb
 have no : ∀ {b : Bool}, b = false → (fun r : A => r = .one (.v (.bool b))) (.one (.v (.bool false))) := fun h => by rw [h]
 by_cases a1 : (x.l.length : Int) < leastK x.k
 ·have d1 : decide ((x.l.length : Int) < leastK x.k) = true := by simpa using a1
  rw [hno fun h => by have := h.least; omega]
  repeat (first | (apply fw; (with_reducible constructor) <;> rfl) | (apply WpA.cd; constructor) | ((first | with_reducible refine WpA.go _ rfl fun Y y => ?_ | apply RunTo.id); simp only [zb, seval, w26, d1]; refine RunTo.fn y (by first | (simp; done) | omega | (simp; omega)) ?_; clear y Y))
  refine ⟨by simp, _, _, _, _, (by simp only [zb, seval, w26]; rfl), (by simp), (by simp only [zv]; rfl), (by simp), _, ALe.refl _, ?_⟩
  rfl
 have d1 : decide ((x.l.length : Int) < leastK x.k) = false := by simpa using a1
 by_cases a2 : mostK x.k < (x.l.length : Int)
 ·have d2 : decide (mostK x.k < (x.l.length : Int)) = true := by simpa using a2
  rw [hno fun h => by have := h.most; omega]
  repeat (first | (apply fw; (with_reducible constructor) <;> rfl) | (apply WpA.cd; constructor) | ((first | with_reducible refine WpA.go _ rfl fun Y y => ?_ | apply RunTo.id); simp only [zb, seval, w26, d1, d2]; refine RunTo.fn y (by first | (simp; done) | omega | (simp; omega)) ?_; clear y Y))
  refine ⟨by simp, _, _, _, _, (by simp only [zb, seval, w26]; rfl), (by simp), (by simp only [zv]; rfl), (by simp), _, ALe.refl _, ?_⟩
  rfl
 have d2 : decide (mostK x.k < (x.l.length : Int)) = false := by simpa using a2
 by_cases a3 : namedB x.k = !eqB x.name ⟨#[]⟩
 case neg =>
  have d3 : (namedB x.k == !eqB x.name ⟨#[]⟩) = false := by simpa using a3
  rw [hno fun h => a3 h.name]
  repeat (first | (apply fw; (with_reducible constructor) <;> rfl) | (apply WpA.cd; constructor) | ((first | with_reducible refine WpA.go _ rfl fun Y y => ?_ | apply RunTo.id); simp only [zb, seval, w26, d1, d2, strEq, d3]; refine RunTo.fn y (by first | (simp; done) | omega | (simp; omega)) ?_; clear y Y))
  refine ⟨by simp, _, _, _, _, (by simp only [zb, seval, w26]; rfl), (by simp), (by simp only [zv]; rfl), (by simp), _, ALe.refl _, ?_⟩
  rfl
 have d3 : (namedB x.k == !eqB x.name ⟨#[]⟩) = true := by simpa using a3
 by_cases a4 : x.k = 6 ∨ (x.params = [] ∧ x.rest = ⟨#[]⟩)
 case neg =>
  have p6 : decide (x.k = 6) = false := by simp; exact fun h => a4 (.inl h)
  rw [hno fun h => a4 h.par]
  by_cases b1 : x.params = []
  ·have e0 : decide ((0 : Int) < (x.params.length : Int)) = false := by rw [b1]; rfl
   have e1 := eqB_neg fun e : x.rest = ⟨#[]⟩ => a4 (.inr ⟨b1, e⟩)
   repeat (first | (apply fw; (with_reducible constructor) <;> rfl) | (apply WpA.cd; constructor) | ((first | with_reducible refine WpA.go _ rfl fun Y y => ?_ | apply RunTo.id); simp only [zb, seval, w26, d1, d2, strEq, d3, p6, hpl, e0, e1]; refine RunTo.fn y (by first | (simp; done) | omega | (simp; omega)) ?_; clear y Y))
   refine ⟨by simp, _, _, _, _, (by simp only [zb, seval, w26]; rfl), (by simp), (by simp only [zv]; rfl), (by simp), _, ALe.refl _, ?_⟩
   rfl
  ·have e0 : decide ((0 : Int) < (x.params.length : Int)) = true := by
    simp
    exact List.length_pos_iff.2 b1
   repeat (first | (apply fw; (with_reducible constructor) <;> rfl) | (apply WpA.cd; constructor) | ((first | with_reducible refine WpA.go _ rfl fun Y y => ?_ | apply RunTo.id); simp only [zb, seval, w26, d1, d2, strEq, d3, p6, hpl, e0]; refine RunTo.fn y (by first | (simp; done) | omega | (simp; omega)) ?_; clear y Y))
   refine ⟨by simp, _, _, _, _, (by simp only [zb, seval, w26]; rfl), (by simp), (by simp only [zv]; rfl), (by simp), _, ALe.refl _, ?_⟩
   rfl
 have hpt : (decide (x.k = 6) = true) ∨ (decide (x.k = 6) = false ∧ decide ((0 : Int) < (x.params.length : Int)) = false ∧ eqB x.rest ⟨#[]⟩ = true) := by
  by_cases h : x.k = 6
  ·exact .inl (by simpa using h)
  ·rcases a4 with h' | ⟨h1, h2⟩
   ·exact absurd h' h
   ·exact .inr ⟨by simpa using h, by rw [h1]; rfl, eqB_pos h2⟩
 have hnm := names_pure x hppl
 rw [K.cc_eq] at hnm
 refine WpA.viaR (fun st' => x.d = x.d ∧ (x.k = 1 ∨ x.d = dZ) ∧ (x.k = 1 → mayB x.d = true) ∧ st' = ⟨[(2, .one (.ptr 0 1 0 0)), (1, .one (.v (.bool top)))], [some ⟨33, 11, [[.v (.int .i64 x.k), .v (.string x.name), .v (.string x.rest), .sl 1 (strC x.params), .v (.int .i64 x.d.k), .v (.int .i32 x.d.c), .v (.bool x.d.neg), .sl 1 (x.d.mag.map fun n => [.v (.int .u32 n)]), .v (.string x.d.t), .sl 6 (x.d.l.map D.cc), .sl 11 (x.l.map K.cc)]]⟩]⟩) ?_ ?_
 ·by_cases q1 : x.k = 1
  ·have p1 : decide (x.k = 1) = true := by simpa using q1
   have hmay := rmay_pure x.d hok.d hsd.d hsm.d
   rw [D.cc_eq] at hmay
   rcases hpt with p6 | ⟨p6, e0, e1⟩
   case' inl => repeat (first | (apply fw; (with_reducible constructor) <;> rfl) | (apply WpA.cd; constructor) | ((first | with_reducible refine WpA.go _ rfl fun Y y => ?_ | apply RunTo.id); simp only [zb, seval, w26, d1, d2, strEq, d3, p6, p1]; refine RunTo.fn y (by first | (simp; done) | omega | (simp; omega)) ?_; clear y Y))
   case' inr => repeat (first | (apply fw; (with_reducible constructor) <;> rfl) | (apply WpA.cd; constructor) | ((first | with_reducible refine WpA.go _ rfl fun Y y => ?_ | apply RunTo.id); simp only [zb, seval, w26, d1, d2, strEq, d3, p6, hpl, e0, e1, p1]; refine RunTo.fn y (by first | (simp; done) | omega | (simp; omega)) ?_; clear y Y))
   all_goals
    refine WpL.call rfl (guardA_sound (P := Tryd.prog) rfl) (CallA.shut rfl rfl (by kernel_rfl) (ALes.refl _) (by first | rfl | simp [shuts, A.shut, C.shut]) (hmay) ?_)
    cases hmb : mayB x.d with
    | true =>
     (refine WpL.go _ rfl fun Y y => ?_); repeat (first | (apply fw; (with_reducible constructor) <;> rfl) | (apply WpA.cd; constructor) | ((first | with_reducible refine WpA.go _ rfl fun Y y => ?_ | apply RunTo.id); simp only [zb, seval, w26]; refine RunTo.fn y (by first | (simp; done) | omega | (simp; omega)) ?_; clear y Y))
     exact ⟨_, Le.sub (by simp [Sub, find]), rfl, .inl q1, fun _ => rfl, rfl⟩
    | false =>
     rw [hno fun h => by have := h.may q1; rw [hmb] at this; cases this]
     (refine WpL.go _ rfl fun Y y => ?_); repeat (first | (apply fw; (with_reducible constructor) <;> rfl) | (apply WpA.cd; constructor) | ((first | with_reducible refine WpA.go _ rfl fun Y y => ?_ | apply RunTo.id); simp only [zb, seval, w26]; refine RunTo.fn y (by first | (simp; done) | omega | (simp; omega)) ?_; clear y Y))
     refine ⟨by simp, _, _, _, _, (by simp only [zb, seval, w26]; rfl), (by simp), (by simp only [zv]; rfl), (by simp), _, ALe.refl _, ?_⟩
     rfl
  ·have p1 : decide (x.k = 1) = false := by simpa using q1
   have hsame := rsame_pure x.d dZ
   rw [D.cc_eq, D.cc_eq dZ] at hsame
   simp only [dZ, D.k, D.c, D.neg, D.mag, D.t, D.l, List.map_nil] at hsame
   rcases hpt with p6 | ⟨p6, e0, e1⟩
   case' inl => repeat (first | (apply fw; (with_reducible constructor) <;> rfl) | (apply WpA.cd; constructor) | ((first | with_reducible refine WpA.go _ rfl fun Y y => ?_ | apply RunTo.id); simp only [zb, seval, w26, d1, d2, strEq, d3, p6, p1]; refine RunTo.fn y (by first | (simp; done) | omega | (simp; omega)) ?_; clear y Y))
   case' inr => repeat (first | (apply fw; (with_reducible constructor) <;> rfl) | (apply WpA.cd; constructor) | ((first | with_reducible refine WpA.go _ rfl fun Y y => ?_ | apply RunTo.id); simp only [zb, seval, w26, d1, d2, strEq, d3, p6, hpl, e0, e1, p1]; refine RunTo.fn y (by first | (simp; done) | omega | (simp; omega)) ?_; clear y Y))
   all_goals
    refine WpL.call rfl (guardA_sound (P := Tryd.prog) rfl) (CallA.shut rfl rfl (by kernel_rfl) (ALes.cons (ALe.refl _) (ALes.cons (ALe.agg (by repeat (first | exact CLes.refl _ | refine CLes.nil ?_ | refine CLes.cons ?_))) (ALes.refl _))) rfl hsame ?_)
    by_cases hd : x.d = dZ
    ·have hd' := eqB_pos hd
     simp only [dZ] at hd'
     rw [hd']
     (refine WpL.go _ rfl fun Y y => ?_); repeat (first | (apply fw; (with_reducible constructor) <;> rfl) | (apply WpA.cd; constructor) | ((first | with_reducible refine WpA.go _ rfl fun Y y => ?_ | apply RunTo.id); simp only [zb, seval, w26, p1]; refine RunTo.fn y (by first | (simp; done) | omega | (simp; omega)) ?_; clear y Y))
     exact ⟨_, Le.sub (by simp [Sub, find]), rfl, .inr hd, fun h => absurd h q1, rfl⟩
    ·have hd' := eqB_neg hd
     simp only [dZ] at hd'
     rw [hd']
     rw [hno fun h => h.dat.elim q1 hd]
     (refine WpL.go _ rfl fun Y y => ?_); repeat (first | (apply fw; (with_reducible constructor) <;> rfl) | (apply WpA.cd; constructor) | ((first | with_reducible refine WpA.go _ rfl fun Y y => ?_ | apply RunTo.id); simp only [zb, seval, w26, p1]; refine RunTo.fn y (by first | (simp; done) | omega | (simp; omega)) ?_; clear y Y))
     refine ⟨by simp, _, _, _, _, (by simp only [zb, seval, w26]; rfl), (by simp), (by simp only [zv]; rfl), (by simp), _, ALe.refl _, ?_⟩
     rfl
 rintro _ ⟨-, a5, a6, rfl⟩
 have ln := strC_len (allN x)
 generalize hN : allN x = N at *
 have hno' : ¬ VarsOk N → x.may top = false := fun h => hno fun h' => h (by rw [← hN]; exact h'.vars)
 repeat (first | (apply fw; (with_reducible constructor) <;> rfl) | (apply WpA.cd; constructor) | ((first | with_reducible refine WpA.go _ rfl fun Y y => ?_ | apply RunTo.id); simp only [zb, seval, w26]; refine RunTo.fn y (by first | (simp; done) | omega | (simp; omega)) ?_; clear y Y))
 refine WpL.call rfl (guardA_sound (P := Tryd.prog) rfl) (CallA.shut rfl rfl (by kernel_rfl) (ALes.refl _) (by first | rfl | simp [shuts, A.shut, C.shut]) (hnm) ?_)
 by_cases b40 : (40 : Int) < (N.length : Int)
 ·have e40 : decide ((40 : Int) < (N.length : Int)) = true := by simpa using b40
  rw [hno' fun h => by have := h.1; omega]
  (refine WpL.go _ rfl fun Y y => ?_); repeat (first | (apply fw; (with_reducible constructor) <;> rfl) | (apply WpA.cd; constructor) | ((first | with_reducible refine WpA.go _ rfl fun Y y => ?_ | apply RunTo.id); simp only [zb, seval, w26, ln, e40]; refine RunTo.fn y (by first | (simp; done) | omega | (simp; omega)) ?_; clear y Y))
  refine ⟨by simp, _, _, _, _, (by simp only [zb, seval, w26]; rfl), (by simp), (by simp only [zv]; rfl), (by simp), _, ALe.refl _, ?_⟩
  rfl
 have e40 : decide ((40 : Int) < (N.length : Int)) = false := by simpa using b40
 (refine WpL.go _ rfl fun Y y => ?_); repeat (first | (apply fw; (with_reducible constructor) <;> rfl) | (apply WpA.cd; constructor) | ((first | with_reducible refine WpA.go _ rfl fun Y y => ?_ | apply RunTo.id); simp only [zb, seval, w26, ln, e40]; refine RunTo.fn y (by first | (simp; done) | omega | (simp; omega)) ?_; clear y Y))
 refine WpA.loop (fun n st => ∃ i, n = N.length - i ∧ i ≤ N.length ∧ NdTo N i ∧ st = ⟨[(11, .one (.v (.int .i64 (i : Nat)))), (10, .one (.sl 1 (strC N))), (2, .one (.ptr 0 1 0 0)), (1, .one (.v (.bool top)))], [some ⟨33, 11, [[.v (.int .i64 x.k), .v (.string x.name), .v (.string x.rest), .sl 1 (strC x.params), .v (.int .i64 x.d.k), .v (.int .i32 x.d.c), .v (.bool x.d.neg), .sl 1 (x.d.mag.map fun n => [.v (.int .u32 n)]), .v (.string x.d.t), .sl 6 (x.d.l.map D.cc), .sl 11 (x.l.map K.cc)]]⟩]⟩) N.length (Le.sub (by simp [Sub, find])) ⟨0, rfl, Nat.zero_le _, NdTo.zero _, rfl⟩ ?_
 rintro n' st ⟨i, rfl, hi, hnd, rfl⟩
 have hw2 : IntKind.i64.wrap ((i : Int) + 1) = ((i + 1 : Nat) : Int) := by rw [wrap64 (by omega) (by omega)]; omega
 by_cases hlt : i < N.length
 ·have hd1 : decide ((i : Int) < (N.length : Int)) = true := by simp; omega
  have hget := strC_get hlt
  by_cases hem : N[i] = ⟨#[]⟩
  ·have f1 := eqB_pos hem
   rw [hno' fun h => h.2.1 (by rw [← hem]; exact List.getElem_mem hlt)]
   repeat (first | (apply fw; (with_reducible constructor) <;> rfl) | (apply WpA.cd; constructor) | ((first | with_reducible refine WpA.go _ rfl fun Y y => ?_ | apply RunTo.id); simp only [zb, seval, w26, ln, hd1, hget, strEq, f1]; refine RunTo.fn y (by first | (simp; done) | omega | (simp; omega)) ?_; clear y Y))
   refine ⟨by simp, _, _, _, _, (by simp only [zb, seval, w26]; rfl), (by simp), (by simp only [zv]; rfl), (by simp), _, ALe.refl _, ?_⟩
   rfl
  have f1 := eqB_neg hem
  repeat (first | (apply fw; (with_reducible constructor) <;> rfl) | (apply WpA.cd; constructor) | ((first | with_reducible refine WpA.go _ rfl fun Y y => ?_ | apply RunTo.id); simp only [zb, seval, w26, ln, hd1, hget, strEq, f1]; refine RunTo.fn y (by first | (simp; done) | omega | (simp; omega)) ?_; clear y Y))
  refine WpA.loop (fun n st => ∃ k, n = i - k ∧ k ≤ i ∧ (∀ a (h : a < N.length), a < k → N[i] ≠ N[a]) ∧ st = ⟨[(12, .one (.v (.int .i64 (k : Nat)))), (11, .one (.v (.int .i64 (i : Nat)))), (10, .one (.sl 1 (strC N))), (2, .one (.ptr 0 1 0 0)), (1, .one (.v (.bool top)))], [some ⟨33, 11, [[.v (.int .i64 x.k), .v (.string x.name), .v (.string x.rest), .sl 1 (strC x.params), .v (.int .i64 x.d.k), .v (.int .i32 x.d.c), .v (.bool x.d.neg), .sl 1 (x.d.mag.map fun n => [.v (.int .u32 n)]), .v (.string x.d.t), .sl 6 (x.d.l.map D.cc), .sl 11 (x.l.map K.cc)]]⟩]⟩) i (Le.sub (by simp [Sub, find])) ⟨0, rfl, Nat.zero_le _, fun a _ h => absurd h (Nat.not_lt_zero _), rfl⟩ ?_
  rintro n' st ⟨k, rfl, hk', hdk, rfl⟩
  have hw3 : IntKind.i64.wrap ((k : Int) + 1) = ((k + 1 : Nat) : Int) := by rw [wrap64 (by omega) (by omega)]; omega
  by_cases hlk : k < i
  ·have hd2 : decide ((k : Int) < (i : Int)) = true := by simp; omega
   have hlk' : k < N.length := by omega
   have hget2 := strC_get hlk'
   by_cases he : N[i] = N[k]
   ·have f2 := eqB_pos he
    rw [hno' fun h => (List.pairwise_iff_getElem.1 h.2.2) k i hlk' hlt hlk he.symm]
    repeat (first | (apply fw; (with_reducible constructor) <;> rfl) | (apply WpA.cd; constructor) | ((first | with_reducible refine WpA.go _ rfl fun Y y => ?_ | apply RunTo.id); simp only [zb, seval, w26, hd2]; refine RunTo.fn y (by first | (simp; done) | omega | (simp; omega)) ?_; clear y Y))
    (refine WpA.draw0 8 _ _ _ rfl rfl rfl (by kernel_rfl) (by kernel_rfl) (by kernel_rfl) fun K8 hK8 => ?_); simp only [zz] at hK8 ⊢; (refine Draw0.go fun K7 hK7 => ?_); simp only [zb, seval, w26, ln, hget, hget2, strEq, f2]; (refine RunQ.mk (by first | (simp; done) | omega | (simp; omega)) (hK7 _ _ ?_)); clear hK7 K7; (try ((refine Draw0.nil (hK8 _ ?_)); clear hK8 K8; (refine WpL.go _ rfl fun Y y => ?_); repeat (first | (apply fw; (with_reducible constructor) <;> rfl) | (apply WpA.cd; constructor) | ((first | with_reducible refine WpA.go _ rfl fun Y y => ?_ | apply RunTo.id); simp only [zb, seval, w26, ln, hget, hget2, strEq, f2]; refine RunTo.fn y (by first | (simp; done) | omega | (simp; omega)) ?_; clear y Y))))
    refine ⟨by simp, _, _, _, _, (by simp only [zb, seval, w26]; rfl), (by simp), (by simp only [zv]; rfl), (by simp), _, ALe.refl _, ?_⟩
    rfl
   ·have f2 := eqB_neg he
    repeat (first | (apply fw; (with_reducible constructor) <;> rfl) | (apply WpA.cd; constructor) | ((first | with_reducible refine WpA.go _ rfl fun Y y => ?_ | apply RunTo.id); simp only [zb, seval, w26, hd2]; refine RunTo.fn y (by first | (simp; done) | omega | (simp; omega)) ?_; clear y Y))
    (refine WpA.draw0 8 _ _ _ rfl rfl rfl (by kernel_rfl) (by kernel_rfl) (by kernel_rfl) fun K8 hK8 => ?_); simp only [zz] at hK8 ⊢; (refine Draw0.go fun K7 hK7 => ?_); simp only [zb, seval, w26, ln, hget, hget2, strEq, f2, hw3]; (refine RunQ.mk (by first | (simp; done) | omega | (simp; omega)) (hK7 _ _ ?_)); clear hK7 K7; (try ((refine Draw0.nil (hK8 _ ?_)); clear hK8 K8; (refine WpL.go _ rfl fun Y y => ?_); repeat (first | (apply fw; (with_reducible constructor) <;> rfl) | (apply WpA.cd; constructor) | ((first | with_reducible refine WpA.go _ rfl fun Y y => ?_ | apply RunTo.id); simp only [zb, seval, w26, ln, hget, hget2, strEq, f2, hw3]; refine RunTo.fn y (by first | (simp; done) | omega | (simp; omega)) ?_; clear y Y))))
    refine ⟨i - (k + 1), _, by omega, Le.sub (by simp [Sub, find]), k + 1, rfl, hlk, fun a h hak => ?_, rfl⟩
    rcases Nat.lt_succ_iff_lt_or_eq.1 hak with h' | rfl
    ·exact hdk a h h'
    ·exact he
  ·have hd2 : decide ((k : Int) < (i : Int)) = false := by simp; omega
   have hki : k = i := by omega
   subst hki
   repeat (first | (apply fw; (with_reducible constructor) <;> rfl) | (apply WpA.cd; constructor) | ((first | with_reducible refine WpA.go _ rfl fun Y y => ?_ | apply RunTo.id); simp only [zb, seval, w26, hd2, hw2]; refine RunTo.fn y (by first | (simp; done) | omega | (simp; omega)) ?_; clear y Y))
   exact ⟨N.length - (k + 1), _, by omega, Le.sub (by simp [Sub, find]), k + 1, rfl, hlt, hnd.succ hlt hem hdk, rfl⟩
 have hd0 : decide ((i : Int) < (N.length : Int)) = false := by simp; omega
 have hii : i = N.length := by omega
 subst hii
 have hvar : VarsOk N := ⟨by omega, hnd.all⟩
 repeat (first | (apply fw; (with_reducible constructor) <;> rfl) | (apply WpA.cd; constructor) | ((first | with_reducible refine WpA.go _ rfl fun Y y => ?_ | apply RunTo.id); simp only [zb, seval, w26, ln, hd0]; refine RunTo.fn y (by first | (simp; done) | omega | (simp; omega)) ?_; clear y Y))
 refine WpA.loop (fun n st => ∃ i, n = x.l.length - i ∧ i ≤ x.l.length ∧ (∀ j (h : j < x.l.length), j < i → x.l[j].may (top && decide (x.k = 7)) = true) ∧ st = ⟨[(13, .one (.v (.int .i64 (i : Nat)))), (2, .one (.ptr 0 1 0 0)), (1, .one (.v (.bool top)))], [some ⟨33, 11, [[.v (.int .i64 x.k), .v (.string x.name), .v (.string x.rest), .sl 1 (strC x.params), .v (.int .i64 x.d.k), .v (.int .i32 x.d.c), .v (.bool x.d.neg), .sl 1 (x.d.mag.map fun n => [.v (.int .u32 n)]), .v (.string x.d.t), .sl 6 (x.d.l.map D.cc), .sl 11 (x.l.map K.cc)]]⟩]⟩) x.l.length (Le.sub (by simp [Sub, find])) ⟨0, rfl, Nat.zero_le _, fun a _ h => absurd h (Nat.not_lt_zero _), rfl⟩ ?_
 rintro n' st ⟨i, rfl, hi', hall, rfl⟩
 have hw3 : IntKind.i64.wrap ((i : Int) + 1) = ((i + 1 : Nat) : Int) := by rw [wrap64 (by omega) (by omega)]; omega
 by_cases hlt : i < x.l.length
 ·have hd1 : decide ((i : Int) < (x.l.length : Int)) = true := by simp; omega
  have hget := getK hlt
  have hht := K.ht_lt hlt
  have hc := ih x.l[i] (top && decide (x.k = 7)) (by omega) (hok.get i hlt) (hsm.get i hlt) (hsd.get i hlt)
  rw [K.cc_eq] at hget hc
  cases hres : x.l[i].may (top && decide (x.k = 7)) with
  | false =>
   rw [hno fun h => by
    have := List.all_eq_true.1 h.kids x.l[i] (List.getElem_mem hlt)
    rw [hres] at this; cases this]
   rw [hres] at hc
   repeat (first | (apply fw; (with_reducible constructor) <;> rfl) | (apply WpA.cd; constructor) | ((first | with_reducible refine WpA.go _ rfl fun Y y => ?_ | apply RunTo.id); simp only [zb, seval, w26, hd1]; refine RunTo.fn y (by first | (simp; done) | omega | (simp; omega)) ?_; clear y Y))
   by_cases k7 : x.k = 7
   case' pos =>
    have e7 : (x.k == 7) = true := by simpa using k7
    have e7' : decide (x.k = 7) = true := by simpa using k7
   case' neg =>
    have e7 : (x.k == 7) = false := by simpa using k7
    have e7' : decide (x.k = 7) = false := by simpa using k7
   all_goals
    rw [e7'] at hc
    cases top
    all_goals
     simp only [Bool.and_true, Bool.and_false] at hc
     (refine WpA.draw0 11 _ _ _ rfl rfl rfl (by kernel_rfl) (by kernel_rfl) (by kernel_rfl) fun K8 hK8 => ?_); simp only [zz] at hK8 ⊢; (refine Draw0.go fun K7 hK7 => ?_); simp only [zb, seval, w26, hget, e7]; (refine RunQ.mk (by first | (simp; done) | omega | (simp; omega)) (hK7 _ _ ?_)); clear hK7 K7; (try ((refine Draw0.nil (hK8 _ ?_)); clear hK8 K8; (refine WpL.go _ rfl fun Y y => ?_); repeat (first | (apply fw; (with_reducible constructor) <;> rfl) | (apply WpA.cd; constructor) | ((first | with_reducible refine WpA.go _ rfl fun Y y => ?_ | apply RunTo.id); simp only [zb, seval, w26, hget, e7]; refine RunTo.fn y (by first | (simp; done) | omega | (simp; omega)) ?_; clear y Y))))
     refine WpL.call rfl (guardA_sound (P := Tryd.prog) rfl) (CallA.shut rfl rfl (by kernel_rfl) (ALes.refl _) (by first | rfl | simp [shuts, A.shut, C.shut]) (hc) ?_)
     (refine WpL.go _ rfl fun Y y => ?_); repeat (first | (apply fw; (with_reducible constructor) <;> rfl) | (apply WpA.cd; constructor) | ((first | with_reducible refine WpA.go _ rfl fun Y y => ?_ | apply RunTo.id); simp only [zb, seval, w26]; refine RunTo.fn y (by first | (simp; done) | omega | (simp; omega)) ?_; clear y Y))
     refine ⟨by simp, _, _, _, _, (by simp only [zb, seval, w26]; rfl), (by simp), (by simp only [zv]; rfl), (by simp), _, ALe.refl _, ?_⟩
     rfl
  | true =>
   rw [hres] at hc
   have hall' : ∀ j (h : j < x.l.length), j < i + 1 → x.l[j].may (top && decide (x.k = 7)) = true := fun j h hj => by
    rcases Nat.lt_succ_iff_lt_or_eq.1 hj with h' | rfl
    ·exact hall j h h'
    ·exact hres
   repeat (first | (apply fw; (with_reducible constructor) <;> rfl) | (apply WpA.cd; constructor) | ((first | with_reducible refine WpA.go _ rfl fun Y y => ?_ | apply RunTo.id); simp only [zb, seval, w26, hd1]; refine RunTo.fn y (by first | (simp; done) | omega | (simp; omega)) ?_; clear y Y))
   by_cases k7 : x.k = 7
   case' pos =>
    have e7 : (x.k == 7) = true := by simpa using k7
    have e7' : decide (x.k = 7) = true := by simpa using k7
   case' neg =>
    have e7 : (x.k == 7) = false := by simpa using k7
    have e7' : decide (x.k = 7) = false := by simpa using k7
   all_goals
    rw [e7'] at hc
    cases top
    all_goals
     simp only [Bool.and_true, Bool.and_false] at hc
     (refine WpA.draw0 11 _ _ _ rfl rfl rfl (by kernel_rfl) (by kernel_rfl) (by kernel_rfl) fun K8 hK8 => ?_); simp only [zz] at hK8 ⊢; (refine Draw0.go fun K7 hK7 => ?_); simp only [zb, seval, w26, hget, e7]; (refine RunQ.mk (by first | (simp; done) | omega | (simp; omega)) (hK7 _ _ ?_)); clear hK7 K7; (try ((refine Draw0.nil (hK8 _ ?_)); clear hK8 K8; (refine WpL.go _ rfl fun Y y => ?_); repeat (first | (apply fw; (with_reducible constructor) <;> rfl) | (apply WpA.cd; constructor) | ((first | with_reducible refine WpA.go _ rfl fun Y y => ?_ | apply RunTo.id); simp only [zb, seval, w26, hget, e7]; refine RunTo.fn y (by first | (simp; done) | omega | (simp; omega)) ?_; clear y Y))))
     refine WpL.call rfl (guardA_sound (P := Tryd.prog) rfl) (CallA.shut rfl rfl (by kernel_rfl) (ALes.refl _) (by first | rfl | simp [shuts, A.shut, C.shut]) (hc) ?_)
     (refine WpL.go _ rfl fun Y y => ?_); repeat (first | (apply fw; (with_reducible constructor) <;> rfl) | (apply WpA.cd; constructor) | ((first | with_reducible refine WpA.go _ rfl fun Y y => ?_ | apply RunTo.id); simp only [zb, seval, w26, hw3]; refine RunTo.fn y (by first | (simp; done) | omega | (simp; omega)) ?_; clear y Y))
     exact ⟨x.l.length - (i + 1), _, by omega, Le.sub (by simp [Sub, find]), i + 1, rfl, hlt, hall', rfl⟩
 have hd2 : decide ((i : Int) < (x.l.length : Int)) = false := by simp; omega
 have hii : i = x.l.length := by omega
 subst hii
 have hfin : x.may top = true := hyes ⟨by omega, by omega, a3, a4, a5, a6, by rw [hN]; exact hvar, List.all_eq_true.2 fun y hy => by
  obtain ⟨j, hj, rfl⟩ := List.mem_iff_getElem.1 hy
  exact hall j hj hj⟩
 rw [hfin]
 repeat (first | (apply fw; (with_reducible constructor) <;> rfl) | (apply WpA.cd; constructor) | ((first | with_reducible refine WpA.go _ rfl fun Y y => ?_ | apply RunTo.id); simp only [zb, seval, w26, hd2]; refine RunTo.fn y (by first | (simp; done) | omega | (simp; omega)) ?_; clear y Y))
 refine ⟨by simp, _, _, _, _, (by simp only [zb, seval, w26]; rfl), (by simp), (by simp only [zv]; rfl), (by simp), _, ALe.refl _, ?_⟩
 rfl
theorem rmay_upto : ∀ n, RmayTo n
 | 0 => fun x _ h => absurd h (by have := x.ht_pos; omega)
 | n + 1 => rmay_step n (rmay_upto n)
theorem rmayK_pure (x : K) (hok : x.Ok) (hsm : x.Sm) (hsd : x.Sd) : Pure Tryd.prog 13 [.agg x.cc] (.one (.v (.bool (x.may true)))) := by
 have h := rmay_upto x.ht x true (Nat.le_refl _) hok hsm hsd
 rw [K.cc_eq] at h ⊢
 refine Fn.intro Tryd.func13 rfl Tryd.ntmps13 Tryd.results13 (by simp only [List.length_cons, List.length_nil]; decide) ?_
 repeat (first | (apply fw; (with_reducible constructor) <;> rfl) | (apply WpA.cd; constructor) | ((first | with_reducible refine WpA.go _ rfl fun Y y => ?_ | apply RunTo.id); simp only [zb, seval, ty_33]; refine RunTo.fn y (by first | (simp; done) | omega | (simp; omega)) ?_; clear y Y))
 refine WpL.call rfl (guardA_sound (P := Tryd.prog) rfl) (CallA.shut rfl rfl (by kernel_rfl) (ALes.refl _) (by first | rfl | simp [shuts, A.shut, C.shut]) (h) ?_)
 (refine WpL.go _ rfl fun Y y => ?_); repeat (first | (apply fw; (with_reducible constructor) <;> rfl) | (apply WpA.cd; constructor) | ((first | with_reducible refine WpA.go _ rfl fun Y y => ?_ | apply RunTo.id); simp only [zb, seval, ty_33]; refine RunTo.fn y (by first | (simp; done) | omega | (simp; omega)) ?_; clear y Y))
 refine ⟨by simp, _, _, _, _, (by simp only [zb, seval, ty_33]; rfl), (by simp), (by simp only [zv]; rfl), (by simp), _, ALe.refl _, ?_⟩
 rfl
theorem putN_tops (c : Cd) (x : K) (T : List Int) : putN { c with tops := T } x [] = { putN c x [] with tops := T } := by
 have h := emit_with x c [] c.nodes.length c.nodes T
 have e : c.with c.nodes T = { c with tops := T } := rfl
 rw [e] at h
 unfold putN
 rw [h]
 rfl
def RcdI (l : List K) (n : Nat) (st : St) : Prop := ∃ (i : Nat) (S : List (Option Ob)) (cN cC cG cP cT : C), n = l.length - i ∧ i ≤ l.length ∧ (∀ j (h : j < l.length), j < i → l[j].may true = true) ∧ CdIn S (codeN (l.take i)) cN cC cG cP cT ∧ S[0]? = some (some zeroCode) ∧ S[1]? = some (some (codeOb cN cC cG cP cT)) ∧
 st = ⟨[(5, .one (.v (.int .i64 i))), (0, .one (.sl 11 (l.map K.cc))), (2, .one (.ptr 0 1 0 0)), (4, .one (.ptr 1 1 0 0)), (3, .one (.v (.int .i64 0)))], S⟩
theorem rcode_pure (l : List K) (h : K.Lgs l) (hsd : K.Sds l) (hlen : l.length ≤ 1000000000) (hsz : K.sizes l ≤ 900000000) : Pure Tryd.prog 15 [.one (.sl 11 (l.map K.cc))] (codeA l) := by
 refine Fn.intro Tryd.func15 rfl Tryd.ntmps15 Tryd.results15 (by simp only [List.length_cons, List.length_nil]; decide) ?_
 repeat (first | (apply fw; (with_reducible constructor) <;> rfl) | (apply WpA.cd; constructor) | ((first | with_reducible refine WpA.go _ rfl fun Y y => ?_ | apply RunTo.id); simp only [zb, seval, w15]; refine RunTo.fn y (by first | (simp; done) | omega | (simp; omega)) ?_; clear y Y))
 refine WpA.loop (RcdI l) l.length (st0 := ⟨[(5, .one (.v (.int .i64 (0 : Nat)))), (0, .one (.sl 11 (l.map K.cc))), (2, .one (.ptr 0 1 0 0)), (4, .one (.ptr 1 1 0 0)), (3, .one (.v (.int .i64 0)))], [some zeroCode, some zeroCode]⟩) (Le.sub (by simp [Sub, find])) ⟨0, _, _, _, _, _, _, rfl, Nat.zero_le _, (fun j _ h => absurd h (Nat.not_lt_zero _)), ⟨At.nil _ _ _, At.nil _ _ _, At.nil _ _ _, At.nil _ _ _, At.nil _ _ _, fun j n m e => by cases e⟩, rfl, rfl, rfl⟩ ?_
 intro n' st hst
 obtain ⟨i, S, cN, cC, cG, cP, cT, rfl, hi, hall, hI, r0, r1, rfl⟩ := hst
 have hw2 : IntKind.i64.wrap ((i : Int) + 1) = ((i + 1 : Nat) : Int) := by rw [wrap64 (by omega) (by omega)]; omega
 have d0 := r0
 have d1 := r1
 simp only [zeroCode, codeOb] at d0
 simp only [codeOb] at d1
 have hl0 := (List.getElem?_eq_some_iff.1 r0).1
 have hl1 := (List.getElem?_eq_some_iff.1 r1).1
 by_cases hlt : i < l.length
 ·have hd1 : decide ((i : Int) < (l.length : Int)) = true := by simp; omega
  have hget := getK hlt
  have hml : l[i] ∈ l := List.getElem_mem _
  have hlg := h.mem hml
  have hmay := rmayK_pure l[i] hlg.ok hlg.sm (hsd.get i hlt)
  rw [K.cc_eq] at hget hmay
  cases hm : l[i].may true with
  | false =>
   rw [hm] at hmay
   have hno : l.all (·.may true) = false := by
    cases ha : l.all (·.may true) with
    | false => rfl
    | true => have := List.all_eq_true.1 ha _ hml; rw [hm] at this; cases this
   rw [codeA_no hno]
   repeat (first | (apply fw; (with_reducible constructor) <;> rfl) | (apply WpA.cd; constructor) | ((first | with_reducible refine WpA.go _ rfl fun Y y => ?_ | apply RunTo.id); simp only [zb, seval, w15, hd1, hget]; refine RunTo.fn y (by first | (simp; done) | omega | (simp; omega)) ?_; clear y Y))
   refine WpL.call rfl (guardA_sound (P := Tryd.prog) rfl) (CallA.shut rfl rfl (by kernel_rfl) (ALes.refl _) (by first | rfl | simp [shuts, A.shut, C.shut]) (hmay) ?_)
   (refine WpL.go _ rfl fun Y y => ?_); repeat (first | (apply fw; (with_reducible constructor) <;> rfl) | (apply WpA.cd; constructor) | ((first | with_reducible refine WpA.go _ rfl fun Y y => ?_ | apply RunTo.id); simp only [zb, seval, w15, d0]; refine RunTo.fn y (by first | (simp; done) | omega | (simp; omega)) ?_; clear y Y))
   refine ⟨.inl rfl, _, _, _, _, (by simp only [zb, seval, List.getElem?_set_self hl0, w15]; rfl), by simp, (by simp only [tupA, viewA, viewAs, viewCs, viewC]; rfl), by simp, _, ALe.tup (ALes.cons (ALe.agg (CLes.nil (CLes.nil (CLes.nil (CLes.nil (CLes.nil (CLes.refl _))))))) (ALes.refl _)), rfl⟩
  | true =>
   rw [hm] at hmay
   have htl := K.sizes_take_lt hlt
   have hmost := codeN_most (l.take i)
   have hnod := codeN_len (l.take i)
   have hht := l[i].ht_size
   have htl2 : (codeN (l.take i)).tops.length ≤ l.length := by rw [codeN_tops, List.length_take]; omega
   have hNl := hI.1.len
   rw [List.length_map] at hNl
   obtain ⟨S8, j8, hA8, hj8, hl8, hfr8, hpl8, hop8⟩ := append_op (P := Tryd.prog) (T := 37) (by_ := 8) elt_37 byt_37 zel_37 (by omega) (S := S ++ [some ⟨3, 1, [[.v (.int .i64 ((codeN (l.take i)).nodes.length : Int))]]⟩]) (hI.2.2.2.2.1.app _) (q := S.length) (new := [[.v (.int .i64 ((codeN (l.take i)).nodes.length : Int))]]) (by simp) (by simp) (fun n e => by have := hI.2.2.2.2.1.lt e; omega) (by rw [intC_len]; simp; omega) (by rw [intC_len]; simp; omega)
   have hrL : intC (codeN (l.take i)).tops ++ [[.v (.int .i64 ((codeN (l.take i)).nodes.length : Int))]] = intC ((codeN (l.take i)).tops ++ [((codeN (l.take i)).nodes.length : Int)]) := by rw [intC_app]; rfl
   rw [hrL] at hA8
   have hI8 := (hI.app _).setT hA8 hfr8
   have hoff : ∀ {j : Nat} {ob : Ob}, S[j]? = some (some ob) → ob.ty ≠ 3 → ∀ n, cT ≠ .ms j n := fun hj ht => hI.2.2.2.2.1.apart hj ht
   have w0 := hfr8 _ _ (up_app r0) (hoff r0 (by show (39 : Nat) ≠ _; decide))
   have w1 := hfr8 _ _ (up_app r1) (hoff r1 (by show (39 : Nat) ≠ _; decide))
   have hl8' := (List.getElem?_eq_some_iff.1 w1).1
   have w1' := w1
   simp only [codeOb] at w1'
   simp only [List.length_cons, List.length_nil, Nat.zero_add, intC_len] at hop8 hA8 hI8
   have hI9 := hI8.box (z := some (codeOb cN cC cG cP (.ms j8 ((codeN (l.take i)).tops.length + 1)))) w1 (by show (39 : Nat) ≠ _ ∧ (39 : Nat) ≠ _ ∧ (39 : Nat) ≠ _ ∧ (39 : Nat) ≠ _; decide)
   have hput := rput_upto l[i].ht l[i] (Nat.le_refl _) (hlg.pk hm) hlg _ _ [] _ _ _ _ _ hI9 (by show (codeN (l.take i)).most + _ ≤ _; omega) (by show (codeN (l.take i)).nodes.length + _ ≤ _; omega) (by simp; omega) (by simp)
   rw [K.cc_eq] at hput
   simp only [codeOb] at hput
   have z1 : ∀ z : Option Ob, (S8.set 1 z)[1]? = some z := fun z => List.getElem?_set_self hl8'
   repeat (first | (apply fw; (with_reducible constructor) <;> rfl) | (apply WpA.cd; constructor) | ((first | with_reducible refine WpA.go _ rfl fun Y y => ?_ | apply RunTo.id); simp only [zb, seval, w15, hd1, hget]; refine RunTo.fn y (by first | (simp; done) | omega | (simp; omega)) ?_; clear y Y))
   refine WpL.call rfl (guardA_sound (P := Tryd.prog) rfl) (CallA.shut rfl rfl (by kernel_rfl) (ALes.refl _) (by first | rfl | simp [shuts, A.shut, C.shut]) (hmay) ?_)
   ((refine WpL.go _ rfl fun Y y => ?_); simp only [zb, seval, w15]; (refine RunTo.fn y (by first | (simp; done) | omega | (simp; omega)) ?_); clear y Y); repeat (first | (apply fw; (with_reducible constructor) <;> rfl) | (apply WpA.cd; constructor))
   refine WpA.region ?_
   (try simp only [St.put]); (refine WpL.op rfl (guardA_sound (P := Tryd.prog) rfl) (aop_sound (by simp only [zb, seval, w15, d1, ↓hNl]; rfl) (by first | (simp; done) | omega | (simp; omega))) ?_); simp only [St.put]; (refine WpL.op rfl (guardA_sound (P := Tryd.prog) rfl) (aop_sound (by simp only [zb, seval, w15, d1, ↓hNl]; rfl) (by first | (simp; done) | omega | (simp; omega))) ?_); simp only [St.put]; (refine WpL.op rfl (guardA_sound (P := Tryd.prog) rfl) (aop_sound (by simp only [zb, seval, w15, d1, ↓hNl]; rfl) (by first | (simp; done) | omega | (simp; omega))) ?_); simp only [St.put]; (refine WpL.op rfl (guardA_sound (P := Tryd.prog) rfl) (aop_sound (by simp only [zb, seval, w15, d1, ↓hNl]; rfl) (by first | (simp; done) | omega | (simp; omega))) ?_); simp only [St.put]; (refine WpL.op rfl (guardA_sound (P := Tryd.prog) rfl) (aop_sound (by simp only [zb, seval, w15, d1, ↓hNl]; rfl) (by first | (simp; done) | omega | (simp; omega))) ?_); simp only [St.put]; (refine WpL.op rfl (guardA_sound (P := Tryd.prog) rfl) (aop_sound (by simp only [zb, seval, w15, d1, ↓hNl]; rfl) (by first | (simp; done) | omega | (simp; omega))) ?_); simp only [St.put]
   refine WpL.aop rfl (hop8 _ _ _ rfl rfl) ?_
   simp only [St.put]
   ((refine WpL.go _ rfl fun Y y => ?_); simp only [zb, seval, w15, w1']; (refine RunTo.fn y (by first | (simp; done) | omega | (simp; omega)) ?_); clear y Y); repeat (first | (apply fw; (with_reducible constructor) <;> rfl) | (apply WpA.cd; constructor))
   (refine WpA.draw0 5 _ _ _ rfl rfl rfl (by kernel_rfl) (by kernel_rfl) (by kernel_rfl) fun K8 hK8 => ?_); simp only [zz] at hK8 ⊢; (refine Draw0.go fun K7 hK7 => ?_); simp only [zb, seval, w15, z1, hget]; (refine RunQ.mk (by first | (simp; done) | omega | (simp; omega)) (hK7 _ _ ?_)); clear hK7 K7; (try ((refine Draw0.nil (hK8 _ ?_)); clear hK8 K8; (refine WpL.go _ rfl fun Y y => ?_); repeat (first | (apply fw; (with_reducible constructor) <;> rfl) | (apply WpA.cd; constructor) | ((first | with_reducible refine WpA.go _ rfl fun Y y => ?_ | apply RunTo.id); simp only [zb, seval, w15, z1, hget]; refine RunTo.fn y (by first | (simp; done) | omega | (simp; omega)) ?_; clear y Y))))
   refine WpL.handAll rfl (guardA_sound (P := Tryd.prog) rfl) rfl rfl (by kernel_rfl) (ALes.refl _) hput ?_
   rintro _ S9 ⟨fN, fC, fG, fP, rfl, hI', hF'⟩
   have g0 := hF'.2 0 _ ((List.getElem?_set_ne (by omega)).trans w0) (by show (39 : Nat) ∉ _; decide)
   have g1 := hF'.2 1 _ (z1 _) (by show (39 : Nat) ∉ _; decide)
   have hlg1 := (List.getElem?_eq_some_iff.1 g1).1
   (refine WpL.go _ rfl fun Y y => ?_); repeat (first | (apply fw; (with_reducible constructor) <;> rfl) | (apply WpA.cd; constructor) | ((first | with_reducible refine WpA.go _ rfl fun Y y => ?_ | apply RunTo.id); simp only [zb, seval, w15, g1, hw2]; refine RunTo.fn y (by first | (simp; done) | omega | (simp; omega)) ?_; clear y Y))
   refine ⟨l.length - (i + 1), _, by omega, Le.sub (by simp [Sub, find]), i + 1, S9.set 1 (some (codeOb fN fC fG fP (.ms j8 ((codeN (l.take i)).tops.length + 1)))), fN, fC, fG, fP, _, rfl, hlt, fun j hj hji => ?_, ?_, by rw [List.getElem?_set_ne (by omega)]; exact g0, List.getElem?_set_self hlg1, rfl⟩
   ·rcases Nat.lt_succ_iff_lt_or_eq.1 hji with h' | rfl
    ·exact hall j hj h'
    ·exact hm
   ·have h9 := hI'.box (z := some (codeOb fN fC fG fP (.ms j8 ((codeN (l.take i)).tops.length + 1)))) g1 (by show (39 : Nat) ≠ _ ∧ (39 : Nat) ≠ _ ∧ (39 : Nat) ≠ _ ∧ (39 : Nat) ≠ _; decide)
    rw [putN_tops] at h9
    rw [codeN_take hlt]
    exact h9
 ·have hd0 : decide ((i : Int) < (l.length : Int)) = false := by simp; omega
  have hii : i = l.length := by omega
  subst hii
  rw [List.take_length] at hI
  have hyes : l.all (·.may true) = true := List.all_eq_true.2 fun y hy => by
   obtain ⟨j, hj, rfl⟩ := List.mem_iff_getElem.1 hy
   exact hall j hj hj
  rw [codeA_yes hyes]
  repeat (first | (apply fw; (with_reducible constructor) <;> rfl) | (apply WpA.cd; constructor) | ((first | with_reducible refine WpA.go _ rfl fun Y y => ?_ | apply RunTo.id); simp only [zb, seval, w15, hd0, d1, d0]; refine RunTo.fn y (by first | (simp; done) | omega | (simp; omega)) ?_; clear y Y))
  repeat (first | (apply fw; (with_reducible constructor) <;> rfl) | (apply WpA.cd; constructor) | ((first | with_reducible refine WpA.go _ rfl fun Y y => ?_ | apply RunTo.id); simp only [zb, seval, w15, hd0, d1, d0]; refine RunTo.fn y (by first | (simp; done) | omega | (simp; omega)) ?_; clear y Y))
  have hI9 := hI.box (z := some ⟨39, 5, [[cN, cC, cG, cP, cT]]⟩) r0 (by show (39 : Nat) ≠ _ ∧ (39 : Nat) ≠ _ ∧ (39 : Nat) ≠ _ ∧ (39 : Nat) ≠ _; decide)
  obtain ⟨p1, c1, v1, w1, x1⟩ := hI9.1.see (nd_shut _)
  obtain ⟨p2, c2, v2, w2, x2⟩ := hI9.2.1.see (dat_shut _)
  obtain ⟨p3, c3, v3, w3, x3⟩ := hI9.2.2.1.see (strC_shut _)
  obtain ⟨p4, c4, v4, w4, x4⟩ := hI9.2.2.2.1.see (strC_shut _)
  obtain ⟨p5, c5, v5, w5, x5⟩ := hI9.2.2.2.2.1.see (intC_shut _)
  refine ⟨.inl rfl, _, _, _, _, (by simp only [zb, seval, List.getElem?_set_self hl0, w15]; rfl), by simp, (by simp only [tupA, viewA, viewAs, viewCs, viewC, v1, v2, v3, v4, v5]; rfl), by simp [w1, w2, w3, w4, w5], _, ALe.tup (ALes.cons (ALe.agg (x1 _ _ (x2 _ _ (x3 _ _ (x4 _ _ (x5 _ _ (CLes.refl _))))))) (ALes.refl _)), rfl⟩
theorem kcopied_pure (x : K) (hx : x.Lg) : Pure Tryd.prog 11 [.agg x.cc] (.agg x.cc) := by
 refine Fn.frozen (by simp only [A.shut, List.all_eq_true]; exact fun c hc => x.cc_shut c hc) (cop_upto x.ht x (Nat.le_refl _) hx []) ?_
 rintro r s ⟨cs, fp, rfl, h, -⟩
 exact h.fz fun _ _ => rfl
theorem weighs_mem (p : Nat × Nat × Nat × Nat) : ∀ (l : List D) (left : Int), left ≤ 3000 → 0 ≤ weighs p l left → ∀ x ∈ l, ∃ q, q ≤ 3000 ∧ 0 ≤ x.weigh p q
 | [], left, h, h0, x, hx => by cases hx
 | d :: l, left, h, h0, x, hx => by
  rw [weighs] at h0
  split at h0
  ·omega
  ·have h2 : 0 ≤ d.weigh p left := by
    refine Int.not_lt.1 fun hn => ?_
    rw [weighs_neg p l _ hn] at h0; omega
   have h3 := weigh_count p d left h2
   rcases List.mem_cons.1 hx with rfl | hx
   ·exact ⟨left, h, h2⟩
   ·exact weighs_mem p l _ (by omega) h0 x hx
theorem small19 : ∀ (n : Nat) (d : D) (left : Int), left ≤ 3000 → 0 ≤ d.weigh p19 left → SmallTo n d
 | 0, d, left, h, h0 => trivial
 | n + 1, d, left, h, h0 => by
  have hc := weigh_count p19 d left h0
  have hl := cnts_len d.l
  have hce := d.count_eq
  rw [D.weigh_eq] at h0 hc
  by_cases hb : p19.1 < d.t.size ∨ p19.2.1 < d.mag.length
  ·rw [if_pos hb] at h0; omega
  ·rw [if_neg hb] at h0 hc
   simp only [p19] at hb
   have q1 : (0 : Int) ≤ ((d.t.size / p19.2.2.1 : Nat) : Int) := Int.natCast_nonneg _
   have q2 : (0 : Int) ≤ ((d.mag.length / p19.2.2.2 : Nat) : Int) := Int.natCast_nonneg _
   refine ⟨by omega, by omega, by omega, fun x hx => ?_⟩
   obtain ⟨q, hq, h1⟩ := weighs_mem p19 d.l _ (by omega) h0 x hx
   exact small19 n x q hq h1
mutual
theorem meas_sd : ∀ (x : K) (left : Int), 0 ≤ left → left ≤ 3000 → 0 ≤ x.meas left → x.Sd
 | .mk k name rest params d l, left, h, hl, h0 => by
  rw [K.meas_eq] at h0
  by_cases hc : 100 < (K.mk k name rest params d l).params.length ∨ 500 < (K.mk k name rest params d l).name.size ∨ 500 < (K.mk k name rest params d l).rest.size ∨ ∃ s ∈ (K.mk k name rest params d l).params, 500 < s.size
  ·rw [if_pos hc] at h0; omega
  ·rw [if_neg hc] at h0
   have h1 := w19_bd d (left - 1) (by omega)
   change 0 ≤ K.meass l (d.weigh p19 (left - 1)) at h0
   have h3 : 0 ≤ d.weigh p19 (left - 1) := by
    refine Int.not_lt.1 fun hn => ?_
    rw [meass_neg _ _ hn] at h0; omega
   exact ⟨small19 _ d _ (by omega) h3, meass_sd l _ (by omega) h0⟩
theorem meass_sd : ∀ (l : List K) (left : Int), left ≤ 3000 → 0 ≤ K.meass l left → K.Sds l
 | [], _, _, _ => trivial
 | x :: l, left, hl, h => by
  rw [K.meass] at h
  by_cases hc : left < 0
  ·rw [if_pos hc] at h; omega
  ·rw [if_neg hc] at h
   by_cases hx : x.meas left < 0
   ·rw [meass_neg _ _ hx] at h; omega
   ·have h1 := meas_bd x left (by omega)
    exact ⟨meas_sd x left (by omega) hl (by omega), meass_sd l _ (by omega) h⟩
end
theorem codeA_one (l : List K) (hsz : K.sizes l ≤ 1500) : ∃ (a : Cd) (ev : Int), codeA l = .tup [.agg (codeC a), .one (.v (.int .i64 ev))] ∧ a.Bd := by
 cases hm : l.all (·.may true) with
 | false => exact ⟨.zero, 1, codeA_no hm, ⟨by simp [Cd.zero], by simp [Cd.zero], by simp [Cd.zero], by simp [Cd.zero], by simp [Cd.zero]⟩⟩
 | true => exact ⟨codeN l, 0, codeA_yes hm, codeN_bd l (by omega)⟩
def OwnI (l : List K) (n : Nat) (st : St) : Prop := ∃ (i : Nat) (S : List (Option Ob)) (cO : C), n = l.length - i ∧ i ≤ l.length ∧ At 33 11 S cO ((l.take i).map K.cc) ∧
 st = ⟨[(4, .one (.v (.int .i64 i))), (3, .one cO), (0, .one (.sl 11 (l.map K.cc)))], S⟩
theorem lawCode_pure (l : List K) (hok : K.Oks l) (hlen : l.length ≤ 1000000000000000) : Pure Tryd.prog 3 [.one (.sl 11 (l.map K.cc))] (.one (.v (.bool true))) := by
 have hh := heavy_pure l hok hlen
 have hlt := fun h => light_all (l := l) hok h
 cases hb1 : decide (K.meass l 1500 < 0)
 case true =>
  rw [hb1] at hh
  refine Fn.intro Tryd.func3 rfl Tryd.ntmps3 Tryd.results3 (by simp only [List.length_cons, List.length_nil]; decide) ?_
  repeat (first | (apply fw; (with_reducible constructor) <;> rfl) | (apply WpA.cd; constructor) | ((first | with_reducible refine WpA.go _ rfl fun Y y => ?_ | apply RunTo.id); simp only [zb, seval, w3]; refine RunTo.fn y (by first | (simp; done) | omega | (simp; omega)) ?_; clear y Y))
  refine WpL.call rfl (guardA_sound (P := Tryd.prog) rfl) (CallA.shut rfl rfl (by kernel_rfl) (ALes.refl _) (by first | rfl | simp [shuts, A.shut, C.shut]) (hh) ?_)
  (refine WpL.go _ rfl fun Y y => ?_); repeat (first | (apply fw; (with_reducible constructor) <;> rfl) | (apply WpA.cd; constructor) | ((first | with_reducible refine WpA.go _ rfl fun Y y => ?_ | apply RunTo.id); simp only [zb, seval, w3]; refine RunTo.fn y (by first | (simp; done) | omega | (simp; omega)) ?_; clear y Y))
  refine WpL.call rfl (guardA_sound (P := Tryd.prog) rfl) (CallA.shut rfl rfl (by kernel_rfl) (ALes.refl _) (by first | rfl | simp [shuts, A.shut, C.shut]) (awake_pure) ?_)
  (refine WpL.go _ rfl fun Y y => ?_); repeat (first | (apply fw; (with_reducible constructor) <;> rfl) | (apply WpA.cd; constructor) | ((first | with_reducible refine WpA.go _ rfl fun Y y => ?_ | apply RunTo.id); simp only [zb, seval, w3]; refine RunTo.fn y (by first | (simp; done) | omega | (simp; omega)) ?_; clear y Y))
  refine ⟨by simp, _, _, _, _, (by simp only [zb, seval, w3]; rfl), (by simp), (by simp only [zv]; rfl), (by simp), _, ALe.refl _, ?_⟩
  rfl
 rw [hb1] at hh
 obtain ⟨hlg, hsz, hll⟩ := hlt (of_decide_eq_false hb1)
 have hsd := meass_sd l 1500 (by omega) (Int.not_lt.1 (of_decide_eq_false hb1))
 have hcp := code_pure l hlg (by omega) (by omega)
 have rcp := rcode_pure l hlg hsd (by omega) (by omega)
 obtain ⟨a, ev, ha, hbd⟩ := codeA_one l hsz
 rw [ha] at hcp rcp
 have hsame := sameCode_pure a a hbd
 rw [eqB_pos rfl] at hsame
 simp only [codeC] at hcp rcp hsame
 refine Fn.intro Tryd.func3 rfl Tryd.ntmps3 Tryd.results3 (by simp only [List.length_cons, List.length_nil]; decide) ?_
 repeat (first | (apply fw; (with_reducible constructor) <;> rfl) | (apply WpA.cd; constructor) | ((first | with_reducible refine WpA.go _ rfl fun Y y => ?_ | apply RunTo.id); simp only [zb, seval, w3]; refine RunTo.fn y (by first | (simp; done) | omega | (simp; omega)) ?_; clear y Y))
 refine WpL.call rfl (guardA_sound (P := Tryd.prog) rfl) (CallA.shut rfl rfl (by kernel_rfl) (ALes.refl _) (by first | rfl | simp [shuts, A.shut, C.shut]) (hh) ?_)
 (refine WpL.go _ rfl fun Y y => ?_); repeat (first | (apply fw; (with_reducible constructor) <;> rfl) | (apply WpA.cd; constructor) | ((first | with_reducible refine WpA.go _ rfl fun Y y => ?_ | apply RunTo.id); simp only [zb, seval, w3]; refine RunTo.fn y (by first | (simp; done) | omega | (simp; omega)) ?_; clear y Y))
 refine WpA.loop (OwnI l) l.length (st0 := ⟨[(4, .one (.v (.int .i64 (0 : Nat)))), (3, .one (.v (.slice none 0 0))), (0, .one (.sl 11 (l.map K.cc)))], []⟩) (Le.sub (by simp [Sub, find])) ⟨0, _, _, rfl, Nat.zero_le _, At.nil _ _ _, rfl⟩ ?_
 intro n' st hst
 obtain ⟨i, S, cO, rfl, hi, hA, rfl⟩ := hst
 have hw2 : IntKind.i64.wrap ((i : Int) + 1) = ((i + 1 : Nat) : Int) := by rw [wrap64 (by omega) (by omega)]; omega
 by_cases hlt : i < l.length
 ·have hd1 : decide ((i : Int) < (l.length : Int)) = true := by simp; omega
  have hget := getK hlt
  have hml : l[i] ∈ l := List.getElem_mem _
  have hlgi := hlg.mem hml
  have hcpi := kcopied_pure l[i] hlgi
  have hm1 := may_pure l[i] hlgi.ok hlgi.sm
  have hm2 := rmayK_pure l[i] hlgi.ok hlgi.sm (hsd.get i hlt)
  generalize l[i].may true = mb at hm1 hm2
  obtain ⟨S8, jL, hA8, hj8, hl8, hfr8, hpl8, hop8⟩ := append_op (P := Tryd.prog) (T := 22) (by_ := 176) elt_22 byt_22 zel_22 (by omega) (S := S ++ [some ⟨33, 11, [l[i].cc]⟩]) (hA.app _) (q := S.length) (new := [l[i].cc]) (by simp) (by simp) (fun n e => by have := hA.lt e; omega) (by simp; omega) (by simp; omega)
  have hrL : ((l.take i).map K.cc) ++ [l[i].cc] = (l.take (i + 1)).map K.cc := by rw [List.take_succ_eq_append_getElem hlt, List.map_append]; rfl
  rw [hrL] at hA8
  rw [K.cc_eq l[i]] at hop8 hget hcpi hm1 hm2
  simp only [List.length_cons, List.length_nil, Nat.zero_add] at hop8 hA8
  repeat (first | (apply fw; (with_reducible constructor) <;> rfl) | (apply WpA.cd; constructor) | ((first | with_reducible refine WpA.go _ rfl fun Y y => ?_ | apply RunTo.id); simp only [zb, seval, w3, hd1, hget]; refine RunTo.fn y (by first | (simp; done) | omega | (simp; omega)) ?_; clear y Y))
  refine WpL.call rfl (guardA_sound (P := Tryd.prog) rfl) (CallA.shut rfl rfl (by kernel_rfl) (ALes.refl _) (by first | rfl | simp [shuts, A.shut, C.shut]) (hcpi) ?_)
  (try simp only [St.put]); (refine WpL.op rfl (guardA_sound (P := Tryd.prog) rfl) (aop_sound (by simp only [zb, seval, w3]; rfl) (by first | (simp; done) | omega | (simp; omega))) ?_); simp only [St.put]
  refine WpL.aop rfl (hop8 _ _ _ rfl rfl) ?_
  simp only [St.put]
  ((refine WpL.go _ rfl fun Y y => ?_); simp only [zb, seval, w3]; (refine RunTo.fn y (by first | (simp; done) | omega | (simp; omega)) ?_); clear y Y); repeat (first | (apply fw; (with_reducible constructor) <;> rfl) | (apply WpA.cd; constructor))
  (refine WpA.draw0 10 _ _ _ rfl rfl rfl (by kernel_rfl) (by kernel_rfl) (by kernel_rfl) fun K8 hK8 => ?_); simp only [zz] at hK8 ⊢; (refine Draw0.go fun K7 hK7 => ?_); simp only [zb, seval, w3, hget]; (refine RunQ.mk (by first | (simp; done) | omega | (simp; omega)) (hK7 _ _ ?_)); clear hK7 K7; (try ((refine Draw0.nil (hK8 _ ?_)); clear hK8 K8; (refine WpL.go _ rfl fun Y y => ?_); repeat (first | (apply fw; (with_reducible constructor) <;> rfl) | (apply WpA.cd; constructor) | ((first | with_reducible refine WpA.go _ rfl fun Y y => ?_ | apply RunTo.id); simp only [zb, seval, w3, hget]; refine RunTo.fn y (by first | (simp; done) | omega | (simp; omega)) ?_; clear y Y))))
  refine Draw0.step (OpS.shut rfl rfl rfl (by kernel_rfl) (ALes.refl _) (by first | rfl | simp [shuts, A.shut, C.shut]) (hm1)) ?_
  (refine Draw0.go fun K7 hK7 => ?_); simp only [zb, seval, w3, hget]; (refine RunQ.mk (by first | (simp; done) | omega | (simp; omega)) (hK7 _ _ ?_)); clear hK7 K7; (try ((refine Draw0.nil (hK8 _ ?_)); clear hK8 K8; (refine WpL.go _ rfl fun Y y => ?_); repeat (first | (apply fw; (with_reducible constructor) <;> rfl) | (apply WpA.cd; constructor) | ((first | with_reducible refine WpA.go _ rfl fun Y y => ?_ | apply RunTo.id); simp only [zb, seval, w3, hget]; refine RunTo.fn y (by first | (simp; done) | omega | (simp; omega)) ?_; clear y Y))))
  refine Draw0.step (OpS.shut rfl rfl rfl (by kernel_rfl) (ALes.refl _) (by first | rfl | simp [shuts, A.shut, C.shut]) (hm2)) ?_
  (refine Draw0.go fun K7 hK7 => ?_); simp only [zb, seval, w3, hw2]; (refine RunQ.mk (by first | (simp; done) | omega | (simp; omega)) (hK7 _ _ ?_)); clear hK7 K7; (try ((refine Draw0.nil (hK8 _ ?_)); clear hK8 K8; (refine WpL.go _ rfl fun Y y => ?_); repeat (first | (apply fw; (with_reducible constructor) <;> rfl) | (apply WpA.cd; constructor) | ((first | with_reducible refine WpA.go _ rfl fun Y y => ?_ | apply RunTo.id); simp only [zb, seval, w3, hw2]; refine RunTo.fn y (by first | (simp; done) | omega | (simp; omega)) ?_; clear y Y))))
  exact ⟨l.length - (i + 1), _, by omega, Le.sub (by simp [Sub, find]), i + 1, S8, _, rfl, hlt, hA8, rfl⟩
 ·have hd0 : decide ((i : Int) < (l.length : Int)) = false := by simp; omega
  have hii : i = l.length := by omega
  subst hii
  rw [List.take_length] at hA
  repeat (first | (apply fw; (with_reducible constructor) <;> rfl) | (apply WpA.cd; constructor) | ((first | with_reducible refine WpA.go _ rfl fun Y y => ?_ | apply RunTo.id); simp only [zb, seval, w3, hd0]; refine RunTo.fn y (by first | (simp; done) | omega | (simp; omega)) ?_; clear y Y))
  obtain ⟨S8, z, hz1, hz2, hz3, hz4⟩ := hA.freeze (fun r hr c hc => by
   obtain ⟨x, _, rfl⟩ := List.mem_map.1 hr
   exact x.cc_shut c hc)
  refine WpL.le (st' := ⟨[(39, .one (.sl 11 (l.map K.cc))), (3, .one (.sl 11 (l.map K.cc))), (0, .one (.sl 11 (l.map K.cc)))], []⟩) ?_ ?_
  ·refine (Le.freeze (e' := [(39, .one (.sl 11 (l.map K.cc))), (3, .one (.sl 11 (l.map K.cc))), (0, .one (.sl 11 (l.map K.cc)))]) z hz1 ?_).trans (Le.drop 0 (Nat.zero_le _) rfl (by simp [Sub, find]) rfl (by simp [ObBd]))
   simp only [SubZ]
   exact ⟨⟨_, rfl, hz2⟩, ⟨_, rfl, hz2⟩, ⟨_, rfl, FzA.same _ _ _⟩, trivial⟩
  clear hz1 hz2 hz3 hz4 hA
  refine WpL.call rfl (guardA_sound (P := Tryd.prog) rfl) (CallA.shut rfl rfl (by kernel_rfl) (ALes.refl _) (by first | rfl | simp [shuts, A.shut, C.shut]) (hcp) ?_)
  (refine WpL.go _ rfl fun Y y => ?_); repeat (first | (apply fw; (with_reducible constructor) <;> rfl) | (apply WpA.cd; constructor) | ((first | with_reducible refine WpA.go _ rfl fun Y y => ?_ | apply RunTo.id); simp only [zb, seval, w3]; refine RunTo.fn y (by first | (simp; done) | omega | (simp; omega)) ?_; clear y Y))
  refine WpL.call rfl (guardA_sound (P := Tryd.prog) rfl) (CallA.shut rfl rfl (by kernel_rfl) (ALes.refl _) (by first | rfl | simp [shuts, A.shut, C.shut]) (rcp) ?_)
  (refine WpL.go _ rfl fun Y y => ?_); repeat (first | (apply fw; (with_reducible constructor) <;> rfl) | (apply WpA.cd; constructor) | ((first | with_reducible refine WpA.go _ rfl fun Y y => ?_ | apply RunTo.id); simp only [zb, seval, w3]; refine RunTo.fn y (by first | (simp; done) | omega | (simp; omega)) ?_; clear y Y))
  refine WpA.loop (fun n st => ∃ i, n = l.length - i ∧ i ≤ l.length ∧ st = ⟨[(9, .one (.v (.int .i64 (i : Nat)))), (3, .one (.sl 11 (l.map K.cc))), (0, .one (.sl 11 (l.map K.cc))), (5, .one (.ptr 0 1 0 0)), (7, .one (.ptr 1 1 0 0)), (6, .one (.v (.int .i64 ev))), (8, .one (.v (.int .i64 ev)))], [some ⟨39, 5, [[.sl 4 (a.nodes.map Nd.row), .sl 6 (a.consts.map D.cc), .sl 1 (strC a.globals), .sl 1 (strC a.prims), .sl 1 (intC a.tops)]]⟩, some ⟨39, 5, [[.sl 4 (a.nodes.map Nd.row), .sl 6 (a.consts.map D.cc), .sl 1 (strC a.globals), .sl 1 (strC a.prims), .sl 1 (intC a.tops)]]⟩]⟩) l.length (Le.sub (by simp [Sub, find])) ⟨0, rfl, Nat.zero_le _, rfl⟩ ?_
  rintro n' st ⟨i, rfl, hi', rfl⟩
  have hw3 : IntKind.i64.wrap ((i : Int) + 1) = ((i + 1 : Nat) : Int) := by rw [wrap64 (by omega) (by omega)]; omega
  by_cases hlt : i < l.length
  ·have hd1 : decide ((i : Int) < (l.length : Int)) = true := by simp; omega
   have hget := getK hlt
   have hml : l[i] ∈ l := List.getElem_mem _
   have hsi := sameK_pure l[i] l[i] (hlg.mem hml).ok
   rw [eqB_pos rfl] at hsi
   rw [K.cc_eq] at hget hsi
   repeat (first | (apply fw; (with_reducible constructor) <;> rfl) | (apply WpA.cd; constructor) | ((first | with_reducible refine WpA.go _ rfl fun Y y => ?_ | apply RunTo.id); simp only [zb, seval, w3, hd1]; refine RunTo.fn y (by first | (simp; done) | omega | (simp; omega)) ?_; clear y Y))
   (refine WpA.draw0 9 _ _ _ rfl rfl rfl (by kernel_rfl) (by kernel_rfl) (by kernel_rfl) fun K8 hK8 => ?_); simp only [zz] at hK8 ⊢; (refine Draw0.go fun K7 hK7 => ?_); simp only [zb, seval, w3, hget]; (refine RunQ.mk (by first | (simp; done) | omega | (simp; omega)) (hK7 _ _ ?_)); clear hK7 K7; (try ((refine Draw0.nil (hK8 _ ?_)); clear hK8 K8; (refine WpL.go _ rfl fun Y y => ?_); repeat (first | (apply fw; (with_reducible constructor) <;> rfl) | (apply WpA.cd; constructor) | ((first | with_reducible refine WpA.go _ rfl fun Y y => ?_ | apply RunTo.id); simp only [zb, seval, w3, hget]; refine RunTo.fn y (by first | (simp; done) | omega | (simp; omega)) ?_; clear y Y))))
   refine Draw0.step (OpS.shut rfl rfl rfl (by kernel_rfl) (ALes.refl _) (by first | rfl | simp [shuts, A.shut, C.shut]) (hsi)) ?_
   (refine Draw0.go fun K7 hK7 => ?_); simp only [zb, seval, w3, hw3]; (refine RunQ.mk (by first | (simp; done) | omega | (simp; omega)) (hK7 _ _ ?_)); clear hK7 K7; (try ((refine Draw0.nil (hK8 _ ?_)); clear hK8 K8; (refine WpL.go _ rfl fun Y y => ?_); repeat (first | (apply fw; (with_reducible constructor) <;> rfl) | (apply WpA.cd; constructor) | ((first | with_reducible refine WpA.go _ rfl fun Y y => ?_ | apply RunTo.id); simp only [zb, seval, w3, hw3]; refine RunTo.fn y (by first | (simp; done) | omega | (simp; omega)) ?_; clear y Y))))
   exact ⟨l.length - (i + 1), _, by omega, Le.sub (by simp [Sub, find]), i + 1, rfl, hlt, rfl⟩
  ·have hd2 : decide ((i : Int) < (l.length : Int)) = false := by simp; omega
   repeat (first | (apply fw; (with_reducible constructor) <;> rfl) | (apply WpA.cd; constructor) | ((first | with_reducible refine WpA.go _ rfl fun Y y => ?_ | apply RunTo.id); simp only [zb, seval, w3, hd2]; refine RunTo.fn y (by first | (simp; done) | omega | (simp; omega)) ?_; clear y Y))
   repeat (first | (apply fw; (with_reducible constructor) <;> rfl) | (apply WpA.cd; constructor) | ((first | with_reducible refine WpA.go _ rfl fun Y y => ?_ | apply RunTo.id); simp only [zb, seval, w3, hd2]; refine RunTo.fn y (by first | (simp; done) | omega | (simp; omega)) ?_; clear y Y))
   refine WpL.call rfl (guardA_sound (P := Tryd.prog) rfl) (CallA.shut rfl rfl (by kernel_rfl) (ALes.refl _) (by first | rfl | simp [shuts, A.shut, C.shut]) (hsame) ?_)
   (refine WpL.go _ rfl fun Y y => ?_); repeat (first | (apply fw; (with_reducible constructor) <;> rfl) | (apply WpA.cd; constructor) | ((first | with_reducible refine WpA.go _ rfl fun Y y => ?_ | apply RunTo.id); simp only [zb, seval, w3]; refine RunTo.fn y (by first | (simp; done) | omega | (simp; omega)) ?_; clear y Y))
   refine WpL.call rfl (guardA_sound (P := Tryd.prog) rfl) (CallA.shut rfl rfl (by kernel_rfl) (ALes.refl _) (by first | rfl | simp [shuts, A.shut, C.shut]) (awake_pure) ?_)
   (refine WpL.go _ rfl fun Y y => ?_); repeat (first | (apply fw; (with_reducible constructor) <;> rfl) | (apply WpA.cd; constructor) | ((first | with_reducible refine WpA.go _ rfl fun Y y => ?_ | apply RunTo.id); simp only [zb, seval, w3]; refine RunTo.fn y (by first | (simp; done) | omega | (simp; omega)) ?_; clear y Y))
   refine ⟨by simp, _, _, _, _, (by simp only [zb, seval, w3]; rfl), (by simp), (by simp only [zv]; rfl), (by simp), _, ALe.refl _, ?_⟩
   rfl
end Go.Proofs.YtpacdmgnpadleaaDoor
end
