/-
 Laid together: Meas19, MeasB19, Awake19, Pre19, RefA19, SameC19.
-/
import Derived.Test.YtpacdmgnpadleaaDoorG7
import Derived.Test.YtpacdmgnpadleaaDoorG4
import Derived.Test.YtpacdmgnpadleaaDoorG5
import Derived.Test.YtpacdmgnpadleaaDoorSame3
section
namespace Go.Proofs.YtpacdmgnpadleaaDoor
open Go Go.RowKit Go.Lib
set_option linter.unusedSimpArgs false
set_option linter.unusedVariables false
set_option maxHeartbeats 4000000
set_option maxRecDepth 100000
def p19 : Nat × Nat × Nat × Nat := (300, 100, 1000, 1000)
theorem w19_eq (d : D) (left : Int) : d.weigh p19 left = if 300 < d.t.size ∨ 100 < d.mag.length then -1 else weighs p19 d.l (left - 1) := by
 rw [D.weigh_eq]
 show (if 300 < d.t.size ∨ 100 < d.mag.length then (-1 : Int) else weighs p19 d.l (left - 1 - (d.t.size / 1000 : Nat) - (d.mag.length / 1000 : Nat))) = _
 by_cases h : 300 < d.t.size ∨ 100 < d.mag.length
 ·rw [if_pos h, if_pos h]
 ·rw [if_neg h, if_neg h, Nat.div_eq_of_lt (by omega), Nat.div_eq_of_lt (by omega)]
  simp
mutual
theorem w19_bd : ∀ (d : D) (left : Int), -1 ≤ left → -2 ≤ d.weigh p19 left ∧ d.weigh p19 left ≤ max left (-1)
 | .mk k c neg mag t l, left, h => by
  rw [w19_eq]
  by_cases hc : 300 < (D.mk k c neg mag t l).t.size ∨ 100 < (D.mk k c neg mag t l).mag.length
  ·rw [if_pos hc]; omega
  ·rw [if_neg hc]
   have := ws19_bd l (left - 1) (by omega)
   show -2 ≤ weighs p19 l (left - 1) ∧ weighs p19 l (left - 1) ≤ max left (-1)
   omega
theorem ws19_bd : ∀ (l : List D) (left : Int), -2 ≤ left → -2 ≤ weighs p19 l left ∧ weighs p19 l left ≤ max left (-1)
 | [], left, h => by simp only [weighs]; omega
 | d :: l, left, h => by
  rw [weighs]
  by_cases hc : left < 0
  ·rw [if_pos hc]; omega
  ·rw [if_neg hc]
   have h1 := w19_bd d left (by omega)
   have h2 := ws19_bd l (d.weigh p19 left) (by omega)
   omega
end
def WgI (d : D) (left : Int) (n : Nat) (st : St) : Prop := ∃ i : Nat, n = d.l.length - i ∧ i ≤ d.l.length ∧
 st = ⟨[(5, .one (.v (.int .i64 i))), (1, .one (.v (.int .i64 (weighs p19 (d.l.take i) (left - 1))))), (2, .one (.ptr 0 1 0 0))], [some ⟨31, 6, [[.v (.int .i64 d.k), .v (.int .i32 d.c), .v (.bool d.neg), .sl 1 (d.mag.map fun n => [.v (.int .u32 n)]), .v (.string d.t), .sl 6 (d.l.map D.cc)]]⟩]⟩
theorem w19_upto : ∀ n (d : D), d.ht ≤ n → d.Ok → ∀ left : Int, -1 ≤ left → left ≤ 1000000000 → Pure Tryd.prog 36 [.agg d.cc, .one (.v (.int .i64 left))] (.one (.v (.int .i64 (d.weigh p19 left)))) := by
 intro n
 induction n with
 | zero => intro d h; exact absurd h (by cases d; rw [D.ht]; omega)
 | succ n ih =>
  intro d hh hok left h0 h1
  have hws : IntKind.i64.wrap (left - 1) = left - 1 := wrap64 (by omega) (by omega)
  have hlen : d.l.length ≤ 100000000000000 := by cases d; have := hok.2.2.2.2.1.2; simp only [D.l]; omega
  rw [w19_eq]
  have hts : decide ((300 : Int) < (d.t.size : Int)) = decide (300 < d.t.size) := by apply decide_eq_decide.2; omega
  have hms : decide ((100 : Int) < (d.mag.length : Int)) = decide (100 < d.mag.length) := by apply decide_eq_decide.2; omega
  rw [D.cc_eq]
  by_cases ht : 300 < d.t.size
  ·rw [if_pos (.inl ht)]
   refine Fn.intro Tryd.func36 rfl Tryd.ntmps36 Tryd.results36 (by simp only [List.length_cons, List.length_nil]; decide) ?_
   repeat (first | (apply fw; (with_reducible constructor) <;> rfl) | (apply WpA.cd; constructor) | ((first | with_reducible refine WpA.go _ rfl fun Y y => ?_ | apply RunTo.id); simp only [zb, seval, w36, hws, hts, ht]; refine RunTo.fn y (by first | (simp; done) | omega | (simp; omega)) ?_; clear y Y))
   refine ⟨by simp, _, _, _, _, (by simp only [zb, seval, w36]; rfl), (by simp), (by simp only [zv]; rfl), (by simp), _, ALe.refl _, ?_⟩
   rfl
  by_cases hm : 100 < d.mag.length
  ·rw [if_pos (.inr hm)]
   refine Fn.intro Tryd.func36 rfl Tryd.ntmps36 Tryd.results36 (by simp only [List.length_cons, List.length_nil]; decide) ?_
   repeat (first | (apply fw; (with_reducible constructor) <;> rfl) | (apply WpA.cd; constructor) | ((first | with_reducible refine WpA.go _ rfl fun Y y => ?_ | apply RunTo.id); simp only [zb, seval, w36, hws, hts, ht, hms, hm]; refine RunTo.fn y (by first | (simp; done) | omega | (simp; omega)) ?_; clear y Y))
   refine ⟨by simp, _, _, _, _, (by simp only [zb, seval, w36]; rfl), (by simp), (by simp only [zv]; rfl), (by simp), _, ALe.refl _, ?_⟩
   rfl
  rw [if_neg (by omega)]
  refine Fn.intro Tryd.func36 rfl Tryd.ntmps36 Tryd.results36 (by simp only [List.length_cons, List.length_nil]; decide) ?_
  repeat (first | (apply fw; (with_reducible constructor) <;> rfl) | (apply WpA.cd; constructor) | ((first | with_reducible refine WpA.go _ rfl fun Y y => ?_ | apply RunTo.id); simp only [zb, seval, w36, hws, hts, ht, hms, hm]; refine RunTo.fn y (by first | (simp; done) | omega | (simp; omega)) ?_; clear y Y))
  refine WpA.loop (WgI d left) d.l.length ?_ ⟨0, rfl, Nat.zero_le _, rfl⟩ ?_
  ·exact Le.drop 1 (Nat.zero_le _) rfl (by simp [Sub, find, weighs]) rfl (by simp [ObBd, C.bd])
  intro n' st hst
  obtain ⟨i, rfl, hi, rfl⟩ := hst
  have hw2 : IntKind.i64.wrap ((i : Int) + 1) = ((i + 1 : Nat) : Int) := by rw [wrap64 (by omega) (by omega)]; omega
  have hbd := ws19_bd (d.l.take i) (left - 1) (by omega)
  generalize hv : weighs p19 (d.l.take i) (left - 1) = v at *
  by_cases hlt : i < d.l.length
  ·have hd1 : decide ((i : Int) < (d.l.length : Int)) = true := by simp; omega
   by_cases hn : v < 0
   ·have hge : decide ((0 : Int) ≤ v) = false := by simp; omega
    have hst := weighs_stop p19 d.l (left - 1) i (by rw [hv]; exact hn)
    repeat (first | (apply fw; (with_reducible constructor) <;> rfl) | (apply WpA.cd; constructor) | ((first | with_reducible refine WpA.go _ rfl fun Y y => ?_ | apply RunTo.id); simp only [zb, seval, w36, hd1, hge]; refine RunTo.fn y (by first | (simp; done) | omega | (simp; omega)) ?_; clear y Y))
    repeat (first | (apply fw; (with_reducible constructor) <;> rfl) | (apply WpA.cd; constructor) | ((first | with_reducible refine WpA.go _ rfl fun Y y => ?_ | apply RunTo.id); simp only [zb, seval, w36, hd1, hge]; refine RunTo.fn y (by first | (simp; done) | omega | (simp; omega)) ?_; clear y Y))
    refine ⟨by simp, _, _, _, _, (by simp only [zb, seval, w36]; rfl), (by simp), (by simp only [zv]; rfl), (by simp), _, ALe.refl _, ?_⟩
    rw [hst, hv]
   ·have hge : decide ((0 : Int) ≤ v) = true := by simp; omega
    have hget := getC hlt
    have hc := ih d.l[i] (by have := D.ht_lt hlt; omega) (by cases d; exact hok.2.2.2.2.2.get i hlt) v (by omega) (by omega)
    have hsu := weighs_succ p19 d.l (left - 1) i hlt (by rw [hv]; exact hn)
    rw [D.cc_eq] at hget hc
    repeat (first | (apply fw; (with_reducible constructor) <;> rfl) | (apply WpA.cd; constructor) | ((first | with_reducible refine WpA.go _ rfl fun Y y => ?_ | apply RunTo.id); simp only [zb, seval, w36, hd1, hge, hget]; refine RunTo.fn y (by first | (simp; done) | omega | (simp; omega)) ?_; clear y Y))
    refine WpL.call rfl (guardA_sound (P := Tryd.prog) rfl) (CallA.shut rfl rfl (by kernel_rfl) (ALes.refl _) (by first | rfl | simp [shuts, A.shut, C.shut]) (hc) ?_)
    (refine WpL.go _ rfl fun Y y => ?_); repeat (first | (apply fw; (with_reducible constructor) <;> rfl) | (apply WpA.cd; constructor) | ((first | with_reducible refine WpA.go _ rfl fun Y y => ?_ | apply RunTo.id); simp only [zb, seval, w36, hw2]; refine RunTo.fn y (by first | (simp; done) | omega | (simp; omega)) ?_; clear y Y))
    refine ⟨d.l.length - (i + 1), _, by omega, ?_, i + 1, rfl, hlt, rfl⟩
    rw [hsu, hv]
    exact Le.drop 1 (Nat.zero_le _) rfl (by simp [Sub, find]) rfl (by simp [ObBd, C.bd])
  ·have hd0 : decide ((i : Int) < (d.l.length : Int)) = false := by simp; omega
   have hii : i = d.l.length := by omega
   subst hii
   repeat (first | (apply fw; (with_reducible constructor) <;> rfl) | (apply WpA.cd; constructor) | ((first | with_reducible refine WpA.go _ rfl fun Y y => ?_ | apply RunTo.id); simp only [zb, seval, w36, hd0]; refine RunTo.fn y (by first | (simp; done) | omega | (simp; omega)) ?_; clear y Y))
   repeat (first | (apply fw; (with_reducible constructor) <;> rfl) | (apply WpA.cd; constructor) | ((first | with_reducible refine WpA.go _ rfl fun Y y => ?_ | apply RunTo.id); simp only [zb, seval, w36, hd0]; refine RunTo.fn y (by first | (simp; done) | omega | (simp; omega)) ?_; clear y Y))
   refine ⟨by simp, _, _, _, _, (by simp only [zb, seval, w36]; rfl), (by simp), (by simp only [zv]; rfl), (by simp), _, ALe.refl _, ?_⟩
   rw [List.take_length] at hv
   rw [hv]
theorem w19_pure (d : D) (hok : d.Ok) (left : Int) (h0 : -1 ≤ left) (h1 : left ≤ 1000000000) : Pure Tryd.prog 36 [.agg d.cc, .one (.v (.int .i64 left))] (.one (.v (.int .i64 (d.weigh p19 left)))) := w19_upto d.ht d (Nat.le_refl _) hok left h0 h1
mutual
def K.meas : K → Int → Int
 | .mk _ name rest params d l, left => if 100 < params.length ∨ 500 < name.size ∨ 500 < rest.size ∨ ∃ s ∈ params, 500 < s.size then -1 else K.meass l (d.weigh p19 (left - 1))
def K.meass : List K → Int → Int
 | [], left => left
 | c :: l, left => if left < 0 then left else K.meass l (c.meas left)
end
theorem K.meas_eq (x : K) (left : Int) : x.meas left = if 100 < x.params.length ∨ 500 < x.name.size ∨ 500 < x.rest.size ∨ ∃ s ∈ x.params, 500 < s.size then -1 else K.meass x.l (x.d.weigh p19 (left - 1)) := by
 cases x; rw [K.meas]; rfl
theorem meass_neg (l : List K) (left : Int) (h : left < 0) : K.meass l left = left := by
 cases l <;> simp [K.meass, h]
theorem meass_append (a b : List K) (left : Int) : K.meass (a ++ b) left = K.meass b (K.meass a left) := by
 induction a generalizing left with
 | nil => simp [K.meass]
 | cons x a ih =>
  simp only [List.cons_append, K.meass]
  by_cases h : left < 0
  ·rw [if_pos h, if_pos h, meass_neg b left h]
  ·rw [if_neg h, if_neg h]; exact ih _
theorem meass_succ (l : List K) (left : Int) (k : Nat) (h : k < l.length) (hn : ¬ K.meass (l.take k) left < 0) : K.meass (l.take (k + 1)) left = l[k].meas (K.meass (l.take k) left) := by
 rw [List.take_succ_eq_append_getElem h, meass_append]
 simp [K.meass, hn]
theorem meass_stop (l : List K) (left : Int) (k : Nat) (hn : K.meass (l.take k) left < 0) : K.meass l left = K.meass (l.take k) left := by
 conv => lhs; rw [← List.take_append_drop k l, meass_append, meass_neg _ _ hn]
mutual
theorem meas_bd : ∀ (x : K) (left : Int), 0 ≤ left → -2 ≤ x.meas left ∧ x.meas left ≤ left
 | .mk k name rest params d l, left, h => by
  rw [K.meas_eq]
  by_cases hc : 100 < (K.mk k name rest params d l).params.length ∨ 500 < (K.mk k name rest params d l).name.size ∨ 500 < (K.mk k name rest params d l).rest.size ∨ ∃ s ∈ (K.mk k name rest params d l).params, 500 < s.size
  ·rw [if_pos hc]; omega
  ·rw [if_neg hc]
   have h1 := w19_bd d (left - 1) (by omega)
   have h2 := meass_bd l (d.weigh p19 (left - 1)) (by omega)
   show -2 ≤ K.meass l (d.weigh p19 (left - 1)) ∧ K.meass l (d.weigh p19 (left - 1)) ≤ left
   omega
theorem meass_bd : ∀ (l : List K) (left : Int), -2 ≤ left → -2 ≤ K.meass l left ∧ K.meass l left ≤ left
 | [], left, h => by simp only [K.meass]; omega
 | x :: l, left, h => by
  rw [K.meass]
  by_cases hc : left < 0
  ·rw [if_pos hc]; omega
  ·rw [if_neg hc]
   have h1 := meas_bd x left (by omega)
   have h2 := meass_bd l (x.meas left) (by omega)
   omega
end
mutual
theorem meas_size : ∀ (x : K) (left : Int), 0 ≤ left → 0 ≤ x.meas left → (x.size : Int) + x.meas left ≤ left
 | .mk k name rest params d l, left, h, h0 => by
  rw [K.meas_eq] at h0 ⊢
  by_cases hc : 100 < (K.mk k name rest params d l).params.length ∨ 500 < (K.mk k name rest params d l).name.size ∨ 500 < (K.mk k name rest params d l).rest.size ∨ ∃ s ∈ (K.mk k name rest params d l).params, 500 < s.size
  ·rw [if_pos hc] at h0; omega
  ·rw [if_neg hc] at h0 ⊢
   have h1 := w19_bd d (left - 1) (by omega)
   have h2 := meass_size l (d.weigh p19 (left - 1)) h0
   rw [K.size_eq]
   show ((K.sizes l + 1 : Nat) : Int) + K.meass l (d.weigh p19 (left - 1)) ≤ left
   change 0 ≤ K.meass l (d.weigh p19 (left - 1)) at h0
   have h3 := meass_bd l (d.weigh p19 (left - 1)) (by omega)
   omega
theorem meass_size : ∀ (l : List K) (left : Int), 0 ≤ K.meass l left → (K.sizes l : Int) + K.meass l left ≤ left
 | [], left, h => by simp [K.meass, K.sizes]
 | x :: l, left, h => by
  rw [K.meass] at h ⊢
  rw [K.sizes]
  by_cases hc : left < 0
  ·rw [if_pos hc] at h; omega
  ·rw [if_neg hc] at h ⊢
   by_cases hx : x.meas left < 0
   ·rw [meass_neg _ _ hx] at h; omega
   ·have h1 := meas_size x left (by omega) (by omega)
    have h2 := meass_size l (x.meas left) h
    omega
end
theorem K.len_sizes : ∀ l : List K, l.length ≤ K.sizes l
 | [] => Nat.zero_le _
 | x :: l => by rw [K.sizes, List.length_cons]; have := x.size_pos; have := K.len_sizes l; omega
mutual
theorem meas_lg : ∀ (x : K) (left : Int), 0 ≤ left → left ≤ 1000000 → 0 ≤ x.meas left → x.Ok → x.Lg
 | .mk k name rest params d l, left, h, hl, h0, hok => by
  rw [K.meas_eq] at h0
  by_cases hc : 100 < (K.mk k name rest params d l).params.length ∨ 500 < (K.mk k name rest params d l).name.size ∨ 500 < (K.mk k name rest params d l).rest.size ∨ ∃ s ∈ (K.mk k name rest params d l).params, 500 < s.size
  ·rw [if_pos hc] at h0; omega
  ·rw [if_neg hc] at h0
   have h1 := w19_bd d (left - 1) (by omega)
   change 0 ≤ K.meass l (d.weigh p19 (left - 1)) at h0
   have h3 : 0 ≤ d.weigh p19 (left - 1) := by
    refine Int.not_lt.1 fun hn => ?_
    rw [meass_neg _ _ hn] at h0; omega
   have h4 := weigh_count p19 d (left - 1) h3
   have h5 := meass_size l _ h0
   have h6 : l.length ≤ K.sizes l := K.len_sizes l
   have h7 : params.length ≤ 100 := by
    refine Nat.not_lt.1 fun hn => hc (.inl hn)
   exact ⟨hok.1, by omega, hok.2.2.1, by omega, by omega, meass_lg l _ (by omega) h0 hok.2.2.2.2⟩
theorem meass_lg : ∀ (l : List K) (left : Int), left ≤ 1000000 → 0 ≤ K.meass l left → K.Oks l → K.Lgs l
 | [], _, _, _, _ => trivial
 | x :: l, left, hl, h, hok => by
  rw [K.meass] at h
  by_cases hc : left < 0
  ·rw [if_pos hc] at h; omega
  ·rw [if_neg hc] at h
   by_cases hx : x.meas left < 0
   ·rw [meass_neg _ _ hx] at h; omega
   ·have h1 := meas_bd x left (by omega)
    exact ⟨meas_lg x left (by omega) hl (by omega) hok.1, meass_lg l _ (by omega) h hok.2⟩
end
def M1I (x : K) (left : Int) (n : Nat) (st : St) : Prop := ∃ i : Nat, n = x.params.length - i ∧ i ≤ x.params.length ∧ (∀ j (h : j < x.params.length), j < i → x.params[j].size ≤ 500) ∧
 st = ⟨[(5, .one (.v (.int .i64 i))), (1, .one (.v (.int .i64 (left - 1)))), (2, .one (.ptr 0 1 0 0))], [some (coreOb x)]⟩
def M2I (x : K) (v : Int) (n : Nat) (st : St) : Prop := ∃ i : Nat, n = x.l.length - i ∧ i ≤ x.l.length ∧
 st = ⟨[(6, .one (.v (.int .i64 i))), (1, .one (.v (.int .i64 (K.meass (x.l.take i) v)))), (2, .one (.ptr 0 1 0 0))], [some (coreOb x)]⟩
theorem coreOb_bd (n : Nat) (x : K) : ObBd n [some (coreOb x)] := by simp [coreOb, ObBd, C.bd]
theorem meas_upto : ∀ n (x : K), x.ht ≤ n → x.Ok → ∀ left : Int, 0 ≤ left → left ≤ 1000000000 → Pure Tryd.prog 23 [.agg x.cc, .one (.v (.int .i64 left))] (.one (.v (.int .i64 (x.meas left)))) := by
 intro n
 induction n with
 | zero => intro x h; exact absurd h (by have := x.ht_pos; omega)
 | succ n ih =>
  intro x hh hok left h0 h1
  have hws : IntKind.i64.wrap (left - 1) = left - 1 := wrap64 (by omega) (by omega)
  have hlen := hok.len
  have hpl := hok.par
  have hsl := strC_len x.params
  have e1 : decide ((100 : Int) < (x.params.length : Int)) = decide (100 < x.params.length) := by apply decide_eq_decide.2; omega
  have e2 : decide ((500 : Int) < (x.name.size : Int)) = decide (500 < x.name.size) := by apply decide_eq_decide.2; omega
  have e3 : decide ((500 : Int) < (x.rest.size : Int)) = decide (500 < x.rest.size) := by apply decide_eq_decide.2; omega
  have hw := w19_pure x.d hok.d (left - 1) (by omega) (by omega)
  rw [K.meas_eq]
  rw [D.cc_eq] at hw
  rw [K.cc_eq]
  by_cases a1 : 100 < x.params.length
  ·rw [if_pos (.inl a1)]
   refine Fn.intro Tryd.func23 rfl Tryd.ntmps23 Tryd.results23 (by simp only [List.length_cons, List.length_nil]; decide) ?_
   repeat (first | (apply fw; (with_reducible constructor) <;> rfl) | (apply WpA.cd; constructor) | ((first | with_reducible refine WpA.go _ rfl fun Y y => ?_ | apply RunTo.id); simp only [zb, seval, w23, hws, hsl, e1, a1]; refine RunTo.fn y (by first | (simp; done) | omega | (simp; omega)) ?_; clear y Y))
   refine ⟨by simp, _, _, _, _, (by simp only [zb, seval, w23]; rfl), (by simp), (by simp only [zv]; rfl), (by simp), _, ALe.refl _, ?_⟩
   rfl
  by_cases a2 : 500 < x.name.size
  ·rw [if_pos (.inr (.inl a2))]
   refine Fn.intro Tryd.func23 rfl Tryd.ntmps23 Tryd.results23 (by simp only [List.length_cons, List.length_nil]; decide) ?_
   repeat (first | (apply fw; (with_reducible constructor) <;> rfl) | (apply WpA.cd; constructor) | ((first | with_reducible refine WpA.go _ rfl fun Y y => ?_ | apply RunTo.id); simp only [zb, seval, w23, hws, hsl, e1, a1, e2, a2]; refine RunTo.fn y (by first | (simp; done) | omega | (simp; omega)) ?_; clear y Y))
   refine ⟨by simp, _, _, _, _, (by simp only [zb, seval, w23]; rfl), (by simp), (by simp only [zv]; rfl), (by simp), _, ALe.refl _, ?_⟩
   rfl
  by_cases a3 : 500 < x.rest.size
  ·rw [if_pos (.inr (.inr (.inl a3)))]
   refine Fn.intro Tryd.func23 rfl Tryd.ntmps23 Tryd.results23 (by simp only [List.length_cons, List.length_nil]; decide) ?_
   repeat (first | (apply fw; (with_reducible constructor) <;> rfl) | (apply WpA.cd; constructor) | ((first | with_reducible refine WpA.go _ rfl fun Y y => ?_ | apply RunTo.id); simp only [zb, seval, w23, hws, hsl, e1, a1, e2, a2, e3, a3]; refine RunTo.fn y (by first | (simp; done) | omega | (simp; omega)) ?_; clear y Y))
   refine ⟨by simp, _, _, _, _, (by simp only [zb, seval, w23]; rfl), (by simp), (by simp only [zv]; rfl), (by simp), _, ALe.refl _, ?_⟩
   rfl
  refine Fn.intro Tryd.func23 rfl Tryd.ntmps23 Tryd.results23 (by simp only [List.length_cons, List.length_nil]; decide) ?_
  repeat (first | (apply fw; (with_reducible constructor) <;> rfl) | (apply WpA.cd; constructor) | ((first | with_reducible refine WpA.go _ rfl fun Y y => ?_ | apply RunTo.id); simp only [zb, seval, w23, hws, hsl, e1, a1, e2, a2, e3, a3]; refine RunTo.fn y (by first | (simp; done) | omega | (simp; omega)) ?_; clear y Y))
  refine WpA.loop (M1I x left) x.params.length ?_ ⟨0, rfl, Nat.zero_le _, fun j _ h => absurd h (Nat.not_lt_zero _), rfl⟩ ?_
  ·exact Le.drop 1 (Nat.zero_le _) rfl (by simp [Sub, find]) rfl (coreOb_bd _ _)
  intro n' st hst
  obtain ⟨i, rfl, hi, hb, rfl⟩ := hst
  have hw2 : IntKind.i64.wrap ((i : Int) + 1) = ((i + 1 : Nat) : Int) := by rw [wrap64 (by omega) (by omega)]; omega
  simp only [coreOb]
  by_cases hlt : i < x.params.length
  ·have hd1 : decide ((i : Int) < (x.params.length : Int)) = true := by simp; omega
   have hget := strC_get hlt
   have e4 : decide ((500 : Int) < (x.params[i].size : Int)) = decide (500 < x.params[i].size) := by apply decide_eq_decide.2; omega
   by_cases a4 : 500 < x.params[i].size
   ·rw [if_pos (.inr (.inr (.inr ⟨_, List.getElem_mem hlt, a4⟩)))]
    repeat (first | (apply fw; (with_reducible constructor) <;> rfl) | (apply WpA.cd; constructor) | ((first | with_reducible refine WpA.go _ rfl fun Y y => ?_ | apply RunTo.id); simp only [zb, seval, w23, hsl, hd1, hget, e4, a4]; refine RunTo.fn y (by first | (simp; done) | omega | (simp; omega)) ?_; clear y Y))
    refine ⟨by simp, _, _, _, _, (by simp only [zb, seval, w23]; rfl), (by simp), (by simp only [zv]; rfl), (by simp), _, ALe.refl _, ?_⟩
    rfl
   ·repeat (first | (apply fw; (with_reducible constructor) <;> rfl) | (apply WpA.cd; constructor) | ((first | with_reducible refine WpA.go _ rfl fun Y y => ?_ | apply RunTo.id); simp only [zb, seval, w23, hsl, hd1, hget, e4, a4, hw2]; refine RunTo.fn y (by first | (simp; done) | omega | (simp; omega)) ?_; clear y Y))
    refine ⟨x.params.length - (i + 1), _, by omega, Le.drop 1 (Nat.zero_le _) rfl (by simp [Sub, find]) rfl (coreOb_bd _ _), i + 1, rfl, hlt, fun j hj hji => ?_, rfl⟩
    rcases Nat.lt_succ_iff_lt_or_eq.1 hji with h | rfl
    ·exact hb j hj h
    ·omega
  have hd0 : decide ((i : Int) < (x.params.length : Int)) = false := by simp; omega
  rw [if_neg (by
   rintro (h | h | h | ⟨s, hs, h⟩)
   ·exact a1 h
   ·exact a2 h
   ·exact a3 h
   ·obtain ⟨j, hj, rfl⟩ := List.mem_iff_getElem.1 hs
    have := hb j hj (by omega); omega)]
  repeat (first | (apply fw; (with_reducible constructor) <;> rfl) | (apply WpA.cd; constructor) | ((first | with_reducible refine WpA.go _ rfl fun Y y => ?_ | apply RunTo.id); simp only [zb, seval, w23, hsl, hd0]; refine RunTo.fn y (by first | (simp; done) | omega | (simp; omega)) ?_; clear y Y))
  repeat (first | (apply fw; (with_reducible constructor) <;> rfl) | (apply WpA.cd; constructor) | ((first | with_reducible refine WpA.go _ rfl fun Y y => ?_ | apply RunTo.id); simp only [zb, seval, w23, hsl, hd0]; refine RunTo.fn y (by first | (simp; done) | omega | (simp; omega)) ?_; clear y Y))
  refine WpL.call rfl (guardA_sound (P := Tryd.prog) rfl) (CallA.shut rfl rfl (by kernel_rfl) (ALes.refl _) (by first | rfl | simp [shuts, A.shut, C.shut]) (hw) ?_)
  (refine WpL.go _ rfl fun Y y => ?_); repeat (first | (apply fw; (with_reducible constructor) <;> rfl) | (apply WpA.cd; constructor) | ((first | with_reducible refine WpA.go _ rfl fun Y y => ?_ | apply RunTo.id); simp only [zb, seval, w23]; refine RunTo.fn y (by first | (simp; done) | omega | (simp; omega)) ?_; clear y Y))
  have hvb := w19_bd x.d (left - 1) (by omega)
  generalize x.d.weigh p19 (left - 1) = v at *
  clear hd0 hlt hw2 hb hw
  refine WpA.loop (M2I x v) x.l.length ?_ ⟨0, rfl, Nat.zero_le _, rfl⟩ ?_
  ·exact Le.drop 1 (Nat.zero_le _) rfl (by simp [Sub, find, K.meass]) rfl (coreOb_bd _ _)
  intro n' st hst
  obtain ⟨k, rfl, hk, rfl⟩ := hst
  have hw2 : IntKind.i64.wrap ((k : Int) + 1) = ((k + 1 : Nat) : Int) := by rw [wrap64 (by omega) (by omega)]; omega
  have hbd := meass_bd (x.l.take k) v (by omega)
  generalize hu : K.meass (x.l.take k) v = u at *
  simp only [coreOb]
  by_cases hlt : k < x.l.length
  ·have hd1 : decide ((k : Int) < (x.l.length : Int)) = true := by simp; omega
   by_cases hn : u < 0
   ·have hge : decide ((0 : Int) ≤ u) = false := by simp; omega
    have hst := meass_stop x.l v k (by rw [hu]; exact hn)
    repeat (first | (apply fw; (with_reducible constructor) <;> rfl) | (apply WpA.cd; constructor) | ((first | with_reducible refine WpA.go _ rfl fun Y y => ?_ | apply RunTo.id); simp only [zb, seval, w23, hd1, hge]; refine RunTo.fn y (by first | (simp; done) | omega | (simp; omega)) ?_; clear y Y))
    repeat (first | (apply fw; (with_reducible constructor) <;> rfl) | (apply WpA.cd; constructor) | ((first | with_reducible refine WpA.go _ rfl fun Y y => ?_ | apply RunTo.id); simp only [zb, seval, w23, hd1, hge]; refine RunTo.fn y (by first | (simp; done) | omega | (simp; omega)) ?_; clear y Y))
    refine ⟨by simp, _, _, _, _, (by simp only [zb, seval, w23]; rfl), (by simp), (by simp only [zv]; rfl), (by simp), _, ALe.refl _, ?_⟩
    rw [hst, hu]
   ·have hge : decide ((0 : Int) ≤ u) = true := by simp; omega
    have hget := getK hlt
    have hc := ih x.l[k] (by have := K.ht_lt hlt; omega) (hok.get k hlt) u (by omega) (by omega)
    have hsu := meass_succ x.l v k hlt (by rw [hu]; exact hn)
    rw [K.cc_eq] at hget hc
    repeat (first | (apply fw; (with_reducible constructor) <;> rfl) | (apply WpA.cd; constructor) | ((first | with_reducible refine WpA.go _ rfl fun Y y => ?_ | apply RunTo.id); simp only [zb, seval, w23, hd1, hge, hget]; refine RunTo.fn y (by first | (simp; done) | omega | (simp; omega)) ?_; clear y Y))
    refine WpL.call rfl (guardA_sound (P := Tryd.prog) rfl) (CallA.shut rfl rfl (by kernel_rfl) (ALes.refl _) (by first | rfl | simp [shuts, A.shut, C.shut]) (hc) ?_)
    (refine WpL.go _ rfl fun Y y => ?_); repeat (first | (apply fw; (with_reducible constructor) <;> rfl) | (apply WpA.cd; constructor) | ((first | with_reducible refine WpA.go _ rfl fun Y y => ?_ | apply RunTo.id); simp only [zb, seval, w23, hw2]; refine RunTo.fn y (by first | (simp; done) | omega | (simp; omega)) ?_; clear y Y))
    refine ⟨x.l.length - (k + 1), _, by omega, ?_, k + 1, rfl, hlt, rfl⟩
    rw [hsu, hu]
    exact Le.drop 1 (Nat.zero_le _) rfl (by simp [Sub, find]) rfl (coreOb_bd _ _)
  ·have hd0 : decide ((k : Int) < (x.l.length : Int)) = false := by simp; omega
   have hii : k = x.l.length := by omega
   subst hii
   repeat (first | (apply fw; (with_reducible constructor) <;> rfl) | (apply WpA.cd; constructor) | ((first | with_reducible refine WpA.go _ rfl fun Y y => ?_ | apply RunTo.id); simp only [zb, seval, w23, hd0]; refine RunTo.fn y (by first | (simp; done) | omega | (simp; omega)) ?_; clear y Y))
   repeat (first | (apply fw; (with_reducible constructor) <;> rfl) | (apply WpA.cd; constructor) | ((first | with_reducible refine WpA.go _ rfl fun Y y => ?_ | apply RunTo.id); simp only [zb, seval, w23, hd0]; refine RunTo.fn y (by first | (simp; done) | omega | (simp; omega)) ?_; clear y Y))
   refine ⟨by simp, _, _, _, _, (by simp only [zb, seval, w23]; rfl), (by simp), (by simp only [zv]; rfl), (by simp), _, ALe.refl _, ?_⟩
   rw [List.take_length] at hu
   rw [hu]
def HvI (l : List K) (n : Nat) (st : St) : Prop := ∃ i : Nat, n = l.length - i ∧ i ≤ l.length ∧
 st = ⟨[(4, .one (.v (.int .i64 i))), (3, .one (.v (.int .i64 (K.meass (l.take i) 1500)))), (0, .one (.sl 11 (l.map K.cc)))], []⟩
theorem heavy_pure (l : List K) (hok : K.Oks l) (hlen : l.length ≤ 1000000000000000) : Pure Tryd.prog 9 [.one (.sl 11 (l.map K.cc))] (.one (.v (.bool (decide (K.meass l 1500 < 0))))) := by
 refine Fn.intro Tryd.func9 rfl Tryd.ntmps9 Tryd.results9 (by simp only [List.length_cons, List.length_nil]; decide) ?_
 repeat (first | (apply fw; (with_reducible constructor) <;> rfl) | (apply WpA.cd; constructor) | ((first | with_reducible refine WpA.go _ rfl fun Y y => ?_ | apply RunTo.id); simp only [zb, seval, w9]; refine RunTo.fn y (by first | (simp; done) | omega | (simp; omega)) ?_; clear y Y))
 refine WpA.loop (HvI l) l.length ?_ ⟨0, rfl, Nat.zero_le _, rfl⟩ ?_
 ·exact Le.sub (by simp [Sub, find, K.meass])
 intro n' st hst
 obtain ⟨i, rfl, hi, rfl⟩ := hst
 have hw2 : IntKind.i64.wrap ((i : Int) + 1) = ((i + 1 : Nat) : Int) := by rw [wrap64 (by omega) (by omega)]; omega
 have hbd := meass_bd (l.take i) 1500 (by omega)
 generalize hu : K.meass (l.take i) 1500 = u at *
 by_cases hlt : i < l.length
 ·have hd1 : decide ((i : Int) < (l.length : Int)) = true := by simp; omega
  by_cases hn : u < 0
  ·have hge : decide ((0 : Int) ≤ u) = false := by simp; omega
   have hst := meass_stop l 1500 i (by rw [hu]; exact hn)
   repeat (first | (apply fw; (with_reducible constructor) <;> rfl) | (apply WpA.cd; constructor) | ((first | with_reducible refine WpA.go _ rfl fun Y y => ?_ | apply RunTo.id); simp only [zb, seval, w9, hd1, hge]; refine RunTo.fn y (by first | (simp; done) | omega | (simp; omega)) ?_; clear y Y))
   repeat (first | (apply fw; (with_reducible constructor) <;> rfl) | (apply WpA.cd; constructor) | ((first | with_reducible refine WpA.go _ rfl fun Y y => ?_ | apply RunTo.id); simp only [zb, seval, w9, hd1, hge]; refine RunTo.fn y (by first | (simp; done) | omega | (simp; omega)) ?_; clear y Y))
   refine ⟨by simp, _, _, _, _, (by simp only [zb, seval, w9]; rfl), (by simp), (by simp only [zv]; rfl), (by simp), _, ALe.refl _, ?_⟩
   rw [hst, hu]
  ·have hge : decide ((0 : Int) ≤ u) = true := by simp; omega
   have hget := getK hlt
   have hc := meas_upto l[i].ht l[i] (Nat.le_refl _) (hok.get i hlt) u (by omega) (by omega)
   have hsu := meass_succ l 1500 i hlt (by rw [hu]; exact hn)
   rw [K.cc_eq] at hget hc
   repeat (first | (apply fw; (with_reducible constructor) <;> rfl) | (apply WpA.cd; constructor) | ((first | with_reducible refine WpA.go _ rfl fun Y y => ?_ | apply RunTo.id); simp only [zb, seval, w9, hd1, hge, hget]; refine RunTo.fn y (by first | (simp; done) | omega | (simp; omega)) ?_; clear y Y))
   refine WpL.call rfl (guardA_sound (P := Tryd.prog) rfl) (CallA.shut rfl rfl (by kernel_rfl) (ALes.refl _) (by first | rfl | simp [shuts, A.shut, C.shut]) (hc) ?_)
   (refine WpL.go _ rfl fun Y y => ?_); repeat (first | (apply fw; (with_reducible constructor) <;> rfl) | (apply WpA.cd; constructor) | ((first | with_reducible refine WpA.go _ rfl fun Y y => ?_ | apply RunTo.id); simp only [zb, seval, w9, hw2]; refine RunTo.fn y (by first | (simp; done) | omega | (simp; omega)) ?_; clear y Y))
   refine ⟨l.length - (i + 1), _, by omega, ?_, i + 1, rfl, hlt, rfl⟩
   rw [hsu, hu]
   exact Le.sub (by simp [Sub, find])
 ·have hd0 : decide ((i : Int) < (l.length : Int)) = false := by simp; omega
  have hii : i = l.length := by omega
  subst hii
  repeat (first | (apply fw; (with_reducible constructor) <;> rfl) | (apply WpA.cd; constructor) | ((first | with_reducible refine WpA.go _ rfl fun Y y => ?_ | apply RunTo.id); simp only [zb, seval, w9, hd0]; refine RunTo.fn y (by first | (simp; done) | omega | (simp; omega)) ?_; clear y Y))
  repeat (first | (apply fw; (with_reducible constructor) <;> rfl) | (apply WpA.cd; constructor) | ((first | with_reducible refine WpA.go _ rfl fun Y y => ?_ | apply RunTo.id); simp only [zb, seval, w9, hd0]; refine RunTo.fn y (by first | (simp; done) | omega | (simp; omega)) ?_; clear y Y))
  refine ⟨by simp, _, _, _, _, (by simp only [zb, seval, w9]; rfl), (by simp), (by simp only [zv]; rfl), (by simp), _, ALe.refl _, ?_⟩
  rw [List.take_length] at hu
  rw [hu]
theorem light_all {l : List K} (hok : K.Oks l) (h : ¬ K.meass l 1500 < 0) : K.Lgs l ∧ K.sizes l ≤ 1500 ∧ l.length ≤ 1500 := by
 have h1 := meass_size l 1500 (by omega)
 have h2 := K.len_sizes l
 exact ⟨meass_lg l 1500 (by omega) (by omega) hok, by omega, by omega⟩
def e0 : ByteArray := ⟨#[]⟩
def kRef (s : ByteArray) : K := .mk 2 s ⟨#[]⟩ [] dZ []
def kF : K := .mk 8 ⟨#[]⟩ ⟨#[]⟩ [] dZ [kRef ⟨#[102]⟩, kRef ⟨#[98]⟩]
def kLam : K := .mk 6 ⟨#[]⟩ ⟨#[98]⟩ [⟨#[97]⟩] dZ [kF]
def rcc (s : ByteArray) : List C := [.v (.int .i64 2), .v (.string s), .v (.string ⟨#[]⟩), .sl 1 [], .v (.int .i64 0), .v (.int .i32 0), .v (.bool false), .sl 1 [], .v (.string ⟨#[]⟩), .sl 6 [], .sl 11 []]
def fcc (c : C) : List C := [.v (.int .i64 8), .v (.string ⟨#[]⟩), .v (.string ⟨#[]⟩), .sl 1 [], .v (.int .i64 0), .v (.int .i32 0), .v (.bool false), .sl 1 [], .v (.string ⟨#[]⟩), .sl 6 [], c]
def lcc (a c : C) : List C := [.v (.int .i64 6), .v (.string ⟨#[]⟩), .v (.string ⟨#[98]⟩), a, .v (.int .i64 0), .v (.int .i32 0), .v (.bool false), .sl 1 [], .v (.string ⟨#[]⟩), .sl 6 [], c]
theorem kLam_cc : [kLam].map K.cc = [lcc (.sl 1 [[.v (.string ⟨#[97]⟩)]]) (.sl 11 [fcc (.sl 11 [rcc ⟨#[102]⟩, rcc ⟨#[98]⟩])])] := by
 simp [kLam, kF, kRef, K.cc_eq, K.k, K.name, K.rest, K.params, K.d, K.l, dZ, D.k, D.c, D.neg, D.mag, D.t, D.l, strC, rcc, fcc, lcc]
theorem ne_b {a b : UInt8} (h : a ≠ b) : eqB (⟨#[a]⟩ : ByteArray) ⟨#[b]⟩ = false := eqB_neg fun e => h (by have := congrArg (fun x : ByteArray => x.data.toList) e; simpa using this)
theorem ne_1 {a b : UInt8} (h : a ≠ b) : (⟨#[a]⟩ : ByteArray) ≠ ⟨#[b]⟩ := fun e => h (by have := congrArg (fun x : ByteArray => x.data.toList) e; simpa using this)
theorem ne_0 (a : UInt8) : (⟨#[a]⟩ : ByteArray) ≠ ⟨#[]⟩ := fun e => by have := congrArg (fun x : ByteArray => x.data.toList) e; simp at this
theorem kRef_may (s : ByteArray) (hs : s ≠ ⟨#[]⟩) (t : Bool) : (kRef s).may t = true := by
 rw [kRef, K.may]
 rw [eqB_pos (show K.mk 2 s ⟨#[]⟩ [] dZ [] = K.bare (K.mk 2 s ⟨#[]⟩ [] dZ []) by simp [K.bare, K.k, K.name, K.rest, K.params, K.d, K.l]), eqB_neg hs]
 simp [cntB, K.k, K.l, K.mays]
theorem kLam_may : kLam.may true = true := by
 have h1 := kRef_may ⟨#[102]⟩ (ne_0 _) false
 have h2 := kRef_may ⟨#[98]⟩ (ne_0 _) false
 have h3 : kF.may false = true := by
  rw [kF, K.may]
  rw [eqB_pos (show K.mk 8 ⟨#[]⟩ ⟨#[]⟩ [] dZ [kRef ⟨#[102]⟩, kRef ⟨#[98]⟩] = K.bare (K.mk 8 ⟨#[]⟩ ⟨#[]⟩ [] dZ [kRef ⟨#[102]⟩, kRef ⟨#[98]⟩]) by simp [K.bare, K.k, K.name, K.rest, K.params, K.d, K.l])]
  simp [cntB, K.k, K.l, K.mays, h1, h2]
 rw [kLam, K.may]
 rw [eqB_pos (show K.mk 6 ⟨#[]⟩ ⟨#[98]⟩ [⟨#[97]⟩] dZ [kF] = K.bare (K.mk 6 ⟨#[]⟩ ⟨#[98]⟩ [⟨#[97]⟩] dZ [kF]) by simp [K.bare, K.k, K.name, K.rest, K.params, K.d, K.l])]
 rw [propB_pos (show VarsOk (allN (K.mk 6 ⟨#[]⟩ ⟨#[98]⟩ [⟨#[97]⟩] dZ [kF])) by
  have n1 := ne_0 97
  have n2 := ne_0 98
  have n3 := ne_1 (show (97 : UInt8) ≠ 98 by decide)
  simp [VarsOk, allN, K.rest, K.params, n1, n2, n3, Ne.symm n1, Ne.symm n2])]
 simp [cntB, K.k, K.l, K.mays, h3]
theorem kLam_code : codeN [kLam] = ⟨[⟨8, 1, 1, [1]⟩, ⟨10, 0, 0, [2, 3]⟩, ⟨3, 0, 0, []⟩, ⟨2, 0, 1, []⟩], [], [⟨#[102]⟩], [], [0]⟩ := by
 have n1 := ne_b (show (102 : UInt8) ≠ 97 by decide)
 have n2 := ne_b (show (102 : UInt8) ≠ 98 by decide)
 have n3 := ne_b (show (98 : UInt8) ≠ 97 by decide)
 have n4 := eqB_pos (rfl : (⟨#[98]⟩ : ByteArray) = ⟨#[98]⟩)
 have n5 := ne_0 98
 simp [codeN, topN, putN, Cd.with, Cd.zero, emit_eq, emits, kLam, kF, kRef, nodeN, varN, placeN, posn, scIn, allN, K.k, K.name, K.rest, K.params, K.d, K.l, ats, K.size, K.sizes, numN, addN, List.findIdx?_cons, n1, n2, n3, n4, n5]
theorem kLam_lg : K.Lgs [kLam] := by
 have hd := dZ_ok
 have hc : dZ.count < 1000000000 := by simp [dZ, D.count, cnts]
 simp [K.Lgs, K.Lg, kLam, kF, kRef, hd, hc]
theorem awake_pure : Pure Tryd.prog 10 [] (.one (.v (.bool true))) := by
 have hcp := code_pure [kLam] kLam_lg (by simp) (by simp [K.sizes, K.size, kLam, kF, kRef])
 have hca : codeA [kLam] = .tup [.agg (codeC (codeN [kLam])), .one (.v (.int .i64 0))] := by
  unfold codeA
  rw [if_pos (by simp [kLam_may])]
 rw [hca, kLam_code, kLam_cc] at hcp
 have hff : eqB (⟨#[102]⟩ : ByteArray) ⟨#[102]⟩ = true := eqB_pos rfl
 refine Fn.intro Tryd.func10 rfl Tryd.ntmps10 Tryd.results10 (by simp only [List.length_cons, List.length_nil]; decide) ?_
 repeat (first | (apply fw; (with_reducible constructor) <;> rfl) | (apply WpA.cd; constructor) | ((first | with_reducible refine WpA.go _ rfl fun Y y => ?_ | apply RunTo.id); simp only [zb, seval, w10]; refine RunTo.fn y (by first | (simp; done) | omega | (simp; omega)) ?_; clear y Y))
 refine WpL.le (st' := ⟨[(13, .one (.ms 4 1))], [some ⟨33, 11, [rcc ⟨#[102]⟩, rcc ⟨#[98]⟩]⟩, none, some ⟨9, 1, [[.v (.string ⟨#[97]⟩)]]⟩, some ⟨33, 11, [fcc (.ms 0 2)]⟩, some ⟨33, 11, [lcc (.ms 2 1) (.ms 3 1)]⟩]⟩) (Le.freeze (fun _ => false) (Frz.ofL ?_) ?_) ?_
 ·simp only [FrzL, FzR, FzCs, rcc, fcc, lcc]
  repeat' first | exact FzC.same _ _ _ | exact FzC.nil | exact FzC.ms rfl rfl rfl | exact rfl | exact trivial | refine And.intro ?_ ?_ | (intro hz; exact absurd hz (by decide))
 ·simp only [SubZ]; exact ⟨⟨_, rfl, FzA.same _ _ _⟩, trivial⟩
 refine WpL.le (st' := ⟨[(13, .one (.ms 4 1))], [none, none, none, some ⟨33, 11, [fcc (.sl 11 [rcc ⟨#[102]⟩, rcc ⟨#[98]⟩])]⟩, some ⟨33, 11, [lcc (.sl 1 [[.v (.string ⟨#[97]⟩)]]) (.ms 3 1)]⟩]⟩) (Le.freeze (fun i => i == 0 || i == 2) (Frz.ofL ?_) ?_) ?_
 ·simp only [FrzL, FzR, FzCs, fcc, lcc]
  repeat' first | exact FzC.same _ _ _ | exact FzC.nil | exact FzC.ms rfl rfl rfl | exact rfl | exact trivial | refine And.intro ?_ ?_ | (intro hz; exact absurd hz (by decide)) | (intro hz ob ho; cases ho; simp [C.shut, rcc])
 ·simp only [SubZ]; exact ⟨⟨_, rfl, FzA.same _ _ _⟩, trivial⟩
 refine WpL.le (st' := ⟨[(13, .one (.ms 4 1))], [none, none, none, none, some ⟨33, 11, [lcc (.sl 1 [[.v (.string ⟨#[97]⟩)]]) (.sl 11 [fcc (.sl 11 [rcc ⟨#[102]⟩, rcc ⟨#[98]⟩])])]⟩]⟩) (Le.freeze (fun i => i == 3) (Frz.ofL ?_) ?_) ?_
 ·simp only [FrzL, FzR, FzCs, lcc]
  repeat' first | exact FzC.same _ _ _ | exact FzC.nil | exact FzC.ms rfl rfl rfl | exact rfl | exact trivial | refine And.intro ?_ ?_ | (intro hz; exact absurd hz (by decide)) | (intro hz ob ho; cases ho; simp [C.shut, fcc])
 ·simp only [SubZ]; exact ⟨⟨_, rfl, FzA.same _ _ _⟩, trivial⟩
 refine WpL.le (st' := ⟨[(13, .one (.sl 11 [lcc (.sl 1 [[.v (.string ⟨#[97]⟩)]]) (.sl 11 [fcc (.sl 11 [rcc ⟨#[102]⟩, rcc ⟨#[98]⟩])])]))], [none, none, none, none, none]⟩) (Le.freeze (fun i => i == 4) (Frz.ofL ?_) ?_) ?_
 ·simp only [FrzL, FzR, FzCs, lcc]
  repeat' first | exact FzC.same _ _ _ | exact FzC.nil | exact FzC.ms rfl rfl rfl | exact rfl | exact trivial | refine And.intro ?_ ?_ | (intro hz; exact absurd hz (by decide)) | (intro hz ob ho; cases ho; simp [C.shut, lcc])
 ·simp only [SubZ]; exact ⟨⟨_, rfl, FzC.ms rfl rfl rfl⟩, trivial⟩
 refine WpL.call rfl (guardA_sound (P := Tryd.prog) rfl) (CallA.shut rfl rfl (by kernel_rfl) (ALes.refl _) (by first | rfl | simp [shuts, A.shut, C.shut]) (hcp) ?_)
 simp only [codeC, Nd.row, intC, strC, List.map_cons, List.map_nil]
 have c4 : ((4 : Nat) : Int) = 4 := rfl
 have c1 : ((1 : Nat) : Int) = 1 := rfl
 (refine WpL.go _ rfl fun Y y => ?_); repeat (first | (apply fw; (with_reducible constructor) <;> rfl) | (apply WpA.cd; constructor) | ((first | with_reducible refine WpA.go _ rfl fun Y y => ?_ | apply RunTo.id); simp only [zb, seval, w10, strEq, hff, c4, c1]; refine RunTo.fn y (by first | (simp; done) | omega | (simp; omega)) ?_; clear y Y))
 refine ⟨by simp, _, _, _, _, (by simp only [zb, seval, w10]; rfl), (by simp), (by simp only [zv]; rfl), (by simp), _, ALe.refl _, ?_⟩
 rfl
end Go.Proofs.YtpacdmgnpadleaaDoor
end
section
namespace Go.Proofs.YtpacdmgnpadleaaDoor
open Go Go.RowKit Go.Lib
set_option linter.unusedSimpArgs false
set_option linter.unusedVariables false
theorem intC_get {l : List Int} {i : Nat} (h : i < l.length) : (intC l)[i]? = some [.v (.int .i64 l[i])] := by simp [intC, h]
def Cd.Bd (c : Cd) : Prop := c.nodes.length ≤ 1000000000 ∧ (∀ x ∈ c.nodes, x.l.length ≤ 1000000000) ∧ c.globals.length ≤ 1000000000 ∧ c.prims.length ≤ 1000000000 ∧ c.tops.length ≤ 1000000000
mutual
theorem emit_kids : ∀ (x : K) (c : Cd) (sc : List (List ByteArray)) (n : Nat), ∀ nd ∈ (emit x c sc n).1, nd.l.length ≤ x.size
 | .mk k name rest params d l, c, sc, n, nd, h => by
  rw [emit_eq] at h
  rw [K.size_eq]
  rcases List.mem_cons.1 h with rfl | h
  ·show (ats l (n + 1)).length ≤ K.sizes l + 1
   rw [ats_len]
   have := K.len_sizes l; omega
  ·have := emits_kids l _ _ _ nd h
   show _ ≤ K.sizes l + 1
   omega
theorem emits_kids : ∀ (l : List K) (c : Cd) (sc : List (List ByteArray)) (n : Nat), ∀ nd ∈ (emits l c sc n).1, nd.l.length ≤ K.sizes l
 | [], c, sc, n, nd, h => by rw [emits] at h; cases h
 | x :: l, c, sc, n, nd, h => by
  rw [emits] at h
  rw [K.sizes]
  rcases List.mem_append.1 h with h | h
  ·have := emit_kids x c sc n nd h; omega
  ·have := emits_kids l _ _ _ nd h; omega
end
theorem codeN_kids : ∀ (l : List K), ∀ nd ∈ (codeN l).nodes, nd.l.length ≤ K.sizes l := by
 intro l
 have key : ∀ (l : List K) (c : Cd) (m : Nat), (∀ nd ∈ c.nodes, nd.l.length ≤ m) → ∀ nd ∈ (l.foldl topN c).nodes, nd.l.length ≤ m + K.sizes l := by
  intro l
  induction l with
  | nil => intro c m h nd hn; have := h nd hn; simp [K.sizes]; exact this
  | cons x l ih =>
   intro c m h nd hn
   have := ih (topN c x) (m + x.size) (fun nd hn => by
    have hn' : nd ∈ c.nodes ++ (emit x c [] c.nodes.length).1 := hn
    rcases List.mem_append.1 hn' with h1 | h1
    ·have := h nd h1; omega
    ·have := emit_kids x _ _ _ nd h1; omega) nd hn
   rw [K.sizes]; omega
 have := key l .zero 0 (by simp [Cd.zero])
 simpa [codeN] using this
theorem codeN_bd (l : List K) (h : K.sizes l ≤ 900000000) : (codeN l).Bd := by
 have h1 := codeN_most l
 unfold Cd.most at h1
 have h2 := K.len_sizes l
 refine ⟨by rw [codeN_len]; omega, fun nd hn => ?_, by omega, by omega, by rw [codeN_tops]; omega⟩
 have := codeN_kids l nd hn
 omega
structure Cd.Pre (a b : Cd) : Prop where
 n : a.nodes <+: b.nodes
 c : a.consts <+: b.consts
 g : a.globals <+: b.globals
 p : a.prims <+: b.prims
 t : a.tops <+: b.tops
theorem Cd.Pre.refl (a : Cd) : a.Pre a := ⟨List.prefix_refl _, List.prefix_refl _, List.prefix_refl _, List.prefix_refl _, List.prefix_refl _⟩
theorem Cd.Pre.trans {a b c : Cd} (h : a.Pre b) (k : b.Pre c) : a.Pre c := ⟨h.n.trans k.n, h.c.trans k.c, h.g.trans k.g, h.p.trans k.p, h.t.trans k.t⟩
theorem K.Lgs.app : ∀ {a b : List K}, K.Lgs a → K.Lgs b → K.Lgs (a ++ b)
 | [], b, _, h => h
 | x :: a, b, h, k => ⟨h.1, K.Lgs.app h.2 k⟩
theorem codeA_no {l : List K} (h : l.all (·.may true) = false) : codeA l = .tup [.agg (codeC .zero), .one (.v (.int .i64 1))] := by unfold codeA; rw [h]; rfl
theorem codeA_yes {l : List K} (h : l.all (·.may true) = true) : codeA l = .tup [.agg (codeC (codeN l)), .one (.v (.int .i64 0))] := by unfold codeA; rw [h]; rfl
end Go.Proofs.YtpacdmgnpadleaaDoor
end
section
namespace Go.Proofs.YtpacdmgnpadleaaDoor
open Go Go.RowKit Go.Lib
set_option linter.unusedSimpArgs false
set_option linter.unusedVariables false
set_option maxHeartbeats 4000000
set_option maxRecDepth 100000
theorem strNe (a b : ByteArray) : (a.toList != b.toList) = !eqB a b := by rw [bne, strEq]
theorem intEq (a b : Int) : (a == b) = eqB a b := by
 by_cases h : a = b
 ·rw [eqB_pos h]; simp [h]
 ·rw [eqB_neg h]; simpa using h
theorem intNe (a b : Int) : (a != b) = !eqB a b := by
 by_cases h : a = b
 ·rw [eqB_pos h]; simp [h]
 ·rw [eqB_neg h]; simpa using h
def textsI (a b : List ByteArray) (n : Nat) (st : St) : Prop := ∃ i : Nat, n = a.length - i ∧ i ≤ a.length ∧ a.take i = b.take i ∧
 st = ⟨[(5, .one (.v (.int .i64 i))), (0, .one (.sl 1 (strC a))), (1, .one (.sl 1 (strC b)))], []⟩
theorem texts_pure (a b : List ByteArray) (hlen : a.length ≤ 1000000000000000) : Pure Tryd.prog 33 [.one (.sl 1 (strC a)), .one (.sl 1 (strC b))] (.one (.v (.bool (eqB a b)))) := by
 have hla := strC_len a
 have hlb := strC_len b
 by_cases hl : a.length = b.length
 case neg =>
  have hne : ((a.length : Int) != (b.length : Int)) = true := by simp; omega
  rw [eqB_neg fun h => hl (by rw [h])]
  refine Fn.intro Tryd.func33 rfl Tryd.ntmps33 Tryd.results33 (by simp only [List.length_cons, List.length_nil]; decide) ?_
  repeat (first | (apply fw; (with_reducible constructor) <;> rfl) | (apply WpA.cd; constructor) | ((first | with_reducible refine WpA.go _ rfl fun Y y => ?_ | apply RunTo.id); simp only [zb, seval, w33, hla, hlb, hne]; refine RunTo.fn y (by first | (simp; done) | omega | (simp; omega)) ?_; clear y Y))
  refine ⟨by simp, _, _, _, _, (by simp only [zb, seval, w33]; rfl), (by simp), (by simp only [zv]; rfl), (by simp), _, ALe.refl _, ?_⟩
  rfl
 have hne : ((a.length : Int) != (b.length : Int)) = false := by simp; omega
 refine Fn.intro Tryd.func33 rfl Tryd.ntmps33 Tryd.results33 (by simp only [List.length_cons, List.length_nil]; decide) ?_
 repeat (first | (apply fw; (with_reducible constructor) <;> rfl) | (apply WpA.cd; constructor) | ((first | with_reducible refine WpA.go _ rfl fun Y y => ?_ | apply RunTo.id); simp only [zb, seval, w33, hla, hlb, hne]; refine RunTo.fn y (by first | (simp; done) | omega | (simp; omega)) ?_; clear y Y))
 refine WpA.loop (textsI a b) a.length ?_ ⟨0, rfl, Nat.zero_le _, rfl, rfl⟩ ?_
 ·exact Le.sub (by simp [Sub, find])
 intro n' st hI
 obtain ⟨i, rfl, hi, hb, rfl⟩ := hI
 have hw2 : IntKind.i64.wrap ((i : Int) + 1) = ((i + 1 : Nat) : Int) := by rw [wrap64 (by omega) (by omega)]; omega
 by_cases hlt : i < a.length
 ·have hd1 : decide ((i : Int) < (a.length : Int)) = true := by simp; omega
  have hga := strC_get hlt
  have hgb := strC_get (l := b) (i := i) (by omega)
  by_cases he : a[i] = b[i]
  ·have hee := eqB_pos he
   repeat (first | (apply fw; (with_reducible constructor) <;> rfl) | (apply WpA.cd; constructor) | ((first | with_reducible refine WpA.go _ rfl fun Y y => ?_ | apply RunTo.id); simp only [zb, seval, w33, hd1, hla]; refine RunTo.fn y (by first | (simp; done) | omega | (simp; omega)) ?_; clear y Y))
   (refine WpA.draw0 9 _ _ _ rfl rfl rfl (by kernel_rfl) (by kernel_rfl) (by kernel_rfl) fun K8 hK8 => ?_); simp only [zz] at hK8 ⊢; (refine Draw0.go fun K7 hK7 => ?_); simp only [zb, seval, w33, hga, hgb, strEq, strNe, hee, hw2]; (refine RunQ.mk (by first | (simp; done) | omega | (simp; omega)) (hK7 _ _ ?_)); clear hK7 K7; (try ((refine Draw0.nil (hK8 _ ?_)); clear hK8 K8; (refine WpL.go _ rfl fun Y y => ?_); repeat (first | (apply fw; (with_reducible constructor) <;> rfl) | (apply WpA.cd; constructor) | ((first | with_reducible refine WpA.go _ rfl fun Y y => ?_ | apply RunTo.id); simp only [zb, seval, w33, hga, hgb, strEq, strNe, hee, hw2]; refine RunTo.fn y (by first | (simp; done) | omega | (simp; omega)) ?_; clear y Y))))
   refine ⟨a.length - (i + 1), _, by omega, Le.sub (by simp [Sub, find]), i + 1, rfl, hlt, ?_, rfl⟩
   rw [List.take_succ_eq_append_getElem hlt, List.take_succ_eq_append_getElem (by omega), hb, he]
  ·have hee := eqB_neg he
   rw [eqB_neg (a := a) (b := b) fun h => he (by simp [h])]
   repeat (first | (apply fw; (with_reducible constructor) <;> rfl) | (apply WpA.cd; constructor) | ((first | with_reducible refine WpA.go _ rfl fun Y y => ?_ | apply RunTo.id); simp only [zb, seval, w33, hd1, hla]; refine RunTo.fn y (by first | (simp; done) | omega | (simp; omega)) ?_; clear y Y))
   (refine WpA.draw0 9 _ _ _ rfl rfl rfl (by kernel_rfl) (by kernel_rfl) (by kernel_rfl) fun K8 hK8 => ?_); simp only [zz] at hK8 ⊢; (refine Draw0.go fun K7 hK7 => ?_); simp only [zb, seval, w33, hga, hgb, strEq, strNe, hee, hw2]; (refine RunQ.mk (by first | (simp; done) | omega | (simp; omega)) (hK7 _ _ ?_)); clear hK7 K7; (try ((refine Draw0.nil (hK8 _ ?_)); clear hK8 K8; (refine WpL.go _ rfl fun Y y => ?_); repeat (first | (apply fw; (with_reducible constructor) <;> rfl) | (apply WpA.cd; constructor) | ((first | with_reducible refine WpA.go _ rfl fun Y y => ?_ | apply RunTo.id); simp only [zb, seval, w33, hga, hgb, strEq, strNe, hee, hw2]; refine RunTo.fn y (by first | (simp; done) | omega | (simp; omega)) ?_; clear y Y))))
   refine ⟨by simp, _, _, _, _, (by simp only [zb, seval, w33]; rfl), (by simp), (by simp only [zv]; rfl), (by simp), _, ALe.refl _, ?_⟩
   rfl
 ·have hd0 : decide ((i : Int) < (a.length : Int)) = false := by simp; omega
  have hii : i = a.length := by omega
  rw [eqB_pos (show a = b by rw [hii, List.take_length, hl, List.take_length] at hb; exact hb)]
  repeat (first | (apply fw; (with_reducible constructor) <;> rfl) | (apply WpA.cd; constructor) | ((first | with_reducible refine WpA.go _ rfl fun Y y => ?_ | apply RunTo.id); simp only [zb, seval, w33, hd0, hla]; refine RunTo.fn y (by first | (simp; done) | omega | (simp; omega)) ?_; clear y Y))
  repeat (first | (apply fw; (with_reducible constructor) <;> rfl) | (apply WpA.cd; constructor) | ((first | with_reducible refine WpA.go _ rfl fun Y y => ?_ | apply RunTo.id); simp only [zb, seval, w33, hd0, hla]; refine RunTo.fn y (by first | (simp; done) | omega | (simp; omega)) ?_; clear y Y))
  refine ⟨by simp, _, _, _, _, (by simp only [zb, seval, w33]; rfl), (by simp), (by simp only [zv]; rfl), (by simp), _, ALe.refl _, ?_⟩
  rfl
def intsI (a b : List Int) (n : Nat) (st : St) : Prop := ∃ i : Nat, n = a.length - i ∧ i ≤ a.length ∧ a.take i = b.take i ∧
 st = ⟨[(5, .one (.v (.int .i64 i))), (0, .one (.sl 1 (intC a))), (1, .one (.sl 1 (intC b)))], []⟩
theorem ints_pure (a b : List Int) (hlen : a.length ≤ 1000000000000000) : Pure Tryd.prog 34 [.one (.sl 1 (intC a)), .one (.sl 1 (intC b))] (.one (.v (.bool (eqB a b)))) := by
 have hla := intC_len a
 have hlb := intC_len b
 by_cases hl : a.length = b.length
 case neg =>
  have hne : ((a.length : Int) != (b.length : Int)) = true := by simp; omega
  rw [eqB_neg fun h => hl (by rw [h])]
  refine Fn.intro Tryd.func34 rfl Tryd.ntmps34 Tryd.results34 (by simp only [List.length_cons, List.length_nil]; decide) ?_
  repeat (first | (apply fw; (with_reducible constructor) <;> rfl) | (apply WpA.cd; constructor) | ((first | with_reducible refine WpA.go _ rfl fun Y y => ?_ | apply RunTo.id); simp only [zb, seval, w34, hla, hlb, hne]; refine RunTo.fn y (by first | (simp; done) | omega | (simp; omega)) ?_; clear y Y))
  refine ⟨by simp, _, _, _, _, (by simp only [zb, seval, w34]; rfl), (by simp), (by simp only [zv]; rfl), (by simp), _, ALe.refl _, ?_⟩
  rfl
 have hne : ((a.length : Int) != (b.length : Int)) = false := by simp; omega
 refine Fn.intro Tryd.func34 rfl Tryd.ntmps34 Tryd.results34 (by simp only [List.length_cons, List.length_nil]; decide) ?_
 repeat (first | (apply fw; (with_reducible constructor) <;> rfl) | (apply WpA.cd; constructor) | ((first | with_reducible refine WpA.go _ rfl fun Y y => ?_ | apply RunTo.id); simp only [zb, seval, w34, hla, hlb, hne]; refine RunTo.fn y (by first | (simp; done) | omega | (simp; omega)) ?_; clear y Y))
 refine WpA.loop (intsI a b) a.length ?_ ⟨0, rfl, Nat.zero_le _, rfl, rfl⟩ ?_
 ·exact Le.sub (by simp [Sub, find])
 intro n' st hI
 obtain ⟨i, rfl, hi, hb, rfl⟩ := hI
 have hw2 : IntKind.i64.wrap ((i : Int) + 1) = ((i + 1 : Nat) : Int) := by rw [wrap64 (by omega) (by omega)]; omega
 by_cases hlt : i < a.length
 ·have hd1 : decide ((i : Int) < (a.length : Int)) = true := by simp; omega
  have hga := intC_get hlt
  have hgb := intC_get (l := b) (i := i) (by omega)
  by_cases he : a[i] = b[i]
  ·have hee := eqB_pos he
   repeat (first | (apply fw; (with_reducible constructor) <;> rfl) | (apply WpA.cd; constructor) | ((first | with_reducible refine WpA.go _ rfl fun Y y => ?_ | apply RunTo.id); simp only [zb, seval, w34, hd1, hla]; refine RunTo.fn y (by first | (simp; done) | omega | (simp; omega)) ?_; clear y Y))
   (refine WpA.draw0 9 _ _ _ rfl rfl rfl (by kernel_rfl) (by kernel_rfl) (by kernel_rfl) fun K8 hK8 => ?_); simp only [zz] at hK8 ⊢; (refine Draw0.go fun K7 hK7 => ?_); simp only [zb, seval, w34, hga, hgb, intEq, intNe, hee, hw2]; (refine RunQ.mk (by first | (simp; done) | omega | (simp; omega)) (hK7 _ _ ?_)); clear hK7 K7; (try ((refine Draw0.nil (hK8 _ ?_)); clear hK8 K8; (refine WpL.go _ rfl fun Y y => ?_); repeat (first | (apply fw; (with_reducible constructor) <;> rfl) | (apply WpA.cd; constructor) | ((first | with_reducible refine WpA.go _ rfl fun Y y => ?_ | apply RunTo.id); simp only [zb, seval, w34, hga, hgb, intEq, intNe, hee, hw2]; refine RunTo.fn y (by first | (simp; done) | omega | (simp; omega)) ?_; clear y Y))))
   refine ⟨a.length - (i + 1), _, by omega, Le.sub (by simp [Sub, find]), i + 1, rfl, hlt, ?_, rfl⟩
   rw [List.take_succ_eq_append_getElem hlt, List.take_succ_eq_append_getElem (by omega), hb, he]
  ·have hee := eqB_neg he
   rw [eqB_neg (a := a) (b := b) fun h => he (by simp [h])]
   repeat (first | (apply fw; (with_reducible constructor) <;> rfl) | (apply WpA.cd; constructor) | ((first | with_reducible refine WpA.go _ rfl fun Y y => ?_ | apply RunTo.id); simp only [zb, seval, w34, hd1, hla]; refine RunTo.fn y (by first | (simp; done) | omega | (simp; omega)) ?_; clear y Y))
   (refine WpA.draw0 9 _ _ _ rfl rfl rfl (by kernel_rfl) (by kernel_rfl) (by kernel_rfl) fun K8 hK8 => ?_); simp only [zz] at hK8 ⊢; (refine Draw0.go fun K7 hK7 => ?_); simp only [zb, seval, w34, hga, hgb, intEq, intNe, hee, hw2]; (refine RunQ.mk (by first | (simp; done) | omega | (simp; omega)) (hK7 _ _ ?_)); clear hK7 K7; (try ((refine Draw0.nil (hK8 _ ?_)); clear hK8 K8; (refine WpL.go _ rfl fun Y y => ?_); repeat (first | (apply fw; (with_reducible constructor) <;> rfl) | (apply WpA.cd; constructor) | ((first | with_reducible refine WpA.go _ rfl fun Y y => ?_ | apply RunTo.id); simp only [zb, seval, w34, hga, hgb, intEq, intNe, hee, hw2]; refine RunTo.fn y (by first | (simp; done) | omega | (simp; omega)) ?_; clear y Y))))
   refine ⟨by simp, _, _, _, _, (by simp only [zb, seval, w34]; rfl), (by simp), (by simp only [zv]; rfl), (by simp), _, ALe.refl _, ?_⟩
   rfl
 ·have hd0 : decide ((i : Int) < (a.length : Int)) = false := by simp; omega
  have hii : i = a.length := by omega
  rw [eqB_pos (show a = b by rw [hii, List.take_length, hl, List.take_length] at hb; exact hb)]
  repeat (first | (apply fw; (with_reducible constructor) <;> rfl) | (apply WpA.cd; constructor) | ((first | with_reducible refine WpA.go _ rfl fun Y y => ?_ | apply RunTo.id); simp only [zb, seval, w34, hd0, hla]; refine RunTo.fn y (by first | (simp; done) | omega | (simp; omega)) ?_; clear y Y))
  repeat (first | (apply fw; (with_reducible constructor) <;> rfl) | (apply WpA.cd; constructor) | ((first | with_reducible refine WpA.go _ rfl fun Y y => ?_ | apply RunTo.id); simp only [zb, seval, w34, hd0, hla]; refine RunTo.fn y (by first | (simp; done) | omega | (simp; omega)) ?_; clear y Y))
  refine ⟨by simp, _, _, _, _, (by simp only [zb, seval, w34]; rfl), (by simp), (by simp only [zv]; rfl), (by simp), _, ALe.refl _, ?_⟩
  rfl
theorem rsamelist_pure (l m : List D) : Pure Tryd.prog 22 [.one (.sl 6 (l.map D.cc)), .one (.sl 6 (m.map D.cc))] (.one (.v (.bool (eqB l m)))) := by
 refine pure_old_v rfl fun w vs hg hv => ?_
 obtain ⟨v, u, rfl, hv1, hu1⟩ := hv.two
 exact rsamelist_any l m w v u hv1.isDs hu1.isDs
theorem nd_get {l : List Nd} {i : Nat} (h : i < l.length) : (l.map Nd.row)[i]? = some (l[i]).row := by simp [h]
theorem Nd.ext' {a b : Nd} (h1 : a.op = b.op) (h2 : a.a = b.a) (h3 : a.b = b.b) (h4 : a.l = b.l) : a = b := by cases a; cases b; simp_all
def SnI (a b : List Nd) (n : Nat) (st : St) : Prop := ∃ i : Nat, n = a.length - i ∧ i ≤ a.length ∧ a.take i = b.take i ∧
 st = ⟨[(5, .one (.v (.int .i64 i))), (0, .one (.sl 4 (a.map Nd.row))), (1, .one (.sl 4 (b.map Nd.row)))], []⟩
theorem sameNodes_pure (a b : List Nd) (hlen : a.length ≤ 1000000000) (hk : ∀ x ∈ a, x.l.length ≤ 1000000000) : Pure Tryd.prog 32 [.one (.sl 4 (a.map Nd.row)), .one (.sl 4 (b.map Nd.row))] (.one (.v (.bool (eqB a b)))) := by
 by_cases hl : a.length = b.length
 case neg =>
  have hne : ((a.length : Int) != (b.length : Int)) = true := by simp; omega
  rw [eqB_neg fun h => hl (by rw [h])]
  refine Fn.intro Tryd.func32 rfl Tryd.ntmps32 Tryd.results32 (by simp only [List.length_cons, List.length_nil]; decide) ?_
  repeat (first | (apply fw; (with_reducible constructor) <;> rfl) | (apply WpA.cd; constructor) | ((first | with_reducible refine WpA.go _ rfl fun Y y => ?_ | apply RunTo.id); simp only [zb, seval, w32, hne]; refine RunTo.fn y (by first | (simp; done) | omega | (simp; omega)) ?_; clear y Y))
  refine ⟨by simp, _, _, _, _, (by simp only [zb, seval, w32]; rfl), (by simp), (by simp only [zv]; rfl), (by simp), _, ALe.refl _, ?_⟩
  rfl
 have hne : ((a.length : Int) != (b.length : Int)) = false := by simp; omega
 refine Fn.intro Tryd.func32 rfl Tryd.ntmps32 Tryd.results32 (by simp only [List.length_cons, List.length_nil]; decide) ?_
 repeat (first | (apply fw; (with_reducible constructor) <;> rfl) | (apply WpA.cd; constructor) | ((first | with_reducible refine WpA.go _ rfl fun Y y => ?_ | apply RunTo.id); simp only [zb, seval, w32, hne]; refine RunTo.fn y (by first | (simp; done) | omega | (simp; omega)) ?_; clear y Y))
 refine WpA.loop (SnI a b) a.length ?_ ⟨0, rfl, Nat.zero_le _, rfl, rfl⟩ ?_
 ·exact Le.sub (by simp [Sub, find])
 intro n' st hI
 obtain ⟨i, rfl, hi, hb, rfl⟩ := hI
 have hw2 : IntKind.i64.wrap ((i : Int) + 1) = ((i + 1 : Nat) : Int) := by rw [wrap64 (by omega) (by omega)]; omega
 by_cases hlt : i < a.length
 ·have hd1 : decide ((i : Int) < (a.length : Int)) = true := by simp; omega
  have hga := nd_get hlt
  have hgb := nd_get (l := b) (i := i) (by omega)
  have hin := ints_pure a[i].l b[i].l (by have := hk a[i] (List.getElem_mem _); omega)
  simp only [Nd.row] at hga hgb
  have hfin : a[i] ≠ b[i] → eqB a b = false := fun h => eqB_neg fun e => h (by simp [e])
  have hfin2 : eqB a[i].op b[i].op = false ∨ eqB a[i].a b[i].a = false ∨ eqB a[i].b b[i].b = false ∨ eqB a[i].l b[i].l = false → eqB a b = false := fun h => hfin fun e => by
   rw [e, eqB_pos rfl, eqB_pos rfl, eqB_pos rfl, eqB_pos rfl] at h
   simp at h
  have hall : eqB a[i].op b[i].op = true → eqB a[i].a b[i].a = true → eqB a[i].b b[i].b = true → eqB a[i].l b[i].l = true → a[i] = b[i] := fun h1 h2 h3 h4 => Nd.ext' (eqB_iff.1 h1) (eqB_iff.1 h2) (eqB_iff.1 h3) (eqB_iff.1 h4)
  generalize f4 : eqB a[i].l b[i].l = e4 at hin hfin2 hall
  cases f1 : eqB a[i].op b[i].op <;> cases f2 : eqB a[i].a b[i].a <;> cases f3 : eqB a[i].b b[i].b
  case true.true.true =>
   repeat (first | (apply fw; (with_reducible constructor) <;> rfl) | (apply WpA.cd; constructor) | ((first | with_reducible refine WpA.go _ rfl fun Y y => ?_ | apply RunTo.id); simp only [zb, seval, w32, hd1]; refine RunTo.fn y (by first | (simp; done) | omega | (simp; omega)) ?_; clear y Y))
   (refine WpA.draw0 51 _ _ _ rfl rfl rfl (by kernel_rfl) (by kernel_rfl) (by kernel_rfl) fun K8 hK8 => ?_); simp only [zz] at hK8 ⊢; (refine Draw0.go fun K7 hK7 => ?_); simp only [zb, seval, w32, hga, hgb, intEq, intNe, f1, f2, f3]; (refine RunQ.mk (by first | (simp; done) | omega | (simp; omega)) (hK7 _ _ ?_)); clear hK7 K7; (try ((refine Draw0.nil (hK8 _ ?_)); clear hK8 K8; (refine WpL.go _ rfl fun Y y => ?_); repeat (first | (apply fw; (with_reducible constructor) <;> rfl) | (apply WpA.cd; constructor) | ((first | with_reducible refine WpA.go _ rfl fun Y y => ?_ | apply RunTo.id); simp only [zb, seval, w32, hga, hgb, intEq, intNe, f1, f2, f3]; refine RunTo.fn y (by first | (simp; done) | omega | (simp; omega)) ?_; clear y Y))))
   refine Draw0.step (OpS.shut rfl rfl rfl (by kernel_rfl) (ALes.refl _) (by first | rfl | simp [shuts, A.shut, C.shut]) (hin)) ?_
   cases e4 with
   | false =>
    (refine Draw0.go fun K7 hK7 => ?_); simp only [zb, seval, w32]; (refine RunQ.mk (by first | (simp; done) | omega | (simp; omega)) (hK7 _ _ ?_)); clear hK7 K7; (try ((refine Draw0.nil (hK8 _ ?_)); clear hK8 K8; (refine WpL.go _ rfl fun Y y => ?_); repeat (first | (apply fw; (with_reducible constructor) <;> rfl) | (apply WpA.cd; constructor) | ((first | with_reducible refine WpA.go _ rfl fun Y y => ?_ | apply RunTo.id); simp only [zb, seval, w32]; refine RunTo.fn y (by first | (simp; done) | omega | (simp; omega)) ?_; clear y Y))))
    refine ⟨by simp, _, _, _, _, (by simp only [zb, seval, w32]; rfl), (by simp), (by simp only [zv]; rfl), (by simp), _, ALe.refl _, ?_⟩
    rw [hfin2 (.inr (.inr (.inr rfl)))]
   | true =>
    (refine Draw0.go fun K7 hK7 => ?_); simp only [zb, seval, w32, hw2]; (refine RunQ.mk (by first | (simp; done) | omega | (simp; omega)) (hK7 _ _ ?_)); clear hK7 K7; (try ((refine Draw0.nil (hK8 _ ?_)); clear hK8 K8; (refine WpL.go _ rfl fun Y y => ?_); repeat (first | (apply fw; (with_reducible constructor) <;> rfl) | (apply WpA.cd; constructor) | ((first | with_reducible refine WpA.go _ rfl fun Y y => ?_ | apply RunTo.id); simp only [zb, seval, w32, hw2]; refine RunTo.fn y (by first | (simp; done) | omega | (simp; omega)) ?_; clear y Y))))
    refine ⟨a.length - (i + 1), _, by omega, Le.sub (by simp [Sub, find]), i + 1, rfl, hlt, ?_, rfl⟩
    rw [List.take_succ_eq_append_getElem hlt, List.take_succ_eq_append_getElem (by omega), hb, hall f1 f2 f3 rfl]
  all_goals
   rw [hfin2 (by simp [f1, f2, f3])]
   repeat (first | (apply fw; (with_reducible constructor) <;> rfl) | (apply WpA.cd; constructor) | ((first | with_reducible refine WpA.go _ rfl fun Y y => ?_ | apply RunTo.id); simp only [zb, seval, w32, hd1]; refine RunTo.fn y (by first | (simp; done) | omega | (simp; omega)) ?_; clear y Y))
   (refine WpA.draw0 51 _ _ _ rfl rfl rfl (by kernel_rfl) (by kernel_rfl) (by kernel_rfl) fun K8 hK8 => ?_); simp only [zz] at hK8 ⊢; (refine Draw0.go fun K7 hK7 => ?_); simp only [zb, seval, w32, hga, hgb, intEq, intNe, f1, f2, f3]; (refine RunQ.mk (by first | (simp; done) | omega | (simp; omega)) (hK7 _ _ ?_)); clear hK7 K7; (try ((refine Draw0.nil (hK8 _ ?_)); clear hK8 K8; (refine WpL.go _ rfl fun Y y => ?_); repeat (first | (apply fw; (with_reducible constructor) <;> rfl) | (apply WpA.cd; constructor) | ((first | with_reducible refine WpA.go _ rfl fun Y y => ?_ | apply RunTo.id); simp only [zb, seval, w32, hga, hgb, intEq, intNe, f1, f2, f3]; refine RunTo.fn y (by first | (simp; done) | omega | (simp; omega)) ?_; clear y Y))))
   refine ⟨by simp, _, _, _, _, (by simp only [zb, seval, w32]; rfl), (by simp), (by simp only [zv]; rfl), (by simp), _, ALe.refl _, ?_⟩
   rfl
 ·have hd0 : decide ((i : Int) < (a.length : Int)) = false := by simp; omega
  have hii : i = a.length := by omega
  rw [eqB_pos (show a = b by rw [hii, List.take_length, hl, List.take_length] at hb; exact hb)]
  repeat (first | (apply fw; (with_reducible constructor) <;> rfl) | (apply WpA.cd; constructor) | ((first | with_reducible refine WpA.go _ rfl fun Y y => ?_ | apply RunTo.id); simp only [zb, seval, w32, hd0]; refine RunTo.fn y (by first | (simp; done) | omega | (simp; omega)) ?_; clear y Y))
  repeat (first | (apply fw; (with_reducible constructor) <;> rfl) | (apply WpA.cd; constructor) | ((first | with_reducible refine WpA.go _ rfl fun Y y => ?_ | apply RunTo.id); simp only [zb, seval, w32, hd0]; refine RunTo.fn y (by first | (simp; done) | omega | (simp; omega)) ?_; clear y Y))
  refine ⟨by simp, _, _, _, _, (by simp only [zb, seval, w32]; rfl), (by simp), (by simp only [zv]; rfl), (by simp), _, ALe.refl _, ?_⟩
  rfl
theorem sameCode_pure (a b : Cd) (h : a.Bd) : Pure Tryd.prog 17 [.agg (codeC a), .agg (codeC b)] (.one (.v (.bool (eqB a b)))) := by
 obtain ⟨h1, h2, h3, h4, h5⟩ := h
 have c1 := sameNodes_pure a.nodes b.nodes h1 h2
 have c2 := rsamelist_pure a.consts b.consts
 have c3 := texts_pure a.globals b.globals (by omega)
 have c4 := texts_pure a.prims b.prims (by omega)
 have c5 := ints_pure a.tops b.tops (by omega)
 simp only [codeC]
 have hq : eqB a b = (eqB a.nodes b.nodes && eqB a.consts b.consts && eqB a.globals b.globals && eqB a.prims b.prims && eqB a.tops b.tops) := by
  by_cases e : a = b
  ·subst e
   rw [eqB_pos rfl, eqB_pos rfl, eqB_pos rfl, eqB_pos rfl, eqB_pos rfl, eqB_pos rfl]; rfl
  ·rw [eqB_neg e]
   cases hc : (eqB a.nodes b.nodes && eqB a.consts b.consts && eqB a.globals b.globals && eqB a.prims b.prims && eqB a.tops b.tops) with
   | false => rfl
   | true =>
    simp only [Bool.and_eq_true, eqB_iff] at hc
    exact absurd (by cases a; cases b; simp_all) e
 rw [hq]
 generalize eqB a.nodes b.nodes = e1 at c1
 generalize eqB a.consts b.consts = e2 at c2
 generalize eqB a.globals b.globals = e3 at c3
 generalize eqB a.prims b.prims = e4 at c4
 generalize eqB a.tops b.tops = e5 at c5
 refine Fn.intro Tryd.func17 rfl Tryd.ntmps17 Tryd.results17 (by simp only [List.length_cons, List.length_nil]; decide) ?_
 repeat (first | (apply fw; (with_reducible constructor) <;> rfl) | (apply WpA.cd; constructor) | ((first | with_reducible refine WpA.go _ rfl fun Y y => ?_ | apply RunTo.id); simp only [zb, seval, w17]; refine RunTo.fn y (by first | (simp; done) | omega | (simp; omega)) ?_; clear y Y))
 refine WpL.call rfl (guardA_sound (P := Tryd.prog) rfl) (CallA.shut rfl rfl (by kernel_rfl) (ALes.refl _) (by first | rfl | simp [shuts, A.shut, C.shut]) (c1) ?_)
 cases e1
 case false =>
  (refine WpL.go _ rfl fun Y y => ?_); repeat (first | (apply fw; (with_reducible constructor) <;> rfl) | (apply WpA.cd; constructor) | ((first | with_reducible refine WpA.go _ rfl fun Y y => ?_ | apply RunTo.id); simp only [zb, seval, w17]; refine RunTo.fn y (by first | (simp; done) | omega | (simp; omega)) ?_; clear y Y))
  refine ⟨by simp, _, _, _, _, (by simp only [zb, seval, w17]; rfl), (by simp), (by simp only [zv]; rfl), (by simp), _, ALe.refl _, ?_⟩
  rfl
 (refine WpL.go _ rfl fun Y y => ?_); repeat (first | (apply fw; (with_reducible constructor) <;> rfl) | (apply WpA.cd; constructor) | ((first | with_reducible refine WpA.go _ rfl fun Y y => ?_ | apply RunTo.id); simp only [zb, seval, w17]; refine RunTo.fn y (by first | (simp; done) | omega | (simp; omega)) ?_; clear y Y))
 refine WpL.call rfl (guardA_sound (P := Tryd.prog) rfl) (CallA.shut rfl rfl (by kernel_rfl) (ALes.refl _) (by first | rfl | simp [shuts, A.shut, C.shut]) (c2) ?_)
 cases e2
 case false =>
  (refine WpL.go _ rfl fun Y y => ?_); repeat (first | (apply fw; (with_reducible constructor) <;> rfl) | (apply WpA.cd; constructor) | ((first | with_reducible refine WpA.go _ rfl fun Y y => ?_ | apply RunTo.id); simp only [zb, seval, w17]; refine RunTo.fn y (by first | (simp; done) | omega | (simp; omega)) ?_; clear y Y))
  refine ⟨by simp, _, _, _, _, (by simp only [zb, seval, w17]; rfl), (by simp), (by simp only [zv]; rfl), (by simp), _, ALe.refl _, ?_⟩
  rfl
 (refine WpL.go _ rfl fun Y y => ?_); repeat (first | (apply fw; (with_reducible constructor) <;> rfl) | (apply WpA.cd; constructor) | ((first | with_reducible refine WpA.go _ rfl fun Y y => ?_ | apply RunTo.id); simp only [zb, seval, w17]; refine RunTo.fn y (by first | (simp; done) | omega | (simp; omega)) ?_; clear y Y))
 refine WpL.call rfl (guardA_sound (P := Tryd.prog) rfl) (CallA.shut rfl rfl (by kernel_rfl) (ALes.refl _) (by first | rfl | simp [shuts, A.shut, C.shut]) (c3) ?_)
 cases e3
 case false =>
  (refine WpL.go _ rfl fun Y y => ?_); repeat (first | (apply fw; (with_reducible constructor) <;> rfl) | (apply WpA.cd; constructor) | ((first | with_reducible refine WpA.go _ rfl fun Y y => ?_ | apply RunTo.id); simp only [zb, seval, w17]; refine RunTo.fn y (by first | (simp; done) | omega | (simp; omega)) ?_; clear y Y))
  refine ⟨by simp, _, _, _, _, (by simp only [zb, seval, w17]; rfl), (by simp), (by simp only [zv]; rfl), (by simp), _, ALe.refl _, ?_⟩
  rfl
 (refine WpL.go _ rfl fun Y y => ?_); repeat (first | (apply fw; (with_reducible constructor) <;> rfl) | (apply WpA.cd; constructor) | ((first | with_reducible refine WpA.go _ rfl fun Y y => ?_ | apply RunTo.id); simp only [zb, seval, w17]; refine RunTo.fn y (by first | (simp; done) | omega | (simp; omega)) ?_; clear y Y))
 refine WpL.call rfl (guardA_sound (P := Tryd.prog) rfl) (CallA.shut rfl rfl (by kernel_rfl) (ALes.refl _) (by first | rfl | simp [shuts, A.shut, C.shut]) (c4) ?_)
 cases e4
 case false =>
  (refine WpL.go _ rfl fun Y y => ?_); repeat (first | (apply fw; (with_reducible constructor) <;> rfl) | (apply WpA.cd; constructor) | ((first | with_reducible refine WpA.go _ rfl fun Y y => ?_ | apply RunTo.id); simp only [zb, seval, w17]; refine RunTo.fn y (by first | (simp; done) | omega | (simp; omega)) ?_; clear y Y))
  refine ⟨by simp, _, _, _, _, (by simp only [zb, seval, w17]; rfl), (by simp), (by simp only [zv]; rfl), (by simp), _, ALe.refl _, ?_⟩
  rfl
 (refine WpL.go _ rfl fun Y y => ?_); repeat (first | (apply fw; (with_reducible constructor) <;> rfl) | (apply WpA.cd; constructor) | ((first | with_reducible refine WpA.go _ rfl fun Y y => ?_ | apply RunTo.id); simp only [zb, seval, w17]; refine RunTo.fn y (by first | (simp; done) | omega | (simp; omega)) ?_; clear y Y))
 refine WpL.call rfl (guardA_sound (P := Tryd.prog) rfl) (CallA.shut rfl rfl (by kernel_rfl) (ALes.refl _) (by first | rfl | simp [shuts, A.shut, C.shut]) (c5) ?_)
 (refine WpL.go _ rfl fun Y y => ?_); repeat (first | (apply fw; (with_reducible constructor) <;> rfl) | (apply WpA.cd; constructor) | ((first | with_reducible refine WpA.go _ rfl fun Y y => ?_ | apply RunTo.id); simp only [zb, seval, w17]; refine RunTo.fn y (by first | (simp; done) | omega | (simp; omega)) ?_; clear y Y))
 refine ⟨by simp, _, _, _, _, (by simp only [zb, seval, w17]; rfl), (by simp), (by simp only [zv]; rfl), (by simp), _, ALe.refl _, ?_⟩
 rfl
end Go.Proofs.YtpacdmgnpadleaaDoor
end
