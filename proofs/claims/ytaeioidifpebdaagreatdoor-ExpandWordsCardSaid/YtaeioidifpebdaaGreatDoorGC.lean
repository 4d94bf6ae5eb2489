/-
 Laid together: Meas18, SameK, LawWords.
-/
import Derived.Test.YtaeioidifpebdaaGreatDoorG6
import Derived.Test.YtaeioidifpebdaaGreatDoorG5
import Derived.Test.YtaeioidifpebdaaGreatDoorSame3
import Derived.Test.YtaeioidifpebdaaGreatDoorGA
section
namespace Go.Proofs.YtaeioidifpebdaaGreatDoor
open Go Go.RowKit Go.Lib
set_option linter.unusedSimpArgs false
set_option linter.unusedVariables false
set_option maxHeartbeats 4000000
set_option maxRecDepth 100000
def p18 : Nat × Nat × Nat × Nat := (300, 100, 1000, 1000)
theorem w18_eq (d : D) (left : Int) : d.weigh p18 left = if 300 < d.t.size ∨ 100 < d.mag.length then -1 else weighs p18 d.l (left - 1) := by
 rw [D.weigh_eq]
 show (if 300 < d.t.size ∨ 100 < d.mag.length then (-1 : Int) else weighs p18 d.l (left - 1 - (d.t.size / 1000 : Nat) - (d.mag.length / 1000 : Nat))) = _
 by_cases h : 300 < d.t.size ∨ 100 < d.mag.length
 ·rw [if_pos h, if_pos h]
 ·rw [if_neg h, if_neg h, Nat.div_eq_of_lt (by omega), Nat.div_eq_of_lt (by omega)]
  simp
mutual
theorem w18_bd : ∀ (d : D) (left : Int), -1 ≤ left → -2 ≤ d.weigh p18 left ∧ d.weigh p18 left ≤ max left (-1)
 | .mk k c neg mag t l, left, h => by
  rw [w18_eq]
  by_cases hc : 300 < (D.mk k c neg mag t l).t.size ∨ 100 < (D.mk k c neg mag t l).mag.length
  ·rw [if_pos hc]; omega
  ·rw [if_neg hc]
   have := ws18_bd l (left - 1) (by omega)
   show -2 ≤ weighs p18 l (left - 1) ∧ weighs p18 l (left - 1) ≤ max left (-1)
   omega
theorem ws18_bd : ∀ (l : List D) (left : Int), -2 ≤ left → -2 ≤ weighs p18 l left ∧ weighs p18 l left ≤ max left (-1)
 | [], left, h => by simp only [weighs]; omega
 | d :: l, left, h => by
  rw [weighs]
  by_cases hc : left < 0
  ·rw [if_pos hc]; omega
  ·rw [if_neg hc]
   have h1 := w18_bd d left (by omega)
   have h2 := ws18_bd l (d.weigh p18 left) (by omega)
   omega
end
def WgI18 (d : D) (left : Int) (n : Nat) (st : St) : Prop := ∃ i : Nat, n = d.l.length - i ∧ i ≤ d.l.length ∧
 st = ⟨[(5, .one (.v (.int .i64 i))), (1, .one (.v (.int .i64 (weighs p18 (d.l.take i) (left - 1))))), (2, .one (.ptr 0 1 0 0))], [some ⟨28, 6, [[.v (.int .i64 d.k), .v (.int .i32 d.c), .v (.bool d.neg), .sl 1 (d.mag.map fun n => [.v (.int .u32 n)]), .v (.string d.t), .sl 6 (d.l.map D.cc)]]⟩]⟩
theorem w18_upto : ∀ n (d : D), d.ht ≤ n → d.Ok → ∀ left : Int, -1 ≤ left → left ≤ 1000000000 → Pure Tryz.prog 38 [.agg d.cc, .one (.v (.int .i64 left))] (.one (.v (.int .i64 (d.weigh p18 left)))) := by
 intro n
 induction n with
 | zero => intro d h; exact absurd h (by cases d; rw [D.ht]; omega)
 | succ n ih =>
  intro d hh hok left h0 h1
  have hws : IntKind.i64.wrap (left - 1) = left - 1 := wrap64 (by omega) (by omega)
  have hlen : d.l.length ≤ 100000000000000 := by cases d; have := hok.2.2.2.2.1.2; simp only [D.l]; omega
  rw [w18_eq]
  have hts : decide ((300 : Int) < (d.t.size : Int)) = decide (300 < d.t.size) := by apply decide_eq_decide.2; omega
  have hms : decide ((100 : Int) < (d.mag.length : Int)) = decide (100 < d.mag.length) := by apply decide_eq_decide.2; omega
  rw [D.cc_eq]
  by_cases ht : 300 < d.t.size
  ·rw [if_pos (.inl ht)]
   refine fi Tryz.func38 Tryz.ntmps38 Tryz.results38 ?_
   repeat (first | (apply fw; (with_reducible constructor) <;> rfl) | (apply WpA.cd; constructor) | ((first | with_reducible refine WpA.go _ rfl fun Y y => ?_ | apply RunTo.id); simp only [zb, seval, w38, hws, hts, ht]; refine fz y ?_; clear y Y))
   refine ye (by simp only [zb, seval, w38]; rfl) (by simp only [zv]; rfl) ?_
   rfl
  by_cases hm : 100 < d.mag.length
  ·rw [if_pos (.inr hm)]
   refine fi Tryz.func38 Tryz.ntmps38 Tryz.results38 ?_
   repeat (first | (apply fw; (with_reducible constructor) <;> rfl) | (apply WpA.cd; constructor) | ((first | with_reducible refine WpA.go _ rfl fun Y y => ?_ | apply RunTo.id); simp only [zb, seval, w38, hws, hts, ht, hms, hm]; refine fz y ?_; clear y Y))
   refine ye (by simp only [zb, seval, w38]; rfl) (by simp only [zv]; rfl) ?_
   rfl
  rw [if_neg (by omega)]
  refine fi Tryz.func38 Tryz.ntmps38 Tryz.results38 ?_
  repeat (first | (apply fw; (with_reducible constructor) <;> rfl) | (apply WpA.cd; constructor) | ((first | with_reducible refine WpA.go _ rfl fun Y y => ?_ | apply RunTo.id); simp only [zb, seval, w38, hws, hts, ht, hms, hm]; refine fz y ?_; clear y Y))
  refine WpA.loop (WgI18 d left) d.l.length ?_ ⟨0, rfl, Nat.zero_le _, rfl⟩ ?_
  ·exact Le.drop 1 (Nat.zero_le _) rfl (by simp [Sub, find, weighs]) rfl (by simp [ObBd, C.bd])
  intro n' st hst
  obtain ⟨i, rfl, hi, rfl⟩ := hst
  have hw2 : IntKind.i64.wrap ((i : Int) + 1) = ((i + 1 : Nat) : Int) := by rw [wrap64 (by omega) (by omega)]; omega
  have hbd := ws18_bd (d.l.take i) (left - 1) (by omega)
  generalize hv : weighs p18 (d.l.take i) (left - 1) = v at *
  by_cases hlt : i < d.l.length
  ·have hd1 : decide ((i : Int) < (d.l.length : Int)) = true := by simp; omega
   by_cases hn : v < 0
   ·have hge : decide ((0 : Int) ≤ v) = false := by simp; omega
    have hst := weighs_stop p18 d.l (left - 1) i (by rw [hv]; exact hn)
    repeat (first | (apply fw; (with_reducible constructor) <;> rfl) | (apply WpA.cd; constructor) | ((first | with_reducible refine WpA.go _ rfl fun Y y => ?_ | apply RunTo.id); simp only [zb, seval, w38, hd1, hge]; refine fz y ?_; clear y Y))
    repeat (first | (apply fw; (with_reducible constructor) <;> rfl) | (apply WpA.cd; constructor) | ((first | with_reducible refine WpA.go _ rfl fun Y y => ?_ | apply RunTo.id); simp only [zb, seval, w38, hd1, hge]; refine fz y ?_; clear y Y))
    refine ye (by simp only [zb, seval, w38]; rfl) (by simp only [zv]; rfl) ?_
    rw [hst, hv]
   ·have hge : decide ((0 : Int) ≤ v) = true := by simp; omega
    have hget := getC hlt
    have hc := ih d.l[i] (by have := D.ht_lt hlt; omega) (by cases d; exact hok.2.2.2.2.2.get i hlt) v (by omega) (by omega)
    have hsu := weighs_succ p18 d.l (left - 1) i hlt (by rw [hv]; exact hn)
    rw [D.cc_eq] at hget hc
    repeat (first | (apply fw; (with_reducible constructor) <;> rfl) | (apply WpA.cd; constructor) | ((first | with_reducible refine WpA.go _ rfl fun Y y => ?_ | apply RunTo.id); simp only [zb, seval, w38, hd1, hge, hget]; refine fz y ?_; clear y Y))
    refine cz (hc) ?_
    (refine WpL.go _ rfl fun Y y => ?_); repeat (first | (apply fw; (with_reducible constructor) <;> rfl) | (apply WpA.cd; constructor) | ((first | with_reducible refine WpA.go _ rfl fun Y y => ?_ | apply RunTo.id); simp only [zb, seval, w38, hw2]; refine fz y ?_; clear y Y))
    refine ⟨d.l.length - (i + 1), _, by omega, ?_, i + 1, rfl, hlt, rfl⟩
    rw [hsu, hv]
    exact Le.drop 1 (Nat.zero_le _) rfl (by simp [Sub, find]) rfl (by simp [ObBd, C.bd])
  ·have hd0 : decide ((i : Int) < (d.l.length : Int)) = false := by simp; omega
   have hii : i = d.l.length := by omega
   subst hii
   repeat (first | (apply fw; (with_reducible constructor) <;> rfl) | (apply WpA.cd; constructor) | ((first | with_reducible refine WpA.go _ rfl fun Y y => ?_ | apply RunTo.id); simp only [zb, seval, w38, hd0]; refine fz y ?_; clear y Y))
   repeat (first | (apply fw; (with_reducible constructor) <;> rfl) | (apply WpA.cd; constructor) | ((first | with_reducible refine WpA.go _ rfl fun Y y => ?_ | apply RunTo.id); simp only [zb, seval, w38, hd0]; refine fz y ?_; clear y Y))
   refine ye (by simp only [zb, seval, w38]; rfl) (by simp only [zv]; rfl) ?_
   rw [List.take_length] at hv
   rw [hv]
theorem w18_pure (d : D) (hok : d.Ok) (left : Int) (h0 : -1 ≤ left) (h1 : left ≤ 1000000000) : Pure Tryz.prog 38 [.agg d.cc, .one (.v (.int .i64 left))] (.one (.v (.int .i64 (d.weigh p18 left)))) := w18_upto d.ht d (Nat.le_refl _) hok left h0 h1
mutual
def K.m18 : K → Int → Int
 | .mk k name rest params d l, left => if d.weigh p18 200 < 0 ∨ 1000 < name.size then -1 else m18s l (left - 1 - params.length)
def m18s : List K → Int → Int
 | [], left => left
 | c :: l, left => if left < 0 then left else m18s l (c.m18 left)
end
theorem K.m18_eq (x : K) (left : Int) : x.m18 left = if x.d.weigh p18 200 < 0 ∨ 1000 < x.name.size then -1 else m18s x.l (left - 1 - x.params.length) := by
 cases x; rw [K.m18]; rfl
theorem m18s_neg (l : List K) (left : Int) (h : left < 0) : m18s l left = left := by
 cases l <;> simp [m18s, h]
theorem m18s_app (a b : List K) (left : Int) : m18s (a ++ b) left = m18s b (m18s a left) := by
 induction a generalizing left with
 | nil => rfl
 | cons c a ih =>
  rw [List.cons_append, m18s, m18s]
  by_cases h : left < 0
  ·rw [if_pos h, if_pos h, m18s_neg _ _ h]
  ·rw [if_neg h, if_neg h, ih]
theorem m18s_succ (l : List K) (left : Int) (k : Nat) (h : k < l.length) (hn : ¬ m18s (l.take k) left < 0) : m18s (l.take (k + 1)) left = l[k].m18 (m18s (l.take k) left) := by
 rw [List.take_succ_eq_append_getElem h, m18s_app]
 simp [m18s, hn]
theorem m18s_stop (l : List K) (left : Int) (k : Nat) (hn : m18s (l.take k) left < 0) : m18s l left = m18s (l.take k) left := by
 have : l = l.take k ++ l.drop k := (List.take_append_drop k l).symm
 conv => lhs; rw [this]
 rw [m18s_app, m18s_neg _ _ hn]
theorem K.Oks.take : ∀ {l : List K}, K.Oks l → ∀ k, K.Oks (l.take k)
 | _, _, 0 => by rw [List.take_zero]; trivial
 | [], _, k + 1 => trivial
 | c :: l, h, k + 1 => ⟨h.1, K.Oks.take h.2 k⟩
mutual
theorem m18_bd : ∀ (x : K) (left : Int), x.Ok → 0 ≤ left → -2000000000000000 ≤ x.m18 left ∧ x.m18 left ≤ left
 | .mk k name rest params d l, left, ho, h => by
  have hp := ho.par
  simp only [K.params] at hp
  have := m18s_bd l (left - 1 - params.length) ho.kids (by omega)
  rw [K.m18]
  split <;> omega
theorem m18s_bd : ∀ (l : List K) (left : Int), K.Oks l → -2000000000000000 ≤ left → -2000000000000000 ≤ m18s l left ∧ m18s l left ≤ max left (-1)
 | [], left, ho, h => by simp only [m18s]; omega
 | c :: l, left, ho, h => by
  rw [m18s]
  by_cases hc : left < 0
  ·rw [if_pos hc]; omega
  ·rw [if_neg hc]
   have h1 := m18_bd c left ho.1 (by omega)
   have h2 := m18s_bd l (c.m18 left) ho.2 (by omega)
   omega
end
def coreOb (x : K) : Ob := ⟨31, 11, [[.v (.int .i64 x.k), .v (.string x.name), .v (.string x.rest), .sl 1 (strC x.params), .v (.int .i64 x.d.k), .v (.int .i32 x.d.c), .v (.bool x.d.neg), .sl 1 (x.d.mag.map fun n => [.v (.int .u32 n)]), .v (.string x.d.t), .sl 6 (x.d.l.map D.cc), .sl 11 (x.l.map K.cc)]]⟩
theorem coreOb_bd (n : Nat) (x : K) : ObBd n [some (coreOb x)] := by simp [coreOb, ObBd, C.bd]
def M18I (x : K) (v : Int) (n : Nat) (st : St) : Prop := ∃ i : Nat, n = x.l.length - i ∧ i ≤ x.l.length ∧
 st = ⟨[(5, .one (.v (.int .i64 i))), (1, .one (.v (.int .i64 (m18s (x.l.take i) v)))), (2, .one (.ptr 0 1 0 0))], [some (coreOb x)]⟩
theorem m18_upto : ∀ n (x : K), x.ht ≤ n → x.Ok → ∀ left : Int, 0 ≤ left → left ≤ 1000000000 → Pure Tryz.prog 34 [.agg x.cc, .one (.v (.int .i64 left))] (.one (.v (.int .i64 (x.m18 left)))) := by
 intro n
 induction n with
 | zero => intro x h; exact absurd h (by have := x.ht_pos; omega)
 | succ n ih =>
  intro x hh hok left h0 h1
  have hlen := hok.len
  have hpl := hok.par
  have hsl := strC_len x.params
  have hws : IntKind.i64.wrap (left - 1) = left - 1 := wrap64 (by omega) (by omega)
  have hws2 : IntKind.i64.wrap (left - 1 - (x.params.length : Int)) = left - 1 - (x.params.length : Int) := wrap64 (by omega) (by omega)
  have e2 : decide ((1000 : Int) < (x.name.size : Int)) = decide (1000 < x.name.size) := by apply decide_eq_decide.2; omega
  have hw := w18_pure x.d hok.d 200 (by decide) (by decide)
  rw [K.m18_eq]
  rw [D.cc_eq] at hw
  rw [K.cc_eq]
  generalize hwv : x.d.weigh p18 200 = wv at hw ⊢
  by_cases a1 : wv < 0
  ·rw [if_pos (.inl a1)]
   have e1 : decide (wv < 0) = true := decide_eq_true a1
   refine fi Tryz.func34 Tryz.ntmps34 Tryz.results34 ?_
   repeat (first | (apply fw; (with_reducible constructor) <;> rfl) | (apply WpA.cd; constructor) | ((first | with_reducible refine WpA.go _ rfl fun Y y => ?_ | apply RunTo.id); simp only [zb, seval, w34, hws, hsl, hws2]; refine fz y ?_; clear y Y))
   refine cz (hw) ?_
   (refine WpL.go _ rfl fun Y y => ?_); repeat (first | (apply fw; (with_reducible constructor) <;> rfl) | (apply WpA.cd; constructor) | ((first | with_reducible refine WpA.go _ rfl fun Y y => ?_ | apply RunTo.id); simp only [zb, seval, w34, e1]; refine fz y ?_; clear y Y))
   refine ye (by simp only [zb, seval, w34]; rfl) (by simp only [zv]; rfl) ?_
   rfl
  have e1 : decide (wv < 0) = false := decide_eq_false a1
  by_cases a2 : 1000 < x.name.size
  ·rw [if_pos (.inr a2)]
   refine fi Tryz.func34 Tryz.ntmps34 Tryz.results34 ?_
   repeat (first | (apply fw; (with_reducible constructor) <;> rfl) | (apply WpA.cd; constructor) | ((first | with_reducible refine WpA.go _ rfl fun Y y => ?_ | apply RunTo.id); simp only [zb, seval, w34, hws, hsl, hws2]; refine fz y ?_; clear y Y))
   refine cz (hw) ?_
   (refine WpL.go _ rfl fun Y y => ?_); repeat (first | (apply fw; (with_reducible constructor) <;> rfl) | (apply WpA.cd; constructor) | ((first | with_reducible refine WpA.go _ rfl fun Y y => ?_ | apply RunTo.id); simp only [zb, seval, w34, e1, e2, a2]; refine fz y ?_; clear y Y))
   refine ye (by simp only [zb, seval, w34]; rfl) (by simp only [zv]; rfl) ?_
   rfl
  rw [if_neg (by omega)]
  refine fi Tryz.func34 Tryz.ntmps34 Tryz.results34 ?_
  repeat (first | (apply fw; (with_reducible constructor) <;> rfl) | (apply WpA.cd; constructor) | ((first | with_reducible refine WpA.go _ rfl fun Y y => ?_ | apply RunTo.id); simp only [zb, seval, w34, hws, hsl, hws2]; refine fz y ?_; clear y Y))
  refine cz (hw) ?_
  (refine WpL.go _ rfl fun Y y => ?_); repeat (first | (apply fw; (with_reducible constructor) <;> rfl) | (apply WpA.cd; constructor) | ((first | with_reducible refine WpA.go _ rfl fun Y y => ?_ | apply RunTo.id); simp only [zb, seval, w34, e1, e2, a2]; refine fz y ?_; clear y Y))
  generalize hv0 : left - 1 - (x.params.length : Int) = v at *
  clear hw hwv
  refine WpA.loop (M18I x v) x.l.length ?_ ⟨0, rfl, Nat.zero_le _, rfl⟩ ?_
  ·exact Le.drop 1 (Nat.zero_le _) rfl (by simp [Sub, find, m18s]) rfl (coreOb_bd _ _)
  intro n' st hst
  obtain ⟨k, rfl, hk, rfl⟩ := hst
  have hw2 : IntKind.i64.wrap ((k : Int) + 1) = ((k + 1 : Nat) : Int) := by rw [wrap64 (by omega) (by omega)]; omega
  have hbd : m18s (x.l.take k) v ≤ max v (-1) := (m18s_bd (x.l.take k) v (K.Oks.take hok.kids k) (by omega)).2
  generalize hu : m18s (x.l.take k) v = u at *
  simp only [coreOb]
  by_cases hlt : k < x.l.length
  ·have hd1 : decide ((k : Int) < (x.l.length : Int)) = true := by simp; omega
   by_cases hn : u < 0
   ·have hge : decide ((0 : Int) ≤ u) = false := by simp; omega
    have hst := m18s_stop x.l v k (by rw [hu]; exact hn)
    repeat (first | (apply fw; (with_reducible constructor) <;> rfl) | (apply WpA.cd; constructor) | ((first | with_reducible refine WpA.go _ rfl fun Y y => ?_ | apply RunTo.id); simp only [zb, seval, w34, hd1, hge]; refine fz y ?_; clear y Y))
    repeat (first | (apply fw; (with_reducible constructor) <;> rfl) | (apply WpA.cd; constructor) | ((first | with_reducible refine WpA.go _ rfl fun Y y => ?_ | apply RunTo.id); simp only [zb, seval, w34, hd1, hge]; refine fz y ?_; clear y Y))
    refine ye (by simp only [zb, seval, w34]; rfl) (by simp only [zv]; rfl) ?_
    rw [hst, hu]
   ·have hge : decide ((0 : Int) ≤ u) = true := by simp; omega
    have hget := getK hlt
    have hc := ih x.l[k] (by have := K.ht_lt hlt; omega) (hok.get k hlt) u (by omega) (by omega)
    have hsu := m18s_succ x.l v k hlt (by rw [hu]; exact hn)
    rw [K.cc_eq] at hget hc
    repeat (first | (apply fw; (with_reducible constructor) <;> rfl) | (apply WpA.cd; constructor) | ((first | with_reducible refine WpA.go _ rfl fun Y y => ?_ | apply RunTo.id); simp only [zb, seval, w34, hd1, hge, hget]; refine fz y ?_; clear y Y))
    refine cz (hc) ?_
    (refine WpL.go _ rfl fun Y y => ?_); repeat (first | (apply fw; (with_reducible constructor) <;> rfl) | (apply WpA.cd; constructor) | ((first | with_reducible refine WpA.go _ rfl fun Y y => ?_ | apply RunTo.id); simp only [zb, seval, w34, hw2]; refine fz y ?_; clear y Y))
    refine ⟨x.l.length - (k + 1), _, by omega, ?_, k + 1, rfl, hlt, rfl⟩
    rw [hsu, hu]
    exact Le.drop 1 (Nat.zero_le _) rfl (by simp [Sub, find]) rfl (coreOb_bd _ _)
  ·have hd0 : decide ((k : Int) < (x.l.length : Int)) = false := by simp; omega
   have hii : k = x.l.length := by omega
   subst hii
   repeat (first | (apply fw; (with_reducible constructor) <;> rfl) | (apply WpA.cd; constructor) | ((first | with_reducible refine WpA.go _ rfl fun Y y => ?_ | apply RunTo.id); simp only [zb, seval, w34, hd0]; refine fz y ?_; clear y Y))
   repeat (first | (apply fw; (with_reducible constructor) <;> rfl) | (apply WpA.cd; constructor) | ((first | with_reducible refine WpA.go _ rfl fun Y y => ?_ | apply RunTo.id); simp only [zb, seval, w34, hd0]; refine fz y ?_; clear y Y))
   refine ye (by simp only [zb, seval, w34]; rfl) (by simp only [zv]; rfl) ?_
   rw [List.take_length] at hu
   rw [hu]
theorem big_pure (x : K) (hok : x.Ok) : Pure Tryz.prog 10 [.agg x.cc] (.one (.v (.bool (decide (x.m18 2000 < 0))))) := by
 have h := m18_upto x.ht x (Nat.le_refl _) hok 2000 (by decide) (by decide)
 refine fi Tryz.func10 Tryz.ntmps10 Tryz.results10 ?_
 repeat (first | (apply fw; (with_reducible constructor) <;> rfl) | (apply WpA.cd; constructor) | ((first | with_reducible refine WpA.go _ rfl fun Y y => ?_ | apply RunTo.id); simp only [zb, seval, ty_31, kcc]; refine fz y ?_; clear y Y))
 refine cz (h) ?_
 (refine WpL.go _ rfl fun Y y => ?_); repeat (first | (apply fw; (with_reducible constructor) <;> rfl) | (apply WpA.cd; constructor) | ((first | with_reducible refine WpA.go _ rfl fun Y y => ?_ | apply RunTo.id); simp only [zb, seval, ty_31, kcc]; refine fz y ?_; clear y Y))
 refine ye (by simp only [zb, seval, ty_31, kcc]; rfl) (by simp only [zv, kcc]; rfl) ?_
 rfl
theorem strNe (a b : ByteArray) : (a.toList != b.toList) = !eqB a b := by rw [bne, strEq]
theorem intEq (a b : Int) : (a == b) = eqB a b := by
 by_cases h : a = b
 ·rw [eqB_pos h]; simp [h]
 ·rw [eqB_neg h]; simpa using h
theorem intNe (a b : Int) : (a != b) = !eqB a b := by
 by_cases h : a = b
 ·rw [eqB_pos h]; simp [h]
 ·rw [eqB_neg h]; simpa using h
theorem rsame_pure (a b : D) : Pure Tryz.prog 27 [.agg a.cc, .agg b.cc] (.one (.v (.bool (eqB a b)))) := by
 refine pure_old_v rfl fun w vs hg hv => ?_
 obtain ⟨v, u, rfl, hv1, hu1⟩ := hv.two
 exact rsame_any a b w v u hv1.isD hu1.isD
theorem K.ext6 {a b : K} (h1 : a.k = b.k) (h2 : a.name = b.name) (h3 : a.rest = b.rest) (h4 : a.d = b.d) (h5 : a.params = b.params) (h6 : a.l = b.l) : a = b := by
 cases a; cases b; simp only [K.k, K.name, K.rest, K.d, K.params, K.l] at *; simp_all
def Sk1 (a b : K) (n : Nat) (st : St) : Prop := ∃ i : Nat, n = a.params.length - i ∧ i ≤ a.params.length ∧ a.params.take i = b.params.take i ∧
 st = ⟨[(5, .one (.v (.int .i64 i))), (2, .one (.ptr 0 1 0 0)), (3, .one (.ptr 1 1 0 0))], [some (coreOb a), some (coreOb b)]⟩
def Sk2 (a b : K) (n : Nat) (st : St) : Prop := ∃ i : Nat, n = a.l.length - i ∧ i ≤ a.l.length ∧ a.l.take i = b.l.take i ∧
 st = ⟨[(6, .one (.v (.int .i64 i))), (2, .one (.ptr 0 1 0 0)), (3, .one (.ptr 1 1 0 0))], [some (coreOb a), some (coreOb b)]⟩
theorem co2_bd (n : Nat) (a b : K) : ObBd n [some (coreOb a), some (coreOb b)] := by simp [coreOb, ObBd, C.bd]
theorem sameK_upto : ∀ n (a : K), a.ht ≤ n → a.Ok → ∀ b : K, Pure Tryz.prog 15 [.agg a.cc, .agg b.cc] (.one (.v (.bool (eqB a b)))) := by
 intro n
 induction n with
 | zero => intro a h; exact absurd h (by have := a.ht_pos; omega)
 | succ n ih =>
  intro a hh hok b
  have hfin : a ≠ b → eqB a b = false := fun h => eqB_neg h
  have hpa := strC_len a.params
  have hpb := strC_len b.params
  have hlen := hok.len
  have hpl := hok.par
  have hd := rsame_pure a.d b.d
  rw [D.cc_eq a.d, D.cc_eq b.d] at hd
  rw [K.cc_eq a, K.cc_eq b]
  by_cases q1 : a.k = b.k
  case neg =>
   have f1 := eqB_neg q1
   rw [hfin fun e => q1 (by rw [e])]
   refine fi Tryz.func15 Tryz.ntmps15 Tryz.results15 ?_
   repeat (first | (apply fw; (with_reducible constructor) <;> rfl) | (apply WpA.cd; constructor) | ((first | with_reducible refine WpA.go _ rfl fun Y y => ?_ | apply RunTo.id); simp only [zb, seval, w15, intEq, intNe, strEq, strNe, f1]; refine fz y ?_; clear y Y))
   refine ye (by simp only [zb, seval, w15]; rfl) (by simp only [zv]; rfl) ?_
   rfl
  have f1 := eqB_pos q1
  by_cases q2 : a.name = b.name
  case neg =>
   have f2 := eqB_neg q2
   rw [hfin fun e => q2 (by rw [e])]
   refine fi Tryz.func15 Tryz.ntmps15 Tryz.results15 ?_
   repeat (first | (apply fw; (with_reducible constructor) <;> rfl) | (apply WpA.cd; constructor) | ((first | with_reducible refine WpA.go _ rfl fun Y y => ?_ | apply RunTo.id); simp only [zb, seval, w15, intEq, intNe, strEq, strNe, f1, f2]; refine fz y ?_; clear y Y))
   refine ye (by simp only [zb, seval, w15]; rfl) (by simp only [zv]; rfl) ?_
   rfl
  have f2 := eqB_pos q2
  by_cases q3 : a.rest = b.rest
  case neg =>
   have f3 := eqB_neg q3
   rw [hfin fun e => q3 (by rw [e])]
   refine fi Tryz.func15 Tryz.ntmps15 Tryz.results15 ?_
   repeat (first | (apply fw; (with_reducible constructor) <;> rfl) | (apply WpA.cd; constructor) | ((first | with_reducible refine WpA.go _ rfl fun Y y => ?_ | apply RunTo.id); simp only [zb, seval, w15, intEq, intNe, strEq, strNe, f1, f2, f3]; refine fz y ?_; clear y Y))
   refine ye (by simp only [zb, seval, w15]; rfl) (by simp only [zv]; rfl) ?_
   rfl
  have f3 := eqB_pos q3
  by_cases q4 : a.d = b.d
  case neg =>
   rw [eqB_neg q4] at hd
   rw [hfin fun e => q4 (by rw [e])]
   refine fi Tryz.func15 Tryz.ntmps15 Tryz.results15 ?_
   repeat (first | (apply fw; (with_reducible constructor) <;> rfl) | (apply WpA.cd; constructor) | ((first | with_reducible refine WpA.go _ rfl fun Y y => ?_ | apply RunTo.id); simp only [zb, seval, w15, intEq, intNe, strEq, strNe, f1, f2, f3]; refine fz y ?_; clear y Y))
   refine cz (hd) ?_
   (refine WpL.go _ rfl fun Y y => ?_); repeat (first | (apply fw; (with_reducible constructor) <;> rfl) | (apply WpA.cd; constructor) | ((first | with_reducible refine WpA.go _ rfl fun Y y => ?_ | apply RunTo.id); simp only [zb, seval, w15]; refine fz y ?_; clear y Y))
   refine ye (by simp only [zb, seval, w15]; rfl) (by simp only [zv]; rfl) ?_
   rfl
  rw [eqB_pos q4] at hd
  by_cases q5 : a.params.length = b.params.length
  case neg =>
   have f5 : eqB (a.params.length : Int) (b.params.length : Int) = false := eqB_neg fun e => q5 (by omega)
   rw [hfin fun e => q5 (by rw [e])]
   refine fi Tryz.func15 Tryz.ntmps15 Tryz.results15 ?_
   repeat (first | (apply fw; (with_reducible constructor) <;> rfl) | (apply WpA.cd; constructor) | ((first | with_reducible refine WpA.go _ rfl fun Y y => ?_ | apply RunTo.id); simp only [zb, seval, w15, intEq, intNe, strEq, strNe, f1, f2, f3]; refine fz y ?_; clear y Y))
   refine cz (hd) ?_
   (refine WpL.go _ rfl fun Y y => ?_); repeat (first | (apply fw; (with_reducible constructor) <;> rfl) | (apply WpA.cd; constructor) | ((first | with_reducible refine WpA.go _ rfl fun Y y => ?_ | apply RunTo.id); simp only [zb, seval, w15, hpa, hpb, intEq, intNe, f5]; refine fz y ?_; clear y Y))
   refine ye (by simp only [zb, seval, w15]; rfl) (by simp only [zv]; rfl) ?_
   rfl
  have f5 : eqB (a.params.length : Int) (b.params.length : Int) = true := eqB_pos (by rw [q5])
  by_cases q6 : a.l.length = b.l.length
  case neg =>
   have f6 : eqB (a.l.length : Int) (b.l.length : Int) = false := eqB_neg fun e => q6 (by omega)
   rw [hfin fun e => q6 (by rw [e])]
   refine fi Tryz.func15 Tryz.ntmps15 Tryz.results15 ?_
   repeat (first | (apply fw; (with_reducible constructor) <;> rfl) | (apply WpA.cd; constructor) | ((first | with_reducible refine WpA.go _ rfl fun Y y => ?_ | apply RunTo.id); simp only [zb, seval, w15, intEq, intNe, strEq, strNe, f1, f2, f3]; refine fz y ?_; clear y Y))
   refine cz (hd) ?_
   (refine WpL.go _ rfl fun Y y => ?_); repeat (first | (apply fw; (with_reducible constructor) <;> rfl) | (apply WpA.cd; constructor) | ((first | with_reducible refine WpA.go _ rfl fun Y y => ?_ | apply RunTo.id); simp only [zb, seval, w15, hpa, hpb, intEq, intNe, f5, f6]; refine fz y ?_; clear y Y))
   refine ye (by simp only [zb, seval, w15]; rfl) (by simp only [zv]; rfl) ?_
   rfl
  have f6 : eqB (a.l.length : Int) (b.l.length : Int) = true := eqB_pos (by rw [q6])
  refine fi Tryz.func15 Tryz.ntmps15 Tryz.results15 ?_
  repeat (first | (apply fw; (with_reducible constructor) <;> rfl) | (apply WpA.cd; constructor) | ((first | with_reducible refine WpA.go _ rfl fun Y y => ?_ | apply RunTo.id); simp only [zb, seval, w15, intEq, intNe, strEq, strNe, f1, f2, f3]; refine fz y ?_; clear y Y))
  refine cz (hd) ?_
  (refine WpL.go _ rfl fun Y y => ?_); repeat (first | (apply fw; (with_reducible constructor) <;> rfl) | (apply WpA.cd; constructor) | ((first | with_reducible refine WpA.go _ rfl fun Y y => ?_ | apply RunTo.id); simp only [zb, seval, w15, hpa, hpb, intEq, intNe, f5, f6]; refine fz y ?_; clear y Y))
  refine WpA.loop (Sk1 a b) a.params.length ?_ ⟨0, rfl, Nat.zero_le _, rfl, rfl⟩ ?_
  ·exact Le.drop 2 (Nat.zero_le _) rfl (by simp [Sub, find]) rfl (co2_bd _ _ _)
  clear f1 f2 f3 f5 f6 hd
  intro n' st hst
  obtain ⟨i, rfl, hi, hb, rfl⟩ := hst
  have hw2 : IntKind.i64.wrap ((i : Int) + 1) = ((i + 1 : Nat) : Int) := by rw [wrap64 (by omega) (by omega)]; omega
  simp only [coreOb]
  by_cases hlt : i < a.params.length
  ·have hd1 : decide ((i : Int) < (a.params.length : Int)) = true := by simp; omega
   have hga := strC_get hlt
   have hgb := strC_get (l := b.params) (i := i) (by omega)
   by_cases he : a.params[i] = b.params[i]
   ·have hee := eqB_pos he
    repeat (first | (apply fw; (with_reducible constructor) <;> rfl) | (apply WpA.cd; constructor) | ((first | with_reducible refine WpA.go _ rfl fun Y y => ?_ | apply RunTo.id); simp only [zb, seval, w15, hpa, hd1]; refine fz y ?_; clear y Y))
    (refine WpA.draw0 11 _ _ _ rfl rfl rfl (by kernel_rfl) (by kernel_rfl) (by kernel_rfl) fun K8 hK8 => ?_); simp only [zz] at hK8 ⊢; (refine Draw0.go fun K7 k => ?_); simp only [zb, seval, w15, hga, hgb, strEq, strNe, hee, hw2]; (refine qz (k _ _ ?_)); clear k K7; (try ((refine Draw0.nil (hK8 _ ?_)); clear hK8 K8; (refine WpL.go _ rfl fun Y y => ?_); repeat (first | (apply fw; (with_reducible constructor) <;> rfl) | (apply WpA.cd; constructor) | ((first | with_reducible refine WpA.go _ rfl fun Y y => ?_ | apply RunTo.id); simp only [zb, seval, w15, hga, hgb, strEq, strNe, hee, hw2]; refine fz y ?_; clear y Y))))
    refine ⟨a.params.length - (i + 1), _, by omega, Le.drop 2 (Nat.zero_le _) rfl (by simp [Sub, find]) rfl (co2_bd _ _ _), i + 1, rfl, hlt, ?_, rfl⟩
    rw [List.take_succ_eq_append_getElem hlt, List.take_succ_eq_append_getElem (by omega), hb, he]
   ·have hee := eqB_neg he
    rw [hfin fun e => he (by simp [e])]
    repeat (first | (apply fw; (with_reducible constructor) <;> rfl) | (apply WpA.cd; constructor) | ((first | with_reducible refine WpA.go _ rfl fun Y y => ?_ | apply RunTo.id); simp only [zb, seval, w15, hpa, hd1]; refine fz y ?_; clear y Y))
    (refine WpA.draw0 11 _ _ _ rfl rfl rfl (by kernel_rfl) (by kernel_rfl) (by kernel_rfl) fun K8 hK8 => ?_); simp only [zz] at hK8 ⊢; (refine Draw0.go fun K7 k => ?_); simp only [zb, seval, w15, hga, hgb, strEq, strNe, hee, hw2]; (refine qz (k _ _ ?_)); clear k K7; (try ((refine Draw0.nil (hK8 _ ?_)); clear hK8 K8; (refine WpL.go _ rfl fun Y y => ?_); repeat (first | (apply fw; (with_reducible constructor) <;> rfl) | (apply WpA.cd; constructor) | ((first | with_reducible refine WpA.go _ rfl fun Y y => ?_ | apply RunTo.id); simp only [zb, seval, w15, hga, hgb, strEq, strNe, hee, hw2]; refine fz y ?_; clear y Y))))
    refine ye (by simp only [zb, seval, w15]; rfl) (by simp only [zv]; rfl) ?_
    rfl
  have hd0 : decide ((i : Int) < (a.params.length : Int)) = false := by simp; omega
  have hpp : a.params = b.params := by
   have hii : i = a.params.length := by omega
   rw [hii, List.take_length, q5, List.take_length] at hb; exact hb
  repeat (first | (apply fw; (with_reducible constructor) <;> rfl) | (apply WpA.cd; constructor) | ((first | with_reducible refine WpA.go _ rfl fun Y y => ?_ | apply RunTo.id); simp only [zb, seval, w15, hpa, hd0]; refine fz y ?_; clear y Y))
  repeat (first | (apply fw; (with_reducible constructor) <;> rfl) | (apply WpA.cd; constructor) | ((first | with_reducible refine WpA.go _ rfl fun Y y => ?_ | apply RunTo.id); simp only [zb, seval, w15, hpa, hd0]; refine fz y ?_; clear y Y))
  refine WpA.loop (Sk2 a b) a.l.length ?_ ⟨0, rfl, Nat.zero_le _, rfl, rfl⟩ ?_
  ·exact Le.drop 2 (Nat.zero_le _) rfl (by simp [Sub, find]) rfl (co2_bd _ _ _)
  clear hd0 hlt hb hi hw2
  intro n' st hst
  obtain ⟨j, rfl, hj, hb, rfl⟩ := hst
  have hw2 : IntKind.i64.wrap ((j : Int) + 1) = ((j + 1 : Nat) : Int) := by rw [wrap64 (by omega) (by omega)]; omega
  simp only [coreOb]
  by_cases hlt : j < a.l.length
  ·have hd1 : decide ((j : Int) < (a.l.length : Int)) = true := by simp; omega
   have hga := getK hlt
   have hgb := getK (l := b.l) (i := j) (by omega)
   have hc := ih a.l[j] (by have := K.ht_lt hlt; omega) (hok.get j hlt) b.l[j]
   rw [K.cc_eq] at hga hgb
   rw [K.cc_eq a.l[j], K.cc_eq b.l[j]] at hc
   by_cases he : a.l[j] = b.l[j]
   ·rw [eqB_pos he] at hc
    repeat (first | (apply fw; (with_reducible constructor) <;> rfl) | (apply WpA.cd; constructor) | ((first | with_reducible refine WpA.go _ rfl fun Y y => ?_ | apply RunTo.id); simp only [zb, seval, w15, hd1]; refine fz y ?_; clear y Y))
    (refine WpA.draw0 12 _ _ _ rfl rfl rfl (by kernel_rfl) (by kernel_rfl) (by kernel_rfl) fun K8 hK8 => ?_); simp only [zz] at hK8 ⊢; (refine Draw0.go fun K7 k => ?_); simp only [zb, seval, w15, hga, hgb]; (refine qz (k _ _ ?_)); clear k K7; (try ((refine Draw0.nil (hK8 _ ?_)); clear hK8 K8; (refine WpL.go _ rfl fun Y y => ?_); repeat (first | (apply fw; (with_reducible constructor) <;> rfl) | (apply WpA.cd; constructor) | ((first | with_reducible refine WpA.go _ rfl fun Y y => ?_ | apply RunTo.id); simp only [zb, seval, w15, hga, hgb]; refine fz y ?_; clear y Y))))
    refine Draw0.step (oz (hc)) ?_
    (refine Draw0.go fun K7 k => ?_); simp only [zb, seval, w15, hw2]; (refine qz (k _ _ ?_)); clear k K7; (try ((refine Draw0.nil (hK8 _ ?_)); clear hK8 K8; (refine WpL.go _ rfl fun Y y => ?_); repeat (first | (apply fw; (with_reducible constructor) <;> rfl) | (apply WpA.cd; constructor) | ((first | with_reducible refine WpA.go _ rfl fun Y y => ?_ | apply RunTo.id); simp only [zb, seval, w15, hw2]; refine fz y ?_; clear y Y))))
    refine ⟨a.l.length - (j + 1), _, by omega, Le.drop 2 (Nat.zero_le _) rfl (by simp [Sub, find]) rfl (co2_bd _ _ _), j + 1, rfl, hlt, ?_, rfl⟩
    rw [List.take_succ_eq_append_getElem hlt, List.take_succ_eq_append_getElem (by omega), hb, he]
   ·rw [eqB_neg he] at hc
    rw [hfin fun e => he (by simp [e])]
    repeat (first | (apply fw; (with_reducible constructor) <;> rfl) | (apply WpA.cd; constructor) | ((first | with_reducible refine WpA.go _ rfl fun Y y => ?_ | apply RunTo.id); simp only [zb, seval, w15, hd1]; refine fz y ?_; clear y Y))
    (refine WpA.draw0 12 _ _ _ rfl rfl rfl (by kernel_rfl) (by kernel_rfl) (by kernel_rfl) fun K8 hK8 => ?_); simp only [zz] at hK8 ⊢; (refine Draw0.go fun K7 k => ?_); simp only [zb, seval, w15, hga, hgb]; (refine qz (k _ _ ?_)); clear k K7; (try ((refine Draw0.nil (hK8 _ ?_)); clear hK8 K8; (refine WpL.go _ rfl fun Y y => ?_); repeat (first | (apply fw; (with_reducible constructor) <;> rfl) | (apply WpA.cd; constructor) | ((first | with_reducible refine WpA.go _ rfl fun Y y => ?_ | apply RunTo.id); simp only [zb, seval, w15, hga, hgb]; refine fz y ?_; clear y Y))))
    refine Draw0.step (oz (hc)) ?_
    (refine Draw0.go fun K7 k => ?_); simp only [zb, seval, w15, hw2]; (refine qz (k _ _ ?_)); clear k K7; (try ((refine Draw0.nil (hK8 _ ?_)); clear hK8 K8; (refine WpL.go _ rfl fun Y y => ?_); repeat (first | (apply fw; (with_reducible constructor) <;> rfl) | (apply WpA.cd; constructor) | ((first | with_reducible refine WpA.go _ rfl fun Y y => ?_ | apply RunTo.id); simp only [zb, seval, w15, hw2]; refine fz y ?_; clear y Y))))
    refine ye (by simp only [zb, seval, w15]; rfl) (by simp only [zv]; rfl) ?_
    rfl
  ·have hd0 : decide ((j : Int) < (a.l.length : Int)) = false := by simp; omega
   have hll : a.l = b.l := by
    have hii : j = a.l.length := by omega
    rw [hii, List.take_length, q6, List.take_length] at hb; exact hb
   rw [eqB_pos (K.ext6 q1 q2 q3 q4 hpp hll)]
   repeat (first | (apply fw; (with_reducible constructor) <;> rfl) | (apply WpA.cd; constructor) | ((first | with_reducible refine WpA.go _ rfl fun Y y => ?_ | apply RunTo.id); simp only [zb, seval, w15, hd0]; refine fz y ?_; clear y Y))
   repeat (first | (apply fw; (with_reducible constructor) <;> rfl) | (apply WpA.cd; constructor) | ((first | with_reducible refine WpA.go _ rfl fun Y y => ?_ | apply RunTo.id); simp only [zb, seval, w15, hd0]; refine fz y ?_; clear y Y))
   refine ye (by simp only [zb, seval, w15]; rfl) (by simp only [zv]; rfl) ?_
   rfl
theorem sameK_pure (a b : K) (hok : a.Ok) : Pure Tryz.prog 15 [.agg a.cc, .agg b.cc] (.one (.v (.bool (eqB a b)))) := sameK_upto a.ht a (Nat.le_refl _) hok b
def RkI (s : ByteArray) (n : Nat) (st : St) : Prop := ∃ i : Nat, n = 22 - i ∧ i ≤ 22 ∧ (∀ j (h : j < keyL.length), j < i → keyL[j] ≠ s) ∧
 st = ⟨[(4, .one (.v (.int .i64 i))), (3, .one (.ms 0 22)), (2, .one (.v (.bool false))), (0, .one (.v (.string s)))], [some ⟨9, 1, strC keyL⟩]⟩
theorem rkey_pure (s : ByteArray) : Pure Tryz.prog 13 [.one (.v (.string s))] (.one (.v (.bool (keyB s)))) := by
 have hl : keyL.length = 22 := rfl
 have h22 : (strC keyL).length = 22 := rfl
 refine fi Tryz.func13 Tryz.ntmps13 Tryz.results13 ?_
 repeat (first | (apply fw; (with_reducible constructor) <;> rfl) | (apply WpA.cd; constructor) | ((first | with_reducible refine WpA.go _ rfl fun Y y => ?_ | apply RunTo.id); simp only [zb, seval, w13]; refine fz y ?_; clear y Y))
 refine WpA.loop (RkI s) 22 (st0 := ⟨[(4, .one (.v (.int .i64 (0 : Nat)))), (3, .one (.ms 0 22)), (2, .one (.v (.bool false))), (0, .one (.v (.string s)))], [some ⟨9, 1, strC keyL⟩]⟩) (Le.sub (by simp [Sub, find])) ⟨0, rfl, Nat.zero_le _, fun j _ h => absurd h (Nat.not_lt_zero _), rfl⟩ ?_
 intro n' st hst
 obtain ⟨i, rfl, hi, hb, rfl⟩ := hst
 have hw2 : IntKind.i64.wrap ((i : Int) + 1) = ((i + 1 : Nat) : Int) := by rw [wrap64 (by omega) (by omega)]; omega
 by_cases hlt : i < 22
 ·have hd1 : decide ((i : Int) < 22) = true := by simp; omega
  have hil : i < keyL.length := by rw [hl]; exact hlt
  have hget := strC_get hil
  have hi0 : ∀ n : Nat, (n : Int).toNat = n := fun n => Int.toNat_natCast n
  by_cases he : keyL[i] = s
  ·have hee := eqB_pos he
   rw [show keyB s = true from List.any_eq_true.2 ⟨_, List.getElem_mem hil, eqB_pos he.symm⟩]
   repeat (first | (apply fw; (with_reducible constructor) <;> rfl) | (apply WpA.cd; constructor))
   ((with_reducible refine WpA.go _ rfl fun Y y => ?_); simp only [zb, seval, w13, hd1, hget, h22, hi0, strEq, hee]; (refine RunTo.fn y (by first | (simp; done) | omega | (simp; omega)) ?_); clear y Y); repeat (first | (apply fw; (with_reducible constructor) <;> rfl) | (apply WpA.cd; constructor))
   repeat (first | (apply fw; (with_reducible constructor) <;> rfl) | (apply WpA.cd; constructor))
   ((with_reducible refine WpA.go _ rfl fun Y y => ?_); simp only [zb, seval, w13, hd1, hget, h22, hi0, strEq, hee]; (refine RunTo.fn y (by first | (simp; done) | omega | (simp; omega)) ?_); clear y Y); repeat (first | (apply fw; (with_reducible constructor) <;> rfl) | (apply WpA.cd; constructor))
   repeat (first | (apply fw; (with_reducible constructor) <;> rfl) | (apply WpA.cd; constructor))
   ((with_reducible refine WpA.go _ rfl fun Y y => ?_); simp only [zb, seval, w13, hd1, hget, h22, hi0, strEq, hee]; (refine RunTo.fn y (by first | (simp; done) | omega | (simp; omega)) ?_); clear y Y); repeat (first | (apply fw; (with_reducible constructor) <;> rfl) | (apply WpA.cd; constructor))
   refine ye (by simp only [zb, seval, w13]; rfl) (by simp only [zv]; rfl) ?_
   rfl
  ·have hee := eqB_neg he
   repeat (first | (apply fw; (with_reducible constructor) <;> rfl) | (apply WpA.cd; constructor) | ((first | with_reducible refine WpA.go _ rfl fun Y y => ?_ | apply RunTo.id); simp only [zb, seval, w13, hd1, hget, h22, hi0, strEq, hee, hw2]; refine fz y ?_; clear y Y))
   refine ⟨22 - (i + 1), _, by omega, Le.sub (by simp [Sub, find]), i + 1, rfl, hlt, fun j hj hji => ?_, rfl⟩
   rcases Nat.lt_succ_iff_lt_or_eq.1 hji with h | rfl
   ·exact hb j hj h
   ·exact he
 ·have hd0 : decide ((i : Int) < 22) = false := by simp; omega
  rw [show keyB s = false by
   rw [keyB, List.any_eq_false]
   intro x hx e
   obtain ⟨j, hj, rfl⟩ := List.mem_iff_getElem.1 hx
   exact hb j hj (by omega) (eqB_iff.1 e).symm]
  repeat (first | (apply fw; (with_reducible constructor) <;> rfl) | (apply WpA.cd; constructor) | ((first | with_reducible refine WpA.go _ rfl fun Y y => ?_ | apply RunTo.id); simp only [zb, seval, w13, hd0]; refine fz y ?_; clear y Y))
  repeat (first | (apply fw; (with_reducible constructor) <;> rfl) | (apply WpA.cd; constructor) | ((first | with_reducible refine WpA.go _ rfl fun Y y => ?_ | apply RunTo.id); simp only [zb, seval, w13, hd0]; refine fz y ?_; clear y Y))
  refine ye (by simp only [zb, seval, w13]; rfl) (by simp only [zv]; rfl) ?_
  rfl
theorem boolSame (b : Bool) : (b == b) = true := by cases b <;> rfl
theorem lawWords_pure (s : ByteArray) (a b : K) (ha : a.Ok) (hb : b.Ok) : Pure Tryz.prog 3 [.one (.v (.string s)), .agg a.cc, .agg b.cc] (.one (.v (.bool true))) := by
 have h1 := big_pure a ha
 have h2 := big_pure b hb
 have k1 := key_pure s
 have k2 := rkey_pure s
 have s1 := esame_pure a b ha
 have s2 := sameK_pure a b ha
 have s3 := esame_pure a a ha
 have bb := boolSame (keyB s)
 have bs := boolSame (eqB a b)
 rw [eqB_pos rfl] at s3
 by_cases q1 : a.m18 2000 < 0
 ·rw [decide_eq_true q1] at h1
  refine fi Tryz.func3 Tryz.ntmps3 Tryz.results3 ?_
  repeat (first | (apply fw; (with_reducible constructor) <;> rfl) | (apply WpA.cd; constructor) | ((first | with_reducible refine WpA.go _ rfl fun Y y => ?_ | apply RunTo.id); simp only [zb, seval, w3, kcc]; refine fz y ?_; clear y Y))
  refine cz (h1) ?_
  (refine WpL.go _ rfl fun Y y => ?_); repeat (first | (apply fw; (with_reducible constructor) <;> rfl) | (apply WpA.cd; constructor) | ((first | with_reducible refine WpA.go _ rfl fun Y y => ?_ | apply RunTo.id); simp only [zb, seval, w3, kcc]; refine fz y ?_; clear y Y))
  refine cz (awake_pure) ?_
  (refine WpL.go _ rfl fun Y y => ?_); repeat (first | (apply fw; (with_reducible constructor) <;> rfl) | (apply WpA.cd; constructor) | ((first | with_reducible refine WpA.go _ rfl fun Y y => ?_ | apply RunTo.id); simp only [zb, seval, w3, kcc]; refine fz y ?_; clear y Y))
  refine ye (by simp only [zb, seval, w3]; rfl) (by simp only [zv]; rfl) ?_
  rfl
 rw [decide_eq_false q1] at h1
 by_cases q2 : b.m18 2000 < 0
 ·rw [decide_eq_true q2] at h2
  refine fi Tryz.func3 Tryz.ntmps3 Tryz.results3 ?_
  repeat (first | (apply fw; (with_reducible constructor) <;> rfl) | (apply WpA.cd; constructor) | ((first | with_reducible refine WpA.go _ rfl fun Y y => ?_ | apply RunTo.id); simp only [zb, seval, w3, kcc]; refine fz y ?_; clear y Y))
  refine cz (h1) ?_
  (refine WpL.go _ rfl fun Y y => ?_); repeat (first | (apply fw; (with_reducible constructor) <;> rfl) | (apply WpA.cd; constructor) | ((first | with_reducible refine WpA.go _ rfl fun Y y => ?_ | apply RunTo.id); simp only [zb, seval, w3, kcc]; refine fz y ?_; clear y Y))
  refine cz (h2) ?_
  (refine WpL.go _ rfl fun Y y => ?_); repeat (first | (apply fw; (with_reducible constructor) <;> rfl) | (apply WpA.cd; constructor) | ((first | with_reducible refine WpA.go _ rfl fun Y y => ?_ | apply RunTo.id); simp only [zb, seval, w3, kcc]; refine fz y ?_; clear y Y))
  refine cz (awake_pure) ?_
  (refine WpL.go _ rfl fun Y y => ?_); repeat (first | (apply fw; (with_reducible constructor) <;> rfl) | (apply WpA.cd; constructor) | ((first | with_reducible refine WpA.go _ rfl fun Y y => ?_ | apply RunTo.id); simp only [zb, seval, w3, kcc]; refine fz y ?_; clear y Y))
  refine ye (by simp only [zb, seval, w3]; rfl) (by simp only [zv]; rfl) ?_
  rfl
 rw [decide_eq_false q2] at h2
 refine fi Tryz.func3 Tryz.ntmps3 Tryz.results3 ?_
 repeat (first | (apply fw; (with_reducible constructor) <;> rfl) | (apply WpA.cd; constructor) | ((first | with_reducible refine WpA.go _ rfl fun Y y => ?_ | apply RunTo.id); simp only [zb, seval, w3, kcc]; refine fz y ?_; clear y Y))
 refine cz (h1) ?_
 (refine WpL.go _ rfl fun Y y => ?_); repeat (first | (apply fw; (with_reducible constructor) <;> rfl) | (apply WpA.cd; constructor) | ((first | with_reducible refine WpA.go _ rfl fun Y y => ?_ | apply RunTo.id); simp only [zb, seval, w3, kcc]; refine fz y ?_; clear y Y))
 refine cz (h2) ?_
 (refine WpL.go _ rfl fun Y y => ?_); repeat (first | (apply fw; (with_reducible constructor) <;> rfl) | (apply WpA.cd; constructor) | ((first | with_reducible refine WpA.go _ rfl fun Y y => ?_ | apply RunTo.id); simp only [zb, seval, w3, kcc]; refine fz y ?_; clear y Y))
 (refine WpA.draw0 22 _ _ _ rfl rfl rfl (by kernel_rfl) (by kernel_rfl) (by kernel_rfl) fun K8 hK8 => ?_); simp only [zz] at hK8 ⊢; (refine Draw0.go fun K7 k => ?_); simp only [zb, seval, w3, kcc, bb, bs]; (refine qz (k _ _ ?_)); clear k K7; (try ((refine Draw0.nil (hK8 _ ?_)); clear hK8 K8; (refine WpL.go _ rfl fun Y y => ?_); repeat (first | (apply fw; (with_reducible constructor) <;> rfl) | (apply WpA.cd; constructor) | ((first | with_reducible refine WpA.go _ rfl fun Y y => ?_ | apply RunTo.id); simp only [zb, seval, w3, kcc, bb, bs]; refine fz y ?_; clear y Y))))
 refine Draw0.step (oz (k1)) ?_
 (refine Draw0.go fun K7 k => ?_); simp only [zb, seval, w3, kcc, bb, bs]; (refine qz (k _ _ ?_)); clear k K7; (try ((refine Draw0.nil (hK8 _ ?_)); clear hK8 K8; (refine WpL.go _ rfl fun Y y => ?_); repeat (first | (apply fw; (with_reducible constructor) <;> rfl) | (apply WpA.cd; constructor) | ((first | with_reducible refine WpA.go _ rfl fun Y y => ?_ | apply RunTo.id); simp only [zb, seval, w3, kcc, bb, bs]; refine fz y ?_; clear y Y))))
 refine Draw0.step (oz (k2)) ?_
 (refine Draw0.go fun K7 k => ?_); simp only [zb, seval, w3, kcc, bb, bs]; (refine qz (k _ _ ?_)); clear k K7; (try ((refine Draw0.nil (hK8 _ ?_)); clear hK8 K8; (refine WpL.go _ rfl fun Y y => ?_); repeat (first | (apply fw; (with_reducible constructor) <;> rfl) | (apply WpA.cd; constructor) | ((first | with_reducible refine WpA.go _ rfl fun Y y => ?_ | apply RunTo.id); simp only [zb, seval, w3, kcc, bb, bs]; refine fz y ?_; clear y Y))))
 refine Draw0.step (oz (s1)) ?_
 (refine Draw0.go fun K7 k => ?_); simp only [zb, seval, w3, kcc, bb, bs]; (refine qz (k _ _ ?_)); clear k K7; (try ((refine Draw0.nil (hK8 _ ?_)); clear hK8 K8; (refine WpL.go _ rfl fun Y y => ?_); repeat (first | (apply fw; (with_reducible constructor) <;> rfl) | (apply WpA.cd; constructor) | ((first | with_reducible refine WpA.go _ rfl fun Y y => ?_ | apply RunTo.id); simp only [zb, seval, w3, kcc, bb, bs]; refine fz y ?_; clear y Y))))
 refine Draw0.step (oz (s2)) ?_
 (refine Draw0.go fun K7 k => ?_); simp only [zb, seval, w3, kcc, bb, bs]; (refine qz (k _ _ ?_)); clear k K7; (try ((refine Draw0.nil (hK8 _ ?_)); clear hK8 K8; (refine WpL.go _ rfl fun Y y => ?_); repeat (first | (apply fw; (with_reducible constructor) <;> rfl) | (apply WpA.cd; constructor) | ((first | with_reducible refine WpA.go _ rfl fun Y y => ?_ | apply RunTo.id); simp only [zb, seval, w3, kcc, bb, bs]; refine fz y ?_; clear y Y))))
 refine Draw0.step (oz (s3)) ?_
 (refine Draw0.go fun K7 k => ?_); simp only [zb, seval, w3, kcc, bb, bs]; (refine qz (k _ _ ?_)); clear k K7; (try ((refine Draw0.nil (hK8 _ ?_)); clear hK8 K8; (refine WpL.go _ rfl fun Y y => ?_); repeat (first | (apply fw; (with_reducible constructor) <;> rfl) | (apply WpA.cd; constructor) | ((first | with_reducible refine WpA.go _ rfl fun Y y => ?_ | apply RunTo.id); simp only [zb, seval, w3, kcc, bb, bs]; refine fz y ?_; clear y Y))))
 refine Draw0.step (oz (awake_pure)) ?_
 (refine Draw0.go fun K7 k => ?_); simp only [zb, seval, w3, kcc, bb, bs]; (refine qz (k _ _ ?_)); clear k K7; (try ((refine Draw0.nil (hK8 _ ?_)); clear hK8 K8; (refine WpL.go _ rfl fun Y y => ?_); repeat (first | (apply fw; (with_reducible constructor) <;> rfl) | (apply WpA.cd; constructor) | ((first | with_reducible refine WpA.go _ rfl fun Y y => ?_ | apply RunTo.id); simp only [zb, seval, w3, kcc, bb, bs]; refine fz y ?_; clear y Y))))
 refine ye (by simp only [zb, seval, w3]; rfl) (by simp only [zv]; rfl) ?_
 rfl
end Go.Proofs.YtaeioidifpebdaaGreatDoor
end
