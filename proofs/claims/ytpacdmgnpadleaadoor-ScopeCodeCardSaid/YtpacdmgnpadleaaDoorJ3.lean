/-
 Laid together: RefB19, RefC19, Copied, RPut19.
-/
import Derived.Test.YtpacdmgnpadleaaDoorG8
import Derived.Test.YtpacdmgnpadleaaDoorG7
import Derived.Test.YtpacdmgnpadleaaDoorG4
import Derived.Test.YtpacdmgnpadleaaDoorG5
import Derived.Test.YtpacdmgnpadleaaDoorCopy2
import Derived.Test.YtpacdmgnpadleaaDoorG3
section
namespace Go.Proofs.YtpacdmgnpadleaaDoor
open Go Go.RowKit Go.Lib
set_option linter.unusedSimpArgs false
set_option linter.unusedVariables false
set_option maxHeartbeats 4000000
set_option maxRecDepth 100000
def SzI (x : K) (n : Nat) (st : St) : Prop := ∃ i : Nat, n = x.l.length - i ∧ i ≤ x.l.length ∧
 st = ⟨[(4, .one (.v (.int .i64 i))), (3, .one (.v (.int .i64 ((K.sizes (x.l.take i) + 1 : Nat) : Int)))), (1, .one (.ptr 0 1 0 0))], [some ⟨33, 11, [[.v (.int .i64 x.k), .v (.string x.name), .v (.string x.rest), .sl 1 (strC x.params), .v (.int .i64 x.d.k), .v (.int .i32 x.d.c), .v (.bool x.d.neg), .sl 1 (x.d.mag.map fun n => [.v (.int .u32 n)]), .v (.string x.d.t), .sl 6 (x.d.l.map D.cc), .sl 11 (x.l.map K.cc)]]⟩]⟩
theorem size_upto : ∀ n (x : K), x.ht ≤ n → x.size ≤ 1000000000 → x.Ok → Pure Tryd.prog 49 [.agg x.cc] (.one (.v (.int .i64 x.size))) := by
 intro n
 induction n with
 | zero => intro x h; exact absurd h (by have := x.ht_pos; omega)
 | succ n ih =>
  intro x hh hsz hok
  have hse := x.size_eq
  have hlen := hok.len
  rw [K.cc_eq]
  refine Fn.intro Tryd.func49 rfl Tryd.ntmps49 Tryd.results49 (by simp only [List.length_cons, List.length_nil]; decide) ?_
  repeat (first | (apply fw; (with_reducible constructor) <;> rfl) | (apply WpA.cd; constructor) | ((first | with_reducible refine WpA.go _ rfl fun Y y => ?_ | apply RunTo.id); simp only [zb, seval, w49]; refine RunTo.fn y (by first | (simp; done) | omega | (simp; omega)) ?_; clear y Y))
  refine WpA.loop (SzI x) x.l.length ?_ ⟨0, rfl, Nat.zero_le _, rfl⟩ ?_
  ·exact Le.drop 1 (Nat.zero_le _) rfl (by simp [Sub, find, K.sizes]) rfl (by simp [ObBd, C.bd])
  intro n' st hI
  obtain ⟨i, rfl, hi, rfl⟩ := hI
  have hw2 : IntKind.i64.wrap ((i : Int) + 1) = ((i + 1 : Nat) : Int) := by rw [wrap64 (by omega) (by omega)]; omega
  by_cases hlt : i < x.l.length
  ·have hd1 : decide ((i : Int) < (x.l.length : Int)) = true := by simp; omega
   have hget := getK hlt
   have h1 := K.ht_lt hlt
   have h2 := K.sizes_take_lt hlt
   have hc := ih x.l[i] (by omega) (by omega) (hok.get i hlt)
   have hst := K.sizes_take hlt
   have hw3 : IntKind.i64.wrap (((K.sizes (x.l.take i) + 1 : Nat) : Int) + (x.l[i].size : Int)) = ((K.sizes (x.l.take (i + 1)) + 1 : Nat) : Int) := by rw [wrap64 (by omega) (by omega)]; omega
   rw [K.cc_eq] at hget hc
   repeat (first | (apply fw; (with_reducible constructor) <;> rfl) | (apply WpA.cd; constructor) | ((first | with_reducible refine WpA.go _ rfl fun Y y => ?_ | apply RunTo.id); simp only [zb, seval, w49, hd1, hget]; refine RunTo.fn y (by first | (simp; done) | omega | (simp; omega)) ?_; clear y Y))
   refine WpL.call rfl (guardA_sound (P := Tryd.prog) rfl) (CallA.shut rfl rfl (by kernel_rfl) (ALes.refl _) (by first | rfl | simp [shuts, A.shut, C.shut]) (hc) ?_)
   (refine WpL.go _ rfl fun Y y => ?_); repeat (first | (apply fw; (with_reducible constructor) <;> rfl) | (apply WpA.cd; constructor) | ((first | with_reducible refine WpA.go _ rfl fun Y y => ?_ | apply RunTo.id); simp only [zb, seval, w49, hw2, hw3]; refine RunTo.fn y (by first | (simp; done) | omega | (simp; omega)) ?_; clear y Y))
   exact ⟨x.l.length - (i + 1), _, by omega, Le.drop 1 (Nat.zero_le _) rfl (by simp [Sub, find]) rfl (by simp [ObBd, C.bd]), i + 1, rfl, hlt, rfl⟩
  ·have hd0 : decide ((i : Int) < (x.l.length : Int)) = false := by simp; omega
   have hii : i = x.l.length := by omega
   subst hii
   repeat (first | (apply fw; (with_reducible constructor) <;> rfl) | (apply WpA.cd; constructor) | ((first | with_reducible refine WpA.go _ rfl fun Y y => ?_ | apply RunTo.id); simp only [zb, seval, w49, hd0]; refine RunTo.fn y (by first | (simp; done) | omega | (simp; omega)) ?_; clear y Y))
   repeat (first | (apply fw; (with_reducible constructor) <;> rfl) | (apply WpA.cd; constructor) | ((first | with_reducible refine WpA.go _ rfl fun Y y => ?_ | apply RunTo.id); simp only [zb, seval, w49, hd0]; refine RunTo.fn y (by first | (simp; done) | omega | (simp; omega)) ?_; clear y Y))
   refine ⟨by simp, _, _, _, _, (by simp only [zb, seval, w49]; rfl), (by simp), (by simp only [zv]; rfl), (by simp), _, ALe.refl _, ?_⟩
   rw [List.take_length, ← hse]
def RxI (l : List ByteArray) (s : ByteArray) (n : Nat) (st : St) : Prop := ∃ i : Nat, n = l.length - i ∧ i ≤ l.length ∧ (∀ j (h : j < l.length), j < i → s ≠ l[j]) ∧
 st = ⟨[(5, .one (.v (.int .i64 i))), (0, .one (.sl 1 (strC l))), (1, .one (.v (.string s)))], []⟩
theorem rindex_pure (l : List ByteArray) (s : ByteArray) (hlen : l.length ≤ 1000000000000001) : Pure Tryd.prog 50 [.one (.sl 1 (strC l)), .one (.v (.string s))] (.one (.v (.int .i64 (idx l s)))) := by
 have hl := strC_len l
 refine Fn.intro Tryd.func50 rfl Tryd.ntmps50 Tryd.results50 (by simp only [List.length_cons, List.length_nil]; decide) ?_
 repeat (first | (apply fw; (with_reducible constructor) <;> rfl) | (apply WpA.cd; constructor) | ((first | with_reducible refine WpA.go _ rfl fun Y y => ?_ | apply RunTo.id); simp only [zb, seval, w50, hl]; refine RunTo.fn y (by first | (simp; done) | omega | (simp; omega)) ?_; clear y Y))
 refine WpA.loop (RxI l s) l.length ?_ ⟨0, rfl, Nat.zero_le _, fun j _ h => absurd h (Nat.not_lt_zero _), rfl⟩ ?_
 ·exact Le.sub (by simp [Sub, find])
 intro n' st hI
 obtain ⟨i, rfl, hi, hb, rfl⟩ := hI
 have hw2 : IntKind.i64.wrap ((i : Int) + 1) = ((i + 1 : Nat) : Int) := by rw [wrap64 (by omega) (by omega)]; omega
 by_cases hlt : i < l.length
 ·have hd1 : decide ((i : Int) < (l.length : Int)) = true := by simp; omega
  have hget := strC_get hlt
  by_cases he : s = l[i]
  ·have hee : eqB l[i] s = true := eqB_pos he.symm
   repeat (first | (apply fw; (with_reducible constructor) <;> rfl) | (apply WpA.cd; constructor) | ((first | with_reducible refine WpA.go _ rfl fun Y y => ?_ | apply RunTo.id); simp only [zb, seval, w50, hl, hd1, hget, strEq, hee]; refine RunTo.fn y (by first | (simp; done) | omega | (simp; omega)) ?_; clear y Y))
   refine ⟨by simp, _, _, _, _, (by simp only [zb, seval, w50]; rfl), (by simp), (by simp only [zv]; rfl), (by simp), _, ALe.refl _, ?_⟩
   rw [idx, posn_some hlt he hb]
  ·have hee : eqB l[i] s = false := eqB_neg fun h => he h.symm
   repeat (first | (apply fw; (with_reducible constructor) <;> rfl) | (apply WpA.cd; constructor) | ((first | with_reducible refine WpA.go _ rfl fun Y y => ?_ | apply RunTo.id); simp only [zb, seval, w50, hl, hd1, hget, strEq, hee, hw2]; refine RunTo.fn y (by first | (simp; done) | omega | (simp; omega)) ?_; clear y Y))
   refine ⟨l.length - (i + 1), _, by omega, Le.sub (by simp [Sub, find]), i + 1, rfl, hlt, fun j hj hji => ?_, rfl⟩
   rcases Nat.lt_succ_iff_lt_or_eq.1 hji with h | rfl
   ·exact hb j hj h
   ·exact he
 ·have hd0 : decide ((i : Int) < (l.length : Int)) = false := by simp; omega
  repeat (first | (apply fw; (with_reducible constructor) <;> rfl) | (apply WpA.cd; constructor) | ((first | with_reducible refine WpA.go _ rfl fun Y y => ?_ | apply RunTo.id); simp only [zb, seval, w50, hl, hd0]; refine RunTo.fn y (by first | (simp; done) | omega | (simp; omega)) ?_; clear y Y))
  repeat (first | (apply fw; (with_reducible constructor) <;> rfl) | (apply WpA.cd; constructor) | ((first | with_reducible refine WpA.go _ rfl fun Y y => ?_ | apply RunTo.id); simp only [zb, seval, w50, hl, hd0]; refine RunTo.fn y (by first | (simp; done) | omega | (simp; omega)) ?_; clear y Y))
  refine ⟨by simp, _, _, _, _, (by simp only [zb, seval, w50]; rfl), (by simp), (by simp only [zv]; rfl), (by simp), _, ALe.refl _, ?_⟩
  rw [idx, posn_none fun j hj => hb j hj (by omega)]
theorem names_pure (c : K) (hlen : c.params.length ≤ 1000000000) : Pure Tryd.prog 45 [.agg c.cc] (.one (.sl 1 (strC (allN c)))) := by
 obtain ⟨k, name, rest, params, d, l⟩ := c
 rw [K.cc_eq]
 simp only [K.k, K.name, K.rest, K.params, K.d, K.l] at hlen ⊢
 have hl := strC_len params
 by_cases hr : rest = ⟨#[]⟩
 ·have hre : eqB rest ⟨#[]⟩ = true := eqB_pos hr
  have hal : allN (.mk k name rest params d l) = params := if_pos hr
  rw [hal]
  refine Fn.intro Tryd.func45 rfl Tryd.ntmps45 Tryd.results45 (by simp only [List.length_cons, List.length_nil]; decide) ?_
  repeat (first | (apply fw; (with_reducible constructor) <;> rfl) | (apply WpA.cd; constructor) | ((first | with_reducible refine WpA.go _ rfl fun Y y => ?_ | apply RunTo.id); simp only [zb, seval, w45, hl, strEq, strNe, hre]; refine RunTo.fn y (by first | (simp; done) | omega | (simp; omega)) ?_; clear y Y))
  refine ⟨by simp, _, _, _, _, (by simp only [zb, seval, w45]; rfl), (by simp), (by simp only [zv]; rfl), (by simp [hl]; exact strC_shut params), _, ALe.refl _, ?_⟩
  rfl
 ·have hre : eqB rest ⟨#[]⟩ = false := eqB_neg hr
  have hal : allN (.mk k name rest params d l) = params ++ [rest] := if_neg hr
  rw [hal]
  refine Fn.intro Tryd.func45 rfl Tryd.ntmps45 Tryd.results45 (by simp only [List.length_cons, List.length_nil]; decide) ?_
  repeat (first | (apply fw; (with_reducible constructor) <;> rfl) | (apply WpA.cd; constructor) | ((first | with_reducible refine WpA.go _ rfl fun Y y => ?_ | apply RunTo.id); simp only [zb, seval, w45, hl, strEq, strNe, hre]; refine RunTo.fn y (by first | (simp; done) | omega | (simp; omega)) ?_; clear y Y))
  refine ⟨by simp, _, _, _, _, (by simp only [zb, seval, w45]; rfl), (by simp), (by simp only [zv]; rfl), (by (refine ⟨by simp [hl], fun e he => ?_⟩); exact (List.mem_append.1 he).elim (strC_shut _ e) (fun h => strC_shut [rest] e h)), _, ALe.refl _, ?_⟩
  rw [strC_app]; rfl
end Go.Proofs.YtpacdmgnpadleaaDoor
end
section
namespace Go.Proofs.YtpacdmgnpadleaaDoor
open Go Go.RowKit Go.Lib
set_option linter.unusedSimpArgs false
set_option linter.unusedVariables false
def CdIn (S : List (Option Ob)) (c : Cd) (cN cC cG cP cT : C) : Prop := At 55 4 S cN (c.nodes.map Nd.row) ∧ At 31 6 S cC (c.consts.map D.cc) ∧ At 9 1 S cG (strC c.globals) ∧ At 9 1 S cP (strC c.prims) ∧ At 3 1 S cT (intC c.tops) ∧ (∀ j n m, cG = .ms j n → cP ≠ .ms j m)
theorem CdIn.keep {S S' : List (Option Ob)} {c : Cd} {cN cC cG cP cT : C} (h : CdIn S c cN cC cG cP cT) (hk : ∀ (j : Nat) (ob : Ob), S[j]? = some (some ob) → (ob.ty = 55 ∨ ob.ty = 31 ∨ ob.ty = 9 ∨ ob.ty = 3) → ((∃ n, cN = .ms j n) ∨ (∃ n, cC = .ms j n) ∨ (∃ n, cG = .ms j n) ∨ (∃ n, cP = .ms j n) ∨ (∃ n, cT = .ms j n)) → S'[j]? = some (some ob)) : CdIn S' c cN cC cG cP cT :=
 ⟨h.1.stay fun j hj e => hk j _ hj (.inl rfl) (.inl ⟨_, e⟩), h.2.1.stay fun j hj e => hk j _ hj (.inr (.inl rfl)) (.inr (.inl ⟨_, e⟩)), h.2.2.1.stay fun j hj e => hk j _ hj (.inr (.inr (.inl rfl))) (.inr (.inr (.inl ⟨_, e⟩))), h.2.2.2.1.stay fun j hj e => hk j _ hj (.inr (.inr (.inl rfl))) (.inr (.inr (.inr (.inl ⟨_, e⟩)))), h.2.2.2.2.1.stay fun j hj e => hk j _ hj (.inr (.inr (.inr rfl))) (.inr (.inr (.inr (.inr ⟨_, e⟩)))), h.2.2.2.2.2⟩
theorem CdIn.stay {S S' : List (Option Ob)} {c : Cd} {cN cC cG cP cT : C} (h : CdIn S c cN cC cG cP cT) (hk : ∀ (j : Nat) (o : Option Ob), S[j]? = some o → S'[j]? = some o) : CdIn S' c cN cC cG cP cT := h.keep fun j ob h _ _ => hk j _ h
theorem CdIn.app {S : List (Option Ob)} {c : Cd} {cN cC cG cP cT : C} (h : CdIn S c cN cC cG cP cT) (T : List (Option Ob)) : CdIn (S ++ T) c cN cC cG cP cT := h.stay fun j o h => up_app h
theorem At.off {t : TypeId} {wd : Nat} {S : List (Option Ob)} {c : C} {rows : List (List C)} (h : At t wd S c rows) {j : Nat} (hj : S.length ≤ j) : ∀ n, c ≠ .ms j n := fun n e => by have := h.lt e; omega
section
variable {S S1 : List (Option Ob)} {c : Cd} {cN cC cG cP cT : C}
theorem CdIn.setC (hI : CdIn S c cN cC cG cP cT) {cC' : C} {C' : List D} (hA : At 31 6 S1 cC' (C'.map D.cc)) (hfr : ∀ (i : Nat) (o : Option Ob), S[i]? = some o → (∀ n, cC ≠ .ms i n) → S1[i]? = some o) : CdIn S1 { c with consts := C' } cN cC' cG cP cT :=
 ⟨hI.1.stay fun j hj _ => hfr j _ hj (hI.2.1.apart hj (by show (55 : Nat) ≠ _; decide)), hA, hI.2.2.1.stay fun j hj _ => hfr j _ hj (hI.2.1.apart hj (by show (9 : Nat) ≠ _; decide)), hI.2.2.2.1.stay fun j hj _ => hfr j _ hj (hI.2.1.apart hj (by show (9 : Nat) ≠ _; decide)), hI.2.2.2.2.1.stay fun j hj _ => hfr j _ hj (hI.2.1.apart hj (by show (3 : Nat) ≠ _; decide)), hI.2.2.2.2.2⟩
theorem CdIn.setN' (hI : CdIn S c cN cC cG cP cT) {cN' : C} {N' : List Nd} (hA : At 55 4 S1 cN' (N'.map Nd.row)) (hfr : ∀ (i : Nat) (o : Option Ob), S[i]? = some o → (∀ n, cN ≠ .ms i n) → S1[i]? = some o) : CdIn S1 { c with nodes := N' } cN' cC cG cP cT :=
 ⟨hA, hI.2.1.stay fun j hj _ => hfr j _ hj (hI.1.apart hj (by show (31 : Nat) ≠ _; decide)), hI.2.2.1.stay fun j hj _ => hfr j _ hj (hI.1.apart hj (by show (9 : Nat) ≠ _; decide)), hI.2.2.2.1.stay fun j hj _ => hfr j _ hj (hI.1.apart hj (by show (9 : Nat) ≠ _; decide)), hI.2.2.2.2.1.stay fun j hj _ => hfr j _ hj (hI.1.apart hj (by show (3 : Nat) ≠ _; decide)), hI.2.2.2.2.2⟩
theorem CdIn.setT (hI : CdIn S c cN cC cG cP cT) {cT' : C} {T' : List Int} (hA : At 3 1 S1 cT' (intC T')) (hfr : ∀ (i : Nat) (o : Option Ob), S[i]? = some o → (∀ n, cT ≠ .ms i n) → S1[i]? = some o) : CdIn S1 { c with tops := T' } cN cC cG cP cT' :=
 ⟨hI.1.stay fun j hj _ => hfr j _ hj (hI.2.2.2.2.1.apart hj (by show (55 : Nat) ≠ _; decide)), hI.2.1.stay fun j hj _ => hfr j _ hj (hI.2.2.2.2.1.apart hj (by show (31 : Nat) ≠ _; decide)), hI.2.2.1.stay fun j hj _ => hfr j _ hj (hI.2.2.2.2.1.apart hj (by show (9 : Nat) ≠ _; decide)), hI.2.2.2.1.stay fun j hj _ => hfr j _ hj (hI.2.2.2.2.1.apart hj (by show (9 : Nat) ≠ _; decide)), hA, hI.2.2.2.2.2⟩
theorem CdIn.setG (hI : CdIn S c cN cC cG cP cT) {j8 m : Nat} {G' : List ByteArray} (hA : At 9 1 S1 (.ms j8 m) (strC G')) (hfr : ∀ (i : Nat) (o : Option Ob), S[i]? = some o → (∀ n, cG ≠ .ms i n) → S1[i]? = some o) (hpl : (∃ n, cG = .ms j8 n) ∨ S.length ≤ j8) : CdIn S1 { c with globals := G' } cN cC (.ms j8 m) cP cT :=
 ⟨hI.1.stay fun j hj _ => hfr j _ hj (hI.2.2.1.apart hj (by show (55 : Nat) ≠ _; decide)), hI.2.1.stay fun j hj _ => hfr j _ hj (hI.2.2.1.apart hj (by show (31 : Nat) ≠ _; decide)), hA, hI.2.2.2.1.stay fun j hj e => hfr j _ hj (fun n e' => hI.2.2.2.2.2 j n _ e' e), hI.2.2.2.2.1.stay fun j hj _ => hfr j _ hj (hI.2.2.1.apart hj (by show (3 : Nat) ≠ _; decide)), fun j n k e e' => by
  injection e with e1 e2
  subst e1
  rcases hpl with ⟨n', h⟩ | h
  ·exact hI.2.2.2.2.2 _ _ _ h e'
  ·have := hI.2.2.2.1.lt e'; omega⟩
theorem CdIn.setP (hI : CdIn S c cN cC cG cP cT) {j8 m : Nat} {P' : List ByteArray} (hA : At 9 1 S1 (.ms j8 m) (strC P')) (hfr : ∀ (i : Nat) (o : Option Ob), S[i]? = some o → (∀ n, cP ≠ .ms i n) → S1[i]? = some o) (hpl : (∃ n, cP = .ms j8 n) ∨ S.length ≤ j8) : CdIn S1 { c with prims := P' } cN cC cG (.ms j8 m) cT :=
 ⟨hI.1.stay fun j hj _ => hfr j _ hj (hI.2.2.2.1.apart hj (by show (55 : Nat) ≠ _; decide)), hI.2.1.stay fun j hj _ => hfr j _ hj (hI.2.2.2.1.apart hj (by show (31 : Nat) ≠ _; decide)), hI.2.2.1.stay fun j hj e => hfr j _ hj (fun n e' => hI.2.2.2.2.2 j _ n e e'), hA, hI.2.2.2.2.1.stay fun j hj _ => hfr j _ hj (hI.2.2.2.1.apart hj (by show (3 : Nat) ≠ _; decide)), fun j n k e e' => by
  injection e' with e1 e2
  subst e1
  rcases hpl with ⟨n', h⟩ | h
  ·exact hI.2.2.2.2.2 _ _ _ e h
  ·have := hI.2.2.1.lt e; omega⟩
theorem CdIn.box (hI : CdIn S c cN cC cG cP cT) {k : Nat} {ob : Ob} {z : Option Ob} (hk : S[k]? = some (some ob)) (ht : ob.ty ≠ 55 ∧ ob.ty ≠ 31 ∧ ob.ty ≠ 9 ∧ ob.ty ≠ 3) : CdIn (S.set k z) c cN cC cG cP cT :=
 hI.keep fun j ob' hj h _ => by
  rw [List.getElem?_set_ne (fun e => by subst e; rw [hk] at hj; cases hj; rcases h with h | h | h | h; exact ht.1 h; exact ht.2.1 h; exact ht.2.2.1 h; exact ht.2.2.2 h)]; exact hj
theorem CdIn.nodeSet (hI : CdIn S c cN cC cG cP cT) {k : Nat} {ob : Ob} {z : Option Ob} (hn : ∀ n, cN ≠ .ms k n) (hk : S[k]? = some (some ob)) (ht : ob.ty = 55) : CdIn (S.set k z) c cN cC cG cP cT :=
 have hne : ∀ {t : TypeId}, t ≠ 55 → ∀ ob', S[k]? = some (some ob') → ob'.ty ≠ t := fun h ob' e e' => by rw [hk] at e; cases e; exact h (e'.symm.trans ht)
 ⟨hI.1.stay fun j hj e => by rw [List.getElem?_set_ne (fun e' => by subst e'; exact hn _ e)]; exact hj, hI.2.1.set (hne (by decide)), hI.2.2.1.set (hne (by decide)), hI.2.2.2.1.set (hne (by decide)), hI.2.2.2.2.1.set (hne (by decide)), hI.2.2.2.2.2⟩
end
def Frt (ts : List TypeId) (S S' : List (Option Ob)) : Prop := S.length ≤ S'.length ∧ ∀ (j : Nat) (ob : Ob), S[j]? = some (some ob) → ob.ty ∉ ts → S'[j]? = some (some ob)
theorem Frt.refl (ts : List TypeId) (S : List (Option Ob)) : Frt ts S S := ⟨Nat.le_refl _, fun _ _ h _ => h⟩
theorem Frt.trans {ts : List TypeId} {S S' S'' : List (Option Ob)} (h : Frt ts S S') (k : Frt ts S' S'') : Frt ts S S'' := ⟨Nat.le_trans h.1 k.1, fun j ob h1 h3 => k.2 j ob (h.2 j ob h1 h3) h3⟩
theorem Frt.stay {ts : List TypeId} {S S' : List (Option Ob)} (h : ∀ (j : Nat) (o : Option Ob), S[j]? = some o → S'[j]? = some o) : Frt ts S S' := by
 refine ⟨?_, fun j ob hj _ => h j _ hj⟩
 refine Nat.le_of_not_lt fun hlt => ?_
 have := h S'.length _ (List.getElem?_eq_getElem hlt)
 simp at this
def scP : List (List ByteArray) → C
 | [] => .v (.pointer none)
 | l :: r => .pf [.sl 1 (strC l), scP r]
theorem idx_vw {S : List (Option Ob)} {c : C} {l : List ByteArray} (h : At 9 1 S c (strC l)) (s : ByteArray) : Vw S [.one c, .one (.v (.string s))] [.one (.sl 1 (strC l)), .one (.v (.string s))] := by
 obtain ⟨p, c', v1, w1, x1⟩ := h.see (strC_shut l)
 have hle : ALe (.one c') (.one (.sl 1 (strC l))) := fun X u hu => by
  simp only [Ca] at hu ⊢
  have := x1 [] [] (CLes.refl _) X [u] (by simp only [Ccs]; exact ⟨u, [], rfl, hu, rfl⟩)
  simp only [Ccs] at this
  obtain ⟨u', r, e, h1, -⟩ := this
  cases e
  exact h1
 refine Vw.view (p := p ∧ True ∧ True) (ys := [.one c', .one (.v (.string s))]) ?_ ⟨w1, trivial, trivial⟩ (ALes.cons hle (ALes.refl _))
 simp only [viewAs, viewA, v1, viewC]
theorem idx_num (l : List ByteArray) (s : ByteArray) : idx (addN l s) s = numN l s := by
 unfold addN numN idx
 cases h : posn l s with
 | some k => simp [h]
 | none =>
  have : posn (l ++ [s]) s = some l.length := by
   refine posn_some (by simp) (by simp) fun j hj hjk e => ?_
   rw [List.getElem_append_left hjk] at e
   have hn := List.findIdx?_eq_none_iff.1 h l[j] (List.getElem_mem hjk)
   have h9 := eqB_pos e
   have h8 := eqB_pos e.symm
   first | (rw [h9] at hn; exact absurd hn (by decide)) | (rw [h8] at hn; exact absurd hn (by decide)) | (simp only [h9] at hn; exact absurd hn (by decide)) | (simp only [h8] at hn; exact absurd hn (by decide))
  simp [this]
theorem idx_lt {l : List ByteArray} {s : ByteArray} (h : idx l s < 0) : addN l s = l ++ [s] := by
 unfold idx at h
 unfold addN
 cases hp : posn l s with
 | some k => rw [hp] at h; simp only at h; omega
 | none => rfl
theorem idx_ge {l : List ByteArray} {s : ByteArray} (h : ¬ idx l s < 0) : addN l s = l := by
 unfold idx at h
 unfold addN
 cases hp : posn l s with
 | some k => rfl
 | none => rw [hp] at h; simp at h
theorem set_same' {α : Type} {l : List α} {j : Nat} {a : α} (h : l[j]? = some a) : l.set j a = l := by
 obtain ⟨hj, rfl⟩ := List.getElem?_eq_some_iff.1 h
 exact List.set_getElem_self hj
theorem WpA.viaR {P : Program} {nt : Cf} {x y : Code} {Q : Exit → St → Prop} {st : St} (F : St → Prop) (hx : WpA P nt x (thenA (fun s => ∃ st', Le nt s st' ∧ F st') Q) st) (hy : ∀ st', F st' → WpA P nt y Q st') : WpA P nt (.seq x y) Q st :=
 WpA.seq (hx.mono fun e s h => by
  cases e with
  | normal =>
   obtain ⟨st', h1, h2⟩ := h
   exact (hy st' h2).le h1
  | _ => exact h)
theorem WpA.viaS {P : Program} {nt : Cf} {x y z : Code} {Q Q' : Exit → St → Prop} {st : St} (F : St → Prop) (hx : WpA P nt x (thenA (WpA P nt y (thenA (fun s => ∃ st', Le nt s st' ∧ F st') Q)) (thenA (fun s => ∃ st', Le nt s st' ∧ F st') Q)) st) (hy : ∀ st', F st' → WpA P nt z Q' st') : WpA P nt x (thenA (WpA P nt y (thenA (WpA P nt z Q') Q)) (thenA (WpA P nt z Q') Q)) st := by
 have hK : ∀ s, (∃ st', Le nt s st' ∧ F st') → WpA P nt z Q' s := fun s ⟨st', h1, h2⟩ => (hy st' h2).le h1
 refine hx.mono fun e s h => ?_
 cases e with
 | normal =>
  refine WpA.mono h fun e s h => ?_
  cases e with
  | normal => exact hK s h
  | _ => exact h
 | _ => exact h
theorem WpA.viaB {P : Program} {nt : Cf} {x z : Code} {Q Q' : Exit → St → Prop} {st : St} {i : Nat} (F : St → Prop) (hx : WpA P nt x (inBlockA i (thenA (fun s => ∃ st', Le nt s st' ∧ F st') Q)) st) (hy : ∀ st', F st' → WpA P nt z Q' st') : WpA P nt x (inBlockA i (thenA (WpA P nt z Q') Q)) st := by
 have hK : ∀ s, (∃ st', Le nt s st' ∧ F st') → WpA P nt z Q' s := fun s ⟨st', h1, h2⟩ => (hy st' h2).le h1
 have hT : ∀ e s, thenA (fun s => ∃ st', Le nt s st' ∧ F st') Q e s → thenA (WpA P nt z Q') Q e s := fun e s h => by
  cases e with
  | normal => exact hK s h
  | _ => exact h
 refine hx.mono fun e s h => ?_
 cases e with
 | exit j =>
  simp only [inBlockA] at h ⊢
  split
  ·rename_i e; rw [if_pos e] at h; exact hT _ _ h
  ·rename_i e; rw [if_neg e] at h; exact hT _ _ h
 | normal => exact hT .normal s h
 | ret => exact hT .ret s h
 | goto l => exact hT (.goto l) s h
 | panic c => exact hT (.panic c) s h
 | outgrown => exact hT .outgrown s h
theorem placeN_step {s : ByteArray} {l : List ByteArray} {r : List (List ByteArray)} (h : posn l s = none) : placeN s (l :: r) = (placeN s r).map fun p => (p.1 + 1, p.2) := by
 rw [placeN, h]
 cases placeN s r with
 | none => rfl
 | some p => rfl
theorem placeN_here {s : ByteArray} {l : List ByteArray} {r : List (List ByteArray)} {k : Nat} (h : posn l s = some k) : placeN s (l :: r) = some (0, k) := by rw [placeN, h]
theorem node_freeze {S : List (Option Ob)} {k : Nat} {x y w cL : C} {l : List Int} (hL : At 3 1 S cL (intC l)) (hk : S[k]? = some (some ⟨55, 4, [[x, y, w, cL]]⟩)) : ∃ S' z, Frz S S' z ∧ S'.length = S.length ∧ S'[k]? = some (some ⟨55, 4, [[x, y, w, .sl 1 (intC l)]]⟩) ∧ (∀ (i : Nat) (o : Option Ob), S[i]? = some o → i ≠ k → (∀ n, cL ≠ .ms i n) → S'[i]? = some o) := by
 have hkl := (List.getElem?_eq_some_iff.1 hk).1
 rcases hL with ⟨h0, rfl⟩ | ⟨hne, j, rfl, hj⟩
 ·refine ⟨S.set k (some ⟨55, 4, [[x, y, w, .sl 1 (intC l)]]⟩), fun _ => false, Frz.less hk rfl rfl ?_, by simp, List.getElem?_set_self hkl, fun i o h hn _ => by rw [List.getElem?_set_ne (fun e => hn e.symm)]; exact h⟩
  rw [h0]
  exact FzR.one ⟨FzC.same _ _ _, FzC.same _ _ _, FzC.same _ _ _, FzC.nil, trivial⟩
 ·have hjk : j ≠ k := fun e => by subst e; rw [hk] at hj; cases hj
  refine ⟨(S.set j none).set k (some ⟨55, 4, [[x, y, w, .sl 1 (intC l)]]⟩), fun i => i == j, Frz.into hj (intC_shut l) hjk hk rfl rfl ?_, by simp, List.getElem?_set_self (by simpa using hkl), fun i o h hn hm => ?_⟩
  ·exact FzR.one ⟨FzC.same _ _ _, FzC.same _ _ _, FzC.same _ _ _, FzC.ms (by simp) hj rfl, trivial⟩
  ·rw [List.getElem?_set_ne (fun e => hn e.symm), List.getElem?_set_ne (fun e => by subst e; exact hm _ rfl)]; exact h
end Go.Proofs.YtpacdmgnpadleaaDoor
end
section
namespace Go.Proofs.YtpacdmgnpadleaaDoor
open Go Go.RowKit Go.Lib
set_option linter.unusedSimpArgs false
set_option linter.unusedVariables false
set_option maxHeartbeats 4000000
set_option maxRecDepth 100000
def CopR (S : List (Option Ob)) (x : K) (r : A) (S' : List (Option Ob)) : Prop := ∃ cs fp, r = .agg cs ∧ OwnK S' x cs fp ∧ fp.Nodup ∧ (∀ j ∈ fp, S.length ≤ j) ∧ S.length ≤ S'.length ∧ ∀ (j : Nat) (o : Option Ob), S[j]? = some o → S'[j]? = some o
def zeroOb : Ob := ⟨33, 11, [[.v (.int .i64 0), .v (.string ⟨#[]⟩), .v (.string ⟨#[]⟩), .v (.slice none 0 0), .v (.int .i64 0), .v (.int .i32 0), .v (.bool false), .v (.slice none 0 0), .v (.string ⟨#[]⟩), .v (.slice none 0 0), .v (.slice none 0 0)]]⟩
def CopI (S : List (Option Ob)) (x : K) (n : Nat) (st : St) : Prop := ∃ (i : Nat) (S' : List (Option Ob)) (cL : C) (rows : List (List C)) (fL fR : List Nat), n = x.l.length - i ∧ i ≤ x.l.length ∧
 S'[S.length]? = some (some ⟨33, 11, [ownCs x (.ms (S.length + 2) x.params.length) (.sl 11 (x.l.map K.cc))]⟩) ∧ S'[S.length + 1]? = some (some zeroOb) ∧ S'[S.length + 2]? = some (some ⟨9, 1, strC x.params⟩) ∧
 LAt S' cL rows fL ∧ OwnKs S' (x.l.take i) rows fR ∧ (fL ++ fR).Nodup ∧ (∀ j ∈ fL ++ fR, S.length + 3 ≤ j) ∧ (∀ (j : Nat) (o : Option Ob), S[j]? = some o → S'[j]? = some o) ∧
 st = ⟨[(4, .one (.v (.int .i64 i))), (3, .one cL), (1, .one (.ptr S.length 1 0 0)), (2, .one (.ptr (S.length + 1) 1 0 0))], S'⟩
theorem LAt.at {S : List (Option Ob)} {c : C} {rows : List (List C)} {f : List Nat} (h : LAt S c rows f) : At 33 11 S c rows := by
 rcases h with ⟨h1, h2, _⟩ | ⟨h1, j, h2, _, h3⟩
 ·exact .inl ⟨h1, h2⟩
 ·exact .inr ⟨h1, j, h2, h3⟩
theorem LAt.own {S : List (Option Ob)} {c : C} {rows : List (List C)} {f : List Nat} (h : LAt S c rows f) {j n : Nat} (e : c = .ms j n) : j ∈ f := by
 rcases h with ⟨_, rfl, _⟩ | ⟨_, i, rfl, rfl, _⟩
 ·cases e
 ·cases e; simp
theorem rcopy_pure (d : D) (hok : d.Ok) : Pure Tryd.prog 24 [.agg d.cc] (.agg d.cc) := by
 refine pure_old fun w vs hg hv => ?_
 obtain ⟨v, rfl, hv1⟩ := hv.one1
 exact (rcopy_any d w v hok hv1.isD).mono fun e w' ⟨v', he, hx, hr⟩ => ⟨v', he, hx, (IsD.ca hr)⟩
theorem K.Lg.len {c : K} (h : c.Lg) : c.l.length ≤ 1000000000 := by cases c; exact h.2.2.2.2.1
theorem K.Lg.par {c : K} (h : c.Lg) : c.params.length ≤ 1000 := by cases c; exact h.2.1
theorem K.Lg.d {c : K} (h : c.Lg) : c.d.Ok := by cases c; exact h.2.2.1
theorem K.Lg.get {c : K} (h : c.Lg) (i : Nat) (hi : i < c.l.length) : c.l[i].Lg := by cases c; exact h.2.2.2.2.2.get i hi
def CopTo (n : Nat) : Prop := ∀ (x : K), x.ht ≤ n → x.Lg → ∀ S, Fn Tryd.prog 11 [.agg x.cc] S (CopR S x)
theorem cop_step (n : Nat) (ih : CopTo n) : CopTo (n + 1) := by
 intro x hh hx S
 have hcp := rcopy_pure x.d hx.d
 have hlx := hx.len
 have hpl := strC_len x.params
 have hpx := hx.par
 rw [D.cc_eq] at hcp
 rw [K.cc_eq]
 refine Fn.introT Tryd.func11 rfl Tryd.ntmps11 Tryd.results11 (by simp only [List.length_cons, List.length_nil]; decide) ?_
 repeat (first | (apply fw; (with_reducible constructor) <;> rfl) | (apply WpA.cd; constructor) | ((first | with_reducible refine WpA.go _ rfl fun Y y => ?_ | apply RunTo.id); simp only [zb, seval, w11, List.length_append, get_app0, get_app1, get_app2, set_app0, set_app1, set_app2, hpl]; refine RunTo.fn y (by first | (simp; done) | omega | (simp; omega)) ?_; clear y Y))
 refine WpL.call rfl (guardA_sound (P := Tryd.prog) rfl) (CallA.shut rfl rfl (by kernel_rfl) (ALes.refl _) (by first | rfl | simp [shuts, A.shut, C.shut]) (hcp) ?_)
 (refine WpL.go _ rfl fun Y y => ?_); repeat (first | (apply fw; (with_reducible constructor) <;> rfl) | (apply WpA.cd; constructor) | ((first | with_reducible refine WpA.go _ rfl fun Y y => ?_ | apply RunTo.id); simp only [zb, seval, w11, List.length_append, get_app0, get_app1, set_app0, set_app1]; refine RunTo.fn y (by first | (simp; done) | omega | (simp; omega)) ?_; clear y Y))
 refine WpA.loop (CopI S x) x.l.length (st0 := ⟨[(4, .one (.v (.int .i64 (0 : Nat)))), (3, .one (.v (.slice none 0 0))), (1, .one (.ptr S.length 1 0 0)), (2, .one (.ptr (S.length + 1) 1 0 0))], S ++ [some ⟨33, 11, [ownCs x (.ms (S.length + 2) x.params.length) (.sl 11 (x.l.map K.cc))]⟩, some zeroOb, some ⟨9, 1, strC x.params⟩]⟩) (Le.sub (by simp [Sub, find]))
  ⟨0, _, .v (.slice none 0 0), [], [], [], rfl, Nat.zero_le _, get_app0 _ _ _, get_app1 _ _ _ _, get_app2 _ _ _ _ _, .inl ⟨rfl, rfl, rfl⟩, by rw [List.take_zero, OwnKs]; exact ⟨rfl, rfl⟩, by simp, by simp, fun j o h => up_app h, rfl⟩ ?_
 intro n' st hst
 obtain ⟨i, S', cL, rows, fL, fR, rfl, hi, hb, hz, hP, hL, hR, hnd, hge, hk, rfl⟩ := hst
 have hw2 : IntKind.i64.wrap ((i : Int) + 1) = ((i + 1 : Nat) : Int) := by rw [wrap64 (by omega) (by omega)]; omega
 have hlP := (List.getElem?_eq_some_iff.1 hP).1
 have hoff : ∀ {j : Nat}, j < S.length + 3 → ∀ n, cL ≠ .ms j n := fun hj n e => by have := hge _ (List.mem_append.2 (.inl (hL.own e))); omega
 have hrl := hR.len
 rw [List.length_take, Nat.min_eq_left hi] at hrl
 by_cases hlt : i < x.l.length
 ·have hd1 : decide ((i : Int) < (x.l.length : Int)) = true := by simp; omega
  have hget := getK hlt
  have hht := K.ht_lt hlt
  have hcop := ih x.l[i] (by omega) (hx.get i hlt) S'
  have hb' := hb
  simp only [ownCs] at hb'
  rw [K.cc_eq] at hget hcop
  repeat (first | (apply fw; (with_reducible constructor) <;> rfl) | (apply WpA.cd; constructor) | ((first | with_reducible refine WpA.go _ rfl fun Y y => ?_ | apply RunTo.id); simp only [zb, seval, w11, hb', hd1, hget]; refine RunTo.fn y (by first | (simp; done) | omega | (simp; omega)) ?_; clear y Y))
  refine WpL.handAll rfl (guardA_sound (P := Tryd.prog) rfl) rfl rfl (by kernel_rfl) (ALes.refl _) hcop ?_
  rintro _ S7 ⟨cs, f7, rfl, hO7, hd7, hg7, hl7, hk7⟩
  have hlt7 := hO7.lt
  have hltR := hR.lt
  have hltL := hL.lt
  have hc7 := hO7.len
  have hc8 : List.take 11 cs = cs := List.take_of_length_le (by omega)
  obtain ⟨S8, j8, hA8, hj8, hl8, hfr8, hpl8, hop8⟩ := append_op (P := Tryd.prog) (T := 22) (by_ := 176) elt_22 byt_22 zel_22 (by omega) (S := S7 ++ [some ⟨33, 11, [cs]⟩]) ((hL.at.stay fun j hj _ => hk7 j _ hj).app _) (q := S7.length) (new := [cs]) (by simp) (by simp) (fun n e => by have := hltL _ (hL.own e); omega) (by simp; omega) (by simp; omega)
  simp only [List.length_cons, List.length_nil, Nat.zero_add] at hop8 hA8
  (try simp only [St.put]); (refine WpL.op rfl (guardA_sound (P := Tryd.prog) rfl) (aop_sound (by simp only [zb, seval, w11, hc7, hc8, if_true]; rfl) (by first | (simp; done) | omega | (simp; omega))) ?_); simp only [St.put]
  refine WpL.aop rfl (hop8 _ _ _ rfl rfl) ?_
  simp only [St.put]
  (refine WpL.go _ rfl fun Y y => ?_); repeat (first | (apply fw; (with_reducible constructor) <;> rfl) | (apply WpA.cd; constructor) | ((first | with_reducible refine WpA.go _ rfl fun Y y => ?_ | apply RunTo.id); simp only [zb, seval, w11, hw2]; refine RunTo.fn y (by first | (simp; done) | omega | (simp; omega)) ?_; clear y Y))
  have stays : ∀ (j : Nat) (o : Option Ob), S'[j]? = some o → (∀ n, cL ≠ .ms j n) → S8[j]? = some o := fun j o h hn => hfr8 j o (up_app (hk7 j o h)) hn
  have news : ∀ j ∈ f7, S8[j]? = S7[j]? := fun j hj => by
   have h7 := hlt7 j hj
   obtain ⟨o, ho⟩ : ∃ o, S7[j]? = some o := ⟨_, List.getElem?_eq_getElem h7⟩
   rw [ho]
   exact hfr8 j o (up_app ho) fun n e => by have := hltL _ (hL.own e); have := hg7 j hj; omega
  have olds : ∀ j ∈ fR, S8[j]? = S'[j]? := fun j hj => by
   obtain ⟨o, ho⟩ : ∃ o, S'[j]? = some o := ⟨_, List.getElem?_eq_getElem (hltR j hj)⟩
   rw [ho]
   exact stays j o ho fun n e => (List.nodup_append.1 hnd).2.2 j (hL.own e) j hj rfl
  have hsn := OwnKs.snoc (hO7.keep news) (hR.keep olds)
  rw [← List.take_succ_eq_append_getElem hlt] at hsn
  simp at hl8
  have hpj : j8 ∈ fL ∨ S7.length + 1 ≤ j8 := hpl8.imp (fun e => hL.own e) (fun h => by simpa using h)
  have hd := List.nodup_append.1 hnd
  refine ⟨x.l.length - (i + 1), _, by omega, Le.sub (by simp [Sub, find]), i + 1, S8, .ms j8 (rows.length + 1), rows ++ [cs], [j8], fR ++ f7, rfl, hlt, stays _ _ hb (hoff (by omega)), stays _ _ hz (hoff (by omega)), stays _ _ hP (hoff (by omega)), .inr ⟨by simp, j8, by simp, rfl, hj8⟩, hsn, ?_, ?_, fun j o h => stays j o (hk j o h) (hoff (by have := (List.getElem?_eq_some_iff.1 h).1; omega)), rfl⟩
  ·rw [List.singleton_append, List.nodup_cons, List.nodup_append]
   refine ⟨fun h => ?_, hd.2.1, hd7, fun a ha b hb e => ?_⟩
   ·rcases List.mem_append.1 h with h | h
    ·rcases hpj with q | q
     ·exact hd.2.2 _ q _ h rfl
     ·have := hltR _ h; omega
    ·rcases hpj with q | q
     ·have := hltL _ q; have := hg7 _ h; omega
     ·have := hlt7 _ h; omega
   ·subst e
    have := hltR _ ha; have := hg7 _ hb; omega
  ·intro j hj
   rcases List.mem_append.1 hj with h | h
   ·rw [List.mem_singleton.1 h]
    rcases hpj with q | q
    ·exact hge _ (List.mem_append.2 (.inl q))
    ·omega
   ·rcases List.mem_append.1 h with h | h
    ·exact hge _ (List.mem_append.2 (.inr h))
    ·have := hg7 _ h; omega
 ·have hd0 : decide ((i : Int) < (x.l.length : Int)) = false := by simp; omega
  have hii : i = x.l.length := by omega
  subst hii
  rw [List.take_length] at hR
  have hb' := hb
  simp only [ownCs] at hb'
  simp only [zeroOb] at hz
  have hb1 : ∀ z : Option Ob, (S'.set S.length z)[S.length]? = some z := fun z => List.getElem?_set_self (by omega)
  have hz1 : ∀ z : Option Ob, (S'.set S.length z)[S.length + 1]? = _ := fun z => (List.getElem?_set_ne (by omega)).trans hz
  repeat (first | (apply fw; (with_reducible constructor) <;> rfl) | (apply WpA.cd; constructor) | ((first | with_reducible refine WpA.go _ rfl fun Y y => ?_ | apply RunTo.id); simp only [zb, seval, w11, hd0, hb', hz, hb1, hz1]; refine RunTo.fn y (by first | (simp; done) | omega | (simp; omega)) ?_; clear y Y))
  repeat (first | (apply fw; (with_reducible constructor) <;> rfl) | (apply WpA.cd; constructor) | ((first | with_reducible refine WpA.go _ rfl fun Y y => ?_ | apply RunTo.id); simp only [zb, seval, w11, hd0, hb', hz, hb1, hz1]; refine RunTo.fn y (by first | (simp; done) | omega | (simp; omega)) ?_; clear y Y))
  have hl9 : ∀ z : Option Ob, S.length + 1 < (S'.set S.length z).length := fun z => by simp; omega
  refine ⟨.inl rfl, _, _, _, _, (by simp only [zb, seval, List.getElem?_set_self (hl9 _), w11]; rfl), by simp, Le.refl _ _, ownCs x (.ms (S.length + 2) x.params.length) cL, (S.length + 2) :: (fL ++ fR), rfl, ?_, ?_, ?_, ?_, ?_⟩
  ·have hs : ∀ {j : Nat} (a b : Option Ob), S.length + 2 ≤ j → ((S'.set S.length a).set (S.length + 1) b)[j]? = S'[j]? := fun a b h => by rw [List.getElem?_set_ne (by omega), List.getElem?_set_ne (by omega)]
   exact OwnK.iff.2 ⟨_, cL, rows, fL, fR, rfl, (hs _ _ (Nat.le_refl _)).trans hP, hL.keep fun j hj => hs _ _ (by have := hge j (List.mem_append.2 (.inl hj)); omega), hR.keep fun j hj => hs _ _ (by have := hge j (List.mem_append.2 (.inr hj)); omega), rfl⟩
  ·rw [List.nodup_cons]
   exact ⟨fun h => by have := hge _ h; omega, hnd⟩
  ·intro j hj
   rcases List.mem_cons.1 hj with rfl | h
   ·omega
   ·have := hge _ h; omega
  ·simp; omega
  ·intro j o h
   have := (List.getElem?_eq_some_iff.1 h).1
   rw [List.getElem?_set_ne (by omega), List.getElem?_set_ne (by omega)]
   exact hk j o h
theorem cop_upto : ∀ n, CopTo n
 | 0 => fun x h => absurd h (by have := x.ht_pos; omega)
 | n + 1 => cop_step n (cop_upto n)
def codeOb (cN cC cG cP cT : C) : Ob := ⟨39, 5, [[cN, cC, cG, cP, cT]]⟩
def zeroCode : Ob := codeOb (.v (.slice none 0 0)) (.v (.slice none 0 0)) (.v (.slice none 0 0)) (.v (.slice none 0 0)) (.v (.slice none 0 0))
def nodeOb (o a b : Int) (c : C) : Ob := ⟨55, 4, [[.v (.int .i64 o), .v (.int .i64 a), .v (.int .i64 b), c]]⟩
def opsR : List (List C) := [[.v (.int .i64 0)], [.v (.int .i64 1)], [.v (.int .i64 3)], [.v (.int .i64 5)], [.v (.int .i64 6)], [.v (.int .i64 7)], [.v (.int .i64 8)], [.v (.int .i64 9)], [.v (.int .i64 10)], [.v (.int .i64 11)], [.v (.int .i64 12)]]
def opOf (k : Int) : Int := if k = 1 then 1 else if k ≤ 3 then 2 * k - 1 else k + 2
theorem opsR_get {k : Int} (h : 1 ≤ k ∧ k ≤ 10) : opsR[k.toNat]? = some [.v (.int .i64 (opOf k))] := by
 have : k = 1 ∨ k = 2 ∨ k = 3 ∨ k = 4 ∨ k = 5 ∨ k = 6 ∨ k = 7 ∨ k = 8 ∨ k = 9 ∨ k = 10 := by omega
 rcases this with rfl | rfl | rfl | rfl | rfl | rfl | rfl | rfl | rfl | rfl <;> rfl
def RPutR (S : List (Option Ob)) (c : Cd) (x : K) (sc : List (List ByteArray)) (cT : C) (r : A) (S' : List (Option Ob)) : Prop := ∃ cN cC cG cP, r = .agg [cN, cC, cG, cP, cT] ∧ CdIn S' (putN c x sc) cN cC cG cP cT ∧ Frt [9, 31, 55] S S'
def RPutTo (n : Nat) : Prop := ∀ (x : K), x.ht ≤ n → x.Pk → x.Lg → ∀ (S : List (Option Ob)) (c : Cd) (sc : List (List ByteArray)) (cN cC cG cP cT : C), CdIn S c cN cC cG cP cT → c.most + x.size ≤ 1000000000 → c.nodes.length + x.size ≤ 1000000000 → sc.length + x.ht ≤ 1000000000 → (∀ l ∈ sc, l.length ≤ 1000000000) → Fn Tryd.prog 30 [.agg [cN, cC, cG, cP, cT], .agg x.cc, .one (scP sc.reverse)] S (RPutR S c x sc cT)
def RbI (S : List (Option Ob)) (c : Cd) (x : K) (sc : List (List ByteArray)) (cN cC cG cP cT : C) (n : Nat) (st : St) : Prop := ∃ (i : Nat) (S' : List (Option Ob)) (cL : C), n = x.l.length - i ∧ i ≤ x.l.length ∧ (∀ (j : Nat) (o : Option Ob), S[j]? = some o → S'[j]? = some o) ∧
 S'[S.length]? = some (some (codeOb cN cC cG cP cT)) ∧ S'[S.length + 1]? = some (some (coreOb x)) ∧ S'[S.length + 2]? = some (some zeroCode) ∧ S'[S.length + 3]? = some (some (nodeOb 0 0 0 cL)) ∧
 At 3 1 S' cL (intC (ats (x.l.take i) (c.nodes.length + 1))) ∧ (∀ j k, cL = .ms j k → S.length + 4 ≤ j) ∧
 st = ⟨[(9, .one (.v (.int .i64 i))), (8, .one (.v (.int .i64 ((c.nodes.length + 1 + K.sizes (x.l.take i) : Nat) : Int)))), (3, .one (.ptr S.length 1 0 0)), (4, .one (.ptr (S.length + 1) 1 0 0)), (6, .one (.ptr (S.length + 2) 1 0 0)), (7, .one (.ptr (S.length + 3) 1 0 0)), (2, .one (scP sc.reverse))], S'⟩
def RnF (S : List (Option Ob)) (c : Cd) (x : K) (sc : List (List ByteArray)) (cN cT : C) (st' : St) : Prop := ∃ (U : List (Option Ob)) (cC cG cP : C), CdIn U (nodeN c x sc).2 cN cC cG cP cT ∧ Frt [9, 31, 55] S U ∧
 U[S.length]? = some (some (codeOb cN cC cG cP cT)) ∧ U[S.length + 1]? = some (some (coreOb x)) ∧ U[S.length + 2]? = some (some zeroCode) ∧ U[S.length + 3]? = some (some (nodeOb (nodeN c x sc).1.1 (nodeN c x sc).1.2.1 (nodeN c x sc).1.2.2 (.sl 1 (intC (ats x.l (c.nodes.length + 1)))))) ∧
 st' = ⟨[(3, .one (.ptr S.length 1 0 0)), (4, .one (.ptr (S.length + 1) 1 0 0)), (6, .one (.ptr (S.length + 2) 1 0 0)), (7, .one (.ptr (S.length + 3) 1 0 0)), (2, .one (scP (scIn x sc).reverse))], U⟩
def RcI (S : List (Option Ob)) (c : Cd) (x : K) (sc : List (List ByteArray)) (nd : Nd) (cT : C) (n : Nat) (st : St) : Prop := ∃ (i : Nat) (V : List (Option Ob)) (cN cC cG cP : C), n = x.l.length - i ∧ i ≤ x.l.length ∧ CdIn V (stepC c x sc nd i) cN cC cG cP cT ∧
 V[S.length]? = some (some (codeOb cN cC cG cP cT)) ∧ V[S.length + 1]? = some (some (coreOb x)) ∧ V[S.length + 2]? = some (some zeroCode) ∧ Frt [9, 31, 55] S V ∧
 st = ⟨[(14, .one (.v (.int .i64 i))), (3, .one (.ptr S.length 1 0 0)), (4, .one (.ptr (S.length + 1) 1 0 0)), (6, .one (.ptr (S.length + 2) 1 0 0)), (2, .one (scP (scIn x sc).reverse))], V⟩
theorem get_app3 {α : Type} (S T : List α) (a b c d : α) : (S ++ a :: b :: c :: d :: T)[S.length + 3]? = some d := by
 rw [List.getElem?_append_right (by omega)]; simp
theorem set_app3 {α : Type} (S T : List α) (a b c d x : α) : (S ++ a :: b :: c :: d :: T).set (S.length + 3) x = S ++ a :: b :: c :: x :: T := by
 rw [List.set_append_right _ _ (by omega)]; simp
theorem putN_step (c : Cd) (x : K) (sc : List (List ByteArray)) : putN c x sc = stepC c x sc ⟨(nodeN c x sc).1.1, (nodeN c x sc).1.2.1, (nodeN c x sc).1.2.2, ats x.l (c.nodes.length + 1)⟩ x.l.length := by
 unfold putN stepC
 rw [emit_eq, List.take_length]
theorem scP_shut (r : List (List ByteArray)) : C.shut (scP r) = true := by cases r <;> rfl
theorem FrzD.last (S : List (Option Ob)) (o : Option Ob) : FrzD (S ++ [o]) (S ++ [none]) (fun i => i == S.length) := by
 refine ⟨by simp, fun i b h => ?_⟩
 have hi := (List.getElem?_eq_some_iff.1 h).1
 simp only [List.length_append, List.length_cons, List.length_nil] at hi
 by_cases hl : i < S.length
 ·rw [List.getElem?_append_left hl] at h
  exact ⟨by simp; omega, by rw [List.getElem?_append_left hl]; exact h⟩
 ·obtain rfl : i = S.length := by omega
  simp at h
theorem rput_step (n : Nat) (ih : RPutTo n) : RPutTo (n + 1) := by
 intro x hh hx hg S c sc cN cC cG cP cT hI hm hn hs hll
 have hsz := x.size_eq
 have hlx := hx.len
 have hNl := hI.1.len
 rw [List.length_map] at hNl
 have hNl2 : c.nodes.length ≤ 1000000000 := by omega
 rw [K.cc_eq]
 refine Fn.introT Tryd.func30 rfl Tryd.ntmps30 Tryd.results30 (by simp only [List.length_cons, List.length_nil]; decide) ?_
 (refine WpA.seq ?_); (refine WpA.region ?_); (refine WpL.go _ rfl fun Y y => ?_); simp only [zb, seval, w30, List.length_append, get_app0, get_app3, set_app3, ↓hNl]; (refine RunTo.fn y (by first | (simp; done) | omega | (simp; omega)) ?_); clear y Y; (refine WpL.nil ?_); (refine thenA_n ?_); (refine WpA.seq ?_); (refine WpA.region ?_); (refine WpL.go _ rfl fun Y y => ?_); simp only [zb, seval, w30, List.length_append, get_app0, get_app3, set_app3, ↓hNl]; (refine RunTo.fn y (by first | (simp; done) | omega | (simp; omega)) ?_); clear y Y; (refine WpL.nil ?_); (refine thenA_n ?_); (refine WpA.seq ?_); (refine WpA.region ?_); (refine WpL.go _ rfl fun Y y => ?_); simp only [zb, seval, w30, List.length_append, get_app0, get_app3, set_app3, ↓hNl]; (refine RunTo.fn y (by first | (simp; done) | omega | (simp; omega)) ?_); clear y Y; (refine WpL.nil ?_); (refine thenA_n ?_)
 have hatw : IntKind.i64.wrap ((c.nodes.length : Int) + 1) = ((c.nodes.length + 1 : Nat) : Int) := by rw [wrap64 (by omega) (by omega)]; omega
 have hall2 := x.size_pos
 refine WpA.viaR (fun st' => ∃ (S' : List (Option Ob)), (∀ (j : Nat) (o : Option Ob), S[j]? = some o → S'[j]? = some o) ∧
  S'[S.length]? = some (some (codeOb cN cC cG cP cT)) ∧ S'[S.length + 1]? = some (some (coreOb x)) ∧ S'[S.length + 2]? = some (some zeroCode) ∧ S'[S.length + 3]? = some (some (nodeOb 0 0 0 (.sl 1 (intC (ats x.l (c.nodes.length + 1)))))) ∧
  st' = ⟨[(3, .one (.ptr S.length 1 0 0)), (4, .one (.ptr (S.length + 1) 1 0 0)), (6, .one (.ptr (S.length + 2) 1 0 0)), (7, .one (.ptr (S.length + 3) 1 0 0)), (2, .one (scP sc.reverse))], S'⟩) ?_ ?_
 ·(refine WpA.seq ?_); (refine WpA.region ?_); (refine WpL.go _ rfl fun Y y => ?_); simp only [zb, seval, w30]; (refine RunTo.fn y (by first | (simp; done) | omega | (simp; omega)) ?_); clear y Y; (refine WpL.nil ?_); (refine thenA_n ?_)
  repeat (first | (apply fw; (with_reducible constructor) <;> rfl) | (apply WpA.cd; constructor))
  rw [hatw]
  refine WpA.loop (RbI S c x sc cN cC cG cP cT) x.l.length (st0 := ⟨[(9, .one (.v (.int .i64 (0 : Nat)))), (8, .one (.v (.int .i64 ((c.nodes.length + 1 : Nat) : Int)))), (3, .one (.ptr S.length 1 0 0)), (4, .one (.ptr (S.length + 1) 1 0 0)), (6, .one (.ptr (S.length + 2) 1 0 0)), (7, .one (.ptr (S.length + 3) 1 0 0)), (2, .one (scP sc.reverse))], S ++ [some (codeOb cN cC cG cP cT), some (coreOb x), some zeroCode, some (nodeOb 0 0 0 (.v (.slice none 0 0)))]⟩) (Le.sub (by simp [Sub, find])) ⟨0, _, _, rfl, Nat.zero_le _, fun j o h => up_app h, get_app0 _ _ _, get_app1 _ _ _ _, get_app2 _ _ _ _ _, get_app3 _ _ _ _ _ _, At.nil _ _ _, (fun j k e => by cases e), rfl⟩ ?_
  intro n' st hst
  obtain ⟨i, S', cL, rfl, hi, hk, b0, b1, b2, b3, hL, hLS, rfl⟩ := hst
  have hw2 : IntKind.i64.wrap ((i : Int) + 1) = ((i + 1 : Nat) : Int) := by rw [wrap64 (by omega) (by omega)]; omega
  have c1 := b1
  have c3 := b3
  simp only [coreOb] at c1
  simp only [nodeOb] at c3
  by_cases hlt : i < x.l.length
  ·have hd1 : decide ((i : Int) < (x.l.length : Int)) = true := by simp; omega
   have hget := getK hlt
   have htl := K.sizes_take_lt hlt
   have hsi := size_upto (x.l[i]).ht x.l[i] (Nat.le_refl _) (by omega) (hg.get i hlt).ok
   rw [K.cc_eq] at hget hsi
   obtain ⟨S8, jL, hA8, hj8, hl8, hfr8, hpl8, hop8⟩ := append_op (P := Tryd.prog) (T := 37) (by_ := 8) elt_37 byt_37 zel_37 (by omega) (S := S' ++ [some ⟨3, 1, [[.v (.int .i64 ((c.nodes.length + 1 + K.sizes (x.l.take i) : Nat) : Int))]]⟩]) (hL.app _) (q := S'.length) (new := [[.v (.int .i64 ((c.nodes.length + 1 + K.sizes (x.l.take i) : Nat) : Int))]]) (by simp) (by simp) (fun n e => by have := hL.lt e; omega) (by rw [intC_len, ats_len, List.length_take]; simp; omega) (by rw [intC_len, ats_len, List.length_take]; simp; omega)
   have hrL : intC (ats (x.l.take i) (c.nodes.length + 1)) ++ [[.v (.int .i64 ((c.nodes.length + 1 + K.sizes (x.l.take i) : Nat) : Int))]] = intC (ats (x.l.take (i + 1)) (c.nodes.length + 1)) := by rw [ats_take hlt, intC_app]; rfl
   rw [hrL] at hA8
   simp only [List.length_cons, List.length_nil, Nat.zero_add] at hop8 hA8
   have hoff : ∀ {j : Nat}, j < S.length + 4 → ∀ n, cL ≠ .ms j n := fun hj n e => by have := hLS _ _ e; omega
   have st8 : ∀ (j : Nat) (o : Option Ob), S'[j]? = some o → (∀ n, cL ≠ .ms j n) → S8[j]? = some o := fun j o h hn => hfr8 j o (up_app h) hn
   have d0 := st8 _ _ b0 (hoff (by omega))
   have d1 := st8 _ _ b1 (hoff (by omega))
   have d2 := st8 _ _ b2 (hoff (by omega))
   have d3 := st8 _ _ c3 (hoff (by omega))
   have hl3 := (List.getElem?_eq_some_iff.1 d3).1
   have e1 : ∀ z : Option Ob, (S8.set (S.length + 3) z)[S.length + 1]? = _ := fun z => (List.getElem?_set_ne (by omega)).trans d1
   simp only [coreOb] at e1
   have hw3 : IntKind.i64.wrap (((c.nodes.length + 1 + K.sizes (x.l.take i) : Nat) : Int) + (x.l[i].size : Int)) = ((c.nodes.length + 1 + K.sizes (x.l.take (i + 1)) : Nat) : Int) := by rw [K.sizes_take hlt, wrap64 (by omega) (by omega)]; omega
   repeat (first | (apply fw; (with_reducible constructor) <;> rfl) | (apply WpA.cd; constructor))
   ((with_reducible refine WpA.go _ rfl fun Y y => ?_); simp only [zb, seval, w30, c1, hd1]; (refine RunTo.fn y (by first | (simp; done) | omega | (simp; omega)) ?_); clear y Y); repeat (first | (apply fw; (with_reducible constructor) <;> rfl) | (apply WpA.cd; constructor))
   refine WpA.region ?_
   (try simp only [St.put]); (refine WpL.op rfl (guardA_sound (P := Tryd.prog) rfl) (aop_sound (by simp only [zb, seval, w30, c3]; rfl) (by first | (simp; done) | omega | (simp; omega))) ?_); simp only [St.put]; (refine WpL.op rfl (guardA_sound (P := Tryd.prog) rfl) (aop_sound (by simp only [zb, seval, w30, c3]; rfl) (by first | (simp; done) | omega | (simp; omega))) ?_); simp only [St.put]; (refine WpL.op rfl (guardA_sound (P := Tryd.prog) rfl) (aop_sound (by simp only [zb, seval, w30, c3]; rfl) (by first | (simp; done) | omega | (simp; omega))) ?_); simp only [St.put]; (refine WpL.op rfl (guardA_sound (P := Tryd.prog) rfl) (aop_sound (by simp only [zb, seval, w30, c3]; rfl) (by first | (simp; done) | omega | (simp; omega))) ?_); simp only [St.put]
   refine WpL.aop rfl (hop8 _ _ _ rfl rfl) ?_
   simp only [St.put]
   (refine WpL.go _ rfl fun Y y => ?_); repeat (first | (apply fw; (with_reducible constructor) <;> rfl) | (apply WpA.cd; constructor) | ((first | with_reducible refine WpA.go _ rfl fun Y y => ?_ | apply RunTo.id); simp only [zb, seval, w30, d3, e1, hget]; refine RunTo.fn y (by first | (simp; done) | omega | (simp; omega)) ?_; clear y Y))
   refine WpL.call rfl (guardA_sound (P := Tryd.prog) rfl) (CallA.shut rfl rfl (by kernel_rfl) (ALes.refl _) (by first | rfl | simp [shuts, A.shut, C.shut]) (hsi) ?_)
   (refine WpL.go _ rfl fun Y y => ?_); repeat (first | (apply fw; (with_reducible constructor) <;> rfl) | (apply WpA.cd; constructor) | ((first | with_reducible refine WpA.go _ rfl fun Y y => ?_ | apply RunTo.id); simp only [zb, seval, w30, hw2, hw3]; refine RunTo.fn y (by first | (simp; done) | omega | (simp; omega)) ?_; clear y Y))
   refine ⟨x.l.length - (i + 1), _, by omega, Le.sub (by simp [Sub, find]), i + 1, _, _, rfl, hlt, fun j o h => ?_, ?_, ?_, ?_, List.getElem?_set_self hl3, hA8.stay fun j hj e => ?_, fun j k e => ?_, rfl⟩
   ·have hj := (List.getElem?_eq_some_iff.1 h).1
    rw [List.getElem?_set_ne (by omega)]
    exact st8 j o (hk j o h) (hoff (by omega))
   ·rw [List.getElem?_set_ne (by omega)]; exact d0
   ·rw [List.getElem?_set_ne (by omega)]; exact d1
   ·rw [List.getElem?_set_ne (by omega)]; exact d2
   ·obtain rfl : jL = j := by injection e
    have : jL ≠ S.length + 3 := fun e => by rw [e] at hj; rw [d3] at hj; cases hj
    rw [List.getElem?_set_ne (fun e => this e.symm)]; exact hj
   ·cases e
    rcases hpl8 with h | h
    ·exact hLS _ _ h
    ·have := (List.getElem?_eq_some_iff.1 b3).1
     simp at h; omega
  ·have hd0 : decide ((i : Int) < (x.l.length : Int)) = false := by simp; omega
   have hii : i = x.l.length := by omega
   subst hii
   rw [List.take_length] at hL
   obtain ⟨S9, z, hz1, hz2, hz3, hz4⟩ := node_freeze hL c3
   repeat (first | (apply fw; (with_reducible constructor) <;> rfl) | (apply WpA.cd; constructor))
   ((with_reducible refine WpA.go _ rfl fun Y y => ?_); simp only [zb, seval, w30, c1, hd0]; (refine RunTo.fn y (by first | (simp; done) | omega | (simp; omega)) ?_); clear y Y); repeat (first | (apply fw; (with_reducible constructor) <;> rfl) | (apply WpA.cd; constructor))
   have hoff : ∀ {j : Nat}, j < S.length + 4 → ∀ n, cL ≠ .ms j n := fun hj n e => by have := hLS _ _ e; omega
   refine ⟨⟨_, S9⟩, ?_, S9, fun j o h => ?_, hz4 _ _ b0 (by omega) (hoff (by omega)), hz4 _ _ b1 (by omega) (hoff (by omega)), hz4 _ _ b2 (by omega) (hoff (by omega)), hz3, rfl⟩
   ·refine Le.freeze z hz1 ?_
    simp only [SubZ]
    exact ⟨⟨_, rfl, FzA.same _ _ _⟩, ⟨_, rfl, FzA.same _ _ _⟩, ⟨_, rfl, FzA.same _ _ _⟩, ⟨_, rfl, FzA.same _ _ _⟩, ⟨_, rfl, FzA.same _ _ _⟩, trivial⟩
   ·have hj := (List.getElem?_eq_some_iff.1 h).1
    exact hz4 j o (hk j o h) (by omega) (hoff (by omega))
 rintro _ ⟨S1, hk', b0, b1, b2, b3, rfl⟩
 clear hatw hall2
 have hk := hx.kind
 have hop := opsR_get hx.kind
 have c1 := b1
 have c3 := b3
 simp only [coreOb] at c1
 simp only [nodeOb] at c3
 have p1 : ∀ T, (S1 ++ T)[S.length + 1]? = _ := fun T => up_app c1
 have p3 : ∀ T, (S1 ++ T)[S.length + 3]? = _ := fun T => up_app c3
 have hgl : ∀ z : Option Ob, (S1 ++ [z])[S1.length]? = some z := fun z => by simp
 have hin : 0 ≤ x.k ∧ x.k < 11 := by omega
 simp only [opsR] at hop
 (refine WpA.seq ?_); (refine WpA.region ?_); (refine WpL.go _ rfl fun Y y => ?_); simp only [zb, seval, w30, p1, p3, hgl, hop]; (refine RunTo.fn y (by first | (simp; done) | omega | (simp; omega)) ?_); clear y Y; (refine WpL.nil ?_); (refine thenA_n ?_); (refine WpA.seq ?_); (refine WpA.region ?_); (refine WpL.go _ rfl fun Y y => ?_); simp only [zb, seval, w30, p1, p3, hgl, hop]; (refine RunTo.fn y (by first | (simp; done) | omega | (simp; omega)) ?_); clear y Y; (refine WpL.nil ?_); (refine thenA_n ?_)
 obtain ⟨U, hU⟩ : ∃ U : List (Option Ob), U = List.set (S1 ++ [some ⟨3, 1, [[.v (.int .i64 0)], [.v (.int .i64 1)], [.v (.int .i64 3)], [.v (.int .i64 5)], [.v (.int .i64 6)], [.v (.int .i64 7)], [.v (.int .i64 8)], [.v (.int .i64 9)], [.v (.int .i64 10)], [.v (.int .i64 11)], [.v (.int .i64 12)]]⟩]) (S.length + 3) (some ⟨55, 4, [[.v (.int .i64 (opOf x.k)), .v (.int .i64 0), .v (.int .i64 0), .sl 1 (intC (ats x.l (c.nodes.length + 1)))]]⟩) := ⟨_, rfl⟩
 rw [← hU]
 have hl3 := (List.getElem?_eq_some_iff.1 b3).1
 have u0 : U[S.length]? = some (some (codeOb cN cC cG cP cT)) := by rw [hU, List.getElem?_set_ne (by omega)]; exact up_app b0
 have u1 : U[S.length + 1]? = some (some (coreOb x)) := by rw [hU, List.getElem?_set_ne (by omega)]; exact up_app b1
 have u2 : U[S.length + 2]? = some (some zeroCode) := by rw [hU, List.getElem?_set_ne (by omega)]; exact up_app b2
 have u3 : U[S.length + 3]? = some (some (nodeOb (opOf x.k) 0 0 (.sl 1 (intC (ats x.l (c.nodes.length + 1)))))) := by rw [hU]; exact List.getElem?_set_self (by simp; omega)
 have hlU : S.length + 3 < U.length := (List.getElem?_eq_some_iff.1 u3).1
 have hkU : ∀ (j : Nat) (o : Option Ob), S[j]? = some o → U[j]? = some o := fun j o h => by
  have hj := (List.getElem?_eq_some_iff.1 h).1
  rw [hU, List.getElem?_set_ne (by omega)]; exact up_app (hk' j o h)
 have hIU := hI.stay hkU
 have hFU : Frt [9, 31, 55] S U := Frt.stay hkU
 refine WpA.le (Le.sub (e' := [(3, .one (.ptr S.length 1 0 0)), (4, .one (.ptr (S.length + 1) 1 0 0)), (6, .one (.ptr (S.length + 2) 1 0 0)), (7, .one (.ptr (S.length + 3) 1 0 0)), (2, .one (scP sc.reverse))]) (by simp [Sub, find])) ?_
 clear hU hgl p1 p3 hop c1 c3 b0 b1 b2 b3 hl3 hk' S1
 refine WpA.viaR (RnF S c x sc cN cT) ?_ ?_
 ·have c0 := u0
  have c1 := u1
  have c3 := u3
  simp only [codeOb] at c0
  simp only [coreOb] at c1
  simp only [nodeOb] at c3
  have setN : ∀ (o a b : Int), ∃ U', U' = U.set (S.length + 3) (some (nodeOb o a b (.sl 1 (intC (ats x.l (c.nodes.length + 1)))))) ∧ U'[S.length]? = U[S.length]? ∧ U'[S.length + 1]? = U[S.length + 1]? ∧ U'[S.length + 2]? = U[S.length + 2]? ∧ U'[S.length + 3]? = some (some (nodeOb o a b (.sl 1 (intC (ats x.l (c.nodes.length + 1)))))) ∧ CdIn U' c cN cC cG cP cT ∧ (∀ (j : Nat) (o : Option Ob), S[j]? = some o → U'[j]? = some o) := fun o a b => by
   have hks : ∀ (j : Nat) (o' : Option Ob), S[j]? = some o' → (U.set (S.length + 3) (some (nodeOb o a b (.sl 1 (intC (ats x.l (c.nodes.length + 1)))))))[j]? = some o' := fun j o' h => by
    have hj := (List.getElem?_eq_some_iff.1 h).1
    rw [List.getElem?_set_ne (by omega)]; exact hkU j o' h
   exact ⟨_, rfl, List.getElem?_set_ne (by omega), List.getElem?_set_ne (by omega), List.getElem?_set_ne (by omega), List.getElem?_set_self hlU, hI.stay hks, hks⟩
  have hk0 : x.k = 1 ∨ (x.k = 2 ∨ x.k = 3 ∨ x.k = 4) ∨ x.k = 5 ∨ x.k = 6 ∨ x.k = 7 ∨ x.k = 8 ∨ x.k = 9 ∨ x.k = 10 := by omega
  rcases hk0 with q | hv | q | q | q | q | q | q
  ·have hnd : nodeN c x sc = ((1, (c.consts.length : Int), 0), { c with consts := c.consts ++ [x.d] }) := by unfold nodeN; simp [q]
   have hsc : scIn x sc = sc := if_neg (by omega)
   have hCl := hI.2.1.len
   rw [List.length_map] at hCl
   have hcl : c.consts.length ≤ 1000000000 := by unfold Cd.most at hm; omega
   obtain ⟨U1, hU1, v0, v1, v2, v3, hI1, hk1⟩ := setN 1 c.consts.length 0
   have hop1 : opOf x.k = 1 := by rw [q]; rfl
   have hcp := rcopy_pure x.d hx.d
   rw [D.cc_eq] at hcp
   rw [hop1] at c3
   have c1' := c1
   rw [q] at c1
   simp only [nodeOb] at hU1
   repeat (first | (apply fw; (with_reducible constructor) <;> rfl) | (apply WpA.cd; constructor) | ((first | with_reducible refine WpA.go _ rfl fun Y y => ?_ | apply RunTo.id); simp only [zb, seval, w30, c0, c1, c3, ↓hCl]; refine RunTo.fn y (by first | (simp; done) | omega | (simp; omega)) ?_; clear y Y))
   rw [← hU1]
   have v0' := v0.trans c0
   have v1' := v1.trans c1'
   obtain ⟨c9, hc9⟩ : ∃ c9 : List (Option Ob), c9 = pts [(S.length, codeOb cN cC cG cP cT), (S.length + 1, coreOb x)] := ⟨_, rfl⟩
   have q1 : c9[S.length]? = some (some (codeOb cN cC cG cP cT)) := by rw [hc9]; exact pts_get (q := (S.length, codeOb cN cC cG cP cT)) (by simp)
   have q2 : c9[S.length + 1]? = some (some (coreOb x)) := by rw [hc9]; exact pts_get (q := (S.length + 1, coreOb x)) (by rw [List.find?_cons_of_neg (by simp)]; simp)
   have hle : ∀ s ∈ [U1, U1 ++ [some ⟨31, 6, [x.d.cc]⟩]], LeS c9 s := by
    rw [hc9]
    intro s hs
    refine LeS.pts ?_
    simp only [List.mem_cons, List.not_mem_nil, or_false, forall_eq_or_imp, forall_eq] at hs ⊢
    rcases hs with rfl | rfl
    ·exact ⟨⟨_, v0.trans u0, rfl, rfl, FzR.same _ _ _⟩, ⟨_, v1.trans u1, rfl, rfl, FzR.same _ _ _⟩⟩
    ·exact ⟨⟨_, up_app (v0.trans u0), rfl, rfl, FzR.same _ _ _⟩, ⟨_, up_app (v1.trans u1), rfl, rfl, FzR.same _ _ _⟩⟩
   simp only [codeOb] at q1
   simp only [coreOb] at q2
   rw [D.cc_eq] at hle
   skip
   skip
   (refine WpA.draw1 6 [5] c9 [U1, U1 ++ [some ⟨31, 6, [[.v (.int .i64 x.d.k), .v (.int .i32 x.d.c), .v (.bool x.d.neg), .sl 1 (x.d.mag.map fun n => [.v (.int .u32 n)]), .v (.string x.d.t), .sl 6 (x.d.l.map D.cc)]]⟩]] _ _ _ _ rfl rfl rfl (by kernel_rfl) (by kernel_rfl) (by kernel_rfl) (by kernel_rfl) rfl rfl rfl rfl (by decide) fun K8 hK8 => ?_)
   simp only [zz] at hK8 ⊢
   (refine Draw1.go fun K7 hK7 => ?_); simp only [zb, seval, w30, q1, q2]; (refine RunQ.mk (by first | (simp; done) | omega | (simp; omega)) (hK7 _ _ (by rfl) ?_)); clear hK7 K7; (simp only [zz, Nat.reduceAdd, Nat.reduceSub]); (try ((refine Draw1.nil hle (hK8 _ ?_)); clear hK8 K8; (refine WpL.go _ rfl fun Y y => ?_); repeat (first | (apply fw; (with_reducible constructor) <;> rfl) | (apply WpA.cd; constructor) | ((first | with_reducible refine WpA.go _ rfl fun Y y => ?_ | apply RunTo.id); simp only [zb, seval, w30, q1, q2]; refine RunTo.fn y (by first | (simp; done) | omega | (simp; omega)) ?_; clear y Y))))
   refine Draw1.step (by rfl) (fun s9 _ => OpS.shut rfl rfl rfl (by kernel_rfl) (ALes.refl _) (by first | rfl | simp [shuts, A.shut, C.shut]) (hcp)) ?_
   simp only [putE]
   refine Draw1.eff 0 rfl rfl rfl (OpS.eff [(60, _)] rfl (by rfl) ⟨rfl, trivial⟩ (by simp only [zb, seval, w30]; rfl) (by simp)) ?_
   simp only [putE]
   refine Draw1.nil hle (hK8 _ ?_)
   clear hK8 K8
   obtain ⟨S8, j8, hA8, hj8, hl8, hfr8, hpl8, hop8⟩ := append_op (P := Tryd.prog) (T := 29) (by_ := 88) elt_29 byt_29 zel_29 (by omega) (S := U1 ++ [some ⟨31, 6, [x.d.cc]⟩]) (hI1.2.1.app _) (q := U1.length) (new := [x.d.cc]) (by simp) (by simp) (fun n e => by have := hI1.2.1.lt e; omega) (by simp; omega) (by simp; omega)
   have hrows : c.consts.map D.cc ++ [x.d.cc] = (c.consts ++ [x.d]).map D.cc := by simp
   rw [hrows] at hA8
   have hI8 := (hI1.app _).setC hA8 hfr8
   have hoff : ∀ {j : Nat} {ob : Ob}, U1[j]? = some (some ob) → ob.ty ≠ 31 → ∀ n, cC ≠ .ms j n := fun hj ht => hI1.2.1.apart hj ht
   have w0 := hfr8 _ _ (up_app (v0.trans u0)) (hoff (v0.trans u0) (by show (39 : Nat) ≠ _; decide))
   have w1 := hfr8 _ _ (up_app (v1.trans u1)) (hoff (v1.trans u1) (by show (33 : Nat) ≠ _; decide))
   have w2 := hfr8 _ _ (up_app (v2.trans u2)) (hoff (v2.trans u2) (by show (39 : Nat) ≠ _; decide))
   have w3 := hfr8 _ _ (up_app v3) (hoff v3 (by show (55 : Nat) ≠ _; decide))
   have hl0 := (List.getElem?_eq_some_iff.1 w0).1
   have w0' := w0
   simp only [codeOb] at w0'
   simp only [List.length_cons, List.length_nil, Nat.zero_add, List.length_map] at hop8 hA8 hI8
   rw [D.cc_eq] at hop8
   refine WpL.aop rfl (hop8 _ _ _ rfl rfl) ?_
   simp only [St.put]
   (refine WpL.go _ rfl fun Y y => ?_); repeat (first | (apply fw; (with_reducible constructor) <;> rfl) | (apply WpA.cd; constructor) | ((first | with_reducible refine WpA.go _ rfl fun Y y => ?_ | apply RunTo.id); simp only [zb, seval, w30, w0']; refine RunTo.fn y (by first | (simp; done) | omega | (simp; omega)) ?_; clear y Y))
   refine ⟨⟨_, _⟩, ?_, S8.set S.length (some (codeOb cN (.ms j8 (c.consts.length + 1)) cG cP cT)), _, cG, cP, ?_, ⟨?_, fun j ob h1 h2 => ?_⟩, List.getElem?_set_self hl0, ?_, ?_, ?_, rfl⟩
   ·rw [hsc]
    simp only [codeOb]
    refine Le.sub ?_
    simp [Sub, find]
   ·rw [hnd]
    exact hI8.box w0 (by show (39 : Nat) ≠ _ ∧ (39 : Nat) ≠ _ ∧ (39 : Nat) ≠ _ ∧ (39 : Nat) ≠ _; decide)
   ·simp; omega
   ·have hj := (List.getElem?_eq_some_iff.1 h1).1
    rw [List.getElem?_set_ne (by omega)]
    exact hfr8 _ _ (up_app (hk1 _ _ h1)) (hoff (hk1 _ _ h1) (fun e => h2 (by simp [e])))
   ·rw [List.getElem?_set_ne (by omega)]; exact w1
   ·rw [List.getElem?_set_ne (by omega)]; exact w2
   ·rw [List.getElem?_set_ne (by omega), hnd]; exact w3
  ·rcases hv with q | q | q
   case' inl =>
    obtain ⟨lo, hlo⟩ : ∃ lo : Int, lo = 2 := ⟨_, rfl⟩
    obtain ⟨gl, hgl⟩ : ∃ gl : Int, gl = 3 := ⟨_, rfl⟩
    obtain ⟨sc', hsc'⟩ : ∃ sc' : List (List ByteArray), sc' = sc := ⟨_, rfl⟩
    have hvar : nodeN c x sc = varN c sc' x.name lo gl := by unfold nodeN; simp [q, hlo, hgl, hsc']
    have hsc : scIn x sc = sc := if_neg (by omega)
    have u3' : U[S.length + 3]? = some (some (nodeOb gl 0 0 (.sl 1 (intC (ats x.l (c.nodes.length + 1)))))) := by rw [u3, q, hgl]; rfl
    have hUU : U.set (S.length + 3) (some (nodeOb gl 0 0 (.sl 1 (intC (ats x.l (c.nodes.length + 1)))))) = U := set_same' u3'
    have c3' := u3'
    rw [hgl] at c3'
    simp only [nodeOb] at c3'
    have c1x := c1
    rw [q] at c1x
    repeat (first | (apply fw; (with_reducible constructor) <;> rfl) | (apply WpA.cd; constructor) | ((first | with_reducible refine WpA.go _ rfl fun Y y => ?_ | apply RunTo.id); simp only [zb, seval, w30, c1x]; refine RunTo.fn y (by first | (simp; done) | omega | (simp; omega)) ?_; clear y Y))
    refine WpA.viaB (fun st' => ∃ (o a b : Int), ((∃ ua ub : Nat, o = lo ∧ a = ua ∧ b = ub ∧ placeN x.name sc'.reverse = some (ua, ub)) ∨ (o = gl ∧ a = 0 ∧ b = 0 ∧ placeN x.name sc'.reverse = none)) ∧ st' = ⟨[(3, .one (.ptr S.length 1 0 0)), (4, .one (.ptr (S.length + 1) 1 0 0)), (6, .one (.ptr (S.length + 2) 1 0 0)), (7, .one (.ptr (S.length + 3) 1 0 0)), (2, .one (scP sc.reverse))], U.set (S.length + 3) (some (nodeOb o a b (.sl 1 (intC (ats x.l (c.nodes.length + 1))))))⟩) ?_ ?_
    focus
     have hr1 : IntKind.i64.wrap 1 = 1 := by decide
     have hr2 : IntKind.i64.wrap 2 = 2 := by decide
     have hr4 : IntKind.i64.wrap 4 = 4 := by decide
     have n3 : ∀ z : Option Ob, (U.set (S.length + 3) z)[S.length + 3]? = some z := fun z => List.getElem?_set_self hlU
     have n1 : ∀ z : Option Ob, (U.set (S.length + 3) z)[S.length + 1]? = _ := fun z => (List.getElem?_set_ne (by omega)).trans c1x
     refine WpA.loop (fun n st => ∃ o, n = sc.reverse.length - o ∧ o ≤ sc.reverse.length ∧ placeN x.name sc.reverse = (placeN x.name (sc.reverse.drop o)).map (fun p => (p.1 + o, p.2)) ∧ st = ⟨[(12, .one (scP (sc.reverse.drop o))), (11, .one (.v (.int .i64 (o : Nat)))), (3, .one (.ptr S.length 1 0 0)), (4, .one (.ptr (S.length + 1) 1 0 0)), (6, .one (.ptr (S.length + 2) 1 0 0)), (7, .one (.ptr (S.length + 3) 1 0 0)), (2, .one (scP sc.reverse))], U⟩) sc.reverse.length (st0 := ⟨[(12, .one (scP sc.reverse)), (11, .one (.v (.int .i64 (0 : Nat)))), (3, .one (.ptr S.length 1 0 0)), (4, .one (.ptr (S.length + 1) 1 0 0)), (6, .one (.ptr (S.length + 2) 1 0 0)), (7, .one (.ptr (S.length + 3) 1 0 0)), (2, .one (scP sc.reverse))], U⟩) (Le.sub (by simp [Sub, find])) ⟨0, rfl, Nat.zero_le _, by simp, rfl⟩ ?_
     rintro n' st ⟨o, rfl, ho, hpl, rfl⟩
     cases hdr : sc.reverse.drop o with
     | nil =>
      rw [hdr] at hpl
      simp only [scP]
      repeat (first | (apply fw; (with_reducible constructor) <;> rfl) | (apply WpA.cd; constructor) | ((first | with_reducible refine WpA.go _ rfl fun Y y => ?_ | apply RunTo.id); simp only [zb, seval, w30, c1x]; refine RunTo.fn y (by first | (simp; done) | omega | (simp; omega)) ?_; clear y Y))
      refine ⟨⟨_, _⟩, ?_, gl, 0, 0, .inr ⟨rfl, rfl, rfl, by rw [hsc', hpl]; rfl⟩, rfl⟩
      rw [hUU]
      exact Le.sub (by simp [Sub, find])
     | cons l r' =>
      have hlm : l ∈ sc := by
       have : l ∈ sc.reverse.drop o := by rw [hdr]; simp
       exact List.mem_reverse.1 (List.mem_of_mem_drop this)
      have hix := rindex_pure l x.name (by have := hll l hlm; omega)
      have hlo' : o < sc.reverse.length := by
       refine Nat.lt_of_not_le fun h => ?_
       rw [List.drop_of_length_le h] at hdr; cases hdr
      have hw2 : IntKind.i64.wrap ((o : Int) + 1) = ((o + 1 : Nat) : Int) := by rw [List.length_reverse] at hlo'; rw [wrap64 (by omega) (by omega)]; omega
      have hdr2 : sc.reverse.drop (o + 1) = r' := by rw [← List.drop_drop, hdr]; rfl
      simp only [scP]
      repeat (first | (apply fw; (with_reducible constructor) <;> rfl) | (apply WpA.cd; constructor) | ((first | with_reducible refine WpA.go _ rfl fun Y y => ?_ | apply RunTo.id); simp only [zb, seval, w30, c1x]; refine RunTo.fn y (by first | (simp; done) | omega | (simp; omega)) ?_; clear y Y))
      (refine WpA.draw0 6 _ _ _ rfl rfl rfl (by kernel_rfl) (by kernel_rfl) (by kernel_rfl) fun K8 hK8 => ?_); simp only [zz] at hK8 ⊢; (refine Draw0.go fun K7 hK7 => ?_); simp only [zb, seval, w30, c1x]; (refine RunQ.mk (by first | (simp; done) | omega | (simp; omega)) (hK7 _ _ ?_)); clear hK7 K7; (try ((refine Draw0.nil (hK8 _ ?_)); clear hK8 K8; (refine WpL.go _ rfl fun Y y => ?_); repeat (first | (apply fw; (with_reducible constructor) <;> rfl) | (apply WpA.cd; constructor) | ((first | with_reducible refine WpA.go _ rfl fun Y y => ?_ | apply RunTo.id); simp only [zb, seval, w30, c1x]; refine RunTo.fn y (by first | (simp; done) | omega | (simp; omega)) ?_; clear y Y))))
      refine WpL.call rfl (guardA_sound (P := Tryd.prog) rfl) (CallA.shut rfl rfl (by kernel_rfl) (ALes.refl _) (by first | rfl | simp [shuts, A.shut, C.shut]) (hix) ?_)
      cases hpo : posn l x.name with
      | some k =>
       have hik : idx l x.name = k := by unfold idx; rw [hpo]
       have hge : decide ((0 : Int) ≤ (k : Int)) = true := by simp
       rw [hik]
       (refine WpL.go _ rfl fun Y y => ?_); repeat (first | (apply fw; (with_reducible constructor) <;> rfl) | (apply WpA.cd; constructor) | ((first | with_reducible refine WpA.go _ rfl fun Y y => ?_ | apply RunTo.id); simp only [zb, seval, w30, c1x, c3', n1, n3, hge, hr1, hr2, hr4, List.set_set]; refine RunTo.fn y (by first | (simp; done) | omega | (simp; omega)) ?_; clear y Y))
       refine ⟨⟨_, _⟩, ?_, lo, o, k, .inl ⟨o, k, rfl, rfl, rfl, by rw [hsc', hpl, hdr, placeN_here hpo]; simp⟩, rfl⟩
       rw [hlo]
       simp only [nodeOb]
       refine Le.sub ?_
       simp [Sub, find]
      | none =>
       have hik : idx l x.name = -1 := by unfold idx; rw [hpo]
       have hge : decide ((0 : Int) ≤ (-1 : Int)) = false := by decide
       rw [hik]
       (refine WpL.go _ rfl fun Y y => ?_); repeat (first | (apply fw; (with_reducible constructor) <;> rfl) | (apply WpA.cd; constructor) | ((first | with_reducible refine WpA.go _ rfl fun Y y => ?_ | apply RunTo.id); simp only [zb, seval, w30, c1x, hge, hw2]; refine RunTo.fn y (by first | (simp; done) | omega | (simp; omega)) ?_; clear y Y))
       refine ⟨sc.reverse.length - (o + 1), ⟨[(12, .one (scP (sc.reverse.drop (o + 1)))), (11, .one (.v (.int .i64 ((o + 1 : Nat) : Int)))), (3, .one (.ptr S.length 1 0 0)), (4, .one (.ptr (S.length + 1) 1 0 0)), (6, .one (.ptr (S.length + 2) 1 0 0)), (7, .one (.ptr (S.length + 3) 1 0 0)), (2, .one (scP sc.reverse))], U⟩, by omega, ?_, o + 1, rfl, hlo', ?_, rfl⟩
       ·rw [hdr2]
        exact Le.sub (by simp [Sub, find])
       ·rw [hpl, hdr, placeN_step hpo, hdr2, Option.map_map]
        congr 1
        funext p
        simp only [Function.comp]
        rw [show p.1 + 1 + o = p.1 + (o + 1) by omega]
    rintro _ ⟨o, a, b, ⟨ua, ub, e1, e2, e3, hpl⟩ | ⟨e1, e2, e3, hpl⟩, rfl⟩
    all_goals rw [e1, e2, e3]
    all_goals clear e1 e2 e3 o a b
    focus
     have hnd : nodeN c x sc = ((lo, (ua : Int), (ub : Int)), c) := by rw [hvar]; unfold varN; rw [hpl]
     obtain ⟨U1, hU1, v0, v1, v2, v3, hI1, hk1⟩ := setN lo ua ub
     rw [← hU1]
     have d3 := v3
     rw [hlo] at d3
     simp only [nodeOb] at d3
     repeat (first | (apply fw; (with_reducible constructor) <;> rfl) | (apply WpA.cd; constructor) | ((first | with_reducible refine WpA.go _ rfl fun Y y => ?_ | apply RunTo.id); simp only [zb, seval, w30, d3]; refine RunTo.fn y (by first | (simp; done) | omega | (simp; omega)) ?_; clear y Y))
     refine ⟨⟨_, U1⟩, ?_, U1, cC, cG, cP, by rw [hnd]; exact hI1, Frt.stay hk1, v0.trans u0, v1.trans u1, v2.trans u2, by rw [hnd]; exact v3, rfl⟩
     rw [hsc]
     exact Le.sub (by simp [Sub, find])
    have hnd : nodeN c x sc = ((gl, numN c.globals x.name, 0), { c with globals := addN c.globals x.name }) := by rw [hvar]; unfold varN; rw [hpl]
    rw [hUU]
    repeat (first | (apply fw; (with_reducible constructor) <;> rfl) | (apply WpA.cd; constructor))
    ((with_reducible refine WpA.go _ rfl fun Y y => ?_); simp only [zb, seval, w30, c3']; (refine RunTo.fn y (by first | (simp; done) | omega | (simp; omega)) ?_); clear y Y); repeat (first | (apply fw; (with_reducible constructor) <;> rfl) | (apply WpA.cd; constructor))
   case' inr.inl =>
    obtain ⟨lo, hlo⟩ : ∃ lo : Int, lo = 4 := ⟨_, rfl⟩
    obtain ⟨gl, hgl⟩ : ∃ gl : Int, gl = 5 := ⟨_, rfl⟩
    obtain ⟨sc', hsc'⟩ : ∃ sc' : List (List ByteArray), sc' = sc := ⟨_, rfl⟩
    have hvar : nodeN c x sc = varN c sc' x.name lo gl := by unfold nodeN; simp [q, hlo, hgl, hsc']
    have hsc : scIn x sc = sc := if_neg (by omega)
    have u3' : U[S.length + 3]? = some (some (nodeOb gl 0 0 (.sl 1 (intC (ats x.l (c.nodes.length + 1)))))) := by rw [u3, q, hgl]; rfl
    have hUU : U.set (S.length + 3) (some (nodeOb gl 0 0 (.sl 1 (intC (ats x.l (c.nodes.length + 1)))))) = U := set_same' u3'
    have c3' := u3'
    rw [hgl] at c3'
    simp only [nodeOb] at c3'
    have c1x := c1
    rw [q] at c1x
    repeat (first | (apply fw; (with_reducible constructor) <;> rfl) | (apply WpA.cd; constructor) | ((first | with_reducible refine WpA.go _ rfl fun Y y => ?_ | apply RunTo.id); simp only [zb, seval, w30, c1x]; refine RunTo.fn y (by first | (simp; done) | omega | (simp; omega)) ?_; clear y Y))
    refine WpA.viaB (fun st' => ∃ (o a b : Int), ((∃ ua ub : Nat, o = lo ∧ a = ua ∧ b = ub ∧ placeN x.name sc'.reverse = some (ua, ub)) ∨ (o = gl ∧ a = 0 ∧ b = 0 ∧ placeN x.name sc'.reverse = none)) ∧ st' = ⟨[(3, .one (.ptr S.length 1 0 0)), (4, .one (.ptr (S.length + 1) 1 0 0)), (6, .one (.ptr (S.length + 2) 1 0 0)), (7, .one (.ptr (S.length + 3) 1 0 0)), (2, .one (scP sc.reverse))], U.set (S.length + 3) (some (nodeOb o a b (.sl 1 (intC (ats x.l (c.nodes.length + 1))))))⟩) ?_ ?_
    focus
     have hr1 : IntKind.i64.wrap 1 = 1 := by decide
     have hr2 : IntKind.i64.wrap 2 = 2 := by decide
     have hr4 : IntKind.i64.wrap 4 = 4 := by decide
     have n3 : ∀ z : Option Ob, (U.set (S.length + 3) z)[S.length + 3]? = some z := fun z => List.getElem?_set_self hlU
     have n1 : ∀ z : Option Ob, (U.set (S.length + 3) z)[S.length + 1]? = _ := fun z => (List.getElem?_set_ne (by omega)).trans c1x
     refine WpA.loop (fun n st => ∃ o, n = sc.reverse.length - o ∧ o ≤ sc.reverse.length ∧ placeN x.name sc.reverse = (placeN x.name (sc.reverse.drop o)).map (fun p => (p.1 + o, p.2)) ∧ st = ⟨[(12, .one (scP (sc.reverse.drop o))), (11, .one (.v (.int .i64 (o : Nat)))), (3, .one (.ptr S.length 1 0 0)), (4, .one (.ptr (S.length + 1) 1 0 0)), (6, .one (.ptr (S.length + 2) 1 0 0)), (7, .one (.ptr (S.length + 3) 1 0 0)), (2, .one (scP sc.reverse))], U⟩) sc.reverse.length (st0 := ⟨[(12, .one (scP sc.reverse)), (11, .one (.v (.int .i64 (0 : Nat)))), (3, .one (.ptr S.length 1 0 0)), (4, .one (.ptr (S.length + 1) 1 0 0)), (6, .one (.ptr (S.length + 2) 1 0 0)), (7, .one (.ptr (S.length + 3) 1 0 0)), (2, .one (scP sc.reverse))], U⟩) (Le.sub (by simp [Sub, find])) ⟨0, rfl, Nat.zero_le _, by simp, rfl⟩ ?_
     rintro n' st ⟨o, rfl, ho, hpl, rfl⟩
     cases hdr : sc.reverse.drop o with
     | nil =>
      rw [hdr] at hpl
      simp only [scP]
      repeat (first | (apply fw; (with_reducible constructor) <;> rfl) | (apply WpA.cd; constructor) | ((first | with_reducible refine WpA.go _ rfl fun Y y => ?_ | apply RunTo.id); simp only [zb, seval, w30, c1x]; refine RunTo.fn y (by first | (simp; done) | omega | (simp; omega)) ?_; clear y Y))
      refine ⟨⟨_, _⟩, ?_, gl, 0, 0, .inr ⟨rfl, rfl, rfl, by rw [hsc', hpl]; rfl⟩, rfl⟩
      rw [hUU]
      exact Le.sub (by simp [Sub, find])
     | cons l r' =>
      have hlm : l ∈ sc := by
       have : l ∈ sc.reverse.drop o := by rw [hdr]; simp
       exact List.mem_reverse.1 (List.mem_of_mem_drop this)
      have hix := rindex_pure l x.name (by have := hll l hlm; omega)
      have hlo' : o < sc.reverse.length := by
       refine Nat.lt_of_not_le fun h => ?_
       rw [List.drop_of_length_le h] at hdr; cases hdr
      have hw2 : IntKind.i64.wrap ((o : Int) + 1) = ((o + 1 : Nat) : Int) := by rw [List.length_reverse] at hlo'; rw [wrap64 (by omega) (by omega)]; omega
      have hdr2 : sc.reverse.drop (o + 1) = r' := by rw [← List.drop_drop, hdr]; rfl
      simp only [scP]
      repeat (first | (apply fw; (with_reducible constructor) <;> rfl) | (apply WpA.cd; constructor) | ((first | with_reducible refine WpA.go _ rfl fun Y y => ?_ | apply RunTo.id); simp only [zb, seval, w30, c1x]; refine RunTo.fn y (by first | (simp; done) | omega | (simp; omega)) ?_; clear y Y))
      (refine WpA.draw0 6 _ _ _ rfl rfl rfl (by kernel_rfl) (by kernel_rfl) (by kernel_rfl) fun K8 hK8 => ?_); simp only [zz] at hK8 ⊢; (refine Draw0.go fun K7 hK7 => ?_); simp only [zb, seval, w30, c1x]; (refine RunQ.mk (by first | (simp; done) | omega | (simp; omega)) (hK7 _ _ ?_)); clear hK7 K7; (try ((refine Draw0.nil (hK8 _ ?_)); clear hK8 K8; (refine WpL.go _ rfl fun Y y => ?_); repeat (first | (apply fw; (with_reducible constructor) <;> rfl) | (apply WpA.cd; constructor) | ((first | with_reducible refine WpA.go _ rfl fun Y y => ?_ | apply RunTo.id); simp only [zb, seval, w30, c1x]; refine RunTo.fn y (by first | (simp; done) | omega | (simp; omega)) ?_; clear y Y))))
      refine WpL.call rfl (guardA_sound (P := Tryd.prog) rfl) (CallA.shut rfl rfl (by kernel_rfl) (ALes.refl _) (by first | rfl | simp [shuts, A.shut, C.shut]) (hix) ?_)
      cases hpo : posn l x.name with
      | some k =>
       have hik : idx l x.name = k := by unfold idx; rw [hpo]
       have hge : decide ((0 : Int) ≤ (k : Int)) = true := by simp
       rw [hik]
       (refine WpL.go _ rfl fun Y y => ?_); repeat (first | (apply fw; (with_reducible constructor) <;> rfl) | (apply WpA.cd; constructor) | ((first | with_reducible refine WpA.go _ rfl fun Y y => ?_ | apply RunTo.id); simp only [zb, seval, w30, c1x, c3', n1, n3, hge, hr1, hr2, hr4, List.set_set]; refine RunTo.fn y (by first | (simp; done) | omega | (simp; omega)) ?_; clear y Y))
       refine ⟨⟨_, _⟩, ?_, lo, o, k, .inl ⟨o, k, rfl, rfl, rfl, by rw [hsc', hpl, hdr, placeN_here hpo]; simp⟩, rfl⟩
       rw [hlo]
       simp only [nodeOb]
       refine Le.sub ?_
       simp [Sub, find]
      | none =>
       have hik : idx l x.name = -1 := by unfold idx; rw [hpo]
       have hge : decide ((0 : Int) ≤ (-1 : Int)) = false := by decide
       rw [hik]
       (refine WpL.go _ rfl fun Y y => ?_); repeat (first | (apply fw; (with_reducible constructor) <;> rfl) | (apply WpA.cd; constructor) | ((first | with_reducible refine WpA.go _ rfl fun Y y => ?_ | apply RunTo.id); simp only [zb, seval, w30, c1x, hge, hw2]; refine RunTo.fn y (by first | (simp; done) | omega | (simp; omega)) ?_; clear y Y))
       refine ⟨sc.reverse.length - (o + 1), ⟨[(12, .one (scP (sc.reverse.drop (o + 1)))), (11, .one (.v (.int .i64 ((o + 1 : Nat) : Int)))), (3, .one (.ptr S.length 1 0 0)), (4, .one (.ptr (S.length + 1) 1 0 0)), (6, .one (.ptr (S.length + 2) 1 0 0)), (7, .one (.ptr (S.length + 3) 1 0 0)), (2, .one (scP sc.reverse))], U⟩, by omega, ?_, o + 1, rfl, hlo', ?_, rfl⟩
       ·rw [hdr2]
        exact Le.sub (by simp [Sub, find])
       ·rw [hpl, hdr, placeN_step hpo, hdr2, Option.map_map]
        congr 1
        funext p
        simp only [Function.comp]
        rw [show p.1 + 1 + o = p.1 + (o + 1) by omega]
    rintro _ ⟨o, a, b, ⟨ua, ub, e1, e2, e3, hpl⟩ | ⟨e1, e2, e3, hpl⟩, rfl⟩
    all_goals rw [e1, e2, e3]
    all_goals clear e1 e2 e3 o a b
    focus
     have hnd : nodeN c x sc = ((lo, (ua : Int), (ub : Int)), c) := by rw [hvar]; unfold varN; rw [hpl]
     obtain ⟨U1, hU1, v0, v1, v2, v3, hI1, hk1⟩ := setN lo ua ub
     rw [← hU1]
     have d3 := v3
     rw [hlo] at d3
     simp only [nodeOb] at d3
     repeat (first | (apply fw; (with_reducible constructor) <;> rfl) | (apply WpA.cd; constructor) | ((first | with_reducible refine WpA.go _ rfl fun Y y => ?_ | apply RunTo.id); simp only [zb, seval, w30, d3]; refine RunTo.fn y (by first | (simp; done) | omega | (simp; omega)) ?_; clear y Y))
     refine ⟨⟨_, U1⟩, ?_, U1, cC, cG, cP, by rw [hnd]; exact hI1, Frt.stay hk1, v0.trans u0, v1.trans u1, v2.trans u2, by rw [hnd]; exact v3, rfl⟩
     rw [hsc]
     exact Le.sub (by simp [Sub, find])
    have hnd : nodeN c x sc = ((gl, numN c.globals x.name, 0), { c with globals := addN c.globals x.name }) := by rw [hvar]; unfold varN; rw [hpl]
    rw [hUU]
    repeat (first | (apply fw; (with_reducible constructor) <;> rfl) | (apply WpA.cd; constructor))
    ((with_reducible refine WpA.go _ rfl fun Y y => ?_); simp only [zb, seval, w30, c3']; (refine RunTo.fn y (by first | (simp; done) | omega | (simp; omega)) ?_); clear y Y); repeat (first | (apply fw; (with_reducible constructor) <;> rfl) | (apply WpA.cd; constructor))
   case' inr.inr =>
    obtain ⟨lo, hlo⟩ : ∃ lo : Int, lo = 0 := ⟨_, rfl⟩
    obtain ⟨gl, hgl⟩ : ∃ gl : Int, gl = 6 := ⟨_, rfl⟩
    obtain ⟨sc', hsc'⟩ : ∃ sc' : List (List ByteArray), sc' = [] := ⟨_, rfl⟩
    have hvar : nodeN c x sc = varN c sc' x.name lo gl := by unfold nodeN; simp [q, hlo, hgl, hsc']
    have hsc : scIn x sc = sc := if_neg (by omega)
    have u3' : U[S.length + 3]? = some (some (nodeOb gl 0 0 (.sl 1 (intC (ats x.l (c.nodes.length + 1)))))) := by rw [u3, q, hgl]; rfl
    have hUU : U.set (S.length + 3) (some (nodeOb gl 0 0 (.sl 1 (intC (ats x.l (c.nodes.length + 1)))))) = U := set_same' u3'
    have c3' := u3'
    rw [hgl] at c3'
    simp only [nodeOb] at c3'
    have c1x := c1
    rw [q] at c1x
    repeat (first | (apply fw; (with_reducible constructor) <;> rfl) | (apply WpA.cd; constructor) | ((first | with_reducible refine WpA.go _ rfl fun Y y => ?_ | apply RunTo.id); simp only [zb, seval, w30, c1x]; refine RunTo.fn y (by first | (simp; done) | omega | (simp; omega)) ?_; clear y Y))
    refine WpA.viaB (fun st' => ∃ (o a b : Int), ((∃ ua ub : Nat, o = lo ∧ a = ua ∧ b = ub ∧ placeN x.name sc'.reverse = some (ua, ub)) ∨ (o = gl ∧ a = 0 ∧ b = 0 ∧ placeN x.name sc'.reverse = none)) ∧ st' = ⟨[(3, .one (.ptr S.length 1 0 0)), (4, .one (.ptr (S.length + 1) 1 0 0)), (6, .one (.ptr (S.length + 2) 1 0 0)), (7, .one (.ptr (S.length + 3) 1 0 0)), (2, .one (scP sc.reverse))], U.set (S.length + 3) (some (nodeOb o a b (.sl 1 (intC (ats x.l (c.nodes.length + 1))))))⟩) ?_ ?_
    focus
     have hfin : ∀ e, Sub e [(3, .one (.ptr S.length 1 0 0)), (4, .one (.ptr (S.length + 1) 1 0 0)), (6, .one (.ptr (S.length + 2) 1 0 0)), (7, .one (.ptr (S.length + 3) 1 0 0)), (2, .one (scP sc.reverse))] → ∃ st', Le ⟨190, S.length⟩ ⟨e, U⟩ st' ∧ ∃ (o a b : Int), ((∃ ua ub : Nat, o = lo ∧ a = ua ∧ b = ub ∧ placeN x.name sc'.reverse = some (ua, ub)) ∨ (o = gl ∧ a = 0 ∧ b = 0 ∧ placeN x.name sc'.reverse = none)) ∧ st' = ⟨[(3, .one (.ptr S.length 1 0 0)), (4, .one (.ptr (S.length + 1) 1 0 0)), (6, .one (.ptr (S.length + 2) 1 0 0)), (7, .one (.ptr (S.length + 3) 1 0 0)), (2, .one (scP sc.reverse))], U.set (S.length + 3) (some (nodeOb o a b (.sl 1 (intC (ats x.l (c.nodes.length + 1))))))⟩ := fun e he => by
      refine ⟨⟨_, _⟩, ?_, gl, 0, 0, .inr ⟨rfl, rfl, rfl, by rw [hsc']; rfl⟩, rfl⟩
      rw [hUU]
      exact Le.sub he
     have hp : scP sc.reverse = .v (.pointer none) ∨ ∃ cs, scP sc.reverse = .pf cs := by
      cases sc.reverse with
      | nil => exact .inl rfl
      | cons l r => exact .inr ⟨_, rfl⟩
     generalize scP sc.reverse = pp at hp hfin ⊢
     refine WpA.loop (fun n st => st = ⟨[(12, .one (pp)), (11, .one (.v (.int .i64 (0 : Nat)))), (3, .one (.ptr S.length 1 0 0)), (4, .one (.ptr (S.length + 1) 1 0 0)), (6, .one (.ptr (S.length + 2) 1 0 0)), (7, .one (.ptr (S.length + 3) 1 0 0)), (2, .one (pp))], U⟩) 0 (st0 := ⟨[(12, .one (pp)), (11, .one (.v (.int .i64 (0 : Nat)))), (3, .one (.ptr S.length 1 0 0)), (4, .one (.ptr (S.length + 1) 1 0 0)), (6, .one (.ptr (S.length + 2) 1 0 0)), (7, .one (.ptr (S.length + 3) 1 0 0)), (2, .one (pp))], U⟩) (Le.sub (by simp [Sub, find])) rfl ?_
     rintro n' st rfl
     rcases hp with rfl | ⟨cs, rfl⟩
     ·repeat (first | (apply fw; (with_reducible constructor) <;> rfl) | (apply WpA.cd; constructor) | ((first | with_reducible refine WpA.go _ rfl fun Y y => ?_ | apply RunTo.id); simp only [zb, seval, w30, c1x]; refine RunTo.fn y (by first | (simp; done) | omega | (simp; omega)) ?_; clear y Y))
      exact hfin _ (by simp [Sub, find])
     ·repeat (first | (apply fw; (with_reducible constructor) <;> rfl) | (apply WpA.cd; constructor) | ((first | with_reducible refine WpA.go _ rfl fun Y y => ?_ | apply RunTo.id); simp only [zb, seval, w30, c1x]; refine RunTo.fn y (by first | (simp; done) | omega | (simp; omega)) ?_; clear y Y))
      exact hfin _ (by simp [Sub, find])
    rintro _ ⟨o, a, b, ⟨ua, ub, e1, e2, e3, hpl⟩ | ⟨e1, e2, e3, hpl⟩, rfl⟩
    all_goals rw [e1, e2, e3]
    all_goals clear e1 e2 e3 o a b
    focus
     have hnd : nodeN c x sc = ((lo, (ua : Int), (ub : Int)), c) := by rw [hvar]; unfold varN; rw [hpl]
     obtain ⟨U1, hU1, v0, v1, v2, v3, hI1, hk1⟩ := setN lo ua ub
     rw [← hU1]
     have d3 := v3
     rw [hlo] at d3
     simp only [nodeOb] at d3
     repeat (first | (apply fw; (with_reducible constructor) <;> rfl) | (apply WpA.cd; constructor) | ((first | with_reducible refine WpA.go _ rfl fun Y y => ?_ | apply RunTo.id); simp only [zb, seval, w30, d3]; refine RunTo.fn y (by first | (simp; done) | omega | (simp; omega)) ?_; clear y Y))
     refine ⟨⟨_, U1⟩, ?_, U1, cC, cG, cP, by rw [hnd]; exact hI1, Frt.stay hk1, v0.trans u0, v1.trans u1, v2.trans u2, by rw [hnd]; exact v3, rfl⟩
     rw [hsc]
     exact Le.sub (by simp [Sub, find])
    have hnd : nodeN c x sc = ((gl, numN c.globals x.name, 0), { c with globals := addN c.globals x.name }) := by rw [hvar]; unfold varN; rw [hpl]
    rw [hUU]
    repeat (first | (apply fw; (with_reducible constructor) <;> rfl) | (apply WpA.cd; constructor))
    ((with_reducible refine WpA.go _ rfl fun Y y => ?_); simp only [zb, seval, w30, c3']; (refine RunTo.fn y (by first | (simp; done) | omega | (simp; omega)) ?_); clear y Y); repeat (first | (apply fw; (with_reducible constructor) <;> rfl) | (apply WpA.cd; constructor))
   all_goals
    have hpl0 : c.globals.length ≤ 1000000000 := by unfold Cd.most at hm; omega
    have hix := rindex_pure c.globals x.name (by omega)
    refine WpA.viaS (fun st' => ∃ (V : List (Option Ob)) (cZ : C), CdIn V { c with globals := addN c.globals x.name } cN cC cZ cP cT ∧ V[S.length]? = some (some (codeOb cN cC cZ cP cT)) ∧ V[S.length + 1]? = some (some (coreOb x)) ∧ V[S.length + 2]? = some (some zeroCode) ∧ V[S.length + 3]? = some (some (nodeOb gl 0 0 (.sl 1 (intC (ats x.l (c.nodes.length + 1)))))) ∧ Frt [9, 31, 55] S V ∧ st' = ⟨[(3, .one (.ptr S.length 1 0 0)), (4, .one (.ptr (S.length + 1) 1 0 0)), (6, .one (.ptr (S.length + 2) 1 0 0)), (7, .one (.ptr (S.length + 3) 1 0 0)), (2, .one (scP sc.reverse))], V⟩) ?_ ?_
    ·repeat (first | (apply fw; (with_reducible constructor) <;> rfl) | (apply WpA.cd; constructor))
     refine WpA.region ?_
     (try simp only [St.put]); (refine WpL.op rfl (guardA_sound (P := Tryd.prog) rfl) (aop_sound (by simp only [zb, seval, w30, c0, c1]; rfl) (by first | (simp; done) | omega | (simp; omega))) ?_); simp only [St.put]; (refine WpL.op rfl (guardA_sound (P := Tryd.prog) rfl) (aop_sound (by simp only [zb, seval, w30, c0, c1]; rfl) (by first | (simp; done) | omega | (simp; omega))) ?_); simp only [St.put]; (refine WpL.op rfl (guardA_sound (P := Tryd.prog) rfl) (aop_sound (by simp only [zb, seval, w30, c0, c1]; rfl) (by first | (simp; done) | omega | (simp; omega))) ?_); simp only [St.put]; (refine WpL.op rfl (guardA_sound (P := Tryd.prog) rfl) (aop_sound (by simp only [zb, seval, w30, c0, c1]; rfl) (by first | (simp; done) | omega | (simp; omega))) ?_); simp only [St.put]
     refine WpL.call rfl (guardA_sound (P := Tryd.prog) rfl) (CallA.lendV rfl rfl (by kernel_rfl) (idx_vw hIU.2.2.1 _) rfl hix ?_)
     by_cases hlt : idx c.globals x.name < 0
     ·have hdd : decide (idx c.globals x.name < 0) = true := by simpa using hlt
      ((refine WpL.go _ rfl fun Y y => ?_); simp only [zb, seval, w30, hdd]; (refine RunTo.fn y (by first | (simp; done) | omega | (simp; omega)) ?_); clear y Y); repeat (first | (apply fw; (with_reducible constructor) <;> rfl) | (apply WpA.cd; constructor))
      refine WpA.region ?_
      (try simp only [St.put]); (refine WpL.op rfl (guardA_sound (P := Tryd.prog) rfl) (aop_sound (by simp only [zb, seval, w30, c0, c1]; rfl) (by first | (simp; done) | omega | (simp; omega))) ?_); simp only [St.put]; (refine WpL.op rfl (guardA_sound (P := Tryd.prog) rfl) (aop_sound (by simp only [zb, seval, w30, c0, c1]; rfl) (by first | (simp; done) | omega | (simp; omega))) ?_); simp only [St.put]; (refine WpL.op rfl (guardA_sound (P := Tryd.prog) rfl) (aop_sound (by simp only [zb, seval, w30, c0, c1]; rfl) (by first | (simp; done) | omega | (simp; omega))) ?_); simp only [St.put]; (refine WpL.op rfl (guardA_sound (P := Tryd.prog) rfl) (aop_sound (by simp only [zb, seval, w30, c0, c1]; rfl) (by first | (simp; done) | omega | (simp; omega))) ?_); simp only [St.put]; (refine WpL.op rfl (guardA_sound (P := Tryd.prog) rfl) (aop_sound (by simp only [zb, seval, w30, c0, c1]; rfl) (by first | (simp; done) | omega | (simp; omega))) ?_); simp only [St.put]
      obtain ⟨S8, j8, hA8, hj8, hl8, hfr8, hpl8, hop8⟩ := append_op (P := Tryd.prog) (T := 25) (by_ := 16) elt_25 byt_25 zel_25 (by omega) (S := U ++ [some ⟨9, 1, [[.v (.string x.name)]]⟩]) (hIU.2.2.1.app _) (q := U.length) (new := [[.v (.string x.name)]]) (by simp) (by simp) (fun n e => by have := hIU.2.2.1.lt e; omega) (by rw [strC_len]; simp; omega) (by rw [strC_len]; simp; omega)
      have hrows : strC c.globals ++ [[.v (.string x.name)]] = strC (addN c.globals x.name) := by rw [idx_lt hlt, strC_app]; rfl
      rw [hrows] at hA8
      have hI8 := (hIU.app _).setG hA8 hfr8 (hpl8.imp (fun h => ⟨_, h⟩) id)
      have hoff : ∀ {j : Nat} {ob : Ob}, U[j]? = some (some ob) → ob.ty ≠ 9 → ∀ n, cG ≠ .ms j n := fun hj ht => hIU.2.2.1.apart hj ht
      have w0 := hfr8 _ _ (up_app u0) (hoff u0 (by show (39 : Nat) ≠ _; decide))
      have w1 := hfr8 _ _ (up_app u1) (hoff u1 (by show (33 : Nat) ≠ _; decide))
      have w2 := hfr8 _ _ (up_app u2) (hoff u2 (by show (39 : Nat) ≠ _; decide))
      have w3 := hfr8 _ _ (up_app u3') (hoff u3' (by show (55 : Nat) ≠ _; decide))
      have hl0 := (List.getElem?_eq_some_iff.1 w0).1
      have w0' := w0
      simp only [codeOb] at w0'
      simp only [List.length_cons, List.length_nil, Nat.zero_add, strC_len] at hop8 hA8 hI8
      refine WpL.aop rfl (hop8 _ _ _ rfl rfl) ?_
      simp only [St.put]
      ((refine WpL.go _ rfl fun Y y => ?_); simp only [zb, seval, w30, w0']; (refine RunTo.fn y (by first | (simp; done) | omega | (simp; omega)) ?_); clear y Y); repeat (first | (apply fw; (with_reducible constructor) <;> rfl) | (apply WpA.cd; constructor))
      refine ⟨⟨_, _⟩, ?_, S8.set S.length (some (codeOb cN cC (.ms j8 (c.globals.length + 1)) cP cT)), _, ?_, List.getElem?_set_self hl0, ?_, ?_, ?_, ⟨?_, fun j ob h1 h2 => ?_⟩, rfl⟩
      ·simp only [codeOb]
       refine Le.sub ?_
       simp [Sub, find]
      ·exact hI8.box w0 (by show (39 : Nat) ≠ _ ∧ (39 : Nat) ≠ _ ∧ (39 : Nat) ≠ _ ∧ (39 : Nat) ≠ _; decide)
      ·rw [List.getElem?_set_ne (by omega)]; exact w1
      ·rw [List.getElem?_set_ne (by omega)]; exact w2
      ·rw [List.getElem?_set_ne (by omega)]; exact w3
      ·simp; omega
      ·have hj := (List.getElem?_eq_some_iff.1 h1).1
       rw [List.getElem?_set_ne (by omega)]
       exact hfr8 _ _ (up_app (hkU _ _ h1)) (hoff (hkU _ _ h1) (fun e => h2 (by simp [e])))
     ·have hdd : decide (idx c.globals x.name < 0) = false := by simpa using hlt
      ((refine WpL.go _ rfl fun Y y => ?_); simp only [zb, seval, w30, hdd]; (refine RunTo.fn y (by first | (simp; done) | omega | (simp; omega)) ?_); clear y Y); repeat (first | (apply fw; (with_reducible constructor) <;> rfl) | (apply WpA.cd; constructor))
      refine ⟨⟨_, U⟩, ?_, U, cG, by rw [idx_ge hlt]; exact hIU, u0, u1, u2, u3', hFU, rfl⟩
      exact Le.sub (by simp [Sub, find])
    rintro _ ⟨V, cZ, hIV, v0, v1, v2, v3, hFV, rfl⟩
    have hix := rindex_pure (addN c.globals x.name) x.name (by have := addN_len c.globals x.name; omega)
    rw [idx_num] at hix
    have d0 := v0
    have d1 := v1
    have d3 := v3
    simp only [codeOb] at d0
    simp only [coreOb] at d1
    simp only [nodeOb] at d3
    repeat (first | (apply fw; (with_reducible constructor) <;> rfl) | (apply WpA.cd; constructor))
    refine WpA.region ?_
    (try simp only [St.put]); (refine WpL.op rfl (guardA_sound (P := Tryd.prog) rfl) (aop_sound (by simp only [zb, seval, w30, d0, d1]; rfl) (by first | (simp; done) | omega | (simp; omega))) ?_); simp only [St.put]; (refine WpL.op rfl (guardA_sound (P := Tryd.prog) rfl) (aop_sound (by simp only [zb, seval, w30, d0, d1]; rfl) (by first | (simp; done) | omega | (simp; omega))) ?_); simp only [St.put]; (refine WpL.op rfl (guardA_sound (P := Tryd.prog) rfl) (aop_sound (by simp only [zb, seval, w30, d0, d1]; rfl) (by first | (simp; done) | omega | (simp; omega))) ?_); simp only [St.put]; (refine WpL.op rfl (guardA_sound (P := Tryd.prog) rfl) (aop_sound (by simp only [zb, seval, w30, d0, d1]; rfl) (by first | (simp; done) | omega | (simp; omega))) ?_); simp only [St.put]
    refine WpL.call rfl (guardA_sound (P := Tryd.prog) rfl) (CallA.lendV rfl rfl (by kernel_rfl) (idx_vw hIV.2.2.1 _) rfl hix ?_)
    have hl3 := (List.getElem?_eq_some_iff.1 v3).1
    ((refine WpL.go _ rfl fun Y y => ?_); simp only [zb, seval, w30, d3]; (refine RunTo.fn y (by first | (simp; done) | omega | (simp; omega)) ?_); clear y Y); repeat (first | (apply fw; (with_reducible constructor) <;> rfl) | (apply WpA.cd; constructor))
    refine ⟨⟨_, _⟩, ?_, V.set (S.length + 3) (some (nodeOb gl (numN c.globals x.name) 0 (.sl 1 (intC (ats x.l (c.nodes.length + 1)))))), cC, cZ, cP, ?_, ⟨?_, fun j ob h1 h2 => ?_⟩, ?_, ?_, ?_, ?_, rfl⟩
    ·rw [hsc]
     simp only [nodeOb]
     refine Le.sub ?_
     simp [Sub, find]
    ·rw [hnd]
     exact hIV.nodeSet (fun n e => by have := hI.1.lt e; omega) v3 rfl
    ·have := hFV.1; simp; omega
    ·have hj := (List.getElem?_eq_some_iff.1 h1).1
     rw [List.getElem?_set_ne (by omega)]
     exact hFV.2 _ _ h1 h2
    ·rw [List.getElem?_set_ne (by omega)]; exact v0
    ·rw [List.getElem?_set_ne (by omega)]; exact v1
    ·rw [List.getElem?_set_ne (by omega)]; exact v2
    ·rw [hnd]; exact List.getElem?_set_self hl3
  ·have hnd : nodeN c x sc = ((7, 0, 0), c) := by unfold nodeN; simp [q]
   have hsc : scIn x sc = sc := if_neg (by omega)
   rw [q] at c1
   repeat (first | (apply fw; (with_reducible constructor) <;> rfl) | (apply WpA.cd; constructor) | ((first | with_reducible refine WpA.go _ rfl fun Y y => ?_ | apply RunTo.id); simp only [zb, seval, w30, c1]; refine RunTo.fn y (by first | (simp; done) | omega | (simp; omega)) ?_; clear y Y))
   refine ⟨⟨_, U⟩, ?_, U, cC, cG, cP, by rw [hnd]; exact hIU, hFU, u0, u1, u2, by rw [hnd, u3, q]; rfl, rfl⟩
   rw [hsc]
   exact Le.sub (by simp [Sub, find])
  ·have hnd : nodeN c x sc = ((8, (x.params.length : Int), if x.rest = ⟨#[]⟩ then 0 else 1), c) := by unfold nodeN; simp [q]
   have hsc : scIn x sc = sc ++ [allN x] := if_pos q
   have hrv : (sc ++ [allN x]).reverse = allN x :: sc.reverse := by simp
   have hop1 : opOf x.k = 8 := by rw [q]; rfl
   have hpl := strC_len x.params
   have hnm := names_pure x (by have := hx.par; omega)
   rw [K.cc_eq] at hnm
   obtain ⟨U1, hU1, v0, v1, v2, v3, hI1, hk1⟩ := setN 8 x.params.length (if x.rest = ⟨#[]⟩ then 0 else 1)
   rw [hop1] at c3
   have c1x := c1
   rw [q] at c1x hnm
   have n3 : ∀ z : Option Ob, (U.set (S.length + 3) z)[S.length + 3]? = some z := fun z => List.getElem?_set_self hlU
   have n1 : ∀ z : Option Ob, (U.set (S.length + 3) z)[S.length + 1]? = _ := fun z => (List.getElem?_set_ne (by omega)).trans c1x
   have fin : ∀ (e : List (Nat × A)), find e 3 = some (.one (.ptr S.length 1 0 0)) → find e 4 = some (.one (.ptr (S.length + 1) 1 0 0)) → find e 6 = some (.one (.ptr (S.length + 2) 1 0 0)) → find e 7 = some (.one (.ptr (S.length + 3) 1 0 0)) → find e 2 = some (.one (.ptr U1.length 1 0 0)) →
     ∃ st', Le ⟨190, S.length⟩ ⟨e, U1 ++ [some ⟨82, 2, [[.sl 1 (strC (allN x)), scP sc.reverse]]⟩]⟩ st' ∧ RnF S c x sc cN cT st' := fun e h3 h4 h6 h7 h2 => by
    refine ⟨⟨[(3, .one (.ptr S.length 1 0 0)), (4, .one (.ptr (S.length + 1) 1 0 0)), (6, .one (.ptr (S.length + 2) 1 0 0)), (7, .one (.ptr (S.length + 3) 1 0 0)), (2, .one (scP (scIn x sc).reverse))], U1 ++ [none]⟩, ?_, U1 ++ [none], cC, cG, cP, by rw [hnd]; exact hI1.app _, Frt.stay fun j o h => up_app (hk1 j o h), up_app (v0.trans u0), up_app (v1.trans u1), up_app (v2.trans u2), by rw [hnd]; exact up_app v3, rfl⟩
    refine Le.freezeD _ (FrzD.last _ _) ?_
    simp only [SubD]
    refine ⟨⟨_, h3, AD.same _ _ _⟩, ⟨_, h4, AD.same _ _ _⟩, ⟨_, h6, AD.same _ _ _⟩, ⟨_, h7, AD.same _ _ _⟩, ⟨_, h2, ?_⟩, trivial⟩
    rw [hsc, hrv]
    exact FzD.ptr (by simp) (by simp; exact ⟨rfl, rfl⟩) (fun c hc => by simp only [List.mem_cons, List.not_mem_nil, or_false] at hc; rcases hc with rfl | rfl; exact rfl; exact scP_shut _)
   by_cases hr : x.rest = ⟨#[]⟩
   ·have e1 := eqB_pos hr
    rw [if_pos hr] at hU1
    simp only [nodeOb] at hU1
    repeat (first | (apply fw; (with_reducible constructor) <;> rfl) | (apply WpA.cd; constructor) | ((first | with_reducible refine WpA.go _ rfl fun Y y => ?_ | apply RunTo.id); simp only [zb, seval, w30, c1x, c3, hpl, strEq, e1, n1, n3]; refine RunTo.fn y (by first | (simp; done) | omega | (simp; omega)) ?_; clear y Y))
    rw [← hU1]
    refine WpL.call rfl (guardA_sound (P := Tryd.prog) rfl) (CallA.shut rfl rfl (by kernel_rfl) (ALes.refl _) (by first | rfl | simp [shuts, A.shut, C.shut]) (hnm) ?_)
    (refine WpL.go _ rfl fun Y y => ?_); repeat (first | (apply fw; (with_reducible constructor) <;> rfl) | (apply WpA.cd; constructor) | ((first | with_reducible refine WpA.go _ rfl fun Y y => ?_ | apply RunTo.id); simp only [zb, seval, w30]; refine RunTo.fn y (by first | (simp; done) | omega | (simp; omega)) ?_; clear y Y))
    exact fin _ (by simp [find]) (by simp [find]) (by simp [find]) (by simp [find]) (by simp [find])
   ·have e1 := eqB_neg hr
    rw [if_neg hr] at hU1
    simp only [nodeOb] at hU1
    repeat (first | (apply fw; (with_reducible constructor) <;> rfl) | (apply WpA.cd; constructor) | ((first | with_reducible refine WpA.go _ rfl fun Y y => ?_ | apply RunTo.id); simp only [zb, seval, w30, c1x, c3, hpl, strEq, e1, n1, n3, List.set_set]; refine RunTo.fn y (by first | (simp; done) | omega | (simp; omega)) ?_; clear y Y))
    rw [← hU1]
    refine WpL.call rfl (guardA_sound (P := Tryd.prog) rfl) (CallA.shut rfl rfl (by kernel_rfl) (ALes.refl _) (by first | rfl | simp [shuts, A.shut, C.shut]) (hnm) ?_)
    (refine WpL.go _ rfl fun Y y => ?_); repeat (first | (apply fw; (with_reducible constructor) <;> rfl) | (apply WpA.cd; constructor) | ((first | with_reducible refine WpA.go _ rfl fun Y y => ?_ | apply RunTo.id); simp only [zb, seval, w30]; refine RunTo.fn y (by first | (simp; done) | omega | (simp; omega)) ?_; clear y Y))
    exact fin _ (by simp [find]) (by simp [find]) (by simp [find]) (by simp [find]) (by simp [find])
  ·have hnd : nodeN c x sc = ((9, 0, 0), c) := by unfold nodeN; simp [q]
   have hsc : scIn x sc = sc := if_neg (by omega)
   rw [q] at c1
   repeat (first | (apply fw; (with_reducible constructor) <;> rfl) | (apply WpA.cd; constructor) | ((first | with_reducible refine WpA.go _ rfl fun Y y => ?_ | apply RunTo.id); simp only [zb, seval, w30, c1]; refine RunTo.fn y (by first | (simp; done) | omega | (simp; omega)) ?_; clear y Y))
   refine ⟨⟨_, U⟩, ?_, U, cC, cG, cP, by rw [hnd]; exact hIU, hFU, u0, u1, u2, by rw [hnd, u3, q]; rfl, rfl⟩
   rw [hsc]
   exact Le.sub (by simp [Sub, find])
  ·have hnd : nodeN c x sc = ((10, 0, 0), c) := by unfold nodeN; simp [q]
   have hsc : scIn x sc = sc := if_neg (by omega)
   rw [q] at c1
   repeat (first | (apply fw; (with_reducible constructor) <;> rfl) | (apply WpA.cd; constructor) | ((first | with_reducible refine WpA.go _ rfl fun Y y => ?_ | apply RunTo.id); simp only [zb, seval, w30, c1]; refine RunTo.fn y (by first | (simp; done) | omega | (simp; omega)) ?_; clear y Y))
   refine ⟨⟨_, U⟩, ?_, U, cC, cG, cP, by rw [hnd]; exact hIU, hFU, u0, u1, u2, by rw [hnd, u3, q]; rfl, rfl⟩
   rw [hsc]
   exact Le.sub (by simp [Sub, find])
  ·have hnd : nodeN c x sc = ((11, 0, 0), c) := by unfold nodeN; simp [q]
   have hsc : scIn x sc = sc := if_neg (by omega)
   rw [q] at c1
   repeat (first | (apply fw; (with_reducible constructor) <;> rfl) | (apply WpA.cd; constructor) | ((first | with_reducible refine WpA.go _ rfl fun Y y => ?_ | apply RunTo.id); simp only [zb, seval, w30, c1]; refine RunTo.fn y (by first | (simp; done) | omega | (simp; omega)) ?_; clear y Y))
   refine ⟨⟨_, U⟩, ?_, U, cC, cG, cP, by rw [hnd]; exact hIU, hFU, u0, u1, u2, by rw [hnd, u3, q]; rfl, rfl⟩
   rw [hsc]
   exact Le.sub (by simp [Sub, find])
  ·have hnd : nodeN c x sc = ((12, numN c.prims x.name, 0), { c with prims := addN c.prims x.name }) := by unfold nodeN; simp [q]
   have hsc : scIn x sc = sc := if_neg (by omega)
   have hop1 : opOf x.k = 12 := by rw [q]; rfl
   have u3' := u3
   rw [hop1] at u3' c3
   have c1x := c1
   rw [q] at c1x
   repeat (first | (apply fw; (with_reducible constructor) <;> rfl) | (apply WpA.cd; constructor) | ((first | with_reducible refine WpA.go _ rfl fun Y y => ?_ | apply RunTo.id); simp only [zb, seval, w30, c1x]; refine RunTo.fn y (by first | (simp; done) | omega | (simp; omega)) ?_; clear y Y))
   have hpl0 : c.prims.length ≤ 1000000000 := by unfold Cd.most at hm; omega
   have hix := rindex_pure c.prims x.name (by omega)
   refine WpA.viaS (fun st' => ∃ (V : List (Option Ob)) (cZ : C), CdIn V { c with prims := addN c.prims x.name } cN cC cG cZ cT ∧ V[S.length]? = some (some (codeOb cN cC cG cZ cT)) ∧ V[S.length + 1]? = some (some (coreOb x)) ∧ V[S.length + 2]? = some (some zeroCode) ∧ V[S.length + 3]? = some (some (nodeOb 12 0 0 (.sl 1 (intC (ats x.l (c.nodes.length + 1)))))) ∧ Frt [9, 31, 55] S V ∧ st' = ⟨[(3, .one (.ptr S.length 1 0 0)), (4, .one (.ptr (S.length + 1) 1 0 0)), (6, .one (.ptr (S.length + 2) 1 0 0)), (7, .one (.ptr (S.length + 3) 1 0 0)), (2, .one (scP sc.reverse))], V⟩) ?_ ?_
   ·repeat (first | (apply fw; (with_reducible constructor) <;> rfl) | (apply WpA.cd; constructor))
    refine WpA.region ?_
    (try simp only [St.put]); (refine WpL.op rfl (guardA_sound (P := Tryd.prog) rfl) (aop_sound (by simp only [zb, seval, w30, c0, c1]; rfl) (by first | (simp; done) | omega | (simp; omega))) ?_); simp only [St.put]; (refine WpL.op rfl (guardA_sound (P := Tryd.prog) rfl) (aop_sound (by simp only [zb, seval, w30, c0, c1]; rfl) (by first | (simp; done) | omega | (simp; omega))) ?_); simp only [St.put]; (refine WpL.op rfl (guardA_sound (P := Tryd.prog) rfl) (aop_sound (by simp only [zb, seval, w30, c0, c1]; rfl) (by first | (simp; done) | omega | (simp; omega))) ?_); simp only [St.put]; (refine WpL.op rfl (guardA_sound (P := Tryd.prog) rfl) (aop_sound (by simp only [zb, seval, w30, c0, c1]; rfl) (by first | (simp; done) | omega | (simp; omega))) ?_); simp only [St.put]
    refine WpL.call rfl (guardA_sound (P := Tryd.prog) rfl) (CallA.lendV rfl rfl (by kernel_rfl) (idx_vw hIU.2.2.2.1 _) rfl hix ?_)
    by_cases hlt : idx c.prims x.name < 0
    ·have hdd : decide (idx c.prims x.name < 0) = true := by simpa using hlt
     ((refine WpL.go _ rfl fun Y y => ?_); simp only [zb, seval, w30, hdd]; (refine RunTo.fn y (by first | (simp; done) | omega | (simp; omega)) ?_); clear y Y); repeat (first | (apply fw; (with_reducible constructor) <;> rfl) | (apply WpA.cd; constructor))
     refine WpA.region ?_
     (try simp only [St.put]); (refine WpL.op rfl (guardA_sound (P := Tryd.prog) rfl) (aop_sound (by simp only [zb, seval, w30, c0, c1]; rfl) (by first | (simp; done) | omega | (simp; omega))) ?_); simp only [St.put]; (refine WpL.op rfl (guardA_sound (P := Tryd.prog) rfl) (aop_sound (by simp only [zb, seval, w30, c0, c1]; rfl) (by first | (simp; done) | omega | (simp; omega))) ?_); simp only [St.put]; (refine WpL.op rfl (guardA_sound (P := Tryd.prog) rfl) (aop_sound (by simp only [zb, seval, w30, c0, c1]; rfl) (by first | (simp; done) | omega | (simp; omega))) ?_); simp only [St.put]; (refine WpL.op rfl (guardA_sound (P := Tryd.prog) rfl) (aop_sound (by simp only [zb, seval, w30, c0, c1]; rfl) (by first | (simp; done) | omega | (simp; omega))) ?_); simp only [St.put]; (refine WpL.op rfl (guardA_sound (P := Tryd.prog) rfl) (aop_sound (by simp only [zb, seval, w30, c0, c1]; rfl) (by first | (simp; done) | omega | (simp; omega))) ?_); simp only [St.put]
     obtain ⟨S8, j8, hA8, hj8, hl8, hfr8, hpl8, hop8⟩ := append_op (P := Tryd.prog) (T := 25) (by_ := 16) elt_25 byt_25 zel_25 (by omega) (S := U ++ [some ⟨9, 1, [[.v (.string x.name)]]⟩]) (hIU.2.2.2.1.app _) (q := U.length) (new := [[.v (.string x.name)]]) (by simp) (by simp) (fun n e => by have := hIU.2.2.2.1.lt e; omega) (by rw [strC_len]; simp; omega) (by rw [strC_len]; simp; omega)
     have hrows : strC c.prims ++ [[.v (.string x.name)]] = strC (addN c.prims x.name) := by rw [idx_lt hlt, strC_app]; rfl
     rw [hrows] at hA8
     have hI8 := (hIU.app _).setP hA8 hfr8 (hpl8.imp (fun h => ⟨_, h⟩) id)
     have hoff : ∀ {j : Nat} {ob : Ob}, U[j]? = some (some ob) → ob.ty ≠ 9 → ∀ n, cP ≠ .ms j n := fun hj ht => hIU.2.2.2.1.apart hj ht
     have w0 := hfr8 _ _ (up_app u0) (hoff u0 (by show (39 : Nat) ≠ _; decide))
     have w1 := hfr8 _ _ (up_app u1) (hoff u1 (by show (33 : Nat) ≠ _; decide))
     have w2 := hfr8 _ _ (up_app u2) (hoff u2 (by show (39 : Nat) ≠ _; decide))
     have w3 := hfr8 _ _ (up_app u3') (hoff u3' (by show (55 : Nat) ≠ _; decide))
     have hl0 := (List.getElem?_eq_some_iff.1 w0).1
     have w0' := w0
     simp only [codeOb] at w0'
     simp only [List.length_cons, List.length_nil, Nat.zero_add, strC_len] at hop8 hA8 hI8
     refine WpL.aop rfl (hop8 _ _ _ rfl rfl) ?_
     simp only [St.put]
     ((refine WpL.go _ rfl fun Y y => ?_); simp only [zb, seval, w30, w0']; (refine RunTo.fn y (by first | (simp; done) | omega | (simp; omega)) ?_); clear y Y); repeat (first | (apply fw; (with_reducible constructor) <;> rfl) | (apply WpA.cd; constructor))
     refine ⟨⟨_, _⟩, ?_, S8.set S.length (some (codeOb cN cC cG (.ms j8 (c.prims.length + 1)) cT)), _, ?_, List.getElem?_set_self hl0, ?_, ?_, ?_, ⟨?_, fun j ob h1 h2 => ?_⟩, rfl⟩
     ·simp only [codeOb]
      refine Le.sub ?_
      simp [Sub, find]
     ·exact hI8.box w0 (by show (39 : Nat) ≠ _ ∧ (39 : Nat) ≠ _ ∧ (39 : Nat) ≠ _ ∧ (39 : Nat) ≠ _; decide)
     ·rw [List.getElem?_set_ne (by omega)]; exact w1
     ·rw [List.getElem?_set_ne (by omega)]; exact w2
     ·rw [List.getElem?_set_ne (by omega)]; exact w3
     ·simp; omega
     ·have hj := (List.getElem?_eq_some_iff.1 h1).1
      rw [List.getElem?_set_ne (by omega)]
      exact hfr8 _ _ (up_app (hkU _ _ h1)) (hoff (hkU _ _ h1) (fun e => h2 (by simp [e])))
    ·have hdd : decide (idx c.prims x.name < 0) = false := by simpa using hlt
     ((refine WpL.go _ rfl fun Y y => ?_); simp only [zb, seval, w30, hdd]; (refine RunTo.fn y (by first | (simp; done) | omega | (simp; omega)) ?_); clear y Y); repeat (first | (apply fw; (with_reducible constructor) <;> rfl) | (apply WpA.cd; constructor))
     refine ⟨⟨_, U⟩, ?_, U, cP, by rw [idx_ge hlt]; exact hIU, u0, u1, u2, u3', hFU, rfl⟩
     exact Le.sub (by simp [Sub, find])
   rintro _ ⟨V, cZ, hIV, v0, v1, v2, v3, hFV, rfl⟩
   have hix := rindex_pure (addN c.prims x.name) x.name (by have := addN_len c.prims x.name; omega)
   rw [idx_num] at hix
   have d0 := v0
   have d1 := v1
   have d3 := v3
   simp only [codeOb] at d0
   simp only [coreOb] at d1
   simp only [nodeOb] at d3
   repeat (first | (apply fw; (with_reducible constructor) <;> rfl) | (apply WpA.cd; constructor))
   refine WpA.region ?_
   (try simp only [St.put]); (refine WpL.op rfl (guardA_sound (P := Tryd.prog) rfl) (aop_sound (by simp only [zb, seval, w30, d0, d1]; rfl) (by first | (simp; done) | omega | (simp; omega))) ?_); simp only [St.put]; (refine WpL.op rfl (guardA_sound (P := Tryd.prog) rfl) (aop_sound (by simp only [zb, seval, w30, d0, d1]; rfl) (by first | (simp; done) | omega | (simp; omega))) ?_); simp only [St.put]; (refine WpL.op rfl (guardA_sound (P := Tryd.prog) rfl) (aop_sound (by simp only [zb, seval, w30, d0, d1]; rfl) (by first | (simp; done) | omega | (simp; omega))) ?_); simp only [St.put]; (refine WpL.op rfl (guardA_sound (P := Tryd.prog) rfl) (aop_sound (by simp only [zb, seval, w30, d0, d1]; rfl) (by first | (simp; done) | omega | (simp; omega))) ?_); simp only [St.put]
   refine WpL.call rfl (guardA_sound (P := Tryd.prog) rfl) (CallA.lendV rfl rfl (by kernel_rfl) (idx_vw hIV.2.2.2.1 _) rfl hix ?_)
   have hl3 := (List.getElem?_eq_some_iff.1 v3).1
   ((refine WpL.go _ rfl fun Y y => ?_); simp only [zb, seval, w30, d3]; (refine RunTo.fn y (by first | (simp; done) | omega | (simp; omega)) ?_); clear y Y); repeat (first | (apply fw; (with_reducible constructor) <;> rfl) | (apply WpA.cd; constructor))
   refine ⟨⟨_, _⟩, ?_, V.set (S.length + 3) (some (nodeOb 12 (numN c.prims x.name) 0 (.sl 1 (intC (ats x.l (c.nodes.length + 1)))))), cC, cG, cZ, ?_, ⟨?_, fun j ob h1 h2 => ?_⟩, ?_, ?_, ?_, ?_, rfl⟩
   ·rw [hsc]
    simp only [nodeOb]
    refine Le.sub ?_
    simp [Sub, find]
   ·rw [hnd]
    exact hIV.nodeSet (fun n e => by have := hI.1.lt e; omega) v3 rfl
   ·have := hFV.1; simp; omega
   ·have hj := (List.getElem?_eq_some_iff.1 h1).1
    rw [List.getElem?_set_ne (by omega)]
    exact hFV.2 _ _ h1 h2
   ·rw [List.getElem?_set_ne (by omega)]; exact v0
   ·rw [List.getElem?_set_ne (by omega)]; exact v1
   ·rw [List.getElem?_set_ne (by omega)]; exact v2
   ·rw [hnd]; exact List.getElem?_set_self hl3
 clear u0 u1 u2 u3 hIU hFU hkU hlU U
 rintro _ ⟨U, cC, cG, cP, hI1, hF1, u0, u1, u2, u3, rfl⟩
 obtain ⟨hkN, hkT⟩ := nodeN_keeps c x sc
 have hpn := putN_step c x sc
 have hs0 := stepC_zero c x sc ⟨(nodeN c x sc).1.1, (nodeN c x sc).1.2.1, (nodeN c x sc).1.2.2, ats x.l (c.nodes.length + 1)⟩
 have hsuc := fun i h => stepC_succ c x sc ⟨(nodeN c x sc).1.1, (nodeN c x sc).1.2.1, (nodeN c x sc).1.2.2, ats x.l (c.nodes.length + 1)⟩ (i := i) h
 have hslen := stepC_len c x sc ⟨(nodeN c x sc).1.1, (nodeN c x sc).1.2.1, (nodeN c x sc).1.2.2, ats x.l (c.nodes.length + 1)⟩
 have hsmost := stepC_most c x sc ⟨(nodeN c x sc).1.1, (nodeN c x sc).1.2.1, (nodeN c x sc).1.2.2, ats x.l (c.nodes.length + 1)⟩
 obtain ⟨nd, hnd⟩ : ∃ nd : Nd, nd = ⟨(nodeN c x sc).1.1, (nodeN c x sc).1.2.1, (nodeN c x sc).1.2.2, ats x.l (c.nodes.length + 1)⟩ := ⟨_, rfl⟩
 rw [← hnd] at hpn hs0 hsuc hslen hsmost
 have c0 := u0
 have c1 := u1
 have c3 := u3
 simp only [codeOb] at c0
 simp only [nodeOb] at c3
 obtain ⟨S8, j8, hA8, hj8, hl8, hfr8, hpl8, hop8⟩ := append_op (P := Tryd.prog) (T := 36) (by_ := 48) elt_36 byt_36 zel_36 (by omega) (S := U ++ [some ⟨55, 4, [nd.row]⟩]) (hI1.1.app _) (q := U.length) (new := [nd.row]) (by simp) (by simp) (fun n e => by have := hI1.1.lt e; omega) (by rw [hkN]; simp; omega) (by rw [hkN]; simp; omega)
 have hrows : (nodeN c x sc).2.nodes.map Nd.row ++ [nd.row] = (c.nodes ++ [nd]).map Nd.row := by rw [hkN]; simp
 rw [hrows] at hA8
 have hI8 := (hI1.app _).setN' hA8 hfr8
 have hoff : ∀ {j : Nat} {ob : Ob}, U[j]? = some (some ob) → ob.ty ≠ 55 → ∀ n, cN ≠ .ms j n := fun hj ht => hI1.1.apart hj ht
 have w0 := hfr8 _ _ (up_app u0) (hoff u0 (by show (39 : Nat) ≠ _; decide))
 have w1 := hfr8 _ _ (up_app u1) (hoff u1 (by show (33 : Nat) ≠ _; decide))
 have w2 := hfr8 _ _ (up_app u2) (hoff u2 (by show (39 : Nat) ≠ _; decide))
 have hl0 := (List.getElem?_eq_some_iff.1 w0).1
 have w0' := w0
 have w1' := w1
 simp only [codeOb] at w0'
 simp only [coreOb] at w1'
 simp only [List.length_cons, List.length_nil, Nat.zero_add, List.length_map] at hop8 hA8 hI8
 have hrow : nd.row = [.v (.int .i64 (nodeN c x sc).1.1), .v (.int .i64 (nodeN c x sc).1.2.1), .v (.int .i64 (nodeN c x sc).1.2.2), .sl 1 (intC (ats x.l (c.nodes.length + 1)))] := by rw [hnd]; rfl
 rw [hrow] at hop8
 repeat (first | (apply fw; (with_reducible constructor) <;> rfl) | (apply WpA.cd; constructor))
 refine WpA.region ?_
 (try simp only [St.put]); (refine WpL.op rfl (guardA_sound (P := Tryd.prog) rfl) (aop_sound (by simp only [zb, seval, w30, c0, c3]; rfl) (by first | (simp; done) | omega | (simp; omega))) ?_); simp only [St.put]; (refine WpL.op rfl (guardA_sound (P := Tryd.prog) rfl) (aop_sound (by simp only [zb, seval, w30, c0, c3]; rfl) (by first | (simp; done) | omega | (simp; omega))) ?_); simp only [St.put]; (refine WpL.op rfl (guardA_sound (P := Tryd.prog) rfl) (aop_sound (by simp only [zb, seval, w30, c0, c3]; rfl) (by first | (simp; done) | omega | (simp; omega))) ?_); simp only [St.put]; (refine WpL.op rfl (guardA_sound (P := Tryd.prog) rfl) (aop_sound (by simp only [zb, seval, w30, c0, c3]; rfl) (by first | (simp; done) | omega | (simp; omega))) ?_); simp only [St.put]
 refine WpL.aop rfl (hop8 _ _ _ rfl rfl) ?_
 simp only [St.put]
 have e1 : ∀ z : Option Ob, (S8.set S.length z)[S.length + 1]? = _ := fun z => (List.getElem?_set_ne (by omega)).trans w1'
 (refine WpL.go _ rfl fun Y y => ?_); repeat (first | (apply fw; (with_reducible constructor) <;> rfl) | (apply WpA.cd; constructor) | ((first | with_reducible refine WpA.go _ rfl fun Y y => ?_ | apply RunTo.id); simp only [zb, seval, w30, w0']; refine RunTo.fn y (by first | (simp; done) | omega | (simp; omega)) ?_; clear y Y))
 have hF8 : Frt [9, 31, 55] S (S8.set S.length (some (codeOb (.ms j8 ((nodeN c x sc).2.nodes.length + 1)) cC cG cP cT))) := ⟨by have := hF1.1; simp at hl8 ⊢; omega, fun j ob h1 h2 => by
  have hj := (List.getElem?_eq_some_iff.1 h1).1
  have h3 := hF1.2 _ _ h1 h2
  rw [List.getElem?_set_ne (by omega)]
  exact hfr8 _ _ (up_app h3) (hoff h3 (fun e => h2 (by simp [e])))⟩
 have hI9 : CdIn (S8.set S.length (some (codeOb (.ms j8 ((nodeN c x sc).2.nodes.length + 1)) cC cG cP cT))) (stepC c x sc nd 0) (.ms j8 ((nodeN c x sc).2.nodes.length + 1)) cC cG cP cT := by
  have h9 := hI8.box (z := some (codeOb (.ms j8 ((nodeN c x sc).2.nodes.length + 1)) cC cG cP cT)) w0 (by show (39 : Nat) ≠ _ ∧ (39 : Nat) ≠ _ ∧ (39 : Nat) ≠ _ ∧ (39 : Nat) ≠ _; decide)
  rw [hs0]
  simp only [Cd.with, ← hkT]
  exact h9
 refine WpA.loop (RcI S c x sc nd cT) x.l.length (st0 := ⟨[(14, .one (.v (.int .i64 (0 : Nat)))), (3, .one (.ptr S.length 1 0 0)), (4, .one (.ptr (S.length + 1) 1 0 0)), (6, .one (.ptr (S.length + 2) 1 0 0)), (2, .one (scP (scIn x sc).reverse))], S8.set S.length (some (codeOb (.ms j8 ((nodeN c x sc).2.nodes.length + 1)) cC cG cP cT))⟩) (Le.sub (by simp [Sub, find])) ⟨0, _, _, _, _, _, rfl, Nat.zero_le _, hI9, List.getElem?_set_self hl0, by rw [List.getElem?_set_ne (by omega)]; exact w1, by rw [List.getElem?_set_ne (by omega)]; exact w2, hF8, rfl⟩ ?_
 clear hI9 hF8 w0 w1 w2 w0' w1' hI8 hA8 hfr8 hpl8 hop8 hj8 hl8 e1 c0 c1 c3 u0 u1 u2 u3 hI1 hF1 hrows hrow hoff hl0 hs0 S8 U
 intro n' st hst
 obtain ⟨i, V, dN, dC, dG, dP, rfl, hi, hIV, v0, v1, v2, hFV, rfl⟩ := hst
 have hw2 : IntKind.i64.wrap ((i : Int) + 1) = ((i + 1 : Nat) : Int) := by rw [wrap64 (by omega) (by omega)]; omega
 have d0 := v0
 have d1 := v1
 simp only [codeOb] at d0
 simp only [coreOb] at d1
 have hlV := (List.getElem?_eq_some_iff.1 v2).1
 by_cases hlt : i < x.l.length
 ·have hd1 : decide ((i : Int) < (x.l.length : Int)) = true := by simp; omega
  have hget := getK hlt
  have hht := K.ht_lt hlt
  have htl := K.sizes_take_lt hlt
  have hsl : (scIn x sc).length + x.l[i].ht ≤ 1000000000 := by
   unfold scIn
   split
   ·simp; omega
   ·omega
  have hsll : ∀ l ∈ scIn x sc, l.length ≤ 1000000000 := by
   by_cases h6 : x.k = 6
   ·rw [scIn, if_pos h6]
    intro l hl
    rcases List.mem_append.1 hl with h | h
    ·exact hll l h
    ·obtain rfl : l = allN x := by simpa using h
     have := allN_len x; have := hx.par; omega
   ·rw [scIn, if_neg h6]; exact hll
  have hput := ih x.l[i] (by omega) (hx.get i hlt) (hg.get i hlt) V (stepC c x sc nd i) (scIn x sc) dN dC dG dP cT hIV (by have := hsmost i; omega) (by rw [hslen]; omega) hsl hsll
  rw [K.cc_eq] at hget hput
  repeat (first | (apply fw; (with_reducible constructor) <;> rfl) | (apply WpA.cd; constructor))
  ((with_reducible refine WpA.go _ rfl fun Y y => ?_); simp only [zb, seval, w30, d1, hd1]; (refine RunTo.fn y (by first | (simp; done) | omega | (simp; omega)) ?_); clear y Y); repeat (first | (apply fw; (with_reducible constructor) <;> rfl) | (apply WpA.cd; constructor))
  (refine WpA.draw0 7 _ _ _ rfl rfl rfl (by kernel_rfl) (by kernel_rfl) (by kernel_rfl) fun K8 hK8 => ?_); simp only [zz] at hK8 ⊢; (refine Draw0.go fun K7 hK7 => ?_); simp only [zb, seval, w30, d0, d1, hget]; (refine RunQ.mk (by first | (simp; done) | omega | (simp; omega)) (hK7 _ _ ?_)); clear hK7 K7; (try ((refine Draw0.nil (hK8 _ ?_)); clear hK8 K8; (refine WpL.go _ rfl fun Y y => ?_); repeat (first | (apply fw; (with_reducible constructor) <;> rfl) | (apply WpA.cd; constructor) | ((first | with_reducible refine WpA.go _ rfl fun Y y => ?_ | apply RunTo.id); simp only [zb, seval, w30, d0, d1, hget]; refine RunTo.fn y (by first | (simp; done) | omega | (simp; omega)) ?_; clear y Y))))
  refine WpL.handAll rfl (guardA_sound (P := Tryd.prog) rfl) rfl rfl (by kernel_rfl) (ALes.refl _) hput ?_
  rintro _ V' ⟨fN, fC, fG, fP, rfl, hI', hF'⟩
  have g0 := hF'.2 _ _ v0 (by show (39 : Nat) ∉ _; decide)
  have g1 := hF'.2 _ _ v1 (by show (33 : Nat) ∉ _; decide)
  have g2 := hF'.2 _ _ v2 (by show (39 : Nat) ∉ _; decide)
  have hlg := (List.getElem?_eq_some_iff.1 g0).1
  have g0' := g0
  simp only [codeOb] at g0'
  (refine WpL.go _ rfl fun Y y => ?_); repeat (first | (apply fw; (with_reducible constructor) <;> rfl) | (apply WpA.cd; constructor) | ((first | with_reducible refine WpA.go _ rfl fun Y y => ?_ | apply RunTo.id); simp only [zb, seval, w30, g0', hw2]; refine RunTo.fn y (by first | (simp; done) | omega | (simp; omega)) ?_; clear y Y))
  refine ⟨x.l.length - (i + 1), _, by omega, Le.sub (by simp [Sub, find]), i + 1, V'.set S.length (some (codeOb fN fC fG fP cT)), fN, fC, fG, fP, rfl, hlt, ?_, List.getElem?_set_self hlg, by rw [List.getElem?_set_ne (by omega)]; exact g1, by rw [List.getElem?_set_ne (by omega)]; exact g2, ⟨?_, fun j ob h1 h2 => ?_⟩, rfl⟩
  ·have := hI'.box (z := some (codeOb fN fC fG fP cT)) g0 (by show (39 : Nat) ≠ _ ∧ (39 : Nat) ≠ _ ∧ (39 : Nat) ≠ _ ∧ (39 : Nat) ≠ _; decide)
   rw [hsuc i hlt] at this
   exact this
  ·have := hFV.1; have := hF'.1; simp; omega
  ·have hj := (List.getElem?_eq_some_iff.1 h1).1
   rw [List.getElem?_set_ne (by omega)]
   exact hF'.2 _ _ (hFV.2 _ _ h1 h2) h2
 ·have hd0 : decide ((i : Int) < (x.l.length : Int)) = false := by simp; omega
  have hii : i = x.l.length := by omega
  subst hii
  simp only [zeroCode, codeOb] at v2
  repeat (first | (apply fw; (with_reducible constructor) <;> rfl) | (apply WpA.cd; constructor) | ((first | with_reducible refine WpA.go _ rfl fun Y y => ?_ | apply RunTo.id); simp only [zb, seval, w30, d1, hd0, d0, v2]; refine RunTo.fn y (by first | (simp; done) | omega | (simp; omega)) ?_; clear y Y))
  repeat (first | (apply fw; (with_reducible constructor) <;> rfl) | (apply WpA.cd; constructor) | ((first | with_reducible refine WpA.go _ rfl fun Y y => ?_ | apply RunTo.id); simp only [zb, seval, w30, d1, hd0, d0, v2]; refine RunTo.fn y (by first | (simp; done) | omega | (simp; omega)) ?_; clear y Y))
  refine ⟨.inl rfl, _, _, _, _, (by simp only [zb, seval, List.getElem?_set_self hlV, w30]; rfl), by simp, Le.refl _ _, dN, dC, dG, dP, rfl, ?_, ?_, fun j ob h1 h2 => ?_⟩
  ·rw [hpn]
   exact hIV.box v2 (by show (39 : Nat) ≠ _ ∧ (39 : Nat) ≠ _ ∧ (39 : Nat) ≠ _ ∧ (39 : Nat) ≠ _; decide)
  ·have := hFV.1; simp; omega
  ·have hj := (List.getElem?_eq_some_iff.1 h1).1
   rw [List.getElem?_set_ne (by omega)]
   exact hFV.2 _ _ h1 h2
theorem rput_upto : ∀ n, RPutTo n
 | 0 => fun x h => absurd h (by have := x.ht_pos; omega)
 | n + 1 => rput_step n (rput_upto n)
end Go.Proofs.YtpacdmgnpadleaaDoor
end
