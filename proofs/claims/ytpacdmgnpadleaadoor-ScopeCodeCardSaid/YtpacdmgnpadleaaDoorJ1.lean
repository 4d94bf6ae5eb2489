/-
 Laid together: Ref4, Ref5, Ref6, Ref1, R2a, R2, R3.
-/
import Derived.Test.YtpacdmgnpadleaaDoorPlain3
import Derived.Test.YtpacdmgnpadleaaDoorCopy
import Derived.Test.YtpacdmgnpadleaaDoorNum
import Derived.Laws.BitsAllLaws
import Derived.Test.YtpacdmgnpadleaaDoorPlain4
import Derived.Test.YtpacdmgnpadleaaDoorKit
import Derived.Test.YtpacdmgnpadleaaDoorG3
import Derived.Test.YtpacdmgnpadleaaDoorSame3
section
namespace Go.Proofs.YtpacdmgnpadleaaDoor
set_option linter.unusedSimpArgs false
set_option linter.unusedVariables false
def bits32 (m : Int) : List Int := (List.range 32).map fun k => m / 2 ^ k % 2
def bitsL (l : List Int) : List Int := l.flatMap bits32
def packB : List Int → Int
 | [] => 0
 | b :: r => b + 2 * packB r
def packL (b : List Int) : List Int := if h : b = [] then [] else packB (b.take 32) :: packL (b.drop 32)
termination_by b.length
decreasing_by rw [List.length_drop]; have := List.length_pos_iff.2 h; omega
theorem bits32_length (m : Int) : (bits32 m).length = 32 := by simp [bits32]
theorem bitsL_length (l : List Int) : (bitsL l).length = 32 * l.length := by
 induction l with
 | nil => rfl
 | cons m l ih => simp only [bitsL, List.flatMap_cons, List.length_append, bits32_length, List.length_cons] at *; omega
theorem packB_append (a b : List Int) : packB (a ++ b) = packB a + 2 ^ a.length * packB b := by
 induction a with
 | nil => simp [packB]
 | cons x a ih =>
  simp only [List.cons_append, packB, ih, List.length_cons, Int.pow_succ]
  rw [Int.mul_add, Int.mul_comm (2 ^ a.length) 2, Int.mul_assoc]; omega
theorem packB_zeros (n : Nat) : packB (List.replicate n 0) = 0 := by
 induction n with
 | zero => rfl
 | succ n ih => rw [List.replicate_succ, packB, ih]; rfl
theorem packB_bits (m : Int) (hm : 0 ≤ m) : ∀ n : Nat, packB ((List.range n).map fun k => m / 2 ^ k % 2) = m % 2 ^ n
 | 0 => by simp [packB]
 | n + 1 => by
  rw [List.range_succ, List.map_append, packB_append, packB_bits m hm n]
  simp only [List.map_cons, List.map_nil, packB, List.length_map, List.length_range, Int.mul_zero, Int.add_zero]
  have h1 : (m : Int) % 2 ^ (n + 1) = m % 2 ^ n + 2 ^ n * (m / 2 ^ n % 2) := by
   obtain ⟨k, rfl⟩ := Int.eq_ofNat_of_zero_le hm
   rw [Int.pow_succ]
   have := Nat.mod_mul (x := k) (a := 2 ^ n) (b := 2)
   exact_mod_cast this
  rw [h1]
theorem packB_bits32 (m : Int) (h0 : 0 ≤ m) (h1 : m ≤ 4294967295) : packB (bits32 m) = m := by
 unfold bits32
 rw [packB_bits m h0 32]
 exact Int.emod_eq_of_lt h0 (by omega)
theorem dropWhile_append_ne {α : Type} (p : α → Bool) : ∀ (c a : List α), c.dropWhile p ≠ [] → (c ++ a).dropWhile p = c.dropWhile p ++ a
 | [], a, h => absurd rfl h
 | x :: c, a, h => by
  rw [List.cons_append, List.dropWhile_cons, List.dropWhile_cons] at *
  split
  ·rename_i hx; rw [if_pos hx] at h; exact dropWhile_append_ne p c a h
  ·rfl
theorem trimL_append_ne (a c : List Int) (h : trimL c ≠ []) : trimL (a ++ c) = a ++ trimL c := by
 unfold trimL at h ⊢
 rw [List.reverse_append, dropWhile_append_ne _ _ _ (fun e => h (by rw [e]; rfl)), List.reverse_append, List.reverse_reverse]
theorem trimL_zeros (a : List Int) : ∀ n : Nat, trimL (a ++ List.replicate n 0) = trimL a
 | 0 => by simp
 | n + 1 => by rw [List.replicate_succ', ← List.append_assoc, trimL_snoc_zero, trimL_zeros a n]
theorem trimL_split (l : List Int) : ∃ n, l = trimL l ++ List.replicate n 0 := by
 generalize hn : l.length = n
 induction n generalizing l with
 | zero => exact ⟨0, by have : l = [] := List.eq_nil_of_length_eq_zero hn; subst this; rfl⟩
 | succ n ih =>
  have hne : l ≠ [] := fun e => by subst e; simp at hn
  have e := List.dropLast_concat_getLast hne
  by_cases h0 : l.getLast hne = 0
  ·obtain ⟨m, hm⟩ := ih l.dropLast (by rw [List.length_dropLast, hn]; rfl)
   refine ⟨m + 1, ?_⟩
   rw [h0] at e
   rw [List.replicate_succ', ← List.append_assoc]
   conv => lhs; rw [← e]
   rw [show trimL l = trimL l.dropLast by conv => lhs; rw [← e, trimL_snoc_zero]]
   rw [← hm]
  ·refine ⟨0, ?_⟩
   rw [List.replicate_zero, List.append_nil]
   conv => lhs; rw [← e]
   rw [← trimL_snoc _ _ h0, e]
theorem packB_trim (c : List Int) : packB (trimL c) = packB c := by
 obtain ⟨n, hn⟩ := trimL_split c
 conv => rhs; rw [hn]
 rw [packB_append, packB_zeros]; simp
theorem packL_nil : packL [] = [] := by rw [packL]; simp
theorem packL_ne {b : List Int} (h : b ≠ []) : packL b = packB (b.take 32) :: packL (b.drop 32) := by rw [packL, dif_neg h]
theorem packL_bits (m : Int) (r : List Int) : packL (bits32 m ++ r) = packB (bits32 m) :: packL r := by
 have hl := bits32_length m
 rw [packL_ne (fun e => by have := congrArg List.length e; simp [hl] at this), List.take_left' hl, List.drop_left' hl]
theorem packL_small {b : List Int} (h : b ≠ []) (hl : b.length ≤ 32) : packL b = [packB b] := by
 rw [packL_ne h, List.take_of_length_le hl, List.drop_of_length_le hl, packL_nil]
def DigOk (l : List Int) : Prop := ∀ m ∈ l, 0 ≤ m ∧ m ≤ 4294967295
theorem packL_bitsL (l : List Int) (hl : DigOk l) (c : List Int) : packL (bitsL l ++ c) = l ++ packL c := by
 induction l with
 | nil => rfl
 | cons m l ih =>
  simp only [bitsL, List.flatMap_cons, List.append_assoc]
  rw [packL_bits, packB_bits32 m (hl m (by simp)).1 (hl m (by simp)).2]
  have := ih (fun x hx => hl x (by simp [hx]))
  simp only [bitsL] at this
  rw [this]; rfl
theorem bits32_zero : bits32 0 = List.replicate 32 0 := by decide
theorem bitsL_snoc (l : List Int) (m : Int) : bitsL (l ++ [m]) = bitsL l ++ bits32 m := by simp [bitsL]
theorem bits_ne {m : Int} (h0 : 0 ≤ m) (h1 : m ≤ 4294967295) (hm : m ≠ 0) : trimL (bits32 m) ≠ [] := fun e => by
 have := packB_trim (bits32 m)
 rw [e, packB_bits32 m h0 h1] at this
 exact hm this.symm
theorem packL_trim (l : List Int) (hl : DigOk l) : packL (trimL (bitsL l)) = trimL l := by
 generalize hn : l.length = n
 induction n generalizing l with
 | zero => have : l = [] := List.eq_nil_of_length_eq_zero hn; subst this; exact packL_nil
 | succ n ih =>
  have hne : l ≠ [] := fun e => by subst e; simp at hn
  have e := List.dropLast_concat_getLast hne
  have hd : DigOk l.dropLast := fun m hm => hl m (List.dropLast_subset _ hm)
  have hg := hl _ (List.getLast_mem hne)
  by_cases h0 : l.getLast hne = 0
  ·rw [h0] at e
   rw [← e, bitsL_snoc, bits32_zero, trimL_zeros, trimL_snoc_zero]
   exact ih l.dropLast hd (by rw [List.length_dropLast, hn]; rfl)
  ·have hb := bits_ne hg.1 hg.2 h0
   rw [← e, bitsL_snoc, trimL_append_ne _ _ hb, trimL_snoc _ _ h0, packL_bitsL _ hd]
   rw [packL_small hb (by have := trimL_length_le (bits32 (l.getLast hne)); rw [bits32_length] at this; exact this), packB_trim, packB_bits32 _ hg.1 hg.2]
theorem packL_length (b : List Int) : (packL b).length = (b.length + 31) / 32 := by
 generalize hn : b.length = n
 induction n using Nat.strongRecOn generalizing b with
 | _ n ih =>
  by_cases h : b = []
  ·subst h; rw [packL_nil]; simp at hn; subst hn; rfl
  ·have hp := List.length_pos_iff.2 h
   rw [packL_ne h, List.length_cons, ih (b.drop 32).length (by rw [List.length_drop]; omega) _ rfl, List.length_drop]
   omega
theorem packL_snoc (x : Int) (b : List Int) : packL (b ++ [x]) = if b.length % 32 = 0 then packL b ++ [x] else (packL b).set (b.length / 32) ((packL b).getD (b.length / 32) 0 + x * 2 ^ (b.length % 32)) := by
 generalize hn : b.length = n
 induction n using Nat.strongRecOn generalizing b with
 | _ n ih =>
  by_cases h : b = []
  ·subst h
   simp at hn; subst hn
   rw [packL_nil, List.nil_append, packL_small (by simp) (by simp)]
   simp [packB]
  ·have hp := List.length_pos_iff.2 h
   by_cases hs : n < 32
   ·rw [packL_small (by simp) (by simp; omega), packL_small h (by omega), packB_append, hn]
    rw [if_neg (by omega), Nat.div_eq_of_lt hs, Nat.mod_eq_of_lt hs]
    simp [packB, Int.mul_comm]
   ·rw [packL_ne (b := b ++ [x]) (by simp), packL_ne h, List.take_append_of_le_length (by omega), List.drop_append_of_le_length (by omega), ih (n - 32) (by omega) (b.drop 32) (by rw [List.length_drop]; omega)]
    have e1 : n / 32 = (n - 32) / 32 + 1 := by omega
    have e2 : n % 32 = (n - 32) % 32 := by omega
    rw [e1, e2]
    split <;> simp
end Go.Proofs.YtpacdmgnpadleaaDoor
end
section
namespace Go.Proofs.YtpacdmgnpadleaaDoor
open Go.RowKit
set_option linter.unusedSimpArgs false
set_option linter.unusedVariables false
def IsBy (w : World) (l : List Int) (v : Value) : Prop := Rd w (.sl (l.map fun n => .val (.int .u8 n))) [v]
theorem IsBy.keep {w w' : World} (hk : Keeps w w') {l : List Int} {v : Value} (h : IsBy w l v) : IsBy w' l v := Rd.keep hk h
theorem IsBy.form {w : World} {l : List Int} {v : Value} (h : IsBy w l v) : ∃ a cap, v = .slice a l.length cap ∧ l.length ≤ cap ∧ cap ≤ maxLen := by
 obtain ⟨a, cap, e, h1, h2⟩ := Rd.sl_form h
 rw [List.length_map] at e h1
 exact ⟨a, cap, e, h1, h2⟩
theorem IsBy.get {w : World} {l : List Int} {a : Option Addr} {n cap : Nat} (h : IsBy w l (.slice a n cap)) (i : Nat) (hi : i < l.length) :
  ∃ b o, a = some ⟨b, o, none⟩ ∧ w.cell? ⟨b, o + i, none⟩ = some (.int .u8 l[i]) := by
 simp only [IsBy, Rd] at h
 obtain ⟨_, e, h⟩ := h
 cases e
 rcases h with ⟨h0, h1⟩ | ⟨b, o, cap', e, l1, l2, hr⟩
 ·have h0 : l = [] := by simpa using h0
  subst h0
  exact absurd hi (by simp)
 ·cases e
  refine ⟨b, o, rfl, ?_⟩
  obtain ⟨cs, h1, h2, h3⟩ := RdRow.get hr (n := 1) (fun e he => by obtain ⟨d, _, rfl⟩ := List.mem_map.1 he; rfl) i (by simpa using hi)
  rw [List.getElem_map] at h2
  simp only [Rd] at h2
  subst h2
  simpa using h1.1
theorem IsBy.take {w : World} {l : List Int} {a : Option Addr} {cap n : Nat} (h : IsBy w l (.slice a l.length cap)) (hn : n ≤ l.length) : IsBy w (l.take n) (.slice a n cap) := by
 unfold IsBy at h ⊢
 rw [List.map_take]
 exact Rd.take (by simpa using h) (by simpa using hn)
set_option maxHeartbeats 1000000 in
theorem cut_any (l : List Int) (w : World) (a : Option Addr) (cap : Nat) (h : IsBy w l (.slice a l.length cap)) :
  Calls Tryd.prog 89 #[.slice a l.length cap] w fun e w' => ∃ n, n ≤ l.length ∧ trimL l = l.take n ∧ e = .returned (.slice a n cap) ∧ Ext w w' := by
 obtain ⟨a', cap', e', h1, h2⟩ := h.form
 cases e'
 unfold maxLen at h2
 go_enter Tryd.func89, Tryd.ntmps89
 go_wp2
 go_loop [3] (fun i => ∃ n : Nat, n ≤ l.length ∧ i = .int .i64 n ∧ (∀ i (h : i < l.length), n ≤ i → l[i] = 0)) (fun i => (intOf i).toNat)
 case atStart => exact ⟨l.length, Nat.le_refl _, rfl, fun i h hi => by omega⟩
 case round =>
  obtain ⟨n, hn, rfl, hz⟩ := hrel
  have HZ := Lib.hid hz; clear hz
  by_cases hp : 0 < n
  case neg =>
   have ed : decide ((0 : Int) < n) = false := by simp; omega
   have hn0 : n = 0 := by omega
   subst hn0
   have hfin := trimL_of l 0 (Nat.zero_le _) HZ.out (fun h => absurd h (by omega))
   have HF := Lib.hid hfin; clear hfin
   go_wp2
   go_ret
   exact ⟨0, Nat.zero_le _, HF.out, rfl, Ext.refl _⟩
  obtain ⟨k, rfl⟩ : ∃ k, n = k + 1 := ⟨n - 1, by omega⟩
  have hk : k < l.length := by omega
  obtain ⟨b, o, rfl, c⟩ := h.get k hk
  by_cases hl : l[k] = 0
  ·have e0 : (l[k] == 0) = true := by simpa using hl
   have hz' : ∀ i (h : i < l.length), k ≤ i → l[i] = 0 := fun i hi hki => by
    rcases Nat.lt_or_ge k i with h' | h'
    ·exact HZ.out i hi (by omega)
    ·obtain rfl : i = k := by omega
     exact hl
   have HL := Lib.hid hz'; clear hl hz'
   go_wp2
   go_round
   case rel => exact ⟨k, by omega, by go_num, HL.out⟩
   case measure => simp [intOf]
  ·have e0 : (l[k] == 0) = false := by simpa using hl
   have hfin := trimL_of l (k + 1) hn HZ.out (fun h => by simpa using hl)
   have HF := Lib.hid hfin; clear hfin hl
   go_wp2
   go_ret
   exact ⟨k + 1, hn, HF.out, rfl, Ext.refl _⟩
set_option maxHeartbeats 1000000 in
theorem value_any (neg : Bool) (l : List Int) (w : World) (a : Option Addr) (cap : Nat) (h : IsBy w l (.slice a l.length cap)) :
  Calls Tryd.prog 88 #[.bool neg, .slice a l.length cap] w fun e w' => ∃ n, n ≤ l.length ∧ trimL l = l.take n ∧ e = .returned (.agg #[.bool (neg && decide (0 < n)), .slice a n cap]) ∧ Ext w w' := by
 have hx0 := (Ext.refl w).alloc (.cells #[.bool false, .slice none 0 0] 114)
 have b0 := heap_new w (.cells #[.bool false, .slice none 0 0] 114)
 have HC := Lib.hid (cut_any l _ _ _ (h.keep hx0.keeps))
 clear h
 go_enter Tryd.func88, Tryd.ntmps88
 go_wp2_with fail
 refine HC.out.mono ?_
 rintro e w1 ⟨n, hn, ht, rfl, hx1⟩
 have b0 := (hx1.block _ (by simp)).trans b0
 have hc0 := cell_of b0
 have hf0 := frozen_of b0
 have HT := Lib.hid ht; clear ht b0
 cases neg with
 | true =>
  go_wp2_with fail
  refine bodyPost_ret (v := .agg #[.bool (true && decide (0 < n)), .slice a n cap]) (by simp [results, Tryd.results88, go_sem, hc0]) rfl ⟨n, hn, HT.out, rfl, ?_⟩
  repeat (first | (with_reducible exact hx0.trans hx1) | (with_reducible refine Ext.alloc ?_ _) | ((with_reducible refine Ext.setCell ?_ ?hh9 _); (case hh9 => (first | (simp; done) | (simp; omega) | omega))) | (with_reducible refine Ext.drew ?_))
 | false =>
  go_wp2_with fail
  refine bodyPost_ret (v := .agg #[.bool (false && decide (0 < n)), .slice a n cap]) (by simp [results, Tryd.results88, go_sem, hc0]) rfl ⟨n, hn, HT.out, rfl, ?_⟩
  repeat (first | (with_reducible exact hx0.trans hx1) | (with_reducible refine Ext.alloc ?_ _) | ((with_reducible refine Ext.setCell ?_ ?hh9 _); (case hh9 => (first | (simp; done) | (simp; omega) | omega))) | (with_reducible refine Ext.drew ?_))
theorem bit_at (x : Int) (m : Nat) (h0 : 0 ≤ x) (h1 : x ≤ 4294967295) : bits BinOp.and IntKind.u32 (x / 2 ^ m) 1 % 256 = x / 2 ^ m % 2 := by
 have hp : (0 : Int) < 2 ^ m := Int.pow_pos (by decide)
 have h2 : 0 ≤ x / 2 ^ m := Int.ediv_nonneg h0 (Int.le_of_lt hp)
 have h3 : x / 2 ^ m ≤ x := Int.ediv_le_self _ h0
 rw [u32_and _ _ h2 (by omega) (by decide) (by decide)]
 generalize x / 2 ^ m = y at *
 obtain ⟨n, rfl⟩ := Int.eq_ofNat_of_zero_le h2
 rw [Int.toNat_natCast, show Int.toNat 1 = 1 from rfl, Nat.and_one_is_mod]
 omega
theorem bits32_take (x : Int) (m : Nat) (h : m < 32) : (bits32 x).take (m + 1) = (bits32 x).take m ++ [x / 2 ^ m % 2] := by
 rw [List.take_succ_eq_append_getElem (by rw [bits32_length]; exact h)]
 simp [bits32]
theorem infoU8 : ((Tryd.prog.info? 5).map fun i => (i.zero, i.size, i.bytes)) = some (some (.int .u8 0), 1, 1) := by kernel_rfl
def OwnBy (w : World) (B : Nat) (l : List Int) (v : Value) : Prop := Own w B 5 1 (l.map fun n => .val (.int .u8 n)) v
set_option maxRecDepth 100000 in
set_option maxHeartbeats 1000000 in
theorem rvalue_any (neg : Bool) (l : List Int) (w : World) (v : Value) (hl : DigOk l) (hlen : l.length ≤ 1000000) (h : IsMag w l v) :
  Calls Tryd.prog 85 #[.agg #[.bool neg, v]] w fun e w' => ∃ v', e = .returned (.agg #[.bool (neg && decide (0 < (trimL (bitsL l)).length)), v']) ∧ Ext w w' ∧ IsBy (since w' w.heap.size) (trimL (bitsL l)) v' := by
 obtain ⟨a, cap, rfl, h1, h2⟩ := h.form
 unfold maxLen at h2
 have hx0 := ((Ext.refl w).alloc (.cells #[.bool neg, .slice a l.length cap] 28)).alloc (.cells #[.bool false, .slice none 0 0] 114)
 have b0 := heap_new0 w (.cells #[.bool neg, .slice a l.length cap] 28) (.cells #[.bool false, .slice none 0 0] 114)
 have b1 := heap_new1 w (.cells #[.bool neg, .slice a l.length cap] 28) (.cells #[.bool false, .slice none 0 0] 114)
 go_enter Tryd.func85, Tryd.ntmps85
 go_wp2_with fail
 generalize (w.alloc (.cells #[.bool neg, .slice a l.length cap] 28)).alloc (.cells #[.bool false, .slice none 0 0] 114) = w1 at *
 have hsz : w.heap.size + 2 ≤ w1.heap.size := by have := (Array.getElem?_eq_some_iff.1 b1).1; omega
 obtain ⟨i0, hi, hz0, hz1, hz2⟩ := info_parts infoU8
 have HB := Lib.hid (And.intro b0 (And.intro b1 h)); clear b0 b1
 go_loopw [3, 4, 5] (fun s i _ wr => ∃ k : Nat, k ≤ l.length ∧ i = .int .i64 k ∧ Ext w1 wr ∧ OwnBy wr w1.heap.size (bitsL (l.take k)) s) (fun _ i _ _ => l.length - (intOf i).toNat)
 case atStart => exact ⟨0, Nat.zero_le _, rfl, Ext.refl _, by simpa [OwnBy, bitsL] using Own.nil _ _ _ _⟩
 case round =>
  obtain ⟨k, hk, rfl, hxr, hown⟩ := hrel
  have hx2 := hx0.trans hxr
  have b0 := (hxr.block _ (by omega)).trans HB.out.1
  have hc0 := cell_of b0
  have HOWN := Lib.hid hown; clear hown
  by_cases hlt : k < l.length
  ·obtain ⟨b, o, rfl, hcell⟩ := h.get k hlt
   clear h
   go_wp2_with fail
   go_loopw [3, 5] (fun s j w2 => ∃ m : Nat, m ≤ 32 ∧ j = .int .i64 m ∧ Ext w1 w2 ∧ OwnBy w2 w1.heap.size (bitsL (l.take k) ++ (bits32 l[k]).take m) s) (fun _ j _ => 32 - (intOf j).toNat)
   case atStart => exact ⟨0, Nat.zero_le _, rfl, hxr, by simpa using HOWN.out⟩
   clear hc0 b0 HOWN hx2 hxr
   case round =>
    obtain ⟨m, hm, rfl, hxm, hown⟩ := hrel
    have b0 := (hxm.block _ (by omega)).trans HB.out.1
    have hc0 := cell_of b0
    have hcell := (hx0.trans hxm).keeps _ _ hcell
    have HOWN := Lib.hid hown; clear hown
    by_cases hml : m < 32
    ·have hdg := hl l[k] (List.getElem_mem _)
     have hbit := bit_at l[k] m hdg.1 hdg.2
     have hll := bitsL_length (l.take k)
     have hlt2 : (l.take k).length ≤ 1000000 := by rw [List.length_take]; omega
     have hlm : (List.map (fun n : Int => V.val (.int .u8 n)) (bitsL (l.take k) ++ (bits32 l[k]).take m)).length ≤ 33000000 := by
      rw [List.length_map, List.length_append, List.length_take, bits32_length]; omega
     have hle := hxm.le
     have HO : Own wr w1.heap.size 5 1 _ _ := HOWN.out
     go_wp2_with (at_builtin; go_loud (refine wpList_append_new (w := wr) (w2 := wr) rfl _ _ 112 rfl w1.heap.size 5 i0 _ 1 1 Tryd.underlying112 hi hz0 hz1 hz2 rfl (by decide) _ _ rfl HO hle (Ext.refl _) [.int .u8 (l[k] / 2 ^ m % 2)] (.val (.int .u8 (l[k] / 2 ^ m % 2))) 5 rfl rfl (by simp [plainV, Value.oneCell']) (by simp only [Rd]) (by unfold maxLen; omega) (by omega) ?_); intro v2 w3 hown' hbb; have hx5 : Ext w1 w3 := (hxm.alloc _).below hbb; have H1 := Lib.hid (And.intro hown' hx5); clear hown' hbb hx5)
     go_roundw
     case rel =>
      refine ⟨m + 1, by omega, by go_num, H1.out.2, ?_⟩
      have := H1.out.1
      unfold OwnBy
      rw [bits32_take _ _ hml, ← List.append_assoc, List.map_append, List.map_cons, List.map_nil]
      exact this
     case measure => simp [intOf]; omega
    ·obtain rfl : m = 32 := by omega
     go_wp2_with fail
     refine ⟨⟨k + 1, by omega, by go_num, hxm, ?_⟩, by simp [intOf]; omega⟩
     have := HOWN.out
     rw [List.take_of_length_le (l := bits32 l[k]) (i := 32) (by rw [bits32_length]; exact Nat.le_refl _)] at this
     rw [List.take_succ_eq_append_getElem hlt, bitsL_snoc]
     exact this
  ·have hkl : l.take k = l := List.take_of_length_le (by omega)
   rw [hkl] at HOWN
   clear h
   have hlb := bitsL_length l
   have HO : Own wr w1.heap.size 5 1 _ _ := HOWN.out
   have HF := HO.form
   rw [List.length_map] at HF
   obtain ⟨a9, c9, rfl, -, -⟩ := HF
   have HBy : IsBy (since wr w1.heap.size) (bitsL l) (.slice a9 (bitsL l).length c9) := HO.reads
   have HV := Lib.hid (And.intro (value_any neg (bitsL l) wr a9 c9 (HBy.keep (since_keeps _ _))) HBy)
   have HT := Lib.hid (And.intro HB.out.2.1 hxr)
   clear HOWN HB HO HBy hlb hkl
   clear b0
   go_wp2_with fail
   refine HV.out.1.mono ?_
   rintro e w3 ⟨n, hn, ht, rfl, hx3⟩
   have b1 := (hx3.block _ (by have := HT.out.2.le; omega)).trans ((HT.out.2.block _ (by omega)).trans HT.out.1)
   have hc1 := cell_of b1
   have hf1 := frozen_of b1
   clear hc0
   have HN := Lib.hid ht; clear ht
   have hle1 := HT.out.2.le
   go_wp2_with fail
   refine bodyPost_ret (v := .agg #[.bool (neg && decide (0 < n)), .slice a9 n c9]) (by simp [results, Tryd.results85, go_sem, hc1]) rfl ?_
   rw [HN.out, List.length_take, Nat.min_eq_left hn]
   refine ⟨_, rfl, ?_, ?_⟩
   ·repeat (first | (with_reducible exact hx2.trans hx3) | (with_reducible refine Ext.alloc ?_ _) | ((with_reducible refine Ext.setCell ?_ ?hh9 _); (case hh9 => (first | (simp; done) | (simp; omega) | omega))) | (with_reducible refine Ext.drew ?_))
   ·refine (HV.out.2.take hn).keep (Keeps.trans ?_ (since_mono _ (show w.heap.size ≤ w1.heap.size by omega)))
    repeat (with_reducible refine Keeps.trans ?_ (since_setCell _ ?hh _); case hh => (simp; omega))
    exact since_ext _ hx3
set_option maxHeartbeats 1000000 in
theorem rchar_any (c : Int) (w : World) : Calls Tryd.prog 74 #[.int .i32 c] w fun e w' => e = .returned (.bool (Lib.validRune c)) ∧ Ext w w' := by
 by_cases h0 : (0 : Int) ≤ c
 case neg =>
  have e0 : decide ((0 : Int) ≤ c) = false := by simpa using h0
  have HR : Lib.validRune c = false := by unfold Lib.validRune; rw [decide_eq_false_iff_not]; omega
  rw [HR]; clear HR h0
  go_enter Tryd.func74, Tryd.ntmps74
  go_wp2_with fail
  go_ret
  exact ⟨rfl, Ext.refl _⟩
 have e0 : decide ((0 : Int) ≤ c) = true := by simpa using h0
 by_cases h1 : c ≤ 1114111
 case neg =>
  have e1 : decide (c ≤ 1114111) = false := by simpa using h1
  have HR : Lib.validRune c = false := by unfold Lib.validRune; rw [decide_eq_false_iff_not]; omega
  rw [HR]; clear HR h0 h1
  go_enter Tryd.func74, Tryd.ntmps74
  go_wp2_with fail
  go_ret
  exact ⟨rfl, Ext.refl _⟩
 have e1 : decide (c ≤ 1114111) = true := by simpa using h1
 by_cases h2 : c < 55296
 case pos =>
  have e2 : decide (c < 55296) = true := by simpa using h2
  have HR : Lib.validRune c = true := by unfold Lib.validRune; rw [decide_eq_true_iff]; omega
  rw [HR]; clear HR h0 h1 h2
  go_enter Tryd.func74, Tryd.ntmps74
  go_wp2_with fail
  go_ret
  exact ⟨rfl, Ext.refl _⟩
 have e2 : decide (c < 55296) = false := by simpa using h2
 have HR : Lib.validRune c = decide (57343 < c) := by unfold Lib.validRune; congr 1; apply propext; omega
 rw [HR]; clear HR h0 h1 h2
 go_enter Tryd.func74, Tryd.ntmps74
 go_wp2_with fail
 go_ret
 exact ⟨rfl, Ext.refl _⟩
def bareB (h1 h2 h4 h8 : Bool) (d : D) : Bool := (h1 || decide (d.c = 0)) && (h2 || (!d.neg && decide (d.mag.length = 0))) && (h4 || decide (d.t.size = 0)) && (h8 || decide (d.l.length = 0))
theorem len0 (n : Nat) : ((n : Int) == 0) = decide (n = 0) := by
 cases n with
 | zero => rfl
 | succ n => simp; omega
theorem str0 (t : ByteArray) : t.toList.isEmpty = decide (t.size = 0) := by
 rw [Go.ByteArray.toList_eq]
 obtain ⟨⟨l⟩⟩ := t
 cases l <;> simp [ByteArray.size]
end Go.Proofs.YtpacdmgnpadleaaDoor
end
section
namespace Go.Proofs.YtpacdmgnpadleaaDoor
set_option linter.unusedSimpArgs false
set_option linter.unusedVariables false
open Go.RowKit
def BitOk (b : List Int) : Prop := ∀ x ∈ b, x = 0 ∨ x = 1
theorem packB_bd (b : List Int) (h : BitOk b) : 0 ≤ packB b ∧ packB b < 2 ^ b.length := by
 induction b with
 | nil => simp [packB]
 | cons x b ih =>
  have h1 := ih (fun y hy => h y (by simp [hy]))
  have h2 := h x (by simp)
  rw [packB, List.length_cons, Int.pow_succ]
  omega
theorem packL_last (b : List Int) (h : BitOk b) (hm : b.length % 32 ≠ 0) : 0 ≤ (packL b).getD (b.length / 32) 0 ∧ (packL b).getD (b.length / 32) 0 < 2 ^ (b.length % 32) := by
 generalize hn : b.length = n at *
 induction n using Nat.strongRecOn generalizing b with
 | _ n ih =>
  have hne : b ≠ [] := fun e => by subst e; simp at hn; subst hn; exact hm rfl
  by_cases hs : n < 32
  ·rw [packL_small hne (by omega), Nat.div_eq_of_lt hs, Nat.mod_eq_of_lt hs]
   have := packB_bd b h
   rw [hn] at this
   simpa using this
  ·rw [packL_ne hne]
   have e1 : n / 32 = (n - 32) / 32 + 1 := by omega
   have e2 : n % 32 = (n - 32) % 32 := by omega
   rw [e1, e2]
   have := ih (n - 32) (by omega) (b.drop 32) (fun y hy => h y (List.drop_subset _ _ hy)) (by rw [List.length_drop]; omega) (by omega)
   simpa using this
def packA (b : List Int) : List Int := if b.length % 32 = 0 then packL b ++ [0] else packL b
theorem packA_lt (b : List Int) : b.length / 32 < (packA b).length := by
 unfold packA
 split
 ·rw [List.length_append, packL_length]; simp; omega
 ·rw [packL_length]; omega
theorem packA_bd (b : List Int) (h : BitOk b) : 0 ≤ (packA b).getD (b.length / 32) 0 ∧ (packA b).getD (b.length / 32) 0 < 2 ^ (b.length % 32) := by
 unfold packA
 split
 ·rename_i h0
  have : (packL b).length = b.length / 32 := by rw [packL_length]; omega
  rw [List.getD_eq_getElem?_getD, List.getElem?_append_right (by omega), this, Nat.sub_self, h0]
  simp
 ·exact packL_last b h (by assumption)
theorem packL_bit (b : List Int) (x : Int) : packL (b ++ [x]) = (packA b).set (b.length / 32) ((packA b).getD (b.length / 32) 0 + x * 2 ^ (b.length % 32)) := by
 rw [packL_snoc]
 unfold packA
 split
 ·rename_i h0
  have : (packL b).length = b.length / 32 := by rw [packL_length]; omega
  rw [List.set_append_right _ _ (by omega), List.getD_eq_getElem?_getD, List.getElem?_append_right (by omega), this, Nat.sub_self, h0]
  simp
 ·rfl
theorem packL_bit0 (b : List Int) : packL (b ++ [0]) = packA b := by
 rw [packL_bit, Int.zero_mul, Int.add_zero]
 apply List.ext_getElem?
 intro i
 rw [List.getElem?_set]
 split
 ·rename_i h; subst h
  rw [if_pos (packA_lt b), List.getD_eq_getElem?_getD, List.getElem?_eq_getElem (packA_lt b)]
  simp
 ·rfl
theorem or_bit (x : Int) (j : Nat) (hj : j < 32) (h0 : 0 ≤ x) (h1 : x < 2 ^ j) : bits BinOp.or IntKind.u32 x (2 ^ j) = x + 2 ^ j := by
 obtain ⟨n, rfl⟩ := Int.eq_ofNat_of_zero_le h0
 have hn : n < 2 ^ j := by exact_mod_cast h1
 have h2 : 2 ^ j ≤ 2 ^ 31 := Nat.pow_le_pow_right (by decide) (by omega)
 have e : ((2 : Int) ^ j) = ((2 ^ j : Nat) : Int) := by simp
 rw [e, u32_or_nat n (2 ^ j) (by omega) (by omega)]
 have := Nat.two_pow_add_eq_or_of_lt hn 1
 rw [Nat.mul_one] at this
 rw [Nat.or_comm, ← this]
 simp [Int.add_comm]
end Go.Proofs.YtpacdmgnpadleaaDoor
end
section
namespace Go.Proofs.YtpacdmgnpadleaaDoor
open Go Go.RowKit
set_option linter.unusedSimpArgs false
set_option linter.unusedVariables false
set_option maxHeartbeats 1000000
set_option maxRecDepth 100000
def bitsC (b : List Int) : List (List C) := b.map fun n => [.v (.int .u8 n)]
def magC (b : List Int) : List (List C) := b.map fun n => [.v (.int .u32 n)]
theorem bitsC_len (b : List Int) : (bitsC b).length = b.length := by simp [bitsC]
theorem magC_len (b : List Int) : (magC b).length = b.length := by simp [magC]
theorem bitsC_get {b : List Int} {k : Nat} (h : k < b.length) : (bitsC b)[k]? = some [.v (.int .u8 b[k])] := by simp [bitsC, h]
theorem magC_get {b : List Int} {k : Nat} (h : k < b.length) : (magC b)[k]? = some [.v (.int .u32 b[k])] := by simp [magC, h]
def NumI (neg : Bool) (b : List Int) (n : Nat) (st : St) : Prop := ∃ k : Nat, n = b.length - k ∧ k ≤ b.length ∧
 ((k = 0 ∧ st = ⟨[(5, .one (.v (.int .i64 k))), (4, .one (.ptr 2 1 0 0)), (1, .one (.ptr 0 1 0 0)), (2, .one (.ptr 1 1 0 0)), (3, .one (.v (.int .i64 0)))],
  [some ⟨114, 2, [[.v (.bool neg), .sl 1 (bitsC b)]]⟩, some ⟨28, 2, [[.v (.bool false), .v (.slice none 0 0)]]⟩, some ⟨28, 2, [[.v (.bool neg), .v (.slice none 0 0)]]⟩]⟩) ∨
  (0 < k ∧ st = ⟨[(5, .one (.v (.int .i64 k))), (4, .one (.ptr 2 1 0 0)), (1, .one (.ptr 0 1 0 0)), (2, .one (.ptr 1 1 0 0)), (3, .one (.v (.int .i64 0)))],
  [some ⟨114, 2, [[.v (.bool neg), .sl 1 (bitsC b)]]⟩, some ⟨28, 2, [[.v (.bool false), .v (.slice none 0 0)]]⟩, some ⟨28, 2, [[.v (.bool neg), .ms 4 (packL (b.take k)).length]]⟩, some ⟨93, 1, [[.v (.int .u32 0)]]⟩, some ⟨93, 1, magC (packL (b.take k))⟩]⟩))
theorem num_pure (neg : Bool) (b : List Int) (hb : BitOk b) (hlen : b.length ≤ 1536) : Pure Tryd.prog 84 [.agg [.v (.bool neg), .sl 1 (bitsC b)]] (.tup [.agg [.v (.bool neg), .sl 1 (magC (packL b))], .one (.v (.int .i64 0))]) := by
 have hl2 := bitsC_len b
 refine Fn.intro Tryd.func84 rfl Tryd.ntmps84 Tryd.results84 (by simp only [List.length_cons, List.length_nil]; decide) ?_
 repeat (first | (apply fw; (with_reducible constructor) <;> rfl) | (apply WpA.cd; constructor) | ((first | with_reducible refine WpA.go _ rfl fun Y y => ?_ | apply RunTo.id); simp only [zb, seval, w84, bitsC_len]; refine RunTo.fn y (by first | (simp; done) | omega | (simp; omega)) ?_; clear y Y))
 refine WpA.cond rfl (fun hc => ?_) (fun hc => ?_)
 ·simp at hc; omega
 repeat (first | (apply fw; (with_reducible constructor) <;> rfl) | (apply WpA.cd; constructor) | ((first | with_reducible refine WpA.go _ rfl fun Y y => ?_ | apply RunTo.id); simp only [zb, seval, w84, bitsC_len]; refine RunTo.fn y (by first | (simp; done) | omega | (simp; omega)) ?_; clear y Y))
 refine WpA.loop (NumI neg b) b.length (Le.drop 3 (Nat.zero_le _) rfl (by simp [Sub, find]) rfl (by simp [ObBd, C.bd])) ⟨0, rfl, Nat.zero_le _, .inl ⟨rfl, rfl⟩⟩ ?_
 intro n' st hI
 obtain ⟨k, rfl, hk, hI⟩ := hI
 have hw2 : IntKind.i64.wrap ((k : Int) + 1) = ((k + 1 : Nat) : Int) := by rw [wrap64 (by omega) (by omega)]; omega
 have htm : (k : Int).tmod 32 = ((k % 32 : Nat) : Int) := rfl
 have htd : IntKind.i64.wrap ((k : Int).tdiv 32) = ((k / 32 : Nat) : Int) := by rw [show (k : Int).tdiv 32 = ((k / 32 : Nat) : Int) from rfl, wrap64 (by omega) (by omega)]
 have hbd := packL_length (b.take k)
 have htk : (b.take k).length = k := by rw [List.length_take]; omega
 rw [htk] at hbd
 have hmag : ∀ l, ∀ e ∈ magC l, ∀ c ∈ e, C.shut c = true := fun l e he c hc => by
  obtain ⟨n, _, rfl⟩ := List.mem_map.1 he
  simp at hc; subst hc; rfl
 have hmbd : ∀ n l, ∀ e ∈ magC l, ∀ c ∈ e, C.bd n c = true := fun n l e he c hc => by
  obtain ⟨n, _, rfl⟩ := List.mem_map.1 he
  simp at hc; subst hc; rfl
 by_cases hlt : k < b.length
 case neg =>
  have hkl : k = b.length := by omega
  have hd0 : decide ((k : Int) < (b.length : Int)) = false := by simp; omega
  rcases hI with ⟨hk0, rfl⟩ | ⟨hk0, rfl⟩
  ·repeat (first | (apply fw; (with_reducible constructor) <;> rfl) | (apply WpA.cd; constructor) | ((first | with_reducible refine WpA.go _ rfl fun Y y => ?_ | apply RunTo.id); simp only [zb, seval, w84, bitsC_len, htm, hd0]; refine RunTo.fn y (by first | (simp; done) | omega | (simp; omega)) ?_; clear y Y))
   repeat (first | (apply fw; (with_reducible constructor) <;> rfl) | (apply WpA.cd; constructor) | ((first | with_reducible refine WpA.go _ rfl fun Y y => ?_ | apply RunTo.id); simp only [zb, seval, w84, bitsC_len, htm]; refine RunTo.fn y (by first | (simp; done) | omega | (simp; omega)) ?_; clear y Y))
   have : b = [] := List.eq_nil_of_length_eq_zero (by omega)
   subst this
   refine ⟨by simp, _, _, _, _, (by simp only [zb, seval, w84]; rfl), (by simp), (by simp only [zv]; rfl), (by simp), _, by rw [packL_nil]; exact ALe.tup (.cons (ALe.agg (.cons (.nil (.refl _)))) (.refl _)), rfl⟩
  ·repeat (first | (apply fw; (with_reducible constructor) <;> rfl) | (apply WpA.cd; constructor) | ((first | with_reducible refine WpA.go _ rfl fun Y y => ?_ | apply RunTo.id); simp only [zb, seval, w84, bitsC_len, htm, hd0]; refine RunTo.fn y (by first | (simp; done) | omega | (simp; omega)) ?_; clear y Y))
   repeat (first | (apply fw; (with_reducible constructor) <;> rfl) | (apply WpA.cd; constructor) | ((first | with_reducible refine WpA.go _ rfl fun Y y => ?_ | apply RunTo.id); simp only [zb, seval, w84, bitsC_len, htm]; refine RunTo.fn y (by first | (simp; done) | omega | (simp; omega)) ?_; clear y Y))
   refine ⟨by simp, _, _, _, _, (by simp only [zb, seval, w84, magC_len]; rfl), (by simp), (by simp only [zv, magC_len]; rfl), (by simp [magC_len]; exact hmag _), _, ALe.refl _, ?_⟩
   rw [hkl, List.take_length]
 have hd1 : decide ((k : Int) < (b.length : Int)) = true := by simp; omega
 have hA : k % 32 = 0 → packA (b.take k) = packL (b.take k) ++ [0] := fun h => by unfold packA; rw [htk, if_pos h]
 have hA' : k % 32 ≠ 0 → packA (b.take k) = packL (b.take k) := fun h => by unfold packA; rw [htk, if_neg h]
 have hlt32 : k / 32 < (packA (b.take k)).length := by have := packA_lt (b.take k); rwa [htk] at this
 have hAb := packA_bd (b.take k) (fun x hx => hb x (List.take_subset _ _ hx))
 rw [htk, List.getD_eq_getElem?_getD, List.getElem?_eq_getElem hlt32, Option.getD_some] at hAb
 have hAl : (packA (b.take k)).length ≤ 100 := by
  by_cases hm : k % 32 = 0
  ·rw [hA hm, List.length_append]; simp; omega
  ·rw [hA' hm]; omega
 have hget := magC_get hlt32
 have htk1 : b.take (k + 1) = b.take k ++ [b[k]] := List.take_succ_eq_append_getElem hlt
 have hbk := bitsC_get hlt
 have hor : bits .or .u32 (packA (b.take k))[k / 32] (IntKind.u32.wrap (1 * 2 ^ (min (k % 32) IntKind.u32.bits))) = (packA (b.take k))[k / 32] + 2 ^ (k % 32) := by
  have h32 : k % 32 < 32 := Nat.mod_lt _ (by decide)
  have e1 : min (k % 32) IntKind.u32.bits = k % 32 := Nat.min_eq_left (by simp [IntKind.bits]; omega)
  rw [e1, Int.one_mul, wrapU32 (Int.le_of_lt (Int.pow_pos (by decide))) (by
   have : (2 : Nat) ^ (k % 32) ≤ 2 ^ 31 := Nat.pow_le_pow_right (by decide) (by omega)
   have e2 : ((2 : Int) ^ (k % 32)) = ((2 ^ (k % 32) : Nat) : Int) := by simp
   rw [e2]; omega)]
  exact or_bit _ _ h32 hAb.1 hAb.2
 rcases hI with ⟨hk0, rfl⟩ | ⟨hk0, rfl⟩
 ·have hm : k % 32 = 0 := by omega
  have he0 : (((k % 32 : Nat) : Int) == 0) = true := by simp [hm]
  have hA0 : packA (b.take k) = [0] := by rw [hA hm, hk0, List.take_zero, packL_nil]; rfl
  repeat (first | (apply fw; (with_reducible constructor) <;> rfl) | (apply WpA.cd; constructor) | ((first | with_reducible refine WpA.go _ rfl fun Y y => ?_ | apply RunTo.id); simp only [zb, seval, w84, bitsC_len, htm, he0, hd1]; refine RunTo.fn y (by first | (simp; done) | omega | (simp; omega)) ?_; clear y Y))
  repeat (first | (apply fw; (with_reducible constructor) <;> rfl) | (apply WpA.cd; constructor) | ((first | with_reducible refine WpA.go _ rfl fun Y y => ?_ | apply RunTo.id); simp only [zb, seval, w84, bitsC_len, htm, he0]; refine RunTo.fn y (by first | (simp; done) | omega | (simp; omega)) ?_; clear y Y))
  repeat (first | (apply fw; (with_reducible constructor) <;> rfl) | (apply WpA.cd; constructor) | ((first | with_reducible refine WpA.go _ rfl fun Y y => ?_ | apply RunTo.id); simp only [zb, seval, w84, bitsC_len, htm, he0]; refine RunTo.fn y (by first | (simp; done) | omega | (simp; omega)) ?_; clear y Y))
  refine WpA.le (st' := ⟨[(5, .one (.v (.int .i64 k))), (4, .one (.ptr 2 1 0 0)), (1, .one (.ptr 0 1 0 0)), (2, .one (.ptr 1 1 0 0)), (3, .one (.v (.int .i64 0)))], [some ⟨114, 2, [[.v (.bool neg), .sl 1 (bitsC b)]]⟩, some ⟨28, 2, [[.v (.bool false), .v (.slice none 0 0)]]⟩, some ⟨28, 2, [[.v (.bool neg), .ms 4 (packA (b.take k)).length]]⟩, some ⟨93, 1, [[.v (.int .u32 0)]]⟩, some ⟨93, 1, magC (packA (b.take k))⟩]⟩) (Le.drop 5 (Nat.zero_le _) (by rw [hA0]; rfl) (by simp [Sub, find]) rfl (by simp [ObBd, C.bd]; exact hmbd _ _)) ?_
  repeat (first | (apply fw; (with_reducible constructor) <;> rfl) | (apply WpA.cd; constructor) | ((first | with_reducible refine WpA.go _ rfl fun Y y => ?_ | apply RunTo.id); simp only [zb, seval, w84, bitsC_len, hbk]; refine RunTo.fn y (by first | (simp; done) | omega | (simp; omega)) ?_; clear y Y))
  refine WpA.cond rfl (fun hc => ?_) (fun hc => ?_)
  ·have hb1 : b[k] = 1 := by simpa using hc
   (refine WpA.draw0 15 _ _ _ rfl rfl rfl (by kernel_rfl) (by kernel_rfl) (by kernel_rfl) fun K8 hK8 => ?_); simp only [zz] at hK8 ⊢; (refine Draw0.go fun K7 hK7 => ?_); simp only [zb, seval, w84, magC_len, htd, htm, hget, hor, hw2]; (refine RunQ.mk (by first | (simp; done) | omega | (simp; omega)) (hK7 _ _ ?_)); clear hK7 K7; (try ((refine Draw0.nil (hK8 _ ?_)); clear hK8 K8; (refine WpL.go _ rfl fun Y y => ?_); repeat (first | (apply fw; (with_reducible constructor) <;> rfl) | (apply WpA.cd; constructor) | ((first | with_reducible refine WpA.go _ rfl fun Y y => ?_ | apply RunTo.id); simp only [zb, seval, w84, magC_len, htd, htm, hget, hor, hw2]; refine RunTo.fn y (by first | (simp; done) | omega | (simp; omega)) ?_; clear y Y))))
   have hnew : packL (b.take (k + 1)) = (packA (b.take k)).set (k / 32) ((packA (b.take k))[k / 32] + 2 ^ (k % 32)) := by
    rw [htk1, packL_bit, hb1, htk, List.getD_eq_getElem?_getD, List.getElem?_eq_getElem hlt32, Int.one_mul]; rfl
   refine ⟨b.length - (k + 1), _, by omega, Le.drop 5 (Nat.zero_le _) ?_ (by simp [Sub, find]) rfl (by simp [ObBd, C.bd]; exact hmbd _ _), k + 1, rfl, by omega, .inr ⟨by omega, rfl⟩⟩
   simp [hnew, magC]
  ·have hb0 : b[k] = 0 := by
    rcases hb b[k] (List.getElem_mem _) with h | h
    ·exact h
    ·rw [h] at hc; cases hc
   repeat (first | (apply fw; (with_reducible constructor) <;> rfl) | (apply WpA.cd; constructor) | ((first | with_reducible refine WpA.go _ rfl fun Y y => ?_ | apply RunTo.id); simp only [zb, seval, w84, hw2]; refine RunTo.fn y (by first | (simp; done) | omega | (simp; omega)) ?_; clear y Y))
   have hnew : packL (b.take (k + 1)) = packA (b.take k) := by rw [htk1, hb0, packL_bit0]
   refine ⟨b.length - (k + 1), _, by omega, Le.drop 5 (Nat.zero_le _) ?_ (by simp [Sub, find]) rfl (by simp [ObBd, C.bd]; exact hmbd _ _), k + 1, rfl, by omega, .inr ⟨by omega, rfl⟩⟩
   simp [hnew]
 by_cases hm : k % 32 = 0
 ·have he0 : (((k % 32 : Nat) : Int) == 0) = true := by simp [hm]
  repeat (first | (apply fw; (with_reducible constructor) <;> rfl) | (apply WpA.cd; constructor) | ((first | with_reducible refine WpA.go _ rfl fun Y y => ?_ | apply RunTo.id); simp only [zb, seval, w84, bitsC_len, htm, he0, hd1]; refine RunTo.fn y (by first | (simp; done) | omega | (simp; omega)) ?_; clear y Y))
  repeat (first | (apply fw; (with_reducible constructor) <;> rfl) | (apply WpA.cd; constructor) | ((first | with_reducible refine WpA.go _ rfl fun Y y => ?_ | apply RunTo.id); simp only [zb, seval, w84, bitsC_len, htm, he0]; refine RunTo.fn y (by first | (simp; done) | omega | (simp; omega)) ?_; clear y Y))
  repeat (first | (apply fw; (with_reducible constructor) <;> rfl) | (apply WpA.cd; constructor) | ((first | with_reducible refine WpA.go _ rfl fun Y y => ?_ | apply RunTo.id); simp only [zb, seval, w84, bitsC_len, htm, he0, magC_len]; refine RunTo.fn y (by first | (simp; done) | omega | (simp; omega)) ?_; clear y Y))
  refine WpA.le (st' := ⟨[(5, .one (.v (.int .i64 k))), (4, .one (.ptr 2 1 0 0)), (1, .one (.ptr 0 1 0 0)), (2, .one (.ptr 1 1 0 0)), (3, .one (.v (.int .i64 0)))], [some ⟨114, 2, [[.v (.bool neg), .sl 1 (bitsC b)]]⟩, some ⟨28, 2, [[.v (.bool false), .v (.slice none 0 0)]]⟩, some ⟨28, 2, [[.v (.bool neg), .ms 4 (packA (b.take k)).length]]⟩, some ⟨93, 1, [[.v (.int .u32 0)]]⟩, some ⟨93, 1, magC (packA (b.take k))⟩]⟩) (Le.drop 5 (Nat.zero_le _) (by simp [hA hm, magC]) (by simp [Sub, find]) rfl (by simp [ObBd, C.bd]; exact hmbd _ _)) ?_
  repeat (first | (apply fw; (with_reducible constructor) <;> rfl) | (apply WpA.cd; constructor) | ((first | with_reducible refine WpA.go _ rfl fun Y y => ?_ | apply RunTo.id); simp only [zb, seval, w84, bitsC_len, hbk]; refine RunTo.fn y (by first | (simp; done) | omega | (simp; omega)) ?_; clear y Y))
  refine WpA.cond rfl (fun hc => ?_) (fun hc => ?_)
  ·have hb1 : b[k] = 1 := by simpa using hc
   (refine WpA.draw0 15 _ _ _ rfl rfl rfl (by kernel_rfl) (by kernel_rfl) (by kernel_rfl) fun K8 hK8 => ?_); simp only [zz] at hK8 ⊢; (refine Draw0.go fun K7 hK7 => ?_); simp only [zb, seval, w84, magC_len, htd, htm, hget, hor, hw2]; (refine RunQ.mk (by first | (simp; done) | omega | (simp; omega)) (hK7 _ _ ?_)); clear hK7 K7; (try ((refine Draw0.nil (hK8 _ ?_)); clear hK8 K8; (refine WpL.go _ rfl fun Y y => ?_); repeat (first | (apply fw; (with_reducible constructor) <;> rfl) | (apply WpA.cd; constructor) | ((first | with_reducible refine WpA.go _ rfl fun Y y => ?_ | apply RunTo.id); simp only [zb, seval, w84, magC_len, htd, htm, hget, hor, hw2]; refine RunTo.fn y (by first | (simp; done) | omega | (simp; omega)) ?_; clear y Y))))
   have hnew : packL (b.take (k + 1)) = (packA (b.take k)).set (k / 32) ((packA (b.take k))[k / 32] + 2 ^ (k % 32)) := by
    rw [htk1, packL_bit, hb1, htk, List.getD_eq_getElem?_getD, List.getElem?_eq_getElem hlt32, Int.one_mul]; rfl
   refine ⟨b.length - (k + 1), _, by omega, Le.drop 5 (Nat.zero_le _) ?_ (by simp [Sub, find]) rfl (by simp [ObBd, C.bd]; exact hmbd _ _), k + 1, rfl, by omega, .inr ⟨by omega, rfl⟩⟩
   simp [hnew, magC]
  ·have hb0 : b[k] = 0 := by
    rcases hb b[k] (List.getElem_mem _) with h | h
    ·exact h
    ·rw [h] at hc; cases hc
   repeat (first | (apply fw; (with_reducible constructor) <;> rfl) | (apply WpA.cd; constructor) | ((first | with_reducible refine WpA.go _ rfl fun Y y => ?_ | apply RunTo.id); simp only [zb, seval, w84, hw2]; refine RunTo.fn y (by first | (simp; done) | omega | (simp; omega)) ?_; clear y Y))
   have hnew : packL (b.take (k + 1)) = packA (b.take k) := by rw [htk1, hb0, packL_bit0]
   refine ⟨b.length - (k + 1), _, by omega, Le.drop 5 (Nat.zero_le _) ?_ (by simp [Sub, find]) rfl (by simp [ObBd, C.bd]; exact hmbd _ _), k + 1, rfl, by omega, .inr ⟨by omega, rfl⟩⟩
   simp [hnew]
 ·have he0 : (((k % 32 : Nat) : Int) == 0) = false := by simp; omega
  repeat (first | (apply fw; (with_reducible constructor) <;> rfl) | (apply WpA.cd; constructor) | ((first | with_reducible refine WpA.go _ rfl fun Y y => ?_ | apply RunTo.id); simp only [zb, seval, w84, bitsC_len, htm, he0, hd1]; refine RunTo.fn y (by first | (simp; done) | omega | (simp; omega)) ?_; clear y Y))
  repeat (first | (apply fw; (with_reducible constructor) <;> rfl) | (apply WpA.cd; constructor) | ((first | with_reducible refine WpA.go _ rfl fun Y y => ?_ | apply RunTo.id); simp only [zb, seval, w84, bitsC_len, htm, he0]; refine RunTo.fn y (by first | (simp; done) | omega | (simp; omega)) ?_; clear y Y))
  repeat (first | (with_reducible refine thenA_n ?_) | (with_reducible refine WpA.skip ?_) | (with_reducible refine WpA.seq ?_))
  refine WpA.le (st' := ⟨[(5, .one (.v (.int .i64 k))), (4, .one (.ptr 2 1 0 0)), (1, .one (.ptr 0 1 0 0)), (2, .one (.ptr 1 1 0 0)), (3, .one (.v (.int .i64 0)))], [some ⟨114, 2, [[.v (.bool neg), .sl 1 (bitsC b)]]⟩, some ⟨28, 2, [[.v (.bool false), .v (.slice none 0 0)]]⟩, some ⟨28, 2, [[.v (.bool neg), .ms 4 (packA (b.take k)).length]]⟩, some ⟨93, 1, [[.v (.int .u32 0)]]⟩, some ⟨93, 1, magC (packA (b.take k))⟩]⟩) (Le.drop 5 (Nat.zero_le _) (by simp [hA' hm]) (by simp [Sub, find]) rfl (by simp [ObBd, C.bd]; exact hmbd _ _)) ?_
  repeat (first | (apply fw; (with_reducible constructor) <;> rfl) | (apply WpA.cd; constructor) | ((first | with_reducible refine WpA.go _ rfl fun Y y => ?_ | apply RunTo.id); simp only [zb, seval, w84, bitsC_len, hbk]; refine RunTo.fn y (by first | (simp; done) | omega | (simp; omega)) ?_; clear y Y))
  refine WpA.cond rfl (fun hc => ?_) (fun hc => ?_)
  ·have hb1 : b[k] = 1 := by simpa using hc
   (refine WpA.draw0 15 _ _ _ rfl rfl rfl (by kernel_rfl) (by kernel_rfl) (by kernel_rfl) fun K8 hK8 => ?_); simp only [zz] at hK8 ⊢; (refine Draw0.go fun K7 hK7 => ?_); simp only [zb, seval, w84, magC_len, htd, htm, hget, hor, hw2]; (refine RunQ.mk (by first | (simp; done) | omega | (simp; omega)) (hK7 _ _ ?_)); clear hK7 K7; (try ((refine Draw0.nil (hK8 _ ?_)); clear hK8 K8; (refine WpL.go _ rfl fun Y y => ?_); repeat (first | (apply fw; (with_reducible constructor) <;> rfl) | (apply WpA.cd; constructor) | ((first | with_reducible refine WpA.go _ rfl fun Y y => ?_ | apply RunTo.id); simp only [zb, seval, w84, magC_len, htd, htm, hget, hor, hw2]; refine RunTo.fn y (by first | (simp; done) | omega | (simp; omega)) ?_; clear y Y))))
   have hnew : packL (b.take (k + 1)) = (packA (b.take k)).set (k / 32) ((packA (b.take k))[k / 32] + 2 ^ (k % 32)) := by
    rw [htk1, packL_bit, hb1, htk, List.getD_eq_getElem?_getD, List.getElem?_eq_getElem hlt32, Int.one_mul]; rfl
   refine ⟨b.length - (k + 1), _, by omega, Le.drop 5 (Nat.zero_le _) ?_ (by simp [Sub, find]) rfl (by simp [ObBd, C.bd]; exact hmbd _ _), k + 1, rfl, by omega, .inr ⟨by omega, rfl⟩⟩
   simp [hnew, magC]
  ·have hb0 : b[k] = 0 := by
    rcases hb b[k] (List.getElem_mem _) with h | h
    ·exact h
    ·rw [h] at hc; cases hc
   repeat (first | (apply fw; (with_reducible constructor) <;> rfl) | (apply WpA.cd; constructor) | ((first | with_reducible refine WpA.go _ rfl fun Y y => ?_ | apply RunTo.id); simp only [zb, seval, w84, hw2]; refine RunTo.fn y (by first | (simp; done) | omega | (simp; omega)) ?_; clear y Y))
   have hnew : packL (b.take (k + 1)) = packA (b.take k) := by rw [htk1, hb0, packL_bit0]
   refine ⟨b.length - (k + 1), _, by omega, Le.drop 5 (Nat.zero_le _) ?_ (by simp [Sub, find]) rfl (by simp [ObBd, C.bd]; exact hmbd _ _), k + 1, rfl, by omega, .inr ⟨by omega, rfl⟩⟩
   simp [hnew]
theorem IsMag.cc {r : World} {l : List Int} {v : Value} (h : IsMag r l v) : Cc ⟨r, []⟩ (.sl 1 (magC l)) v := Rd.sl_cc (fun x _ cs hx => by simp only [Rd] at hx; subst hx; simp [Ccs, Cc, Value.oneCell']) (fun _ => rfl) h
theorem Cc.isMag {r : World} {l : List Int} {v : Value} (h : Cc ⟨r, []⟩ (.sl 1 (magC l)) v) : IsMag r l v := Cc.sl_rd (f := fun n => V.val (.int .u32 n)) (fun x _ cs hx => by simp only [Ccs, Cc] at hx; obtain ⟨_, _, rfl, hx, rfl⟩ := hx; simp only [Rd]; rw [hx.1]) h
theorem IsBy.cc {r : World} {l : List Int} {v : Value} (h : IsBy r l v) : Cc ⟨r, []⟩ (.sl 1 (bitsC l)) v := Rd.sl_cc (fun x _ cs hx => by simp only [Rd] at hx; subst hx; simp [Ccs, Cc, Value.oneCell']) (fun _ => rfl) h
theorem num_ca {X : Cx} {neg : Bool} {l : List Int} {v : Value} (h : Ca ⟨X.r, []⟩ (.agg [.v (.bool neg), .sl 1 (magC l)]) v) : ∃ u, v = .agg #[.bool neg, u] ∧ IsMag X.r l u := by
 simp only [Ca, Ccs] at h
 obtain ⟨us, rfl, _, _, rfl, h1, u, _, rfl, h2, rfl⟩ := h
 simp only [Cc] at h1
 rw [h1.1]
 exact ⟨u, rfl, h2.isMag⟩
theorem value_pure (neg : Bool) (l : List Int) (hl : DigOk l) (hlen : l.length ≤ 1000000) : Pure Tryd.prog 85 [.agg [.v (.bool neg), .sl 1 (magC l)]] (.agg [.v (.bool (neg && decide (0 < (trimL (bitsL l)).length))), .sl 1 (bitsC (trimL (bitsL l)))]) := by
 refine pure_old fun w vs hg hv => ?_
 obtain ⟨v, rfl, hv1⟩ := hv.one1
 obtain ⟨u, rfl, hu⟩ := num_ca (X := ⟨w, []⟩) hv1
 refine (rvalue_any neg l w u hl hlen hu).mono fun e w' ⟨v', he, hx, hr⟩ => ⟨_, he, hx, ?_⟩
 simp only [Ca, Ccs]
 exact ⟨[_, v'], rfl, _, _, rfl, by simp [Cc, Value.oneCell'], v', _, rfl, hr.cc, rfl⟩
theorem numsame_pure (n1 n2 : Bool) (l m : List Int) : Pure Tryd.prog 51 [.agg [.v (.bool n1), .sl 1 (magC l)], .agg [.v (.bool n2), .sl 1 (magC m)]] (.one (.v (.bool (eqB (n1, l) (n2, m))))) := by
 refine pure_old_v rfl fun w vs hg hv => ?_
 obtain ⟨v, u, rfl, hv1, hu1⟩ := hv.two
 obtain ⟨v', rfl, hv'⟩ := num_ca (X := ⟨w, []⟩) hv1
 obtain ⟨u', rfl, hu'⟩ := num_ca (X := ⟨w, []⟩) hu1
 exact numsame_any n1 n2 l m w v' u' hv' hu'
theorem num_big (neg : Bool) (b : List Int) (hlen : 1536 < b.length) (hmax : b.length ≤ 1000000000) : Pure Tryd.prog 84 [.agg [.v (.bool neg), .sl 1 (bitsC b)]] (.tup [.agg [.v (.bool false), .sl 1 (magC [])], .one (.v (.int .i64 6))]) := by
 refine Fn.intro Tryd.func84 rfl Tryd.ntmps84 Tryd.results84 (by simp only [List.length_cons, List.length_nil]; decide) ?_
 repeat (first | (apply fw; (with_reducible constructor) <;> rfl) | (apply WpA.cd; constructor) | ((first | with_reducible refine WpA.go _ rfl fun Y y => ?_ | apply RunTo.id); simp only [zb, seval, w84, bitsC_len]; refine RunTo.fn y (by first | (simp; done) | omega | (simp; omega)) ?_; clear y Y))
 refine WpA.cond rfl (fun hc => ?_) (fun hc => ?_)
 case refine_2 => simp at hc; omega
 repeat (first | (apply fw; (with_reducible constructor) <;> rfl) | (apply WpA.cd; constructor) | ((first | with_reducible refine WpA.go _ rfl fun Y y => ?_ | apply RunTo.id); simp only [zb, seval, w84, bitsC_len]; refine RunTo.fn y (by first | (simp; done) | omega | (simp; omega)) ?_; clear y Y))
 refine ⟨by simp, _, _, _, _, (by simp only [zb, seval, w84]; rfl), (by simp), (by simp only [zv]; rfl), (by simp), _, ALe.tup (.cons (ALe.agg (.cons (.nil (.refl _)))) (.refl _)), rfl⟩
theorem trim_bits_len (l : List Int) (hl : DigOk l) : (trimL l).length = ((trimL (bitsL l)).length + 31) / 32 := by
 rw [← packL_trim l hl, packL_length]
theorem trimL_eq_iff (l : List Int) : trimL l = l ↔ (trimL l).length = l.length := by
 constructor
 ·intro h; rw [h]
 ·intro h
  obtain ⟨n, hn⟩ := trimL_split l
  have : n = 0 := by have := congrArg List.length hn; simp at this; omega
  subst this
  simpa using hn.symm
theorem numOk_long (neg : Bool) (l : List Int) (hl : DigOk l) (h : 1536 < (trimL (bitsL l)).length) : numOk neg l = false := by
 have h1 := trim_bits_len l hl
 have h2 : ¬ (l.length ≤ 48 ∧ (trimL l).length = l.length) := by omega
 unfold numOk
 cases hb : decide (l.length ≤ 48) && decide ((trimL l).length = l.length) with
 | false => rfl
 | true => simp only [Bool.and_eq_true, decide_eq_true_eq] at hb; exact absurd hb h2
theorem numOk_short (neg : Bool) (l : List Int) (hl : DigOk l) (h : (trimL (bitsL l)).length ≤ 1536) : numOk neg l = eqB (neg && decide (0 < (trimL (bitsL l)).length), packL (trimL (bitsL l))) (neg, l) := by
 have h1 := trim_bits_len l hl
 rw [packL_trim l hl]
 by_cases ht : trimL l = l
 ·have hlen : (trimL l).length = l.length := by rw [ht]
  have h48 : l.length ≤ 48 := by omega
  have e : numOk neg l = (!neg || decide (0 < l.length)) := by simp [numOk, hlen, h48]
  rw [e, ht]
  have hp : decide (0 < (trimL (bitsL l)).length) = decide (0 < l.length) := by congr 1; apply propext; omega
  rw [hp]
  cases neg with
  | false => rw [eqB_pos (by simp)]; rfl
  | true =>
   cases hd : decide (0 < l.length) with
   | false => rw [eqB_neg (by simp)]; rfl
   | true => rw [eqB_pos (by simp)]; rfl
 ·rw [eqB_neg (fun h => ht (congrArg Prod.snd h))]
  have : ¬ (trimL l).length = l.length := fun h => ht ((trimL_eq_iff l).2 h)
  simp [numOk, this]
theorem bits_ok (l : List Int) : BitOk (trimL (bitsL l)) := fun x hx => by
 have : x ∈ bitsL l := by
  obtain ⟨n, hn⟩ := trimL_split (bitsL l)
  rw [hn]; exact List.mem_append_left _ hx
 simp only [bitsL, List.mem_flatMap] at this
 obtain ⟨m, _, hm⟩ := this
 simp only [bits32, List.mem_map] at hm
 obtain ⟨k, _, rfl⟩ := hm
 generalize m / 2 ^ k = y
 omega
theorem rnummay_pure (neg : Bool) (l : List Int) (hl : DigOk l) (hlen : l.length ≤ 1000000) : Pure Tryd.prog 75 [.agg [.v (.bool neg), .sl 1 (magC l)]] (.one (.v (.bool (numOk neg l)))) := by
 have hbl : (trimL (bitsL l)).length ≤ 32000000 := by have := trimL_length_le (bitsL l); rw [bitsL_length] at this; omega
 by_cases hs : (trimL (bitsL l)).length ≤ 1536
 ·rw [numOk_short neg l hl hs]
  refine Fn.intro Tryd.func75 rfl Tryd.ntmps75 Tryd.results75 (by simp only [List.length_cons, List.length_nil]; decide) ?_
  repeat (first | (apply fw; (with_reducible constructor) <;> rfl) | (apply WpA.cd; constructor) | ((first | with_reducible refine WpA.go _ rfl fun Y y => ?_ | apply RunTo.id); simp only [zb, seval, w75]; refine RunTo.fn y (by first | (simp; done) | omega | (simp; omega)) ?_; clear y Y))
  refine WpL.call rfl (guardA_sound (P := Tryd.prog) rfl) (CallA.shut rfl rfl (by kernel_rfl) (ALes.refl _) (by first | rfl | simp [shuts, A.shut, C.shut]) (value_pure neg l hl hlen) ?_)
  (refine WpL.go _ rfl fun Y y => ?_); repeat (first | (apply fw; (with_reducible constructor) <;> rfl) | (apply WpA.cd; constructor) | ((first | with_reducible refine WpA.go _ rfl fun Y y => ?_ | apply RunTo.id); simp only [zb, seval, w75]; refine RunTo.fn y (by first | (simp; done) | omega | (simp; omega)) ?_; clear y Y))
  refine WpL.call rfl (guardA_sound (P := Tryd.prog) rfl) (CallA.shut rfl rfl (by kernel_rfl) (ALes.refl _) (by first | rfl | simp [shuts, A.shut, C.shut]) (num_pure _ _ (bits_ok l) hs) ?_)
  (refine WpL.go _ rfl fun Y y => ?_); repeat (first | (apply fw; (with_reducible constructor) <;> rfl) | (apply WpA.cd; constructor) | ((first | with_reducible refine WpA.go _ rfl fun Y y => ?_ | apply RunTo.id); simp only [zb, seval, w75]; refine RunTo.fn y (by first | (simp; done) | omega | (simp; omega)) ?_; clear y Y))
  refine WpL.call rfl (guardA_sound (P := Tryd.prog) rfl) (CallA.shut rfl rfl (by kernel_rfl) (ALes.refl _) (by first | rfl | simp [shuts, A.shut, C.shut]) (numsame_pure _ _ _ _) ?_)
  (refine WpL.go _ rfl fun Y y => ?_); repeat (first | (apply fw; (with_reducible constructor) <;> rfl) | (apply WpA.cd; constructor) | ((first | with_reducible refine WpA.go _ rfl fun Y y => ?_ | apply RunTo.id); simp only [zb, seval, w75]; refine RunTo.fn y (by first | (simp; done) | omega | (simp; omega)) ?_; clear y Y))
  refine ⟨by simp, _, _, _, _, (by simp only [zb, seval, w75]; rfl), (by simp), (by simp only [zv]; rfl), (by simp), _, ALe.refl _, ?_⟩
  rfl
 ·rw [numOk_long neg l hl (by omega)]
  refine Fn.intro Tryd.func75 rfl Tryd.ntmps75 Tryd.results75 (by simp only [List.length_cons, List.length_nil]; decide) ?_
  repeat (first | (apply fw; (with_reducible constructor) <;> rfl) | (apply WpA.cd; constructor) | ((first | with_reducible refine WpA.go _ rfl fun Y y => ?_ | apply RunTo.id); simp only [zb, seval, w75]; refine RunTo.fn y (by first | (simp; done) | omega | (simp; omega)) ?_; clear y Y))
  refine WpL.call rfl (guardA_sound (P := Tryd.prog) rfl) (CallA.shut rfl rfl (by kernel_rfl) (ALes.refl _) (by first | rfl | simp [shuts, A.shut, C.shut]) (value_pure neg l hl hlen) ?_)
  (refine WpL.go _ rfl fun Y y => ?_); repeat (first | (apply fw; (with_reducible constructor) <;> rfl) | (apply WpA.cd; constructor) | ((first | with_reducible refine WpA.go _ rfl fun Y y => ?_ | apply RunTo.id); simp only [zb, seval, w75]; refine RunTo.fn y (by first | (simp; done) | omega | (simp; omega)) ?_; clear y Y))
  refine WpL.call rfl (guardA_sound (P := Tryd.prog) rfl) (CallA.shut rfl rfl (by kernel_rfl) (ALes.refl _) (by first | rfl | simp [shuts, A.shut, C.shut]) (num_big _ _ (by omega) (by omega)) ?_)
  (refine WpL.go _ rfl fun Y y => ?_); repeat (first | (apply fw; (with_reducible constructor) <;> rfl) | (apply WpA.cd; constructor) | ((first | with_reducible refine WpA.go _ rfl fun Y y => ?_ | apply RunTo.id); simp only [zb, seval, w75]; refine RunTo.fn y (by first | (simp; done) | omega | (simp; omega)) ?_; clear y Y))
  refine ⟨by simp, _, _, _, _, (by simp only [zb, seval, w75]; rfl), (by simp), (by simp only [zv]; rfl), (by simp), _, ALe.refl _, ?_⟩
  rfl
end Go.Proofs.YtpacdmgnpadleaaDoor
end
