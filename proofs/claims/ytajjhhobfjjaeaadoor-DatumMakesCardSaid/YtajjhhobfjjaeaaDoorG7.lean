/-
  Laid together: Ref4, Ref5, Ref6.
-/
import Derived.Test.YtajjhhobfjjaeaaDoorPlain3
import Derived.Test.YtajjhhobfjjaeaaDoorCopy
import Derived.Test.YtajjhhobfjjaeaaDoorNum
import Derived.Laws.BitsAllLaws

section
/-
  The document's numbers: rows of bits. Plain laws: no program in sight.
-/
namespace Go.Proofs.YtajjhhobfjjaeaaDoor
set_option linter.unusedSimpArgs false
set_option linter.unusedVariables false

/-- The bits of a digit, the lowest first. -/
def bits32 (m : Int) : List Int := (List.range 32).map fun k => m / 2 ^ k % 2
/-- The bits of all digits. -/
def bitsL (l : List Int) : List Int := l.flatMap bits32
/-- What so many bits are worth. -/
def packB : List Int → Int
  | [] => 0
  | b :: r => b + 2 * packB r
/-- Digits out of bits. -/
def packL (b : List Int) : List Int := if h : b = [] then [] else packB (b.take 32) :: packL (b.drop 32)
termination_by b.length
decreasing_by rw [List.length_drop]; have := List.length_pos_iff.2 h; omega

theorem bits32_length (m : Int) : (bits32 m).length = 32 := by simp [bits32]
theorem bitsL_length (l : List Int) : (bitsL l).length = 32 * l.length := by
  induction l with
  | nil => rfl
  | cons m l ih => simp only [bitsL, List.flatMap_cons, List.length_append, bits32_length, List.length_cons] at *; omega
theorem packB_append (a b : List Int) : packB (a ++ b) = packB a + 2 ^ a.length * packB b := by
  induction a with
  | nil => simp [packB]
  | cons x a ih =>
    simp only [List.cons_append, packB, ih, List.length_cons, Int.pow_succ]
    rw [Int.mul_add, Int.mul_comm (2 ^ a.length) 2, Int.mul_assoc]; omega
theorem packB_zeros (n : Nat) : packB (List.replicate n 0) = 0 := by
  induction n with
  | zero => rfl
  | succ n ih => rw [List.replicate_succ, packB, ih]; rfl
/-- The low bits. -/
theorem packB_bits (m : Int) (hm : 0 ≤ m) : ∀ n : Nat, packB ((List.range n).map fun k => m / 2 ^ k % 2) = m % 2 ^ n
  | 0 => by simp [packB]
  | n + 1 => by
    rw [List.range_succ, List.map_append, packB_append, packB_bits m hm n]
    simp only [List.map_cons, List.map_nil, packB, List.length_map, List.length_range, Int.mul_zero, Int.add_zero]
    have h1 : (m : Int) % 2 ^ (n + 1) = m % 2 ^ n + 2 ^ n * (m / 2 ^ n % 2) := by
      obtain ⟨k, rfl⟩ := Int.eq_ofNat_of_zero_le hm
      rw [Int.pow_succ]
      have := Nat.mod_mul (x := k) (a := 2 ^ n) (b := 2)
      exact_mod_cast this
    rw [h1]
theorem packB_bits32 (m : Int) (h0 : 0 ≤ m) (h1 : m ≤ 4294967295) : packB (bits32 m) = m := by
  unfold bits32
  rw [packB_bits m h0 32]
  exact Int.emod_eq_of_lt h0 (by omega)

theorem dropWhile_append_ne {α : Type} (p : α → Bool) : ∀ (c a : List α), c.dropWhile p ≠ [] → (c ++ a).dropWhile p = c.dropWhile p ++ a
  | [], a, h => absurd rfl h
  | x :: c, a, h => by
    rw [List.cons_append, List.dropWhile_cons, List.dropWhile_cons] at *
    split
    · rename_i hx; rw [if_pos hx] at h; exact dropWhile_append_ne p c a h
    · rfl
theorem trimL_append_ne (a c : List Int) (h : trimL c ≠ []) : trimL (a ++ c) = a ++ trimL c := by
  unfold trimL at h ⊢
  rw [List.reverse_append, dropWhile_append_ne _ _ _ (fun e => h (by rw [e]; rfl)), List.reverse_append, List.reverse_reverse]
theorem trimL_zeros (a : List Int) : ∀ n : Nat, trimL (a ++ List.replicate n 0) = trimL a
  | 0 => by simp
  | n + 1 => by rw [List.replicate_succ', ← List.append_assoc, trimL_snoc_zero, trimL_zeros a n]
theorem trimL_split (l : List Int) : ∃ n, l = trimL l ++ List.replicate n 0 := by
  generalize hn : l.length = n
  induction n generalizing l with
  | zero => exact ⟨0, by have : l = [] := List.eq_nil_of_length_eq_zero hn; subst this; rfl⟩
  | succ n ih =>
    have hne : l ≠ [] := fun e => by subst e; simp at hn
    have e := List.dropLast_concat_getLast hne
    by_cases h0 : l.getLast hne = 0
    · obtain ⟨m, hm⟩ := ih l.dropLast (by rw [List.length_dropLast, hn]; rfl)
      refine ⟨m + 1, ?_⟩
      rw [h0] at e
      rw [List.replicate_succ', ← List.append_assoc]
      conv => lhs; rw [← e]
      rw [show trimL l = trimL l.dropLast by conv => lhs; rw [← e, trimL_snoc_zero]]
      rw [← hm]
    · refine ⟨0, ?_⟩
      rw [List.replicate_zero, List.append_nil]
      conv => lhs; rw [← e]
      rw [← trimL_snoc _ _ h0, e]
theorem packB_trim (c : List Int) : packB (trimL c) = packB c := by
  obtain ⟨n, hn⟩ := trimL_split c
  conv => rhs; rw [hn]
  rw [packB_append, packB_zeros]; simp
theorem packL_nil : packL [] = [] := by rw [packL]; simp
theorem packL_ne {b : List Int} (h : b ≠ []) : packL b = packB (b.take 32) :: packL (b.drop 32) := by rw [packL, dif_neg h]
theorem packL_bits (m : Int) (r : List Int) : packL (bits32 m ++ r) = packB (bits32 m) :: packL r := by
  have hl := bits32_length m
  rw [packL_ne (fun e => by have := congrArg List.length e; simp [hl] at this), List.take_left' hl, List.drop_left' hl]
theorem packL_small {b : List Int} (h : b ≠ []) (hl : b.length ≤ 32) : packL b = [packB b] := by
  rw [packL_ne h, List.take_of_length_le hl, List.drop_of_length_le hl, packL_nil]
def DigOk (l : List Int) : Prop := ∀ m ∈ l, 0 ≤ m ∧ m ≤ 4294967295
theorem packL_bitsL (l : List Int) (hl : DigOk l) (c : List Int) : packL (bitsL l ++ c) = l ++ packL c := by
  induction l with
  | nil => rfl
  | cons m l ih =>
    simp only [bitsL, List.flatMap_cons, List.append_assoc]
    rw [packL_bits, packB_bits32 m (hl m (by simp)).1 (hl m (by simp)).2]
    have := ih (fun x hx => hl x (by simp [hx]))
    simp only [bitsL] at this
    rw [this]; rfl
theorem bits32_zero : bits32 0 = List.replicate 32 0 := by decide
theorem bitsL_snoc (l : List Int) (m : Int) : bitsL (l ++ [m]) = bitsL l ++ bits32 m := by simp [bitsL]
theorem bits_ne {m : Int} (h0 : 0 ≤ m) (h1 : m ≤ 4294967295) (hm : m ≠ 0) : trimL (bits32 m) ≠ [] := fun e => by
  have := packB_trim (bits32 m)
  rw [e, packB_bits32 m h0 h1] at this
  exact hm this.symm
/-- **Digits by their bits**: without noughts at the end, of bits and of digits. -/
theorem packL_trim (l : List Int) (hl : DigOk l) : packL (trimL (bitsL l)) = trimL l := by
  generalize hn : l.length = n
  induction n generalizing l with
  | zero => have : l = [] := List.eq_nil_of_length_eq_zero hn; subst this; exact packL_nil
  | succ n ih =>
    have hne : l ≠ [] := fun e => by subst e; simp at hn
    have e := List.dropLast_concat_getLast hne
    have hd : DigOk l.dropLast := fun m hm => hl m (List.dropLast_subset _ hm)
    have hg := hl _ (List.getLast_mem hne)
    by_cases h0 : l.getLast hne = 0
    · rw [h0] at e
      rw [← e, bitsL_snoc, bits32_zero, trimL_zeros, trimL_snoc_zero]
      exact ih l.dropLast hd (by rw [List.length_dropLast, hn]; rfl)
    · have hb := bits_ne hg.1 hg.2 h0
      rw [← e, bitsL_snoc, trimL_append_ne _ _ hb, trimL_snoc _ _ h0, packL_bitsL _ hd]
      rw [packL_small hb (by have := trimL_length_le (bits32 (l.getLast hne)); rw [bits32_length] at this; exact this), packB_trim, packB_bits32 _ hg.1 hg.2]
theorem packL_length (b : List Int) : (packL b).length = (b.length + 31) / 32 := by
  generalize hn : b.length = n
  induction n using Nat.strongRecOn generalizing b with
  | _ n ih =>
    by_cases h : b = []
    · subst h; rw [packL_nil]; simp at hn; subst hn; rfl
    · have hp := List.length_pos_iff.2 h
      rw [packL_ne h, List.length_cons, ih (b.drop 32).length (by rw [List.length_drop]; omega) _ rfl, List.length_drop]
      omega
/-- One bit more. -/
theorem packL_snoc (x : Int) (b : List Int) : packL (b ++ [x]) = if b.length % 32 = 0 then packL b ++ [x] else (packL b).set (b.length / 32) ((packL b).getD (b.length / 32) 0 + x * 2 ^ (b.length % 32)) := by
  generalize hn : b.length = n
  induction n using Nat.strongRecOn generalizing b with
  | _ n ih =>
    by_cases h : b = []
    · subst h
      simp at hn; subst hn
      rw [packL_nil, List.nil_append, packL_small (by simp) (by simp)]
      simp [packB]
    · have hp := List.length_pos_iff.2 h
      by_cases hs : n < 32
      · rw [packL_small (by simp) (by simp; omega), packL_small h (by omega), packB_append, hn]
        rw [if_neg (by omega), Nat.div_eq_of_lt hs, Nat.mod_eq_of_lt hs]
        simp [packB, Int.mul_comm]
      · rw [packL_ne (b := b ++ [x]) (by simp), packL_ne h, List.take_append_of_le_length (by omega), List.drop_append_of_le_length (by omega), ih (n - 32) (by omega) (b.drop 32) (by rw [List.length_drop]; omega)]
        have e1 : n / 32 = (n - 32) / 32 + 1 := by omega
        have e2 : n % 32 = (n - 32) % 32 := by omega
        rw [e1, e2]
        split <;> simp
end Go.Proofs.YtajjhhobfjjaeaaDoor
end

section
/-
  The document's numbers, walked: cut, value, Value.
-/
namespace Go.Proofs.YtajjhhobfjjaeaaDoor
open Go.RowKit
set_option linter.unusedSimpArgs false
set_option linter.unusedVariables false

/-- A slice's value that reads as a row of bytes. -/
def IsBy (w : World) (l : List Int) (v : Value) : Prop := Rd w (.sl (l.map fun n => .val (.int .u8 n))) [v]
theorem IsBy.keep {w w' : World} (hk : Keeps w w') {l : List Int} {v : Value} (h : IsBy w l v) : IsBy w' l v := Rd.keep hk h
theorem IsBy.form {w : World} {l : List Int} {v : Value} (h : IsBy w l v) : ∃ a cap, v = .slice a l.length cap ∧ l.length ≤ cap ∧ cap ≤ maxLen := by
  obtain ⟨a, cap, e, h1, h2⟩ := Rd.sl_form h
  rw [List.length_map] at e h1
  exact ⟨a, cap, e, h1, h2⟩
theorem IsBy.get {w : World} {l : List Int} {a : Option Addr} {n cap : Nat} (h : IsBy w l (.slice a n cap)) (i : Nat) (hi : i < l.length) :
    ∃ b o, a = some ⟨b, o, none⟩ ∧ w.cell? ⟨b, o + i, none⟩ = some (.int .u8 l[i]) := by
  simp only [IsBy, Rd] at h
  obtain ⟨_, e, h⟩ := h
  cases e
  rcases h with ⟨h0, h1⟩ | ⟨b, o, cap', e, l1, l2, hr⟩
  · have h0 : l = [] := by simpa using h0
    subst h0
    exact absurd hi (by simp)
  · cases e
    refine ⟨b, o, rfl, ?_⟩
    obtain ⟨cs, h1, h2, h3⟩ := RdRow.get hr (n := 1) (fun e he => by obtain ⟨d, _, rfl⟩ := List.mem_map.1 he; rfl) i (by simpa using hi)
    rw [List.getElem_map] at h2
    simp only [Rd] at h2
    subst h2
    simpa using h1.1
theorem IsBy.take {w : World} {l : List Int} {a : Option Addr} {cap n : Nat} (h : IsBy w l (.slice a l.length cap)) (hn : n ≤ l.length) : IsBy w (l.take n) (.slice a n cap) := by
  unfold IsBy at h ⊢
  rw [List.map_take]
  exact Rd.take (by simpa using h) (by simpa using hn)

set_option maxHeartbeats 1000000 in
theorem cut_any (l : List Int) (w : World) (a : Option Addr) (cap : Nat) (h : IsBy w l (.slice a l.length cap)) :
    Calls Tryd.prog 60 #[.slice a l.length cap] w fun e w' => ∃ n, n ≤ l.length ∧ trimL l = l.take n ∧ e = .returned (.slice a n cap) ∧ Ext w w' := by
  obtain ⟨a', cap', e', h1, h2⟩ := h.form
  cases e'
  unfold maxLen at h2
  go_enter Tryd.func60, Tryd.ntmps60
  go_wp2
  go_loop [3] (fun i => ∃ n : Nat, n ≤ l.length ∧ i = .int .i64 n ∧ (∀ i (h : i < l.length), n ≤ i → l[i] = 0)) (fun i => (intOf i).toNat)
  case atStart => exact ⟨l.length, Nat.le_refl _, rfl, fun i h hi => by omega⟩
  case round =>
    obtain ⟨n, hn, rfl, hz⟩ := hrel
    have HZ := Lib.hid hz; clear hz
    by_cases hp : 0 < n
    case neg =>
      have ed : decide ((0 : Int) < n) = false := by simp; omega
      have hn0 : n = 0 := by omega
      subst hn0
      have hfin := trimL_of l 0 (Nat.zero_le _) HZ.out (fun h => absurd h (by omega))
      have HF := Lib.hid hfin; clear hfin
      go_wp2
      go_ret
      exact ⟨0, Nat.zero_le _, HF.out, rfl, Ext.refl _⟩
    obtain ⟨k, rfl⟩ : ∃ k, n = k + 1 := ⟨n - 1, by omega⟩
    have hk : k < l.length := by omega
    obtain ⟨b, o, rfl, c⟩ := h.get k hk
    by_cases hl : l[k] = 0
    · have e0 : (l[k] == 0) = true := by simpa using hl
      have hz' : ∀ i (h : i < l.length), k ≤ i → l[i] = 0 := fun i hi hki => by
        rcases Nat.lt_or_ge k i with h' | h'
        · exact HZ.out i hi (by omega)
        · obtain rfl : i = k := by omega
          exact hl
      have HL := Lib.hid hz'; clear hl hz'
      go_wp2
      go_round
      case rel => exact ⟨k, by omega, by go_num, HL.out⟩
      case measure => simp [intOf]
    · have e0 : (l[k] == 0) = false := by simpa using hl
      have hfin := trimL_of l (k + 1) hn HZ.out (fun h => by simpa using hl)
      have HF := Lib.hid hfin; clear hfin hl
      go_wp2
      go_ret
      exact ⟨k + 1, hn, HF.out, rfl, Ext.refl _⟩

set_option maxHeartbeats 1000000 in
theorem value_any (neg : Bool) (l : List Int) (w : World) (a : Option Addr) (cap : Nat) (h : IsBy w l (.slice a l.length cap)) :
    Calls Tryd.prog 55 #[.bool neg, .slice a l.length cap] w fun e w' => ∃ n, n ≤ l.length ∧ trimL l = l.take n ∧ e = .returned (.agg #[.bool (neg && decide (0 < n)), .slice a n cap]) ∧ Ext w w' := by
  have hx0 := (Ext.refl w).alloc (.cells #[.bool false, .slice none 0 0] 58)
  have b0 := heap_new w (.cells #[.bool false, .slice none 0 0] 58)
  have HC := Lib.hid (cut_any l _ _ _ (h.keep hx0.keeps))
  clear h
  go_enter Tryd.func55, Tryd.ntmps55
  go_wp2_with fail
  refine HC.out.mono ?_
  rintro e w1 ⟨n, hn, ht, rfl, hx1⟩
  have b0 := (hx1.block _ (by simp)).trans b0
  have hc0 := cell_of b0
  have hf0 := frozen_of b0
  have HT := Lib.hid ht; clear ht b0
  cases neg with
  | true =>
    go_wp2_with fail
    refine bodyPost_ret (v := .agg #[.bool (true && decide (0 < n)), .slice a n cap]) (by simp [results, Tryd.results55, go_sem, hc0]) rfl ⟨n, hn, HT.out, rfl, ?_⟩
    repeat (first | (with_reducible exact hx0.trans hx1) | (with_reducible refine Ext.alloc ?_ _) | ((with_reducible refine Ext.setCell ?_ ?hh9 _); (case hh9 => (first | (simp; done) | (simp; omega) | omega))) | (with_reducible refine Ext.drew ?_))
  | false =>
    go_wp2_with fail
    refine bodyPost_ret (v := .agg #[.bool (false && decide (0 < n)), .slice a n cap]) (by simp [results, Tryd.results55, go_sem, hc0]) rfl ⟨n, hn, HT.out, rfl, ?_⟩
    repeat (first | (with_reducible exact hx0.trans hx1) | (with_reducible refine Ext.alloc ?_ _) | ((with_reducible refine Ext.setCell ?_ ?hh9 _); (case hh9 => (first | (simp; done) | (simp; omega) | omega))) | (with_reducible refine Ext.drew ?_))

end Go.Proofs.YtajjhhobfjjaeaaDoor
end

section
/-
  The document's numbers, walked: Value.
-/
namespace Go.Proofs.YtajjhhobfjjaeaaDoor
open Go.RowKit
set_option linter.unusedSimpArgs false
set_option linter.unusedVariables false

theorem bit_at (x : Int) (m : Nat) (h0 : 0 ≤ x) (h1 : x ≤ 4294967295) : bits BinOp.and IntKind.u32 (x / 2 ^ m) 1 % 256 = x / 2 ^ m % 2 := by
  have hp : (0 : Int) < 2 ^ m := Int.pow_pos (by decide)
  have h2 : 0 ≤ x / 2 ^ m := Int.ediv_nonneg h0 (Int.le_of_lt hp)
  have h3 : x / 2 ^ m ≤ x := Int.ediv_le_self _ h0
  rw [u32_and _ _ h2 (by omega) (by decide) (by decide)]
  generalize x / 2 ^ m = y at *
  obtain ⟨n, rfl⟩ := Int.eq_ofNat_of_zero_le h2
  rw [Int.toNat_natCast, show Int.toNat 1 = 1 from rfl, Nat.and_one_is_mod]
  omega
theorem bits32_take (x : Int) (m : Nat) (h : m < 32) : (bits32 x).take (m + 1) = (bits32 x).take m ++ [x / 2 ^ m % 2] := by
  rw [List.take_succ_eq_append_getElem (by rw [bits32_length]; exact h)]
  simp [bits32]
theorem infoU8 : ((Tryd.prog.info? 5).map fun i => (i.zero, i.size, i.bytes)) = some (some (.int .u8 0), 1, 1) := by kernel_rfl
/-- A slice of the call's own that a row of bytes is put into. -/
def OwnBy (w : World) (B : Nat) (l : List Int) (v : Value) : Prop := Own w B 5 1 (l.map fun n => .val (.int .u8 n)) v

set_option maxRecDepth 100000 in
set_option maxHeartbeats 1000000 in
theorem rvalue_any (neg : Bool) (l : List Int) (w : World) (v : Value) (hl : DigOk l) (hlen : l.length ≤ 1000000) (h : IsMag w l v) :
    Calls Tryd.prog 40 #[.agg #[.bool neg, v]] w fun e w' => ∃ v', e = .returned (.agg #[.bool (neg && decide (0 < (trimL (bitsL l)).length)), v']) ∧ Ext w w' ∧ IsBy (since w' w.heap.size) (trimL (bitsL l)) v' := by
  obtain ⟨a, cap, rfl, h1, h2⟩ := h.form
  unfold maxLen at h2
  have hx0 := ((Ext.refl w).alloc (.cells #[.bool neg, .slice a l.length cap] 24)).alloc (.cells #[.bool false, .slice none 0 0] 58)
  have b0 := heap_new0 w (.cells #[.bool neg, .slice a l.length cap] 24) (.cells #[.bool false, .slice none 0 0] 58)
  have b1 := heap_new1 w (.cells #[.bool neg, .slice a l.length cap] 24) (.cells #[.bool false, .slice none 0 0] 58)
  go_enter Tryd.func40, Tryd.ntmps40
  go_wp2_with fail
  generalize (w.alloc (.cells #[.bool neg, .slice a l.length cap] 24)).alloc (.cells #[.bool false, .slice none 0 0] 58) = w1 at *
  have hsz : w.heap.size + 2 ≤ w1.heap.size := by have := (Array.getElem?_eq_some_iff.1 b1).1; omega
  obtain ⟨i0, hi, hz0, hz1, hz2⟩ := info_parts infoU8
  have HB := Lib.hid (And.intro b0 (And.intro b1 h)); clear b0 b1
  go_loopw [3, 4, 5] (fun s i _ wr => ∃ k : Nat, k ≤ l.length ∧ i = .int .i64 k ∧ Ext w1 wr ∧ OwnBy wr w1.heap.size (bitsL (l.take k)) s) (fun _ i _ _ => l.length - (intOf i).toNat)
  case atStart => exact ⟨0, Nat.zero_le _, rfl, Ext.refl _, by simpa [OwnBy, bitsL] using Own.nil _ _ _ _⟩
  case round =>
    obtain ⟨k, hk, rfl, hxr, hown⟩ := hrel
    have hx2 := hx0.trans hxr
    have b0 := (hxr.block _ (by omega)).trans HB.out.1
    have hc0 := cell_of b0
    have HOWN := Lib.hid hown; clear hown
    by_cases hlt : k < l.length
    · obtain ⟨b, o, rfl, hcell⟩ := h.get k hlt
      clear h
      go_wp2_with fail
      go_loopw [3, 5] (fun s j w2 => ∃ m : Nat, m ≤ 32 ∧ j = .int .i64 m ∧ Ext w1 w2 ∧ OwnBy w2 w1.heap.size (bitsL (l.take k) ++ (bits32 l[k]).take m) s) (fun _ j _ => 32 - (intOf j).toNat)
      case atStart => exact ⟨0, Nat.zero_le _, rfl, hxr, by simpa using HOWN.out⟩
      clear hc0 b0 HOWN hx2 hxr
      case round =>
        obtain ⟨m, hm, rfl, hxm, hown⟩ := hrel
        have b0 := (hxm.block _ (by omega)).trans HB.out.1
        have hc0 := cell_of b0
        have hcell := (hx0.trans hxm).keeps _ _ hcell
        have HOWN := Lib.hid hown; clear hown
        by_cases hml : m < 32
        · have hdg := hl l[k] (List.getElem_mem _)
          have hbit := bit_at l[k] m hdg.1 hdg.2
          have hll := bitsL_length (l.take k)
          have hlt2 : (l.take k).length ≤ 1000000 := by rw [List.length_take]; omega
          have hlm : (List.map (fun n : Int => V.val (.int .u8 n)) (bitsL (l.take k) ++ (bits32 l[k]).take m)).length ≤ 33000000 := by
            rw [List.length_map, List.length_append, List.length_take, bits32_length]; omega
          have hle := hxm.le
          have HO : Own wr w1.heap.size 5 1 _ _ := HOWN.out
          go_wp2_with (at_builtin; go_loud (refine wpList_append_new (w := wr) (w2 := wr) rfl _ _ 56 rfl w1.heap.size 5 i0 _ 1 1 Tryd.underlying56 hi hz0 hz1 hz2 rfl (by decide) _ _ rfl HO hle (Ext.refl _) [.int .u8 (l[k] / 2 ^ m % 2)] (.val (.int .u8 (l[k] / 2 ^ m % 2))) 5 rfl rfl (by simp [plainV, Value.oneCell']) (by simp only [Rd]) (by unfold maxLen; omega) (by omega) ?_); intro v2 w3 hown' hbb; have hx5 : Ext w1 w3 := (hxm.alloc _).below hbb; have H1 := Lib.hid (And.intro hown' hx5); clear hown' hbb hx5)
          go_roundw
          case rel =>
            refine ⟨m + 1, by omega, by go_num, H1.out.2, ?_⟩
            have := H1.out.1
            unfold OwnBy
            rw [bits32_take _ _ hml, ← List.append_assoc, List.map_append, List.map_cons, List.map_nil]
            exact this
          case measure => simp [intOf]; omega
        · obtain rfl : m = 32 := by omega
          go_wp2_with fail
          refine ⟨⟨k + 1, by omega, by go_num, hxm, ?_⟩, by simp [intOf]; omega⟩
          have := HOWN.out
          rw [List.take_of_length_le (l := bits32 l[k]) (i := 32) (by rw [bits32_length]; exact Nat.le_refl _)] at this
          rw [List.take_succ_eq_append_getElem hlt, bitsL_snoc]
          exact this
    · have hkl : l.take k = l := List.take_of_length_le (by omega)
      rw [hkl] at HOWN
      clear h
      have hlb := bitsL_length l
      have HO : Own wr w1.heap.size 5 1 _ _ := HOWN.out
      have HF := HO.form
      rw [List.length_map] at HF
      obtain ⟨a9, c9, rfl, -, -⟩ := HF
      have HBy : IsBy (since wr w1.heap.size) (bitsL l) (.slice a9 (bitsL l).length c9) := HO.reads
      have HV := Lib.hid (And.intro (value_any neg (bitsL l) wr a9 c9 (HBy.keep (since_keeps _ _))) HBy)
      have HT := Lib.hid (And.intro HB.out.2.1 hxr)
      clear HOWN HB HO HBy hlb hkl
      clear b0
      go_wp2_with fail
      refine HV.out.1.mono ?_
      rintro e w3 ⟨n, hn, ht, rfl, hx3⟩
      have b1 := (hx3.block _ (by have := HT.out.2.le; omega)).trans ((HT.out.2.block _ (by omega)).trans HT.out.1)
      have hc1 := cell_of b1
      have hf1 := frozen_of b1
      clear hc0
      have HN := Lib.hid ht; clear ht
      have hle1 := HT.out.2.le
      go_wp2_with fail
      refine bodyPost_ret (v := .agg #[.bool (neg && decide (0 < n)), .slice a9 n c9]) (by simp [results, Tryd.results40, go_sem, hc1]) rfl ?_
      rw [HN.out, List.length_take, Nat.min_eq_left hn]
      refine ⟨_, rfl, ?_, ?_⟩
      · repeat (first | (with_reducible exact hx2.trans hx3) | (with_reducible refine Ext.alloc ?_ _) | ((with_reducible refine Ext.setCell ?_ ?hh9 _); (case hh9 => (first | (simp; done) | (simp; omega) | omega))) | (with_reducible refine Ext.drew ?_))
      · refine (HV.out.2.take hn).keep (Keeps.trans ?_ (since_mono _ (show w.heap.size ≤ w1.heap.size by omega)))
        repeat (with_reducible refine Keeps.trans ?_ (since_setCell _ ?hh _); case hh => (simp; omega))
        exact since_ext _ hx3
end Go.Proofs.YtajjhhobfjjaeaaDoor
end
