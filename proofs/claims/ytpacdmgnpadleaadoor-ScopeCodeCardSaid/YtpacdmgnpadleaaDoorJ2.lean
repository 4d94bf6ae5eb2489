/-
 Laid together: Run0, Run1, Ref2, Small, RP1, RP2, RDepth, RMay.
-/
import Derived.Test.YtpacdmgnpadleaaDoorPlain4
import Derived.Laws.BitsLemmas
import Derived.Laws.BitsAllLaws
import Derived.Test.YtpacdmgnpadleaaDoorJ1
import Derived.Test.YtpacdmgnpadleaaDoorPlain2
import Derived.Test.YtpacdmgnpadleaaDoorDepth
import Derived.Test.YtpacdmgnpadleaaDoorG7
section
namespace Go.Proofs.YtpacdmgnpadleaaDoor
open Go Go.Lib
set_option linter.unusedSimpArgs false
set_option linter.unusedVariables false
def badAt (s : ByteArray) (i : Nat) : Prop := Utf8.decode s i = (65533, 1)
def runesFrom (s : ByteArray) : Nat → Nat → List Int
 | 0, _ => []
 | f + 1, pos => if pos < s.size then ((Utf8.decode s pos).1 : Int) :: runesFrom s f (pos + (Utf8.decode s pos).2) else []
theorem runesFrom_len (s : ByteArray) : ∀ f pos, (runesFrom s f pos).length = runeCountFrom s f pos
 | 0, _ => rfl
 | f + 1, pos => by
  rw [runesFrom, runeCountFrom]
  split
  ·rw [List.length_cons, runesFrom_len]; omega
  ·rfl
theorem runesFrom_end (s : ByteArray) (f pos : Nat) (h : s.size ≤ pos) : runesFrom s f pos = [] := by
 cases f with
 | zero => rfl
 | succ f => rw [runesFrom, if_neg (by omega)]
theorem runesFrom_step (s : ByteArray) (f pos : Nat) (h : pos < s.size) (hf : s.size - pos ≤ f) : ∃ g, s.size - (pos + (Utf8.decode s pos).2) ≤ g ∧ runesFrom s f pos = ((Utf8.decode s pos).1 : Int) :: runesFrom s g (pos + (Utf8.decode s pos).2) := by
 cases f with
 | zero => omega
 | succ f =>
  refine ⟨f, ?_, by rw [runesFrom, if_pos h]⟩
  have := width_pos s pos
  omega
theorem drop_ne {s : ByteArray} {i : Nat} (h : i < s.size) : s.data.toList.drop i ≠ [] := fun e => by
 have := congrArg List.length e
 simp only [List.length_drop, List.length_nil, Array.length_toList] at this
 have h2 : s.size = s.data.size := rfl
 omega
theorem valid_bad {s : ByteArray} {i : Nat} (h : i < s.size) (hb : badAt s i) : validD (s.data.toList.drop i) = false := by
 rw [validD_step _ (drop_ne h), decodeL_drop, hb]; rfl
theorem valid_good {s : ByteArray} {i n : Nat} {c : Nat} (h : i < s.size) (hd : Utf8.decode s i = (c, n)) (hb : ¬ (c = 65533 ∧ n = 1)) : validD (s.data.toList.drop i) = validD (s.data.toList.drop (i + n)) := by
 rw [validD_step _ (drop_ne h), decodeL_drop, hd, if_neg hb, List.drop_drop]
def at_ (s : ByteArray) (i : Nat) : Nat := (s.get! i).toNat
theorem at_lt (s : ByteArray) (i : Nat) : at_ s i < 256 := UInt8.toNat_lt _
theorem at_get {s : ByteArray} {i : Nat} (h : i < s.size) : ∃ z : UInt8, s[i]? = some z ∧ z.toNat = at_ s i := by
 have h2 : i < s.data.size := h
 refine ⟨s.data[i], ?_, ?_⟩
 ·rw [getElem?_pos s i h]; rfl
 ·unfold at_
  show _ = (s.data[i]!).toNat
  rw [getElem!_pos s.data i h2]
theorem decA {s : ByteArray} {i : Nat} (h : at_ s i < 128) : Utf8.decode s i = (at_ s i, 1) := by
 rw [decode_at]; unfold decodeN at_ at *; rw [if_pos h]
theorem decB {s : ByteArray} {i : Nat} (h1 : 194 ≤ at_ s i) (h2 : at_ s i < 224) : (Utf8.decode s i = (at_ s i % 32 * 64 + at_ s (i + 1) % 64, 2) ∧ i + 2 ≤ s.size ∧ at_ s (i + 1) / 64 = 2) ∨ (badAt s i ∧ ¬ (i + 2 ≤ s.size ∧ at_ s (i + 1) / 64 = 2)) := by
 unfold badAt
 rw [decode_at]
 unfold at_ at *
 generalize (s.get! i).toNat = b0 at *
 generalize (s.get! (i + 1)).toNat = b1 at *
 generalize (s.get! (i + 2)).toNat = b2 at *
 generalize (s.get! (i + 3)).toNat = b3 at *
 unfold decodeN
 rw [if_neg (by omega)]
 by_cases hc : i + 2 ≤ s.size ∧ b1 / 64 = 2
 ·rw [if_pos (by omega), if_pos (by omega)]; exact .inl ⟨rfl, hc⟩
 ·rw [if_neg (by omega), if_neg (by omega), if_neg (by omega)]; exact .inr ⟨rfl, hc⟩
theorem decC {s : ByteArray} {i c : Nat} (h1 : 224 ≤ at_ s i) (h2 : at_ s i < 240) (hcd : c = at_ s i % 16 * 4096 + at_ s (i + 1) % 64 * 64 + at_ s (i + 2) % 64) :
  (Utf8.decode s i = (c, 3) ∧ i + 3 ≤ s.size ∧ at_ s (i + 1) / 64 = 2 ∧ at_ s (i + 2) / 64 = 2 ∧ 2048 ≤ c ∧ (c < 55296 ∨ 57343 < c)) ∨ (badAt s i ∧ ¬ (i + 3 ≤ s.size ∧ at_ s (i + 1) / 64 = 2 ∧ at_ s (i + 2) / 64 = 2 ∧ 2048 ≤ c ∧ (c < 55296 ∨ 57343 < c))) := by
 unfold badAt
 rw [decode_at]
 unfold at_ at *
 generalize (s.get! i).toNat = b0 at *
 generalize (s.get! (i + 1)).toNat = b1 at *
 generalize (s.get! (i + 2)).toNat = b2 at *
 generalize (s.get! (i + 3)).toNat = b3 at *
 unfold decodeN
 rw [← hcd, if_neg (by omega), if_neg (by omega)]
 by_cases hc : i + 3 ≤ s.size ∧ b1 / 64 = 2 ∧ b2 / 64 = 2
 ·rw [if_pos (by omega)]
  by_cases hv : 2048 ≤ c ∧ (c < 55296 ∨ 57343 < c)
  ·rw [if_pos (by omega)]; exact .inl ⟨rfl, hc.1, hc.2.1, hc.2.2, hv⟩
  ·rw [if_neg (by omega)]; exact .inr ⟨rfl, fun h => hv h.2.2.2⟩
 ·rw [if_neg (by omega), if_neg (by omega)]; exact .inr ⟨rfl, fun h => hc ⟨h.1, h.2.1, h.2.2.1⟩⟩
theorem decD {s : ByteArray} {i c : Nat} (h1 : 240 ≤ at_ s i) (h2 : at_ s i < 245) (hcd : c = at_ s i % 8 * 262144 + at_ s (i + 1) % 64 * 4096 + at_ s (i + 2) % 64 * 64 + at_ s (i + 3) % 64) :
  (Utf8.decode s i = (c, 4) ∧ i + 4 ≤ s.size ∧ at_ s (i + 1) / 64 = 2 ∧ at_ s (i + 2) / 64 = 2 ∧ at_ s (i + 3) / 64 = 2 ∧ 65536 ≤ c ∧ c ≤ 1114111) ∨ (badAt s i ∧ ¬ (i + 4 ≤ s.size ∧ at_ s (i + 1) / 64 = 2 ∧ at_ s (i + 2) / 64 = 2 ∧ at_ s (i + 3) / 64 = 2 ∧ 65536 ≤ c ∧ c ≤ 1114111)) := by
 unfold badAt
 rw [decode_at]
 unfold at_ at *
 generalize (s.get! i).toNat = b0 at *
 generalize (s.get! (i + 1)).toNat = b1 at *
 generalize (s.get! (i + 2)).toNat = b2 at *
 generalize (s.get! (i + 3)).toNat = b3 at *
 unfold decodeN
 rw [← hcd, if_neg (by omega), if_neg (by omega), if_neg (by omega)]
 by_cases hc : i + 4 ≤ s.size ∧ b1 / 64 = 2 ∧ b2 / 64 = 2 ∧ b3 / 64 = 2
 ·rw [if_pos (by omega)]
  by_cases hv : 65536 ≤ c ∧ c ≤ 1114111
  ·rw [if_pos (by omega)]; exact .inl ⟨rfl, hc.1, hc.2.1, hc.2.2.1, hc.2.2.2, hv⟩
  ·rw [if_neg (by omega)]; exact .inr ⟨rfl, fun h => hv h.2.2.2.2⟩
 ·rw [if_neg (by omega)]; exact .inr ⟨rfl, fun h => hc ⟨h.1, h.2.1, h.2.2.1, h.2.2.2.1⟩⟩
theorem decE {s : ByteArray} {i : Nat} (h : (128 ≤ at_ s i ∧ at_ s i < 194) ∨ 245 ≤ at_ s i) : badAt s i := by
 have hlt := at_lt s i
 unfold badAt
 rw [decode_at]
 unfold at_ at *
 generalize (s.get! i).toNat = b0 at *
 generalize (s.get! (i + 1)).toNat = b1 at *
 generalize (s.get! (i + 2)).toNat = b2 at *
 generalize (s.get! (i + 3)).toNat = b3 at *
 unfold decodeN
 rw [if_neg (by omega)]
 by_cases h6 : b0 / 32 = 6 ∧ (1 < s.size - i ∧ b1 / 64 = 2)
 ·rw [if_pos h6, if_neg (by omega)]
 ·rw [if_neg h6, if_neg (by omega)]
  by_cases h8 : b0 / 8 = 30 ∧ (1 < s.size - i ∧ b1 / 64 = 2) ∧ (2 < s.size - i ∧ b2 / 64 = 2) ∧ (3 < s.size - i ∧ b3 / 64 = 2)
  ·rw [if_pos h8, if_neg (by omega)]
  ·rw [if_neg h8]
set_option maxRecDepth 100000 in
theorem cont_and (b : Nat) (h : b < 256) : (bits .and .u8 (b : Int) 192 != 128) = decide (b / 64 ≠ 2) := by
 have h1 := u8_and_nat b 192 h (by decide)
 have h2 : ∀ b : Fin 256, (((b.val &&& 192 : Nat) : Int) != 128) = decide (b.val / 64 ≠ 2) := by decide
 rw [show (192 : Int) = ((192 : Nat) : Int) from rfl, h1]
 exact h2 ⟨b, h⟩
theorem lead_and (b m : Nat) (hm : m = 31 ∨ m = 15 ∨ m = 7) (h : b < 256) : bits .and .i32 (b : Int) (m : Int) = ((b % (m + 1) : Nat) : Int) := by
 rcases hm with rfl | rfl | rfl
 ·have := bits_mask .i32 31 (by decide) wraps_i32 5 (by decide) (b : Int) (by omega) (by omega)
  simpa using this
 ·have := bits_mask .i32 31 (by decide) wraps_i32 4 (by decide) (b : Int) (by omega) (by omega)
  simpa using this
 ·have := bits_mask .i32 31 (by decide) wraps_i32 3 (by decide) (b : Int) (by omega) (by omega)
  simpa using this
theorem low_and (b : Nat) (h : b < 256) : bits .and .u8 (b : Int) 63 = ((b % 64 : Nat) : Int) := by
 rw [u8_and63 (b : Int) (by omega) (by omega)]; omega
theorem join6 (x y : Nat) (hx : x * 64 < 2147483648) (hy : y < 64) : bits .or .i32 (IntKind.i32.wrap ((x : Int) * 2 ^ (min 6 IntKind.i32.bits))) (IntKind.i32.wrap (y : Int)) = ((x * 64 + y : Nat) : Int) := by
 have e : (2 : Int) ^ (min 6 IntKind.i32.bits) = 64 := by decide
 rw [e, IntKind.wrap_i32, IntKind.wrap_i32, i32_or6 _ _ (by omega) (by omega) (by omega) (by omega) (by omega)]
 omega
end Go.Proofs.YtpacdmgnpadleaaDoor
end
section
namespace Go.Proofs.YtpacdmgnpadleaaDoor
open Go Go.RowKit Go.Lib
set_option linter.unusedSimpArgs false
set_option linter.unusedVariables false
set_option maxHeartbeats 4000000
set_option maxRecDepth 100000
def runC (l : List Int) : List (List C) := l.map fun c => [.v (.int .i32 c)]
theorem runC_len (l : List Int) : (runC l).length = l.length := by simp [runC]
theorem rchar_pure (c : Int) : Pure Tryd.prog 74 [.one (.v (.int .i32 c))] (.one (.v (.bool (validRune c)))) := by
 refine pure_old_v rfl fun w vs hg hv => ?_
 obtain ⟨v, rfl, hv1⟩ := hv.one1
 simp only [Ca, Cc] at hv1
 rw [hv1.1]
 exact rchar_any c w
def RunI (s : ByteArray) (n : Nat) (st : St) : Prop := ∃ (i : Nat) (out : List Int) (f : Nat) (M : C) (S : List (Option Ob)), n = s.size - i ∧ i ≤ s.size ∧ s.size - i ≤ f ∧ runesFrom s s.size 0 = out ++ runesFrom s f i ∧ out.length ≤ i ∧ validD s.data.toList = validD (s.data.toList.drop i) ∧
 ((out = [] ∧ M = .v (.slice none 0 0) ∧ S = []) ∨ (∃ c0, M = .ms 1 out.length ∧ S = [some ⟨21, 1, [[.v (.int .i32 c0)]]⟩, some ⟨21, 1, runC out⟩])) ∧
 st = ⟨[(5, .one (.v (.int .i64 i))), (4, .one M), (0, .one (.v (.string s)))], S⟩
theorem runes_pure (s : ByteArray) (hs : s.size ≤ 1000000000) : Pure Tryd.prog 76 [.one (.v (.string s))] (.tup [.one (.sl 1 (runC (if validD s.data.toList then runesFrom s s.size 0 else []))), .one (.v (.bool (validD s.data.toList)))]) := by
 refine Fn.intro Tryd.func76 rfl Tryd.ntmps76 Tryd.results76 (by simp only [List.length_cons, List.length_nil]; decide) ?_
 repeat (first | (apply fw; (with_reducible constructor) <;> rfl) | (apply WpA.cd; constructor) | ((first | with_reducible refine WpA.go _ rfl fun Y y => ?_ | apply RunTo.id); simp only [zb, seval, w76]; refine RunTo.fn y (by first | (simp; done) | omega | (simp; omega)) ?_; clear y Y))
 refine WpA.loop (RunI s) s.size (Le.drop 0 (Nat.zero_le _) rfl (by simp [Sub, find]) rfl trivial) ⟨0, [], s.size, _, _, rfl, Nat.zero_le _, Nat.le_refl _, rfl, Nat.le_refl _, by simp, .inl ⟨rfl, rfl, rfl⟩, rfl⟩ ?_
 intro n' st hI
 obtain ⟨i, out, f, M, S, rfl, hi, hf, hrs, hol, hval, hMS, rfl⟩ := hI
 have hrb : ∀ l, ∀ e ∈ runC l, ∀ c ∈ e, C.bd 2 c = true := fun l e he c hc => by
  obtain ⟨n, _, rfl⟩ := List.mem_map.1 he
  simp at hc; subst hc; rfl
 have hrh : ∀ l, ∀ e ∈ runC l, ∀ c ∈ e, C.shut c = true := fun l e he c hc => by
  obtain ⟨n, _, rfl⟩ := List.mem_map.1 he
  simp at hc; subst hc; rfl
 by_cases hlt : i < s.size
 case neg =>
  have hd0 : decide ((i : Int) < (s.size : Int)) = false := by simp; omega
  have hv : validD s.data.toList = true := by rw [hval, List.drop_of_length_le (by have : s.data.toList.length = s.size := Array.length_toList; omega)]; rfl
  rw [runesFrom_end s f i (by omega), List.append_nil] at hrs
  rw [hv, if_pos rfl, hrs]
  rcases hMS with ⟨rfl, rfl, rfl⟩ | ⟨c0, rfl, rfl⟩
  ·repeat (first | (apply fw; (with_reducible constructor) <;> rfl) | (apply WpA.cd; constructor) | ((first | with_reducible refine WpA.go _ rfl fun Y y => ?_ | apply RunTo.id); simp only [zb, seval, w76, hd0]; refine RunTo.fn y (by first | (simp; done) | omega | (simp; omega)) ?_; clear y Y))
   repeat (first | (apply fw; (with_reducible constructor) <;> rfl) | (apply WpA.cd; constructor) | ((first | with_reducible refine WpA.go _ rfl fun Y y => ?_ | apply RunTo.id); simp only [zb, seval, w76]; refine RunTo.fn y (by first | (simp; done) | omega | (simp; omega)) ?_; clear y Y))
   refine ⟨by simp, _, _, _, _, (by simp only [zb, seval, w76]; rfl), (by simp), (by simp only [zv]; rfl), (by simp), _, ALe.tup (.cons ALe.nil (.refl _)), rfl⟩
  ·repeat (first | (apply fw; (with_reducible constructor) <;> rfl) | (apply WpA.cd; constructor) | ((first | with_reducible refine WpA.go _ rfl fun Y y => ?_ | apply RunTo.id); simp only [zb, seval, w76, hd0]; refine RunTo.fn y (by first | (simp; done) | omega | (simp; omega)) ?_; clear y Y))
   repeat (first | (apply fw; (with_reducible constructor) <;> rfl) | (apply WpA.cd; constructor) | ((first | with_reducible refine WpA.go _ rfl fun Y y => ?_ | apply RunTo.id); simp only [zb, seval, w76]; refine RunTo.fn y (by first | (simp; done) | omega | (simp; omega)) ?_; clear y Y))
   refine ⟨by simp, _, _, _, _, (by simp only [zb, seval, w76]; rfl), (by simp), (by simp only [zv]; rfl), (by simp [runC_len]; exact hrh _), _, ALe.refl _, ?_⟩
   rfl
 have hd1 : decide ((i : Int) < (s.size : Int)) = true := by simp; omega
 obtain ⟨z0, hz0, e0⟩ := at_get hlt
 have hb0 := at_lt s i
 have hb1 := at_lt s (i + 1)
 have hb2 := at_lt s (i + 2)
 have hb3 := at_lt s (i + 3)
 have hcv0 : IntKind.i32.wrap (at_ s i : Int) = at_ s i := wrap32 (by omega) (by omega)
 have hw1 : IntKind.i64.wrap ((i : Int) + 1) = ((i + 1 : Nat) : Int) := by rw [wrap64 (by omega) (by omega)]; omega
 have hw2 : IntKind.i64.wrap ((i : Int) + 2) = ((i + 2 : Nat) : Int) := by rw [wrap64 (by omega) (by omega)]; omega
 have hw3 : IntKind.i64.wrap ((i : Int) + 3) = ((i + 3 : Nat) : Int) := by rw [wrap64 (by omega) (by omega)]; omega
 have hw4 : IntKind.i64.wrap ((i : Int) + 4) = ((i + 4 : Nat) : Int) := by rw [wrap64 (by omega) (by omega)]; omega
 have k1 : IntKind.i64.wrap 2 = 2 := by decide
 have k2 : IntKind.i64.wrap 3 = 3 := by decide
 have k3 : IntKind.i64.wrap 4 = 4 := by decide
 have hfin : ∀ (c n : Nat), Utf8.decode s i = (c, n) → ¬ (c = 65533 ∧ n = 1) → 1 ≤ n → i + n ≤ s.size → ∃ g, s.size - (i + n) ≤ g ∧ runesFrom s s.size 0 = (out ++ [(c : Int)]) ++ runesFrom s g (i + n) ∧ validD s.data.toList = validD (s.data.toList.drop (i + n)) := fun c n hd hb h1 h2 => by
  obtain ⟨g, hg1, hg2⟩ := runesFrom_step s f i hlt hf
  rw [hd] at hg1 hg2
  exact ⟨g, hg1, by rw [hrs, hg2]; simp, by rw [hval]; exact valid_good hlt hd hb⟩
 by_cases hA : at_ s i < 128
 ·have hc1 : decide ((at_ s i : Int) < 128) = true := by simp; omega
  have hc2 : decide ((s.size : Int) < ((i + 1 : Nat) : Int)) = false := by simp; omega
  have hvr : validRune (at_ s i : Int) = true := by unfold validRune; simp; omega
  have hd := decA hA
  repeat (first | (apply fw; (with_reducible constructor) <;> rfl) | (apply WpA.cd; constructor) | ((first | with_reducible refine WpA.go _ rfl fun Y y => ?_ | apply RunTo.id); simp only [zb, seval, w76, hd1]; refine RunTo.fn y (by first | (simp; done) | omega | (simp; omega)) ?_; clear y Y))
  (refine WpA.draw0 6 _ _ _ rfl rfl rfl (by kernel_rfl) (by kernel_rfl) (by kernel_rfl) fun K8 hK8 => ?_); simp only [zz] at hK8 ⊢; (refine Draw0.go fun K7 hK7 => ?_); simp only [zb, seval, w76, hz0, e0, hc1, hc2, hcv0, hw1, hw2, hw3, hw4, k1, k2, k3]; (refine RunQ.mk (by first | (simp; done) | omega | (simp; omega)) (hK7 _ _ ?_)); clear hK7 K7; (try ((refine Draw0.nil (hK8 _ ?_)); clear hK8 K8; (refine WpL.go _ rfl fun Y y => ?_); repeat (first | (apply fw; (with_reducible constructor) <;> rfl) | (apply WpA.cd; constructor) | ((first | with_reducible refine WpA.go _ rfl fun Y y => ?_ | apply RunTo.id); simp only [zb, seval, w76, hz0, e0, hc1, hc2, hcv0, hw1, hw2, hw3, hw4, k1, k2, k3]; refine RunTo.fn y (by first | (simp; done) | omega | (simp; omega)) ?_; clear y Y))))
  refine WpA.rounds 4 ?_
  repeat (first | (apply fw; (with_reducible constructor) <;> rfl) | (apply WpA.cd; constructor) | ((first | with_reducible refine WpA.go _ rfl fun Y y => ?_ | apply RunTo.id); simp only [zb, seval, w76, hcv0, hw1, hw2, hw3, hw4, k1, k2, k3]; refine RunTo.fn y (by first | (simp; done) | omega | (simp; omega)) ?_; clear y Y))
  refine WpL.call rfl (guardA_sound (P := Tryd.prog) rfl) (CallA.shut rfl rfl (by kernel_rfl) (ALes.refl _) (by first | rfl | simp [shuts, A.shut, C.shut]) (rchar_pure _) ?_)
  obtain ⟨g, hg1, hg2, hg3⟩ := hfin _ _ hd (by first | (simp; done) | (simp; omega)) (by decide) (by omega)
  rcases hMS with ⟨rfl, rfl, rfl⟩ | ⟨c0, rfl, rfl⟩
  ·(refine WpL.go _ rfl fun Y y => ?_); repeat (first | (apply fw; (with_reducible constructor) <;> rfl) | (apply WpA.cd; constructor) | ((first | with_reducible refine WpA.go _ rfl fun Y y => ?_ | apply RunTo.id); simp only [zb, seval, w76, hvr, hcv0, hw1, hw2, hw3, hw4, k1, k2, k3]; refine RunTo.fn y (by first | (simp; done) | omega | (simp; omega)) ?_; clear y Y))
   refine ⟨s.size - (i + 1), _, by omega, Le.drop (s' := [some ⟨21, 1, [[.v (.int .i32 ((at_ s i : Nat) : Int))]]⟩, some ⟨21, 1, runC [((at_ s i : Nat) : Int)]⟩]) 2 (Nat.zero_le _) rfl ?_ rfl ?_, i + 1, [((at_ s i : Nat) : Int)], g, .ms 1 1, _, rfl, (by omega), hg1, hg2, (by first | (simp; done) | (simp; omega)), hg3, .inr ⟨_, rfl, rfl⟩, rfl⟩
   ·simp [Sub, find]
   ·simp [ObBd, C.bd]; exact hrb _
  ·(refine WpL.go _ rfl fun Y y => ?_); repeat (first | (apply fw; (with_reducible constructor) <;> rfl) | (apply WpA.cd; constructor) | ((first | with_reducible refine WpA.go _ rfl fun Y y => ?_ | apply RunTo.id); simp only [zb, seval, w76, hvr, runC_len, hcv0, hw1, hw2, hw3, hw4, k1, k2, k3]; refine RunTo.fn y (by first | (simp; done) | omega | (simp; omega)) ?_; clear y Y))
   refine ⟨s.size - (i + 1), _, by omega, Le.drop (s' := [some ⟨21, 1, [[.v (.int .i32 c0)]]⟩, some ⟨21, 1, runC (out ++ [((at_ s i : Nat) : Int)])⟩]) 2 (Nat.zero_le _) ?_ ?_ rfl ?_, i + 1, out ++ [((at_ s i : Nat) : Int)], g, .ms 1 (out ++ [((at_ s i : Nat) : Int)]).length, _, rfl, (by omega), hg1, hg2, (by first | (simp; done) | (simp; omega)), hg3, .inr ⟨c0, rfl, rfl⟩, rfl⟩
   ·simp [runC]
   ·simp [Sub, find]
   ·simp [ObBd, C.bd]; exact hrb _
 have hc1 : decide ((at_ s i : Int) < 128) = false := by simp; omega
 have lo1 := low_and (at_ s (i + 1)) hb1
 have lo2 := low_and (at_ s (i + 2)) hb2
 have lo3 := low_and (at_ s (i + 3)) hb3
 have q1t : at_ s (i + 1) / 64 = 2 → (bits .and .u8 (at_ s (i + 1) : Int) 192 != 128) = false := fun h => by rw [cont_and _ hb1]; simp [h]
 have q1f : ¬ at_ s (i + 1) / 64 = 2 → (bits .and .u8 (at_ s (i + 1) : Int) 192 != 128) = true := fun h => by rw [cont_and _ hb1]; simp [h]
 have q2t : at_ s (i + 2) / 64 = 2 → (bits .and .u8 (at_ s (i + 2) : Int) 192 != 128) = false := fun h => by rw [cont_and _ hb2]; simp [h]
 have q2f : ¬ at_ s (i + 2) / 64 = 2 → (bits .and .u8 (at_ s (i + 2) : Int) 192 != 128) = true := fun h => by rw [cont_and _ hb2]; simp [h]
 have q3t : at_ s (i + 3) / 64 = 2 → (bits .and .u8 (at_ s (i + 3) : Int) 192 != 128) = false := fun h => by rw [cont_and _ hb3]; simp [h]
 have q3f : ¬ at_ s (i + 3) / 64 = 2 → (bits .and .u8 (at_ s (i + 3) : Int) 192 != 128) = true := fun h => by rw [cont_and _ hb3]; simp [h]
 by_cases hE : at_ s i < 194 ∨ 245 ≤ at_ s i
 ·have hbad := decE (s := s) (i := i) (by omega)
  have d1 : decide ((194 : Int) ≤ at_ s i) = decide (245 ≤ at_ s i) := by
   by_cases h : 245 ≤ at_ s i
   ·rw [decide_eq_true h]; simp; omega
   ·rw [decide_eq_false h]; simp; omega
  have d2 : 245 ≤ at_ s i → decide ((at_ s i : Int) < 224) = false := fun h => by simp; omega
  have d3 : decide ((224 : Int) ≤ at_ s i) = decide (245 ≤ at_ s i) := by
   by_cases h : 245 ≤ at_ s i
   ·rw [decide_eq_true h]; simp; omega
   ·rw [decide_eq_false h]; simp; omega
  have d4 : 245 ≤ at_ s i → decide ((at_ s i : Int) < 240) = false := fun h => by simp; omega
  have d5 : decide ((240 : Int) ≤ at_ s i) = decide (245 ≤ at_ s i) := by
   by_cases h : 245 ≤ at_ s i
   ·rw [decide_eq_true h]; simp; omega
   ·rw [decide_eq_false h]; simp; omega
  have d6 : 245 ≤ at_ s i → decide ((at_ s i : Int) < 245) = false := fun h => by simp; omega
  by_cases h : 245 ≤ at_ s i
  ·have d2 := d2 h; have d4 := d4 h; have d6 := d6 h
   have d0 := decide_eq_true h
   repeat (first | (apply fw; (with_reducible constructor) <;> rfl) | (apply WpA.cd; constructor) | ((first | with_reducible refine WpA.go _ rfl fun Y y => ?_ | apply RunTo.id); simp only [zb, seval, w76, hd1]; refine RunTo.fn y (by first | (simp; done) | omega | (simp; omega)) ?_; clear y Y))
   (refine WpA.draw0 6 _ _ _ rfl rfl rfl (by kernel_rfl) (by kernel_rfl) (by kernel_rfl) fun K8 hK8 => ?_); simp only [zz] at hK8 ⊢; (refine Draw0.go fun K7 hK7 => ?_); simp only [zb, seval, w76, hz0, e0, hc1, d0, d1, d2, d3, d4, d5, d6, hcv0, hw1, hw2, hw3, hw4, k1, k2, k3]; (refine RunQ.mk (by first | (simp; done) | omega | (simp; omega)) (hK7 _ _ ?_)); clear hK7 K7; (try ((refine Draw0.nil (hK8 _ ?_)); clear hK8 K8; (refine WpL.go _ rfl fun Y y => ?_); repeat (first | (apply fw; (with_reducible constructor) <;> rfl) | (apply WpA.cd; constructor) | ((first | with_reducible refine WpA.go _ rfl fun Y y => ?_ | apply RunTo.id); simp only [zb, seval, w76, hz0, e0, hc1, d0, d1, d2, d3, d4, d5, d6, hcv0, hw1, hw2, hw3, hw4, k1, k2, k3]; refine RunTo.fn y (by first | (simp; done) | omega | (simp; omega)) ?_; clear y Y))))
   have hv : validD s.data.toList = false := by rw [hval]; exact valid_bad hlt hbad
   rw [hv]
   refine ⟨by simp, _, _, _, _, (by simp only [zb, seval, w76]; rfl), (by simp), (by simp only [zv]; rfl), (by simp), _, ALe.tup (.cons ALe.nil (.refl _)), rfl⟩
  ·have d0 := decide_eq_false h
   repeat (first | (apply fw; (with_reducible constructor) <;> rfl) | (apply WpA.cd; constructor) | ((first | with_reducible refine WpA.go _ rfl fun Y y => ?_ | apply RunTo.id); simp only [zb, seval, w76, hd1]; refine RunTo.fn y (by first | (simp; done) | omega | (simp; omega)) ?_; clear y Y))
   (refine WpA.draw0 6 _ _ _ rfl rfl rfl (by kernel_rfl) (by kernel_rfl) (by kernel_rfl) fun K8 hK8 => ?_); simp only [zz] at hK8 ⊢; (refine Draw0.go fun K7 hK7 => ?_); simp only [zb, seval, w76, hz0, e0, hc1, d0, d1, d3, d5, hcv0, hw1, hw2, hw3, hw4, k1, k2, k3]; (refine RunQ.mk (by first | (simp; done) | omega | (simp; omega)) (hK7 _ _ ?_)); clear hK7 K7; (try ((refine Draw0.nil (hK8 _ ?_)); clear hK8 K8; (refine WpL.go _ rfl fun Y y => ?_); repeat (first | (apply fw; (with_reducible constructor) <;> rfl) | (apply WpA.cd; constructor) | ((first | with_reducible refine WpA.go _ rfl fun Y y => ?_ | apply RunTo.id); simp only [zb, seval, w76, hz0, e0, hc1, d0, d1, d3, d5, hcv0, hw1, hw2, hw3, hw4, k1, k2, k3]; refine RunTo.fn y (by first | (simp; done) | omega | (simp; omega)) ?_; clear y Y))))
   have hv : validD s.data.toList = false := by rw [hval]; exact valid_bad hlt hbad
   rw [hv]
   refine ⟨by simp, _, _, _, _, (by simp only [zb, seval, w76]; rfl), (by simp), (by simp only [zv]; rfl), (by simp), _, ALe.tup (.cons ALe.nil (.refl _)), rfl⟩
 have g1 : decide ((194 : Int) ≤ at_ s i) = true := by simp; omega
 by_cases hB : at_ s i < 224
 ·have g2 : decide ((at_ s i : Int) < 224) = true := by simp; omega
  have hle : bits .and .i32 (at_ s i : Int) 31 = ((at_ s i % 32 : Nat) : Int) := lead_and (at_ s i) 31 (by simp) hb0
  have hdec := decB (s := s) (i := i) (by omega) hB
  by_cases h2 : i + 2 ≤ s.size
  case neg =>
   have hc2 : decide ((s.size : Int) < ((i + 2 : Nat) : Int)) = true := by simp; omega
   have hbad : badAt s i := by rcases hdec with ⟨-, h, -⟩ | ⟨h, -⟩; exact absurd h h2; exact h
   repeat (first | (apply fw; (with_reducible constructor) <;> rfl) | (apply WpA.cd; constructor) | ((first | with_reducible refine WpA.go _ rfl fun Y y => ?_ | apply RunTo.id); simp only [zb, seval, w76, hd1]; refine RunTo.fn y (by first | (simp; done) | omega | (simp; omega)) ?_; clear y Y))
   (refine WpA.draw0 6 _ _ _ rfl rfl rfl (by kernel_rfl) (by kernel_rfl) (by kernel_rfl) fun K8 hK8 => ?_); simp only [zz] at hK8 ⊢; (refine Draw0.go fun K7 hK7 => ?_); simp only [zb, seval, w76, hz0, e0, hc1, hc2, g1, g2, hle, hcv0, hw1, hw2, hw3, hw4, k1, k2, k3]; (refine RunQ.mk (by first | (simp; done) | omega | (simp; omega)) (hK7 _ _ ?_)); clear hK7 K7; (try ((refine Draw0.nil (hK8 _ ?_)); clear hK8 K8; (refine WpL.go _ rfl fun Y y => ?_); repeat (first | (apply fw; (with_reducible constructor) <;> rfl) | (apply WpA.cd; constructor) | ((first | with_reducible refine WpA.go _ rfl fun Y y => ?_ | apply RunTo.id); simp only [zb, seval, w76, hz0, e0, hc1, hc2, g1, g2, hle, hcv0, hw1, hw2, hw3, hw4, k1, k2, k3]; refine RunTo.fn y (by first | (simp; done) | omega | (simp; omega)) ?_; clear y Y))))
   have hv : validD s.data.toList = false := by rw [hval]; exact valid_bad hlt hbad
   rw [hv]
   refine ⟨by simp, _, _, _, _, (by simp only [zb, seval, w76]; rfl), (by simp), (by simp only [zv]; rfl), (by simp), _, ALe.tup (.cons ALe.nil (.refl _)), rfl⟩
  have hc2 : decide ((s.size : Int) < ((i + 2 : Nat) : Int)) = false := by simp; omega
  obtain ⟨z1, hz1, e1⟩ := at_get (s := s) (i := i + 1) (by omega)
  by_cases hq1 : at_ s (i + 1) / 64 = 2
  case neg =>
   have hbad : badAt s i := by rcases hdec with ⟨-, -, h⟩ | ⟨h, -⟩; exact absurd h hq1; exact h
   repeat (first | (apply fw; (with_reducible constructor) <;> rfl) | (apply WpA.cd; constructor) | ((first | with_reducible refine WpA.go _ rfl fun Y y => ?_ | apply RunTo.id); simp only [zb, seval, w76, hd1]; refine RunTo.fn y (by first | (simp; done) | omega | (simp; omega)) ?_; clear y Y))
   (refine WpA.draw0 6 _ _ _ rfl rfl rfl (by kernel_rfl) (by kernel_rfl) (by kernel_rfl) fun K8 hK8 => ?_); simp only [zz] at hK8 ⊢; (refine Draw0.go fun K7 hK7 => ?_); simp only [zb, seval, w76, hz0, e0, hc1, hc2, g1, g2, hle, hcv0, hw1, hw2, hw3, hw4, k1, k2, k3]; (refine RunQ.mk (by first | (simp; done) | omega | (simp; omega)) (hK7 _ _ ?_)); clear hK7 K7; (try ((refine Draw0.nil (hK8 _ ?_)); clear hK8 K8; (refine WpL.go _ rfl fun Y y => ?_); repeat (first | (apply fw; (with_reducible constructor) <;> rfl) | (apply WpA.cd; constructor) | ((first | with_reducible refine WpA.go _ rfl fun Y y => ?_ | apply RunTo.id); simp only [zb, seval, w76, hz0, e0, hc1, hc2, g1, g2, hle, hcv0, hw1, hw2, hw3, hw4, k1, k2, k3]; refine RunTo.fn y (by first | (simp; done) | omega | (simp; omega)) ?_; clear y Y))))
   refine WpA.rounds 4 ?_
   repeat (first | (apply fw; (with_reducible constructor) <;> rfl) | (apply WpA.cd; constructor) | ((first | with_reducible refine WpA.go _ rfl fun Y y => ?_ | apply RunTo.id); simp only [zb, seval, w76, hz1, e1, q1f hq1, hcv0, hw1, hw2, hw3, hw4, k1, k2, k3]; refine RunTo.fn y (by first | (simp; done) | omega | (simp; omega)) ?_; clear y Y))
   have hv : validD s.data.toList = false := by rw [hval]; exact valid_bad hlt hbad
   rw [hv]
   refine ⟨by simp, _, _, _, _, (by simp only [zb, seval, w76]; rfl), (by simp), (by simp only [zv]; rfl), (by simp), _, ALe.tup (.cons ALe.nil (.refl _)), rfl⟩
  have hd : Utf8.decode s i = (at_ s i % 32 * 64 + at_ s (i + 1) % 64, 2) := by rcases hdec with ⟨h, -⟩ | ⟨-, h⟩; exact h; exact absurd ⟨h2, hq1⟩ h
  have hj := join6 (at_ s i % 32) (at_ s (i + 1) % 64) (by omega) (by omega)
  have hvr : validRune ((at_ s i % 32 * 64 + at_ s (i + 1) % 64 : Nat) : Int) = true := by unfold validRune; simp; omega
  repeat (first | (apply fw; (with_reducible constructor) <;> rfl) | (apply WpA.cd; constructor) | ((first | with_reducible refine WpA.go _ rfl fun Y y => ?_ | apply RunTo.id); simp only [zb, seval, w76, hd1]; refine RunTo.fn y (by first | (simp; done) | omega | (simp; omega)) ?_; clear y Y))
  (refine WpA.draw0 6 _ _ _ rfl rfl rfl (by kernel_rfl) (by kernel_rfl) (by kernel_rfl) fun K8 hK8 => ?_); simp only [zz] at hK8 ⊢; (refine Draw0.go fun K7 hK7 => ?_); simp only [zb, seval, w76, hz0, e0, hc1, hc2, g1, g2, hle, hcv0, hw1, hw2, hw3, hw4, k1, k2, k3]; (refine RunQ.mk (by first | (simp; done) | omega | (simp; omega)) (hK7 _ _ ?_)); clear hK7 K7; (try ((refine Draw0.nil (hK8 _ ?_)); clear hK8 K8; (refine WpL.go _ rfl fun Y y => ?_); repeat (first | (apply fw; (with_reducible constructor) <;> rfl) | (apply WpA.cd; constructor) | ((first | with_reducible refine WpA.go _ rfl fun Y y => ?_ | apply RunTo.id); simp only [zb, seval, w76, hz0, e0, hc1, hc2, g1, g2, hle, hcv0, hw1, hw2, hw3, hw4, k1, k2, k3]; refine RunTo.fn y (by first | (simp; done) | omega | (simp; omega)) ?_; clear y Y))))
  refine WpA.rounds 4 ?_
  repeat (first | (apply fw; (with_reducible constructor) <;> rfl) | (apply WpA.cd; constructor) | ((first | with_reducible refine WpA.go _ rfl fun Y y => ?_ | apply RunTo.id); simp only [zb, seval, w76, hz1, e1, q1t hq1, lo1, hj, hcv0, hw1, hw2, hw3, hw4, k1, k2, k3]; refine RunTo.fn y (by first | (simp; done) | omega | (simp; omega)) ?_; clear y Y))
  refine WpL.call rfl (guardA_sound (P := Tryd.prog) rfl) (CallA.shut rfl rfl (by kernel_rfl) (ALes.refl _) (by first | rfl | simp [shuts, A.shut, C.shut]) (rchar_pure _) ?_)
  obtain ⟨g, hg1, hg2, hg3⟩ := hfin _ _ hd (by first | (simp; done) | (simp; omega)) (by decide) (by omega)
  rcases hMS with ⟨rfl, rfl, rfl⟩ | ⟨c0, rfl, rfl⟩
  ·(refine WpL.go _ rfl fun Y y => ?_); repeat (first | (apply fw; (with_reducible constructor) <;> rfl) | (apply WpA.cd; constructor) | ((first | with_reducible refine WpA.go _ rfl fun Y y => ?_ | apply RunTo.id); simp only [zb, seval, w76, hvr, hcv0, hw1, hw2, hw3, hw4, k1, k2, k3]; refine RunTo.fn y (by first | (simp; done) | omega | (simp; omega)) ?_; clear y Y))
   refine ⟨s.size - (i + 2), _, by omega, Le.drop (s' := [some ⟨21, 1, [[.v (.int .i32 ((at_ s i % 32 * 64 + at_ s (i + 1) % 64 : Nat) : Int))]]⟩, some ⟨21, 1, runC [((at_ s i % 32 * 64 + at_ s (i + 1) % 64 : Nat) : Int)]⟩]) 2 (Nat.zero_le _) rfl ?_ rfl ?_, i + 2, [((at_ s i % 32 * 64 + at_ s (i + 1) % 64 : Nat) : Int)], g, .ms 1 1, _, rfl, (by omega), hg1, hg2, (by first | (simp; done) | (simp; omega)), hg3, .inr ⟨_, rfl, rfl⟩, rfl⟩
   ·simp [Sub, find]
   ·simp [ObBd, C.bd]; exact hrb _
  ·(refine WpL.go _ rfl fun Y y => ?_); repeat (first | (apply fw; (with_reducible constructor) <;> rfl) | (apply WpA.cd; constructor) | ((first | with_reducible refine WpA.go _ rfl fun Y y => ?_ | apply RunTo.id); simp only [zb, seval, w76, hvr, runC_len, hcv0, hw1, hw2, hw3, hw4, k1, k2, k3]; refine RunTo.fn y (by first | (simp; done) | omega | (simp; omega)) ?_; clear y Y))
   refine ⟨s.size - (i + 2), _, by omega, Le.drop (s' := [some ⟨21, 1, [[.v (.int .i32 c0)]]⟩, some ⟨21, 1, runC (out ++ [((at_ s i % 32 * 64 + at_ s (i + 1) % 64 : Nat) : Int)])⟩]) 2 (Nat.zero_le _) ?_ ?_ rfl ?_, i + 2, out ++ [((at_ s i % 32 * 64 + at_ s (i + 1) % 64 : Nat) : Int)], g, .ms 1 (out ++ [((at_ s i % 32 * 64 + at_ s (i + 1) % 64 : Nat) : Int)]).length, _, rfl, (by omega), hg1, hg2, (by first | (simp; done) | (simp; omega)), hg3, .inr ⟨c0, rfl, rfl⟩, rfl⟩
   ·simp [runC]
   ·simp [Sub, find]
   ·simp [ObBd, C.bd]; exact hrb _
 have g2 : decide ((at_ s i : Int) < 224) = false := by simp; omega
 have g3 : decide ((224 : Int) ≤ at_ s i) = true := by simp; omega
 by_cases hC : at_ s i < 240
 ·have g4 : decide ((at_ s i : Int) < 240) = true := by simp; omega
  have hle : bits .and .i32 (at_ s i : Int) 15 = ((at_ s i % 16 : Nat) : Int) := lead_and (at_ s i) 15 (by simp) hb0
  obtain ⟨c, hcd⟩ : ∃ c, c = at_ s i % 16 * 4096 + at_ s (i + 1) % 64 * 64 + at_ s (i + 2) % 64 := ⟨_, rfl⟩
  have hdec := decC (s := s) (i := i) (c := c) (by omega) hC hcd
  by_cases h2 : i + 3 ≤ s.size
  case neg =>
   have hc2 : decide ((s.size : Int) < ((i + 3 : Nat) : Int)) = true := by simp; omega
   have hbad : badAt s i := by rcases hdec with ⟨-, h, -⟩ | ⟨h, -⟩; exact absurd h h2; exact h
   repeat (first | (apply fw; (with_reducible constructor) <;> rfl) | (apply WpA.cd; constructor) | ((first | with_reducible refine WpA.go _ rfl fun Y y => ?_ | apply RunTo.id); simp only [zb, seval, w76, hd1]; refine RunTo.fn y (by first | (simp; done) | omega | (simp; omega)) ?_; clear y Y))
   (refine WpA.draw0 6 _ _ _ rfl rfl rfl (by kernel_rfl) (by kernel_rfl) (by kernel_rfl) fun K8 hK8 => ?_); simp only [zz] at hK8 ⊢; (refine Draw0.go fun K7 hK7 => ?_); simp only [zb, seval, w76, hz0, e0, hc1, hc2, g1, g2, g3, g4, hle, hcv0, hw1, hw2, hw3, hw4, k1, k2, k3]; (refine RunQ.mk (by first | (simp; done) | omega | (simp; omega)) (hK7 _ _ ?_)); clear hK7 K7; (try ((refine Draw0.nil (hK8 _ ?_)); clear hK8 K8; (refine WpL.go _ rfl fun Y y => ?_); repeat (first | (apply fw; (with_reducible constructor) <;> rfl) | (apply WpA.cd; constructor) | ((first | with_reducible refine WpA.go _ rfl fun Y y => ?_ | apply RunTo.id); simp only [zb, seval, w76, hz0, e0, hc1, hc2, g1, g2, g3, g4, hle, hcv0, hw1, hw2, hw3, hw4, k1, k2, k3]; refine RunTo.fn y (by first | (simp; done) | omega | (simp; omega)) ?_; clear y Y))))
   have hv : validD s.data.toList = false := by rw [hval]; exact valid_bad hlt hbad
   rw [hv]
   refine ⟨by simp, _, _, _, _, (by simp only [zb, seval, w76]; rfl), (by simp), (by simp only [zv]; rfl), (by simp), _, ALe.tup (.cons ALe.nil (.refl _)), rfl⟩
  have hc2 : decide ((s.size : Int) < ((i + 3 : Nat) : Int)) = false := by simp; omega
  obtain ⟨z1, hz1, e1⟩ := at_get (s := s) (i := i + 1) (by omega)
  obtain ⟨z2, hz2, e2⟩ := at_get (s := s) (i := i + 2) (by omega)
  by_cases hq1 : at_ s (i + 1) / 64 = 2
  case neg =>
   have hbad : badAt s i := by rcases hdec with ⟨-, -, h, -⟩ | ⟨h, -⟩; exact absurd h hq1; exact h
   repeat (first | (apply fw; (with_reducible constructor) <;> rfl) | (apply WpA.cd; constructor) | ((first | with_reducible refine WpA.go _ rfl fun Y y => ?_ | apply RunTo.id); simp only [zb, seval, w76, hd1]; refine RunTo.fn y (by first | (simp; done) | omega | (simp; omega)) ?_; clear y Y))
   (refine WpA.draw0 6 _ _ _ rfl rfl rfl (by kernel_rfl) (by kernel_rfl) (by kernel_rfl) fun K8 hK8 => ?_); simp only [zz] at hK8 ⊢; (refine Draw0.go fun K7 hK7 => ?_); simp only [zb, seval, w76, hz0, e0, hc1, hc2, g1, g2, g3, g4, hle, hcv0, hw1, hw2, hw3, hw4, k1, k2, k3]; (refine RunQ.mk (by first | (simp; done) | omega | (simp; omega)) (hK7 _ _ ?_)); clear hK7 K7; (try ((refine Draw0.nil (hK8 _ ?_)); clear hK8 K8; (refine WpL.go _ rfl fun Y y => ?_); repeat (first | (apply fw; (with_reducible constructor) <;> rfl) | (apply WpA.cd; constructor) | ((first | with_reducible refine WpA.go _ rfl fun Y y => ?_ | apply RunTo.id); simp only [zb, seval, w76, hz0, e0, hc1, hc2, g1, g2, g3, g4, hle, hcv0, hw1, hw2, hw3, hw4, k1, k2, k3]; refine RunTo.fn y (by first | (simp; done) | omega | (simp; omega)) ?_; clear y Y))))
   refine WpA.rounds 4 ?_
   repeat (first | (apply fw; (with_reducible constructor) <;> rfl) | (apply WpA.cd; constructor) | ((first | with_reducible refine WpA.go _ rfl fun Y y => ?_ | apply RunTo.id); simp only [zb, seval, w76, hz1, e1, q1f hq1, hcv0, hw1, hw2, hw3, hw4, k1, k2, k3]; refine RunTo.fn y (by first | (simp; done) | omega | (simp; omega)) ?_; clear y Y))
   have hv : validD s.data.toList = false := by rw [hval]; exact valid_bad hlt hbad
   rw [hv]
   refine ⟨by simp, _, _, _, _, (by simp only [zb, seval, w76]; rfl), (by simp), (by simp only [zv]; rfl), (by simp), _, ALe.tup (.cons ALe.nil (.refl _)), rfl⟩
  have hj := join6 (at_ s i % 16) (at_ s (i + 1) % 64) (by omega) (by omega)
  by_cases hq2 : at_ s (i + 2) / 64 = 2
  case neg =>
   have hbad : badAt s i := by rcases hdec with ⟨-, -, -, h, -⟩ | ⟨h, -⟩; exact absurd h hq2; exact h
   repeat (first | (apply fw; (with_reducible constructor) <;> rfl) | (apply WpA.cd; constructor) | ((first | with_reducible refine WpA.go _ rfl fun Y y => ?_ | apply RunTo.id); simp only [zb, seval, w76, hd1]; refine RunTo.fn y (by first | (simp; done) | omega | (simp; omega)) ?_; clear y Y))
   (refine WpA.draw0 6 _ _ _ rfl rfl rfl (by kernel_rfl) (by kernel_rfl) (by kernel_rfl) fun K8 hK8 => ?_); simp only [zz] at hK8 ⊢; (refine Draw0.go fun K7 hK7 => ?_); simp only [zb, seval, w76, hz0, e0, hc1, hc2, g1, g2, g3, g4, hle, hcv0, hw1, hw2, hw3, hw4, k1, k2, k3]; (refine RunQ.mk (by first | (simp; done) | omega | (simp; omega)) (hK7 _ _ ?_)); clear hK7 K7; (try ((refine Draw0.nil (hK8 _ ?_)); clear hK8 K8; (refine WpL.go _ rfl fun Y y => ?_); repeat (first | (apply fw; (with_reducible constructor) <;> rfl) | (apply WpA.cd; constructor) | ((first | with_reducible refine WpA.go _ rfl fun Y y => ?_ | apply RunTo.id); simp only [zb, seval, w76, hz0, e0, hc1, hc2, g1, g2, g3, g4, hle, hcv0, hw1, hw2, hw3, hw4, k1, k2, k3]; refine RunTo.fn y (by first | (simp; done) | omega | (simp; omega)) ?_; clear y Y))))
   refine WpA.rounds 4 ?_
   repeat (first | (apply fw; (with_reducible constructor) <;> rfl) | (apply WpA.cd; constructor) | ((first | with_reducible refine WpA.go _ rfl fun Y y => ?_ | apply RunTo.id); simp only [zb, seval, w76, hz1, e1, hz2, e2, q1t hq1, q2f hq2, lo1, hj, hcv0, hw1, hw2, hw3, hw4, k1, k2, k3]; refine RunTo.fn y (by first | (simp; done) | omega | (simp; omega)) ?_; clear y Y))
   have hv : validD s.data.toList = false := by rw [hval]; exact valid_bad hlt hbad
   rw [hv]
   refine ⟨by simp, _, _, _, _, (by simp only [zb, seval, w76]; rfl), (by simp), (by simp only [zv]; rfl), (by simp), _, ALe.tup (.cons ALe.nil (.refl _)), rfl⟩
  have hj2 : bits .or .i32 (IntKind.i32.wrap (((at_ s i % 16 * 64 + at_ s (i + 1) % 64 : Nat) : Int) * 2 ^ (min 6 IntKind.i32.bits))) (IntKind.i32.wrap ((at_ s (i + 2) % 64 : Nat) : Int)) = (c : Int) := by
   rw [join6 _ _ (by omega) (by omega)]; omega
  by_cases hsm : c < 2048
  ·have hbad : badAt s i := by rcases hdec with ⟨-, -, -, -, h, -⟩ | ⟨h, -⟩; omega; exact h
   have hs1 : decide ((c : Int) < 2048) = true := by simp; omega
   repeat (first | (apply fw; (with_reducible constructor) <;> rfl) | (apply WpA.cd; constructor) | ((first | with_reducible refine WpA.go _ rfl fun Y y => ?_ | apply RunTo.id); simp only [zb, seval, w76, hd1]; refine RunTo.fn y (by first | (simp; done) | omega | (simp; omega)) ?_; clear y Y))
   (refine WpA.draw0 6 _ _ _ rfl rfl rfl (by kernel_rfl) (by kernel_rfl) (by kernel_rfl) fun K8 hK8 => ?_); simp only [zz] at hK8 ⊢; (refine Draw0.go fun K7 hK7 => ?_); simp only [zb, seval, w76, hz0, e0, hc1, hc2, g1, g2, g3, g4, hle, hcv0, hw1, hw2, hw3, hw4, k1, k2, k3]; (refine RunQ.mk (by first | (simp; done) | omega | (simp; omega)) (hK7 _ _ ?_)); clear hK7 K7; (try ((refine Draw0.nil (hK8 _ ?_)); clear hK8 K8; (refine WpL.go _ rfl fun Y y => ?_); repeat (first | (apply fw; (with_reducible constructor) <;> rfl) | (apply WpA.cd; constructor) | ((first | with_reducible refine WpA.go _ rfl fun Y y => ?_ | apply RunTo.id); simp only [zb, seval, w76, hz0, e0, hc1, hc2, g1, g2, g3, g4, hle, hcv0, hw1, hw2, hw3, hw4, k1, k2, k3]; refine RunTo.fn y (by first | (simp; done) | omega | (simp; omega)) ?_; clear y Y))))
   refine WpA.rounds 4 ?_
   repeat (first | (apply fw; (with_reducible constructor) <;> rfl) | (apply WpA.cd; constructor) | ((first | with_reducible refine WpA.go _ rfl fun Y y => ?_ | apply RunTo.id); simp only [zb, seval, w76, hz1, e1, hz2, e2, q1t hq1, q2t hq2, lo1, lo2, hj, hj2, hs1, hcv0, hw1, hw2, hw3, hw4, k1, k2, k3]; refine RunTo.fn y (by first | (simp; done) | omega | (simp; omega)) ?_; clear y Y))
   have hv : validD s.data.toList = false := by rw [hval]; exact valid_bad hlt hbad
   rw [hv]
   refine ⟨by simp, _, _, _, _, (by simp only [zb, seval, w76]; rfl), (by simp), (by simp only [zv]; rfl), (by simp), _, ALe.tup (.cons ALe.nil (.refl _)), rfl⟩
  have hs1 : decide ((c : Int) < 2048) = false := by simp; omega
  by_cases hvv : c < 55296 ∨ 57343 < c
  ·have hd : Utf8.decode s i = (c, 3) := by rcases hdec with ⟨h, -⟩ | ⟨-, h⟩; exact h; exact absurd ⟨h2, hq1, hq2, by omega, hvv⟩ h
   have hvr : validRune (c : Int) = true := by unfold validRune; simp; omega
   repeat (first | (apply fw; (with_reducible constructor) <;> rfl) | (apply WpA.cd; constructor) | ((first | with_reducible refine WpA.go _ rfl fun Y y => ?_ | apply RunTo.id); simp only [zb, seval, w76, hd1]; refine RunTo.fn y (by first | (simp; done) | omega | (simp; omega)) ?_; clear y Y))
   (refine WpA.draw0 6 _ _ _ rfl rfl rfl (by kernel_rfl) (by kernel_rfl) (by kernel_rfl) fun K8 hK8 => ?_); simp only [zz] at hK8 ⊢; (refine Draw0.go fun K7 hK7 => ?_); simp only [zb, seval, w76, hz0, e0, hc1, hc2, g1, g2, g3, g4, hle, hcv0, hw1, hw2, hw3, hw4, k1, k2, k3]; (refine RunQ.mk (by first | (simp; done) | omega | (simp; omega)) (hK7 _ _ ?_)); clear hK7 K7; (try ((refine Draw0.nil (hK8 _ ?_)); clear hK8 K8; (refine WpL.go _ rfl fun Y y => ?_); repeat (first | (apply fw; (with_reducible constructor) <;> rfl) | (apply WpA.cd; constructor) | ((first | with_reducible refine WpA.go _ rfl fun Y y => ?_ | apply RunTo.id); simp only [zb, seval, w76, hz0, e0, hc1, hc2, g1, g2, g3, g4, hle, hcv0, hw1, hw2, hw3, hw4, k1, k2, k3]; refine RunTo.fn y (by first | (simp; done) | omega | (simp; omega)) ?_; clear y Y))))
   refine WpA.rounds 4 ?_
   repeat (first | (apply fw; (with_reducible constructor) <;> rfl) | (apply WpA.cd; constructor) | ((first | with_reducible refine WpA.go _ rfl fun Y y => ?_ | apply RunTo.id); simp only [zb, seval, w76, hz1, e1, hz2, e2, q1t hq1, q2t hq2, lo1, lo2, hj, hj2, hs1, hcv0, hw1, hw2, hw3, hw4, k1, k2, k3]; refine RunTo.fn y (by first | (simp; done) | omega | (simp; omega)) ?_; clear y Y))
   refine WpL.call rfl (guardA_sound (P := Tryd.prog) rfl) (CallA.shut rfl rfl (by kernel_rfl) (ALes.refl _) (by first | rfl | simp [shuts, A.shut, C.shut]) (rchar_pure _) ?_)
   obtain ⟨g, hg1, hg2, hg3⟩ := hfin _ _ hd (by first | (simp; done) | (simp; omega)) (by decide) (by omega)
   rcases hMS with ⟨rfl, rfl, rfl⟩ | ⟨c0, rfl, rfl⟩
   ·(refine WpL.go _ rfl fun Y y => ?_); repeat (first | (apply fw; (with_reducible constructor) <;> rfl) | (apply WpA.cd; constructor) | ((first | with_reducible refine WpA.go _ rfl fun Y y => ?_ | apply RunTo.id); simp only [zb, seval, w76, hvr, hcv0, hw1, hw2, hw3, hw4, k1, k2, k3]; refine RunTo.fn y (by first | (simp; done) | omega | (simp; omega)) ?_; clear y Y))
    refine ⟨s.size - (i + 3), _, by omega, Le.drop (s' := [some ⟨21, 1, [[.v (.int .i32 ((c : Nat) : Int))]]⟩, some ⟨21, 1, runC [((c : Nat) : Int)]⟩]) 2 (Nat.zero_le _) rfl ?_ rfl ?_, i + 3, [((c : Nat) : Int)], g, .ms 1 1, _, rfl, (by omega), hg1, hg2, (by first | (simp; done) | (simp; omega)), hg3, .inr ⟨_, rfl, rfl⟩, rfl⟩
    ·simp [Sub, find]
    ·simp [ObBd, C.bd]; exact hrb _
   ·(refine WpL.go _ rfl fun Y y => ?_); repeat (first | (apply fw; (with_reducible constructor) <;> rfl) | (apply WpA.cd; constructor) | ((first | with_reducible refine WpA.go _ rfl fun Y y => ?_ | apply RunTo.id); simp only [zb, seval, w76, hvr, runC_len, hcv0, hw1, hw2, hw3, hw4, k1, k2, k3]; refine RunTo.fn y (by first | (simp; done) | omega | (simp; omega)) ?_; clear y Y))
    refine ⟨s.size - (i + 3), _, by omega, Le.drop (s' := [some ⟨21, 1, [[.v (.int .i32 c0)]]⟩, some ⟨21, 1, runC (out ++ [((c : Nat) : Int)])⟩]) 2 (Nat.zero_le _) ?_ ?_ rfl ?_, i + 3, out ++ [((c : Nat) : Int)], g, .ms 1 (out ++ [((c : Nat) : Int)]).length, _, rfl, (by omega), hg1, hg2, (by first | (simp; done) | (simp; omega)), hg3, .inr ⟨c0, rfl, rfl⟩, rfl⟩
    ·simp [runC]
    ·simp [Sub, find]
    ·simp [ObBd, C.bd]; exact hrb _
  ·have hbad : badAt s i := by rcases hdec with ⟨-, -, -, -, -, h⟩ | ⟨h, -⟩; exact absurd h hvv; exact h
   have hvr : validRune (c : Int) = false := by unfold validRune; simp; omega
   repeat (first | (apply fw; (with_reducible constructor) <;> rfl) | (apply WpA.cd; constructor) | ((first | with_reducible refine WpA.go _ rfl fun Y y => ?_ | apply RunTo.id); simp only [zb, seval, w76, hd1]; refine RunTo.fn y (by first | (simp; done) | omega | (simp; omega)) ?_; clear y Y))
   (refine WpA.draw0 6 _ _ _ rfl rfl rfl (by kernel_rfl) (by kernel_rfl) (by kernel_rfl) fun K8 hK8 => ?_); simp only [zz] at hK8 ⊢; (refine Draw0.go fun K7 hK7 => ?_); simp only [zb, seval, w76, hz0, e0, hc1, hc2, g1, g2, g3, g4, hle, hcv0, hw1, hw2, hw3, hw4, k1, k2, k3]; (refine RunQ.mk (by first | (simp; done) | omega | (simp; omega)) (hK7 _ _ ?_)); clear hK7 K7; (try ((refine Draw0.nil (hK8 _ ?_)); clear hK8 K8; (refine WpL.go _ rfl fun Y y => ?_); repeat (first | (apply fw; (with_reducible constructor) <;> rfl) | (apply WpA.cd; constructor) | ((first | with_reducible refine WpA.go _ rfl fun Y y => ?_ | apply RunTo.id); simp only [zb, seval, w76, hz0, e0, hc1, hc2, g1, g2, g3, g4, hle, hcv0, hw1, hw2, hw3, hw4, k1, k2, k3]; refine RunTo.fn y (by first | (simp; done) | omega | (simp; omega)) ?_; clear y Y))))
   refine WpA.rounds 4 ?_
   repeat (first | (apply fw; (with_reducible constructor) <;> rfl) | (apply WpA.cd; constructor) | ((first | with_reducible refine WpA.go _ rfl fun Y y => ?_ | apply RunTo.id); simp only [zb, seval, w76, hz1, e1, hz2, e2, q1t hq1, q2t hq2, lo1, lo2, hj, hj2, hs1, hcv0, hw1, hw2, hw3, hw4, k1, k2, k3]; refine RunTo.fn y (by first | (simp; done) | omega | (simp; omega)) ?_; clear y Y))
   refine WpL.call rfl (guardA_sound (P := Tryd.prog) rfl) (CallA.shut rfl rfl (by kernel_rfl) (ALes.refl _) (by first | rfl | simp [shuts, A.shut, C.shut]) (rchar_pure _) ?_)
   (refine WpL.go _ rfl fun Y y => ?_); repeat (first | (apply fw; (with_reducible constructor) <;> rfl) | (apply WpA.cd; constructor) | ((first | with_reducible refine WpA.go _ rfl fun Y y => ?_ | apply RunTo.id); simp only [zb, seval, w76, hvr, hcv0, hw1, hw2, hw3, hw4, k1, k2, k3]; refine RunTo.fn y (by first | (simp; done) | omega | (simp; omega)) ?_; clear y Y))
   have hv : validD s.data.toList = false := by rw [hval]; exact valid_bad hlt hbad
   rw [hv]
   refine ⟨by simp, _, _, _, _, (by simp only [zb, seval, w76]; rfl), (by simp), (by simp only [zv]; rfl), (by simp), _, ALe.tup (.cons ALe.nil (.refl _)), rfl⟩
 have g4 : decide ((at_ s i : Int) < 240) = false := by simp; omega
 have g5 : decide ((240 : Int) ≤ at_ s i) = true := by simp; omega
 have g6 : decide ((at_ s i : Int) < 245) = true := by simp; omega
 have hle : bits .and .i32 (at_ s i : Int) 7 = ((at_ s i % 8 : Nat) : Int) := lead_and (at_ s i) 7 (by simp) hb0
 obtain ⟨c, hcd⟩ : ∃ c, c = at_ s i % 8 * 262144 + at_ s (i + 1) % 64 * 4096 + at_ s (i + 2) % 64 * 64 + at_ s (i + 3) % 64 := ⟨_, rfl⟩
 have hdec := decD (s := s) (i := i) (c := c) (by omega) (by omega) hcd
 by_cases h2 : i + 4 ≤ s.size
 case neg =>
  have hc2 : decide ((s.size : Int) < ((i + 4 : Nat) : Int)) = true := by simp; omega
  have hbad : badAt s i := by rcases hdec with ⟨-, h, -⟩ | ⟨h, -⟩; exact absurd h h2; exact h
  repeat (first | (apply fw; (with_reducible constructor) <;> rfl) | (apply WpA.cd; constructor) | ((first | with_reducible refine WpA.go _ rfl fun Y y => ?_ | apply RunTo.id); simp only [zb, seval, w76, hd1]; refine RunTo.fn y (by first | (simp; done) | omega | (simp; omega)) ?_; clear y Y))
  (refine WpA.draw0 6 _ _ _ rfl rfl rfl (by kernel_rfl) (by kernel_rfl) (by kernel_rfl) fun K8 hK8 => ?_); simp only [zz] at hK8 ⊢; (refine Draw0.go fun K7 hK7 => ?_); simp only [zb, seval, w76, hz0, e0, hc1, hc2, g1, g2, g3, g4, g5, g6, hle, hcv0, hw1, hw2, hw3, hw4, k1, k2, k3]; (refine RunQ.mk (by first | (simp; done) | omega | (simp; omega)) (hK7 _ _ ?_)); clear hK7 K7; (try ((refine Draw0.nil (hK8 _ ?_)); clear hK8 K8; (refine WpL.go _ rfl fun Y y => ?_); repeat (first | (apply fw; (with_reducible constructor) <;> rfl) | (apply WpA.cd; constructor) | ((first | with_reducible refine WpA.go _ rfl fun Y y => ?_ | apply RunTo.id); simp only [zb, seval, w76, hz0, e0, hc1, hc2, g1, g2, g3, g4, g5, g6, hle, hcv0, hw1, hw2, hw3, hw4, k1, k2, k3]; refine RunTo.fn y (by first | (simp; done) | omega | (simp; omega)) ?_; clear y Y))))
  have hv : validD s.data.toList = false := by rw [hval]; exact valid_bad hlt hbad
  rw [hv]
  refine ⟨by simp, _, _, _, _, (by simp only [zb, seval, w76]; rfl), (by simp), (by simp only [zv]; rfl), (by simp), _, ALe.tup (.cons ALe.nil (.refl _)), rfl⟩
 have hc2 : decide ((s.size : Int) < ((i + 4 : Nat) : Int)) = false := by simp; omega
 obtain ⟨z1, hz1, e1⟩ := at_get (s := s) (i := i + 1) (by omega)
 obtain ⟨z2, hz2, e2⟩ := at_get (s := s) (i := i + 2) (by omega)
 obtain ⟨z3, hz3, e3⟩ := at_get (s := s) (i := i + 3) (by omega)
 have hj := join6 (at_ s i % 8) (at_ s (i + 1) % 64) (by omega) (by omega)
 have hj2 := join6 (at_ s i % 8 * 64 + at_ s (i + 1) % 64) (at_ s (i + 2) % 64) (by omega) (by omega)
 have hj3 : bits .or .i32 (IntKind.i32.wrap ((((at_ s i % 8 * 64 + at_ s (i + 1) % 64) * 64 + at_ s (i + 2) % 64 : Nat) : Int) * 2 ^ (min 6 IntKind.i32.bits))) (IntKind.i32.wrap ((at_ s (i + 3) % 64 : Nat) : Int)) = (c : Int) := by
  rw [join6 _ _ (by omega) (by omega)]; omega
 by_cases hq1 : at_ s (i + 1) / 64 = 2
 case neg =>
  have hbad : badAt s i := by rcases hdec with ⟨-, -, h, -⟩ | ⟨h, -⟩; exact absurd h hq1; exact h
  repeat (first | (apply fw; (with_reducible constructor) <;> rfl) | (apply WpA.cd; constructor) | ((first | with_reducible refine WpA.go _ rfl fun Y y => ?_ | apply RunTo.id); simp only [zb, seval, w76, hd1]; refine RunTo.fn y (by first | (simp; done) | omega | (simp; omega)) ?_; clear y Y))
  (refine WpA.draw0 6 _ _ _ rfl rfl rfl (by kernel_rfl) (by kernel_rfl) (by kernel_rfl) fun K8 hK8 => ?_); simp only [zz] at hK8 ⊢; (refine Draw0.go fun K7 hK7 => ?_); simp only [zb, seval, w76, hz0, e0, hc1, hc2, g1, g2, g3, g4, g5, g6, hle, hcv0, hw1, hw2, hw3, hw4, k1, k2, k3]; (refine RunQ.mk (by first | (simp; done) | omega | (simp; omega)) (hK7 _ _ ?_)); clear hK7 K7; (try ((refine Draw0.nil (hK8 _ ?_)); clear hK8 K8; (refine WpL.go _ rfl fun Y y => ?_); repeat (first | (apply fw; (with_reducible constructor) <;> rfl) | (apply WpA.cd; constructor) | ((first | with_reducible refine WpA.go _ rfl fun Y y => ?_ | apply RunTo.id); simp only [zb, seval, w76, hz0, e0, hc1, hc2, g1, g2, g3, g4, g5, g6, hle, hcv0, hw1, hw2, hw3, hw4, k1, k2, k3]; refine RunTo.fn y (by first | (simp; done) | omega | (simp; omega)) ?_; clear y Y))))
  refine WpA.rounds 4 ?_
  repeat (first | (apply fw; (with_reducible constructor) <;> rfl) | (apply WpA.cd; constructor) | ((first | with_reducible refine WpA.go _ rfl fun Y y => ?_ | apply RunTo.id); simp only [zb, seval, w76, hz1, e1, q1f hq1, hcv0, hw1, hw2, hw3, hw4, k1, k2, k3]; refine RunTo.fn y (by first | (simp; done) | omega | (simp; omega)) ?_; clear y Y))
  have hv : validD s.data.toList = false := by rw [hval]; exact valid_bad hlt hbad
  rw [hv]
  refine ⟨by simp, _, _, _, _, (by simp only [zb, seval, w76]; rfl), (by simp), (by simp only [zv]; rfl), (by simp), _, ALe.tup (.cons ALe.nil (.refl _)), rfl⟩
 by_cases hq2 : at_ s (i + 2) / 64 = 2
 case neg =>
  have hbad : badAt s i := by rcases hdec with ⟨-, -, -, h, -⟩ | ⟨h, -⟩; exact absurd h hq2; exact h
  repeat (first | (apply fw; (with_reducible constructor) <;> rfl) | (apply WpA.cd; constructor) | ((first | with_reducible refine WpA.go _ rfl fun Y y => ?_ | apply RunTo.id); simp only [zb, seval, w76, hd1]; refine RunTo.fn y (by first | (simp; done) | omega | (simp; omega)) ?_; clear y Y))
  (refine WpA.draw0 6 _ _ _ rfl rfl rfl (by kernel_rfl) (by kernel_rfl) (by kernel_rfl) fun K8 hK8 => ?_); simp only [zz] at hK8 ⊢; (refine Draw0.go fun K7 hK7 => ?_); simp only [zb, seval, w76, hz0, e0, hc1, hc2, g1, g2, g3, g4, g5, g6, hle, hcv0, hw1, hw2, hw3, hw4, k1, k2, k3]; (refine RunQ.mk (by first | (simp; done) | omega | (simp; omega)) (hK7 _ _ ?_)); clear hK7 K7; (try ((refine Draw0.nil (hK8 _ ?_)); clear hK8 K8; (refine WpL.go _ rfl fun Y y => ?_); repeat (first | (apply fw; (with_reducible constructor) <;> rfl) | (apply WpA.cd; constructor) | ((first | with_reducible refine WpA.go _ rfl fun Y y => ?_ | apply RunTo.id); simp only [zb, seval, w76, hz0, e0, hc1, hc2, g1, g2, g3, g4, g5, g6, hle, hcv0, hw1, hw2, hw3, hw4, k1, k2, k3]; refine RunTo.fn y (by first | (simp; done) | omega | (simp; omega)) ?_; clear y Y))))
  refine WpA.rounds 4 ?_
  repeat (first | (apply fw; (with_reducible constructor) <;> rfl) | (apply WpA.cd; constructor) | ((first | with_reducible refine WpA.go _ rfl fun Y y => ?_ | apply RunTo.id); simp only [zb, seval, w76, hz1, e1, hz2, e2, q1t hq1, q2f hq2, lo1, hj, hcv0, hw1, hw2, hw3, hw4, k1, k2, k3]; refine RunTo.fn y (by first | (simp; done) | omega | (simp; omega)) ?_; clear y Y))
  have hv : validD s.data.toList = false := by rw [hval]; exact valid_bad hlt hbad
  rw [hv]
  refine ⟨by simp, _, _, _, _, (by simp only [zb, seval, w76]; rfl), (by simp), (by simp only [zv]; rfl), (by simp), _, ALe.tup (.cons ALe.nil (.refl _)), rfl⟩
 by_cases hq3 : at_ s (i + 3) / 64 = 2
 case neg =>
  have hbad : badAt s i := by rcases hdec with ⟨-, -, -, -, h, -⟩ | ⟨h, -⟩; exact absurd h hq3; exact h
  repeat (first | (apply fw; (with_reducible constructor) <;> rfl) | (apply WpA.cd; constructor) | ((first | with_reducible refine WpA.go _ rfl fun Y y => ?_ | apply RunTo.id); simp only [zb, seval, w76, hd1]; refine RunTo.fn y (by first | (simp; done) | omega | (simp; omega)) ?_; clear y Y))
  (refine WpA.draw0 6 _ _ _ rfl rfl rfl (by kernel_rfl) (by kernel_rfl) (by kernel_rfl) fun K8 hK8 => ?_); simp only [zz] at hK8 ⊢; (refine Draw0.go fun K7 hK7 => ?_); simp only [zb, seval, w76, hz0, e0, hc1, hc2, g1, g2, g3, g4, g5, g6, hle, hcv0, hw1, hw2, hw3, hw4, k1, k2, k3]; (refine RunQ.mk (by first | (simp; done) | omega | (simp; omega)) (hK7 _ _ ?_)); clear hK7 K7; (try ((refine Draw0.nil (hK8 _ ?_)); clear hK8 K8; (refine WpL.go _ rfl fun Y y => ?_); repeat (first | (apply fw; (with_reducible constructor) <;> rfl) | (apply WpA.cd; constructor) | ((first | with_reducible refine WpA.go _ rfl fun Y y => ?_ | apply RunTo.id); simp only [zb, seval, w76, hz0, e0, hc1, hc2, g1, g2, g3, g4, g5, g6, hle, hcv0, hw1, hw2, hw3, hw4, k1, k2, k3]; refine RunTo.fn y (by first | (simp; done) | omega | (simp; omega)) ?_; clear y Y))))
  refine WpA.rounds 4 ?_
  repeat (first | (apply fw; (with_reducible constructor) <;> rfl) | (apply WpA.cd; constructor) | ((first | with_reducible refine WpA.go _ rfl fun Y y => ?_ | apply RunTo.id); simp only [zb, seval, w76, hz1, e1, hz2, e2, hz3, e3, q1t hq1, q2t hq2, q3f hq3, lo1, lo2, hj, hj2, hcv0, hw1, hw2, hw3, hw4, k1, k2, k3]; refine RunTo.fn y (by first | (simp; done) | omega | (simp; omega)) ?_; clear y Y))
  have hv : validD s.data.toList = false := by rw [hval]; exact valid_bad hlt hbad
  rw [hv]
  refine ⟨by simp, _, _, _, _, (by simp only [zb, seval, w76]; rfl), (by simp), (by simp only [zv]; rfl), (by simp), _, ALe.tup (.cons ALe.nil (.refl _)), rfl⟩
 by_cases hsm : c < 65536
 ·have hbad : badAt s i := by rcases hdec with ⟨-, -, -, -, -, h, -⟩ | ⟨h, -⟩; omega; exact h
  have hs1 : decide ((c : Int) < 65536) = true := by simp; omega
  repeat (first | (apply fw; (with_reducible constructor) <;> rfl) | (apply WpA.cd; constructor) | ((first | with_reducible refine WpA.go _ rfl fun Y y => ?_ | apply RunTo.id); simp only [zb, seval, w76, hd1]; refine RunTo.fn y (by first | (simp; done) | omega | (simp; omega)) ?_; clear y Y))
  (refine WpA.draw0 6 _ _ _ rfl rfl rfl (by kernel_rfl) (by kernel_rfl) (by kernel_rfl) fun K8 hK8 => ?_); simp only [zz] at hK8 ⊢; (refine Draw0.go fun K7 hK7 => ?_); simp only [zb, seval, w76, hz0, e0, hc1, hc2, g1, g2, g3, g4, g5, g6, hle, hcv0, hw1, hw2, hw3, hw4, k1, k2, k3]; (refine RunQ.mk (by first | (simp; done) | omega | (simp; omega)) (hK7 _ _ ?_)); clear hK7 K7; (try ((refine Draw0.nil (hK8 _ ?_)); clear hK8 K8; (refine WpL.go _ rfl fun Y y => ?_); repeat (first | (apply fw; (with_reducible constructor) <;> rfl) | (apply WpA.cd; constructor) | ((first | with_reducible refine WpA.go _ rfl fun Y y => ?_ | apply RunTo.id); simp only [zb, seval, w76, hz0, e0, hc1, hc2, g1, g2, g3, g4, g5, g6, hle, hcv0, hw1, hw2, hw3, hw4, k1, k2, k3]; refine RunTo.fn y (by first | (simp; done) | omega | (simp; omega)) ?_; clear y Y))))
  refine WpA.rounds 4 ?_
  repeat (first | (apply fw; (with_reducible constructor) <;> rfl) | (apply WpA.cd; constructor) | ((first | with_reducible refine WpA.go _ rfl fun Y y => ?_ | apply RunTo.id); simp only [zb, seval, w76, hz1, e1, hz2, e2, hz3, e3, q1t hq1, q2t hq2, q3t hq3, lo1, lo2, lo3, hj, hj2, hj3, hs1, hcv0, hw1, hw2, hw3, hw4, k1, k2, k3]; refine RunTo.fn y (by first | (simp; done) | omega | (simp; omega)) ?_; clear y Y))
  have hv : validD s.data.toList = false := by rw [hval]; exact valid_bad hlt hbad
  rw [hv]
  refine ⟨by simp, _, _, _, _, (by simp only [zb, seval, w76]; rfl), (by simp), (by simp only [zv]; rfl), (by simp), _, ALe.tup (.cons ALe.nil (.refl _)), rfl⟩
 have hs1 : decide ((c : Int) < 65536) = false := by simp; omega
 by_cases hvv : c ≤ 1114111
 ·have hd : Utf8.decode s i = (c, 4) := by rcases hdec with ⟨h, -⟩ | ⟨-, h⟩; exact h; exact absurd ⟨h2, hq1, hq2, hq3, by omega, hvv⟩ h
  have hvr : validRune (c : Int) = true := by unfold validRune; simp; omega
  repeat (first | (apply fw; (with_reducible constructor) <;> rfl) | (apply WpA.cd; constructor) | ((first | with_reducible refine WpA.go _ rfl fun Y y => ?_ | apply RunTo.id); simp only [zb, seval, w76, hd1]; refine RunTo.fn y (by first | (simp; done) | omega | (simp; omega)) ?_; clear y Y))
  (refine WpA.draw0 6 _ _ _ rfl rfl rfl (by kernel_rfl) (by kernel_rfl) (by kernel_rfl) fun K8 hK8 => ?_); simp only [zz] at hK8 ⊢; (refine Draw0.go fun K7 hK7 => ?_); simp only [zb, seval, w76, hz0, e0, hc1, hc2, g1, g2, g3, g4, g5, g6, hle, hcv0, hw1, hw2, hw3, hw4, k1, k2, k3]; (refine RunQ.mk (by first | (simp; done) | omega | (simp; omega)) (hK7 _ _ ?_)); clear hK7 K7; (try ((refine Draw0.nil (hK8 _ ?_)); clear hK8 K8; (refine WpL.go _ rfl fun Y y => ?_); repeat (first | (apply fw; (with_reducible constructor) <;> rfl) | (apply WpA.cd; constructor) | ((first | with_reducible refine WpA.go _ rfl fun Y y => ?_ | apply RunTo.id); simp only [zb, seval, w76, hz0, e0, hc1, hc2, g1, g2, g3, g4, g5, g6, hle, hcv0, hw1, hw2, hw3, hw4, k1, k2, k3]; refine RunTo.fn y (by first | (simp; done) | omega | (simp; omega)) ?_; clear y Y))))
  refine WpA.rounds 4 ?_
  repeat (first | (apply fw; (with_reducible constructor) <;> rfl) | (apply WpA.cd; constructor) | ((first | with_reducible refine WpA.go _ rfl fun Y y => ?_ | apply RunTo.id); simp only [zb, seval, w76, hz1, e1, hz2, e2, hz3, e3, q1t hq1, q2t hq2, q3t hq3, lo1, lo2, lo3, hj, hj2, hj3, hs1, hcv0, hw1, hw2, hw3, hw4, k1, k2, k3]; refine RunTo.fn y (by first | (simp; done) | omega | (simp; omega)) ?_; clear y Y))
  refine WpL.call rfl (guardA_sound (P := Tryd.prog) rfl) (CallA.shut rfl rfl (by kernel_rfl) (ALes.refl _) (by first | rfl | simp [shuts, A.shut, C.shut]) (rchar_pure _) ?_)
  obtain ⟨g, hg1, hg2, hg3⟩ := hfin _ _ hd (by first | (simp; done) | (simp; omega)) (by decide) (by omega)
  rcases hMS with ⟨rfl, rfl, rfl⟩ | ⟨c0, rfl, rfl⟩
  ·(refine WpL.go _ rfl fun Y y => ?_); repeat (first | (apply fw; (with_reducible constructor) <;> rfl) | (apply WpA.cd; constructor) | ((first | with_reducible refine WpA.go _ rfl fun Y y => ?_ | apply RunTo.id); simp only [zb, seval, w76, hvr, hcv0, hw1, hw2, hw3, hw4, k1, k2, k3]; refine RunTo.fn y (by first | (simp; done) | omega | (simp; omega)) ?_; clear y Y))
   refine ⟨s.size - (i + 4), _, by omega, Le.drop (s' := [some ⟨21, 1, [[.v (.int .i32 ((c : Nat) : Int))]]⟩, some ⟨21, 1, runC [((c : Nat) : Int)]⟩]) 2 (Nat.zero_le _) rfl ?_ rfl ?_, i + 4, [((c : Nat) : Int)], g, .ms 1 1, _, rfl, (by omega), hg1, hg2, (by first | (simp; done) | (simp; omega)), hg3, .inr ⟨_, rfl, rfl⟩, rfl⟩
   ·simp [Sub, find]
   ·simp [ObBd, C.bd]; exact hrb _
  ·(refine WpL.go _ rfl fun Y y => ?_); repeat (first | (apply fw; (with_reducible constructor) <;> rfl) | (apply WpA.cd; constructor) | ((first | with_reducible refine WpA.go _ rfl fun Y y => ?_ | apply RunTo.id); simp only [zb, seval, w76, hvr, runC_len, hcv0, hw1, hw2, hw3, hw4, k1, k2, k3]; refine RunTo.fn y (by first | (simp; done) | omega | (simp; omega)) ?_; clear y Y))
   refine ⟨s.size - (i + 4), _, by omega, Le.drop (s' := [some ⟨21, 1, [[.v (.int .i32 c0)]]⟩, some ⟨21, 1, runC (out ++ [((c : Nat) : Int)])⟩]) 2 (Nat.zero_le _) ?_ ?_ rfl ?_, i + 4, out ++ [((c : Nat) : Int)], g, .ms 1 (out ++ [((c : Nat) : Int)]).length, _, rfl, (by omega), hg1, hg2, (by first | (simp; done) | (simp; omega)), hg3, .inr ⟨c0, rfl, rfl⟩, rfl⟩
   ·simp [runC]
   ·simp [Sub, find]
   ·simp [ObBd, C.bd]; exact hrb _
 ·have hbad : badAt s i := by rcases hdec with ⟨-, -, -, -, -, -, h⟩ | ⟨h, -⟩; exact absurd h hvv; exact h
  have hvr : validRune (c : Int) = false := by unfold validRune; simp; omega
  repeat (first | (apply fw; (with_reducible constructor) <;> rfl) | (apply WpA.cd; constructor) | ((first | with_reducible refine WpA.go _ rfl fun Y y => ?_ | apply RunTo.id); simp only [zb, seval, w76, hd1]; refine RunTo.fn y (by first | (simp; done) | omega | (simp; omega)) ?_; clear y Y))
  (refine WpA.draw0 6 _ _ _ rfl rfl rfl (by kernel_rfl) (by kernel_rfl) (by kernel_rfl) fun K8 hK8 => ?_); simp only [zz] at hK8 ⊢; (refine Draw0.go fun K7 hK7 => ?_); simp only [zb, seval, w76, hz0, e0, hc1, hc2, g1, g2, g3, g4, g5, g6, hle, hcv0, hw1, hw2, hw3, hw4, k1, k2, k3]; (refine RunQ.mk (by first | (simp; done) | omega | (simp; omega)) (hK7 _ _ ?_)); clear hK7 K7; (try ((refine Draw0.nil (hK8 _ ?_)); clear hK8 K8; (refine WpL.go _ rfl fun Y y => ?_); repeat (first | (apply fw; (with_reducible constructor) <;> rfl) | (apply WpA.cd; constructor) | ((first | with_reducible refine WpA.go _ rfl fun Y y => ?_ | apply RunTo.id); simp only [zb, seval, w76, hz0, e0, hc1, hc2, g1, g2, g3, g4, g5, g6, hle, hcv0, hw1, hw2, hw3, hw4, k1, k2, k3]; refine RunTo.fn y (by first | (simp; done) | omega | (simp; omega)) ?_; clear y Y))))
  refine WpA.rounds 4 ?_
  repeat (first | (apply fw; (with_reducible constructor) <;> rfl) | (apply WpA.cd; constructor) | ((first | with_reducible refine WpA.go _ rfl fun Y y => ?_ | apply RunTo.id); simp only [zb, seval, w76, hz1, e1, hz2, e2, hz3, e3, q1t hq1, q2t hq2, q3t hq3, lo1, lo2, lo3, hj, hj2, hj3, hs1, hcv0, hw1, hw2, hw3, hw4, k1, k2, k3]; refine RunTo.fn y (by first | (simp; done) | omega | (simp; omega)) ?_; clear y Y))
  refine WpL.call rfl (guardA_sound (P := Tryd.prog) rfl) (CallA.shut rfl rfl (by kernel_rfl) (ALes.refl _) (by first | rfl | simp [shuts, A.shut, C.shut]) (rchar_pure _) ?_)
  (refine WpL.go _ rfl fun Y y => ?_); repeat (first | (apply fw; (with_reducible constructor) <;> rfl) | (apply WpA.cd; constructor) | ((first | with_reducible refine WpA.go _ rfl fun Y y => ?_ | apply RunTo.id); simp only [zb, seval, w76, hvr, hcv0, hw1, hw2, hw3, hw4, k1, k2, k3]; refine RunTo.fn y (by first | (simp; done) | omega | (simp; omega)) ?_; clear y Y))
  have hv : validD s.data.toList = false := by rw [hval]; exact valid_bad hlt hbad
  rw [hv]
  refine ⟨by simp, _, _, _, _, (by simp only [zb, seval, w76]; rfl), (by simp), (by simp only [zv]; rfl), (by simp), _, ALe.tup (.cons ALe.nil (.refl _)), rfl⟩
end Go.Proofs.YtpacdmgnpadleaaDoor
end
section
namespace Go.Proofs.YtpacdmgnpadleaaDoor
open Go.RowKit
set_option linter.unusedSimpArgs false
set_option linter.unusedVariables false
set_option maxHeartbeats 4000000 in
theorem bare0_any (d : D) (w : World) (v : Value) (h : IsD w d v) : Calls Tryd.prog 73 #[v, .int .i64 0] w fun e w' => e = .returned (.bool (bareB false false false false d)) ∧ Ext w w' := by
 obtain ⟨am, cm, al, cl, rfl, -, -, -, hm, -, hl⟩ := h.open
 unfold maxLen at hm hl
 clear h
 have hx0 := (Ext.refl w).alloc (.cells #[.int .i64 d.k, .int .i32 d.c, .bool d.neg, .slice am d.mag.length cm, .string d.t, .slice al d.l.length cl] 31)
 have e1 : (d.c == 0) = decide (d.c = 0) := by rfl
 have e3 := len0 d.mag.length
 have e4 := str0 d.t
 have e5 := len0 d.l.length
 have b1 : (bits BinOp.and IntKind.i64 1 1 != 0) = true := by decide
 have b2 : (bits BinOp.and IntKind.i64 2 2 != 0) = true := by decide
 have b4 : (bits BinOp.and IntKind.i64 4 4 != 0) = true := by decide
 have b8 : (bits BinOp.and IntKind.i64 8 8 != 0) = true := by decide
 unfold bareB
 generalize decide (d.c = 0) = c1 at *
 generalize decide (d.mag.length = 0) = c3 at *
 generalize decide (d.t.size = 0) = c4 at *
 generalize decide (d.l.length = 0) = c5 at *
 generalize d.neg = c2 at *
 cases c1
 case false =>
  skip
  all_goals (go_enter Tryd.func73, Tryd.ntmps73; go_wp2_with fail; go_ret; exact ⟨ret_bool (by simp), hx0⟩)
 cases c2
 case true =>
  skip
  all_goals (go_enter Tryd.func73, Tryd.ntmps73; go_wp2_with fail; go_ret; exact ⟨ret_bool (by simp), hx0⟩)
 cases c3
 case false =>
  skip
  all_goals (go_enter Tryd.func73, Tryd.ntmps73; go_wp2_with fail; go_ret; exact ⟨ret_bool (by simp), hx0⟩)
 cases c4
 all_goals (go_enter Tryd.func73, Tryd.ntmps73; go_wp2_with fail; go_ret; exact ⟨ret_bool (by simp), hx0⟩)
set_option maxHeartbeats 4000000 in
theorem bare1_any (d : D) (w : World) (v : Value) (h : IsD w d v) : Calls Tryd.prog 73 #[v, .int .i64 1] w fun e w' => e = .returned (.bool (bareB true false false false d)) ∧ Ext w w' := by
 obtain ⟨am, cm, al, cl, rfl, -, -, -, hm, -, hl⟩ := h.open
 unfold maxLen at hm hl
 clear h
 have hx0 := (Ext.refl w).alloc (.cells #[.int .i64 d.k, .int .i32 d.c, .bool d.neg, .slice am d.mag.length cm, .string d.t, .slice al d.l.length cl] 31)
 have e1 : (d.c == 0) = decide (d.c = 0) := by rfl
 have e3 := len0 d.mag.length
 have e4 := str0 d.t
 have e5 := len0 d.l.length
 have b1 : (bits BinOp.and IntKind.i64 1 1 != 0) = true := by decide
 have b2 : (bits BinOp.and IntKind.i64 2 2 != 0) = true := by decide
 have b4 : (bits BinOp.and IntKind.i64 4 4 != 0) = true := by decide
 have b8 : (bits BinOp.and IntKind.i64 8 8 != 0) = true := by decide
 unfold bareB
 generalize decide (d.c = 0) = c1 at *
 generalize decide (d.mag.length = 0) = c3 at *
 generalize decide (d.t.size = 0) = c4 at *
 generalize decide (d.l.length = 0) = c5 at *
 generalize d.neg = c2 at *
 cases c1
 case false =>
  cases c2 <;> cases c3 <;> cases c4
  all_goals (go_enter Tryd.func73, Tryd.ntmps73; go_wp2_with fail; go_ret; exact ⟨ret_bool (by simp), hx0⟩)
 cases c2
 case true =>
  skip
  all_goals (go_enter Tryd.func73, Tryd.ntmps73; go_wp2_with fail; go_ret; exact ⟨ret_bool (by simp), hx0⟩)
 cases c3
 case false =>
  skip
  all_goals (go_enter Tryd.func73, Tryd.ntmps73; go_wp2_with fail; go_ret; exact ⟨ret_bool (by simp), hx0⟩)
 cases c4
 all_goals (go_enter Tryd.func73, Tryd.ntmps73; go_wp2_with fail; go_ret; exact ⟨ret_bool (by simp), hx0⟩)
set_option maxHeartbeats 4000000 in
theorem bare2_any (d : D) (w : World) (v : Value) (h : IsD w d v) : Calls Tryd.prog 73 #[v, .int .i64 2] w fun e w' => e = .returned (.bool (bareB false true false false d)) ∧ Ext w w' := by
 obtain ⟨am, cm, al, cl, rfl, -, -, -, hm, -, hl⟩ := h.open
 unfold maxLen at hm hl
 clear h
 have hx0 := (Ext.refl w).alloc (.cells #[.int .i64 d.k, .int .i32 d.c, .bool d.neg, .slice am d.mag.length cm, .string d.t, .slice al d.l.length cl] 31)
 have e1 : (d.c == 0) = decide (d.c = 0) := by rfl
 have e3 := len0 d.mag.length
 have e4 := str0 d.t
 have e5 := len0 d.l.length
 have b1 : (bits BinOp.and IntKind.i64 1 1 != 0) = true := by decide
 have b2 : (bits BinOp.and IntKind.i64 2 2 != 0) = true := by decide
 have b4 : (bits BinOp.and IntKind.i64 4 4 != 0) = true := by decide
 have b8 : (bits BinOp.and IntKind.i64 8 8 != 0) = true := by decide
 unfold bareB
 generalize decide (d.c = 0) = c1 at *
 generalize decide (d.mag.length = 0) = c3 at *
 generalize decide (d.t.size = 0) = c4 at *
 generalize decide (d.l.length = 0) = c5 at *
 generalize d.neg = c2 at *
 cases c1
 case false =>
  skip
  all_goals (go_enter Tryd.func73, Tryd.ntmps73; go_wp2_with fail; go_ret; exact ⟨ret_bool (by simp), hx0⟩)
 cases c2
 case true =>
  cases c4
  all_goals (go_enter Tryd.func73, Tryd.ntmps73; go_wp2_with fail; go_ret; exact ⟨ret_bool (by simp), hx0⟩)
 cases c3
 case false =>
  cases c4
  all_goals (go_enter Tryd.func73, Tryd.ntmps73; go_wp2_with fail; go_ret; exact ⟨ret_bool (by simp), hx0⟩)
 cases c4
 all_goals (go_enter Tryd.func73, Tryd.ntmps73; go_wp2_with fail; go_ret; exact ⟨ret_bool (by simp), hx0⟩)
set_option maxHeartbeats 4000000 in
theorem bare4_any (d : D) (w : World) (v : Value) (h : IsD w d v) : Calls Tryd.prog 73 #[v, .int .i64 4] w fun e w' => e = .returned (.bool (bareB false false true false d)) ∧ Ext w w' := by
 obtain ⟨am, cm, al, cl, rfl, -, -, -, hm, -, hl⟩ := h.open
 unfold maxLen at hm hl
 clear h
 have hx0 := (Ext.refl w).alloc (.cells #[.int .i64 d.k, .int .i32 d.c, .bool d.neg, .slice am d.mag.length cm, .string d.t, .slice al d.l.length cl] 31)
 have e1 : (d.c == 0) = decide (d.c = 0) := by rfl
 have e3 := len0 d.mag.length
 have e4 := str0 d.t
 have e5 := len0 d.l.length
 have b1 : (bits BinOp.and IntKind.i64 1 1 != 0) = true := by decide
 have b2 : (bits BinOp.and IntKind.i64 2 2 != 0) = true := by decide
 have b4 : (bits BinOp.and IntKind.i64 4 4 != 0) = true := by decide
 have b8 : (bits BinOp.and IntKind.i64 8 8 != 0) = true := by decide
 unfold bareB
 generalize decide (d.c = 0) = c1 at *
 generalize decide (d.mag.length = 0) = c3 at *
 generalize decide (d.t.size = 0) = c4 at *
 generalize decide (d.l.length = 0) = c5 at *
 generalize d.neg = c2 at *
 cases c1
 case false =>
  skip
  all_goals (go_enter Tryd.func73, Tryd.ntmps73; go_wp2_with fail; go_ret; exact ⟨ret_bool (by simp), hx0⟩)
 cases c2
 case true =>
  skip
  all_goals (go_enter Tryd.func73, Tryd.ntmps73; go_wp2_with fail; go_ret; exact ⟨ret_bool (by simp), hx0⟩)
 cases c3
 case false =>
  skip
  all_goals (go_enter Tryd.func73, Tryd.ntmps73; go_wp2_with fail; go_ret; exact ⟨ret_bool (by simp), hx0⟩)
 cases c4
 all_goals (go_enter Tryd.func73, Tryd.ntmps73; go_wp2_with fail; go_ret; exact ⟨ret_bool (by simp), hx0⟩)
set_option maxHeartbeats 4000000 in
theorem bare8_any (d : D) (w : World) (v : Value) (h : IsD w d v) : Calls Tryd.prog 73 #[v, .int .i64 8] w fun e w' => e = .returned (.bool (bareB false false false true d)) ∧ Ext w w' := by
 obtain ⟨am, cm, al, cl, rfl, -, -, -, hm, -, hl⟩ := h.open
 unfold maxLen at hm hl
 clear h
 have hx0 := (Ext.refl w).alloc (.cells #[.int .i64 d.k, .int .i32 d.c, .bool d.neg, .slice am d.mag.length cm, .string d.t, .slice al d.l.length cl] 31)
 have e1 : (d.c == 0) = decide (d.c = 0) := by rfl
 have e3 := len0 d.mag.length
 have e4 := str0 d.t
 have e5 := len0 d.l.length
 have b1 : (bits BinOp.and IntKind.i64 1 1 != 0) = true := by decide
 have b2 : (bits BinOp.and IntKind.i64 2 2 != 0) = true := by decide
 have b4 : (bits BinOp.and IntKind.i64 4 4 != 0) = true := by decide
 have b8 : (bits BinOp.and IntKind.i64 8 8 != 0) = true := by decide
 unfold bareB
 generalize decide (d.c = 0) = c1 at *
 generalize decide (d.mag.length = 0) = c3 at *
 generalize decide (d.t.size = 0) = c4 at *
 generalize decide (d.l.length = 0) = c5 at *
 generalize d.neg = c2 at *
 cases c1
 case false =>
  skip
  all_goals (go_enter Tryd.func73, Tryd.ntmps73; go_wp2_with fail; go_ret; exact ⟨ret_bool (by simp), hx0⟩)
 cases c2
 case true =>
  skip
  all_goals (go_enter Tryd.func73, Tryd.ntmps73; go_wp2_with fail; go_ret; exact ⟨ret_bool (by simp), hx0⟩)
 cases c3
 case false =>
  skip
  all_goals (go_enter Tryd.func73, Tryd.ntmps73; go_wp2_with fail; go_ret; exact ⟨ret_bool (by simp), hx0⟩)
 cases c4
 all_goals (go_enter Tryd.func73, Tryd.ntmps73; go_wp2_with fail; go_ret; exact ⟨ret_bool (by simp), hx0⟩)
end Go.Proofs.YtpacdmgnpadleaaDoor
end
section
namespace Go.Proofs.YtpacdmgnpadleaaDoor
open Go Go.RowKit
set_option linter.unusedSimpArgs false
set_option linter.unusedVariables false
def SmallTo : Nat → D → Prop
 | 0, _ => True
 | n + 1, d => d.t.size ≤ 3000 ∧ d.mag.length ≤ 3000 ∧ d.l.length ≤ 3000 ∧ ∀ x ∈ d.l, SmallTo n x
theorem cnts_len : ∀ l : List D, l.length ≤ cnts l
 | [] => by simp
 | d :: l => by
  have := cnts_len l
  have := d.count_pos
  simp only [cnts, List.length_cons]; omega
end Go.Proofs.YtpacdmgnpadleaaDoor
end
section
namespace Go.Proofs.YtpacdmgnpadleaaDoor
open Go Go.RowKit Go.Lib
set_option linter.unusedSimpArgs false
set_option linter.unusedVariables false
set_option maxHeartbeats 4000000
set_option maxRecDepth 100000
theorem bare0_pure (d : D) : Pure Tryd.prog 73 [.agg d.cc, .one (.v (.int .i64 0))] (.one (.v (.bool (bareB false false false false d)))) := by
 refine pure_old_v rfl fun w vs hg hv => ?_
 obtain ⟨v, u, rfl, hv1, hu1⟩ := hv.two
 simp only [Ca, Cc] at hu1
 rw [hu1.1]
 exact bare0_any d w v hv1.isD
theorem bare1_pure (d : D) : Pure Tryd.prog 73 [.agg d.cc, .one (.v (.int .i64 1))] (.one (.v (.bool (bareB true false false false d)))) := by
 refine pure_old_v rfl fun w vs hg hv => ?_
 obtain ⟨v, u, rfl, hv1, hu1⟩ := hv.two
 simp only [Ca, Cc] at hu1
 rw [hu1.1]
 exact bare1_any d w v hv1.isD
theorem bare2_pure (d : D) : Pure Tryd.prog 73 [.agg d.cc, .one (.v (.int .i64 2))] (.one (.v (.bool (bareB false true false false d)))) := by
 refine pure_old_v rfl fun w vs hg hv => ?_
 obtain ⟨v, u, rfl, hv1, hu1⟩ := hv.two
 simp only [Ca, Cc] at hu1
 rw [hu1.1]
 exact bare2_any d w v hv1.isD
theorem bare4_pure (d : D) : Pure Tryd.prog 73 [.agg d.cc, .one (.v (.int .i64 4))] (.one (.v (.bool (bareB false false true false d)))) := by
 refine pure_old_v rfl fun w vs hg hv => ?_
 obtain ⟨v, u, rfl, hv1, hu1⟩ := hv.two
 simp only [Ca, Cc] at hu1
 rw [hu1.1]
 exact bare4_any d w v hv1.isD
theorem bare8_pure (d : D) : Pure Tryd.prog 73 [.agg d.cc, .one (.v (.int .i64 8))] (.one (.v (.bool (bareB false false false true d)))) := by
 refine pure_old_v rfl fun w vs hg hv => ?_
 obtain ⟨v, u, rfl, hv1, hu1⟩ := hv.two
 simp only [Ca, Cc] at hu1
 rw [hu1.1]
 exact bare8_any d w v hv1.isD
theorem bareB_iff {h1 h2 h4 h8 : Bool} {d : D} : bareB h1 h2 h4 h8 d = true ↔ ((h1 = true ∨ d.c = 0) ∧ (h2 = true ∨ (d.neg = false ∧ d.mag = [])) ∧ (h4 = true ∨ d.t = ⟨#[]⟩) ∧ (h8 = true ∨ d.l = [])) := by
 have ht : ∀ b : ByteArray, b.size = 0 ↔ b = ⟨#[]⟩ := fun b => ⟨fun h => by obtain ⟨a⟩ := b; have : a = #[] := Array.eq_empty_of_size_eq_zero h; rw [this], fun h => by rw [h]; rfl⟩
 unfold bareB
 simp only [Bool.and_eq_true, Bool.or_eq_true, decide_eq_true_eq, Bool.not_eq_true', List.length_eq_zero_iff, ht, and_assoc]
theorem not_bare {d : D} (h : ¬ Bare d) : plainB d = false := plainB_neg fun hp => h (by cases d; rw [D.Plain] at hp; exact hp.2.1)
def PlainTo (n : Nat) : Prop := ∀ d : D, d.ht ≤ n → d.Ok → SmallTo n d → Pure Tryd.prog 59 [.agg d.cc] (.one (.v (.bool (plainB d))))
theorem rplain_flat (k c : Int) (neg : Bool) (mag : List Int) (t : ByteArray) (l : List D) (hmg : DigOk mag) (hst : t.size ≤ 3000) (hsmag : mag.length ≤ 3000)
  (hk7 : k ≠ 7) (hk8 : k ≠ 8) : Pure Tryd.prog 59 [.agg (D.mk k c neg mag t l).cc] (.one (.v (.bool (plainB (.mk k c neg mag t l))))) := by
 by_cases h0 : k = 0 ∨ k = 1 ∨ k = 2 ∨ k = 9 ∨ k = 10
 ·have hpb : plainB (.mk k c neg mag t l) = bareB false false false false (.mk k c neg mag t l) := by
   by_cases hb : Bare (.mk k c neg mag t l)
   ·rw [plain_none k h0 hb]
    exact (bareB_iff.2 (by rcases h0 with rfl | rfl | rfl | rfl | rfl <;> simpa [Bare, D.k] using hb)).symm
   ·rw [not_bare hb]
    cases h : bareB false false false false (.mk k c neg mag t l) with
    | false => rfl
    | true => exact absurd (by rcases h0 with rfl | rfl | rfl | rfl | rfl <;> simpa [Bare, D.k] using bareB_iff.1 h) hb
  have hco := bare0_pure (.mk k c neg mag t l)
  obtain ⟨b, hbr⟩ : ∃ b, bareB false false false false (.mk k c neg mag t l) = b := ⟨_, rfl⟩
  rw [hpb, hbr]
  cases b <;> rcases h0 with rfl | rfl | rfl | rfl | rfl
  all_goals
   refine Fn.intro Tryd.func59 rfl Tryd.ntmps59 Tryd.results59 (by simp only [List.length_cons, List.length_nil]; decide) ?_
   repeat (first | (apply fw; (with_reducible constructor) <;> rfl) | (apply WpA.cd; constructor) | ((first | with_reducible refine WpA.go _ rfl fun Y y => ?_ | apply RunTo.id); simp only [zb, seval, w59, D.cc_eq, D.k, D.c, D.neg, D.mag, D.t, D.l]; refine RunTo.fn y (by first | (simp; done) | omega | (simp; omega)) ?_; clear y Y))
   refine WpL.call rfl (guardA_sound (P := Tryd.prog) rfl) (CallA.shut rfl rfl (by kernel_rfl) (by first | exact ALes.refl _ | (simp only [zz, D.cc_eq, D.k, D.c, D.neg, D.mag, D.t, D.l]; exact ALes.refl _)) (by first | rfl | simp [shuts, A.shut, C.shut, D.cc_eq, D.k, D.c, D.neg, D.mag, D.t, D.l]) (hco) ?_)
   (refine WpL.go _ rfl fun Y y => ?_); repeat (first | (apply fw; (with_reducible constructor) <;> rfl) | (apply WpA.cd; constructor) | ((first | with_reducible refine WpA.go _ rfl fun Y y => ?_ | apply RunTo.id); simp only [zb, seval, w59, hbr]; refine RunTo.fn y (by first | (simp; done) | omega | (simp; omega)) ?_; clear y Y))
   refine ⟨by simp, _, _, _, _, (by simp only [zb, seval, w59]; rfl), (by simp), (by simp only [zv]; rfl), (by simp), _, ALe.refl _, ?_⟩
   rfl
 by_cases h3 : k = 3
 ·subst h3
  by_cases hb : Bare (.mk 3 c neg mag t l)
  ·have hbr : bareB true false false false (.mk 3 c neg mag t l) = true := bareB_iff.2 (by simpa [Bare, D.k] using hb)
   rw [plain_char hb]
   refine Fn.intro Tryd.func59 rfl Tryd.ntmps59 Tryd.results59 (by simp only [List.length_cons, List.length_nil]; decide) ?_
   repeat (first | (apply fw; (with_reducible constructor) <;> rfl) | (apply WpA.cd; constructor) | ((first | with_reducible refine WpA.go _ rfl fun Y y => ?_ | apply RunTo.id); simp only [zb, seval, w59, D.cc_eq, D.k, D.c, D.neg, D.mag, D.t, D.l]; refine RunTo.fn y (by first | (simp; done) | omega | (simp; omega)) ?_; clear y Y))
   refine WpL.call rfl (guardA_sound (P := Tryd.prog) rfl) (CallA.shut rfl rfl (by kernel_rfl) (by first | exact ALes.refl _ | (simp only [zz, D.cc_eq, D.k, D.c, D.neg, D.mag, D.t, D.l]; exact ALes.refl _)) (by first | rfl | simp [shuts, A.shut, C.shut, D.cc_eq, D.k, D.c, D.neg, D.mag, D.t, D.l]) (bare1_pure (.mk 3 c neg mag t l)) ?_)
   (refine WpL.go _ rfl fun Y y => ?_); repeat (first | (apply fw; (with_reducible constructor) <;> rfl) | (apply WpA.cd; constructor) | ((first | with_reducible refine WpA.go _ rfl fun Y y => ?_ | apply RunTo.id); simp only [zb, seval, w59, hbr]; refine RunTo.fn y (by first | (simp; done) | omega | (simp; omega)) ?_; clear y Y))
   refine WpL.call rfl (guardA_sound (P := Tryd.prog) rfl) (CallA.shut rfl rfl (by kernel_rfl) (ALes.refl _) (by first | rfl | simp [shuts, A.shut, C.shut]) (rchar_pure c) ?_)
   (refine WpL.go _ rfl fun Y y => ?_); repeat (first | (apply fw; (with_reducible constructor) <;> rfl) | (apply WpA.cd; constructor) | ((first | with_reducible refine WpA.go _ rfl fun Y y => ?_ | apply RunTo.id); simp only [zb, seval, w59]; refine RunTo.fn y (by first | (simp; done) | omega | (simp; omega)) ?_; clear y Y))
   refine ⟨by simp, _, _, _, _, (by simp only [zb, seval, w59]; rfl), (by simp), (by simp only [zv]; rfl), (by simp), _, ALe.refl _, ?_⟩
   rfl
  ·have hbr : bareB true false false false (.mk 3 c neg mag t l) = false := by
    cases h : bareB true false false false (.mk 3 c neg mag t l) with
    | false => rfl
    | true => exact absurd (by simpa [Bare, D.k] using bareB_iff.1 h) hb
   rw [not_bare hb]
   refine Fn.intro Tryd.func59 rfl Tryd.ntmps59 Tryd.results59 (by simp only [List.length_cons, List.length_nil]; decide) ?_
   repeat (first | (apply fw; (with_reducible constructor) <;> rfl) | (apply WpA.cd; constructor) | ((first | with_reducible refine WpA.go _ rfl fun Y y => ?_ | apply RunTo.id); simp only [zb, seval, w59, D.cc_eq, D.k, D.c, D.neg, D.mag, D.t, D.l]; refine RunTo.fn y (by first | (simp; done) | omega | (simp; omega)) ?_; clear y Y))
   refine WpL.call rfl (guardA_sound (P := Tryd.prog) rfl) (CallA.shut rfl rfl (by kernel_rfl) (by first | exact ALes.refl _ | (simp only [zz, D.cc_eq, D.k, D.c, D.neg, D.mag, D.t, D.l]; exact ALes.refl _)) (by first | rfl | simp [shuts, A.shut, C.shut, D.cc_eq, D.k, D.c, D.neg, D.mag, D.t, D.l]) (bare1_pure (.mk 3 c neg mag t l)) ?_)
   (refine WpL.go _ rfl fun Y y => ?_); repeat (first | (apply fw; (with_reducible constructor) <;> rfl) | (apply WpA.cd; constructor) | ((first | with_reducible refine WpA.go _ rfl fun Y y => ?_ | apply RunTo.id); simp only [zb, seval, w59, hbr]; refine RunTo.fn y (by first | (simp; done) | omega | (simp; omega)) ?_; clear y Y))
   refine ⟨by simp, _, _, _, _, (by simp only [zb, seval, w59]; rfl), (by simp), (by simp only [zv]; rfl), (by simp), _, ALe.refl _, ?_⟩
   rfl
 by_cases h4 : k = 4
 ·subst h4
  by_cases hb : Bare (.mk 4 c neg mag t l)
  ·have hbr : bareB false true false false (.mk 4 c neg mag t l) = true := bareB_iff.2 (by simpa [Bare, D.k] using hb)
   rw [plain_int hb]
   refine Fn.intro Tryd.func59 rfl Tryd.ntmps59 Tryd.results59 (by simp only [List.length_cons, List.length_nil]; decide) ?_
   repeat (first | (apply fw; (with_reducible constructor) <;> rfl) | (apply WpA.cd; constructor) | ((first | with_reducible refine WpA.go _ rfl fun Y y => ?_ | apply RunTo.id); simp only [zb, seval, w59, D.cc_eq, D.k, D.c, D.neg, D.mag, D.t, D.l]; refine RunTo.fn y (by first | (simp; done) | omega | (simp; omega)) ?_; clear y Y))
   refine WpL.call rfl (guardA_sound (P := Tryd.prog) rfl) (CallA.shut rfl rfl (by kernel_rfl) (by first | exact ALes.refl _ | (simp only [zz, D.cc_eq, D.k, D.c, D.neg, D.mag, D.t, D.l]; exact ALes.refl _)) (by first | rfl | simp [shuts, A.shut, C.shut, D.cc_eq, D.k, D.c, D.neg, D.mag, D.t, D.l]) (bare2_pure (.mk 4 c neg mag t l)) ?_)
   (refine WpL.go _ rfl fun Y y => ?_); repeat (first | (apply fw; (with_reducible constructor) <;> rfl) | (apply WpA.cd; constructor) | ((first | with_reducible refine WpA.go _ rfl fun Y y => ?_ | apply RunTo.id); simp only [zb, seval, w59, hbr]; refine RunTo.fn y (by first | (simp; done) | omega | (simp; omega)) ?_; clear y Y))
   refine WpL.call rfl (guardA_sound (P := Tryd.prog) rfl) (CallA.shut rfl rfl (by kernel_rfl) (ALes.refl _) (by first | rfl | simp [shuts, A.shut, C.shut]) (rnummay_pure neg mag hmg (by omega)) ?_)
   (refine WpL.go _ rfl fun Y y => ?_); repeat (first | (apply fw; (with_reducible constructor) <;> rfl) | (apply WpA.cd; constructor) | ((first | with_reducible refine WpA.go _ rfl fun Y y => ?_ | apply RunTo.id); simp only [zb, seval, w59]; refine RunTo.fn y (by first | (simp; done) | omega | (simp; omega)) ?_; clear y Y))
   refine ⟨by simp, _, _, _, _, (by simp only [zb, seval, w59]; rfl), (by simp), (by simp only [zv]; rfl), (by simp), _, ALe.refl _, ?_⟩
   rfl
  ·have hbr : bareB false true false false (.mk 4 c neg mag t l) = false := by
    cases h : bareB false true false false (.mk 4 c neg mag t l) with
    | false => rfl
    | true => exact absurd (by simpa [Bare, D.k] using bareB_iff.1 h) hb
   rw [not_bare hb]
   refine Fn.intro Tryd.func59 rfl Tryd.ntmps59 Tryd.results59 (by simp only [List.length_cons, List.length_nil]; decide) ?_
   repeat (first | (apply fw; (with_reducible constructor) <;> rfl) | (apply WpA.cd; constructor) | ((first | with_reducible refine WpA.go _ rfl fun Y y => ?_ | apply RunTo.id); simp only [zb, seval, w59, D.cc_eq, D.k, D.c, D.neg, D.mag, D.t, D.l]; refine RunTo.fn y (by first | (simp; done) | omega | (simp; omega)) ?_; clear y Y))
   refine WpL.call rfl (guardA_sound (P := Tryd.prog) rfl) (CallA.shut rfl rfl (by kernel_rfl) (by first | exact ALes.refl _ | (simp only [zz, D.cc_eq, D.k, D.c, D.neg, D.mag, D.t, D.l]; exact ALes.refl _)) (by first | rfl | simp [shuts, A.shut, C.shut, D.cc_eq, D.k, D.c, D.neg, D.mag, D.t, D.l]) (bare2_pure (.mk 4 c neg mag t l)) ?_)
   (refine WpL.go _ rfl fun Y y => ?_); repeat (first | (apply fw; (with_reducible constructor) <;> rfl) | (apply WpA.cd; constructor) | ((first | with_reducible refine WpA.go _ rfl fun Y y => ?_ | apply RunTo.id); simp only [zb, seval, w59, hbr]; refine RunTo.fn y (by first | (simp; done) | omega | (simp; omega)) ?_; clear y Y))
   refine ⟨by simp, _, _, _, _, (by simp only [zb, seval, w59]; rfl), (by simp), (by simp only [zv]; rfl), (by simp), _, ALe.refl _, ?_⟩
   rfl
 have hcnt : (runesFrom t t.size 0).length = runeCount t := runesFrom_len t t.size 0
 by_cases h5 : k = 5
 ·subst h5
  by_cases hb : Bare (.mk 5 c neg mag t l)
  ·have hbr : bareB false false true false (.mk 5 c neg mag t l) = true := bareB_iff.2 (by simpa [Bare, D.k] using hb)
   rw [show plainB (.mk 5 c neg mag t l) = txtOk t 0 from by first | exact plain_str hb | exact plain_sym hb]
   rcases hV : validD t.data.toList
   ·have hR : txtOk t 0 = false := by simp [txtOk, hV]
    rw [hR]
    refine Fn.intro Tryd.func59 rfl Tryd.ntmps59 Tryd.results59 (by simp only [List.length_cons, List.length_nil]; decide) ?_
    repeat (first | (apply fw; (with_reducible constructor) <;> rfl) | (apply WpA.cd; constructor) | ((first | with_reducible refine WpA.go _ rfl fun Y y => ?_ | apply RunTo.id); simp only [zb, seval, w59, D.cc_eq, D.k, D.c, D.neg, D.mag, D.t, D.l]; refine RunTo.fn y (by first | (simp; done) | omega | (simp; omega)) ?_; clear y Y))
    refine WpL.call rfl (guardA_sound (P := Tryd.prog) rfl) (CallA.shut rfl rfl (by kernel_rfl) (ALes.refl _) (by first | rfl | simp [shuts, A.shut, C.shut]) (runes_pure t (by omega)) ?_)
    (refine WpL.go _ rfl fun Y y => ?_); repeat (first | (apply fw; (with_reducible constructor) <;> rfl) | (apply WpA.cd; constructor) | ((first | with_reducible refine WpA.go _ rfl fun Y y => ?_ | apply RunTo.id); simp only [zb, seval, w59, D.cc_eq, D.k, D.c, D.neg, D.mag, D.t, D.l, hV]; refine RunTo.fn y (by first | (simp; done) | omega | (simp; omega)) ?_; clear y Y))
    refine WpL.call rfl (guardA_sound (P := Tryd.prog) rfl) (CallA.shut rfl rfl (by kernel_rfl) (by first | exact ALes.refl _ | (simp only [zz, D.cc_eq, D.k, D.c, D.neg, D.mag, D.t, D.l]; exact ALes.refl _)) (by first | rfl | simp [shuts, A.shut, C.shut, D.cc_eq, D.k, D.c, D.neg, D.mag, D.t, D.l]) (bare4_pure (.mk 5 c neg mag t l)) ?_)
    (refine WpL.go _ rfl fun Y y => ?_); repeat (first | (apply fw; (with_reducible constructor) <;> rfl) | (apply WpA.cd; constructor) | ((first | with_reducible refine WpA.go _ rfl fun Y y => ?_ | apply RunTo.id); simp only [zb, seval, w59, hbr, hV]; refine RunTo.fn y (by first | (simp; done) | omega | (simp; omega)) ?_; clear y Y))
    refine ⟨by simp, _, _, _, _, (by simp only [zb, seval, w59]; rfl), (by simp), (by simp only [zv]; rfl), (by simp), _, ALe.refl _, ?_⟩
    rfl
   by_cases h62 : runeCount t ≤ 62
   ·have f62 : decide ((runeCount t : Int) ≤ 62) = true := by simp; omega
    have hR : txtOk t 0 = decide ((0 : Int) ≤ runeCount t) := by simp [txtOk, hV, h62]
    rw [hR]
    refine Fn.intro Tryd.func59 rfl Tryd.ntmps59 Tryd.results59 (by simp only [List.length_cons, List.length_nil]; decide) ?_
    repeat (first | (apply fw; (with_reducible constructor) <;> rfl) | (apply WpA.cd; constructor) | ((first | with_reducible refine WpA.go _ rfl fun Y y => ?_ | apply RunTo.id); simp only [zb, seval, w59, D.cc_eq, D.k, D.c, D.neg, D.mag, D.t, D.l]; refine RunTo.fn y (by first | (simp; done) | omega | (simp; omega)) ?_; clear y Y))
    refine WpL.call rfl (guardA_sound (P := Tryd.prog) rfl) (CallA.shut rfl rfl (by kernel_rfl) (ALes.refl _) (by first | rfl | simp [shuts, A.shut, C.shut]) (runes_pure t (by omega)) ?_)
    (refine WpL.go _ rfl fun Y y => ?_); repeat (first | (apply fw; (with_reducible constructor) <;> rfl) | (apply WpA.cd; constructor) | ((first | with_reducible refine WpA.go _ rfl fun Y y => ?_ | apply RunTo.id); simp only [zb, seval, w59, D.cc_eq, D.k, D.c, D.neg, D.mag, D.t, D.l, hV]; refine RunTo.fn y (by first | (simp; done) | omega | (simp; omega)) ?_; clear y Y))
    refine WpL.call rfl (guardA_sound (P := Tryd.prog) rfl) (CallA.shut rfl rfl (by kernel_rfl) (by first | exact ALes.refl _ | (simp only [zz, D.cc_eq, D.k, D.c, D.neg, D.mag, D.t, D.l]; exact ALes.refl _)) (by first | rfl | simp [shuts, A.shut, C.shut, D.cc_eq, D.k, D.c, D.neg, D.mag, D.t, D.l]) (bare4_pure (.mk 5 c neg mag t l)) ?_)
    (refine WpL.go _ rfl fun Y y => ?_); repeat (first | (apply fw; (with_reducible constructor) <;> rfl) | (apply WpA.cd; constructor) | ((first | with_reducible refine WpA.go _ rfl fun Y y => ?_ | apply RunTo.id); simp only [zb, seval, w59, hbr, hV, runC_len, hcnt, f62]; refine RunTo.fn y (by first | (simp; done) | omega | (simp; omega)) ?_; clear y Y))
    refine ⟨by simp, _, _, _, _, (by simp only [zb, seval, w59]; rfl), (by simp), (by simp only [zv]; rfl), (by simp), _, ALe.refl _, ?_⟩
    first | (simp; done) | (congr 4; apply propext; omega) | (simp; omega)
   ·have f62 : decide ((runeCount t : Int) ≤ 62) = false := by simp; omega
    have hR : txtOk t 0 = false := by simp [txtOk, hV, h62]
    rw [hR]
    refine Fn.intro Tryd.func59 rfl Tryd.ntmps59 Tryd.results59 (by simp only [List.length_cons, List.length_nil]; decide) ?_
    repeat (first | (apply fw; (with_reducible constructor) <;> rfl) | (apply WpA.cd; constructor) | ((first | with_reducible refine WpA.go _ rfl fun Y y => ?_ | apply RunTo.id); simp only [zb, seval, w59, D.cc_eq, D.k, D.c, D.neg, D.mag, D.t, D.l]; refine RunTo.fn y (by first | (simp; done) | omega | (simp; omega)) ?_; clear y Y))
    refine WpL.call rfl (guardA_sound (P := Tryd.prog) rfl) (CallA.shut rfl rfl (by kernel_rfl) (ALes.refl _) (by first | rfl | simp [shuts, A.shut, C.shut]) (runes_pure t (by omega)) ?_)
    (refine WpL.go _ rfl fun Y y => ?_); repeat (first | (apply fw; (with_reducible constructor) <;> rfl) | (apply WpA.cd; constructor) | ((first | with_reducible refine WpA.go _ rfl fun Y y => ?_ | apply RunTo.id); simp only [zb, seval, w59, D.cc_eq, D.k, D.c, D.neg, D.mag, D.t, D.l, hV]; refine RunTo.fn y (by first | (simp; done) | omega | (simp; omega)) ?_; clear y Y))
    refine WpL.call rfl (guardA_sound (P := Tryd.prog) rfl) (CallA.shut rfl rfl (by kernel_rfl) (by first | exact ALes.refl _ | (simp only [zz, D.cc_eq, D.k, D.c, D.neg, D.mag, D.t, D.l]; exact ALes.refl _)) (by first | rfl | simp [shuts, A.shut, C.shut, D.cc_eq, D.k, D.c, D.neg, D.mag, D.t, D.l]) (bare4_pure (.mk 5 c neg mag t l)) ?_)
    (refine WpL.go _ rfl fun Y y => ?_); repeat (first | (apply fw; (with_reducible constructor) <;> rfl) | (apply WpA.cd; constructor) | ((first | with_reducible refine WpA.go _ rfl fun Y y => ?_ | apply RunTo.id); simp only [zb, seval, w59, hbr, hV, runC_len, hcnt, f62]; refine RunTo.fn y (by first | (simp; done) | omega | (simp; omega)) ?_; clear y Y))
    refine ⟨by simp, _, _, _, _, (by simp only [zb, seval, w59]; rfl), (by simp), (by simp only [zv]; rfl), (by simp), _, ALe.refl _, ?_⟩
    rfl
  ·have hbr : bareB false false true false (.mk 5 c neg mag t l) = false := by
    cases h : bareB false false true false (.mk 5 c neg mag t l) with
    | false => rfl
    | true => exact absurd (by simpa [Bare, D.k] using bareB_iff.1 h) hb
   rw [not_bare hb]
   refine Fn.intro Tryd.func59 rfl Tryd.ntmps59 Tryd.results59 (by simp only [List.length_cons, List.length_nil]; decide) ?_
   repeat (first | (apply fw; (with_reducible constructor) <;> rfl) | (apply WpA.cd; constructor) | ((first | with_reducible refine WpA.go _ rfl fun Y y => ?_ | apply RunTo.id); simp only [zb, seval, w59, D.cc_eq, D.k, D.c, D.neg, D.mag, D.t, D.l]; refine RunTo.fn y (by first | (simp; done) | omega | (simp; omega)) ?_; clear y Y))
   refine WpL.call rfl (guardA_sound (P := Tryd.prog) rfl) (CallA.shut rfl rfl (by kernel_rfl) (ALes.refl _) (by first | rfl | simp [shuts, A.shut, C.shut]) (runes_pure t (by omega)) ?_)
   (refine WpL.go _ rfl fun Y y => ?_); repeat (first | (apply fw; (with_reducible constructor) <;> rfl) | (apply WpA.cd; constructor) | ((first | with_reducible refine WpA.go _ rfl fun Y y => ?_ | apply RunTo.id); simp only [zb, seval, w59, D.cc_eq, D.k, D.c, D.neg, D.mag, D.t, D.l]; refine RunTo.fn y (by first | (simp; done) | omega | (simp; omega)) ?_; clear y Y))
   refine WpL.call rfl (guardA_sound (P := Tryd.prog) rfl) (CallA.shut rfl rfl (by kernel_rfl) (by first | exact ALes.refl _ | (simp only [zz, D.cc_eq, D.k, D.c, D.neg, D.mag, D.t, D.l]; exact ALes.refl _)) (by first | rfl | simp [shuts, A.shut, C.shut, D.cc_eq, D.k, D.c, D.neg, D.mag, D.t, D.l]) (bare4_pure (.mk 5 c neg mag t l)) ?_)
   (refine WpL.go _ rfl fun Y y => ?_); repeat (first | (apply fw; (with_reducible constructor) <;> rfl) | (apply WpA.cd; constructor) | ((first | with_reducible refine WpA.go _ rfl fun Y y => ?_ | apply RunTo.id); simp only [zb, seval, w59, hbr]; refine RunTo.fn y (by first | (simp; done) | omega | (simp; omega)) ?_; clear y Y))
   refine ⟨by simp, _, _, _, _, (by simp only [zb, seval, w59]; rfl), (by simp), (by simp only [zv]; rfl), (by simp), _, ALe.refl _, ?_⟩
   rfl
 by_cases h6 : k = 6
 ·subst h6
  by_cases hb : Bare (.mk 6 c neg mag t l)
  ·have hbr : bareB false false true false (.mk 6 c neg mag t l) = true := bareB_iff.2 (by simpa [Bare, D.k] using hb)
   rw [show plainB (.mk 6 c neg mag t l) = txtOk t 1 from by first | exact plain_str hb | exact plain_sym hb]
   rcases hV : validD t.data.toList
   ·have hR : txtOk t 1 = false := by simp [txtOk, hV]
    rw [hR]
    refine Fn.intro Tryd.func59 rfl Tryd.ntmps59 Tryd.results59 (by simp only [List.length_cons, List.length_nil]; decide) ?_
    repeat (first | (apply fw; (with_reducible constructor) <;> rfl) | (apply WpA.cd; constructor) | ((first | with_reducible refine WpA.go _ rfl fun Y y => ?_ | apply RunTo.id); simp only [zb, seval, w59, D.cc_eq, D.k, D.c, D.neg, D.mag, D.t, D.l]; refine RunTo.fn y (by first | (simp; done) | omega | (simp; omega)) ?_; clear y Y))
    refine WpL.call rfl (guardA_sound (P := Tryd.prog) rfl) (CallA.shut rfl rfl (by kernel_rfl) (ALes.refl _) (by first | rfl | simp [shuts, A.shut, C.shut]) (runes_pure t (by omega)) ?_)
    (refine WpL.go _ rfl fun Y y => ?_); repeat (first | (apply fw; (with_reducible constructor) <;> rfl) | (apply WpA.cd; constructor) | ((first | with_reducible refine WpA.go _ rfl fun Y y => ?_ | apply RunTo.id); simp only [zb, seval, w59, D.cc_eq, D.k, D.c, D.neg, D.mag, D.t, D.l, hV]; refine RunTo.fn y (by first | (simp; done) | omega | (simp; omega)) ?_; clear y Y))
    refine WpL.call rfl (guardA_sound (P := Tryd.prog) rfl) (CallA.shut rfl rfl (by kernel_rfl) (by first | exact ALes.refl _ | (simp only [zz, D.cc_eq, D.k, D.c, D.neg, D.mag, D.t, D.l]; exact ALes.refl _)) (by first | rfl | simp [shuts, A.shut, C.shut, D.cc_eq, D.k, D.c, D.neg, D.mag, D.t, D.l]) (bare4_pure (.mk 6 c neg mag t l)) ?_)
    (refine WpL.go _ rfl fun Y y => ?_); repeat (first | (apply fw; (with_reducible constructor) <;> rfl) | (apply WpA.cd; constructor) | ((first | with_reducible refine WpA.go _ rfl fun Y y => ?_ | apply RunTo.id); simp only [zb, seval, w59, hbr, hV]; refine RunTo.fn y (by first | (simp; done) | omega | (simp; omega)) ?_; clear y Y))
    refine ⟨by simp, _, _, _, _, (by simp only [zb, seval, w59]; rfl), (by simp), (by simp only [zv]; rfl), (by simp), _, ALe.refl _, ?_⟩
    rfl
   by_cases h62 : runeCount t ≤ 62
   ·have f62 : decide ((runeCount t : Int) ≤ 62) = true := by simp; omega
    have hR : txtOk t 1 = decide ((1 : Int) ≤ runeCount t) := by simp [txtOk, hV, h62]
    rw [hR]
    refine Fn.intro Tryd.func59 rfl Tryd.ntmps59 Tryd.results59 (by simp only [List.length_cons, List.length_nil]; decide) ?_
    repeat (first | (apply fw; (with_reducible constructor) <;> rfl) | (apply WpA.cd; constructor) | ((first | with_reducible refine WpA.go _ rfl fun Y y => ?_ | apply RunTo.id); simp only [zb, seval, w59, D.cc_eq, D.k, D.c, D.neg, D.mag, D.t, D.l]; refine RunTo.fn y (by first | (simp; done) | omega | (simp; omega)) ?_; clear y Y))
    refine WpL.call rfl (guardA_sound (P := Tryd.prog) rfl) (CallA.shut rfl rfl (by kernel_rfl) (ALes.refl _) (by first | rfl | simp [shuts, A.shut, C.shut]) (runes_pure t (by omega)) ?_)
    (refine WpL.go _ rfl fun Y y => ?_); repeat (first | (apply fw; (with_reducible constructor) <;> rfl) | (apply WpA.cd; constructor) | ((first | with_reducible refine WpA.go _ rfl fun Y y => ?_ | apply RunTo.id); simp only [zb, seval, w59, D.cc_eq, D.k, D.c, D.neg, D.mag, D.t, D.l, hV]; refine RunTo.fn y (by first | (simp; done) | omega | (simp; omega)) ?_; clear y Y))
    refine WpL.call rfl (guardA_sound (P := Tryd.prog) rfl) (CallA.shut rfl rfl (by kernel_rfl) (by first | exact ALes.refl _ | (simp only [zz, D.cc_eq, D.k, D.c, D.neg, D.mag, D.t, D.l]; exact ALes.refl _)) (by first | rfl | simp [shuts, A.shut, C.shut, D.cc_eq, D.k, D.c, D.neg, D.mag, D.t, D.l]) (bare4_pure (.mk 6 c neg mag t l)) ?_)
    (refine WpL.go _ rfl fun Y y => ?_); repeat (first | (apply fw; (with_reducible constructor) <;> rfl) | (apply WpA.cd; constructor) | ((first | with_reducible refine WpA.go _ rfl fun Y y => ?_ | apply RunTo.id); simp only [zb, seval, w59, hbr, hV, runC_len, hcnt, f62]; refine RunTo.fn y (by first | (simp; done) | omega | (simp; omega)) ?_; clear y Y))
    refine ⟨by simp, _, _, _, _, (by simp only [zb, seval, w59]; rfl), (by simp), (by simp only [zv]; rfl), (by simp), _, ALe.refl _, ?_⟩
    first | (simp; done) | (congr 4; apply propext; omega) | (simp; omega)
   ·have f62 : decide ((runeCount t : Int) ≤ 62) = false := by simp; omega
    have hR : txtOk t 1 = false := by simp [txtOk, hV, h62]
    rw [hR]
    refine Fn.intro Tryd.func59 rfl Tryd.ntmps59 Tryd.results59 (by simp only [List.length_cons, List.length_nil]; decide) ?_
    repeat (first | (apply fw; (with_reducible constructor) <;> rfl) | (apply WpA.cd; constructor) | ((first | with_reducible refine WpA.go _ rfl fun Y y => ?_ | apply RunTo.id); simp only [zb, seval, w59, D.cc_eq, D.k, D.c, D.neg, D.mag, D.t, D.l]; refine RunTo.fn y (by first | (simp; done) | omega | (simp; omega)) ?_; clear y Y))
    refine WpL.call rfl (guardA_sound (P := Tryd.prog) rfl) (CallA.shut rfl rfl (by kernel_rfl) (ALes.refl _) (by first | rfl | simp [shuts, A.shut, C.shut]) (runes_pure t (by omega)) ?_)
    (refine WpL.go _ rfl fun Y y => ?_); repeat (first | (apply fw; (with_reducible constructor) <;> rfl) | (apply WpA.cd; constructor) | ((first | with_reducible refine WpA.go _ rfl fun Y y => ?_ | apply RunTo.id); simp only [zb, seval, w59, D.cc_eq, D.k, D.c, D.neg, D.mag, D.t, D.l, hV]; refine RunTo.fn y (by first | (simp; done) | omega | (simp; omega)) ?_; clear y Y))
    refine WpL.call rfl (guardA_sound (P := Tryd.prog) rfl) (CallA.shut rfl rfl (by kernel_rfl) (by first | exact ALes.refl _ | (simp only [zz, D.cc_eq, D.k, D.c, D.neg, D.mag, D.t, D.l]; exact ALes.refl _)) (by first | rfl | simp [shuts, A.shut, C.shut, D.cc_eq, D.k, D.c, D.neg, D.mag, D.t, D.l]) (bare4_pure (.mk 6 c neg mag t l)) ?_)
    (refine WpL.go _ rfl fun Y y => ?_); repeat (first | (apply fw; (with_reducible constructor) <;> rfl) | (apply WpA.cd; constructor) | ((first | with_reducible refine WpA.go _ rfl fun Y y => ?_ | apply RunTo.id); simp only [zb, seval, w59, hbr, hV, runC_len, hcnt, f62]; refine RunTo.fn y (by first | (simp; done) | omega | (simp; omega)) ?_; clear y Y))
    refine ⟨by simp, _, _, _, _, (by simp only [zb, seval, w59]; rfl), (by simp), (by simp only [zv]; rfl), (by simp), _, ALe.refl _, ?_⟩
    rfl
  ·have hbr : bareB false false true false (.mk 6 c neg mag t l) = false := by
    cases h : bareB false false true false (.mk 6 c neg mag t l) with
    | false => rfl
    | true => exact absurd (by simpa [Bare, D.k] using bareB_iff.1 h) hb
   rw [not_bare hb]
   refine Fn.intro Tryd.func59 rfl Tryd.ntmps59 Tryd.results59 (by simp only [List.length_cons, List.length_nil]; decide) ?_
   repeat (first | (apply fw; (with_reducible constructor) <;> rfl) | (apply WpA.cd; constructor) | ((first | with_reducible refine WpA.go _ rfl fun Y y => ?_ | apply RunTo.id); simp only [zb, seval, w59, D.cc_eq, D.k, D.c, D.neg, D.mag, D.t, D.l]; refine RunTo.fn y (by first | (simp; done) | omega | (simp; omega)) ?_; clear y Y))
   refine WpL.call rfl (guardA_sound (P := Tryd.prog) rfl) (CallA.shut rfl rfl (by kernel_rfl) (ALes.refl _) (by first | rfl | simp [shuts, A.shut, C.shut]) (runes_pure t (by omega)) ?_)
   (refine WpL.go _ rfl fun Y y => ?_); repeat (first | (apply fw; (with_reducible constructor) <;> rfl) | (apply WpA.cd; constructor) | ((first | with_reducible refine WpA.go _ rfl fun Y y => ?_ | apply RunTo.id); simp only [zb, seval, w59, D.cc_eq, D.k, D.c, D.neg, D.mag, D.t, D.l]; refine RunTo.fn y (by first | (simp; done) | omega | (simp; omega)) ?_; clear y Y))
   refine WpL.call rfl (guardA_sound (P := Tryd.prog) rfl) (CallA.shut rfl rfl (by kernel_rfl) (by first | exact ALes.refl _ | (simp only [zz, D.cc_eq, D.k, D.c, D.neg, D.mag, D.t, D.l]; exact ALes.refl _)) (by first | rfl | simp [shuts, A.shut, C.shut, D.cc_eq, D.k, D.c, D.neg, D.mag, D.t, D.l]) (bare4_pure (.mk 6 c neg mag t l)) ?_)
   (refine WpL.go _ rfl fun Y y => ?_); repeat (first | (apply fw; (with_reducible constructor) <;> rfl) | (apply WpA.cd; constructor) | ((first | with_reducible refine WpA.go _ rfl fun Y y => ?_ | apply RunTo.id); simp only [zb, seval, w59, hbr]; refine RunTo.fn y (by first | (simp; done) | omega | (simp; omega)) ?_; clear y Y))
   refine ⟨by simp, _, _, _, _, (by simp only [zb, seval, w59]; rfl), (by simp), (by simp only [zv]; rfl), (by simp), _, ALe.refl _, ?_⟩
   rfl
 have hno : plainB (.mk k c neg mag t l) = false := plainB_neg fun hp => by
  rw [D.Plain] at hp
  omega
 have g0 : (k == 0) = false := by simp; omega
 have g1 : (k == 1) = false := by simp; omega
 have g2 : (k == 2) = false := by simp; omega
 have g3 : (k == 3) = false := by simp; omega
 have g4 : (k == 4) = false := by simp; omega
 have g5 : (k == 5) = false := by simp; omega
 have g6 : (k == 6) = false := by simp; omega
 have g7 : (k == 7) = false := by simp; omega
 have g8 : (k == 8) = false := by simp; omega
 have g9 : (k == 9) = false := by simp; omega
 have g10 : (k == 10) = false := by simp; omega
 rw [hno]
 refine Fn.intro Tryd.func59 rfl Tryd.ntmps59 Tryd.results59 (by simp only [List.length_cons, List.length_nil]; decide) ?_
 repeat (first | (apply fw; (with_reducible constructor) <;> rfl) | (apply WpA.cd; constructor) | ((first | with_reducible refine WpA.go _ rfl fun Y y => ?_ | apply RunTo.id); simp only [zb, seval, w59, D.cc_eq, D.k, D.c, D.neg, D.mag, D.t, D.l, g0, g1, g2, g3, g4, g5, g6, g7, g8, g9, g10]; refine RunTo.fn y (by first | (simp; done) | omega | (simp; omega)) ?_; clear y Y))
 refine ⟨by simp, _, _, _, _, (by simp only [zb, seval, w59]; rfl), (by simp), (by simp only [zv]; rfl), (by simp), _, ALe.refl _, ?_⟩
 rfl
def PlnI (k c : Int) (neg : Bool) (mag : List Int) (t : ByteArray) (l : List D) (n : Nat) (st : St) : Prop := ∃ i : Nat, n = l.length - i ∧ i ≤ l.length ∧ (∀ j (h : j < l.length), j < i → l[j].Plain) ∧
 st = ⟨[(5, .one (.v (.int .i64 i))), (1, .one (.ptr 0 1 0 0))], [some ⟨31, 6, [[.v (.int .i64 k), .v (.int .i32 c), .v (.bool neg), .sl 1 (mag.map fun n => [.v (.int .u32 n)]), .v (.string t), .sl 6 (l.map D.cc)]]⟩]⟩
theorem rplain_st (n : Nat) (ih : PlainTo n) : PlainTo (n + 1) := by
 intro d hh hok hsm
 obtain ⟨k, c, neg, mag, t, l⟩ := d
 have hmg := hok.mag
 simp only [D.mag] at hmg
 obtain ⟨hst, hsmag, hsl, hsx⟩ := hsm
 simp only [D.t, D.mag, D.l] at hst hsmag hsl hsx
 have hhl : ∀ (i : Nat) (hi : i < l.length), l[i].ht ≤ n := fun i hi => by
  have := D.ht_lt (d := .mk k c neg mag t l) (i := i) hi
  simp only [D.l] at this; omega
 have hxs : ∀ (i : Nat) (hi : i < l.length), l[i].Ok := fun i hi => hok.get i hi
 by_cases h7 : k = 7
 ·subst h7
  by_cases hb : Bare (.mk 7 c neg mag t l)
  case neg =>
   have hbr : bareB false false false true (.mk 7 c neg mag t l) = false := by
    cases h : bareB false false false true (.mk 7 c neg mag t l) with
    | false => rfl
    | true => exact absurd (by simpa [Bare, D.k] using bareB_iff.1 h) hb
   rw [not_bare hb]
   refine Fn.intro Tryd.func59 rfl Tryd.ntmps59 Tryd.results59 (by simp only [List.length_cons, List.length_nil]; decide) ?_
   repeat (first | (apply fw; (with_reducible constructor) <;> rfl) | (apply WpA.cd; constructor) | ((first | with_reducible refine WpA.go _ rfl fun Y y => ?_ | apply RunTo.id); simp only [zb, seval, w59, D.cc_eq, D.k, D.c, D.neg, D.mag, D.t, D.l]; refine RunTo.fn y (by first | (simp; done) | omega | (simp; omega)) ?_; clear y Y))
   refine WpL.call rfl (guardA_sound (P := Tryd.prog) rfl) (CallA.shut rfl rfl (by kernel_rfl) (by first | exact ALes.refl _ | (simp only [zz, D.cc_eq, D.k, D.c, D.neg, D.mag, D.t, D.l]; exact ALes.refl _)) (by first | rfl | simp [shuts, A.shut, C.shut, D.cc_eq, D.k, D.c, D.neg, D.mag, D.t, D.l]) (bare8_pure (.mk 7 c neg mag t l)) ?_)
   (refine WpL.go _ rfl fun Y y => ?_); repeat (first | (apply fw; (with_reducible constructor) <;> rfl) | (apply WpA.cd; constructor) | ((first | with_reducible refine WpA.go _ rfl fun Y y => ?_ | apply RunTo.id); simp only [zb, seval, w59, hbr]; refine RunTo.fn y (by first | (simp; done) | omega | (simp; omega)) ?_; clear y Y))
   refine ⟨by simp, _, _, _, _, (by simp only [zb, seval, w59]; rfl), (by simp), (by simp only [zv]; rfl), (by simp), _, ALe.refl _, ?_⟩
   rfl
  have hbr : bareB false false false true (.mk 7 c neg mag t l) = true := bareB_iff.2 (by simpa [Bare, D.k] using hb)
  rw [show plainB (.mk 7 c neg mag t l) = (decide (l.length = 2) && plainsB l) from by first | exact plain_pair hb | exact plain_vec hb]
  have f2 : ((l.length : Int) != 2) = !decide (l.length = 2) := by
   by_cases h : l.length = 2
   ·simp [h]
   ·simp [h]; omega
  have f62 : decide ((62 : Int) < l.length) = !decide (l.length ≤ 62) := by
   by_cases h : l.length ≤ 62
   ·simp [h]; omega
   ·simp [h]; omega
  by_cases hL : l.length = 2
  case neg =>
   have hLd := decide_eq_false hL
   rw [hLd, Bool.false_and]
   refine Fn.intro Tryd.func59 rfl Tryd.ntmps59 Tryd.results59 (by simp only [List.length_cons, List.length_nil]; decide) ?_
   repeat (first | (apply fw; (with_reducible constructor) <;> rfl) | (apply WpA.cd; constructor) | ((first | with_reducible refine WpA.go _ rfl fun Y y => ?_ | apply RunTo.id); simp only [zb, seval, w59, D.cc_eq, D.k, D.c, D.neg, D.mag, D.t, D.l]; refine RunTo.fn y (by first | (simp; done) | omega | (simp; omega)) ?_; clear y Y))
   refine WpL.call rfl (guardA_sound (P := Tryd.prog) rfl) (CallA.shut rfl rfl (by kernel_rfl) (by first | exact ALes.refl _ | (simp only [zz, D.cc_eq, D.k, D.c, D.neg, D.mag, D.t, D.l]; exact ALes.refl _)) (by first | rfl | simp [shuts, A.shut, C.shut, D.cc_eq, D.k, D.c, D.neg, D.mag, D.t, D.l]) (bare8_pure (.mk 7 c neg mag t l)) ?_)
   (refine WpL.go _ rfl fun Y y => ?_); repeat (first | (apply fw; (with_reducible constructor) <;> rfl) | (apply WpA.cd; constructor) | ((first | with_reducible refine WpA.go _ rfl fun Y y => ?_ | apply RunTo.id); simp only [zb, seval, w59, hbr, D.cc_eq, D.k, D.c, D.neg, D.mag, D.t, D.l, f2, f62, hLd]; refine RunTo.fn y (by first | (simp; done) | omega | (simp; omega)) ?_; clear y Y))
   refine ⟨by simp, _, _, _, _, (by simp only [zb, seval, w59]; rfl), (by simp), (by simp only [zv]; rfl), (by simp), _, ALe.refl _, ?_⟩
   rfl
  have hLd := decide_eq_true hL
  have hL62 : l.length ≤ 62 := by omega
  have hLd2 := decide_eq_true hL62
  rw [hLd, Bool.true_and]
  refine Fn.intro Tryd.func59 rfl Tryd.ntmps59 Tryd.results59 (by simp only [List.length_cons, List.length_nil]; decide) ?_
  repeat (first | (apply fw; (with_reducible constructor) <;> rfl) | (apply WpA.cd; constructor) | ((first | with_reducible refine WpA.go _ rfl fun Y y => ?_ | apply RunTo.id); simp only [zb, seval, w59, D.cc_eq, D.k, D.c, D.neg, D.mag, D.t, D.l]; refine RunTo.fn y (by first | (simp; done) | omega | (simp; omega)) ?_; clear y Y))
  refine WpL.call rfl (guardA_sound (P := Tryd.prog) rfl) (CallA.shut rfl rfl (by kernel_rfl) (by first | exact ALes.refl _ | (simp only [zz, D.cc_eq, D.k, D.c, D.neg, D.mag, D.t, D.l]; exact ALes.refl _)) (by first | rfl | simp [shuts, A.shut, C.shut, D.cc_eq, D.k, D.c, D.neg, D.mag, D.t, D.l]) (bare8_pure (.mk 7 c neg mag t l)) ?_)
  (refine WpL.go _ rfl fun Y y => ?_); repeat (first | (apply fw; (with_reducible constructor) <;> rfl) | (apply WpA.cd; constructor) | ((first | with_reducible refine WpA.go _ rfl fun Y y => ?_ | apply RunTo.id); simp only [zb, seval, w59, hbr, D.cc_eq, D.k, D.c, D.neg, D.mag, D.t, D.l, f2, f62, hLd, hLd2]; refine RunTo.fn y (by first | (simp; done) | omega | (simp; omega)) ?_; clear y Y))
  refine WpA.loop (PlnI 7 c neg mag t l) l.length ?_ ⟨0, rfl, Nat.zero_le _, fun j _ h => absurd h (Nat.not_lt_zero _), rfl⟩ ?_
  ·exact Le.drop 1 (Nat.zero_le _) rfl (by simp [Sub, find]) rfl (by simp [ObBd, C.bd])
  intro n' st hI
  obtain ⟨i, rfl, hi, hpl, rfl⟩ := hI
  by_cases hlt : i < l.length
  case neg =>
   have hd0 : decide ((i : Int) < (l.length : Int)) = false := by simp; omega
   rw [show plainsB l = true from plainsB_iff.2 ((Plains.iff l).2 fun j hj => hpl j hj (by omega))]
   repeat (first | (apply fw; (with_reducible constructor) <;> rfl) | (apply WpA.cd; constructor) | ((first | with_reducible refine WpA.go _ rfl fun Y y => ?_ | apply RunTo.id); simp only [zb, seval, w59, hd0]; refine RunTo.fn y (by first | (simp; done) | omega | (simp; omega)) ?_; clear y Y))
   repeat (first | (apply fw; (with_reducible constructor) <;> rfl) | (apply WpA.cd; constructor) | ((first | with_reducible refine WpA.go _ rfl fun Y y => ?_ | apply RunTo.id); simp only [zb, seval, w59, hd0]; refine RunTo.fn y (by first | (simp; done) | omega | (simp; omega)) ?_; clear y Y))
   refine ⟨by simp, _, _, _, _, (by simp only [zb, seval, w59]; rfl), (by simp), (by simp only [zv]; rfl), (by simp), _, ALe.refl _, ?_⟩
   rfl
  have hd1 : decide ((i : Int) < (l.length : Int)) = true := by simp; omega
  have hw1 : IntKind.i64.wrap ((i : Int) + 1) = ((i + 1 : Nat) : Int) := by rw [wrap64 (by omega) (by omega)]; omega
  have hgc := getC hlt
  rw [D.cc_eq] at hgc
  have hih := ih l[i] (hhl i hlt) (hxs i hlt) (hsx _ (List.getElem_mem hlt))
  rw [D.cc_eq] at hih
  repeat (first | (apply fw; (with_reducible constructor) <;> rfl) | (apply WpA.cd; constructor) | ((first | with_reducible refine WpA.go _ rfl fun Y y => ?_ | apply RunTo.id); simp only [zb, seval, w59, hd1, hgc, hw1]; refine RunTo.fn y (by first | (simp; done) | omega | (simp; omega)) ?_; clear y Y))
  refine WpL.call rfl (guardA_sound (P := Tryd.prog) rfl) (CallA.shut rfl rfl (by kernel_rfl) (ALes.refl _) (by first | rfl | simp [shuts, A.shut, C.shut]) (hih) ?_)
  rcases hpb : plainB l[i] with _ | _
  ·rw [plainsB_neg fun h => by have := plainB_iff.2 ((Plains.iff l).1 h i hlt); rw [hpb] at this; cases this]
   (refine WpL.go _ rfl fun Y y => ?_); repeat (first | (apply fw; (with_reducible constructor) <;> rfl) | (apply WpA.cd; constructor) | ((first | with_reducible refine WpA.go _ rfl fun Y y => ?_ | apply RunTo.id); simp only [zb, seval, w59, hw1]; refine RunTo.fn y (by first | (simp; done) | omega | (simp; omega)) ?_; clear y Y))
   refine ⟨by simp, _, _, _, _, (by simp only [zb, seval, w59]; rfl), (by simp), (by simp only [zv]; rfl), (by simp), _, ALe.refl _, ?_⟩
   rfl
  ·(refine WpL.go _ rfl fun Y y => ?_); repeat (first | (apply fw; (with_reducible constructor) <;> rfl) | (apply WpA.cd; constructor) | ((first | with_reducible refine WpA.go _ rfl fun Y y => ?_ | apply RunTo.id); simp only [zb, seval, w59, hw1]; refine RunTo.fn y (by first | (simp; done) | omega | (simp; omega)) ?_; clear y Y))
   refine ⟨l.length - (i + 1), _, by omega, ?_, i + 1, rfl, hlt, fun j hj hji => ?_, rfl⟩
   ·exact Le.drop 1 (Nat.zero_le _) rfl (by simp [Sub, find]) rfl (by simp [ObBd, C.bd])
   ·rcases Nat.lt_succ_iff_lt_or_eq.1 hji with h | rfl
    ·exact hpl j hj h
    ·exact plainB_iff.1 hpb
 by_cases h8 : k = 8
 ·subst h8
  by_cases hb : Bare (.mk 8 c neg mag t l)
  case neg =>
   have hbr : bareB false false false true (.mk 8 c neg mag t l) = false := by
    cases h : bareB false false false true (.mk 8 c neg mag t l) with
    | false => rfl
    | true => exact absurd (by simpa [Bare, D.k] using bareB_iff.1 h) hb
   rw [not_bare hb]
   refine Fn.intro Tryd.func59 rfl Tryd.ntmps59 Tryd.results59 (by simp only [List.length_cons, List.length_nil]; decide) ?_
   repeat (first | (apply fw; (with_reducible constructor) <;> rfl) | (apply WpA.cd; constructor) | ((first | with_reducible refine WpA.go _ rfl fun Y y => ?_ | apply RunTo.id); simp only [zb, seval, w59, D.cc_eq, D.k, D.c, D.neg, D.mag, D.t, D.l]; refine RunTo.fn y (by first | (simp; done) | omega | (simp; omega)) ?_; clear y Y))
   refine WpL.call rfl (guardA_sound (P := Tryd.prog) rfl) (CallA.shut rfl rfl (by kernel_rfl) (by first | exact ALes.refl _ | (simp only [zz, D.cc_eq, D.k, D.c, D.neg, D.mag, D.t, D.l]; exact ALes.refl _)) (by first | rfl | simp [shuts, A.shut, C.shut, D.cc_eq, D.k, D.c, D.neg, D.mag, D.t, D.l]) (bare8_pure (.mk 8 c neg mag t l)) ?_)
   (refine WpL.go _ rfl fun Y y => ?_); repeat (first | (apply fw; (with_reducible constructor) <;> rfl) | (apply WpA.cd; constructor) | ((first | with_reducible refine WpA.go _ rfl fun Y y => ?_ | apply RunTo.id); simp only [zb, seval, w59, hbr]; refine RunTo.fn y (by first | (simp; done) | omega | (simp; omega)) ?_; clear y Y))
   refine ⟨by simp, _, _, _, _, (by simp only [zb, seval, w59]; rfl), (by simp), (by simp only [zv]; rfl), (by simp), _, ALe.refl _, ?_⟩
   rfl
  have hbr : bareB false false false true (.mk 8 c neg mag t l) = true := bareB_iff.2 (by simpa [Bare, D.k] using hb)
  rw [show plainB (.mk 8 c neg mag t l) = (decide (l.length ≤ 62) && plainsB l) from by first | exact plain_pair hb | exact plain_vec hb]
  have f2 : ((l.length : Int) != 2) = !decide (l.length = 2) := by
   by_cases h : l.length = 2
   ·simp [h]
   ·simp [h]; omega
  have f62 : decide ((62 : Int) < l.length) = !decide (l.length ≤ 62) := by
   by_cases h : l.length ≤ 62
   ·simp [h]; omega
   ·simp [h]; omega
  by_cases hL : l.length ≤ 62
  case neg =>
   have hLd := decide_eq_false hL
   rw [hLd, Bool.false_and]
   refine Fn.intro Tryd.func59 rfl Tryd.ntmps59 Tryd.results59 (by simp only [List.length_cons, List.length_nil]; decide) ?_
   repeat (first | (apply fw; (with_reducible constructor) <;> rfl) | (apply WpA.cd; constructor) | ((first | with_reducible refine WpA.go _ rfl fun Y y => ?_ | apply RunTo.id); simp only [zb, seval, w59, D.cc_eq, D.k, D.c, D.neg, D.mag, D.t, D.l]; refine RunTo.fn y (by first | (simp; done) | omega | (simp; omega)) ?_; clear y Y))
   refine WpL.call rfl (guardA_sound (P := Tryd.prog) rfl) (CallA.shut rfl rfl (by kernel_rfl) (by first | exact ALes.refl _ | (simp only [zz, D.cc_eq, D.k, D.c, D.neg, D.mag, D.t, D.l]; exact ALes.refl _)) (by first | rfl | simp [shuts, A.shut, C.shut, D.cc_eq, D.k, D.c, D.neg, D.mag, D.t, D.l]) (bare8_pure (.mk 8 c neg mag t l)) ?_)
   (refine WpL.go _ rfl fun Y y => ?_); repeat (first | (apply fw; (with_reducible constructor) <;> rfl) | (apply WpA.cd; constructor) | ((first | with_reducible refine WpA.go _ rfl fun Y y => ?_ | apply RunTo.id); simp only [zb, seval, w59, hbr, D.cc_eq, D.k, D.c, D.neg, D.mag, D.t, D.l, f2, f62, hLd]; refine RunTo.fn y (by first | (simp; done) | omega | (simp; omega)) ?_; clear y Y))
   refine ⟨by simp, _, _, _, _, (by simp only [zb, seval, w59]; rfl), (by simp), (by simp only [zv]; rfl), (by simp), _, ALe.refl _, ?_⟩
   rfl
  have hLd := decide_eq_true hL
  have hL62 : l.length ≤ 62 := by omega
  have hLd2 := decide_eq_true hL62
  rw [hLd, Bool.true_and]
  refine Fn.intro Tryd.func59 rfl Tryd.ntmps59 Tryd.results59 (by simp only [List.length_cons, List.length_nil]; decide) ?_
  repeat (first | (apply fw; (with_reducible constructor) <;> rfl) | (apply WpA.cd; constructor) | ((first | with_reducible refine WpA.go _ rfl fun Y y => ?_ | apply RunTo.id); simp only [zb, seval, w59, D.cc_eq, D.k, D.c, D.neg, D.mag, D.t, D.l]; refine RunTo.fn y (by first | (simp; done) | omega | (simp; omega)) ?_; clear y Y))
  refine WpL.call rfl (guardA_sound (P := Tryd.prog) rfl) (CallA.shut rfl rfl (by kernel_rfl) (by first | exact ALes.refl _ | (simp only [zz, D.cc_eq, D.k, D.c, D.neg, D.mag, D.t, D.l]; exact ALes.refl _)) (by first | rfl | simp [shuts, A.shut, C.shut, D.cc_eq, D.k, D.c, D.neg, D.mag, D.t, D.l]) (bare8_pure (.mk 8 c neg mag t l)) ?_)
  (refine WpL.go _ rfl fun Y y => ?_); repeat (first | (apply fw; (with_reducible constructor) <;> rfl) | (apply WpA.cd; constructor) | ((first | with_reducible refine WpA.go _ rfl fun Y y => ?_ | apply RunTo.id); simp only [zb, seval, w59, hbr, D.cc_eq, D.k, D.c, D.neg, D.mag, D.t, D.l, f2, f62, hLd, hLd2]; refine RunTo.fn y (by first | (simp; done) | omega | (simp; omega)) ?_; clear y Y))
  refine WpA.loop (PlnI 8 c neg mag t l) l.length ?_ ⟨0, rfl, Nat.zero_le _, fun j _ h => absurd h (Nat.not_lt_zero _), rfl⟩ ?_
  ·exact Le.drop 1 (Nat.zero_le _) rfl (by simp [Sub, find]) rfl (by simp [ObBd, C.bd])
  intro n' st hI
  obtain ⟨i, rfl, hi, hpl, rfl⟩ := hI
  by_cases hlt : i < l.length
  case neg =>
   have hd0 : decide ((i : Int) < (l.length : Int)) = false := by simp; omega
   rw [show plainsB l = true from plainsB_iff.2 ((Plains.iff l).2 fun j hj => hpl j hj (by omega))]
   repeat (first | (apply fw; (with_reducible constructor) <;> rfl) | (apply WpA.cd; constructor) | ((first | with_reducible refine WpA.go _ rfl fun Y y => ?_ | apply RunTo.id); simp only [zb, seval, w59, hd0]; refine RunTo.fn y (by first | (simp; done) | omega | (simp; omega)) ?_; clear y Y))
   repeat (first | (apply fw; (with_reducible constructor) <;> rfl) | (apply WpA.cd; constructor) | ((first | with_reducible refine WpA.go _ rfl fun Y y => ?_ | apply RunTo.id); simp only [zb, seval, w59, hd0]; refine RunTo.fn y (by first | (simp; done) | omega | (simp; omega)) ?_; clear y Y))
   refine ⟨by simp, _, _, _, _, (by simp only [zb, seval, w59]; rfl), (by simp), (by simp only [zv]; rfl), (by simp), _, ALe.refl _, ?_⟩
   rfl
  have hd1 : decide ((i : Int) < (l.length : Int)) = true := by simp; omega
  have hw1 : IntKind.i64.wrap ((i : Int) + 1) = ((i + 1 : Nat) : Int) := by rw [wrap64 (by omega) (by omega)]; omega
  have hgc := getC hlt
  rw [D.cc_eq] at hgc
  have hih := ih l[i] (hhl i hlt) (hxs i hlt) (hsx _ (List.getElem_mem hlt))
  rw [D.cc_eq] at hih
  repeat (first | (apply fw; (with_reducible constructor) <;> rfl) | (apply WpA.cd; constructor) | ((first | with_reducible refine WpA.go _ rfl fun Y y => ?_ | apply RunTo.id); simp only [zb, seval, w59, hd1, hgc, hw1]; refine RunTo.fn y (by first | (simp; done) | omega | (simp; omega)) ?_; clear y Y))
  refine WpL.call rfl (guardA_sound (P := Tryd.prog) rfl) (CallA.shut rfl rfl (by kernel_rfl) (ALes.refl _) (by first | rfl | simp [shuts, A.shut, C.shut]) (hih) ?_)
  rcases hpb : plainB l[i] with _ | _
  ·rw [plainsB_neg fun h => by have := plainB_iff.2 ((Plains.iff l).1 h i hlt); rw [hpb] at this; cases this]
   (refine WpL.go _ rfl fun Y y => ?_); repeat (first | (apply fw; (with_reducible constructor) <;> rfl) | (apply WpA.cd; constructor) | ((first | with_reducible refine WpA.go _ rfl fun Y y => ?_ | apply RunTo.id); simp only [zb, seval, w59, hw1]; refine RunTo.fn y (by first | (simp; done) | omega | (simp; omega)) ?_; clear y Y))
   refine ⟨by simp, _, _, _, _, (by simp only [zb, seval, w59]; rfl), (by simp), (by simp only [zv]; rfl), (by simp), _, ALe.refl _, ?_⟩
   rfl
  ·(refine WpL.go _ rfl fun Y y => ?_); repeat (first | (apply fw; (with_reducible constructor) <;> rfl) | (apply WpA.cd; constructor) | ((first | with_reducible refine WpA.go _ rfl fun Y y => ?_ | apply RunTo.id); simp only [zb, seval, w59, hw1]; refine RunTo.fn y (by first | (simp; done) | omega | (simp; omega)) ?_; clear y Y))
   refine ⟨l.length - (i + 1), _, by omega, ?_, i + 1, rfl, hlt, fun j hj hji => ?_, rfl⟩
   ·exact Le.drop 1 (Nat.zero_le _) rfl (by simp [Sub, find]) rfl (by simp [ObBd, C.bd])
   ·rcases Nat.lt_succ_iff_lt_or_eq.1 hji with h | rfl
    ·exact hpl j hj h
    ·exact plainB_iff.1 hpb
 exact rplain_flat k c neg mag t l hmg hst hsmag h7 h8
end Go.Proofs.YtpacdmgnpadleaaDoor
end
section
namespace Go.Proofs.YtpacdmgnpadleaaDoor
open Go.RowKit
set_option linter.unusedSimpArgs false
set_option linter.unusedVariables false
def RDepthUpTo (n : Nat) : Prop := ∀ (d : D) (w : World) (v : Value), d.ht ≤ n → d.count < 1000000000 → IsD w d v →
  Calls Tryd.prog 60 #[v] w fun e w' => e = .returned (.int .i64 d.depth) ∧ Ext w w'
set_option maxHeartbeats 2000000 in
theorem rdepth_step (n : Nat) (ih : RDepthUpTo n) : RDepthUpTo (n + 1) := by
 intro d w v hh hb h
 obtain ⟨am, cm, al, cl, rfl, hm, hl, -, -, hc1, hc2⟩ := h.open
 unfold maxLen at hc2
 have hhl : ∀ i (hi : i < d.l.length), d.l[i].ht ≤ n := fun i hi => by have := D.ht_lt hi; omega
 have HH := Lib.hid hhl; clear hhl hh
 have he := d.count_eq
 have hb' : cnts d.l < 1000000000 := by omega
 have HD := Lib.hid d.depth_eq
 have HE := Lib.hid he
 clear he h
 go_enter Tryd.func60, Tryd.ntmps60
 go_wp2
 go_loopw [3, 4, 5] (fun s i _ wr => ∃ (k : Nat) (hk : k ≤ d.l.length), i = .int .i64 k ∧ s = .int .i64 ((dto d k hk : Nat) : Int) ∧ Ext (w.alloc (.cells #[.int .i64 d.k, .int .i32 d.c, .bool d.neg, .slice am d.mag.length cm, .string d.t, .slice al d.l.length cl] 31)) wr) (fun _ i _ _ => d.l.length - (intOf i).toNat)
 case atStart => exact ⟨0, Nat.zero_le _, rfl, rfl, Ext.refl _⟩
 case round =>
  obtain ⟨k, hk, rfl, rfl, hxr⟩ := hrel
  have hx0 : Ext w wr := ((Ext.refl _).alloc _).trans hxr
  have f0 : wr.cell? ⟨w.heap.size, 5, none⟩ = some (.slice al d.l.length cl) := hxr.keeps _ _ (by go_simp)
  have f1 : wr.cell? ⟨w.heap.size, 0, none⟩ = some (.int .i64 d.k) := hxr.keeps _ _ (by go_simp)
  by_cases hlt : k < d.l.length
  ·obtain ⟨b, o, rfl, hcell⟩ := hl.get k hlt
   obtain ⟨am', cm', al', cl', c0, c1, c2, c3, c4, c5, hm', hl'⟩ := hcell.keep hx0.keeps
   have hcnt := count_le d.l k hlt
   have hdl := d.l[k].depth_le
   have hs := dto_le_count d k hk
   have hs2 := Lib.hid (dto_succ d k hlt)
   go_wp2_with fail
   refine (ih d.l[k] _ _ (HH.out k hlt) (by omega) (IsD.mk' hm' hl')).mono ?_
   rintro e w2 ⟨rfl, hx2⟩
   have g0 : w2.cell? ⟨w.heap.size, 5, none⟩ = some (.slice (some ⟨b, o, none⟩) d.l.length cl) := hx2.keeps _ _ f0
   have g1 : w2.cell? ⟨w.heap.size, 0, none⟩ = some (.int .i64 d.k) := hx2.keeps _ _ f1
   have g2 : w2.cell? ⟨b, o + k * 6, none⟩ = some (.int .i64 d.l[k].k) := hx2.keeps _ _ c0
   have hx3 := hxr.trans hx2
   have HX2 := Lib.hid hx2; clear hx2
   by_cases h7 : d.k = 7
   case neg =>
    have e7 : (d.k == 7) = false := by simpa using h7
    have hdt : dterm d k hlt = d.l[k].depth + 1 := by unfold dterm; rw [if_neg (fun h => h7 h.1)]
    rw [hdt] at hs2
    clear h7 hdt
    go_wp2
    go_roundw
    case rel => exact ⟨k + 1, hlt, by go_num, by rw [hs2.out]; go_num, hx3⟩
    case measure => simp [intOf]; omega
   have e7 : (d.k == 7) = true := by simpa using h7
   by_cases hlast : k + 1 < d.l.length
   case pos =>
    have hdt : dterm d k hlt = d.l[k].depth + 1 := by unfold dterm; rw [if_neg (fun h => by omega)]
    rw [hdt] at hs2
    clear h7 hdt
    have ed : ((k : Int) == (d.l.length : Int) - 1) = false := by rw [beq_eq_false_iff_ne]; omega
    go_wp2
    go_roundw
    case rel => exact ⟨k + 1, hlt, by go_num, by rw [hs2.out]; go_num, hx3⟩
    case measure => simp [intOf]; omega
   have ed : ((k : Int) == (d.l.length : Int) - 1) = true := by rw [beq_iff_eq]; omega
   by_cases hp : d.l[k].k = 7
   ·have e9 : (d.l[k].k == 7) = true := by simpa using hp
    have hdt : dterm d k hlt = d.l[k].depth := by unfold dterm; rw [if_pos ⟨h7, by omega, hp⟩]; rfl
    rw [hdt] at hs2
    clear h7 hdt hp hlast
    go_wp2
    go_roundw
    case rel => exact ⟨k + 1, hlt, by go_num, by rw [hs2.out]; go_num, hx3⟩
    case measure => simp [intOf]; omega
   ·have e9 : (d.l[k].k == 7) = false := by simpa using hp
    have hdt : dterm d k hlt = d.l[k].depth + 1 := by unfold dterm; rw [if_neg (fun h => hp h.2.2)]
    rw [hdt] at hs2
    clear h7 hdt hp hlast
    go_wp2
    go_roundw
    case rel => exact ⟨k + 1, hlt, by go_num, by rw [hs2.out]; go_num, hx3⟩
    case measure => simp [intOf]; omega
  ·have hfin : dto d k hk = dto d d.l.length (Nat.le_refl _) := dto_congr d k hk (by omega)
   have HFIN := Lib.hid hfin; clear hfin
   by_cases h8 : d.k = 8
   ·have e8 : (d.k == 8) = true := by simpa using h8
    have HD' := HD.out
    rw [if_pos h8, ← HFIN.out] at HD'
    have HD2 := Lib.hid HD'; clear HD' h8
    go_wp2
    all_goals go_ret
    all_goals exact ⟨ret_int (by rw [HD2.out]; omega), hx0⟩
   ·have e8 : (d.k == 8) = false := by simpa using h8
    have HD' := HD.out
    rw [if_neg h8, ← HFIN.out] at HD'
    have HD2 := Lib.hid HD'; clear HD' h8
    go_wp2
    all_goals go_ret
    all_goals exact ⟨ret_int (by rw [HD2.out]; omega), hx0⟩
theorem rdepth_upto : ∀ n, RDepthUpTo n
 | 0 => fun d _ _ h => absurd h (by cases d; rw [D.ht]; omega)
 | n + 1 => rdepth_step n (rdepth_upto n)
theorem rdepth_any (d : D) (w : World) (v : Value) (hb : d.count < 1000000000) (h : IsD w d v) :
  Calls Tryd.prog 60 #[v] w fun e w' => e = .returned (.int .i64 d.depth) ∧ Ext w w' := rdepth_upto d.ht d w v (Nat.le_refl _) hb h
end Go.Proofs.YtpacdmgnpadleaaDoor
end
section
namespace Go.Proofs.YtpacdmgnpadleaaDoor
open Go Go.RowKit Go.Lib
set_option linter.unusedSimpArgs false
set_option linter.unusedVariables false
set_option maxHeartbeats 4000000
set_option maxRecDepth 100000
theorem rplain_upto : ∀ n, PlainTo n
 | 0 => fun d h _ _ => absurd h (by cases d; rw [D.ht]; omega)
 | n + 1 => rplain_st n (rplain_upto n)
theorem rdepth_pure (d : D) (hb : d.count < 1000000000) : Pure Tryd.prog 60 [.agg d.cc] (.one (.v (.int .i64 d.depth))) := by
 refine pure_old_v rfl fun w vs hg hv => ?_
 obtain ⟨v, rfl, hv1⟩ := hv.one1
 exact rdepth_any d w v hb hv1.isD
theorem rmay_pure (d : D) (hok : d.Ok) (hs : SmallTo d.ht d) (hb : d.count < 1000000000) : Pure Tryd.prog 44 [.agg d.cc] (.one (.v (.bool (mayB d)))) := by
 have hp := rplain_upto d.ht d (Nat.le_refl _) hok hs
 have hd := rdepth_pure d hb
 rw [D.cc_eq] at hp hd ⊢
 unfold mayB
 rcases hb : plainB d with _ | _
 ·rw [hb] at hp
  refine Fn.intro Tryd.func44 rfl Tryd.ntmps44 Tryd.results44 (by simp only [List.length_cons, List.length_nil]; decide) ?_
  repeat (first | (apply fw; (with_reducible constructor) <;> rfl) | (apply WpA.cd; constructor) | ((first | with_reducible refine WpA.go _ rfl fun Y y => ?_ | apply RunTo.id); simp only [zb, seval, ty_31]; refine RunTo.fn y (by first | (simp; done) | omega | (simp; omega)) ?_; clear y Y))
  refine WpL.call rfl (guardA_sound (P := Tryd.prog) rfl) (CallA.shut rfl rfl (by kernel_rfl) (ALes.refl _) (by first | rfl | simp [shuts, A.shut, C.shut]) (hp) ?_)
  (refine WpL.go _ rfl fun Y y => ?_); repeat (first | (apply fw; (with_reducible constructor) <;> rfl) | (apply WpA.cd; constructor) | ((first | with_reducible refine WpA.go _ rfl fun Y y => ?_ | apply RunTo.id); simp only [zb, seval, ty_31]; refine RunTo.fn y (by first | (simp; done) | omega | (simp; omega)) ?_; clear y Y))
  refine ⟨by simp, _, _, _, _, (by simp only [zb, seval, ty_31]; rfl), (by simp), (by simp only [zv]; rfl), (by simp), _, ALe.refl _, ?_⟩
  rfl
 ·rw [hb] at hp
  refine Fn.intro Tryd.func44 rfl Tryd.ntmps44 Tryd.results44 (by simp only [List.length_cons, List.length_nil]; decide) ?_
  repeat (first | (apply fw; (with_reducible constructor) <;> rfl) | (apply WpA.cd; constructor) | ((first | with_reducible refine WpA.go _ rfl fun Y y => ?_ | apply RunTo.id); simp only [zb, seval, ty_31]; refine RunTo.fn y (by first | (simp; done) | omega | (simp; omega)) ?_; clear y Y))
  refine WpL.call rfl (guardA_sound (P := Tryd.prog) rfl) (CallA.shut rfl rfl (by kernel_rfl) (ALes.refl _) (by first | rfl | simp [shuts, A.shut, C.shut]) (hp) ?_)
  (refine WpL.go _ rfl fun Y y => ?_); repeat (first | (apply fw; (with_reducible constructor) <;> rfl) | (apply WpA.cd; constructor) | ((first | with_reducible refine WpA.go _ rfl fun Y y => ?_ | apply RunTo.id); simp only [zb, seval, ty_31]; refine RunTo.fn y (by first | (simp; done) | omega | (simp; omega)) ?_; clear y Y))
  refine WpL.call rfl (guardA_sound (P := Tryd.prog) rfl) (CallA.shut rfl rfl (by kernel_rfl) (ALes.refl _) (by first | rfl | simp [shuts, A.shut, C.shut]) (hd) ?_)
  (refine WpL.go _ rfl fun Y y => ?_); repeat (first | (apply fw; (with_reducible constructor) <;> rfl) | (apply WpA.cd; constructor) | ((first | with_reducible refine WpA.go _ rfl fun Y y => ?_ | apply RunTo.id); simp only [zb, seval, ty_31]; refine RunTo.fn y (by first | (simp; done) | omega | (simp; omega)) ?_; clear y Y))
  refine ⟨by simp, _, _, _, _, (by simp only [zb, seval, ty_31]; rfl), (by simp), (by simp only [zv]; rfl), (by simp), _, ALe.refl _, ?_⟩
  simp; omega
end Go.Proofs.YtpacdmgnpadleaaDoor
end
