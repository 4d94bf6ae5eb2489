/-
  Laid together: Put27, Bytes27, AppS27, RBytes27, Enc27, EncB27, Awake27, Num27.
-/
import Derived.Test.YtdcmihhcpgkgiaaDoorG5
import Derived.Test.YtdcmihhcpgkgiaaDoorG4
import Derived.Lib.AppendStr
import Derived.Test.YtdcmihhcpgkgiaaDoorG6

section
namespace Go.Proofs.YtdcmihhcpgkgiaaDoor
open Go Go.RowKit Go.Lib
set_option linter.unusedSimpArgs false
set_option linter.unusedVariables false
set_option maxHeartbeats 4000000
set_option maxRecDepth 100000
/-- A number without its sign. -/
def zig (n : Int) : Nat := if 0 ≤ n then (2 * n).toNat else (-2 * n - 1).toNat
def numN (x : Nat) : List UInt8 := if x < 128 then [x.toUInt8] else (x % 128 + 128).toUInt8 :: numN (x / 128)
termination_by x
decreasing_by omega
def putL (l : List Int) : List UInt8 := l.flatMap fun n => numN (zig n)
def wOb (c : C) : Ob := ⟨44, 1, [[c]]⟩
/-- A writer and what it has. -/
def wst (bs : List UInt8) : List (Option Ob) := if bs = [] then [some (wOb (.v (.slice none 0 0)))] else [some (wOb (.ms 1 bs.length)), some ⟨5, 1, bC bs⟩]
theorem bits_xor64 (a b : Int) : bits .xor .u64 a b = ((BitVec.ofInt 64 a ^^^ BitVec.ofInt 64 b).toNat : Int) := by
  show IntKind.u64.wrap ((BitVec.ofInt 64 a ^^^ BitVec.ofInt 64 b).toNat : Int) = _
  have := (BitVec.ofInt 64 a ^^^ BitVec.ofInt 64 b).isLt
  generalize (BitVec.ofInt 64 a ^^^ BitVec.ofInt 64 b).toNat = z at *
  simp only [IntKind.wrap, IntKind.bits, IntKind.signed, Bool.false_and, Bool.false_eq_true, if_false]
  omega
theorem zig_bits (n : Int) (h : I64 n) : bits .xor .u64 (IntKind.u64.wrap (IntKind.u64.wrap n * 2 ^ min 1 IntKind.u64.bits)) (IntKind.u64.wrap (n.fdiv (2 ^ min 63 IntKind.i64.bits))) = (zig n : Int) := by
  obtain ⟨h0, h1⟩ := h
  have e1 : (2 : Int) ^ min 1 IntKind.u64.bits = 2 := by decide
  have e2 : (2 : Int) ^ min 63 IntKind.i64.bits = 9223372036854775808 := by decide
  have ew : ∀ x : Int, IntKind.u64.wrap x = x % 18446744073709551616 := fun x => by simp [IntKind.wrap, IntKind.bits, IntKind.signed]
  rw [e1, e2, bits_xor64, ew, ew, ew]
  unfold zig
  by_cases hn : 0 ≤ n
  · rw [if_pos hn]
    have e3 : n.fdiv 9223372036854775808 = 0 := by rw [Int.fdiv_eq_ediv_of_nonneg _ (by omega)]; omega
    rw [e3]
    have e4 : BitVec.ofInt 64 (0 % 18446744073709551616) = (BitVec.ofNat 64 0) := by decide
    rw [e4, BitVec.xor_zero, BitVec.toNat_ofInt]
    omega
  · rw [if_neg hn]
    have e3 : n.fdiv 9223372036854775808 = -1 := by rw [Int.fdiv_eq_ediv_of_nonneg _ (by omega)]; omega
    rw [e3]
    have e4 : BitVec.ofInt 64 (-1 % 18446744073709551616) = BitVec.allOnes 64 := by decide
    rw [e4, BitVec.xor_allOnes, BitVec.toNat_not, BitVec.toNat_ofInt]
    omega
theorem or_byte (x : Nat) : bits .or .u8 (IntKind.u8.wrap (x : Int)) 128 = ((x % 128 + 128 : Nat) : Int) := by
  have ew : IntKind.u8.wrap (x : Int) = ((x % 256 : Nat) : Int) := by simp [IntKind.wrap, IntKind.bits, IntKind.signed]
  have h2 : ∀ b : Fin 256, bits .or .u8 (b.val : Int) 128 = ((b.val % 128 + 128 : Nat) : Int) := by decide +kernel
  rw [ew, h2 ⟨x % 256, by omega⟩]
  simp only
  omega
theorem zig_lt (n : Int) (h : I64 n) : zig n < 18446744073709551616 := by
  obtain ⟨h0, h1⟩ := h
  unfold zig; split <;> omega
theorem bC_ren (f : Nat → Nat) (B : List UInt8) : (bC B).map (C.rens f) = bC B := by simp [bC, C.rens, C.ren]
theorem bC_snoc (B : List UInt8) (b : UInt8) : bC (B ++ [b]) = bC B ++ [[.v (.int .u8 b.toNat)]] := by simp [bC]
theorem wst_snoc (B : List UInt8) (b : UInt8) : wst (B ++ [b]) = [some (wOb (.ms 1 (B.length + 1))), some ⟨5, 1, bC B ++ [[.v (.int .u8 b.toNat)]]⟩] := by
  rw [wst, if_neg (by simp), bC_snoc]; simp
theorem numN_big {x : Nat} (h : 127 < x) : numN x = (x % 128 + 128).toUInt8 :: numN (x / 128) := by rw [numN, if_neg (by omega)]
theorem numN_small {x : Nat} (h : x ≤ 127) : numN x = [x.toUInt8] := by rw [numN, if_pos (by omega)]
theorem toU8 {x : Nat} (h : x < 256) : (x.toUInt8).toNat = x := by simp [Nat.toUInt8]; omega
theorem numN_len : ∀ (k x : Nat), x < 128 ^ (k + 1) → (numN x).length ≤ k + 1
  | 0, x, h => by rw [numN_small (by omega)]; simp
  | k + 1, x, h => by
    by_cases hx : 127 < x
    · rw [numN_big hx]
      have := numN_len k (x / 128) (by rw [Nat.pow_succ] at h; omega)
      simp only [List.length_cons]; omega
    · rw [numN_small (by omega)]; simp
theorem numN_len10 {n : Int} (h : I64 n) : (numN (zig n)).length ≤ 10 := numN_len 9 _ (Nat.lt_of_lt_of_le (zig_lt n h) (by decide))
theorem putL_len : ∀ (l : List Int), (∀ n ∈ l, I64 n) → (putL l).length ≤ 10 * l.length
  | [], _ => by simp [putL]
  | n :: l, h => by
    have h1 := putL_len l fun m hm => h m (by simp [hm])
    have h2 := numN_len10 (h n (by simp))
    simp only [putL, List.flatMap_cons, List.length_append, List.length_cons] at *
    omega
def InI (l : List Int) (bs : List UInt8) (k x0 : Nat) (j : Nat) (st : St) : Prop := ∃ (x : Nat) (pre : List UInt8), j = x ∧ x < 18446744073709551616 ∧ numN x0 = pre ++ numN x ∧
  st = ⟨[(6, .one (.v (.int .u64 x))), (9, .one (.v (.int .i64 k))), (8, .one (.v (.int .i64 l.length))), (7, .one (.sl 1 (nC l))), (0, .one (.ptr 0 1 0 0))], wst (bs ++ putL (l.take k) ++ pre)⟩
def PutI (l : List Int) (bs : List UInt8) (j : Nat) (st : St) : Prop := ∃ k : Nat, j = l.length - k ∧ k ≤ l.length ∧
  st = ⟨[(9, .one (.v (.int .i64 k))), (8, .one (.v (.int .i64 l.length))), (7, .one (.sl 1 (nC l))), (0, .one (.ptr 0 1 0 0))], wst (bs ++ putL (l.take k))⟩
theorem put_fn (l : List Int) (bs : List UInt8) (hl : l.length ≤ 10) (hr : ∀ n ∈ l, I64 n) (hb : bs.length ≤ 1000000) : Fn Tryd.prog 21 [.one (.ptr 0 1 0 0), .one (.sl 1 (nC l))] (wst bs) (fun r s' => r = .tup [] ∧ s' = wst (bs ++ putL l)) := by
  have hll := nC_len l
  refine Fn.introS Tryd.func21 rfl Tryd.ntmps21 Tryd.results21 (by simp only [List.length_cons, List.length_nil]; decide) ?_
  repeat (first | (apply fw; focus ((with_reducible constructor) <;> rfl)) | (apply WpA.cd; focus constructor) | ((first | with_reducible refine WpA.go _ rfl fun Y y => ?_ | apply RunTo.id); simp only [zb, seval, w21, txtA, hll]; refine RunTo.fn y (by first | exact trivial | omega | (simp; done) | (simp; omega)) ?_; clear y Y))
  refine WpA.loop (PutI l bs) l.length ?_ ⟨0, rfl, Nat.zero_le _, rfl⟩ ?_
  · simp only [putL, List.take_zero, List.flatMap_nil, List.append_nil]; exact Le.sub (by simp [Sub, find])
  intro n' st hI
  obtain ⟨k, rfl, hk, rfl⟩ := hI
  have hw2 : IntKind.i64.wrap ((k : Int) + 1) = ((k + 1 : Nat) : Int) := by rw [wrap64 (by omega) (by omega)]; omega
  by_cases hlt : k < l.length
  case neg =>
    have hd0 : decide ((k : Int) < (l.length : Int)) = false := by simp; omega
    obtain rfl : k = l.length := by omega
    repeat (first | (apply fw; focus ((with_reducible constructor) <;> rfl)) | (apply WpA.cd; focus constructor) | ((first | with_reducible refine WpA.go _ rfl fun Y y => ?_ | apply RunTo.id); simp only [zb, seval, w21, txtA, hd0]; refine RunTo.fn y (by first | exact trivial | omega | (simp; done) | (simp; omega)) ?_; clear y Y))
    rw [List.take_length]
    exact ⟨by simp, _, _, _, Le.refl _ _, rfl, trivial, rfl, rfl⟩
  have hd1 : decide ((k : Int) < (l.length : Int)) = true := by simp; omega
  have hga := nC_get hlt
  have hin := hr l[k] (by simp)
  repeat (first | (apply fw; focus ((with_reducible constructor) <;> rfl)) | (apply WpA.cd; focus constructor) | ((first | with_reducible refine WpA.go _ rfl fun Y y => ?_ | apply RunTo.id); simp only [zb, seval, w21, txtA, hd1, hga]; refine RunTo.fn y (by first | exact trivial | omega | (simp; done) | (simp; omega)) ?_; clear y Y))
  have hz := zig_bits l[k] hin
  refine WpA.loop (InI l bs k (zig l[k])) (zig l[k]) ?_ ⟨zig l[k], [], rfl, zig_lt _ hin, rfl, rfl⟩ ?_
  · rw [List.append_nil]; exact Le.sub (by simp [Sub, find, hz])
  intro x st hI
  obtain ⟨_, pre, rfl, hx64, hpre, rfl⟩ := hI
  by_cases hx : 127 < x
  · have hd2 : decide ((127 : Int) < (x : Int)) = true := by simp; omega
    have hs1 : (x : Int).fdiv (2 ^ min 7 IntKind.u64.bits) = ((x / 128 : Nat) : Int) := by
      rw [show (2 : Int) ^ min 7 IntKind.u64.bits = 128 from by decide, Int.fdiv_eq_ediv_of_nonneg _ (by omega)]; omega
    have hor := or_byte x
    generalize hB : bs ++ putL (l.take k) ++ pre = B
    have hlB : B.length ≤ 2000000 := by
      have h1 := putL_len (l.take k) fun m hm => hr m (List.mem_of_mem_take hm)
      have h2 := numN_len10 hin
      have h3 := congrArg List.length hpre
      have h4 := congrArg List.length hB
      simp only [List.length_append, List.length_take] at h1 h3 h4
      omega
    have hb8 : ((x % 128 + 128).toUInt8.toNat : Int) = ((x % 128 + 128 : Nat) : Int) := by rw [toU8 (by omega)]
    have hw : wst (bs ++ putL (l.take k) ++ (pre ++ [(x % 128 + 128).toUInt8])) = [some (wOb (.ms 1 (B.length + 1))), some ⟨5, 1, bC B ++ [[.v (.int .u8 ((x % 128 + 128 : Nat) : Int))]]⟩] := by
      rw [← List.append_assoc, hB, wst_snoc, hb8]
    have hnext : numN (zig l[k]) = (pre ++ [(x % 128 + 128).toUInt8]) ++ numN (x / 128) := by rw [hpre, numN_big hx]; simp
    by_cases hB0 : B = []
    · subst hB0
      have hbs : bs = [] := by simp at hB; exact hB.1
      repeat (first | (apply fw; focus ((with_reducible constructor) <;> rfl)) | (apply WpA.cd; focus constructor) | ((first | with_reducible refine WpA.go _ rfl fun Y y => ?_ | apply RunTo.id); simp only [zb, seval, w21, txtA, hd2, wst, wOb, hor, hs1]; refine RunTo.fn y (by first | exact trivial | omega | (simp; done) | (simp; omega)) ?_; clear y Y))
      refine ⟨x / 128, ⟨[(6, .one (.v (.int .u64 (x / 128 : Nat)))), (9, .one (.v (.int .i64 k))), (8, .one (.v (.int .i64 l.length))), (7, .one (.sl 1 (nC l))), (0, .one (.ptr 0 1 0 0))], [some (wOb (.ms 1 1)), some ⟨5, 1, [[.v (.int .u8 ((x % 128 + 128 : Nat) : Int))]]⟩]⟩, by omega, Le.names [0, 2] (Handed.of (by decide) ?_) ?_ ?_, _, _, rfl, by omega, hnext, ?_⟩
      · rfl
      · intro i hi
        subst hbs
        obtain rfl : i = 0 := by simp [wst] at hi; omega
        rfl
      · simp [SubR, find, A.ren, C.ren, rn]
      · rw [hw]; rfl
    · have hbc := bC_len B
      repeat (first | (apply fw; focus ((with_reducible constructor) <;> rfl)) | (apply WpA.cd; focus constructor) | ((first | with_reducible refine WpA.go _ rfl fun Y y => ?_ | apply RunTo.id); simp only [zb, seval, w21, txtA, hd2, wst, hB0, wOb, hor, hs1, hbc]; refine RunTo.fn y (by first | exact trivial | omega | (simp; done) | (simp; omega)) ?_; clear y Y))
      refine ⟨x / 128, ⟨[(6, .one (.v (.int .u64 (x / 128 : Nat)))), (9, .one (.v (.int .i64 k))), (8, .one (.v (.int .i64 l.length))), (7, .one (.sl 1 (nC l))), (0, .one (.ptr 0 1 0 0))], [some (wOb (.ms 1 (B.length + 1))), some ⟨5, 1, bC B ++ [[.v (.int .u8 ((x % 128 + 128 : Nat) : Int))]]⟩]⟩, by omega, Le.names [0, 1] (Handed.of (by decide) ?_) ?_ ?_, _, _, rfl, by omega, hnext, ?_⟩
      · simp [Ob.ren, C.rens, C.ren, rn, wOb, bC_ren]
      · intro i hi
        replace hi : i < (wst bs).length := hi
        have : (wst bs).length ≤ 2 := by unfold wst; split <;> simp
        match i, (show i < 2 by omega) with
        | 0, _ => rfl
        | 1, _ => rfl
      · simp [SubR, find, A.ren, C.ren, rn]
      · rw [hw]
  · have hd2 : decide ((127 : Int) < (x : Int)) = false := by simp; omega
    have hcv : IntKind.u8.wrap (x : Int) = ((x : Nat) : Int) := by rw [wrapU8 (by omega) (by omega)]
    have hlB : (bs ++ putL (l.take k) ++ pre).length ≤ 2000000 := by
      have h1 := putL_len (l.take k) fun m hm => hr m (List.mem_of_mem_take hm)
      have h2 := numN_len10 hin
      have h3 := congrArg List.length hpre
      simp only [List.length_append, List.length_take] at h1 h3 ⊢
      omega
    have hput : bs ++ putL (l.take (k + 1)) = bs ++ putL (l.take k) ++ pre ++ [x.toUInt8] := by
      rw [List.take_succ_eq_append_getElem hlt]
      simp only [putL, List.flatMap_append, List.flatMap_cons, List.flatMap_nil, List.append_nil, hpre, numN_small (show x ≤ 127 by omega), List.append_assoc]
    generalize hB : bs ++ putL (l.take k) ++ pre = B at *
    have hb8 : (x.toUInt8.toNat : Int) = ((x : Nat) : Int) := by rw [toU8 (by omega)]
    have hw : wst (bs ++ putL (l.take (k + 1))) = [some (wOb (.ms 1 (B.length + 1))), some ⟨5, 1, bC B ++ [[.v (.int .u8 ((x : Nat) : Int))]]⟩] := by
      rw [hput, wst_snoc, hb8]
    by_cases hB0 : B = []
    · subst hB0
      have hbs : bs = [] := by simp at hB; exact hB.1
      repeat (first | (apply fw; focus ((with_reducible constructor) <;> rfl)) | (apply WpA.cd; focus constructor) | ((first | with_reducible refine WpA.go _ rfl fun Y y => ?_ | apply RunTo.id); simp only [zb, seval, w21, txtA, hd2, wst, wOb, hcv, hw2]; refine RunTo.fn y (by first | exact trivial | omega | (simp; done) | (simp; omega)) ?_; clear y Y))
      refine ⟨l.length - (k + 1), ⟨[(9, .one (.v (.int .i64 (k + 1 : Nat)))), (8, .one (.v (.int .i64 l.length))), (7, .one (.sl 1 (nC l))), (0, .one (.ptr 0 1 0 0))], [some (wOb (.ms 1 1)), some ⟨5, 1, [[.v (.int .u8 ((x : Nat) : Int))]]⟩]⟩, by omega, Le.names [0, 2] (Handed.of (by decide) ?_) ?_ ?_, k + 1, rfl, hlt, ?_⟩
      · rfl
      · intro i hi
        subst hbs
        obtain rfl : i = 0 := by simp [wst] at hi; omega
        rfl
      · simp [SubR, find, A.ren, C.ren, rn]
      · rw [hw]; rfl
    · have hbc := bC_len B
      repeat (first | (apply fw; focus ((with_reducible constructor) <;> rfl)) | (apply WpA.cd; focus constructor) | ((first | with_reducible refine WpA.go _ rfl fun Y y => ?_ | apply RunTo.id); simp only [zb, seval, w21, txtA, hd2, wst, hB0, wOb, hcv, hbc, hw2]; refine RunTo.fn y (by first | exact trivial | omega | (simp; done) | (simp; omega)) ?_; clear y Y))
      refine ⟨l.length - (k + 1), ⟨[(9, .one (.v (.int .i64 (k + 1 : Nat)))), (8, .one (.v (.int .i64 l.length))), (7, .one (.sl 1 (nC l))), (0, .one (.ptr 0 1 0 0))], [some (wOb (.ms 1 (B.length + 1))), some ⟨5, 1, bC B ++ [[.v (.int .u8 ((x : Nat) : Int))]]⟩]⟩, by omega, Le.names [0, 1] (Handed.of (by decide) ?_) ?_ ?_, k + 1, rfl, hlt, ?_⟩
      · simp [Ob.ren, C.rens, C.ren, rn, wOb, bC_ren]
      · intro i hi
        replace hi : i < (wst bs).length := hi
        have : (wst bs).length ≤ 2 := by unfold wst; split <;> simp
        match i, (show i < 2 by omega) with
        | 0, _ => rfl
        | 1, _ => rfl
      · simp [SubR, find, A.ren, C.ren, rn]
      · rw [hw]
def hexN (n : Nat) : UInt8 := hexS.data.toList.getD n 0
/-- The digits of bytes. -/
def hexL (l : List UInt8) : List UInt8 := l.flatMap fun b => [hexN (b.toNat / 16), hexN (b.toNat % 16)]
theorem hexL_len (l : List UInt8) : (hexL l).length = 2 * l.length := by
  induction l with
  | nil => rfl
  | cons a l ih => simp only [hexL, List.flatMap_cons, List.length_append, List.length_cons, List.length_nil] at ih ⊢; omega
theorem hexS_get {n : Nat} (h : n < 16) : hexS[n]? = some (hexN n) := by
  have : ∀ k : Fin 16, hexS[k.val]? = some (hexN k.val) := by decide +kernel
  exact this ⟨n, h⟩
theorem hex_hi (b : UInt8) : (b.toNat : Int).fdiv (2 ^ min 4 IntKind.u8.bits) = ((b.toNat / 16 : Nat) : Int) := by
  rw [show (2 : Int) ^ min 4 IntKind.u8.bits = 16 from by decide, Int.fdiv_eq_ediv_of_nonneg _ (by omega)]; omega
theorem hex_lo (b : UInt8) : bits .and .u8 (b.toNat : Int) 15 = ((b.toNat % 16 : Nat) : Int) := by
  have h2 : ∀ b : Fin 256, bits .and .u8 (b.val : Int) 15 = ((b.val % 16 : Nat) : Int) := by decide +kernel
  have := b.toNat_lt
  exact h2 ⟨b.toNat, by omega⟩
theorem hexL_snoc {b : List UInt8} {k : Nat} (h : k < b.length) : hexL (b.take (k + 1)) = hexL (b.take k) ++ [hexN (b[k].toNat / 16), hexN (b[k].toNat % 16)] := by
  rw [List.take_succ_eq_append_getElem h]; simp only [hexL, List.flatMap_append, List.flatMap_cons, List.flatMap_nil, List.append_nil]
def BytI (b : List UInt8) (n : Nat) (st : St) : Prop := ∃ k : Nat, n = b.length - k ∧ k ≤ b.length ∧
  ((k = 0 ∧ st = ⟨[(9, .one (.v (.int .i64 k))), (8, .one (.v (.int .i64 b.length))), (7, .one (.sl 1 (bC b))), (3, .one (.v (.slice none 0 0)))], []⟩) ∨
   (0 < k ∧ st = ⟨[(9, .one (.v (.int .i64 k))), (8, .one (.v (.int .i64 b.length))), (7, .one (.sl 1 (bC b))), (3, .one (.ms 0 (2 * k)))], [some ⟨5, 1, bC (hexL (b.take k))⟩]⟩))
theorem bytes_pure (s : ByteArray) (hs : s.size ≤ 70000) : Pure Tryd.prog 24 [.one (.v (.string s))] (.one (.v (.string ⟨(hexL s.data.toList).toArray⟩))) := by
  have hl := bC_len s.data.toList
  refine Fn.intro Tryd.func24 rfl Tryd.ntmps24 Tryd.results24 (by simp only [List.length_cons, List.length_nil]; decide) ?_
  repeat (first | (apply fw; focus ((with_reducible constructor) <;> rfl)) | (apply WpA.cd; focus constructor) | ((first | with_reducible refine WpA.go _ rfl fun Y y => ?_ | apply RunTo.id); simp only [zb, seval, w24, txtA, hl]; refine RunTo.fn y (by first | exact trivial | omega | (simp; done) | (simp; omega)) ?_; clear y Y))
  refine WpA.loop (BytI s.data.toList) s.data.toList.length ?_ ⟨0, rfl, Nat.zero_le _, .inl ⟨rfl, rfl⟩⟩ ?_
  · exact Le.sub (by simp [Sub, find])
  intro n' st hI
  obtain ⟨k, rfl, hk, hI⟩ := hI
  have hsl : s.data.toList.length = s.size := Array.length_toList
  have hw2 : IntKind.i64.wrap ((k : Int) + 1) = ((k + 1 : Nat) : Int) := by rw [wrap64 (by omega) (by omega)]; omega
  generalize s.data.toList = b at *
  by_cases hlt : k < b.length
  case neg =>
    obtain rfl : k = b.length := by omega
    have hd0 : decide ((b.length : Int) < (b.length : Int)) = false := by simp
    rcases hI with ⟨hk0, rfl⟩ | ⟨hk0, rfl⟩
    · have : b = [] := List.eq_nil_of_length_eq_zero (by omega)
      subst this
      repeat (first | (apply fw; focus ((with_reducible constructor) <;> rfl)) | (apply WpA.cd; focus constructor) | ((first | with_reducible refine WpA.go _ rfl fun Y y => ?_ | apply RunTo.id); simp only [zb, seval, w24, hd0, unB, unB_bC]; refine RunTo.fn y (by first | exact trivial | omega | (simp; done) | (simp; omega)) ?_; clear y Y))
      refine ⟨by simp, _, _, _, _, (by simp only [zb, seval, w24]; rfl), (by simp), (by simp only [zv]; rfl), (by simp), _, ALe.refl _, ?_⟩
      rfl
    · rw [List.take_length]
      repeat (first | (apply fw; focus ((with_reducible constructor) <;> rfl)) | (apply WpA.cd; focus constructor) | ((first | with_reducible refine WpA.go _ rfl fun Y y => ?_ | apply RunTo.id); simp only [zb, seval, w24, hd0, unB, unB_bC, hexL_len, bC_len]; refine RunTo.fn y (by first | exact trivial | omega | (simp; done) | (simp; omega)) ?_; clear y Y))
      refine ⟨by simp, _, _, _, _, (by simp only [zb, seval, w24]; rfl), (by simp), (by simp only [zv]; rfl), (by simp), _, ALe.refl _, ?_⟩
      rfl
  have hd1 : decide ((k : Int) < (b.length : Int)) = true := by simp; omega
  have hga := bC_get hlt
  have hb8 := b[k].toNat_lt
  have g1 := hex_hi b[k]
  have g2 := hex_lo b[k]
  have g3 := hexS_get (n := b[k].toNat / 16) (by omega)
  have g4 := hexS_get (n := b[k].toNat % 16) (by omega)
  have hsn := hexL_snoc hlt
  have hhl := hexL_len (b.take k)
  have hbl := bC_len (hexL (b.take k))
  have htk : (b.take k).length = k := by rw [List.length_take]; omega
  have hnx : bC (hexL (b.take (k + 1))) = bC (hexL (b.take k)) ++ [[.v (.int .u8 (hexN (b[k].toNat / 16)).toNat)], [.v (.int .u8 (hexN (b[k].toNat % 16)).toNat)]] := by rw [hsn, ← bC_append]; rfl
  rcases hI with ⟨hk0, rfl⟩ | ⟨hk0, rfl⟩
  · repeat (first | (apply fw; focus ((with_reducible constructor) <;> rfl)) | (apply WpA.cd; focus constructor) | ((first | with_reducible refine WpA.go _ rfl fun Y y => ?_ | apply RunTo.id); simp only [zb, seval, w24, hd1, hga]; refine RunTo.fn y (by first | exact trivial | omega | (simp; done) | (simp; omega)) ?_; clear y Y))
    (refine WpA.draw0 8 _ _ _ rfl rfl rfl (by kernel_rfl) (by kernel_rfl) (by kernel_rfl) fun K8 hK8 => ?_); simp only [zz] at hK8 ⊢; (refine Draw0.go fun K7 hK7 => ?_); simp only [zb, seval, w24, hga, hexS_eq, g1, g2, g3, g4, hw2]; (refine RunQ.mk (by first | exact trivial | omega | (simp; done) | (simp; omega)) (hK7 _ _ ?_)); clear hK7 K7; (try ((refine Draw0.nil (hK8 _ ?_)); clear hK8 K8; (refine WpL.go _ rfl fun Y y => ?_); repeat (first | (apply fw; focus ((with_reducible constructor) <;> rfl)) | (apply WpA.cd; focus constructor) | ((first | with_reducible refine WpA.go _ rfl fun Y y => ?_ | apply RunTo.id); simp only [zb, seval, w24, hga, hexS_eq, g1, g2, g3, g4, hw2]; refine RunTo.fn y (by first | exact trivial | omega | (simp; done) | (simp; omega)) ?_; clear y Y))))
    refine Draw0.step (OpS.frozen (n := 2) (wd := 1) (ty := 5) (rows := [[.v (.int .u8 (hexN (b[k].toNat / 16)).toNat)], [.v (.int .u8 (hexN (b[k].toNat % 16)).toNat)]]) (OpS.eff [(16, _), (19, _)] rfl (by rfl) ⟨rfl, rfl, trivial⟩ (by simp only [zb, seval, w24]; rfl) (by simp)) rfl (by simp [C.shut])) ?_
    simp only [putE]
    (refine Draw0.go fun K7 hK7 => ?_); simp only [zb, seval, w24, txtA, hw2]; (refine RunQ.mk (by first | exact trivial | omega | (simp; done) | (simp; omega)) (hK7 _ _ ?_)); clear hK7 K7; (try ((refine Draw0.nil (hK8 _ ?_)); clear hK8 K8; (refine WpL.go _ rfl fun Y y => ?_); repeat (first | (apply fw; focus ((with_reducible constructor) <;> rfl)) | (apply WpA.cd; focus constructor) | ((first | with_reducible refine WpA.go _ rfl fun Y y => ?_ | apply RunTo.id); simp only [zb, seval, w24, txtA, hw2]; refine RunTo.fn y (by first | exact trivial | omega | (simp; done) | (simp; omega)) ?_; clear y Y))))
    refine ⟨b.length - (k + 1), ⟨[(9, .one (.v (.int .i64 (k + 1 : Nat)))), (8, .one (.v (.int .i64 b.length))), (7, .one (.sl 1 (bC b))), (3, .one (.ms 0 2))], _⟩, by omega, Le.sub (by simp [Sub, find]), k + 1, rfl, hlt, .inr ⟨by omega, ?_⟩⟩
    rw [hnx]
    subst hk0
    simp [hexL, bC]
  · repeat (first | (apply fw; focus ((with_reducible constructor) <;> rfl)) | (apply WpA.cd; focus constructor) | ((first | with_reducible refine WpA.go _ rfl fun Y y => ?_ | apply RunTo.id); simp only [zb, seval, w24, hd1, hga]; refine RunTo.fn y (by first | exact trivial | omega | (simp; done) | (simp; omega)) ?_; clear y Y))
    (refine WpA.draw0 8 _ _ _ rfl rfl rfl (by kernel_rfl) (by kernel_rfl) (by kernel_rfl) fun K8 hK8 => ?_); simp only [zz] at hK8 ⊢; (refine Draw0.go fun K7 hK7 => ?_); simp only [zb, seval, w24, hga, hexS_eq, g1, g2, g3, g4, hw2, hhl, hbl, htk]; (refine RunQ.mk (by first | exact trivial | omega | (simp; done) | (simp; omega)) (hK7 _ _ ?_)); clear hK7 K7; (try ((refine Draw0.nil (hK8 _ ?_)); clear hK8 K8; (refine WpL.go _ rfl fun Y y => ?_); repeat (first | (apply fw; focus ((with_reducible constructor) <;> rfl)) | (apply WpA.cd; focus constructor) | ((first | with_reducible refine WpA.go _ rfl fun Y y => ?_ | apply RunTo.id); simp only [zb, seval, w24, hga, hexS_eq, g1, g2, g3, g4, hw2, hhl, hbl, htk]; refine RunTo.fn y (by first | exact trivial | omega | (simp; done) | (simp; omega)) ?_; clear y Y))))
    refine Draw0.step (OpS.frozen (n := 2) (wd := 1) (ty := 5) (rows := [[.v (.int .u8 (hexN (b[k].toNat / 16)).toNat)], [.v (.int .u8 (hexN (b[k].toNat % 16)).toNat)]]) (OpS.eff [(16, _), (19, _)] rfl (by rfl) ⟨rfl, rfl, trivial⟩ (by simp only [zb, seval, w24]; rfl) (by simp)) rfl (by simp [C.shut])) ?_
    simp only [putE]
    (refine Draw0.go fun K7 hK7 => ?_); simp only [zb, seval, w24, txtA, hw2, hhl, hbl, htk]; (refine RunQ.mk (by first | exact trivial | omega | (simp; done) | (simp; omega)) (hK7 _ _ ?_)); clear hK7 K7; (try ((refine Draw0.nil (hK8 _ ?_)); clear hK8 K8; (refine WpL.go _ rfl fun Y y => ?_); repeat (first | (apply fw; focus ((with_reducible constructor) <;> rfl)) | (apply WpA.cd; focus constructor) | ((first | with_reducible refine WpA.go _ rfl fun Y y => ?_ | apply RunTo.id); simp only [zb, seval, w24, txtA, hw2, hhl, hbl, htk]; refine RunTo.fn y (by first | exact trivial | omega | (simp; done) | (simp; omega)) ?_; clear y Y))))
    refine ⟨b.length - (k + 1), ⟨[(9, .one (.v (.int .i64 (k + 1 : Nat)))), (8, .one (.v (.int .i64 b.length))), (7, .one (.sl 1 (bC b))), (3, .one (.ms 0 (2 * k + 2)))], _⟩, by omega, Le.sub (by simp [Sub, find]), k + 1, rfl, hlt, .inr ⟨by omega, ?_⟩⟩
    rw [hnx]
    rfl
theorem bC_ccs {X : Cx} : ∀ l : List UInt8, Ccs X (bC l).flatten (l.map fun b => Value.int .u8 b.toNat)
  | [] => by simp [bC, Ccs]
  | z :: l => by
    have := bC_ccs (X := X) l
    simp only [bC, List.map_cons, List.flatten_cons, List.singleton_append, Ccs, Cc] at this ⊢
    exact ⟨_, _, rfl, ⟨rfl, rfl⟩, this⟩
section
variable {P : Program} {nt : Cf} {ty : TypeId} {st : St}
theorem OpA.appStr {t u et : TypeId} {by_ : Nat} {x y : Operand} {loc k : Nat} {zs : List Value} {ob : Ob} {s : ByteArray} (ht : eltI P t = some (et, 1)) (hb : bytI P t = some by_) (hz : zerI P et = some zs) (hstr : strI P u = true) (hx : rdA st.e x = some (.one (.ms loc k))) (hy : rdA st.e y = some (.one (.v (.string s))))
    (ho : st.s[loc]? = some (some ob)) (hk : k = ob.es.length) (hty : ob.ty = et) (hwd : ob.wd = 1) (hbd : (ob.es.length + s.size) * by_ ≤ 140737488355328) (hbd2 : ob.es.length + s.size ≤ 140737488355328) :
    OpA P nt (.call { callee := .builtin .append, args := #[x, y], argTypes := #[t, u] }) ty st (.one (.ms loc (ob.es.length + s.size))) ⟨st.e, st.s.set loc (some ⟨ob.ty, ob.wd, ob.es ++ bC s.data.toList⟩)⟩ := fun H w0 S0 m0 m a w hs => by
  obtain ⟨hu, i, hi, hisz⟩ := eltI_of ht
  have hbytes := bytI_of hb hu hi
  obtain ⟨i', z, hi', hzz, hzc, h1z, hzl⟩ := zerI_of hz
  rw [hi] at hi'; cases hi'
  have hus : P.underlying u = some .string := by
    unfold strI at hstr
    split at hstr
    · assumption
    · cases hstr
  have hcx := hs.rd hx
  have hcy := hs.rd hy
  simp only [Ca, Cc] at hcx hcy
  have eu := hcy.1
  obtain ⟨-, l, hl, -, hex⟩ := hcx
  have hob := hs.sto.ok loc ob l ho hl
  have hex := hex (by rw [hob.n]; exact hk)
  obtain ⟨a1, a2, a3, a4, a5, vs, rest, a6, a7, a8⟩ := hob
  have hvl : vs.length = ob.es.length := by rw [a8.len, flat_len a3, hwd, Nat.mul_one]
  have hlm : loc < m.length := (List.getElem?_eq_some_iff.1 hl).1
  have hbl : (bC s.data.toList).length = s.size := by rw [bC_len]; exact Array.length_toList
  have hall' : ∀ e ∈ ob.es ++ bC s.data.toList, e.length = ob.wd := fun e he => by
    rcases List.mem_append.1 he with h | h
    · exact a3 e h
    · rw [hwd]
      simp only [bC, List.mem_map] at h
      obtain ⟨b, -, rfl⟩ := h
      rfl
  subst hk
  have hnl : (strCells s).length = s.size := strCells_length s
  have hcn : Ccs ⟨vis H st.s m w, m⟩ (bC s.data.toList).flatten (strCells s) := bC_ccs _
  have exec : ∀ {v : Value} {w' : World}, (Builtin.append_ #[t, u] ty #[a.eval x, a.eval y]).run P w = .ok v w' → (execOp a.eval ⟨none, .call { callee := .builtin .append, args := #[x, y], argTypes := #[t, u] }, ty, "", #[], none⟩).run P w = .ok (.value v) w' := fun h => by
    simp only [execOp, resolve, invoke, builtin, Sem.run_bind, Sem.run_pure, Result.andThen_ok, List.map_toArray, List.map_cons, List.map_nil, h]
  by_cases hroom : ob.es.length + s.size ≤ l.cap
  · have hcap : (vs ++ rest).length = l.cap := by rw [a7, a2, hwd, Nat.mul_one]
    have hfit : ob.es.length + s.size ≤ (vs ++ rest).toArray.size := by rw [List.size_toArray, hcap]; exact hroom
    have hrun := run_append_room_string (P := P) (w := w) t u ty et i hu hus hi hisz l.b ob.es.length l.cap (vs ++ rest).toArray (by rw [← hty]; exact a6) s hroom hfit
    have hcells : ((vs ++ rest).toArray.toList.take ob.es.length ++ strCells s ++ (vs ++ rest).toArray.toList.drop (ob.es.length + s.size)) = (vs ++ strCells s) ++ rest.drop s.size := by
      rw [← hvl]
      simp only [List.toList_toArray, List.take_left', List.append_assoc]
      rw [List.drop_length_add_append]
    rw [hcells] at hrun
    have hok : ObOk ⟨vis H st.s m w, m⟩ (w.setRow l.b ((vs ++ strCells s) ++ rest.drop s.size).toArray) ⟨l.b, ob.es.length + s.size, l.cap, l.wd⟩ ⟨ob.ty, ob.wd, ob.es ++ bC s.data.toList⟩ := by
      refine ⟨by simp [hbl], a2, hall', by simpa [hbl] using hroom, a5, vs ++ strCells s, rest.drop s.size, setRow_heap _ _ _ _ _ _ a6, ?_, ?_⟩
      · have : s.size ≤ rest.length := by
          rw [List.size_toArray, List.length_append, ← hvl] at hfit; omega
        simp only [List.length_append, List.length_drop, hnl] at a7 ⊢
        omega
      · rw [List.flatten_append]; exact Ccs.append.2 ⟨vs, strCells s, rfl, a8, hcn⟩
    have hnew := hs.turn ho hl (w' := w.setRow l.b ((vs ++ strCells s) ++ rest.drop s.size).toArray) (l' := ⟨l.b, ob.es.length + s.size, l.cap, l.wd⟩) (by rw [a1]; exact Nat.le_add_right _ _) (fun e => by cases l; simp only at a1 e ⊢; rw [← e]) rfl rfl rfl (by simp [World.setRow]) (fun b hb hne => setRow_other _ _ _ _ hne) (.inl rfl) hok
    refine ⟨.slice (some ⟨l.b, 0, none⟩) (ob.es.length + s.size) l.cap, _, _, .inl (exec ?_), hnew.1, hnew.2, ?_⟩
    · rw [hex, eu]; exact hrun
    · simp only [Ca, Cc]
      refine ⟨⟨_, _, rfl⟩, ⟨l.b, ob.es.length + s.size, l.cap, l.wd⟩, by simp [List.getElem?_set, hlm], Nat.le_refl _, fun _ => rfl⟩
  · have holds : ∀ (j : Nat) (u : Value), vs[j]? = some u → w.cell? ((⟨l.b, 0, none⟩ : Addr).add j) = some u := fun j u hj => by
      rw [add_spot, cell_of a6]
      simp only [Nat.zero_add, List.getElem?_toArray]
      rw [List.getElem?_append_left (List.getElem?_eq_some_iff.1 hj).1]; exact hj
    have hrun := run_append_grow_string (P := P) (w := w) t u ty et i z hu hus hi hzz ⟨l.b, 0, none⟩ ob.es.length l.cap vs (by rw [hisz, Nat.mul_one]; exact hvl) holds s (by omega) (by omega) (growslice_fits (by omega) (by rw [hbytes]; exact hbd))
    generalize hgc : grownCap w (ob.es.length + s.size) l.cap et = gc at hrun
    have hge : ob.es.length + s.size ≤ gc := by rw [← hgc]; exact grownCap_ge _ _ _ _
    have hmx : gc ≤ maxLen := by rw [← hgc]; exact grownCap_le_maxLen _ _ _ _ (by simp only [maxLen]; omega)
    have hzs : z.cells.size = 1 := by rw [hzc, List.size_toArray, hzl, hisz]
    have harr : vs.toArray ++ (strCells s).toArray ++ Builtin.zeroCells z.cells (gc - (ob.es.length + s.size)) = ((vs ++ strCells s) ++ (Builtin.zeroCells z.cells (gc - (ob.es.length + s.size))).toList).toArray := by
      apply Array.toList_inj.1; simp
    rw [harr] at hrun
    have hok : ObOk ⟨vis H st.s m w, m⟩ (w.drew.alloc (.cells ((vs ++ strCells s) ++ (Builtin.zeroCells z.cells (gc - (ob.es.length + s.size))).toList).toArray et)) ⟨w.heap.size, ob.es.length + s.size, gc, l.wd⟩ ⟨ob.ty, ob.wd, ob.es ++ bC s.data.toList⟩ := by
      refine ⟨by simp [hbl], a2, hall', by simpa [hbl] using hge, hmx, vs ++ strCells s, (Builtin.zeroCells z.cells (gc - (ob.es.length + s.size))).toList, ?_, ?_, ?_⟩
      · rw [hty]; exact heap_new w.drew _
      · simp only [List.length_append, Array.length_toList, size_zeroCells, hzs, hvl, hnl, a2, hwd, Nat.mul_one]
        omega
      · rw [List.flatten_append]; exact Ccs.append.2 ⟨vs, strCells s, rfl, a8, hcn⟩
    have hnew := hs.turn ho hl (w' := w.drew.alloc (.cells ((vs ++ strCells s) ++ (Builtin.zeroCells z.cells (gc - (ob.es.length + s.size))).toList).toArray et)) (l' := ⟨w.heap.size, ob.es.length + s.size, gc, l.wd⟩) (by rw [a1]; exact Nat.le_add_right _ _) (fun e => by exfalso; simp only [a1] at e; omega) rfl rfl rfl (by show w.heap.size ≤ (w.heap.push _).size; simp) (fun b hb hne => by rw [Below.heap_alloc _ _ _ (by exact hb)]; rfl) (.inr (Nat.le_refl _)) hok
    refine ⟨.slice (some ⟨w.heap.size, 0, none⟩) (ob.es.length + s.size) gc, _, _, .inl (exec ?_), hnew.1, hnew.2, ?_⟩
    · rw [hex, eu]; exact hrun
    · simp only [Ca, Cc]
      refine ⟨⟨_, _, rfl⟩, ⟨w.heap.size, ob.es.length + s.size, gc, l.wd⟩, by simp [List.getElem?_set, hlm], Nat.le_refl _, fun _ => rfl⟩
end
/-- What was built last is frozen, and forgotten as an object. -/
theorem Le.frzLast {nt : Cf} {e : List (Nat × A)} {S : List (Option Ob)} {t : TypeId} {wd : Nat} {rows : List (List C)} (e' : List (Nat × A)) (hsh : ∀ r ∈ rows, ∀ c ∈ r, C.shut c = true) (hn : nt.n0 ≤ S.length) (he : SubZ (S ++ [some ⟨t, wd, rows⟩]) (fun i => i == S.length) e e') (hself : Sub e' e') (hbd : envBd S.length e' = true) (hob : ObBd S.length S) :
    Le nt ⟨e, S ++ [some ⟨t, wd, rows⟩]⟩ ⟨e', S⟩ := by
  have hj : (S ++ [some (⟨t, wd, rows⟩ : Ob)])[S.length]? = some (some ⟨t, wd, rows⟩) := by simp
  have hset : (S ++ [some (⟨t, wd, rows⟩ : Ob)]).set S.length none = S ++ [none] := by rw [List.set_append_right _ _ (Nat.le_refl _)]; simp
  exact Le.trans (Le.freeze (S' := S ++ [none]) (e' := e') (fun i => i == S.length) (by rw [← hset]; exact Frz.at hj hsh) he) (Le.drop S.length hn (by simp) hself hbd hob)
theorem FzC.last {S : List (Option Ob)} {t : TypeId} {wd n : Nat} {rows : List (List C)} (hn : n = rows.length) : FzC (S ++ [some ⟨t, wd, rows⟩]) (fun i => i == S.length) (.ms S.length n) (.sl wd rows) := FzC.ms (ty := t) (by simp) (by simp) hn
theorem wst_bd (bs : List UInt8) : ObBd (wst bs).length (wst bs) := by
  unfold wst
  split
  · simp [ObBd, wOb, C.bd]
  · simp [ObBd, wOb, C.bd, bC]
theorem wst_pos (bs : List UInt8) : 0 < (wst bs).length := by unfold wst; split <;> simp
theorem nC_shut (l : List Int) : ∀ r ∈ nC l, ∀ c ∈ r, C.shut c = true := by simp [nC, C.shut]
/-- A text, how long it is ahead of it. -/
def txtL (s : ByteArray) : List UInt8 := numN (zig s.size) ++ s.data.toList
theorem text_fn (s : ByteArray) (bs : List UInt8) (hs : s.size ≤ 70000) (hb : bs.length ≤ 900000) : Fn Tryd.prog 22 [.one (.ptr 0 1 0 0), .one (.v (.string s))] (wst bs) (fun r s' => r = .tup [] ∧ s' = wst (bs ++ txtL s)) := by
  refine Fn.introS Tryd.func22 rfl Tryd.ntmps22 Tryd.results22 (by simp only [List.length_cons, List.length_nil]; decide) ?_
  repeat (first | (apply fw; focus ((with_reducible constructor) <;> rfl)) | (apply WpA.cd; focus constructor) | ((first | with_reducible refine WpA.go _ rfl fun Y y => ?_ | apply RunTo.id); simp only [zb, seval, w22, txtA]; refine RunTo.fn y (by first | exact trivial | omega | (simp; done) | (simp; omega)) ?_; clear y Y))
  refine WpL.le (Le.frzLast [(7, .one (.sl 1 (nC [(s.size : Int)]))), (4, .one (.ptr 0 1 0 0)), (0, .one (.ptr 0 1 0 0)), (1, .one (.v (.string s)))] (nC_shut [(s.size : Int)]) (Nat.le_refl _) ⟨⟨_, rfl, FzC.last rfl⟩, ⟨_, rfl, .inl rfl⟩, ⟨_, rfl, .inl rfl⟩, ⟨_, rfl, .inl rfl⟩, trivial⟩ (by simp [Sub, find]) (by simp [envBd, A.bd, C.bd, wst_pos]) (wst_bd bs)) ?_
  have hI : I64 (s.size : Int) := by constructor <;> omega
  refine WpL.handAll rfl (guardA_sound (P := Tryd.prog) rfl) rfl rfl (by kernel_rfl) (ALes.refl _) (put_fn [(s.size : Int)] bs (by simp) (by simpa using hI) (by omega)) ?_
  rintro r s' ⟨rfl, rfl⟩
  have hput : putL [(s.size : Int)] = numN (zig s.size) := by simp [putL]
  have hln := numN_len10 hI
  have hB0 : bs ++ putL [(s.size : Int)] ≠ [] := by
    rw [hput]
    intro h
    have := (List.append_eq_nil_iff.1 h).2
    by_cases hx : 127 < zig (s.size : Int)
    · rw [numN_big hx] at this; cases this
    · rw [numN_small (by omega)] at this; cases this
  have hBl : (bs ++ putL [(s.size : Int)]).length ≤ 900010 := by rw [hput]; simp only [List.length_append]; omega
  have hres : bs ++ txtL s = (bs ++ putL [(s.size : Int)]) ++ s.data.toList := by rw [hput, txtL, List.append_assoc]
  rw [hres]
  generalize bs ++ putL [(s.size : Int)] = B at *
  have hbc := bC_len B
  have hsl : s.data.toList.length = s.size := Array.length_toList
  (refine WpL.go _ rfl fun Y y => ?_); repeat (first | (apply fw; focus ((with_reducible constructor) <;> rfl)) | (apply WpA.cd; focus constructor) | ((first | with_reducible refine WpA.go _ rfl fun Y y => ?_ | apply RunTo.id); simp only [zb, seval, w22, txtA, wst, hB0, wOb]; refine RunTo.fn y (by first | exact trivial | omega | (simp; done) | (simp; omega)) ?_; clear y Y))
  refine WpL.op rfl (guardA_sound (P := Tryd.prog) rfl) (OpA.appStr (ob := ⟨5, 1, bC B⟩) elt_42 byt_42 zer_5 (by kernel_rfl) rfl rfl rfl hbc.symm rfl rfl (by simp only [hbc]; omega) (by simp only [hbc]; omega)) ?_
  (refine WpL.go _ rfl fun Y y => ?_); repeat (first | (apply fw; focus ((with_reducible constructor) <;> rfl)) | (apply WpA.cd; focus constructor) | ((first | with_reducible refine WpA.go _ rfl fun Y y => ?_ | apply RunTo.id); simp only [zb, seval, w22, txtA, wOb, hbc]; refine RunTo.fn y (by first | exact trivial | omega | (simp; done) | (simp; omega)) ?_; clear y Y))
  refine ⟨by simp, _, _, _, Le.refl _ _, rfl, trivial, rfl, ?_⟩
  rw [wst, if_neg (by simp [hB0])]
  simp [wOb, ← bC_append, hsl]
section
variable {P : Program} {nt : Cf} {ty : TypeId} {st : St}
theorem OpA.appStrNil {t u et : TypeId} {by_ : Nat} {x y : Operand} {zs : List Value} {s : ByteArray} (ht : eltI P t = some (et, 1)) (hb : bytI P t = some by_) (hz : zerI P et = some zs) (hstr : strI P u = true) (hx : rdA st.e x = some (.one (.v (.slice none 0 0)))) (hy : rdA st.e y = some (.one (.v (.string s))))
    (hne : 0 < s.size) (hbd : s.size * by_ ≤ 140737488355328) (hbd2 : s.size ≤ 140737488355328) :
    OpA P nt (.call { callee := .builtin .append, args := #[x, y], argTypes := #[t, u] }) ty st (.one (.ms st.s.length s.size)) ⟨st.e, st.s ++ [some ⟨et, 1, bC s.data.toList⟩]⟩ := fun H w0 S0 m0 m a w hs => by
  obtain ⟨hu, i, hi, hisz⟩ := eltI_of ht
  have hbytes := bytI_of hb hu hi
  obtain ⟨i', z, hi', hzz, hzc, h1z, hzl⟩ := zerI_of hz
  rw [hi] at hi'; cases hi'
  have hus : P.underlying u = some .string := by
    unfold strI at hstr
    split at hstr
    · assumption
    · cases hstr
  have hcx := hs.rd hx
  have hcy := hs.rd hy
  simp only [Ca, Cc] at hcx hcy
  have hbl : (bC s.data.toList).length = s.size := by rw [bC_len]; exact Array.length_toList
  have hrun := run_append_nil_string (P := P) (w := w) t u ty et i z hu hus hi hzz s hne (by omega) (by rw [hbytes]; omega)
  generalize hgc : grownCap w s.size 0 et = gc at hrun
  have hge : s.size ≤ gc := by rw [← hgc]; exact grownCap_ge _ _ _ _
  have hmx : gc ≤ maxLen := by rw [← hgc]; exact grownCap_le_maxLen _ _ _ _ (by simp only [maxLen]; omega)
  have hzs : z.cells.size = 1 := by rw [hzc, List.size_toArray, hzl, hisz]
  have harr : s.data.map (fun b => Value.int .u8 b.toNat) ++ Builtin.zeroCells z.cells (gc - s.size) = (s.data.toList.map (fun b => Value.int .u8 (b.toNat : Int)) ++ (Builtin.zeroCells z.cells (gc - s.size)).toList).toArray := by
    apply Array.toList_inj.1; simp
  rw [harr] at hrun
  have hn := hs.new ⟨et, 1, bC s.data.toList⟩ gc (s.data.toList.map (fun b => Value.int .u8 (b.toNat : Int))) (Builtin.zeroCells z.cells (gc - s.size)).toList (fun e he => by simp only [bC, List.mem_map] at he; obtain ⟨b, -, rfl⟩ := he; rfl) (by rw [hbl]; exact hge) hmx (by
    simp only [List.length_append, Array.length_toList, size_zeroCells, hzs, List.length_map, Nat.mul_one]
    have : s.data.size = s.size := rfl
    omega) (bC_ccs _) (w' := w.drew.alloc (.cells (s.data.toList.map (fun b => Value.int .u8 (b.toNat : Int)) ++ (Builtin.zeroCells z.cells (gc - s.size)).toList).toArray et)) rfl rfl rfl rfl
  refine ⟨.slice (some ⟨w.heap.size, 0, none⟩) s.size gc, _, _, .inl ?_, hn.1, hn.2, ?_⟩
  · simp only [execOp, resolve, invoke, builtin, Sem.run_bind, Sem.run_pure, Result.andThen_ok, List.map_toArray, List.map_cons, List.map_nil, hcx.1, hcy.1, hrun]
  · simp only [Ca, Cc]
    refine ⟨⟨_, _, rfl⟩, ⟨w.heap.size, (bC s.data.toList).length, gc, 1⟩, ?_, by rw [hbl]; exact Nat.le_refl _, fun _ => rfl⟩
    rw [hs.sto.len, List.getElem?_append_right (Nat.le_refl _)]; simp
end
theorem hexS_sub (n : Nat) (h : n < 16) : hexS.extract n (n + 1) = ⟨#[hexN n]⟩ := by
  have : ∀ k : Fin 16, (hexS.extract k.val (k.val + 1)).data = #[hexN k.val] := by decide +kernel
  have := this ⟨n, h⟩
  cases he : hexS.extract n (n + 1) with
  | mk d => rw [he] at this; simp only at this; rw [this]
theorem rdigit' (n : Nat) (h : n < 16) : Pure Tryd.prog 35 [.one (.v (.int .u8 n))] (.one (.v (.string ⟨#[hexN n]⟩))) := by
  rw [← hexS_sub n h]; exact rdigit_pure n h
def RBytI (s : ByteArray) (b : List UInt8) (n : Nat) (st : St) : Prop := ∃ k : Nat, n = b.length - k ∧ k ≤ b.length ∧
  ((k = 0 ∧ st = ⟨[(4, .one (.v (.int .i64 k))), (3, .one (.v (.slice none 0 0))), (0, .one (.v (.string s)))], []⟩) ∨
   (0 < k ∧ st = ⟨[(4, .one (.v (.int .i64 k))), (3, .one (.ms 0 (2 * k))), (0, .one (.v (.string s)))], [some ⟨5, 1, bC (hexL (b.take k))⟩]⟩))
theorem rbytes_pure (s : ByteArray) (hs : s.size ≤ 70000) : Pure Tryd.prog 26 [.one (.v (.string s))] (.one (.v (.string ⟨(hexL s.data.toList).toArray⟩))) := by
  have hsl : s.data.toList.length = s.size := Array.length_toList
  have hget : ∀ k, s[k]? = s.data.toList[k]? := fun k => by
    show (if h : k < s.size then some s[k] else none) = _
    split
    · rename_i h
      rw [List.getElem?_eq_getElem (by rw [hsl]; exact h)]
      rfl
    · rename_i h
      rw [List.getElem?_eq_none (by omega)]
  generalize s.data.toList = b at *
  refine Fn.intro Tryd.func26 rfl Tryd.ntmps26 Tryd.results26 (by simp only [List.length_cons, List.length_nil]; decide) ?_
  repeat (first | (apply fw; focus ((with_reducible constructor) <;> rfl)) | (apply WpA.cd; focus constructor) | ((first | with_reducible refine WpA.go _ rfl fun Y y => ?_ | apply RunTo.id); simp only [zb, seval, w26, txtA]; refine RunTo.fn y (by first | exact trivial | omega | (simp; done) | (simp; omega)) ?_; clear y Y))
  refine WpA.loop (RBytI s b) b.length ?_ ⟨0, rfl, Nat.zero_le _, .inl ⟨rfl, rfl⟩⟩ ?_
  · exact Le.sub (by simp [Sub, find])
  intro n' st hI
  obtain ⟨k, rfl, hk, hI⟩ := hI
  have hw2 : IntKind.i64.wrap ((k : Int) + 1) = ((k + 1 : Nat) : Int) := by rw [wrap64 (by omega) (by omega)]; omega
  by_cases hlt : k < b.length
  case neg =>
    have hd0 : decide ((k : Int) < (s.size : Int)) = false := by simp; omega
    rcases hI with ⟨hk0, rfl⟩ | ⟨hk0, rfl⟩
    · have : b = [] := List.eq_nil_of_length_eq_zero (by omega)
      subst this
      repeat (first | (apply fw; focus ((with_reducible constructor) <;> rfl)) | (apply WpA.cd; focus constructor) | ((first | with_reducible refine WpA.go _ rfl fun Y y => ?_ | apply RunTo.id); simp only [zb, seval, w26, txtA, hd0, unB, unB_bC]; refine RunTo.fn y (by first | exact trivial | omega | (simp; done) | (simp; omega)) ?_; clear y Y))
      refine ⟨by simp, _, _, _, _, (by simp only [zb, seval, w26]; rfl), (by simp), (by simp only [zv]; rfl), (by simp), _, ALe.refl _, ?_⟩
      rfl
    · have hkl : k = b.length := by omega
      rw [hkl] at hd0 ⊢
      rw [List.take_length]
      repeat (first | (apply fw; focus ((with_reducible constructor) <;> rfl)) | (apply WpA.cd; focus constructor) | ((first | with_reducible refine WpA.go _ rfl fun Y y => ?_ | apply RunTo.id); simp only [zb, seval, w26, txtA, hd0, unB, unB_bC, hexL_len, bC_len]; refine RunTo.fn y (by first | exact trivial | omega | (simp; done) | (simp; omega)) ?_; clear y Y))
      refine ⟨by simp, _, _, _, _, (by simp only [zb, seval, w26]; rfl), (by simp), (by simp only [zv]; rfl), (by simp), _, ALe.refl _, ?_⟩
      rfl
  have hd1 : decide ((k : Int) < (s.size : Int)) = true := by simp; omega
  have hga : s[k]? = some b[k] := by rw [hget, List.getElem?_eq_getElem hlt]
  have hb8 := b[k].toNat_lt
  have g1 : IntKind.u8.wrap ((b[k].toNat : Int).tdiv 16) = ((b[k].toNat / 16 : Nat) : Int) := by
    rw [Int.tdiv_eq_ediv_of_nonneg (by omega)]; simp only [IntKind.wrap, IntKind.bits, IntKind.signed, Bool.false_and, Bool.false_eq_true, if_false]; omega
  have g2 : (b[k].toNat : Int).tmod 16 = ((b[k].toNat % 16 : Nat) : Int) := by rw [Int.tmod_eq_emod_of_nonneg (by omega)]; omega
  have hsn := hexL_snoc hlt
  have h1 : ∀ x : UInt8, (⟨#[x]⟩ : ByteArray).size = 1 := fun _ => rfl
  have hhl := hexL_len (b.take k)
  have hbl := bC_len (hexL (b.take k))
  have htk : (b.take k).length = k := by rw [List.length_take]; omega
  have hnx : bC (hexL (b.take (k + 1))) = bC (hexL (b.take k)) ++ [[.v (.int .u8 (hexN (b[k].toNat / 16)).toNat)], [.v (.int .u8 (hexN (b[k].toNat % 16)).toNat)]] := by rw [hsn, ← bC_append]; rfl
  rcases hI with ⟨hk0, rfl⟩ | ⟨hk0, rfl⟩
  · repeat (first | (apply fw; focus ((with_reducible constructor) <;> rfl)) | (apply WpA.cd; focus constructor) | ((first | with_reducible refine WpA.go _ rfl fun Y y => ?_ | apply RunTo.id); simp only [zb, seval, w26, txtA, hd1, hga, g1]; refine RunTo.fn y (by first | exact trivial | omega | (simp; done) | (simp; omega)) ?_; clear y Y))
    refine WpL.call rfl (guardA_sound (P := Tryd.prog) rfl) (CallA.shut rfl rfl (by kernel_rfl) (ALes.refl _) (by first | rfl | simp [shuts, A.shut, C.shut]) (rdigit' _ (by omega)) ?_)
    (refine WpL.go _ rfl fun Y y => ?_); repeat (first | (apply fw; focus ((with_reducible constructor) <;> rfl)) | (apply WpA.cd; focus constructor) | ((first | with_reducible refine WpA.go _ rfl fun Y y => ?_ | apply RunTo.id); simp only [zb, seval, w26, txtA]; refine RunTo.fn y (by first | exact trivial | omega | (simp; done) | (simp; omega)) ?_; clear y Y))
    refine WpL.op rfl (guardA_sound (P := Tryd.prog) rfl) (OpA.appStrNil (s := ⟨#[hexN (b[k].toNat / 16)]⟩) elt_42 byt_42 zer_5 (by kernel_rfl) rfl rfl (by show 0 < 1; omega) (by show 1 * _ ≤ _; omega) (by show 1 ≤ _; omega)) ?_
    (refine WpL.go _ rfl fun Y y => ?_); repeat (first | (apply fw; focus ((with_reducible constructor) <;> rfl)) | (apply WpA.cd; focus constructor) | ((first | with_reducible refine WpA.go _ rfl fun Y y => ?_ | apply RunTo.id); simp only [zb, seval, w26, txtA, hga, g2]; refine RunTo.fn y (by first | exact trivial | omega | (simp; done) | (simp; omega)) ?_; clear y Y))
    refine WpL.call rfl (guardA_sound (P := Tryd.prog) rfl) (CallA.shut rfl rfl (by kernel_rfl) (ALes.refl _) (by first | rfl | simp [shuts, A.shut, C.shut]) (rdigit' _ (by omega)) ?_)
    (refine WpL.go _ rfl fun Y y => ?_); repeat (first | (apply fw; focus ((with_reducible constructor) <;> rfl)) | (apply WpA.cd; focus constructor) | ((first | with_reducible refine WpA.go _ rfl fun Y y => ?_ | apply RunTo.id); simp only [zb, seval, w26, txtA]; refine RunTo.fn y (by first | exact trivial | omega | (simp; done) | (simp; omega)) ?_; clear y Y))
    refine WpL.op rfl (guardA_sound (P := Tryd.prog) rfl) (OpA.appStr (ob := ⟨5, 1, bC [hexN (b[k].toNat / 16)]⟩) (s := ⟨#[hexN (b[k].toNat % 16)]⟩) elt_42 byt_42 zer_5 (by kernel_rfl) rfl rfl rfl rfl rfl rfl (by show (1 + 1) * _ ≤ _; omega) (by show 1 + 1 ≤ _; omega)) ?_
    (refine WpL.go _ rfl fun Y y => ?_); repeat (first | (apply fw; focus ((with_reducible constructor) <;> rfl)) | (apply WpA.cd; focus constructor) | ((first | with_reducible refine WpA.go _ rfl fun Y y => ?_ | apply RunTo.id); simp only [zb, seval, w26, txtA, hw2]; refine RunTo.fn y (by first | exact trivial | omega | (simp; done) | (simp; omega)) ?_; clear y Y))
    refine ⟨b.length - (k + 1), _, by omega, Le.sub (e' := [(4, .one (.v (.int .i64 (k + 1 : Nat)))), (3, .one (.ms 0 2)), (0, .one (.v (.string s)))]) (by simp [Sub, find, h1, hbl, hhl, htk, bC_len] <;> omega), k + 1, rfl, hlt, .inr ⟨by omega, ?_⟩⟩
    rw [hnx]
    subst hk0
    simp [hexL, bC]
  · repeat (first | (apply fw; focus ((with_reducible constructor) <;> rfl)) | (apply WpA.cd; focus constructor) | ((first | with_reducible refine WpA.go _ rfl fun Y y => ?_ | apply RunTo.id); simp only [zb, seval, w26, txtA, hd1, hga, g1]; refine RunTo.fn y (by first | exact trivial | omega | (simp; done) | (simp; omega)) ?_; clear y Y))
    refine WpL.call rfl (guardA_sound (P := Tryd.prog) rfl) (CallA.shut rfl rfl (by kernel_rfl) (ALes.refl _) (by first | rfl | simp [shuts, A.shut, C.shut]) (rdigit' _ (by omega)) ?_)
    (refine WpL.go _ rfl fun Y y => ?_); repeat (first | (apply fw; focus ((with_reducible constructor) <;> rfl)) | (apply WpA.cd; focus constructor) | ((first | with_reducible refine WpA.go _ rfl fun Y y => ?_ | apply RunTo.id); simp only [zb, seval, w26, txtA]; refine RunTo.fn y (by first | exact trivial | omega | (simp; done) | (simp; omega)) ?_; clear y Y))
    refine WpL.op rfl (guardA_sound (P := Tryd.prog) rfl) (OpA.appStr (ob := ⟨5, 1, bC (hexL (b.take k))⟩) (s := ⟨#[hexN (b[k].toNat / 16)]⟩) elt_42 byt_42 zer_5 (by kernel_rfl) rfl rfl rfl (by simp only [hbl, hhl, htk]) rfl rfl (by simp only [h1, hbl, hhl, htk, bC_len, List.length_append, List.length_cons, List.length_nil]; omega) (by simp only [h1, hbl, hhl, htk, bC_len, List.length_append, List.length_cons, List.length_nil]; omega)) ?_
    (refine WpL.go _ rfl fun Y y => ?_); repeat (first | (apply fw; focus ((with_reducible constructor) <;> rfl)) | (apply WpA.cd; focus constructor) | ((first | with_reducible refine WpA.go _ rfl fun Y y => ?_ | apply RunTo.id); simp only [zb, seval, w26, txtA, hga, g2]; refine RunTo.fn y (by first | exact trivial | omega | (simp; done) | (simp; omega)) ?_; clear y Y))
    refine WpL.call rfl (guardA_sound (P := Tryd.prog) rfl) (CallA.shut rfl rfl (by kernel_rfl) (ALes.refl _) (by first | rfl | simp [shuts, A.shut, C.shut]) (rdigit' _ (by omega)) ?_)
    (refine WpL.go _ rfl fun Y y => ?_); repeat (first | (apply fw; focus ((with_reducible constructor) <;> rfl)) | (apply WpA.cd; focus constructor) | ((first | with_reducible refine WpA.go _ rfl fun Y y => ?_ | apply RunTo.id); simp only [zb, seval, w26, txtA]; refine RunTo.fn y (by first | exact trivial | omega | (simp; done) | (simp; omega)) ?_; clear y Y))
    refine WpL.op rfl (guardA_sound (P := Tryd.prog) rfl) (OpA.appStr (ob := ⟨5, 1, bC (hexL (b.take k)) ++ bC [hexN (b[k].toNat / 16)]⟩) (s := ⟨#[hexN (b[k].toNat % 16)]⟩) elt_42 byt_42 zer_5 (by kernel_rfl) rfl rfl rfl (by simp only [h1, hbl, hhl, htk, bC_len, List.length_append, List.length_cons, List.length_nil]) rfl rfl (by simp only [h1, hbl, hhl, htk, bC_len, List.length_append, List.length_cons, List.length_nil]; omega) (by simp only [h1, hbl, hhl, htk, bC_len, List.length_append, List.length_cons, List.length_nil]; omega)) ?_
    (refine WpL.go _ rfl fun Y y => ?_); repeat (first | (apply fw; focus ((with_reducible constructor) <;> rfl)) | (apply WpA.cd; focus constructor) | ((first | with_reducible refine WpA.go _ rfl fun Y y => ?_ | apply RunTo.id); simp only [zb, seval, w26, txtA, hw2]; refine RunTo.fn y (by first | exact trivial | omega | (simp; done) | (simp; omega)) ?_; clear y Y))
    refine ⟨b.length - (k + 1), _, by omega, Le.sub (e' := [(4, .one (.v (.int .i64 (k + 1 : Nat)))), (3, .one (.ms 0 (2 * (k + 1)))), (0, .one (.v (.string s)))]) (by simp [Sub, find, h1, hbl, hhl, htk, bC_len] <;> omega), k + 1, rfl, hlt, .inr ⟨by omega, ?_⟩⟩
    rw [hnx]
    simp [bC]
/-- A collection. -/
structure Co where
  s : Int
  g : Int
  t : Int
structure Jb where
  src : ByteArray
  inp : ByteArray
  lim : Int
  fu : Int
  fs : List Co
def Co.l (c : Co) : List Int := [c.s, c.g, c.t]
def fC (fs : List Co) : List (List C) := fs.map fun c => [.v (.int .i64 c.s), .v (.int .i64 c.g), .v (.int .i64 c.t)]
def Jb.cs (j : Jb) : List C := [.v (.string j.src), .v (.string j.inp), .v (.int .i64 j.lim), .v (.int .i64 j.fu), .sl 3 (fC j.fs)]
structure Jb.Ok (j : Jb) : Prop where
  src : j.src.size ≤ 70000
  inp : j.inp.size ≤ 70000
  lim : I64 j.lim
  fu : I64 j.fu
  n : j.fs.length ≤ 1200
  fs : ∀ c ∈ j.fs, ∀ n ∈ c.l, I64 n
theorem fC_len (fs : List Co) : (fC fs).length = fs.length := by simp [fC]
theorem fC_get {fs : List Co} {k : Nat} (h : k < fs.length) : (fC fs)[k]? = some [.v (.int .i64 fs[k].s), .v (.int .i64 fs[k].g), .v (.int .i64 fs[k].t)] := by simp [fC, h]
def jobOb (j : Jb) : Ob := ⟨24, 5, [j.cs]⟩
/-- The store of Encode: the job, the writer, what it has, and more. -/
def est (j : Jb) (bs : List UInt8) (T : List (Option Ob)) : List (Option Ob) := some (jobOb j) :: some (wOb (.ms 2 bs.length)) :: some ⟨5, 1, bC bs⟩ :: T
theorem est_bd (j : Jb) (bs : List UInt8) (T : List (Option Ob)) (hT : ObBd (est j bs T).length T) : ObBd (est j bs T).length (est j bs T) := by
  refine ⟨?_, ?_, ?_, hT⟩
  · simp [jobOb, Jb.cs, C.bd]
  · simp [wOb, C.bd, est]
  · simp [bC, C.bd]
def encN (fs : List Co) : List UInt8 := fs.flatMap fun c => putL c.l
/-- What Encode writes. -/
def encL (j : Jb) : List UInt8 := putL [j.lim, j.fu] ++ txtL j.inp ++ putL [(j.fs.length : Int)] ++ encN j.fs ++ txtL j.src
theorem putL_ne {l : List Int} (h : l ≠ []) (bs : List UInt8) : bs ++ putL l ≠ [] := by
  intro e
  cases l with
  | nil => exact h rfl
  | cons n l =>
    have := (List.append_eq_nil_iff.1 e).2
    simp only [putL, List.flatMap_cons, List.append_eq_nil_iff] at this
    by_cases hx : 127 < zig n
    · rw [numN_big hx] at this; cases this.1
    · rw [numN_small (by omega)] at this; cases this.1
theorem wst_ne {bs : List UInt8} (h : bs ≠ []) : wst bs = [some (wOb (.ms 1 bs.length)), some ⟨5, 1, bC bs⟩] := by rw [wst, if_neg h]
section
variable {nt : Cf} {ops : Array Oper} {Q : St → Prop} {rest : List Oper} {e : List (Nat × A)} {d : Option Tmp} {args : List Operand} {tys : Array TypeId} {ty : TypeId} {pos : String} {aft : Array Edge}
theorem handed_est (j : Jb) (bs : List UInt8) (T : List (Option Ob)) : Handed (est j bs T) [1, 2] [some (wOb (.ms 1 bs.length)), some ⟨5, 1, bC bs⟩] :=
  Handed.of (by decide) (by simp [est, Ob.ren, C.rens, C.ren, rn, wOb, bC_ren])
theorem WpL.putE {j : Jb} {bs : List UInt8} {T : List (Option Ob)} {l : List Int} (hd : fits nt d = true) (ha : rdAs e args = some [.one (.ptr 1 1 0 0), .one (.sl 1 (nC l))]) (hb0 : bs ≠ []) (hne : l ≠ []) (hl : l.length ≤ 10) (hr : ∀ n ∈ l, I64 n) (hb : bs.length ≤ 1000000)
    (h : WpL Tryd.prog nt ops Q rest (St.put ⟨e, est j (bs ++ putL l) T⟩ d (.tup []))) : WpL Tryd.prog nt ops Q (⟨d, .call { callee := .value (.func 21), args := args.toArray, argTypes := tys }, ty, pos, aft, none⟩ :: rest) ⟨e, est j bs T⟩ := by
  have hp := put_fn l bs hl hr hb
  rw [wst_ne hb0] at hp
  refine WpL.hand (s := [some (wOb (.ms 1 bs.length)), some ⟨5, 1, bC bs⟩]) (ρ := [1, 2]) (xs' := [.one (.ptr 0 1 0 0), .one (.sl 1 (nC l))]) hd wanted_none rfl ha (by kernel_rfl) (by simp [A.rens, A.ren, C.ren, rn]) (handed_est j bs T) hp ?_
  rintro r s' ⟨rfl, rfl⟩
  rw [wst_ne (putL_ne hne bs)]
  simpa [back, mix, putAll, est, Ob.ren, C.rens, C.ren, rn, wOb, bC_ren, A.ren, A.rens] using h
theorem WpL.putF {j : Jb} {l : List Int} (hd : fits nt d = true) (ha : rdAs e args = some [.one (.ptr 1 1 0 0), .one (.sl 1 (nC l))]) (hne : l ≠ []) (hl : l.length ≤ 10) (hr : ∀ n ∈ l, I64 n)
    (h : WpL Tryd.prog nt ops Q rest (St.put ⟨e, est j (putL l) []⟩ d (.tup []))) : WpL Tryd.prog nt ops Q (⟨d, .call { callee := .value (.func 21), args := args.toArray, argTypes := tys }, ty, pos, aft, none⟩ :: rest) ⟨e, [some (jobOb j), some (wOb (.v (.slice none 0 0)))]⟩ := by
  have hp := put_fn l [] hl hr (by simp)
  rw [show wst [] = [some (wOb (.v (.slice none 0 0)))] from rfl] at hp
  refine WpL.hand (s := [some (wOb (.v (.slice none 0 0)))]) (ρ := [1]) (xs' := [.one (.ptr 0 1 0 0), .one (.sl 1 (nC l))]) hd wanted_none rfl ha (by kernel_rfl) (by simp [A.rens, A.ren, C.ren, rn]) (Handed.of (by decide) (by simp [Ob.ren, C.rens, C.ren, rn, wOb])) hp ?_
  rintro r s' ⟨rfl, rfl⟩
  rw [wst_ne (putL_ne hne []), List.nil_append]
  simpa [back, mix, putAll, est, Ob.ren, C.rens, C.ren, rn, wOb, bC_ren, A.ren, A.rens] using h
theorem txtL_ne (s : ByteArray) (bs : List UInt8) : bs ++ txtL s ≠ [] := by
  have := putL_ne (l := [(s.size : Int)]) (by simp) bs
  intro e
  simp only [txtL, List.append_eq_nil_iff] at e
  refine this ?_
  simp [putL, e.1, e.2.1]
theorem WpL.textE {j : Jb} {bs : List UInt8} {T : List (Option Ob)} {s : ByteArray} (hd : fits nt d = true) (ha : rdAs e args = some [.one (.ptr 1 1 0 0), .one (.v (.string s))]) (hb0 : bs ≠ []) (hs : s.size ≤ 70000) (hb : bs.length ≤ 900000)
    (h : WpL Tryd.prog nt ops Q rest (St.put ⟨e, est j (bs ++ txtL s) T⟩ d (.tup []))) : WpL Tryd.prog nt ops Q (⟨d, .call { callee := .value (.func 22), args := args.toArray, argTypes := tys }, ty, pos, aft, none⟩ :: rest) ⟨e, est j bs T⟩ := by
  have hp := text_fn s bs hs hb
  rw [wst_ne hb0] at hp
  refine WpL.hand (s := [some (wOb (.ms 1 bs.length)), some ⟨5, 1, bC bs⟩]) (ρ := [1, 2]) (xs' := [.one (.ptr 0 1 0 0), .one (.v (.string s))]) hd wanted_none rfl ha (by kernel_rfl) (by simp [A.rens, A.ren, C.ren, rn]) (handed_est j bs T) hp ?_
  rintro r s' ⟨rfl, rfl⟩
  rw [wst_ne (txtL_ne s bs)]
  simpa [back, mix, putAll, est, Ob.ren, C.rens, C.ren, rn, wOb, bC_ren, A.ren, A.rens] using h
end
/-- What Encode answers. -/
def encA (j : Jb) : ByteArray × Int :=
  if 1000 < j.fs.length ∨ 65536 < j.src.size + j.inp.size then (⟨#[]⟩, 12) else if 65536 < (encL j).length then (⟨#[]⟩, 12) else (⟨(encL j).toArray⟩, 0)
theorem txtL_len (s : ByteArray) (h : s.size ≤ 70000) : (txtL s).length ≤ 70010 := by
  have := numN_len10 (n := (s.size : Int)) (by constructor <;> omega)
  have hsl : s.data.toList.length = s.size := Array.length_toList
  simp only [txtL, List.length_append]; omega
theorem encN_len : ∀ (fs : List Co), (∀ c ∈ fs, ∀ n ∈ c.l, I64 n) → (encN fs).length ≤ 30 * fs.length
  | [], _ => by simp [encN]
  | c :: fs, h => by
    have h1 := encN_len fs fun m hm => h m (by simp [hm])
    have h2 := putL_len c.l (h c (by simp))
    simp only [Co.l, List.length_cons, List.length_nil] at h2
    simp only [encN, List.flatMap_cons, List.length_append, List.length_cons, Co.l] at *
    omega
theorem encN_snoc {fs : List Co} {k : Nat} (h : k < fs.length) : encN (fs.take (k + 1)) = encN (fs.take k) ++ putL fs[k].l := by
  rw [List.take_succ_eq_append_getElem h]; simp only [encN, List.flatMap_append, List.flatMap_cons, List.flatMap_nil, List.append_nil]
theorem FzA.last {S : List (Option Ob)} {t : TypeId} {wd n k : Nat} {rows : List (List C)} (hk : k = S.length) (hn : n = rows.length) : FzA (S ++ [some ⟨t, wd, rows⟩]) (fun i => i == S.length) (.one (.ms k n)) (.one (.sl wd rows)) := by
  subst hk; exact FzC.last hn
def encP (j : Jb) : List UInt8 := putL [j.lim, j.fu] ++ (txtL j.inp ++ putL [(j.fs.length : Int)])
def EncI (j : Jb) (n : Nat) (st : St) : Prop := ∃ k : Nat, n = j.fs.length - k ∧ k ≤ j.fs.length ∧
  st = ⟨[(43, .one (.v (.int .i64 k))), (42, .one (.v (.int .i64 j.fs.length))), (41, .one (.sl 3 (fC j.fs))), (4, .one (.ptr 1 1 0 0)), (1, .one (.ptr 0 1 0 0))], est j (encP j ++ encN (j.fs.take k)) []⟩
theorem encode_pure (j : Jb) (hj : j.Ok) : Pure Tryd.prog 11 [.agg j.cs] (.tup [.one (.v (.string (encA j).1)), .one (.v (.int .i64 (encA j).2))]) := by
  obtain ⟨h1, h2, h3, h4, h5, h6⟩ := hj
  have hfl := fC_len j.fs
  have hwa : IntKind.i64.wrap ((j.src.size : Int) + (j.inp.size : Int)) = (j.src.size : Int) + (j.inp.size : Int) := wrap64 (by omega) (by omega)
  refine Fn.intro Tryd.func11 rfl Tryd.ntmps11 Tryd.results11 (by simp only [List.length_cons, List.length_nil]; decide) ?_
  by_cases hn : 1000 < j.fs.length
  · have hd1 : decide ((1000 : Int) < (j.fs.length : Int)) = true := by simp; omega
    have hA : encA j = (⟨#[]⟩, 12) := by unfold encA; rw [if_pos (.inl hn)]
    rw [hA]
    repeat (first | (apply fw; focus ((with_reducible constructor) <;> rfl)) | (apply WpA.cd; focus constructor) | ((first | with_reducible refine WpA.go _ rfl fun Y y => ?_ | apply RunTo.id); simp only [zb, seval, w11, txtA, Jb.cs, hfl, hd1]; refine RunTo.fn y (by first | exact trivial | omega | (simp; done) | (simp; omega)) ?_; clear y Y))
    refine ⟨by simp, _, _, _, _, (by simp only [zb, seval, w11]; rfl), (by simp), (by simp only [zv]; rfl), (by simp), _, ALe.refl _, ?_⟩
    rfl
  have hd1 : decide ((1000 : Int) < (j.fs.length : Int)) = false := by simp; omega
  by_cases hb : 65536 < j.src.size + j.inp.size
  · have hd2 : decide ((65536 : Int) < (j.src.size : Int) + (j.inp.size : Int)) = true := by simp; omega
    have hA : encA j = (⟨#[]⟩, 12) := by unfold encA; rw [if_pos (.inr hb)]
    rw [hA]
    repeat (first | (apply fw; focus ((with_reducible constructor) <;> rfl)) | (apply WpA.cd; focus constructor) | ((first | with_reducible refine WpA.go _ rfl fun Y y => ?_ | apply RunTo.id); simp only [zb, seval, w11, txtA, Jb.cs, hfl, hd1, hwa, hd2]; refine RunTo.fn y (by first | exact trivial | omega | (simp; done) | (simp; omega)) ?_; clear y Y))
    refine ⟨by simp, _, _, _, _, (by simp only [zb, seval, w11]; rfl), (by simp), (by simp only [zv]; rfl), (by simp), _, ALe.refl _, ?_⟩
    rfl
  have hd2 : decide ((65536 : Int) < (j.src.size : Int) + (j.inp.size : Int)) = false := by simp; omega
  repeat (first | (apply fw; focus ((with_reducible constructor) <;> rfl)) | (apply WpA.cd; focus constructor) | ((first | with_reducible refine WpA.go _ rfl fun Y y => ?_ | apply RunTo.id); simp only [zb, seval, w11, txtA, Jb.cs, hfl, hd1, hwa, hd2]; refine RunTo.fn y (by first | exact trivial | omega | (simp; done) | (simp; omega)) ?_; clear y Y))
  have hp0 := putL_len [j.lim, j.fu] (by simp [h3, h4])
  have hp1 := txtL_len j.inp h2
  have hI : I64 (j.fs.length : Int) := by constructor <;> omega
  have hp2 := putL_len [(j.fs.length : Int)] (by simp [hI])
  simp only [List.length_cons, List.length_nil] at hp0 hp2
  refine WpL.le (Le.frzLast (S := [some (jobOb j), some (wOb (.v (.slice none 0 0)))]) (t := 3) [(28, .one (.sl 1 (nC [j.lim, j.fu]))), (23, .one (.ptr 1 1 0 0)), (4, .one (.ptr 1 1 0 0)), (1, .one (.ptr 0 1 0 0))] (nC_shut [j.lim, j.fu]) (Nat.zero_le _) ⟨⟨_, rfl, FzA.last rfl rfl⟩, ⟨_, rfl, .inl rfl⟩, ⟨_, rfl, .inl rfl⟩, ⟨_, rfl, .inl rfl⟩, trivial⟩ (by simp [Sub, find]) (by simp [envBd, A.bd, C.bd]) (by simp [ObBd, jobOb, Jb.cs, wOb, C.bd])) ?_
  refine WpL.putF rfl rfl (by simp) (by simp) (by simp [h3, h4]) ?_
  (refine WpL.go _ rfl fun Y y => ?_); repeat (first | (apply fw; focus ((with_reducible constructor) <;> rfl)) | (apply WpA.cd; focus constructor) | ((first | with_reducible refine WpA.go _ rfl fun Y y => ?_ | apply RunTo.id); simp only [zb, seval, w11, txtA, est, jobOb, Jb.cs]; refine RunTo.fn y (by first | exact trivial | omega | (simp; done) | (simp; omega)) ?_; clear y Y))
  refine WpL.textE (j := j) (bs := putL [j.lim, j.fu]) (T := []) (s := j.inp) rfl rfl (by simpa using putL_ne (l := [j.lim, j.fu]) (by simp) []) h2 (by omega) ?_
  (refine WpL.go _ rfl fun Y y => ?_); repeat (first | (apply fw; focus ((with_reducible constructor) <;> rfl)) | (apply WpA.cd; focus constructor) | ((first | with_reducible refine WpA.go _ rfl fun Y y => ?_ | apply RunTo.id); simp only [zb, seval, w11, txtA, est, jobOb, Jb.cs, hfl]; refine RunTo.fn y (by first | exact trivial | omega | (simp; done) | (simp; omega)) ?_; clear y Y))
  refine WpL.le (Le.frzLast (S := est j (putL [j.lim, j.fu] ++ txtL j.inp) []) (t := 3) [(38, .one (.sl 1 (nC [(j.fs.length : Int)]))), (34, .one (.ptr 1 1 0 0)), (4, .one (.ptr 1 1 0 0)), (1, .one (.ptr 0 1 0 0))] (nC_shut [(j.fs.length : Int)]) (Nat.zero_le _) ⟨⟨_, rfl, FzA.last rfl rfl⟩, ⟨_, rfl, .inl rfl⟩, ⟨_, rfl, .inl rfl⟩, ⟨_, rfl, .inl rfl⟩, trivial⟩ (by simp [Sub, find]) (by simp [envBd, A.bd, C.bd, est]) (est_bd _ _ _ trivial)) ?_
  refine WpL.putE rfl rfl (txtL_ne _ _) (by simp) (by simp) (by simp [hI]) (by simp only [List.length_append]; omega) ?_
  (refine WpL.go _ rfl fun Y y => ?_); repeat (first | (apply fw; focus ((with_reducible constructor) <;> rfl)) | (apply WpA.cd; focus constructor) | ((first | with_reducible refine WpA.go _ rfl fun Y y => ?_ | apply RunTo.id); simp only [zb, seval, w11, txtA, est, jobOb, Jb.cs, hfl]; refine RunTo.fn y (by first | exact trivial | omega | (simp; done) | (simp; omega)) ?_; clear y Y))
  have hpe : encP j ++ encN (j.fs.take 0) = putL [j.lim, j.fu] ++ (txtL j.inp ++ putL [(j.fs.length : Int)]) := by simp [encP, encN]
  have hPn : encP j ≠ [] := by
    have := putL_ne (l := [(j.fs.length : Int)]) (by simp) (putL [j.lim, j.fu] ++ txtL j.inp)
    rw [List.append_assoc] at this; exact this
  have hPl : (encP j).length ≤ 70040 := by unfold encP; simp only [List.length_append]; omega
  have hNl : ∀ k, (encN (j.fs.take k)).length ≤ 36000 := fun k => by
    have := encN_len (j.fs.take k) fun c hc => h6 c (List.mem_of_mem_take hc)
    rw [List.length_take] at this; omega
  refine WpA.loop (EncI j) j.fs.length ?_ ⟨0, rfl, Nat.zero_le _, rfl⟩ ?_
  · rw [hpe]; exact Le.sub (by simp [Sub, find])
  intro n' st hI'
  obtain ⟨k, rfl, hk, rfl⟩ := hI'
  have hw2 : IntKind.i64.wrap ((k : Int) + 1) = ((k + 1 : Nat) : Int) := by rw [wrap64 (by omega) (by omega)]; omega
  have hNk := hNl k
  have hne : encP j ++ encN (j.fs.take k) ≠ [] := fun e => hPn (List.append_eq_nil_iff.1 e).1
  by_cases hlt : k < j.fs.length
  · have hd3 : decide ((k : Int) < (j.fs.length : Int)) = true := by simp; omega
    have hga := fC_get hlt
    have hin := h6 j.fs[k] (by simp)
    have hsn := encN_snoc hlt
    simp only [Co.l] at hin hsn
    repeat (first | (apply fw; focus ((with_reducible constructor) <;> rfl)) | (apply WpA.cd; focus constructor) | ((first | with_reducible refine WpA.go _ rfl fun Y y => ?_ | apply RunTo.id); simp only [zb, seval, w11, txtA, hd3, hga, est]; refine RunTo.fn y (by first | exact trivial | omega | (simp; done) | (simp; omega)) ?_; clear y Y))
    refine WpL.le (Le.frzLast (S := est j (encP j ++ encN (j.fs.take k)) [some ⟨48, 3, [[.v (.int .i64 j.fs[k].s), .v (.int .i64 j.fs[k].g), .v (.int .i64 j.fs[k].t)]]⟩]) (t := 3) [(54, .one (.sl 1 (nC [j.fs[k].s, j.fs[k].g, j.fs[k].t]))), (47, .one (.ptr 1 1 0 0)), (43, .one (.v (.int .i64 k))), (42, .one (.v (.int .i64 j.fs.length))), (41, .one (.sl 3 (fC j.fs))), (4, .one (.ptr 1 1 0 0)), (1, .one (.ptr 0 1 0 0))] (nC_shut [j.fs[k].s, j.fs[k].g, j.fs[k].t]) (Nat.zero_le _) ⟨⟨_, rfl, FzA.last rfl rfl⟩, ⟨_, rfl, .inl rfl⟩, ⟨_, rfl, .inl rfl⟩, ⟨_, rfl, .inl rfl⟩, ⟨_, rfl, .inl rfl⟩, ⟨_, rfl, .inl rfl⟩, ⟨_, rfl, .inl rfl⟩, trivial⟩ (by simp [Sub, find]) (by simp [envBd, A.bd, C.bd, est]) (est_bd _ _ _ (by simp [ObBd, C.bd]))) ?_
    refine WpL.putE rfl rfl hne (by simp) (by simp) hin (by simp only [List.length_append]; omega) ?_
    rw [List.append_assoc, ← hsn]
    (refine WpL.go _ rfl fun Y y => ?_); repeat (first | (apply fw; focus ((with_reducible constructor) <;> rfl)) | (apply WpA.cd; focus constructor) | ((first | with_reducible refine WpA.go _ rfl fun Y y => ?_ | apply RunTo.id); simp only [zb, seval, w11, txtA, hw2]; refine RunTo.fn y (by first | exact trivial | omega | (simp; done) | (simp; omega)) ?_; clear y Y))
    refine ⟨j.fs.length - (k + 1), ⟨[(43, .one (.v (.int .i64 (k + 1 : Nat)))), (42, .one (.v (.int .i64 j.fs.length))), (41, .one (.sl 3 (fC j.fs))), (4, .one (.ptr 1 1 0 0)), (1, .one (.ptr 0 1 0 0))], est j (encP j ++ encN (j.fs.take (k + 1))) []⟩, by omega, Le.drop 3 (Nat.zero_le _) rfl (by simp [Sub, find]) (by simp [envBd, A.bd, C.bd]) (est_bd j (encP j ++ encN (j.fs.take (k + 1))) [] trivial), k + 1, rfl, hlt, rfl⟩
  have hd3 : decide ((k : Int) < (j.fs.length : Int)) = false := by simp; omega
  obtain rfl : k = j.fs.length := by omega
  rw [List.take_length] at *
  have hpL := txtL_len j.src h1
  have hL : encL j = (encP j ++ encN j.fs) ++ txtL j.src := by simp [encL, encP]
  have hbc := bC_len (encL j)
  repeat (first | (apply fw; focus ((with_reducible constructor) <;> rfl)) | (apply WpA.cd; focus constructor) | ((first | with_reducible refine WpA.go _ rfl fun Y y => ?_ | apply RunTo.id); simp only [zb, seval, w11, txtA, hd3, est, jobOb, Jb.cs]; refine RunTo.fn y (by first | exact trivial | omega | (simp; done) | (simp; omega)) ?_; clear y Y))
  refine WpL.textE (j := j) (bs := encP j ++ encN j.fs) (T := []) (s := j.src) rfl rfl hne h1 (by simp only [List.length_append]; omega) ?_
  rw [← hL]
  by_cases hbig : 65536 < (encL j).length
  · have hd4 : decide ((65536 : Int) < ((encL j).length : Int)) = true := by simp; omega
    have hA : encA j = (⟨#[]⟩, 12) := by unfold encA; rw [if_neg (by omega), if_pos hbig]
    rw [hA]
    (refine WpL.go _ rfl fun Y y => ?_); repeat (first | (apply fw; focus ((with_reducible constructor) <;> rfl)) | (apply WpA.cd; focus constructor) | ((first | with_reducible refine WpA.go _ rfl fun Y y => ?_ | apply RunTo.id); simp only [zb, seval, w11, txtA, est, wOb, hbc, hd4]; refine RunTo.fn y (by first | exact trivial | omega | (simp; done) | (simp; omega)) ?_; clear y Y))
    refine ⟨by simp, _, _, _, _, (by simp only [zb, seval, w11]; rfl), (by simp), (by simp only [zv]; rfl), (by simp), _, ALe.refl _, ?_⟩
    rfl
  · have hd4 : decide ((65536 : Int) < ((encL j).length : Int)) = false := by simp; omega
    have hA : encA j = (⟨(encL j).toArray⟩, 0) := by unfold encA; rw [if_neg (by omega), if_neg hbig]
    rw [hA]
    (refine WpL.go _ rfl fun Y y => ?_); repeat (first | (apply fw; focus ((with_reducible constructor) <;> rfl)) | (apply WpA.cd; focus constructor) | ((first | with_reducible refine WpA.go _ rfl fun Y y => ?_ | apply RunTo.id); simp only [zb, seval, w11, txtA, est, wOb, hbc, hd4, unB, unB_bC]; refine RunTo.fn y (by first | exact trivial | omega | (simp; done) | (simp; omega)) ?_; clear y Y))
    refine ⟨by simp, _, _, _, _, (by simp only [zb, seval, w11]; rfl), (by simp), (by simp only [zv]; rfl), (by simp), _, ALe.refl _, ?_⟩
    rfl
def job81 : Jb := ⟨noB, noB, 8, 1, []⟩
theorem numN0 : numN 0 = [0] := numN_small (by omega)
theorem enc81 : encL job81 = [16, 2, 0, 0, 0] := by
  have h0 : numN 0 = [0] := numN_small (by omega)
  have h16 : numN 16 = [16] := numN_small (by omega)
  have h2 : numN 2 = [2] := numN_small (by omega)
  have e0 : zig 0 = 0 := by decide
  have e1 : zig 1 = 2 := by decide
  have e8 : zig 8 = 16 := by decide
  have es : ((noB.size : Nat) : Int) = 0 := by decide
  have ed : noB.data.toList = [] := by decide
  simp only [encL, job81, putL, txtL, encN, List.flatMap_cons, List.flatMap_nil, List.append_nil, List.length_nil, es, ed]
  simp [e0, e1, e8, h0, h16, h2]
theorem encA81 : encA job81 = (⟨#[16, 2, 0, 0, 0]⟩, 0) := by
  unfold encA
  rw [if_neg (by decide), enc81, if_neg (by decide)]
theorem job81_ok : job81.Ok := ⟨by decide, by decide, by constructor <;> decide, by constructor <;> decide, by decide, by intro c hc; cases hc⟩
theorem encode81 : Pure Tryd.prog 11 [.agg [.v (.string noB), .v (.string noB), .v (.int .i64 8), .v (.int .i64 1), .sl 3 []]] (.tup [.one (.v (.string ⟨#[16, 2, 0, 0, 0]⟩)), .one (.v (.int .i64 0))]) := by
  have := encode_pure job81 job81_ok
  rw [encA81] at this
  exact this
theorem ales_nil (a b c d : C) : ALes [.agg [a, b, c, d, .v (.slice none 0 0)]] [.agg [a, b, c, d, .sl 3 []]] := fun X us h => by
  simp only [Cas, Ca, Ccs, Cc] at h ⊢
  obtain ⟨u, r, rfl, ⟨us, rfl, u1, r1, rfl, h1, u2, r2, rfl, h2, u3, r3, rfl, h3, u4, r4, rfl, h4, u5, r5, rfl, h5, rfl⟩, rfl⟩ := h
  refine ⟨_, _, rfl, ⟨_, rfl, u1, _, rfl, h1, u2, _, rfl, h2, u3, _, rfl, h3, u4, _, rfl, h4, u5, _, rfl, ⟨by simp, .inl ⟨trivial, .inl h5.1⟩⟩, rfl⟩, rfl⟩
theorem awake_pure : Pure Tryd.prog 10 [] (.one (.v (.bool true))) := by
  have q1 : (ex1d.toList == (⟨#[40, 99, 97, 114, 32, 50, 41, 10]⟩ : ByteArray).toList) = true := by kernel_rfl
  have q2 : ((⟨#[16, 2, 0, 0, 0]⟩ : ByteArray).toList == (⟨#[16, 2, 0, 0, 0]⟩ : ByteArray).toList) = true := by kernel_rfl
  refine Fn.intro Tryd.func10 rfl Tryd.ntmps10 Tryd.results10 (by simp only [List.length_cons, List.length_nil]; decide) ?_
  repeat (first | (apply fw; focus ((with_reducible constructor) <;> rfl)) | (apply WpA.cd; focus constructor) | ((first | with_reducible refine WpA.go _ rfl fun Y y => ?_ | apply RunTo.id); simp only [zb, seval, w10, txtA]; refine RunTo.fn y (by first | exact trivial | omega | (simp; done) | (simp; omega)) ?_; clear y Y))
  refine WpL.call rfl (guardA_sound (P := Tryd.prog) rfl) (CallA.shut rfl rfl (by kernel_rfl) (ALes.refl _) (by first | rfl | simp [shuts, A.shut, C.shut]) (parse_ex1) ?_)
  (refine WpL.go _ rfl fun Y y => ?_); repeat (first | (apply fw; focus ((with_reducible constructor) <;> rfl)) | (apply WpA.cd; focus constructor) | ((first | with_reducible refine WpA.go _ rfl fun Y y => ?_ | apply RunTo.id); simp only [zb, seval, w10, txtA, nilS]; refine RunTo.fn y (by first | exact trivial | omega | (simp; done) | (simp; omega)) ?_; clear y Y))
  refine WpL.call rfl (guardA_sound (P := Tryd.prog) rfl) (CallA.shut rfl rfl (by kernel_rfl) (ALes.refl _) (by first | rfl | simp [shuts, A.shut, C.shut]) (parse_ex2) ?_)
  (refine WpL.go _ rfl fun Y y => ?_); repeat (first | (apply fw; focus ((with_reducible constructor) <;> rfl)) | (apply WpA.cd; focus constructor) | ((first | with_reducible refine WpA.go _ rfl fun Y y => ?_ | apply RunTo.id); simp only [zb, seval, w10, txtA, nilS]; refine RunTo.fn y (by first | exact trivial | omega | (simp; done) | (simp; omega)) ?_; clear y Y))
  refine WpL.call rfl (guardA_sound (P := Tryd.prog) rfl) (CallA.shut rfl rfl (by kernel_rfl) (ales_nil _ _ _ _) rfl encode81 ?_)
  (refine WpL.go _ rfl fun Y y => ?_); repeat (first | (apply fw; focus ((with_reducible constructor) <;> rfl)) | (apply WpA.cd; focus constructor) | ((first | with_reducible refine WpA.go _ rfl fun Y y => ?_ | apply RunTo.id); simp only [zb, seval, w10, txtA, q1, q2]; refine RunTo.fn y (by first | exact trivial | omega | (simp; done) | (simp; omega)) ?_; clear y Y))
  refine ⟨by simp, _, _, _, _, (by simp only [zb, seval, w10]; rfl), (by simp), (by simp only [zv]; rfl), (by simp), _, ALe.refl _, ?_⟩
  rfl
/-- Slots that may be told more weakly. -/
def SubL (e : List (Nat × A)) : List (Nat × A) → Prop
  | [] => True
  | (i, x) :: r => (∃ y, find e i = some y ∧ ALe y x) ∧ SubL e r
theorem SubL.find {e : List (Nat × A)} : ∀ {e' : List (Nat × A)}, SubL e e' → ∀ {i : Nat} {x : A}, Proofs.YtdcmihhcpgkgiaaDoor.find e' i = some x → ∃ y, Proofs.YtdcmihhcpgkgiaaDoor.find e i = some y ∧ ALe y x
  | [], _, i, x, h => by simp [Proofs.YtdcmihhcpgkgiaaDoor.find] at h
  | (j, y) :: r, hs, i, x, h => by
    simp only [Proofs.YtdcmihhcpgkgiaaDoor.find] at h
    split at h
    · rename_i hi; subst hi; cases h; exact hs.1
    · exact SubL.find hs.2 h
theorem Le.weak {nt : Cf} {e e' : List (Nat × A)} {s : List (Option Ob)} (he : SubL e e') : Le nt ⟨e, s⟩ ⟨e', s⟩ := fun H w0 S0 m0 m a w h => by
  refine ⟨m, fun i x hx => ?_, h.nts, h.df, h.sto, h.fr, h.own, h.up, h.n0⟩
  obtain ⟨y, h1, h2⟩ := he.find hx
  obtain ⟨u, hu, hc⟩ := h.env i y h1
  exact ⟨u, hu, h2 _ _ hc⟩
theorem bC_shut (l : List UInt8) : ∀ r ∈ bC l, ∀ c ∈ r, C.shut c = true := fun r hr c hc => by
  simp only [bC, List.mem_map] at hr
  obtain ⟨b, -, rfl⟩ := hr
  simp only [List.mem_singleton] at hc
  subst hc
  rfl
theorem decDigits_step {n : Nat} (h : n ≠ 0) (l : List UInt8) : decDigits n ++ l = (if n / 10 = 0 then [] else decDigits (n / 10)) ++ (UInt8.ofNat (48 + n % 10) :: l) := by
  rw [decDigits]
  split
  · rename_i h1
    rw [if_pos (by omega), Nat.mod_eq_of_lt h1]; rfl
  · rw [if_neg (by omega)]; simp
def NumI (z : Int) (n : Nat) (st : St) : Prop := ∃ (m : Int) (l : List UInt8), n = m.natAbs ∧ I64 m ∧ decDigits z.natAbs = (if m.natAbs = 0 then [] else decDigits m.natAbs) ++ l ∧
  st = ⟨[(4, .one (.v (.int .i64 m))), (3, .one (.sl 1 (bC l))), (0, .one (.v (.int .i64 z)))], []⟩
theorem tmod10 (m : Int) : m.tmod 10 = if m < 0 then -((m.natAbs % 10 : Nat) : Int) else ((m.natAbs % 10 : Nat) : Int) := by
  split
  · rename_i h
    obtain ⟨k, rfl⟩ : ∃ k : Nat, m = -(k : Int) := ⟨m.natAbs, by omega⟩
    rw [Int.neg_tmod, Int.tmod_eq_emod_of_nonneg (by omega)]
    omega
  · rename_i h
    rw [Int.tmod_eq_emod_of_nonneg (by omega)]; omega
theorem tdiv10 (m : Int) : (m.tdiv 10).natAbs = m.natAbs / 10 := by
  rcases Int.le_total 0 m with h | h
  · rw [Int.tdiv_eq_ediv_of_nonneg h]; omega
  · obtain ⟨k, rfl⟩ : ∃ k : Nat, m = -(k : Int) := ⟨m.natAbs, by omega⟩
    rw [Int.neg_tdiv, Int.tdiv_eq_ediv_of_nonneg (by omega)]; omega
theorem number_pure (z : Int) (hz : I64 z) : Pure Tryd.prog 36 [.one (.v (.int .i64 z))] (.one (.v (.string (itB z)))) := by
  by_cases h0 : z = 0
  · subst h0
    have e : itB 0 = ⟨#[48]⟩ := by simp [itB, itoa, decDigits_one]
    rw [e]
    refine Fn.intro Tryd.func36 rfl Tryd.ntmps36 Tryd.results36 (by simp only [List.length_cons, List.length_nil]; decide) ?_
    repeat (first | (apply fw; focus ((with_reducible constructor) <;> rfl)) | (apply WpA.cd; focus constructor) | ((first | with_reducible refine WpA.go _ rfl fun Y y => ?_ | apply RunTo.id); simp only [zb, seval, w36, txtA]; refine RunTo.fn y (by first | exact trivial | omega | (simp; done) | (simp; omega)) ?_; clear y Y))
    refine ⟨by simp, _, _, _, _, (by simp only [zb, seval, w36]; rfl), (by simp), (by simp only [zv]; rfl), (by simp), _, ALe.refl _, ?_⟩
    rfl
  have hz0 : (z == 0) = false := by simp [h0]
  have hsz := itB_size z hz
  refine Fn.intro Tryd.func36 rfl Tryd.ntmps36 Tryd.results36 (by simp only [List.length_cons, List.length_nil]; decide) ?_
  repeat (first | (apply fw; focus ((with_reducible constructor) <;> rfl)) | (apply WpA.cd; focus constructor) | ((first | with_reducible refine WpA.go _ rfl fun Y y => ?_ | apply RunTo.id); simp only [zb, seval, w36, txtA, hz0]; refine RunTo.fn y (by first | exact trivial | omega | (simp; done) | (simp; omega)) ?_; clear y Y))
  refine WpA.loop (NumI z) z.natAbs ?_ ⟨z, [], rfl, hz, by rw [if_neg (by omega)]; simp, rfl⟩ ?_
  · exact Le.weak (by simp [SubL, find, ALe.refl, bC]; exact ALe.nil)
  intro n' st hI
  obtain ⟨m, l, rfl, hm, hd, rfl⟩ := hI
  by_cases hm0 : m = 0
  · subst hm0
    have hmd : ((0 : Int) != 0) = false := by simp
    simp only [Int.natAbs_zero, if_true, List.nil_append] at hd
    subst hd
    have hbl := bC_len (decDigits z.natAbs)
    have h45 : (⟨#[45]⟩ : ByteArray).size = 1 := rfl
    have hds : (⟨(decDigits z.natAbs).toArray⟩ : ByteArray).size ≤ 21 := by
      show (decDigits z.natAbs).toArray.size ≤ 21
      have : (itoa z).length ≤ 21 := by simpa [itB, ByteArray.size] using hsz
      unfold itoa at this
      split at this
      · simp only [List.length_cons] at this; simp; omega
      · rw [show z.toNat = z.natAbs by omega] at this; simpa using this
    by_cases hzn : z < 0
    · have hdz : decide (z < 0) = true := decide_eq_true hzn
      have e : itB z = ⟨#[45]⟩ ++ ⟨(decDigits z.natAbs).toArray⟩ := by
        rw [itB, itoa, if_pos hzn]
        apply ByteArray.ext
        simp [ByteArray.data_append]
      rw [e]
      repeat (first | (apply fw; focus ((with_reducible constructor) <;> rfl)) | (apply WpA.cd; focus constructor) | ((first | with_reducible refine WpA.go _ rfl fun Y y => ?_ | apply RunTo.id); simp only [zb, seval, w36, txtA, hmd, hdz, unB, unB_bC, h45]; refine RunTo.fn y (by first | exact trivial | omega | (simp; done) | (simp; omega)) ?_; clear y Y))
      refine ⟨by simp, _, _, _, _, (by simp only [zb, seval, w36]; rfl), (by simp), (by simp only [zv]; rfl), (by simp), _, ALe.refl _, ?_⟩
      rfl
    · have hdz : decide (z < 0) = false := decide_eq_false hzn
      have e : itB z = ⟨(decDigits z.natAbs).toArray⟩ := by rw [itB, itoa, if_neg hzn, show z.toNat = z.natAbs by omega]
      rw [e]
      repeat (first | (apply fw; focus ((with_reducible constructor) <;> rfl)) | (apply WpA.cd; focus constructor) | ((first | with_reducible refine WpA.go _ rfl fun Y y => ?_ | apply RunTo.id); simp only [zb, seval, w36, txtA, hmd, hdz, unB, unB_bC]; refine RunTo.fn y (by first | exact trivial | omega | (simp; done) | (simp; omega)) ?_; clear y Y))
      refine ⟨by simp, _, _, _, _, (by simp only [zb, seval, w36]; rfl), (by simp), (by simp only [zv]; rfl), (by simp), _, ALe.refl _, ?_⟩
      rfl
  have hmd : (m != 0) = true := by simp [hm0]
  have ht := tmod10 m
  have hdv := tdiv10 m
  obtain ⟨hm1, hm2⟩ := hm
  have hw1 : IntKind.i64.wrap (48 + ((m.natAbs % 10 : Nat) : Int)) = ((48 + m.natAbs % 10 : Nat) : Int) := by rw [wrap64 (by omega) (by omega)]; omega
  have hw2 : IntKind.u8.wrap (((48 + m.natAbs % 10 : Nat) : Int)) = ((UInt8.ofNat (48 + m.natAbs % 10)).toNat : Int) := by
    rw [UInt8.toNat_ofNat']; simp only [IntKind.wrap, IntKind.bits, IntKind.signed, Bool.false_and, Bool.false_eq_true, if_false]; omega
  have hw3 : IntKind.i64.wrap (m.tdiv 10) = m.tdiv 10 := by rw [wrap64 (by omega) (by omega)]
  have hstep := decDigits_step (n := m.natAbs) (by omega) l
  rw [if_neg (by omega), hstep, ← hdv] at hd
  have hll := congrArg List.length hd
  have hbl := bC_len l
  have hIT : I64 (m.tdiv 10) := by constructor <;> omega
  have hlt : (m.tdiv 10).natAbs < m.natAbs := by omega
  have hzl : (decDigits z.natAbs).length ≤ 21 := by
    have : (itoa z).length ≤ 21 := by simpa [itB, ByteArray.size] using hsz
    unfold itoa at this
    split at this
    · simp only [List.length_cons] at this; omega
    · rwa [show z.toNat = z.natAbs by omega] at this
  simp only [List.length_append, List.length_cons] at hll
  have hfin : ∀ e5, find e5 0 = some (.one (.v (.int .i64 z))) → ∃ k st'', k < m.natAbs ∧ Le ⟨32, 0⟩ ⟨(4, .one (.v (.int .i64 (m.tdiv 10)))) :: (12, .one (.v (.int .i64 (m.tdiv 10)))) :: (11, .one (.v (.int .i64 m))) :: (3, .one (.ms 0 (1 + l.length))) :: e5, [some ⟨5, 1, [.v (.int .u8 (UInt8.ofNat (48 + m.natAbs % 10)).toNat)] :: bC l⟩]⟩ st'' ∧ NumI z k st'' := fun e5 he5 => by
    refine ⟨_, _, hlt, ?_, m.tdiv 10, UInt8.ofNat (48 + m.natAbs % 10) :: l, rfl, hIT, hd, rfl⟩
    exact Le.frzLast (S := []) [(4, .one (.v (.int .i64 (m.tdiv 10)))), (3, .one (.sl 1 (bC (UInt8.ofNat (48 + m.natAbs % 10) :: l)))), (0, .one (.v (.int .i64 z)))] (bC_shut (UInt8.ofNat (48 + m.natAbs % 10) :: l)) (Nat.le_refl _) ⟨⟨_, rfl, .inl rfl⟩, ⟨_, rfl, FzA.last rfl (by rw [List.length_cons, hbl]; omega)⟩, ⟨_, he5, .inl rfl⟩, trivial⟩ (by simp [Sub, find]) (by simp [envBd, A.bd, C.bd]) (by simp [ObBd])
  by_cases hneg : m < 0
  · rw [if_pos hneg] at ht
    by_cases hq : m.natAbs % 10 = 0
    · have hl0 : decide (-((m.natAbs % 10 : Nat) : Int) < 0) = false := decide_eq_false (by omega)
      have hw4 : (48 : Int) + -((m.natAbs % 10 : Nat) : Int) = 48 + ((m.natAbs % 10 : Nat) : Int) := by omega
      repeat (first | (apply fw; focus ((with_reducible constructor) <;> rfl)) | (apply WpA.cd; focus constructor) | ((first | with_reducible refine WpA.go _ rfl fun Y y => ?_ | apply RunTo.id); simp only [zb, seval, w36, txtA, hmd, ht, hl0, hw4, hw1, hw2, hw3, hbl]; refine RunTo.fn y (by first | exact trivial | omega | (simp; done) | (simp; omega)) ?_; clear y Y))
      exact hfin _ rfl
    · have hl0 : decide (-((m.natAbs % 10 : Nat) : Int) < 0) = true := decide_eq_true (by omega)
      have hw4 : IntKind.i64.wrap (0 - -((m.natAbs % 10 : Nat) : Int)) = ((m.natAbs % 10 : Nat) : Int) := by rw [wrap64 (by omega) (by omega)]; omega
      repeat (first | (apply fw; focus ((with_reducible constructor) <;> rfl)) | (apply WpA.cd; focus constructor) | ((first | with_reducible refine WpA.go _ rfl fun Y y => ?_ | apply RunTo.id); simp only [zb, seval, w36, txtA, hmd, ht, hl0, hw4, hw1, hw2, hw3, hbl]; refine RunTo.fn y (by first | exact trivial | omega | (simp; done) | (simp; omega)) ?_; clear y Y))
      exact hfin _ rfl
  · rw [if_neg hneg] at ht
    have hl0 : decide (((m.natAbs % 10 : Nat) : Int) < 0) = false := decide_eq_false (by omega)
    repeat (first | (apply fw; focus ((with_reducible constructor) <;> rfl)) | (apply WpA.cd; focus constructor) | ((first | with_reducible refine WpA.go _ rfl fun Y y => ?_ | apply RunTo.id); simp only [zb, seval, w36, txtA, hmd, ht, hl0, hw1, hw2, hw3, hbl]; refine RunTo.fn y (by first | exact trivial | omega | (simp; done) | (simp; omega)) ?_; clear y Y))
    exact hfin _ rfl
def RLineI (w : ByteArray) (l : List Int) (n : Nat) (st : St) : Prop := ∃ i : Nat, n = l.length - i ∧ i ≤ l.length ∧
  st = ⟨[(5, .one (.v (.int .i64 i))), (1, .one (.sl 1 (nC l))), (0, .one (.v (.string (lineL w (l.take i)))))], []⟩
theorem rline_pure (w : ByteArray) (l : List Int) (hw : w.size ≤ 1000000) (hl : l.length ≤ 10000) (hr : ∀ n ∈ l, I64 n) :
    Pure Tryd.prog 27 [.one (.v (.string w)), .one (.sl 1 (nC l))] (.one (.v (.string (lineL w l ++ ⟨#[10]⟩)))) := by
  have hll := nC_len l
  have hsz := lineL_size l w hr
  have h10 : (⟨#[10]⟩ : ByteArray).size = 1 := rfl
  refine Fn.intro Tryd.func27 rfl Tryd.ntmps27 Tryd.results27 (by simp only [List.length_cons, List.length_nil]; decide) ?_
  repeat (first | (apply fw; focus ((with_reducible constructor) <;> rfl)) | (apply WpA.cd; focus constructor) | ((first | with_reducible refine WpA.go _ rfl fun Y y => ?_ | apply RunTo.id); simp only [zb, seval, w27, hll]; refine RunTo.fn y (by first | exact trivial | omega | (simp; done) | (simp; omega)) ?_; clear y Y))
  refine WpA.loop (RLineI w l) l.length ?_ ⟨0, rfl, Nat.zero_le _, rfl⟩ ?_
  · exact Le.sub (by simp [Sub, find, lineL])
  intro n' st hI
  obtain ⟨i, rfl, hi, rfl⟩ := hI
  have hw2 : IntKind.i64.wrap ((i : Int) + 1) = ((i + 1 : Nat) : Int) := by rw [wrap64 (by omega) (by omega)]; omega
  by_cases hlt : i < l.length
  · have hd1 : decide ((i : Int) < (l.length : Int)) = true := by simp; omega
    have hga := nC_get hlt
    have hin := hr l[i] (by simp)
    have hs1 := lineL_size (l.take i) w fun m hm => hr m (List.mem_of_mem_take hm)
    have hs2 := itB_size l[i] hin
    rw [List.length_take] at hs1
    have h32 : (⟨#[32]⟩ : ByteArray).size = 1 := rfl
    repeat (first | (apply fw; focus ((with_reducible constructor) <;> rfl)) | (apply WpA.cd; focus constructor) | ((first | with_reducible refine WpA.go _ rfl fun Y y => ?_ | apply RunTo.id); simp only [zb, seval, w27, hll, hd1, hga]; refine RunTo.fn y (by first | exact trivial | omega | (simp; done) | (simp; omega)) ?_; clear y Y))
    refine WpL.call rfl (guardA_sound (P := Tryd.prog) rfl) (CallA.shut rfl rfl (by kernel_rfl) (ALes.refl _) (by first | rfl | simp [shuts, A.shut, C.shut]) (number_pure l[i] hin) ?_)
    (refine WpL.go _ rfl fun Y y => ?_); repeat (first | (apply fw; focus ((with_reducible constructor) <;> rfl)) | (apply WpA.cd; focus constructor) | ((first | with_reducible refine WpA.go _ rfl fun Y y => ?_ | apply RunTo.id); simp only [zb, seval, w27, hw2]; refine RunTo.fn y (by first | exact trivial | omega | (simp; done) | (simp; omega)) ?_; clear y Y))
    have e : lineL w (l.take (i + 1)) = (lineL w (l.take i) ++ ⟨#[32]⟩) ++ itB l[i] := by rw [List.take_succ_eq_append_getElem hlt, lineL_snoc, ByteArray.append_assoc]
    exact ⟨l.length - (i + 1), _, by omega, Le.sub (by simp [Sub, find, e]), i + 1, rfl, hlt, rfl⟩
  · have hd0 : decide ((i : Int) < (l.length : Int)) = false := by simp; omega
    obtain rfl : i = l.length := by omega
    rw [List.take_length]
    repeat (first | (apply fw; focus ((with_reducible constructor) <;> rfl)) | (apply WpA.cd; focus constructor) | ((first | with_reducible refine WpA.go _ rfl fun Y y => ?_ | apply RunTo.id); simp only [zb, seval, w27, hll, hd0]; refine RunTo.fn y (by first | exact trivial | omega | (simp; done) | (simp; omega)) ?_; clear y Y))
    refine ⟨by simp, _, _, _, _, (by simp only [zb, seval, w27]; rfl), (by simp), (by simp only [zv]; rfl), (by simp), _, ALe.refl _, ?_⟩
    rfl
end Go.Proofs.YtdcmihhcpgkgiaaDoor
end
