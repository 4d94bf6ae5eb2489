/-
 Laid together: Core, Ex18, Lst18, Eq18, Err18, Dat18, Sl19, Same19, ESame.
-/
import Derived.Test.YtaeioidifpebdaaGreatDoorG4
import Derived.Test.YtaeioidifpebdaaGreatDoorList
import Derived.Test.YtaeioidifpebdaaGreatDoorItems
import Derived.Test.YtaeioidifpebdaaGreatDoorMake
import Derived.Test.YtaeioidifpebdaaGreatDoorPlain4
import Derived.Test.YtaeioidifpebdaaGreatDoorChecked
import Derived.WalkKit
import Derived.LaidEql
import Derived.Stop.Asserts
import Derived.RowKitTokens
import Derived.Test.YtaeioidifpebdaaGreatDoorCons
import Derived.Test.YtaeioidifpebdaaGreatDoorG2
import Derived.Test.YtaeioidifpebdaaGreatDoorSame2
import Derived.Test.YtaeioidifpebdaaGreatDoorG3
section
namespace Go.Proofs.YtaeioidifpebdaaGreatDoor
open Go Go.RowKit
set_option linter.unusedSimpArgs false
set_option linter.unusedVariables false
inductive K where
 | mk (k : Int) (name rest : ByteArray) (params : List ByteArray) (d : D) (l : List K)
namespace K
def k : K → Int | mk k _ _ _ _ _ => k
def name : K → ByteArray | mk _ n _ _ _ _ => n
def rest : K → ByteArray | mk _ _ r _ _ _ => r
def params : K → List ByteArray | mk _ _ _ p _ _ => p
def d : K → D | mk _ _ _ _ d _ => d
def l : K → List K | mk _ _ _ _ _ l => l
end K
def strC (l : List ByteArray) : List (List C) := l.map fun s => [.v (.string s)]
theorem strC_len (l : List ByteArray) : (strC l).length = l.length := by simp [strC]
theorem strC_get {l : List ByteArray} {i : Nat} (h : i < l.length) : (strC l)[i]? = some [.v (.string l[i])] := by simp [strC, h]
theorem strC_shut (l : List ByteArray) : ∀ e ∈ strC l, ∀ c ∈ e, C.shut c = true := fun e he c hc => by
 obtain ⟨s, _, rfl⟩ := List.mem_map.1 he
 simp at hc; subst hc; rfl
def K.cc : K → List C
 | mk k name rest params d l => [.v (.int .i64 k), .v (.string name), .v (.string rest), .sl 1 (strC params), .v (.int .i64 d.k), .v (.int .i32 d.c), .v (.bool d.neg), .sl 1 (d.mag.map fun n => [.v (.int .u32 n)]), .v (.string d.t), .sl 6 (d.l.map D.cc), .sl 11 (l.map K.cc)]
theorem K.cc_eq (c : K) : c.cc = [.v (.int .i64 c.k), .v (.string c.name), .v (.string c.rest), .sl 1 (strC c.params), .v (.int .i64 c.d.k), .v (.int .i32 c.d.c), .v (.bool c.d.neg), .sl 1 (c.d.mag.map fun n => [.v (.int .u32 n)]), .v (.string c.d.t), .sl 6 (c.d.l.map D.cc), .sl 11 (c.l.map K.cc)] := by
 cases c; rw [K.cc]; rfl
theorem K.cc_len (c : K) : c.cc.length = 11 := by rw [K.cc_eq]; rfl
theorem getK {l : List K} {i : Nat} (h : i < l.length) : (l.map K.cc)[i]? = some (l[i]).cc := by simp [h]
theorem K.cc_shut (c : K) : ∀ x ∈ c.cc, C.shut x = true := by rw [K.cc_eq]; simp [C.shut]
theorem K.cc_bd (n : Nat) (c : K) : ∀ x ∈ c.cc, C.bd n x = true := by rw [K.cc_eq]; simp [C.bd]
mutual
def K.ht : K → Nat
 | .mk _ _ _ _ _ l => K.hts l + 1
def K.hts : List K → Nat
 | [] => 0
 | c :: l => max c.ht (K.hts l)
end
theorem K.ht_mem {x : K} : ∀ {l : List K}, x ∈ l → x.ht ≤ K.hts l
 | c :: l, h => by
  rw [K.hts]
  rcases List.mem_cons.1 h with rfl | h
  ·exact Nat.le_max_left _ _
  ·exact Nat.le_trans (K.ht_mem h) (Nat.le_max_right _ _)
theorem K.ht_lt {c : K} {i : Nat} (h : i < c.l.length) : (c.l[i]).ht < c.ht := by
 obtain ⟨k, n, r, p, d, l⟩ := c
 have := K.ht_mem (List.getElem_mem h)
 show _ < K.hts l + 1
 exact Nat.lt_succ_of_le this
theorem K.ht_pos (c : K) : 0 < c.ht := by cases c; rw [K.ht]; omega
mutual
def K.Ok : K → Prop
 | .mk k name rest params d l => (-9223372036854775808 ≤ k ∧ k ≤ 9223372036854775807) ∧ params.length ≤ 1000000000000000 ∧ d.Ok ∧ l.length ≤ 1000000000000000 ∧ K.Oks l
def K.Oks : List K → Prop
 | [] => True
 | c :: l => c.Ok ∧ K.Oks l
end
theorem K.Oks.get : ∀ {l : List K}, K.Oks l → ∀ i (h : i < l.length), l[i].Ok
 | c :: l, h, 0, _ => h.1
 | c :: l, h, i + 1, hi => K.Oks.get (l := l) h.2 i (by simpa using hi)
theorem K.Ok.kids {c : K} (h : c.Ok) : K.Oks c.l := by cases c; exact h.2.2.2.2
theorem K.Ok.get {c : K} (h : c.Ok) (i : Nat) (hi : i < c.l.length) : c.l[i].Ok := h.kids.get i hi
theorem K.Ok.d {c : K} (h : c.Ok) : c.d.Ok := by cases c; exact h.2.2.1
theorem K.Ok.par {c : K} (h : c.Ok) : c.params.length ≤ 1000000000000000 := by cases c; exact h.2.1
theorem K.Ok.len {c : K} (h : c.Ok) : c.l.length ≤ 1000000000000000 := by cases c; exact h.2.2.2.1
theorem K.Ok.kind {c : K} (h : c.Ok) : -9223372036854775808 ≤ c.k ∧ c.k ≤ 9223372036854775807 := by cases c; exact h.1
end Go.Proofs.YtaeioidifpebdaaGreatDoor
end
section
namespace Go.Proofs.YtaeioidifpebdaaGreatDoor
open Go
set_option linter.unusedSimpArgs false
set_option linter.unusedVariables false
def e0 : ByteArray := ⟨#[]⟩
def sQuote : ByteArray := ⟨#[113, 117, 111, 116, 101]⟩
def sQuasi : ByteArray := ⟨#[113, 117, 97, 115, 105, 113, 117, 111, 116, 101]⟩
def sUnq : ByteArray := ⟨#[117, 110, 113, 117, 111, 116, 101]⟩
def sSplice : ByteArray := ⟨#[117, 110, 113, 117, 111, 116, 101, 45, 115, 112, 108, 105, 99, 105, 110, 103]⟩
def sLambda : ByteArray := ⟨#[108, 97, 109, 98, 100, 97]⟩
def sDefine : ByteArray := ⟨#[100, 101, 102, 105, 110, 101]⟩
def sSet : ByteArray := ⟨#[115, 101, 116, 33]⟩
def sIf : ByteArray := ⟨#[105, 102]⟩
def sBegin : ByteArray := ⟨#[98, 101, 103, 105, 110]⟩
def sLet : ByteArray := ⟨#[108, 101, 116]⟩
def sLetS : ByteArray := ⟨#[108, 101, 116, 42]⟩
def sLetrec : ByteArray := ⟨#[108, 101, 116, 114, 101, 99]⟩
def sLetrecS : ByteArray := ⟨#[108, 101, 116, 114, 101, 99, 42]⟩
def sCond : ByteArray := ⟨#[99, 111, 110, 100]⟩
def sCase : ByteArray := ⟨#[99, 97, 115, 101]⟩
def sAnd : ByteArray := ⟨#[97, 110, 100]⟩
def sOr : ByteArray := ⟨#[111, 114]⟩
def sWhen : ByteArray := ⟨#[119, 104, 101, 110]⟩
def sUnless : ByteArray := ⟨#[117, 110, 108, 101, 115, 115]⟩
def sDo : ByteArray := ⟨#[100, 111]⟩
def sElse : ByteArray := ⟨#[101, 108, 115, 101]⟩
def sArrow : ByteArray := ⟨#[61, 62]⟩
def sTemp : ByteArray := ⟨#[255, 116]⟩
def sLoop : ByteArray := ⟨#[255, 108, 111, 111, 112]⟩
def sEqv : ByteArray := ⟨#[101, 113, 118, 63]⟩
def sCons : ByteArray := ⟨#[99, 111, 110, 115]⟩
def sL2v : ByteArray := ⟨#[108, 105, 115, 116, 45, 62, 118, 101, 99, 116, 111, 114]⟩
def sAppend : ByteArray := ⟨#[97, 112, 112, 101, 110, 100]⟩
def keyL : List ByteArray := [sQuote, sQuasi, sUnq, sSplice, sLambda, sDefine, sSet, sIf, sBegin, sLet, sLetS, sLetrec, sLetrecS, sCond, sCase, sAnd, sOr, sWhen, sUnless, sDo, sElse, sArrow]
noncomputable def keyB (s : ByteArray) : Bool := keyL.any fun x => eqB s x
-- data: how much there is in one
mutual
def D.msr : D → Nat
 | .mk k _ _ _ _ l => (if k = 8 then l.length + 2 else 1) + msrs l
def msrs : List D → Nat
 | [] => 0
 | d :: l => d.msr + msrs l
end
mutual
def D.Two : D → Prop
 | .mk k _ _ _ _ l => (k = 7 → l.length = 2) ∧ Twos l
def Twos : List D → Prop
 | [] => True
 | d :: l => d.Two ∧ Twos l
end
theorem msr_pos (d : D) : 1 ≤ d.msr := by
 cases d with | mk k c neg mag t l => rw [D.msr]; split <;> omega
theorem msrs_len : ∀ l : List D, l.length ≤ msrs l
 | [] => by simp
 | d :: l => by rw [msrs, List.length_cons]; have := msr_pos d; have := msrs_len l; omega
theorem msrs_mem {d : D} : ∀ {l : List D}, d ∈ l → d.msr ≤ msrs l
 | x :: l, h => by
  rw [msrs]
  rcases List.mem_cons.1 h with rfl | h
  ·omega
  ·have := msrs_mem h; omega
theorem msrs_app : ∀ (a b : List D), msrs (a ++ b) = msrs a + msrs b
 | [], b => by simp [msrs]
 | d :: a, b => by rw [List.cons_append, msrs, msrs, msrs_app a b]; omega
theorem Twos.mem {d : D} : ∀ {l : List D}, Twos l → d ∈ l → d.Two
 | x :: l, h, hd => by
  rcases List.mem_cons.1 hd with rfl | hd
  ·exact h.1
  ·exact Twos.mem h.2 hd
theorem Twos.of : ∀ {l : List D}, (∀ d ∈ l, d.Two) → Twos l
 | [], _ => trivial
 | x :: l, h => ⟨h x (by simp), Twos.of fun d hd => h d (by simp [hd])⟩
theorem D.Two.kids {d : D} (h : d.Two) : Twos d.l := by cases d; exact h.2
theorem D.Two.two {d : D} (h : d.Two) (hk : d.k = 7) : d.l.length = 2 := by cases d; exact h.1 hk
theorem D.Plain.two : ∀ {d : D}, d.Plain → d.Two
 | .mk k c neg mag t l, h => by
  rw [D.Plain] at h
  exact ⟨h.2.2.2.2.2.2.1, Twos.of fun d hd => by
   obtain ⟨i, hi, rfl⟩ := List.mem_iff_getElem.1 hd
   exact D.Plain.two ((Plains.iff l).1 h.2.2.2.2.2.2.2.2 i hi)⟩
termination_by d => SizeOf.sizeOf d
decreasing_by
 all_goals simp_wf
 all_goals (have := List.sizeOf_lt_of_mem hd; omega)
def D.fst (d : D) : D := d.l.getD 0 dNil
def D.snd (d : D) : D := d.l.getD 1 dNil
theorem D.Two.pair {d : D} (h : d.Two) (hk : d.k = 7) : d.l = [d.fst, d.snd] := by
 have := h.two hk
 obtain ⟨k, c, neg, mag, t, l⟩ := d
 match l, this with
 | [a, b], _ => rfl
def Gd (n : Nat) (d : D) : Prop := d.Two ∧ d.Ok ∧ d.msr < n
def Gds (n : Nat) (l : List D) : Prop := Twos l ∧ Oks l ∧ msrs l < n
theorem Oks.mem {d : D} {l : List D} (h : Oks l) (hd : d ∈ l) : d.Ok := by
 obtain ⟨i, hi, rfl⟩ := List.mem_iff_getElem.1 hd
 exact h.get i hi
theorem Oks.ofMem {l : List D} (h : ∀ d ∈ l, d.Ok) : Oks l := Oks.of fun i hi => h _ (List.getElem_mem hi)
theorem Gds.mem {n : Nat} {l : List D} (h : Gds n l) {d : D} (hd : d ∈ l) : Gd n d := ⟨h.1.mem hd, h.2.1.mem hd, Nat.lt_of_le_of_lt (msrs_mem hd) h.2.2⟩
theorem Gds.len {n : Nat} {l : List D} (h : Gds n l) : l.length < n := Nat.lt_of_le_of_lt (msrs_len l) h.2.2
theorem Gd.le {n m : Nat} {d : D} (h : Gd n d) (hm : n ≤ m) : Gd m d := ⟨h.1, h.2.1, Nat.lt_of_lt_of_le h.2.2 hm⟩
theorem Gds.le {n m : Nat} {l : List D} (h : Gds n l) (hm : n ≤ m) : Gds m l := ⟨h.1, h.2.1, Nat.lt_of_lt_of_le h.2.2 hm⟩
theorem msrs_sub {a b : List D} (h : a.Sublist b) : msrs a ≤ msrs b := by
 induction h with
 | slnil => exact Nat.le_refl _
 | cons x _ ih => rw [msrs]; omega
 | cons_cons x _ ih => rw [msrs, msrs]; omega
theorem Gds.sub {n : Nat} {a b : List D} (h : Gds n b) (hs : a.Sublist b) : Gds n a :=
 ⟨Twos.of fun d hd => h.1.mem (hs.subset hd), Oks.ofMem fun d hd => h.2.1.mem (hs.subset hd), Nat.lt_of_le_of_lt (msrs_sub hs) h.2.2⟩
theorem Gds.drop {n : Nat} {l : List D} (h : Gds n l) (k : Nat) : Gds n (l.drop k) := h.sub (List.drop_sublist k l)
theorem Gds.take {n : Nat} {l : List D} (h : Gds n l) (k : Nat) : Gds n (l.take k) := h.sub (List.take_sublist k l)
theorem Gds.tail {n : Nat} {x : D} {l : List D} (h : Gds n (x :: l)) : Gds n l := h.sub (List.sublist_cons_self x l)
theorem Gds.head {n : Nat} {x : D} {l : List D} (h : Gds n (x :: l)) : Gd n x := h.mem (by simp)
theorem Gd.pair {n : Nat} {d : D} (h : Gd n d) (hk : d.k = 7) : d.l = [d.fst, d.snd] ∧ Gd n d.fst ∧ Gd n d.snd ∧ d.fst.msr + d.snd.msr + 1 = d.msr := by
 have hp := h.1.pair hk
 have ht := h.1.kids
 have ho := h.2.1.l
 have hm : d.msr = 1 + msrs d.l := by
  obtain ⟨k, c, neg, mag, t, l⟩ := d
  have hk : k = 7 := hk
  subst hk
  rw [D.msr]; rfl
 rw [hp] at ht ho hm
 simp only [msrs] at hm
 have := h.2.2
 exact ⟨hp, ⟨ht.1, ho.1, by omega⟩, ⟨ht.2.1, ho.2.1, by omega⟩, by omega⟩
theorem items_msr : ∀ (d : D), msrs (items d) + (items d).length ≤ d.msr
 | .mk k c neg mag t l => by
  unfold items
  split
  ·match l with
   | [] => simp [itemsL, msrs]
   | [a] => simp [itemsL, msrs]
   | [a, b] =>
    have := items_msr b
    rename_i hk
    subst hk
    simp only [itemsL, msrs, List.length_cons, D.msr]
    rw [if_neg (by decide)]
    omega
   | a :: b :: c :: r => simp [itemsL, msrs]
  ·simp [msrs]
theorem items_lt {d : D} (hk : d.k = 7) : msrs (items d) < d.msr := by
 have h1 := items_msr d
 cases hi : items d with
 | nil => rw [hi] at h1; simp [msrs] at h1 ⊢; have := msr_pos d; omega
 | cons a l => rw [hi] at h1; simp at h1; omega
theorem items_ok : ∀ (d : D), d.Two → d.Ok → Twos (items d) ∧ Oks (items d)
 | .mk k c neg mag t l, ht, ho => by
  unfold items
  split
  ·match l with
   | [] => exact ⟨trivial, trivial⟩
   | [a] => exact ⟨trivial, trivial⟩
   | [a, b] =>
    have h1 := ht.2
    have h2 := ho.l
    have := items_ok b h1.2.1 h2.2.1
    exact ⟨⟨h1.1, this.1⟩, ⟨h2.1, this.2⟩⟩
   | a :: b :: c :: r => exact ⟨trivial, trivial⟩
  ·exact ⟨trivial, trivial⟩
theorem Gd.items {n : Nat} {d : D} (h : Gd n d) : Gds n (Proofs.YtaeioidifpebdaaGreatDoor.items d) := by
 have h1 := items_msr d
 have := h.2.2
 exact ⟨(items_ok d h.1 h.2.1).1, (items_ok d h.1 h.2.1).2, by omega⟩
theorem msr_dList : ∀ l : List D, (dList l).msr = l.length + msrs l + 1
 | [] => by simp [dList, dNil, D.msr, msrs]
 | d :: l => by
  have := msr_dList l
  simp only [dList, D.msr, msrs, List.length_cons]
  rw [if_neg (by decide)]
  omega
theorem two_dList : ∀ {l : List D}, Twos l → (dList l).Two
 | [], _ => ⟨fun h => absurd h (by decide), trivial⟩
 | d :: l, h => ⟨fun _ => rfl, h.1, two_dList h.2, trivial⟩
theorem ok_dNil : dNil.Ok := ⟨by decide, by decide, by simp, by decide, by decide, trivial⟩
theorem ok_dList : ∀ {l : List D}, Oks l → (dList l).Ok
 | [], _ => ok_dNil
 | d :: l, h => ⟨by decide, by decide, by simp, by decide, ⟨by decide, by simp⟩, h.1, ok_dList h.2, trivial⟩
theorem Gd.vec {n : Nat} {d : D} (h : Gd n d) (hk : d.k = 8) : Gd n (dList d.l) ∧ (dList d.l).msr < d.msr := by
 have hm : d.msr = d.l.length + 2 + msrs d.l := by
  obtain ⟨k, c, neg, mag, t, l⟩ := d
  have hk : k = 8 := hk
  subst hk
  rw [D.msr]; rfl
 have h2 := msr_dList d.l
 have := h.2.2
 exact ⟨⟨two_dList h.1.kids, ok_dList h.2.1.l, by omega⟩, by omega⟩
-- what is computed
abbrev Rs := K × Nat
def kz : K := .mk 0 e0 e0 [] dNil []
def constK (d : D) : K := .mk 1 e0 e0 [] d []
def kindD (k : Int) : D := .mk k 0 false [] e0 []
def nothingK : K := constK (kindD 9)
def truthK (k : Int) : K := constK (kindD k)
def refK (s : ByteArray) : K := .mk 2 s e0 [] dNil []
def primK (s : ByteArray) : K := .mk 10 s e0 [] dNil []
def branchK (a b c : K) : K := .mk 5 e0 e0 [] dNil [a, b, c]
def seqK : List K → K
 | [x] => x
 | l => .mk 7 e0 e0 [] dNil l
def lamE (ps : List ByteArray) (rest : ByteArray) (b : K) : Rs := if 40 < ps.length + (if rest = e0 then 0 else 1) then (kz, 1) else (.mk 6 e0 rest ps dNil [b], 0)
def callK (l : List K) : K := .mk 8 e0 e0 [] dNil l
def callE (l : List K) : Rs := if 41 < l.length then (kz, 1) else (callK l, 0)
noncomputable def symB (d : D) (s : ByteArray) : Bool := decide (d.k = 6) && eqB d.t s
noncomputable def varE (d : D) : ByteArray × Nat := if d.k = 6 ∧ keyB d.t = false then (d.t, 0) else (e0, 2)
def itemsE (d : D) : List D × Nat := if endK d = 0 then (items d, 0) else ([], 2)
def supN (l : List Nat) : Nat := l.foldl max 0
theorem supN_app (l : List Nat) (x : Nat) : supN (l ++ [x]) = max (supN l) x := by simp [supN, List.foldl_append]
def eachE (E : D → Rs) (l : List D) : List K × Nat := (l.map fun d => (E d).1, supN (l.map fun d => (E d).2))
def seqE (E : D → Rs) (l : List D) : Rs := if l = [] then (kz, 2) else (seqK (eachE E l).1, (eachE E l).2)
noncomputable def unl (l : List ByteArray) : Nat := if @decide l.Nodup (Classical.propDecidable _) then 0 else 2
mutual
def endD : D → D
 | .mk k c neg mag t l => if k = 7 then endDs (.mk k c neg mag t l) l else .mk k c neg mag t l
def endDs (d : D) : List D → D
 | [a, b] => endD b
 | _ => d
end
noncomputable def formalsE (d : D) : List ByteArray × ByteArray × Nat :=
 let ps := (items d).map fun x => (varE x).1
 let n := supN ((items d).map fun x => (varE x).2)
 if (endD d).k = 0 then (ps, e0, max n (unl ps)) else (ps, (varE (endD d)).1, max (max n (varE (endD d)).2) (unl (ps ++ [(varE (endD d)).1])))
structure Ev where
 e : D → Rs
 b : List D → Rs
 q : D → Nat → Rs
noncomputable def functionE (ev : Ev) (f : D) (body : List D) : Rs :=
 let fm := formalsE f
 let x := lamE fm.1 fm.2.1 (ev.b body).1
 (x.1, max (max fm.2.2 (ev.b body).2) x.2)
def setK (v : ByteArray) (x : K) : K := .mk 3 v e0 [] dNil [x]
def noneK : K := .mk 9 e0 e0 [] dNil []
noncomputable def recE (names : List ByteArray) (values : List K) (body : K) : Rs :=
 let f := lamE names e0 (seqK ((names.zip values).map (fun p => setK p.1 p.2) ++ [body]))
 let x := callE (f.1 :: names.map fun _ => noneK)
 (x.1, max (max (unl names) f.2) x.2)
def pairO (b : D) : Option (D × D) := if endK b = 0 then (match items b with | [x, y] => some (x, y) | _ => none) else none
noncomputable def bindE (d : D) : List ByteArray × List D × Nat :=
 let l := (itemsE d).1
 (l.filterMap fun b => (pairO b).map fun p => (varE p.1).1, l.filterMap fun b => (pairO b).map (·.2), max (itemsE d).2 (supN (l.map fun b => match pairO b with | some p => (varE p.1).2 | none => 2)))
noncomputable def defE (ev : Ev) : List D → ByteArray × K × Nat
 | [] => (e0, kz, 2)
 | [_] => (e0, kz, 2)
 | a :: b :: r => if a.k = 7 then ((varE a.fst).1, (functionE ev a.snd (b :: r)).1, max (varE a.fst).2 (functionE ev a.snd (b :: r)).2)
  else ((varE a).1, (ev.e b).1, max (if r = [] then (varE a).2 else max (varE a).2 2) (ev.e b).2)
noncomputable def headO (d : D) (s : ByteArray) : Option (List D) := if d.k = 7 ∧ symB d.fst s = true then (if endK d.snd = 0 then some (items d.snd) else none) else none
noncomputable def splN : Nat → List D → List D
 | 0, l => l
 | n + 1, l => l.flatMap fun d => match headO d sBegin with | some x => splN n x | none => [d]
noncomputable def spl (l : List D) : List D := splN (msrs l) l
structure Bs where
 names : List ByteArray
 values : List K
 rest : List K
 err : Nat
noncomputable def bodStep (ev : Ev) (s : Bs) (d : D) : Bs := match headO d sDefine with
 | none => ⟨s.names, s.values, s.rest ++ [(ev.e d).1], max s.err (ev.e d).2⟩
 | some x => ⟨s.names ++ [(defE ev x).1], s.values ++ [(defE ev x).2.1], s.rest, if s.rest = [] then max s.err (defE ev x).2.2 else max (max s.err (defE ev x).2.2) 2⟩
noncomputable def bods (ev : Ev) (l : List D) : Bs := l.foldl (bodStep ev) ⟨[], [], [], 0⟩
noncomputable def bodEnd (s : Bs) : Rs :=
 if s.rest = [] then (kz, max s.err 2) else if s.names = [] then (seqK s.rest, s.err) else
  let x := recE s.names s.values (seqK s.rest)
  (x.1, max s.err x.2)
noncomputable def bodE (ev : Ev) (l : List D) : Rs := bodEnd (bods ev (spl l))
def applyE (ev : Ev) (names : List ByteArray) (body : K) (values : List D) : Rs :=
 let f := lamE names e0 body
 let l := eachE ev.e values
 let x := callE (f.1 :: l.1)
 (x.1, max (max f.2 l.2) x.2)
def testedE (ev : Ev) (test : D) (body : K) : Rs := applyE ev [sTemp] body [test]
noncomputable def namedE (ev : Ev) : List D → Rs
 | a :: b :: r =>
  let w := varE a
  let bs := bindE b
  let f := lamE bs.1 e0 (ev.b r).1
  let x := recE [w.1] [f.1] (refK w.1)
  let vs := eachE ev.e bs.2.1
  let c := callE (x.1 :: vs.1)
  (c.1, max (max (max (max (max (max (max w.2 bs.2.2) (unl bs.1)) (ev.b r).2) f.2) x.2) vs.2) c.2)
 | _ => (kz, 2)
noncomputable def letE (ev : Ev) : List D → Rs
 | [] => (kz, 2)
 | a :: r => if a.k = 6 then namedE ev (a :: r) else
  let bs := bindE a
  let x := applyE ev bs.1 (ev.b r).1 bs.2.1
  (x.1, max (max (max bs.2.2 (ev.b r).2) (unl bs.1)) x.2)
def starStep (ev : Ev) (p : ByteArray × D) (s : Rs) : Rs := ((applyE ev [p.1] s.1 [p.2]).1, max s.2 (applyE ev [p.1] s.1 [p.2]).2)
def starE (ev : Ev) (l : List (ByteArray × D)) (s : Rs) : Rs := l.foldr (starStep ev) s
noncomputable def letStarE (ev : Ev) : List D → Rs
 | [] => (kz, 2)
 | a :: r =>
  let bs := bindE a
  let x := applyE ev [] (ev.b r).1 []
  starE ev (bs.1.zip bs.2.1) (x.1, max (max bs.2.2 (ev.b r).2) x.2)
noncomputable def letrecE (ev : Ev) : List D → Rs
 | [] => (kz, 2)
 | a :: r =>
  let bs := bindE a
  let vs := eachE ev.e bs.2.1
  let x := recE bs.1 vs.1 (ev.b r).1
  (x.1, max (max (max bs.2.2 vs.2) (ev.b r).2) x.2)
noncomputable def condE (ev : Ev) : List D → Rs
 | [] => (nothingK, 0)
 | a :: r => match (if endK a = 0 then items a else []) with
  | [] => (kz, 2)
  | c :: cs => if symB c sElse then (if r = [] then seqE ev.e cs else (kz, 2)) else
   let rest := condE ev r
   match cs with
   | [] =>
    let x := testedE ev c (branchK (refK sTemp) (refK sTemp) rest.1)
    (x.1, max rest.2 x.2)
   | f :: fs => if symB f sArrow then
     (match fs with
     | [g] =>
      let y := callE [(ev.e g).1, refK sTemp]
      let x := testedE ev c (branchK (refK sTemp) y.1 rest.1)
      (x.1, max (max (max rest.2 (ev.e g).2) y.2) x.2)
     | _ => (kz, 2))
    else (branchK (ev.e c).1 (seqE ev.e cs).1 rest.1, max (max rest.2 (ev.e c).2) (seqE ev.e cs).2)
def oneOfK : List D → K
 | [] => truthK 2
 | d :: l => branchK (callK [primK sEqv, refK sTemp, constK d]) (truthK 1) (oneOfK l)
noncomputable def chooseE (ev : Ev) : List D → Rs
 | [] => (nothingK, 0)
 | a :: r => match (if endK a = 0 then items a else []) with
  | c :: f :: fs => if symB c sElse then (if r = [] then seqE ev.e (f :: fs) else (kz, 2)) else
   let b := seqE ev.e (f :: fs)
   let rest := chooseE ev r
   (branchK (oneOfK (itemsE c).1) b.1 rest.1, max (max (itemsE c).2 b.2) rest.2)
  | _ => (kz, 2)
def tripO (d : D) : Option (D × D × D) := if endK d = 0 then (match items d with | [v, x] => some (v, x, v) | [v, x, y] => some (v, x, y) | _ => none) else none
noncomputable def loopsE (ev : Ev) : List D → Rs
 | a :: b :: r =>
  let sp := (itemsE a).1
  if sp.all (fun d => (tripO d).isSome) then
   let ts := sp.filterMap tripO
   let names := ts.map fun t => (varE t.1).1
   let err := max (max (max (itemsE a).2 (supN (ts.map fun t => (varE t.1).2))) (itemsE b).2) (unl names)
   match (itemsE b).1 with
   | [] => (kz, 2)
   | e :: es =>
    let test := ev.e e
    let last := if es = [] then (nothingK, 0) else seqE ev.e es
    let body := eachE ev.e r
    let next := eachE ev.e (ts.map fun t => t.2.2)
    let again := callE (refK sLoop :: next.1)
    let f := lamE names e0 (branchK test.1 last.1 (seqK (body.1 ++ [again.1])))
    let x := recE [sLoop] [f.1] (refK sLoop)
    let vs := eachE ev.e (ts.map fun t => t.2.1)
    let c := callE (x.1 :: vs.1)
    (c.1, max (max (max (max (max (max (max (max (max err test.2) last.2) body.2) next.2) again.2) f.2) x.2) vs.2) c.2)
  else (kz, 2)
 | _ => (kz, 2)
def consK (a d : K) : K := callK [primK sCons, a, d]
noncomputable def oneO (d : D) (s : ByteArray) : Option D := match headO d s with | some [x] => some x | _ => none
def markedK (s : ByteArray) (x : K) : K := consK (constK (dSym s)) (consK x (constK dNil))
noncomputable def quasiE (ev : Ev) (d : D) (n : Nat) : Rs := match oneO d sUnq with
 | some y => if n = 1 then ev.e y else (markedK sUnq (ev.q y (n - 1)).1, (ev.q y (n - 1)).2)
 | none => match oneO d sQuasi with
  | some y => (markedK sQuasi (ev.q y (n + 1)).1, (ev.q y (n + 1)).2)
  | none => if d.k = 8 then (callK [primK sL2v, (ev.q (dList d.l) n).1], (ev.q (dList d.l) n).2)
   else if d.k = 7 then (match oneO d.fst sSplice with
    | some y => if n = 1 then (callK [primK sAppend, (ev.e y).1, (ev.q d.snd n).1], max (ev.q d.snd n).2 (ev.e y).2)
     else (consK (markedK sSplice (ev.q y (n - 1)).1) (ev.q d.snd n).1, max (ev.q d.snd n).2 (ev.q y (n - 1)).2)
    | none => (consK (ev.q d.fst n).1 (ev.q d.snd n).1, max (ev.q d.snd n).2 (ev.q d.fst n).2))
   else (constK d, 0)
noncomputable def logicE (ev : Ev) (and : Bool) : List D → Rs
 | [] => (truthK (if and then 1 else 2), 0)
 | [d] => ev.e d
 | d :: r =>
  let rest := logicE ev and r
  if and then (branchK (ev.e d).1 rest.1 (truthK 2), max rest.2 (ev.e d).2) else
   let x := testedE ev d (branchK (refK sTemp) (refK sTemp) rest.1)
   (x.1, max rest.2 x.2)
noncomputable def derivedE (ev : Ev) (word : ByteArray) (l : List D) : Rs :=
 if word = sLet then letE ev l else if word = sLetS then letStarE ev l else if word = sLetrec ∨ word = sLetrecS then letrecE ev l else if word = sCond then condE ev l else if word = sDo then loopsE ev l else if word = sAnd then logicE ev true l else if word = sOr then logicE ev false l else (kz, 2)
noncomputable def caseE (ev : Ev) : List D → Rs
 | [] => (kz, 2)
 | a :: r =>
  let x := testedE ev a (chooseE ev r).1
  (x.1, max (chooseE ev r).2 x.2)
noncomputable def formE (ev : Ev) (word : ByteArray) (l : List D) : Rs :=
 if word = sQuote ∧ l.length = 1 then (constK (l.getD 0 dNil), 0)
 else if word = sQuasi ∧ l.length = 1 then ev.q (l.getD 0 dNil) 1
 else if word = sLambda ∧ 1 ≤ l.length then functionE ev (l.getD 0 dNil) (l.drop 1)
 else if word = sSet ∧ l.length = 2 then (setK (varE (l.getD 0 dNil)).1 (ev.e (l.getD 1 dNil)).1, max (varE (l.getD 0 dNil)).2 (ev.e (l.getD 1 dNil)).2)
 else if word = sIf ∧ l.length = 2 then (branchK (ev.e (l.getD 0 dNil)).1 (ev.e (l.getD 1 dNil)).1 nothingK, (eachE ev.e l).2)
 else if word = sIf ∧ l.length = 3 then (branchK (ev.e (l.getD 0 dNil)).1 (ev.e (l.getD 1 dNil)).1 (ev.e (l.getD 2 dNil)).1, (eachE ev.e l).2)
 else if word = sBegin then seqE ev.e l
 else if word = sCase ∧ 1 ≤ l.length then caseE ev l
 else if word = sWhen ∧ 2 ≤ l.length then (branchK (ev.e (l.getD 0 dNil)).1 (seqE ev.e (l.drop 1)).1 nothingK, max (ev.e (l.getD 0 dNil)).2 (seqE ev.e (l.drop 1)).2)
 else if word = sUnless ∧ 2 ≤ l.length then (branchK (ev.e (l.getD 0 dNil)).1 nothingK (seqE ev.e (l.drop 1)).1, max (ev.e (l.getD 0 dNil)).2 (seqE ev.e (l.drop 1)).2)
 else derivedE ev word l
noncomputable def exprE (ev : Ev) (d : D) : Rs :=
 if d.k = 0 then (kz, 2) else if d.k = 6 then (refK (varE d).1, (varE d).2) else if d.k = 7 then
  (if endK d = 0 then (match items d with
   | [] => (kz, 2)
   | a :: r => if a.k = 6 ∧ keyB a.t = true then formE ev a.t r else
    let x := callE (eachE ev.e (a :: r)).1
    (x.1, max (eachE ev.e (a :: r)).2 x.2))
  else (kz, 2))
 else (constK d, 0)
noncomputable def evs : Nat → Ev
 | 0 => ⟨fun _ => (kz, 0), fun _ => (kz, 0), fun _ _ => (kz, 0)⟩
 | n + 1 => ⟨exprE (evs n), bodE ⟨exprE (evs n), (evs n).b, (evs n).q⟩, quasiE ⟨exprE (evs n), (evs n).b, (evs n).q⟩⟩
noncomputable def topN (E : Ev) : Nat → D → Rs
 | 0, _ => (kz, 0)
 | n + 1, d => match headO d sDefine with
  | some l => (.mk 4 (defE E l).1 e0 [] dNil [(defE E l).2.1], (defE E l).2.2)
  | none => match headO d sBegin with
   | none => E.e d
   | some [] => (nothingK, 0)
   | some (a :: r) => (seqK ((a :: r).map fun x => (topN E n x).1), supN ((a :: r).map fun x => (topN E n x).2))
end Go.Proofs.YtaeioidifpebdaaGreatDoor
end
section
namespace Go.Proofs.YtaeioidifpebdaaGreatDoor
open Go Go.Lib
set_option linter.unusedSimpArgs false
set_option linter.unusedVariables false
theorem depth_leaf {k c : Int} {neg : Bool} {mag : List Int} {t : ByteArray} (h : k ≠ 8) : (D.mk k c neg mag t []).depth = 0 := by
 rw [D.depth_eq]; simp [dto, maxTo, D.k, D.l, h]
def dPair (a b : D) : D := .mk 7 0 false [] e0 [a, b]
theorem depth_pair (a b : D) : (dPair a b).depth = max (a.depth + 1) (b.depth + if b.k = 7 then 0 else 1) := by
 rw [D.depth_eq]
 show max (if (7 : Int) = 8 then 1 else 0) (dto (dPair a b) 2 _) = _
 simp [dto, maxTo, dterm, dPair, D.k, D.l] <;> rfl
def supD : List D → Nat
 | [] => 0
 | d :: l => max d.depth (supD l)
theorem dList_cons (d : D) (l : List D) : dList (d :: l) = dPair d (dList l) := rfl
theorem depth_dList : ∀ (l : List D), (dList l).depth = if l = [] then 0 else supD l + 1
 | [] => by rw [show dList [] = dNil from rfl, dNil, depth_leaf (by decide)]; rfl
 | [d] => by
  rw [dList_cons, depth_pair, show dList [] = dNil from rfl, dNil, depth_leaf (by decide)]
  show max (d.depth + 1) (0 + if (0 : Int) = 7 then 0 else 1) = max d.depth 0 + 1
  rw [if_neg (by decide)]; omega
 | d :: e :: l => by
  rw [dList_cons, depth_pair, depth_dList (e :: l)]
  show max (d.depth + 1) ((max e.depth (supD l) + 1) + if (7 : Int) = 7 then 0 else 1) = max d.depth (max e.depth (supD l)) + 1
  rw [if_pos rfl]; omega
theorem plain_dNil : dNil.Plain := by rw [← plainB_iff]; exact plain_none 0 (by simp) (by simp [Bare, D.k, D.c, D.t, D.l, D.neg, D.mag])
theorem plain_dPair {a b : D} : (dPair a b).Plain ↔ a.Plain ∧ b.Plain := by
 unfold dPair
 rw [D.Plain]
 simp [Bare, D.k, D.c, D.t, D.l, D.neg, D.mag, Plains, e0]
theorem plain_dList : ∀ {l : List D}, (dList l).Plain ↔ Plains l
 | [] => by rw [show dList [] = dNil from rfl]; exact ⟨fun _ => trivial, fun _ => plain_dNil⟩
 | d :: l => by rw [dList_cons, plain_dPair, plain_dList, Plains]
theorem plain_kind {k : Int} (hk : k = 1 ∨ k = 2 ∨ k = 9 ∨ k = 10) : (kindD k).Plain := by
 rw [← plainB_iff]; exact plain_none k (by omega) (by simp [Bare, D.k, D.c, D.t, D.l, D.neg, D.mag, e0])
theorem sym_plain (s : ByteArray) : (dSym s).Plain ↔ txtOk s 1 = true := by
 rw [← plainB_iff, dSym, plain_sym (by simp [Bare, D.k, D.c, D.t, D.l, D.neg, D.mag])]
theorem mayB_iff {d : D} : mayB d = true ↔ d.Plain ∧ d.depth ≤ 64 := by
 unfold mayB; rw [Bool.and_eq_true, plainB_iff, decide_eq_true_eq]
theorem depth_sym (s : ByteArray) : (dSym s).depth = 0 := depth_leaf (by decide)
theorem depth_kind {k : Int} (h : k ≠ 8) : (kindD k).depth = 0 := depth_leaf h
theorem msr_sym (s : ByteArray) : (dSym s).msr = 1 := by rw [dSym, D.msr]; simp [msrs]
theorem msr_kind {k : Int} (h : k ≠ 8) : (kindD k).msr = 1 := by rw [kindD, D.msr, if_neg h]; simp [msrs]
theorem count_dList : ∀ (l : List D), (dList l).count = l.length + cnts l + 1
 | [] => rfl
 | d :: l => by rw [dList_cons, dPair, D.count, cnts, cnts, cnts, count_dList l, cnts, List.length_cons]; omega
theorem count_sym (s : ByteArray) : (dSym s).count = 1 := by rw [dSym, D.count]; simp [cnts]
theorem count_kind (k : Int) : (kindD k).count = 1 := by rw [kindD, D.count]; simp [cnts]
theorem items_dPair (a b : D) : items (dPair a b) = a :: items b := by
 unfold dPair; rw [items]; simp [itemsL]
theorem items_dList : ∀ (l : List D), items (dList l) = l
 | [] => rfl
 | d :: l => by rw [dList_cons, items_dPair, items_dList l]
theorem endK_dPair (a b : D) : endK (dPair a b) = endK b := by
 unfold dPair; rw [endK]; simp [endKs]
theorem endK_dList : ∀ (l : List D), endK (dList l) = 0
 | [] => rfl
 | d :: l => by rw [dList_cons, endK_dPair, endK_dList l]
theorem sym_ok {s : ByteArray} (h : s.size ≤ 140737488351232) : (dSym s).Ok := by simp [dSym, D.Ok, Oks, h]
theorem kind_ok {k : Int} (h : -9223372036854775808 ≤ k ∧ k ≤ 9223372036854775807) : (kindD k).Ok := by simp [kindD, D.Ok, Oks, h, e0, ByteArray.size]
theorem keyT {s : ByteArray} (h : s ∈ keyL) : keyB s = true := List.any_eq_true.2 ⟨s, h, eqB_pos rfl⟩
theorem keyF {s : ByteArray} (h : s ∉ keyL) : keyB s = false := by
 rw [keyB, List.any_eq_false]
 intro x hx e
 have := eqB_iff.1 e
 subst this
 exact h hx
theorem sym_k (s : ByteArray) : (dSym s).k = 6 := rfl
theorem sym_t (s : ByteArray) : (dSym s).t = s := rfl
theorem symB_sym (w s : ByteArray) : symB (dSym w) s = eqB w s := by simp [symB, sym_k, sym_t]
theorem symB_k {d : D} (h : d.k ≠ 6) (s : ByteArray) : symB d s = false := by simp [symB, h]
theorem headO_list (a : D) (r : List D) (s : ByteArray) : headO (dList (a :: r)) s = if symB a s = true then some r else none := by
 rw [dList_cons]
 unfold headO
 rw [show (dPair a (dList r)).fst = a from rfl, show (dPair a (dList r)).snd = dList r from rfl, show (dPair a (dList r)).k = 7 from rfl, endK_dList, items_dList]
 by_cases h : symB a s = true
 ·rw [if_pos ⟨rfl, h⟩, if_pos rfl, if_pos h]
 ·rw [if_neg (fun q => h q.2), if_neg h]
theorem headO_k {d : D} (h : d.k ≠ 7) (s : ByteArray) : headO d s = none := if_neg fun q => h q.1
theorem okI_list (l : List D) : itemsE (dList l) = (l, 0) := by unfold itemsE; rw [endK_dList, items_dList, if_pos rfl]
theorem exprE_list (ev : Ev) (a : D) (r : List D) : exprE ev (dList (a :: r)) = if a.k = 6 ∧ keyB a.t = true then formE ev a.t r else ((callE (eachE ev.e (a :: r)).1).1, max (eachE ev.e (a :: r)).2 (callE (eachE ev.e (a :: r)).1).2) := by
 unfold exprE
 rw [show (dList (a :: r)).k = 7 from rfl, if_neg (by decide), if_neg (by decide), if_pos rfl, endK_dList, if_pos rfl, items_dList]
theorem exprE_form (ev : Ev) {s : ByteArray} (h : s ∈ keyL) (r : List D) : exprE ev (dList (dSym s :: r)) = formE ev s r := by
 rw [exprE_list, if_pos ⟨rfl, keyT h⟩]; rfl
theorem exprE_call (ev : Ev) {a : D} (h : a.k ≠ 6 ∨ keyB a.t = false) (r : List D) : exprE ev (dList (a :: r)) = ((callE (eachE ev.e (a :: r)).1).1, max (eachE ev.e (a :: r)).2 (callE (eachE ev.e (a :: r)).1).2) := by
 rw [exprE_list, if_neg]
 rintro ⟨q1, q2⟩
 rcases h with h | h
 ·exact h q1
 ·rw [h] at q2; cases q2
theorem varE_sym {s : ByteArray} (h : keyB s = false) : varE (dSym s) = (s, 0) := if_pos ⟨rfl, h⟩
theorem exprE_sym (ev : Ev) {s : ByteArray} (h : keyB s = false) : exprE ev (dSym s) = (refK s, 0) := by
 unfold exprE
 rw [if_neg (by rw [sym_k]; decide), if_pos (sym_k s), varE_sym h]
theorem exprE_kind (ev : Ev) {k : Int} (h : k = 1 ∨ k = 2 ∨ k = 9) : exprE ev (kindD k) = (constK (kindD k), 0) := by
 unfold exprE
 rw [if_neg (by show ¬ k = 0; omega), if_neg (by show ¬ k = 6; omega), if_neg (by show ¬ k = 7; omega)]
noncomputable def topE (d : D) : Rs := topN (evs (d.msr + 1)) (d.msr + 1) d
theorem topE_expr {d : D} (h1 : headO d sDefine = none) (h2 : headO d sBegin = none) : topE d = exprE (evs d.msr) d := by
 unfold topE; rw [topN, h1]; dsimp only; rw [h2]; rfl
-- forms, by their words
theorem formE_lambda (ev : Ev) (a : D) (r : List D) : formE ev sLambda (a :: r) = functionE ev a r := by
 unfold formE; (iterate 2 rw [if_neg (by rintro ⟨h, -⟩; exact absurd h (by decide))]); rw [if_pos ⟨rfl, by simp⟩]; rfl
theorem formE_other (ev : Ev) {w : ByteArray} (h : w = sLet ∨ w = sLetS ∨ w = sLetrec ∨ w = sLetrecS ∨ w = sCond ∨ w = sDo ∨ w = sAnd ∨ w = sOr ∨ w = sElse) (l : List D) : formE ev w l = derivedE ev w l := by
 unfold formE
 rcases h with rfl | rfl | rfl | rfl | rfl | rfl | rfl | rfl | rfl <;> ((iterate 6 rw [if_neg (by rintro ⟨h, -⟩; exact absurd h (by decide))]); rw [if_neg (by decide)]; (iterate 3 rw [if_neg (by rintro ⟨h, -⟩; exact absurd h (by decide))]))
theorem formE_let (ev : Ev) (l : List D) : formE ev sLet l = letE ev l := by
 rw [formE_other ev (.inl rfl)]; unfold derivedE; rw [if_pos rfl]
theorem formE_else (ev : Ev) (l : List D) : formE ev sElse l = (kz, 2) := by
 rw [formE_other ev (.inr (.inr (.inr (.inr (.inr (.inr (.inr (.inr rfl))))))))]; unfold derivedE; (iterate 7 rw [if_neg (by decide)])
-- bodies
theorem splN_flat : ∀ (n : Nat) (l : List D), (∀ d ∈ l, headO d sBegin = none) → splN n l = l
 | 0, l, _ => rfl
 | n + 1, [], _ => rfl
 | n + 1, d :: l, h => by
  have h1 := splN_flat (n + 1) l fun x hx => h x (by simp [hx])
  rw [splN] at h1 ⊢
  rw [List.flatMap_cons, h1, h d (by simp)]; rfl
theorem bods_flat (ev : Ev) : ∀ (l : List D) (s : Bs), (∀ d ∈ l, headO d sDefine = none) → l.foldl (bodStep ev) s = ⟨s.names, s.values, s.rest ++ l.map fun d => (ev.e d).1, (l.map fun d => (ev.e d).2).foldl max s.err⟩
 | [], s, _ => by simp
 | d :: l, s, h => by
  rw [List.foldl_cons, bods_flat ev l _ fun x hx => h x (by simp [hx])]
  unfold bodStep; rw [h d (by simp)]; simp
theorem bodE_flat (ev : Ev) {l : List D} (hl : l ≠ []) (h : ∀ d ∈ l, headO d sBegin = none ∧ headO d sDefine = none) : bodE ev l = seqE ev.e l := by
 unfold bodE spl
 rw [splN_flat _ _ fun d hd => (h d hd).1, bods, bods_flat ev l _ fun d hd => (h d hd).2]
 unfold bodEnd seqE eachE
 rw [if_neg (by simpa using hl), if_pos rfl, if_neg hl]
 simp [supN]
theorem seqE_one (E : D → Rs) (d : D) : seqE E [d] = E d := by simp [seqE, eachE, seqK, supN]
theorem lamE_small (ps : List ByteArray) (h : ps.length ≤ 40) (b : K) : lamE ps e0 b = (.mk 6 e0 e0 ps dNil [b], 0) := by
 unfold lamE; rw [if_neg (by simp; omega)]
theorem callE_small {l : List K} (h : l.length ≤ 41) : callE l = (callK l, 0) := if_neg (by omega)
theorem unl_one (s : ByteArray) : unl [s] = 0 := by unfold unl; rw [if_pos (by simp)]
theorem bindE_one {s : ByteArray} (h : keyB s = false) (x : D) : bindE (dList [dList [dSym s, x]]) = ([s], [x], 0) := by
 unfold bindE
 rw [okI_list]
 have h1 : pairO (dList [dSym s, x]) = some (dSym s, x) := by unfold pairO; rw [endK_dList, if_pos rfl, items_dList]
 simp [h1, varE_sym h, supN]
theorem endD_pair (a b : D) : endD (dPair a b) = endD b := by unfold dPair; rw [endD]; simp [endDs]
theorem endD_list : ∀ l : List D, endD (dList l) = dNil
 | [] => by rw [show dList [] = dNil from rfl, dNil, endD]; simp
 | d :: l => by rw [dList_cons, endD_pair, endD_list l]
theorem formalsE_one {s : ByteArray} (h : keyB s = false) : formalsE (dList [dSym s]) = ([s], e0, 0) := by
 unfold formalsE
 rw [endD_list, items_dList]
 dsimp only
 rw [show dNil.k = 0 from rfl, if_pos rfl]
 simp [supN, varE_sym h, unl_one]
end Go.Proofs.YtaeioidifpebdaaGreatDoor
end
section
namespace Go.Proofs.YtaeioidifpebdaaGreatDoor
open Go.RowKit Go.Extern.Stop Go.Stop Go.Extern
set_option linter.unusedSimpArgs false
set_option linter.unusedVariables false
set_option maxRecDepth 1000000
def cmpX : Array Value → Sem Value := Extern.ReflectliteType.method fun t => do Extern.Rtype.noPackHeld "Comparable" t; pure (.bool (← typeInfo t).comparable)
theorem isTypeOf (v : Value) (w : World) : (Extern.ReflectliteType.typeOf #[.iface 183 v]).run Tryz.prog w = .ok (.iface 122 (.agg #[.pointer (some ⟨4, 183, none⟩)])) w := by kernel_rfl
theorem isComparable (w : World) : (cmpX #[.agg #[.pointer (some ⟨4, 183, none⟩)]]).run Tryz.prog w = .ok (.bool true) w := by kernel_rfl
theorem isMethodComparable (v : Value) (w : World) : (Go.method 320 122 v "Comparable").run Tryz.prog w = .ok (161, v) w := by kernel_rfl
theorem isComp : (Tryz.prog.info? 183).map (·.comparable) = some true := by kernel_rfl
theorem isSize : (Tryz.prog.info? 208).map (·.size) = some 1 := by kernel_rfl
theorem noIsE (v : Value) (xT : TypeId) (w : World) : (Instr.typeAssert (.iface 183 v) xT 124 true).run Tryz.prog w = .ok (.tuple #[.nilIface, .bool false]) w := run_typeAssert_lacksB Tryz.underlying124 (by kernel_rfl) (by kernel_rfl) v xT w
theorem noUnwrapE (v : Value) (xT : TypeId) (w : World) : (Instr.typeAssert (.iface 183 v) xT 127 true).run Tryz.prog w = .ok (.tuple #[.nilIface, .bool false]) w := run_typeAssert_lacksB Tryz.underlying127 (by kernel_rfl) (by kernel_rfl) v xT w
theorem noUnwrapsE (v : Value) (xT : TypeId) (w : World) : (Instr.typeAssert (.iface 183 v) xT 129 true).run Tryz.prog w = .ok (.tuple #[.nilIface, .bool false]) w := run_typeAssert_lacksB Tryz.underlying129 (by kernel_rfl) (by kernel_rfl) v xT w
theorem noIsW (v : Value) (xT : TypeId) (w : World) : (Instr.typeAssert (.iface 147 v) xT 124 true).run Tryz.prog w = .ok (.tuple #[.nilIface, .bool false]) w := run_typeAssert_lacksB Tryz.underlying124 (by kernel_rfl) (by kernel_rfl) v xT w
theorem hasUnwrapW (v : Value) (xT : TypeId) (w : World) : (Instr.typeAssert (.iface 147 v) xT 127 true).run Tryz.prog w = .ok (.tuple #[.iface 147 v, .bool true]) w := run_typeAssert_hasB Tryz.underlying127 (by kernel_rfl) v xT w
theorem methodUnwrap (v : Value) (w : World) : (Go.method 320 147 v "Unwrap").run Tryz.prog w = .ok (171, v) w := by kernel_rfl
theorem is_nil (b : Addr) (w : World) :
  Calls Tryz.prog 41 #[.nilIface, .iface 183 (.pointer (some b))] w fun e w' => e = .returned (.bool false) ∧ w' = w := by
 have hn := run_eql_iface_nil_left (P := Tryz.prog) w 183 (.pointer (some b)) Tryz.underlying62
 go_enter Tryz.func41, Tryz.ntmps41
 go_wp2
 go_ret
 exact ⟨rfl, rfl⟩
theorem is_wrap_same (pb po : Nat) (b : Addr) (w : World) (h1 : w.cell? ⟨pb, po + 1, none⟩ = some (.iface 183 (.pointer (some b)))) :
  Calls Tryz.prog 41 #[.iface 147 (.pointer (some ⟨pb, po, none⟩)), .iface 183 (.pointer (some b))] w fun e w' => e = .returned (.bool true) ∧ w' = w := by
 obtain ⟨i, hi, hcmp⟩ := Option.map_eq_some_iff.1 isComp
 obtain ⟨j, hj, hjs⟩ := Option.map_eq_some_iff.1 isSize
 have h8 := @run_callFunc_extern Tryz.prog 61 _ Extern.ReflectliteType.typeOf Tryz.func61 (by kernel_rfl) (by kernel_rfl) (by kernel_rfl) (by kernel_rfl)
 have h32 := @run_callFunc_extern Tryz.prog 161 _ cmpX Tryz.func161 (by kernel_rfl) (by kernel_rfl) (by kernel_rfl) (by kernel_rfl)
 have tT := isTypeOf
 have cT := isComparable
 have mR := isMethodComparable
 have nE := noIsE
 have uE := noUnwrapE
 have vE := noUnwrapsE
 have nW := noIsW
 have uW := hasUnwrapW
 have mU := methodUnwrap
 have heq := run_eql_iface_ptr_same (P := Tryz.prog) w b Tryz.underlying62 Tryz.underlying183 hi hcmp hj
 have hty := run_eql_iface_types (P := Tryz.prog) 147 183 (.pointer (some ⟨pb, po, none⟩)) (.pointer (some b)) Tryz.underlying62 (by decide) w
 go_enter Tryz.func41, Tryz.ntmps41
 go_wp2
 refine wp_loop_rounds 2 ?_
 rw [rounds_succ]
 go_wp2
 rw [rounds_succ]
 go_wp2
 go_ret
 exact ⟨rfl, rfl⟩
theorem is_wrap_other (pb po : Nat) (b : Addr) (a : Addr) (ca cb : Array Value) (ta tb : TypeId) (w : World) (h1 : w.cell? ⟨pb, po + 1, none⟩ = some (.iface 183 (.pointer (some a)))) (hne : a ≠ b) (ha : w.heap[a.block]? = some (.cells ca ta (0, 0))) (hb : w.heap[b.block]? = some (.cells cb tb (0, 0))) :
  Calls Tryz.prog 41 #[.iface 147 (.pointer (some ⟨pb, po, none⟩)), .iface 183 (.pointer (some b))] w fun e w' => e = .returned (.bool false) ∧ w' = w := by
 obtain ⟨i, hi, hcmp⟩ := Option.map_eq_some_iff.1 isComp
 obtain ⟨j, hj, hjs⟩ := Option.map_eq_some_iff.1 isSize
 have h8 := @run_callFunc_extern Tryz.prog 61 _ Extern.ReflectliteType.typeOf Tryz.func61 (by kernel_rfl) (by kernel_rfl) (by kernel_rfl) (by kernel_rfl)
 have h32 := @run_callFunc_extern Tryz.prog 161 _ cmpX Tryz.func161 (by kernel_rfl) (by kernel_rfl) (by kernel_rfl) (by kernel_rfl)
 have tT := isTypeOf
 have cT := isComparable
 have mR := isMethodComparable
 have nE := noIsE
 have uE := noUnwrapE
 have vE := noUnwrapsE
 have nW := noIsW
 have uW := hasUnwrapW
 have mU := methodUnwrap
 have heq := run_eql_iface_ptr_other (P := Tryz.prog) w Tryz.underlying62 Tryz.underlying183 hi hcmp hj (by rw [hjs]; decide) hne ha hb
 have hty := run_eql_iface_types (P := Tryz.prog) 147 183 (.pointer (some ⟨pb, po, none⟩)) (.pointer (some b)) Tryz.underlying62 (by decide) w
 go_enter Tryz.func41, Tryz.ntmps41
 go_wp2
 refine wp_loop_rounds 2 ?_
 rw [rounds_succ]
 go_wp2
 rw [rounds_succ]
 go_wp2
 go_ret
 exact ⟨rfl, rfl⟩
end Go.Proofs.YtaeioidifpebdaaGreatDoor
end
section
namespace Go.Proofs.YtaeioidifpebdaaGreatDoor
open Go Go.RowKit Go.Lib
set_option linter.unusedSimpArgs false
set_option linter.unusedVariables false
set_option maxHeartbeats 4000000
set_option maxRecDepth 100000
theorem sym_pure (s : ByteArray) : Pure Tryz.prog 137 [.one (.v (.string s))] (.agg (dSym s).cc) := by
 refine pure_old fun w vs hg hv => ?_
 obtain ⟨v, rfl, hv1⟩ := hv.one1
 simp only [Ca, Cc] at hv1
 obtain ⟨rfl, -⟩ := hv1
 exact (sym_any s w).mono fun e w' ⟨v', he, hx, hr⟩ => ⟨v', he, hx, IsD.ca hr⟩
theorem list_pure (l : List D) (hok : Oks l) (hlen : l.length ≤ 1599289640354) : Pure Tryz.prog 125 [.one (.sl 6 (l.map D.cc))] (.agg (dList l).cc) := by
 refine pure_old fun w vs hg hv => ?_
 obtain ⟨v, rfl, hv1⟩ := hv.one1
 exact (list_any l w v hok hlen hv1.isDs).mono fun e w' ⟨v', he, hx, hr⟩ => ⟨v', he, hx, IsD.ca hr⟩
theorem cons_pure (d f : D) (hd : d.Ok) (hf : f.Ok) : Pure Tryz.prog 95 [.agg d.cc, .agg f.cc] (.agg (dCons d f).cc) := by
 refine pure_old fun w vs hg hv => ?_
 obtain ⟨v, u, rfl, hv1, hu1⟩ := hv.two
 exact (cons_any d f w v u hd hf hv1.isD hu1.isD).mono fun e w' ⟨v', he, hx, hr⟩ => ⟨v', he, hx, IsD.ca hr⟩
def okItems (d : D) : List D := if endK d = 0 then items d else []
theorem items_pure (d : D) (hok : d.Ok) (hlen : (items d).length ≤ 1000000000) : Pure Tryz.prog 83 [.agg d.cc] (.tup [.one (.sl 6 ((okItems d).map D.cc)), .one (.v (.bool (decide (endK d = 0))))]) := by
 refine pure_old fun w vs hg hv => ?_
 obtain ⟨v, rfl, hv1⟩ := hv.one1
 refine (items_any d w v hok hlen hv1.isD).mono fun e w' ⟨v', he, hx, hr⟩ => ⟨_, he, hx, ?_⟩
 simp only [Ca, Cas]
 exact ⟨[v', _], rfl, v', _, rfl, IsDs.ca hr, _, _, rfl, by simp [Cc, Value.oneCell'], rfl⟩
-- errors
theorem GL.two_is {w : World} (h : GL w) (n : Nat) {u : Value} (hu : CellsAt w (erG n) 0 [u]) : ∃ (a : Addr) (ca : Array Value) (ta : TypeId), u = .iface 183 (.pointer (some a)) ∧ w.heap[a.block]? = some (.cells ca ta (0, 0)) := by
 obtain ⟨g1, a, b, ca, cb, ta, tb, g2, g3, g6, g7, g8, g4, g5⟩ := h
 have hu1 : w.cell? ⟨erG n, 0, none⟩ = some u := hu.1
 cases n with
 | zero =>
  have : some u = _ := hu1.symm.trans g2
  cases this
  exact ⟨a, ca, ta, rfl, g4⟩
 | succ n =>
  have : some u = _ := hu1.symm.trans g3
  cases this
  exact ⟨b, cb, tb, rfl, g5⟩
theorem ptr_inj {w : World} {p : Addr} {t t' : TypeId} {a b : Addr} (h1 : w.cell? p = some (.iface t (.pointer (some a)))) (h2 : w.cell? p = some (.iface t' (.pointer (some b)))) : a = b := by
 rw [h1] at h2
 simp only [Option.some.injEq, Value.iface.injEq, Value.pointer.injEq] at h2
 exact h2.2
theorem GL.ne {w : World} (hg : GL w) {n g : Nat} (hn : n + 1 ≤ 2) (hg1 : g ≤ 1) (hng : ¬ n = g) {t t' : TypeId} {a b : Addr} (e1 : w.cell? ⟨erG n, 0, none⟩ = some (.iface t (.pointer (some a)))) (e2 : w.cell? ⟨erG g, 0, none⟩ = some (.iface t' (.pointer (some b)))) : a ≠ b := by
 intro hab
 subst hab
 obtain ⟨g1, a', b', ca', cb', ta', tb', g2, g3, g6, g7, g8, -⟩ := hg
 obtain ⟨rfl, rfl⟩ | ⟨rfl, rfl⟩ : (n = 0 ∧ g = 1) ∨ (n = 1 ∧ g = 0) := by omega
 ·exact g8 ((ptr_inj g2 e1).trans (ptr_inj g3 e2).symm)
 ·exact g8 ((ptr_inj g2 e2).trans (ptr_inj g3 e1).symm)
theorem is_pure (n g : Nat) (hn : n ≤ 2) (hg1 : g ≤ 1) : Pure Tryz.prog 41 [.one (.er n), .one (.gv (erG g))] (.one (.v (.bool (decide (n = g + 1))))) := by
 refine pure_old_v rfl fun w vs hg hv => ?_
 obtain ⟨v, u, rfl, hv1, hu1⟩ := hv.two
 simp only [Ca, Cc] at hv1 hu1
 obtain ⟨b, cb, tb, rfl, hb⟩ := hg.two_is g hu1.2
 cases n with
 | zero =>
  obtain rfl : v = .nilIface := hv1
  exact (is_nil b w).mono fun e w' ⟨he, hw⟩ => ⟨by rw [he]; simp, hw ▸ Ext.refl _⟩
 | succ n =>
  obtain ⟨pb, po, s, e, rfl, h1, h2⟩ := hv1
  obtain ⟨a, ca, ta, rfl, ha⟩ := hg.two_is n h2
  have hc : w.cell? ⟨pb, po + 1, none⟩ = some (.iface 183 (.pointer (some a))) := h1.2.1
  have e1 : w.cell? ⟨erG n, 0, none⟩ = some (.iface 183 (.pointer (some a))) := h2.1
  have e2 : w.cell? ⟨erG g, 0, none⟩ = some (.iface 183 (.pointer (some b))) := hu1.2.1
  by_cases hng : n = g
  ·subst hng
   have := ptr_inj e1 e2
   subst this
   exact (is_wrap_same pb po a w hc).mono fun e w' ⟨he, hw⟩ => ⟨by rw [he]; simp, hw ▸ Ext.refl _⟩
  ·have hne : a ≠ b := GL.ne hg hn hg1 hng e1 e2
   exact (is_wrap_other pb po b a ca cb ta tb w hc hne ha hb).mono fun e w' ⟨he, hw⟩ => ⟨by rw [he, decide_eq_false (by omega)], hw ▸ Ext.refl _⟩
theorem wrong_pure (s : ByteArray) (n : Nat) : Pure Tryz.prog 84 [.one (.v (.string s)), .one (.gv (erG n))] (.one (.er (n + 1))) := by
 refine pure_oldG fun w vs hg hv => ?_
 obtain ⟨v, u, rfl, hv1, hu1⟩ := hv.two
 simp only [Ca, Cc] at hv1 hu1
 obtain ⟨rfl, -⟩ := hv1
 obtain ⟨b, cb, tb, rfl, hb⟩ := hg.two_is n hu1.2
 go_enter Tryz.func84, Tryz.ntmps84
 go_wp2_with fail
 refine bodyPost_ret (v := .iface 147 (.pointer (some ⟨w.heap.size, 0, none⟩))) (by simp [results, Tryz.results84, go_sem]) rfl ⟨_, rfl, (Ext.refl _).alloc _, ?_⟩
 have hnew := heap_new w (.cells #[.string s, .iface 183 (.pointer (some b))] 149)
 have hx : Ext w (w.alloc (.cells #[.string s, .iface 183 (.pointer (some b))] 149)) := (Ext.refl _).alloc _
 refine ⟨w.heap.size, 0, .string s, .iface 183 (.pointer (some b)), rfl, ⟨?_, ?_, trivial⟩, ⟨?_, trivial⟩⟩
 ·rw [only_cell, if_pos (by simp)]; unfold World.cell?; rw [hnew]; rfl
 ·rw [only_cell, if_pos (by simp)]; unfold World.cell?; rw [hnew]; rfl
 ·rw [only_cell, if_pos (by cases n <;> simp [GB, erG])]
  exact hx.keeps _ _ hu1.2.1
end Go.Proofs.YtaeioidifpebdaaGreatDoor
end
section
namespace Go.Proofs.YtaeioidifpebdaaGreatDoor
open Go Go.RowKit
set_option linter.unusedSimpArgs false
set_option linter.unusedVariables false
set_option maxHeartbeats 4000000
set_option maxRecDepth 100000
theorem strEq (a b : ByteArray) : (a.toList == b.toList) = eqB a b := by
 by_cases h : a = b
 ·rw [eqB_pos h]; simp [h]
 ·rw [eqB_neg h]; simpa using fun e => h (eq_of_toList e)
theorem run_eql_sl_nil {P : Program} {w : World} {t e : TypeId} {a : Option Addr} {n c : Nat} (h : P.underlying t = some (.slice e)) : (Op.equal t (.slice a n c) (.slice none 0 0)).run P w = .ok a.isNone w := by
 have hun : (underlying t).run P w = .ok (.slice e) w := by simp [underlying, program, bind, Sem.bind, Sem.run, h, pure]
 unfold Op.equal Op.maxDepth
 rw [Op.equalIn]
 cases a <;> simp only [Sem.run_bind, hun, Result.andThen_ok, Sem.run_pure, Option.isNone_none, Option.isNone_some]
theorem WpL.nilSl {P : Program} {nt : Cf} {ops : Array Oper} {Q : St → Prop} {st : St} {rest : List Oper} {d : Option Tmp} {t ty t' e : TypeId} {x : Operand} {pos : String} {aft : Array Edge} {wd : Nat} {es : List (List C)} (hd : fits nt d = true)
  (hx : rdA st.e x = some (.one (.sl wd es))) (ht : P.underlying t = some (.slice e)) (h : ∀ b, (es ≠ [] → b = false) → WpL P nt ops Q rest (st.put d (.one (.v (.bool b))))) : WpL P nt ops Q (⟨d, .binOp .eql t x (.const (.slice none 0 0)) t', ty, pos, aft, none⟩ :: rest) st := fun H w0 S0 m0 m a w hs Q' hQ => by
 have h1 := hs.rd hx
 simp only [Ca, Cc] at h1
 have key : ∃ q n c, a.eval x = .slice q n c ∧ (es ≠ [] → q.isNone = false) := by
  rcases h1.2 with ⟨h0, hn⟩ | ⟨b, o, cap, hu, -⟩
  ·rcases hn with hn | ⟨q, cap, hn, -⟩
   ·exact ⟨_, _, _, hn, fun hne => absurd h0 hne⟩
   ·exact ⟨_, _, _, hn, fun hne => absurd h0 hne⟩
  ·exact ⟨_, _, _, hu, fun _ => rfl⟩
 obtain ⟨q, n, c, hu, hq⟩ := key
 have hnext := h q.isNone hq H w0 S0 m0 m _ w (hs.put hd (caV rfl)) Q' hQ
 unfold wpList
 rw [if_pos (by rfl)]
 refine .inl ?_
 unfold Oper.wp
 have hrun : (execOp a.eval ⟨d, .binOp .eql t x (.const (.slice none 0 0)) t', ty, pos, aft, none⟩).run P w = .ok (.value (.bool q.isNone)) w := by
  have e2 : a.eval (.const (.slice none 0 0)) = .slice none 0 0 := rfl
  simp only [execOp, hu, e2, Sem.run_bind, run_eqGuard (P := P) (w := w) _ t x (.const (.slice none 0 0)) (.slice q n c) (.slice none 0 0) (by simp) (by simp), Result.andThen_ok, binOp, run_eql_sl_nil ht, Sem.run_pure]
 rw [hrun]
 exact hnext
noncomputable def posn (l : List ByteArray) (s : ByteArray) : Option Nat := l.findIdx? fun a => eqB s a
noncomputable def idx (l : List ByteArray) (s : ByteArray) : Int := match posn l s with | some k => k | none => -1
theorem posn_some {l : List ByteArray} {s : ByteArray} {k : Nat} (h : k < l.length) (hk : s = l[k]) (hb : ∀ j (h : j < l.length), j < k → s ≠ l[j]) : posn l s = some k := by
 unfold posn
 rw [List.findIdx?_eq_some_iff_getElem]
 exact ⟨h, eqB_pos hk, fun j hj => by rw [eqB_neg (hb j (by omega) hj)]; simp⟩
theorem posn_none {l : List ByteArray} {s : ByteArray} (hb : ∀ j (h : j < l.length), s ≠ l[j]) : posn l s = none := by
 unfold posn
 rw [List.findIdx?_eq_none_iff]
 intro x hx
 obtain ⟨j, hj, rfl⟩ := List.mem_iff_getElem.1 hx
 exact eqB_neg (hb j hj)
def IxI (l : List ByteArray) (s : ByteArray) (n : Nat) (st : St) : Prop := ∃ i : Nat, n = l.length - i ∧ i ≤ l.length ∧ (∀ j (h : j < l.length), j < i → s ≠ l[j]) ∧
 st = ⟨[(8, .one (.v (.int .i64 i))), (7, .one (.v (.int .i64 l.length))), (0, .one (.sl 1 (strC l))), (1, .one (.v (.string s)))], []⟩
theorem index_pure (l : List ByteArray) (s : ByteArray) (hlen : l.length ≤ 1000000000000001) : Pure Tryz.prog 117 [.one (.sl 1 (strC l)), .one (.v (.string s))] (.one (.v (.int .i64 (idx l s)))) := by
 have hl := strC_len l
 refine Fn.intro Tryz.func117 rfl Tryz.ntmps117 Tryz.results117 (by simp only [List.length_cons, List.length_nil]; decide) ?_
 repeat (first | (apply fw; (with_reducible constructor) <;> rfl) | (apply WpA.cd; constructor) | ((first | with_reducible refine WpA.go _ rfl fun Y y => ?_ | apply RunTo.id); simp only [zb, seval, w117, hl]; refine RunTo.fn y (by first | (simp; done) | omega | (simp; omega)) ?_; clear y Y))
 refine WpA.loop (IxI l s) l.length ?_ ⟨0, rfl, Nat.zero_le _, fun j _ h => absurd h (Nat.not_lt_zero _), rfl⟩ ?_
 ·exact Le.sub (by simp [Sub, find])
 intro n' st hI
 obtain ⟨i, rfl, hi, hb, rfl⟩ := hI
 have hw2 : IntKind.i64.wrap ((i : Int) + 1) = ((i + 1 : Nat) : Int) := by rw [wrap64 (by omega) (by omega)]; omega
 by_cases hlt : i < l.length
 ·have hd1 : decide ((i : Int) < (l.length : Int)) = true := by simp; omega
  have hget := strC_get hlt
  by_cases he : s = l[i]
  ·have hee := eqB_pos he
   repeat (first | (apply fw; (with_reducible constructor) <;> rfl) | (apply WpA.cd; constructor) | ((first | with_reducible refine WpA.go _ rfl fun Y y => ?_ | apply RunTo.id); simp only [zb, seval, w117, hd1, hget, strEq, hee]; refine RunTo.fn y (by first | (simp; done) | omega | (simp; omega)) ?_; clear y Y))
   refine ⟨by simp, _, _, _, _, (by simp only [zb, seval, w117]; rfl), (by simp), (by simp only [zv]; rfl), (by simp), _, ALe.refl _, ?_⟩
   rw [idx, posn_some hlt he hb]
  ·have hee := eqB_neg he
   repeat (first | (apply fw; (with_reducible constructor) <;> rfl) | (apply WpA.cd; constructor) | ((first | with_reducible refine WpA.go _ rfl fun Y y => ?_ | apply RunTo.id); simp only [zb, seval, w117, hd1, hget, strEq, hee, hw2]; refine RunTo.fn y (by first | (simp; done) | omega | (simp; omega)) ?_; clear y Y))
   refine ⟨l.length - (i + 1), _, by omega, Le.sub (by simp [Sub, find]), i + 1, rfl, hlt, fun j hj hji => ?_, rfl⟩
   rcases Nat.lt_succ_iff_lt_or_eq.1 hji with h | rfl
   ·exact hb j hj h
   ·exact he
 ·have hd0 : decide ((i : Int) < (l.length : Int)) = false := by simp; omega
  repeat (first | (apply fw; (with_reducible constructor) <;> rfl) | (apply WpA.cd; constructor) | ((first | with_reducible refine WpA.go _ rfl fun Y y => ?_ | apply RunTo.id); simp only [zb, seval, w117, hd0]; refine RunTo.fn y (by first | (simp; done) | omega | (simp; omega)) ?_; clear y Y))
  repeat (first | (apply fw; (with_reducible constructor) <;> rfl) | (apply WpA.cd; constructor) | ((first | with_reducible refine WpA.go _ rfl fun Y y => ?_ | apply RunTo.id); simp only [zb, seval, w117, hd0]; refine RunTo.fn y (by first | (simp; done) | omega | (simp; omega)) ?_; clear y Y))
  refine ⟨by simp, _, _, _, _, (by simp only [zb, seval, w117]; rfl), (by simp), (by simp only [zv]; rfl), (by simp), _, ALe.refl _, ?_⟩
  rw [idx, posn_none fun j hj => hb j hj (by omega)]
theorem contains_pure (l : List ByteArray) (s : ByteArray) (hlen : l.length ≤ 1000000000000001) : Pure Tryz.prog 99 [.one (.sl 1 (strC l)), .one (.v (.string s))] (.one (.v (.bool (decide (0 ≤ idx l s))))) := by
 refine Fn.intro Tryz.func99 rfl Tryz.ntmps99 Tryz.results99 (by simp only [List.length_cons, List.length_nil]; decide) ?_
 repeat (first | (apply fw; (with_reducible constructor) <;> rfl) | (apply WpA.cd; constructor) | ((first | with_reducible refine WpA.go _ rfl fun Y y => ?_ | apply RunTo.id); simp only [zb, seval]; refine RunTo.fn y (by first | (simp; done) | omega | (simp; omega)) ?_; clear y Y))
 refine WpL.call rfl (guardA_sound (P := Tryz.prog) rfl) (CallA.shut rfl rfl (by kernel_rfl) (ALes.refl _) (by first | rfl | simp [shuts, A.shut, C.shut]) (index_pure l s hlen) ?_)
 (refine WpL.go _ rfl fun Y y => ?_); repeat (first | (apply fw; (with_reducible constructor) <;> rfl) | (apply WpA.cd; constructor) | ((first | with_reducible refine WpA.go _ rfl fun Y y => ?_ | apply RunTo.id); simp only [zb, seval]; refine RunTo.fn y (by first | (simp; done) | omega | (simp; omega)) ?_; clear y Y))
 refine ⟨by simp, _, _, _, _, (by simp only [zb, seval]; rfl), (by simp), (by simp only [zv]; rfl), (by simp), _, ALe.refl _, ?_⟩
 rfl
end Go.Proofs.YtaeioidifpebdaaGreatDoor
end
section
namespace Go.Proofs.YtaeioidifpebdaaGreatDoor
open Go Go.RowKit Go.Lib
set_option linter.unusedSimpArgs false
set_option linter.unusedVariables false
set_option maxHeartbeats 4000000
set_option maxRecDepth 100000
theorem same_pure (a b : D) : Pure Tryz.prog 36 [.agg a.cc, .agg b.cc] (.one (.v (.bool (eqB a b)))) := by
 refine pure_old_v rfl fun w vs hg hv => ?_
 obtain ⟨v, u, rfl, hv1, hu1⟩ := hv.two
 exact same_any a b w v u hv1.isD hu1.isD
def EqI (a b : List ByteArray) (n : Nat) (st : St) : Prop := ∃ i : Nat, n = a.length - i ∧ i ≤ a.length ∧ a.take i = b.take i ∧
 st = ⟨[(13, .one (.v (.int .i64 i))), (12, .one (.v (.int .i64 a.length))), (0, .one (.sl 1 (strC a))), (1, .one (.sl 1 (strC b)))], []⟩
theorem equalS_pure (a b : List ByteArray) (hlen : a.length ≤ 1000000000000000) : Pure Tryz.prog 35 [.one (.sl 1 (strC a)), .one (.sl 1 (strC b))] (.one (.v (.bool (eqB a b)))) := by
 have hla := strC_len a
 have hlb := strC_len b
 by_cases hl : a.length = b.length
 case neg =>
  have hne : ((a.length : Int) != (b.length : Int)) = true := by simp; omega
  rw [eqB_neg fun h => hl (by rw [h])]
  refine Fn.intro Tryz.func35 rfl Tryz.ntmps35 Tryz.results35 (by simp only [List.length_cons, List.length_nil]; decide) ?_
  repeat (first | (apply fw; (with_reducible constructor) <;> rfl) | (apply WpA.cd; constructor) | ((first | with_reducible refine WpA.go _ rfl fun Y y => ?_ | apply RunTo.id); simp only [zb, seval, w35, hla, hlb, hne]; refine RunTo.fn y (by first | (simp; done) | omega | (simp; omega)) ?_; clear y Y))
  refine ⟨by simp, _, _, _, _, (by simp only [zb, seval, w35]; rfl), (by simp), (by simp only [zv]; rfl), (by simp), _, ALe.refl _, ?_⟩
  rfl
 have hne : ((a.length : Int) != (b.length : Int)) = false := by simp; omega
 refine Fn.intro Tryz.func35 rfl Tryz.ntmps35 Tryz.results35 (by simp only [List.length_cons, List.length_nil]; decide) ?_
 repeat (first | (apply fw; (with_reducible constructor) <;> rfl) | (apply WpA.cd; constructor) | ((first | with_reducible refine WpA.go _ rfl fun Y y => ?_ | apply RunTo.id); simp only [zb, seval, w35, hla, hlb, hne]; refine RunTo.fn y (by first | (simp; done) | omega | (simp; omega)) ?_; clear y Y))
 refine WpA.loop (EqI a b) a.length ?_ ⟨0, rfl, Nat.zero_le _, rfl, rfl⟩ ?_
 ·exact Le.sub (by simp [Sub, find])
 intro n' st hI
 obtain ⟨i, rfl, hi, hb, rfl⟩ := hI
 have hw2 : IntKind.i64.wrap ((i : Int) + 1) = ((i + 1 : Nat) : Int) := by rw [wrap64 (by omega) (by omega)]; omega
 by_cases hlt : i < a.length
 ·have hd1 : decide ((i : Int) < (a.length : Int)) = true := by simp; omega
  have hga := strC_get hlt
  have hgb := strC_get (l := b) (i := i) (by omega)
  by_cases he : a[i] = b[i]
  ·have hee := eqB_pos he
   repeat (first | (apply fw; (with_reducible constructor) <;> rfl) | (apply WpA.cd; constructor) | ((first | with_reducible refine WpA.go _ rfl fun Y y => ?_ | apply RunTo.id); simp only [zb, seval, w35, hd1]; refine RunTo.fn y (by first | (simp; done) | omega | (simp; omega)) ?_; clear y Y))
   (refine WpA.draw0 9 _ _ _ rfl rfl rfl (by kernel_rfl) (by kernel_rfl) (by kernel_rfl) fun K8 hK8 => ?_); simp only [zz] at hK8 ⊢; (refine Draw0.go fun K7 hK7 => ?_); simp only [zb, seval, w35, hga, hgb, strEq, hee, hw2]; (refine RunQ.mk (by first | (simp; done) | omega | (simp; omega)) (hK7 _ _ ?_)); clear hK7 K7; (try ((refine Draw0.nil (hK8 _ ?_)); clear hK8 K8; (refine WpL.go _ rfl fun Y y => ?_); repeat (first | (apply fw; (with_reducible constructor) <;> rfl) | (apply WpA.cd; constructor) | ((first | with_reducible refine WpA.go _ rfl fun Y y => ?_ | apply RunTo.id); simp only [zb, seval, w35, hga, hgb, strEq, hee, hw2]; refine RunTo.fn y (by first | (simp; done) | omega | (simp; omega)) ?_; clear y Y))))
   refine ⟨a.length - (i + 1), _, by omega, Le.sub (by simp [Sub, find]), i + 1, rfl, hlt, ?_, rfl⟩
   rw [List.take_succ_eq_append_getElem hlt, List.take_succ_eq_append_getElem (by omega), hb, he]
  ·have hee := eqB_neg he
   rw [eqB_neg fun h => he (by simp [h])]
   repeat (first | (apply fw; (with_reducible constructor) <;> rfl) | (apply WpA.cd; constructor) | ((first | with_reducible refine WpA.go _ rfl fun Y y => ?_ | apply RunTo.id); simp only [zb, seval, w35, hd1]; refine RunTo.fn y (by first | (simp; done) | omega | (simp; omega)) ?_; clear y Y))
   (refine WpA.draw0 9 _ _ _ rfl rfl rfl (by kernel_rfl) (by kernel_rfl) (by kernel_rfl) fun K8 hK8 => ?_); simp only [zz] at hK8 ⊢; (refine Draw0.go fun K7 hK7 => ?_); simp only [zb, seval, w35, hga, hgb, strEq, hee, hw2]; (refine RunQ.mk (by first | (simp; done) | omega | (simp; omega)) (hK7 _ _ ?_)); clear hK7 K7; (try ((refine Draw0.nil (hK8 _ ?_)); clear hK8 K8; (refine WpL.go _ rfl fun Y y => ?_); repeat (first | (apply fw; (with_reducible constructor) <;> rfl) | (apply WpA.cd; constructor) | ((first | with_reducible refine WpA.go _ rfl fun Y y => ?_ | apply RunTo.id); simp only [zb, seval, w35, hga, hgb, strEq, hee, hw2]; refine RunTo.fn y (by first | (simp; done) | omega | (simp; omega)) ?_; clear y Y))))
   refine ⟨by simp, _, _, _, _, (by simp only [zb, seval, w35]; rfl), (by simp), (by simp only [zv]; rfl), (by simp), _, ALe.refl _, ?_⟩
   rfl
 ·have hd0 : decide ((i : Int) < (a.length : Int)) = false := by simp; omega
  have hii : i = a.length := by omega
  rw [eqB_pos (show a = b by rw [hii, List.take_length, hl, List.take_length] at hb; exact hb)]
  repeat (first | (apply fw; (with_reducible constructor) <;> rfl) | (apply WpA.cd; constructor) | ((first | with_reducible refine WpA.go _ rfl fun Y y => ?_ | apply RunTo.id); simp only [zb, seval, w35, hd0]; refine RunTo.fn y (by first | (simp; done) | omega | (simp; omega)) ?_; clear y Y))
  repeat (first | (apply fw; (with_reducible constructor) <;> rfl) | (apply WpA.cd; constructor) | ((first | with_reducible refine WpA.go _ rfl fun Y y => ?_ | apply RunTo.id); simp only [zb, seval, w35, hd0]; refine RunTo.fn y (by first | (simp; done) | omega | (simp; omega)) ?_; clear y Y))
  refine ⟨by simp, _, _, _, _, (by simp only [zb, seval, w35]; rfl), (by simp), (by simp only [zv]; rfl), (by simp), _, ALe.refl _, ?_⟩
  rfl
def EqF (a b : List K) (n : Nat) (st : St) : Prop := ∃ i : Nat, n = a.length - i ∧ i ≤ a.length ∧ a.take i = b.take i ∧
 st = ⟨[(17, .one (.v (.int .i64 i))), (16, .one (.v (.int .i64 a.length))), (15, .one (.sl 11 (a.map K.cc))), (0, .one (.sl 11 (a.map K.cc))), (1, .one (.sl 11 (b.map K.cc))), (2, .one (.fn 14 []))], []⟩
theorem equalF_pure (a b : List K) (hlen : a.length ≤ 1000000000000000) (ih : ∀ x ∈ a, ∀ y, Pure Tryz.prog 14 [.agg x.cc, .agg y.cc] (.one (.v (.bool (eqB x y))))) : Pure Tryz.prog 37 [.one (.sl 11 (a.map K.cc)), .one (.sl 11 (b.map K.cc)), .one (.fn 14 [])] (.one (.v (.bool (eqB a b)))) := by
 by_cases hl : a.length = b.length
 case neg =>
  have hne : ((a.length : Int) != (b.length : Int)) = true := by simp; omega
  rw [eqB_neg fun h => hl (by rw [h])]
  refine Fn.intro Tryz.func37 rfl Tryz.ntmps37 Tryz.results37 (by simp only [List.length_cons, List.length_nil]; decide) ?_
  repeat (first | (apply fw; (with_reducible constructor) <;> rfl) | (apply WpA.cd; constructor) | ((first | with_reducible refine WpA.go _ rfl fun Y y => ?_ | apply RunTo.id); simp only [zb, seval, w37, hne]; refine RunTo.fn y (by first | (simp; done) | omega | (simp; omega)) ?_; clear y Y))
  refine ⟨by simp, _, _, _, _, (by simp only [zb, seval, w37]; rfl), (by simp), (by simp only [zv]; rfl), (by simp), _, ALe.refl _, ?_⟩
  rfl
 have hne : ((a.length : Int) != (b.length : Int)) = false := by simp; omega
 refine Fn.intro Tryz.func37 rfl Tryz.ntmps37 Tryz.results37 (by simp only [List.length_cons, List.length_nil]; decide) ?_
 repeat (first | (apply fw; (with_reducible constructor) <;> rfl) | (apply WpA.cd; constructor) | ((first | with_reducible refine WpA.go _ rfl fun Y y => ?_ | apply RunTo.id); simp only [zb, seval, w37, hne]; refine RunTo.fn y (by first | (simp; done) | omega | (simp; omega)) ?_; clear y Y))
 refine WpA.loop (EqF a b) a.length ?_ ⟨0, rfl, Nat.zero_le _, rfl, rfl⟩ ?_
 ·exact Le.sub (by simp [Sub, find])
 intro n' st hI
 obtain ⟨i, rfl, hi, hb, rfl⟩ := hI
 have hw2 : IntKind.i64.wrap ((i : Int) + 1) = ((i + 1 : Nat) : Int) := by rw [wrap64 (by omega) (by omega)]; omega
 by_cases hlt : i < a.length
 ·have hd1 : decide ((i : Int) < (a.length : Int)) = true := by simp; omega
  have hlb : i < b.length := by omega
  have hga := getK hlt
  have hgb := getK hlb
  have hc := ih a[i] (List.getElem_mem _) b[i]
  rw [K.cc_eq] at hga hgb
  rw [K.cc_eq a[i], K.cc_eq b[i]] at hc
  by_cases he : a[i] = b[i]
  ·have hee := eqB_pos he
   repeat (first | (apply fw; (with_reducible constructor) <;> rfl) | (apply WpA.cd; constructor) | ((first | with_reducible refine WpA.go _ rfl fun Y y => ?_ | apply RunTo.id); simp only [zb, seval, w37, hd1, hga, hgb]; refine RunTo.fn y (by first | (simp; done) | omega | (simp; omega)) ?_; clear y Y))
   refine WpL.call rfl (guardA_sound (P := Tryz.prog) rfl) (CallA.shut rfl rfl (by kernel_rfl) (ALes.refl _) (by first | rfl | simp [shuts, A.shut, C.shut]) (hc) ?_)
   (refine WpL.go _ rfl fun Y y => ?_); repeat (first | (apply fw; (with_reducible constructor) <;> rfl) | (apply WpA.cd; constructor) | ((first | with_reducible refine WpA.go _ rfl fun Y y => ?_ | apply RunTo.id); simp only [zb, seval, w37, hee, hw2]; refine RunTo.fn y (by first | (simp; done) | omega | (simp; omega)) ?_; clear y Y))
   refine ⟨a.length - (i + 1), _, by omega, Le.drop 0 (Nat.zero_le _) rfl (by simp [Sub, find]) (by simp [envBd, A.bd, C.bd, C.bds]) (by simp [ObBd]), i + 1, rfl, hlt, ?_, rfl⟩
   rw [List.take_succ_eq_append_getElem hlt, List.take_succ_eq_append_getElem (by omega), hb, he]
  ·have hee := eqB_neg he
   rw [eqB_neg (a := a) (b := b) fun h => he (by simp [h])]
   repeat (first | (apply fw; (with_reducible constructor) <;> rfl) | (apply WpA.cd; constructor) | ((first | with_reducible refine WpA.go _ rfl fun Y y => ?_ | apply RunTo.id); simp only [zb, seval, w37, hd1, hga, hgb]; refine RunTo.fn y (by first | (simp; done) | omega | (simp; omega)) ?_; clear y Y))
   refine WpL.call rfl (guardA_sound (P := Tryz.prog) rfl) (CallA.shut rfl rfl (by kernel_rfl) (ALes.refl _) (by first | rfl | simp [shuts, A.shut, C.shut]) (hc) ?_)
   (refine WpL.go _ rfl fun Y y => ?_); repeat (first | (apply fw; (with_reducible constructor) <;> rfl) | (apply WpA.cd; constructor) | ((first | with_reducible refine WpA.go _ rfl fun Y y => ?_ | apply RunTo.id); simp only [zb, seval, w37, hee, hw2]; refine RunTo.fn y (by first | (simp; done) | omega | (simp; omega)) ?_; clear y Y))
   refine ⟨by simp, _, _, _, _, (by simp only [zb, seval, w37]; rfl), (by simp), (by simp only [zv]; rfl), (by simp), _, ALe.refl _, ?_⟩
   rfl
 ·have hd0 : decide ((i : Int) < (a.length : Int)) = false := by simp; omega
  have hii : i = a.length := by omega
  rw [eqB_pos (show a = b by rw [hii, List.take_length, hl, List.take_length] at hb; exact hb)]
  repeat (first | (apply fw; (with_reducible constructor) <;> rfl) | (apply WpA.cd; constructor) | ((first | with_reducible refine WpA.go _ rfl fun Y y => ?_ | apply RunTo.id); simp only [zb, seval, w37, hd0]; refine RunTo.fn y (by first | (simp; done) | omega | (simp; omega)) ?_; clear y Y))
  repeat (first | (apply fw; (with_reducible constructor) <;> rfl) | (apply WpA.cd; constructor) | ((first | with_reducible refine WpA.go _ rfl fun Y y => ?_ | apply RunTo.id); simp only [zb, seval, w37, hd0]; refine RunTo.fn y (by first | (simp; done) | omega | (simp; omega)) ?_; clear y Y))
  refine ⟨by simp, _, _, _, _, (by simp only [zb, seval, w37]; rfl), (by simp), (by simp only [zv]; rfl), (by simp), _, ALe.refl _, ?_⟩
  rfl
theorem K.ext' {a b : K} (h1 : a.k = b.k) (h2 : a.name = b.name) (h3 : a.rest = b.rest) (h4 : a.params = b.params) (h5 : a.d = b.d) (h6 : a.l = b.l) : a = b := by
 cases a; cases b
 simp only [K.k, K.name, K.rest, K.params, K.d, K.l] at *
 subst h1 h2 h3 h4 h5 h6; rfl
theorem esame_upto : ∀ n (a b : K), a.ht ≤ n → a.Ok → Pure Tryz.prog 14 [.agg a.cc, .agg b.cc] (.one (.v (.bool (eqB a b)))) := by
 intro n
 induction n with
 | zero => intro a b h; exact absurd h (by have := a.ht_pos; omega)
 | succ n ih =>
  intro a b hh hok
  have hq := equalS_pure a.params b.params hok.par
  have hd := same_pure a.d b.d
  have hf := equalF_pure a.l b.l hok.len (fun x hx y => by
   obtain ⟨i, hi, rfl⟩ := List.mem_iff_getElem.1 hx
   have := K.ht_lt hi
   exact ih _ y (by omega) (hok.get i hi))
  rw [D.cc_eq a.d, D.cc_eq b.d] at hd
  rw [K.cc_eq a, K.cc_eq b]
  by_cases h1 : a.k = b.k
  case neg =>
   have e1 : (a.k == b.k) = false := by simp [h1]
   rw [eqB_neg fun h => h1 (by rw [h])]
   refine Fn.intro Tryz.func14 rfl Tryz.ntmps14 Tryz.results14 (by simp only [List.length_cons, List.length_nil]; decide) ?_
   repeat (first | (apply fw; (with_reducible constructor) <;> rfl) | (apply WpA.cd; constructor) | ((first | with_reducible refine WpA.go _ rfl fun Y y => ?_ | apply RunTo.id); simp only [zb, seval, w14, e1]; refine RunTo.fn y (by first | (simp; done) | omega | (simp; omega)) ?_; clear y Y))
   refine ⟨by simp, _, _, _, _, (by simp only [zb, seval, w14]; rfl), (by simp), (by simp only [zv]; rfl), (by simp), _, ALe.refl _, ?_⟩
   rfl
  have e1 : (a.k == b.k) = true := by simp [h1]
  by_cases h2 : a.name = b.name
  case neg =>
   have e2 := eqB_neg h2
   rw [eqB_neg (a := a) (b := b) fun h => h2 (by rw [h])]
   refine Fn.intro Tryz.func14 rfl Tryz.ntmps14 Tryz.results14 (by simp only [List.length_cons, List.length_nil]; decide) ?_
   repeat (first | (apply fw; (with_reducible constructor) <;> rfl) | (apply WpA.cd; constructor) | ((first | with_reducible refine WpA.go _ rfl fun Y y => ?_ | apply RunTo.id); simp only [zb, seval, w14, e1, strEq, e2]; refine RunTo.fn y (by first | (simp; done) | omega | (simp; omega)) ?_; clear y Y))
   refine ⟨by simp, _, _, _, _, (by simp only [zb, seval, w14]; rfl), (by simp), (by simp only [zv]; rfl), (by simp), _, ALe.refl _, ?_⟩
   rfl
  have e2 := eqB_pos h2
  by_cases h3 : a.rest = b.rest
  case neg =>
   have e3 := eqB_neg h3
   rw [eqB_neg (a := a) (b := b) fun h => h3 (by rw [h])]
   refine Fn.intro Tryz.func14 rfl Tryz.ntmps14 Tryz.results14 (by simp only [List.length_cons, List.length_nil]; decide) ?_
   repeat (first | (apply fw; (with_reducible constructor) <;> rfl) | (apply WpA.cd; constructor) | ((first | with_reducible refine WpA.go _ rfl fun Y y => ?_ | apply RunTo.id); simp only [zb, seval, w14, e1, strEq, e2, e3]; refine RunTo.fn y (by first | (simp; done) | omega | (simp; omega)) ?_; clear y Y))
   refine ⟨by simp, _, _, _, _, (by simp only [zb, seval, w14]; rfl), (by simp), (by simp only [zv]; rfl), (by simp), _, ALe.refl _, ?_⟩
   rfl
  have e3 := eqB_pos h3
  by_cases h4 : a.params = b.params
  case neg =>
   have e4 := eqB_neg h4
   rw [eqB_neg (a := a) (b := b) fun h => h4 (by rw [h])]
   refine Fn.intro Tryz.func14 rfl Tryz.ntmps14 Tryz.results14 (by simp only [List.length_cons, List.length_nil]; decide) ?_
   repeat (first | (apply fw; (with_reducible constructor) <;> rfl) | (apply WpA.cd; constructor) | ((first | with_reducible refine WpA.go _ rfl fun Y y => ?_ | apply RunTo.id); simp only [zb, seval, w14, e1, strEq, e2, e3]; refine RunTo.fn y (by first | (simp; done) | omega | (simp; omega)) ?_; clear y Y))
   refine WpL.call rfl (guardA_sound (P := Tryz.prog) rfl) (CallA.shut rfl rfl (by kernel_rfl) (ALes.refl _) (by first | rfl | simp [shuts, A.shut, C.shut]) (hq) ?_)
   (refine WpL.go _ rfl fun Y y => ?_); repeat (first | (apply fw; (with_reducible constructor) <;> rfl) | (apply WpA.cd; constructor) | ((first | with_reducible refine WpA.go _ rfl fun Y y => ?_ | apply RunTo.id); simp only [zb, seval, w14, e4]; refine RunTo.fn y (by first | (simp; done) | omega | (simp; omega)) ?_; clear y Y))
   refine ⟨by simp, _, _, _, _, (by simp only [zb, seval, w14]; rfl), (by simp), (by simp only [zv]; rfl), (by simp), _, ALe.refl _, ?_⟩
   rfl
  have e4 := eqB_pos h4
  by_cases h5 : a.d = b.d
  case neg =>
   have e5 := eqB_neg h5
   rw [eqB_neg (a := a) (b := b) fun h => h5 (by rw [h])]
   refine Fn.intro Tryz.func14 rfl Tryz.ntmps14 Tryz.results14 (by simp only [List.length_cons, List.length_nil]; decide) ?_
   repeat (first | (apply fw; (with_reducible constructor) <;> rfl) | (apply WpA.cd; constructor) | ((first | with_reducible refine WpA.go _ rfl fun Y y => ?_ | apply RunTo.id); simp only [zb, seval, w14, e1, strEq, e2, e3]; refine RunTo.fn y (by first | (simp; done) | omega | (simp; omega)) ?_; clear y Y))
   refine WpL.call rfl (guardA_sound (P := Tryz.prog) rfl) (CallA.shut rfl rfl (by kernel_rfl) (ALes.refl _) (by first | rfl | simp [shuts, A.shut, C.shut]) (hq) ?_)
   (refine WpL.go _ rfl fun Y y => ?_); repeat (first | (apply fw; (with_reducible constructor) <;> rfl) | (apply WpA.cd; constructor) | ((first | with_reducible refine WpA.go _ rfl fun Y y => ?_ | apply RunTo.id); simp only [zb, seval, w14, e4]; refine RunTo.fn y (by first | (simp; done) | omega | (simp; omega)) ?_; clear y Y))
   refine WpL.call rfl (guardA_sound (P := Tryz.prog) rfl) (CallA.shut rfl rfl (by kernel_rfl) (ALes.refl _) (by first | rfl | simp [shuts, A.shut, C.shut]) (hd) ?_)
   (refine WpL.go _ rfl fun Y y => ?_); repeat (first | (apply fw; (with_reducible constructor) <;> rfl) | (apply WpA.cd; constructor) | ((first | with_reducible refine WpA.go _ rfl fun Y y => ?_ | apply RunTo.id); simp only [zb, seval, w14, e5]; refine RunTo.fn y (by first | (simp; done) | omega | (simp; omega)) ?_; clear y Y))
   refine ⟨by simp, _, _, _, _, (by simp only [zb, seval, w14]; rfl), (by simp), (by simp only [zv]; rfl), (by simp), _, ALe.refl _, ?_⟩
   rfl
  have e5 := eqB_pos h5
  have e6 : eqB a b = eqB a.l b.l := by
   by_cases h6 : a.l = b.l
   ·rw [eqB_pos h6, eqB_pos (K.ext' h1 h2 h3 h4 h5 h6)]
   ·rw [eqB_neg h6, eqB_neg fun h => h6 (by rw [h])]
  rw [e6]
  refine Fn.intro Tryz.func14 rfl Tryz.ntmps14 Tryz.results14 (by simp only [List.length_cons, List.length_nil]; decide) ?_
  repeat (first | (apply fw; (with_reducible constructor) <;> rfl) | (apply WpA.cd; constructor) | ((first | with_reducible refine WpA.go _ rfl fun Y y => ?_ | apply RunTo.id); simp only [zb, seval, w14, e1, strEq, e2, e3]; refine RunTo.fn y (by first | (simp; done) | omega | (simp; omega)) ?_; clear y Y))
  refine WpL.call rfl (guardA_sound (P := Tryz.prog) rfl) (CallA.shut rfl rfl (by kernel_rfl) (ALes.refl _) (by first | rfl | simp [shuts, A.shut, C.shut]) (hq) ?_)
  (refine WpL.go _ rfl fun Y y => ?_); repeat (first | (apply fw; (with_reducible constructor) <;> rfl) | (apply WpA.cd; constructor) | ((first | with_reducible refine WpA.go _ rfl fun Y y => ?_ | apply RunTo.id); simp only [zb, seval, w14, e4]; refine RunTo.fn y (by first | (simp; done) | omega | (simp; omega)) ?_; clear y Y))
  refine WpL.call rfl (guardA_sound (P := Tryz.prog) rfl) (CallA.shut rfl rfl (by kernel_rfl) (ALes.refl _) (by first | rfl | simp [shuts, A.shut, C.shut]) (hd) ?_)
  (refine WpL.go _ rfl fun Y y => ?_); repeat (first | (apply fw; (with_reducible constructor) <;> rfl) | (apply WpA.cd; constructor) | ((first | with_reducible refine WpA.go _ rfl fun Y y => ?_ | apply RunTo.id); simp only [zb, seval, w14, e5]; refine RunTo.fn y (by first | (simp; done) | omega | (simp; omega)) ?_; clear y Y))
  refine WpL.call rfl (guardA_sound (P := Tryz.prog) rfl) (CallA.lend rfl rfl (by kernel_rfl) (by simp only [zv]; rfl) (by first | exact trivial | (simp; done) | (simp [C.shut]; done)) rfl (hf) ?_)
  (refine WpL.go _ rfl fun Y y => ?_); repeat (first | (apply fw; (with_reducible constructor) <;> rfl) | (apply WpA.cd; constructor) | ((first | with_reducible refine WpA.go _ rfl fun Y y => ?_ | apply RunTo.id); simp only [zb, seval, w14]; refine RunTo.fn y (by first | (simp; done) | omega | (simp; omega)) ?_; clear y Y))
  refine ⟨by simp, _, _, _, _, (by simp only [zb, seval, w14]; rfl), (by simp), (by simp only [zv]; rfl), (by simp), _, ALe.refl _, ?_⟩
  rfl
theorem esame_pure (a b : K) (hok : a.Ok) : Pure Tryz.prog 14 [.agg a.cc, .agg b.cc] (.one (.v (.bool (eqB a b)))) := esame_upto a.ht a b (Nat.le_refl _) hok
end Go.Proofs.YtaeioidifpebdaaGreatDoor
end
