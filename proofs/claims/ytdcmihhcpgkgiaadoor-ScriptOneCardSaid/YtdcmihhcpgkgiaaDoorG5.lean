/-
  Laid together: Lib27, Line27, Hex27, Hid27, HidB27, HidC27, HidD27.
-/
import Derived.Test.YtdcmihhcpgkgiaaDoorG3
import Derived.Test.YtdcmihhcpgkgiaaDoorShelf
import Derived.Test.YtdcmihhcpgkgiaaDoorG4
import Derived.Lib.ItoaLen
import Derived.RangeFuncRecord
import Derived.TacticsIn
import Derived.Maps.OwnIn
import Derived.RangeFuncLeaves

section
namespace Go.Proofs.YtdcmihhcpgkgiaaDoor
open Go Go.RowKit
set_option linter.unusedSimpArgs false
set_option linter.unusedVariables false
theorem fn_old {P : Program} {f : FuncId} {xs : List A} {R : A → Prop} (h : ∀ (w : World) (vs : List Value), GL w → Cas ⟨w, []⟩ xs vs → Calls P f vs.toArray w fun e w' => ∃ v r, e = .returned v ∧ R r ∧ Ext w w' ∧ Ca ⟨since w' w.heap.size, []⟩ r v) : Fn P f xs [] (fun x s => R x ∧ s = []) := fun H m w vs hs hc => by
  have hm : m = [] := by have := hs.len; simp at this; exact List.eq_nil_of_length_eq_zero (by omega)
  subst hm
  refine (h w vs hs.gl (Cas.keep (X := ⟨vis H [] [] w, []⟩) (X' := ⟨w, []⟩) (vis_keeps _ _ _ _) (Up.refl _) hc)).mono fun e w' ⟨v, r, he, hR, hx, hr⟩ => ⟨v, [], r, [], he, ⟨hR, rfl⟩, ⟨rfl, by simp, by simp, by simp, fun b hb => Nat.lt_of_lt_of_le (hs.hlt b hb) hx.le, fun b hb => ⟨(hs.gb b hb).1, rfl, Nat.lt_of_lt_of_le (hs.gb b hb).2.2 hx.le⟩, GL.stays (fun b hb => hx.block b (hs.gb b hb).2.2) hs.gl⟩, ?_, hx.fr _, Up.refl _, by simp⟩
  refine Ca.keep (X := ⟨since w' w.heap.size, []⟩) (X' := ⟨vis H [] [] w', []⟩) (Keeps.only fun b hp hb => ?_) (Up.refl _) hr
  simp only [decide_eq_true_eq] at hp
  refine ⟨?_, rfl⟩
  cases hH : H b with
  | false => simp [hidB]
  | true => have := hs.hlt b hH; omega
theorem Ext.drewN {w : World} (n : Nat) : Ext w (w.drewN n) := by
  induction n with
  | zero => exact Ext.refl w
  | succ n ih => exact ih.drew
theorem Ext.grow {a w : World} (h : Ext a w) (os : Array Obj) : Ext a (Go.Sort.grow w os) := by
  refine h.below ⟨rfl, rfl, rfl, by simp [Go.Sort.grow], fun b hb => ?_⟩
  have := h.le
  simp only [Go.Sort.grow]
  rw [Array.getElem?_append_left (by omega)]
theorem Ext.bytes (w : World) (e : TypeId) (s : ByteArray) : Ext w (Lib.bytesWorld w e s) := by
  refine ⟨rfl, rfl, rfl, by rw [Lib.bytesWorld_size]; omega, fun b hb => Lib.bytesWorld_at_old w e s b hb⟩
theorem Cas.vals {X : Cx} : ∀ {xs us : List Value}, Cas X (xs.map fun x => .one (.v x)) us → us = xs
  | [], us, h => by simpa [Cas] using h
  | x :: xs, us, h => by
    simp only [List.map_cons, Cas, Ca, Cc] at h
    obtain ⟨u, r, rfl, hu, hr⟩ := h
    rw [hu.1, Cas.vals hr]
theorem caTup {X : Cx} : ∀ {l : List Value}, (∀ x ∈ l, x.oneCell' = true) → Cas X (l.map fun x => .one (.v x)) l
  | [], _ => by simp [Cas]
  | x :: l, h => by
    simp only [List.map_cons, Cas]
    exact ⟨x, l, rfl, caV (h x (by simp)), caTup fun y hy => h y (by simp [hy])⟩

theorem indexByte_pure (s : ByteArray) (c : Int) : Pure Tryd.prog 45 [.one (.v (.string s)), .one (.v (.int .u8 c))] (.one (.v (.int .i64 (Lib.indexByte s.data.toList c.toNat.toUInt8)))) :=
  pure_old_v rfl fun w vs _ hc => by
    rw [Cas.vals (xs := [.string s, .int .u8 c]) hc]
    exact (Tryd.strings_IndexByte s c w).mono fun e w' ⟨he, hw⟩ => ⟨he, hw ▸ Ext.refl w⟩
theorem itoa_pure (n : Int) (h0 : -9223372036854775808 ≤ n) (h1 : n ≤ 9223372036854775807) : Pure Tryd.prog 34 [.one (.v (.int .i64 n))] (.one (.v (.string ⟨(Lib.itoa n).toArray⟩))) :=
  pure_old_v rfl fun w vs g hc => by
    rw [Cas.vals (xs := [.int .i64 n]) hc]
    exact (Tryd.strconv_Itoa n h0 h1 w g.tab).mono fun e w' ⟨he, k, os, hw⟩ => ⟨he, hw ▸ (Ext.drewN k).grow os⟩
theorem formatInt_pure (n : Int) (h0 : -9223372036854775808 ≤ n) (h1 : n ≤ 9223372036854775807) : Pure Tryd.prog 47 [.one (.v (.int .i64 n)), .one (.v (.int .i64 10))] (.one (.v (.string ⟨(Lib.itoa n).toArray⟩))) :=
  pure_old_v rfl fun w vs g hc => by
    rw [Cas.vals (xs := [.int .i64 n, .int .i64 10]) hc]
    exact (Tryd.strconv_FormatInt_10 n h0 h1 w g.tab).mono fun e w' ⟨he, k, os, hw⟩ => ⟨he, hw ▸ (Ext.drewN k).grow os⟩
theorem cut_pure (s sep : ByteArray) (hs : s.size < 4294967281) : Pure Tryd.prog 38 [.one (.v (.string s)), .one (.v (.string sep))] (.tup [.one (.v (.string ⟨(Lib.cut s.data.toList sep.data.toList).1.toArray⟩)), .one (.v (.string ⟨(Lib.cut s.data.toList sep.data.toList).2.1.toArray⟩)), .one (.v (.bool (Lib.cut s.data.toList sep.data.toList).2.2))]) :=
  pure_old fun w vs g hc => by
    rw [Cas.vals (xs := [.string s, .string sep]) hc]
    obtain ⟨m, hm⟩ := g.maxl
    refine (Tryd.strings_Cut s sep m w hs hm).mono fun e w' ⟨he, n, hw⟩ => ⟨_, he, hw ▸ Ext.drewN n, ?_⟩
    simp only [Ca]
    exact ⟨_, rfl, caTup (l := [_, _, _]) (by simp [Value.oneCell'])⟩
theorem split_pure (s sep : ByteArray) (hs : s.size < 4294967281) (h1 : 1 ≤ sep.size) : Pure Tryd.prog 39 [.one (.v (.string s)), .one (.v (.string sep))] (.one (.sl 1 ((Lib.splitB sep 0 (Lib.countB s sep) s).map fun p => [.v (.string p)]))) :=
  pure_old fun w vs g hc => by
    rw [Cas.vals (xs := [.string s, .string sep]) hc]
    obtain ⟨m, hm⟩ := g.maxl
    refine (Tryd.strings_Split s sep m w hs hm h1).mono fun e w' ⟨he, hw⟩ => ⟨_, he, hw ▸ (Ext.refl w).alloc _, ?_⟩
    subst hw
    have hl : (Lib.splitB sep 0 (Lib.countB s sep) s).length = Lib.countB s sep + 1 := Lib.splitB_all sep h1 0 _ s rfl
    have hc := Lib.countB_le sep h1 _ s (Nat.le_refl _)
    simp only [Ca, Cc, List.length_map, hl]
    refine ⟨fun e he => by obtain ⟨x, _, rfl⟩ := List.mem_map.1 he; rfl, .inr ⟨_, 0, _, rfl, Nat.le_refl _, by unfold maxLen; omega, Crow.of (wd := 1) (vs := (Lib.splitB sep 0 (Lib.countB s sep) s).map Value.string) (fun e he => by obtain ⟨x, _, rfl⟩ := List.mem_map.1 he; rfl) (CellsAt.of fun j u hu => ?_) ?_⟩⟩
    · refine (since_cell (B := w.heap.size) (a := ⟨w.heap.size, 0 + j, none⟩) (Nat.le_refl _)).trans ?_
      rw [World.cell?_alloc_new]
      simpa using hu
    · generalize (⟨since _ _, []⟩ : Cx) = X
      generalize Lib.splitB sep 0 (Lib.countB s sep) s = l
      clear hl
      induction l with
      | nil => simp [Ccs]
      | cons x l ih =>
        simp only [List.map_cons, List.flatten_cons, List.singleton_append, Ccs, Cc]
        exact ⟨_, _, rfl, ⟨rfl, rfl⟩, ih⟩
/-- What strconv.ParseInt answers: a number and no error; or some number and some error. -/
def ParsesTo (s : ByteArray) (x : A) : Prop := match Lib.parseIntB 64 s.data.toList with
  | .ok v => x = .tup [.one (.v (.int .i64 v)), .one (.v .nilIface)]
  | _ => ∃ n t p, x = .tup [.one (.v (.int .i64 n)), .one (.v (.iface t p))]
theorem parseInt_fn (s : ByteArray) (hs : s.size ≤ 281474976710656) : Fn Tryd.prog 46 [.one (.v (.string s)), .one (.v (.int .i64 10)), .one (.v (.int .i64 64))] [] (fun x s' => ParsesTo s x ∧ s' = []) :=
  fn_old fun w vs g hc => by
    rw [Cas.vals (xs := [.string s, .int .i64 10, .int .i64 64]) hc]
    unfold ParsesTo
    cases hp : Lib.parseIntB 64 s.data.toList with
    | ok v =>
      refine (Tryd.strconv_ParseInt_10_at64_ok s (by omega) v hp w).mono fun e w' ⟨he, hw⟩ => ⟨_, _, he, rfl, ?_, ?_⟩
      · rcases hw with rfl | ⟨t, rfl⟩
        · exact Ext.refl _
        · exact Ext.bytes _ _ _
      · simp only [Ca]; exact ⟨_, rfl, caTup (l := [_, _]) (by simp [Value.oneCell'])⟩
    | range =>
      obtain ⟨te, pe, hv⟩ := g.ran
      refine (Tryd.strconv_ParseInt_10_at64_range s hs hp _ w hv (.inr ⟨te, pe, rfl⟩)).mono fun e w' ⟨N, he, _, _, hb⟩ => ⟨_, .tup [.one (.v (.int .i64 (Lib.intSat 64 s.data.toList))), .one (.v (.iface 106 (.pointer (some ⟨N, 0, none⟩))))], he, ⟨_, _, _, rfl⟩, hb, ?_⟩
      simp only [Ca]; exact ⟨_, rfl, caTup (l := [_, _]) (by simp [Value.oneCell'])⟩
    | _ =>
      obtain ⟨te, pe, hv⟩ := g.syn
      refine (Tryd.strconv_ParseInt_10_at64_syntax s hs hp _ w hv (.inr ⟨te, pe, rfl⟩)).mono fun e w' ⟨N, he, _, _, hb⟩ => ⟨_, .tup [.one (.v (.int .i64 0)), .one (.v (.iface 106 (.pointer (some ⟨N, 0, none⟩))))], he, ⟨_, _, _, rfl⟩, hb, ?_⟩
      simp only [Ca]; exact ⟨_, rfl, caTup (l := [_, _]) (by simp [Value.oneCell'])⟩
end Go.Proofs.YtdcmihhcpgkgiaaDoor
end

section
namespace Go.Proofs.YtdcmihhcpgkgiaaDoor
open Go Go.RowKit Go.Lib
set_option linter.unusedSimpArgs false
set_option linter.unusedVariables false
set_option maxHeartbeats 4000000
set_option maxRecDepth 100000
def nC (l : List Int) : List (List C) := l.map fun n => [.v (.int .i64 n)]
theorem nC_len (l : List Int) : (nC l).length = l.length := by simp [nC]
theorem nC_get {l : List Int} {k : Nat} (h : k < l.length) : (nC l)[k]? = some [.v (.int .i64 l[k])] := by simp [nC, h]
/-- A number that 64 bits hold. -/
def I64 (n : Int) : Prop := -9223372036854775808 ≤ n ∧ n ≤ 9223372036854775807
/-- A number's text. -/
def itB (n : Int) : ByteArray := ⟨(Lib.itoa n).toArray⟩
theorem itoaB (n : Int) (h : I64 n) : Pure Tryd.prog 34 [.one (.v (.int .i64 n))] (.one (.v (.string (itB n)))) := itoa_pure n h.1 h.2
/-- A word, and numbers behind it. -/
def lineL (w : ByteArray) : List Int → ByteArray
  | [] => w
  | n :: l => lineL (w ++ (⟨#[32]⟩ ++ itB n)) l
theorem lineL_snoc : ∀ (l : List Int) (w : ByteArray) (n : Int), lineL w (l ++ [n]) = lineL w l ++ (⟨#[32]⟩ ++ itB n)
  | [], w, n => rfl
  | m :: l, w, n => by simp only [List.cons_append, lineL]; exact lineL_snoc l _ n
theorem itB_size (n : Int) (h : I64 n) : (itB n).size ≤ 21 := by
  have := Lib.itoa_length_le n h.1 h.2
  show (Lib.itoa n).toArray.size ≤ 21
  simpa using this
theorem lineL_size : ∀ (l : List Int) (w : ByteArray), (∀ n ∈ l, I64 n) → (lineL w l).size ≤ w.size + 22 * l.length
  | [], w, _ => by simp [lineL]
  | n :: l, w, h => by
    have h1 := lineL_size l (w ++ (⟨#[32]⟩ ++ itB n)) fun m hm => h m (by simp [hm])
    have h2 := itB_size n (h n (by simp))
    simp only [lineL, List.length_cons, ByteArray.size_append] at *
    have : (⟨#[32]⟩ : ByteArray).size = 1 := rfl
    omega
def LineI (w : ByteArray) (l : List Int) (n : Nat) (st : St) : Prop := ∃ i : Nat, n = l.length - i ∧ i ≤ l.length ∧
  st = ⟨[(9, .one (.v (.int .i64 i))), (8, .one (.v (.int .i64 l.length))), (7, .one (.sl 1 (nC l))), (0, .one (.v (.string (lineL w (l.take i)))))], []⟩
theorem line_pure (w : ByteArray) (l : List Int) (hw : w.size ≤ 1000000) (hl : l.length ≤ 10000) (hr : ∀ n ∈ l, I64 n) :
    Pure Tryd.prog 25 [.one (.v (.string w)), .one (.sl 1 (nC l))] (.one (.v (.string (lineL w l ++ ⟨#[10]⟩)))) := by
  have hll := nC_len l
  have hsz := lineL_size l w hr
  have h10 : (⟨#[10]⟩ : ByteArray).size = 1 := rfl
  refine Fn.intro Tryd.func25 rfl Tryd.ntmps25 Tryd.results25 (by simp only [List.length_cons, List.length_nil]; decide) ?_
  repeat (first | (apply fw; focus ((with_reducible constructor) <;> rfl)) | (apply WpA.cd; focus constructor) | ((first | with_reducible refine WpA.go _ rfl fun Y y => ?_ | apply RunTo.id); simp only [zb, seval, w25, hll]; refine RunTo.fn y (by first | exact trivial | omega | (simp; done) | (simp; omega)) ?_; clear y Y))
  refine WpA.loop (LineI w l) l.length ?_ ⟨0, rfl, Nat.zero_le _, rfl⟩ ?_
  · exact Le.sub (by simp [Sub, find, lineL])
  intro n' st hI
  obtain ⟨i, rfl, hi, rfl⟩ := hI
  have hw2 : IntKind.i64.wrap ((i : Int) + 1) = ((i + 1 : Nat) : Int) := by rw [wrap64 (by omega) (by omega)]; omega
  by_cases hlt : i < l.length
  · have hd1 : decide ((i : Int) < (l.length : Int)) = true := by simp; omega
    have hga := nC_get hlt
    have hin := hr l[i] (by simp)
    have hs1 := lineL_size (l.take i) w fun m hm => hr m (List.mem_of_mem_take hm)
    have hs2 := itB_size l[i] hin
    rw [List.length_take] at hs1
    have h32 : (⟨#[32]⟩ : ByteArray).size = 1 := rfl
    repeat (first | (apply fw; focus ((with_reducible constructor) <;> rfl)) | (apply WpA.cd; focus constructor) | ((first | with_reducible refine WpA.go _ rfl fun Y y => ?_ | apply RunTo.id); simp only [zb, seval, w25, hd1, hga]; refine RunTo.fn y (by first | exact trivial | omega | (simp; done) | (simp; omega)) ?_; clear y Y))
    refine WpL.call rfl (guardA_sound (P := Tryd.prog) rfl) (CallA.shut rfl rfl (by kernel_rfl) (ALes.refl _) (by first | rfl | simp [shuts, A.shut, C.shut]) (itoaB l[i] hin) ?_)
    (refine WpL.go _ rfl fun Y y => ?_); repeat (first | (apply fw; focus ((with_reducible constructor) <;> rfl)) | (apply WpA.cd; focus constructor) | ((first | with_reducible refine WpA.go _ rfl fun Y y => ?_ | apply RunTo.id); simp only [zb, seval, w25, hw2]; refine RunTo.fn y (by first | exact trivial | omega | (simp; done) | (simp; omega)) ?_; clear y Y))
    have e : lineL w (l.take (i + 1)) = lineL w (l.take i) ++ (⟨#[32]⟩ ++ itB l[i]) := by rw [List.take_succ_eq_append_getElem hlt, lineL_snoc]
    exact ⟨l.length - (i + 1), _, by omega, Le.sub (by simp [Sub, find, e]), i + 1, rfl, hlt, rfl⟩
  · have hd0 : decide ((i : Int) < (l.length : Int)) = false := by simp; omega
    obtain rfl : i = l.length := by omega
    rw [List.take_length]
    repeat (first | (apply fw; focus ((with_reducible constructor) <;> rfl)) | (apply WpA.cd; focus constructor) | ((first | with_reducible refine WpA.go _ rfl fun Y y => ?_ | apply RunTo.id); simp only [zb, seval, w25, hd0]; refine RunTo.fn y (by first | exact trivial | omega | (simp; done) | (simp; omega)) ?_; clear y Y))
    refine ⟨by simp, _, _, _, _, (by simp only [zb, seval, w25]; rfl), (by simp), (by simp only [zv]; rfl), (by simp), _, ALe.refl _, ?_⟩
    rfl
def hexS : ByteArray := ⟨#[48, 49, 50, 51, 52, 53, 54, 55, 56, 57, 97, 98, 99, 100, 101, 102]⟩
theorem hexS_size : hexS.size = 16 := rfl
theorem hexS_eq : (⟨#[48, 49, 50, 51, 52, 53, 54, 55, 56, 57, 97, 98, 99, 100, 101, 102]⟩ : ByteArray) = hexS := rfl
theorem rdigit_pure (n : Nat) (h : n < 16) : Pure Tryd.prog 35 [.one (.v (.int .u8 n))] (.one (.v (.string (hexS.extract n (n + 1))))) := by
  have hw : IntKind.u8.wrap ((n : Int) + 1) = ((n + 1 : Nat) : Int) := by simp [IntKind.wrap, IntKind.bits, IntKind.signed]; omega
  have h0 := hexS_size
  refine Fn.intro Tryd.func35 rfl Tryd.ntmps35 Tryd.results35 (by simp only [List.length_cons, List.length_nil]; decide) ?_
  repeat (first | (apply fw; focus ((with_reducible constructor) <;> rfl)) | (apply WpA.cd; focus constructor) | ((first | with_reducible refine WpA.go _ rfl fun Y y => ?_ | apply RunTo.id); simp only [zb, seval, str_9, hw, hexS_eq, hexS_size]; refine RunTo.fn y (by first | exact trivial | omega | (simp; done) | (simp; omega)) ?_; clear y Y))
  refine ⟨by simp, _, _, _, _, (by simp only [zb, seval, str_9]; rfl), (by simp), (by simp only [zv]; rfl), (by simp), _, ALe.refl _, ?_⟩
  rfl
end Go.Proofs.YtdcmihhcpgkgiaaDoor
end

section
namespace Go.Proofs.YtdcmihhcpgkgiaaDoor
open Go Go.RowKit
set_option linter.unusedSimpArgs false
set_option linter.unusedVariables false
def fnc (ρ : Option Nat) : Fence := { Fence.wide with round := ρ }
def nod (a : Act) : Act := { a with defers := [] }
theorem nod_eval (a : Act) : (nod a).eval = a.eval := by funext o; cases o <;> rfl
theorem nod_put (a : Act) (d : Option Tmp) (v : Value) : nod (a.put d v) = (nod a).put d v := by cases d <;> rfl
theorem put_defs (a : Act) (d : Option Tmp) (v : Value) : (a.put d v).defers = a.defers := by cases d <;> rfl
/-- What stands beside the state: the deferred calls; blocks, and what they hold. -/
structure Gs where
  ds : List Deferred
  ks : List (Nat × Obj)
structure Hid (H : Nat → Bool) (w0 : World) (S0 : Nat → Bool) (ks : List (Nat × Obj)) (w : World) : Prop where
  hid : ∀ x ∈ ks, H x.1 = true
  own : ∀ x ∈ ks, S0 x.1 = true ∨ w0.heap.size ≤ x.1
  at_ : ∀ x ∈ ks, w.heap[x.1]? = some x.2
structure Grow (w0 : World) (H H' : Nat → Bool) : Prop where
  old : ∀ b, H b = true → H' b = true
  new : ∀ b, H' b = true → H b = true ∨ w0.heap.size ≤ b
theorem Grow.refl (w0 : World) (H : Nat → Bool) : Grow w0 H H := ⟨fun _ h => h, fun _ h => .inl h⟩
theorem Grow.trans {w0 : World} {A B C : Nat → Bool} (h : Grow w0 A B) (k : Grow w0 B C) : Grow w0 A C := ⟨fun b hb => k.old b (h.old b hb), fun b hb => (k.new b hb).elim (h.new b) .inr⟩
theorem Grow.less {w0 w1 : World} {A B : Nat → Bool} (h : Grow w1 A B) (hs : w0.heap.size ≤ w1.heap.size) : Grow w0 A B := ⟨h.old, fun b hb => (h.new b hb).imp id (Nat.le_trans hs)⟩
/-- What holds behind a walk. -/
def HX (H : Nat → Bool) (w0 : World) (S0 : Nat → Bool) (m0 : List Lo) (nt : Cf) (Q : Exit → St → Gs → Prop) : Exit → Act → World → Prop := fun e a w => ∃ H' st m g, a.defers = g.ds ∧ Grow w0 H H' ∧ Q e st g ∧ Sim H' w0 S0 m0 nt st m (nod a) w ∧ Hid H' w0 S0 g.ks w
theorem HX.less {H H' : Nat → Bool} {w0 : World} {S0 : Nat → Bool} {m0 : List Lo} {nt : Cf} {Q : Exit → St → Gs → Prop} {e : Exit} {a : Act} {w : World} (hg : Grow w0 H H') (h : HX H' w0 S0 m0 nt Q e a w) : HX H w0 S0 m0 nt Q e a w := by
  obtain ⟨H2, st, m, g, h1, h2, h3⟩ := h
  exact ⟨H2, st, m, g, h1, hg.trans h2, h3⟩
def WpX (P : Program) (ρ : Option Nat) (φ : List Lo → Prop) (nt : Cf) (c : Code) (Q : Exit → St → Gs → Prop) (st : St) (g : Gs) : Prop := ∀ H w0 S0 m0 m a w, a.defers = g.ds → φ m0 → Sim H w0 S0 m0 nt st m (nod a) w → Hid H w0 S0 g.ks w → c.wpIn (fnc ρ) 0 P (HX H w0 S0 m0 nt Q) a w
def WpXL (P : Program) (ρ : Option Nat) (φ : List Lo → Prop) (nt : Cf) (ops : Array Oper) (Q : St → Gs → Prop) (l : List Oper) (st : St) (g : Gs) : Prop := ∀ H w0 S0 m0 m a w, a.defers = g.ds → φ m0 → Sim H w0 S0 m0 nt st m (nod a) w → Hid H w0 S0 g.ks w →
  ∀ Q' : Exit → Act → World → Prop, (∀ a' w', HX H w0 S0 m0 nt (fun _ => Q) .normal a' w' → Q' .normal a' w') → wpListIn (fnc ρ) 0 P ops Q' l a w
theorem wpIn_loop_idx {F : Fence} {n : Nat} {P : Program} {c : Code} {Q : Exit → Act → World → Prop} {a : Act} {w : World} (I : Nat → Act → World → Prop) (n0 : Nat) (h0 : I n0 a w)
    (round : ∀ j a w, I j a w → c.wpIn F n P (Exit.then (fun a' w' => ∃ k, k < j ∧ I k a' w') Q) a w) : (Code.loop c).wpIn F n P Q a w := by
  intro b k cs hro hb hr
  have key : ∀ j a w, I j a w → ∃ e a' w', Q e a' w' ∧ ArrivesIn (Machine.fenced P F) P (lone (b.atR a (.code c :: .inLoop c :: k)) cs w) b k cs e a' w' := by
    intro j
    induction j using Nat.strongRecOn with
    | _ j ih =>
      intro a w hI
      obtain ⟨e, a₁, w₁, hq, harr⟩ := round j a w hI b (.inLoop c :: k) cs hro hb hr
      cases e with
      | normal =>
        obtain ⟨i, hlt, hI₁⟩ := hq
        obtain ⟨e₂, a₂, w₂, hq₂, harr₂⟩ := ih i hlt a₁ w₁ hI₁
        exact ⟨e₂, a₂, w₂, hq₂, .of_steps (StepsIn.trans harr (.one (fenced_calm hb hr rfl) stepR_inLoop)) harr₂⟩
      | exit id => exact ⟨_, a₁, w₁, hq, .pass (x := .inLoop c) rfl (fun _ _ => .inl (by simp)) harr⟩
      | goto l => exact ⟨_, a₁, w₁, hq, .pass (x := .inLoop c) rfl (fun _ _ => .inl (by simp)) harr⟩
      | ret => exact ⟨_, a₁, w₁, hq, .pass (x := .inLoop c) rfl (fun _ _ => .inl (by simp)) harr⟩
      | panic ch => exact ⟨_, a₁, w₁, hq, .pass (x := .inLoop c) rfl (fun _ _ => .inl (by simp)) harr⟩
      | outgrown => exact ⟨_, a₁, w₁, hq, .pass (x := .inLoop c) rfl (fun _ _ => .inl (by simp)) harr⟩
  obtain ⟨e, a', w', hq, harr⟩ := key _ a w h0
  exact ⟨e, a', w', hq, .of_steps (.one (fenced_calm hb hr rfl) stepR_loop) harr⟩
def thenX (K : St → Gs → Prop) (Q : Exit → St → Gs → Prop) : Exit → St → Gs → Prop
  | .normal, st, g => K st g
  | e, st, g => Q e st g
def inBlockX (id : Nat) (Q : Exit → St → Gs → Prop) : Exit → St → Gs → Prop
  | .exit id', st, g => if id' = id then Q .normal st g else Q (.exit id') st g
  | e, st, g => Q e st g
section
variable {P : Program} {ρ : Option Nat} {φ : List Lo → Prop} {nt : Cf} {Q : Exit → St → Gs → Prop} {st : St} {g : Gs}
theorem WpX.seq {x y : Code} (h : WpX P ρ φ nt x (thenX (WpX P ρ φ nt y Q) Q) st g) : WpX P ρ φ nt (.seq x y) Q st g := fun H w0 S0 m0 m a w hd hφ hs hk =>
  wpIn_seq (wpIn_mono (h H w0 S0 m0 m a w hd hφ hs hk) fun e a' w' ⟨H', st', m', g', hd', hg, hq, hs', hk'⟩ => by
    cases e
    case normal => exact wpIn_mono (hq H' w0 S0 m0 m' a' w' hd' hφ hs' hk') fun e a2 w2 h2 => h2.less hg
    all_goals exact ⟨H', st', m', g', hd', hg, hq, hs', hk'⟩)
theorem WpX.skip (h : Q .normal st g) : WpX P ρ φ nt .skip Q st g := fun H w0 S0 m0 m a w hd _ hs hk => wpIn_skip ⟨H, st, m, g, hd, Grow.refl _ _, h, hs, hk⟩
theorem WpX.ret (h : Q .ret st g) : WpX P ρ φ nt .ret Q st g := fun H w0 S0 m0 m a w hd _ hs hk => wpIn_ret ⟨H, st, m, g, hd, Grow.refl _ _, h, hs, hk⟩
theorem WpX.exit {id : Nat} (h : Q (.exit id) st g) : WpX P ρ φ nt (.exit id) Q st g := fun H w0 S0 m0 m a w hd _ hs hk => wpIn_exit ⟨H, st, m, g, hd, Grow.refl _ _, h, hs, hk⟩
theorem WpX.block {id : Nat} {x : Code} (h : WpX P ρ φ nt x (inBlockX id Q) st g) : WpX P ρ φ nt (.block id x) Q st g := fun H w0 S0 m0 m a w hd hφ hs hk =>
  wpIn_block (wpIn_mono (h H w0 S0 m0 m a w hd hφ hs hk) fun e a' w' ⟨H', st', m', g', hd', hg, hq, hs', hk'⟩ => by
    cases e with
    | exit id' =>
      simp only [inBlockX] at hq
      simp only [Exit.inBlock]
      split
      · rename_i e; rw [if_pos e] at hq; exact ⟨H', st', m', g', hd', hg, hq, hs', hk'⟩
      · rename_i e; rw [if_neg e] at hq; exact ⟨H', st', m', g', hd', hg, hq, hs', hk'⟩
    | _ => exact ⟨H', st', m', g', hd', hg, hq, hs', hk'⟩)
theorem WpX.cond {t : Tmp} {x y : Code} {b : Bool} (hc : find st.e t = some (.one (.v (.bool b)))) (h1 : b = true → WpX P ρ φ nt x Q st g) (h2 : b = false → WpX P ρ φ nt y Q st g) : WpX P ρ φ nt (.cond (.tmp t) x y) Q st g := fun H w0 S0 m0 m a w hd hφ hs hk => by
  have := hs.eval hc
  simp only [Ca, Cc, nod_eval] at this
  exact wpIn_cond_split this.1 (fun e => h1 e H w0 S0 m0 m a w hd hφ hs hk) (fun e => h2 e H w0 S0 m0 m a w hd hφ hs hk)
theorem WpX.cd {t : Tmp} {x y z : Code} (h : Pk (find st.e t) x y z) (hw : WpX P ρ φ nt z Q st g) : WpX P ρ φ nt (.cond (.tmp t) x y) Q st g := by
  generalize hf : find st.e t = o at h
  cases h with
  | t => exact WpX.cond hf (fun _ => hw) (fun e => by cases e)
  | f => exact WpX.cond hf (fun e => by cases e) (fun _ => hw)
theorem WpX.le {c : Code} {st' : St} (hl : Le nt st st') (h : WpX P ρ φ nt c Q st' g) : WpX P ρ φ nt c Q st g := fun H w0 S0 m0 m a w hd hφ hs hk => by
  obtain ⟨m', h'⟩ := hl H w0 S0 m0 m _ w hs
  exact h H w0 S0 m0 m' a w hd hφ h' hk
theorem WpX.mono {c : Code} {Q' : Exit → St → Gs → Prop} (h : WpX P ρ φ nt c Q st g) (hq : ∀ e st g, Q e st g → Q' e st g) : WpX P ρ φ nt c Q' st g := fun H w0 S0 m0 m a w hd hφ hs hk =>
  wpIn_mono (h H w0 S0 m0 m a w hd hφ hs hk) fun e a' w' ⟨H', st', m', g', h1, h2, h3, h4⟩ => ⟨H', st', m', g', h1, h2, hq _ _ _ h3, h4⟩
theorem WpX.region {id : Nat} {l : List Oper} (h : WpXL P ρ φ nt l.toArray (Q .normal) l st g) : WpX P ρ φ nt (.region id l.toArray false) Q st g := fun H w0 S0 m0 m a w hd hφ hs hk =>
  wpIn_region_lit (h H w0 S0 m0 m a w hd hφ hs hk _ fun a' w' ⟨H', st', m', g', h1, h2, h3, h4⟩ => ⟨H', st', m', g', h1, h2, h3, h4⟩)
/-- A loop: what holds ahead of each round, the rounds numbered downwards. -/
theorem WpX.loop {c : Code} (I : Nat → St → Gs → Prop) (n0 : Nat) {st0 : St} (hle : Le nt st st0) (h0 : I n0 st0 g)
    (round : ∀ n st g, I n st g → WpX P ρ φ nt c (thenX (fun st' g' => ∃ k st'', k < n ∧ Le nt st' st'' ∧ I k st'' g') Q) st g) : WpX P ρ φ nt (.loop c) Q st g := fun H w0 S0 m0 m a w hd hφ hs hk => by
  obtain ⟨m9, hs0⟩ := hle H w0 S0 m0 m _ w hs
  refine wpIn_loop_idx (fun n a w => ∃ H' st m g, a.defers = g.ds ∧ Grow w0 H H' ∧ I n st g ∧ Sim H' w0 S0 m0 nt st m (nod a) w ∧ Hid H' w0 S0 g.ks w) n0 ⟨H, st0, m9, g, hd, Grow.refl _ _, h0, hs0, hk⟩ fun n a1 w1 ⟨H1, st1, m1, g1, e1, e2, e3, e4, e5⟩ => ?_
  refine wpIn_mono (round n st1 g1 e3 H1 w0 S0 m0 m1 a1 w1 e1 hφ e4 e5) fun e a2 w2 ⟨H2, st2, m2, g2, f1, f2, f3, f4, f5⟩ => ?_
  cases e with
  | normal =>
    obtain ⟨k, st3, hk3, hl3, hI3⟩ := f3
    obtain ⟨m3, hs3⟩ := hl3 H2 w0 S0 m0 m2 _ w2 f4
    exact ⟨k, hk3, H2, st3, m3, g2, f1, e2.trans f2, hI3, hs3, f5⟩
  | _ => exact ⟨H2, st2, m2, g2, f1, e2.trans f2, f3, f4, f5⟩
end
section
variable {P : Program} {ρ : Option Nat} {φ : List Lo → Prop} {nt : Cf} {ops : Array Oper} {Q : St → Gs → Prop} {st : St} {g : Gs} {rest : List Oper}
theorem WpXL.nil (h : Q st g) : WpXL P ρ φ nt ops Q [] st g := fun H w0 S0 m0 m a w hd _ hs hk Q' hQ => hQ a w ⟨H, st, m, g, hd, Grow.refl _ _, h, hs, hk⟩
theorem WpXL.le {l : List Oper} {st' : St} (hl : Le nt st st') (h : WpXL P ρ φ nt ops Q l st' g) : WpXL P ρ φ nt ops Q l st g := fun H w0 S0 m0 m a w hd hφ hs hk => by
  obtain ⟨m', h'⟩ := hl H w0 S0 m0 m _ w hs
  exact h H w0 S0 m0 m' a w hd hφ h' hk
theorem Hid.free {H : Nat → Bool} {w0 : World} {S0 : Nat → Bool} {m0 m : List Lo} {a : Act} {w : World} {ks : List (Nat × Obj)} (h : Hid H w0 S0 ks w) (hs : StoOk H st.s m w) {x : Nat × Obj} (hx : x ∈ ks) : hidB st.s m x.1 = false := by
  cases hc : hidB st.s m x.1 with
  | false => rfl
  | true =>
    obtain ⟨i, ob, l, h1, h2, h3⟩ := hidB_iff.1 hc
    have := hs.nh i ob l h1 h2
    rw [h3, h.hid x hx] at this; cases this
theorem Hid.goes {H : Nat → Bool} {w0 : World} {S0 : Nat → Bool} {m0 m : List Lo} {a : Act} {w : World} {ks : List (Nat × Obj)} (h : Hid H w0 S0 ks w) (hs : Sim H w0 S0 m0 nt st m a w) {s' : List (Option Ob)} {m' : List Lo} {w' : World} (hg : Goes st.s m w s' m' w') : Hid H w0 S0 ks w' :=
  ⟨h.hid, h.own, fun x hx => by
    have e := h.at_ x hx
    rw [(hg.block x.1 (Array.getElem?_eq_some_iff.1 e).1 (h.free (m0 := m0) (a := a) hs.sto hx)).2]; exact e⟩
theorem WpXL.op {d : Option Tmp} {op : Op} {ty : TypeId} {pos : String} {aft : Array Edge} {gd : Option (Nat × Bool)} {x : A} {st' : St} (hd : fits nt d = true) (hno : ∀ c, op ≠ .defer c)
    (hg : ∀ H w0 S0 m0 m a w, Sim H w0 S0 m0 nt st m a w → Region.wanted ⟨d, op, ty, pos, aft, gd⟩ (yielded ops a.tmps) = true) (h : OpA P nt op ty st x st') (hr : WpXL P ρ φ nt ops Q rest (st'.put d x) g) : WpXL P ρ φ nt ops Q (⟨d, op, ty, pos, aft, gd⟩ :: rest) st g := fun H w0 S0 m0 m a w hds hφ hs hk Q' hQ => by
  obtain ⟨u, w', m', hrun, hs', hgo, hc⟩ := h H w0 S0 m0 m _ w hs
  rw [nod_eval] at hrun
  have hnext := fun v (hv : v = u) => hr H w0 S0 m0 m' (a.put d v) w' (by rw [put_defs]; exact hds) hφ (by rw [nod_put, hv]; exact hs'.put hd hc) (hk.goes hs hgo) Q' hQ
  unfold wpListIn
  rw [if_pos (show _ = true from hg H w0 S0 m0 m (nod a) w hs : Region.wanted _ (yielded ops a.tmps) = true)]
  unfold Oper.wpIn
  refine ⟨fun _ _ => trivial, ?_⟩
  rw [Oper.semAt_plain (fnc ρ) _ _ hno, exec_same]
  rcases hrun with hrun | ⟨hrun, hu⟩ <;> rw [hrun]
  · exact hnext u rfl
  · exact hnext undef hu.symm
theorem WpXL.pass {d : Option Tmp} {op : Op} {ty : TypeId} {pos : String} {aft : Array Edge} {gd : Option (Nat × Bool)} (hd : fits nt d = true)
    (hg : ∀ H w0 S0 m0 m a w, Sim H w0 S0 m0 nt st m a w → Region.wanted ⟨d, op, ty, pos, aft, gd⟩ (yielded ops a.tmps) = false) (hr : WpXL P ρ φ nt ops Q rest (st.put d (.tup [])) g) : WpXL P ρ φ nt ops Q (⟨d, op, ty, pos, aft, gd⟩ :: rest) st g := fun H w0 S0 m0 m a w hds hφ hs hk Q' hQ => by
  have hnext := hr H w0 S0 m0 m (a.put d undef) w (by rw [put_defs]; exact hds) hφ (by rw [nod_put]; exact hs.put hd (x := .tup []) (u := undef) (by simp only [Ca]; exact ⟨[], rfl, by simp [Cas]⟩)) (by cases d <;> exact hk) Q' hQ
  unfold wpListIn
  rw [if_neg (by rw [show yielded ops a.tmps = yielded ops (nod a).tmps from rfl, hg H w0 S0 m0 m _ w hs]; exact Bool.false_ne_true)]
  exact ⟨fun _ _ => trivial, hnext⟩
def noDef (o : Oper) : Bool := match o.op with | .defer _ => false | _ => true
theorem WpXL.run {l0 : List Oper} (ds : List (Option Tmp)) (hds : l0.map (·.dst) = ds) : ∀ {l : List Oper} {st : St} {p : Prop} {l' : List Oper} {st' : St}, l.all noDef = true → runL P nt ds l st = (p, l', st') → p → WpXL P ρ φ nt l0.toArray Q l' st' g → WpXL P ρ φ nt l0.toArray Q l st g
  | [], st, p, l', st', _, h, hp, hr => by
    simp only [runL, Prod.mk.injEq] at h
    obtain ⟨-, rfl, rfl⟩ := h
    exact hr
  | o :: rest, st, p, l', st', hn, h, hp, hr => by
    subst hds
    obtain ⟨d, op, ty, pos, aft, gd⟩ := o
    simp only [List.all_cons, Bool.and_eq_true] at hn
    simp only [runL] at h
    split at h
    · rename_i hg
      split at h
      · rename_i q x st1 ha
        generalize hrun : runL P nt _ rest _ = rr at h
        obtain ⟨q2, l2, st2⟩ := rr
        simp only [Prod.mk.injEq] at h
        obtain ⟨rfl, rfl, rfl⟩ := h
        exact WpXL.op hp.1.1 (fun c e => by subst e; simp [noDef] at hn) (guardA_sound (P := P) hg) (aop_sound ha hp.1.2) (WpXL.run _ rfl hn.2 hrun hp.2 hr)
      · simp only [Prod.mk.injEq] at h
        obtain ⟨-, rfl, rfl⟩ := h
        exact hr
    · rename_i hg
      generalize hrun : runL P nt _ rest _ = rr at h
      obtain ⟨q2, l2, st2⟩ := rr
      simp only [Prod.mk.injEq] at h
      obtain ⟨rfl, rfl, rfl⟩ := h
      exact WpXL.pass hp.1 (guardA_sound (P := P) hg) (WpXL.run _ rfl hn.2 hrun hp.2 hr)
    · simp only [Prod.mk.injEq] at h
      obtain ⟨-, rfl, rfl⟩ := h
      exact hr
theorem WpXL.go {l0 : List Oper} (ds : List (Option Tmp)) (hds : l0.map (·.dst) = ds) {l : List Oper} {st : St} (hn : l.all noDef = true) (h : ∀ K : List Oper → St → Prop, (∀ l' st', WpXL P ρ φ nt l0.toArray Q l' st' g → K l' st') → RunTo (runL P nt ds l st) K) : WpXL P ρ φ nt l0.toArray Q l st g := by
  have := h (fun l' st' => WpXL P ρ φ nt l0.toArray Q l' st' g) (fun _ _ h => h)
  exact WpXL.run ds hds hn rfl this.1 this.2
theorem RunTo.fx {p : Prop} {l : List Oper} {K : List Oper → St → Prop} (hK : ∀ l' st', WpXL P ρ φ nt ops Q l' st' g → K l' st') (hp : p) (h : WpXL P ρ φ nt ops Q l st g) : RunTo (p, l, st) K := ⟨hp, hK _ _ h⟩
theorem calls_fnc {f : FuncId} {args : Array Value} {w : World} {R : Ending → World → Prop} (h : Calls P f args w R) : CallsIn (fnc ρ) (0 - 1) P f args w R := by
  have := (callsIn_wide (n := 0 - 1)).2 h
  cases ρ <;> exact this
theorem WpXL.call {d : Option Tmp} {fo : Operand} {args : List Operand} {tys : Array TypeId} {ty : TypeId} {pos : String} {aft : Array Edge} {gd : Option (Nat × Bool)} (hd : fits nt d = true)
    (hg : ∀ H w0 S0 m0 m a w, Sim H w0 S0 m0 nt st m a w → Region.wanted ⟨d, .call { callee := .value fo, args := args.toArray, argTypes := tys }, ty, pos, aft, gd⟩ (yielded ops a.tmps) = true)
    (h : CallA P nt fo args st fun r => WpXL P ρ φ nt ops Q rest (st.put d r) g) : WpXL P ρ φ nt ops Q (⟨d, .call { callee := .value fo, args := args.toArray, argTypes := tys }, ty, pos, aft, gd⟩ :: rest) st g := fun H w0 S0 m0 m a w hds hφ hs hk Q' hQ => by
  obtain ⟨f, caps, xs, hf, ha, hc, h⟩ := h
  obtain ⟨vs, hrun, hv⟩ := run_call (tys := tys) (ty := ty) hs hf ha hc
  rw [nod_eval] at hrun
  unfold wpListIn
  rw [if_pos (show _ = true from hg H w0 S0 m0 m (nod a) w hs : Region.wanted _ (yielded ops a.tmps) = true)]
  unfold Oper.wpIn
  refine ⟨fun _ _ => trivial, ?_⟩
  rw [Oper.semAt_plain (fnc ρ) _ _ (fun c e => by cases e), exec_same, hrun, Oper.uponIn_enter]
  refine ⟨fun e => absurd e (by simp [fnc, Fence.wide]), calls_fnc ?_⟩
  refine (h H w0 S0 m0 m _ w hs vs hv).mono fun e w' ⟨v, r, he, hK, hx, hr⟩ => ?_
  subst he
  obtain ⟨h1, h2⟩ := hs.ext hx
  exact hK H w0 S0 m0 m (a.put d v) w' (by rw [put_defs]; exact hds) hφ (by rw [nod_put]; exact h1.put hd hr) (hk.goes hs h2) Q' hQ
end
section
variable {H H' : Nat → Bool} {w0 : World} {S0 : Nat → Bool} {m0 m m' : List Lo} {nt : Cf} {st : St} {a : Act} {w w' : World} {ks ks' : List (Nat × Obj)} {s s' : List (Option Ob)}
theorem Sim.not_own (h : Sim H w0 S0 m0 nt st m a w) {b : Nat} (hb : b < w0.heap.size) (hS : S0 b = false) : hidB st.s m b = false := by
  cases hc : hidB st.s m b with
  | false => rfl
  | true =>
    obtain ⟨i, ob, l, h1, h2, rfl⟩ := hidB_iff.1 hc
    rcases h.own i ob l h1 h2 with h3 | h3
    · rw [hS] at h3; cases h3
    · omega
def inK (ks : List (Nat × Obj)) (b : Nat) : Bool := ks.any (·.1 == b)
theorem inK_iff {b : Nat} : inK ks b = true ↔ ∃ x ∈ ks, x.1 = b := by simp [inK, List.any_eq_true]
theorem Hid.not_own (h : Hid H w0 S0 ks w) {b : Nat} (hb : b < w0.heap.size) (hS : S0 b = false) : inK ks b = false := by
  cases hc : inK ks b with
  | false => rfl
  | true =>
    obtain ⟨x, hx, rfl⟩ := inK_iff.1 hc
    rcases h.own x hx with h3 | h3
    · rw [hS] at h3; cases h3
    · omega
/-- Back from a walk that began here. -/
theorem Sim.rejoin (h : Sim H w0 S0 m0 nt st m a w) (hk : Hid H w0 S0 ks w) (hH : Grow w H H') (hs : StoOk H' s' m' w') (hf : Fr (fun x => hidB st.s m x || inK ks x) w w') (hu : Up m m') (ho : ∀ (i : Nat) (ob : Ob) (l : Lo), s'[i]? = some (some ob) → m'[i]? = some l → hidB st.s m l.b = true ∨ w.heap.size ≤ l.b)
    (hk' : ∀ x ∈ ks', H' x.1 = true ∧ (inK ks x.1 = true ∨ w.heap.size ≤ x.1) ∧ w'.heap[x.1]? = some x.2) : Sim H' w0 S0 m0 nt ⟨st.e, s'⟩ m' a w' ∧ Hid H' w0 S0 ks' w' ∧ Keeps (vis H st.s m w) (vis H' s' m' w') := by
  have keeps : Keeps (vis H st.s m w) (vis H' s' m' w') := Keeps.only fun b hp hb => by
    simp only [Bool.and_eq_true, Bool.not_eq_true'] at hp ⊢
    have hkb : inK ks b = false := by
      cases hc : inK ks b with
      | false => rfl
      | true =>
        obtain ⟨x, hx, rfl⟩ := inK_iff.1 hc
        rw [hk.hid x hx] at hp; cases hp.1
    refine ⟨⟨?_, ?_⟩, hf.block b hb (by simp [hp.2, hkb])⟩
    · cases hc : H' b with
      | false => rfl
      | true =>
        rcases hH.new b hc with h1 | h1
        · rw [hp.1] at h1; cases h1
        · omega
    · cases hc : hidB s' m' b with
      | false => rfl
      | true =>
        obtain ⟨i, ob, l, h1, h2, rfl⟩ := hidB_iff.1 hc
        rcases ho i ob l h1 h2 with h3 | h3
        · rw [hp.2] at h3; cases h3
        · omega
  refine ⟨⟨fun i x hx => ?_, h.nts, h.df, hs, ⟨hf.os.trans h.fr.os, hf.tape.trans h.fr.tape, hf.output.trans h.fr.output, Nat.le_trans h.fr.size hf.size, fun b hb hS => ?_⟩, fun i ob l h1 h2 => ?_, h.up.trans hu, h.n0⟩, ⟨fun x hx => (hk' x hx).1, fun x hx => ?_, fun x hx => (hk' x hx).2.2⟩, keeps⟩
  · obtain ⟨u, hu', hc⟩ := h.env i x hx
    exact ⟨u, hu', hc.keep keeps hu⟩
  · rw [← h.fr.block b hb hS]
    exact hf.block b (Nat.lt_of_lt_of_le hb h.fr.size) (by simp [h.not_own hb hS, hk.not_own hb hS])
  · rcases ho i ob l h1 h2 with h3 | h3
    · obtain ⟨i0, ob0, l0, k1, k2, k3⟩ := hidB_iff.1 h3
      rw [← k3]
      exact h.own _ _ _ k1 k2
    · exact .inr (Nat.le_trans h.fr.size h3)
  · rcases (hk' x hx).2.1 with h3 | h3
    · obtain ⟨y, hy, e⟩ := inK_iff.1 h3
      rw [← e]; exact hk.own y hy
    · exact .inr (Nat.le_trans h.fr.size h3)
/-- Fewer blocks are hidden. -/
theorem vis_less (hH : ∀ b, H b = true → H' b = true) (s : List (Option Ob)) (m : List Lo) (w : World) : Keeps (vis H' s m w) (vis H s m w) := Keeps.only fun b hp hb => by
  simp only [Bool.and_eq_true, Bool.not_eq_true'] at hp ⊢
  refine ⟨⟨?_, hp.2⟩, trivial⟩
  cases hc : H b with
  | false => rfl
  | true => rw [hH b hc] at hp; cases hp.1
theorem not_hid (hH : ∀ b, H b = true → H' b = true) {b : Nat} (h : H' b = false) : H b = false := by
  cases hc : H b with
  | false => rfl
  | true => rw [hH _ hc] at h; cases h
theorem StoOk.less (hH : ∀ b, H b = true → H' b = true) (h : StoOk H' s m w) : StoOk H s m w := ⟨h.len, fun i ob l h1 h2 => (h.ok i ob l h1 h2).carry (vis_less hH s m w) (Up.refl _) rfl, h.uniq, fun i ob l h1 h2 => not_hid hH (h.nh i ob l h1 h2), fun b hb => h.hlt b (hH b hb), fun b hb => ⟨not_hid hH (h.gb b hb).1, (h.gb b hb).2⟩, h.gl⟩
theorem Sim.less (hH : ∀ b, H b = true → H' b = true) (h : Sim H' w0 S0 m0 nt st m a w) : Sim H w0 S0 m0 nt st m a w := ⟨fun i x hx => by
    obtain ⟨u, hu, hc⟩ := h.env i x hx
    exact ⟨u, hu, Ca.keep (X := ⟨vis H' st.s m w, m⟩) (X' := ⟨vis H st.s m w, m⟩) (vis_less hH _ _ _) (Up.refl _) hc⟩, h.nts, h.df, h.sto.less hH, h.fr, h.own, h.up, h.n0⟩
/-- New blocks, hidden at once. -/
theorem StoOk.wide (h : StoOk H s m w) (hf : Fr (fun _ => false) w w') (hH : ∀ b, b < w.heap.size → H' b = H b) (hlt : ∀ b, H' b = true → b < w'.heap.size) : StoOk H' s m w' ∧ Keeps (vis H s m w) (vis H' s m w') := by
  have hk : Keeps (vis H s m w) (vis H' s m w') := Keeps.only fun b hp hb => by
    simp only [Bool.and_eq_true, Bool.not_eq_true'] at hp ⊢
    rw [hH b hb]
    exact ⟨hp, hf.block b hb rfl⟩
  refine ⟨⟨h.len, fun i ob l h1 h2 => ?_, h.uniq, fun i ob l h1 h2 => ?_, hlt, fun b hb => ?_, GL.stays (fun b hb => hf.block b (h.gb b hb).2.2 rfl) h.gl⟩, hk⟩
  · exact (h.ok i ob l h1 h2).carry hk (Up.refl _) (hf.block _ (h.lt (st := ⟨[], s⟩) h1 h2) rfl)
  · rw [hH _ (h.lt (st := ⟨[], s⟩) h1 h2)]; exact h.nh i ob l h1 h2
  · obtain ⟨h1, h2, h3⟩ := h.gb b hb
    exact ⟨by rw [hH b h3]; exact h1, h2, Nat.lt_of_lt_of_le h3 hf.size⟩
/-- A hidden block is written. -/
theorem StoOk.other (h : StoOk H s m w) {l : Nat} (hl : H l = true) (hz : w'.heap.size = w.heap.size) (hb : ∀ b, b ≠ l → w'.heap[b]? = w.heap[b]?) : StoOk H s m w' ∧ Keeps (vis H s m w) (vis H s m w') := by
  have hne : ∀ {b : Nat}, H b = false → b ≠ l := fun hb e => by rw [e, hl] at hb; cases hb
  have hk : Keeps (vis H s m w) (vis H s m w') := Keeps.only fun b hp hlt => ⟨hp, by
    simp only [Bool.and_eq_true, Bool.not_eq_true'] at hp
    exact hb b (hne hp.1)⟩
  exact ⟨⟨h.len, fun i ob lo h1 h2 => (h.ok i ob lo h1 h2).carry hk (Up.refl _) (hb _ (hne (h.nh i ob lo h1 h2))), h.uniq, h.nh, fun b hb => by rw [hz]; exact h.hlt b hb, fun b hb' => by rw [hz]; exact h.gb b hb', GL.stays (fun b hb' => hb b (hne (h.gb b hb').1)) h.gl⟩, hk⟩
theorem Sim.other (h : Sim H w0 S0 m0 nt st m a w) {l : Nat} (hl : H l = true) (hown : S0 l = true ∨ w0.heap.size ≤ l) (hz : w'.heap.size = w.heap.size) (ho : w'.os = w.os) (ht : w'.tape = w.tape) (hu : w'.output = w.output) (hb : ∀ b, b ≠ l → w'.heap[b]? = w.heap[b]?) : Sim H w0 S0 m0 nt st m a w' := by
  obtain ⟨h1, hk⟩ := h.sto.other hl hz hb
  refine ⟨fun i x hx => ?_, h.nts, h.df, h1, ⟨ho.trans h.fr.os, ht.trans h.fr.tape, hu.trans h.fr.output, by rw [hz]; exact h.fr.size, fun b hlt hS => ?_⟩, h.own, h.up, h.n0⟩
  · obtain ⟨u, hu', hc⟩ := h.env i x hx
    exact ⟨u, hu', Ca.keep (X := ⟨vis H st.s m w, m⟩) (X' := ⟨vis H st.s m w', m⟩) hk (Up.refl _) hc⟩
  · rw [← h.fr.block b hlt hS]
    refine hb b fun e => ?_
    subst e
    rcases hown with h3 | h3
    · rw [hS] at h3; cases h3
    · omega
end
section
variable {P : Program} {ρ : Option Nat} {φ : List Lo → Prop} {nt : Cf} {st : St}
/-- A plain walk. -/
theorem WpX.ofA {c : Code} {Q : Exit → St → Prop} {Q' : Exit → St → Gs → Prop} {ks : List (Nat × Obj)} (h : WpA P nt c Q st) (hq : ∀ e st', Q e st' → Q' e st' ⟨[], ks⟩) : WpX P none φ nt c Q' st ⟨[], ks⟩ := fun H w0 S0 m0 m a w hd hφ hs hk => by
  have ha : nod a = a := by cases a; simp at hd; subst hd; rfl
  rw [ha] at hs
  have hs1 : Sim H w (hidB st.s m) m0 nt st m a w := ⟨hs.env, hs.nts, hs.df, hs.sto, Fr.refl _ _, fun i ob l h1 h2 => .inl (hidB_iff.2 ⟨i, ob, l, h1, h2, rfl⟩), hs.up, hs.n0⟩
  refine wpIn_wide.2 (wp_mono (h H w _ m0 m a w hs1) fun e a' w' ⟨st', m', hq', hs'⟩ => ?_)
  have ha' : nod a' = a' := by cases a'; have := hs'.df; simp at this; subst this; rfl
  refine ⟨H, st', m', ⟨[], ks⟩, hs'.df, Grow.refl _ _, hq _ _ hq', ?_, ⟨hk.hid, hk.own, fun x hx => ?_⟩⟩
  · rw [ha']
    refine ⟨hs'.env, hs'.nts, hs'.df, hs'.sto, ⟨hs'.fr.os.trans hs.fr.os, hs'.fr.tape.trans hs.fr.tape, hs'.fr.output.trans hs.fr.output, Nat.le_trans hs.fr.size hs'.fr.size, fun b hb hS => ?_⟩, fun i ob l h1 h2 => ?_, hs'.up, hs'.n0⟩
    · rw [← hs.fr.block b hb hS]
      exact hs'.fr.block b (Nat.lt_of_lt_of_le hb hs.fr.size) (hs.not_own hb hS)
    · rcases hs'.own i ob l h1 h2 with h3 | h3
      · obtain ⟨i0, ob0, l0, k1, k2, k3⟩ := hidB_iff.1 h3
        rw [← k3]
        exact hs.own _ _ _ k1 k2
      · exact .inr (Nat.le_trans hs.fr.size h3)
  · have e := hk.at_ x hx
    rw [hs'.fr.block x.1 (Array.getElem?_eq_some_iff.1 e).1 (hk.free (m0 := m0) (a := a) hs.sto hx)]; exact e
theorem WpX.ofB {c : Code} {Q : Exit → St → Gs → Prop} {ks : List (Nat × Obj)} (h : WpA P nt c (fun e st' => Q e st' ⟨[], ks⟩) st) : WpX P none φ nt c Q st ⟨[], ks⟩ := WpX.ofA h fun _ _ h => h
/-- What a function answers that writes a hidden block. -/
def FnM (P : Program) (f : FuncId) (args : List A) (s : List (Option Ob)) (b : Nat) (o : Obj) (R : A → List (Option Ob) → Obj → Prop) : Prop := ∀ (H : Nat → Bool) (m : List Lo) (w : World) (vs : List Value), StoOk H s m w → H b = true → w.heap[b]? = some o → Cas ⟨vis H s m w, m⟩ args vs →
  Calls P f vs.toArray w fun e w' => ∃ v m' r s' o', e = .returned v ∧ R r s' o' ∧ StoOk H s' m' w' ∧ Ca ⟨vis H s' m' w', m'⟩ r v ∧ Fr (fun x => hidB s m x || inK [(b, o)] x) w w' ∧ Up m m' ∧ w'.heap[b]? = some o' ∧ ∀ (i : Nat) (ob : Ob) (l : Lo), s'[i]? = some (some ob) → m'[i]? = some l → hidB s m l.b = true ∨ w.heap.size ≤ l.b
theorem FnM.ofFn {f : FuncId} {args : List A} {s : List (Option Ob)} {b : Nat} {o : Obj} {R : A → List (Option Ob) → Prop} (h : Fn P f args s R) : FnM P f args s b o fun r s' o' => R r s' ∧ o' = o := fun H m w vs hs hHb hwb hv =>
  (h H m w vs hs hv).mono fun e w' ⟨v, m', r, s', he, hR, hso, hca, hfr, hup, hnew⟩ => by
    have hfree : hidB s m b = false := by
      cases hc : hidB s m b with
      | false => rfl
      | true =>
        obtain ⟨i, ob, l, h1, h2, h3⟩ := hidB_iff.1 hc
        have := hs.nh i ob l h1 h2
        rw [h3, hHb] at this; cases this
    exact ⟨v, m', r, s', o, he, ⟨hR, rfl⟩, hso, hca, ⟨hfr.os, hfr.tape, hfr.output, hfr.size, fun x hx hh => hfr.block x hx (by simp only [Bool.or_eq_false_iff] at hh; exact hh.1)⟩, hup, (hfr.block b (Array.getElem?_eq_some_iff.1 hwb).1 hfree).trans hwb, hnew⟩
def EndM (P : Program) (nt : Cf) (rs : List ResultVar) (b : Nat) (R : A → List (Option Ob) → Obj → Prop) : Exit → St → Gs → Prop := fun e st g => (e = .ret ∨ e = .normal) ∧ ∃ o', g = ⟨[], [(b, o')]⟩ ∧ ∃ st' q l, Le nt st st' ∧ resA P st'.s st'.e rs = some (q, l) ∧ q ∧ R (tupA l) st'.s o'
theorem FnM.intro {f : FuncId} {fn : Func} {c : Code} {args : List A} {s : List (Option Ob)} {b : Nat} {o : Obj} {R : A → List (Option Ob) → Obj → Prop} {nt : Nat} {rs : List ResultVar} (hf : P.funcs[f]? = some fn) (hb : fn.body = some c) (hnt : fn.ntmps = nt) (hrs : fn.results = rs.toArray) (hn : args.length ≤ nt)
    (h : WpX P none (fun _ => True) ⟨nt, s.length⟩ c (EndM P ⟨nt, s.length⟩ rs b R) ⟨args0 0 args, s⟩ ⟨[], [(b, o)]⟩) : FnM P f args s b o R := by
  subst hnt
  intro H m w vs hs hHb hwb hv
  refine calls_of_wp hf hb ?_
  have hl := hv.len
  have hsim : Sim H w (fun x => hidB s m x || inK [(b, o)] x) m ⟨fn.ntmps, s.length⟩ ⟨args0 0 args, s⟩ m (nod { tmps := vs.toArray ++ Array.replicate (fn.ntmps - vs.toArray.size) undef, defers := [] }) w := by
    refine ⟨fun i x hx => ?_, by simp [nod]; omega, rfl, hs, Fr.refl _ _, fun i ob l h1 h2 => .inl (by simp [hidB_iff.2 ⟨i, ob, l, h1, h2, rfl⟩]), Up.refl _, hs.len.symm⟩
    obtain ⟨-, h2⟩ := find_args0 args 0 i x hx
    obtain ⟨u, hu, hc⟩ := hv.at h2
    refine ⟨u, ?_, hc⟩
    simp only [Nat.sub_zero] at hu
    simp only [nod]
    rw [Array.getElem?_append_left (by simpa using (List.getElem?_eq_some_iff.1 hu).1)]
    simpa using hu
  have hhid : Hid H w (fun x => hidB s m x || inK [(b, o)] x) [(b, o)] w := ⟨fun x hx => by simp at hx; subst hx; exact hHb, fun x hx => .inl (by simp at hx; subst hx; simp [inK]), fun x hx => by simp at hx; subst hx; exact hwb⟩
  refine wpIn_wide.1 (wpIn_mono (h H w _ m m _ w rfl trivial hsim hhid) fun e a' w' ⟨H', st1, m1, g', hd', hg, ⟨he, o', hg', st', q, l, hle, hr, hq, hR⟩, hs1, hk1⟩ => ?_)
  subst hg'
  obtain ⟨m', hs'⟩ := hle _ _ _ _ _ _ _ hs1
  have hs2 := hs'.less hg.old
  obtain ⟨u, hu, hc⟩ := hs2.results (P := P) (fn := fn) (by rw [hrs]; exact hr) hq
  have hfin : ∃ v m' r s' o', Ending.returned u = .returned v ∧ R r s' o' ∧ StoOk H s' m' w' ∧ Ca ⟨vis H s' m' w', m'⟩ r v ∧ Fr (fun x => hidB s m x || inK [(b, o)] x) w w' ∧ Up m m' ∧ w'.heap[b]? = some o' ∧ ∀ (i : Nat) (ob : Ob) (l : Lo), s'[i]? = some (some ob) → m'[i]? = some l → hidB s m l.b = true ∨ w.heap.size ≤ l.b :=
    ⟨u, m', _, st'.s, o', rfl, hR, hs2.sto, hc, hs'.fr, hs'.up, hk1.at_ (b, o') (by simp), fun i ob l h1 h2 => by
      rcases hs'.own i ob l h1 h2 with h3 | h3
      · simp only [Bool.or_eq_true] at h3
        rcases h3 with h3 | h3
        · exact .inl h3
        · simp [inK] at h3
          have h4 := hs'.sto.nh i ob l h1 h2
          have h5 := hk1.hid (b, o') (by simp)
          simp only at h5
          rw [h3, h4] at h5; cases h5
      · exact .inr h3⟩
  rcases he with rfl | rfl <;> exact ⟨hd', u, hu, hfin⟩
end
section
variable {P : Program} {ρ : Option Nat} {φ : List Lo → Prop} {nt : Cf} {ops : Array Oper} {Q : St → Gs → Prop} {st : St} {ds : List Deferred} {ks1 : List (Nat × Obj)} {rest : List Oper}
theorem WpXL.callM {d : Option Tmp} {fo : Operand} {args : List Operand} {tys : Array TypeId} {ty : TypeId} {pos : String} {aft : Array Edge} {gd : Option (Nat × Bool)} {f : FuncId} {caps : List C} {xs xs' : List A} {b : Nat} {o : Obj} {R : A → List (Option Ob) → Obj → Prop} (hd : fits nt d = true)
    (hg : ∀ H w0 S0 m0 m a w, Sim H w0 S0 m0 nt st m a w → Region.wanted ⟨d, .call { callee := .value fo, args := args.toArray, argTypes := tys }, ty, pos, aft, gd⟩ (yielded ops a.tmps) = true)
    (hf : rdA st.e fo = some (.one (.fn f caps))) (ha : rdAs st.e args = some xs) (hc : callable P f = true) (hx : ALes (xs ++ caps.map .one) xs') (hfn : FnM P f xs' st.s b o R) (hne : ∀ x ∈ ks1, x.2 ≠ o)
    (h : ∀ r s' o', R r s' o' → WpXL P ρ φ nt ops Q rest (St.put ⟨st.e, s'⟩ d r) ⟨ds, (b, o') :: ks1⟩) : WpXL P ρ φ nt ops Q (⟨d, .call { callee := .value fo, args := args.toArray, argTypes := tys }, ty, pos, aft, gd⟩ :: rest) st ⟨ds, (b, o) :: ks1⟩ := fun H w0 S0 m0 m a w hds hφ hs hk Q' hQ => by
  obtain ⟨vs, hrun, hv⟩ := run_call (tys := tys) (ty := ty) hs hf ha hc
  rw [nod_eval] at hrun
  have hb := hk.at_ (b, o) (by simp)
  simp only at hb
  unfold wpListIn
  rw [if_pos (show _ = true from hg H w0 S0 m0 m (nod a) w hs : Region.wanted _ (yielded ops a.tmps) = true)]
  unfold Oper.wpIn
  refine ⟨fun _ _ => trivial, ?_⟩
  rw [Oper.semAt_plain (fnc ρ) _ _ (fun c e => by cases e), exec_same, hrun, Oper.uponIn_enter]
  refine ⟨fun e => absurd e (by simp [fnc, Fence.wide]), calls_fnc ?_⟩
  refine (hfn H m w vs hs.sto (hk.hid (b, o) (by simp)) hb (hx _ _ hv)).mono fun e w' ⟨v, m', r, s', o', he, hR, hso, hca, hfr, hup, hbo, hnew⟩ => ?_
  subst he
  have hin : ∀ x, inK [(b, o)] x = true → inK ((b, o) :: ks1) x = true := fun x h => by simp [inK] at h ⊢; exact .inl h
  obtain ⟨h1, h2, -⟩ := hs.rejoin (ks' := (b, o') :: ks1) hk (Grow.refl w H) hso ⟨hfr.os, hfr.tape, hfr.output, hfr.size, fun x hx hh => hfr.block x hx (by
      simp only [Bool.or_eq_false_iff] at hh ⊢
      refine ⟨hh.1, ?_⟩
      cases hc : inK [(b, o)] x with
      | false => rfl
      | true => rw [hin x hc] at hh; cases hh.2)⟩ hup hnew fun x hx => by
    rcases List.mem_cons.1 hx with rfl | hx
    · exact ⟨hk.hid (b, o) (by simp), .inl (by simp [inK]), hbo⟩
    · have e := hk.at_ x (by simp [hx])
      have hxb : x.1 ≠ b := fun e' => hne x hx (by rw [e', hb] at e; exact (Option.some.inj e).symm)
      refine ⟨hk.hid x (by simp [hx]), .inl (inK_iff.2 ⟨x, by simp [hx], rfl⟩), ?_⟩
      rw [hfr.block x.1 (Array.getElem?_eq_some_iff.1 e).1 (by
        simp only [Bool.or_eq_false_iff]
        exact ⟨hk.free (m0 := m0) (a := nod a) hs.sto (by simp [hx]), by simp [inK]; exact fun h => hxb h.symm⟩)]
      exact e
  exact h r s' o' hR H w0 S0 m0 m' (a.put d v) w' (by rw [put_defs]; exact hds) hφ (by rw [nod_put]; exact h1.put hd hca) h2 Q' hQ
/-- A map is made. -/
theorem WpXL.makeMap {d : Option Tmp} {t ty : TypeId} {pos : String} {aft : Array Edge} (hd : fits nt d = true) (h : ∀ b, WpXL P ρ φ nt ops Q rest (st.put d (.one (.v (.map (some b))))) ⟨ds, (b, .map #[] 0) :: ks1⟩) : WpXL P ρ φ nt ops Q (⟨d, .makeMap t none, ty, pos, aft, none⟩ :: rest) st ⟨ds, ks1⟩ := fun H w0 S0 m0 m a w hds hφ hs hk Q' hQ => by
  unfold wpListIn
  rw [if_pos (show Region.wanted _ (yielded ops a.tmps) = true from rfl)]
  unfold Oper.wpIn
  refine ⟨fun _ _ => trivial, ?_⟩
  rw [Oper.semAt_plain (fnc ρ) _ _ (fun c e => by cases e)]
  have hrun : (execOp a.eval ⟨d, .makeMap t none, ty, pos, aft, none⟩).run P w = .ok (.value (.map (some w.heap.size))) (w.alloc (.map #[] 0)) := by
    simp [execOp, run_makeMap, Result.andThen]
  rw [hrun]
  have hfr : Fr (fun _ => false) w (w.alloc (.map #[] 0)) := ⟨rfl, rfl, rfl, by simp, fun b hb _ => Below.heap_alloc w _ b hb⟩
  have hgrow : Grow w H (fun x => H x || x == w.heap.size) := ⟨fun b hb => by simp [hb], fun b hb => by simp at hb; exact hb.imp id (fun e => by omega)⟩
  obtain ⟨hso, -⟩ := hs.sto.wide (H' := fun x => H x || x == w.heap.size) hfr (fun b hb => by
    have : (b == w.heap.size) = false := by simp; omega
    simp [this]) (fun b hb => by
      simp only [Bool.or_eq_true, beq_iff_eq] at hb
      rcases hb with hb | hb
      · have := hs.sto.hlt b hb; simp; omega
      · simp; omega)
  obtain ⟨h1, h2, -⟩ := hs.rejoin (ks' := (w.heap.size, .map #[] 0) :: ks1) hk hgrow hso ⟨rfl, rfl, rfl, by simp, fun b hb _ => Below.heap_alloc w _ b hb⟩ (Up.refl _) (fun i ob l h1 h2 => .inl (hidB_iff.2 ⟨i, ob, l, h1, h2, rfl⟩)) fun x hx => by
    rcases List.mem_cons.1 hx with rfl | hx
    · exact ⟨by simp, .inr (Nat.le_refl _), World.alloc_heap_new w _⟩
    · have e := hk.at_ x hx
      exact ⟨hgrow.old _ (hk.hid x hx), .inl (inK_iff.2 ⟨x, hx, rfl⟩), (Below.heap_alloc w _ x.1 (Array.getElem?_eq_some_iff.1 e).1).trans e⟩
  exact h w.heap.size _ w0 S0 m0 m (a.put d _) _ (by rw [put_defs]; exact hds) hφ (by rw [nod_put]; exact h1.put hd (by simp only [Ca, Cc]; exact ⟨trivial, rfl⟩)) h2 Q' (fun a' w' hx => hQ a' w' (hx.less (hgrow.less hs.fr.size)))
/-- What a map holds, whatever the world. -/
def MFit (P : Program) (k e : TypeId) (o : Obj) (n : Nat) (D : DataW Unit) : Prop := ∀ (w : World) (b : Nat), w.heap[b]? = some o → w.ownsMap P k (plainElem P e) b n D
theorem MFit.of {k e : TypeId} {w : World} {b n : Nat} {D : DataW Unit} (h : w.ownsMap P k (plainElem P e) b n D) : ∃ es c, w.heap[b]? = some (.map es c) ∧ MFit P k e (.map es c) n D := by
  obtain ⟨es, clock, hb, hr⟩ := h
  exact ⟨es, clock, hb, fun w' b' h' => ⟨es, clock, h', hr⟩⟩
theorem MFit.made (P : Program) (k e : TypeId) : MFit P k e (.map #[] 0) 0 (.map []) := fun w b hb => by
  have := World.ownsMap_made (H := Unit) w P k (plainElem P e)
  obtain ⟨es, clock, h1, h2⟩ := this
  rw [World.alloc_heap_new] at h1
  cases h1
  exact ⟨#[], 0, hb, h2⟩
theorem WpXL.lookup {d : Option Tmp} {t ty : TypeId} {m x : Operand} {pos : String} {aft : Array Edge} {b n : Nat} {o : Obj} {k e : TypeId} {D : DataW Unit} {key : ByteArray} (hd : fits nt d = true) (hm : rdA st.e m = some (.one (.v (.map (some b))))) (hx : rdA st.e x = some (.one (.v (.string key))))
    (hf : MFit P k e o n D) (ht : P.underlying t = some (.map k e)) (hk : P.underlying k = some .string) (he : P.underlying e = some (.int .i64)) (hz : ∀ w, (zeroValue e).run P w = .ok (.int .i64 0) w) (hl : key.size ≤ maxLen)
    (h : ∀ c : Int, D.atKey (.string key.data.toList) (.lit (.int .i64 0)) = .lit (.int .i64 c) → WpXL P ρ φ nt ops Q rest (st.put d (.one (.v (.int .i64 c)))) ⟨ds, (b, o) :: ks1⟩) : WpXL P ρ φ nt ops Q (⟨d, .lookup t m x false, ty, pos, aft, none⟩ :: rest) st ⟨ds, (b, o) :: ks1⟩ := fun H w0 S0 m0 m9 a w hds hφ hs hk9 Q' hQ => by
  have e1 := hs.rd hm
  have e2 := hs.rd hx
  simp only [Ca, Cc, nod_eval] at e1 e2
  obtain ⟨c, hrun, hat, hwc⟩ := (hf w b (hk9.at_ (b, o) (by simp))).lookup_int (Maps.string_keyed hk) ht he (hz w) (WideMaps.keyOf_string_mk hk hl)
  unfold wpListIn
  rw [if_pos (show Region.wanted _ (yielded ops a.tmps) = true from rfl)]
  unfold Oper.wpIn
  refine ⟨fun _ _ => trivial, ?_⟩
  rw [Oper.semAt_plain (fnc ρ) _ _ (fun c e => by cases e)]
  have hrun2 : (execOp a.eval ⟨d, .lookup t m x false, ty, pos, aft, none⟩).run P w = .ok (.value (.int .i64 c)) w := by
    simp [execOp, e1.1, e2.1, hrun, Result.andThen]
  rw [hrun2]
  exact h c hat H w0 S0 m0 m9 (a.put d _) w (by rw [put_defs]; exact hds) hφ (by rw [nod_put]; exact hs.put hd (by simp only [Ca, Cc]; exact ⟨trivial, rfl⟩)) hk9 Q' hQ
theorem WpXL.update {t ty : TypeId} {m x v : Operand} {pos : String} {aft : Array Edge} {b n : Nat} {o : Obj} {k e : TypeId} {D : DataW Unit} {key : ByteArray} {c : Int} (hm : rdA st.e m = some (.one (.v (.map (some b))))) (hx : rdA st.e x = some (.one (.v (.string key)))) (hv : rdA st.e v = some (.one (.v (.int .i64 c))))
    (hf : MFit P k e o n D) (ht : P.underlying t = some (.map k e)) (hk : P.underlying k = some .string) (he : P.underlying e = some (.int .i64)) (hl : key.size ≤ maxLen) (hn : n < maxLen) (hwc : (Lit.int .i64 c).wf = true) (hne : ∀ x ∈ ks1, x.2 ≠ o)
    (h : ∀ es c', MFit P k e (.map es c') (n + 1) (D.put (.string key.data.toList) (.lit (.int .i64 c))) → WpXL P ρ φ nt ops Q rest st ⟨ds, (b, .map es c') :: ks1⟩) : WpXL P ρ φ nt ops Q (⟨none, .mapUpdate t m x v, ty, pos, aft, none⟩ :: rest) st ⟨ds, (b, o) :: ks1⟩ := fun H w0 S0 m0 m9 a w hds hφ hs hk9 Q' hQ => by
  have e1 := hs.rd hm
  have e2 := hs.rd hx
  have e3 := hs.rd hv
  simp only [Ca, Cc, nod_eval] at e1 e2 e3
  have hb := hk9.at_ (b, o) (by simp)
  simp only at hb
  obtain ⟨w', hrun, hown, hgr⟩ := (hf w b hb).update (Maps.string_keyed hk) ht hn (WideMaps.keyOf_string_mk hk hl) (plainElem_int he hwc)
  obtain ⟨es, c', hb', hf'⟩ := MFit.of hown
  unfold wpListIn
  rw [if_pos (show Region.wanted _ (yielded ops a.tmps) = true from rfl)]
  unfold Oper.wpIn
  refine ⟨fun _ _ => trivial, ?_⟩
  rw [Oper.semAt_plain (fnc ρ) _ _ (fun c e => by cases e)]
  have hrun2 : (execOp a.eval ⟨none, .mapUpdate t m x v, ty, pos, aft, none⟩).run P w = .ok .skip w' := by
    simp [execOp, e1.1, e2.1, e3.1, hrun, Result.andThen]
  rw [hrun2]
  have hblk : ∀ y, y < w.heap.size → y ≠ b → w'.heap[y]? = w.heap[y]? := fun y hy hne => hgr.block y hy (fun e => hne (Option.some.inj e))
  have hsz : w.heap.size ≤ w'.heap.size := hgr.size
  have hHb := hk9.hid (b, o) (by simp)
  simp only at hHb
  have hk : Keeps (vis H st.s m9 w) (vis H st.s m9 w') := Keeps.only fun y hp hlt => ⟨hp, by
    simp only [Bool.and_eq_true, Bool.not_eq_true'] at hp
    exact hblk y hlt (fun e => by rw [e, hHb] at hp; cases hp.1)⟩
  have hneH : ∀ {y : Nat}, H y = false → y ≠ b := fun hy e => by rw [e, hHb] at hy; cases hy
  have hso : StoOk H st.s m9 w' := ⟨hs.sto.len, fun i ob lo h1 h2 => (hs.sto.ok i ob lo h1 h2).carry hk (Up.refl _) (hblk _ (hs.sto.lt h1 h2) (hneH (hs.sto.nh i ob lo h1 h2))), hs.sto.uniq, hs.sto.nh, fun y hy => Nat.lt_of_lt_of_le (hs.sto.hlt y hy) hsz, fun y hy => ⟨(hs.sto.gb y hy).1, (hs.sto.gb y hy).2.1, Nat.lt_of_lt_of_le (hs.sto.gb y hy).2.2 hsz⟩, GL.stays (fun y hy => hblk y (hs.sto.gb y hy).2.2 (hneH (hs.sto.gb y hy).1)) hs.sto.gl⟩
  obtain ⟨h1, h2, -⟩ := hs.rejoin (ks' := (b, .map es c') :: ks1) hk9 (Grow.refl w H) hso ⟨hgr.os, hgr.tape, hgr.output, hsz, fun y hy hh => hblk y hy (fun e => by
      simp only [Bool.or_eq_false_iff] at hh
      rw [e] at hh; simp [inK] at hh)⟩ (Up.refl _) (fun i ob l h1 h2 => .inl (hidB_iff.2 ⟨i, ob, l, h1, h2, rfl⟩)) fun y hy => by
    rcases List.mem_cons.1 hy with rfl | hy
    · exact ⟨hHb, .inl (by simp [inK]), hb'⟩
    · have e := hk9.at_ y (by simp [hy])
      have hyb : y.1 ≠ b := fun e' => hne y hy (by rw [e', hb] at e; exact (Option.some.inj e).symm)
      exact ⟨hk9.hid y (by simp [hy]), .inl (inK_iff.2 ⟨y, by simp [hy], rfl⟩), (hblk y.1 (Array.getElem?_eq_some_iff.1 e).1 hyb).trans e⟩
  exact h es c' hf' H w0 S0 m0 m9 _ w' hds hφ h1 h2 Q' hQ
end
def recL (s : LoopState) (pe : Option Code) (fn : FuncId) (tm : Array Value) (ps : List Tmp) (ac bd : Code) (D : Nat) : Loop := { state := s, pending := pe, fn, tmps := tm, params := ps.toArray, assign := ac, body := bd, defers := D }
def K3 (b : Nat) (o : Obj) (l : Nat) (r : Loop) (D : Nat) : List (Nat × Obj) := [(b, o), (l, .loop r), (D, .deferred (some []))]
def isMapB : Obj → Bool
  | .map _ _ => true
  | _ => false
/-- What the frame around knows, of whatever places there are later. -/
def OutOk (eo : List (Nat × A)) (tm : Array Value) (m0 : List Lo) : Prop := ∀ m, Up m0 m → ∀ i x, find eo i = some x → ∃ u, tm[i]? = some u ∧ ∀ r, Ca ⟨r, m⟩ x u
def bindA : List (Nat × A) → List Tmp → List A → List (Nat × A)
  | e, p :: ps, x :: xs => bindA ((p, x) :: e) ps xs
  | e, _, _ => e
theorem bindA_ok {X : Cx} : ∀ (ps : List Tmp) (xs : List A) (vs : List Value) (e : List (Nat × A)) (tm : Array Value), (∀ i x, find e i = some x → ∃ u, tm[i]? = some u ∧ Ca X x u) → Cas X xs vs → ps.length = xs.length → (∀ p ∈ ps, p < tm.size) →
    (∀ i x, find (bindA e ps xs) i = some x → ∃ u, ((ps.zip vs).foldl (fun t p => t.setIfInBounds p.1 p.2) tm)[i]? = some u ∧ Ca X x u) ∧ ((ps.zip vs).foldl (fun t p => t.setIfInBounds p.1 p.2) tm).size = tm.size
  | [], [], vs, e, tm, he, _, _, _ => by simpa [bindA] using he
  | p :: ps, x :: xs, vs, e, tm, he, hc, hl, hb => by
    simp only [Cas] at hc
    obtain ⟨u, r, rfl, h1, h2⟩ := hc
    simp only [bindA, List.zip_cons_cons, List.foldl_cons]
    have := bindA_ok ps xs r ((p, x) :: e) (tm.setIfInBounds p u) (fun i y hy => by
      simp only [find] at hy
      split at hy
      · rename_i h; subst h; cases hy
        exact ⟨u, by rw [Array.getElem?_setIfInBounds_self_of_lt (hb _ (by simp))], h1⟩
      · rename_i h
        obtain ⟨u', k1, k2⟩ := he i y hy
        exact ⟨u', by rw [Array.getElem?_setIfInBounds_ne (fun e => h e.symm)]; exact k1, k2⟩) h2 (by simpa using hl) (fun q hq => by simpa using hb q (by simp [hq]))
    refine ⟨this.1, by rw [this.2]; simp⟩
  | [], x :: xs, vs, e, tm, he, hc, hl, hb => by simp at hl
  | p :: ps, [], vs, e, tm, he, hc, hl, hb => by simp at hl
def jumpOf : Exit → Option (Option Code)
  | .normal => some none
  | .ret => some (some .ret)
  | .exit i => some (some (.exit i))
  | _ => none
theorem roundPost_of {P : Program} {l : Nat} {R : Ending → World → Prop} {e : Exit} {j : Option Code} {a : Act} {w : World} (hj : jumpOf e = some j) (h : ∃ v w', (Instr.endRound l j).run P w = .ok v w' ∧ R (.returned v) w') : roundPost P l R e a w := by
  cases e <;> simp [jumpOf] at hj <;> subst hj <;> exact h
theorem Hid.k3 {H : Nat → Bool} {w0 : World} {S0 : Nat → Bool} {w w' : World} {b l D : Nat} {o : Obj} {r r' : Loop} (hmp : isMapB o = true) (h : Hid H w0 S0 (K3 b o l r D) w) (hl : w'.heap[l]? = some (.loop r')) (hb : ∀ x, x ≠ l → w'.heap[x]? = w.heap[x]?) : Hid H w0 S0 (K3 b o l r' D) w' := by
  have e1 := h.at_ (b, o) (by simp [K3])
  have e2 := h.at_ (l, .loop r) (by simp [K3])
  have e3 := h.at_ (D, .deferred (some [])) (by simp [K3])
  simp only at e1 e2 e3
  have hbl : b ≠ l := fun e => by rw [e, e2] at e1; cases e1; simp [isMapB] at hmp
  have hDl : D ≠ l := fun e => by rw [e, e2] at e3; cases e3
  have h1 := h.hid (b, o) (by simp [K3])
  have h2 := h.hid (l, .loop r) (by simp [K3])
  have h3 := h.hid (D, .deferred (some [])) (by simp [K3])
  have g1 := h.own (b, o) (by simp [K3])
  have g2 := h.own (l, .loop r) (by simp [K3])
  have g3 := h.own (D, .deferred (some [])) (by simp [K3])
  simp only at h1 h2 h3 g1 g2 g3
  refine ⟨fun x hx => ?_, fun x hx => ?_, fun x hx => ?_⟩ <;> (simp only [K3, List.mem_cons, List.not_mem_nil, or_false] at hx; rcases hx with rfl | rfl | rfl)
  · exact h1
  · exact h2
  · exact h3
  · exact g1
  · exact g2
  · exact g3
  · exact (hb b hbl).trans e1
  · exact hl
  · exact (hb D hDl).trans e3
theorem inK3 {b l D : Nat} {o o' : Obj} {r r' : Loop} : inK (K3 b o l r D) = inK (K3 b o' l r' D) := by funext x; simp [inK, K3]
section
variable {P : Program} {φ : List Lo → Prop} {nt : Cf} {ops : Array Oper} {Q : St → Gs → Prop} {st : St} {rest : List Oper}
/-- A call of yield: a round. -/
theorem WpXL.yield {l D b nto : Nat} {o : Obj} {fn : FuncId} {tm : Array Value} {ps : List Tmp} {ac bd : Code} {eo : List (Nat × A)} {xs : List A} {d : Option Tmp} {fo : Operand} {args : List Operand} {tys : Array TypeId} {ty : TypeId} {pos : String} {aft : Array Edge}
    (hd : fits nt d = true) (hf : rdA st.e fo = some (.one (.v (.func (.yield l) #[] #[])))) (ha : rdAs st.e args = some xs) (hps : ps.length = xs.length) (hpb : ∀ p ∈ ps, p < nto) (hto : tm.size = nto) (hmp : isMapB o = true) (hφ : ∀ m0, φ m0 → OutOk eo tm m0)
    (hround : ∀ n0, WpX P (some l) (fun _ => True) ⟨nto, n0⟩ ac (fun e st1 g1 => e = .normal ∧ ∃ o1, isMapB o1 = true ∧ g1 = ⟨[], K3 b o1 l (recL .ready none fn tm ps ac bd D) D⟩ ∧
      WpX P (some l) (fun _ => True) ⟨nto, n0⟩ bd (fun e st' g' => ∃ o', isMapB o' = true ∧ g' = ⟨[], K3 b o' l (recL .busy none fn tm ps ac bd D) D⟩ ∧ ∃ j, jumpOf e = some j ∧
          WpXL P none φ nt ops Q rest (St.put ⟨st.e, st'.s⟩ d (.one (.v (.bool j.isNone)))) ⟨[], K3 b o' l (recL (if j.isNone then .ready else .done) j fn tm ps ac bd D) D⟩) st1 ⟨[], K3 b o1 l (recL .busy none fn tm ps ac bd D) D⟩) ⟨bindA eo ps xs, st.s⟩ ⟨[], K3 b o l (recL .ready none fn tm ps ac bd D) D⟩) :
    WpXL P none φ nt ops Q (⟨d, .call { callee := .value fo, args := args.toArray, argTypes := tys }, ty, pos, aft, none⟩ :: rest) st ⟨[], K3 b o l (recL .ready none fn tm ps ac bd D) D⟩ := fun H w0 S0 m0 m a w hds hφ0 hs hk Q' hQ => by
  have hl := hk.at_ (l, .loop (recL .ready none fn tm ps ac bd D)) (by simp [K3])
  simp only at hl
  have hHl := hk.hid (l, .loop (recL .ready none fn tm ps ac bd D)) (by simp [K3])
  simp only at hHl
  have e1 := hs.rd hf
  simp only [Ca, Cc, nod_eval] at e1
  have hv := hs.rds ha
  rw [nod_eval] at hv
  have hlen : (args.map a.eval).length = xs.length := hv.len
  unfold wpListIn
  rw [if_pos (show Region.wanted _ (yielded ops a.tmps) = true from rfl)]
  unfold Oper.wpIn
  refine ⟨fun _ _ => trivial, ?_⟩
  rw [Oper.semAt_plain (fnc none) _ _ (fun c e => by cases e)]
  have hrun : (execOp a.eval ⟨d, .call { callee := .value fo, args := args.toArray, argTypes := tys }, ty, pos, aft, none⟩).run P w = .ok (.round l fn ((ps.zip (args.map a.eval)).foldl (fun t p => t.setIfInBounds p.1 p.2) tm) ac bd) w := by
    have hy := run_yield (P := P) (args := (args.map a.eval).toArray) hl (by simp [recL, hps, hlen])
    simp only [recL] at hy
    rw [show (Array.foldl (fun tmps x => match x with | (t, a) => tmps.setIfInBounds t a) tm (ps.toArray.zip (List.map a.eval args).toArray)) = (ps.zip (args.map a.eval)).foldl (fun t p => t.setIfInBounds p.1 p.2) tm by simp] at hy
    simp only [execOp, resolve, e1.1, Deferred.ofValue, Sem.run_bind, Sem.run_pure, Result.andThen_ok, invoke, List.map_toArray]
    have : ((#[] : Array Value) ++ (args.map a.eval).toArray ++ #[]) = (args.map a.eval).toArray := by simp
    first | rw [this, hy] | exact hy | (simp; exact hy)
  rw [hrun, Oper.uponIn_round]
  refine ⟨fun e => absurd e (by simp [fnc, Fence.wide]), ?_⟩
  have hup := hs.up
  obtain ⟨henv, hsz⟩ := bindA_ok (X := ⟨vis H st.s m w, m⟩) ps xs (args.map a.eval) eo tm (fun i x hx => by
    obtain ⟨u, h1, h2⟩ := hφ m0 hφ0 m hup i x hx
    exact ⟨u, h1, h2 _⟩) hv hps (fun p hp => by rw [hto]; exact hpb p hp)
  have hsim : Sim H w (fun x => hidB st.s m x || inK (K3 b o l (recL .ready none fn tm ps ac bd D) D) x) m ⟨nto, m.length⟩ ⟨bindA eo ps xs, st.s⟩ m (nod { tmps := (ps.zip (args.map a.eval)).foldl (fun t p => t.setIfInBounds p.1 p.2) tm, defers := [] }) w :=
    ⟨henv, hsz.trans hto, rfl, hs.sto, Fr.refl _ _, fun i ob l h1 h2 => .inl (by simp [hidB_iff.2 ⟨i, ob, l, h1, h2, rfl⟩]), Up.refl _, rfl⟩
  have hhid : Hid H w (fun x => hidB st.s m x || inK (K3 b o l (recL .ready none fn tm ps ac bd D) D) x) (K3 b o l (recL .ready none fn tm ps ac bd D) D) w := ⟨hk.hid, fun x hx => .inl (by simp [inK_iff.2 ⟨x, hx, rfl⟩]), hk.at_⟩
  refine roundIn_of_wpIn (F := fnc none) trivial (wpIn_mono (hround m.length H w _ m m _ w rfl trivial hsim hhid) fun e a1 w1 ⟨H1, st1, m1, g1, hd1, hg1, ⟨he, o1, hmp1, hgs, hb⟩, hs1, hk1⟩ => ?_)
  subst he hgs
  have hl1 := hk1.at_ (l, .loop (recL .ready none fn tm ps ac bd D)) (by simp [K3])
  simp only at hl1
  have hlt1 := (Array.getElem?_eq_some_iff.1 hl1).1
  refine ⟨_, run_beginRound hl1 rfl, ?_⟩
  have hs2 : Sim H1 w _ m ⟨nto, m.length⟩ st1 m1 (nod a1) (w1.putObj l (.loop (recL .busy none fn tm ps ac bd D))) := hs1.other (l := l) (hk1.hid (l, .loop (recL .ready none fn tm ps ac bd D)) (by simp [K3])) (hk1.own (l, .loop (recL .ready none fn tm ps ac bd D)) (by simp [K3])) World.putObj_size rfl rfl rfl (fun x hx => World.putObj_heap_other hx)
  have hk2 := hk1.k3 (w' := w1.putObj l (.loop (recL .busy none fn tm ps ac bd D))) hmp1 (World.putObj_heap_same hlt1) (fun x hx => World.putObj_heap_other hx)
  refine wpIn_mono (hb H1 w _ m m1 a1 _ hd1 trivial hs2 hk2) fun e a3 w3 ⟨H3, st3, m3, g3, hd3, hg3, ⟨o3, hmp3, hgs3, j, hj, hnext⟩, hs3, hk3⟩ => ?_
  subst hgs3
  have hl3 := hk3.at_ (l, .loop (recL .busy none fn tm ps ac bd D)) (by simp [K3])
  simp only at hl3
  have hlt3 := (Array.getElem?_eq_some_iff.1 hl3).1
  refine roundPost_of hj ⟨_, _, run_endRound j hl3, ?_⟩
  have hs4 := hs3.other (w' := w3.putObj l (.loop (recL (if j.isNone then .ready else .done) j fn tm ps ac bd D))) (l := l) (hk3.hid (l, .loop (recL .busy none fn tm ps ac bd D)) (by simp [K3])) (hk3.own (l, .loop (recL .busy none fn tm ps ac bd D)) (by simp [K3])) World.putObj_size rfl rfl rfl (fun x hx => World.putObj_heap_other hx)
  have hk4 := hk3.k3 (w' := w3.putObj l (.loop (recL (if j.isNone then .ready else .done) j fn tm ps ac bd D))) hmp3 (World.putObj_heap_same hlt3) (fun x hx => World.putObj_heap_other hx)
  have hgg : Grow w H H3 := hg1.trans hg3
  obtain ⟨h1, h2, -⟩ := hs.rejoin hk hgg hs4.sto hs4.fr hs4.up (fun i ob lo h1 h2 => by
    rcases hs4.own i ob lo h1 h2 with h3 | h3
    · simp only [Bool.or_eq_true] at h3
      rcases h3 with h3 | h3
      · exact .inl h3
      · obtain ⟨x, hx, e⟩ := inK_iff.1 h3
        have h4 := hgg.old _ (hk.hid x hx)
        rw [e, hs4.sto.nh i ob lo h1 h2] at h4; cases h4
    · exact .inr h3) (ks' := K3 b o3 l (recL (if j.isNone then .ready else .done) j fn tm ps ac bd D) D) (fun x hx => ⟨hk4.hid x hx, .inl (by rw [inK3 (o' := o3) (r' := recL (if j.isNone then .ready else .done) j fn tm ps ac bd D)]; exact inK_iff.2 ⟨x, hx, rfl⟩), hk4.at_ x hx⟩)
  exact hnext H3 w0 S0 m0 m3 (a.put d _) _ (by rw [put_defs]; exact hds) hφ0 (by rw [nod_put]; exact h1.put hd (by simp only [Ca, Cc]; exact ⟨trivial, rfl⟩)) h2 Q' (fun a' w' hx => hQ a' w' (hx.less (hgg.less hs.fr.size)))
end
/-- What is known by the places alone. -/
def placed : A → Bool
  | .one (.v _) => true
  | .one (.ptr _ _ _ _) => true
  | .one (.ms _ _) => true
  | _ => false
theorem placed_ok {X : Cx} {m' : List Lo} (hu : Up X.lk m') : ∀ {x : A} {u : Value}, placed x = true → Ca X x u → ∀ r, Ca ⟨r, m'⟩ x u
  | .one (.v _), u, _, h, r => by simpa only [Ca, Cc] using h
  | .one (.ptr _ _ _ _), u, _, h, r => by simp only [Ca, Cc] at h ⊢; exact ⟨h.1, ms_up hu h.2⟩
  | .one (.ms _ _), u, _, h, r => by simp only [Ca, Cc] at h ⊢; exact ⟨h.1, ms_up hu h.2⟩
  | .any, _, h, _, _ => by simp [placed] at h
  | .agg _, _, h, _, _ => by simp [placed] at h
  | .tup _, _, h, _, _ => by simp [placed] at h
  | .one .any, _, h, _, _ => by simp [placed] at h
  | .one (.sl _ _), _, h, _, _ => by simp [placed] at h
  | .one (.pf _), _, h, _, _ => by simp [placed] at h
  | .one (.fn _ _), _, h, _, _ => by simp [placed] at h
section
variable {P : Program} {φ : List Lo → Prop} {nt : Cf} {Q : Exit → St → Gs → Prop} {st : St}
theorem WpX.range {g : Operand} {ps : List Tmp} {ac bd : Code} {gf : FuncId} {caps : List C} {fnI : Func} {cI : Code} {ntI b : Nat} {o : Obj} (eo : List (Nat × A))
    (hg : rdA st.e g = some (.one (.fn gf caps))) (hfn : P.funcs[gf]? = some fnI) (hbody : fnI.body = some cI) (hnt : fnI.ntmps = ntI) (hres : fnI.results = #[]) (hcal : callable P gf = true) (hn : caps.length + 1 ≤ ntI) (hmp : isMapB o = true)
    (heo : ∀ i x, find eo i = some x → find st.e i = some x ∧ placed x = true)
    (hit : ∀ l D fn tm, tm.size = nt.nt → WpX P none (OutOk eo tm) ⟨ntI, st.s.length⟩ cI (fun e st' g' => (e = .ret ∨ e = .normal) ∧ ∃ o' s j, isMapB o' = true ∧ g' = ⟨[], K3 b o' l (recL s j fn tm ps ac bd D) D⟩ ∧ (s = .ready ∨ s = .done) ∧
        ∃ ex, jumpOf ex = some j ∧ Q ex ⟨st.e, st'.s⟩ ⟨[{ target := .collected D, args := #[] }], [(b, o'), (D, .deferred (some []))]⟩) ⟨args0 0 (.one (.v (.func (.yield l) #[] #[])) :: caps.map .one), st.s⟩ ⟨[], K3 b o l (recL .ready none fn tm ps ac bd D) D⟩) :
    WpX P none φ nt (.rangeFunc g ps.toArray ac bd) Q st ⟨[], [(b, o)]⟩ := fun H w0 S0 m0 m a w hds hφ hs hk => by
  subst hnt
  refine wpIn_rangeFunc (F := fnc none) ?_
  intro fn _
  have e1 := hs.rd hg
  simp only [Ca, Cc, nod_eval] at e1
  obtain ⟨vs, ef, hu⟩ := e1
  obtain ⟨W1, hW1⟩ : ∃ W1, (w.alloc (.deferred (some []))).alloc (.loop (recL .ready none fn a.tmps ps ac bd w.heap.size)) = W1 := ⟨_, rfl⟩
  have hsz : W1.heap.size = w.heap.size + 2 := by rw [← hW1]; simp
  have hL1 : W1.heap[w.heap.size + 1]? = some (.loop (recL .ready none fn a.tmps ps ac bd w.heap.size)) := by
    rw [← hW1]; have := World.alloc_heap_new (w.alloc (.deferred (some []))) (.loop (recL .ready none fn a.tmps ps ac bd w.heap.size)); rwa [World.size_alloc] at this
  have hD1 : W1.heap[w.heap.size]? = some (.deferred (some [])) := by
    rw [← hW1]; exact (Below.heap_alloc _ _ _ (by simp)).trans (World.alloc_heap_new w _)
  have hold : ∀ x, x < w.heap.size → W1.heap[x]? = w.heap[x]? := fun x hx => by
    rw [← hW1]; exact (Below.heap_alloc _ _ _ (by simp; omega)).trans (Below.heap_alloc _ _ _ hx)
  have hfr : Fr (fun _ => false) w W1 := ⟨by rw [← hW1]; rfl, by rw [← hW1]; rfl, by rw [← hW1]; rfl, by omega, fun x hx _ => hold x hx⟩
  have hb := hk.at_ (b, o) (by simp)
  have hHb := hk.hid (b, o) (by simp)
  simp only at hb hHb
  have hblt := (Array.getElem?_eq_some_iff.1 hb).1
  refine ⟨w.heap.size + 1, [{ target := .collected w.heap.size, args := #[] }], W1, { target := .fn (.func gf) vs.toArray, args := #[.func (.yield (w.heap.size + 1)) #[] #[]] }, W1, gf, #[.func (.yield (w.heap.size + 1)) #[] #[]] ++ vs.toArray, W1, ?_, ?_, fun _ _ => trivial, ?_, fun e => absurd e (by simp [fnc, Fence.wide]), ?_⟩
  · rw [← hW1]; exact run_enterLoop_outer _ _ _ _ _
  · simp only [resolve, ef]
    simp [go_sem]
  · simp [invoke, go_sem, run_callFunc hcal]
  have hgrow : Grow w H (fun x => H x || (x == w.heap.size || x == w.heap.size + 1)) := ⟨fun x hx => by simp [hx], fun x hx => by
    simp only [Bool.or_eq_true, beq_iff_eq] at hx
    exact hx.imp id (fun e => by omega)⟩
  obtain ⟨hso, hkeep⟩ := hs.sto.wide (H' := fun x => H x || (x == w.heap.size || x == w.heap.size + 1)) hfr (fun x hx => by
    have h1 : (x == w.heap.size) = false := by simp; omega
    have h2 : (x == w.heap.size + 1) = false := by simp; omega
    simp [h1, h2]) (fun x hx => by
      simp only [Bool.or_eq_true, beq_iff_eq] at hx
      rcases hx with hx | hx
      · have := hs.sto.hlt x hx; omega
      · omega)
  have hul := hu.len
  have hsim : Sim (fun x => H x || (x == w.heap.size || x == w.heap.size + 1)) W1 (fun x => hidB st.s m x || inK (K3 b o (w.heap.size + 1) (recL .ready none fn a.tmps ps ac bd w.heap.size) w.heap.size) x) m ⟨fnI.ntmps, st.s.length⟩ ⟨args0 0 (.one (.v (.func (.yield (w.heap.size + 1)) #[] #[])) :: caps.map .one), st.s⟩ m
      (nod { tmps := (#[Value.func (.yield (w.heap.size + 1)) #[] #[]] ++ vs.toArray) ++ Array.replicate (fnI.ntmps - (#[Value.func (.yield (w.heap.size + 1)) #[] #[]] ++ vs.toArray).size) undef, defers := [] }) W1 := by
    have hv : Cas ⟨vis (fun x => H x || (x == w.heap.size || x == w.heap.size + 1)) st.s m W1, m⟩ (.one (.v (.func (.yield (w.heap.size + 1)) #[] #[])) :: caps.map .one) (.func (.yield (w.heap.size + 1)) #[] #[] :: vs) := by
      simp only [Cas, Ca, Cc]
      exact ⟨_, _, rfl, ⟨rfl, rfl⟩, Cas.ones (Ccs.keep (X := ⟨vis H st.s m w, m⟩) (X' := ⟨vis (fun x => H x || (x == w.heap.size || x == w.heap.size + 1)) st.s m W1, m⟩) hkeep (Up.refl _) hu)⟩
    refine ⟨fun i x hx => ?_, by simp [nod, hul]; omega, rfl, hso, Fr.refl _ _, fun i ob l h1 h2 => .inl (by simp [hidB_iff.2 ⟨i, ob, l, h1, h2, rfl⟩]), Up.refl _, hs.sto.len.symm⟩
    obtain ⟨-, h2⟩ := find_args0 _ 0 i x hx
    obtain ⟨u, hu, hc⟩ := hv.at h2
    refine ⟨u, ?_, hc⟩
    simp only [Nat.sub_zero] at hu
    have hi := (List.getElem?_eq_some_iff.1 hu).1
    have e : (#[Value.func (.yield (w.heap.size + 1)) #[] #[]] ++ vs.toArray) = (Value.func (.yield (w.heap.size + 1)) #[] #[] :: vs).toArray := by simp
    simp only [nod]
    rw [e, Array.getElem?_append_left (by simpa using hi)]
    simpa using hu
  have hhid : Hid (fun x => H x || (x == w.heap.size || x == w.heap.size + 1)) W1 (fun x => hidB st.s m x || inK (K3 b o (w.heap.size + 1) (recL .ready none fn a.tmps ps ac bd w.heap.size) w.heap.size) x) (K3 b o (w.heap.size + 1) (recL .ready none fn a.tmps ps ac bd w.heap.size) w.heap.size) W1 := by
    refine ⟨fun x hx => ?_, fun x hx => .inl (by simp [inK_iff.2 ⟨x, hx, rfl⟩]), fun x hx => ?_⟩ <;> (simp only [K3, List.mem_cons, List.not_mem_nil, or_false] at hx; rcases hx with rfl | rfl | rfl)
    · simp [hHb]
    · simp
    · simp
    · exact (hold b hblt).trans hb
    · exact hL1
    · exact hD1
  have hout : OutOk eo a.tmps m := fun m' hm' i x hx => by
    obtain ⟨h1, h2⟩ := heo i x hx
    obtain ⟨u, h3, h4⟩ := hs.env i x h1
    exact ⟨u, h3, placed_ok (X := ⟨vis H st.s m w, m⟩) hm' h2 h4⟩
  refine callsIn_of_wp (F := fnc none) hfn hbody trivial (wpIn_mono (hit (w.heap.size + 1) w.heap.size fn a.tmps hs.nts _ W1 _ m m _ W1 rfl hout hsim hhid) fun e a' w' ⟨H', st', m', g', hd', hg', ⟨he, o', sj, j, hmp', hgs, hsj, ex, hex, hQ⟩, hs', hk'⟩ => ?_) rfl
  subst hgs
  have hl' := hk'.at_ (w.heap.size + 1, .loop (recL sj j fn a.tmps ps ac bd w.heap.size)) (by simp [K3])
  simp only at hl'
  have hlt' := (Array.getElem?_eq_some_iff.1 hl').1
  have hend := run_endLoop (P := P) hl' (by rcases hsj with rfl | rfl <;> simp [recL])
  have hs4 := hs'.other (w' := w'.putObj (w.heap.size + 1) (.loop (recL .exhausted j fn a.tmps ps ac bd w.heap.size))) (l := w.heap.size + 1) (hk'.hid (w.heap.size + 1, .loop (recL sj j fn a.tmps ps ac bd w.heap.size)) (by simp [K3])) (hk'.own (w.heap.size + 1, .loop (recL sj j fn a.tmps ps ac bd w.heap.size)) (by simp [K3])) World.putObj_size rfl rfl rfl (fun x hx => World.putObj_heap_other hx)
  have hk4 := hk'.k3 (w' := w'.putObj (w.heap.size + 1) (.loop (recL .exhausted j fn a.tmps ps ac bd w.heap.size))) hmp' (World.putObj_heap_same hlt') (fun x hx => World.putObj_heap_other hx)
  have hgg : Grow w H H' := hgrow.trans (hg'.less (by omega))
  have hinb : ∀ x, x < w.heap.size → inK (K3 b o (w.heap.size + 1) (recL .ready none fn a.tmps ps ac bd w.heap.size) w.heap.size) x = inK [(b, o)] x := fun x hx => by
    have h1 : (w.heap.size + 1 == x) = false := by simp; omega
    have h2 : (w.heap.size == x) = false := by simp; omega
    simp [inK, K3, h1, h2]
  obtain ⟨h1, h2, -⟩ := hs.rejoin hk hgg hs4.sto ⟨hs4.fr.os.trans hfr.os, hs4.fr.tape.trans hfr.tape, hs4.fr.output.trans hfr.output, Nat.le_trans hfr.size hs4.fr.size, fun x hx hh => by
      rw [hs4.fr.block x (by omega) (by rw [hinb x hx]; exact hh)]; exact hold x hx⟩ hs4.up (fun i ob lo h1 h2 => by
    rcases hs4.own i ob lo h1 h2 with h3 | h3
    · simp only [Bool.or_eq_true] at h3
      rcases h3 with h3 | h3
      · exact .inl h3
      · obtain ⟨x, hx, e⟩ := inK_iff.1 h3
        have h4 := hg'.old _ (hhid.hid x hx)
        rw [e, hs4.sto.nh i ob lo h1 h2] at h4; cases h4
    · exact .inr (by omega)) (ks' := [(b, o'), (w.heap.size, .deferred (some []))]) (fun x hx => by
      simp only [List.mem_cons, List.not_mem_nil, or_false] at hx
      rcases hx with rfl | rfl
      · exact ⟨hk4.hid (b, o') (by simp [K3]), .inl (by simp [inK]), hk4.at_ (b, o') (by simp [K3])⟩
      · exact ⟨hk4.hid (w.heap.size, .deferred (some [])) (by simp [K3]), .inr (Nat.le_refl _), hk4.at_ (w.heap.size, .deferred (some [])) (by simp [K3])⟩)
  have hda : ({ a with defers := [{ target := .collected w.heap.size, args := #[] }] ++ a.defers } : Act).defers = [{ target := .collected w.heap.size, args := #[] }] := by simp [hds]
  have hHX : HX H w0 S0 m0 nt Q ex { a with defers := [{ target := .collected w.heap.size, args := #[] }] ++ a.defers } (w'.putObj (w.heap.size + 1) (.loop (recL .exhausted j fn a.tmps ps ac bd w.heap.size))) :=
    ⟨H', _, m', ⟨[{ target := .collected w.heap.size, args := #[] }], [(b, o'), (w.heap.size, .deferred (some []))]⟩, hda, hgg.less hs.fr.size, hQ, h1, h2⟩
  have hpost : rangePost (fnc none) 0 P (w.heap.size + 1) (HX H w0 S0 m0 nt Q) { a with defers := [{ target := .collected w.heap.size, args := #[] }] ++ a.defers } (.returned (.tuple #[])) w' := by
    refine ⟨j, _, hend, ?_⟩
    cases ex <;> simp [jumpOf] at hex <;> subst hex
    · exact hHX
    · exact wpIn_exit hHX
    · exact wpIn_ret hHX
  have hfin : a'.defers = [] ∧ ∃ v, (Go.results fnI a'.tmps).run P w' = .ok v w' ∧ rangePost (fnc none) 0 P (w.heap.size + 1) (HX H w0 S0 m0 nt Q) { a with defers := [{ target := .collected w.heap.size, args := #[] }] ++ a.defers } (.returned v) w' := ⟨hd', .tuple #[], by simp [Go.results, hres]; first | rfl | skip, hpost⟩
  rcases he with rfl | rfl <;> exact hfin
/-- At the end of a function that writes nothing of its caller's, with a mark perhaps. -/
def EndX (P : Program) (rs : List ResultVar) (R : A → Prop) : Exit → St → Gs → Prop := fun e st g => (e = .ret ∨ e = .normal) ∧ (g.ds = [] ∨ ∃ D, g.ds = [{ target := .collected D, args := #[] }] ∧ (D, Obj.deferred (some [])) ∈ g.ks) ∧ ∃ q l p r, resA P st.s st.e rs = some (q, l) ∧ q ∧ viewA st.s (tupA l) = some (p, r) ∧ p ∧ ∃ r', ALe r r' ∧ R r'
theorem Fn.introX {f : FuncId} {fn : Func} {c : Code} {args : List A} {R : A → Prop} {nt : Nat} {rs : List ResultVar} (hf : P.funcs[f]? = some fn) (hb : fn.body = some c) (hnt : fn.ntmps = nt) (hrs : fn.results = rs.toArray) (hn : args.length ≤ nt) (h : WpX P none (fun _ => True) ⟨nt, 0⟩ c (EndX P rs R) ⟨args0 0 args, []⟩ ⟨[], []⟩) :
    Fn P f args [] fun r s => R r ∧ s = [] := by
  subst hnt
  intro H m w vs hs hv
  have hm : m = [] := by have := hs.len; simp at this; exact List.eq_nil_of_length_eq_zero (by omega)
  subst hm
  refine (callsIn_wide (n := 0)).1 (callsIn_of_wp_marks hf hb trivial ?_)
  have hl := hv.len
  have hsim : Sim H w (fun _ => false) [] ⟨fn.ntmps, 0⟩ ⟨args0 0 args, []⟩ [] (nod { tmps := vs.toArray ++ Array.replicate (fn.ntmps - vs.toArray.size) undef, defers := [] }) w := by
    refine ⟨fun i x hx => ?_, by simp [nod]; omega, rfl, hs, Fr.refl _ _, by simp, Up.refl _, rfl⟩
    obtain ⟨-, h2⟩ := find_args0 args 0 i x hx
    obtain ⟨u, hu, hc⟩ := hv.at h2
    refine ⟨u, ?_, hc⟩
    simp only [Nat.sub_zero] at hu
    simp only [nod]
    rw [Array.getElem?_append_left (by simpa using (List.getElem?_eq_some_iff.1 hu).1)]
    simpa using hu
  refine wpIn_mono (h H w _ [] [] _ w rfl trivial hsim ⟨by simp, by simp, by simp⟩) fun e a' w' ⟨H', st', m', g', hd', hg', ⟨he, hds, q, l, p, r, hr, hq, hvw, hp, r', hle, hR⟩, hs', hk'⟩ => ?_
  -- what is answered, in a world that may have its mark taken
  have key : ∀ w2 : World, Sim H' w (fun _ => false) [] ⟨fn.ntmps, 0⟩ st' m' (nod a') w2 → ∃ v, (Go.results fn a'.tmps).run P w2 = .ok v w2 ∧ ∃ v2 m2 r2 s2, Ending.returned v = .returned v2 ∧ (R r2 ∧ s2 = []) ∧ StoOk H s2 m2 w2 ∧ Ca ⟨vis H s2 m2 w2, m2⟩ r2 v2 ∧ Fr (hidB [] []) w w2 ∧ Up [] m2 ∧ ∀ (i : Nat) (ob : Ob) (l : Lo), s2[i]? = some (some ob) → m2[i]? = some l → hidB [] [] l.b = true ∨ w.heap.size ≤ l.b := fun w2 hs2 => by
    obtain ⟨u, hu, hc⟩ := hs2.results (P := P) (fn := fn) (by rw [hrs]; exact hr) hq
    have h0 : StoOk H' [] [] w2 := ⟨rfl, by simp, by simp, by simp, hs2.sto.hlt, fun b hb => ⟨(hs2.sto.gb b hb).1, rfl, (hs2.sto.gb b hb).2.2⟩, hs2.sto.gl⟩
    refine ⟨u, hu, u, [], r', [], rfl, ⟨hR, rfl⟩, h0.less hg'.old, ?_, ⟨hs2.fr.os, hs2.fr.tape, hs2.fr.output, hs2.fr.size, fun b hb _ => hs2.fr.block b hb rfl⟩, Up.refl _, by simp⟩
    exact Ca.keep (X := ⟨vis H' [] [] w2, []⟩) (X' := ⟨vis H [] [] w2, []⟩) (vis_less hg'.old _ _ _) (Up.refl _) (hle _ _ (viewA_sound hs2.sto hvw hp hc))
  have hfin : LeavesInM Fence.wide 0 P fn a'.tmps (fun e w' => ∃ v m' r s', e = Ending.returned v ∧ (R r ∧ s' = []) ∧ StoOk H s' m' w' ∧ Ca ⟨vis H s' m' w', m'⟩ r v ∧ Fr (hidB [] []) w w' ∧ Up [] m' ∧ ∀ (i : Nat) (ob : Ob) (l : Lo), s'[i]? = some (some ob) → m'[i]? = some l → hidB [] [] l.b = true ∨ w.heap.size ≤ l.b) a'.defers .returning w' := by
    rw [hd']
    rcases hds with hds | ⟨D, hds, hD⟩
    · rw [hds]
      exact key w' hs'
    · rw [hds]
      have hD' := hk'.at_ _ hD
      refine ⟨by simp, .inl ⟨_, _, rfl, run_takeDeferred hD', ?_⟩⟩
      exact key _ (hs'.other (l := D) (hk'.hid _ hD) (hk'.own _ hD) World.putObj_size rfl rfl rfl (fun x hx => World.putObj_heap_other hx))
  rcases he with rfl | rfl <;> exact hfin
end
end Go.Proofs.YtdcmihhcpgkgiaaDoor
end
