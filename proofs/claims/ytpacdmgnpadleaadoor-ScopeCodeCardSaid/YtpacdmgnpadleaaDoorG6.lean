/-
 Laid together: Num19, Cd19, Cons19, Node19, NodeB, NodeC, NodeD.
-/
import Derived.Test.YtpacdmgnpadleaaDoorG5
import Derived.Test.YtpacdmgnpadleaaDoorG4
import Derived.Test.YtpacdmgnpadleaaDoorCopy
section
namespace Go.Proofs.YtpacdmgnpadleaaDoor
open Go Go.RowKit Go.Lib
set_option linter.unusedSimpArgs false
set_option linter.unusedVariables false
set_option maxHeartbeats 4000000
set_option maxRecDepth 100000
noncomputable def addN (l : List ByteArray) (s : ByteArray) : List ByteArray := match posn l s with | some _ => l | none => l ++ [s]
noncomputable def numN (l : List ByteArray) (s : ByteArray) : Int := match posn l s with | some k => k | none => l.length
theorem addN_ne (l : List ByteArray) (s : ByteArray) : addN l s ≠ [] := by
 unfold addN
 split
 ·rename_i k h
  unfold posn at h
  have := (List.findIdx?_eq_some_iff_getElem.1 h).1
  intro e; rw [e] at this; simp at this
 ·simp
theorem numberN (s : ByteArray) : Fn Tryd.prog 63 [.one (.v (.slice none 0 0)), .one (.v (.string s))] [] (fun r st => r = .tup [.one (.ms 0 1), .one (.v (.int .i64 0))] ∧ st = [some ⟨9, 1, strC [s]⟩]) := by
 have hix := index_pure [] s (by simp)
 have h0 : idx [] s = -1 := rfl
 rw [h0] at hix
 refine Fn.introT Tryd.func63 rfl Tryd.ntmps63 Tryd.results63 (by simp only [List.length_cons, List.length_nil]; decide) ?_
 repeat (first | (apply fw; (with_reducible constructor) <;> rfl) | (apply WpA.cd; constructor) | ((first | with_reducible refine WpA.go _ rfl fun Y y => ?_ | apply RunTo.id); simp only [zb, seval, w63]; refine RunTo.fn y (by first | (simp; done) | omega | (simp; omega)) ?_; clear y Y))
 refine WpL.call rfl (guardA_sound (P := Tryd.prog) rfl) (CallA.shut rfl rfl (by kernel_rfl) (show ALes [.one (.v (.slice none 0 0)), _] [.one (.sl 1 (strC [])), _] from ALes.cons ALe.nil (ALes.refl _)) rfl hix ?_)
 (refine WpL.go _ rfl fun Y y => ?_); repeat (first | (apply fw; (with_reducible constructor) <;> rfl) | (apply WpA.cd; constructor) | ((first | with_reducible refine WpA.go _ rfl fun Y y => ?_ | apply RunTo.id); simp only [zb, seval, w63]; refine RunTo.fn y (by first | (simp; done) | omega | (simp; omega)) ?_; clear y Y))
 refine ⟨.inl rfl, _, _, _, _, (by simp only [zb, seval]; rfl), by simp, ?_, rfl, rfl⟩
 refine Le.names [1] (Handed.of (by simp) (by simp [Ob.ren, strC, C.rens, C.ren])) (by simp) ?_
 simp [SubR, find, A.ren, A.rens, C.ren, tupA, rn]
theorem numberM (l : List ByteArray) (s : ByteArray) (hne : l ≠ []) (hlen : l.length ≤ 1000000000) : Fn Tryd.prog 63 [.one (.ms 0 l.length), .one (.v (.string s))] [some ⟨9, 1, strC l⟩] (fun r st => r = .tup [.one (.ms 0 (addN l s).length), .one (.v (.int .i64 (numN l s)))] ∧ st = [some ⟨9, 1, strC (addN l s)⟩]) := by
 have hl := strC_len l
 have hix := index_pure l s (by omega)
 cases hp : posn l s with
 | some k =>
  have hi : idx l s = k := by unfold idx; rw [hp]
  have hk : decide ((k : Int) < 0) = false := by simp
  rw [hi] at hix
  rw [show addN l s = l by unfold addN; rw [hp], show numN l s = k by unfold numN; rw [hp]]
  refine Fn.introT Tryd.func63 rfl Tryd.ntmps63 Tryd.results63 (by simp only [List.length_cons, List.length_nil]; decide) ?_
  repeat (first | (apply fw; (with_reducible constructor) <;> rfl) | (apply WpA.cd; constructor) | ((first | with_reducible refine WpA.go _ rfl fun Y y => ?_ | apply RunTo.id); simp only [zb, seval, w63]; refine RunTo.fn y (by first | (simp; done) | omega | (simp; omega)) ?_; clear y Y))
  refine WpL.call rfl (guardA_sound (P := Tryd.prog) rfl) (CallA.lend rfl rfl (by kernel_rfl) (by simp only [viewAs, viewA, viewC, viewCs, List.cons_append, List.nil_append, List.map_nil, List.getElem?_cons_zero, List.getElem?_cons_succ]; rfl) (by simp [hl]; exact strC_shut l) rfl hix ?_)
  (refine WpL.go _ rfl fun Y y => ?_); repeat (first | (apply fw; (with_reducible constructor) <;> rfl) | (apply WpA.cd; constructor) | ((first | with_reducible refine WpA.go _ rfl fun Y y => ?_ | apply RunTo.id); simp only [zb, seval, w63, hk]; refine RunTo.fn y (by first | (simp; done) | omega | (simp; omega)) ?_; clear y Y))
  refine ⟨.inl rfl, _, _, _, _, (by simp only [zb, seval]; rfl), by simp, Le.refl _ _, rfl, rfl⟩
 | none =>
  have hi : idx l s = -1 := by unfold idx; rw [hp]
  rw [hi] at hix
  rw [show addN l s = l ++ [s] by unfold addN; rw [hp], show numN l s = l.length by unfold numN; rw [hp]]
  refine Fn.introT Tryd.func63 rfl Tryd.ntmps63 Tryd.results63 (by simp only [List.length_cons, List.length_nil]; decide) ?_
  repeat (first | (apply fw; (with_reducible constructor) <;> rfl) | (apply WpA.cd; constructor) | ((first | with_reducible refine WpA.go _ rfl fun Y y => ?_ | apply RunTo.id); simp only [zb, seval, w63]; refine RunTo.fn y (by first | (simp; done) | omega | (simp; omega)) ?_; clear y Y))
  refine WpL.call rfl (guardA_sound (P := Tryd.prog) rfl) (CallA.lend rfl rfl (by kernel_rfl) (by simp only [viewAs, viewA, viewC, viewCs, List.cons_append, List.nil_append, List.map_nil, List.getElem?_cons_zero, List.getElem?_cons_succ]; rfl) (by simp [hl]; exact strC_shut l) rfl hix ?_)
  (refine WpL.go _ rfl fun Y y => ?_); repeat (first | (apply fw; (with_reducible constructor) <;> rfl) | (apply WpA.cd; constructor) | ((first | with_reducible refine WpA.go _ rfl fun Y y => ?_ | apply RunTo.id); simp only [zb, seval, w63, hl]; refine RunTo.fn y (by first | (simp; done) | omega | (simp; omega)) ?_; clear y Y))
  refine ⟨.inl rfl, _, _, _, _, (by simp only [zb, seval]; rfl), by simp, Le.drop 1 (by simp) ?_ ?_ (by simp [envBd, A.bd, A.bds, C.bd]) ?_, rfl, rfl⟩
  ·rw [strC_app]; rfl
  ·simp [Sub, find, tupA]
  ·simp only [ObBd]; exact ⟨strC_bd _ _, trivial⟩
theorem WpL.number {nt : Cf} {ops : Array Oper} {Q : St → Prop} {st : St} {rest : List Oper} {d : Option Tmp} {fo : Operand} {args : List Operand} {tys : Array TypeId} {ty : TypeId} {pos : String} {aft : Array Edge} {c : C} {l : List ByteArray} {s : ByteArray} (hlen : l.length ≤ 1000000000) (hd : fits nt d = true)
  (hf : rdA st.e fo = some (.one (.fn 63 []))) (ha : rdAs st.e args = some [.one c, .one (.v (.string s))]) (hc : At 9 1 st.s c (strC l))
  (h : ∀ S' c', At 9 1 S' c' (strC (addN l s)) → (∀ (j : Nat) (o : Option Ob), st.s[j]? = some o → (∀ n, c ≠ .ms j n) → S'[j]? = some o) → (∀ (j n : Nat), c' = .ms j n → c = .ms j l.length ∨ st.s.length ≤ j) → WpL Tryd.prog nt ops Q rest (St.put ⟨st.e, S'⟩ d (.tup [.one c', .one (.v (.int .i64 (numN l s)))]))) :
  WpL Tryd.prog nt ops Q (⟨d, .call { callee := .value fo, args := args.toArray, argTypes := tys }, ty, pos, aft, none⟩ :: rest) st := by
 rcases hc with ⟨h0, rfl⟩ | ⟨hne, j, rfl, hj⟩
 ·have hl0 : l = [] := by simpa [strC] using h0
  subst hl0
  refine WpL.hand (s := []) (ρ := []) hd (guardA_sound (P := Tryd.prog) rfl) hf ha (by kernel_rfl) rfl (Handed.of (by simp) rfl) (numberN s) ?_
  rintro _ _ ⟨rfl, rfl⟩
  have e1 : back st.s [] [some ⟨9, 1, strC [s]⟩] = st.s ++ [some ⟨9, 1, strC [s]⟩] := by
   simp only [back, mix, putAll, List.map_cons, List.map_nil, List.length_nil, List.drop_zero, Option.map_some, ob_strC_ren]
  have e2 : A.ren (rn [] st.s.length) (.tup [.one (.ms 0 1), .one (.v (.int .i64 0))]) = .tup [.one (.ms st.s.length 1), .one (.v (.int .i64 0))] := by
   simp [A.ren, A.rens, C.ren, rn]
  rw [e1, e2]
  have ea : addN [] s = [s] := rfl
  have en : numN [] s = 0 := rfl
  have := h (st.s ++ [some ⟨9, 1, strC [s]⟩]) (.ms st.s.length 1) (by rw [ea]; exact .inr ⟨by simp [strC], st.s.length, rfl, by simp⟩) (fun j o hj _ => up_app hj) (fun j n e => by cases e; exact .inr (Nat.le_refl _))
  rw [en] at this
  exact this
 ·have hl0 : l ≠ [] := fun e => hne (by rw [e]; rfl)
  have hsl := strC_len l
  have hh : Handed st.s [j] [some ⟨9, 1, strC l⟩] := Handed.of (by simp) (by simp [hj, ob_strC_ren])
  refine WpL.hand (s := [some ⟨9, 1, strC l⟩]) (ρ := [j]) (xs' := [.one (.ms 0 l.length), .one (.v (.string s))]) hd (guardA_sound (P := Tryd.prog) rfl) hf ha (by kernel_rfl) (by simp [A.rens, A.ren, C.ren, rn, hsl]) hh (numberM l s hl0 hlen) ?_
  rintro _ _ ⟨rfl, rfl⟩
  have e1 : back st.s [j] [some ⟨9, 1, strC (addN l s)⟩] = st.s.set j (some ⟨9, 1, strC (addN l s)⟩) := by
   simp [back, mix, putAll, ob_strC_ren]
  have e2 : ∀ m : Nat, A.ren (rn [j] st.s.length) (.tup [.one (.ms 0 m), .one (.v (.int .i64 (numN l s)))]) = .tup [.one (.ms j m), .one (.v (.int .i64 (numN l s)))] := fun m => by
   simp [A.ren, A.rens, C.ren, rn]
  rw [e1, e2]
  refine h _ (.ms j (addN l s).length) (.inr ⟨fun e => addN_ne l s (by simpa [strC] using e), j, by rw [strC_len], List.getElem?_set_self (List.getElem?_eq_some_iff.1 hj).1⟩) (fun i o hi hn => ?_) (fun i n e => by cases e; exact .inl (by rw [hsl]))
  rw [List.getElem?_set_ne (fun e => by subst e; exact hn _ rfl)]; exact hi
def scC (sc : List (List ByteArray)) : List (List C) := sc.map fun l => [.sl 1 (strC l)]
theorem scC_len (sc : List (List ByteArray)) : (scC sc).length = sc.length := by simp [scC]
theorem scC_get {sc : List (List ByteArray)} {i : Nat} (h : i < sc.length) : (scC sc)[i]? = some [.sl 1 (strC sc[i])] := by simp [scC, h]
noncomputable def placeN (s : ByteArray) : List (List ByteArray) → Option (Nat × Nat)
 | [] => none
 | l :: r => match posn l s with
  | some k => some (0, k)
  | none => match placeN s r with
   | some (o, k) => some (o + 1, k)
   | none => none
noncomputable def placeA (sc : List (List ByteArray)) (s : ByteArray) : A := match placeN s sc.reverse with
 | some (o, k) => .tup [.one (.v (.int .i64 o)), .one (.v (.int .i64 k)), .one (.v (.bool true))]
 | none => .tup [.one (.v (.int .i64 0)), .one (.v (.int .i64 0)), .one (.v (.bool false))]
def PlI (sc : List (List ByteArray)) (s : ByteArray) (n : Nat) (st : St) : Prop := n ≤ sc.length ∧ (∀ o k, placeN s (sc.take n).reverse = some (o, k) → placeN s sc.reverse = some (o + (sc.length - n), k)) ∧ (placeN s (sc.take n).reverse = none → placeN s sc.reverse = none) ∧
 st = ⟨[(7, .one (.v (.int .i64 ((n : Int) - 1)))), (0, .one (.sl 1 (scC sc))), (1, .one (.v (.string s)))], []⟩
theorem place_pure (sc : List (List ByteArray)) (s : ByteArray) (hlen : sc.length ≤ 1000000000) (hll : ∀ l ∈ sc, l.length ≤ 1000000000) : Pure Tryd.prog 78 [.one (.sl 1 (scC sc)), .one (.v (.string s))] (placeA sc s) := by
 have hl := scC_len sc
 have hw0 : IntKind.i64.wrap ((sc.length : Int) - 1) = (sc.length : Int) - 1 := wrap64 (by omega) (by omega)
 refine Fn.intro Tryd.func78 rfl Tryd.ntmps78 Tryd.results78 (by simp only [List.length_cons, List.length_nil]; decide) ?_
 repeat (first | (apply fw; (with_reducible constructor) <;> rfl) | (apply WpA.cd; constructor) | ((first | with_reducible refine WpA.go _ rfl fun Y y => ?_ | apply RunTo.id); simp only [zb, seval, w78, hl, hw0]; refine RunTo.fn y (by first | (simp; done) | omega | (simp; omega)) ?_; clear y Y))
 refine WpA.loop (PlI sc s) sc.length ?_ ⟨Nat.le_refl _, fun o k h => by rw [List.take_length] at h; simpa using h, fun h => by rw [List.take_length] at h; exact h, rfl⟩ ?_
 ·exact Le.sub (by simp [Sub, find])
 intro n st hI
 obtain ⟨hn, hs1, hs2, rfl⟩ := hI
 rcases n with _ | n
 ·have hz : ((0 : Nat) : Int) - 1 = -1 := rfl
  rw [hz]
  have hf : decide ((0 : Int) ≤ -1) = false := rfl
  have hpn := hs2 rfl
  repeat (first | (apply fw; (with_reducible constructor) <;> rfl) | (apply WpA.cd; constructor) | ((first | with_reducible refine WpA.go _ rfl fun Y y => ?_ | apply RunTo.id); simp only [zb, seval, w78, hf]; refine RunTo.fn y (by first | (simp; done) | omega | (simp; omega)) ?_; clear y Y))
  repeat (first | (apply fw; (with_reducible constructor) <;> rfl) | (apply WpA.cd; constructor) | ((first | with_reducible refine WpA.go _ rfl fun Y y => ?_ | apply RunTo.id); simp only [zb, seval, w78, hf]; refine RunTo.fn y (by first | (simp; done) | omega | (simp; omega)) ?_; clear y Y))
  refine ⟨by simp, _, _, _, _, (by simp only [zb, seval, w78]; rfl), (by simp), (by simp only [zv]; rfl), (by simp), _, ALe.refl _, ?_⟩
  rw [placeA, hpn]
 have hge : ((n + 1 : Nat) : Int) - 1 = (n : Int) := by omega
 have hlt : n < sc.length := by omega
 have hget := scC_get hlt
 have hg1 : decide (0 ≤ (n : Int)) = true := by simp
 have hw2 : IntKind.i64.wrap ((n : Int) - 1) = (n : Int) - 1 := wrap64 (by omega) (by omega)
 have hix := index_pure sc[n] s (by have := hll sc[n] (List.getElem_mem _); omega)
 have htk : (sc.take (n + 1)).reverse = sc[n] :: (sc.take n).reverse := by rw [List.take_succ_eq_append_getElem hlt]; simp
 rw [htk] at hs1 hs2
 rw [hge]
 cases hp : posn sc[n] s with
 | some k =>
  have hi : idx sc[n] s = k := by unfold idx; rw [hp]
  have hk0 : decide (0 ≤ (k : Int)) = true := by simp
  rw [hi] at hix
  have hpl := hs1 0 k (by simp [placeN, hp])
  have hw3 : IntKind.i64.wrap ((sc.length : Int) - 1 - n) = ((sc.length - (n + 1) : Nat) : Int) := by rw [wrap64 (by omega) (by omega)]; omega
  repeat (first | (apply fw; (with_reducible constructor) <;> rfl) | (apply WpA.cd; constructor) | ((first | with_reducible refine WpA.go _ rfl fun Y y => ?_ | apply RunTo.id); simp only [zb, seval, w78, hg1, hget]; refine RunTo.fn y (by first | (simp; done) | omega | (simp; omega)) ?_; clear y Y))
  refine WpL.call rfl (guardA_sound (P := Tryd.prog) rfl) (CallA.shut rfl rfl (by kernel_rfl) (ALes.refl _) (by first | rfl | simp [shuts, A.shut, C.shut]) (hix) ?_)
  (refine WpL.go _ rfl fun Y y => ?_); repeat (first | (apply fw; (with_reducible constructor) <;> rfl) | (apply WpA.cd; constructor) | ((first | with_reducible refine WpA.go _ rfl fun Y y => ?_ | apply RunTo.id); simp only [zb, seval, w78, hk0, hl, hw0, hw3]; refine RunTo.fn y (by first | (simp; done) | omega | (simp; omega)) ?_; clear y Y))
  refine ⟨by simp, _, _, _, _, (by simp only [zb, seval, w78]; rfl), (by simp), (by simp only [zv]; rfl), (by simp), _, ALe.refl _, ?_⟩
  rw [placeA, hpl]; simp
 | none =>
  have hi : idx sc[n] s = -1 := by unfold idx; rw [hp]
  have hk0 : decide ((0 : Int) ≤ -1) = false := rfl
  rw [hi] at hix
  repeat (first | (apply fw; (with_reducible constructor) <;> rfl) | (apply WpA.cd; constructor) | ((first | with_reducible refine WpA.go _ rfl fun Y y => ?_ | apply RunTo.id); simp only [zb, seval, w78, hg1, hget]; refine RunTo.fn y (by first | (simp; done) | omega | (simp; omega)) ?_; clear y Y))
  refine WpL.call rfl (guardA_sound (P := Tryd.prog) rfl) (CallA.shut rfl rfl (by kernel_rfl) (ALes.refl _) (by first | rfl | simp [shuts, A.shut, C.shut]) (hix) ?_)
  (refine WpL.go _ rfl fun Y y => ?_); repeat (first | (apply fw; (with_reducible constructor) <;> rfl) | (apply WpA.cd; constructor) | ((first | with_reducible refine WpA.go _ rfl fun Y y => ?_ | apply RunTo.id); simp only [zb, seval, w78, hk0, hw2]; refine RunTo.fn y (by first | (simp; done) | omega | (simp; omega)) ?_; clear y Y))
  refine ⟨n, _, by omega, Le.sub (by simp [Sub, find]), by omega, fun o k h => ?_, fun h => ?_, rfl⟩
  ·have := hs1 (o + 1) k (by simp [placeN, hp, h])
   rw [this]; simp; omega
  ·exact hs2 (by simp [placeN, hp, h])
structure Nd where
 op : Int
 a : Int
 b : Int
 l : List Int
structure Cd where
 nodes : List Nd
 consts : List D
 globals : List ByteArray
 prims : List ByteArray
 tops : List Int
def intC (l : List Int) : List (List C) := l.map fun i => [.v (.int .i64 i)]
def Nd.row (n : Nd) : List C := [.v (.int .i64 n.op), .v (.int .i64 n.a), .v (.int .i64 n.b), .sl 1 (intC n.l)]
def CoderIn (p : Nat) (S : List (Option Ob)) (c : Cd) (cN cC cG cP cT : C) : Prop := S[p]? = some (some ⟨64, 5, [[cN, cC, cG, cP, cT]]⟩) ∧ At 55 4 S cN (c.nodes.map Nd.row) ∧ At 31 6 S cC (c.consts.map D.cc) ∧ At 9 1 S cG (strC c.globals) ∧ At 9 1 S cP (strC c.prims) ∧ At 3 1 S cT (intC c.tops) ∧ (∀ j n m, cG = .ms j n → cP ≠ .ms j m)
theorem At.apart {t : TypeId} {wd : Nat} {S : List (Option Ob)} {c : C} {rows : List (List C)} (h : At t wd S c rows) {j : Nat} {ob : Ob} (hj : S[j]? = some (some ob)) (ht : ob.ty ≠ t) : ∀ n, c ≠ .ms j n := by
 rcases h with ⟨_, rfl⟩ | ⟨_, i, rfl, hi⟩
 ·intro n e; cases e
 ·intro n e; cases e; rw [hi] at hj; cases hj; exact ht rfl
theorem At.lt {t : TypeId} {wd : Nat} {S : List (Option Ob)} {c : C} {rows : List (List C)} (h : At t wd S c rows) {j n : Nat} (e : c = .ms j n) : j < S.length := by
 rcases h with ⟨_, rfl⟩ | ⟨_, i, rfl, hi⟩
 ·cases e
 ·cases e; exact (List.getElem?_eq_some_iff.1 hi).1
theorem At.ty {t : TypeId} {wd : Nat} {S : List (Option Ob)} {c : C} {rows : List (List C)} (h : At t wd S c rows) {j n : Nat} (e : c = .ms j n) : S[j]? = some (some ⟨t, wd, rows⟩) := by
 rcases h with ⟨_, rfl⟩ | ⟨_, i, rfl, hi⟩
 ·cases e
 ·cases e; exact hi
theorem CoderIn.app {p : Nat} {S : List (Option Ob)} {c : Cd} {cN cC cG cP cT : C} (h : CoderIn p S c cN cC cG cP cT) (T : List (Option Ob)) : CoderIn p (S ++ T) c cN cC cG cP cT :=
 ⟨up_app h.1, h.2.1.app T, h.2.2.1.app T, h.2.2.2.1.app T, h.2.2.2.2.1.app T, h.2.2.2.2.2.1.app T, h.2.2.2.2.2.2⟩
def Frm (p : Nat) (ts : List TypeId) (S S' : List (Option Ob)) : Prop := S.length ≤ S'.length ∧ ∀ (j : Nat) (ob : Ob), S[j]? = some (some ob) → j ≠ p → ob.ty ∉ ts → S'[j]? = some (some ob)
theorem Frm.trans {p : Nat} {ts : List TypeId} {S S' S'' : List (Option Ob)} (h : Frm p ts S S') (k : Frm p ts S' S'') : Frm p ts S S'' := ⟨Nat.le_trans h.1 k.1, fun j ob h1 h2 h3 => k.2 j ob (h.2 j ob h1 h2 h3) h2 h3⟩
theorem Frm.mono {p : Nat} {ts ts' : List TypeId} {S S' : List (Option Ob)} (h : Frm p ts S S') (hs : ∀ t ∈ ts, t ∈ ts') : Frm p ts' S S' := ⟨h.1, fun j ob h1 h2 h3 => h.2 j ob h1 h2 fun h => h3 (hs _ h)⟩
noncomputable def varN (c : Cd) (sc : List (List ByteArray)) (s : ByteArray) (lo gl : Int) : (Int × Int × Int) × Cd := match placeN s sc.reverse with
 | some (o, k) => ((lo, o, k), c)
 | none => ((gl, numN c.globals s, 0), { c with globals := addN c.globals s })
theorem variable_fn (p : Nat) (S : List (Option Ob)) (c : Cd) (sc : List (List ByteArray)) (s : ByteArray) (lo gl : Int) {cN cC cG cP cT : C} (hI : CoderIn p S c cN cC cG cP cT) (hlen : sc.length ≤ 1000000000) (hll : ∀ l ∈ sc, l.length ≤ 1000000000) (hg : c.globals.length ≤ 1000000000) :
  Fn Tryd.prog 62 [.one (.ptr p 1 0 0), .one (.sl 1 (scC sc)), .one (.v (.string s)), .one (.v (.int .i64 lo)), .one (.v (.int .i64 gl))] S (fun r S' => r = .agg [.v (.int .i64 (varN c sc s lo gl).1.1), .v (.int .i64 (varN c sc s lo gl).1.2.1), .v (.int .i64 (varN c sc s lo gl).1.2.2), .v (.slice none 0 0)] ∧ (∃ cG', CoderIn p S' (varN c sc s lo gl).2 cN cC cG' cP cT) ∧ Frm p [9] S S') := by
 have hpl := place_pure sc s hlen hll
 have hset : ∀ a b : Option Ob, (S ++ [a]).set S.length b = S ++ [b] := fun a b => by simp
 have hgl : ∀ a : Option Ob, (S ++ [a])[S.length]? = some a := fun a => by simp
 unfold varN placeA at *
 cases hp : placeN s sc.reverse with
 | some ok =>
  obtain ⟨o, k⟩ := ok
  rw [hp] at hpl
  simp only at hpl
  refine Fn.introT Tryd.func62 rfl Tryd.ntmps62 Tryd.results62 (by simp only [List.length_cons, List.length_nil]; decide) ?_
  repeat (first | (apply fw; (with_reducible constructor) <;> rfl) | (apply WpA.cd; constructor) | ((first | with_reducible refine WpA.go _ rfl fun Y y => ?_ | apply RunTo.id); simp only [zb, seval, w62, hset, hgl]; refine RunTo.fn y (by first | (simp; done) | omega | (simp; omega)) ?_; clear y Y))
  refine WpL.call rfl (guardA_sound (P := Tryd.prog) rfl) (CallA.shut rfl rfl (by kernel_rfl) (ALes.refl _) (by first | rfl | simp [shuts, A.shut, C.shut]) (hpl) ?_)
  (refine WpL.go _ rfl fun Y y => ?_); repeat (first | (apply fw; (with_reducible constructor) <;> rfl) | (apply WpA.cd; constructor) | ((first | with_reducible refine WpA.go _ rfl fun Y y => ?_ | apply RunTo.id); simp only [zb, seval, w62, hset, hgl]; refine RunTo.fn y (by first | (simp; done) | omega | (simp; omega)) ?_; clear y Y))
  refine ⟨.inl rfl, _, _, _, _, (by simp only [zb, seval, hgl, w62]; rfl), by simp, Le.refl _ _, rfl, ⟨cG, hI.app _⟩, by simp, fun j ob h _ _ => up_app h⟩
 | none =>
  rw [hp] at hpl
  simp only at hpl
  refine Fn.introT Tryd.func62 rfl Tryd.ntmps62 Tryd.results62 (by simp only [List.length_cons, List.length_nil]; decide) ?_
  repeat (first | (apply fw; (with_reducible constructor) <;> rfl) | (apply WpA.cd; constructor) | ((first | with_reducible refine WpA.go _ rfl fun Y y => ?_ | apply RunTo.id); simp only [zb, seval, w62, hset, hgl]; refine RunTo.fn y (by first | (simp; done) | omega | (simp; omega)) ?_; clear y Y))
  refine WpL.call rfl (guardA_sound (P := Tryd.prog) rfl) (CallA.shut rfl rfl (by kernel_rfl) (ALes.refl _) (by first | rfl | simp [shuts, A.shut, C.shut]) (hpl) ?_)
  have hp1 := hI.1
  have hp2 : ∀ o, (S ++ [o])[p]? = some (some ⟨64, 5, [[cN, cC, cG, cP, cT]]⟩) := fun o => up_app hI.1
  (refine WpL.go _ rfl fun Y y => ?_); repeat (first | (apply fw; (with_reducible constructor) <;> rfl) | (apply WpA.cd; constructor) | ((first | with_reducible refine WpA.go _ rfl fun Y y => ?_ | apply RunTo.id); simp only [zb, seval, w62, hset, hgl, hp2]; refine RunTo.fn y (by first | (simp; done) | omega | (simp; omega)) ?_; clear y Y))
  refine WpL.number (l := c.globals) hg rfl rfl rfl (hI.2.2.2.1.app _) ?_
  intro S' c' hA hfr hpl2
  have hpS : p < S.length := (List.getElem?_eq_some_iff.1 hI.1).1
  have hG := hI.2.2.2.1
  have q1 : S'[p]? = some (some ⟨64, 5, [[cN, cC, cG, cP, cT]]⟩) := hfr p _ (up_app hI.1) (hG.apart hI.1 (by show (64 : Nat) ≠ _; decide))
  have q2 : S'[S.length]? = some (some ⟨55, 4, [[.v (.int .i64 0), .v (.int .i64 0), .v (.int .i64 0), .v (.slice none 0 0)]]⟩) := hfr S.length _ (hgl _) (fun n e => absurd (hG.lt e) (by omega))
  have hS' : S.length < S'.length := (List.getElem?_eq_some_iff.1 q2).1
  have q3 : ∀ o : Option Ob, (S'.set p o)[p]? = some o := fun o => List.getElem?_set_self (by omega)
  have q4 : ∀ o : Option Ob, (S'.set p o)[S.length]? = some (some ⟨55, 4, [[.v (.int .i64 0), .v (.int .i64 0), .v (.int .i64 0), .v (.slice none 0 0)]]⟩) := fun o => by rw [List.getElem?_set_ne (by omega)]; exact q2
  have q5 : ∀ a b : Option Ob, ((S'.set p a).set S.length b)[S.length]? = some b := fun a b => List.getElem?_set_self (by simpa using hS')
  (refine WpL.go _ rfl fun Y y => ?_); repeat (first | (apply fw; (with_reducible constructor) <;> rfl) | (apply WpA.cd; constructor) | ((first | with_reducible refine WpA.go _ rfl fun Y y => ?_ | apply RunTo.id); simp only [zb, seval, w62, hset, hgl, hp2, q1, q2, q3, q4]; refine RunTo.fn y (by first | (simp; done) | omega | (simp; omega)) ?_; clear y Y))
  refine ⟨.inl rfl, _, _, _, _, (by simp only [zb, seval, q5, w62]; rfl), by simp, Le.refl _ _, rfl, ?_, ?_⟩
  ·have stays : ∀ (j : Nat) (ob : Ob) (a b : Option Ob), S[j]? = some (some ob) → j ≠ p → (∀ n, cG ≠ .ms j n) → ((S'.set p a).set S.length b)[j]? = some (some ob) := fun j ob a b h1 h2 h3 => by
    have := (List.getElem?_eq_some_iff.1 h1).1
    rw [List.getElem?_set_ne (by omega), List.getElem?_set_ne (fun e => h2 e.symm)]
    exact hfr j _ (up_app h1) h3
   have np : ∀ {j : Nat} {ob : Ob}, S[j]? = some (some ob) → ob.ty ≠ 64 → j ≠ p := fun h1 h2 e => by subst e; rw [hI.1] at h1; cases h1; exact h2 rfl
   refine ⟨c', ?_, hI.2.1.stay fun j hj _ => stays j _ _ _ hj (np hj (by show (55 : Nat) ≠ _; decide)) (hG.apart hj (by show (55 : Nat) ≠ _; decide)), hI.2.2.1.stay fun j hj _ => stays j _ _ _ hj (np hj (by show (31 : Nat) ≠ _; decide)) (hG.apart hj (by show (31 : Nat) ≠ _; decide)), hA.stay fun j hj _ => ?_, hI.2.2.2.2.1.stay fun j hj e => stays j _ _ _ hj (np hj (by show (9 : Nat) ≠ _; decide)) (fun n e' => hI.2.2.2.2.2.2 j n _ e' e), hI.2.2.2.2.2.1.stay fun j hj _ => stays j _ _ _ hj (np hj (by show (3 : Nat) ≠ _; decide)) (hG.apart hj (by show (3 : Nat) ≠ _; decide)), ?_⟩
   ·rw [List.getElem?_set_ne (by omega)]; exact q3 _
   ·have n1 : S.length ≠ j := fun e => by subst e; rw [q2] at hj; cases hj
    have n2 : p ≠ j := fun e => by subst e; rw [q1] at hj; cases hj
    rw [List.getElem?_set_ne n1, List.getElem?_set_ne n2]; exact hj
   ·intro j n m e e'
    rcases hpl2 j n e with h | h
    ·exact hI.2.2.2.2.2.2 j _ m h e'
    ·have := hI.2.2.2.2.1.lt e'
     simp at h; omega
  ·refine ⟨by simp; omega, fun j ob h1 h2 h3 => ?_⟩
   have := (List.getElem?_eq_some_iff.1 h1).1
   rw [List.getElem?_set_ne (by omega), List.getElem?_set_ne (fun e => h2 e.symm)]
   exact hfr j _ (up_app h1) (hG.apart h1 (fun e => h3 (by simp [e])))
theorem copied_pure (d : D) (hok : d.Ok) : Pure Tryd.prog 77 [.agg d.cc] (.agg d.cc) := by
 refine pure_old fun w vs hg hv => ?_
 obtain ⟨v, rfl, hv1⟩ := hv.one1
 exact (copied_any d w v hok hv1.isD).mono fun e w' ⟨v', he, hx, hr⟩ => ⟨v', he, hx, (IsD.ca hr)⟩
theorem pair_pure (d f : D) (hd : d.Ok) (hf : f.Ok) : Pure Tryd.prog 61 [.agg d.cc, .agg f.cc] (.agg [.v (.int .i64 7), .v (.int .i32 0), .v (.bool false), .sl 1 [], .v (.string ⟨#[]⟩), .sl 6 [d.cc, f.cc]]) := by
 have h1 := copied_pure d hd
 have h2 := copied_pure f hf
 rw [D.cc_eq d, D.cc_eq f]
 rw [D.cc_eq] at h1 h2
 refine Fn.intro Tryd.func61 rfl Tryd.ntmps61 Tryd.results61 (by simp only [List.length_cons, List.length_nil]; decide) ?_
 repeat (first | (apply fw; (with_reducible constructor) <;> rfl) | (apply WpA.cd; constructor) | ((first | with_reducible refine WpA.go _ rfl fun Y y => ?_ | apply RunTo.id); simp only [zb, seval, w61]; refine RunTo.fn y (by first | (simp; done) | omega | (simp; omega)) ?_; clear y Y))
 (refine WpA.draw1 6 [4] ([some ⟨31, 6, [[.v (.int .i64 d.k), .v (.int .i32 d.c), .v (.bool d.neg), .sl 1 (d.mag.map fun n => [.v (.int .u32 n)]), .v (.string d.t), .sl 6 (d.l.map D.cc)]]⟩, some ⟨31, 6, [[.v (.int .i64 f.k), .v (.int .i32 f.c), .v (.bool f.neg), .sl 1 (f.mag.map fun n => [.v (.int .u32 n)]), .v (.string f.t), .sl 6 (f.l.map D.cc)]]⟩]) [_, ?_] _ _ _ _ rfl rfl rfl (by kernel_rfl) (by kernel_rfl) (by kernel_rfl) (by kernel_rfl) rfl rfl rfl rfl (by decide) fun K8 hK8 => ?_); rotate_left 1; simp only [zz] at hK8 ⊢; (refine Draw1.go fun K7 hK7 => ?_); simp only [zb, seval, w61]; (refine RunQ.mk (by first | (simp; done) | omega | (simp; omega)) (hK7 _ _ (by rfl) ?_)); clear hK7 K7; (simp only [zz, Nat.reduceAdd, Nat.reduceSub]); (try ((refine Draw1.nil (by simp only [List.mem_cons, List.not_mem_nil, or_false, forall_eq_or_imp, forall_eq]; refine ⟨?_, ?_⟩ <;> (refine LeS.of ?_) <;> (repeat (first | exact SLe.nil _ | exact SLe.refl _ | exact SLe.app _ _ | refine SLe.same ?_ | refine SLe.none ?_))) (hK8 _ ?_)); clear hK8 K8; (refine WpL.go _ rfl fun Y y => ?_); repeat (first | (apply fw; (with_reducible constructor) <;> rfl) | (apply WpA.cd; constructor) | ((first | with_reducible refine WpA.go _ rfl fun Y y => ?_ | apply RunTo.id); simp only [zb, seval, w61]; refine RunTo.fn y (by first | (simp; done) | omega | (simp; omega)) ?_; clear y Y))))
 refine Draw1.step (by rfl) (fun s9 _ => OpS.shut rfl rfl rfl (by kernel_rfl) (ALes.refl _) (by first | rfl | simp [shuts, A.shut, C.shut]) (h1)) ?_
 (refine Draw1.go fun K7 hK7 => ?_); simp only [zb, seval, w61]; (refine RunQ.mk (by first | (simp; done) | omega | (simp; omega)) (hK7 _ _ (by rfl) ?_)); clear hK7 K7; (simp only [zz, Nat.reduceAdd, Nat.reduceSub]); (try ((refine Draw1.nil (by simp only [List.mem_cons, List.not_mem_nil, or_false, forall_eq_or_imp, forall_eq]; refine ⟨?_, ?_⟩ <;> (refine LeS.of ?_) <;> (repeat (first | exact SLe.nil _ | exact SLe.refl _ | exact SLe.app _ _ | refine SLe.same ?_ | refine SLe.none ?_))) (hK8 _ ?_)); clear hK8 K8; (refine WpL.go _ rfl fun Y y => ?_); repeat (first | (apply fw; (with_reducible constructor) <;> rfl) | (apply WpA.cd; constructor) | ((first | with_reducible refine WpA.go _ rfl fun Y y => ?_ | apply RunTo.id); simp only [zb, seval, w61]; refine RunTo.fn y (by first | (simp; done) | omega | (simp; omega)) ?_; clear y Y))))
 refine Draw1.step (by rfl) (fun s9 _ => OpS.shut rfl rfl rfl (by kernel_rfl) (ALes.refl _) (by first | rfl | simp [shuts, A.shut, C.shut]) (h2)) ?_
 (refine Draw1.go fun K7 hK7 => ?_); simp only [zb, seval, w61]; (refine RunQ.mk (by first | (simp; done) | omega | (simp; omega)) (hK7 _ _ (by rfl) ?_)); clear hK7 K7; (simp only [zz, Nat.reduceAdd, Nat.reduceSub]); (try ((refine Draw1.nil (by simp only [List.mem_cons, List.not_mem_nil, or_false, forall_eq_or_imp, forall_eq]; refine ⟨?_, ?_⟩ <;> (refine LeS.of ?_) <;> (repeat (first | exact SLe.nil _ | exact SLe.refl _ | exact SLe.app _ _ | refine SLe.same ?_ | refine SLe.none ?_))) (hK8 _ ?_)); clear hK8 K8; (refine WpL.go _ rfl fun Y y => ?_); repeat (first | (apply fw; (with_reducible constructor) <;> rfl) | (apply WpA.cd; constructor) | ((first | with_reducible refine WpA.go _ rfl fun Y y => ?_ | apply RunTo.id); simp only [zb, seval, w61]; refine RunTo.fn y (by first | (simp; done) | omega | (simp; omega)) ?_; clear y Y))))
 refine Draw1.eff 0 rfl rfl rfl (OpS.eff [(6, _), (8, _)] rfl (by rfl) ⟨rfl, rfl, trivial⟩ (by simp only [zb, seval, w61]; rfl) (by first | (simp; done) | omega | (simp; omega))) ?_; (try simp only [putE]); (try ((refine Draw1.go fun K7 hK7 => ?_); simp only [zb, seval, w61]; (refine RunQ.mk (by first | (simp; done) | omega | (simp; omega)) (hK7 _ _ (by rfl) ?_)); clear hK7 K7; (simp only [zz, Nat.reduceAdd, Nat.reduceSub]); (try ((refine Draw1.nil (by simp only [List.mem_cons, List.not_mem_nil, or_false, forall_eq_or_imp, forall_eq]; refine ⟨?_, ?_⟩ <;> (refine LeS.of ?_) <;> (repeat (first | exact SLe.nil _ | exact SLe.refl _ | exact SLe.app _ _ | refine SLe.same ?_ | refine SLe.none ?_))) (hK8 _ ?_)); clear hK8 K8; (refine WpL.go _ rfl fun Y y => ?_); repeat (first | (apply fw; (with_reducible constructor) <;> rfl) | (apply WpA.cd; constructor) | ((first | with_reducible refine WpA.go _ rfl fun Y y => ?_ | apply RunTo.id); simp only [zb, seval, w61]; refine RunTo.fn y (by first | (simp; done) | omega | (simp; omega)) ?_; clear y Y))))))
 refine ⟨by simp, _, _, _, _, (by simp only [zb, seval, w61]; rfl), (by simp), (by simp only [zv]; rfl), (by simp [C.shut]), _, ALe.agg (.cons (.cons (.cons (.nil (.refl _))))), rfl⟩
theorem get_app0 {α : Type} (S T : List α) (a : α) : (S ++ a :: T)[S.length]? = some a := by simp
theorem get_app1 {α : Type} (S T : List α) (a b : α) : (S ++ a :: b :: T)[S.length + 1]? = some b := by
 rw [List.getElem?_append_right (by omega), Nat.add_sub_cancel_left]; rfl
theorem get_app2 {α : Type} (S T : List α) (a b c : α) : (S ++ a :: b :: c :: T)[S.length + 2]? = some c := by
 rw [List.getElem?_append_right (by omega), Nat.add_sub_cancel_left]; rfl
theorem set_app1 {α : Type} (S T : List α) (a b x : α) : (S ++ a :: b :: T).set (S.length + 1) x = S ++ a :: x :: T := by
 rw [List.set_append, if_neg (by omega), Nat.add_sub_cancel_left]; rfl
theorem set_app2 {α : Type} (S T : List α) (a b c x : α) : (S ++ a :: b :: c :: T).set (S.length + 2) x = S ++ a :: b :: x :: T := by
 rw [List.set_append, if_neg (by omega), Nat.add_sub_cancel_left]; rfl
noncomputable def nodeN (c : Cd) (x : K) (sc : List (List ByteArray)) : (Int × Int × Int) × Cd :=
 if x.k = 1 then ((1, c.consts.length, 0), { c with consts := c.consts ++ [x.d] })
 else if x.k = 2 then varN c sc x.name 2 3
 else if x.k = 3 then varN c sc x.name 4 5
 else if x.k = 4 then varN c [] x.name 0 6
 else if x.k = 5 then ((7, 0, 0), c)
 else if x.k = 6 then ((8, x.params.length, if x.rest = ⟨#[]⟩ then 0 else 1), c)
 else if x.k = 7 then ((9, 0, 0), c)
 else if x.k = 8 then ((10, 0, 0), c)
 else if x.k = 9 then ((11, 0, 0), c)
 else ((12, numN c.prims x.name, 0), { c with prims := addN c.prims x.name })
def nodeA (t : Int × Int × Int) : A := .agg [.v (.int .i64 t.1), .v (.int .i64 t.2.1), .v (.int .i64 t.2.2), .v (.slice none 0 0)]
def NodeR (p : Nat) (S : List (Option Ob)) (cN cT : C) (t : (Int × Int × Int) × Cd) (r : A) (S' : List (Option Ob)) : Prop := r = nodeA t.1 ∧ (∃ cC' cG' cP', CoderIn p S' t.2 cN cC' cG' cP' cT) ∧ Frm p [9, 31] S S'
theorem CoderIn.put2 {p : Nat} {S' : List (Option Ob)} {c : Cd} {cN cC cG cP cT : C} {n i : Nat} {a : Ob} {x : Option Ob} (h : CoderIn p S' c cN cC cG cP cT) (hn : ∀ j m, cN = .ms j m → j < n) (hi : n ≤ i) (hx : S'[i]? = some (some a)) (ha : a.ty = 55) : CoderIn p (S'.set i x) c cN cC cG cP cT := by
 have hp : i ≠ p := fun e => by subst e; rw [h.1] at hx; cases hx; exact absurd ha (by show (64 : Nat) ≠ _; decide)
 have hs : ∀ {t : TypeId}, t ≠ 55 → ∀ ob, S'[i]? = some (some ob) → ob.ty ≠ t := fun ht ob ho e => by rw [hx] at ho; cases ho; exact ht (e.symm.trans ha)
 refine ⟨by rw [List.getElem?_set_ne hp]; exact h.1, h.2.1.stay fun j hj e => ?_, h.2.2.1.set (hs (by decide)), h.2.2.2.1.set (hs (by decide)), h.2.2.2.2.1.set (hs (by decide)), h.2.2.2.2.2.1.set (hs (by decide)), h.2.2.2.2.2.2⟩
 rw [List.getElem?_set_ne (by have := hn j _ e; omega)]; exact hj
section
variable (p : Nat) (S : List (Option Ob)) (c : Cd) (name rest : ByteArray) (params : List ByteArray) (d : D) (l : List K) (sc : List (List ByteArray)) {cN cC cG cP cT : C} (hI : CoderIn p S c cN cC cG cP cT)
include hI
theorem node5 : Fn Tryd.prog 47 [.one (.ptr p 1 0 0), .agg (K.mk 5 name rest params d l).cc, .one (.sl 1 (scC sc))] S (NodeR p S cN cT ((7, 0, 0), c)) := by
 rw [K.cc_eq]
 simp only [K.k, K.name, K.rest, K.params, K.d, K.l]
 refine Fn.introT Tryd.func47 rfl Tryd.ntmps47 Tryd.results47 (by simp only [List.length_cons, List.length_nil]; decide) ?_
 repeat (first | (apply fw; (with_reducible constructor) <;> rfl) | (apply WpA.cd; constructor) | ((first | with_reducible refine WpA.go _ rfl fun Y y => ?_ | apply RunTo.id); simp only [zb, seval, w47, List.length_append, get_app0, get_app1, get_app2, set_app1, set_app2]; refine RunTo.fn y (by first | (simp; done) | omega | (simp; omega)) ?_; clear y Y))
 refine ⟨.inl rfl, _, _, _, _, (by simp only [zb, seval, get_app1, w47]; rfl), by simp, Le.refl _ _, rfl, ⟨cC, cG, cP, hI.app _⟩, by simp, fun j ob h _ _ => up_app h⟩
theorem node7 : Fn Tryd.prog 47 [.one (.ptr p 1 0 0), .agg (K.mk 7 name rest params d l).cc, .one (.sl 1 (scC sc))] S (NodeR p S cN cT ((9, 0, 0), c)) := by
 rw [K.cc_eq]
 simp only [K.k, K.name, K.rest, K.params, K.d, K.l]
 refine Fn.introT Tryd.func47 rfl Tryd.ntmps47 Tryd.results47 (by simp only [List.length_cons, List.length_nil]; decide) ?_
 repeat (first | (apply fw; (with_reducible constructor) <;> rfl) | (apply WpA.cd; constructor) | ((first | with_reducible refine WpA.go _ rfl fun Y y => ?_ | apply RunTo.id); simp only [zb, seval, w47, List.length_append, get_app0, get_app1, get_app2, set_app1, set_app2]; refine RunTo.fn y (by first | (simp; done) | omega | (simp; omega)) ?_; clear y Y))
 refine ⟨.inl rfl, _, _, _, _, (by simp only [zb, seval, get_app1, w47]; rfl), by simp, Le.refl _ _, rfl, ⟨cC, cG, cP, hI.app _⟩, by simp, fun j ob h _ _ => up_app h⟩
theorem node8 : Fn Tryd.prog 47 [.one (.ptr p 1 0 0), .agg (K.mk 8 name rest params d l).cc, .one (.sl 1 (scC sc))] S (NodeR p S cN cT ((10, 0, 0), c)) := by
 rw [K.cc_eq]
 simp only [K.k, K.name, K.rest, K.params, K.d, K.l]
 refine Fn.introT Tryd.func47 rfl Tryd.ntmps47 Tryd.results47 (by simp only [List.length_cons, List.length_nil]; decide) ?_
 repeat (first | (apply fw; (with_reducible constructor) <;> rfl) | (apply WpA.cd; constructor) | ((first | with_reducible refine WpA.go _ rfl fun Y y => ?_ | apply RunTo.id); simp only [zb, seval, w47, List.length_append, get_app0, get_app1, get_app2, set_app1, set_app2]; refine RunTo.fn y (by first | (simp; done) | omega | (simp; omega)) ?_; clear y Y))
 refine ⟨.inl rfl, _, _, _, _, (by simp only [zb, seval, get_app1, w47]; rfl), by simp, Le.refl _ _, rfl, ⟨cC, cG, cP, hI.app _⟩, by simp, fun j ob h _ _ => up_app h⟩
theorem node9 : Fn Tryd.prog 47 [.one (.ptr p 1 0 0), .agg (K.mk 9 name rest params d l).cc, .one (.sl 1 (scC sc))] S (NodeR p S cN cT ((11, 0, 0), c)) := by
 rw [K.cc_eq]
 simp only [K.k, K.name, K.rest, K.params, K.d, K.l]
 refine Fn.introT Tryd.func47 rfl Tryd.ntmps47 Tryd.results47 (by simp only [List.length_cons, List.length_nil]; decide) ?_
 repeat (first | (apply fw; (with_reducible constructor) <;> rfl) | (apply WpA.cd; constructor) | ((first | with_reducible refine WpA.go _ rfl fun Y y => ?_ | apply RunTo.id); simp only [zb, seval, w47, List.length_append, get_app0, get_app1, get_app2, set_app1, set_app2]; refine RunTo.fn y (by first | (simp; done) | omega | (simp; omega)) ?_; clear y Y))
 refine ⟨.inl rfl, _, _, _, _, (by simp only [zb, seval, get_app1, w47]; rfl), by simp, Le.refl _ _, rfl, ⟨cC, cG, cP, hI.app _⟩, by simp, fun j ob h _ _ => up_app h⟩
variable (hg : c.globals.length ≤ 1000000000)
include hg
theorem node4 : Fn Tryd.prog 47 [.one (.ptr p 1 0 0), .agg (K.mk 4 name rest params d l).cc, .one (.sl 1 (scC sc))] S (NodeR p S cN cT (varN c [] name 0 6)) := by
 rw [K.cc_eq]
 simp only [K.k, K.name, K.rest, K.params, K.d, K.l]
 have hv := fun T => variable_fn p (S ++ T) c [] name 0 6 (hI.app T) (by first | exact hlen | simp) (by first | exact hll | simp) hg
 refine Fn.introT Tryd.func47 rfl Tryd.ntmps47 Tryd.results47 (by simp only [List.length_cons, List.length_nil]; decide) ?_
 repeat (first | (apply fw; (with_reducible constructor) <;> rfl) | (apply WpA.cd; constructor) | ((first | with_reducible refine WpA.go _ rfl fun Y y => ?_ | apply RunTo.id); simp only [zb, seval, w47, List.length_append, get_app0, get_app1, get_app2, set_app1, set_app2]; refine RunTo.fn y (by first | (simp; done) | omega | (simp; omega)) ?_; clear y Y))
 refine WpL.handAll rfl (guardA_sound (P := Tryd.prog) rfl) rfl rfl (by kernel_rfl) (ALes.cons (ALe.refl _) (ALes.cons ALe.nil (ALes.refl _))) (hv _) ?_
 rintro _ S' ⟨rfl, ⟨cG', hI'⟩, hF⟩
 have hpS : p < S.length := (List.getElem?_eq_some_iff.1 hI.1).1
 have q1 : S'[S.length + 1]? = some (some ⟨55, 4, [[.v (.int .i64 0), .v (.int .i64 0), .v (.int .i64 0), .v (.slice none 0 0)]]⟩) := hF.2 _ _ (get_app1 _ _ _ _) (by omega) (by show (55 : Nat) ∉ _; decide)
 have q2 : S'[S.length + 2]? = some (some ⟨55, 4, [[.v (.int .i64 0), .v (.int .i64 0), .v (.int .i64 0), .v (.slice none 0 0)]]⟩) := hF.2 _ _ (get_app2 _ _ _ _ _) (by omega) (by show (55 : Nat) ∉ _; decide)
 have hl2 := (List.getElem?_eq_some_iff.1 q2).1
 have r1 : ∀ o : Option Ob, (S'.set (S.length + 2) o)[S.length + 1]? = some (some ⟨55, 4, [[.v (.int .i64 0), .v (.int .i64 0), .v (.int .i64 0), .v (.slice none 0 0)]]⟩) := fun o => by rw [List.getElem?_set_ne (by omega)]; exact q1
 have r2 : ∀ o : Option Ob, (S'.set (S.length + 2) o)[S.length + 2]? = some o := fun o => List.getElem?_set_self hl2
 have r3 : ∀ o o' : Option Ob, ((S'.set (S.length + 2) o).set (S.length + 1) o')[S.length + 1]? = some o' := fun o o' => List.getElem?_set_self (by simp; omega)
 (refine WpL.go _ rfl fun Y y => ?_); repeat (first | (apply fw; (with_reducible constructor) <;> rfl) | (apply WpA.cd; constructor) | ((first | with_reducible refine WpA.go _ rfl fun Y y => ?_ | apply RunTo.id); simp only [zb, seval, w47, q1, q2, r1, r2]; refine RunTo.fn y (by first | (simp; done) | omega | (simp; omega)) ?_; clear y Y))
 refine ⟨.inl rfl, _, _, _, _, (by simp only [zb, seval, r3, w47]; rfl), by simp, Le.refl _ _, rfl, ⟨cC, cG', cP, ?_⟩, ?_, fun j ob h1 h2 h3 => ?_⟩
 ·have hn : ∀ j m, cN = .ms j m → j < S.length := fun j m e => hI.2.1.lt e
  exact (hI'.put2 hn (by omega) q2 rfl).put2 hn (by omega) (r1 _) rfl
 ·have := hF.1; simp at this; simp; omega
 ·have hj := (List.getElem?_eq_some_iff.1 h1).1
  rw [List.getElem?_set_ne (by omega), List.getElem?_set_ne (by omega)]
  exact hF.2 j ob (up_app h1) h2 (fun h => h3 (by simp at h; simp [h]))
variable (hlen : sc.length ≤ 1000000000) (hll : ∀ l ∈ sc, l.length ≤ 1000000000)
include hlen hll
theorem node2 : Fn Tryd.prog 47 [.one (.ptr p 1 0 0), .agg (K.mk 2 name rest params d l).cc, .one (.sl 1 (scC sc))] S (NodeR p S cN cT (varN c sc name 2 3)) := by
 rw [K.cc_eq]
 simp only [K.k, K.name, K.rest, K.params, K.d, K.l]
 have hv := fun T => variable_fn p (S ++ T) c sc name 2 3 (hI.app T) (by first | exact hlen | simp) (by first | exact hll | simp) hg
 refine Fn.introT Tryd.func47 rfl Tryd.ntmps47 Tryd.results47 (by simp only [List.length_cons, List.length_nil]; decide) ?_
 repeat (first | (apply fw; (with_reducible constructor) <;> rfl) | (apply WpA.cd; constructor) | ((first | with_reducible refine WpA.go _ rfl fun Y y => ?_ | apply RunTo.id); simp only [zb, seval, w47, List.length_append, get_app0, get_app1, get_app2, set_app1, set_app2]; refine RunTo.fn y (by first | (simp; done) | omega | (simp; omega)) ?_; clear y Y))
 refine WpL.handAll rfl (guardA_sound (P := Tryd.prog) rfl) rfl rfl (by kernel_rfl) (ALes.refl _) (hv _) ?_
 rintro _ S' ⟨rfl, ⟨cG', hI'⟩, hF⟩
 have hpS : p < S.length := (List.getElem?_eq_some_iff.1 hI.1).1
 have q1 : S'[S.length + 1]? = some (some ⟨55, 4, [[.v (.int .i64 0), .v (.int .i64 0), .v (.int .i64 0), .v (.slice none 0 0)]]⟩) := hF.2 _ _ (get_app1 _ _ _ _) (by omega) (by show (55 : Nat) ∉ _; decide)
 have q2 : S'[S.length + 2]? = some (some ⟨55, 4, [[.v (.int .i64 0), .v (.int .i64 0), .v (.int .i64 0), .v (.slice none 0 0)]]⟩) := hF.2 _ _ (get_app2 _ _ _ _ _) (by omega) (by show (55 : Nat) ∉ _; decide)
 have hl2 := (List.getElem?_eq_some_iff.1 q2).1
 have r1 : ∀ o : Option Ob, (S'.set (S.length + 2) o)[S.length + 1]? = some (some ⟨55, 4, [[.v (.int .i64 0), .v (.int .i64 0), .v (.int .i64 0), .v (.slice none 0 0)]]⟩) := fun o => by rw [List.getElem?_set_ne (by omega)]; exact q1
 have r2 : ∀ o : Option Ob, (S'.set (S.length + 2) o)[S.length + 2]? = some o := fun o => List.getElem?_set_self hl2
 have r3 : ∀ o o' : Option Ob, ((S'.set (S.length + 2) o).set (S.length + 1) o')[S.length + 1]? = some o' := fun o o' => List.getElem?_set_self (by simp; omega)
 (refine WpL.go _ rfl fun Y y => ?_); repeat (first | (apply fw; (with_reducible constructor) <;> rfl) | (apply WpA.cd; constructor) | ((first | with_reducible refine WpA.go _ rfl fun Y y => ?_ | apply RunTo.id); simp only [zb, seval, w47, q1, q2, r1, r2]; refine RunTo.fn y (by first | (simp; done) | omega | (simp; omega)) ?_; clear y Y))
 refine ⟨.inl rfl, _, _, _, _, (by simp only [zb, seval, r3, w47]; rfl), by simp, Le.refl _ _, rfl, ⟨cC, cG', cP, ?_⟩, ?_, fun j ob h1 h2 h3 => ?_⟩
 ·have hn : ∀ j m, cN = .ms j m → j < S.length := fun j m e => hI.2.1.lt e
  exact (hI'.put2 hn (by omega) q2 rfl).put2 hn (by omega) (r1 _) rfl
 ·have := hF.1; simp at this; simp; omega
 ·have hj := (List.getElem?_eq_some_iff.1 h1).1
  rw [List.getElem?_set_ne (by omega), List.getElem?_set_ne (by omega)]
  exact hF.2 j ob (up_app h1) h2 (fun h => h3 (by simp at h; simp [h]))
theorem node3 : Fn Tryd.prog 47 [.one (.ptr p 1 0 0), .agg (K.mk 3 name rest params d l).cc, .one (.sl 1 (scC sc))] S (NodeR p S cN cT (varN c sc name 4 5)) := by
 rw [K.cc_eq]
 simp only [K.k, K.name, K.rest, K.params, K.d, K.l]
 have hv := fun T => variable_fn p (S ++ T) c sc name 4 5 (hI.app T) (by first | exact hlen | simp) (by first | exact hll | simp) hg
 refine Fn.introT Tryd.func47 rfl Tryd.ntmps47 Tryd.results47 (by simp only [List.length_cons, List.length_nil]; decide) ?_
 repeat (first | (apply fw; (with_reducible constructor) <;> rfl) | (apply WpA.cd; constructor) | ((first | with_reducible refine WpA.go _ rfl fun Y y => ?_ | apply RunTo.id); simp only [zb, seval, w47, List.length_append, get_app0, get_app1, get_app2, set_app1, set_app2]; refine RunTo.fn y (by first | (simp; done) | omega | (simp; omega)) ?_; clear y Y))
 refine WpL.handAll rfl (guardA_sound (P := Tryd.prog) rfl) rfl rfl (by kernel_rfl) (ALes.refl _) (hv _) ?_
 rintro _ S' ⟨rfl, ⟨cG', hI'⟩, hF⟩
 have hpS : p < S.length := (List.getElem?_eq_some_iff.1 hI.1).1
 have q1 : S'[S.length + 1]? = some (some ⟨55, 4, [[.v (.int .i64 0), .v (.int .i64 0), .v (.int .i64 0), .v (.slice none 0 0)]]⟩) := hF.2 _ _ (get_app1 _ _ _ _) (by omega) (by show (55 : Nat) ∉ _; decide)
 have q2 : S'[S.length + 2]? = some (some ⟨55, 4, [[.v (.int .i64 0), .v (.int .i64 0), .v (.int .i64 0), .v (.slice none 0 0)]]⟩) := hF.2 _ _ (get_app2 _ _ _ _ _) (by omega) (by show (55 : Nat) ∉ _; decide)
 have hl2 := (List.getElem?_eq_some_iff.1 q2).1
 have r1 : ∀ o : Option Ob, (S'.set (S.length + 2) o)[S.length + 1]? = some (some ⟨55, 4, [[.v (.int .i64 0), .v (.int .i64 0), .v (.int .i64 0), .v (.slice none 0 0)]]⟩) := fun o => by rw [List.getElem?_set_ne (by omega)]; exact q1
 have r2 : ∀ o : Option Ob, (S'.set (S.length + 2) o)[S.length + 2]? = some o := fun o => List.getElem?_set_self hl2
 have r3 : ∀ o o' : Option Ob, ((S'.set (S.length + 2) o).set (S.length + 1) o')[S.length + 1]? = some o' := fun o o' => List.getElem?_set_self (by simp; omega)
 (refine WpL.go _ rfl fun Y y => ?_); repeat (first | (apply fw; (with_reducible constructor) <;> rfl) | (apply WpA.cd; constructor) | ((first | with_reducible refine WpA.go _ rfl fun Y y => ?_ | apply RunTo.id); simp only [zb, seval, w47, q1, q2, r1, r2]; refine RunTo.fn y (by first | (simp; done) | omega | (simp; omega)) ?_; clear y Y))
 refine ⟨.inl rfl, _, _, _, _, (by simp only [zb, seval, r3, w47]; rfl), by simp, Le.refl _ _, rfl, ⟨cC, cG', cP, ?_⟩, ?_, fun j ob h1 h2 h3 => ?_⟩
 ·have hn : ∀ j m, cN = .ms j m → j < S.length := fun j m e => hI.2.1.lt e
  exact (hI'.put2 hn (by omega) q2 rfl).put2 hn (by omega) (r1 _) rfl
 ·have := hF.1; simp at this; simp; omega
 ·have hj := (List.getElem?_eq_some_iff.1 h1).1
  rw [List.getElem?_set_ne (by omega), List.getElem?_set_ne (by omega)]
  exact hF.2 j ob (up_app h1) h2 (fun h => h3 (by simp at h; simp [h]))
end
theorem SLe.pre {T T' : List (Option Ob)} (S : List (Option Ob)) (h : SLe T T') : SLe (S ++ T) (S ++ T') := fun i ob hi => by
 rw [List.getElem?_append] at hi ⊢
 by_cases hlt : i < S.length
 ·rw [if_pos hlt] at hi ⊢; exact hi
 ·rw [if_neg hlt] at hi ⊢; exact h _ _ hi
theorem leS3 (S : List (Option Ob)) (bx rs : Option Ob) (t : TypeId) (a b c d : C) : LeS (S ++ [bx, none, some ⟨t, 4, [[.any, .any, .any, .any]]⟩]) (S ++ [bx, rs, some ⟨t, 4, [[a, b, c, d]]⟩]) := by
 refine LeS.any (j := S.length + 2) (a := ⟨t, 4, [[.any, .any, .any, .any]]⟩) (b := ⟨t, 4, [[a, b, c, d]]⟩) ?_ (get_app2 _ _ _ _ _) rfl rfl ⟨⟨FzC.any, FzC.any, FzC.any, FzC.any, trivial⟩, trivial⟩
 rw [set_app2]
 exact SLe.pre S (SLe.same (SLe.none (SLe.same (SLe.nil _))))
section
variable (p : Nat) (S : List (Option Ob)) (c : Cd) (name rest : ByteArray) (params : List ByteArray) (d : D) (l : List K) (sc : List (List ByteArray)) {cN cC cG cP cT : C} (hI : CoderIn p S c cN cC cG cP cT)
include hI
theorem node6 : Fn Tryd.prog 47 [.one (.ptr p 1 0 0), .agg (K.mk 6 name rest params d l).cc, .one (.sl 1 (scC sc))] S (NodeR p S cN cT ((8, params.length, if rest = ⟨#[]⟩ then 0 else 1), c)) := by
 rw [K.cc_eq]
 simp only [K.k, K.name, K.rest, K.params, K.d, K.l]
 have hl := strC_len params
 by_cases hr : rest = ⟨#[]⟩
 case' pos => have hre : eqB rest ⟨#[]⟩ = true := eqB_pos hr
 case' pos => rw [if_pos hr]
 case' neg => have hre : eqB rest ⟨#[]⟩ = false := eqB_neg hr
 case' neg => rw [if_neg hr]
 all_goals
  refine Fn.introT Tryd.func47 rfl Tryd.ntmps47 Tryd.results47 (by simp only [List.length_cons, List.length_nil]; decide) ?_
  repeat (first | (apply fw; (with_reducible constructor) <;> rfl) | (apply WpA.cd; constructor) | ((first | with_reducible refine WpA.go _ rfl fun Y y => ?_ | apply RunTo.id); simp only [zb, seval, w47, List.length_append, get_app0, get_app1, get_app2, set_app1, set_app2]; refine RunTo.fn y (by first | (simp; done) | omega | (simp; omega)) ?_; clear y Y))
  skip
  (refine WpA.draw1 7 [4, 6] (S ++ [some ⟨33, 11, [[.v (.int .i64 6), .v (.string name), .v (.string rest), .sl 1 (strC params), .v (.int .i64 d.k), .v (.int .i32 d.c), .v (.bool d.neg), .sl 1 (d.mag.map fun n => [.v (.int .u32 n)]), .v (.string d.t), .sl 6 (d.l.map D.cc), .sl 11 (l.map K.cc)]]⟩, none, some ⟨55, 4, [[.any, .any, .any, .any]]⟩]) [_, ?_, ?_] _ _ _ _ rfl rfl rfl (by kernel_rfl) (by kernel_rfl) (by kernel_rfl) (by kernel_rfl) rfl rfl rfl rfl (by decide) fun K8 hK8 => ?_); rotate_left 2; simp only [zz] at hK8 ⊢; (refine Draw1.go fun K7 hK7 => ?_); simp only [zb, seval, w47, get_app0, get_app2, hl]; (refine RunQ.mk (by first | (simp; done) | omega | (simp; omega)) (hK7 _ _ (by rfl) ?_)); clear hK7 K7; (simp only [zz, Nat.reduceAdd, Nat.reduceSub]); (try ((refine Draw1.nil (by simp only [List.mem_cons, List.not_mem_nil, or_false, forall_eq_or_imp, forall_eq]; exact ⟨leS3 _ _ _ _ _ _ _ _, leS3 _ _ _ _ _ _ _ _, leS3 _ _ _ _ _ _ _ _⟩) (hK8 _ ?_)); clear hK8 K8; (refine WpL.go _ rfl fun Y y => ?_); repeat (first | (apply fw; (with_reducible constructor) <;> rfl) | (apply WpA.cd; constructor) | ((first | with_reducible refine WpA.go _ rfl fun Y y => ?_ | apply RunTo.id); simp only [zb, seval, w47, get_app0, get_app2, hl]; refine RunTo.fn y (by first | (simp; done) | omega | (simp; omega)) ?_; clear y Y))))
  refine Draw1.eff 0 rfl rfl rfl (OpS.eff [(68, _)] rfl (by rfl) ⟨rfl, trivial⟩ (by simp only [zb, seval, w47, get_app0, get_app2, set_app2]; rfl) (by first | (simp; done) | omega | (simp; omega))) ?_; (try simp only [putE]); (try ((refine Draw1.go fun K7 hK7 => ?_); simp only [zb, seval, w47, get_app0, get_app2, set_app2]; (refine RunQ.mk (by first | (simp; done) | omega | (simp; omega)) (hK7 _ _ (by rfl) ?_)); clear hK7 K7; (simp only [zz, Nat.reduceAdd, Nat.reduceSub]); (try ((refine Draw1.nil (by simp only [List.mem_cons, List.not_mem_nil, or_false, forall_eq_or_imp, forall_eq]; exact ⟨leS3 _ _ _ _ _ _ _ _, leS3 _ _ _ _ _ _ _ _, leS3 _ _ _ _ _ _ _ _⟩) (hK8 _ ?_)); clear hK8 K8; (refine WpL.go _ rfl fun Y y => ?_); repeat (first | (apply fw; (with_reducible constructor) <;> rfl) | (apply WpA.cd; constructor) | ((first | with_reducible refine WpA.go _ rfl fun Y y => ?_ | apply RunTo.id); simp only [zb, seval, w47, get_app0, get_app2, set_app2]; refine RunTo.fn y (by first | (simp; done) | omega | (simp; omega)) ?_; clear y Y))))))
  refine Draw1.eff 1 rfl rfl rfl (OpS.eff [(69, _), (67, _)] rfl (by rfl) ⟨rfl, rfl, trivial⟩ (by simp only [zb, seval, w47, strEq, hre, get_app0, get_app1, get_app2, set_app1, set_app2]; rfl) (by first | (simp; done) | omega | (simp; omega))) ?_; (try simp only [putE]); (try ((refine Draw1.go fun K7 hK7 => ?_); simp only [zb, seval, w47, strEq, hre, get_app0, get_app1, get_app2, set_app1, set_app2]; (refine RunQ.mk (by first | (simp; done) | omega | (simp; omega)) (hK7 _ _ (by rfl) ?_)); clear hK7 K7; (simp only [zz, Nat.reduceAdd, Nat.reduceSub]); (try ((refine Draw1.nil (by simp only [List.mem_cons, List.not_mem_nil, or_false, forall_eq_or_imp, forall_eq]; exact ⟨leS3 _ _ _ _ _ _ _ _, leS3 _ _ _ _ _ _ _ _, leS3 _ _ _ _ _ _ _ _⟩) (hK8 _ ?_)); clear hK8 K8; (refine WpL.go _ rfl fun Y y => ?_); repeat (first | (apply fw; (with_reducible constructor) <;> rfl) | (apply WpA.cd; constructor) | ((first | with_reducible refine WpA.go _ rfl fun Y y => ?_ | apply RunTo.id); simp only [zb, seval, w47, strEq, hre, get_app0, get_app1, get_app2, set_app1, set_app2]; refine RunTo.fn y (by first | (simp; done) | omega | (simp; omega)) ?_; clear y Y))))))
  refine ⟨.inl rfl, _, _, _, _, (by simp only [zb, seval, get_app1, w47]; rfl), by simp, Le.refl _ _, rfl, ⟨cC, cG, cP, hI.app _⟩, by simp, fun j ob h _ _ => up_app h⟩
end
theorem number_op {S : List (Option Ob)} {cP : C} {l : List ByteArray} {s : ByteArray} (hA : At 9 1 S cP (strC l)) (hlen : l.length ≤ 1000000000) : ∃ S1 cP', At 9 1 S1 cP' (strC (addN l s)) ∧ S.length ≤ S1.length ∧ (∀ (j : Nat) (o : Option Ob), S[j]? = some o → (∀ n, cP ≠ .ms j n) → S1[j]? = some o) ∧ (∀ (j n : Nat), cP' = .ms j n → cP = .ms j l.length ∨ S.length ≤ j) ∧
  ∀ {nt : Cf} {ds : List (Option Tmp)} {d : Option Tmp} {ty : TypeId} {pos : String} {aft : Array Edge} {g : Option (Nat × Bool)} {e : List (Nat × A)} {x1 x2 : Operand} {tys : Array TypeId}, guardA ds e g = some true → rdA e x1 = some (.one cP) → rdA e x2 = some (.one (.v (.string s))) →
   OpS Tryd.prog nt ds ⟨d, .call { callee := .value (.func 63), args := #[x1, x2], argTypes := tys }, ty, pos, aft, g⟩ e S (.tup [.one cP', .one (.v (.int .i64 (numN l s)))]) S1 := by
 rcases hA with ⟨h0, rfl⟩ | ⟨hne, j, rfl, hj⟩
 ·have hl0 : l = [] := by simpa [strC] using h0
  subst hl0
  have ea : addN [] s = [s] := rfl
  have en : numN [] s = 0 := rfl
  have e1 : back S [] [some ⟨9, 1, strC [s]⟩] = S ++ [some ⟨9, 1, strC [s]⟩] := by
   simp only [back, mix, putAll, List.map_cons, List.map_nil, List.length_nil, List.drop_zero, Option.map_some, ob_strC_ren]
  have e2 : A.ren (rn [] S.length) (.tup [.one (.ms 0 1), .one (.v (.int .i64 0))]) = .tup [.one (.ms S.length 1), .one (.v (.int .i64 0))] := by
   simp [A.ren, A.rens, C.ren, rn]
  refine ⟨S ++ [some ⟨9, 1, strC [s]⟩], .ms S.length 1, by rw [ea]; exact .inr ⟨by simp [strC], S.length, rfl, by simp⟩, by simp, fun j o hj _ => up_app hj, fun j n e => by cases e; exact .inr (Nat.le_refl _), ?_⟩
  intro nt ds d ty pos aft g e x1 x2 tys hg h1 h2
  have := OpS.hand (P := Tryd.prog) (nt := nt) (d := d) (ty := ty) (pos := pos) (aft := aft) (tys := tys) (s := S) (s1 := []) (ρ := []) (fo := .func 63) (args := [x1, x2]) (caps := []) (xs := [.one (.v (.slice none 0 0)), .one (.v (.string s))]) hg rfl (by simp only [rdAs, h1, h2]) (by kernel_rfl) rfl (Handed.of (by simp) rfl) (numberN s)
  rw [e1, e2] at this
  rw [en]
  exact this
 ·have hl0 : l ≠ [] := fun e => hne (by rw [e]; rfl)
  have hsl := strC_len l
  have hh : Handed S [j] [some ⟨9, 1, strC l⟩] := Handed.of (by simp) (by simp [hj, ob_strC_ren])
  have e1 : back S [j] [some ⟨9, 1, strC (addN l s)⟩] = S.set j (some ⟨9, 1, strC (addN l s)⟩) := by
   simp [back, mix, putAll, ob_strC_ren]
  have e2 : ∀ m : Nat, A.ren (rn [j] S.length) (.tup [.one (.ms 0 m), .one (.v (.int .i64 (numN l s)))]) = .tup [.one (.ms j m), .one (.v (.int .i64 (numN l s)))] := fun m => by
   simp [A.ren, A.rens, C.ren, rn]
  refine ⟨S.set j (some ⟨9, 1, strC (addN l s)⟩), .ms j (addN l s).length, .inr ⟨fun e => addN_ne l s (by simpa [strC] using e), j, by rw [strC_len], List.getElem?_set_self (List.getElem?_eq_some_iff.1 hj).1⟩, by simp, fun i o hi hn => ?_, fun i n e => by cases e; exact .inl (by rw [hsl]), ?_⟩
  ·rw [List.getElem?_set_ne (fun e => by subst e; exact hn _ rfl)]; exact hi
  intro nt ds d ty pos aft g e x1 x2 tys hg h1 h2
  have := OpS.hand (P := Tryd.prog) (nt := nt) (d := d) (ty := ty) (pos := pos) (aft := aft) (tys := tys) (s := S) (s1 := [some ⟨9, 1, strC l⟩]) (ρ := [j]) (fo := .func 63) (args := [x1, x2]) (caps := []) (xs := [.one (.ms j l.length), .one (.v (.string s))]) (xs' := [.one (.ms 0 l.length), .one (.v (.string s))]) hg rfl (by simp only [rdAs, h1, h2, hsl]) (by kernel_rfl) (by simp [A.rens, A.ren, C.ren, rn, hsl]) hh (numberM l s hl0 hlen)
  rw [e1, e2] at this
  exact this
theorem CoderIn.newP {p : Nat} {S S1 : List (Option Ob)} {c : Cd} {cN cC cG cP cT cP' : C} {P' : List ByteArray} (hI : CoderIn p S c cN cC cG cP cT) (hA : At 9 1 S1 cP' (strC P')) (hl : S.length ≤ S1.length) (hfr : ∀ (j : Nat) (o : Option Ob), S[j]? = some o → (∀ n, cP ≠ .ms j n) → S1[j]? = some o) (hpl : ∀ (j n : Nat), cP' = .ms j n → (∃ m, cP = .ms j m) ∨ S.length ≤ j) :
  CoderIn p (S1.set p (some ⟨64, 5, [[cN, cC, cG, cP', cT]]⟩)) { c with prims := P' } cN cC cG cP' cT ∧ Frm p [9] S (S1.set p (some ⟨64, 5, [[cN, cC, cG, cP', cT]]⟩)) := by
 have hpS : p < S.length := (List.getElem?_eq_some_iff.1 hI.1).1
 have hP := hI.2.2.2.2.1
 have g1 := hfr p _ hI.1 (hP.apart hI.1 (by show (64 : Nat) ≠ _; decide))
 have stays : ∀ (j : Nat) (ob : Ob) (a : Option Ob), S[j]? = some (some ob) → j ≠ p → (∀ n, cP ≠ .ms j n) → (S1.set p a)[j]? = some (some ob) := fun j ob a h1 h2 h3 => by
  rw [List.getElem?_set_ne (fun e => h2 e.symm)]
  exact hfr j _ h1 h3
 have np : ∀ {j : Nat} {ob : Ob}, S[j]? = some (some ob) → ob.ty ≠ 64 → j ≠ p := fun h1 h2 e => by subst e; rw [hI.1] at h1; cases h1; exact h2 rfl
 refine ⟨⟨List.getElem?_set_self (by omega), hI.2.1.stay fun j hj _ => stays j _ _ hj (np hj (by show (55 : Nat) ≠ _; decide)) (hP.apart hj (by show (55 : Nat) ≠ _; decide)), hI.2.2.1.stay fun j hj _ => stays j _ _ hj (np hj (by show (31 : Nat) ≠ _; decide)) (hP.apart hj (by show (31 : Nat) ≠ _; decide)), hI.2.2.2.1.stay fun j hj e => stays j _ _ hj (np hj (by show (9 : Nat) ≠ _; decide)) (fun n e' => hI.2.2.2.2.2.2 j _ n e e'), hA.stay fun j hj _ => ?_, hI.2.2.2.2.2.1.stay fun j hj _ => stays j _ _ hj (np hj (by show (3 : Nat) ≠ _; decide)) (hP.apart hj (by show (3 : Nat) ≠ _; decide)), ?_⟩, by simp; omega, fun j ob h1 h2 h3 => stays j _ _ h1 h2 (hP.apart h1 (fun e => h3 (by simp [e])))⟩
 ·have n2 : p ≠ j := fun e => by subst e; rw [g1] at hj; cases hj
  rw [List.getElem?_set_ne n2]; exact hj
 ·intro j n m e e'
  rcases hpl j m e' with ⟨k, h⟩ | h
  ·exact hI.2.2.2.2.2.2 j n k e h
  ·have := hI.2.2.2.1.lt e
   omega
section
variable (p : Nat) (S : List (Option Ob)) (c : Cd) (name rest : ByteArray) (params : List ByteArray) (d : D) (l : List K) (sc : List (List ByteArray)) {cN cC cG cP cT : C} (hI : CoderIn p S c cN cC cG cP cT)
include hI
theorem node10 (hp9 : c.prims.length ≤ 1000000000) : Fn Tryd.prog 47 [.one (.ptr p 1 0 0), .agg (K.mk 10 name rest params d l).cc, .one (.sl 1 (scC sc))] S (NodeR p S cN cT ((12, numN c.prims name, 0), { c with prims := addN c.prims name })) := by
 rw [K.cc_eq]
 simp only [K.k, K.name, K.rest, K.params, K.d, K.l]
 have hpS : p < S.length := (List.getElem?_eq_some_iff.1 hI.1).1
 refine Fn.introT Tryd.func47 rfl Tryd.ntmps47 Tryd.results47 (by simp only [List.length_cons, List.length_nil]; decide) ?_
 repeat (first | (apply fw; (with_reducible constructor) <;> rfl) | (apply WpA.cd; constructor) | ((first | with_reducible refine WpA.go _ rfl fun Y y => ?_ | apply RunTo.id); simp only [zb, seval, w47, List.length_append, get_app0, get_app1, get_app2, set_app1, set_app2]; refine RunTo.fn y (by first | (simp; done) | omega | (simp; omega)) ?_; clear y Y))
 obtain ⟨T0, hT0⟩ : ∃ T0 : List (Option Ob), T0 = S ++ [some ⟨33, 11, [[.v (.int .i64 10), .v (.string name), .v (.string rest), .sl 1 (strC params), .v (.int .i64 d.k), .v (.int .i32 d.c), .v (.bool d.neg), .sl 1 (d.mag.map fun n => [.v (.int .u32 n)]), .v (.string d.t), .sl 6 (d.l.map D.cc), .sl 11 (l.map K.cc)]]⟩, some ⟨55, 4, [[.v (.int .i64 0), .v (.int .i64 0), .v (.int .i64 0), .v (.slice none 0 0)]]⟩, some ⟨55, 4, [[.v (.int .i64 12), .v (.int .i64 0), .v (.int .i64 0), .v (.slice none 0 0)]]⟩] := ⟨_, rfl⟩
 rw [← hT0]
 have hI0 : CoderIn p T0 c cN cC cG cP cT := by rw [hT0]; exact hI.app _
 have f2 : T0[S.length]? = some (some ⟨33, 11, [[.v (.int .i64 10), .v (.string name), .v (.string rest), .sl 1 (strC params), .v (.int .i64 d.k), .v (.int .i32 d.c), .v (.bool d.neg), .sl 1 (d.mag.map fun n => [.v (.int .u32 n)]), .v (.string d.t), .sl 6 (d.l.map D.cc), .sl 11 (l.map K.cc)]]⟩) := by rw [hT0]; exact get_app0 _ _ _
 have f3 : T0[S.length + 1]? = some (some ⟨55, 4, [[.v (.int .i64 0), .v (.int .i64 0), .v (.int .i64 0), .v (.slice none 0 0)]]⟩) := by rw [hT0]; exact get_app1 _ _ _ _
 have f4 : T0[S.length + 2]? = some (some ⟨55, 4, [[.v (.int .i64 12), .v (.int .i64 0), .v (.int .i64 0), .v (.slice none 0 0)]]⟩) := by rw [hT0]; exact get_app2 _ _ _ _ _
 have hF0 : ∀ (j : Nat) (ob : Ob), S[j]? = some (some ob) → T0[j]? = some (some ob) := fun j ob h => by rw [hT0]; exact up_app h
 have hlT : T0.length = S.length + 3 := by rw [hT0]; simp
 have hnp : ∀ {j : Nat} {ob : Ob}, T0[j]? = some (some ob) → ob.ty ≠ 9 → ∀ n, cP ≠ .ms j n := fun hj ht => hI0.2.2.2.2.1.apart hj ht
 obtain ⟨S1, cP', hA1, hl1, hfr, hpl, hop⟩ := number_op (s := name) hI0.2.2.2.2.1 hp9
 have f1 := hI0.1
 have g1 := hfr _ _ f1 (hnp f1 (by show (64 : Nat) ≠ _; decide))
 have g2 := hfr _ _ f2 (hnp f2 (by show (33 : Nat) ≠ _; decide))
 have g3 := hfr _ _ f3 (hnp f3 (by show (55 : Nat) ≠ _; decide))
 have g4 := hfr _ _ f4 (hnp f4 (by show (55 : Nat) ≠ _; decide))
 obtain ⟨X, hX⟩ : ∃ X : Option Ob, X = some ⟨64, 5, [[cN, cC, cG, cP', cT]]⟩ := ⟨_, rfl⟩
 have k1 : (S1.set p X)[p]? = some X := List.getElem?_set_self (by omega)
 have k2 : (S1.set p X)[S.length]? = _ := (List.getElem?_set_ne (by omega)).trans g2
 have k3 : (S1.set p X)[S.length + 1]? = _ := (List.getElem?_set_ne (by omega)).trans g3
 have k4 : (S1.set p X)[S.length + 2]? = _ := (List.getElem?_set_ne (by omega)).trans g4
 obtain ⟨Y, hY⟩ : ∃ Y : Option Ob, Y = some ⟨55, 4, [[.v (.int .i64 12), .v (.int .i64 (numN c.prims name)), .v (.int .i64 0), .v (.slice none 0 0)]]⟩ := ⟨_, rfl⟩
 have m1 : ((S1.set p X).set (S.length + 2) Y)[p]? = some X := by rw [List.getElem?_set_ne (by omega)]; exact k1
 have m2 : ((S1.set p X).set (S.length + 2) Y)[S.length]? = _ := (List.getElem?_set_ne (by omega)).trans k2
 have m3 : ((S1.set p X).set (S.length + 2) Y)[S.length + 1]? = _ := (List.getElem?_set_ne (by omega)).trans k3
 have m4 : ((S1.set p X).set (S.length + 2) Y)[S.length + 2]? = some Y := List.getElem?_set_self (by simp; omega)
 obtain ⟨c9, hc9⟩ : ∃ c9 : List (Option Ob), c9 = pts [(p, ⟨64, 5, [[.any, .any, .any, .any, .any]]⟩), (S.length, ⟨33, 11, [[.v (.int .i64 10), .v (.string name), .v (.string rest), .sl 1 (strC params), .v (.int .i64 d.k), .v (.int .i32 d.c), .v (.bool d.neg), .sl 1 (d.mag.map fun n => [.v (.int .u32 n)]), .v (.string d.t), .sl 6 (d.l.map D.cc), .sl 11 (l.map K.cc)]]⟩), (S.length + 2, ⟨55, 4, [[.any, .any, .any, .any]]⟩)] := ⟨_, rfl⟩
 have q1 : c9[p]? = some (some ⟨64, 5, [[.any, .any, .any, .any, .any]]⟩) := by rw [hc9]; exact pts_get (q := (p, _)) (by simp)
 have q2 : c9[S.length]? = some (some ⟨33, 11, [[.v (.int .i64 10), .v (.string name), .v (.string rest), .sl 1 (strC params), .v (.int .i64 d.k), .v (.int .i32 d.c), .v (.bool d.neg), .sl 1 (d.mag.map fun n => [.v (.int .u32 n)]), .v (.string d.t), .sl 6 (d.l.map D.cc), .sl 11 (l.map K.cc)]]⟩) := by rw [hc9]; exact pts_get (q := (S.length, _)) (by rw [List.find?_cons_of_neg (by simp; omega)]; simp)
 have q4 : c9[S.length + 2]? = some (some ⟨55, 4, [[.any, .any, .any, .any]]⟩) := by rw [hc9]; exact pts_get (q := (S.length + 2, _)) (by rw [List.find?_cons_of_neg (by simp; omega), List.find?_cons_of_neg (by simp)]; simp)
 have any4 : ∀ (s : List (Option Ob)) (a b c d : C), FzR s (fun _ => false) [[a, b, c, d]] [[.any, .any, .any, .any]] := fun s a b c d => ⟨⟨FzC.any, FzC.any, FzC.any, FzC.any, trivial⟩, trivial⟩
 have any5 : ∀ (s : List (Option Ob)) (a b c d e : C), FzR s (fun _ => false) [[a, b, c, d, e]] [[.any, .any, .any, .any, .any]] := fun s a b c d e => ⟨⟨FzC.any, FzC.any, FzC.any, FzC.any, FzC.any, trivial⟩, trivial⟩
 have hle : ∀ s ∈ [T0, T0, S1, S1.set p X, (S1.set p X).set (S.length + 2) Y], LeS c9 s := by
  rw [hc9]
  intro s hs
  refine LeS.pts ?_
  simp only [List.mem_cons, List.not_mem_nil, or_false, forall_eq_or_imp, forall_eq] at hs ⊢
  rcases hs with rfl | rfl | rfl | rfl | rfl
  ·exact ⟨⟨_, f1, rfl, rfl, any5 _ _ _ _ _ _⟩, ⟨_, f2, rfl, rfl, FzR.same _ _ _⟩, ⟨_, f4, rfl, rfl, any4 _ _ _ _ _⟩⟩
  ·exact ⟨⟨_, f1, rfl, rfl, any5 _ _ _ _ _ _⟩, ⟨_, f2, rfl, rfl, FzR.same _ _ _⟩, ⟨_, f4, rfl, rfl, any4 _ _ _ _ _⟩⟩
  ·exact ⟨⟨_, g1, rfl, rfl, any5 _ _ _ _ _ _⟩, ⟨_, g2, rfl, rfl, FzR.same _ _ _⟩, ⟨_, g4, rfl, rfl, any4 _ _ _ _ _⟩⟩
  ·exact ⟨⟨_, k1.trans (congrArg some hX), rfl, rfl, any5 _ _ _ _ _ _⟩, ⟨_, k2, rfl, rfl, FzR.same _ _ _⟩, ⟨_, k4, rfl, rfl, any4 _ _ _ _ _⟩⟩
  ·exact ⟨⟨_, m1.trans (congrArg some hX), rfl, rfl, any5 _ _ _ _ _ _⟩, ⟨_, m2, rfl, rfl, FzR.same _ _ _⟩, ⟨_, m4.trans (congrArg some hY), rfl, rfl, any4 _ _ _ _ _⟩⟩
 have hR := hI0.newP hA1 hl1 hfr (fun j n e => (hpl j n e).imp (fun h => ⟨_, h⟩) id)
 rw [← hX] at hR
 subst hX hY
 skip
 (refine WpA.draw1 18 [5, 8, 15, 17] c9 [T0, T0, S1, S1.set p (some ⟨64, 5, [[cN, cC, cG, cP', cT]]⟩), (S1.set p (some ⟨64, 5, [[cN, cC, cG, cP', cT]]⟩)).set (S.length + 2) (some ⟨55, 4, [[.v (.int .i64 12), .v (.int .i64 (numN c.prims name)), .v (.int .i64 0), .v (.slice none 0 0)]]⟩)] _ _ _ _ rfl rfl rfl (by kernel_rfl) (by kernel_rfl) (by kernel_rfl) (by kernel_rfl) rfl rfl rfl rfl (by decide) fun K8 hK8 => ?_)
 simp only [zz] at hK8 ⊢
 (refine Draw1.step (by rfl) (fun s9 h9 => OpS.less h9 rfl (by simp only [zb, seval, w47, q1]; rfl) (by first | (simp; done) | omega | (simp; omega))) ?_; simp only [putE]); (refine Draw1.step (by rfl) (fun s9 h9 => OpS.less h9 rfl (by simp only [zb, seval, w47, q1]; rfl) (by first | (simp; done) | omega | (simp; omega))) ?_; simp only [putE]); (refine Draw1.step (by rfl) (fun s9 h9 => OpS.less h9 rfl (by simp only [zb, seval, w47, q1]; rfl) (by first | (simp; done) | omega | (simp; omega))) ?_; simp only [putE]); (refine Draw1.step (by rfl) (fun s9 h9 => OpS.less h9 rfl (by simp only [zb, seval, w47, q1]; rfl) (by first | (simp; done) | omega | (simp; omega))) ?_; simp only [putE]); (refine Draw1.step (by rfl) (fun s9 h9 => OpS.less h9 rfl (by simp only [zb, seval, w47, q1]; rfl) (by first | (simp; done) | omega | (simp; omega))) ?_; simp only [putE])
 refine Draw1.eff 0 rfl rfl rfl (OpS.eff [(91, _)] rfl (by rfl) ⟨rfl, trivial⟩ (by simp only [zb, seval, w47, f1, q1, q2, q4]; rfl) (by first | (simp; done) | omega | (simp; omega))) ?_; (try simp only [putE]); (try ((refine Draw1.go fun K7 hK7 => ?_); simp only [zb, seval, w47, f1, q1, q2, q4]; (refine RunQ.mk (by first | (simp; done) | omega | (simp; omega)) (hK7 _ _ (by rfl) ?_)); clear hK7 K7; (simp only [zz, Nat.reduceAdd, Nat.reduceSub]); (try ((refine Draw1.nil hle (hK8 _ ?_)); clear hK8 K8; (refine WpL.go _ rfl fun Y y => ?_); repeat (first | (apply fw; (with_reducible constructor) <;> rfl) | (apply WpA.cd; constructor) | ((first | with_reducible refine WpA.go _ rfl fun Y y => ?_ | apply RunTo.id); simp only [zb, seval, w47, f1, q1, q2, q4]; refine RunTo.fn y (by first | (simp; done) | omega | (simp; omega)) ?_; clear y Y))))))
 refine Draw1.eff 1 rfl rfl rfl (hop rfl rfl rfl) ?_
 simp only [putE]
 (refine Draw1.go fun K7 hK7 => ?_); simp only [zb, seval, w47, q1, q2, q4]; (refine RunQ.mk (by first | (simp; done) | omega | (simp; omega)) (hK7 _ _ (by rfl) ?_)); clear hK7 K7; (simp only [zz, Nat.reduceAdd, Nat.reduceSub]); (try ((refine Draw1.nil hle (hK8 _ ?_)); clear hK8 K8; (refine WpL.go _ rfl fun Y y => ?_); repeat (first | (apply fw; (with_reducible constructor) <;> rfl) | (apply WpA.cd; constructor) | ((first | with_reducible refine WpA.go _ rfl fun Y y => ?_ | apply RunTo.id); simp only [zb, seval, w47, q1, q2, q4]; refine RunTo.fn y (by first | (simp; done) | omega | (simp; omega)) ?_; clear y Y))))
 refine Draw1.eff 2 rfl rfl rfl (OpS.eff [(100, _), (96, _)] rfl (by rfl) ⟨rfl, rfl, trivial⟩ (by simp only [zb, seval, w47, q1, q2, q4, g1]; rfl) (by first | (simp; done) | omega | (simp; omega))) ?_; (try simp only [putE]); (try ((refine Draw1.go fun K7 hK7 => ?_); simp only [zb, seval, w47, q1, q2, q4, g1]; (refine RunQ.mk (by first | (simp; done) | omega | (simp; omega)) (hK7 _ _ (by rfl) ?_)); clear hK7 K7; (simp only [zz, Nat.reduceAdd, Nat.reduceSub]); (try ((refine Draw1.nil hle (hK8 _ ?_)); clear hK8 K8; (refine WpL.go _ rfl fun Y y => ?_); repeat (first | (apply fw; (with_reducible constructor) <;> rfl) | (apply WpA.cd; constructor) | ((first | with_reducible refine WpA.go _ rfl fun Y y => ?_ | apply RunTo.id); simp only [zb, seval, w47, q1, q2, q4, g1]; refine RunTo.fn y (by first | (simp; done) | omega | (simp; omega)) ?_; clear y Y))))))
 refine Draw1.eff 3 rfl rfl rfl (OpS.eff [(101, _), (97, _)] rfl (by rfl) ⟨rfl, rfl, trivial⟩ (by simp only [zb, seval, w47, q1, q2, q4, k4, m4]; rfl) (by first | (simp; done) | omega | (simp; omega))) ?_; (try simp only [putE]); (try ((refine Draw1.go fun K7 hK7 => ?_); simp only [zb, seval, w47, q1, q2, q4, k4, m4]; (refine RunQ.mk (by first | (simp; done) | omega | (simp; omega)) (hK7 _ _ (by rfl) ?_)); clear hK7 K7; (simp only [zz, Nat.reduceAdd, Nat.reduceSub]); (try ((refine Draw1.nil hle (hK8 _ ?_)); clear hK8 K8; (refine WpL.go _ rfl fun Y y => ?_); repeat (first | (apply fw; (with_reducible constructor) <;> rfl) | (apply WpA.cd; constructor) | ((first | with_reducible refine WpA.go _ rfl fun Y y => ?_ | apply RunTo.id); simp only [zb, seval, w47, q1, q2, q4, k4, m4]; refine RunTo.fn y (by first | (simp; done) | omega | (simp; omega)) ?_; clear y Y))))))
 repeat (first | (apply fw; (with_reducible constructor) <;> rfl) | (apply WpA.cd; constructor) | ((first | with_reducible refine WpA.go _ rfl fun Y y => ?_ | apply RunTo.id); simp only [zb, seval, w47, m3, m4]; refine RunTo.fn y (by first | (simp; done) | omega | (simp; omega)) ?_; clear y Y))
 have hl9 : S.length + 1 < ((S1.set p (some ⟨64, 5, [[cN, cC, cG, cP', cT]]⟩)).set (S.length + 2) (some ⟨55, 4, [[.v (.int .i64 12), .v (.int .i64 (numN c.prims name)), .v (.int .i64 0), .v (.slice none 0 0)]]⟩)).length := by simp; omega
 refine ⟨.inl rfl, _, _, _, _, (by simp only [zb, seval, List.getElem?_set_self hl9, w47]; rfl), by simp, Le.refl _ _, rfl, ⟨cC, cG, cP', ?_⟩, ?_, fun j ob h1 h2 h3 => ?_⟩
 ·have hn : ∀ j m, cN = .ms j m → j < S.length := fun j m e => hI.2.1.lt e
  exact (hR.1.put2 hn (by omega) k4 rfl).put2 hn (by omega) m3 rfl
 ·simp; omega
 ·have hj := (List.getElem?_eq_some_iff.1 h1).1
  rw [List.getElem?_set_ne (by omega), List.getElem?_set_ne (by omega)]
  exact hR.2.2 j ob (hF0 j ob h1) h2 (fun h => h3 (by simp at h; simp [h]))
end
theorem dZ_ok : dZ.Ok := by simp [dZ, D.Ok, Oks, show (ByteArray.mk #[]).size = 0 from rfl]
theorem any4 (s : List (Option Ob)) (z : Nat → Bool) (a b c d : C) : FzR s z [[a, b, c, d]] [[.any, .any, .any, .any]] := ⟨⟨FzC.any, FzC.any, FzC.any, FzC.any, trivial⟩, trivial⟩
theorem CoderIn.newC {p : Nat} {S S1 : List (Option Ob)} {c : Cd} {cN cC cG cP cT cC' : C} {C' : List D} (hI : CoderIn p S c cN cC cG cP cT) (hA : At 31 6 S1 cC' (C'.map D.cc)) (hl : S.length ≤ S1.length) (hfr : ∀ (j : Nat) (o : Option Ob), S[j]? = some o → (∀ n, cC ≠ .ms j n) → S1[j]? = some o) :
  CoderIn p (S1.set p (some ⟨64, 5, [[cN, cC', cG, cP, cT]]⟩)) { c with consts := C' } cN cC' cG cP cT ∧ Frm p [31] S (S1.set p (some ⟨64, 5, [[cN, cC', cG, cP, cT]]⟩)) := by
 have hpS : p < S.length := (List.getElem?_eq_some_iff.1 hI.1).1
 have hP := hI.2.2.1
 have g1 := hfr p _ hI.1 (hP.apart hI.1 (by show (64 : Nat) ≠ _; decide))
 have stays : ∀ (j : Nat) (ob : Ob) (a : Option Ob), S[j]? = some (some ob) → j ≠ p → (∀ n, cC ≠ .ms j n) → (S1.set p a)[j]? = some (some ob) := fun j ob a h1 h2 h3 => by
  rw [List.getElem?_set_ne (fun e => h2 e.symm)]
  exact hfr j _ h1 h3
 have np : ∀ {j : Nat} {ob : Ob}, S[j]? = some (some ob) → ob.ty ≠ 64 → j ≠ p := fun h1 h2 e => by subst e; rw [hI.1] at h1; cases h1; exact h2 rfl
 refine ⟨⟨List.getElem?_set_self (by omega), hI.2.1.stay fun j hj _ => stays j _ _ hj (np hj (by show (55 : Nat) ≠ _; decide)) (hP.apart hj (by show (55 : Nat) ≠ _; decide)), hA.stay fun j hj _ => ?_, hI.2.2.2.1.stay fun j hj e => stays j _ _ hj (np hj (by show (9 : Nat) ≠ _; decide)) (hP.apart hj (by show (9 : Nat) ≠ _; decide)), hI.2.2.2.2.1.stay fun j hj e => stays j _ _ hj (np hj (by show (9 : Nat) ≠ _; decide)) (hP.apart hj (by show (9 : Nat) ≠ _; decide)), hI.2.2.2.2.2.1.stay fun j hj _ => stays j _ _ hj (np hj (by show (3 : Nat) ≠ _; decide)) (hP.apart hj (by show (3 : Nat) ≠ _; decide)), hI.2.2.2.2.2.2⟩, by simp; omega, fun j ob h1 h2 h3 => stays j _ _ h1 h2 (hP.apart h1 (fun e => h3 (by simp [e])))⟩
 have n2 : p ≠ j := fun e => by subst e; rw [g1] at hj; cases hj
 rw [List.getElem?_set_ne n2]; exact hj
section
variable (p : Nat) (S : List (Option Ob)) (c : Cd) (name rest : ByteArray) (params : List ByteArray) (d : D) (l : List K) (sc : List (List ByteArray)) {cN cC cG cP cT : C} (hI : CoderIn p S c cN cC cG cP cT)
include hI
theorem node1 (hok : d.Ok) (hc9 : c.consts.length ≤ 1000000000) : Fn Tryd.prog 47 [.one (.ptr p 1 0 0), .agg (K.mk 1 name rest params d l).cc, .one (.sl 1 (scC sc))] S (NodeR p S cN cT ((1, c.consts.length, 0), { c with consts := c.consts ++ [d] })) := by
 rw [K.cc_eq]
 simp only [K.k, K.name, K.rest, K.params, K.d, K.l]
 have hpS : p < S.length := (List.getElem?_eq_some_iff.1 hI.1).1
 have hpr := pair_pure d dZ hok dZ_ok
 rw [D.cc_eq d, D.cc_eq dZ] at hpr
 simp only [dZ, D.k, D.c, D.neg, D.mag, D.t, D.l, List.map_nil] at hpr
 have hpp : ∀ T, (S ++ T)[p]? = some (some ⟨64, 5, [[cN, cC, cG, cP, cT]]⟩) := fun T => up_app hI.1
 have hC := hI.2.2.1
 rcases hI.2.2.1 with ⟨h0, rfl⟩ | ⟨hne, j0, rfl, hj0⟩
 case' inl => have hcn : c.consts.length = 0 := by simpa using h0
 case' inl => have hcn0 : c.consts = [] := List.eq_nil_of_length_eq_zero hcn
 case' inl => have hcn' : (c.consts.length : Int) = 0 := by rw [hcn]; rfl
 case' inr => rw [List.length_map] at hI hC hpp
 ·refine Fn.introT Tryd.func47 rfl Tryd.ntmps47 Tryd.results47 (by simp only [List.length_cons, List.length_nil]; decide) ?_
  repeat (first | (apply fw; (with_reducible constructor) <;> rfl) | (apply WpA.cd; constructor) | ((first | with_reducible refine WpA.go _ rfl fun Y y => ?_ | apply RunTo.id); simp only [zb, seval, w47, List.length_append, get_app0, get_app1, get_app2, set_app1, set_app2]; refine RunTo.fn y (by first | (simp; done) | omega | (simp; omega)) ?_; clear y Y))
  skip
  skip
  (refine WpA.draw1 10 [7, 9] (S ++ [some ⟨33, 11, [[.v (.int .i64 1), .v (.string name), .v (.string rest), .sl 1 (strC params), .v (.int .i64 d.k), .v (.int .i32 d.c), .v (.bool d.neg), .sl 1 (d.mag.map fun n => [.v (.int .u32 n)]), .v (.string d.t), .sl 6 (d.l.map D.cc), .sl 11 (l.map K.cc)]]⟩, none, some ⟨55, 4, [[.any, .any, .any, .any]]⟩]) [_, ?_, ?_] _ _ _ _ rfl rfl rfl (by kernel_rfl) (by kernel_rfl) (by kernel_rfl) (by kernel_rfl) rfl rfl rfl rfl (by decide) fun K8 hK8 => ?_); rotate_left 2; simp only [zz] at hK8 ⊢; (refine Draw1.go fun K7 hK7 => ?_); simp only [zb, seval, w47, get_app0, get_app2, hpp]; (refine RunQ.mk (by first | (simp; done) | omega | (simp; omega)) (hK7 _ _ (by rfl) ?_)); clear hK7 K7; (simp only [zz, Nat.reduceAdd, Nat.reduceSub]); (try ((refine Draw1.nil (by simp only [List.mem_cons, List.not_mem_nil, or_false, forall_eq_or_imp, forall_eq]; exact ⟨leS3 _ _ _ _ _ _ _ _, leS3 _ _ _ _ _ _ _ _, leS3 _ _ _ _ _ _ _ _⟩) (hK8 _ ?_)); clear hK8 K8; (refine WpL.go _ rfl fun Y y => ?_); repeat (first | (apply fw; (with_reducible constructor) <;> rfl) | (apply WpA.cd; constructor) | ((first | with_reducible refine WpA.go _ rfl fun Y y => ?_ | apply RunTo.id); simp only [zb, seval, w47, get_app0, get_app2, hpp]; refine RunTo.fn y (by first | (simp; done) | omega | (simp; omega)) ?_; clear y Y))))
  refine Draw1.eff 0 rfl rfl rfl (OpS.eff [(19, _)] rfl (by rfl) ⟨rfl, trivial⟩ (by simp only [zb, seval, w47, get_app0, get_app2, set_app2]; rfl) (by first | (simp; done) | omega | (simp; omega))) ?_; (try simp only [putE]); (try ((refine Draw1.go fun K7 hK7 => ?_); simp only [zb, seval, w47, get_app0, get_app2, set_app2]; (refine RunQ.mk (by first | (simp; done) | omega | (simp; omega)) (hK7 _ _ (by rfl) ?_)); clear hK7 K7; (simp only [zz, Nat.reduceAdd, Nat.reduceSub]); (try ((refine Draw1.nil (by simp only [List.mem_cons, List.not_mem_nil, or_false, forall_eq_or_imp, forall_eq]; exact ⟨leS3 _ _ _ _ _ _ _ _, leS3 _ _ _ _ _ _ _ _, leS3 _ _ _ _ _ _ _ _⟩) (hK8 _ ?_)); clear hK8 K8; (refine WpL.go _ rfl fun Y y => ?_); repeat (first | (apply fw; (with_reducible constructor) <;> rfl) | (apply WpA.cd; constructor) | ((first | with_reducible refine WpA.go _ rfl fun Y y => ?_ | apply RunTo.id); simp only [zb, seval, w47, get_app0, get_app2, set_app2]; refine RunTo.fn y (by first | (simp; done) | omega | (simp; omega)) ?_; clear y Y))))))
  refine Draw1.eff 1 rfl rfl rfl (OpS.eff [(20, _), (18, _)] rfl (by rfl) ⟨rfl, rfl, trivial⟩ (by simp only [zb, seval, w47, get_app0, get_app1, get_app2, set_app1, set_app2]; rfl) (by first | (simp; done) | omega | (simp; omega))) ?_; (try simp only [putE]); (try ((refine Draw1.go fun K7 hK7 => ?_); simp only [zb, seval, w47, get_app0, get_app1, get_app2, set_app1, set_app2]; (refine RunQ.mk (by first | (simp; done) | omega | (simp; omega)) (hK7 _ _ (by rfl) ?_)); clear hK7 K7; (simp only [zz, Nat.reduceAdd, Nat.reduceSub]); (try ((refine Draw1.nil (by simp only [List.mem_cons, List.not_mem_nil, or_false, forall_eq_or_imp, forall_eq]; exact ⟨leS3 _ _ _ _ _ _ _ _, leS3 _ _ _ _ _ _ _ _, leS3 _ _ _ _ _ _ _ _⟩) (hK8 _ ?_)); clear hK8 K8; (refine WpL.go _ rfl fun Y y => ?_); repeat (first | (apply fw; (with_reducible constructor) <;> rfl) | (apply WpA.cd; constructor) | ((first | with_reducible refine WpA.go _ rfl fun Y y => ?_ | apply RunTo.id); simp only [zb, seval, w47, get_app0, get_app1, get_app2, set_app1, set_app2]; refine RunTo.fn y (by first | (simp; done) | omega | (simp; omega)) ?_; clear y Y))))))
  obtain ⟨T2, hT2⟩ : ∃ T2 : List (Option Ob), T2 = S ++ [some ⟨33, 11, [[.v (.int .i64 1), .v (.string name), .v (.string rest), .sl 1 (strC params), .v (.int .i64 d.k), .v (.int .i32 d.c), .v (.bool d.neg), .sl 1 (d.mag.map fun n => [.v (.int .u32 n)]), .v (.string d.t), .sl 6 (d.l.map D.cc), .sl 11 (l.map K.cc)]]⟩, some ⟨55, 4, [[.v (.int .i64 0), .v (.int .i64 0), .v (.int .i64 0), .v (.slice none 0 0)]]⟩, some ⟨55, 4, [[.v (.int .i64 1), .v (.int .i64 ((c.consts.length : Int))), .v (.int .i64 0), .v (.slice none 0 0)]]⟩] := ⟨_, rfl⟩
  have hI2 : CoderIn p T2 c cN (.ms j0 c.consts.length) cG cP cT := by rw [hT2]; exact hI.app _
  have hl2 : T2.length = S.length + 3 := by rw [hT2]; simp
  have a2 : T2[S.length]? = some (some ⟨33, 11, [[.v (.int .i64 1), .v (.string name), .v (.string rest), .sl 1 (strC params), .v (.int .i64 d.k), .v (.int .i32 d.c), .v (.bool d.neg), .sl 1 (d.mag.map fun n => [.v (.int .u32 n)]), .v (.string d.t), .sl 6 (d.l.map D.cc), .sl 11 (l.map K.cc)]]⟩) := by rw [hT2]; exact get_app0 _ _ _
  have a3 : T2[S.length + 1]? = some (some ⟨55, 4, [[.v (.int .i64 0), .v (.int .i64 0), .v (.int .i64 0), .v (.slice none 0 0)]]⟩) := by rw [hT2]; exact get_app1 _ _ _ _
  have a4 : T2[S.length + 2]? = some (some ⟨55, 4, [[.v (.int .i64 1), .v (.int .i64 ((c.consts.length : Int))), .v (.int .i64 0), .v (.slice none 0 0)]]⟩) := by rw [hT2]; exact get_app2 _ _ _ _ _
  have hF2 : ∀ (j : Nat) (ob : Ob), S[j]? = some (some ob) → T2[j]? = some (some ob) := fun j ob h => by rw [hT2]; exact up_app h
  rw [← hT2]
  have a1 := hI2.1
  obtain ⟨T3, hT3⟩ : ∃ T3 : List (Option Ob), T3 = T2 ++ [some ⟨31, 6, [[.v (.int .i64 0), .v (.int .i32 0), .v (.bool false), .v (.slice none 0 0), .v (.string ⟨#[]⟩), .v (.slice none 0 0)]]⟩] := ⟨_, rfl⟩
  have u3 : ∀ {j : Nat} {o : Option Ob}, T2[j]? = some o → T3[j]? = some o := fun h => by rw [hT3]; exact up_app h
  have b5 : T3[T2.length]? = some (some ⟨31, 6, [[.v (.int .i64 0), .v (.int .i32 0), .v (.bool false), .v (.slice none 0 0), .v (.string ⟨#[]⟩), .v (.slice none 0 0)]]⟩) := by rw [hT3]; simp
  have hl3 : T3.length = T2.length + 1 := by rw [hT3]; simp
  have hI3 : CoderIn p T3 c cN (.ms j0 c.consts.length) cG cP cT := by rw [hT3]; exact hI2.app _
  have hnq : ∀ n, (.ms j0 c.consts.length : C) ≠ .ms T2.length n := fun n e => by have := hI2.2.2.1.lt e; omega
  obtain ⟨T4, j, hA4, hj4, hl4, hfr4, hpl4, hop⟩ := append_op (P := Tryd.prog) (T := 29) (by_ := 88) elt_29 byt_29 zel_29 (by omega) hI3.2.2.1 b5 (by simp) hnq (by simp; omega) (by simp; omega)
  simp only [List.length_map, List.length_cons, List.length_nil, Nat.zero_add] at hA4 hop hpl4
  have hap : ∀ {i : Nat} {ob : Ob}, T3[i]? = some (some ob) → ob.ty ≠ 31 → ∀ n, (.ms j0 c.consts.length : C) ≠ .ms i n := fun hj ht => hI3.2.2.1.apart hj ht
  have d1 := hfr4 _ _ (u3 a1) (hap (u3 a1) (by show (64 : Nat) ≠ _; decide))
  have d2 := hfr4 _ _ (u3 a2) (hap (u3 a2) (by show (33 : Nat) ≠ _; decide))
  have d3 := hfr4 _ _ (u3 a3) (hap (u3 a3) (by show (55 : Nat) ≠ _; decide))
  have d4 := hfr4 _ _ (u3 a4) (hap (u3 a4) (by show (55 : Nat) ≠ _; decide))
  have hlj : j < T4.length := (List.getElem?_eq_some_iff.1 hj4).1
  have hjn : ∀ {i : Nat} {ob : Ob}, T4[i]? = some (some ob) → ob.ty ≠ 31 → j ≠ i := fun hi ht e => by subst e; rw [hj4] at hi; cases hi; exact ht rfl
  obtain ⟨Y, hY⟩ : ∃ Y : Option Ob, Y = some ⟨31, 6, c.consts.map D.cc ++ [[.v (.int .i64 d.k), .v (.int .i32 d.c), .v (.bool d.neg), .sl 1 (d.mag.map fun n => [.v (.int .u32 n)]), .v (.string d.t), .sl 6 (d.l.map D.cc)]]⟩ := ⟨_, rfl⟩
  have e1 : (T4.set j Y)[p]? = _ := (List.getElem?_set_ne (hjn d1 (by show (64 : Nat) ≠ _; decide))).trans d1
  have e2 : (T4.set j Y)[S.length]? = _ := (List.getElem?_set_ne (hjn d2 (by show (33 : Nat) ≠ _; decide))).trans d2
  have e3 : (T4.set j Y)[S.length + 1]? = _ := (List.getElem?_set_ne (hjn d3 (by show (55 : Nat) ≠ _; decide))).trans d3
  have e4 : (T4.set j Y)[S.length + 2]? = _ := (List.getElem?_set_ne (hjn d4 (by show (55 : Nat) ≠ _; decide))).trans d4
  have hjp : j ≠ p := hjn d1 (by show (64 : Nat) ≠ _; decide)
  obtain ⟨X, hX⟩ : ∃ X : Option Ob, X = some ⟨64, 5, [[cN, .ms j (c.consts.length + 1), cG, cP, cT]]⟩ := ⟨_, rfl⟩
  have hp4 : p < T4.length := by omega
  have x1 : (T4.set p X)[p]? = some X := List.getElem?_set_self hp4
  have x2 : (T4.set p X)[S.length]? = _ := (List.getElem?_set_ne (by omega)).trans d2
  have x4 : (T4.set p X)[j]? = _ := (List.getElem?_set_ne (Ne.symm hjp)).trans hj4
  have y1 : ((T4.set j Y).set p X)[p]? = some X := List.getElem?_set_self (by simpa using hp4)
  have y2 : ((T4.set j Y).set p X)[S.length]? = _ := (List.getElem?_set_ne (by omega)).trans e2
  have y3 : ((T4.set j Y).set p X)[S.length + 1]? = _ := (List.getElem?_set_ne (by omega)).trans e3
  have y4 : ((T4.set j Y).set p X)[S.length + 2]? = _ := (List.getElem?_set_ne (by omega)).trans e4
  have hcomm : (T4.set p X).set j Y = (T4.set j Y).set p X := List.set_comm _ _ (Ne.symm hjp)
  obtain ⟨c9, hc9⟩ : ∃ c9 : List (Option Ob), c9 = pts [(p, ⟨64, 5, [[.any, .any, .any, .any, .any]]⟩), (S.length, ⟨33, 11, [[.v (.int .i64 1), .v (.string name), .v (.string rest), .sl 1 (strC params), .v (.int .i64 d.k), .v (.int .i32 d.c), .v (.bool d.neg), .sl 1 (d.mag.map fun n => [.v (.int .u32 n)]), .v (.string d.t), .sl 6 (d.l.map D.cc), .sl 11 (l.map K.cc)]]⟩)] := ⟨_, rfl⟩
  have q1 : c9[p]? = some (some ⟨64, 5, [[.any, .any, .any, .any, .any]]⟩) := by rw [hc9]; exact pts_get (q := (p, _)) (by simp)
  have q2 : c9[S.length]? = some (some ⟨33, 11, [[.v (.int .i64 1), .v (.string name), .v (.string rest), .sl 1 (strC params), .v (.int .i64 d.k), .v (.int .i32 d.c), .v (.bool d.neg), .sl 1 (d.mag.map fun n => [.v (.int .u32 n)]), .v (.string d.t), .sl 6 (d.l.map D.cc), .sl 11 (l.map K.cc)]]⟩) := by rw [hc9]; exact pts_get (q := (S.length, _)) (by rw [List.find?_cons_of_neg (by simp; omega)]; simp)
  have any5 : ∀ (s : List (Option Ob)) (a b c d e : C), FzR s (fun _ => false) [[a, b, c, d, e]] [[.any, .any, .any, .any, .any]] := fun s a b c d e => ⟨⟨FzC.any, FzC.any, FzC.any, FzC.any, FzC.any, trivial⟩, trivial⟩
  have hle : ∀ s ∈ [T2, T2, T3, T4, T4, T4.set p X, T4.set p X, T4.set j Y, (T4.set j Y).set p X, T3], LeS c9 s := by
   rw [hc9]
   intro s hs
   refine LeS.pts ?_
   simp only [List.mem_cons, List.not_mem_nil, or_false, forall_eq_or_imp, forall_eq] at hs ⊢
   rcases hs with rfl | rfl | rfl | rfl | rfl | rfl | rfl | rfl | rfl | rfl
   ·exact ⟨⟨_, a1, rfl, rfl, any5 _ _ _ _ _ _⟩, ⟨_, a2, rfl, rfl, FzR.same _ _ _⟩⟩
   ·exact ⟨⟨_, a1, rfl, rfl, any5 _ _ _ _ _ _⟩, ⟨_, a2, rfl, rfl, FzR.same _ _ _⟩⟩
   ·exact ⟨⟨_, u3 a1, rfl, rfl, any5 _ _ _ _ _ _⟩, ⟨_, u3 a2, rfl, rfl, FzR.same _ _ _⟩⟩
   ·exact ⟨⟨_, d1, rfl, rfl, any5 _ _ _ _ _ _⟩, ⟨_, d2, rfl, rfl, FzR.same _ _ _⟩⟩
   ·exact ⟨⟨_, d1, rfl, rfl, any5 _ _ _ _ _ _⟩, ⟨_, d2, rfl, rfl, FzR.same _ _ _⟩⟩
   ·exact ⟨⟨_, x1.trans (congrArg some hX), rfl, rfl, any5 _ _ _ _ _ _⟩, ⟨_, x2, rfl, rfl, FzR.same _ _ _⟩⟩
   ·exact ⟨⟨_, x1.trans (congrArg some hX), rfl, rfl, any5 _ _ _ _ _ _⟩, ⟨_, x2, rfl, rfl, FzR.same _ _ _⟩⟩
   ·exact ⟨⟨_, e1, rfl, rfl, any5 _ _ _ _ _ _⟩, ⟨_, e2, rfl, rfl, FzR.same _ _ _⟩⟩
   ·exact ⟨⟨_, y1.trans (congrArg some hX), rfl, rfl, any5 _ _ _ _ _ _⟩, ⟨_, y2, rfl, rfl, FzR.same _ _ _⟩⟩
   ·exact ⟨⟨_, u3 a1, rfl, rfl, any5 _ _ _ _ _ _⟩, ⟨_, u3 a2, rfl, rfl, FzR.same _ _ _⟩⟩
  have hRA : At 31 6 (T4.set j Y) (.ms j (c.consts.length + 1)) ((c.consts ++ [d]).map D.cc) := .inr ⟨by simp, j, by simp, by rw [List.getElem?_set_self hlj, hY, List.map_append, List.map_cons, List.map_nil, D.cc_eq d]⟩
  have hRf : ∀ (i : Nat) (o : Option Ob), T2[i]? = some o → (∀ n, (.ms j0 c.consts.length : C) ≠ .ms i n) → (T4.set j Y)[i]? = some o := fun i o hi hn => by
   have : j ≠ i := fun e => by
    subst e
    rcases hpl4 with h | h
    ·exact hn _ h
    ·have := (List.getElem?_eq_some_iff.1 hi).1; omega
   rw [List.getElem?_set_ne this]
   exact hfr4 i o (u3 hi) hn
  have hR := hI2.newC hRA (by simp; omega) hRf
  have gL : ∀ x : List C, (c.consts.map D.cc ++ [x])[c.consts.length]? = some x := fun x => by simp 
  have sL : ∀ x y : List C, (c.consts.map D.cc ++ [x]).set c.consts.length y = c.consts.map D.cc ++ [y] := fun x y => by simp 
  have b1 := u3 a1
  subst hY hX hT3
  skip
  skip
  (refine WpA.draw2 21 [4, 13, 14, 15, 16, 20] c9 [[], [4], [4, 13], [4, 13, 14], [4, 13, 14, 15], [4, 13, 14, 20], [4, 13, 14, 15, 20], [4, 13, 14, 15, 16], [4, 13, 14, 15, 16, 20], [13]] [T2, T2, T2 ++ [some ⟨31, 6, [[.v (.int .i64 0), .v (.int .i32 0), .v (.bool false), .v (.slice none 0 0), .v (.string ⟨#[]⟩), .v (.slice none 0 0)]]⟩], T4, T4, T4.set p (some ⟨64, 5, [[cN, .ms j (c.consts.length + 1), cG, cP, cT]]⟩), T4.set p (some ⟨64, 5, [[cN, .ms j (c.consts.length + 1), cG, cP, cT]]⟩), T4.set j (some ⟨31, 6, c.consts.map D.cc ++ [[.v (.int .i64 d.k), .v (.int .i32 d.c), .v (.bool d.neg), .sl 1 (d.mag.map fun n => [.v (.int .u32 n)]), .v (.string d.t), .sl 6 (d.l.map D.cc)]]⟩), (T4.set j (some ⟨31, 6, c.consts.map D.cc ++ [[.v (.int .i64 d.k), .v (.int .i32 d.c), .v (.bool d.neg), .sl 1 (d.mag.map fun n => [.v (.int .u32 n)]), .v (.string d.t), .sl 6 (d.l.map D.cc)]]⟩)).set p (some ⟨64, 5, [[cN, .ms j (c.consts.length + 1), cG, cP, cT]]⟩), T2 ++ [some ⟨31, 6, [[.v (.int .i64 0), .v (.int .i32 0), .v (.bool false), .v (.slice none 0 0), .v (.string ⟨#[]⟩), .v (.slice none 0 0)]]⟩]] 8 _ _ _ _ rfl rfl rfl (by kernel_rfl) (by kernel_rfl) (by kernel_rfl) (by kernel_rfl) rfl rfl rfl (by decide) fun K8 hK8 => ?_)
  simp only [zz] at hK8 ⊢
  (refine Draw2.step (by rfl) (fun s9 h9 => OpS.less h9 rfl (by simp only [zb, seval, w47, q1]; rfl) (by first | (simp; done) | omega | (simp; omega))) ?_; simp only [putE]); (refine Draw2.step (by rfl) (fun s9 h9 => OpS.less h9 rfl (by simp only [zb, seval, w47, q1]; rfl) (by first | (simp; done) | omega | (simp; omega))) ?_; simp only [putE]); (refine Draw2.step (by rfl) (fun s9 h9 => OpS.less h9 rfl (by simp only [zb, seval, w47, q1]; rfl) (by first | (simp; done) | omega | (simp; omega))) ?_; simp only [putE]); (refine Draw2.step (by rfl) (fun s9 h9 => OpS.less h9 rfl (by simp only [zb, seval, w47, q1]; rfl) (by first | (simp; done) | omega | (simp; omega))) ?_; simp only [putE])
  refine Draw2.eff (x := .one (.ms j0 c.consts.length)) [(0, 1), (9, 2)] rfl rfl (by kernel_rfl) (fun t ht s s' h1 h2 => ?_) ?_
  ·simp only [List.mem_cons, List.not_mem_nil, or_false] at ht
   rcases ht with rfl | rfl <;> (cases h1; cases h2)
   ·exact OpS.eff [(24, _)] rfl (by rfl) ⟨rfl, trivial⟩ (by simp only [zb, seval, w47, a1]; rfl) (by first | exact trivial | (simp; done) | (simp; omega) | (simp ; done))
   ·exact OpS.eff [(24, _)] rfl (by rfl) ⟨rfl, trivial⟩ (by simp only [zb, seval, w47, b1]; rfl) (by first | exact trivial | (simp; done) | (simp; omega) | (simp ; done))
  simp only [putE]
  (refine Draw2.go fun K7 hK7 => ?_); simp only [zb, seval, w47, q1, q2]; (refine RunQ.mk (by first | (simp; done) | omega | (simp; omega)) (hK7 _ _ (by rfl) ?_)); clear hK7 K7; (simp only [zz, Nat.reduceAdd, Nat.reduceSub]); (try ((refine Draw2.nil (zip_le (hle)) (hK8 _ ?_)); clear hK8 K8; (refine WpL.go _ rfl fun Y y => ?_); repeat (first | (apply fw; (with_reducible constructor) <;> rfl) | (apply WpA.cd; constructor) | ((first | with_reducible refine WpA.go _ rfl fun Y y => ?_ | apply RunTo.id); simp only [zb, seval, w47, q1, q2]; refine RunTo.fn y (by first | (simp; done) | omega | (simp; omega)) ?_; clear y Y))))
  refine Draw2.step (by rfl) (fun s9 _ => OpS.shut rfl rfl rfl (by kernel_rfl) (ALes.cons (ALe.refl _) (ALes.cons (ALe.agg (CLes.cons (CLes.cons (CLes.cons (CLes.nil (CLes.cons (CLes.nil (CLes.refl _)))))))) (ALes.refl _))) (by first | rfl | (simp [shuts, A.shut, C.shut]; done)) hpr) ?_
  simp only [putE]
  (refine Draw2.go fun K7 hK7 => ?_); simp only [zb, seval, w47, q1, q2]; (refine RunQ.mk (by first | (simp; done) | omega | (simp; omega)) (hK7 _ _ (by rfl) ?_)); clear hK7 K7; (simp only [zz, Nat.reduceAdd, Nat.reduceSub]); (try ((refine Draw2.nil (zip_le (hle)) (hK8 _ ?_)); clear hK8 K8; (refine WpL.go _ rfl fun Y y => ?_); repeat (first | (apply fw; (with_reducible constructor) <;> rfl) | (apply WpA.cd; constructor) | ((first | with_reducible refine WpA.go _ rfl fun Y y => ?_ | apply RunTo.id); simp only [zb, seval, w47, q1, q2]; refine RunTo.fn y (by first | (simp; done) | omega | (simp; omega)) ?_; clear y Y))))
  refine Draw2.eff (x := .one (.ms T2.length 1)) [(0, 9), (1, 2)] rfl rfl (by kernel_rfl) (fun t ht s s' h1 h2 => ?_) ?_
  ·simp only [List.mem_cons, List.not_mem_nil, or_false] at ht
   rcases ht with rfl | rfl <;> (cases h1; cases h2)
   ·exact OpS.eff [] rfl (by rfl) trivial (by simp only [zb, seval, w47]; rfl) (by simp)
   ·exact OpS.eff [] rfl (by rfl) trivial (by simp only [zb, seval, w47]; rfl) (by simp)
  simp only [putE]
  refine Draw2.eff (x := .one (.ms j (c.consts.length + 1))) [(2, 3)] rfl rfl (by kernel_rfl) (fun t ht s s' h1 h2 => ?_) ?_
  ·simp only [List.mem_cons, List.not_mem_nil, or_false] at ht
   subst ht; cases h1; cases h2
   exact OpS.aop [(25, _), (34, _)] rfl (by rfl) ⟨rfl, rfl, trivial⟩ (hop _ _ _ rfl rfl)
  simp only [putE]
  refine Draw2.eff (x := .one (.ptr j (c.consts.length + 1) c.consts.length 0)) [(3, 4), (5, 6)] rfl rfl (by kernel_rfl) (fun t ht s s' h1 h2 => ?_) ?_
  ·simp only [List.mem_cons, List.not_mem_nil, or_false] at ht
   rcases ht with rfl | rfl <;> (cases h1; cases h2)
   ·exact OpS.eff [(35, _), (33, _)] rfl (by rfl) ⟨rfl, rfl, trivial⟩ (by simp only [zb, seval, w47, hj4, List.length_append]; rfl) (by first | exact trivial | (simp; done) | (simp; omega) | (simp ; done))
   ·exact OpS.eff [(35, _), (33, _)] rfl (by rfl) ⟨rfl, rfl, trivial⟩ (by simp only [zb, seval, w47, x4, List.length_append]; rfl) (by first | exact trivial | (simp; done) | (simp; omega) | (simp ; done))
  simp only [putE]
  refine Draw2.eff (x := .any) [(4, 7), (6, 8)] rfl rfl (by kernel_rfl) (fun t ht s s' h1 h2 => ?_) ?_
  ·simp only [List.mem_cons, List.not_mem_nil, or_false] at ht
   rcases ht with rfl | rfl <;> (cases h1; cases h2)
   ·exact OpS.eff [(36, _), (32, _)] rfl (by rfl) ⟨rfl, rfl, trivial⟩ (by simp only [zb, seval, w47, hj4, gL, sL, List.length_append]; rfl) (by first | exact trivial | (simp; done) | (simp; omega) | (simp ; done))
   ·rw [← hcomm]; exact OpS.eff [(36, _), (32, _)] rfl (by rfl) ⟨rfl, rfl, trivial⟩ (by simp only [zb, seval, w47, x4, gL, sL, List.length_append]; rfl) (by first | exact trivial | (simp; done) | (simp; omega) | (simp ; done))
  simp only [putE]
  (refine Draw2.go fun K7 hK7 => ?_); simp only [zb, seval, w47, q1, q2]; (refine RunQ.mk (by first | (simp; done) | omega | (simp; omega)) (hK7 _ _ (by rfl) ?_)); clear hK7 K7; (simp only [zz, Nat.reduceAdd, Nat.reduceSub]); (try ((refine Draw2.nil (zip_le (hle)) (hK8 _ ?_)); clear hK8 K8; (refine WpL.go _ rfl fun Y y => ?_); repeat (first | (apply fw; (with_reducible constructor) <;> rfl) | (apply WpA.cd; constructor) | ((first | with_reducible refine WpA.go _ rfl fun Y y => ?_ | apply RunTo.id); simp only [zb, seval, w47, q1, q2]; refine RunTo.fn y (by first | (simp; done) | omega | (simp; omega)) ?_; clear y Y))))
  refine Draw2.eff (x := .any) [(3, 5), (4, 6), (7, 8)] rfl rfl (by kernel_rfl) (fun t ht s s' h1 h2 => ?_) ?_
  ·simp only [List.mem_cons, List.not_mem_nil, or_false] at ht
   rcases ht with rfl | rfl | rfl <;> (cases h1; cases h2)
   ·exact OpS.eff [(39, _), (35, _)] rfl (by rfl) ⟨rfl, rfl, trivial⟩ (by simp only [zb, seval, w47, d1]; rfl) (by first | exact trivial | (simp; done) | (simp; omega) | (simp ; done))
   ·exact OpS.eff [(39, _), (35, _)] rfl (by rfl) ⟨rfl, rfl, trivial⟩ (by simp only [zb, seval, w47, d1]; rfl) (by first | exact trivial | (simp; done) | (simp; omega) | (simp ; done))
   ·exact OpS.eff [(39, _), (35, _)] rfl (by rfl) ⟨rfl, rfl, trivial⟩ (by simp only [zb, seval, w47, e1]; rfl) (by first | exact trivial | (simp; done) | (simp; omega) | (simp ; done))
  simp only [putE]
  refine Draw2.nil (zip_le hle) (hK8 _ ?_)
  clear hK8 K8
  repeat (first | (apply fw; (with_reducible constructor) <;> rfl) | (apply WpA.cd; constructor) | ((first | with_reducible refine WpA.go _ rfl fun Y y => ?_ | apply RunTo.id); simp only [zb, seval, w47, y3, y4]; refine RunTo.fn y (by first | (simp; done) | omega | (simp; omega)) ?_; clear y Y))
  obtain ⟨S9, hS9⟩ : ∃ S9, S9 = (T4.set j (some ⟨31, 6, c.consts.map D.cc ++ [[.v (.int .i64 d.k), .v (.int .i32 d.c), .v (.bool d.neg), .sl 1 (d.mag.map fun n => [.v (.int .u32 n)]), .v (.string d.t), .sl 6 (d.l.map D.cc)]]⟩)).set p (some ⟨64, 5, [[cN, .ms j (c.consts.length + 1), cG, cP, cT]]⟩) := ⟨_, rfl⟩
  rw [← hS9] at y1 y2 y3 y4 hR ⊢
  have hl9 : S.length + 1 < S9.length := (List.getElem?_eq_some_iff.1 y3).1
  refine ⟨.inl rfl, _, _, _, _, (by simp only [zb, seval, List.getElem?_set_self hl9, w47]; rfl), by simp, Le.refl _ _, ?_, ⟨.ms j (c.consts.length + 1), cG, cP, ?_⟩, ?_, fun j ob h1 h2 h3 => ?_⟩
  ·first | rfl | (simp [nodeA, hcn]; rfl) | simp [nodeA, hcn, tupA]
  ·have hn : ∀ j m, cN = .ms j m → j < S.length := fun j m e => hI.2.1.lt e
   exact hR.1.put2 hn (by omega) y3 rfl
  ·simp; omega
  ·have hj := (List.getElem?_eq_some_iff.1 h1).1
   rw [List.getElem?_set_ne (by omega)]
   exact hR.2.2 j ob (hF2 j ob h1) h2 (fun h => h3 (by simp at h; simp [h]))
 ·refine Fn.introT Tryd.func47 rfl Tryd.ntmps47 Tryd.results47 (by simp only [List.length_cons, List.length_nil]; decide) ?_
  repeat (first | (apply fw; (with_reducible constructor) <;> rfl) | (apply WpA.cd; constructor) | ((first | with_reducible refine WpA.go _ rfl fun Y y => ?_ | apply RunTo.id); simp only [zb, seval, w47, List.length_append, get_app0, get_app1, get_app2, set_app1, set_app2]; refine RunTo.fn y (by first | (simp; done) | omega | (simp; omega)) ?_; clear y Y))
  skip
  skip
  (refine WpA.draw1 10 [7, 9] (S ++ [some ⟨33, 11, [[.v (.int .i64 1), .v (.string name), .v (.string rest), .sl 1 (strC params), .v (.int .i64 d.k), .v (.int .i32 d.c), .v (.bool d.neg), .sl 1 (d.mag.map fun n => [.v (.int .u32 n)]), .v (.string d.t), .sl 6 (d.l.map D.cc), .sl 11 (l.map K.cc)]]⟩, none, some ⟨55, 4, [[.any, .any, .any, .any]]⟩]) [_, ?_, ?_] _ _ _ _ rfl rfl rfl (by kernel_rfl) (by kernel_rfl) (by kernel_rfl) (by kernel_rfl) rfl rfl rfl rfl (by decide) fun K8 hK8 => ?_); rotate_left 2; simp only [zz] at hK8 ⊢; (refine Draw1.go fun K7 hK7 => ?_); simp only [zb, seval, w47, get_app0, get_app2, hpp]; (refine RunQ.mk (by first | (simp; done) | omega | (simp; omega)) (hK7 _ _ (by rfl) ?_)); clear hK7 K7; (simp only [zz, Nat.reduceAdd, Nat.reduceSub]); (try ((refine Draw1.nil (by simp only [List.mem_cons, List.not_mem_nil, or_false, forall_eq_or_imp, forall_eq]; exact ⟨leS3 _ _ _ _ _ _ _ _, leS3 _ _ _ _ _ _ _ _, leS3 _ _ _ _ _ _ _ _⟩) (hK8 _ ?_)); clear hK8 K8; (refine WpL.go _ rfl fun Y y => ?_); repeat (first | (apply fw; (with_reducible constructor) <;> rfl) | (apply WpA.cd; constructor) | ((first | with_reducible refine WpA.go _ rfl fun Y y => ?_ | apply RunTo.id); simp only [zb, seval, w47, get_app0, get_app2, hpp]; refine RunTo.fn y (by first | (simp; done) | omega | (simp; omega)) ?_; clear y Y))))
  refine Draw1.eff 0 rfl rfl rfl (OpS.eff [(19, _)] rfl (by rfl) ⟨rfl, trivial⟩ (by simp only [zb, seval, w47, get_app0, get_app2, set_app2]; rfl) (by first | (simp; done) | omega | (simp; omega))) ?_; (try simp only [putE]); (try ((refine Draw1.go fun K7 hK7 => ?_); simp only [zb, seval, w47, get_app0, get_app2, set_app2]; (refine RunQ.mk (by first | (simp; done) | omega | (simp; omega)) (hK7 _ _ (by rfl) ?_)); clear hK7 K7; (simp only [zz, Nat.reduceAdd, Nat.reduceSub]); (try ((refine Draw1.nil (by simp only [List.mem_cons, List.not_mem_nil, or_false, forall_eq_or_imp, forall_eq]; exact ⟨leS3 _ _ _ _ _ _ _ _, leS3 _ _ _ _ _ _ _ _, leS3 _ _ _ _ _ _ _ _⟩) (hK8 _ ?_)); clear hK8 K8; (refine WpL.go _ rfl fun Y y => ?_); repeat (first | (apply fw; (with_reducible constructor) <;> rfl) | (apply WpA.cd; constructor) | ((first | with_reducible refine WpA.go _ rfl fun Y y => ?_ | apply RunTo.id); simp only [zb, seval, w47, get_app0, get_app2, set_app2]; refine RunTo.fn y (by first | (simp; done) | omega | (simp; omega)) ?_; clear y Y))))))
  refine Draw1.eff 1 rfl rfl rfl (OpS.eff [(20, _), (18, _)] rfl (by rfl) ⟨rfl, rfl, trivial⟩ (by simp only [zb, seval, w47, get_app0, get_app1, get_app2, set_app1, set_app2]; rfl) (by first | (simp; done) | omega | (simp; omega))) ?_; (try simp only [putE]); (try ((refine Draw1.go fun K7 hK7 => ?_); simp only [zb, seval, w47, get_app0, get_app1, get_app2, set_app1, set_app2]; (refine RunQ.mk (by first | (simp; done) | omega | (simp; omega)) (hK7 _ _ (by rfl) ?_)); clear hK7 K7; (simp only [zz, Nat.reduceAdd, Nat.reduceSub]); (try ((refine Draw1.nil (by simp only [List.mem_cons, List.not_mem_nil, or_false, forall_eq_or_imp, forall_eq]; exact ⟨leS3 _ _ _ _ _ _ _ _, leS3 _ _ _ _ _ _ _ _, leS3 _ _ _ _ _ _ _ _⟩) (hK8 _ ?_)); clear hK8 K8; (refine WpL.go _ rfl fun Y y => ?_); repeat (first | (apply fw; (with_reducible constructor) <;> rfl) | (apply WpA.cd; constructor) | ((first | with_reducible refine WpA.go _ rfl fun Y y => ?_ | apply RunTo.id); simp only [zb, seval, w47, get_app0, get_app1, get_app2, set_app1, set_app2]; refine RunTo.fn y (by first | (simp; done) | omega | (simp; omega)) ?_; clear y Y))))))
  obtain ⟨T2, hT2⟩ : ∃ T2 : List (Option Ob), T2 = S ++ [some ⟨33, 11, [[.v (.int .i64 1), .v (.string name), .v (.string rest), .sl 1 (strC params), .v (.int .i64 d.k), .v (.int .i32 d.c), .v (.bool d.neg), .sl 1 (d.mag.map fun n => [.v (.int .u32 n)]), .v (.string d.t), .sl 6 (d.l.map D.cc), .sl 11 (l.map K.cc)]]⟩, some ⟨55, 4, [[.v (.int .i64 0), .v (.int .i64 0), .v (.int .i64 0), .v (.slice none 0 0)]]⟩, some ⟨55, 4, [[.v (.int .i64 1), .v (.int .i64 (0)), .v (.int .i64 0), .v (.slice none 0 0)]]⟩] := ⟨_, rfl⟩
  have hI2 : CoderIn p T2 c cN (.v (.slice none 0 0)) cG cP cT := by rw [hT2]; exact hI.app _
  have hl2 : T2.length = S.length + 3 := by rw [hT2]; simp
  have a2 : T2[S.length]? = some (some ⟨33, 11, [[.v (.int .i64 1), .v (.string name), .v (.string rest), .sl 1 (strC params), .v (.int .i64 d.k), .v (.int .i32 d.c), .v (.bool d.neg), .sl 1 (d.mag.map fun n => [.v (.int .u32 n)]), .v (.string d.t), .sl 6 (d.l.map D.cc), .sl 11 (l.map K.cc)]]⟩) := by rw [hT2]; exact get_app0 _ _ _
  have a3 : T2[S.length + 1]? = some (some ⟨55, 4, [[.v (.int .i64 0), .v (.int .i64 0), .v (.int .i64 0), .v (.slice none 0 0)]]⟩) := by rw [hT2]; exact get_app1 _ _ _ _
  have a4 : T2[S.length + 2]? = some (some ⟨55, 4, [[.v (.int .i64 1), .v (.int .i64 (0)), .v (.int .i64 0), .v (.slice none 0 0)]]⟩) := by rw [hT2]; exact get_app2 _ _ _ _ _
  have hF2 : ∀ (j : Nat) (ob : Ob), S[j]? = some (some ob) → T2[j]? = some (some ob) := fun j ob h => by rw [hT2]; exact up_app h
  rw [← hT2]
  have a1 := hI2.1
  obtain ⟨T3, hT3⟩ : ∃ T3 : List (Option Ob), T3 = T2 ++ [some ⟨31, 6, [[.v (.int .i64 0), .v (.int .i32 0), .v (.bool false), .v (.slice none 0 0), .v (.string ⟨#[]⟩), .v (.slice none 0 0)]]⟩] := ⟨_, rfl⟩
  have u3 : ∀ {j : Nat} {o : Option Ob}, T2[j]? = some o → T3[j]? = some o := fun h => by rw [hT3]; exact up_app h
  have b5 : T3[T2.length]? = some (some ⟨31, 6, [[.v (.int .i64 0), .v (.int .i32 0), .v (.bool false), .v (.slice none 0 0), .v (.string ⟨#[]⟩), .v (.slice none 0 0)]]⟩) := by rw [hT3]; simp
  have hl3 : T3.length = T2.length + 1 := by rw [hT3]; simp
  have hI3 : CoderIn p T3 c cN (.v (.slice none 0 0)) cG cP cT := by rw [hT3]; exact hI2.app _
  have hnq : ∀ n, (.v (.slice none 0 0) : C) ≠ .ms T2.length n := fun n e => by have := hI2.2.2.1.lt e; omega
  obtain ⟨T4, j, hA4, hj4, hl4, hfr4, hpl4, hop⟩ := append_op (P := Tryd.prog) (T := 29) (by_ := 88) elt_29 byt_29 zel_29 (by omega) hI3.2.2.1 b5 (by simp) hnq (by simp; omega) (by simp; omega)
  simp only [List.length_map, List.length_cons, List.length_nil, Nat.zero_add] at hA4 hop hpl4
  have hap : ∀ {i : Nat} {ob : Ob}, T3[i]? = some (some ob) → ob.ty ≠ 31 → ∀ n, (.v (.slice none 0 0) : C) ≠ .ms i n := fun hj ht => hI3.2.2.1.apart hj ht
  have d1 := hfr4 _ _ (u3 a1) (hap (u3 a1) (by show (64 : Nat) ≠ _; decide))
  have d2 := hfr4 _ _ (u3 a2) (hap (u3 a2) (by show (33 : Nat) ≠ _; decide))
  have d3 := hfr4 _ _ (u3 a3) (hap (u3 a3) (by show (55 : Nat) ≠ _; decide))
  have d4 := hfr4 _ _ (u3 a4) (hap (u3 a4) (by show (55 : Nat) ≠ _; decide))
  have hlj : j < T4.length := (List.getElem?_eq_some_iff.1 hj4).1
  have hjn : ∀ {i : Nat} {ob : Ob}, T4[i]? = some (some ob) → ob.ty ≠ 31 → j ≠ i := fun hi ht e => by subst e; rw [hj4] at hi; cases hi; exact ht rfl
  obtain ⟨Y, hY⟩ : ∃ Y : Option Ob, Y = some ⟨31, 6, c.consts.map D.cc ++ [[.v (.int .i64 d.k), .v (.int .i32 d.c), .v (.bool d.neg), .sl 1 (d.mag.map fun n => [.v (.int .u32 n)]), .v (.string d.t), .sl 6 (d.l.map D.cc)]]⟩ := ⟨_, rfl⟩
  have e1 : (T4.set j Y)[p]? = _ := (List.getElem?_set_ne (hjn d1 (by show (64 : Nat) ≠ _; decide))).trans d1
  have e2 : (T4.set j Y)[S.length]? = _ := (List.getElem?_set_ne (hjn d2 (by show (33 : Nat) ≠ _; decide))).trans d2
  have e3 : (T4.set j Y)[S.length + 1]? = _ := (List.getElem?_set_ne (hjn d3 (by show (55 : Nat) ≠ _; decide))).trans d3
  have e4 : (T4.set j Y)[S.length + 2]? = _ := (List.getElem?_set_ne (hjn d4 (by show (55 : Nat) ≠ _; decide))).trans d4
  have hjp : j ≠ p := hjn d1 (by show (64 : Nat) ≠ _; decide)
  obtain ⟨X, hX⟩ : ∃ X : Option Ob, X = some ⟨64, 5, [[cN, .ms j (c.consts.length + 1), cG, cP, cT]]⟩ := ⟨_, rfl⟩
  have hp4 : p < T4.length := by omega
  have x1 : (T4.set p X)[p]? = some X := List.getElem?_set_self hp4
  have x2 : (T4.set p X)[S.length]? = _ := (List.getElem?_set_ne (by omega)).trans d2
  have x4 : (T4.set p X)[j]? = _ := (List.getElem?_set_ne (Ne.symm hjp)).trans hj4
  have y1 : ((T4.set j Y).set p X)[p]? = some X := List.getElem?_set_self (by simpa using hp4)
  have y2 : ((T4.set j Y).set p X)[S.length]? = _ := (List.getElem?_set_ne (by omega)).trans e2
  have y3 : ((T4.set j Y).set p X)[S.length + 1]? = _ := (List.getElem?_set_ne (by omega)).trans e3
  have y4 : ((T4.set j Y).set p X)[S.length + 2]? = _ := (List.getElem?_set_ne (by omega)).trans e4
  have hcomm : (T4.set p X).set j Y = (T4.set j Y).set p X := List.set_comm _ _ (Ne.symm hjp)
  obtain ⟨c9, hc9⟩ : ∃ c9 : List (Option Ob), c9 = pts [(p, ⟨64, 5, [[.any, .any, .any, .any, .any]]⟩), (S.length, ⟨33, 11, [[.v (.int .i64 1), .v (.string name), .v (.string rest), .sl 1 (strC params), .v (.int .i64 d.k), .v (.int .i32 d.c), .v (.bool d.neg), .sl 1 (d.mag.map fun n => [.v (.int .u32 n)]), .v (.string d.t), .sl 6 (d.l.map D.cc), .sl 11 (l.map K.cc)]]⟩)] := ⟨_, rfl⟩
  have q1 : c9[p]? = some (some ⟨64, 5, [[.any, .any, .any, .any, .any]]⟩) := by rw [hc9]; exact pts_get (q := (p, _)) (by simp)
  have q2 : c9[S.length]? = some (some ⟨33, 11, [[.v (.int .i64 1), .v (.string name), .v (.string rest), .sl 1 (strC params), .v (.int .i64 d.k), .v (.int .i32 d.c), .v (.bool d.neg), .sl 1 (d.mag.map fun n => [.v (.int .u32 n)]), .v (.string d.t), .sl 6 (d.l.map D.cc), .sl 11 (l.map K.cc)]]⟩) := by rw [hc9]; exact pts_get (q := (S.length, _)) (by rw [List.find?_cons_of_neg (by simp; omega)]; simp)
  have any5 : ∀ (s : List (Option Ob)) (a b c d e : C), FzR s (fun _ => false) [[a, b, c, d, e]] [[.any, .any, .any, .any, .any]] := fun s a b c d e => ⟨⟨FzC.any, FzC.any, FzC.any, FzC.any, FzC.any, trivial⟩, trivial⟩
  have hle : ∀ s ∈ [T2, T2, T3, T4, T4, T4.set p X, T4.set p X, T4.set j Y, (T4.set j Y).set p X, T3], LeS c9 s := by
   rw [hc9]
   intro s hs
   refine LeS.pts ?_
   simp only [List.mem_cons, List.not_mem_nil, or_false, forall_eq_or_imp, forall_eq] at hs ⊢
   rcases hs with rfl | rfl | rfl | rfl | rfl | rfl | rfl | rfl | rfl | rfl
   ·exact ⟨⟨_, a1, rfl, rfl, any5 _ _ _ _ _ _⟩, ⟨_, a2, rfl, rfl, FzR.same _ _ _⟩⟩
   ·exact ⟨⟨_, a1, rfl, rfl, any5 _ _ _ _ _ _⟩, ⟨_, a2, rfl, rfl, FzR.same _ _ _⟩⟩
   ·exact ⟨⟨_, u3 a1, rfl, rfl, any5 _ _ _ _ _ _⟩, ⟨_, u3 a2, rfl, rfl, FzR.same _ _ _⟩⟩
   ·exact ⟨⟨_, d1, rfl, rfl, any5 _ _ _ _ _ _⟩, ⟨_, d2, rfl, rfl, FzR.same _ _ _⟩⟩
   ·exact ⟨⟨_, d1, rfl, rfl, any5 _ _ _ _ _ _⟩, ⟨_, d2, rfl, rfl, FzR.same _ _ _⟩⟩
   ·exact ⟨⟨_, x1.trans (congrArg some hX), rfl, rfl, any5 _ _ _ _ _ _⟩, ⟨_, x2, rfl, rfl, FzR.same _ _ _⟩⟩
   ·exact ⟨⟨_, x1.trans (congrArg some hX), rfl, rfl, any5 _ _ _ _ _ _⟩, ⟨_, x2, rfl, rfl, FzR.same _ _ _⟩⟩
   ·exact ⟨⟨_, e1, rfl, rfl, any5 _ _ _ _ _ _⟩, ⟨_, e2, rfl, rfl, FzR.same _ _ _⟩⟩
   ·exact ⟨⟨_, y1.trans (congrArg some hX), rfl, rfl, any5 _ _ _ _ _ _⟩, ⟨_, y2, rfl, rfl, FzR.same _ _ _⟩⟩
   ·exact ⟨⟨_, u3 a1, rfl, rfl, any5 _ _ _ _ _ _⟩, ⟨_, u3 a2, rfl, rfl, FzR.same _ _ _⟩⟩
  have hRA : At 31 6 (T4.set j Y) (.ms j (c.consts.length + 1)) ((c.consts ++ [d]).map D.cc) := .inr ⟨by simp, j, by simp, by rw [List.getElem?_set_self hlj, hY, List.map_append, List.map_cons, List.map_nil, D.cc_eq d]⟩
  have hRf : ∀ (i : Nat) (o : Option Ob), T2[i]? = some o → (∀ n, (.v (.slice none 0 0) : C) ≠ .ms i n) → (T4.set j Y)[i]? = some o := fun i o hi hn => by
   have : j ≠ i := fun e => by
    subst e
    rcases hpl4 with h | h
    ·exact hn _ h
    ·have := (List.getElem?_eq_some_iff.1 hi).1; omega
   rw [List.getElem?_set_ne this]
   exact hfr4 i o (u3 hi) hn
  have hR := hI2.newC hRA (by simp; omega) hRf
  have gL : ∀ x : List C, (c.consts.map D.cc ++ [x])[0]? = some x := fun x => by simp [hcn0]
  have sL : ∀ x y : List C, (c.consts.map D.cc ++ [x]).set 0 y = c.consts.map D.cc ++ [y] := fun x y => by simp [hcn0]
  have b1 := u3 a1
  subst hY hX hT3
  skip
  skip
  (refine WpA.draw2 21 [4, 13, 14, 15, 16, 20] c9 [[], [4], [4, 13], [4, 13, 14], [4, 13, 14, 15], [4, 13, 14, 20], [4, 13, 14, 15, 20], [4, 13, 14, 15, 16], [4, 13, 14, 15, 16, 20], [13]] [T2, T2, T2 ++ [some ⟨31, 6, [[.v (.int .i64 0), .v (.int .i32 0), .v (.bool false), .v (.slice none 0 0), .v (.string ⟨#[]⟩), .v (.slice none 0 0)]]⟩], T4, T4, T4.set p (some ⟨64, 5, [[cN, .ms j (c.consts.length + 1), cG, cP, cT]]⟩), T4.set p (some ⟨64, 5, [[cN, .ms j (c.consts.length + 1), cG, cP, cT]]⟩), T4.set j (some ⟨31, 6, c.consts.map D.cc ++ [[.v (.int .i64 d.k), .v (.int .i32 d.c), .v (.bool d.neg), .sl 1 (d.mag.map fun n => [.v (.int .u32 n)]), .v (.string d.t), .sl 6 (d.l.map D.cc)]]⟩), (T4.set j (some ⟨31, 6, c.consts.map D.cc ++ [[.v (.int .i64 d.k), .v (.int .i32 d.c), .v (.bool d.neg), .sl 1 (d.mag.map fun n => [.v (.int .u32 n)]), .v (.string d.t), .sl 6 (d.l.map D.cc)]]⟩)).set p (some ⟨64, 5, [[cN, .ms j (c.consts.length + 1), cG, cP, cT]]⟩), T2 ++ [some ⟨31, 6, [[.v (.int .i64 0), .v (.int .i32 0), .v (.bool false), .v (.slice none 0 0), .v (.string ⟨#[]⟩), .v (.slice none 0 0)]]⟩]] 8 _ _ _ _ rfl rfl rfl (by kernel_rfl) (by kernel_rfl) (by kernel_rfl) (by kernel_rfl) rfl rfl rfl (by decide) fun K8 hK8 => ?_)
  simp only [zz] at hK8 ⊢
  (refine Draw2.step (by rfl) (fun s9 h9 => OpS.less h9 rfl (by simp only [zb, seval, w47, q1]; rfl) (by first | (simp; done) | omega | (simp; omega))) ?_; simp only [putE]); (refine Draw2.step (by rfl) (fun s9 h9 => OpS.less h9 rfl (by simp only [zb, seval, w47, q1]; rfl) (by first | (simp; done) | omega | (simp; omega))) ?_; simp only [putE]); (refine Draw2.step (by rfl) (fun s9 h9 => OpS.less h9 rfl (by simp only [zb, seval, w47, q1]; rfl) (by first | (simp; done) | omega | (simp; omega))) ?_; simp only [putE]); (refine Draw2.step (by rfl) (fun s9 h9 => OpS.less h9 rfl (by simp only [zb, seval, w47, q1]; rfl) (by first | (simp; done) | omega | (simp; omega))) ?_; simp only [putE])
  refine Draw2.eff (x := .one (.v (.slice none 0 0))) [(0, 1), (9, 2)] rfl rfl (by kernel_rfl) (fun t ht s s' h1 h2 => ?_) ?_
  ·simp only [List.mem_cons, List.not_mem_nil, or_false] at ht
   rcases ht with rfl | rfl <;> (cases h1; cases h2)
   ·exact OpS.eff [(24, _)] rfl (by rfl) ⟨rfl, trivial⟩ (by simp only [zb, seval, w47, a1]; rfl) (by first | exact trivial | (simp; done) | (simp; omega) | (simp [hcn0]; done))
   ·exact OpS.eff [(24, _)] rfl (by rfl) ⟨rfl, trivial⟩ (by simp only [zb, seval, w47, b1]; rfl) (by first | exact trivial | (simp; done) | (simp; omega) | (simp [hcn0]; done))
  simp only [putE]
  (refine Draw2.go fun K7 hK7 => ?_); simp only [zb, seval, w47, q1, q2]; (refine RunQ.mk (by first | (simp; done) | omega | (simp; omega)) (hK7 _ _ (by rfl) ?_)); clear hK7 K7; (simp only [zz, Nat.reduceAdd, Nat.reduceSub]); (try ((refine Draw2.nil (zip_le (hle)) (hK8 _ ?_)); clear hK8 K8; (refine WpL.go _ rfl fun Y y => ?_); repeat (first | (apply fw; (with_reducible constructor) <;> rfl) | (apply WpA.cd; constructor) | ((first | with_reducible refine WpA.go _ rfl fun Y y => ?_ | apply RunTo.id); simp only [zb, seval, w47, q1, q2]; refine RunTo.fn y (by first | (simp; done) | omega | (simp; omega)) ?_; clear y Y))))
  refine Draw2.step (by rfl) (fun s9 _ => OpS.shut rfl rfl rfl (by kernel_rfl) (ALes.cons (ALe.refl _) (ALes.cons (ALe.agg (CLes.cons (CLes.cons (CLes.cons (CLes.nil (CLes.cons (CLes.nil (CLes.refl _)))))))) (ALes.refl _))) (by first | rfl | (simp [shuts, A.shut, C.shut]; done)) hpr) ?_
  simp only [putE]
  (refine Draw2.go fun K7 hK7 => ?_); simp only [zb, seval, w47, q1, q2]; (refine RunQ.mk (by first | (simp; done) | omega | (simp; omega)) (hK7 _ _ (by rfl) ?_)); clear hK7 K7; (simp only [zz, Nat.reduceAdd, Nat.reduceSub]); (try ((refine Draw2.nil (zip_le (hle)) (hK8 _ ?_)); clear hK8 K8; (refine WpL.go _ rfl fun Y y => ?_); repeat (first | (apply fw; (with_reducible constructor) <;> rfl) | (apply WpA.cd; constructor) | ((first | with_reducible refine WpA.go _ rfl fun Y y => ?_ | apply RunTo.id); simp only [zb, seval, w47, q1, q2]; refine RunTo.fn y (by first | (simp; done) | omega | (simp; omega)) ?_; clear y Y))))
  refine Draw2.eff (x := .one (.ms T2.length 1)) [(0, 9), (1, 2)] rfl rfl (by kernel_rfl) (fun t ht s s' h1 h2 => ?_) ?_
  ·simp only [List.mem_cons, List.not_mem_nil, or_false] at ht
   rcases ht with rfl | rfl <;> (cases h1; cases h2)
   ·exact OpS.eff [] rfl (by rfl) trivial (by simp only [zb, seval, w47]; rfl) (by simp)
   ·exact OpS.eff [] rfl (by rfl) trivial (by simp only [zb, seval, w47]; rfl) (by simp)
  simp only [putE]
  refine Draw2.eff (x := .one (.ms j (c.consts.length + 1))) [(2, 3)] rfl rfl (by kernel_rfl) (fun t ht s s' h1 h2 => ?_) ?_
  ·simp only [List.mem_cons, List.not_mem_nil, or_false] at ht
   subst ht; cases h1; cases h2
   exact OpS.aop [(25, _), (34, _)] rfl (by rfl) ⟨rfl, rfl, trivial⟩ (hop _ _ _ rfl rfl)
  simp only [putE]
  refine Draw2.eff (x := .one (.ptr j (c.consts.length + 1) 0 0)) [(3, 4), (5, 6)] rfl rfl (by kernel_rfl) (fun t ht s s' h1 h2 => ?_) ?_
  ·simp only [List.mem_cons, List.not_mem_nil, or_false] at ht
   rcases ht with rfl | rfl <;> (cases h1; cases h2)
   ·exact OpS.eff [(35, _), (33, _)] rfl (by rfl) ⟨rfl, rfl, trivial⟩ (by simp only [zb, seval, w47, hj4, List.length_append]; rfl) (by first | exact trivial | (simp; done) | (simp; omega) | (simp [hcn0]; done))
   ·exact OpS.eff [(35, _), (33, _)] rfl (by rfl) ⟨rfl, rfl, trivial⟩ (by simp only [zb, seval, w47, x4, List.length_append]; rfl) (by first | exact trivial | (simp; done) | (simp; omega) | (simp [hcn0]; done))
  simp only [putE]
  refine Draw2.eff (x := .any) [(4, 7), (6, 8)] rfl rfl (by kernel_rfl) (fun t ht s s' h1 h2 => ?_) ?_
  ·simp only [List.mem_cons, List.not_mem_nil, or_false] at ht
   rcases ht with rfl | rfl <;> (cases h1; cases h2)
   ·exact OpS.eff [(36, _), (32, _)] rfl (by rfl) ⟨rfl, rfl, trivial⟩ (by simp only [zb, seval, w47, hj4, gL, sL, List.length_append]; rfl) (by first | exact trivial | (simp; done) | (simp; omega) | (simp [hcn0]; done))
   ·rw [← hcomm]; exact OpS.eff [(36, _), (32, _)] rfl (by rfl) ⟨rfl, rfl, trivial⟩ (by simp only [zb, seval, w47, x4, gL, sL, List.length_append]; rfl) (by first | exact trivial | (simp; done) | (simp; omega) | (simp [hcn0]; done))
  simp only [putE]
  (refine Draw2.go fun K7 hK7 => ?_); simp only [zb, seval, w47, q1, q2]; (refine RunQ.mk (by first | (simp; done) | omega | (simp; omega)) (hK7 _ _ (by rfl) ?_)); clear hK7 K7; (simp only [zz, Nat.reduceAdd, Nat.reduceSub]); (try ((refine Draw2.nil (zip_le (hle)) (hK8 _ ?_)); clear hK8 K8; (refine WpL.go _ rfl fun Y y => ?_); repeat (first | (apply fw; (with_reducible constructor) <;> rfl) | (apply WpA.cd; constructor) | ((first | with_reducible refine WpA.go _ rfl fun Y y => ?_ | apply RunTo.id); simp only [zb, seval, w47, q1, q2]; refine RunTo.fn y (by first | (simp; done) | omega | (simp; omega)) ?_; clear y Y))))
  refine Draw2.eff (x := .any) [(3, 5), (4, 6), (7, 8)] rfl rfl (by kernel_rfl) (fun t ht s s' h1 h2 => ?_) ?_
  ·simp only [List.mem_cons, List.not_mem_nil, or_false] at ht
   rcases ht with rfl | rfl | rfl <;> (cases h1; cases h2)
   ·exact OpS.eff [(39, _), (35, _)] rfl (by rfl) ⟨rfl, rfl, trivial⟩ (by simp only [zb, seval, w47, d1]; rfl) (by first | exact trivial | (simp; done) | (simp; omega) | (simp [hcn0]; done))
   ·exact OpS.eff [(39, _), (35, _)] rfl (by rfl) ⟨rfl, rfl, trivial⟩ (by simp only [zb, seval, w47, d1]; rfl) (by first | exact trivial | (simp; done) | (simp; omega) | (simp [hcn0]; done))
   ·exact OpS.eff [(39, _), (35, _)] rfl (by rfl) ⟨rfl, rfl, trivial⟩ (by simp only [zb, seval, w47, e1]; rfl) (by first | exact trivial | (simp; done) | (simp; omega) | (simp [hcn0]; done))
  simp only [putE]
  refine Draw2.nil (zip_le hle) (hK8 _ ?_)
  clear hK8 K8
  repeat (first | (apply fw; (with_reducible constructor) <;> rfl) | (apply WpA.cd; constructor) | ((first | with_reducible refine WpA.go _ rfl fun Y y => ?_ | apply RunTo.id); simp only [zb, seval, w47, y3, y4]; refine RunTo.fn y (by first | (simp; done) | omega | (simp; omega)) ?_; clear y Y))
  obtain ⟨S9, hS9⟩ : ∃ S9, S9 = (T4.set j (some ⟨31, 6, c.consts.map D.cc ++ [[.v (.int .i64 d.k), .v (.int .i32 d.c), .v (.bool d.neg), .sl 1 (d.mag.map fun n => [.v (.int .u32 n)]), .v (.string d.t), .sl 6 (d.l.map D.cc)]]⟩)).set p (some ⟨64, 5, [[cN, .ms j (c.consts.length + 1), cG, cP, cT]]⟩) := ⟨_, rfl⟩
  rw [← hS9] at y1 y2 y3 y4 hR ⊢
  have hl9 : S.length + 1 < S9.length := (List.getElem?_eq_some_iff.1 y3).1
  refine ⟨.inl rfl, _, _, _, _, (by simp only [zb, seval, List.getElem?_set_self hl9, w47]; rfl), by simp, Le.refl _ _, ?_, ⟨.ms j (c.consts.length + 1), cG, cP, ?_⟩, ?_, fun j ob h1 h2 h3 => ?_⟩
  ·first | rfl | (simp [nodeA, hcn]; rfl) | simp [nodeA, hcn, tupA]
  ·have hn : ∀ j m, cN = .ms j m → j < S.length := fun j m e => hI.2.1.lt e
   exact hR.1.put2 hn (by omega) y3 rfl
  ·simp; omega
  ·have hj := (List.getElem?_eq_some_iff.1 h1).1
   rw [List.getElem?_set_ne (by omega)]
   exact hR.2.2 j ob (hF2 j ob h1) h2 (fun h => h3 (by simp at h; simp [h]))
end
end Go.Proofs.YtpacdmgnpadleaaDoor
end
