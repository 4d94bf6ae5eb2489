/-
  Laid together: ParseG27, ParseH27, ParseI27, Step27, Run27, Back27, BackB27, BackC27, BackD27.
-/
import Derived.Test.YtdcmihhcpgkgiaaDoorL6
import Derived.Test.YtdcmihhcpgkgiaaDoorG4
import Derived.Test.YtdcmihhcpgkgiaaDoorL5

section
namespace Go.Proofs.YtdcmihhcpgkgiaaDoor
open Go Go.RowKit Go.Lib
set_option linter.unusedSimpArgs false
set_option linter.unusedVariables false
set_option maxHeartbeats 4000000
set_option maxRecDepth 100000
def rowT (fs : List Co) : List (Option Ob) := if fs = [] then [] else [some ⟨48, 3, fC fs⟩]
def fcT (fs : List Co) (i : Nat) : C := if fs = [] then nilS else .ms i fs.length
/-- What is known of a job so far, and of what stood. -/
structure PT where
  inp : ByteArray
  lim : Int
  fu : Int
  fs : List Co
  n : Nat
  D : DataW Unit
def PT.job (σ : PT) : Option Ob := jobO noB σ.inp σ.lim σ.fu (fcT σ.fs 6)
/-- What stands behind the reading of a line. -/
def aft (σ σ' : PT) (o0 o1 o2 o4 o5 o6 : Ob) : List (Option Ob) := if σ.fs = [] ∧ σ'.fs ≠ [] then some o0 :: some o1 :: some o2 :: jobO noB σ'.inp σ'.lim σ'.fu (.ms 7 σ'.fs.length) :: some o4 :: some o5 :: some o6 :: rowT σ'.fs else some o0 :: some o1 :: some o2 :: σ'.job :: some o4 :: some o5 :: (rowT σ'.fs ++ [some o6])
def ReadsG (line : ByteArray) (σ σ' : PT) (e : Int) : Prop := (σ.fs ≠ [] → σ'.fs ≠ []) ∧ ∀ (b : Nat) (o : Obj) (o0 o1 o2 o4 o5 o6 : Ob), MFit Tryd.prog 9 3 o σ.n σ.D → FnM Tryd.prog 33 [.one (.ptr 3 1 0 0), .one (.v (.string line)), .one (.v (.map (some b)))] (some o0 :: some o1 :: some o2 :: σ.job :: some o4 :: some o5 :: (rowT σ.fs ++ [some o6])) b o
  (fun r s' o' => r = .one (.v (.int .i64 e)) ∧ s' = aft σ σ' o0 o1 o2 o4 o5 o6 ∧ ∃ es c', o' = .map es c' ∧ MFit Tryd.prog 9 3 (.map es c') σ'.n σ'.D)
def boxO (t : ByteArray) : Ob := ⟨9, 1, [[.v (.string t)]]⟩
/-- One round of the loop over the lines. -/
def RoundG (ac bd : Code) : Prop := ∀ (n0 l D : Nat) (fn : FuncId) (tm : Array Value) (b : Nat) (es : Array MapEntry) (c : Nat) (t : ByteArray) (i : Nat) (ln rest : ByteArray) (σ : PT), MFit Tryd.prog 9 3 (.map es c) σ.n σ.D → ∀ (Qf : Exit → List (Option Ob) → Obj → Prop),
  (((ln.toList == progS.toList) = true ∧ ∀ a6, Qf (.exit 0) (some zeroJ :: some (intO 0) :: some (errO 0) :: jobO rest σ.inp σ.lim σ.fu (fcT σ.fs 6) :: some (stoodO b) :: some (boxO t) :: (rowT σ.fs ++ [some a6])) (.map es c)) ∨
   ((ln.toList == progS.toList) = false ∧ ∃ (σ' : PT) (e : Int), ReadsG ln σ σ' e ∧ ∀ es' c' a6, MFit Tryd.prog 9 3 (.map es' c') σ'.n σ'.D → (((e == 0) = true → Qf .normal (aft σ σ' zeroJ (intO 0) (errO 0) (stoodO b) (boxO t) a6) (.map es' c')) ∧ ((e == 0) = false → Qf .ret (aft σ σ' zeroJ (intO i) (errO e) (stoodO b) (boxO t) a6) (.map es' c'))))) →
  WpX Tryd.prog (some l) (fun _ => True) ⟨35, n0⟩ ac (fun e st1 g1 => e = .normal ∧ ∃ o1, isMapB o1 = true ∧ g1 = ⟨[], K3 b o1 l (recL .ready none fn tm [17, 18] ac bd D) D⟩ ∧
      WpX Tryd.prog (some l) (fun _ => True) ⟨35, n0⟩ bd (fun e st' g' => ∃ o', isMapB o' = true ∧ g' = ⟨[], K3 b o' l (recL .busy none fn tm [17, 18] ac bd D) D⟩ ∧ Qf e st'.s o') st1 ⟨[], K3 b o1 l (recL .busy none fn tm [17, 18] ac bd D) D⟩)
    ⟨bindA EO [17, 18] [.one (.v (.int .i64 i)), .agg [.v (.string ln), .v (.string rest)]], some zeroJ :: some (intO 0) :: some (errO 0) :: σ.job :: some (stoodO b) :: some (boxO t) :: rowT σ.fs⟩ ⟨[], K3 b (.map es c) l (recL .ready none fn tm [17, 18] ac bd D) D⟩
theorem roundG_ok (ac bd : Code) (h : ∀ c, Tryd.f20.body = some c → rangeParts c = some (ac, bd)) : RoundG ac bd := by
  have h := h _ rfl
  simp only [rangeParts] at h
  injection h with h
  injection h with h1 h2
  subst h1 h2
  intro n0 l D fn tm b es c t i ln rest σ hf Qf hcase



  by_cases h1 : σ.fs = []
  · have hrow : rowT σ.fs = [] := if_pos h1
    have hfc : fcT σ.fs 6 = nilS := if_pos h1
    simp only [PT.job, hrow, hfc, List.nil_append] at hcase ⊢
    refine WpX.seq (WpX.region ?_)
    simp only [bindA, EO]
    (refine WpXL.go _ rfl rfl fun Y y => ?_); simp only [zb, seval, w20, txtA]; (refine RunTo.fx y (by first | exact trivial | omega | (simp; done) | (simp; omega)) ?_); clear y Y
    refine WpXL.nil ?_
    change WpX _ _ _ _ _ _ _ _
    refine WpX.region ?_
    (refine WpXL.go _ rfl rfl fun Y y => ?_); simp only [zb, seval, w20, txtA]; (refine RunTo.fx y (by first | exact trivial | omega | (simp; done) | (simp; omega)) ?_); clear y Y
    refine WpXL.nil ?_
    refine ⟨rfl, _, rfl, rfl, ?_⟩
    refine WpX.block ?_
    refine WpX.seq (WpX.seq (WpX.region ?_))
    rcases hcase with ⟨hp, hQ⟩ | ⟨hp, σ', e, hr, hQ⟩
    · have hp' : (ln.toList == (⟨#[112, 114, 111, 103, 114, 97, 109]⟩ : ByteArray).toList) = true := hp
      refine WpXL.op rfl (fun c e => by cases e) (guardA_sound (P := Tryd.prog) rfl) (OpA.indexArr rfl rfl arr_67 rfl rfl (by decide) (by decide)) ?_
      (refine WpXL.go _ rfl rfl fun Y y => ?_); simp only [zb, seval, w20, txtA, hp']; (refine RunTo.fx y (by first | exact trivial | omega | (simp; done) | (simp; omega)) ?_); clear y Y
      refine WpXL.nil ?_
      change WpX _ _ _ _ _ _ _ _
      (apply WpX.cd; focus constructor)
      refine WpX.seq (WpX.region ?_)
      refine WpXL.op rfl (fun c e => by cases e) (guardA_sound (P := Tryd.prog) rfl) (OpA.indexArr rfl rfl arr_67 rfl rfl (by decide) (by decide)) ?_
      (refine WpXL.go _ rfl rfl fun Y y => ?_); simp only [zb, seval, w20, txtA, jobO]; (refine RunTo.fx y (by first | exact trivial | omega | (simp; done) | (simp; omega)) ?_); clear y Y
      refine WpXL.nil ?_
      change WpX _ _ _ _ _ _ _ _
      refine WpX.exit ?_
      exact ⟨_, rfl, rfl, hQ _⟩
    · have hp' : (ln.toList == (⟨#[112, 114, 111, 103, 114, 97, 109]⟩ : ByteArray).toList) = false := hp
      by_cases h2 : σ'.fs = []
      · have haft : ∀ o0 o1 o2 o4 o5 o6, aft σ σ' o0 o1 o2 o4 o5 o6 = [some o0, some o1, some o2, jobO noB σ'.inp σ'.lim σ'.fu nilS, some o4, some o5, some o6] := fun o0 o1 o2 o4 o5 o6 => by rw [aft, if_neg (by simp [h2]), PT.job, rowT, if_pos h2, fcT, if_pos h2]; rfl
        refine WpXL.op rfl (fun c e => by cases e) (guardA_sound (P := Tryd.prog) rfl) (OpA.indexArr rfl rfl arr_67 rfl rfl (by decide) (by decide)) ?_
        (refine WpXL.go _ rfl rfl fun Y y => ?_); simp only [zb, seval, w20, txtA, hp']; (refine RunTo.fx y (by first | exact trivial | omega | (simp; done) | (simp; omega)) ?_); clear y Y
        refine WpXL.nil ?_
        change WpX _ _ _ _ _ _ _ _
        (apply WpX.cd; focus constructor)
        refine WpX.skip ?_
        change WpX _ _ _ _ _ _ _ _
        refine WpX.seq (WpX.region ?_)
        refine WpXL.op rfl (fun c e => by cases e) (guardA_sound (P := Tryd.prog) rfl) (OpA.indexArr rfl rfl arr_67 rfl rfl (by decide) (by decide)) ?_
        (refine WpXL.go _ rfl rfl fun Y y => ?_); simp only [zb, seval, w20, txtA, stoodO]; (refine RunTo.fx y (by first | exact trivial | omega | (simp; done) | (simp; omega)) ?_); clear y Y
        have hr' := fun o0 o1 o2 o4 o5 o6 => hr.2 b (.map es c) o0 o1 o2 o4 o5 o6 hf
        simp only [PT.job, hrow, hfc, List.nil_append, List.cons_append, haft] at hr'
        refine WpXL.callM rfl (guardA_sound (P := Tryd.prog) rfl) rfl rfl (by kernel_rfl) (ALes.refl _) (hr' _ _ _ _ _ _) (by simp [K3]) ?_
        rintro r s' o' ⟨rfl, rfl, es', c', rfl, hf'⟩
        obtain ⟨hq0, hq1⟩ := hQ es' c' _ hf'
        rw [haft] at hq0 hq1
        (refine WpXL.go _ rfl rfl fun Y y => ?_); simp only [zb, seval, w20, txtA]; (refine RunTo.fx y (by first | exact trivial | omega | (simp; done) | (simp; omega)) ?_); clear y Y
        refine WpXL.nil ?_
        change WpX _ _ _ _ _ _ _ _
        refine WpX.seq (WpX.region ?_)
        cases he : (e == 0)
        · have he' : (e != 0) = true := by simp only [bne, he]; rfl
          (refine WpXL.go _ rfl rfl fun Y y => ?_); simp only [zb, seval, w20, txtA, he, he']; (refine RunTo.fx y (by first | exact trivial | omega | (simp; done) | (simp; omega)) ?_); clear y Y
          refine WpXL.nil ?_
          change WpX _ _ _ _ _ _ _ _
          (apply WpX.cd; focus constructor)
          refine WpX.seq (WpX.region ?_)
          (refine WpXL.go _ rfl rfl fun Y y => ?_); simp only [zb, seval, w20, txtA, zeroJ, intO, errO]; (refine RunTo.fx y (by first | exact trivial | omega | (simp; done) | (simp; omega)) ?_); clear y Y
          refine WpXL.nil ?_
          change WpX _ _ _ _ _ _ _ _
          refine WpX.ret ?_
          exact ⟨_, rfl, rfl, hq1 he⟩
        · have he' : (e != 0) = false := by simp only [bne, he]; rfl
          (refine WpXL.go _ rfl rfl fun Y y => ?_); simp only [zb, seval, w20, txtA, he, he']; (refine RunTo.fx y (by first | exact trivial | omega | (simp; done) | (simp; omega)) ?_); clear y Y
          refine WpXL.nil ?_
          change WpX _ _ _ _ _ _ _ _
          (apply WpX.cd; focus constructor)
          refine WpX.skip ?_
          exact ⟨_, rfl, rfl, hq0 he⟩
      · have haft : ∀ o0 o1 o2 o4 o5 o6, aft σ σ' o0 o1 o2 o4 o5 o6 = [some o0, some o1, some o2, jobO noB σ'.inp σ'.lim σ'.fu (.ms 7 σ'.fs.length), some o4, some o5, some o6, some ⟨48, 3, fC σ'.fs⟩] := fun o0 o1 o2 o4 o5 o6 => by rw [aft, if_pos ⟨h1, h2⟩, rowT, if_neg h2]
        refine WpXL.op rfl (fun c e => by cases e) (guardA_sound (P := Tryd.prog) rfl) (OpA.indexArr rfl rfl arr_67 rfl rfl (by decide) (by decide)) ?_
        (refine WpXL.go _ rfl rfl fun Y y => ?_); simp only [zb, seval, w20, txtA, hp']; (refine RunTo.fx y (by first | exact trivial | omega | (simp; done) | (simp; omega)) ?_); clear y Y
        refine WpXL.nil ?_
        change WpX _ _ _ _ _ _ _ _
        (apply WpX.cd; focus constructor)
        refine WpX.skip ?_
        change WpX _ _ _ _ _ _ _ _
        refine WpX.seq (WpX.region ?_)
        refine WpXL.op rfl (fun c e => by cases e) (guardA_sound (P := Tryd.prog) rfl) (OpA.indexArr rfl rfl arr_67 rfl rfl (by decide) (by decide)) ?_
        (refine WpXL.go _ rfl rfl fun Y y => ?_); simp only [zb, seval, w20, txtA, stoodO]; (refine RunTo.fx y (by first | exact trivial | omega | (simp; done) | (simp; omega)) ?_); clear y Y
        have hr' := fun o0 o1 o2 o4 o5 o6 => hr.2 b (.map es c) o0 o1 o2 o4 o5 o6 hf
        simp only [PT.job, hrow, hfc, List.nil_append, List.cons_append, haft] at hr'
        refine WpXL.callM rfl (guardA_sound (P := Tryd.prog) rfl) rfl rfl (by kernel_rfl) (ALes.refl _) (hr' _ _ _ _ _ _) (by simp [K3]) ?_
        rintro r s' o' ⟨rfl, rfl, es', c', rfl, hf'⟩
        obtain ⟨hq0, hq1⟩ := hQ es' c' _ hf'
        rw [haft] at hq0 hq1
        (refine WpXL.go _ rfl rfl fun Y y => ?_); simp only [zb, seval, w20, txtA]; (refine RunTo.fx y (by first | exact trivial | omega | (simp; done) | (simp; omega)) ?_); clear y Y
        refine WpXL.nil ?_
        change WpX _ _ _ _ _ _ _ _
        refine WpX.seq (WpX.region ?_)
        cases he : (e == 0)
        · have he' : (e != 0) = true := by simp only [bne, he]; rfl
          (refine WpXL.go _ rfl rfl fun Y y => ?_); simp only [zb, seval, w20, txtA, he, he']; (refine RunTo.fx y (by first | exact trivial | omega | (simp; done) | (simp; omega)) ?_); clear y Y
          refine WpXL.nil ?_
          change WpX _ _ _ _ _ _ _ _
          (apply WpX.cd; focus constructor)
          refine WpX.seq (WpX.region ?_)
          (refine WpXL.go _ rfl rfl fun Y y => ?_); simp only [zb, seval, w20, txtA, zeroJ, intO, errO]; (refine RunTo.fx y (by first | exact trivial | omega | (simp; done) | (simp; omega)) ?_); clear y Y
          refine WpXL.nil ?_
          change WpX _ _ _ _ _ _ _ _
          refine WpX.ret ?_
          exact ⟨_, rfl, rfl, hq1 he⟩
        · have he' : (e != 0) = false := by simp only [bne, he]; rfl
          (refine WpXL.go _ rfl rfl fun Y y => ?_); simp only [zb, seval, w20, txtA, he, he']; (refine RunTo.fx y (by first | exact trivial | omega | (simp; done) | (simp; omega)) ?_); clear y Y
          refine WpXL.nil ?_
          change WpX _ _ _ _ _ _ _ _
          (apply WpX.cd; focus constructor)
          refine WpX.skip ?_
          exact ⟨_, rfl, rfl, hq0 he⟩
  · have hrow : rowT σ.fs = [some ⟨48, 3, fC σ.fs⟩] := if_neg h1
    have hfc : fcT σ.fs 6 = .ms 6 σ.fs.length := if_neg h1
    simp only [PT.job, hrow, hfc, List.nil_append, List.cons_append] at hcase ⊢
    refine WpX.seq (WpX.region ?_)
    simp only [bindA, EO]
    (refine WpXL.go _ rfl rfl fun Y y => ?_); simp only [zb, seval, w20, txtA]; (refine RunTo.fx y (by first | exact trivial | omega | (simp; done) | (simp; omega)) ?_); clear y Y
    refine WpXL.nil ?_
    change WpX _ _ _ _ _ _ _ _
    refine WpX.region ?_
    (refine WpXL.go _ rfl rfl fun Y y => ?_); simp only [zb, seval, w20, txtA]; (refine RunTo.fx y (by first | exact trivial | omega | (simp; done) | (simp; omega)) ?_); clear y Y
    refine WpXL.nil ?_
    refine ⟨rfl, _, rfl, rfl, ?_⟩
    refine WpX.block ?_
    refine WpX.seq (WpX.seq (WpX.region ?_))
    rcases hcase with ⟨hp, hQ⟩ | ⟨hp, σ', e, hr, hQ⟩
    · have hp' : (ln.toList == (⟨#[112, 114, 111, 103, 114, 97, 109]⟩ : ByteArray).toList) = true := hp
      refine WpXL.op rfl (fun c e => by cases e) (guardA_sound (P := Tryd.prog) rfl) (OpA.indexArr rfl rfl arr_67 rfl rfl (by decide) (by decide)) ?_
      (refine WpXL.go _ rfl rfl fun Y y => ?_); simp only [zb, seval, w20, txtA, hp']; (refine RunTo.fx y (by first | exact trivial | omega | (simp; done) | (simp; omega)) ?_); clear y Y
      refine WpXL.nil ?_
      change WpX _ _ _ _ _ _ _ _
      (apply WpX.cd; focus constructor)
      refine WpX.seq (WpX.region ?_)
      refine WpXL.op rfl (fun c e => by cases e) (guardA_sound (P := Tryd.prog) rfl) (OpA.indexArr rfl rfl arr_67 rfl rfl (by decide) (by decide)) ?_
      (refine WpXL.go _ rfl rfl fun Y y => ?_); simp only [zb, seval, w20, txtA, jobO]; (refine RunTo.fx y (by first | exact trivial | omega | (simp; done) | (simp; omega)) ?_); clear y Y
      refine WpXL.nil ?_
      change WpX _ _ _ _ _ _ _ _
      refine WpX.exit ?_
      exact ⟨_, rfl, rfl, hQ _⟩
    · have hp' : (ln.toList == (⟨#[112, 114, 111, 103, 114, 97, 109]⟩ : ByteArray).toList) = false := hp
      have h2 := hr.1 h1
      have haft : ∀ o0 o1 o2 o4 o5 o6, aft σ σ' o0 o1 o2 o4 o5 o6 = [some o0, some o1, some o2, jobO noB σ'.inp σ'.lim σ'.fu (.ms 6 σ'.fs.length), some o4, some o5, some ⟨48, 3, fC σ'.fs⟩, some o6] := fun o0 o1 o2 o4 o5 o6 => by rw [aft, if_neg (by simp [h1]), PT.job, rowT, if_neg h2, fcT, if_neg h2]; rfl
      refine WpXL.op rfl (fun c e => by cases e) (guardA_sound (P := Tryd.prog) rfl) (OpA.indexArr rfl rfl arr_67 rfl rfl (by decide) (by decide)) ?_
      (refine WpXL.go _ rfl rfl fun Y y => ?_); simp only [zb, seval, w20, txtA, hp']; (refine RunTo.fx y (by first | exact trivial | omega | (simp; done) | (simp; omega)) ?_); clear y Y
      refine WpXL.nil ?_
      change WpX _ _ _ _ _ _ _ _
      (apply WpX.cd; focus constructor)
      refine WpX.skip ?_
      change WpX _ _ _ _ _ _ _ _
      refine WpX.seq (WpX.region ?_)
      refine WpXL.op rfl (fun c e => by cases e) (guardA_sound (P := Tryd.prog) rfl) (OpA.indexArr rfl rfl arr_67 rfl rfl (by decide) (by decide)) ?_
      (refine WpXL.go _ rfl rfl fun Y y => ?_); simp only [zb, seval, w20, txtA, stoodO]; (refine RunTo.fx y (by first | exact trivial | omega | (simp; done) | (simp; omega)) ?_); clear y Y
      have hr' := fun o0 o1 o2 o4 o5 o6 => hr.2 b (.map es c) o0 o1 o2 o4 o5 o6 hf
      simp only [PT.job, hrow, hfc, List.nil_append, List.cons_append, haft] at hr'
      refine WpXL.callM rfl (guardA_sound (P := Tryd.prog) rfl) rfl rfl (by kernel_rfl) (ALes.refl _) (hr' _ _ _ _ _ _) (by simp [K3]) ?_
      rintro r s' o' ⟨rfl, rfl, es', c', rfl, hf'⟩
      obtain ⟨hq0, hq1⟩ := hQ es' c' _ hf'
      rw [haft] at hq0 hq1
      (refine WpXL.go _ rfl rfl fun Y y => ?_); simp only [zb, seval, w20, txtA]; (refine RunTo.fx y (by first | exact trivial | omega | (simp; done) | (simp; omega)) ?_); clear y Y
      refine WpXL.nil ?_
      change WpX _ _ _ _ _ _ _ _
      refine WpX.seq (WpX.region ?_)
      cases he : (e == 0)
      · have he' : (e != 0) = true := by simp only [bne, he]; rfl
        (refine WpXL.go _ rfl rfl fun Y y => ?_); simp only [zb, seval, w20, txtA, he, he']; (refine RunTo.fx y (by first | exact trivial | omega | (simp; done) | (simp; omega)) ?_); clear y Y
        refine WpXL.nil ?_
        change WpX _ _ _ _ _ _ _ _
        (apply WpX.cd; focus constructor)
        refine WpX.seq (WpX.region ?_)
        (refine WpXL.go _ rfl rfl fun Y y => ?_); simp only [zb, seval, w20, txtA, zeroJ, intO, errO]; (refine RunTo.fx y (by first | exact trivial | omega | (simp; done) | (simp; omega)) ?_); clear y Y
        refine WpXL.nil ?_
        change WpX _ _ _ _ _ _ _ _
        refine WpX.ret ?_
        exact ⟨_, rfl, rfl, hq1 he⟩
      · have he' : (e != 0) = false := by simp only [bne, he]; rfl
        (refine WpXL.go _ rfl rfl fun Y y => ?_); simp only [zb, seval, w20, txtA, he, he']; (refine RunTo.fx y (by first | exact trivial | omega | (simp; done) | (simp; omega)) ?_); clear y Y
        refine WpXL.nil ?_
        change WpX _ _ _ _ _ _ _ _
        (apply WpX.cd; focus constructor)
        refine WpX.skip ?_
        exact ⟨_, rfl, rfl, hq0 he⟩
theorem fC_rn (g : Nat → Nat) (fs : List Co) : (fC fs).map (C.rens g) = fC fs := by simp [fC, C.rens, C.ren]
structure PResG where
  src : ByteArray
  inp : ByteArray
  lim : Int
  fu : Int
  fs : List Co
  num : Int
  err : Int
/-- What comes of a text, line by line. -/
inductive PRunG : Nat → ByteArray → Nat → PT → PResG → Prop
  | done (i : Nat) (σ : PT) : PRunG 0 noB i σ ⟨noB, σ.inp, σ.lim, σ.fu, σ.fs, 0, 0⟩
  | prog {k i : Nat} {σ : PT} {t rest : ByteArray} {bb : Bool} (hs : t.size ≤ 70000) (hne : (t.toList == noB.toList) = false) (hcut : Lib.cut t.data.toList [10] = (progS.data.toList, rest.data.toList, bb)) : PRunG k t i σ ⟨rest, σ.inp, σ.lim, σ.fu, σ.fs, 0, 0⟩
  | bad {k i : Nat} {σ σ' : PT} {t l rest : ByteArray} {bb : Bool} {e : Int} (hs : t.size ≤ 70000) (hne : (t.toList == noB.toList) = false) (hcut : Lib.cut t.data.toList [10] = (l.data.toList, rest.data.toList, bb)) (hl : (l.toList == progS.toList) = false) (hr : ReadsG l σ σ' e) (he : (e == 0) = false) : PRunG k t i σ ⟨noB, noB, 0, 0, [], i, e⟩
  | line {k i : Nat} {σ σ' : PT} {t l rest : ByteArray} {bb : Bool} {r : PResG} (hs : t.size ≤ 70000) (hne : (t.toList == noB.toList) = false) (hcut : Lib.cut t.data.toList [10] = (l.data.toList, rest.data.toList, bb)) (hl : (l.toList == progS.toList) = false) (hr : ReadsG l σ σ' 0) (hk : PRunG k rest (i + 1) σ' r) : PRunG (k + 1) t i σ r
/-- How the loop over the lines ends. -/
def FinG (res : PResG) (ex : Exit) (S : List (Option Ob)) : Prop :=
  ((ex = .normal ∨ ex = .exit 0) ∧ res.num = 0 ∧ res.err = 0 ∧ ∃ (a4 a5 : Ob) (T : List (Option Ob)), (T = [] ∨ ∃ a6 : Ob, T = [some a6]) ∧ S = some zeroJ :: some (intO 0) :: some (errO 0) :: jobO res.src res.inp res.lim res.fu (fcT res.fs 6) :: some a4 :: some a5 :: (rowT res.fs ++ T)) ∨
  (ex = .ret ∧ res.src = noB ∧ res.inp = noB ∧ res.lim = 0 ∧ res.fu = 0 ∧ res.fs = [] ∧ ∃ T, S = some zeroJ :: some (intO res.num) :: some (errO res.err) :: T)
theorem PRunG.split {j : Nat} {t : ByteArray} {i : Nat} {σ : PT} {res : PResG} (h : PRunG j t i σ res) : (t = noB ∧ res = ⟨noB, σ.inp, σ.lim, σ.fu, σ.fs, 0, 0⟩) ∨ ∃ ln rest bb, t.size ≤ 70000 ∧ (t.toList == noB.toList) = false ∧ Lib.cut t.data.toList [10] = (ln.data.toList, rest.data.toList, bb) ∧
    (((ln.toList == progS.toList) = true ∧ res = ⟨rest, σ.inp, σ.lim, σ.fu, σ.fs, 0, 0⟩) ∨ ((ln.toList == progS.toList) = false ∧ ∃ (σ' : PT) (e : Int), ReadsG ln σ σ' e ∧ (((e == 0) = false ∧ res = ⟨noB, noB, 0, 0, [], i, e⟩) ∨ (e = 0 ∧ ∃ k, j = k + 1 ∧ PRunG k rest (i + 1) σ' res)))) := by
  cases h with
  | done i σ => exact .inl ⟨rfl, rfl⟩
  | prog hs hne hcut => exact .inr ⟨_, _, _, hs, hne, hcut, .inl ⟨by kernel_rfl, rfl⟩⟩
  | bad hs hne hcut hl hr he => exact .inr ⟨_, _, _, hs, hne, hcut, .inr ⟨hl, _, _, hr, .inl ⟨he, rfl⟩⟩⟩
  | line hs hne hcut hl hr hk => exact .inr ⟨_, _, _, hs, hne, hcut, .inr ⟨hl, _, _, hr, .inr ⟨rfl, _, rfl, hk⟩⟩⟩
def RndG (res : PResG) (b : Nat) (t rest : ByteArray) (i j : Nat) (σ : PT) (e : Exit) (S : List (Option Ob)) (o' : Obj) : Prop :=
  ((e = .exit 0 ∨ e = .ret) ∧ FinG res e S) ∨ (e = .normal ∧ ∃ (σ' : PT) (es' : Array MapEntry) (c' k : Nat) (a6 : Ob), (σ.fs ≠ [] → σ'.fs ≠ []) ∧ S = aft σ σ' zeroJ (intO 0) (errO 0) (stoodO b) (boxO t) a6 ∧ o' = .map es' c' ∧ MFit Tryd.prog 9 3 (.map es' c') σ'.n σ'.D ∧ j = k + 1 ∧ PRunG k rest (i + 1) σ' res)
def IterG (res : PResG) (k0 : Nat) (b l D : Nat) (fn : FuncId) (tm : Array Value) (ac bd : Code) (j : Nat) (st : St) (g : Gs) : Prop := ∃ (t : ByteArray) (i : Nat) (σ : PT) (es : Array MapEntry) (c : Nat), PRunG j t i σ res ∧ i + j ≤ k0 + 1 ∧ MFit Tryd.prog 9 3 (.map es c) σ.n σ.D ∧
  st = ⟨[(3, .one (.v (.int .i64 i))), (0, .one (.v (.func (.yield l) #[] #[]))), (1, .one (.ptr 5 1 0 0))], some zeroJ :: some (intO 0) :: some (errO 0) :: σ.job :: some (stoodO b) :: some (boxO t) :: rowT σ.fs⟩ ∧ g = ⟨[], K3 b (.map es c) l (recL .ready none fn tm [17, 18] ac bd D) D⟩
theorem iterG_ok (ac bd : Code) (hR : RoundG ac bd) (s : ByteArray) (k0 : Nat) (res : PResG) (h : PRunG k0 s 1 ⟨noB, 0, 0, [], 0, .map []⟩ res) (hk0 : k0 ≤ 70000) (b l D : Nat) (es0 : Array MapEntry) (c0 : Nat) (hf0 : MFit Tryd.prog 9 3 (.map es0 c0) 0 (.map [])) (fn : FuncId) (tm : Array Value) (htm : tm.size = 35) (cI : Code) (hcI : Tryd.f37.body = some cI) :
    WpX Tryd.prog none (OutOk EO tm) ⟨25, 6⟩ cI (fun e st' g' => (e = .ret ∨ e = .normal) ∧ ∃ o' s j, isMapB o' = true ∧ g' = ⟨[], K3 b o' l (recL s j fn tm [17, 18] ac bd D) D⟩ ∧ (s = .ready ∨ s = .done) ∧ ∃ ex, jumpOf ex = some j ∧ FinG res ex st'.s)
      ⟨[(0, .one (.v (.func (.yield l) #[] #[]))), (1, .one (.ptr 5 1 0 0))], [some zeroJ, some (intO 0), some (errO 0), jobO noB noB 0 0 nilS, some (stoodO b), some (boxO s)]⟩ ⟨[], K3 b (.map es0 c0) l (recL .ready none fn tm [17, 18] ac bd D) D⟩ := by
  cases hcI
  refine WpX.seq (WpX.region ?_)
  (refine WpXL.go _ rfl rfl fun Y y => ?_); simp only [zb, seval, w37, txtA]; (refine RunTo.fx y (by first | exact trivial | omega | (simp; done) | (simp; omega)) ?_); clear y Y
  refine WpXL.nil ?_
  change WpX _ _ _ _ _ _ _ _
  refine WpX.block ?_
  refine WpX.loop (IterG res k0 b l D fn tm ac bd) k0 (Le.refl _ _) ⟨s, 1, _, es0, c0, h, by omega, hf0, rfl, rfl⟩ ?_
  rintro j st g ⟨t, i, σ, es, c, hp, hij, hf, rfl, rfl⟩
  refine WpX.seq (WpX.seq (WpX.region ?_))
  rcases hp.split with ⟨rfl, hres⟩ | ⟨ln, rest, bb, hs, hne, hcut, hcase⟩
  · have hne : (noB.toList == (⟨#[]⟩ : ByteArray).toList) = true := by kernel_rfl
    have hne' : (!(noB.toList == (⟨#[]⟩ : ByteArray).toList)) = false := by rw [hne]; rfl
    (refine WpXL.go _ rfl rfl fun Y y => ?_); simp only [zb, seval, w37, txtA, boxO, hne, hne']; (refine RunTo.fx y (by first | exact trivial | omega | (simp; done) | (simp; omega)) ?_); clear y Y
    refine WpXL.nil ?_
    change WpX _ _ _ _ _ _ _ _
    (apply WpX.cd; focus constructor)
    refine WpX.exit ?_
    exact ⟨.inr rfl, _, .ready, none, rfl, rfl, .inl rfl, .normal, rfl, .inl ⟨.inl rfl, by rw [hres], by rw [hres], _, _, [], .inl rfl, by rw [hres, List.append_nil]; rfl⟩⟩
  have hne1 : (t.toList == (⟨#[]⟩ : ByteArray).toList) = false := hne
  have hne' : (!(t.toList == (⟨#[]⟩ : ByteArray).toList)) = true := by rw [hne1]; rfl
  have hw2 : IntKind.i64.wrap ((i : Int) + 1) = ((i + 1 : Nat) : Int) := by rw [wrap64 (by omega) (by omega)]; omega
  (refine WpXL.go _ rfl rfl fun Y y => ?_); simp only [zb, seval, w37, txtA, boxO, hne1, hne']; (refine RunTo.fx y (by first | exact trivial | omega | (simp; done) | (simp; omega)) ?_); clear y Y
  refine WpXL.nil ?_
  change WpX _ _ _ _ _ _ _ _
  (apply WpX.cd; focus constructor)
  refine WpX.skip ?_
  change WpX _ _ _ _ _ _ _ _
  refine WpX.seq (WpX.block ?_)
  refine WpX.seq (WpX.region ?_)
  (refine WpXL.go _ rfl rfl fun Y y => ?_); simp only [zb, seval, w37, txtA, boxO]; (refine RunTo.fx y (by first | exact trivial | omega | (simp; done) | (simp; omega)) ?_); clear y Y
  refine WpXL.call rfl (guardA_sound (P := Tryd.prog) rfl) (CallA.shut rfl rfl (by kernel_rfl) (ALes.refl _) rfl (cutTo hs hcut) ?_)
  (refine WpXL.go _ rfl rfl fun Y y => ?_); simp only [zb, seval, w37, txtA]; (refine RunTo.fx y (by first | exact trivial | omega | (simp; done) | (simp; omega)) ?_); clear y Y
  refine WpXL.nil ?_
  change WpX _ _ _ _ _ _ _ _
  have hpl0 : placeI Tryd.prog 67 0 = none := by kernel_rfl
  refine WpX.seq (WpX.seq (WpX.region ?_))
  (refine WpXL.go _ rfl rfl fun Y y => ?_); simp only [zb, seval, w37, txtA, hpl0]; (refine RunTo.fx y (by first | exact trivial | omega | (simp; done) | (simp; omega)) ?_); clear y Y
  refine WpXL.op rfl (fun c e => by cases e) (guardA_sound (P := Tryd.prog) rfl) (OpA.buildArr (parts := [(0, .tmp 19), (1, .tmp 20)]) rfl zer_67 arr_67 rfl) ?_
  have hcase' : ((ln.toList == progS.toList) = true ∧ ∀ a6, RndG res b t rest i j σ (.exit 0) (some zeroJ :: some (intO 0) :: some (errO 0) :: jobO rest σ.inp σ.lim σ.fu (fcT σ.fs 6) :: some (stoodO b) :: some (boxO t) :: (rowT σ.fs ++ [some a6])) (.map es c)) ∨
   ((ln.toList == progS.toList) = false ∧ ∃ (σ' : PT) (e : Int), ReadsG ln σ σ' e ∧ ∀ es' c' a6, MFit Tryd.prog 9 3 (.map es' c') σ'.n σ'.D → (((e == 0) = true → RndG res b t rest i j σ .normal (aft σ σ' zeroJ (intO 0) (errO 0) (stoodO b) (boxO t) a6) (.map es' c')) ∧ ((e == 0) = false → RndG res b t rest i j σ .ret (aft σ σ' zeroJ (intO i) (errO e) (stoodO b) (boxO t) a6) (.map es' c')))) := by
    rcases hcase with ⟨h1, h2⟩ | ⟨h1, σ', e, hr, h2⟩
    · exact .inl ⟨h1, fun a6 => .inl ⟨.inl rfl, .inl ⟨.inr rfl, by rw [h2], by rw [h2], _, _, [some a6], .inr ⟨a6, rfl⟩, by rw [h2]⟩⟩⟩
    · refine .inr ⟨h1, σ', e, hr, fun es' c' a6 hf' => ⟨fun he => ?_, fun he => ?_⟩⟩
      · rcases h2 with ⟨h2, -⟩ | ⟨-, k, h3, h4⟩
        · rw [h2] at he; cases he
        · exact .inr ⟨rfl, σ', es', c', k, a6, hr.1, rfl, rfl, hf', h3, h4⟩
      · rcases h2 with ⟨-, h2⟩ | ⟨h2, -⟩
        · refine .inl ⟨.inr rfl, .inr ⟨rfl, by rw [h2], by rw [h2], by rw [h2], by rw [h2], by rw [h2], ?_⟩⟩
          rw [h2]
          unfold aft
          split <;> exact ⟨_, rfl⟩
        · subst h2; cases he
  refine WpXL.yield (nto := 35) (l := l) (D := D) (b := b) (o := .map es c) (fn := fn) (tm := tm) (ps := [17, 18]) (ac := ac) (bd := bd) (eo := EO) (xs := [.one (.v (.int .i64 i)), .agg [.v (.string ln), .v (.string rest)]]) ?_ ?_ ?_ rfl (by decide) htm rfl (fun _ h => h) ?_
  · rfl
  · rfl
  · rfl
  intro n0
  refine (hR n0 l D fn tm b es c t i ln rest σ hf (RndG res b t rest i j σ) hcase').mono ?_
  rintro e1 st1 g1 ⟨he1, o1, hm1, hg1, hb1⟩
  refine ⟨he1, o1, hm1, hg1, hb1.mono ?_⟩
  rintro e2 st2 g2 ⟨o2, hm2, hg2, hq⟩
  refine ⟨o2, hm2, hg2, ?_⟩
  rcases hq with ⟨he2, hfin⟩ | ⟨rfl, σ', es', c', k, a6, hmo, hS, rfl, hf', rfl, hrun⟩
  · obtain ⟨q, hj⟩ : ∃ q, jumpOf e2 = some (some q) := by rcases he2 with rfl | rfl <;> exact ⟨_, rfl⟩
    refine ⟨_, hj, ?_⟩
    (refine WpXL.go _ rfl rfl fun Y y => ?_); simp only [zb, seval, w37, txtA]; (refine RunTo.fx y (by first | exact trivial | omega | (simp; done) | (simp; omega)) ?_); clear y Y
    refine WpXL.nil ?_
    change WpX _ _ _ _ _ _ _ _
    (apply WpX.cd; focus constructor)
    refine WpX.ret ?_
    exact ⟨.inl rfl, _, .done, _, hm2, rfl, .inr rfl, e2, hj, hfin⟩
  · refine ⟨none, rfl, ?_⟩

    by_cases h2 : σ'.fs = []
    · have h1 : σ.fs = [] := Classical.byContradiction fun h => hmo h h2
      have haft : ∀ o0 o1 o2 o4 o5 o6, aft σ σ' o0 o1 o2 o4 o5 o6 = [some o0, some o1, some o2, jobO noB σ'.inp σ'.lim σ'.fu nilS, some o4, some o5, some o6] := fun o0 o1 o2 o4 o5 o6 => by rw [aft, if_neg (by simp [h2]), PT.job, rowT, if_pos h2, fcT, if_pos h2]; rfl
      have hrow : rowT σ'.fs = [] := if_pos h2
      have hjob : σ'.job = jobO noB σ'.inp σ'.lim σ'.fu nilS := by rw [PT.job, fcT, if_pos h2]
      rw [hS, haft]
      (refine WpXL.go _ rfl rfl fun Y y => ?_); simp only [zb, seval, w37, txtA]; (refine RunTo.fx y (by first | exact trivial | omega | (simp; done) | (simp; omega)) ?_); clear y Y
      refine WpXL.nil ?_
      change WpX _ _ _ _ _ _ _ _
      (apply WpX.cd; focus constructor)
      refine WpX.skip ?_
      change WpX _ _ _ _ _ _ _ _
      refine WpX.region ?_
      (refine WpXL.go _ rfl rfl fun Y y => ?_); simp only [zb, seval, w37, txtA, boxO]; (refine RunTo.fx y (by first | exact trivial | omega | (simp; done) | (simp; omega)) ?_); clear y Y
      refine WpXL.nil ?_
      change WpX _ _ _ _ _ _ _ _
      refine WpX.region ?_
      (refine WpXL.go _ rfl rfl fun Y y => ?_); simp only [zb, seval, w37, txtA, hw2]; (refine RunTo.fx y (by first | exact trivial | omega | (simp; done) | (simp; omega)) ?_); clear y Y
      refine WpXL.nil ?_
      refine ⟨k, ⟨[(3, .one (.v (.int .i64 (i + 1 : Nat)))), (0, .one (.v (.func (.yield l) #[] #[]))), (1, .one (.ptr 5 1 0 0))], some zeroJ :: some (intO 0) :: some (errO 0) :: jobO noB σ'.inp σ'.lim σ'.fu nilS :: some (stoodO b) :: some (boxO rest) :: []⟩, Nat.lt_succ_self k, Le.names [0, 1, 2, 3, 4, 5] (Handed.of (by decide) ?_) ?_ ?_, rest, i + 1, σ', es', c', hrun, by omega, hf', by rw [hjob, hrow], rfl⟩
      · simp [zeroJ, intO, errO, jobO, stoodO, boxO, nilS, Ob.ren, C.rens, C.ren, rn, fC_rn, noB]
      · intro q hq
        have : q < 6 := hq
        match q, this with
        | 0, _ => rfl
        | 1, _ => rfl
        | 2, _ => rfl
        | 3, _ => rfl
        | 4, _ => rfl
        | 5, _ => rfl
      · simp [SubR, find, A.ren, C.ren, rn]
    · have hrow : rowT σ'.fs = [some ⟨48, 3, fC σ'.fs⟩] := if_neg h2
      have hjob : σ'.job = jobO noB σ'.inp σ'.lim σ'.fu (.ms 6 σ'.fs.length) := by rw [PT.job, fcT, if_neg h2]
      by_cases h1 : σ.fs = []
      · have haft : ∀ o0 o1 o2 o4 o5 o6, aft σ σ' o0 o1 o2 o4 o5 o6 = [some o0, some o1, some o2, jobO noB σ'.inp σ'.lim σ'.fu (.ms 7 σ'.fs.length), some o4, some o5, some o6, some ⟨48, 3, fC σ'.fs⟩] := fun o0 o1 o2 o4 o5 o6 => by rw [aft, if_pos ⟨h1, h2⟩, rowT, if_neg h2]
        rw [hS, haft]
        (refine WpXL.go _ rfl rfl fun Y y => ?_); simp only [zb, seval, w37, txtA]; (refine RunTo.fx y (by first | exact trivial | omega | (simp; done) | (simp; omega)) ?_); clear y Y
        refine WpXL.nil ?_
        change WpX _ _ _ _ _ _ _ _
        (apply WpX.cd; focus constructor)
        refine WpX.skip ?_
        change WpX _ _ _ _ _ _ _ _
        refine WpX.region ?_
        (refine WpXL.go _ rfl rfl fun Y y => ?_); simp only [zb, seval, w37, txtA, boxO]; (refine RunTo.fx y (by first | exact trivial | omega | (simp; done) | (simp; omega)) ?_); clear y Y
        refine WpXL.nil ?_
        change WpX _ _ _ _ _ _ _ _
        refine WpX.region ?_
        (refine WpXL.go _ rfl rfl fun Y y => ?_); simp only [zb, seval, w37, txtA, hw2]; (refine RunTo.fx y (by first | exact trivial | omega | (simp; done) | (simp; omega)) ?_); clear y Y
        refine WpXL.nil ?_
        refine ⟨k, ⟨[(3, .one (.v (.int .i64 (i + 1 : Nat)))), (0, .one (.v (.func (.yield l) #[] #[]))), (1, .one (.ptr 5 1 0 0))], some zeroJ :: some (intO 0) :: some (errO 0) :: jobO noB σ'.inp σ'.lim σ'.fu (.ms 6 σ'.fs.length) :: some (stoodO b) :: some (boxO rest) :: [some ⟨48, 3, fC σ'.fs⟩]⟩, Nat.lt_succ_self k, Le.names [0, 1, 2, 3, 4, 5, 7] (Handed.of (by decide) ?_) ?_ ?_, rest, i + 1, σ', es', c', hrun, by omega, hf', by rw [hjob, hrow], rfl⟩
        · simp [zeroJ, intO, errO, jobO, stoodO, boxO, nilS, Ob.ren, C.rens, C.ren, rn, fC_rn, noB]
        · intro q hq
          have : q < 6 := hq
          match q, this with
          | 0, _ => rfl
          | 1, _ => rfl
          | 2, _ => rfl
          | 3, _ => rfl
          | 4, _ => rfl
          | 5, _ => rfl
        · simp [SubR, find, A.ren, C.ren, rn]
      · have haft : ∀ o0 o1 o2 o4 o5 o6, aft σ σ' o0 o1 o2 o4 o5 o6 = [some o0, some o1, some o2, jobO noB σ'.inp σ'.lim σ'.fu (.ms 6 σ'.fs.length), some o4, some o5, some ⟨48, 3, fC σ'.fs⟩, some o6] := fun o0 o1 o2 o4 o5 o6 => by rw [aft, if_neg (by simp [h1]), PT.job, rowT, if_neg h2, fcT, if_neg h2]; rfl
        rw [hS, haft]
        (refine WpXL.go _ rfl rfl fun Y y => ?_); simp only [zb, seval, w37, txtA]; (refine RunTo.fx y (by first | exact trivial | omega | (simp; done) | (simp; omega)) ?_); clear y Y
        refine WpXL.nil ?_
        change WpX _ _ _ _ _ _ _ _
        (apply WpX.cd; focus constructor)
        refine WpX.skip ?_
        change WpX _ _ _ _ _ _ _ _
        refine WpX.region ?_
        (refine WpXL.go _ rfl rfl fun Y y => ?_); simp only [zb, seval, w37, txtA, boxO]; (refine RunTo.fx y (by first | exact trivial | omega | (simp; done) | (simp; omega)) ?_); clear y Y
        refine WpXL.nil ?_
        change WpX _ _ _ _ _ _ _ _
        refine WpX.region ?_
        (refine WpXL.go _ rfl rfl fun Y y => ?_); simp only [zb, seval, w37, txtA, hw2]; (refine RunTo.fx y (by first | exact trivial | omega | (simp; done) | (simp; omega)) ?_); clear y Y
        refine WpXL.nil ?_
        refine ⟨k, ⟨[(3, .one (.v (.int .i64 (i + 1 : Nat)))), (0, .one (.v (.func (.yield l) #[] #[]))), (1, .one (.ptr 5 1 0 0))], some zeroJ :: some (intO 0) :: some (errO 0) :: jobO noB σ'.inp σ'.lim σ'.fu (.ms 6 σ'.fs.length) :: some (stoodO b) :: some (boxO rest) :: [some ⟨48, 3, fC σ'.fs⟩]⟩, Nat.lt_succ_self k, Le.names [0, 1, 2, 3, 4, 5, 6] (Handed.of (by decide) ?_) ?_ ?_, rest, i + 1, σ', es', c', hrun, by omega, hf', by rw [hjob, hrow], rfl⟩
        · simp [zeroJ, intO, errO, jobO, stoodO, boxO, nilS, Ob.ren, C.rens, C.ren, rn, fC_rn, noB]
        · intro q hq
          have : q < 6 := hq
          match q, this with
          | 0, _ => rfl
          | 1, _ => rfl
          | 2, _ => rfl
          | 3, _ => rfl
          | 4, _ => rfl
          | 5, _ => rfl
        · simp [SubR, find, A.ren, C.ren, rn]
theorem parseG_pure (s : ByteArray) (hs : s.size ≤ 65536) (k0 : Nat) (res : PResG) (h : PRunG k0 s 1 ⟨noB, 0, 0, [], 0, .map []⟩ res) (hk0 : k0 ≤ 70000) :
    Pure Tryd.prog 20 [.one (.v (.string s))] (.tup [.agg [.v (.string res.src), .v (.string res.inp), .v (.int .i64 res.lim), .v (.int .i64 res.fu), .sl 3 (fC res.fs)], .one (.v (.int .i64 res.num)), .one (.v (.int .i64 res.err))]) := by
  have hd0 : decide ((s.size : Int) > 65536) = false := by simp; omega
  refine Fn.introX Tryd.func20 rfl Tryd.ntmps20 Tryd.results20 (by simp only [List.length_cons, List.length_nil]; decide) ?_
  refine WpX.seq (WpX.ofB ?_)
  repeat (first | (apply fw; focus ((with_reducible constructor) <;> rfl)) | (apply WpA.cd; focus constructor) | ((first | with_reducible refine WpA.go _ rfl fun Y y => ?_ | apply RunTo.id); simp only [zb, seval, w20, txtA]; refine RunTo.fn y (by first | exact trivial | omega | (simp; done) | (simp; omega)) ?_; clear y Y))
  change WpX _ _ _ _ _ _ _ _
  refine WpX.seq (WpX.ofB ?_)
  repeat (first | (apply fw; focus ((with_reducible constructor) <;> rfl)) | (apply WpA.cd; focus constructor) | ((first | with_reducible refine WpA.go _ rfl fun Y y => ?_ | apply RunTo.id); simp only [zb, seval, w20, txtA, hd0]; refine RunTo.fn y (by first | exact trivial | omega | (simp; done) | (simp; omega)) ?_; clear y Y))
  change WpX _ _ _ _ _ _ _ _
  refine WpX.seq (WpX.ofB ?_)
  repeat (first | (apply fw; focus ((with_reducible constructor) <;> rfl)) | (apply WpA.cd; focus constructor) | ((first | with_reducible refine WpA.go _ rfl fun Y y => ?_ | apply RunTo.id); simp only [zb, seval, w20, txtA]; refine RunTo.fn y (by first | exact trivial | omega | (simp; done) | (simp; omega)) ?_; clear y Y))
  change WpX _ _ _ _ _ _ _ _
  refine WpX.seq (WpX.region ?_)
  refine WpXL.makeMap rfl fun b => ?_
  (refine WpXL.go _ rfl rfl fun Y y => ?_); simp only [zb, seval, w20, txtA]; (refine RunTo.fx y (by first | exact trivial | omega | (simp; done) | (simp; omega)) ?_); clear y Y
  refine WpXL.nil ?_
  change WpX _ _ _ _ _ _ _ _
  refine WpX.seq (WpX.seq (WpX.region ?_))
  (refine WpXL.go _ rfl rfl fun Y y => ?_); simp only [zb, seval, w20, txtA]; (refine RunTo.fx y (by first | exact trivial | omega | (simp; done) | (simp; omega)) ?_); clear y Y
  refine WpXL.callM rfl (guardA_sound (P := Tryd.prog) rfl) rfl rfl (by kernel_rfl) (ALes.refl _) (FnM.ofFn (lines_fn s _ _ _ _ _)) (by simp) ?_
  rintro r s' o' ⟨⟨rfl, rfl⟩, rfl⟩
  refine WpXL.nil ?_
  change WpX _ _ _ _ _ _ _ _
  refine WpX.block ?_
  refine WpX.range EO rfl Tryd.func37 rfl Tryd.ntmps37 rfl (by kernel_rfl) (by decide) rfl ?heo ?_
  case heo =>
    intro i x hx
    simp only [find, EO] at hx
    repeat' (split at hx)
    all_goals (first | (cases hx; subst_vars; exact ⟨rfl, rfl⟩) | cases hx)
  intro l D fn tm htm
  refine (iterG_ok _ _ (roundG_ok _ _ fun c hc => by cases hc; rfl) s k0 res h hk0 b l D #[] 0 (MFit.made _ _ _) fn tm htm _ rfl).mono ?_
  rintro e st' g' ⟨he, o', sj, j, hm, hg, hsj, ex, hex, hfin⟩
  refine ⟨he, o', sj, j, hm, hg, hsj, ex, hex, ?_⟩
  have hds : ([{ target := .collected D, args := #[] }] : List Deferred) = [] ∨ ∃ D', ([{ target := .collected D, args := #[] }] : List Deferred) = [{ target := .collected D', args := #[] }] ∧ (D', Obj.deferred (some [])) ∈ [(b, o'), (D, .deferred (some []))] := .inr ⟨D, rfl, by simp⟩
  have hnil : ∀ (src inp : ByteArray) (lim fu num err : Int), ALe (.tup [.agg [.v (.string src), .v (.string inp), .v (.int .i64 lim), .v (.int .i64 fu), nilS], .one (.v (.int .i64 num)), .one (.v (.int .i64 err))]) (.tup [.agg [.v (.string src), .v (.string inp), .v (.int .i64 lim), .v (.int .i64 fu), .sl 3 []], .one (.v (.int .i64 num)), .one (.v (.int .i64 err))]) := fun src inp lim fu num err => ALe.tup (ALes.cons (ALe.agg (by repeat (first | exact CLes.refl _ | refine CLes.nil ?_ | refine CLes.cons ?_))) (ALes.refl _))
  rcases hfin with ⟨hex2, hn, he0, a4, a5, T, hT, hS⟩ | ⟨rfl, h1, h2, h3, h4, h5, T, hS⟩
  · rw [hS]
    by_cases hfs : res.fs = []
    · have e1 : rowT res.fs = [] := if_pos hfs
      have e2 : fcT res.fs 6 = nilS := if_pos hfs
      have e3 : fC res.fs = [] := by rw [hfs]; rfl
      rw [e1, e2, e3]
      rcases hT with rfl | ⟨a6, rfl⟩
      all_goals
        rcases hex2 with rfl | rfl
        all_goals
          change WpX _ _ _ _ _ _ _ _
          refine WpX.seq (WpX.region ?_)
          (refine WpXL.go _ rfl rfl fun Y y => ?_); simp only [zb, seval, w20, txtA, zeroJ, intO, errO, jobO]; (refine RunTo.fx y (by first | exact trivial | omega | (simp; done) | (simp; omega)) ?_); clear y Y
          refine WpXL.nil ?_
          change WpX _ _ _ _ _ _ _ _
          refine WpX.ret ?_
          rw [hn, he0]
          exact ⟨.inl rfl, hds, _, _, _, _, (by simp only [zb, seval, w20, zeroJ, intO, errO, jobO]; rfl), by simp, (by simp only [zv]; rfl), by simp, _, hnil _ _ _ _ _ _, rfl⟩
    · have e1 : rowT res.fs = [some ⟨48, 3, fC res.fs⟩] := if_neg hfs
      have e2 : fcT res.fs 6 = .ms 6 res.fs.length := if_neg hfs
      have hfl := fC_len res.fs
      rw [e1, e2]
      rcases hT with rfl | ⟨a6, rfl⟩
      · rcases hex2 with rfl | rfl
        all_goals
          change WpX _ _ _ _ _ _ _ _
          refine WpX.le (st' := ⟨EO, [some zeroJ, some (intO 0), some (errO 0), some ⟨24, 5, [[.v (.string res.src), .v (.string res.inp), .v (.int .i64 res.lim), .v (.int .i64 res.fu), .sl 3 (fC res.fs)]]⟩, some a4, some a5, none]⟩) (Le.freeze (fun i => i == 6) (Frz.ofL ⟨rfl, rfl, rfl, FzR.same _ _ _, rfl, rfl, rfl, FzR.same _ _ _, rfl, rfl, rfl, FzR.same _ _ _, rfl, rfl, rfl, ⟨⟨.inl rfl, .inl rfl, .inl rfl, .inl rfl, FzC.ms (ty := 48) rfl rfl hfl.symm, trivial⟩, trivial⟩, rfl, rfl, rfl, FzR.same _ _ _, rfl, rfl, rfl, FzR.same _ _ _, fun _ ob h => by cases h; exact fC_shut res.fs, trivial⟩) ⟨⟨_, rfl, .inl rfl⟩, ⟨_, rfl, .inl rfl⟩, ⟨_, rfl, .inl rfl⟩, ⟨_, rfl, .inl rfl⟩, ⟨_, rfl, .inl rfl⟩, trivial⟩) ?_
          refine WpX.seq (WpX.region ?_)
          simp only [EO]
          (refine WpXL.go _ rfl rfl fun Y y => ?_); simp only [zb, seval, w20, txtA, zeroJ, intO, errO, jobO]; (refine RunTo.fx y (by first | exact trivial | omega | (simp; done) | (simp; omega)) ?_); clear y Y
          refine WpXL.nil ?_
          change WpX _ _ _ _ _ _ _ _
          refine WpX.ret ?_
          rw [hn, he0]
          exact ⟨.inl rfl, hds, _, _, _, _, (by simp only [zb, seval, w20, zeroJ, intO, errO, jobO]; rfl), by simp, (by simp only [zv]; rfl), by simp, _, ALe.refl _, rfl⟩
      · rcases hex2 with rfl | rfl
        all_goals
          change WpX _ _ _ _ _ _ _ _
          refine WpX.le (st' := ⟨EO, [some zeroJ, some (intO 0), some (errO 0), some ⟨24, 5, [[.v (.string res.src), .v (.string res.inp), .v (.int .i64 res.lim), .v (.int .i64 res.fu), .sl 3 (fC res.fs)]]⟩, some a4, some a5, none, some a6]⟩) (Le.freeze (fun i => i == 6) (Frz.ofL ⟨rfl, rfl, rfl, FzR.same _ _ _, rfl, rfl, rfl, FzR.same _ _ _, rfl, rfl, rfl, FzR.same _ _ _, rfl, rfl, rfl, ⟨⟨.inl rfl, .inl rfl, .inl rfl, .inl rfl, FzC.ms (ty := 48) rfl rfl hfl.symm, trivial⟩, trivial⟩, rfl, rfl, rfl, FzR.same _ _ _, rfl, rfl, rfl, FzR.same _ _ _, fun _ ob h => by cases h; exact fC_shut res.fs, rfl, rfl, rfl, FzR.same _ _ _, trivial⟩) ⟨⟨_, rfl, .inl rfl⟩, ⟨_, rfl, .inl rfl⟩, ⟨_, rfl, .inl rfl⟩, ⟨_, rfl, .inl rfl⟩, ⟨_, rfl, .inl rfl⟩, trivial⟩) ?_
          refine WpX.seq (WpX.region ?_)
          simp only [EO]
          (refine WpXL.go _ rfl rfl fun Y y => ?_); simp only [zb, seval, w20, txtA, zeroJ, intO, errO, jobO]; (refine RunTo.fx y (by first | exact trivial | omega | (simp; done) | (simp; omega)) ?_); clear y Y
          refine WpXL.nil ?_
          change WpX _ _ _ _ _ _ _ _
          refine WpX.ret ?_
          rw [hn, he0]
          exact ⟨.inl rfl, hds, _, _, _, _, (by simp only [zb, seval, w20, zeroJ, intO, errO, jobO]; rfl), by simp, (by simp only [zv]; rfl), by simp, _, ALe.refl _, rfl⟩
  · rw [hS, h1, h2, h3, h4, h5]
    exact ⟨.inl rfl, hds, _, _, _, _, (by simp only [zb, seval, w20, zeroJ, intO, errO, jobO]; rfl), by simp, (by simp only [zv]; rfl), by simp, _, hnil _ _ _ _ _ _, rfl⟩
structure PT.Ok (σ : PT) (m : Nat) : Prop where
  map : Maps.IsMap σ.D
  cnt : ∀ l : List UInt8, ∃ c : Nat, σ.D.atKey (.string l) (.lit (.int .i64 0)) = .lit (.int .i64 c) ∧ c ≤ σ.n
  n : σ.n ≤ m
  lim : I64 σ.lim
  fu : I64 σ.fu
  inp : σ.inp.size ≤ 70000
  len : σ.fs.length ≤ 1000
  fs : ∀ c ∈ σ.fs, ∀ n ∈ c.l, I64 n
def cntD (D : DataW Unit) (w : ByteArray) : Int := match D.atKey (.string w.data.toList) (.lit (.int .i64 0)) with
  | .lit (.int .i64 c) => c
  | _ => 0
def wordsB (ln : ByteArray) : List ByteArray := Lib.splitB ⟨#[32]⟩ 0 (Lib.countB ln ⟨#[32]⟩) ln
/-- The job behind a line's first word. -/
def wordG (σ : PT) (w0 : ByteArray) (wt : List ByteArray) : PT × Int :=
  if w0 = collS then match numsV wt with
    | some [x, y, z] => if σ.fs.length = 1000 then (⟨σ.inp, σ.lim, σ.fu, σ.fs, σ.n + 1, σ.D.put (.string w0.data.toList) (.lit (.int .i64 (cntD σ.D w0 + 1)))⟩, 12) else (⟨σ.inp, σ.lim, σ.fu, σ.fs ++ [⟨x, y, z⟩], σ.n + 1, σ.D.put (.string w0.data.toList) (.lit (.int .i64 (cntD σ.D w0 + 1)))⟩, 0)
    | _ => (⟨σ.inp, σ.lim, σ.fu, σ.fs, σ.n + 1, σ.D.put (.string w0.data.toList) (.lit (.int .i64 (cntD σ.D w0 + 1)))⟩, 9)
  else (⟨(rdsV σ.inp σ.lim σ.fu (cntD σ.D w0) w0 wt).1, (rdsV σ.inp σ.lim σ.fu (cntD σ.D w0) w0 wt).2.1, (rdsV σ.inp σ.lim σ.fu (cntD σ.D w0) w0 wt).2.2.1, σ.fs, σ.n + 1, σ.D.put (.string w0.data.toList) (.lit (.int .i64 (cntD σ.D w0 + 1)))⟩, (rdsV σ.inp σ.lim σ.fu (cntD σ.D w0) w0 wt).2.2.2)
def stepG (σ : PT) (ln : ByteArray) : PT × Int :=
  if ln.size = 0 ∨ ln[0]? = some 35 then (σ, 0) else match wordsB ln with
    | [] => (σ, 9)
    | w0 :: wt => wordG σ w0 wt
theorem splitB_sizes (sep : ByteArray) : ∀ (k : Nat) (s w : ByteArray), w ∈ Lib.splitB sep 0 k s → w.size ≤ s.size
  | 0, s, w, h => by simp only [Lib.splitB, List.mem_singleton] at h; rw [h]; exact Nat.le_refl _
  | k + 1, s, w, h => by
    simp only [Lib.splitB] at h
    split at h
    · simp only [List.mem_singleton] at h; rw [h]; exact Nat.le_refl _
    · rcases List.mem_cons.1 h with rfl | h
      · rw [ByteArray.size_extract]; omega
      · have := splitB_sizes sep k _ w h
        rw [ByteArray.size_extract] at this; omega
theorem words_ok (ln : ByteArray) (h : ln.size ≤ 70000) : ∃ w0 wt, wordsB ln = w0 :: wt ∧ wt.length ≤ 70000 ∧ w0.size ≤ 70000 ∧ ∀ w ∈ wt, w.size ≤ 70000 := by
  have h1 := Lib.splitB_all ⟨#[32]⟩ (by decide) 0 _ ln rfl
  have h2 := Lib.countB_le ⟨#[32]⟩ (by decide) ln.size ln (Nat.le_refl _)
  have h3 : ∀ w ∈ wordsB ln, w.size ≤ ln.size := splitB_sizes ⟨#[32]⟩ (Lib.countB ln ⟨#[32]⟩) ln
  change (wordsB ln).length = _ at h1
  generalize wordsB ln = l at *
  cases l with
  | nil => simp at h1
  | cons w0 wt =>
    simp only [List.length_cons] at h1
    exact ⟨w0, wt, rfl, by omega, Nat.le_trans (h3 w0 (by simp)) h, fun w hw => Nat.le_trans (h3 w (by simp [hw])) h⟩
theorem PT.Ok.cntD {σ : PT} {m : Nat} (h : σ.Ok m) (w : ByteArray) : σ.D.atKey (.string w.data.toList) (.lit (.int .i64 0)) = .lit (.int .i64 (cntD σ.D w)) ∧ 0 ≤ Proofs.YtdcmihhcpgkgiaaDoor.cntD σ.D w ∧ Proofs.YtdcmihhcpgkgiaaDoor.cntD σ.D w ≤ σ.n := by
  obtain ⟨c, hc, hn⟩ := h.cnt w.data.toList
  unfold Proofs.YtdcmihhcpgkgiaaDoor.cntD
  rw [hc]
  exact ⟨rfl, by simp, by simp; omega⟩
theorem put_cnt {σ : PT} {m : Nat} (h : σ.Ok m) (w : ByteArray) (l : List UInt8) : ∃ c : Nat, (σ.D.put (.string w.data.toList) (.lit (.int .i64 (cntD σ.D w + 1)))).atKey (.string l) (.lit (.int .i64 0)) = .lit (.int .i64 c) ∧ c ≤ σ.n + 1 := by
  obtain ⟨h1, h2, h3⟩ := h.cntD w
  by_cases e : l = w.data.toList
  · subst e
    refine ⟨(cntD σ.D w + 1).toNat, ?_, by omega⟩
    rw [Maps.atKey_put_same h.map (by first | trivial | simp [WideAt.IsKeyLit])]
    rw [Int.toNat_of_nonneg (by omega)]
  · obtain ⟨c, hc, hn⟩ := h.cnt l
    exact ⟨c, by rw [Maps.atKey_put_other (by simpa using e)]; exact hc, by omega⟩
theorem unhexL_len : ∀ (s : List UInt8) (p : List UInt8 × List UInt8), unhexL s = some p → p.1.length ≤ s.length
  | [], p, h => by cases h; simp
  | [a], p, h => by cases h; simp
  | a :: b :: r, p, h => by
    rw [unhexL] at h
    split at h
    · cases h
    · cases hr : unhexL r with
      | none => rw [hr] at h; cases h
      | some q =>
        rw [hr] at h
        cases h
        have := unhexL_len r q hr
        simp only [List.length_cons]; omega
theorem rdsV_ok {inp : ByteArray} {lim fu c : Int} {w0 : ByteArray} {wt : List ByteArray} (h1 : inp.size ≤ 70000) (h2 : I64 lim) (h3 : I64 fu) (hz : ∀ w ∈ wt, w.size ≤ 70000) : (rdsV inp lim fu c w0 wt).1.size ≤ 70000 ∧ I64 (rdsV inp lim fu c w0 wt).2.1 ∧ I64 (rdsV inp lim fu c w0 wt).2.2.1 := by
  unfold rdsV
  split
  · unfold inV
    split
    · rename_i w
      cases hu : unhexL w.data.toList with
      | none => exact ⟨by show mt.size ≤ _; decide, h2, h3⟩
      | some p =>
        obtain ⟨b, r⟩ := p
        have h5 : b.length ≤ w.data.toList.length := unhexL_len _ _ hu
        have h6 := hz w (by simp)
        have h7 : w.data.toList.length = w.size := Array.length_toList
        exact ⟨by show (tB b).size ≤ _; rw [tB_size]; omega, h2, h3⟩
    · exact ⟨h1, h2, h3⟩
  · split
    · cases hn : numsV wt with
      | none => exact ⟨h1, h2, h3⟩
      | some l =>
        have h5 := (numsV_ok hn).2
        unfold limV
        split
        · rename_i v e
          cases e
          exact ⟨h1, h5 _ (by simp), h3⟩
        · exact ⟨h1, h2, h3⟩
    · split
      · cases hn : numsV wt with
        | none => exact ⟨h1, h2, h3⟩
        | some l =>
          have h5 := (numsV_ok hn).2
          unfold fuV
          split
          · rename_i v e
            cases e
            exact ⟨h1, h2, h5 _ (by simp)⟩
          · exact ⟨h1, h2, h3⟩
      · exact ⟨h1, h2, h3⟩
theorem step_valid {σ : PT} {m : Nat} (h : σ.Ok m) (ln : ByteArray) (hl : ln.size ≤ 70000) : (stepG σ ln).1.Ok (m + 1) ∧ (σ.fs ≠ [] → (stepG σ ln).1.fs ≠ []) := by
  have hm := h.n
  unfold stepG
  split
  · exact ⟨⟨h.map, h.cnt, by show σ.n ≤ _; omega, h.lim, h.fu, h.inp, h.len, h.fs⟩, fun h => h⟩
  · obtain ⟨w0, wt, e, h1, h2, h3⟩ := words_ok ln hl
    rw [e]
    simp only
    unfold wordG
    have hp := put_cnt h w0
    split
    · split
      · rename_i x y z hv
        split
        · exact ⟨⟨h.map.put _ _, hp, by show σ.n + 1 ≤ _; omega, h.lim, h.fu, h.inp, h.len, h.fs⟩, fun h => h⟩
        · have hn := (numsV_ok hv).2
          refine ⟨⟨h.map.put _ _, hp, by show σ.n + 1 ≤ _; omega, h.lim, h.fu, h.inp, ?_, ?_⟩, fun _ => by simp⟩
          · have := h.len
            simp only [List.length_append, List.length_cons, List.length_nil]; omega
          · intro c hc
            rcases List.mem_append.1 hc with hc | hc
            · exact h.fs c hc
            · simp only [List.mem_singleton] at hc
              subst hc
              exact hn
      · exact ⟨⟨h.map.put _ _, hp, by show σ.n + 1 ≤ _; omega, h.lim, h.fu, h.inp, h.len, h.fs⟩, fun h => h⟩
    · have hr := rdsV_ok (c := cntD σ.D w0) (w0 := w0) h.inp h.lim h.fu h3
      exact ⟨⟨h.map.put _ _, hp, by show σ.n + 1 ≤ _; omega, hr.2.1, hr.2.2, hr.1, h.len, h.fs⟩, fun h => h⟩
abbrev rdP (σ : PT) (w0 : ByteArray) (wt : List ByteArray) : PT := ⟨(rdsV σ.inp σ.lim σ.fu (cntD σ.D w0) w0 wt).1, (rdsV σ.inp σ.lim σ.fu (cntD σ.D w0) w0 wt).2.1, (rdsV σ.inp σ.lim σ.fu (cntD σ.D w0) w0 wt).2.2.1, σ.fs, σ.n + 1, σ.D.put (.string w0.data.toList) (.lit (.int .i64 (cntD σ.D w0 + 1)))⟩
theorem FnM.mono {P : Program} {f : FuncId} {args : List A} {s : List (Option Ob)} {b : Nat} {o : Obj} {R R' : A → List (Option Ob) → Obj → Prop} (h : FnM P f args s b o R) (hr : ∀ x s o, R x s o → R' x s o) : FnM P f args s b o R' := fun H m w vs hs hb hw hv =>
  (h H m w vs hs hb hw hv).mono fun e w' ⟨v, m', r, s', o', h1, h2, h3⟩ => ⟨v, m', r, s', o', h1, hr _ _ _ h2, h3⟩
theorem MFit.isMap {P : Program} {k e : TypeId} {o : Obj} {n : Nat} {D : DataW Unit} (h : MFit P k e o n D) : ∃ es c, o = .map es c := by
  obtain ⟨es, c, hb, -⟩ := h { heap := #[o], tape := fun _ _ => 0, drawn := 0, os := default, output := #[] } 0 (by simp)
  exact ⟨es, c, by simpa using hb⟩
theorem step_ok {σ : PT} {m : Nat} (h : σ.Ok m) (hm : m ≤ 70000) (ln : ByteArray) (hl : ln.size ≤ 70000) : ReadsG ln σ (stepG σ ln).1 (stepG σ ln).2 := by
  refine ⟨(step_valid h ln hl).2, fun b o o0 o1 o2 o4 o5 o6 hf => ?_⟩
  have hn := h.n
  have hmx : σ.n < maxLen := by have : (70000 : Nat) < maxLen := by decide
                                omega
  by_cases h0 : ln.size = 0 ∨ ln[0]? = some 35
  · have e : stepG σ ln = (σ, 0) := if_pos h0
    rw [e]
    refine (reads_skip b o ln _ h0).mono ?_
    rintro r s' o' ⟨rfl, rfl, rfl⟩
    obtain ⟨es, c, rfl⟩ := hf.isMap
    refine ⟨rfl, ?_, es, c, rfl, hf⟩
    rw [aft, if_neg (fun h => h.2 h.1)]
  have hl0 : ln.size ≠ 0 := fun e => h0 (.inl e)
  obtain ⟨z, hz⟩ : ∃ z, ln[0]? = some z := ⟨ln[0]'(by omega), by rw [getElem?_pos]⟩
  have hz35 : z ≠ 35 := fun e => h0 (.inr (by rw [hz, e]))
  obtain ⟨w0, wt, e, g1, g2, g3⟩ := words_ok ln hl
  have es : stepG σ ln = wordG σ w0 wt := by rw [stepG, if_neg h0, e]
  rw [es]
  obtain ⟨c1, c2, c3⟩ := h.cntD w0
  have hcc : 0 ≤ cntD σ.D w0 ∧ cntD σ.D w0 ≤ 1000000 := ⟨c2, by omega⟩
  have haft : ∀ σ' : PT, σ'.fs = σ.fs → aft σ σ' o0 o1 o2 o4 o5 o6 = some o0 :: some o1 :: some o2 :: σ'.job :: some o4 :: some o5 :: (rowT σ.fs ++ [some o6]) := fun σ' hσ => by rw [aft, if_neg (fun h => h.2 (hσ.trans h.1)), hσ]
  unfold wordG
  by_cases hc : w0 = collS
  · subst hc
    rw [if_pos rfl]
    have hbad : (∀ l, numsV wt = some l → l.length ≠ 3) → FnM Tryd.prog 33 [.one (.ptr 3 1 0 0), .one (.v (.string ln)), .one (.v (.map (some b)))] (some o0 :: some o1 :: some o2 :: σ.job :: some o4 :: some o5 :: (rowT σ.fs ++ [some o6])) b o
        (fun r s' o' => r = .one (.v (.int .i64 9)) ∧ s' = aft σ ⟨σ.inp, σ.lim, σ.fu, σ.fs, σ.n + 1, σ.D.put (.string collS.data.toList) (.lit (.int .i64 (cntD σ.D collS + 1)))⟩ o0 o1 o2 o4 o5 o6 ∧ ∃ es c', o' = .map es c' ∧ MFit Tryd.prog 9 3 (.map es c') (σ.n + 1) (σ.D.put (.string collS.data.toList) (.lit (.int .i64 (cntD σ.D collS + 1))))) := fun hb => by
      refine (reads_collBad b o σ.n σ.D ln wt _ _ o0 o1 o2 noB σ.inp σ.lim σ.fu (fcT σ.fs 6) hl hl0 z hz hz35 e g1 g3 hf hmx c1 hcc h.map hb).mono ?_
      rintro r s' o' ⟨rfl, rfl, hx⟩
      exact ⟨rfl, (haft (PT.mk σ.inp σ.lim σ.fu σ.fs (σ.n + 1) (σ.D.put (.string collS.data.toList) (.lit (.int .i64 (cntD σ.D collS + 1))))) rfl).symm, hx⟩
    cases hv : numsV wt with
    | none => exact hbad (by rw [hv]; intro l h; cases h)
    | some l =>
      match l, hv with
      | [x, y, z9], hv =>
        simp only
        by_cases hfull : σ.fs.length = 1000
        · rw [if_pos hfull]
          have hfs : σ.fs ≠ [] := fun e => by rw [e] at hfull; cases hfull
          have e1 : rowT σ.fs = [some ⟨48, 3, fC σ.fs⟩] := if_neg hfs
          have e2 : fcT σ.fs 6 = .ms 6 σ.fs.length := if_neg hfs
          have := reads_collF b o σ.n σ.D ln wt _ o0 o1 o2 noB σ.inp σ.lim σ.fu hl hl0 z hz hz35 e g1 g3 hf hmx c1 hcc h.map o4 o5 o6 σ.fs hfull x y z9 hv
          rw [PT.job, e1, e2]
          refine this.mono ?_
          rintro r s' o' ⟨rfl, rfl, hx⟩
          exact ⟨rfl, by have q := (haft (PT.mk σ.inp σ.lim σ.fu σ.fs (σ.n + 1) (σ.D.put (.string collS.data.toList) (.lit (.int .i64 (cntD σ.D collS + 1))))) rfl).symm; simp only [PT.job, e1, e2] at q; exact q, hx⟩
        · rw [if_neg hfull]
          have hle := h.len
          by_cases hfs : σ.fs = []
          · have e1 : rowT σ.fs = [] := if_pos hfs
            have e2 : fcT σ.fs 6 = nilS := if_pos hfs
            have := reads_collA b o σ.n σ.D ln wt _ o0 o1 o2 noB σ.inp σ.lim σ.fu hl hl0 z hz hz35 e g1 g3 hf hmx c1 hcc h.map o4 o5 o6 x y z9 hv
            rw [PT.job, e1, e2]
            refine this.mono ?_
            rintro r s' o' ⟨rfl, rfl, hx⟩
            refine ⟨rfl, ?_, hx⟩
            rw [aft, if_pos ⟨hfs, by simp⟩, hfs]
            simp [rowT]
          · have e1 : rowT σ.fs = [some ⟨48, 3, fC σ.fs⟩] := if_neg hfs
            have e2 : fcT σ.fs 6 = .ms 6 σ.fs.length := if_neg hfs
            have := reads_collB b o σ.n σ.D ln wt _ o0 o1 o2 noB σ.inp σ.lim σ.fu hl hl0 z hz hz35 e g1 g3 hf hmx c1 hcc h.map o4 o5 o6 σ.fs (by omega) x y z9 hv
            rw [PT.job, e1, e2]
            refine this.mono ?_
            rintro r s' o' ⟨rfl, rfl, hx⟩
            refine ⟨rfl, ?_, hx⟩
            rw [aft, if_neg (by simp [hfs]), PT.job]
            simp [rowT, fcT, fC_snoc]
      | [], hv => exact hbad (by rw [hv]; intro l h; cases h; decide)
      | [_], hv => exact hbad (by rw [hv]; intro l h; cases h; simp)
      | [_, _], hv => exact hbad (by rw [hv]; intro l h; cases h; simp)
      | _ :: _ :: _ :: _ :: _, hv => exact hbad (by rw [hv]; intro l h; cases h; simp)
  · rw [if_neg hc]
    have fin0 : ∀ {R : A → List (Option Ob) → Obj → Prop}, FnM Tryd.prog 33 [.one (.ptr 3 1 0 0), .one (.v (.string ln)), .one (.v (.map (some b)))] (some o0 :: some o1 :: some o2 :: σ.job :: some o4 :: some o5 :: (rowT σ.fs ++ [some o6])) b o R → True := fun _ => trivial
    by_cases h1 : w0 = inS
    · subst h1
      refine (reads_in b o σ.n σ.D ln wt _ _ o0 o1 o2 noB σ.inp σ.lim σ.fu (fcT σ.fs 6) hl hl0 z hz hz35 e g1 g3 hf hmx c1 hcc h.map).mono ?_
      rintro r s' o' ⟨rfl, rfl, hx⟩
      exact ⟨rfl, (haft (rdP σ inS wt) rfl).symm, hx⟩
    by_cases h2 : w0 = limitS
    · subst h2
      refine (reads_limG b o σ.n σ.D ln wt _ _ o0 o1 o2 noB σ.inp σ.lim σ.fu (fcT σ.fs 6) hl hl0 z hz hz35 e g1 g3 hf hmx c1 hcc h.map).mono ?_
      rintro r s' o' ⟨rfl, rfl, hx⟩
      exact ⟨rfl, (haft (rdP σ limitS wt) rfl).symm, hx⟩
    by_cases h3 : w0 = fuelS
    · subst h3
      refine (reads_fuG b o σ.n σ.D ln wt _ _ o0 o1 o2 noB σ.inp σ.lim σ.fu (fcT σ.fs 6) hl hl0 z hz hz35 e g1 g3 hf hmx c1 hcc h.map).mono ?_
      rintro r s' o' ⟨rfl, rfl, hx⟩
      exact ⟨rfl, (haft (rdP σ fuelS wt) rfl).symm, hx⟩
    have er : rdsV σ.inp σ.lim σ.fu (cntD σ.D w0) w0 wt = (σ.inp, σ.lim, σ.fu, 9) := by rw [rdsV, if_neg h1, if_neg h2, if_neg h3]
    rw [er]
    obtain ⟨oj, hoj⟩ : ∃ oj : Ob, σ.job = some oj := ⟨_, rfl⟩
    rw [hoj]
    refine (reads_other b o σ.n σ.D ln w0 wt _ _ o0 o1 o2 oj hl hl0 z hz hz35 e g2 g1 hf hmx c1 hcc h.map h1 h2 h3 hc).mono ?_
    rintro r s' o' ⟨rfl, rfl, hx⟩
    exact ⟨rfl, (congrArg (fun q => some o0 :: some o1 :: some o2 :: q :: some o4 :: some o5 :: (rowT σ.fs ++ [some o6])) hoj.symm).trans (haft (PT.mk σ.inp σ.lim σ.fu σ.fs (σ.n + 1) (σ.D.put (.string w0.data.toList) (.lit (.int .i64 (cntD σ.D w0 + 1))))) rfl).symm, hx⟩
def runG : Nat → List UInt8 → Nat → PT → PResG
  | 0, _, _, σ => ⟨noB, σ.inp, σ.lim, σ.fu, σ.fs, 0, 0⟩
  | m + 1, t, i, σ => if t = [] then ⟨noB, σ.inp, σ.lim, σ.fu, σ.fs, 0, 0⟩ else
    if tB (Lib.cut t [10]).1 = progS then ⟨tB (Lib.cut t [10]).2.1, σ.inp, σ.lim, σ.fu, σ.fs, 0, 0⟩ else
    if (stepG σ (tB (Lib.cut t [10]).1)).2 = 0 then runG m (Lib.cut t [10]).2.1 (i + 1) (stepG σ (tB (Lib.cut t [10]).1)).1 else ⟨noB, noB, 0, 0, [], i, (stepG σ (tB (Lib.cut t [10]).1)).2⟩
def PResG.job (r : PResG) : Jb := ⟨r.src, r.inp, r.lim, r.fu, r.fs⟩
def pt0 : PT := ⟨noB, 0, 0, [], 0, .map []⟩
def parseR (s : ByteArray) : PResG := if 65536 < s.size then ⟨noB, noB, 0, 0, [], 0, 12⟩ else runG s.size s.data.toList 1 pt0
theorem cut_len (t : List UInt8) : (Lib.cut t [10]).1.length ≤ t.length ∧ (t ≠ [] → (Lib.cut t [10]).2.1.length < t.length) := by
  unfold Lib.cut
  split
  · refine ⟨by simp; omega, fun h => ?_⟩
    have : 0 < t.length := List.length_pos_iff.2 h
    simp only [List.length_drop, List.length_cons, List.length_nil]; omega
  · exact ⟨Nat.le_refl _, fun h => List.length_pos_iff.2 h⟩
theorem tB_list (l : List UInt8) : (tB l).data.toList = l := by simp [tB]
theorem run_ok : ∀ (m : Nat) (t : List UInt8) (i : Nat) (σ : PT), t.length ≤ m → m ≤ 70000 → σ.Ok (70000 - m) → (∃ k, k ≤ m ∧ PRunG k (tB t) i σ (runG m t i σ)) ∧ (runG m t i σ).job.Ok
  | 0, t, i, σ, ht, hm, h => by
    obtain rfl : t = [] := List.eq_nil_of_length_eq_zero (by omega)
    exact ⟨⟨0, Nat.le_refl _, .done i σ⟩, ⟨by show noB.size ≤ _; decide, h.inp, h.lim, h.fu, Nat.le_trans h.len (by omega), h.fs⟩⟩
  | m + 1, t, i, σ, ht, hm, h => by
    rw [runG]
    by_cases h0 : t = []
    · subst h0
      rw [if_pos rfl]
      exact ⟨⟨0, Nat.zero_le _, .done i σ⟩, ⟨by show noB.size ≤ _; decide, h.inp, h.lim, h.fu, Nat.le_trans h.len (by omega), h.fs⟩⟩
    rw [if_neg h0]
    have hts : (tB t).size ≤ 70000 := by rw [tB_size]; omega
    have hne : ((tB t).toList == noB.toList) = false := by
      rw [strDec, decide_eq_false fun e => h0 ?_]
      have := (size_nil _).1 e
      rw [tB_size] at this
      exact List.eq_nil_of_length_eq_zero this
    obtain ⟨c1, c2⟩ := cut_len t
    have c2 := c2 h0
    have hcut : Lib.cut (tB t).data.toList [10] = ((tB (Lib.cut t [10]).1).data.toList, (tB (Lib.cut t [10]).2.1).data.toList, (Lib.cut t [10]).2.2) := by rw [tB_list, tB_list, tB_list]
    have hls : (tB (Lib.cut t [10]).1).size ≤ 70000 := by rw [tB_size]; omega
    by_cases hp : tB (Lib.cut t [10]).1 = progS
    · rw [if_pos hp]
      rw [hp] at hcut
      exact ⟨⟨0, Nat.zero_le _, .prog hts hne hcut⟩, ⟨by show (tB _).size ≤ _; rw [tB_size]; omega, h.inp, h.lim, h.fu, Nat.le_trans h.len (by omega), h.fs⟩⟩
    rw [if_neg hp]
    have hpl : ((tB (Lib.cut t [10]).1).toList == progS.toList) = false := by rw [strDec]; exact decide_eq_false hp
    have hr := step_ok h (by omega) (tB (Lib.cut t [10]).1) hls
    have hv := (step_valid h (tB (Lib.cut t [10]).1) hls).1
    rw [show 70000 - (m + 1) + 1 = 70000 - m by omega] at hv
    by_cases he : (stepG σ (tB (Lib.cut t [10]).1)).2 = 0
    · rw [if_pos he]
      rw [he] at hr
      obtain ⟨⟨k, hk, hrun⟩, hok⟩ := run_ok m (Lib.cut t [10]).2.1 (i + 1) _ (by omega) (by omega) hv
      exact ⟨⟨k + 1, by omega, .line hts hne hcut hpl hr hrun⟩, hok⟩
    · rw [if_neg he]
      exact ⟨⟨0, Nat.zero_le _, .bad hts hne hcut hpl hr (by simpa using he)⟩, ⟨by show noB.size ≤ _; decide, by show noB.size ≤ _; decide, i64_zero, i64_zero, by simp [PResG.job], by simp [PResG.job]⟩⟩
theorem pt0_ok : pt0.Ok 0 := ⟨Maps.isMap_empty, fun l => ⟨0, rfl, Nat.le_refl _⟩, Nat.le_refl _, i64_zero, i64_zero, by show noB.size ≤ _; decide, Nat.zero_le _, by simp [pt0]⟩
theorem PT.Ok.mono {σ : PT} {m n : Nat} (h : σ.Ok m) (hm : m ≤ n) : σ.Ok n := ⟨h.map, h.cnt, Nat.le_trans h.n hm, h.lim, h.fu, h.inp, h.len, h.fs⟩
/-- Parse, at any text: what it answers, and that its job is one. -/
theorem parse_all (s : ByteArray) : Pure Tryd.prog 20 [.one (.v (.string s))] (.tup [.agg (parseR s).job.cs, .one (.v (.int .i64 (parseR s).num)), .one (.v (.int .i64 (parseR s).err))]) ∧ (parseR s).job.Ok := by
  by_cases hs : 65536 < s.size
  · have e : parseR s = ⟨noB, noB, 0, 0, [], 0, 12⟩ := if_pos hs
    rw [e]
    refine ⟨?_, ⟨by show noB.size ≤ _; decide, by show noB.size ≤ _; decide, i64_zero, i64_zero, by simp [PResG.job], by simp [PResG.job]⟩⟩
    have hd : decide ((65536 : Int) < (s.size : Int)) = true := decide_eq_true (by omega)
    have hd' : decide ((s.size : Int) > 65536) = true := decide_eq_true (by omega)
    refine Fn.intro Tryd.func20 rfl Tryd.ntmps20 Tryd.results20 (by simp only [List.length_cons, List.length_nil]; decide) ?_
    repeat (first | (apply fw; focus ((with_reducible constructor) <;> rfl)) | (apply WpA.cd; focus constructor) | ((first | with_reducible refine WpA.go _ rfl fun Y y => ?_ | apply RunTo.id); simp only [zb, seval, w20, txtA, hd, hd']; refine RunTo.fn y (by first | exact trivial | omega | (simp; done) | (simp; omega)) ?_; clear y Y))
    refine ⟨by simp, _, _, _, _, (by simp only [zb, seval, w20]; rfl), (by simp), (by simp only [zv]; rfl), (by simp), _, (ALe.tup (ALes.cons (ALe.agg (by simp only [PResG.job, Jb.cs, fC, List.map_nil]; repeat (first | exact CLes.refl _ | refine CLes.nil ?_ | refine CLes.cons ?_))) (ALes.refl _))), rfl⟩
  · have e : parseR s = runG s.size s.data.toList 1 pt0 := if_neg hs
    have hl : s.data.toList.length = s.size := Array.length_toList
    obtain ⟨⟨k, hk, hrun⟩, hok⟩ := run_ok s.size s.data.toList 1 pt0 (by omega) (by omega) (pt0_ok.mono (Nat.zero_le _))
    rw [← e] at hrun hok
    exact ⟨parseG_pure s (by omega) k _ hrun (by omega), hok⟩
theorem index_at : ∀ (w r : List UInt8) (c : UInt8), c ∉ w → Lib.index (w ++ c :: r) [c] = w.length
  | [], r, c, _ => by simp [Lib.index, List.isPrefixOf]
  | b :: w, r, c, h => by
    have hb : c ≠ b := fun e => h (by simp [e])
    have ih := index_at w r c fun e => h (by simp [e])
    rw [List.cons_append, Lib.index, ih]
    rw [if_neg (by simp [List.isPrefixOf, hb]), if_neg (by simp)]
    simp
theorem index_no : ∀ (w : List UInt8) (c : UInt8), c ∉ w → Lib.index w [c] = -1
  | [], c, _ => by simp [Lib.index]
  | b :: w, c, h => by
    have hb : c ≠ b := fun e => h (by simp [e])
    have ih := index_no w c fun e => h (by simp [e])
    rw [Lib.index, ih, if_neg (by simp [List.isPrefixOf, hb])]; simp
theorem cut_at (w r : List UInt8) (h : 10 ∉ w) : Lib.cut (w ++ 10 :: r) [10] = (w, r, true) := by
  rw [Lib.cut, index_at w r 10 h, if_pos (by omega)]
  simp
/-- A first word, and words behind it. -/
def joinW (w : List UInt8) (ws : List (List UInt8)) : List UInt8 := w ++ ws.flatMap fun x => 32 :: x
theorem joinW_cons (w x : List UInt8) (ws : List (List UInt8)) : joinW w (x :: ws) = w ++ 32 :: joinW x ws := by simp [joinW]
theorem words_join : ∀ (ws : List (List UInt8)) (w : List UInt8), 32 ∉ w → (∀ x ∈ ws, 32 ∉ x) → wordsB (tB (joinW w ws)) = tB w :: ws.map tB
  | [], w, h, _ => by
    have hi : Lib.indexB (tB w) ⟨#[32]⟩ = -1 := by
      show Lib.index (tB w).data.toList [32] = -1
      rw [tB_list]; exact index_no w 32 h
    have e : joinW w [] = w := by simp [joinW]
    rw [e, wordsB, Lib.countB_miss _ _ hi, Lib.splitB_zero]; rfl
  | x :: ws, w, h, hx => by
    have ih := words_join ws x (hx x (by simp)) fun y hy => hx y (by simp [hy])
    have hi : Lib.indexB (tB (joinW w (x :: ws))) ⟨#[32]⟩ = (w.length : Int) := by
      show Lib.index (tB (joinW w (x :: ws))).data.toList [32] = _
      rw [tB_list, joinW_cons]; exact index_at w _ 32 h
    have hex : (tB (joinW w (x :: ws))).extract (w.length + (⟨#[32]⟩ : ByteArray).size) (tB (joinW w (x :: ws))).size = tB (joinW x ws) := by
      rw [tB_size, tB_drop, joinW_cons]
      show tB ((w ++ 32 :: joinW x ws).drop (w.length + 1)) = _
      congr 1
      rw [show w ++ 32 :: joinW x ws = (w ++ [32]) ++ joinW x ws by simp]
      rw [List.drop_append_of_le_length (by simp)]
      simp
    rw [wordsB, Lib.countB_hit _ _ _ (by decide) hi, Nat.add_comm 1, Lib.splitB_hit _ _ _ _ _ hi, hex, Nat.add_zero, tB_take, joinW_cons]
    rw [show Lib.splitB ⟨#[32]⟩ 0 (Lib.countB (tB (joinW x ws)) ⟨#[32]⟩) (tB (joinW x ws)) = wordsB (tB (joinW x ws)) from rfl, ih]
    simp
theorem dec_chars (n : Nat) : ∀ c ∈ Lib.decDigits n, 48 ≤ c.toNat ∧ c.toNat ≤ 57 := by
  induction n using Nat.strongRecOn with
  | _ n ih =>
    intro c hc
    have hd : ∀ k : Nat, k < 10 → (UInt8.ofNat (48 + k)).toNat = 48 + k := fun k hk => by rw [UInt8.toNat_ofNat']; omega
    rw [Lib.decDigits] at hc
    split at hc
    · rename_i h
      simp only [List.mem_singleton] at hc
      subst hc; rw [hd n h]; omega
    · rename_i h
      rcases List.mem_append.1 hc with hc | hc
      · exact ih (n / 10) (by omega) c hc
      · simp only [List.mem_singleton] at hc
        subst hc; rw [hd (n % 10) (by omega)]; omega
theorem itoa_chars (n : Int) : ∀ c ∈ Lib.itoa n, c ≠ 32 ∧ c ≠ 10 := by
  intro c hc
  have key : ∀ k, c ∈ Lib.decDigits k → c ≠ 32 ∧ c ≠ 10 := fun k h => by
    have := dec_chars k c h
    constructor <;> (rintro rfl; simp at this)
  unfold Lib.itoa at hc
  split at hc
  · rcases List.mem_cons.1 hc with rfl | hc
    · decide
    · exact key _ hc
  · exact key _ hc
theorem parseM_dec (n : Nat) : ∀ r, n < 18446744073709551616 → Lib.parseUintM (2 ^ 64 - 1) 0 (Lib.decDigits n ++ r) = Lib.parseUintM (2 ^ 64 - 1) n r := by
  induction n using Nat.strongRecOn with
  | _ n ih =>
    intro r hn
    have hd : ∀ k : Nat, k < 10 → (UInt8.ofNat (48 + k)).toNat = 48 + k := fun k hk => by rw [UInt8.toNat_ofNat']; omega
    rw [Lib.decDigits]
    split
    · rename_i h
      rw [List.singleton_append, Lib.parseUintM, hd n h, if_pos (by omega), if_neg (by omega), if_neg (by omega)]
      congr 1; omega
    · rename_i h
      rw [List.append_assoc, ih (n / 10) (by omega) _ (by omega), List.singleton_append, Lib.parseUintM, hd (n % 10) (by omega), if_pos (by omega), if_neg (by omega), if_neg (by omega)]
      congr 1; omega
theorem dec_ne (n : Nat) : Lib.decDigits n ≠ [] := by
  rw [Lib.decDigits]; split <;> simp
theorem parseB_dec (n : Nat) (hn : n < 18446744073709551616) : Lib.parseUintB 64 (Lib.decDigits n) = .ok n := by
  rw [Lib.parseUintB, if_neg (dec_ne n)]
  have := parseM_dec n [] hn
  rw [List.append_nil] at this
  rw [this, Lib.parseUintM]
theorem parseI_itoa (v : Int) (h : I64 v) : Lib.parseIntB 64 (Lib.itoa v) = .ok v := by
  obtain ⟨h0, h1⟩ := h
  unfold Lib.itoa
  split
  · rename_i hn
    have := parseB_dec v.natAbs (by omega)
    rw [Lib.parseIntB]
    have e45 : (45 : UInt8).toNat = 45 := rfl
    simp only [e45, or_true, if_true, this]
    rw [if_neg (by simp), if_neg (by simp; omega)]
    congr 1; omega
  · rename_i hn
    have := parseB_dec v.toNat (by omega)
    cases hd : Lib.decDigits v.toNat with
    | nil => exact absurd hd (dec_ne _)
    | cons c r =>
      have hc := dec_chars v.toNat c (by rw [hd]; simp)
      rw [hd] at this
      rw [Lib.parseIntB]
      (try simp only)
      rw [if_neg (by omega), this]
      (try simp only)
      rw [if_neg (by simp; omega), if_neg (by omega), if_neg (by omega)]
      congr 1; omega
theorem numW_itB (v : Int) (h : I64 v) : numW (itB v) = some v := by
  have e : (itB v).data.toList = Lib.itoa v := by simp [itB]
  rw [numW, e, parseI_itoa v h]
  exact if_pos rfl
theorem numsV_itB : ∀ (l : List Int), (∀ n ∈ l, I64 n) → numsV (l.map itB) = some l
  | [], _ => rfl
  | n :: l, h => by
    rw [List.map_cons, numsV, numW_itB n (h n (by simp)), numsV_itB l fun m hm => h m (by simp [hm])]
    rfl
theorem unhex_hex : ∀ (b : List UInt8), unhexL (hexL b) = some (b, [])
  | [] => rfl
  | c :: b => by
    have e : hexL (c :: b) = hexN (c.toNat / 16) :: hexN (c.toNat % 16) :: hexL b := by simp [hexL]
    have hc := c.toNat_lt
    rw [e, unhexL, hexV_N (by omega), hexV_N (by omega), if_neg (by omega), unhex_hex b]
    simp only [Option.map_some, Option.some.injEq, Prod.mk.injEq, List.cons.injEq, and_true]
    apply UInt8.toNat_inj.1
    rw [UInt8.toNat_ofNat']
    omega
theorem hex_chars (b : List UInt8) : ∀ c ∈ hexL b, c ≠ 32 ∧ c ≠ 10 := by
  intro c hc
  simp only [hexL, List.mem_flatMap] at hc
  obtain ⟨x, -, hx⟩ := hc
  have h2 : ∀ n : Fin 16, hexN n.val ≠ 32 ∧ hexN n.val ≠ 10 := by decide +kernel
  have hxl := x.toNat_lt
  rcases List.mem_cons.1 hx with rfl | hx
  · exact h2 ⟨x.toNat / 16, by omega⟩
  · simp only [List.mem_singleton] at hx
    subst hx
    exact h2 ⟨x.toNat % 16, by omega⟩
theorem lineL_list : ∀ (l : List Int) (w : ByteArray), (lineL w l).data.toList = joinW w.data.toList (l.map Lib.itoa)
  | [], w => by simp [lineL, joinW]
  | n :: l, w => by
    rw [lineL, lineL_list l]
    simp [joinW, itB, ByteArray.data_append]
theorem nlB_list (w : ByteArray) (l : List Int) : (nlB w l).data.toList = joinW w.data.toList (l.map Lib.itoa) ++ [10] := by
  rw [nlB, ByteArray.data_append, Array.toList_append, lineL_list]
def lineB (w : List UInt8) (l : List Int) : List UInt8 := joinW w (l.map Lib.itoa)
def colsL (fs : List Co) : List UInt8 := fs.flatMap fun c => lineB collS.data.toList c.l ++ [10]
theorem colsB_list : ∀ (fs : List Co) (s : ByteArray), (colsB wColl s fs).data.toList = s.data.toList ++ colsL fs
  | [], s => by simp [colsB, colsL]
  | c :: fs, s => by
    rw [colsB, colsB_list fs, ByteArray.data_append, Array.toList_append, nlB_list]
    simp [colsL, lineB, wColl, collS]
theorem join_no10 {w : List UInt8} {ws : List (List UInt8)} (h : 10 ∉ w) (hs : ∀ x ∈ ws, 10 ∉ x) : 10 ∉ joinW w ws := by
  intro hm
  rcases List.mem_append.1 hm with h1 | h1
  · exact h h1
  · obtain ⟨x, hx, h2⟩ := List.mem_flatMap.1 h1
    rcases List.mem_cons.1 h2 with h3 | h3
    · exact absurd h3 (by decide)
    · exact hs x hx h3
theorem itoas_no (l : List Int) : (∀ x ∈ l.map Lib.itoa, 32 ∉ x) ∧ ∀ x ∈ l.map Lib.itoa, 10 ∉ x := by
  constructor <;> (intro x hx hm; obtain ⟨n, -, rfl⟩ := List.mem_map.1 hx; have := itoa_chars n _ hm; simp at this)
theorem run_line {m i : Nat} {a r : List UInt8} {σ : PT} (ha : 10 ∉ a) (hp : tB a ≠ progS) (he : (stepG σ (tB a)).2 = 0) (hm : (a ++ 10 :: r).length ≤ m) : ∃ m', r.length ≤ m' ∧ runG m (a ++ 10 :: r) i σ = runG m' r (i + 1) (stepG σ (tB a)).1 := by
  simp only [List.length_append, List.length_cons] at hm
  obtain ⟨m', rfl⟩ : ∃ m', m = m' + 1 := ⟨m - 1, by omega⟩
  refine ⟨m', by omega, ?_⟩
  rw [runG, if_neg (by simp), cut_at a r ha]
  simp only
  rw [if_neg hp, if_pos he]
theorem step_words {σ : PT} {w : List UInt8} {ws : List (List UInt8)} {z : UInt8} (h0 : w[0]? = some z) (hz : z ≠ 35) (hw : 32 ∉ w) (hs : ∀ x ∈ ws, 32 ∉ x) : stepG σ (tB (joinW w ws)) = wordG σ (tB w) (ws.map tB) := by
  have hwn : w ≠ [] := by rintro rfl; simp at h0
  have h1 : (tB (joinW w ws)).size ≠ 0 := by
    rw [tB_size, joinW, List.length_append]
    have := List.length_pos_iff.2 hwn
    omega
  have h2 : (tB (joinW w ws))[0]? = some z := by
    rw [tB_get, joinW, List.getElem?_append_left (List.length_pos_iff.2 hwn)]; exact h0
  rw [stepG, if_neg (by rw [h2]; simp [h1, hz]), words_join ws w hw hs]
theorem map_itB (l : List Int) : (l.map Lib.itoa).map tB = l.map itB := by simp [itB, tB]
theorem cnt_other (D : DataW Unit) (w w' : ByteArray) (d : DataW Unit) (h : w' ≠ w) : cntD (D.put (.string w.data.toList) d) w' = cntD D w' := by
  have hne : (Lit.string w'.data.toList) ≠ Lit.string w.data.toList := fun e => h (ByteArray.ext (Array.toList_inj.1 (by simpa using e)))
  unfold cntD
  rw [Maps.atKey_put_other hne]
theorem step_limit (σ : PT) (v : Int) (hv : I64 v) (hc : cntD σ.D limitS = 0) : stepG σ (tB (lineB limitS.data.toList [v])) = (⟨σ.inp, v, σ.fu, σ.fs, σ.n + 1, σ.D.put (.string limitS.data.toList) (.lit (.int .i64 (cntD σ.D limitS + 1)))⟩, 0) := by
  rw [lineB, step_words (z := 108) rfl (by decide) (by decide) (itoas_no [v]).1, map_itB, tB_eta, wordG, if_neg (by decide), rdsV_lim, numsV_itB [v] (by simpa using hv)]
  simp [limV, hc]
theorem step_fuel (σ : PT) (v : Int) (hv : I64 v) (hc : cntD σ.D fuelS = 0) : stepG σ (tB (lineB fuelS.data.toList [v])) = (⟨σ.inp, σ.lim, v, σ.fs, σ.n + 1, σ.D.put (.string fuelS.data.toList) (.lit (.int .i64 (cntD σ.D fuelS + 1)))⟩, 0) := by
  rw [lineB, step_words (z := 102) rfl (by decide) (by decide) (itoas_no [v]).1, map_itB, tB_eta, wordG, if_neg (by decide), rdsV_fu, numsV_itB [v] (by simpa using hv)]
  simp [fuV, hc]
theorem step_in (σ : PT) (s : ByteArray) (h : s.size ≠ 0) (hc : cntD σ.D inS = 0) : stepG σ (tB (joinW inS.data.toList [hexL s.data.toList])) = (⟨s, σ.lim, σ.fu, σ.fs, σ.n + 1, σ.D.put (.string inS.data.toList) (.lit (.int .i64 (cntD σ.D inS + 1)))⟩, 0) := by
  have hn : s.data.toList ≠ [] := fun e => h (by have := congrArg List.length e; rw [show s.data.toList.length = s.size from Array.length_toList] at this; exact this)
  rw [step_words (z := 105) rfl (by decide) (by decide) (by intro x hx hm; simp only [List.mem_singleton] at hx; subst hx; have := hex_chars _ _ hm; simp at this), tB_eta, wordG, if_neg (by decide), rdsV_in]
  simp only [List.map_cons, List.map_nil, inV, tB_list, unhex_hex, ubV, tB_eta, hc]
  simp [hn]
theorem step_coll (σ : PT) (c : Co) (hc : ∀ n ∈ c.l, I64 n) (hl : σ.fs.length < 1000) : ∃ D', stepG σ (tB (lineB collS.data.toList c.l)) = (⟨σ.inp, σ.lim, σ.fu, σ.fs ++ [c], σ.n + 1, D'⟩, 0) := by
  refine ⟨σ.D.put (.string collS.data.toList) (.lit (.int .i64 (cntD σ.D collS + 1))), ?_⟩
  rw [lineB, step_words (z := 99) rfl (by decide) (by decide) (itoas_no c.l).1, map_itB, tB_eta, wordG, if_pos rfl, numsV_itB c.l hc]
  simp only [Co.l]
  rw [if_neg (by omega)]
theorem not_prog {w : List UInt8} {ws : List (List UInt8)} {z : UInt8} (h0 : w[0]? = some z) (hz : z ≠ 112) : tB (joinW w ws) ≠ progS := by
  intro e
  have hwn : w ≠ [] := by rintro rfl; simp at h0
  have h2 : (tB (joinW w ws))[0]? = some z := by
    rw [tB_get, joinW, List.getElem?_append_left (List.length_pos_iff.2 hwn)]; exact h0
  rw [e] at h2
  have : progS[0]? = some 112 := by decide
  rw [this] at h2
  exact hz (Option.some.inj h2).symm
theorem run_cols : ∀ (fs : List Co) (σ : PT) (m i : Nat) (r : List UInt8), (∀ c ∈ fs, ∀ n ∈ c.l, I64 n) → σ.fs.length + fs.length ≤ 1000 → (colsL fs ++ r).length ≤ m → ∃ m' i' n' D', r.length ≤ m' ∧ runG m (colsL fs ++ r) i σ = runG m' r i' ⟨σ.inp, σ.lim, σ.fu, σ.fs ++ fs, n', D'⟩
  | [], σ, m, i, r, _, _, hm => ⟨m, i, σ.n, σ.D, by simpa [colsL] using hm, by simp [colsL]⟩
  | c :: fs, σ, m, i, r, hc, hl, hm => by
    simp only [List.length_cons] at hl
    have e : colsL (c :: fs) ++ r = lineB collS.data.toList c.l ++ 10 :: (colsL fs ++ r) := by simp [colsL]
    rw [e] at hm ⊢
    obtain ⟨D1, hs⟩ := step_coll σ c (hc c (by simp)) (by omega)
    obtain ⟨m1, h1, h2⟩ := run_line (i := i) (σ := σ) (join_no10 (by decide) (itoas_no c.l).2) (not_prog (z := 99) rfl (by decide)) (by rw [← lineB, hs]) hm
    rw [← lineB, hs] at h2
    obtain ⟨m2, i2, n2, D2, h3, h4⟩ := run_cols fs ⟨σ.inp, σ.lim, σ.fu, σ.fs ++ [c], σ.n + 1, D1⟩ m1 (i + 1) r (fun x hx => hc x (by simp [hx])) (by simp only [List.length_append, List.length_cons, List.length_nil]; omega) h1
    exact ⟨m2, i2, n2, D2, h3, by rw [h2, h4]; simp⟩
def tailL (src : ByteArray) : List UInt8 := if src.size = 0 then [] else progS.data.toList ++ 10 :: src.data.toList
theorem run_tail (src : ByteArray) (σ : PT) (m i : Nat) (hm : (tailL src).length ≤ m) : runG m (tailL src) i σ = ⟨src, σ.inp, σ.lim, σ.fu, σ.fs, 0, 0⟩ := by
  unfold tailL at hm ⊢
  split
  · rename_i h
    have e : src = noB := (size_nil _).2 h
    rw [e]
    cases m with
    | zero => rfl
    | succ m => rw [runG, if_pos rfl]
  · rename_i h
    rw [if_neg h] at hm
    simp only [List.length_append, List.length_cons] at hm
    obtain ⟨m', rfl⟩ : ∃ m', m = m' + 1 := ⟨m - 1, by omega⟩
    rw [runG, if_neg (by simp), cut_at _ _ (by decide)]
    simp only
    rw [if_pos (tB_eta _), tB_eta]
theorem prT_list (j : Jb) : (prT j).data.toList = lineB limitS.data.toList [j.lim] ++ 10 :: (lineB fuelS.data.toList [j.fu] ++ 10 :: ((if j.inp.size = 0 then [] else joinW inS.data.toList [hexL j.inp.data.toList] ++ [10]) ++ (colsL j.fs ++ tailL j.src))) := by
  have hS : (prS j).data.toList = lineB limitS.data.toList [j.lim] ++ 10 :: (lineB fuelS.data.toList [j.fu] ++ [10]) := by
    rw [prS, ByteArray.data_append, Array.toList_append, nlB_list, nlB_list]
    simp [lineB, wLimit, limitS, wFuel, fuelS]
  have hI : (prI j).data.toList = (prS j).data.toList ++ (if j.inp.size = 0 then [] else joinW inS.data.toList [hexL j.inp.data.toList] ++ [10]) := by
    unfold prI
    split
    · simp
    · rw [ByteArray.data_append, Array.toList_append, nlB_list]
      simp [joinW, wIn, inS, hexB, ByteArray.data_append]
  have hC : (prC j).data.toList = (prI j).data.toList ++ colsL j.fs := colsB_list _ _
  have hT : (prT j).data.toList = (prC j).data.toList ++ tailL j.src := by
    unfold prT tailL
    split
    · simp
    · rw [ByteArray.data_append, Array.toList_append, ByteArray.data_append, Array.toList_append, nlB_list]
      simp [joinW, wProg, progS]
  rw [hT, hC, hI, hS]
  simp
theorem back_run (j : Jb) (hj : j.Ok) (hn : j.fs.length ≤ 1000) (m i : Nat) (hm : (prT j).data.toList.length ≤ m) : runG m (prT j).data.toList i pt0 = ⟨j.src, j.inp, j.lim, j.fu, j.fs, 0, 0⟩ := by
  rw [prT_list] at hm ⊢
  have s1 := step_limit pt0 j.lim hj.lim rfl
  obtain ⟨m1, g1, h1⟩ := run_line (i := i) (σ := pt0) (join_no10 (by decide) (itoas_no [j.lim]).2) (not_prog (z := 108) rfl (by decide)) (by rw [← lineB, s1]) hm
  rw [← lineB, s1] at h1
  rw [h1]
  simp only
  generalize hσ1 : (⟨pt0.inp, j.lim, pt0.fu, pt0.fs, pt0.n + 1, pt0.D.put (.string limitS.data.toList) (.lit (.int .i64 (cntD pt0.D limitS + 1)))⟩ : PT) = σ1
  have c1 : cntD σ1.D fuelS = 0 := by rw [← hσ1]; exact cnt_other pt0.D limitS fuelS _ (by decide)
  have c2 : cntD σ1.D inS = 0 := by rw [← hσ1]; exact cnt_other pt0.D limitS inS _ (by decide)
  have s2 := step_fuel σ1 j.fu hj.fu c1
  obtain ⟨m2, g2, h2⟩ := run_line (i := i + 1) (σ := σ1) (join_no10 (by decide) (itoas_no [j.fu]).2) (not_prog (z := 102) rfl (by decide)) (by rw [← lineB, s2]) g1
  rw [← lineB, s2] at h2
  rw [h2]
  simp only
  have fin : ∀ (σ : PT) (m i : Nat), σ.inp = j.inp → σ.lim = j.lim → σ.fu = j.fu → σ.fs = [] → (colsL j.fs ++ tailL j.src).length ≤ m → runG m (colsL j.fs ++ tailL j.src) i σ = ⟨j.src, j.inp, j.lim, j.fu, j.fs, 0, 0⟩ := fun σ m i e1 e2 e3 e4 hm => by
    obtain ⟨m', i', n', D', h3, h4⟩ := run_cols j.fs σ m i (tailL j.src) hj.fs (by rw [e4]; simpa using hn) hm
    rw [h4, run_tail _ _ _ _ h3, e1, e2, e3, e4]
    simp
  have f1 : σ1.lim = j.lim := by rw [← hσ1]
  have f2 : σ1.fs = [] := by rw [← hσ1]; rfl
  have f3 : σ1.inp = noB := by rw [← hσ1]; rfl
  by_cases h0 : j.inp.size = 0
  · have e : j.inp = noB := (size_nil _).2 h0
    rw [if_pos h0, List.nil_append] at g2 ⊢
    exact fin _ _ _ (by rw [e]; exact f3) f1 rfl f2 g2
  · rw [if_neg h0, List.append_assoc, List.singleton_append] at g2 ⊢
    have s3 := step_in ⟨σ1.inp, σ1.lim, j.fu, σ1.fs, σ1.n + 1, σ1.D.put (.string fuelS.data.toList) (.lit (.int .i64 (cntD σ1.D fuelS + 1)))⟩ j.inp h0 (by rw [cnt_other _ _ _ _ (by decide)]; exact c2)
    obtain ⟨m3, g3, h3⟩ := run_line (i := i + 1 + 1) (join_no10 (ws := [hexL j.inp.data.toList]) (w := inS.data.toList) (by decide) (by intro x hx hm; simp only [List.mem_singleton] at hx; subst hx; have := hex_chars _ _ hm; simp at this)) (not_prog (z := 105) rfl (by decide)) (by rw [s3]) g2
    rw [s3] at h3
    rw [h3]
    exact fin _ _ _ rfl f1 rfl f2 g3
theorem parse_print (j : Jb) (hj : j.Ok) (hn : j.fs.length ≤ 1000) (hs : (prT j).size ≤ 65536) : parseR (prT j) = ⟨j.src, j.inp, j.lim, j.fu, j.fs, 0, 0⟩ := by
  have hl : (prT j).data.toList.length = (prT j).size := Array.length_toList
  rw [parseR, if_neg (by omega)]
  exact back_run j hj hn _ 1 (by omega)
def moreS : ByteArray := ⟨#[35, 32, 109, 111, 114, 101, 10, 10]⟩
theorem parse_more (j : Jb) (hj : j.Ok) (hn : j.fs.length ≤ 1000) (hs : (prT j).size ≤ 65526) : parseR (moreS ++ prT j) = ⟨j.src, j.inp, j.lim, j.fu, j.fs, 0, 0⟩ := by
  have hl : (prT j).data.toList.length = (prT j).size := Array.length_toList
  have h8 : moreS.size = 8 := rfl
  rw [parseR, if_neg (by rw [ByteArray.size_append]; omega)]
  have e : (moreS ++ prT j).data.toList = [35, 32, 109, 111, 114, 101] ++ 10 :: ([] ++ 10 :: (prT j).data.toList) := by rw [ByteArray.data_append, Array.toList_append]; rfl
  rw [e]
  have s1 : stepG pt0 (tB [35, 32, 109, 111, 114, 101]) = (pt0, 0) := if_pos (.inr (by decide))
  have s2 : stepG pt0 (tB []) = (pt0, 0) := if_pos (.inl rfl)
  obtain ⟨m1, g1, h1⟩ := run_line (m := (moreS ++ prT j).size) (i := 1) (σ := pt0) (a := [35, 32, 109, 111, 114, 101]) (r := [] ++ 10 :: (prT j).data.toList) (by decide) (by decide) (by rw [s1]) (by rw [ByteArray.size_append]; simp only [List.length_append, List.length_cons, List.length_nil]; omega)
  rw [h1, s1]
  obtain ⟨m2, g2, h2⟩ := run_line (m := m1) (i := 1 + 1) (σ := pt0) (a := []) (r := (prT j).data.toList) (by decide) (by decide) (by rw [s2]) g1
  rw [h2, s2]
  exact back_run j hj hn _ _ g2
theorem zag_zig (n : Int) : zag (zig n) = n := by
  unfold zig zag
  split <;> split <;> omega
theorem zig_zag (y : Nat) : zig (zag y) = y := by
  unfold zig zag
  split <;> split <;> omega
theorem get9_num : ∀ (x : Nat) (i acc : Nat) (r : List UInt8), x * 128 ^ i < 18446744073709551616 → (i = 0 ∨ x ≠ 0) → get9 i acc (numN x ++ r) = some (acc + x * 128 ^ i, r) := by
  intro x
  induction x using Nat.strongRecOn with
  | _ x ih =>
    intro i acc r hx h0
    have hi : i ≤ 9 := by
      refine Nat.le_of_not_lt fun h => ?_
      have h1 : 128 ^ 10 ≤ 128 ^ i := Nat.pow_le_pow_right (by decide) h
      have h2 : 1 * 128 ^ i ≤ x * 128 ^ i := Nat.mul_le_mul_right _ (by omega)
      omega
    by_cases hb : 127 < x
    · have hi9 : i ≠ 9 := by
        rintro rfl
        have h2 : 128 * 128 ^ 9 ≤ x * 128 ^ 9 := Nat.mul_le_mul_right _ (by omega)
        omega
      have hc : ((x % 128 + 128).toUInt8).toNat = x % 128 + 128 := toU8 (by omega)
      have e1 : x * 128 ^ i = x % 128 * 128 ^ i + x / 128 * 128 ^ (i + 1) := by
        rw [Nat.pow_succ, show x / 128 * (128 ^ i * 128) = (x / 128 * 128) * 128 ^ i by rw [Nat.mul_comm (128 ^ i), Nat.mul_assoc], ← Nat.add_mul]
        congr 1; omega
      rw [numN_big hb, List.cons_append, get9, hc, if_neg (by omega), if_neg (by omega), if_pos (by omega)]
      rw [show (x % 128 + 128) % 128 = x % 128 by omega, ih (x / 128) (by omega) (i + 1) _ r (by omega) (.inr (by omega))]
      rw [e1, Nat.add_assoc]
    · have hc : (x.toUInt8).toNat = x := toU8 (by omega)
      rw [numN_small (by omega), List.singleton_append, get9, hc, if_neg (by omega)]
      rw [if_neg (by
        rintro ⟨rfl, h1⟩
        have h2 : 2 * 128 ^ 9 ≤ x * 128 ^ 9 := Nat.mul_le_mul_right _ (by omega)
        omega)]
      rw [if_neg (by omega), if_neg (by omega), Nat.mod_eq_of_lt (by omega)]
theorem getL_num (n : Int) (h : I64 n) (r : List UInt8) : getL (numN (zig n) ++ r) = some (n, r) := by
  rw [getL, get9_num (zig n) 0 0 r (by simpa using zig_lt n h) (.inl rfl)]
  simp [zag_zig]
theorem get9_inv : ∀ (l : List UInt8) (i acc y : Nat) (r : List UInt8), i ≤ 9 → get9 i acc l = some (y, r) → ∃ x, y = acc + x * 128 ^ i ∧ l = numN x ++ r ∧ (0 < i → x ≠ 0)
  | [], i, acc, y, r, _, h => by simp [get9] at h
  | c :: l, i, acc, y, r, hi, h => by
    rw [get9, if_neg (by omega)] at h
    split at h
    · cases h
    · rename_i h9
      have hcl := c.toNat_lt
      split at h
      · rename_i hb
        have hi9 : i ≠ 9 := fun e => h9 ⟨e, by omega⟩
        obtain ⟨x, h1, h2, h3⟩ := get9_inv l (i + 1) _ y r (by omega) h
        have hx := h3 (by omega)
        refine ⟨c.toNat % 128 + 128 * x, ?_, ?_, fun _ => by omega⟩
        · rw [h1, Nat.pow_succ, Nat.add_mul]
          rw [show x * (128 ^ i * 128) = 128 * x * 128 ^ i by rw [Nat.mul_comm (128 ^ i), ← Nat.mul_assoc, Nat.mul_comm x]]
          omega
        · rw [numN_big (by omega), h2]
          rw [show (c.toNat % 128 + 128 * x) / 128 = x by omega, show (c.toNat % 128 + 128 * x) % 128 + 128 = c.toNat by omega]
          rw [List.cons_append]
          congr 1
          apply UInt8.toNat_inj.1
          rw [toU8 (by omega)]
      · split at h
        · cases h
        · rename_i hz
          cases h
          refine ⟨c.toNat, by rw [Nat.mod_eq_of_lt (by omega)], ?_, fun h => by omega⟩
          rw [numN_small (by omega), List.singleton_append]
          congr 1
          apply UInt8.toNat_inj.1
          rw [toU8 (by omega)]
theorem getL_inv {l r : List UInt8} {n : Int} (h : getL l = some (n, r)) : l = numN (zig n) ++ r := by
  unfold getL at h
  cases hg : get9 0 0 l with
  | none => rw [hg] at h; cases h
  | some p =>
    obtain ⟨y, r'⟩ := p
    rw [hg] at h
    simp only [Option.map_some, Option.some.injEq, Prod.mk.injEq] at h
    obtain ⟨x, h1, h2, -⟩ := get9_inv l 0 0 y r' (by omega) hg
    obtain ⟨rfl, rfl⟩ := h
    rw [zig_zag, h1]
    simpa using h2
theorem putL_cons (n : Int) (l : List Int) : putL (n :: l) = numN (zig n) ++ putL l := by simp [putL]
theorem putL_nil : putL [] = [] := rfl
theorem oneV_put (c : Co) (hc : ∀ n ∈ c.l, I64 n) (r : List UInt8) : oneV (putL c.l ++ r) 0 = (c, r, 0) := by
  have h1 := hc c.s (by simp [Co.l])
  have h2 := hc c.g (by simp [Co.l])
  have h3 := hc c.t (by simp [Co.l])
  have e : putL c.l ++ r = numN (zig c.s) ++ (numN (zig c.g) ++ (numN (zig c.t) ++ r)) := by simp [Co.l, putL_cons, putL_nil]
  rw [e]
  simp only [oneV, numV_some (getL_num c.s h1 _), numV_some (getL_num c.g h2 _), numV_some (getL_num c.t h3 _)]
theorem colV_enc (fs : List Co) (hc : ∀ c ∈ fs, ∀ n ∈ c.l, I64 n) (r : List UInt8) : ∀ k, k ≤ fs.length → colV (encN fs ++ r) 0 k = (fs.take k, encN (fs.drop k) ++ r, 0)
  | 0, _ => by simp [colV]
  | k + 1, h => by
    have e : fs.drop k = fs[k] :: fs.drop (k + 1) := by rw [List.drop_eq_getElem_cons (by omega)]
    have e2 : encN (fs.drop k) ++ r = putL fs[k].l ++ (encN (fs.drop (k + 1)) ++ r) := by rw [e]; simp only [encN, List.flatMap_cons, List.append_assoc]
    rw [colV, colV_enc fs hc r k (by omega)]
    simp only
    rw [e2, oneV_put _ (hc _ (by simp))]
    simp only
    rw [List.take_succ_eq_append_getElem (by omega)]
theorem dec_enc (j : Jb) (hj : j.Ok) (hn : j.fs.length ≤ 1000) (hl : (encL j).length ≤ 65536) : decV (encL j) = (j, 0) := by
  have a1 : j.inp.data.toList.length = j.inp.size := Array.length_toList
  have a2 : j.src.data.toList.length = j.src.size := Array.length_toList
  have hi := hj.inp
  have hs := hj.src
  have e : encL j = numN (zig j.lim) ++ (numN (zig j.fu) ++ (numN (zig (j.inp.size : Int)) ++ (j.inp.data.toList ++ (numN (zig (j.fs.length : Int)) ++ (encN j.fs ++ (numN (zig (j.src.size : Int)) ++ j.src.data.toList)))))) := by
    simp [encL, putL_cons, putL_nil, txtL]
  have hlen := congrArg List.length e
  simp only [List.length_append] at hlen
  rw [e, decV_3 (by rw [← e]; omega) (getL_num j.lim hj.lim _) (getL_num j.fu hj.fu _)]
  have t1 : txV (numN (zig (j.inp.size : Int)) ++ (j.inp.data.toList ++ (numN (zig (j.fs.length : Int)) ++ (encN j.fs ++ (numN (zig (j.src.size : Int)) ++ j.src.data.toList))))) 0 = (j.inp.data.toList, numN (zig (j.fs.length : Int)) ++ (encN j.fs ++ (numN (zig (j.src.size : Int)) ++ j.src.data.toList)), 0) := by
    rw [txV_of (amV_in (getL_num (j.inp.size : Int) (by constructor <;> omega) _) (by simp only [List.length_append]; omega))]
    rw [Int.toNat_natCast, List.take_left' a1, List.drop_left' a1]
  rw [t1]
  simp only
  have hfl : j.fs.length ≤ (encN j.fs).length := by
    have : ∀ fs : List Co, fs.length ≤ (encN fs).length := by
      intro fs
      induction fs with
      | nil => simp
      | cons c fs ih =>
        have h1 : 0 < (putL c.l).length := List.length_pos_iff.2 (by simpa using putL_ne (l := c.l) (by simp [Co.l]) [])
        simp only [encN, List.flatMap_cons, List.length_append, List.length_cons] at ih ⊢
        omega
    exact this _
  rw [amV_in (getL_num (j.fs.length : Int) (by constructor <;> omega) _) (by simp only [List.length_append]; omega), Int.toNat_natCast]
  rw [decW, if_neg (by simp only; omega)]
  simp only
  rw [colV_enc j.fs hj.fs _ _ (Nat.le_refl _)]
  simp only [List.take_length, List.drop_length]
  have t2 : txV (encN [] ++ (numN (zig (j.src.size : Int)) ++ j.src.data.toList)) 0 = (j.src.data.toList, [], 0) := by
    rw [show encN [] ++ (numN (zig (j.src.size : Int)) ++ j.src.data.toList) = numN (zig (j.src.size : Int)) ++ j.src.data.toList from rfl]
    rw [txV_of (amV_in (getL_num (j.src.size : Int) (by constructor <;> omega) _) (by omega))]
    rw [Int.toNat_natCast, List.take_of_length_le (by omega), List.drop_eq_nil_of_le (by omega)]
  rw [t2, if_neg (by simp)]
  rfl
theorem numV_bit (l : List UInt8) (b : Int) (hb : b = 0 ∨ b = 1) : (numV l b).2.2 = 0 ∨ (numV l b).2.2 = 1 := by
  rcases hb with rfl | rfl
  · cases h : getL l with
    | none => rw [numV_none h]; exact .inr rfl
    | some p => obtain ⟨n, r⟩ := p; rw [numV_some h]; exact .inl rfl
  · exact .inr rfl
theorem oneV_inv {l : List UInt8} (h : (oneV l 0).2.2 ≠ 1) : (oneV l 0).2.2 = 0 ∧ l = putL (oneV l 0).1.l ++ (oneV l 0).2.1 ∧ ∀ n ∈ (oneV l 0).1.l, I64 n := by
  cases h1 : getL l with
  | none => exact absurd (by simp only [oneV, numV_none h1, numV_bad]) h
  | some p1 =>
    obtain ⟨x, la⟩ := p1
    cases h2 : getL la with
    | none => exact absurd (by simp only [oneV, numV_some h1, numV_none h2, numV_bad]) h
    | some p2 =>
      obtain ⟨y, lb⟩ := p2
      cases h3 : getL lb with
      | none => exact absurd (by simp only [oneV, numV_some h1, numV_some h2, numV_none h3]) h
      | some p3 =>
        obtain ⟨z, lc⟩ := p3
        have e : oneV l 0 = (⟨x, y, z⟩, lc, 0) := by simp only [oneV, numV_some h1, numV_some h2, numV_some h3]
        rw [e]
        refine ⟨rfl, ?_, ?_⟩
        · rw [getL_inv h1, getL_inv h2, getL_inv h3]
          simp [Co.l, putL_cons, putL_nil]
        · simp only [Co.l, List.mem_cons, List.not_mem_nil, or_false]
          rintro n (rfl | rfl | rfl)
          · exact (getL_ok h1).1
          · exact (getL_ok h2).1
          · exact (getL_ok h3).1
theorem colV_bit (l : List UInt8) : ∀ k, (colV l 0 k).2.2 = 0 ∨ (colV l 0 k).2.2 = 1
  | 0 => .inl rfl
  | k + 1 => by
    have h := colV_bit l k
    show (oneV (colV l 0 k).2.1 (colV l 0 k).2.2).2.2 = 0 ∨ _
    exact numV_bit _ _ (numV_bit _ _ (numV_bit _ _ h))
theorem colV_inv {l : List UInt8} : ∀ {k : Nat}, (colV l 0 k).2.2 ≠ 1 → (colV l 0 k).2.2 = 0 ∧ l = encN (colV l 0 k).1 ++ (colV l 0 k).2.1 ∧ ∀ c ∈ (colV l 0 k).1, ∀ n ∈ c.l, I64 n
  | 0, _ => ⟨rfl, by simp [colV, encN], by simp [colV]⟩
  | k + 1, h => by
    have hk : (colV l 0 k).2.2 ≠ 1 := fun e => h (colV_bad (k := k) e 1)
    obtain ⟨h1, h2, h3⟩ := colV_inv hk
    have e : colV l 0 (k + 1) = ((colV l 0 k).1 ++ [(oneV (colV l 0 k).2.1 0).1], (oneV (colV l 0 k).2.1 0).2) := by rw [colV, h1]
    rw [e] at h ⊢
    obtain ⟨g1, g2, g3⟩ := oneV_inv h
    refine ⟨g1, ?_, ?_⟩
    · simp only
      have : encN ((colV l 0 k).1 ++ [(oneV (colV l 0 k).2.1 0).1]) = encN (colV l 0 k).1 ++ putL (oneV (colV l 0 k).2.1 0).1.l := by simp [encN]
      rw [this, List.append_assoc, ← g2]
      exact h2
    · intro c hc
      rcases List.mem_append.1 hc with hc | hc
      · exact h3 c hc
      · simp only [List.mem_singleton] at hc
        subst hc; exact g3
theorem enc_dec {l : List UInt8} {j : Jb} (h : decV l = (j, 0)) : j.Ok ∧ j.fs.length ≤ 1000 ∧ encL j = l ∧ l.length ≤ 65536 := by
  have h90 : ∀ q : Jb, (jobZ, (9 : Int)) ≠ (q, 0) := fun q e => absurd (congrArg Prod.snd e) (by show (9 : Int) ≠ 0; decide)
  by_cases hbig : 65536 < l.length
  · rw [decV, if_pos hbig] at h
    exact absurd (congrArg Prod.snd h) (by show (12 : Int) ≠ 0; decide)
  cases h1 : getL l with
  | none => rw [decV_1 hbig h1] at h; exact absurd h (h90 j)
  | some p1 =>
  obtain ⟨lim, l1⟩ := p1
  cases h2 : getL l1 with
  | none => rw [decV_2 hbig h1 h2] at h; exact absurd h (h90 j)
  | some p2 =>
  obtain ⟨fu, l2⟩ := p2
  rw [decV_3 hbig h1 h2] at h
  cases h3 : getL l2 with
  | none => rw [decW_tx (by rw [txV, amV_none h3])] at h; exact absurd h (h90 j)
  | some p3 =>
  obtain ⟨n, l3⟩ := p3
  by_cases ho : n < 0 ∨ (l3.length : Int) < n
  · rw [decW_tx (by rw [txV, amV_out h3 ho])] at h; exact absurd h (h90 j)
  rw [txV_of (amV_in h3 ho)] at h
  simp only at h
  cases h4 : getL (l3.drop n.toNat) with
  | none => rw [amV_none h4, decW_bad0] at h; exact absurd h (h90 j)
  | some p4 =>
  obtain ⟨m, l5⟩ := p4
  by_cases hm : m < 0 ∨ (l5.length : Int) < m
  · rw [amV_out h4 hm, decW_bad0] at h; exact absurd h (h90 j)
  rw [amV_in h4 hm, decW] at h
  simp only at h
  by_cases hm1 : 1000 < m.toNat
  · rw [if_pos hm1] at h
    exact absurd (congrArg Prod.snd h) (by show (12 : Int) ≠ 0; decide)
  rw [if_neg hm1] at h
  split at h
  · exact absurd h (h90 j)
  rename_i hgood
  have hg1 : (txV (colV l5 0 m.toNat).2.1 (colV l5 0 m.toNat).2.2).2.2 ≠ 1 := fun e => hgood (.inl e)
  have hg2 : (txV (colV l5 0 m.toNat).2.1 (colV l5 0 m.toNat).2.2).2.1 = [] := Classical.byContradiction fun e => hgood (.inr e)
  have hcb : (colV l5 0 m.toNat).2.2 ≠ 1 := fun e => hg1 (by rw [e]; exact txV_bad _)
  obtain ⟨c1, c2, c3⟩ := colV_inv hcb
  have hck := colV_ok l5 0 m.toNat
  rw [c1] at hg1 hg2 h
  generalize colV l5 0 m.toNat = V at *
  obtain ⟨fs, l', b'⟩ := V
  simp only at *
  cases h6 : getL l' with
  | none => exact absurd (by rw [txV, amV_none h6]) hg1
  | some p6 =>
  obtain ⟨q, s7⟩ := p6
  by_cases hq : q < 0 ∨ (s7.length : Int) < q
  · exact absurd (by rw [txV, amV_out h6 hq]) hg1
  rw [txV_of (amV_in h6 hq)] at hg2 h
  simp only at hg2 h
  have hql : q = (s7.length : Int) := by
    have := congrArg List.length hg2
    simp only [List.length_drop, List.length_nil] at this
    omega
  subst hql
  rw [Int.toNat_natCast, List.take_length] at h
  obtain ⟨rfl, -⟩ := Prod.mk.inj h
  have e1 := getL_inv h1
  have e2 := getL_inv h2
  have e3 := getL_inv h3
  have e4 := getL_inv h4
  have e6 := getL_inv h6
  have hnl : n = ((l3.take n.toNat).length : Int) := by rw [List.length_take]; omega
  have hsp : l3 = l3.take n.toNat ++ l3.drop n.toNat := (List.take_append_drop _ _).symm
  have hml : m = (fs.length : Int) := by omega
  have hlen1 := congrArg List.length e1
  have hlen2 := congrArg List.length e2
  have hlen3 := congrArg List.length e3
  have hlen4 := congrArg List.length e4
  have hlen5 := congrArg List.length c2
  have hlen6 := congrArg List.length e6
  simp only [List.length_append, List.length_drop] at hlen1 hlen2 hlen3 hlen4 hlen5 hlen6
  refine ⟨⟨?_, ?_, (getL_ok h1).1, (getL_ok h2).1, ?_, c3⟩, ?_, ?_, by omega⟩
  · show (tB s7).size ≤ _; rw [tB_size]; omega
  · show (tB (l3.take n.toNat)).size ≤ _; rw [tB_size, List.length_take]; omega
  · show fs.length ≤ 1200; omega
  · show fs.length ≤ 1000; omega
  · simp only [encL, putL_cons, putL_nil, txtL, tB_size, tB_list, List.append_nil]
    rw [e1, e2, e3, ← hnl, ← hml]
    simp only [List.append_assoc]
    rw [← e6, ← c2, ← e4, ← hsp]
end Go.Proofs.YtdcmihhcpgkgiaaDoor
end
