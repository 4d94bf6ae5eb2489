/-
  Laid together: Tell27, RTell27.
-/
import Derived.Test.YtdcmihhcpgkgiaaDoorG7

section
namespace Go.Proofs.YtdcmihhcpgkgiaaDoor
open Go Go.RowKit Go.Lib
set_option linter.unusedSimpArgs false
set_option linter.unusedVariables false
set_option maxHeartbeats 4000000
set_option maxRecDepth 100000
/-- What came of a job. -/
structure Rs where
  out : ByteArray
  err : Int
  pl : Int
  st : Int
  log : List Co
theorem strDec (a b : ByteArray) : (a.toList == b.toList) = decide (a = b) := by
  rw [ByteArray.toList_eq, ByteArray.toList_eq]
  rw [Bool.eq_iff_iff, beq_iff_eq, decide_eq_true_eq]
  constructor
  · intro h; exact ByteArray.ext (Array.toList_inj.1 h)
  · rintro rfl; rfl
theorem size_nil (a : ByteArray) : a = ⟨#[]⟩ ↔ a.size = 0 := by
  constructor
  · rintro rfl; rfl
  · intro h; exact ByteArray.ext (Array.eq_empty_of_size_eq_zero h)
def Rs.cs (r : Rs) : List C := [.v (.string r.out), .v (.int .i64 r.err), .v (.int .i64 r.pl), .v (.int .i64 r.st), .sl 3 (fC r.log)]
structure Rs.Ok (r : Rs) : Prop where
  out : r.out.size ≤ 70000
  err : I64 r.err
  pl : I64 r.pl
  st : I64 r.st
  len : r.log.length ≤ 1200
  log : ∀ c ∈ r.log, ∀ n ∈ c.l, I64 n
def rsOb (r : Rs) : Ob := ⟨31, 5, [r.cs]⟩
def hexB (s : ByteArray) : ByteArray := ⟨(hexL s.data.toList).toArray⟩
theorem hexB_size (s : ByteArray) : (hexB s).size = 2 * s.size := by
  show (hexL s.data.toList).toArray.size = _
  rw [List.size_toArray, hexL_len]; rfl
def nlB (w : ByteArray) (l : List Int) : ByteArray := lineL w l ++ ⟨#[10]⟩
theorem nlB_size (w : ByteArray) (l : List Int) (h : ∀ n ∈ l, I64 n) : (nlB w l).size ≤ w.size + 22 * l.length + 1 := by
  have := lineL_size l w h
  have h1 : (⟨#[10]⟩ : ByteArray).size = 1 := rfl
  rw [nlB, ByteArray.size_append]; omega
def wLog : ByteArray := ⟨#[108, 111, 103]⟩
def wEnd : ByteArray := ⟨#[101, 110, 100]⟩
def wSteps : ByteArray := ⟨#[115, 116, 101, 112, 115]⟩
/-- Lines for collections, behind a text. -/
def colsB (w : ByteArray) : ByteArray → List Co → ByteArray
  | s, [] => s
  | s, c :: l => colsB w (s ++ nlB w c.l) l
theorem colsB_snoc (w : ByteArray) : ∀ (l : List Co) (s : ByteArray) (c : Co), colsB w s (l ++ [c]) = colsB w s l ++ nlB w c.l
  | [], _, _ => rfl
  | _ :: l, _, c => colsB_snoc w l _ c
theorem colsB_take (w s : ByteArray) {l : List Co} {k : Nat} (h : k < l.length) : colsB w s (l.take (k + 1)) = colsB w s (l.take k) ++ nlB w l[k].l := by
  rw [List.take_succ_eq_append_getElem h, colsB_snoc]
theorem colsB_size (w : ByteArray) : ∀ (l : List Co) (s : ByteArray), (∀ c ∈ l, ∀ n ∈ c.l, I64 n) → (colsB w s l).size ≤ s.size + (w.size + 67) * l.length
  | [], s, _ => by simp [colsB]
  | c :: l, s, h => by
    have h1 := colsB_size w l (s ++ nlB w c.l) fun m hm => h m (by simp [hm])
    have h2 := nlB_size w c.l (h c (by simp))
    simp only [Co.l, List.length_cons, List.length_nil] at h2
    simp only [colsB, ByteArray.size_append, List.length_cons, Nat.mul_add, Nat.mul_one, Co.l] at h1 ⊢
    omega
def tellH (r : Rs) : ByteArray := if r.out.size = 0 then ⟨#[111, 117, 116]⟩ else ⟨#[111, 117, 116]⟩ ++ (⟨#[32]⟩ ++ hexB r.out)
def tellS (r : Rs) : ByteArray := tellH r ++ ((⟨#[10]⟩ ++ nlB wEnd [r.err, r.pl]) ++ nlB wSteps [r.st])
def tellA (r : Rs) : ByteArray := colsB wLog (tellS r) r.log
def TellI (r : Rs) (n : Nat) (st : St) : Prop := ∃ k : Nat, n = r.log.length - k ∧ k ≤ r.log.length ∧
  st = ⟨[(32, .one (.v (.int .i64 k))), (31, .one (.v (.int .i64 r.log.length))), (30, .one (.sl 3 (fC r.log))), (3, .one (.v (.string (colsB wLog (tellS r) (r.log.take k))))), (1, .one (.ptr 0 1 0 0))], [some (rsOb r)]⟩
theorem tell_pure (r : Rs) (hr : r.Ok) : Pure Tryd.prog 13 [.agg r.cs] (.one (.v (.string (tellA r)))) := by
  obtain ⟨h1, h2, h3, h4, h5, h6⟩ := hr
  have hfl := fC_len r.log
  refine Fn.intro Tryd.func13 rfl Tryd.ntmps13 Tryd.results13 (by simp only [List.length_cons, List.length_nil]; decide) ?_
  have hx := hexB_size r.out
  have hq1 := nlB_size wEnd [r.err, r.pl] (by simp [h2, h3])
  have hq2 := nlB_size wSteps [r.st] (by simp [h4])
  have z1 : (⟨#[10]⟩ : ByteArray).size = 1 := rfl
  have z2 : (⟨#[32]⟩ : ByteArray).size = 1 := rfl
  have z3 : (⟨#[111, 117, 116]⟩ : ByteArray).size = 3 := rfl
  have z4 : wEnd.size = 3 := rfl
  have z5 : wSteps.size = 5 := rfl
  have z6 : wLog.size = 3 := rfl
  have hts : (tellH r).size ≤ 140010 := by
    unfold tellH; split
    · omega
    · simp only [ByteArray.size_append]; omega
  simp only [List.length_cons, List.length_nil] at hq1 hq2
  have htS : (tellS r).size ≤ 150000 := by unfold tellS; simp only [ByteArray.size_append]; omega
  have hp9 : Pure Tryd.prog 24 [.one (.v (.string r.out))] (.one (.v (.string (hexB r.out)))) := bytes_pure r.out h1
  have lp1 : Pure Tryd.prog 25 [.one (.v (.string ⟨#[101, 110, 100]⟩)), .one (.sl 1 (nC [r.err, r.pl]))] (.one (.v (.string (nlB wEnd [r.err, r.pl])))) := line_pure _ _ (by decide) (by simp) (by simp [h2, h3])
  have lp2 : Pure Tryd.prog 25 [.one (.v (.string ⟨#[115, 116, 101, 112, 115]⟩)), .one (.sl 1 (nC [r.st]))] (.one (.v (.string (nlB wSteps [r.st])))) := line_pure _ _ (by decide) (by simp) (by simp [h4])
  have hcz : ∀ k, (colsB wLog (tellS r) (r.log.take k)).size ≤ 240000 := fun k => by
    have := colsB_size wLog (r.log.take k) (tellS r) fun c hc => h6 c (List.mem_of_mem_take hc)
    rw [List.length_take, z6] at this; omega

  by_cases ho : r.out.size = 0
  · have hoe : (!(r.out.toList == (⟨#[]⟩ : ByteArray).toList)) = false := by rw [strDec, decide_eq_true ((size_nil _).2 ho)]; rfl
    have e0 : tellH r = ⟨#[111, 117, 116]⟩ := by rw [tellH, if_pos ho]
    repeat (first | (apply fw; focus ((with_reducible constructor) <;> rfl)) | (apply WpA.cd; focus constructor) | ((first | with_reducible refine WpA.go _ rfl fun Y y => ?_ | apply RunTo.id); simp only [zb, seval, w13, txtA, Rs.cs, hoe]; refine RunTo.fn y (by first | exact trivial | omega | (simp; done) | (simp; omega)) ?_; clear y Y))
    (refine WpA.draw0 14 _ _ _ rfl rfl rfl (by kernel_rfl) (by kernel_rfl) (by kernel_rfl) fun K8 hK8 => ?_); simp only [zz] at hK8 ⊢; (refine Draw0.go fun K7 hK7 => ?_); simp only [zb, seval, w13, Rs.cs]; (refine RunQ.mk (by first | exact trivial | omega | (simp; done) | (simp; omega)) (hK7 _ _ ?_)); clear hK7 K7; (try ((refine Draw0.nil (hK8 _ ?_)); clear hK8 K8; (refine WpL.go _ rfl fun Y y => ?_); repeat (first | (apply fw; focus ((with_reducible constructor) <;> rfl)) | (apply WpA.cd; focus constructor) | ((first | with_reducible refine WpA.go _ rfl fun Y y => ?_ | apply RunTo.id); simp only [zb, seval, w13, Rs.cs]; refine RunTo.fn y (by first | exact trivial | omega | (simp; done) | (simp; omega)) ?_; clear y Y))))
    refine Draw0.step (OpS.frozen (n := 2) (wd := 1) (ty := 3) (rows := nC [r.err, r.pl]) (OpS.eff [(17, _), (19, _)] rfl (by rfl) ⟨rfl, rfl, trivial⟩ (by simp only [zb, seval, w13]; rfl) (by simp)) rfl (by simp [C.shut, nC])) ?_
    simp only [putE]
    refine Draw0.step (OpS.shut rfl rfl rfl (by kernel_rfl) (ALes.refl _) (by first | rfl | simp [shuts, A.shut, C.shut]) (lp1)) ?_
    (refine Draw0.go fun K7 hK7 => ?_); simp only [zb, seval, w13, Rs.cs]; (refine RunQ.mk (by first | exact trivial | omega | (simp; done) | (simp; omega)) (hK7 _ _ ?_)); clear hK7 K7; (try ((refine Draw0.nil (hK8 _ ?_)); clear hK8 K8; (refine WpL.go _ rfl fun Y y => ?_); repeat (first | (apply fw; focus ((with_reducible constructor) <;> rfl)) | (apply WpA.cd; focus constructor) | ((first | with_reducible refine WpA.go _ rfl fun Y y => ?_ | apply RunTo.id); simp only [zb, seval, w13, Rs.cs]; refine RunTo.fn y (by first | exact trivial | omega | (simp; done) | (simp; omega)) ?_; clear y Y))))
    refine Draw0.step (OpS.frozen (n := 1) (wd := 1) (ty := 3) (rows := nC [r.st]) (OpS.eff [(24, _)] rfl (by rfl) ⟨rfl, trivial⟩ (by simp only [zb, seval, w13]; rfl) (by simp)) rfl (by simp [C.shut, nC])) ?_
    simp only [putE]
    refine Draw0.step (OpS.shut rfl rfl rfl (by kernel_rfl) (ALes.refl _) (by first | rfl | simp [shuts, A.shut, C.shut]) (lp2)) ?_
    (refine Draw0.go fun K7 hK7 => ?_); simp only [zb, seval, w13, txtA, Rs.cs, z1, z4, z5, z2, z3, hx, e0, hfl]; (refine RunQ.mk (by first | exact trivial | omega | (simp; done) | (simp; omega)) (hK7 _ _ ?_)); clear hK7 K7; (try ((refine Draw0.nil (hK8 _ ?_)); clear hK8 K8; (refine WpL.go _ rfl fun Y y => ?_); repeat (first | (apply fw; focus ((with_reducible constructor) <;> rfl)) | (apply WpA.cd; focus constructor) | ((first | with_reducible refine WpA.go _ rfl fun Y y => ?_ | apply RunTo.id); simp only [zb, seval, w13, txtA, Rs.cs, z1, z4, z5, z2, z3, hx, e0, hfl]; refine RunTo.fn y (by first | exact trivial | omega | (simp; done) | (simp; omega)) ?_; clear y Y))))
    refine WpA.loop (TellI r) r.log.length ?_ ⟨0, rfl, Nat.zero_le _, rfl⟩ ?_
    · have e1 : ∀ x y : ByteArray, tellH r = x → tellS r = x ++ ((⟨#[10]⟩ ++ nlB wEnd [r.err, r.pl]) ++ nlB wSteps [r.st]) := fun x y h => by rw [← h]; rfl
      exact Le.sub (by simp [Sub, find, colsB, tellS, e0])
    intro n' st hI
    obtain ⟨k, rfl, hk, rfl⟩ := hI
    have hw2 : IntKind.i64.wrap ((k : Int) + 1) = ((k + 1 : Nat) : Int) := by rw [wrap64 (by omega) (by omega)]; omega
    have hck := hcz k
    by_cases hlt : k < r.log.length
    · have hd3 : decide ((k : Int) < (r.log.length : Int)) = true := by simp; omega
      have hga := fC_get hlt
      have hin := h6 r.log[k] (by simp)
      have hsn := colsB_take wLog (tellS r) hlt
      have hlz := nlB_size wLog r.log[k].l hin
      rw [show r.log[k].l.length = 3 from rfl, z6] at hlz
      have lp3 : Pure Tryd.prog 25 [.one (.v (.string ⟨#[108, 111, 103]⟩)), .one (.sl 1 (nC r.log[k].l))] (.one (.v (.string (nlB wLog r.log[k].l)))) := line_pure _ _ (by decide) (by simp [Co.l]) hin
      repeat (first | (apply fw; focus ((with_reducible constructor) <;> rfl)) | (apply WpA.cd; focus constructor) | ((first | with_reducible refine WpA.go _ rfl fun Y y => ?_ | apply RunTo.id); simp only [zb, seval, w13, txtA, Rs.cs, rsOb, hd3, hga]; refine RunTo.fn y (by first | exact trivial | omega | (simp; done) | (simp; omega)) ?_; clear y Y))
      refine WpL.le (Le.frzLast (S := [some (rsOb r), some ⟨48, 3, [[.v (.int .i64 r.log[k].s), .v (.int .i64 r.log[k].g), .v (.int .i64 r.log[k].t)]]⟩]) (t := 3) [(43, .one (.sl 1 (nC r.log[k].l))), (36, .one (.v (.string (colsB wLog (tellS r) (r.log.take k))))), (32, .one (.v (.int .i64 k))), (31, .one (.v (.int .i64 r.log.length))), (30, .one (.sl 3 (fC r.log))), (1, .one (.ptr 0 1 0 0))] (nC_shut r.log[k].l) (Nat.zero_le _) ⟨⟨_, rfl, FzA.last rfl rfl⟩, ⟨_, rfl, .inl rfl⟩, ⟨_, rfl, .inl rfl⟩, ⟨_, rfl, .inl rfl⟩, ⟨_, rfl, .inl rfl⟩, ⟨_, rfl, .inl rfl⟩, trivial⟩ (by simp [Sub, find]) (by simp [envBd, A.bd, C.bd]) (by simp [ObBd, C.bd, rsOb, Rs.cs])) ?_
      refine WpL.call rfl (guardA_sound (P := Tryd.prog) rfl) (CallA.shut rfl rfl (by kernel_rfl) (ALes.refl _) (by first | rfl | simp [shuts, A.shut, C.shut]) (lp3) ?_)
      (refine WpL.go _ rfl fun Y y => ?_); repeat (first | (apply fw; focus ((with_reducible constructor) <;> rfl)) | (apply WpA.cd; focus constructor) | ((first | with_reducible refine WpA.go _ rfl fun Y y => ?_ | apply RunTo.id); simp only [zb, seval, w13, txtA, hw2, z6]; refine RunTo.fn y (by first | exact trivial | omega | (simp; done) | (simp; omega)) ?_; clear y Y))
      refine ⟨r.log.length - (k + 1), ⟨[(32, .one (.v (.int .i64 (k + 1 : Nat)))), (31, .one (.v (.int .i64 r.log.length))), (30, .one (.sl 3 (fC r.log))), (3, .one (.v (.string (colsB wLog (tellS r) (r.log.take (k + 1)))))), (1, .one (.ptr 0 1 0 0))], [some (rsOb r)]⟩, by omega, Le.drop 1 (Nat.zero_le _) rfl (by simp [Sub, find, hsn]) (by simp [envBd, A.bd, C.bd]) (by simp [ObBd, C.bd, rsOb, Rs.cs]), k + 1, rfl, hlt, rfl⟩
    · have hd3 : decide ((k : Int) < (r.log.length : Int)) = false := by simp; omega
      obtain rfl : k = r.log.length := by omega
      rw [List.take_length]
      repeat (first | (apply fw; focus ((with_reducible constructor) <;> rfl)) | (apply WpA.cd; focus constructor) | ((first | with_reducible refine WpA.go _ rfl fun Y y => ?_ | apply RunTo.id); simp only [zb, seval, w13, hd3]; refine RunTo.fn y (by first | exact trivial | omega | (simp; done) | (simp; omega)) ?_; clear y Y))
      refine ⟨by simp, _, _, _, _, (by simp only [zb, seval, w13]; rfl), (by simp), (by simp only [zv]; rfl), (by simp), _, ALe.refl _, ?_⟩
      rfl
  · have hoe : (!(r.out.toList == (⟨#[]⟩ : ByteArray).toList)) = true := by rw [strDec, decide_eq_false (fun h => ho ((size_nil _).1 h))]; rfl
    have e0 : tellH r = ⟨#[111, 117, 116]⟩ ++ (⟨#[32]⟩ ++ hexB r.out) := by rw [tellH, if_neg ho]
    repeat (first | (apply fw; focus ((with_reducible constructor) <;> rfl)) | (apply WpA.cd; focus constructor) | ((first | with_reducible refine WpA.go _ rfl fun Y y => ?_ | apply RunTo.id); simp only [zb, seval, w13, txtA, Rs.cs, hoe]; refine RunTo.fn y (by first | exact trivial | omega | (simp; done) | (simp; omega)) ?_; clear y Y))
    refine WpL.call rfl (guardA_sound (P := Tryd.prog) rfl) (CallA.shut rfl rfl (by kernel_rfl) (ALes.refl _) (by first | rfl | simp [shuts, A.shut, C.shut]) (hp9) ?_)
    (refine WpL.go _ rfl fun Y y => ?_); repeat (first | (apply fw; focus ((with_reducible constructor) <;> rfl)) | (apply WpA.cd; focus constructor) | ((first | with_reducible refine WpA.go _ rfl fun Y y => ?_ | apply RunTo.id); simp only [zb, seval, w13, txtA, Rs.cs, hx, z2, z3]; refine RunTo.fn y (by first | exact trivial | omega | (simp; done) | (simp; omega)) ?_; clear y Y))
    (refine WpA.draw0 14 _ _ _ rfl rfl rfl (by kernel_rfl) (by kernel_rfl) (by kernel_rfl) fun K8 hK8 => ?_); simp only [zz] at hK8 ⊢; (refine Draw0.go fun K7 hK7 => ?_); simp only [zb, seval, w13, Rs.cs]; (refine RunQ.mk (by first | exact trivial | omega | (simp; done) | (simp; omega)) (hK7 _ _ ?_)); clear hK7 K7; (try ((refine Draw0.nil (hK8 _ ?_)); clear hK8 K8; (refine WpL.go _ rfl fun Y y => ?_); repeat (first | (apply fw; focus ((with_reducible constructor) <;> rfl)) | (apply WpA.cd; focus constructor) | ((first | with_reducible refine WpA.go _ rfl fun Y y => ?_ | apply RunTo.id); simp only [zb, seval, w13, Rs.cs]; refine RunTo.fn y (by first | exact trivial | omega | (simp; done) | (simp; omega)) ?_; clear y Y))))
    refine Draw0.step (OpS.frozen (n := 2) (wd := 1) (ty := 3) (rows := nC [r.err, r.pl]) (OpS.eff [(17, _), (19, _)] rfl (by rfl) ⟨rfl, rfl, trivial⟩ (by simp only [zb, seval, w13]; rfl) (by simp)) rfl (by simp [C.shut, nC])) ?_
    simp only [putE]
    refine Draw0.step (OpS.shut rfl rfl rfl (by kernel_rfl) (ALes.refl _) (by first | rfl | simp [shuts, A.shut, C.shut]) (lp1)) ?_
    (refine Draw0.go fun K7 hK7 => ?_); simp only [zb, seval, w13, Rs.cs]; (refine RunQ.mk (by first | exact trivial | omega | (simp; done) | (simp; omega)) (hK7 _ _ ?_)); clear hK7 K7; (try ((refine Draw0.nil (hK8 _ ?_)); clear hK8 K8; (refine WpL.go _ rfl fun Y y => ?_); repeat (first | (apply fw; focus ((with_reducible constructor) <;> rfl)) | (apply WpA.cd; focus constructor) | ((first | with_reducible refine WpA.go _ rfl fun Y y => ?_ | apply RunTo.id); simp only [zb, seval, w13, Rs.cs]; refine RunTo.fn y (by first | exact trivial | omega | (simp; done) | (simp; omega)) ?_; clear y Y))))
    refine Draw0.step (OpS.frozen (n := 1) (wd := 1) (ty := 3) (rows := nC [r.st]) (OpS.eff [(24, _)] rfl (by rfl) ⟨rfl, trivial⟩ (by simp only [zb, seval, w13]; rfl) (by simp)) rfl (by simp [C.shut, nC])) ?_
    simp only [putE]
    refine Draw0.step (OpS.shut rfl rfl rfl (by kernel_rfl) (ALes.refl _) (by first | rfl | simp [shuts, A.shut, C.shut]) (lp2)) ?_
    (refine Draw0.go fun K7 hK7 => ?_); simp only [zb, seval, w13, txtA, Rs.cs, z1, z4, z5, z2, z3, hx, e0, hfl]; (refine RunQ.mk (by first | exact trivial | omega | (simp; done) | (simp; omega)) (hK7 _ _ ?_)); clear hK7 K7; (try ((refine Draw0.nil (hK8 _ ?_)); clear hK8 K8; (refine WpL.go _ rfl fun Y y => ?_); repeat (first | (apply fw; focus ((with_reducible constructor) <;> rfl)) | (apply WpA.cd; focus constructor) | ((first | with_reducible refine WpA.go _ rfl fun Y y => ?_ | apply RunTo.id); simp only [zb, seval, w13, txtA, Rs.cs, z1, z4, z5, z2, z3, hx, e0, hfl]; refine RunTo.fn y (by first | exact trivial | omega | (simp; done) | (simp; omega)) ?_; clear y Y))))
    refine WpA.loop (TellI r) r.log.length ?_ ⟨0, rfl, Nat.zero_le _, rfl⟩ ?_
    · have e1 : ∀ x y : ByteArray, tellH r = x → tellS r = x ++ ((⟨#[10]⟩ ++ nlB wEnd [r.err, r.pl]) ++ nlB wSteps [r.st]) := fun x y h => by rw [← h]; rfl
      exact Le.sub (by simp [Sub, find, colsB, tellS, e0])
    intro n' st hI
    obtain ⟨k, rfl, hk, rfl⟩ := hI
    have hw2 : IntKind.i64.wrap ((k : Int) + 1) = ((k + 1 : Nat) : Int) := by rw [wrap64 (by omega) (by omega)]; omega
    have hck := hcz k
    by_cases hlt : k < r.log.length
    · have hd3 : decide ((k : Int) < (r.log.length : Int)) = true := by simp; omega
      have hga := fC_get hlt
      have hin := h6 r.log[k] (by simp)
      have hsn := colsB_take wLog (tellS r) hlt
      have hlz := nlB_size wLog r.log[k].l hin
      rw [show r.log[k].l.length = 3 from rfl, z6] at hlz
      have lp3 : Pure Tryd.prog 25 [.one (.v (.string ⟨#[108, 111, 103]⟩)), .one (.sl 1 (nC r.log[k].l))] (.one (.v (.string (nlB wLog r.log[k].l)))) := line_pure _ _ (by decide) (by simp [Co.l]) hin
      repeat (first | (apply fw; focus ((with_reducible constructor) <;> rfl)) | (apply WpA.cd; focus constructor) | ((first | with_reducible refine WpA.go _ rfl fun Y y => ?_ | apply RunTo.id); simp only [zb, seval, w13, txtA, Rs.cs, rsOb, hd3, hga]; refine RunTo.fn y (by first | exact trivial | omega | (simp; done) | (simp; omega)) ?_; clear y Y))
      refine WpL.le (Le.frzLast (S := [some (rsOb r), some ⟨48, 3, [[.v (.int .i64 r.log[k].s), .v (.int .i64 r.log[k].g), .v (.int .i64 r.log[k].t)]]⟩]) (t := 3) [(43, .one (.sl 1 (nC r.log[k].l))), (36, .one (.v (.string (colsB wLog (tellS r) (r.log.take k))))), (32, .one (.v (.int .i64 k))), (31, .one (.v (.int .i64 r.log.length))), (30, .one (.sl 3 (fC r.log))), (1, .one (.ptr 0 1 0 0))] (nC_shut r.log[k].l) (Nat.zero_le _) ⟨⟨_, rfl, FzA.last rfl rfl⟩, ⟨_, rfl, .inl rfl⟩, ⟨_, rfl, .inl rfl⟩, ⟨_, rfl, .inl rfl⟩, ⟨_, rfl, .inl rfl⟩, ⟨_, rfl, .inl rfl⟩, trivial⟩ (by simp [Sub, find]) (by simp [envBd, A.bd, C.bd]) (by simp [ObBd, C.bd, rsOb, Rs.cs])) ?_
      refine WpL.call rfl (guardA_sound (P := Tryd.prog) rfl) (CallA.shut rfl rfl (by kernel_rfl) (ALes.refl _) (by first | rfl | simp [shuts, A.shut, C.shut]) (lp3) ?_)
      (refine WpL.go _ rfl fun Y y => ?_); repeat (first | (apply fw; focus ((with_reducible constructor) <;> rfl)) | (apply WpA.cd; focus constructor) | ((first | with_reducible refine WpA.go _ rfl fun Y y => ?_ | apply RunTo.id); simp only [zb, seval, w13, txtA, hw2, z6]; refine RunTo.fn y (by first | exact trivial | omega | (simp; done) | (simp; omega)) ?_; clear y Y))
      refine ⟨r.log.length - (k + 1), ⟨[(32, .one (.v (.int .i64 (k + 1 : Nat)))), (31, .one (.v (.int .i64 r.log.length))), (30, .one (.sl 3 (fC r.log))), (3, .one (.v (.string (colsB wLog (tellS r) (r.log.take (k + 1)))))), (1, .one (.ptr 0 1 0 0))], [some (rsOb r)]⟩, by omega, Le.drop 1 (Nat.zero_le _) rfl (by simp [Sub, find, hsn]) (by simp [envBd, A.bd, C.bd]) (by simp [ObBd, C.bd, rsOb, Rs.cs]), k + 1, rfl, hlt, rfl⟩
    · have hd3 : decide ((k : Int) < (r.log.length : Int)) = false := by simp; omega
      obtain rfl : k = r.log.length := by omega
      rw [List.take_length]
      repeat (first | (apply fw; focus ((with_reducible constructor) <;> rfl)) | (apply WpA.cd; focus constructor) | ((first | with_reducible refine WpA.go _ rfl fun Y y => ?_ | apply RunTo.id); simp only [zb, seval, w13, hd3]; refine RunTo.fn y (by first | exact trivial | omega | (simp; done) | (simp; omega)) ?_; clear y Y))
      refine ⟨by simp, _, _, _, _, (by simp only [zb, seval, w13]; rfl), (by simp), (by simp only [zv]; rfl), (by simp), _, ALe.refl _, ?_⟩
      rfl
def RTellI (r : Rs) (n : Nat) (st : St) : Prop := ∃ k : Nat, n = r.log.length - k ∧ k ≤ r.log.length ∧
  st = ⟨[(4, .one (.v (.int .i64 k))), (3, .one (.v (.string (colsB wLog (tellS r) (r.log.take k))))), (1, .one (.ptr 0 1 0 0))], [some (rsOb r)]⟩
theorem rtell_pure (r : Rs) (hr : r.Ok) : Pure Tryd.prog 14 [.agg r.cs] (.one (.v (.string (tellA r)))) := by
  obtain ⟨h1, h2, h3, h4, h5, h6⟩ := hr
  have hfl := fC_len r.log
  refine Fn.intro Tryd.func14 rfl Tryd.ntmps14 Tryd.results14 (by simp only [List.length_cons, List.length_nil]; decide) ?_
  have hx := hexB_size r.out
  have hq1 := nlB_size wEnd [r.err, r.pl] (by simp [h2, h3])
  have hq2 := nlB_size wSteps [r.st] (by simp [h4])
  have z1 : (⟨#[10]⟩ : ByteArray).size = 1 := rfl
  have z2 : (⟨#[32]⟩ : ByteArray).size = 1 := rfl
  have z3 : (⟨#[111, 117, 116]⟩ : ByteArray).size = 3 := rfl
  have z4 : wEnd.size = 3 := rfl
  have z5 : wSteps.size = 5 := rfl
  have z6 : wLog.size = 3 := rfl
  have hts : (tellH r).size ≤ 140010 := by
    unfold tellH; split
    · omega
    · simp only [ByteArray.size_append]; omega
  simp only [List.length_cons, List.length_nil] at hq1 hq2
  have htS : (tellS r).size ≤ 150000 := by unfold tellS; simp only [ByteArray.size_append]; omega
  have hp9 : Pure Tryd.prog 26 [.one (.v (.string r.out))] (.one (.v (.string (hexB r.out)))) := rbytes_pure r.out h1
  have lp1 : Pure Tryd.prog 27 [.one (.v (.string ⟨#[101, 110, 100]⟩)), .one (.sl 1 (nC [r.err, r.pl]))] (.one (.v (.string (nlB wEnd [r.err, r.pl])))) := rline_pure _ _ (by decide) (by simp) (by simp [h2, h3])
  have lp2 : Pure Tryd.prog 27 [.one (.v (.string ⟨#[115, 116, 101, 112, 115]⟩)), .one (.sl 1 (nC [r.st]))] (.one (.v (.string (nlB wSteps [r.st])))) := rline_pure _ _ (by decide) (by simp) (by simp [h4])
  have hcz : ∀ k, (colsB wLog (tellS r) (r.log.take k)).size ≤ 240000 := fun k => by
    have := colsB_size wLog (r.log.take k) (tellS r) fun c hc => h6 c (List.mem_of_mem_take hc)
    rw [List.length_take, z6] at this; omega

  by_cases ho : r.out.size = 0
  · have hoe : (!(r.out.toList == (⟨#[]⟩ : ByteArray).toList)) = false := by rw [strDec, decide_eq_true ((size_nil _).2 ho)]; rfl
    have z7 : (⟨#[111, 117, 116, 10]⟩ : ByteArray).size = 4 := rfl
    have e1 : tellS r = (⟨#[111, 117, 116, 10]⟩ ++ nlB wEnd [r.err, r.pl]) ++ nlB wSteps [r.st] := by rw [tellS, tellH, if_pos ho, show (⟨#[111, 117, 116, 10]⟩ : ByteArray) = ⟨#[111, 117, 116]⟩ ++ ⟨#[10]⟩ from by decide]; simp only [ByteArray.append_assoc]
    have z8 := z7
    repeat (first | (apply fw; focus ((with_reducible constructor) <;> rfl)) | (apply WpA.cd; focus constructor) | ((first | with_reducible refine WpA.go _ rfl fun Y y => ?_ | apply RunTo.id); simp only [zb, seval, w14, txtA, Rs.cs, hoe]; refine RunTo.fn y (by first | exact trivial | omega | (simp; done) | (simp; omega)) ?_; clear y Y))
    (refine WpA.draw0 13 _ _ _ rfl rfl rfl (by kernel_rfl) (by kernel_rfl) (by kernel_rfl) fun K8 hK8 => ?_); simp only [zz] at hK8 ⊢; (refine Draw0.go fun K7 hK7 => ?_); simp only [zb, seval, w14, Rs.cs]; (refine RunQ.mk (by first | exact trivial | omega | (simp; done) | (simp; omega)) (hK7 _ _ ?_)); clear hK7 K7; (try ((refine Draw0.nil (hK8 _ ?_)); clear hK8 K8; (refine WpL.go _ rfl fun Y y => ?_); repeat (first | (apply fw; focus ((with_reducible constructor) <;> rfl)) | (apply WpA.cd; focus constructor) | ((first | with_reducible refine WpA.go _ rfl fun Y y => ?_ | apply RunTo.id); simp only [zb, seval, w14, Rs.cs]; refine RunTo.fn y (by first | exact trivial | omega | (simp; done) | (simp; omega)) ?_; clear y Y))))
    refine Draw0.step (OpS.frozen (n := 2) (wd := 1) (ty := 3) (rows := nC [r.err, r.pl]) (OpS.eff [(15, _), (17, _)] rfl (by rfl) ⟨rfl, rfl, trivial⟩ (by simp only [zb, seval, w14]; rfl) (by simp)) rfl (by simp [C.shut, nC])) ?_
    simp only [putE]
    refine Draw0.step (OpS.shut rfl rfl rfl (by kernel_rfl) (ALes.refl _) (by first | rfl | simp [shuts, A.shut, C.shut]) (lp1)) ?_
    (refine Draw0.go fun K7 hK7 => ?_); simp only [zb, seval, w14, Rs.cs]; (refine RunQ.mk (by first | exact trivial | omega | (simp; done) | (simp; omega)) (hK7 _ _ ?_)); clear hK7 K7; (try ((refine Draw0.nil (hK8 _ ?_)); clear hK8 K8; (refine WpL.go _ rfl fun Y y => ?_); repeat (first | (apply fw; focus ((with_reducible constructor) <;> rfl)) | (apply WpA.cd; focus constructor) | ((first | with_reducible refine WpA.go _ rfl fun Y y => ?_ | apply RunTo.id); simp only [zb, seval, w14, Rs.cs]; refine RunTo.fn y (by first | exact trivial | omega | (simp; done) | (simp; omega)) ?_; clear y Y))))
    refine Draw0.step (OpS.frozen (n := 1) (wd := 1) (ty := 3) (rows := nC [r.st]) (OpS.eff [(22, _)] rfl (by rfl) ⟨rfl, trivial⟩ (by simp only [zb, seval, w14]; rfl) (by simp)) rfl (by simp [C.shut, nC])) ?_
    simp only [putE]
    refine Draw0.step (OpS.shut rfl rfl rfl (by kernel_rfl) (ALes.refl _) (by first | rfl | simp [shuts, A.shut, C.shut]) (lp2)) ?_
    (refine Draw0.go fun K7 hK7 => ?_); simp only [zb, seval, w14, txtA, Rs.cs, z1, z4, z5, z7, hx, hfl]; (refine RunQ.mk (by first | exact trivial | omega | (simp; done) | (simp; omega)) (hK7 _ _ ?_)); clear hK7 K7; (try ((refine Draw0.nil (hK8 _ ?_)); clear hK8 K8; (refine WpL.go _ rfl fun Y y => ?_); repeat (first | (apply fw; focus ((with_reducible constructor) <;> rfl)) | (apply WpA.cd; focus constructor) | ((first | with_reducible refine WpA.go _ rfl fun Y y => ?_ | apply RunTo.id); simp only [zb, seval, w14, txtA, Rs.cs, z1, z4, z5, z7, hx, hfl]; refine RunTo.fn y (by first | exact trivial | omega | (simp; done) | (simp; omega)) ?_; clear y Y))))
    refine WpA.loop (RTellI r) r.log.length ?_ ⟨0, rfl, Nat.zero_le _, rfl⟩ ?_
    · exact Le.sub (by simp [Sub, find, colsB, e1])
    intro n' st hI
    obtain ⟨k, rfl, hk, rfl⟩ := hI
    have hw2 : IntKind.i64.wrap ((k : Int) + 1) = ((k + 1 : Nat) : Int) := by rw [wrap64 (by omega) (by omega)]; omega
    have hck := hcz k
    by_cases hlt : k < r.log.length
    · have hd3 : decide ((k : Int) < (r.log.length : Int)) = true := by simp; omega
      have hga := fC_get hlt
      have hin := h6 r.log[k] (by simp)
      have hsn := colsB_take wLog (tellS r) hlt
      have hlz := nlB_size wLog r.log[k].l hin
      rw [show r.log[k].l.length = 3 from rfl, z6] at hlz
      have lp3 : Pure Tryd.prog 27 [.one (.v (.string ⟨#[108, 111, 103]⟩)), .one (.sl 1 (nC r.log[k].l))] (.one (.v (.string (nlB wLog r.log[k].l)))) := rline_pure _ _ (by decide) (by simp [Co.l]) hin
      repeat (first | (apply fw; focus ((with_reducible constructor) <;> rfl)) | (apply WpA.cd; focus constructor) | ((first | with_reducible refine WpA.go _ rfl fun Y y => ?_ | apply RunTo.id); simp only [zb, seval, w14, txtA, Rs.cs, rsOb, hfl, hd3, hga]; refine RunTo.fn y (by first | exact trivial | omega | (simp; done) | (simp; omega)) ?_; clear y Y))
      (refine WpA.draw0 22 _ _ _ rfl rfl rfl (by kernel_rfl) (by kernel_rfl) (by kernel_rfl) fun K8 hK8 => ?_); simp only [zz] at hK8 ⊢; (refine Draw0.go fun K7 hK7 => ?_); simp only [zb, seval, w14, Rs.cs, hga]; (refine RunQ.mk (by first | exact trivial | omega | (simp; done) | (simp; omega)) (hK7 _ _ ?_)); clear hK7 K7; (try ((refine Draw0.nil (hK8 _ ?_)); clear hK8 K8; (refine WpL.go _ rfl fun Y y => ?_); repeat (first | (apply fw; focus ((with_reducible constructor) <;> rfl)) | (apply WpA.cd; focus constructor) | ((first | with_reducible refine WpA.go _ rfl fun Y y => ?_ | apply RunTo.id); simp only [zb, seval, w14, Rs.cs, hga]; refine RunTo.fn y (by first | exact trivial | omega | (simp; done) | (simp; omega)) ?_; clear y Y))))
      refine Draw0.step (OpS.frozen (n := 3) (wd := 1) (ty := 3) (rows := nC r.log[k].l) (OpS.eff [(39, _), (45, _), (51, _)] rfl (by rfl) ⟨rfl, rfl, rfl, trivial⟩ (by simp only [zb, seval, w14]; rfl) (by simp)) rfl (by simp [C.shut, nC, Co.l])) ?_
      simp only [putE]
      refine Draw0.step (OpS.shut rfl rfl rfl (by kernel_rfl) (ALes.refl _) (by first | rfl | simp [shuts, A.shut, C.shut]) (lp3)) ?_
      (refine Draw0.go fun K7 hK7 => ?_); simp only [zb, seval, w14, txtA, hw2, z6]; (refine RunQ.mk (by first | exact trivial | omega | (simp; done) | (simp; omega)) (hK7 _ _ ?_)); clear hK7 K7; (try ((refine Draw0.nil (hK8 _ ?_)); clear hK8 K8; (refine WpL.go _ rfl fun Y y => ?_); repeat (first | (apply fw; focus ((with_reducible constructor) <;> rfl)) | (apply WpA.cd; focus constructor) | ((first | with_reducible refine WpA.go _ rfl fun Y y => ?_ | apply RunTo.id); simp only [zb, seval, w14, txtA, hw2, z6]; refine RunTo.fn y (by first | exact trivial | omega | (simp; done) | (simp; omega)) ?_; clear y Y))))
      refine ⟨r.log.length - (k + 1), ⟨[(4, .one (.v (.int .i64 (k + 1 : Nat)))), (3, .one (.v (.string (colsB wLog (tellS r) (r.log.take (k + 1)))))), (1, .one (.ptr 0 1 0 0))], _⟩, by omega, Le.sub (by simp [Sub, find, hsn]), k + 1, rfl, hlt, rfl⟩
    · have hd3 : decide ((k : Int) < (r.log.length : Int)) = false := by simp; omega
      obtain rfl : k = r.log.length := by omega
      rw [List.take_length]
      repeat (first | (apply fw; focus ((with_reducible constructor) <;> rfl)) | (apply WpA.cd; focus constructor) | ((first | with_reducible refine WpA.go _ rfl fun Y y => ?_ | apply RunTo.id); simp only [zb, seval, w14, Rs.cs, rsOb, hfl, hd3]; refine RunTo.fn y (by first | exact trivial | omega | (simp; done) | (simp; omega)) ?_; clear y Y))
      refine ⟨by simp, _, _, _, _, (by simp only [zb, seval, w14]; rfl), (by simp), (by simp only [zv]; rfl), (by simp), _, ALe.refl _, ?_⟩
      rfl
  · have hoe : (!(r.out.toList == (⟨#[]⟩ : ByteArray).toList)) = true := by rw [strDec, decide_eq_false (fun h => ho ((size_nil _).1 h))]; rfl
    have z7 : (⟨#[111, 117, 116, 32]⟩ : ByteArray).size = 4 := rfl
    have e1 : tellS r = (((⟨#[111, 117, 116, 32]⟩ ++ hexB r.out) ++ ⟨#[10]⟩) ++ nlB wEnd [r.err, r.pl]) ++ nlB wSteps [r.st] := by rw [tellS, tellH, if_neg ho, show (⟨#[111, 117, 116, 32]⟩ : ByteArray) = ⟨#[111, 117, 116]⟩ ++ ⟨#[32]⟩ from by decide]; simp only [ByteArray.append_assoc]
    repeat (first | (apply fw; focus ((with_reducible constructor) <;> rfl)) | (apply WpA.cd; focus constructor) | ((first | with_reducible refine WpA.go _ rfl fun Y y => ?_ | apply RunTo.id); simp only [zb, seval, w14, txtA, Rs.cs, hoe]; refine RunTo.fn y (by first | exact trivial | omega | (simp; done) | (simp; omega)) ?_; clear y Y))
    refine WpL.call rfl (guardA_sound (P := Tryd.prog) rfl) (CallA.shut rfl rfl (by kernel_rfl) (ALes.refl _) (by first | rfl | simp [shuts, A.shut, C.shut]) (hp9) ?_)
    (refine WpL.go _ rfl fun Y y => ?_); repeat (first | (apply fw; focus ((with_reducible constructor) <;> rfl)) | (apply WpA.cd; focus constructor) | ((first | with_reducible refine WpA.go _ rfl fun Y y => ?_ | apply RunTo.id); simp only [zb, seval, w14, txtA, Rs.cs, hx, z1, z7]; refine RunTo.fn y (by first | exact trivial | omega | (simp; done) | (simp; omega)) ?_; clear y Y))
    (refine WpA.draw0 13 _ _ _ rfl rfl rfl (by kernel_rfl) (by kernel_rfl) (by kernel_rfl) fun K8 hK8 => ?_); simp only [zz] at hK8 ⊢; (refine Draw0.go fun K7 hK7 => ?_); simp only [zb, seval, w14, Rs.cs]; (refine RunQ.mk (by first | exact trivial | omega | (simp; done) | (simp; omega)) (hK7 _ _ ?_)); clear hK7 K7; (try ((refine Draw0.nil (hK8 _ ?_)); clear hK8 K8; (refine WpL.go _ rfl fun Y y => ?_); repeat (first | (apply fw; focus ((with_reducible constructor) <;> rfl)) | (apply WpA.cd; focus constructor) | ((first | with_reducible refine WpA.go _ rfl fun Y y => ?_ | apply RunTo.id); simp only [zb, seval, w14, Rs.cs]; refine RunTo.fn y (by first | exact trivial | omega | (simp; done) | (simp; omega)) ?_; clear y Y))))
    refine Draw0.step (OpS.frozen (n := 2) (wd := 1) (ty := 3) (rows := nC [r.err, r.pl]) (OpS.eff [(15, _), (17, _)] rfl (by rfl) ⟨rfl, rfl, trivial⟩ (by simp only [zb, seval, w14]; rfl) (by simp)) rfl (by simp [C.shut, nC])) ?_
    simp only [putE]
    refine Draw0.step (OpS.shut rfl rfl rfl (by kernel_rfl) (ALes.refl _) (by first | rfl | simp [shuts, A.shut, C.shut]) (lp1)) ?_
    (refine Draw0.go fun K7 hK7 => ?_); simp only [zb, seval, w14, Rs.cs]; (refine RunQ.mk (by first | exact trivial | omega | (simp; done) | (simp; omega)) (hK7 _ _ ?_)); clear hK7 K7; (try ((refine Draw0.nil (hK8 _ ?_)); clear hK8 K8; (refine WpL.go _ rfl fun Y y => ?_); repeat (first | (apply fw; focus ((with_reducible constructor) <;> rfl)) | (apply WpA.cd; focus constructor) | ((first | with_reducible refine WpA.go _ rfl fun Y y => ?_ | apply RunTo.id); simp only [zb, seval, w14, Rs.cs]; refine RunTo.fn y (by first | exact trivial | omega | (simp; done) | (simp; omega)) ?_; clear y Y))))
    refine Draw0.step (OpS.frozen (n := 1) (wd := 1) (ty := 3) (rows := nC [r.st]) (OpS.eff [(22, _)] rfl (by rfl) ⟨rfl, trivial⟩ (by simp only [zb, seval, w14]; rfl) (by simp)) rfl (by simp [C.shut, nC])) ?_
    simp only [putE]
    refine Draw0.step (OpS.shut rfl rfl rfl (by kernel_rfl) (ALes.refl _) (by first | rfl | simp [shuts, A.shut, C.shut]) (lp2)) ?_
    (refine Draw0.go fun K7 hK7 => ?_); simp only [zb, seval, w14, txtA, Rs.cs, z1, z4, z5, z7, hx, hfl]; (refine RunQ.mk (by first | exact trivial | omega | (simp; done) | (simp; omega)) (hK7 _ _ ?_)); clear hK7 K7; (try ((refine Draw0.nil (hK8 _ ?_)); clear hK8 K8; (refine WpL.go _ rfl fun Y y => ?_); repeat (first | (apply fw; focus ((with_reducible constructor) <;> rfl)) | (apply WpA.cd; focus constructor) | ((first | with_reducible refine WpA.go _ rfl fun Y y => ?_ | apply RunTo.id); simp only [zb, seval, w14, txtA, Rs.cs, z1, z4, z5, z7, hx, hfl]; refine RunTo.fn y (by first | exact trivial | omega | (simp; done) | (simp; omega)) ?_; clear y Y))))
    refine WpA.loop (RTellI r) r.log.length ?_ ⟨0, rfl, Nat.zero_le _, rfl⟩ ?_
    · exact Le.sub (by simp [Sub, find, colsB, e1])
    intro n' st hI
    obtain ⟨k, rfl, hk, rfl⟩ := hI
    have hw2 : IntKind.i64.wrap ((k : Int) + 1) = ((k + 1 : Nat) : Int) := by rw [wrap64 (by omega) (by omega)]; omega
    have hck := hcz k
    by_cases hlt : k < r.log.length
    · have hd3 : decide ((k : Int) < (r.log.length : Int)) = true := by simp; omega
      have hga := fC_get hlt
      have hin := h6 r.log[k] (by simp)
      have hsn := colsB_take wLog (tellS r) hlt
      have hlz := nlB_size wLog r.log[k].l hin
      rw [show r.log[k].l.length = 3 from rfl, z6] at hlz
      have lp3 : Pure Tryd.prog 27 [.one (.v (.string ⟨#[108, 111, 103]⟩)), .one (.sl 1 (nC r.log[k].l))] (.one (.v (.string (nlB wLog r.log[k].l)))) := rline_pure _ _ (by decide) (by simp [Co.l]) hin
      repeat (first | (apply fw; focus ((with_reducible constructor) <;> rfl)) | (apply WpA.cd; focus constructor) | ((first | with_reducible refine WpA.go _ rfl fun Y y => ?_ | apply RunTo.id); simp only [zb, seval, w14, txtA, Rs.cs, rsOb, hfl, hd3, hga]; refine RunTo.fn y (by first | exact trivial | omega | (simp; done) | (simp; omega)) ?_; clear y Y))
      (refine WpA.draw0 22 _ _ _ rfl rfl rfl (by kernel_rfl) (by kernel_rfl) (by kernel_rfl) fun K8 hK8 => ?_); simp only [zz] at hK8 ⊢; (refine Draw0.go fun K7 hK7 => ?_); simp only [zb, seval, w14, Rs.cs, hga]; (refine RunQ.mk (by first | exact trivial | omega | (simp; done) | (simp; omega)) (hK7 _ _ ?_)); clear hK7 K7; (try ((refine Draw0.nil (hK8 _ ?_)); clear hK8 K8; (refine WpL.go _ rfl fun Y y => ?_); repeat (first | (apply fw; focus ((with_reducible constructor) <;> rfl)) | (apply WpA.cd; focus constructor) | ((first | with_reducible refine WpA.go _ rfl fun Y y => ?_ | apply RunTo.id); simp only [zb, seval, w14, Rs.cs, hga]; refine RunTo.fn y (by first | exact trivial | omega | (simp; done) | (simp; omega)) ?_; clear y Y))))
      refine Draw0.step (OpS.frozen (n := 3) (wd := 1) (ty := 3) (rows := nC r.log[k].l) (OpS.eff [(39, _), (45, _), (51, _)] rfl (by rfl) ⟨rfl, rfl, rfl, trivial⟩ (by simp only [zb, seval, w14]; rfl) (by simp)) rfl (by simp [C.shut, nC, Co.l])) ?_
      simp only [putE]
      refine Draw0.step (OpS.shut rfl rfl rfl (by kernel_rfl) (ALes.refl _) (by first | rfl | simp [shuts, A.shut, C.shut]) (lp3)) ?_
      (refine Draw0.go fun K7 hK7 => ?_); simp only [zb, seval, w14, txtA, hw2, z6]; (refine RunQ.mk (by first | exact trivial | omega | (simp; done) | (simp; omega)) (hK7 _ _ ?_)); clear hK7 K7; (try ((refine Draw0.nil (hK8 _ ?_)); clear hK8 K8; (refine WpL.go _ rfl fun Y y => ?_); repeat (first | (apply fw; focus ((with_reducible constructor) <;> rfl)) | (apply WpA.cd; focus constructor) | ((first | with_reducible refine WpA.go _ rfl fun Y y => ?_ | apply RunTo.id); simp only [zb, seval, w14, txtA, hw2, z6]; refine RunTo.fn y (by first | exact trivial | omega | (simp; done) | (simp; omega)) ?_; clear y Y))))
      refine ⟨r.log.length - (k + 1), ⟨[(4, .one (.v (.int .i64 (k + 1 : Nat)))), (3, .one (.v (.string (colsB wLog (tellS r) (r.log.take (k + 1)))))), (1, .one (.ptr 0 1 0 0))], _⟩, by omega, Le.sub (by simp [Sub, find, hsn]), k + 1, rfl, hlt, rfl⟩
    · have hd3 : decide ((k : Int) < (r.log.length : Int)) = false := by simp; omega
      obtain rfl : k = r.log.length := by omega
      rw [List.take_length]
      repeat (first | (apply fw; focus ((with_reducible constructor) <;> rfl)) | (apply WpA.cd; focus constructor) | ((first | with_reducible refine WpA.go _ rfl fun Y y => ?_ | apply RunTo.id); simp only [zb, seval, w14, Rs.cs, rsOb, hfl, hd3]; refine RunTo.fn y (by first | exact trivial | omega | (simp; done) | (simp; omega)) ?_; clear y Y))
      refine ⟨by simp, _, _, _, _, (by simp only [zb, seval, w14]; rfl), (by simp), (by simp only [zv]; rfl), (by simp), _, ALe.refl _, ?_⟩
      rfl
end Go.Proofs.YtdcmihhcpgkgiaaDoor
end
