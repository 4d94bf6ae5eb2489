/-
  Laid together: Print27, RPrint27, Long27, LawPrints.
-/
import Derived.Test.YtdcmihhcpgkgiaaDoorGB
import Derived.Test.YtdcmihhcpgkgiaaDoorG7

section
namespace Go.Proofs.YtdcmihhcpgkgiaaDoor
open Go Go.RowKit Go.Lib
set_option linter.unusedSimpArgs false
set_option linter.unusedVariables false
set_option maxHeartbeats 4000000
set_option maxRecDepth 100000
theorem Pure.ales {P : Program} {f : FuncId} {xs ys : List A} {r : A} (h : Pure P f ys r) (hl : ALes xs ys) : Pure P f xs r := fun H m w vs hs hc => h H m w vs hs (hl _ _ hc)
def wLimit : ByteArray := ⟨#[108, 105, 109, 105, 116]⟩
def wFuel : ByteArray := ⟨#[102, 117, 101, 108]⟩
def wIn : ByteArray := ⟨#[105, 110, 32]⟩
def wProg : ByteArray := ⟨#[112, 114, 111, 103, 114, 97, 109]⟩
def wColl : ByteArray := ⟨#[99, 111, 108, 108, 101, 99, 116]⟩
def prS (j : Jb) : ByteArray := nlB wLimit [j.lim] ++ nlB wFuel [j.fu]
def prI (j : Jb) : ByteArray := if j.inp.size = 0 then prS j else prS j ++ nlB (wIn ++ hexB j.inp) []
def prC (j : Jb) : ByteArray := colsB wColl (prI j) j.fs
def prT (j : Jb) : ByteArray := if j.src.size = 0 then prC j else prC j ++ (nlB wProg [] ++ j.src)
/-- What Print answers. -/
def prA (j : Jb) : ByteArray × Int := if 1000 < j.fs.length ∨ 65536 < j.src.size + 2 * j.inp.size then (⟨#[]⟩, 12) else if 65536 < (prT j).size then (⟨#[]⟩, 12) else (prT j, 0)
theorem colsB_ge (w : ByteArray) : ∀ (l : List Co) (s : ByteArray), s.size ≤ (colsB w s l).size
  | [], s => Nat.le_refl _
  | c :: l, s => by
    have := colsB_ge w l (s ++ nlB w c.l)
    rw [ByteArray.size_append] at this
    simp only [colsB]; omega
theorem prT_ge (j : Jb) : j.src.size + 2 * j.inp.size ≤ (prT j).size := by
  have h1 := colsB_ge wColl j.fs (prI j)
  have h2 : 2 * j.inp.size ≤ (prI j).size := by
    unfold prI
    split
    · omega
    · simp only [ByteArray.size_append, nlB, lineL, hexB_size]; omega
  unfold prT
  split
  · show _ ≤ (colsB _ _ _).size
    omega
  · rw [ByteArray.size_append, ByteArray.size_append]
    have : (prC j).size = (colsB wColl (prI j) j.fs).size := rfl
    omega
def PrI (j : Jb) (n : Nat) (st : St) : Prop := ∃ k : Nat, n = j.fs.length - k ∧ k ≤ j.fs.length ∧
  st = ⟨[(44, .one (.v (.int .i64 k))), (43, .one (.v (.int .i64 j.fs.length))), (42, .one (.sl 3 (fC j.fs))), (4, .one (.v (.string (colsB wColl (prI j) (j.fs.take k))))), (1, .one (.ptr 0 1 0 0))], [some (jobOb j)]⟩
theorem print_pure (j : Jb) (hj : j.Ok) : Pure Tryd.prog 15 [.agg j.cs] (.tup [.one (.v (.string (prA j).1)), .one (.v (.int .i64 (prA j).2))]) := by
  obtain ⟨h1, h2, h3, h4, h5, h6⟩ := hj
  have hfl := fC_len j.fs
  have hwm : IntKind.i64.wrap (2 * (j.inp.size : Int)) = 2 * (j.inp.size : Int) := wrap64 (by omega) (by omega)
  have hwa : IntKind.i64.wrap ((j.src.size : Int) + 2 * (j.inp.size : Int)) = (j.src.size : Int) + 2 * (j.inp.size : Int) := wrap64 (by omega) (by omega)
  have hx := hexB_size j.inp
  have hq1 := nlB_size wLimit [j.lim] (by simp [h3])
  have hq2 := nlB_size wFuel [j.fu] (by simp [h4])
  have hq3 := nlB_size (wIn ++ hexB j.inp) [] (by simp)
  have hq4 := nlB_size wProg [] (by simp)
  have z1 : (⟨#[105, 110, 32]⟩ : ByteArray).size = 3 := rfl
  have z2 : wLimit.size = 5 := rfl
  have z3 : wFuel.size = 4 := rfl
  have z4 : wIn.size = 3 := rfl
  have z5 : wProg.size = 7 := rfl
  have z6 : wColl.size = 7 := rfl
  simp only [List.length_cons, List.length_nil, ByteArray.size_append] at hq1 hq2 hq3 hq4
  have hsz : (prS j).size ≤ 70 := by rw [prS, ByteArray.size_append]; omega
  have hiz : (prI j).size ≤ 140100 := by
    unfold prI; split
    · omega
    · rw [ByteArray.size_append]; omega
  have hcz : ∀ k, (colsB wColl (prI j) (j.fs.take k)).size ≤ 240000 := fun k => by
    have := colsB_size wColl (j.fs.take k) (prI j) fun c hc => h6 c (List.mem_of_mem_take hc)
    rw [List.length_take, z6] at this; omega
  have hp9 : Pure Tryd.prog 24 [.one (.v (.string j.inp))] (.one (.v (.string (hexB j.inp)))) := bytes_pure j.inp h2
  have lp1 : Pure Tryd.prog 25 [.one (.v (.string ⟨#[108, 105, 109, 105, 116]⟩)), .one (.sl 1 (nC [j.lim]))] (.one (.v (.string (nlB wLimit [j.lim])))) := line_pure _ _ (by decide) (by simp) (by simp [h3])
  have lp2 : Pure Tryd.prog 25 [.one (.v (.string ⟨#[102, 117, 101, 108]⟩)), .one (.sl 1 (nC [j.fu]))] (.one (.v (.string (nlB wFuel [j.fu])))) := line_pure _ _ (by decide) (by simp) (by simp [h4])
  have hal : ∀ w, ALes [.one (.v (.string w)), .one (.v (.slice none 0 0))] [.one (.v (.string w)), .one (.sl 1 (nC []))] := fun w => ALes.cons (ALe.refl _) (ALes.cons ALe.nil (ALes.refl []))
  have lp3 : Pure Tryd.prog 25 [.one (.v (.string (⟨#[105, 110, 32]⟩ ++ hexB j.inp))), .one (.v (.slice none 0 0))] (.one (.v (.string (nlB (wIn ++ hexB j.inp) [])))) := (line_pure (wIn ++ hexB j.inp) [] (by rw [ByteArray.size_append]; omega) (by simp) (by simp)).ales (hal _)
  have lp4 : Pure Tryd.prog 25 [.one (.v (.string ⟨#[112, 114, 111, 103, 114, 97, 109]⟩)), .one (.v (.slice none 0 0))] (.one (.v (.string (nlB wProg [])))) := (line_pure wProg [] (by decide) (by simp) (by simp)).ales (hal _)
  refine Fn.intro Tryd.func15 rfl Tryd.ntmps15 Tryd.results15 (by simp only [List.length_cons, List.length_nil]; decide) ?_
  by_cases hn : 1000 < j.fs.length
  · have hd1 : decide ((1000 : Int) < (j.fs.length : Int)) = true := by simp; omega
    have hA : prA j = (⟨#[]⟩, 12) := by unfold prA; rw [if_pos (.inl hn)]
    rw [hA]
    repeat (first | (apply fw; focus ((with_reducible constructor) <;> rfl)) | (apply WpA.cd; focus constructor) | ((first | with_reducible refine WpA.go _ rfl fun Y y => ?_ | apply RunTo.id); simp only [zb, seval, w15, txtA, Jb.cs, hfl, hd1]; refine RunTo.fn y (by first | exact trivial | omega | (simp; done) | (simp; omega)) ?_; clear y Y))
    refine ⟨by simp, _, _, _, _, (by simp only [zb, seval, w15]; rfl), (by simp), (by simp only [zv]; rfl), (by simp), _, ALe.refl _, ?_⟩
    rfl
  have hd1 : decide ((1000 : Int) < (j.fs.length : Int)) = false := by simp; omega
  by_cases hb : 65536 < j.src.size + 2 * j.inp.size
  · have hd2 : decide ((65536 : Int) < (j.src.size : Int) + 2 * (j.inp.size : Int)) = true := by simp; omega
    have hA : prA j = (⟨#[]⟩, 12) := by unfold prA; rw [if_pos (.inr hb)]
    rw [hA]
    repeat (first | (apply fw; focus ((with_reducible constructor) <;> rfl)) | (apply WpA.cd; focus constructor) | ((first | with_reducible refine WpA.go _ rfl fun Y y => ?_ | apply RunTo.id); simp only [zb, seval, w15, txtA, Jb.cs, hfl, hd1, hwm, hwa, hd2]; refine RunTo.fn y (by first | exact trivial | omega | (simp; done) | (simp; omega)) ?_; clear y Y))
    refine ⟨by simp, _, _, _, _, (by simp only [zb, seval, w15]; rfl), (by simp), (by simp only [zv]; rfl), (by simp), _, ALe.refl _, ?_⟩
    rfl
  have hd2 : decide ((65536 : Int) < (j.src.size : Int) + 2 * (j.inp.size : Int)) = false := by simp; omega
  repeat (first | (apply fw; focus ((with_reducible constructor) <;> rfl)) | (apply WpA.cd; focus constructor) | ((first | with_reducible refine WpA.go _ rfl fun Y y => ?_ | apply RunTo.id); simp only [zb, seval, w15, txtA, Jb.cs, hfl, hd1, hwm, hwa, hd2]; refine RunTo.fn y (by first | exact trivial | omega | (simp; done) | (simp; omega)) ?_; clear y Y))
  (refine WpA.draw0 9 _ _ _ rfl rfl rfl (by kernel_rfl) (by kernel_rfl) (by kernel_rfl) fun K8 hK8 => ?_); simp only [zz] at hK8 ⊢; (refine Draw0.go fun K7 hK7 => ?_); simp only [zb, seval, w15, Jb.cs]; (refine RunQ.mk (by first | exact trivial | omega | (simp; done) | (simp; omega)) (hK7 _ _ ?_)); clear hK7 K7; (try ((refine Draw0.nil (hK8 _ ?_)); clear hK8 K8; (refine WpL.go _ rfl fun Y y => ?_); repeat (first | (apply fw; focus ((with_reducible constructor) <;> rfl)) | (apply WpA.cd; focus constructor) | ((first | with_reducible refine WpA.go _ rfl fun Y y => ?_ | apply RunTo.id); simp only [zb, seval, w15, Jb.cs]; refine RunTo.fn y (by first | exact trivial | omega | (simp; done) | (simp; omega)) ?_; clear y Y))))
  refine Draw0.step (OpS.frozen (n := 1) (wd := 1) (ty := 3) (rows := nC [j.lim]) (OpS.eff [(23, _)] rfl (by rfl) ⟨rfl, trivial⟩ (by simp only [zb, seval, w15]; rfl) (by simp)) rfl (by simp [C.shut, nC])) ?_
  simp only [putE]
  refine Draw0.step (OpS.shut rfl rfl rfl (by kernel_rfl) (ALes.refl _) (by first | rfl | simp [shuts, A.shut, C.shut]) (lp1)) ?_
  (refine Draw0.go fun K7 hK7 => ?_); simp only [zb, seval, w15, Jb.cs]; (refine RunQ.mk (by first | exact trivial | omega | (simp; done) | (simp; omega)) (hK7 _ _ ?_)); clear hK7 K7; (try ((refine Draw0.nil (hK8 _ ?_)); clear hK8 K8; (refine WpL.go _ rfl fun Y y => ?_); repeat (first | (apply fw; focus ((with_reducible constructor) <;> rfl)) | (apply WpA.cd; focus constructor) | ((first | with_reducible refine WpA.go _ rfl fun Y y => ?_ | apply RunTo.id); simp only [zb, seval, w15, Jb.cs]; refine RunTo.fn y (by first | exact trivial | omega | (simp; done) | (simp; omega)) ?_; clear y Y))))
  refine Draw0.step (OpS.frozen (n := 1) (wd := 1) (ty := 3) (rows := nC [j.fu]) (OpS.eff [(27, _)] rfl (by rfl) ⟨rfl, trivial⟩ (by simp only [zb, seval, w15]; rfl) (by simp)) rfl (by simp [C.shut, nC])) ?_
  simp only [putE]
  refine Draw0.step (OpS.shut rfl rfl rfl (by kernel_rfl) (ALes.refl _) (by first | rfl | simp [shuts, A.shut, C.shut]) (lp2)) ?_


  by_cases ho : j.inp.size = 0
  · have hoe : (!(j.inp.toList == (⟨#[]⟩ : ByteArray).toList)) = false := by rw [strDec, decide_eq_true ((size_nil _).2 ho)]; rfl
    have e0 : prI j = prS j := by rw [prI, if_pos ho]
    (refine Draw0.go fun K7 hK7 => ?_); simp only [zb, seval, w15, txtA, Jb.cs, hfl, hoe]; (refine RunQ.mk (by first | exact trivial | omega | (simp; done) | (simp; omega)) (hK7 _ _ ?_)); clear hK7 K7; (try ((refine Draw0.nil (hK8 _ ?_)); clear hK8 K8; (refine WpL.go _ rfl fun Y y => ?_); repeat (first | (apply fw; focus ((with_reducible constructor) <;> rfl)) | (apply WpA.cd; focus constructor) | ((first | with_reducible refine WpA.go _ rfl fun Y y => ?_ | apply RunTo.id); simp only [zb, seval, w15, txtA, Jb.cs, hfl, hoe]; refine RunTo.fn y (by first | exact trivial | omega | (simp; done) | (simp; omega)) ?_; clear y Y))))
    refine WpA.loop (PrI j) j.fs.length ?_ ⟨0, rfl, Nat.zero_le _, rfl⟩ ?_
    · exact Le.sub (by simp [Sub, find, colsB, e0, prS, jobOb, Jb.cs])
    intro n' st hI
    obtain ⟨k, rfl, hk, rfl⟩ := hI
    have hw2 : IntKind.i64.wrap ((k : Int) + 1) = ((k + 1 : Nat) : Int) := by rw [wrap64 (by omega) (by omega)]; omega
    have hck := hcz k
    by_cases hlt : k < j.fs.length
    · have hd3 : decide ((k : Int) < (j.fs.length : Int)) = true := by simp; omega
      have hga := fC_get hlt
      have hin := h6 j.fs[k] (by simp)
      have hsn := colsB_take wColl (prI j) hlt
      have hlz := nlB_size wColl j.fs[k].l hin
      rw [show j.fs[k].l.length = 3 from rfl, z6] at hlz
      have lp5 : Pure Tryd.prog 25 [.one (.v (.string ⟨#[99, 111, 108, 108, 101, 99, 116]⟩)), .one (.sl 1 (nC j.fs[k].l))] (.one (.v (.string (nlB wColl j.fs[k].l)))) := line_pure _ _ (by decide) (by simp [Co.l]) hin
      repeat (first | (apply fw; focus ((with_reducible constructor) <;> rfl)) | (apply WpA.cd; focus constructor) | ((first | with_reducible refine WpA.go _ rfl fun Y y => ?_ | apply RunTo.id); simp only [zb, seval, w15, txtA, Jb.cs, jobOb, hd3, hga]; refine RunTo.fn y (by first | exact trivial | omega | (simp; done) | (simp; omega)) ?_; clear y Y))
      refine WpL.le (Le.frzLast (S := [some (jobOb j), some ⟨48, 3, [[.v (.int .i64 j.fs[k].s), .v (.int .i64 j.fs[k].g), .v (.int .i64 j.fs[k].t)]]⟩]) (t := 3) [(55, .one (.sl 1 (nC j.fs[k].l))), (48, .one (.v (.string (colsB wColl (prI j) (j.fs.take k))))), (44, .one (.v (.int .i64 k))), (43, .one (.v (.int .i64 j.fs.length))), (42, .one (.sl 3 (fC j.fs))), (1, .one (.ptr 0 1 0 0))] (nC_shut j.fs[k].l) (Nat.zero_le _) ⟨⟨_, rfl, FzA.last rfl rfl⟩, ⟨_, rfl, .inl rfl⟩, ⟨_, rfl, .inl rfl⟩, ⟨_, rfl, .inl rfl⟩, ⟨_, rfl, .inl rfl⟩, ⟨_, rfl, .inl rfl⟩, trivial⟩ (by simp [Sub, find]) (by simp [envBd, A.bd, C.bd]) (by simp [ObBd, C.bd, jobOb, Jb.cs])) ?_
      refine WpL.call rfl (guardA_sound (P := Tryd.prog) rfl) (CallA.shut rfl rfl (by kernel_rfl) (ALes.refl _) (by first | rfl | simp [shuts, A.shut, C.shut]) (lp5) ?_)
      (refine WpL.go _ rfl fun Y y => ?_); repeat (first | (apply fw; focus ((with_reducible constructor) <;> rfl)) | (apply WpA.cd; focus constructor) | ((first | with_reducible refine WpA.go _ rfl fun Y y => ?_ | apply RunTo.id); simp only [zb, seval, w15, txtA, hw2, z6]; refine RunTo.fn y (by first | exact trivial | omega | (simp; done) | (simp; omega)) ?_; clear y Y))
      refine ⟨j.fs.length - (k + 1), ⟨[(44, .one (.v (.int .i64 (k + 1 : Nat)))), (43, .one (.v (.int .i64 j.fs.length))), (42, .one (.sl 3 (fC j.fs))), (4, .one (.v (.string (colsB wColl (prI j) (j.fs.take (k + 1)))))), (1, .one (.ptr 0 1 0 0))], [some (jobOb j)]⟩, by omega, Le.drop 1 (Nat.zero_le _) rfl (by simp [Sub, find, hsn]) (by simp [envBd, A.bd, C.bd]) (by simp [ObBd, C.bd, jobOb, Jb.cs]), k + 1, rfl, hlt, rfl⟩
    have hd3 : decide ((k : Int) < (j.fs.length : Int)) = false := by simp; omega
    obtain rfl : k = j.fs.length := by omega
    rw [List.take_length] at hck ⊢
    by_cases hs : j.src.size = 0
    · have hse : (!(j.src.toList == (⟨#[]⟩ : ByteArray).toList)) = false := by rw [strDec, decide_eq_true ((size_nil _).2 hs)]; rfl
      have ht : prT j = colsB wColl (prI j) j.fs := by rw [prT, if_pos hs]; rfl
      rw [← ht]
      repeat (first | (apply fw; focus ((with_reducible constructor) <;> rfl)) | (apply WpA.cd; focus constructor) | ((first | with_reducible refine WpA.go _ rfl fun Y y => ?_ | apply RunTo.id); simp only [zb, seval, w15, txtA, Jb.cs, jobOb, hd3, hse]; refine RunTo.fn y (by first | exact trivial | omega | (simp; done) | (simp; omega)) ?_; clear y Y))
      by_cases hbig : 65536 < (prT j).size
      · have hd4 : decide ((65536 : Int) < ((prT j).size : Int)) = true := by simp; omega
        have hA : prA j = (⟨#[]⟩, 12) := by unfold prA; rw [if_neg (by omega), if_pos hbig]
        rw [hA, hd4]
        repeat (first | (apply fw; focus ((with_reducible constructor) <;> rfl)) | (apply WpA.cd; focus constructor) | ((first | with_reducible refine WpA.go _ rfl fun Y y => ?_ | apply RunTo.id); simp only [zb, seval, w15, txtA, hd4]; refine RunTo.fn y (by first | exact trivial | omega | (simp; done) | (simp; omega)) ?_; clear y Y))
        refine ⟨by simp, _, _, _, _, (by simp only [zb, seval, w15]; rfl), (by simp), (by simp only [zv]; rfl), (by simp), _, ALe.refl _, ?_⟩
        rfl
      · have hd4 : decide ((65536 : Int) < ((prT j).size : Int)) = false := by simp; omega
        have hA : prA j = (prT j, 0) := by unfold prA; rw [if_neg (by omega), if_neg hbig]
        rw [hA, hd4]
        repeat (first | (apply fw; focus ((with_reducible constructor) <;> rfl)) | (apply WpA.cd; focus constructor) | ((first | with_reducible refine WpA.go _ rfl fun Y y => ?_ | apply RunTo.id); simp only [zb, seval, w15, txtA, hd4]; refine RunTo.fn y (by first | exact trivial | omega | (simp; done) | (simp; omega)) ?_; clear y Y))
        refine ⟨by simp, _, _, _, _, (by simp only [zb, seval, w15]; rfl), (by simp), (by simp only [zv]; rfl), (by simp), _, ALe.refl _, ?_⟩
        rfl
    · have hse : (!(j.src.toList == (⟨#[]⟩ : ByteArray).toList)) = true := by rw [strDec, decide_eq_false (fun h => hs ((size_nil _).1 h))]; rfl
      have ht : prT j = colsB wColl (prI j) j.fs ++ (nlB wProg [] ++ j.src) := by rw [prT, if_neg hs]; rfl
      repeat (first | (apply fw; focus ((with_reducible constructor) <;> rfl)) | (apply WpA.cd; focus constructor) | ((first | with_reducible refine WpA.go _ rfl fun Y y => ?_ | apply RunTo.id); simp only [zb, seval, w15, txtA, Jb.cs, jobOb, hd3, hse]; refine RunTo.fn y (by first | exact trivial | omega | (simp; done) | (simp; omega)) ?_; clear y Y))
      (refine WpA.draw0 6 _ _ _ rfl rfl rfl (by kernel_rfl) (by kernel_rfl) (by kernel_rfl) fun K8 hK8 => ?_); simp only [zz] at hK8 ⊢; (refine Draw0.go fun K7 hK7 => ?_); simp only [zb, seval, w15, Jb.cs]; (refine RunQ.mk (by first | exact trivial | omega | (simp; done) | (simp; omega)) (hK7 _ _ ?_)); clear hK7 K7; (try ((refine Draw0.nil (hK8 _ ?_)); clear hK8 K8; (refine WpL.go _ rfl fun Y y => ?_); repeat (first | (apply fw; focus ((with_reducible constructor) <;> rfl)) | (apply WpA.cd; focus constructor) | ((first | with_reducible refine WpA.go _ rfl fun Y y => ?_ | apply RunTo.id); simp only [zb, seval, w15, Jb.cs]; refine RunTo.fn y (by first | exact trivial | omega | (simp; done) | (simp; omega)) ?_; clear y Y))))
      refine Draw0.step (OpS.shut rfl rfl rfl (by kernel_rfl) (ALes.refl _) (by first | rfl | simp [shuts, A.shut, C.shut]) (lp4)) ?_
      (refine Draw0.go fun K7 hK7 => ?_); simp only [zb, seval, w15, txtA, Jb.cs, z5, hq4]; (refine RunQ.mk (by first | exact trivial | omega | (simp; done) | (simp; omega)) (hK7 _ _ ?_)); clear hK7 K7; (try ((refine Draw0.nil (hK8 _ ?_)); clear hK8 K8; (refine WpL.go _ rfl fun Y y => ?_); repeat (first | (apply fw; focus ((with_reducible constructor) <;> rfl)) | (apply WpA.cd; focus constructor) | ((first | with_reducible refine WpA.go _ rfl fun Y y => ?_ | apply RunTo.id); simp only [zb, seval, w15, txtA, Jb.cs, z5, hq4]; refine RunTo.fn y (by first | exact trivial | omega | (simp; done) | (simp; omega)) ?_; clear y Y))))
      rw [← ht]
      by_cases hbig : 65536 < (prT j).size
      · have hd4 : decide ((65536 : Int) < ((prT j).size : Int)) = true := by simp; omega
        have hA : prA j = (⟨#[]⟩, 12) := by unfold prA; rw [if_neg (by omega), if_pos hbig]
        rw [hA, hd4]
        repeat (first | (apply fw; focus ((with_reducible constructor) <;> rfl)) | (apply WpA.cd; focus constructor) | ((first | with_reducible refine WpA.go _ rfl fun Y y => ?_ | apply RunTo.id); simp only [zb, seval, w15, txtA, hd4]; refine RunTo.fn y (by first | exact trivial | omega | (simp; done) | (simp; omega)) ?_; clear y Y))
        refine ⟨by simp, _, _, _, _, (by simp only [zb, seval, w15]; rfl), (by simp), (by simp only [zv]; rfl), (by simp), _, ALe.refl _, ?_⟩
        rfl
      · have hd4 : decide ((65536 : Int) < ((prT j).size : Int)) = false := by simp; omega
        have hA : prA j = (prT j, 0) := by unfold prA; rw [if_neg (by omega), if_neg hbig]
        rw [hA, hd4]
        repeat (first | (apply fw; focus ((with_reducible constructor) <;> rfl)) | (apply WpA.cd; focus constructor) | ((first | with_reducible refine WpA.go _ rfl fun Y y => ?_ | apply RunTo.id); simp only [zb, seval, w15, txtA, hd4]; refine RunTo.fn y (by first | exact trivial | omega | (simp; done) | (simp; omega)) ?_; clear y Y))
        refine ⟨by simp, _, _, _, _, (by simp only [zb, seval, w15]; rfl), (by simp), (by simp only [zv]; rfl), (by simp), _, ALe.refl _, ?_⟩
        rfl
  · have hoe : (!(j.inp.toList == (⟨#[]⟩ : ByteArray).toList)) = true := by rw [strDec, decide_eq_false (fun h => ho ((size_nil _).1 h))]; rfl
    have e0 : prI j = prS j ++ nlB (wIn ++ hexB j.inp) [] := by rw [prI, if_neg ho]
    (refine Draw0.go fun K7 hK7 => ?_); simp only [zb, seval, w15, txtA, Jb.cs, hfl, hoe, z1, hx]; (refine RunQ.mk (by first | exact trivial | omega | (simp; done) | (simp; omega)) (hK7 _ _ ?_)); clear hK7 K7; (try ((refine Draw0.nil (hK8 _ ?_)); clear hK8 K8; (refine WpL.go _ rfl fun Y y => ?_); repeat (first | (apply fw; focus ((with_reducible constructor) <;> rfl)) | (apply WpA.cd; focus constructor) | ((first | with_reducible refine WpA.go _ rfl fun Y y => ?_ | apply RunTo.id); simp only [zb, seval, w15, txtA, Jb.cs, hfl, hoe, z1, hx]; refine RunTo.fn y (by first | exact trivial | omega | (simp; done) | (simp; omega)) ?_; clear y Y))))
    refine WpL.call rfl (guardA_sound (P := Tryd.prog) rfl) (CallA.shut rfl rfl (by kernel_rfl) (ALes.refl _) (by first | rfl | simp [shuts, A.shut, C.shut]) (hp9) ?_)
    (refine WpL.go _ rfl fun Y y => ?_); repeat (first | (apply fw; focus ((with_reducible constructor) <;> rfl)) | (apply WpA.cd; focus constructor) | ((first | with_reducible refine WpA.go _ rfl fun Y y => ?_ | apply RunTo.id); simp only [zb, seval, w15, txtA, Jb.cs, hfl, z1, hx]; refine RunTo.fn y (by first | exact trivial | omega | (simp; done) | (simp; omega)) ?_; clear y Y))
    refine WpL.call rfl (guardA_sound (P := Tryd.prog) rfl) (CallA.shut rfl rfl (by kernel_rfl) (ALes.refl _) (by first | rfl | simp [shuts, A.shut, C.shut]) (lp3) ?_)
    (refine WpL.go _ rfl fun Y y => ?_); repeat (first | (apply fw; focus ((with_reducible constructor) <;> rfl)) | (apply WpA.cd; focus constructor) | ((first | with_reducible refine WpA.go _ rfl fun Y y => ?_ | apply RunTo.id); simp only [zb, seval, w15, txtA, Jb.cs, hfl, z1, hx]; refine RunTo.fn y (by first | exact trivial | omega | (simp; done) | (simp; omega)) ?_; clear y Y))
    refine WpA.loop (PrI j) j.fs.length ?_ ⟨0, rfl, Nat.zero_le _, rfl⟩ ?_
    · exact Le.sub (by simp [Sub, find, colsB, e0, prS, jobOb, Jb.cs])
    intro n' st hI
    obtain ⟨k, rfl, hk, rfl⟩ := hI
    have hw2 : IntKind.i64.wrap ((k : Int) + 1) = ((k + 1 : Nat) : Int) := by rw [wrap64 (by omega) (by omega)]; omega
    have hck := hcz k
    by_cases hlt : k < j.fs.length
    · have hd3 : decide ((k : Int) < (j.fs.length : Int)) = true := by simp; omega
      have hga := fC_get hlt
      have hin := h6 j.fs[k] (by simp)
      have hsn := colsB_take wColl (prI j) hlt
      have hlz := nlB_size wColl j.fs[k].l hin
      rw [show j.fs[k].l.length = 3 from rfl, z6] at hlz
      have lp5 : Pure Tryd.prog 25 [.one (.v (.string ⟨#[99, 111, 108, 108, 101, 99, 116]⟩)), .one (.sl 1 (nC j.fs[k].l))] (.one (.v (.string (nlB wColl j.fs[k].l)))) := line_pure _ _ (by decide) (by simp [Co.l]) hin
      repeat (first | (apply fw; focus ((with_reducible constructor) <;> rfl)) | (apply WpA.cd; focus constructor) | ((first | with_reducible refine WpA.go _ rfl fun Y y => ?_ | apply RunTo.id); simp only [zb, seval, w15, txtA, Jb.cs, jobOb, hd3, hga]; refine RunTo.fn y (by first | exact trivial | omega | (simp; done) | (simp; omega)) ?_; clear y Y))
      refine WpL.le (Le.frzLast (S := [some (jobOb j), some ⟨48, 3, [[.v (.int .i64 j.fs[k].s), .v (.int .i64 j.fs[k].g), .v (.int .i64 j.fs[k].t)]]⟩]) (t := 3) [(55, .one (.sl 1 (nC j.fs[k].l))), (48, .one (.v (.string (colsB wColl (prI j) (j.fs.take k))))), (44, .one (.v (.int .i64 k))), (43, .one (.v (.int .i64 j.fs.length))), (42, .one (.sl 3 (fC j.fs))), (1, .one (.ptr 0 1 0 0))] (nC_shut j.fs[k].l) (Nat.zero_le _) ⟨⟨_, rfl, FzA.last rfl rfl⟩, ⟨_, rfl, .inl rfl⟩, ⟨_, rfl, .inl rfl⟩, ⟨_, rfl, .inl rfl⟩, ⟨_, rfl, .inl rfl⟩, ⟨_, rfl, .inl rfl⟩, trivial⟩ (by simp [Sub, find]) (by simp [envBd, A.bd, C.bd]) (by simp [ObBd, C.bd, jobOb, Jb.cs])) ?_
      refine WpL.call rfl (guardA_sound (P := Tryd.prog) rfl) (CallA.shut rfl rfl (by kernel_rfl) (ALes.refl _) (by first | rfl | simp [shuts, A.shut, C.shut]) (lp5) ?_)
      (refine WpL.go _ rfl fun Y y => ?_); repeat (first | (apply fw; focus ((with_reducible constructor) <;> rfl)) | (apply WpA.cd; focus constructor) | ((first | with_reducible refine WpA.go _ rfl fun Y y => ?_ | apply RunTo.id); simp only [zb, seval, w15, txtA, hw2, z6]; refine RunTo.fn y (by first | exact trivial | omega | (simp; done) | (simp; omega)) ?_; clear y Y))
      refine ⟨j.fs.length - (k + 1), ⟨[(44, .one (.v (.int .i64 (k + 1 : Nat)))), (43, .one (.v (.int .i64 j.fs.length))), (42, .one (.sl 3 (fC j.fs))), (4, .one (.v (.string (colsB wColl (prI j) (j.fs.take (k + 1)))))), (1, .one (.ptr 0 1 0 0))], [some (jobOb j)]⟩, by omega, Le.drop 1 (Nat.zero_le _) rfl (by simp [Sub, find, hsn]) (by simp [envBd, A.bd, C.bd]) (by simp [ObBd, C.bd, jobOb, Jb.cs]), k + 1, rfl, hlt, rfl⟩
    have hd3 : decide ((k : Int) < (j.fs.length : Int)) = false := by simp; omega
    obtain rfl : k = j.fs.length := by omega
    rw [List.take_length] at hck ⊢
    by_cases hs : j.src.size = 0
    · have hse : (!(j.src.toList == (⟨#[]⟩ : ByteArray).toList)) = false := by rw [strDec, decide_eq_true ((size_nil _).2 hs)]; rfl
      have ht : prT j = colsB wColl (prI j) j.fs := by rw [prT, if_pos hs]; rfl
      rw [← ht]
      repeat (first | (apply fw; focus ((with_reducible constructor) <;> rfl)) | (apply WpA.cd; focus constructor) | ((first | with_reducible refine WpA.go _ rfl fun Y y => ?_ | apply RunTo.id); simp only [zb, seval, w15, txtA, Jb.cs, jobOb, hd3, hse]; refine RunTo.fn y (by first | exact trivial | omega | (simp; done) | (simp; omega)) ?_; clear y Y))
      by_cases hbig : 65536 < (prT j).size
      · have hd4 : decide ((65536 : Int) < ((prT j).size : Int)) = true := by simp; omega
        have hA : prA j = (⟨#[]⟩, 12) := by unfold prA; rw [if_neg (by omega), if_pos hbig]
        rw [hA, hd4]
        repeat (first | (apply fw; focus ((with_reducible constructor) <;> rfl)) | (apply WpA.cd; focus constructor) | ((first | with_reducible refine WpA.go _ rfl fun Y y => ?_ | apply RunTo.id); simp only [zb, seval, w15, txtA, hd4]; refine RunTo.fn y (by first | exact trivial | omega | (simp; done) | (simp; omega)) ?_; clear y Y))
        refine ⟨by simp, _, _, _, _, (by simp only [zb, seval, w15]; rfl), (by simp), (by simp only [zv]; rfl), (by simp), _, ALe.refl _, ?_⟩
        rfl
      · have hd4 : decide ((65536 : Int) < ((prT j).size : Int)) = false := by simp; omega
        have hA : prA j = (prT j, 0) := by unfold prA; rw [if_neg (by omega), if_neg hbig]
        rw [hA, hd4]
        repeat (first | (apply fw; focus ((with_reducible constructor) <;> rfl)) | (apply WpA.cd; focus constructor) | ((first | with_reducible refine WpA.go _ rfl fun Y y => ?_ | apply RunTo.id); simp only [zb, seval, w15, txtA, hd4]; refine RunTo.fn y (by first | exact trivial | omega | (simp; done) | (simp; omega)) ?_; clear y Y))
        refine ⟨by simp, _, _, _, _, (by simp only [zb, seval, w15]; rfl), (by simp), (by simp only [zv]; rfl), (by simp), _, ALe.refl _, ?_⟩
        rfl
    · have hse : (!(j.src.toList == (⟨#[]⟩ : ByteArray).toList)) = true := by rw [strDec, decide_eq_false (fun h => hs ((size_nil _).1 h))]; rfl
      have ht : prT j = colsB wColl (prI j) j.fs ++ (nlB wProg [] ++ j.src) := by rw [prT, if_neg hs]; rfl
      repeat (first | (apply fw; focus ((with_reducible constructor) <;> rfl)) | (apply WpA.cd; focus constructor) | ((first | with_reducible refine WpA.go _ rfl fun Y y => ?_ | apply RunTo.id); simp only [zb, seval, w15, txtA, Jb.cs, jobOb, hd3, hse]; refine RunTo.fn y (by first | exact trivial | omega | (simp; done) | (simp; omega)) ?_; clear y Y))
      (refine WpA.draw0 6 _ _ _ rfl rfl rfl (by kernel_rfl) (by kernel_rfl) (by kernel_rfl) fun K8 hK8 => ?_); simp only [zz] at hK8 ⊢; (refine Draw0.go fun K7 hK7 => ?_); simp only [zb, seval, w15, Jb.cs]; (refine RunQ.mk (by first | exact trivial | omega | (simp; done) | (simp; omega)) (hK7 _ _ ?_)); clear hK7 K7; (try ((refine Draw0.nil (hK8 _ ?_)); clear hK8 K8; (refine WpL.go _ rfl fun Y y => ?_); repeat (first | (apply fw; focus ((with_reducible constructor) <;> rfl)) | (apply WpA.cd; focus constructor) | ((first | with_reducible refine WpA.go _ rfl fun Y y => ?_ | apply RunTo.id); simp only [zb, seval, w15, Jb.cs]; refine RunTo.fn y (by first | exact trivial | omega | (simp; done) | (simp; omega)) ?_; clear y Y))))
      refine Draw0.step (OpS.shut rfl rfl rfl (by kernel_rfl) (ALes.refl _) (by first | rfl | simp [shuts, A.shut, C.shut]) (lp4)) ?_
      (refine Draw0.go fun K7 hK7 => ?_); simp only [zb, seval, w15, txtA, Jb.cs, z5, hq4]; (refine RunQ.mk (by first | exact trivial | omega | (simp; done) | (simp; omega)) (hK7 _ _ ?_)); clear hK7 K7; (try ((refine Draw0.nil (hK8 _ ?_)); clear hK8 K8; (refine WpL.go _ rfl fun Y y => ?_); repeat (first | (apply fw; focus ((with_reducible constructor) <;> rfl)) | (apply WpA.cd; focus constructor) | ((first | with_reducible refine WpA.go _ rfl fun Y y => ?_ | apply RunTo.id); simp only [zb, seval, w15, txtA, Jb.cs, z5, hq4]; refine RunTo.fn y (by first | exact trivial | omega | (simp; done) | (simp; omega)) ?_; clear y Y))))
      rw [← ht]
      by_cases hbig : 65536 < (prT j).size
      · have hd4 : decide ((65536 : Int) < ((prT j).size : Int)) = true := by simp; omega
        have hA : prA j = (⟨#[]⟩, 12) := by unfold prA; rw [if_neg (by omega), if_pos hbig]
        rw [hA, hd4]
        repeat (first | (apply fw; focus ((with_reducible constructor) <;> rfl)) | (apply WpA.cd; focus constructor) | ((first | with_reducible refine WpA.go _ rfl fun Y y => ?_ | apply RunTo.id); simp only [zb, seval, w15, txtA, hd4]; refine RunTo.fn y (by first | exact trivial | omega | (simp; done) | (simp; omega)) ?_; clear y Y))
        refine ⟨by simp, _, _, _, _, (by simp only [zb, seval, w15]; rfl), (by simp), (by simp only [zv]; rfl), (by simp), _, ALe.refl _, ?_⟩
        rfl
      · have hd4 : decide ((65536 : Int) < ((prT j).size : Int)) = false := by simp; omega
        have hA : prA j = (prT j, 0) := by unfold prA; rw [if_neg (by omega), if_neg hbig]
        rw [hA, hd4]
        repeat (first | (apply fw; focus ((with_reducible constructor) <;> rfl)) | (apply WpA.cd; focus constructor) | ((first | with_reducible refine WpA.go _ rfl fun Y y => ?_ | apply RunTo.id); simp only [zb, seval, w15, txtA, hd4]; refine RunTo.fn y (by first | exact trivial | omega | (simp; done) | (simp; omega)) ?_; clear y Y))
        refine ⟨by simp, _, _, _, _, (by simp only [zb, seval, w15]; rfl), (by simp), (by simp only [zv]; rfl), (by simp), _, ALe.refl _, ?_⟩
        rfl
def RPrI (j : Jb) (n : Nat) (st : St) : Prop := ∃ k : Nat, n = j.fs.length - k ∧ k ≤ j.fs.length ∧
  st = ⟨[(5, .one (.v (.int .i64 k))), (4, .one (.v (.string (colsB wColl (prI j) (j.fs.take k))))), (1, .one (.ptr 0 1 0 0))], [some (jobOb j)]⟩
theorem rprint_pure (j : Jb) (hj : j.Ok) : Pure Tryd.prog 16 [.agg j.cs] (.tup [.one (.v (.string (prA j).1)), .one (.v (.int .i64 (prA j).2))]) := by
  obtain ⟨h1, h2, h3, h4, h5, h6⟩ := hj
  have hfl := fC_len j.fs
  have hwm : IntKind.i64.wrap (2 * (j.inp.size : Int)) = 2 * (j.inp.size : Int) := wrap64 (by omega) (by omega)
  have hwa : IntKind.i64.wrap ((j.src.size : Int) + 2 * (j.inp.size : Int)) = (j.src.size : Int) + 2 * (j.inp.size : Int) := wrap64 (by omega) (by omega)
  have hx := hexB_size j.inp
  have hq1 := nlB_size wLimit [j.lim] (by simp [h3])
  have hq2 := nlB_size wFuel [j.fu] (by simp [h4])
  have hq3 := nlB_size (wIn ++ hexB j.inp) [] (by simp)
  have hq4 := nlB_size wProg [] (by simp)
  have z1 : (⟨#[105, 110, 32]⟩ : ByteArray).size = 3 := rfl
  have z7 : (⟨#[112, 114, 111, 103, 114, 97, 109, 10]⟩ : ByteArray).size = 8 := rfl
  have z8 : (⟨#[10]⟩ : ByteArray).size = 1 := rfl
  have z2 : wLimit.size = 5 := rfl
  have z3 : wFuel.size = 4 := rfl
  have z4 : wIn.size = 3 := rfl
  have z5 : wProg.size = 7 := rfl
  have z6 : wColl.size = 7 := rfl
  simp only [List.length_cons, List.length_nil, ByteArray.size_append] at hq1 hq2 hq3 hq4
  have hsz : (prS j).size ≤ 70 := by rw [prS, ByteArray.size_append]; omega
  have hiz : (prI j).size ≤ 140100 := by
    unfold prI; split
    · omega
    · rw [ByteArray.size_append]; omega
  have hcz : ∀ k, (colsB wColl (prI j) (j.fs.take k)).size ≤ 240000 := fun k => by
    have := colsB_size wColl (j.fs.take k) (prI j) fun c hc => h6 c (List.mem_of_mem_take hc)
    rw [List.length_take, z6] at this; omega
  have hp9 : Pure Tryd.prog 26 [.one (.v (.string j.inp))] (.one (.v (.string (hexB j.inp)))) := rbytes_pure j.inp h2
  have lp1 : Pure Tryd.prog 27 [.one (.v (.string ⟨#[108, 105, 109, 105, 116]⟩)), .one (.sl 1 (nC [j.lim]))] (.one (.v (.string (nlB wLimit [j.lim])))) := rline_pure _ _ (by decide) (by simp) (by simp [h3])
  have lp2 : Pure Tryd.prog 27 [.one (.v (.string ⟨#[102, 117, 101, 108]⟩)), .one (.sl 1 (nC [j.fu]))] (.one (.v (.string (nlB wFuel [j.fu])))) := rline_pure _ _ (by decide) (by simp) (by simp [h4])
  refine Fn.intro Tryd.func16 rfl Tryd.ntmps16 Tryd.results16 (by simp only [List.length_cons, List.length_nil]; decide) ?_
  by_cases hn : 1000 < j.fs.length
  · have hd1 : decide ((1000 : Int) < (j.fs.length : Int)) = true := by simp; omega
    have hA : prA j = (⟨#[]⟩, 12) := by unfold prA; rw [if_pos (.inl hn)]
    rw [hA]
    repeat (first | (apply fw; focus ((with_reducible constructor) <;> rfl)) | (apply WpA.cd; focus constructor) | ((first | with_reducible refine WpA.go _ rfl fun Y y => ?_ | apply RunTo.id); simp only [zb, seval, w16, txtA, Jb.cs, hfl, hd1]; refine RunTo.fn y (by first | exact trivial | omega | (simp; done) | (simp; omega)) ?_; clear y Y))
    refine ⟨by simp, _, _, _, _, (by simp only [zb, seval, w16]; rfl), (by simp), (by simp only [zv]; rfl), (by simp), _, ALe.refl _, ?_⟩
    rfl
  have hd1 : decide ((1000 : Int) < (j.fs.length : Int)) = false := by simp; omega
  by_cases hb : 65536 < j.src.size
  · have hd2 : decide ((65536 : Int) < (j.src.size : Int)) = true := by simp; omega
    have hA : prA j = (⟨#[]⟩, 12) := by unfold prA; rw [if_pos (.inr (by omega))]
    rw [hA]
    repeat (first | (apply fw; focus ((with_reducible constructor) <;> rfl)) | (apply WpA.cd; focus constructor) | ((first | with_reducible refine WpA.go _ rfl fun Y y => ?_ | apply RunTo.id); simp only [zb, seval, w16, txtA, Jb.cs, hfl, hd1, hd2]; refine RunTo.fn y (by first | exact trivial | omega | (simp; done) | (simp; omega)) ?_; clear y Y))
    refine ⟨by simp, _, _, _, _, (by simp only [zb, seval, w16]; rfl), (by simp), (by simp only [zv]; rfl), (by simp), _, ALe.refl _, ?_⟩
    rfl
  have hd2 : decide ((65536 : Int) < (j.src.size : Int)) = false := by simp; omega
  by_cases hb' : 65536 < j.inp.size
  · have hd2' : decide ((65536 : Int) < (j.inp.size : Int)) = true := by simp; omega
    have hA : prA j = (⟨#[]⟩, 12) := by unfold prA; rw [if_pos (.inr (by omega))]
    rw [hA]
    repeat (first | (apply fw; focus ((with_reducible constructor) <;> rfl)) | (apply WpA.cd; focus constructor) | ((first | with_reducible refine WpA.go _ rfl fun Y y => ?_ | apply RunTo.id); simp only [zb, seval, w16, txtA, Jb.cs, hfl, hd1, hd2, hd2']; refine RunTo.fn y (by first | exact trivial | omega | (simp; done) | (simp; omega)) ?_; clear y Y))
    refine ⟨by simp, _, _, _, _, (by simp only [zb, seval, w16]; rfl), (by simp), (by simp only [zv]; rfl), (by simp), _, ALe.refl _, ?_⟩
    rfl
  have hd2' : decide ((65536 : Int) < (j.inp.size : Int)) = false := by simp; omega
  have hge := prT_ge j
  repeat (first | (apply fw; focus ((with_reducible constructor) <;> rfl)) | (apply WpA.cd; focus constructor) | ((first | with_reducible refine WpA.go _ rfl fun Y y => ?_ | apply RunTo.id); simp only [zb, seval, w16, txtA, Jb.cs, hfl, hd1, hd2, hd2']; refine RunTo.fn y (by first | exact trivial | omega | (simp; done) | (simp; omega)) ?_; clear y Y))
  (refine WpA.draw0 9 _ _ _ rfl rfl rfl (by kernel_rfl) (by kernel_rfl) (by kernel_rfl) fun K8 hK8 => ?_); simp only [zz] at hK8 ⊢; (refine Draw0.go fun K7 hK7 => ?_); simp only [zb, seval, w16, Jb.cs]; (refine RunQ.mk (by first | exact trivial | omega | (simp; done) | (simp; omega)) (hK7 _ _ ?_)); clear hK7 K7; (try ((refine Draw0.nil (hK8 _ ?_)); clear hK8 K8; (refine WpL.go _ rfl fun Y y => ?_); repeat (first | (apply fw; focus ((with_reducible constructor) <;> rfl)) | (apply WpA.cd; focus constructor) | ((first | with_reducible refine WpA.go _ rfl fun Y y => ?_ | apply RunTo.id); simp only [zb, seval, w16, Jb.cs]; refine RunTo.fn y (by first | exact trivial | omega | (simp; done) | (simp; omega)) ?_; clear y Y))))
  refine Draw0.step (OpS.frozen (n := 1) (wd := 1) (ty := 3) (rows := nC [j.lim]) (OpS.eff [(24, _)] rfl (by rfl) ⟨rfl, trivial⟩ (by simp only [zb, seval, w16]; rfl) (by simp)) rfl (by simp [C.shut, nC])) ?_
  simp only [putE]
  refine Draw0.step (OpS.shut rfl rfl rfl (by kernel_rfl) (ALes.refl _) (by first | rfl | simp [shuts, A.shut, C.shut]) (lp1)) ?_
  (refine Draw0.go fun K7 hK7 => ?_); simp only [zb, seval, w16, Jb.cs]; (refine RunQ.mk (by first | exact trivial | omega | (simp; done) | (simp; omega)) (hK7 _ _ ?_)); clear hK7 K7; (try ((refine Draw0.nil (hK8 _ ?_)); clear hK8 K8; (refine WpL.go _ rfl fun Y y => ?_); repeat (first | (apply fw; focus ((with_reducible constructor) <;> rfl)) | (apply WpA.cd; focus constructor) | ((first | with_reducible refine WpA.go _ rfl fun Y y => ?_ | apply RunTo.id); simp only [zb, seval, w16, Jb.cs]; refine RunTo.fn y (by first | exact trivial | omega | (simp; done) | (simp; omega)) ?_; clear y Y))))
  refine Draw0.step (OpS.frozen (n := 1) (wd := 1) (ty := 3) (rows := nC [j.fu]) (OpS.eff [(28, _)] rfl (by rfl) ⟨rfl, trivial⟩ (by simp only [zb, seval, w16]; rfl) (by simp)) rfl (by simp [C.shut, nC])) ?_
  simp only [putE]
  refine Draw0.step (OpS.shut rfl rfl rfl (by kernel_rfl) (ALes.refl _) (by first | rfl | simp [shuts, A.shut, C.shut]) (lp2)) ?_


  by_cases ho : j.inp.size = 0
  · have hoe : (!(j.inp.toList == (⟨#[]⟩ : ByteArray).toList)) = false := by rw [strDec, decide_eq_true ((size_nil _).2 ho)]; rfl
    have e0 : prI j = prS j := by rw [prI, if_pos ho]
    (refine Draw0.go fun K7 hK7 => ?_); simp only [zb, seval, w16, txtA, Jb.cs, hfl, hoe]; (refine RunQ.mk (by first | exact trivial | omega | (simp; done) | (simp; omega)) (hK7 _ _ ?_)); clear hK7 K7; (try ((refine Draw0.nil (hK8 _ ?_)); clear hK8 K8; (refine WpL.go _ rfl fun Y y => ?_); repeat (first | (apply fw; focus ((with_reducible constructor) <;> rfl)) | (apply WpA.cd; focus constructor) | ((first | with_reducible refine WpA.go _ rfl fun Y y => ?_ | apply RunTo.id); simp only [zb, seval, w16, txtA, Jb.cs, hfl, hoe]; refine RunTo.fn y (by first | exact trivial | omega | (simp; done) | (simp; omega)) ?_; clear y Y))))
    refine WpA.loop (RPrI j) j.fs.length ?_ ⟨0, rfl, Nat.zero_le _, rfl⟩ ?_
    · exact Le.sub (by simp [Sub, find, colsB, e0, prS, jobOb, Jb.cs])
    intro n' st hI
    obtain ⟨k, rfl, hk, rfl⟩ := hI
    have hw2 : IntKind.i64.wrap ((k : Int) + 1) = ((k + 1 : Nat) : Int) := by rw [wrap64 (by omega) (by omega)]; omega
    have hck := hcz k
    by_cases hlt : k < j.fs.length
    · have hd3 : decide ((k : Int) < (j.fs.length : Int)) = true := by simp; omega
      have hga := fC_get hlt
      have hin := h6 j.fs[k] (by simp)
      have hsn := colsB_take wColl (prI j) hlt
      have hlz := nlB_size wColl j.fs[k].l hin
      rw [show j.fs[k].l.length = 3 from rfl, z6] at hlz
      have lp5 : Pure Tryd.prog 27 [.one (.v (.string ⟨#[99, 111, 108, 108, 101, 99, 116]⟩)), .one (.sl 1 (nC j.fs[k].l))] (.one (.v (.string (nlB wColl j.fs[k].l)))) := rline_pure _ _ (by decide) (by simp [Co.l]) hin
      repeat (first | (apply fw; focus ((with_reducible constructor) <;> rfl)) | (apply WpA.cd; focus constructor) | ((first | with_reducible refine WpA.go _ rfl fun Y y => ?_ | apply RunTo.id); simp only [zb, seval, w16, txtA, Jb.cs, jobOb, hfl, hd3, hga]; refine RunTo.fn y (by first | exact trivial | omega | (simp; done) | (simp; omega)) ?_; clear y Y))
      refine WpL.le (Le.frzLast (S := [some (jobOb j), some ⟨48, 3, [[.v (.int .i64 j.fs[k].s), .v (.int .i64 j.fs[k].g), .v (.int .i64 j.fs[k].t)]]⟩]) (t := 3) [(61, .one (.sl 1 (nC j.fs[k].l))), (54, .one (.v (.string (colsB wColl (prI j) (j.fs.take k))))), (5, .one (.v (.int .i64 k))), (1, .one (.ptr 0 1 0 0))] (nC_shut j.fs[k].l) (Nat.zero_le _) ⟨⟨_, rfl, FzA.last rfl rfl⟩, ⟨_, rfl, .inl rfl⟩, ⟨_, rfl, .inl rfl⟩, ⟨_, rfl, .inl rfl⟩, trivial⟩ (by simp [Sub, find]) (by simp [envBd, A.bd, C.bd]) (by simp [ObBd, C.bd, jobOb, Jb.cs])) ?_
      refine WpL.call rfl (guardA_sound (P := Tryd.prog) rfl) (CallA.shut rfl rfl (by kernel_rfl) (ALes.refl _) (by first | rfl | simp [shuts, A.shut, C.shut]) (lp5) ?_)
      (refine WpL.go _ rfl fun Y y => ?_); repeat (first | (apply fw; focus ((with_reducible constructor) <;> rfl)) | (apply WpA.cd; focus constructor) | ((first | with_reducible refine WpA.go _ rfl fun Y y => ?_ | apply RunTo.id); simp only [zb, seval, w16, txtA, hw2, z6]; refine RunTo.fn y (by first | exact trivial | omega | (simp; done) | (simp; omega)) ?_; clear y Y))
      refine ⟨j.fs.length - (k + 1), ⟨[(5, .one (.v (.int .i64 (k + 1 : Nat)))), (4, .one (.v (.string (colsB wColl (prI j) (j.fs.take (k + 1)))))), (1, .one (.ptr 0 1 0 0))], [some (jobOb j)]⟩, by omega, Le.drop 1 (Nat.zero_le _) rfl (by simp [Sub, find, hsn]) (by simp [envBd, A.bd, C.bd]) (by simp [ObBd, C.bd, jobOb, Jb.cs]), k + 1, rfl, hlt, rfl⟩
    have hd3 : decide ((k : Int) < (j.fs.length : Int)) = false := by simp; omega
    obtain rfl : k = j.fs.length := by omega
    rw [List.take_length] at hck ⊢
    by_cases hs : j.src.size = 0
    · have hse : (!(j.src.toList == (⟨#[]⟩ : ByteArray).toList)) = false := by rw [strDec, decide_eq_true ((size_nil _).2 hs)]; rfl
      have ht : prT j = colsB wColl (prI j) j.fs := by rw [prT, if_pos hs]; rfl
      rw [← ht]
      repeat (first | (apply fw; focus ((with_reducible constructor) <;> rfl)) | (apply WpA.cd; focus constructor) | ((first | with_reducible refine WpA.go _ rfl fun Y y => ?_ | apply RunTo.id); simp only [zb, seval, w16, txtA, Jb.cs, jobOb, hfl, z7, hd3, hse]; refine RunTo.fn y (by first | exact trivial | omega | (simp; done) | (simp; omega)) ?_; clear y Y))
      by_cases hbig : 65536 < (prT j).size
      · have hd4 : decide ((65536 : Int) < ((prT j).size : Int)) = true := by simp; omega
        have hA : prA j = (⟨#[]⟩, 12) := by unfold prA; split <;> first | rfl | rw [if_pos hbig]
        rw [hA, hd4]
        repeat (first | (apply fw; focus ((with_reducible constructor) <;> rfl)) | (apply WpA.cd; focus constructor) | ((first | with_reducible refine WpA.go _ rfl fun Y y => ?_ | apply RunTo.id); simp only [zb, seval, w16, txtA, hd4]; refine RunTo.fn y (by first | exact trivial | omega | (simp; done) | (simp; omega)) ?_; clear y Y))
        refine ⟨by simp, _, _, _, _, (by simp only [zb, seval, w16]; rfl), (by simp), (by simp only [zv]; rfl), (by simp), _, ALe.refl _, ?_⟩
        rfl
      · have hd4 : decide ((65536 : Int) < ((prT j).size : Int)) = false := by simp; omega
        have hA : prA j = (prT j, 0) := by unfold prA; rw [if_neg (by omega), if_neg hbig]
        rw [hA, hd4]
        repeat (first | (apply fw; focus ((with_reducible constructor) <;> rfl)) | (apply WpA.cd; focus constructor) | ((first | with_reducible refine WpA.go _ rfl fun Y y => ?_ | apply RunTo.id); simp only [zb, seval, w16, txtA, hd4]; refine RunTo.fn y (by first | exact trivial | omega | (simp; done) | (simp; omega)) ?_; clear y Y))
        refine ⟨by simp, _, _, _, _, (by simp only [zb, seval, w16]; rfl), (by simp), (by simp only [zv]; rfl), (by simp), _, ALe.refl _, ?_⟩
        rfl
    · have hse : (!(j.src.toList == (⟨#[]⟩ : ByteArray).toList)) = true := by rw [strDec, decide_eq_false (fun h => hs ((size_nil _).1 h))]; rfl
      have ht : prT j = (colsB wColl (prI j) j.fs ++ ⟨#[112, 114, 111, 103, 114, 97, 109, 10]⟩) ++ j.src := by rw [prT, if_neg hs, ByteArray.append_assoc]; rfl
      repeat (first | (apply fw; focus ((with_reducible constructor) <;> rfl)) | (apply WpA.cd; focus constructor) | ((first | with_reducible refine WpA.go _ rfl fun Y y => ?_ | apply RunTo.id); simp only [zb, seval, w16, txtA, Jb.cs, jobOb, hfl, z7, hd3, hse]; refine RunTo.fn y (by first | exact trivial | omega | (simp; done) | (simp; omega)) ?_; clear y Y))
      rw [← ht]
      by_cases hbig : 65536 < (prT j).size
      · have hd4 : decide ((65536 : Int) < ((prT j).size : Int)) = true := by simp; omega
        have hA : prA j = (⟨#[]⟩, 12) := by unfold prA; split <;> first | rfl | rw [if_pos hbig]
        rw [hA, hd4]
        repeat (first | (apply fw; focus ((with_reducible constructor) <;> rfl)) | (apply WpA.cd; focus constructor) | ((first | with_reducible refine WpA.go _ rfl fun Y y => ?_ | apply RunTo.id); simp only [zb, seval, w16, txtA, hd4]; refine RunTo.fn y (by first | exact trivial | omega | (simp; done) | (simp; omega)) ?_; clear y Y))
        refine ⟨by simp, _, _, _, _, (by simp only [zb, seval, w16]; rfl), (by simp), (by simp only [zv]; rfl), (by simp), _, ALe.refl _, ?_⟩
        rfl
      · have hd4 : decide ((65536 : Int) < ((prT j).size : Int)) = false := by simp; omega
        have hA : prA j = (prT j, 0) := by unfold prA; rw [if_neg (by omega), if_neg hbig]
        rw [hA, hd4]
        repeat (first | (apply fw; focus ((with_reducible constructor) <;> rfl)) | (apply WpA.cd; focus constructor) | ((first | with_reducible refine WpA.go _ rfl fun Y y => ?_ | apply RunTo.id); simp only [zb, seval, w16, txtA, hd4]; refine RunTo.fn y (by first | exact trivial | omega | (simp; done) | (simp; omega)) ?_; clear y Y))
        refine ⟨by simp, _, _, _, _, (by simp only [zb, seval, w16]; rfl), (by simp), (by simp only [zv]; rfl), (by simp), _, ALe.refl _, ?_⟩
        rfl
  · have hoe : (!(j.inp.toList == (⟨#[]⟩ : ByteArray).toList)) = true := by rw [strDec, decide_eq_false (fun h => ho ((size_nil _).1 h))]; rfl
    have e0 : prI j = ((prS j ++ ⟨#[105, 110, 32]⟩) ++ hexB j.inp) ++ ⟨#[10]⟩ := by rw [prI, if_neg ho]; simp only [nlB, lineL, ByteArray.append_assoc]; rfl
    (refine Draw0.go fun K7 hK7 => ?_); simp only [zb, seval, w16, txtA, Jb.cs, hfl, hoe, z1, hx]; (refine RunQ.mk (by first | exact trivial | omega | (simp; done) | (simp; omega)) (hK7 _ _ ?_)); clear hK7 K7; (try ((refine Draw0.nil (hK8 _ ?_)); clear hK8 K8; (refine WpL.go _ rfl fun Y y => ?_); repeat (first | (apply fw; focus ((with_reducible constructor) <;> rfl)) | (apply WpA.cd; focus constructor) | ((first | with_reducible refine WpA.go _ rfl fun Y y => ?_ | apply RunTo.id); simp only [zb, seval, w16, txtA, Jb.cs, hfl, hoe, z1, hx]; refine RunTo.fn y (by first | exact trivial | omega | (simp; done) | (simp; omega)) ?_; clear y Y))))
    refine WpL.call rfl (guardA_sound (P := Tryd.prog) rfl) (CallA.shut rfl rfl (by kernel_rfl) (ALes.refl _) (by first | rfl | simp [shuts, A.shut, C.shut]) (hp9) ?_)
    (refine WpL.go _ rfl fun Y y => ?_); repeat (first | (apply fw; focus ((with_reducible constructor) <;> rfl)) | (apply WpA.cd; focus constructor) | ((first | with_reducible refine WpA.go _ rfl fun Y y => ?_ | apply RunTo.id); simp only [zb, seval, w16, txtA, Jb.cs, hfl, z1, hx, z8]; refine RunTo.fn y (by first | exact trivial | omega | (simp; done) | (simp; omega)) ?_; clear y Y))
    refine WpA.loop (RPrI j) j.fs.length ?_ ⟨0, rfl, Nat.zero_le _, rfl⟩ ?_
    · exact Le.sub (by simp [Sub, find, colsB, e0, prS, jobOb, Jb.cs])
    intro n' st hI
    obtain ⟨k, rfl, hk, rfl⟩ := hI
    have hw2 : IntKind.i64.wrap ((k : Int) + 1) = ((k + 1 : Nat) : Int) := by rw [wrap64 (by omega) (by omega)]; omega
    have hck := hcz k
    by_cases hlt : k < j.fs.length
    · have hd3 : decide ((k : Int) < (j.fs.length : Int)) = true := by simp; omega
      have hga := fC_get hlt
      have hin := h6 j.fs[k] (by simp)
      have hsn := colsB_take wColl (prI j) hlt
      have hlz := nlB_size wColl j.fs[k].l hin
      rw [show j.fs[k].l.length = 3 from rfl, z6] at hlz
      have lp5 : Pure Tryd.prog 27 [.one (.v (.string ⟨#[99, 111, 108, 108, 101, 99, 116]⟩)), .one (.sl 1 (nC j.fs[k].l))] (.one (.v (.string (nlB wColl j.fs[k].l)))) := rline_pure _ _ (by decide) (by simp [Co.l]) hin
      repeat (first | (apply fw; focus ((with_reducible constructor) <;> rfl)) | (apply WpA.cd; focus constructor) | ((first | with_reducible refine WpA.go _ rfl fun Y y => ?_ | apply RunTo.id); simp only [zb, seval, w16, txtA, Jb.cs, jobOb, hfl, hd3, hga]; refine RunTo.fn y (by first | exact trivial | omega | (simp; done) | (simp; omega)) ?_; clear y Y))
      refine WpL.le (Le.frzLast (S := [some (jobOb j), some ⟨48, 3, [[.v (.int .i64 j.fs[k].s), .v (.int .i64 j.fs[k].g), .v (.int .i64 j.fs[k].t)]]⟩]) (t := 3) [(61, .one (.sl 1 (nC j.fs[k].l))), (54, .one (.v (.string (colsB wColl (prI j) (j.fs.take k))))), (5, .one (.v (.int .i64 k))), (1, .one (.ptr 0 1 0 0))] (nC_shut j.fs[k].l) (Nat.zero_le _) ⟨⟨_, rfl, FzA.last rfl rfl⟩, ⟨_, rfl, .inl rfl⟩, ⟨_, rfl, .inl rfl⟩, ⟨_, rfl, .inl rfl⟩, trivial⟩ (by simp [Sub, find]) (by simp [envBd, A.bd, C.bd]) (by simp [ObBd, C.bd, jobOb, Jb.cs])) ?_
      refine WpL.call rfl (guardA_sound (P := Tryd.prog) rfl) (CallA.shut rfl rfl (by kernel_rfl) (ALes.refl _) (by first | rfl | simp [shuts, A.shut, C.shut]) (lp5) ?_)
      (refine WpL.go _ rfl fun Y y => ?_); repeat (first | (apply fw; focus ((with_reducible constructor) <;> rfl)) | (apply WpA.cd; focus constructor) | ((first | with_reducible refine WpA.go _ rfl fun Y y => ?_ | apply RunTo.id); simp only [zb, seval, w16, txtA, hw2, z6]; refine RunTo.fn y (by first | exact trivial | omega | (simp; done) | (simp; omega)) ?_; clear y Y))
      refine ⟨j.fs.length - (k + 1), ⟨[(5, .one (.v (.int .i64 (k + 1 : Nat)))), (4, .one (.v (.string (colsB wColl (prI j) (j.fs.take (k + 1)))))), (1, .one (.ptr 0 1 0 0))], [some (jobOb j)]⟩, by omega, Le.drop 1 (Nat.zero_le _) rfl (by simp [Sub, find, hsn]) (by simp [envBd, A.bd, C.bd]) (by simp [ObBd, C.bd, jobOb, Jb.cs]), k + 1, rfl, hlt, rfl⟩
    have hd3 : decide ((k : Int) < (j.fs.length : Int)) = false := by simp; omega
    obtain rfl : k = j.fs.length := by omega
    rw [List.take_length] at hck ⊢
    by_cases hs : j.src.size = 0
    · have hse : (!(j.src.toList == (⟨#[]⟩ : ByteArray).toList)) = false := by rw [strDec, decide_eq_true ((size_nil _).2 hs)]; rfl
      have ht : prT j = colsB wColl (prI j) j.fs := by rw [prT, if_pos hs]; rfl
      rw [← ht]
      repeat (first | (apply fw; focus ((with_reducible constructor) <;> rfl)) | (apply WpA.cd; focus constructor) | ((first | with_reducible refine WpA.go _ rfl fun Y y => ?_ | apply RunTo.id); simp only [zb, seval, w16, txtA, Jb.cs, jobOb, hfl, z7, hd3, hse]; refine RunTo.fn y (by first | exact trivial | omega | (simp; done) | (simp; omega)) ?_; clear y Y))
      by_cases hbig : 65536 < (prT j).size
      · have hd4 : decide ((65536 : Int) < ((prT j).size : Int)) = true := by simp; omega
        have hA : prA j = (⟨#[]⟩, 12) := by unfold prA; split <;> first | rfl | rw [if_pos hbig]
        rw [hA, hd4]
        repeat (first | (apply fw; focus ((with_reducible constructor) <;> rfl)) | (apply WpA.cd; focus constructor) | ((first | with_reducible refine WpA.go _ rfl fun Y y => ?_ | apply RunTo.id); simp only [zb, seval, w16, txtA, hd4]; refine RunTo.fn y (by first | exact trivial | omega | (simp; done) | (simp; omega)) ?_; clear y Y))
        refine ⟨by simp, _, _, _, _, (by simp only [zb, seval, w16]; rfl), (by simp), (by simp only [zv]; rfl), (by simp), _, ALe.refl _, ?_⟩
        rfl
      · have hd4 : decide ((65536 : Int) < ((prT j).size : Int)) = false := by simp; omega
        have hA : prA j = (prT j, 0) := by unfold prA; rw [if_neg (by omega), if_neg hbig]
        rw [hA, hd4]
        repeat (first | (apply fw; focus ((with_reducible constructor) <;> rfl)) | (apply WpA.cd; focus constructor) | ((first | with_reducible refine WpA.go _ rfl fun Y y => ?_ | apply RunTo.id); simp only [zb, seval, w16, txtA, hd4]; refine RunTo.fn y (by first | exact trivial | omega | (simp; done) | (simp; omega)) ?_; clear y Y))
        refine ⟨by simp, _, _, _, _, (by simp only [zb, seval, w16]; rfl), (by simp), (by simp only [zv]; rfl), (by simp), _, ALe.refl _, ?_⟩
        rfl
    · have hse : (!(j.src.toList == (⟨#[]⟩ : ByteArray).toList)) = true := by rw [strDec, decide_eq_false (fun h => hs ((size_nil _).1 h))]; rfl
      have ht : prT j = (colsB wColl (prI j) j.fs ++ ⟨#[112, 114, 111, 103, 114, 97, 109, 10]⟩) ++ j.src := by rw [prT, if_neg hs, ByteArray.append_assoc]; rfl
      repeat (first | (apply fw; focus ((with_reducible constructor) <;> rfl)) | (apply WpA.cd; focus constructor) | ((first | with_reducible refine WpA.go _ rfl fun Y y => ?_ | apply RunTo.id); simp only [zb, seval, w16, txtA, Jb.cs, jobOb, hfl, z7, hd3, hse]; refine RunTo.fn y (by first | exact trivial | omega | (simp; done) | (simp; omega)) ?_; clear y Y))
      rw [← ht]
      by_cases hbig : 65536 < (prT j).size
      · have hd4 : decide ((65536 : Int) < ((prT j).size : Int)) = true := by simp; omega
        have hA : prA j = (⟨#[]⟩, 12) := by unfold prA; split <;> first | rfl | rw [if_pos hbig]
        rw [hA, hd4]
        repeat (first | (apply fw; focus ((with_reducible constructor) <;> rfl)) | (apply WpA.cd; focus constructor) | ((first | with_reducible refine WpA.go _ rfl fun Y y => ?_ | apply RunTo.id); simp only [zb, seval, w16, txtA, hd4]; refine RunTo.fn y (by first | exact trivial | omega | (simp; done) | (simp; omega)) ?_; clear y Y))
        refine ⟨by simp, _, _, _, _, (by simp only [zb, seval, w16]; rfl), (by simp), (by simp only [zv]; rfl), (by simp), _, ALe.refl _, ?_⟩
        rfl
      · have hd4 : decide ((65536 : Int) < ((prT j).size : Int)) = false := by simp; omega
        have hA : prA j = (prT j, 0) := by unfold prA; rw [if_neg (by omega), if_neg hbig]
        rw [hA, hd4]
        repeat (first | (apply fw; focus ((with_reducible constructor) <;> rfl)) | (apply WpA.cd; focus constructor) | ((first | with_reducible refine WpA.go _ rfl fun Y y => ?_ | apply RunTo.id); simp only [zb, seval, w16, txtA, hd4]; refine RunTo.fn y (by first | exact trivial | omega | (simp; done) | (simp; omega)) ?_; clear y Y))
        refine ⟨by simp, _, _, _, _, (by simp only [zb, seval, w16]; rfl), (by simp), (by simp only [zv]; rfl), (by simp), _, ALe.refl _, ?_⟩
        rfl
/-- A job that a law is handed. -/
structure Jb.In (j : Jb) : Prop where
  lim : I64 j.lim
  fu : I64 j.fu
  fs : ∀ c ∈ j.fs, ∀ n ∈ c.l, I64 n
  len : j.fs.length ≤ 1000000000000000
  src : j.src.size ≤ 140737488351232
  inp : j.inp.size ≤ 140737488351232
def Jb.long (j : Jb) : Bool := decide (1200 < j.fs.length) || (decide (70000 < j.src.size) || decide (70000 < j.inp.size))
theorem Jb.In.ok {j : Jb} (h : j.In) (hl : j.long = false) : j.Ok := by
  simp only [Jb.long, Bool.or_eq_false_iff, decide_eq_false_iff_not] at hl
  exact ⟨by omega, by omega, h.lim, h.fu, by omega, h.fs⟩
theorem long_pure (j : Jb) (hj : j.In) : Pure Tryd.prog 9 [.agg j.cs] (.one (.v (.bool j.long))) := by
  obtain ⟨-, -, -, h1, h2, h3⟩ := hj
  have hfl := fC_len j.fs
  refine Fn.intro Tryd.func9 rfl Tryd.ntmps9 Tryd.results9 (by simp only [List.length_cons, List.length_nil]; decide) ?_
  by_cases hn : 1200 < j.fs.length
  · have hd1 : decide ((1200 : Int) < (j.fs.length : Int)) = true := by simp; omega
    have hL : j.long = true := by simp [Jb.long, hn]
    rw [hL]
    repeat (first | (apply fw; focus ((with_reducible constructor) <;> rfl)) | (apply WpA.cd; focus constructor) | ((first | with_reducible refine WpA.go _ rfl fun Y y => ?_ | apply RunTo.id); simp only [zb, seval, w9, txtA, Jb.cs, hfl, hd1]; refine RunTo.fn y (by first | exact trivial | omega | (simp; done) | (simp; omega)) ?_; clear y Y))
    refine ⟨by simp, _, _, _, _, (by simp only [zb, seval, w9]; rfl), (by simp), (by simp only [zv]; rfl), (by simp), _, ALe.refl _, ?_⟩
    rfl
  have hd1 : decide ((1200 : Int) < (j.fs.length : Int)) = false := by simp; omega
  by_cases hb : 70000 < j.src.size
  · have hd2 : decide ((70000 : Int) < (j.src.size : Int)) = true := by simp; omega
    have hL : j.long = true := by simp [Jb.long, hb]
    rw [hL]
    repeat (first | (apply fw; focus ((with_reducible constructor) <;> rfl)) | (apply WpA.cd; focus constructor) | ((first | with_reducible refine WpA.go _ rfl fun Y y => ?_ | apply RunTo.id); simp only [zb, seval, w9, txtA, Jb.cs, hfl, hd1, hd2]; refine RunTo.fn y (by first | exact trivial | omega | (simp; done) | (simp; omega)) ?_; clear y Y))
    refine ⟨by simp, _, _, _, _, (by simp only [zb, seval, w9]; rfl), (by simp), (by simp only [zv]; rfl), (by simp), _, ALe.refl _, ?_⟩
    rfl
  have hd2 : decide ((70000 : Int) < (j.src.size : Int)) = false := by simp; omega
  by_cases hc : 70000 < j.inp.size
  · have hd3 : decide ((70000 : Int) < (j.inp.size : Int)) = true := by simp; omega
    have hL : j.long = true := by simp [Jb.long, hc]
    rw [hL]
    repeat (first | (apply fw; focus ((with_reducible constructor) <;> rfl)) | (apply WpA.cd; focus constructor) | ((first | with_reducible refine WpA.go _ rfl fun Y y => ?_ | apply RunTo.id); simp only [zb, seval, w9, txtA, Jb.cs, hfl, hd1, hd2, hd3]; refine RunTo.fn y (by first | exact trivial | omega | (simp; done) | (simp; omega)) ?_; clear y Y))
    refine ⟨by simp, _, _, _, _, (by simp only [zb, seval, w9]; rfl), (by simp), (by simp only [zv]; rfl), (by simp), _, ALe.refl _, ?_⟩
    rfl
  have hd3 : decide ((70000 : Int) < (j.inp.size : Int)) = false := by simp; omega
  have hL : j.long = false := by simp [Jb.long]; omega
  rw [hL]
  repeat (first | (apply fw; focus ((with_reducible constructor) <;> rfl)) | (apply WpA.cd; focus constructor) | ((first | with_reducible refine WpA.go _ rfl fun Y y => ?_ | apply RunTo.id); simp only [zb, seval, w9, txtA, Jb.cs, hfl, hd1, hd2, hd3]; refine RunTo.fn y (by first | exact trivial | omega | (simp; done) | (simp; omega)) ?_; clear y Y))
  refine ⟨by simp, _, _, _, _, (by simp only [zb, seval, w9]; rfl), (by simp), (by simp only [zv]; rfl), (by simp), _, ALe.refl _, ?_⟩
  rfl
theorem lawPrints_pure (j : Jb) (hj : j.In) : Pure Tryd.prog 5 [.agg j.cs] (.one (.v (.bool true))) := by
  have hlp := long_pure j hj
  refine Fn.intro Tryd.func5 rfl Tryd.ntmps5 Tryd.results5 (by simp only [List.length_cons, List.length_nil]; decide) ?_
  cases hl : j.long with
  | true =>
    rw [hl] at hlp
    repeat (first | (apply fw; focus ((with_reducible constructor) <;> rfl)) | (apply WpA.cd; focus constructor) | ((first | with_reducible refine WpA.go _ rfl fun Y y => ?_ | apply RunTo.id); simp only [zb, seval, ty_24, txtA, Jb.cs]; refine RunTo.fn y (by first | exact trivial | omega | (simp; done) | (simp; omega)) ?_; clear y Y))
    refine WpL.call rfl (guardA_sound (P := Tryd.prog) rfl) (CallA.shut rfl rfl (by kernel_rfl) (ALes.refl _) (by first | rfl | simp [shuts, A.shut, C.shut]) (hlp) ?_)
    (refine WpL.go _ rfl fun Y y => ?_); repeat (first | (apply fw; focus ((with_reducible constructor) <;> rfl)) | (apply WpA.cd; focus constructor) | ((first | with_reducible refine WpA.go _ rfl fun Y y => ?_ | apply RunTo.id); simp only [zb, seval, ty_24]; refine RunTo.fn y (by first | exact trivial | omega | (simp; done) | (simp; omega)) ?_; clear y Y))
    refine WpL.call rfl (guardA_sound (P := Tryd.prog) rfl) (CallA.shut rfl rfl (by kernel_rfl) (ALes.refl _) (by first | rfl | simp [shuts, A.shut, C.shut]) (awake_pure) ?_)
    (refine WpL.go _ rfl fun Y y => ?_); repeat (first | (apply fw; focus ((with_reducible constructor) <;> rfl)) | (apply WpA.cd; focus constructor) | ((first | with_reducible refine WpA.go _ rfl fun Y y => ?_ | apply RunTo.id); simp only [zb, seval, ty_24]; refine RunTo.fn y (by first | exact trivial | omega | (simp; done) | (simp; omega)) ?_; clear y Y))
    refine ⟨by simp, _, _, _, _, (by simp only [zb, seval, ty_24]; rfl), (by simp), (by simp only [zv]; rfl), (by simp), _, ALe.refl _, ?_⟩
    rfl
  | false =>
    rw [hl] at hlp
    have t1 := print_pure j (hj.ok hl)
    have t2 := rprint_pure j (hj.ok hl)
    have hself : ((prA j).1.toList == (prA j).1.toList) = true := by simp
    have hself2 : ((prA j).2 == (prA j).2) = true := by simp
    generalize prA j = T at *
    obtain ⟨T, e⟩ := T
    simp only at t1 t2 hself hself2
    repeat (first | (apply fw; focus ((with_reducible constructor) <;> rfl)) | (apply WpA.cd; focus constructor) | ((first | with_reducible refine WpA.go _ rfl fun Y y => ?_ | apply RunTo.id); simp only [zb, seval, ty_24, txtA, Jb.cs]; refine RunTo.fn y (by first | exact trivial | omega | (simp; done) | (simp; omega)) ?_; clear y Y))
    refine WpL.call rfl (guardA_sound (P := Tryd.prog) rfl) (CallA.shut rfl rfl (by kernel_rfl) (ALes.refl _) (by first | rfl | simp [shuts, A.shut, C.shut]) (hlp) ?_)
    (refine WpL.go _ rfl fun Y y => ?_); repeat (first | (apply fw; focus ((with_reducible constructor) <;> rfl)) | (apply WpA.cd; focus constructor) | ((first | with_reducible refine WpA.go _ rfl fun Y y => ?_ | apply RunTo.id); simp only [zb, seval, ty_24, Jb.cs]; refine RunTo.fn y (by first | exact trivial | omega | (simp; done) | (simp; omega)) ?_; clear y Y))
    refine WpL.call rfl (guardA_sound (P := Tryd.prog) rfl) (CallA.shut rfl rfl (by kernel_rfl) (ALes.refl _) (by first | rfl | simp [shuts, A.shut, C.shut]) (t1) ?_)
    (refine WpL.go _ rfl fun Y y => ?_); repeat (first | (apply fw; focus ((with_reducible constructor) <;> rfl)) | (apply WpA.cd; focus constructor) | ((first | with_reducible refine WpA.go _ rfl fun Y y => ?_ | apply RunTo.id); simp only [zb, seval, ty_24, Jb.cs]; refine RunTo.fn y (by first | exact trivial | omega | (simp; done) | (simp; omega)) ?_; clear y Y))
    refine WpL.call rfl (guardA_sound (P := Tryd.prog) rfl) (CallA.shut rfl rfl (by kernel_rfl) (ALes.refl _) (by first | rfl | simp [shuts, A.shut, C.shut]) (t2) ?_)
    (refine WpL.go _ rfl fun Y y => ?_); repeat (first | (apply fw; focus ((with_reducible constructor) <;> rfl)) | (apply WpA.cd; focus constructor) | ((first | with_reducible refine WpA.go _ rfl fun Y y => ?_ | apply RunTo.id); simp only [zb, seval, ty_24, Jb.cs, hself, hself2]; refine RunTo.fn y (by first | exact trivial | omega | (simp; done) | (simp; omega)) ?_; clear y Y))
    refine WpL.call rfl (guardA_sound (P := Tryd.prog) rfl) (CallA.shut rfl rfl (by kernel_rfl) (ALes.refl _) (by first | rfl | simp [shuts, A.shut, C.shut]) (awake_pure) ?_)
    (refine WpL.go _ rfl fun Y y => ?_); repeat (first | (apply fw; focus ((with_reducible constructor) <;> rfl)) | (apply WpA.cd; focus constructor) | ((first | with_reducible refine WpA.go _ rfl fun Y y => ?_ | apply RunTo.id); simp only [zb, seval, ty_24, Jb.cs, hself, hself2]; refine RunTo.fn y (by first | exact trivial | omega | (simp; done) | (simp; omega)) ?_; clear y Y))
    refine ⟨by simp, _, _, _, _, (by simp only [zb, seval, ty_24]; rfl), (by simp), (by simp only [zv]; rfl), (by simp), _, ALe.refl _, ?_⟩
    rfl
end Go.Proofs.YtdcmihhcpgkgiaaDoor
end
