/-
  Laid together: Print27, Long27, RNum27, Dec27, SNum27, STxt27, SDec27, RDec27, Same27.
-/
import Derived.Test.YtdcmihhcpgkgiaaDoorGB
import Derived.Test.YtdcmihhcpgkgiaaDoorG7
import Derived.Test.YtdcmihhcpgkgiaaDoorG4
import Derived.Laws.StructEq
import Derived.KernelRfl

section
namespace Go.Proofs.YtdcmihhcpgkgiaaDoor
open Go Go.RowKit Go.Lib
set_option linter.unusedSimpArgs false
set_option linter.unusedVariables false
set_option maxHeartbeats 4000000
set_option maxRecDepth 100000
theorem Pure.ales {P : Program} {f : FuncId} {xs ys : List A} {r : A} (h : Pure P f ys r) (hl : ALes xs ys) : Pure P f xs r := fun H m w vs hs hc => h H m w vs hs (hl _ _ hc)
def wLimit : ByteArray := ⟨#[108, 105, 109, 105, 116]⟩
def wFuel : ByteArray := ⟨#[102, 117, 101, 108]⟩
def wIn : ByteArray := ⟨#[105, 110, 32]⟩
def wProg : ByteArray := ⟨#[112, 114, 111, 103, 114, 97, 109]⟩
def wColl : ByteArray := ⟨#[99, 111, 108, 108, 101, 99, 116]⟩
def prS (j : Jb) : ByteArray := nlB wLimit [j.lim] ++ nlB wFuel [j.fu]
def prI (j : Jb) : ByteArray := if j.inp.size = 0 then prS j else prS j ++ nlB (wIn ++ hexB j.inp) []
def prC (j : Jb) : ByteArray := colsB wColl (prI j) j.fs
def prT (j : Jb) : ByteArray := if j.src.size = 0 then prC j else prC j ++ (nlB wProg [] ++ j.src)
/-- What Print answers. -/
def prA (j : Jb) : ByteArray × Int := if 1000 < j.fs.length ∨ 65536 < j.src.size + 2 * j.inp.size then (⟨#[]⟩, 12) else if 65536 < (prT j).size then (⟨#[]⟩, 12) else (prT j, 0)
theorem colsB_ge (w : ByteArray) : ∀ (l : List Co) (s : ByteArray), s.size ≤ (colsB w s l).size
  | [], s => Nat.le_refl _
  | c :: l, s => by
    have := colsB_ge w l (s ++ nlB w c.l)
    rw [ByteArray.size_append] at this
    simp only [colsB]; omega
theorem prT_ge (j : Jb) : j.src.size + 2 * j.inp.size ≤ (prT j).size := by
  have h1 := colsB_ge wColl j.fs (prI j)
  have h2 : 2 * j.inp.size ≤ (prI j).size := by
    unfold prI
    split
    · omega
    · simp only [ByteArray.size_append, nlB, lineL, hexB_size]; omega
  unfold prT
  split
  · show _ ≤ (colsB _ _ _).size
    omega
  · rw [ByteArray.size_append, ByteArray.size_append]
    have : (prC j).size = (colsB wColl (prI j) j.fs).size := rfl
    omega
def PrI (j : Jb) (n : Nat) (st : St) : Prop := ∃ k : Nat, n = j.fs.length - k ∧ k ≤ j.fs.length ∧
  st = ⟨[(44, .one (.v (.int .i64 k))), (43, .one (.v (.int .i64 j.fs.length))), (42, .one (.sl 3 (fC j.fs))), (4, .one (.v (.string (colsB wColl (prI j) (j.fs.take k))))), (1, .one (.ptr 0 1 0 0))], [some (jobOb j)]⟩
theorem print_pure (j : Jb) (hj : j.Ok) : Pure Tryd.prog 15 [.agg j.cs] (.tup [.one (.v (.string (prA j).1)), .one (.v (.int .i64 (prA j).2))]) := by
  obtain ⟨h1, h2, h3, h4, h5, h6⟩ := hj
  have hfl := fC_len j.fs
  have hwm : IntKind.i64.wrap (2 * (j.inp.size : Int)) = 2 * (j.inp.size : Int) := wrap64 (by omega) (by omega)
  have hwa : IntKind.i64.wrap ((j.src.size : Int) + 2 * (j.inp.size : Int)) = (j.src.size : Int) + 2 * (j.inp.size : Int) := wrap64 (by omega) (by omega)
  have hx := hexB_size j.inp
  have hq1 := nlB_size wLimit [j.lim] (by simp [h3])
  have hq2 := nlB_size wFuel [j.fu] (by simp [h4])
  have hq3 := nlB_size (wIn ++ hexB j.inp) [] (by simp)
  have hq4 := nlB_size wProg [] (by simp)
  have z1 : (⟨#[105, 110, 32]⟩ : ByteArray).size = 3 := rfl
  have z2 : wLimit.size = 5 := rfl
  have z3 : wFuel.size = 4 := rfl
  have z4 : wIn.size = 3 := rfl
  have z5 : wProg.size = 7 := rfl
  have z6 : wColl.size = 7 := rfl
  simp only [List.length_cons, List.length_nil, ByteArray.size_append] at hq1 hq2 hq3 hq4
  have hsz : (prS j).size ≤ 70 := by rw [prS, ByteArray.size_append]; omega
  have hiz : (prI j).size ≤ 140100 := by
    unfold prI; split
    · omega
    · rw [ByteArray.size_append]; omega
  have hcz : ∀ k, (colsB wColl (prI j) (j.fs.take k)).size ≤ 240000 := fun k => by
    have := colsB_size wColl (j.fs.take k) (prI j) fun c hc => h6 c (List.mem_of_mem_take hc)
    rw [List.length_take, z6] at this; omega
  have hp9 : Pure Tryd.prog 24 [.one (.v (.string j.inp))] (.one (.v (.string (hexB j.inp)))) := bytes_pure j.inp h2
  have lp1 : Pure Tryd.prog 25 [.one (.v (.string ⟨#[108, 105, 109, 105, 116]⟩)), .one (.sl 1 (nC [j.lim]))] (.one (.v (.string (nlB wLimit [j.lim])))) := line_pure _ _ (by decide) (by simp) (by simp [h3])
  have lp2 : Pure Tryd.prog 25 [.one (.v (.string ⟨#[102, 117, 101, 108]⟩)), .one (.sl 1 (nC [j.fu]))] (.one (.v (.string (nlB wFuel [j.fu])))) := line_pure _ _ (by decide) (by simp) (by simp [h4])
  have hal : ∀ w, ALes [.one (.v (.string w)), .one (.v (.slice none 0 0))] [.one (.v (.string w)), .one (.sl 1 (nC []))] := fun w => ALes.cons (ALe.refl _) (ALes.cons ALe.nil (ALes.refl []))
  have lp3 : Pure Tryd.prog 25 [.one (.v (.string (⟨#[105, 110, 32]⟩ ++ hexB j.inp))), .one (.v (.slice none 0 0))] (.one (.v (.string (nlB (wIn ++ hexB j.inp) [])))) := (line_pure (wIn ++ hexB j.inp) [] (by rw [ByteArray.size_append]; omega) (by simp) (by simp)).ales (hal _)
  have lp4 : Pure Tryd.prog 25 [.one (.v (.string ⟨#[112, 114, 111, 103, 114, 97, 109]⟩)), .one (.v (.slice none 0 0))] (.one (.v (.string (nlB wProg [])))) := (line_pure wProg [] (by decide) (by simp) (by simp)).ales (hal _)
  refine Fn.intro Tryd.func15 rfl Tryd.ntmps15 Tryd.results15 (by simp only [List.length_cons, List.length_nil]; decide) ?_
  by_cases hn : 1000 < j.fs.length
  · have hd1 : decide ((1000 : Int) < (j.fs.length : Int)) = true := by simp; omega
    have hA : prA j = (⟨#[]⟩, 12) := by unfold prA; rw [if_pos (.inl hn)]
    rw [hA]
    repeat (first | (apply fw; focus ((with_reducible constructor) <;> rfl)) | (apply WpA.cd; focus constructor) | ((first | with_reducible refine WpA.go _ rfl fun Y y => ?_ | apply RunTo.id); simp only [zb, seval, w15, txtA, Jb.cs, hfl, hd1]; refine RunTo.fn y (by first | exact trivial | omega | (simp; done) | (simp; omega)) ?_; clear y Y))
    refine ⟨by simp, _, _, _, _, (by simp only [zb, seval, w15]; rfl), (by simp), (by simp only [zv]; rfl), (by simp), _, ALe.refl _, ?_⟩
    rfl
  have hd1 : decide ((1000 : Int) < (j.fs.length : Int)) = false := by simp; omega
  by_cases hb : 65536 < j.src.size + 2 * j.inp.size
  · have hd2 : decide ((65536 : Int) < (j.src.size : Int) + 2 * (j.inp.size : Int)) = true := by simp; omega
    have hA : prA j = (⟨#[]⟩, 12) := by unfold prA; rw [if_pos (.inr hb)]
    rw [hA]
    repeat (first | (apply fw; focus ((with_reducible constructor) <;> rfl)) | (apply WpA.cd; focus constructor) | ((first | with_reducible refine WpA.go _ rfl fun Y y => ?_ | apply RunTo.id); simp only [zb, seval, w15, txtA, Jb.cs, hfl, hd1, hwm, hwa, hd2]; refine RunTo.fn y (by first | exact trivial | omega | (simp; done) | (simp; omega)) ?_; clear y Y))
    refine ⟨by simp, _, _, _, _, (by simp only [zb, seval, w15]; rfl), (by simp), (by simp only [zv]; rfl), (by simp), _, ALe.refl _, ?_⟩
    rfl
  have hd2 : decide ((65536 : Int) < (j.src.size : Int) + 2 * (j.inp.size : Int)) = false := by simp; omega
  repeat (first | (apply fw; focus ((with_reducible constructor) <;> rfl)) | (apply WpA.cd; focus constructor) | ((first | with_reducible refine WpA.go _ rfl fun Y y => ?_ | apply RunTo.id); simp only [zb, seval, w15, txtA, Jb.cs, hfl, hd1, hwm, hwa, hd2]; refine RunTo.fn y (by first | exact trivial | omega | (simp; done) | (simp; omega)) ?_; clear y Y))
  (refine WpA.draw0 9 _ _ _ rfl rfl rfl (by kernel_rfl) (by kernel_rfl) (by kernel_rfl) fun K8 hK8 => ?_); simp only [zz] at hK8 ⊢; (refine Draw0.go fun K7 hK7 => ?_); simp only [zb, seval, w15, Jb.cs]; (refine RunQ.mk (by first | exact trivial | omega | (simp; done) | (simp; omega)) (hK7 _ _ ?_)); clear hK7 K7; (try ((refine Draw0.nil (hK8 _ ?_)); clear hK8 K8; (refine WpL.go _ rfl fun Y y => ?_); repeat (first | (apply fw; focus ((with_reducible constructor) <;> rfl)) | (apply WpA.cd; focus constructor) | ((first | with_reducible refine WpA.go _ rfl fun Y y => ?_ | apply RunTo.id); simp only [zb, seval, w15, Jb.cs]; refine RunTo.fn y (by first | exact trivial | omega | (simp; done) | (simp; omega)) ?_; clear y Y))))
  refine Draw0.step (OpS.frozen (n := 1) (wd := 1) (ty := 3) (rows := nC [j.lim]) (OpS.eff [(23, _)] rfl (by rfl) ⟨rfl, trivial⟩ (by simp only [zb, seval, w15]; rfl) (by simp)) rfl (by simp [C.shut, nC])) ?_
  simp only [putE]
  refine Draw0.step (OpS.shut rfl rfl rfl (by kernel_rfl) (ALes.refl _) (by first | rfl | simp [shuts, A.shut, C.shut]) (lp1)) ?_
  (refine Draw0.go fun K7 hK7 => ?_); simp only [zb, seval, w15, Jb.cs]; (refine RunQ.mk (by first | exact trivial | omega | (simp; done) | (simp; omega)) (hK7 _ _ ?_)); clear hK7 K7; (try ((refine Draw0.nil (hK8 _ ?_)); clear hK8 K8; (refine WpL.go _ rfl fun Y y => ?_); repeat (first | (apply fw; focus ((with_reducible constructor) <;> rfl)) | (apply WpA.cd; focus constructor) | ((first | with_reducible refine WpA.go _ rfl fun Y y => ?_ | apply RunTo.id); simp only [zb, seval, w15, Jb.cs]; refine RunTo.fn y (by first | exact trivial | omega | (simp; done) | (simp; omega)) ?_; clear y Y))))
  refine Draw0.step (OpS.frozen (n := 1) (wd := 1) (ty := 3) (rows := nC [j.fu]) (OpS.eff [(27, _)] rfl (by rfl) ⟨rfl, trivial⟩ (by simp only [zb, seval, w15]; rfl) (by simp)) rfl (by simp [C.shut, nC])) ?_
  simp only [putE]
  refine Draw0.step (OpS.shut rfl rfl rfl (by kernel_rfl) (ALes.refl _) (by first | rfl | simp [shuts, A.shut, C.shut]) (lp2)) ?_


  by_cases ho : j.inp.size = 0
  · have hoe : (!(j.inp.toList == (⟨#[]⟩ : ByteArray).toList)) = false := by rw [strDec, decide_eq_true ((size_nil _).2 ho)]; rfl
    have e0 : prI j = prS j := by rw [prI, if_pos ho]
    (refine Draw0.go fun K7 hK7 => ?_); simp only [zb, seval, w15, txtA, Jb.cs, hfl, hoe]; (refine RunQ.mk (by first | exact trivial | omega | (simp; done) | (simp; omega)) (hK7 _ _ ?_)); clear hK7 K7; (try ((refine Draw0.nil (hK8 _ ?_)); clear hK8 K8; (refine WpL.go _ rfl fun Y y => ?_); repeat (first | (apply fw; focus ((with_reducible constructor) <;> rfl)) | (apply WpA.cd; focus constructor) | ((first | with_reducible refine WpA.go _ rfl fun Y y => ?_ | apply RunTo.id); simp only [zb, seval, w15, txtA, Jb.cs, hfl, hoe]; refine RunTo.fn y (by first | exact trivial | omega | (simp; done) | (simp; omega)) ?_; clear y Y))))
    refine WpA.loop (PrI j) j.fs.length ?_ ⟨0, rfl, Nat.zero_le _, rfl⟩ ?_
    · exact Le.sub (by simp [Sub, find, colsB, e0, prS, jobOb, Jb.cs])
    intro n' st hI
    obtain ⟨k, rfl, hk, rfl⟩ := hI
    have hw2 : IntKind.i64.wrap ((k : Int) + 1) = ((k + 1 : Nat) : Int) := by rw [wrap64 (by omega) (by omega)]; omega
    have hck := hcz k
    by_cases hlt : k < j.fs.length
    · have hd3 : decide ((k : Int) < (j.fs.length : Int)) = true := by simp; omega
      have hga := fC_get hlt
      have hin := h6 j.fs[k] (by simp)
      have hsn := colsB_take wColl (prI j) hlt
      have hlz := nlB_size wColl j.fs[k].l hin
      rw [show j.fs[k].l.length = 3 from rfl, z6] at hlz
      have lp5 : Pure Tryd.prog 25 [.one (.v (.string ⟨#[99, 111, 108, 108, 101, 99, 116]⟩)), .one (.sl 1 (nC j.fs[k].l))] (.one (.v (.string (nlB wColl j.fs[k].l)))) := line_pure _ _ (by decide) (by simp [Co.l]) hin
      repeat (first | (apply fw; focus ((with_reducible constructor) <;> rfl)) | (apply WpA.cd; focus constructor) | ((first | with_reducible refine WpA.go _ rfl fun Y y => ?_ | apply RunTo.id); simp only [zb, seval, w15, txtA, Jb.cs, jobOb, hd3, hga]; refine RunTo.fn y (by first | exact trivial | omega | (simp; done) | (simp; omega)) ?_; clear y Y))
      refine WpL.le (Le.frzLast (S := [some (jobOb j), some ⟨48, 3, [[.v (.int .i64 j.fs[k].s), .v (.int .i64 j.fs[k].g), .v (.int .i64 j.fs[k].t)]]⟩]) (t := 3) [(55, .one (.sl 1 (nC j.fs[k].l))), (48, .one (.v (.string (colsB wColl (prI j) (j.fs.take k))))), (44, .one (.v (.int .i64 k))), (43, .one (.v (.int .i64 j.fs.length))), (42, .one (.sl 3 (fC j.fs))), (1, .one (.ptr 0 1 0 0))] (nC_shut j.fs[k].l) (Nat.zero_le _) ⟨⟨_, rfl, FzA.last rfl rfl⟩, ⟨_, rfl, .inl rfl⟩, ⟨_, rfl, .inl rfl⟩, ⟨_, rfl, .inl rfl⟩, ⟨_, rfl, .inl rfl⟩, ⟨_, rfl, .inl rfl⟩, trivial⟩ (by simp [Sub, find]) (by simp [envBd, A.bd, C.bd]) (by simp [ObBd, C.bd, jobOb, Jb.cs])) ?_
      refine WpL.call rfl (guardA_sound (P := Tryd.prog) rfl) (CallA.shut rfl rfl (by kernel_rfl) (ALes.refl _) (by first | rfl | simp [shuts, A.shut, C.shut]) (lp5) ?_)
      (refine WpL.go _ rfl fun Y y => ?_); repeat (first | (apply fw; focus ((with_reducible constructor) <;> rfl)) | (apply WpA.cd; focus constructor) | ((first | with_reducible refine WpA.go _ rfl fun Y y => ?_ | apply RunTo.id); simp only [zb, seval, w15, txtA, hw2, z6]; refine RunTo.fn y (by first | exact trivial | omega | (simp; done) | (simp; omega)) ?_; clear y Y))
      refine ⟨j.fs.length - (k + 1), ⟨[(44, .one (.v (.int .i64 (k + 1 : Nat)))), (43, .one (.v (.int .i64 j.fs.length))), (42, .one (.sl 3 (fC j.fs))), (4, .one (.v (.string (colsB wColl (prI j) (j.fs.take (k + 1)))))), (1, .one (.ptr 0 1 0 0))], [some (jobOb j)]⟩, by omega, Le.drop 1 (Nat.zero_le _) rfl (by simp [Sub, find, hsn]) (by simp [envBd, A.bd, C.bd]) (by simp [ObBd, C.bd, jobOb, Jb.cs]), k + 1, rfl, hlt, rfl⟩
    have hd3 : decide ((k : Int) < (j.fs.length : Int)) = false := by simp; omega
    obtain rfl : k = j.fs.length := by omega
    rw [List.take_length] at hck ⊢
    by_cases hs : j.src.size = 0
    · have hse : (!(j.src.toList == (⟨#[]⟩ : ByteArray).toList)) = false := by rw [strDec, decide_eq_true ((size_nil _).2 hs)]; rfl
      have ht : prT j = colsB wColl (prI j) j.fs := by rw [prT, if_pos hs]; rfl
      rw [← ht]
      repeat (first | (apply fw; focus ((with_reducible constructor) <;> rfl)) | (apply WpA.cd; focus constructor) | ((first | with_reducible refine WpA.go _ rfl fun Y y => ?_ | apply RunTo.id); simp only [zb, seval, w15, txtA, Jb.cs, jobOb, hd3, hse]; refine RunTo.fn y (by first | exact trivial | omega | (simp; done) | (simp; omega)) ?_; clear y Y))
      by_cases hbig : 65536 < (prT j).size
      · have hd4 : decide ((65536 : Int) < ((prT j).size : Int)) = true := by simp; omega
        have hA : prA j = (⟨#[]⟩, 12) := by unfold prA; rw [if_neg (by omega), if_pos hbig]
        rw [hA, hd4]
        repeat (first | (apply fw; focus ((with_reducible constructor) <;> rfl)) | (apply WpA.cd; focus constructor) | ((first | with_reducible refine WpA.go _ rfl fun Y y => ?_ | apply RunTo.id); simp only [zb, seval, w15, txtA, hd4]; refine RunTo.fn y (by first | exact trivial | omega | (simp; done) | (simp; omega)) ?_; clear y Y))
        refine ⟨by simp, _, _, _, _, (by simp only [zb, seval, w15]; rfl), (by simp), (by simp only [zv]; rfl), (by simp), _, ALe.refl _, ?_⟩
        rfl
      · have hd4 : decide ((65536 : Int) < ((prT j).size : Int)) = false := by simp; omega
        have hA : prA j = (prT j, 0) := by unfold prA; rw [if_neg (by omega), if_neg hbig]
        rw [hA, hd4]
        repeat (first | (apply fw; focus ((with_reducible constructor) <;> rfl)) | (apply WpA.cd; focus constructor) | ((first | with_reducible refine WpA.go _ rfl fun Y y => ?_ | apply RunTo.id); simp only [zb, seval, w15, txtA, hd4]; refine RunTo.fn y (by first | exact trivial | omega | (simp; done) | (simp; omega)) ?_; clear y Y))
        refine ⟨by simp, _, _, _, _, (by simp only [zb, seval, w15]; rfl), (by simp), (by simp only [zv]; rfl), (by simp), _, ALe.refl _, ?_⟩
        rfl
    · have hse : (!(j.src.toList == (⟨#[]⟩ : ByteArray).toList)) = true := by rw [strDec, decide_eq_false (fun h => hs ((size_nil _).1 h))]; rfl
      have ht : prT j = colsB wColl (prI j) j.fs ++ (nlB wProg [] ++ j.src) := by rw [prT, if_neg hs]; rfl
      repeat (first | (apply fw; focus ((with_reducible constructor) <;> rfl)) | (apply WpA.cd; focus constructor) | ((first | with_reducible refine WpA.go _ rfl fun Y y => ?_ | apply RunTo.id); simp only [zb, seval, w15, txtA, Jb.cs, jobOb, hd3, hse]; refine RunTo.fn y (by first | exact trivial | omega | (simp; done) | (simp; omega)) ?_; clear y Y))
      (refine WpA.draw0 6 _ _ _ rfl rfl rfl (by kernel_rfl) (by kernel_rfl) (by kernel_rfl) fun K8 hK8 => ?_); simp only [zz] at hK8 ⊢; (refine Draw0.go fun K7 hK7 => ?_); simp only [zb, seval, w15, Jb.cs]; (refine RunQ.mk (by first | exact trivial | omega | (simp; done) | (simp; omega)) (hK7 _ _ ?_)); clear hK7 K7; (try ((refine Draw0.nil (hK8 _ ?_)); clear hK8 K8; (refine WpL.go _ rfl fun Y y => ?_); repeat (first | (apply fw; focus ((with_reducible constructor) <;> rfl)) | (apply WpA.cd; focus constructor) | ((first | with_reducible refine WpA.go _ rfl fun Y y => ?_ | apply RunTo.id); simp only [zb, seval, w15, Jb.cs]; refine RunTo.fn y (by first | exact trivial | omega | (simp; done) | (simp; omega)) ?_; clear y Y))))
      refine Draw0.step (OpS.shut rfl rfl rfl (by kernel_rfl) (ALes.refl _) (by first | rfl | simp [shuts, A.shut, C.shut]) (lp4)) ?_
      (refine Draw0.go fun K7 hK7 => ?_); simp only [zb, seval, w15, txtA, Jb.cs, z5, hq4]; (refine RunQ.mk (by first | exact trivial | omega | (simp; done) | (simp; omega)) (hK7 _ _ ?_)); clear hK7 K7; (try ((refine Draw0.nil (hK8 _ ?_)); clear hK8 K8; (refine WpL.go _ rfl fun Y y => ?_); repeat (first | (apply fw; focus ((with_reducible constructor) <;> rfl)) | (apply WpA.cd; focus constructor) | ((first | with_reducible refine WpA.go _ rfl fun Y y => ?_ | apply RunTo.id); simp only [zb, seval, w15, txtA, Jb.cs, z5, hq4]; refine RunTo.fn y (by first | exact trivial | omega | (simp; done) | (simp; omega)) ?_; clear y Y))))
      rw [← ht]
      by_cases hbig : 65536 < (prT j).size
      · have hd4 : decide ((65536 : Int) < ((prT j).size : Int)) = true := by simp; omega
        have hA : prA j = (⟨#[]⟩, 12) := by unfold prA; rw [if_neg (by omega), if_pos hbig]
        rw [hA, hd4]
        repeat (first | (apply fw; focus ((with_reducible constructor) <;> rfl)) | (apply WpA.cd; focus constructor) | ((first | with_reducible refine WpA.go _ rfl fun Y y => ?_ | apply RunTo.id); simp only [zb, seval, w15, txtA, hd4]; refine RunTo.fn y (by first | exact trivial | omega | (simp; done) | (simp; omega)) ?_; clear y Y))
        refine ⟨by simp, _, _, _, _, (by simp only [zb, seval, w15]; rfl), (by simp), (by simp only [zv]; rfl), (by simp), _, ALe.refl _, ?_⟩
        rfl
      · have hd4 : decide ((65536 : Int) < ((prT j).size : Int)) = false := by simp; omega
        have hA : prA j = (prT j, 0) := by unfold prA; rw [if_neg (by omega), if_neg hbig]
        rw [hA, hd4]
        repeat (first | (apply fw; focus ((with_reducible constructor) <;> rfl)) | (apply WpA.cd; focus constructor) | ((first | with_reducible refine WpA.go _ rfl fun Y y => ?_ | apply RunTo.id); simp only [zb, seval, w15, txtA, hd4]; refine RunTo.fn y (by first | exact trivial | omega | (simp; done) | (simp; omega)) ?_; clear y Y))
        refine ⟨by simp, _, _, _, _, (by simp only [zb, seval, w15]; rfl), (by simp), (by simp only [zv]; rfl), (by simp), _, ALe.refl _, ?_⟩
        rfl
  · have hoe : (!(j.inp.toList == (⟨#[]⟩ : ByteArray).toList)) = true := by rw [strDec, decide_eq_false (fun h => ho ((size_nil _).1 h))]; rfl
    have e0 : prI j = prS j ++ nlB (wIn ++ hexB j.inp) [] := by rw [prI, if_neg ho]
    (refine Draw0.go fun K7 hK7 => ?_); simp only [zb, seval, w15, txtA, Jb.cs, hfl, hoe, z1, hx]; (refine RunQ.mk (by first | exact trivial | omega | (simp; done) | (simp; omega)) (hK7 _ _ ?_)); clear hK7 K7; (try ((refine Draw0.nil (hK8 _ ?_)); clear hK8 K8; (refine WpL.go _ rfl fun Y y => ?_); repeat (first | (apply fw; focus ((with_reducible constructor) <;> rfl)) | (apply WpA.cd; focus constructor) | ((first | with_reducible refine WpA.go _ rfl fun Y y => ?_ | apply RunTo.id); simp only [zb, seval, w15, txtA, Jb.cs, hfl, hoe, z1, hx]; refine RunTo.fn y (by first | exact trivial | omega | (simp; done) | (simp; omega)) ?_; clear y Y))))
    refine WpL.call rfl (guardA_sound (P := Tryd.prog) rfl) (CallA.shut rfl rfl (by kernel_rfl) (ALes.refl _) (by first | rfl | simp [shuts, A.shut, C.shut]) (hp9) ?_)
    (refine WpL.go _ rfl fun Y y => ?_); repeat (first | (apply fw; focus ((with_reducible constructor) <;> rfl)) | (apply WpA.cd; focus constructor) | ((first | with_reducible refine WpA.go _ rfl fun Y y => ?_ | apply RunTo.id); simp only [zb, seval, w15, txtA, Jb.cs, hfl, z1, hx]; refine RunTo.fn y (by first | exact trivial | omega | (simp; done) | (simp; omega)) ?_; clear y Y))
    refine WpL.call rfl (guardA_sound (P := Tryd.prog) rfl) (CallA.shut rfl rfl (by kernel_rfl) (ALes.refl _) (by first | rfl | simp [shuts, A.shut, C.shut]) (lp3) ?_)
    (refine WpL.go _ rfl fun Y y => ?_); repeat (first | (apply fw; focus ((with_reducible constructor) <;> rfl)) | (apply WpA.cd; focus constructor) | ((first | with_reducible refine WpA.go _ rfl fun Y y => ?_ | apply RunTo.id); simp only [zb, seval, w15, txtA, Jb.cs, hfl, z1, hx]; refine RunTo.fn y (by first | exact trivial | omega | (simp; done) | (simp; omega)) ?_; clear y Y))
    refine WpA.loop (PrI j) j.fs.length ?_ ⟨0, rfl, Nat.zero_le _, rfl⟩ ?_
    · exact Le.sub (by simp [Sub, find, colsB, e0, prS, jobOb, Jb.cs])
    intro n' st hI
    obtain ⟨k, rfl, hk, rfl⟩ := hI
    have hw2 : IntKind.i64.wrap ((k : Int) + 1) = ((k + 1 : Nat) : Int) := by rw [wrap64 (by omega) (by omega)]; omega
    have hck := hcz k
    by_cases hlt : k < j.fs.length
    · have hd3 : decide ((k : Int) < (j.fs.length : Int)) = true := by simp; omega
      have hga := fC_get hlt
      have hin := h6 j.fs[k] (by simp)
      have hsn := colsB_take wColl (prI j) hlt
      have hlz := nlB_size wColl j.fs[k].l hin
      rw [show j.fs[k].l.length = 3 from rfl, z6] at hlz
      have lp5 : Pure Tryd.prog 25 [.one (.v (.string ⟨#[99, 111, 108, 108, 101, 99, 116]⟩)), .one (.sl 1 (nC j.fs[k].l))] (.one (.v (.string (nlB wColl j.fs[k].l)))) := line_pure _ _ (by decide) (by simp [Co.l]) hin
      repeat (first | (apply fw; focus ((with_reducible constructor) <;> rfl)) | (apply WpA.cd; focus constructor) | ((first | with_reducible refine WpA.go _ rfl fun Y y => ?_ | apply RunTo.id); simp only [zb, seval, w15, txtA, Jb.cs, jobOb, hd3, hga]; refine RunTo.fn y (by first | exact trivial | omega | (simp; done) | (simp; omega)) ?_; clear y Y))
      refine WpL.le (Le.frzLast (S := [some (jobOb j), some ⟨48, 3, [[.v (.int .i64 j.fs[k].s), .v (.int .i64 j.fs[k].g), .v (.int .i64 j.fs[k].t)]]⟩]) (t := 3) [(55, .one (.sl 1 (nC j.fs[k].l))), (48, .one (.v (.string (colsB wColl (prI j) (j.fs.take k))))), (44, .one (.v (.int .i64 k))), (43, .one (.v (.int .i64 j.fs.length))), (42, .one (.sl 3 (fC j.fs))), (1, .one (.ptr 0 1 0 0))] (nC_shut j.fs[k].l) (Nat.zero_le _) ⟨⟨_, rfl, FzA.last rfl rfl⟩, ⟨_, rfl, .inl rfl⟩, ⟨_, rfl, .inl rfl⟩, ⟨_, rfl, .inl rfl⟩, ⟨_, rfl, .inl rfl⟩, ⟨_, rfl, .inl rfl⟩, trivial⟩ (by simp [Sub, find]) (by simp [envBd, A.bd, C.bd]) (by simp [ObBd, C.bd, jobOb, Jb.cs])) ?_
      refine WpL.call rfl (guardA_sound (P := Tryd.prog) rfl) (CallA.shut rfl rfl (by kernel_rfl) (ALes.refl _) (by first | rfl | simp [shuts, A.shut, C.shut]) (lp5) ?_)
      (refine WpL.go _ rfl fun Y y => ?_); repeat (first | (apply fw; focus ((with_reducible constructor) <;> rfl)) | (apply WpA.cd; focus constructor) | ((first | with_reducible refine WpA.go _ rfl fun Y y => ?_ | apply RunTo.id); simp only [zb, seval, w15, txtA, hw2, z6]; refine RunTo.fn y (by first | exact trivial | omega | (simp; done) | (simp; omega)) ?_; clear y Y))
      refine ⟨j.fs.length - (k + 1), ⟨[(44, .one (.v (.int .i64 (k + 1 : Nat)))), (43, .one (.v (.int .i64 j.fs.length))), (42, .one (.sl 3 (fC j.fs))), (4, .one (.v (.string (colsB wColl (prI j) (j.fs.take (k + 1)))))), (1, .one (.ptr 0 1 0 0))], [some (jobOb j)]⟩, by omega, Le.drop 1 (Nat.zero_le _) rfl (by simp [Sub, find, hsn]) (by simp [envBd, A.bd, C.bd]) (by simp [ObBd, C.bd, jobOb, Jb.cs]), k + 1, rfl, hlt, rfl⟩
    have hd3 : decide ((k : Int) < (j.fs.length : Int)) = false := by simp; omega
    obtain rfl : k = j.fs.length := by omega
    rw [List.take_length] at hck ⊢
    by_cases hs : j.src.size = 0
    · have hse : (!(j.src.toList == (⟨#[]⟩ : ByteArray).toList)) = false := by rw [strDec, decide_eq_true ((size_nil _).2 hs)]; rfl
      have ht : prT j = colsB wColl (prI j) j.fs := by rw [prT, if_pos hs]; rfl
      rw [← ht]
      repeat (first | (apply fw; focus ((with_reducible constructor) <;> rfl)) | (apply WpA.cd; focus constructor) | ((first | with_reducible refine WpA.go _ rfl fun Y y => ?_ | apply RunTo.id); simp only [zb, seval, w15, txtA, Jb.cs, jobOb, hd3, hse]; refine RunTo.fn y (by first | exact trivial | omega | (simp; done) | (simp; omega)) ?_; clear y Y))
      by_cases hbig : 65536 < (prT j).size
      · have hd4 : decide ((65536 : Int) < ((prT j).size : Int)) = true := by simp; omega
        have hA : prA j = (⟨#[]⟩, 12) := by unfold prA; rw [if_neg (by omega), if_pos hbig]
        rw [hA, hd4]
        repeat (first | (apply fw; focus ((with_reducible constructor) <;> rfl)) | (apply WpA.cd; focus constructor) | ((first | with_reducible refine WpA.go _ rfl fun Y y => ?_ | apply RunTo.id); simp only [zb, seval, w15, txtA, hd4]; refine RunTo.fn y (by first | exact trivial | omega | (simp; done) | (simp; omega)) ?_; clear y Y))
        refine ⟨by simp, _, _, _, _, (by simp only [zb, seval, w15]; rfl), (by simp), (by simp only [zv]; rfl), (by simp), _, ALe.refl _, ?_⟩
        rfl
      · have hd4 : decide ((65536 : Int) < ((prT j).size : Int)) = false := by simp; omega
        have hA : prA j = (prT j, 0) := by unfold prA; rw [if_neg (by omega), if_neg hbig]
        rw [hA, hd4]
        repeat (first | (apply fw; focus ((with_reducible constructor) <;> rfl)) | (apply WpA.cd; focus constructor) | ((first | with_reducible refine WpA.go _ rfl fun Y y => ?_ | apply RunTo.id); simp only [zb, seval, w15, txtA, hd4]; refine RunTo.fn y (by first | exact trivial | omega | (simp; done) | (simp; omega)) ?_; clear y Y))
        refine ⟨by simp, _, _, _, _, (by simp only [zb, seval, w15]; rfl), (by simp), (by simp only [zv]; rfl), (by simp), _, ALe.refl _, ?_⟩
        rfl
    · have hse : (!(j.src.toList == (⟨#[]⟩ : ByteArray).toList)) = true := by rw [strDec, decide_eq_false (fun h => hs ((size_nil _).1 h))]; rfl
      have ht : prT j = colsB wColl (prI j) j.fs ++ (nlB wProg [] ++ j.src) := by rw [prT, if_neg hs]; rfl
      repeat (first | (apply fw; focus ((with_reducible constructor) <;> rfl)) | (apply WpA.cd; focus constructor) | ((first | with_reducible refine WpA.go _ rfl fun Y y => ?_ | apply RunTo.id); simp only [zb, seval, w15, txtA, Jb.cs, jobOb, hd3, hse]; refine RunTo.fn y (by first | exact trivial | omega | (simp; done) | (simp; omega)) ?_; clear y Y))
      (refine WpA.draw0 6 _ _ _ rfl rfl rfl (by kernel_rfl) (by kernel_rfl) (by kernel_rfl) fun K8 hK8 => ?_); simp only [zz] at hK8 ⊢; (refine Draw0.go fun K7 hK7 => ?_); simp only [zb, seval, w15, Jb.cs]; (refine RunQ.mk (by first | exact trivial | omega | (simp; done) | (simp; omega)) (hK7 _ _ ?_)); clear hK7 K7; (try ((refine Draw0.nil (hK8 _ ?_)); clear hK8 K8; (refine WpL.go _ rfl fun Y y => ?_); repeat (first | (apply fw; focus ((with_reducible constructor) <;> rfl)) | (apply WpA.cd; focus constructor) | ((first | with_reducible refine WpA.go _ rfl fun Y y => ?_ | apply RunTo.id); simp only [zb, seval, w15, Jb.cs]; refine RunTo.fn y (by first | exact trivial | omega | (simp; done) | (simp; omega)) ?_; clear y Y))))
      refine Draw0.step (OpS.shut rfl rfl rfl (by kernel_rfl) (ALes.refl _) (by first | rfl | simp [shuts, A.shut, C.shut]) (lp4)) ?_
      (refine Draw0.go fun K7 hK7 => ?_); simp only [zb, seval, w15, txtA, Jb.cs, z5, hq4]; (refine RunQ.mk (by first | exact trivial | omega | (simp; done) | (simp; omega)) (hK7 _ _ ?_)); clear hK7 K7; (try ((refine Draw0.nil (hK8 _ ?_)); clear hK8 K8; (refine WpL.go _ rfl fun Y y => ?_); repeat (first | (apply fw; focus ((with_reducible constructor) <;> rfl)) | (apply WpA.cd; focus constructor) | ((first | with_reducible refine WpA.go _ rfl fun Y y => ?_ | apply RunTo.id); simp only [zb, seval, w15, txtA, Jb.cs, z5, hq4]; refine RunTo.fn y (by first | exact trivial | omega | (simp; done) | (simp; omega)) ?_; clear y Y))))
      rw [← ht]
      by_cases hbig : 65536 < (prT j).size
      · have hd4 : decide ((65536 : Int) < ((prT j).size : Int)) = true := by simp; omega
        have hA : prA j = (⟨#[]⟩, 12) := by unfold prA; rw [if_neg (by omega), if_pos hbig]
        rw [hA, hd4]
        repeat (first | (apply fw; focus ((with_reducible constructor) <;> rfl)) | (apply WpA.cd; focus constructor) | ((first | with_reducible refine WpA.go _ rfl fun Y y => ?_ | apply RunTo.id); simp only [zb, seval, w15, txtA, hd4]; refine RunTo.fn y (by first | exact trivial | omega | (simp; done) | (simp; omega)) ?_; clear y Y))
        refine ⟨by simp, _, _, _, _, (by simp only [zb, seval, w15]; rfl), (by simp), (by simp only [zv]; rfl), (by simp), _, ALe.refl _, ?_⟩
        rfl
      · have hd4 : decide ((65536 : Int) < ((prT j).size : Int)) = false := by simp; omega
        have hA : prA j = (prT j, 0) := by unfold prA; rw [if_neg (by omega), if_neg hbig]
        rw [hA, hd4]
        repeat (first | (apply fw; focus ((with_reducible constructor) <;> rfl)) | (apply WpA.cd; focus constructor) | ((first | with_reducible refine WpA.go _ rfl fun Y y => ?_ | apply RunTo.id); simp only [zb, seval, w15, txtA, hd4]; refine RunTo.fn y (by first | exact trivial | omega | (simp; done) | (simp; omega)) ?_; clear y Y))
        refine ⟨by simp, _, _, _, _, (by simp only [zb, seval, w15]; rfl), (by simp), (by simp only [zv]; rfl), (by simp), _, ALe.refl _, ?_⟩
        rfl
/-- A job that a law is handed. -/
structure Jb.In (j : Jb) : Prop where
  lim : I64 j.lim
  fu : I64 j.fu
  fs : ∀ c ∈ j.fs, ∀ n ∈ c.l, I64 n
  len : j.fs.length ≤ 1000000000000000
  src : j.src.size ≤ 140737488351232
  inp : j.inp.size ≤ 140737488351232
def Jb.long (j : Jb) : Bool := decide (1200 < j.fs.length) || (decide (70000 < j.src.size) || decide (70000 < j.inp.size))
theorem Jb.In.ok {j : Jb} (h : j.In) (hl : j.long = false) : j.Ok := by
  simp only [Jb.long, Bool.or_eq_false_iff, decide_eq_false_iff_not] at hl
  exact ⟨by omega, by omega, h.lim, h.fu, by omega, h.fs⟩
theorem long_pure (j : Jb) (hj : j.In) : Pure Tryd.prog 9 [.agg j.cs] (.one (.v (.bool j.long))) := by
  obtain ⟨-, -, -, h1, h2, h3⟩ := hj
  have hfl := fC_len j.fs
  refine Fn.intro Tryd.func9 rfl Tryd.ntmps9 Tryd.results9 (by simp only [List.length_cons, List.length_nil]; decide) ?_
  by_cases hn : 1200 < j.fs.length
  · have hd1 : decide ((1200 : Int) < (j.fs.length : Int)) = true := by simp; omega
    have hL : j.long = true := by simp [Jb.long, hn]
    rw [hL]
    repeat (first | (apply fw; focus ((with_reducible constructor) <;> rfl)) | (apply WpA.cd; focus constructor) | ((first | with_reducible refine WpA.go _ rfl fun Y y => ?_ | apply RunTo.id); simp only [zb, seval, w9, txtA, Jb.cs, hfl, hd1]; refine RunTo.fn y (by first | exact trivial | omega | (simp; done) | (simp; omega)) ?_; clear y Y))
    refine ⟨by simp, _, _, _, _, (by simp only [zb, seval, w9]; rfl), (by simp), (by simp only [zv]; rfl), (by simp), _, ALe.refl _, ?_⟩
    rfl
  have hd1 : decide ((1200 : Int) < (j.fs.length : Int)) = false := by simp; omega
  by_cases hb : 70000 < j.src.size
  · have hd2 : decide ((70000 : Int) < (j.src.size : Int)) = true := by simp; omega
    have hL : j.long = true := by simp [Jb.long, hb]
    rw [hL]
    repeat (first | (apply fw; focus ((with_reducible constructor) <;> rfl)) | (apply WpA.cd; focus constructor) | ((first | with_reducible refine WpA.go _ rfl fun Y y => ?_ | apply RunTo.id); simp only [zb, seval, w9, txtA, Jb.cs, hfl, hd1, hd2]; refine RunTo.fn y (by first | exact trivial | omega | (simp; done) | (simp; omega)) ?_; clear y Y))
    refine ⟨by simp, _, _, _, _, (by simp only [zb, seval, w9]; rfl), (by simp), (by simp only [zv]; rfl), (by simp), _, ALe.refl _, ?_⟩
    rfl
  have hd2 : decide ((70000 : Int) < (j.src.size : Int)) = false := by simp; omega
  by_cases hc : 70000 < j.inp.size
  · have hd3 : decide ((70000 : Int) < (j.inp.size : Int)) = true := by simp; omega
    have hL : j.long = true := by simp [Jb.long, hc]
    rw [hL]
    repeat (first | (apply fw; focus ((with_reducible constructor) <;> rfl)) | (apply WpA.cd; focus constructor) | ((first | with_reducible refine WpA.go _ rfl fun Y y => ?_ | apply RunTo.id); simp only [zb, seval, w9, txtA, Jb.cs, hfl, hd1, hd2, hd3]; refine RunTo.fn y (by first | exact trivial | omega | (simp; done) | (simp; omega)) ?_; clear y Y))
    refine ⟨by simp, _, _, _, _, (by simp only [zb, seval, w9]; rfl), (by simp), (by simp only [zv]; rfl), (by simp), _, ALe.refl _, ?_⟩
    rfl
  have hd3 : decide ((70000 : Int) < (j.inp.size : Int)) = false := by simp; omega
  have hL : j.long = false := by simp [Jb.long]; omega
  rw [hL]
  repeat (first | (apply fw; focus ((with_reducible constructor) <;> rfl)) | (apply WpA.cd; focus constructor) | ((first | with_reducible refine WpA.go _ rfl fun Y y => ?_ | apply RunTo.id); simp only [zb, seval, w9, txtA, Jb.cs, hfl, hd1, hd2, hd3]; refine RunTo.fn y (by first | exact trivial | omega | (simp; done) | (simp; omega)) ?_; clear y Y))
  refine ⟨by simp, _, _, _, _, (by simp only [zb, seval, w9]; rfl), (by simp), (by simp only [zv]; rfl), (by simp), _, ALe.refl _, ?_⟩
  rfl
def NmI (x0 : Nat) (j : Nat) (st : St) : Prop := ∃ (x : Nat) (pre : List UInt8), j = x ∧ x < 18446744073709551616 ∧ numN x0 = pre ++ numN x ∧
  ((pre = [] ∧ st = ⟨[(4, .one (.v (.slice none 0 0))), (3, .one (.v (.int .u64 x)))], []⟩) ∨
   (pre ≠ [] ∧ st = ⟨[(4, .one (.ms 0 pre.length)), (3, .one (.v (.int .u64 x)))], [some ⟨5, 1, bC pre⟩]⟩))
theorem wrapU64 (x : Int) : IntKind.u64.wrap x = x % 18446744073709551616 := by simp [IntKind.wrap, IntKind.bits, IntKind.signed]
theorem num_fn (n : Int) (hn : I64 n) : Fn Tryd.prog 23 [.one (.v (.int .i64 n))] [] (fun r s' => r = .one (.ms 0 (numN (zig n)).length) ∧ s' = [some ⟨5, 1, bC (numN (zig n))⟩]) := by
  have hz64 := zig_lt n hn
  have hlen := numN_len10 hn
  obtain ⟨h0, h1⟩ := hn
  refine Fn.introT Tryd.func23 rfl Tryd.ntmps23 Tryd.results23 (by simp only [List.length_cons, List.length_nil]; decide) ?_

  by_cases hneg : n < 0
  · have hd1 : decide (n < 0) = true := decide_eq_true hneg
    have e1 : IntKind.i64.wrap (n + 1) = n + 1 := wrap64 (by omega) (by omega)
    have e2 : IntKind.i64.wrap (0 - (n + 1)) = 0 - (n + 1) := wrap64 (by omega) (by omega)
    have e3 : IntKind.u64.wrap (0 - (n + 1)) = 0 - (n + 1) := by rw [wrapU64]; omega
    have e4 : IntKind.u64.wrap ((0 - (n + 1)) * 2) = (0 - (n + 1)) * 2 := by rw [wrapU64]; omega
    have e5 : IntKind.u64.wrap ((0 - (n + 1)) * 2 + 1) = (zig n : Int) := by rw [wrapU64, zig, if_neg (by omega)]; omega
    repeat (first | (apply fw; focus ((with_reducible constructor) <;> rfl)) | (apply WpA.cd; focus constructor) | ((first | with_reducible refine WpA.go _ rfl fun Y y => ?_ | apply RunTo.id); simp only [zb, seval, w23, txtA, hd1, e1, e2, e3, e4, e5]; refine RunTo.fn y (by first | exact trivial | omega | (simp; done) | (simp; omega)) ?_; clear y Y))
    refine WpA.loop (NmI (zig n)) (zig n) ?_ ⟨zig n, [], rfl, hz64, rfl, .inl ⟨rfl, rfl⟩⟩ ?_
    · exact Le.sub (by simp [Sub, find])
    intro x st hI
    obtain ⟨_, pre, rfl, hx64, hpre, hI⟩ := hI
    have hpl := congrArg List.length hpre
    have hbc := bC_len pre
    rw [List.length_append] at hpl
    by_cases hx : 127 < x
    · have hd2 : decide ((127 : Int) < (x : Int)) = true := by simp; omega
      have hs1 : IntKind.u64.wrap ((x : Int).tdiv 128) = ((x / 128 : Nat) : Int) := by rw [wrapU64, Int.tdiv_eq_ediv_of_nonneg (by omega)]; omega
      have hs2 : (x : Int).tmod 128 = ((x % 128 : Nat) : Int) := by rw [Int.tmod_eq_emod_of_nonneg (by omega)]; omega
      have hs3 : IntKind.u64.wrap (128 + ((x % 128 : Nat) : Int)) = ((x % 128 + 128 : Nat) : Int) := by rw [wrapU64]; omega
      have hs4 : IntKind.u8.wrap ((x % 128 + 128 : Nat) : Int) = ((x % 128 + 128 : Nat) : Int) := by rw [wrapU8 (by omega) (by omega)]
      have hb8 : ((x % 128 + 128).toUInt8.toNat : Int) = ((x % 128 + 128 : Nat) : Int) := by rw [toU8 (by omega)]
      have hnext : numN (zig n) = (pre ++ [(x % 128 + 128).toUInt8]) ++ numN (x / 128) := by rw [hpre, numN_big hx]; simp
      have hsn := bC_snoc pre (x % 128 + 128).toUInt8
      rw [hb8] at hsn
      rcases hI with ⟨hp0, rfl⟩ | ⟨hp0, rfl⟩
      · repeat (first | (apply fw; focus ((with_reducible constructor) <;> rfl)) | (apply WpA.cd; focus constructor) | ((first | with_reducible refine WpA.go _ rfl fun Y y => ?_ | apply RunTo.id); simp only [zb, seval, w23, txtA, hd2, hs1, hs2, hs3, hs4]; refine RunTo.fn y (by first | exact trivial | omega | (simp; done) | (simp; omega)) ?_; clear y Y))
        refine ⟨x / 128, ⟨[(4, .one (.ms 0 1)), (3, .one (.v (.int .u64 (x / 128 : Nat))))], [some ⟨5, 1, [[.v (.int .u8 ((x % 128 + 128 : Nat) : Int))]]⟩]⟩, by omega, Le.names [1] (Handed.of (by decide) rfl) (fun i hi => absurd hi (Nat.not_lt_zero _)) (by simp [SubR, find, A.ren, C.ren, rn]), x / 128, pre ++ [(x % 128 + 128).toUInt8], rfl, by omega, hnext, .inr ⟨by simp, ?_⟩⟩
        subst hp0
        rw [hsn]
        rfl
      · repeat (first | (apply fw; focus ((with_reducible constructor) <;> rfl)) | (apply WpA.cd; focus constructor) | ((first | with_reducible refine WpA.go _ rfl fun Y y => ?_ | apply RunTo.id); simp only [zb, seval, w23, txtA, hd2, hs1, hs2, hs3, hs4, hbc]; refine RunTo.fn y (by first | exact trivial | omega | (simp; done) | (simp; omega)) ?_; clear y Y))
        refine ⟨x / 128, ⟨[(4, .one (.ms 0 (pre.length + 1))), (3, .one (.v (.int .u64 (x / 128 : Nat))))], [some ⟨5, 1, bC pre ++ [[.v (.int .u8 ((x % 128 + 128 : Nat) : Int))]]⟩]⟩, by omega, Le.names [0] (Handed.of (by decide) (by simp [Ob.ren, C.rens, C.ren, bC_ren])) (fun i hi => absurd hi (Nat.not_lt_zero _)) (by simp [SubR, find, A.ren, C.ren, rn]), x / 128, pre ++ [(x % 128 + 128).toUInt8], rfl, by omega, hnext, .inr ⟨by simp, ?_⟩⟩
        rw [hsn]
        simp
    · have hd2 : decide ((127 : Int) < (x : Int)) = false := by simp; omega
      have hs4 : IntKind.u8.wrap (x : Int) = (x : Int) := by rw [wrapU8 (by omega) (by omega)]
      have hb8 : (x.toUInt8.toNat : Int) = (x : Int) := by rw [toU8 (by omega)]
      have hsn := bC_snoc pre x.toUInt8
      rw [hb8] at hsn
      have hfin : numN (zig n) = pre ++ [x.toUInt8] := by rw [hpre, numN_small (by omega)]
      rw [hfin]
      rcases hI with ⟨hp0, rfl⟩ | ⟨hp0, rfl⟩
      · subst hp0
        repeat (first | (apply fw; focus ((with_reducible constructor) <;> rfl)) | (apply WpA.cd; focus constructor) | ((first | with_reducible refine WpA.go _ rfl fun Y y => ?_ | apply RunTo.id); simp only [zb, seval, w23, txtA, hd2, hs4]; refine RunTo.fn y (by first | exact trivial | omega | (simp; done) | (simp; omega)) ?_; clear y Y))
        refine ⟨.inl rfl, _, _, .one (.ms 0 1), [some ⟨5, 1, [[.v (.int .u8 (x : Int))]]⟩], rfl, ?_, Le.names [1] (Handed.of (by decide) rfl) (fun i hi => absurd hi (Nat.not_lt_zero _)) (by simp [SubR, find, tupA, A.ren, C.ren, rn]), by simp, ?_⟩
        · trivial
        · rw [hsn]; rfl
      · repeat (first | (apply fw; focus ((with_reducible constructor) <;> rfl)) | (apply WpA.cd; focus constructor) | ((first | with_reducible refine WpA.go _ rfl fun Y y => ?_ | apply RunTo.id); simp only [zb, seval, w23, txtA, hd2, hs4, hbc]; refine RunTo.fn y (by first | exact trivial | omega | (simp; done) | (simp; omega)) ?_; clear y Y))
        refine ⟨.inl rfl, _, _, .one (.ms 0 (pre.length + 1)), [some ⟨5, 1, bC pre ++ [[.v (.int .u8 (x : Int))]]⟩], rfl, ?_, Le.names [0] (Handed.of (by decide) (by simp [Ob.ren, C.rens, C.ren, bC_ren])) (fun i hi => absurd hi (Nat.not_lt_zero _)) (by simp [SubR, find, tupA, A.ren, C.ren, rn]), by simp, ?_⟩
        · trivial
        · rw [hsn]
  · have hd1 : decide (n < 0) = false := decide_eq_false hneg
    have e3 : IntKind.u64.wrap n = n := by rw [wrapU64]; omega
    have e5 : IntKind.u64.wrap (n * 2) = (zig n : Int) := by rw [wrapU64, zig, if_pos (by omega)]; omega
    repeat (first | (apply fw; focus ((with_reducible constructor) <;> rfl)) | (apply WpA.cd; focus constructor) | ((first | with_reducible refine WpA.go _ rfl fun Y y => ?_ | apply RunTo.id); simp only [zb, seval, w23, txtA, hd1, e3, e5]; refine RunTo.fn y (by first | exact trivial | omega | (simp; done) | (simp; omega)) ?_; clear y Y))
    refine WpA.loop (NmI (zig n)) (zig n) ?_ ⟨zig n, [], rfl, hz64, rfl, .inl ⟨rfl, rfl⟩⟩ ?_
    · exact Le.sub (by simp [Sub, find])
    intro x st hI
    obtain ⟨_, pre, rfl, hx64, hpre, hI⟩ := hI
    have hpl := congrArg List.length hpre
    have hbc := bC_len pre
    rw [List.length_append] at hpl
    by_cases hx : 127 < x
    · have hd2 : decide ((127 : Int) < (x : Int)) = true := by simp; omega
      have hs1 : IntKind.u64.wrap ((x : Int).tdiv 128) = ((x / 128 : Nat) : Int) := by rw [wrapU64, Int.tdiv_eq_ediv_of_nonneg (by omega)]; omega
      have hs2 : (x : Int).tmod 128 = ((x % 128 : Nat) : Int) := by rw [Int.tmod_eq_emod_of_nonneg (by omega)]; omega
      have hs3 : IntKind.u64.wrap (128 + ((x % 128 : Nat) : Int)) = ((x % 128 + 128 : Nat) : Int) := by rw [wrapU64]; omega
      have hs4 : IntKind.u8.wrap ((x % 128 + 128 : Nat) : Int) = ((x % 128 + 128 : Nat) : Int) := by rw [wrapU8 (by omega) (by omega)]
      have hb8 : ((x % 128 + 128).toUInt8.toNat : Int) = ((x % 128 + 128 : Nat) : Int) := by rw [toU8 (by omega)]
      have hnext : numN (zig n) = (pre ++ [(x % 128 + 128).toUInt8]) ++ numN (x / 128) := by rw [hpre, numN_big hx]; simp
      have hsn := bC_snoc pre (x % 128 + 128).toUInt8
      rw [hb8] at hsn
      rcases hI with ⟨hp0, rfl⟩ | ⟨hp0, rfl⟩
      · repeat (first | (apply fw; focus ((with_reducible constructor) <;> rfl)) | (apply WpA.cd; focus constructor) | ((first | with_reducible refine WpA.go _ rfl fun Y y => ?_ | apply RunTo.id); simp only [zb, seval, w23, txtA, hd2, hs1, hs2, hs3, hs4]; refine RunTo.fn y (by first | exact trivial | omega | (simp; done) | (simp; omega)) ?_; clear y Y))
        refine ⟨x / 128, ⟨[(4, .one (.ms 0 1)), (3, .one (.v (.int .u64 (x / 128 : Nat))))], [some ⟨5, 1, [[.v (.int .u8 ((x % 128 + 128 : Nat) : Int))]]⟩]⟩, by omega, Le.names [1] (Handed.of (by decide) rfl) (fun i hi => absurd hi (Nat.not_lt_zero _)) (by simp [SubR, find, A.ren, C.ren, rn]), x / 128, pre ++ [(x % 128 + 128).toUInt8], rfl, by omega, hnext, .inr ⟨by simp, ?_⟩⟩
        subst hp0
        rw [hsn]
        rfl
      · repeat (first | (apply fw; focus ((with_reducible constructor) <;> rfl)) | (apply WpA.cd; focus constructor) | ((first | with_reducible refine WpA.go _ rfl fun Y y => ?_ | apply RunTo.id); simp only [zb, seval, w23, txtA, hd2, hs1, hs2, hs3, hs4, hbc]; refine RunTo.fn y (by first | exact trivial | omega | (simp; done) | (simp; omega)) ?_; clear y Y))
        refine ⟨x / 128, ⟨[(4, .one (.ms 0 (pre.length + 1))), (3, .one (.v (.int .u64 (x / 128 : Nat))))], [some ⟨5, 1, bC pre ++ [[.v (.int .u8 ((x % 128 + 128 : Nat) : Int))]]⟩]⟩, by omega, Le.names [0] (Handed.of (by decide) (by simp [Ob.ren, C.rens, C.ren, bC_ren])) (fun i hi => absurd hi (Nat.not_lt_zero _)) (by simp [SubR, find, A.ren, C.ren, rn]), x / 128, pre ++ [(x % 128 + 128).toUInt8], rfl, by omega, hnext, .inr ⟨by simp, ?_⟩⟩
        rw [hsn]
        simp
    · have hd2 : decide ((127 : Int) < (x : Int)) = false := by simp; omega
      have hs4 : IntKind.u8.wrap (x : Int) = (x : Int) := by rw [wrapU8 (by omega) (by omega)]
      have hb8 : (x.toUInt8.toNat : Int) = (x : Int) := by rw [toU8 (by omega)]
      have hsn := bC_snoc pre x.toUInt8
      rw [hb8] at hsn
      have hfin : numN (zig n) = pre ++ [x.toUInt8] := by rw [hpre, numN_small (by omega)]
      rw [hfin]
      rcases hI with ⟨hp0, rfl⟩ | ⟨hp0, rfl⟩
      · subst hp0
        repeat (first | (apply fw; focus ((with_reducible constructor) <;> rfl)) | (apply WpA.cd; focus constructor) | ((first | with_reducible refine WpA.go _ rfl fun Y y => ?_ | apply RunTo.id); simp only [zb, seval, w23, txtA, hd2, hs4]; refine RunTo.fn y (by first | exact trivial | omega | (simp; done) | (simp; omega)) ?_; clear y Y))
        refine ⟨.inl rfl, _, _, .one (.ms 0 1), [some ⟨5, 1, [[.v (.int .u8 (x : Int))]]⟩], rfl, ?_, Le.names [1] (Handed.of (by decide) rfl) (fun i hi => absurd hi (Nat.not_lt_zero _)) (by simp [SubR, find, tupA, A.ren, C.ren, rn]), by simp, ?_⟩
        · trivial
        · rw [hsn]; rfl
      · repeat (first | (apply fw; focus ((with_reducible constructor) <;> rfl)) | (apply WpA.cd; focus constructor) | ((first | with_reducible refine WpA.go _ rfl fun Y y => ?_ | apply RunTo.id); simp only [zb, seval, w23, txtA, hd2, hs4, hbc]; refine RunTo.fn y (by first | exact trivial | omega | (simp; done) | (simp; omega)) ?_; clear y Y))
        refine ⟨.inl rfl, _, _, .one (.ms 0 (pre.length + 1)), [some ⟨5, 1, bC pre ++ [[.v (.int .u8 (x : Int))]]⟩], rfl, ?_, Le.names [0] (Handed.of (by decide) (by simp [Ob.ren, C.rens, C.ren, bC_ren])) (fun i hi => absurd hi (Nat.not_lt_zero _)) (by simp [SubR, find, tupA, A.ren, C.ren, rn]), by simp, ?_⟩
        · trivial
        · rw [hsn]
theorem rnum_pure (n : Int) (hn : I64 n) : Pure Tryd.prog 23 [.one (.v (.int .i64 n))] (.one (.sl 1 (bC (numN (zig n))))) :=
  Fn.frozen (by simp [A.shut, C.shut]) (num_fn n hn) fun r s ⟨hr, hs⟩ => by
    subst hr hs
    exact FzD.ms rfl rfl (bC_len _).symm rfl (fun e he => by simp only [bC, List.mem_map] at he; obtain ⟨b, -, rfl⟩ := he; rfl) rfl (fun c hc => by obtain ⟨e, he, hc⟩ := List.mem_flatten.1 hc; exact bC_shut _ e he c hc) fun k a b h1 h2 => by rw [h1] at h2; cases h2; exact .same _
/-- Bytes as a text. -/
def tB (l : List UInt8) : ByteArray := ⟨l.toArray⟩
theorem tB_eta (s : ByteArray) : tB s.data.toList = s := rfl
theorem tB_size (l : List UInt8) : (tB l).size = l.length := by show l.toArray.size = _; simp
theorem tB_get (l : List UInt8) (k : Nat) : (tB l)[k]? = l[k]? := by
  show (if h : k < (tB l).size then some (tB l)[k] else none) = _
  split
  · rename_i h
    rw [List.getElem?_eq_getElem (Nat.lt_of_lt_of_eq h (tB_size l))]
    show some (l.toArray[k]'(by have := Nat.lt_of_lt_of_eq h (tB_size l); simpa using this)) = _
    simp
  · rename_i h
    rw [List.getElem?_eq_none (by rw [tB_size] at h; omega)]
theorem tB_drop (l : List UInt8) (k : Nat) : (tB l).extract k l.length = tB (l.drop k) := by
  apply ByteArray.ext
  simp [tB, ByteArray.data_extract, List.take_of_length_le]
theorem tB_take (l : List UInt8) (k : Nat) : (tB l).extract 0 k = tB (l.take k) := by
  apply ByteArray.ext
  simp [tB, ByteArray.data_extract]
/-- A number's digits from place i on, x being read. -/
def get9 : Nat → Nat → List UInt8 → Option (Nat × List UInt8)
  | _, _, [] => none
  | i, x, c :: r => if 10 ≤ i then none else if i = 9 ∧ 1 < c.toNat then none else if 128 ≤ c.toNat then get9 (i + 1) (x + c.toNat % 128 * 128 ^ i) r else if c.toNat = 0 ∧ 0 < i then none else some (x + c.toNat % 128 * 128 ^ i, r)
def zag (x : Nat) : Int := if x % 2 = 1 then -((x / 2 : Nat) : Int) - 1 else ((x / 2 : Nat) : Int)
/-- A number from the front, and what is left. -/
def getL (l : List UInt8) : Option (Int × List UInt8) := (get9 0 0 l).map fun p => (zag p.1, p.2)
theorem get9_ten (x : Nat) (l : List UInt8) : get9 10 x l = none := by
  cases l with
  | nil => rfl
  | cons c r => rw [get9, if_pos (Nat.le_refl _)]
theorem pow9 {i : Nat} (h : i ≤ 9) : 128 ^ i ≤ 9223372036854775808 := Nat.le_trans (Nat.pow_le_pow_right (by decide) h) (by decide)
theorem get9_lt : ∀ {l r : List UInt8} {i x y : Nat}, i ≤ 9 → x < 128 ^ i → get9 i x l = some (y, r) → y < 18446744073709551616 ∧ r.length < l.length
  | [], r, i, x, y, _, _, h => by simp [get9] at h
  | c :: l, r, i, x, y, hi, hx, h => by
    have hp := pow9 hi
    have hm := Nat.mul_le_mul_right (128 ^ i) (show c.toNat % 128 ≤ 127 by omega)
    rw [get9, if_neg (by omega)] at h
    split at h
    · cases h
    · rename_i h9
      split at h
      · by_cases hi9 : i = 9
        · have := c.toNat_lt; omega
        · have := get9_lt (l := l) (by omega) (by rw [Nat.pow_succ]; omega) h
          simp only [List.length_cons]; omega
      · split at h
        · cases h
        · cases h
          refine ⟨?_, by simp⟩
          by_cases hi9 : i = 9
          · subst hi9
            have h1 := Nat.mul_le_mul_right (128 ^ 9) (show c.toNat % 128 ≤ 1 by omega)
            omega
          · have : 128 ^ i ≤ 72057594037927936 := Nat.le_trans (Nat.pow_le_pow_right (by decide) (show i ≤ 8 by omega)) (by decide)
            omega
theorem getL_ok {l r : List UInt8} {n : Int} (h : getL l = some (n, r)) : I64 n ∧ r.length < l.length := by
  unfold getL at h
  cases hg : get9 0 0 l with
  | none => rw [hg] at h; cases h
  | some p =>
    rw [hg] at h
    simp only [Option.map_some, Option.some.injEq, Prod.mk.injEq] at h
    have := get9_lt (i := 0) (by omega) (by decide) hg
    refine ⟨?_, by rw [← h.2]; exact this.2⟩
    rw [← h.1]; unfold zag; split <;> constructor <;> omega
def getT : Option (Int × List UInt8) → A
  | none => .tup [.one (.v (.int .i64 0)), .one (.v (.string ⟨#[]⟩)), .one (.v (.bool false))]
  | some (n, r) => .tup [.one (.v (.int .i64 n)), .one (.v (.string (tB r))), .one (.v (.bool true))]
def GetI (l : List UInt8) (n : Nat) (st : St) : Prop := ∃ i x : Nat, n = 10 - i ∧ i ≤ 9 ∧ i ≤ l.length ∧ x < 128 ^ i ∧ get9 0 0 l = get9 i x (l.drop i) ∧
  st = ⟨[(7, .one (.v (.int .i64 i))), (6, .one (.v (.int .u64 (128 ^ i : Nat)))), (5, .one (.v (.int .u64 x))), (0, .one (.v (.string (tB l))))], []⟩
theorem get_pure (l : List UInt8) (hl : l.length ≤ 100000) : Pure Tryd.prog 31 [.one (.v (.string (tB l)))] (getT (getL l)) := by
  have hsz := tB_size l
  refine Fn.intro Tryd.func31 rfl Tryd.ntmps31 Tryd.results31 (by simp only [List.length_cons, List.length_nil]; decide) ?_
  repeat (first | (apply fw; focus ((with_reducible constructor) <;> rfl)) | (apply WpA.cd; focus constructor) | ((first | with_reducible refine WpA.go _ rfl fun Y y => ?_ | apply RunTo.id); simp only [zb, seval, w31, txtA]; refine RunTo.fn y (by first | exact trivial | omega | (simp; done) | (simp; omega)) ?_; clear y Y))
  refine WpA.loop (GetI l) 10 ?_ ⟨0, 0, rfl, by omega, by omega, by decide, rfl, rfl⟩ ?_
  · exact Le.sub (by simp [Sub, find])
  intro n' st hI
  obtain ⟨i, x, rfl, hi9, hil, hx, hg, rfl⟩ := hI
  have hp := pow9 hi9
  have hi10 : decide ((i : Int) < 10) = true := by simp; omega
  by_cases hlt : i < l.length
  case neg =>
    have hd0 : decide ((i : Int) < (l.length : Int)) = false := by simp; omega
    have hN : getL l = none := by rw [getL, hg, List.drop_eq_nil_of_le (by omega)]; rfl
    rw [hN]
    repeat (first | (apply fw; focus ((with_reducible constructor) <;> rfl)) | (apply WpA.cd; focus constructor) | ((first | with_reducible refine WpA.go _ rfl fun Y y => ?_ | apply RunTo.id); simp only [zb, seval, w31, txtA, hsz, hd0, hi10]; refine RunTo.fn y (by first | exact trivial | omega | (simp; done) | (simp; omega)) ?_; clear y Y))
    refine ⟨by simp, _, _, _, _, (by simp only [zb, seval, w31]; rfl), (by simp), (by simp only [zv]; rfl), (by simp), _, ALe.refl _, ?_⟩
    rfl
  have hd1 : decide ((i : Int) < (l.length : Int)) = true := by simp; omega
  have hga : (tB l)[i]? = some l[i] := by rw [tB_get, List.getElem?_eq_getElem hlt]
  have hdr : l.drop i = l[i] :: l.drop (i + 1) := by rw [List.drop_eq_getElem_cons hlt]
  rw [hdr, get9, if_neg (by omega)] at hg
  have hgl : getL l = (get9 0 0 l).map fun p => (zag p.1, p.2) := rfl
  rw [hg] at hgl
  have hcB := (l[i]).toNat_lt
  generalize (l[i]) = c at *
  have hcv : IntKind.u64.wrap (c.toNat : Int) = (c.toNat : Int) := by rw [wrapU64]; omega
  have hm := Nat.mul_le_mul_right (128 ^ i) (show c.toNat % 128 ≤ 127 by omega)
  have hm1 := Nat.mul_le_mul_right (128 ^ i) (show c.toNat % 128 ≤ c.toNat by omega)
  have hps : 128 ^ (i + 1) = 128 ^ i * 128 := Nat.pow_succ ..
  have hp8 : i ≤ 8 → 128 ^ i ≤ 72057594037927936 := fun h => Nat.le_trans (Nat.pow_le_pow_right (by decide) h) (by decide)
  have hp9 : i = 9 → 128 ^ i = 9223372036854775808 := fun h => by subst h; decide
  have hw2 : IntKind.i64.wrap ((i : Int) + 1) = ((i + 1 : Nat) : Int) := by rw [wrap64 (by omega) (by omega)]; omega
  have hnx : GetI l (10 - (i + 1)) ⟨[(7, .one (.v (.int .i64 (i + 1 : Nat)))), (6, .one (.v (.int .u64 (128 ^ (i + 1) : Nat)))), (5, .one (.v (.int .u64 (x + c.toNat % 128 * 128 ^ i : Nat)))), (0, .one (.v (.string (tB l))))], []⟩ ∨ ¬(i < 9 ∧ 128 ≤ c.toNat) := by
    by_cases h : i < 9 ∧ 128 ≤ c.toNat
    · refine .inl ⟨i + 1, _, rfl, by omega, by omega, by omega, ?_, rfl⟩
      rw [hg, if_neg (by omega), if_pos h.2]
    · exact .inr h
  have hmod : ((c.toNat : Int)).tmod 128 = ((c.toNat % 128 : Nat) : Int) := by rw [Int.tmod_eq_emod_of_nonneg (by omega)]; omega
  rw [hps] at hnx
  generalize 128 ^ i = q at *

  by_cases h9 : i = 9
  · have e9 : ((i : Int) == 9) = true := by simp [h9]
    by_cases hc1 : 1 < c.toNat
    · have hdc : decide ((1 : Int) < (c.toNat : Int)) = true := by simp; omega
      rw [if_pos ⟨h9, hc1⟩] at hgl
      rw [hgl]
      repeat (first | (apply fw; focus ((with_reducible constructor) <;> rfl)) | (apply WpA.cd; focus constructor) | ((first | with_reducible refine WpA.go _ rfl fun Y y => ?_ | apply RunTo.id); simp only [zb, seval, w31, txtA, hsz, hd1, hi10, hga, hcv, e9, hdc]; refine RunTo.fn y (by first | exact trivial | omega | (simp; done) | (simp; omega)) ?_; clear y Y))
      refine ⟨by simp, _, _, _, _, (by simp only [zb, seval, w31]; rfl), (by simp), (by simp only [zv]; rfl), (by simp), _, ALe.refl _, ?_⟩
      rfl
    · have hdc : decide ((1 : Int) < (c.toNat : Int)) = false := by simp; omega
      have hlt : c.toNat < 128 := by omega
      rw [if_neg (by omega), if_neg (by omega)] at hgl
      have hbd : x + c.toNat % 128 * q < 18446744073709551616 := by
        have h1 := Nat.mul_le_mul_right q (show c.toNat % 128 ≤ 1 by omega)
        have := hp9 h9; omega
      have hdl : decide ((c.toNat : Int) < 128) = true := by simp; omega
      have hmul : IntKind.u64.wrap (((c.toNat % 128 : Nat) : Int) * (q : Int)) = ((c.toNat % 128 * q : Nat) : Int) := by rw [wrapU64, ← Int.natCast_mul]; omega
      have hadd : IntKind.u64.wrap ((x : Int) + ((c.toNat % 128 * q : Nat) : Int)) = ((x + c.toNat % 128 * q : Nat) : Int) := by rw [wrapU64]; omega
      by_cases hz : c.toNat = 0 ∧ 0 < i
      · have hz1 : ((c.toNat : Int) == 0) = true := by simp; omega
        have hz2 : decide ((0 : Int) < (i : Int)) = true := by simp; omega
        rw [if_pos hz] at hgl
        rw [hgl]
        repeat (first | (apply fw; focus ((with_reducible constructor) <;> rfl)) | (apply WpA.cd; focus constructor) | ((first | with_reducible refine WpA.go _ rfl fun Y y => ?_ | apply RunTo.id); simp only [zb, seval, w31, txtA, hsz, hd1, hi10, hga, hcv, e9, hdc, hdl, hmod, hmul, hadd, hz1, hz2]; refine RunTo.fn y (by first | exact trivial | omega | (simp; done) | (simp; omega)) ?_; clear y Y))
        refine ⟨by simp, _, _, _, _, (by simp only [zb, seval, w31]; rfl), (by simp), (by simp only [zv]; rfl), (by simp), _, ALe.refl _, ?_⟩
        rfl
      rw [if_neg hz] at hgl
      have hzz : (((c.toNat : Int) == 0) = true ∧ decide ((0 : Int) < (i : Int)) = false) ∨ ((c.toNat : Int) == 0) = false := by
        by_cases h : c.toNat = 0
        · exact .inl ⟨by simp; omega, by simp; omega⟩
        · exact .inr (by simp; omega)
      have hle1 : i + 1 ≤ l.length := by omega
      generalize x + c.toNat % 128 * q = y at *
      have hdrop := tB_drop l (i + 1)
      have hty : (y : Int).tdiv 2 = ((y / 2 : Nat) : Int) := by rw [Int.tdiv_eq_ediv_of_nonneg (by omega)]; omega
      have htm : (y : Int).tmod 2 = ((y % 2 : Nat) : Int) := by rw [Int.tmod_eq_emod_of_nonneg (by omega)]; omega
      have hc1 : IntKind.u64.wrap ((y / 2 : Nat) : Int) = ((y / 2 : Nat) : Int) := by rw [wrapU64]; omega
      have hc2 : IntKind.i64.wrap ((y / 2 : Nat) : Int) = ((y / 2 : Nat) : Int) := wrap64 (by omega) (by omega)
      have hc3 : IntKind.i64.wrap (0 - ((y / 2 : Nat) : Int)) = -((y / 2 : Nat) : Int) := by rw [wrap64 (by omega) (by omega)]; omega
      have hc4 : IntKind.i64.wrap (-((y / 2 : Nat) : Int) - 1) = -((y / 2 : Nat) : Int) - 1 := wrap64 (by omega) (by omega)
      have hres : getL l = some (zag y, l.drop (i + 1)) := hgl
      rw [hres]
      by_cases ho : y % 2 = 1
      · have hod : (((y % 2 : Nat) : Int) == 1) = true := by simp; omega
        have hza : zag y = -((y / 2 : Nat) : Int) - 1 := by rw [zag, if_pos ho]
        rw [hza]
        rcases hzz with ⟨hz1, hz2⟩ | hz1
        · repeat (first | (apply fw; focus ((with_reducible constructor) <;> rfl)) | (apply WpA.cd; focus constructor) | ((first | with_reducible refine WpA.go _ rfl fun Y y => ?_ | apply RunTo.id); simp only [zb, seval, w31, txtA, hsz, hd1, hi10, hga, hcv, e9, hdc, hdl, hmod, hmul, hadd, hz1, hz2, htm, hod]; refine RunTo.fn y (by first | exact trivial | omega | (simp; done) | (simp; omega)) ?_; clear y Y))
          (refine WpA.draw0 10 _ _ _ rfl rfl rfl (by kernel_rfl) (by kernel_rfl) (by kernel_rfl) fun K8 hK8 => ?_); simp only [zz] at hK8 ⊢; (refine Draw0.go fun K7 hK7 => ?_); simp only [zb, seval, w31, txtA, hsz, hty, hc1, hc2, hc3, hc4, hw2, hdrop, hle1]; (refine RunQ.mk (by first | exact trivial | omega | (simp; done) | (simp; omega)) (hK7 _ _ ?_)); clear hK7 K7; (try ((refine Draw0.nil (hK8 _ ?_)); clear hK8 K8; (refine WpL.go _ rfl fun Y y => ?_); repeat (first | (apply fw; focus ((with_reducible constructor) <;> rfl)) | (apply WpA.cd; focus constructor) | ((first | with_reducible refine WpA.go _ rfl fun Y y => ?_ | apply RunTo.id); simp only [zb, seval, w31, txtA, hsz, hty, hc1, hc2, hc3, hc4, hw2, hdrop, hle1]; refine RunTo.fn y (by first | exact trivial | omega | (simp; done) | (simp; omega)) ?_; clear y Y))))
          refine ⟨by simp, _, _, _, _, (by simp only [zb, seval, w31]; rfl), (by simp), (by simp only [zv]; rfl), (by simp), _, ALe.refl _, ?_⟩
          rfl
        · have hz2 := hz1
          repeat (first | (apply fw; focus ((with_reducible constructor) <;> rfl)) | (apply WpA.cd; focus constructor) | ((first | with_reducible refine WpA.go _ rfl fun Y y => ?_ | apply RunTo.id); simp only [zb, seval, w31, txtA, hsz, hd1, hi10, hga, hcv, e9, hdc, hdl, hmod, hmul, hadd, hz1, htm, hod]; refine RunTo.fn y (by first | exact trivial | omega | (simp; done) | (simp; omega)) ?_; clear y Y))
          (refine WpA.draw0 10 _ _ _ rfl rfl rfl (by kernel_rfl) (by kernel_rfl) (by kernel_rfl) fun K8 hK8 => ?_); simp only [zz] at hK8 ⊢; (refine Draw0.go fun K7 hK7 => ?_); simp only [zb, seval, w31, txtA, hsz, hty, hc1, hc2, hc3, hc4, hw2, hdrop, hle1]; (refine RunQ.mk (by first | exact trivial | omega | (simp; done) | (simp; omega)) (hK7 _ _ ?_)); clear hK7 K7; (try ((refine Draw0.nil (hK8 _ ?_)); clear hK8 K8; (refine WpL.go _ rfl fun Y y => ?_); repeat (first | (apply fw; focus ((with_reducible constructor) <;> rfl)) | (apply WpA.cd; focus constructor) | ((first | with_reducible refine WpA.go _ rfl fun Y y => ?_ | apply RunTo.id); simp only [zb, seval, w31, txtA, hsz, hty, hc1, hc2, hc3, hc4, hw2, hdrop, hle1]; refine RunTo.fn y (by first | exact trivial | omega | (simp; done) | (simp; omega)) ?_; clear y Y))))
          refine ⟨by simp, _, _, _, _, (by simp only [zb, seval, w31]; rfl), (by simp), (by simp only [zv]; rfl), (by simp), _, ALe.refl _, ?_⟩
          rfl
      · have hod : (((y % 2 : Nat) : Int) == 1) = false := by simp; omega
        have hza : zag y = ((y / 2 : Nat) : Int) := by rw [zag, if_neg ho]
        rw [hza]
        rcases hzz with ⟨hz1, hz2⟩ | hz1
        · repeat (first | (apply fw; focus ((with_reducible constructor) <;> rfl)) | (apply WpA.cd; focus constructor) | ((first | with_reducible refine WpA.go _ rfl fun Y y => ?_ | apply RunTo.id); simp only [zb, seval, w31, txtA, hsz, hd1, hi10, hga, hcv, e9, hdc, hdl, hmod, hmul, hadd, hz1, hz2, htm, hod]; refine RunTo.fn y (by first | exact trivial | omega | (simp; done) | (simp; omega)) ?_; clear y Y))
          (refine WpA.draw0 8 _ _ _ rfl rfl rfl (by kernel_rfl) (by kernel_rfl) (by kernel_rfl) fun K8 hK8 => ?_); simp only [zz] at hK8 ⊢; (refine Draw0.go fun K7 hK7 => ?_); simp only [zb, seval, w31, txtA, hsz, hty, hc1, hc2, hw2, hdrop, hle1]; (refine RunQ.mk (by first | exact trivial | omega | (simp; done) | (simp; omega)) (hK7 _ _ ?_)); clear hK7 K7; (try ((refine Draw0.nil (hK8 _ ?_)); clear hK8 K8; (refine WpL.go _ rfl fun Y y => ?_); repeat (first | (apply fw; focus ((with_reducible constructor) <;> rfl)) | (apply WpA.cd; focus constructor) | ((first | with_reducible refine WpA.go _ rfl fun Y y => ?_ | apply RunTo.id); simp only [zb, seval, w31, txtA, hsz, hty, hc1, hc2, hw2, hdrop, hle1]; refine RunTo.fn y (by first | exact trivial | omega | (simp; done) | (simp; omega)) ?_; clear y Y))))
          refine ⟨by simp, _, _, _, _, (by simp only [zb, seval, w31]; rfl), (by simp), (by simp only [zv]; rfl), (by simp), _, ALe.refl _, ?_⟩
          rfl
        · have hz2 := hz1
          repeat (first | (apply fw; focus ((with_reducible constructor) <;> rfl)) | (apply WpA.cd; focus constructor) | ((first | with_reducible refine WpA.go _ rfl fun Y y => ?_ | apply RunTo.id); simp only [zb, seval, w31, txtA, hsz, hd1, hi10, hga, hcv, e9, hdc, hdl, hmod, hmul, hadd, hz1, htm, hod]; refine RunTo.fn y (by first | exact trivial | omega | (simp; done) | (simp; omega)) ?_; clear y Y))
          (refine WpA.draw0 8 _ _ _ rfl rfl rfl (by kernel_rfl) (by kernel_rfl) (by kernel_rfl) fun K8 hK8 => ?_); simp only [zz] at hK8 ⊢; (refine Draw0.go fun K7 hK7 => ?_); simp only [zb, seval, w31, txtA, hsz, hty, hc1, hc2, hw2, hdrop, hle1]; (refine RunQ.mk (by first | exact trivial | omega | (simp; done) | (simp; omega)) (hK7 _ _ ?_)); clear hK7 K7; (try ((refine Draw0.nil (hK8 _ ?_)); clear hK8 K8; (refine WpL.go _ rfl fun Y y => ?_); repeat (first | (apply fw; focus ((with_reducible constructor) <;> rfl)) | (apply WpA.cd; focus constructor) | ((first | with_reducible refine WpA.go _ rfl fun Y y => ?_ | apply RunTo.id); simp only [zb, seval, w31, txtA, hsz, hty, hc1, hc2, hw2, hdrop, hle1]; refine RunTo.fn y (by first | exact trivial | omega | (simp; done) | (simp; omega)) ?_; clear y Y))))
          refine ⟨by simp, _, _, _, _, (by simp only [zb, seval, w31]; rfl), (by simp), (by simp only [zv]; rfl), (by simp), _, ALe.refl _, ?_⟩
          rfl
  · have e9 : ((i : Int) == 9) = false := by simp; omega
    have hdc := e9
    have hq := hp8 (by omega)
    have hbd : x + c.toNat % 128 * q < 18446744073709551616 := by omega
    rw [if_neg (by omega)] at hgl
    by_cases hlt : c.toNat < 128
    · rw [if_neg (by omega)] at hgl
      have hdl : decide ((c.toNat : Int) < 128) = true := by simp; omega
      have hmul : IntKind.u64.wrap (((c.toNat % 128 : Nat) : Int) * (q : Int)) = ((c.toNat % 128 * q : Nat) : Int) := by rw [wrapU64, ← Int.natCast_mul]; omega
      have hadd : IntKind.u64.wrap ((x : Int) + ((c.toNat % 128 * q : Nat) : Int)) = ((x + c.toNat % 128 * q : Nat) : Int) := by rw [wrapU64]; omega
      by_cases hz : c.toNat = 0 ∧ 0 < i
      · have hz1 : ((c.toNat : Int) == 0) = true := by simp; omega
        have hz2 : decide ((0 : Int) < (i : Int)) = true := by simp; omega
        rw [if_pos hz] at hgl
        rw [hgl]
        repeat (first | (apply fw; focus ((with_reducible constructor) <;> rfl)) | (apply WpA.cd; focus constructor) | ((first | with_reducible refine WpA.go _ rfl fun Y y => ?_ | apply RunTo.id); simp only [zb, seval, w31, txtA, hsz, hd1, hi10, hga, hcv, e9, hdc, hdl, hmod, hmul, hadd, hz1, hz2]; refine RunTo.fn y (by first | exact trivial | omega | (simp; done) | (simp; omega)) ?_; clear y Y))
        refine ⟨by simp, _, _, _, _, (by simp only [zb, seval, w31]; rfl), (by simp), (by simp only [zv]; rfl), (by simp), _, ALe.refl _, ?_⟩
        rfl
      rw [if_neg hz] at hgl
      have hzz : (((c.toNat : Int) == 0) = true ∧ decide ((0 : Int) < (i : Int)) = false) ∨ ((c.toNat : Int) == 0) = false := by
        by_cases h : c.toNat = 0
        · exact .inl ⟨by simp; omega, by simp; omega⟩
        · exact .inr (by simp; omega)
      have hle1 : i + 1 ≤ l.length := by omega
      generalize x + c.toNat % 128 * q = y at *
      have hdrop := tB_drop l (i + 1)
      have hty : (y : Int).tdiv 2 = ((y / 2 : Nat) : Int) := by rw [Int.tdiv_eq_ediv_of_nonneg (by omega)]; omega
      have htm : (y : Int).tmod 2 = ((y % 2 : Nat) : Int) := by rw [Int.tmod_eq_emod_of_nonneg (by omega)]; omega
      have hc1 : IntKind.u64.wrap ((y / 2 : Nat) : Int) = ((y / 2 : Nat) : Int) := by rw [wrapU64]; omega
      have hc2 : IntKind.i64.wrap ((y / 2 : Nat) : Int) = ((y / 2 : Nat) : Int) := wrap64 (by omega) (by omega)
      have hc3 : IntKind.i64.wrap (0 - ((y / 2 : Nat) : Int)) = -((y / 2 : Nat) : Int) := by rw [wrap64 (by omega) (by omega)]; omega
      have hc4 : IntKind.i64.wrap (-((y / 2 : Nat) : Int) - 1) = -((y / 2 : Nat) : Int) - 1 := wrap64 (by omega) (by omega)
      have hres : getL l = some (zag y, l.drop (i + 1)) := hgl
      rw [hres]
      by_cases ho : y % 2 = 1
      · have hod : (((y % 2 : Nat) : Int) == 1) = true := by simp; omega
        have hza : zag y = -((y / 2 : Nat) : Int) - 1 := by rw [zag, if_pos ho]
        rw [hza]
        rcases hzz with ⟨hz1, hz2⟩ | hz1
        · repeat (first | (apply fw; focus ((with_reducible constructor) <;> rfl)) | (apply WpA.cd; focus constructor) | ((first | with_reducible refine WpA.go _ rfl fun Y y => ?_ | apply RunTo.id); simp only [zb, seval, w31, txtA, hsz, hd1, hi10, hga, hcv, e9, hdc, hdl, hmod, hmul, hadd, hz1, hz2, htm, hod]; refine RunTo.fn y (by first | exact trivial | omega | (simp; done) | (simp; omega)) ?_; clear y Y))
          (refine WpA.draw0 10 _ _ _ rfl rfl rfl (by kernel_rfl) (by kernel_rfl) (by kernel_rfl) fun K8 hK8 => ?_); simp only [zz] at hK8 ⊢; (refine Draw0.go fun K7 hK7 => ?_); simp only [zb, seval, w31, txtA, hsz, hty, hc1, hc2, hc3, hc4, hw2, hdrop, hle1]; (refine RunQ.mk (by first | exact trivial | omega | (simp; done) | (simp; omega)) (hK7 _ _ ?_)); clear hK7 K7; (try ((refine Draw0.nil (hK8 _ ?_)); clear hK8 K8; (refine WpL.go _ rfl fun Y y => ?_); repeat (first | (apply fw; focus ((with_reducible constructor) <;> rfl)) | (apply WpA.cd; focus constructor) | ((first | with_reducible refine WpA.go _ rfl fun Y y => ?_ | apply RunTo.id); simp only [zb, seval, w31, txtA, hsz, hty, hc1, hc2, hc3, hc4, hw2, hdrop, hle1]; refine RunTo.fn y (by first | exact trivial | omega | (simp; done) | (simp; omega)) ?_; clear y Y))))
          refine ⟨by simp, _, _, _, _, (by simp only [zb, seval, w31]; rfl), (by simp), (by simp only [zv]; rfl), (by simp), _, ALe.refl _, ?_⟩
          rfl
        · have hz2 := hz1
          repeat (first | (apply fw; focus ((with_reducible constructor) <;> rfl)) | (apply WpA.cd; focus constructor) | ((first | with_reducible refine WpA.go _ rfl fun Y y => ?_ | apply RunTo.id); simp only [zb, seval, w31, txtA, hsz, hd1, hi10, hga, hcv, e9, hdc, hdl, hmod, hmul, hadd, hz1, htm, hod]; refine RunTo.fn y (by first | exact trivial | omega | (simp; done) | (simp; omega)) ?_; clear y Y))
          (refine WpA.draw0 10 _ _ _ rfl rfl rfl (by kernel_rfl) (by kernel_rfl) (by kernel_rfl) fun K8 hK8 => ?_); simp only [zz] at hK8 ⊢; (refine Draw0.go fun K7 hK7 => ?_); simp only [zb, seval, w31, txtA, hsz, hty, hc1, hc2, hc3, hc4, hw2, hdrop, hle1]; (refine RunQ.mk (by first | exact trivial | omega | (simp; done) | (simp; omega)) (hK7 _ _ ?_)); clear hK7 K7; (try ((refine Draw0.nil (hK8 _ ?_)); clear hK8 K8; (refine WpL.go _ rfl fun Y y => ?_); repeat (first | (apply fw; focus ((with_reducible constructor) <;> rfl)) | (apply WpA.cd; focus constructor) | ((first | with_reducible refine WpA.go _ rfl fun Y y => ?_ | apply RunTo.id); simp only [zb, seval, w31, txtA, hsz, hty, hc1, hc2, hc3, hc4, hw2, hdrop, hle1]; refine RunTo.fn y (by first | exact trivial | omega | (simp; done) | (simp; omega)) ?_; clear y Y))))
          refine ⟨by simp, _, _, _, _, (by simp only [zb, seval, w31]; rfl), (by simp), (by simp only [zv]; rfl), (by simp), _, ALe.refl _, ?_⟩
          rfl
      · have hod : (((y % 2 : Nat) : Int) == 1) = false := by simp; omega
        have hza : zag y = ((y / 2 : Nat) : Int) := by rw [zag, if_neg ho]
        rw [hza]
        rcases hzz with ⟨hz1, hz2⟩ | hz1
        · repeat (first | (apply fw; focus ((with_reducible constructor) <;> rfl)) | (apply WpA.cd; focus constructor) | ((first | with_reducible refine WpA.go _ rfl fun Y y => ?_ | apply RunTo.id); simp only [zb, seval, w31, txtA, hsz, hd1, hi10, hga, hcv, e9, hdc, hdl, hmod, hmul, hadd, hz1, hz2, htm, hod]; refine RunTo.fn y (by first | exact trivial | omega | (simp; done) | (simp; omega)) ?_; clear y Y))
          (refine WpA.draw0 8 _ _ _ rfl rfl rfl (by kernel_rfl) (by kernel_rfl) (by kernel_rfl) fun K8 hK8 => ?_); simp only [zz] at hK8 ⊢; (refine Draw0.go fun K7 hK7 => ?_); simp only [zb, seval, w31, txtA, hsz, hty, hc1, hc2, hw2, hdrop, hle1]; (refine RunQ.mk (by first | exact trivial | omega | (simp; done) | (simp; omega)) (hK7 _ _ ?_)); clear hK7 K7; (try ((refine Draw0.nil (hK8 _ ?_)); clear hK8 K8; (refine WpL.go _ rfl fun Y y => ?_); repeat (first | (apply fw; focus ((with_reducible constructor) <;> rfl)) | (apply WpA.cd; focus constructor) | ((first | with_reducible refine WpA.go _ rfl fun Y y => ?_ | apply RunTo.id); simp only [zb, seval, w31, txtA, hsz, hty, hc1, hc2, hw2, hdrop, hle1]; refine RunTo.fn y (by first | exact trivial | omega | (simp; done) | (simp; omega)) ?_; clear y Y))))
          refine ⟨by simp, _, _, _, _, (by simp only [zb, seval, w31]; rfl), (by simp), (by simp only [zv]; rfl), (by simp), _, ALe.refl _, ?_⟩
          rfl
        · have hz2 := hz1
          repeat (first | (apply fw; focus ((with_reducible constructor) <;> rfl)) | (apply WpA.cd; focus constructor) | ((first | with_reducible refine WpA.go _ rfl fun Y y => ?_ | apply RunTo.id); simp only [zb, seval, w31, txtA, hsz, hd1, hi10, hga, hcv, e9, hdc, hdl, hmod, hmul, hadd, hz1, htm, hod]; refine RunTo.fn y (by first | exact trivial | omega | (simp; done) | (simp; omega)) ?_; clear y Y))
          (refine WpA.draw0 8 _ _ _ rfl rfl rfl (by kernel_rfl) (by kernel_rfl) (by kernel_rfl) fun K8 hK8 => ?_); simp only [zz] at hK8 ⊢; (refine Draw0.go fun K7 hK7 => ?_); simp only [zb, seval, w31, txtA, hsz, hty, hc1, hc2, hw2, hdrop, hle1]; (refine RunQ.mk (by first | exact trivial | omega | (simp; done) | (simp; omega)) (hK7 _ _ ?_)); clear hK7 K7; (try ((refine Draw0.nil (hK8 _ ?_)); clear hK8 K8; (refine WpL.go _ rfl fun Y y => ?_); repeat (first | (apply fw; focus ((with_reducible constructor) <;> rfl)) | (apply WpA.cd; focus constructor) | ((first | with_reducible refine WpA.go _ rfl fun Y y => ?_ | apply RunTo.id); simp only [zb, seval, w31, txtA, hsz, hty, hc1, hc2, hw2, hdrop, hle1]; refine RunTo.fn y (by first | exact trivial | omega | (simp; done) | (simp; omega)) ?_; clear y Y))))
          refine ⟨by simp, _, _, _, _, (by simp only [zb, seval, w31]; rfl), (by simp), (by simp only [zv]; rfl), (by simp), _, ALe.refl _, ?_⟩
          rfl
    · have hdl : decide ((c.toNat : Int) < 128) = false := by simp; omega
      have hmul : IntKind.u64.wrap (((c.toNat % 128 : Nat) : Int) * (q : Int)) = ((c.toNat % 128 * q : Nat) : Int) := by rw [wrapU64, ← Int.natCast_mul]; omega
      have hadd : IntKind.u64.wrap ((x : Int) + ((c.toNat % 128 * q : Nat) : Int)) = ((x + c.toNat % 128 * q : Nat) : Int) := by rw [wrapU64]; omega
      have hsc : IntKind.u64.wrap ((q : Int) * 128) = ((q * 128 : Nat) : Int) := by rw [wrapU64]; omega
      repeat (first | (apply fw; focus ((with_reducible constructor) <;> rfl)) | (apply WpA.cd; focus constructor) | ((first | with_reducible refine WpA.go _ rfl fun Y y => ?_ | apply RunTo.id); simp only [zb, seval, w31, txtA, hsz, hd1, hi10, hga, hcv, e9, hdl, hmod, hmul, hadd, hsc, hw2]; refine RunTo.fn y (by first | exact trivial | omega | (simp; done) | (simp; omega)) ?_; clear y Y))
      refine ⟨10 - (i + 1), _, by omega, Le.sub (e' := [(7, .one (.v (.int .i64 (i + 1 : Nat)))), (6, .one (.v (.int .u64 (q * 128 : Nat)))), (5, .one (.v (.int .u64 (x + c.toNat % 128 * q : Nat)))), (0, .one (.v (.string (tB l))))]) (by simp [Sub, find]), hnx.resolve_right (by omega)⟩
/-- A reader: what is left, and whether it is bad. -/
def rdO (s : ByteArray) (b : Int) : Ob := ⟨58, 2, [[.v (.string s), .v (.int .i64 b)]]⟩
/-- What num answers, what is left, and whether it is bad. -/
def numV (l : List UInt8) (b : Int) : Int × List UInt8 × Int := if b = 0 then match getL l with | some (n, r) => (n, r, 0) | none => (0, l, 1) else (0, l, 1)
def SnI (l : List UInt8) (n : Nat) (st : St) : Prop := ∃ (i : Nat) (X : Int), n = 11 - i ∧ i ≤ 10 ∧ i ≤ l.length ∧ (i ≤ 9 → ∃ x : Nat, X = x ∧ x < 128 ^ i ∧ get9 0 0 l = get9 i x (l.drop i)) ∧ (i = 10 → get9 0 0 l = none) ∧
  st = ⟨[(4, .one (.v (.int .i64 i))), (3, .one (.v (.int .u64 X))), (0, .one (.ptr 0 1 0 0))], [some (rdO (tB l) 0)]⟩
theorem and127 (c : UInt8) : bits .and .u8 (c.toNat : Int) 127 = ((c.toNat % 128 : Nat) : Int) := by
  have h2 : ∀ b : Fin 256, bits .and .u8 (b.val : Int) 127 = ((b.val % 128 : Nat) : Int) := by decide +kernel
  have := c.toNat_lt
  exact h2 ⟨c.toNat, by omega⟩
theorem or128 {x m i : Nat} (hi : i ≤ 9) (hx : x < 128 ^ i) (hb : x + m * 128 ^ i < 18446744073709551616) : bits .or .u64 (x : Int) (IntKind.u64.wrap ((m : Int) * 2 ^ min (7 * i) IntKind.u64.bits)) = ((x + m * 128 ^ i : Nat) : Int) := by
  have e1 : min (7 * i) IntKind.u64.bits = 7 * i := Nat.min_eq_left (by show 7 * i ≤ 64; omega)
  have e2 : (2 : Int) ^ (7 * i) = ((128 ^ i : Nat) : Int) := by
    rw [Int.pow_mul]
    simp
  have e3 : IntKind.u64.wrap ((m : Int) * ((128 ^ i : Nat) : Int)) = ((m * 128 ^ i : Nat) : Int) := by rw [wrapU64, ← Int.natCast_mul]; omega
  rw [e1, e2, e3]
  show IntKind.u64.wrap ((BitVec.ofInt 64 (x : Int) ||| BitVec.ofInt 64 ((m * 128 ^ i : Nat) : Int)).toNat : Int) = _
  rw [BitVec.ofInt_natCast, BitVec.ofInt_natCast, BitVec.toNat_or, BitVec.toNat_ofNat, BitVec.toNat_ofNat, Nat.mod_eq_of_lt (by omega), Nat.mod_eq_of_lt (by omega)]
  have e4 : m * 128 ^ i = m <<< (7 * i) := by rw [Nat.shiftLeft_eq, Nat.pow_mul]
  have e5 : x ||| m * 128 ^ i = x + m * 128 ^ i := by
    rw [e4, Nat.or_comm, ← Nat.shiftLeft_add_eq_or_of_lt (by rw [Nat.pow_mul]; exact hx), Nat.add_comm]
  rw [e5, wrapU64]; omega
theorem and1 (y : Nat) : bits .and .u64 (y : Int) 1 = ((y % 2 : Nat) : Int) := by
  show IntKind.u64.wrap ((BitVec.ofInt 64 (y : Int) &&& BitVec.ofInt 64 1).toNat : Int) = _
  rw [BitVec.ofInt_natCast, BitVec.toNat_and, BitVec.toNat_ofNat, show (BitVec.ofInt 64 1).toNat = 1 from by decide, Nat.and_one_is_mod, wrapU64]; omega
theorem wrapI64 (x : Int) : IntKind.i64.wrap x = if x % 18446744073709551616 < 9223372036854775808 then x % 18446744073709551616 else x % 18446744073709551616 - 18446744073709551616 := by
  have e1 : (2 : Int) ^ 64 = 18446744073709551616 := by decide
  have e2 : (2 : Int) ^ (64 - 1) = 9223372036854775808 := by decide
  simp only [IntKind.wrap, IntKind.bits, IntKind.signed, Bool.true_and, decide_eq_true_eq, e1, e2]
  by_cases h : x % 18446744073709551616 < 9223372036854775808
  · rw [if_pos h, if_neg (by omega)]
  · rw [if_neg h, if_pos (by omega)]
theorem xor_zag {y : Nat} (h : y < 18446744073709551616) : bits .xor .i64 ((y / 2 : Nat) : Int) (-((y % 2 : Nat) : Int)) = zag y := by
  show IntKind.i64.wrap ((BitVec.ofInt 64 ((y / 2 : Nat) : Int) ^^^ BitVec.ofInt 64 (-((y % 2 : Nat) : Int))).toNat : Int) = _
  unfold zag
  by_cases ho : y % 2 = 1
  · rw [if_pos ho, ho, show BitVec.ofInt 64 (-((1 : Nat) : Int)) = BitVec.allOnes 64 from by decide, BitVec.xor_allOnes, BitVec.toNat_not, BitVec.ofInt_natCast, BitVec.toNat_ofNat]
    rw [wrapI64]; split <;> omega
  · rw [if_neg ho, show y % 2 = 0 by omega, show BitVec.ofInt 64 (-((0 : Nat) : Int)) = (BitVec.ofNat 64 0) from by decide, BitVec.xor_zero, BitVec.ofInt_natCast, BitVec.toNat_ofNat]
    rw [wrapI64]; split <;> omega
theorem snum_fn (l : List UInt8) (b : Int) (hl : l.length ≤ 100000) : Fn Tryd.prog 28 [.one (.ptr 0 1 0 0)] [some (rdO (tB l) b)] (fun r s' => r = .one (.v (.int .i64 (numV l b).1)) ∧ s' = [some (rdO (tB (numV l b).2.1) (numV l b).2.2)]) := by
  have hsz := tB_size l
  by_cases hb : b = 0
  case neg =>
    have hb0 : (b == 0) = false := by simp [hb]
    have hV : numV l b = (0, l, 1) := by rw [numV, if_neg hb]
    rw [hV]
    by_cases h0 : 0 < l.length
    · have hd1 : decide ((0 : Int) < (l.length : Int)) = true := by simp; omega
      refine Fn.introS Tryd.func28 rfl Tryd.ntmps28 Tryd.results28 (by simp only [List.length_cons, List.length_nil]; decide) ?_
      repeat (first | (apply fw; focus ((with_reducible constructor) <;> rfl)) | (apply WpA.cd; focus constructor) | ((first | with_reducible refine WpA.go _ rfl fun Y y => ?_ | apply RunTo.id); simp only [zb, seval, w28, txtA, rdO]; refine RunTo.fn y (by first | exact trivial | omega | (simp; done) | (simp; omega)) ?_; clear y Y))
      refine WpA.loop (fun n st => n = 0 ∧ st = ⟨[(4, .one (.v (.int .i64 0))), (3, .one (.v (.int .u64 0))), (0, .one (.ptr 0 1 0 0))], [some (rdO (tB l) b)]⟩) 0 (Le.sub (by simp [Sub, find])) ⟨rfl, rfl⟩ ?_
      rintro n' st ⟨rfl, rfl⟩
      repeat (first | (apply fw; focus ((with_reducible constructor) <;> rfl)) | (apply WpA.cd; focus constructor) | ((first | with_reducible refine WpA.go _ rfl fun Y y => ?_ | apply RunTo.id); simp only [zb, seval, w28, txtA, rdO, hsz, hd1, hb0]; refine RunTo.fn y (by first | exact trivial | omega | (simp; done) | (simp; omega)) ?_; clear y Y))
      exact ⟨by simp, _, _, _, Le.refl _ _, rfl, trivial, rfl, rfl⟩
    · have hd1 : decide ((0 : Int) < (l.length : Int)) = false := decide_eq_false (by omega)
      refine Fn.introS Tryd.func28 rfl Tryd.ntmps28 Tryd.results28 (by simp only [List.length_cons, List.length_nil]; decide) ?_
      repeat (first | (apply fw; focus ((with_reducible constructor) <;> rfl)) | (apply WpA.cd; focus constructor) | ((first | with_reducible refine WpA.go _ rfl fun Y y => ?_ | apply RunTo.id); simp only [zb, seval, w28, txtA, rdO]; refine RunTo.fn y (by first | exact trivial | omega | (simp; done) | (simp; omega)) ?_; clear y Y))
      refine WpA.loop (fun n st => n = 0 ∧ st = ⟨[(4, .one (.v (.int .i64 0))), (3, .one (.v (.int .u64 0))), (0, .one (.ptr 0 1 0 0))], [some (rdO (tB l) b)]⟩) 0 (Le.sub (by simp [Sub, find])) ⟨rfl, rfl⟩ ?_
      rintro n' st ⟨rfl, rfl⟩
      repeat (first | (apply fw; focus ((with_reducible constructor) <;> rfl)) | (apply WpA.cd; focus constructor) | ((first | with_reducible refine WpA.go _ rfl fun Y y => ?_ | apply RunTo.id); simp only [zb, seval, w28, txtA, rdO, hsz, hd1, hb0]; refine RunTo.fn y (by first | exact trivial | omega | (simp; done) | (simp; omega)) ?_; clear y Y))
      exact ⟨by simp, _, _, _, Le.refl _ _, rfl, trivial, rfl, rfl⟩
  subst hb
  refine Fn.introS Tryd.func28 rfl Tryd.ntmps28 Tryd.results28 (by simp only [List.length_cons, List.length_nil]; decide) ?_
  repeat (first | (apply fw; focus ((with_reducible constructor) <;> rfl)) | (apply WpA.cd; focus constructor) | ((first | with_reducible refine WpA.go _ rfl fun Y y => ?_ | apply RunTo.id); simp only [zb, seval, w28, txtA, rdO]; refine RunTo.fn y (by first | exact trivial | omega | (simp; done) | (simp; omega)) ?_; clear y Y))
  refine WpA.loop (SnI l) 11 (Le.sub (by simp [Sub, find])) ⟨0, 0, rfl, by omega, by omega, fun _ => ⟨0, rfl, by decide, rfl⟩, by simp, rfl⟩ ?_
  intro n' st hI
  obtain ⟨i, X, rfl, hi10, hil, hX, hten, rfl⟩ := hI
  by_cases hlt : i < l.length
  case neg =>
    have hd0 : decide ((i : Int) < (l.length : Int)) = false := by simp; omega
    have hN : getL l = none := by
      by_cases h10 : i = 10
      · rw [getL, hten h10]; rfl
      · obtain ⟨x, rfl, hx1, hx2⟩ := hX (by omega)
        rw [getL, hx2, List.drop_eq_nil_of_le (by omega)]; rfl
    have hV : numV l 0 = (0, l, 1) := by rw [numV, if_pos rfl, hN]
    rw [hV]
    repeat (first | (apply fw; focus ((with_reducible constructor) <;> rfl)) | (apply WpA.cd; focus constructor) | ((first | with_reducible refine WpA.go _ rfl fun Y y => ?_ | apply RunTo.id); simp only [zb, seval, w28, txtA, rdO, hsz, hd0]; refine RunTo.fn y (by first | exact trivial | omega | (simp; done) | (simp; omega)) ?_; clear y Y))
    exact ⟨by simp, _, _, _, Le.refl _ _, rfl, trivial, rfl, rfl⟩
  have hd1 : decide ((i : Int) < (l.length : Int)) = true := by simp; omega
  by_cases h10 : i = 10
  · have hd2 : decide ((i : Int) < 10) = false := by simp; omega
    have hN : getL l = none := by rw [getL, hten h10]; rfl
    have hV : numV l 0 = (0, l, 1) := by rw [numV, if_pos rfl, hN]
    rw [hV]
    repeat (first | (apply fw; focus ((with_reducible constructor) <;> rfl)) | (apply WpA.cd; focus constructor) | ((first | with_reducible refine WpA.go _ rfl fun Y y => ?_ | apply RunTo.id); simp only [zb, seval, w28, txtA, rdO, hsz, hd1, hd2]; refine RunTo.fn y (by first | exact trivial | omega | (simp; done) | (simp; omega)) ?_; clear y Y))
    exact ⟨by simp, _, _, _, Le.refl _ _, rfl, trivial, rfl, rfl⟩
  have hd2 : decide ((i : Int) < 10) = true := by simp; omega
  obtain ⟨x, rfl, hx, hg⟩ := hX (by omega)
  clear hX
  have hga : (tB l)[i]? = some l[i] := by rw [tB_get, List.getElem?_eq_getElem hlt]
  have hdr : l.drop i = l[i] :: l.drop (i + 1) := by rw [List.drop_eq_getElem_cons hlt]
  rw [hdr, get9, if_neg (by omega)] at hg
  have hcB := (l[i]).toNat_lt
  generalize (l[i]) = c at *
  have ha1 : bits .and .u8 (c.toNat : Int) 127 = ((c.toNat % 128 : Nat) : Int) := and127 c
  have ha2 : IntKind.u64.wrap ((c.toNat % 128 : Nat) : Int) = ((c.toNat % 128 : Nat) : Int) := by rw [wrapU64]; omega
  have ha3 : IntKind.i64.wrap (7 * (i : Int)) = ((7 * i : Nat) : Int) := by rw [wrap64 (by omega) (by omega)]; omega
  have hw2 : IntKind.i64.wrap ((i : Int) + 1) = ((i + 1 : Nat) : Int) := by rw [wrap64 (by omega) (by omega)]; omega
  have hp := pow9 (i := i) (by omega)
  have hm := Nat.mul_le_mul_right (128 ^ i) (show c.toNat % 128 ≤ 127 by omega)
  have hps : 128 ^ (i + 1) = 128 ^ i * 128 := Nat.pow_succ ..
  have hp8 : i ≤ 8 → 128 ^ i ≤ 72057594037927936 := fun h => Nat.le_trans (Nat.pow_le_pow_right (by decide) h) (by decide)
  by_cases hbig : 128 ≤ c.toNat
  · have hdl : decide ((c.toNat : Int) < 128) = false := decide_eq_false (by omega)
    by_cases h9 : i = 9
    · have hno : get9 0 0 l = none := by rw [hg, if_pos ⟨h9, by omega⟩]
      repeat (first | (apply fw; focus ((with_reducible constructor) <;> rfl)) | (apply WpA.cd; focus constructor) | ((first | with_reducible refine WpA.go _ rfl fun Y y => ?_ | apply RunTo.id); simp only [zb, seval, w28, txtA, rdO, hsz, hd1, hd2, hga, ha1, ha2, ha3, hdl, hw2]; refine RunTo.fn y (by first | exact trivial | omega | (simp; done) | (simp; omega)) ?_; clear y Y))
      exact ⟨11 - (i + 1), _, by omega, Le.sub (e' := [(4, .one (.v (.int .i64 (i + 1 : Nat)))), (3, .one (.v (.int .u64 _))), (0, .one (.ptr 0 1 0 0))]) (by simp [Sub, find]; rfl), i + 1, _, rfl, by omega, by omega, fun h => by omega, fun _ => hno, rfl⟩
    · have hq := hp8 (by omega)
      have hor := or128 (m := c.toNat % 128) (by omega) hx (by omega)
      have hnx : get9 0 0 l = get9 (i + 1) (x + c.toNat % 128 * 128 ^ i) (l.drop (i + 1)) := by rw [hg, if_neg (by omega), if_pos hbig]
      repeat (first | (apply fw; focus ((with_reducible constructor) <;> rfl)) | (apply WpA.cd; focus constructor) | ((first | with_reducible refine WpA.go _ rfl fun Y y => ?_ | apply RunTo.id); simp only [zb, seval, w28, txtA, rdO, hsz, hd1, hd2, hga, ha1, ha2, ha3, hdl, hw2, hor]; refine RunTo.fn y (by first | exact trivial | omega | (simp; done) | (simp; omega)) ?_; clear y Y))
      exact ⟨11 - (i + 1), _, by omega, Le.sub (e' := [(4, .one (.v (.int .i64 (i + 1 : Nat)))), (3, .one (.v (.int .u64 (x + c.toNat % 128 * 128 ^ i : Nat)))), (0, .one (.ptr 0 1 0 0))]) (by simp [Sub, find]), i + 1, _, rfl, by omega, by omega, fun h => ⟨_, rfl, by omega, hnx⟩, fun h => by omega, rfl⟩
  have hdl : decide ((c.toNat : Int) < 128) = true := decide_eq_true (by omega)
  by_cases h9 : i = 9 ∧ 1 < c.toNat
  · have hno : getL l = none := by rw [getL, hg, if_pos h9]; rfl
    have hV : numV l 0 = (0, l, 1) := by rw [numV, if_pos rfl, hno]
    rw [hV]
    have e9 : ((i : Int) == 9) = true := by simp [h9.1]
    have hdc : decide ((1 : Int) < (c.toNat : Int)) = true := decide_eq_true (by omega)
    repeat (first | (apply fw; focus ((with_reducible constructor) <;> rfl)) | (apply WpA.cd; focus constructor) | ((first | with_reducible refine WpA.go _ rfl fun Y y => ?_ | apply RunTo.id); simp only [zb, seval, w28, txtA, rdO, hsz, hd1, hd2, hga, ha1, ha2, ha3, hdl, e9, hdc]; refine RunTo.fn y (by first | exact trivial | omega | (simp; done) | (simp; omega)) ?_; clear y Y))
    exact ⟨by simp, _, _, _, Le.refl _ _, rfl, trivial, rfl, rfl⟩
  rw [if_neg h9, if_neg hbig] at hg
  have hbd : x + c.toNat % 128 * 128 ^ i < 18446744073709551616 := by
    by_cases h : i = 9
    · subst h
      have h1 := Nat.mul_le_mul_right (128 ^ 9) (show c.toNat % 128 ≤ 1 by omega)
      omega
    · have := hp8 (by omega); omega
  have hor := or128 (m := c.toNat % 128) (by omega) hx hbd
  generalize hy : x + c.toNat % 128 * 128 ^ i = y at *
  have hgt : ∀ v : Bool, decide ((0 : Int) < (i : Int)) = v ∨ decide ((0 : Int) < (i : Int)) = !v := fun v => by cases v <;> cases decide ((0 : Int) < (i : Int)) <;> simp

  by_cases h9 : i = 9
  · have e9 : ((i : Int) == 9) = true := by simp [h9]
    have hdc : decide ((1 : Int) < (c.toNat : Int)) = false := decide_eq_false (by omega)
    by_cases hz : c.toNat = 0 ∧ 0 < i
    · have hz1 : ((c.toNat : Int) == 0) = true := by simp; omega
      have hz2 : decide ((0 : Int) < (i : Int)) = true := decide_eq_true (by omega)
      have hno : getL l = none := by rw [getL, hg, if_pos hz]; rfl
      have hV : numV l 0 = (0, l, 1) := by rw [numV, if_pos rfl, hno]
      rw [hV]
      repeat (first | (apply fw; focus ((with_reducible constructor) <;> rfl)) | (apply WpA.cd; focus constructor) | ((first | with_reducible refine WpA.go _ rfl fun Y y => ?_ | apply RunTo.id); simp only [zb, seval, w28, txtA, rdO, hsz, hd1, hd2, hga, ha1, ha2, ha3, hdl, e9, hdc, hor, hz1, hz2]; refine RunTo.fn y (by first | exact trivial | omega | (simp; done) | (simp; omega)) ?_; clear y Y))
      exact ⟨by simp, _, _, _, Le.refl _ _, rfl, trivial, rfl, rfl⟩
    have hle1 : i + 1 ≤ l.length := by omega
    have hdrop := tB_drop l (i + 1)
    have hV : numV l 0 = (zag y, l.drop (i + 1), 0) := by rw [numV, if_pos rfl, getL, hg, if_neg hz]; rfl
    rw [hV]
    have hsr : (y : Int).fdiv (2 ^ min 1 IntKind.u64.bits) = ((y / 2 : Nat) : Int) := by
      rw [show (2 : Int) ^ min 1 IntKind.u64.bits = 2 from by decide, Int.fdiv_eq_ediv_of_nonneg _ (by omega)]; omega
    have hc2 : IntKind.i64.wrap ((y / 2 : Nat) : Int) = ((y / 2 : Nat) : Int) := wrap64 (by omega) (by omega)
    have hn1 := and1 y
    have hc3 : IntKind.i64.wrap ((y % 2 : Nat) : Int) = ((y % 2 : Nat) : Int) := wrap64 (by omega) (by omega)
    have hc4 : IntKind.i64.wrap (0 - ((y % 2 : Nat) : Int)) = -((y % 2 : Nat) : Int) := by rw [wrap64 (by omega) (by omega)]; omega
    have hxz := xor_zag hbd
    by_cases hi0 : 0 < i
    · have hz2 : decide ((0 : Int) < (i : Int)) = true := decide_eq_true (by omega)
      have hz1 : ((c.toNat : Int) == 0) = false := by simp; omega
      repeat (first | (apply fw; focus ((with_reducible constructor) <;> rfl)) | (apply WpA.cd; focus constructor) | ((first | with_reducible refine WpA.go _ rfl fun Y y => ?_ | apply RunTo.id); simp only [zb, seval, w28, txtA, rdO, hsz, hd1, hd2, hga, ha1, ha2, ha3, hdl, e9, hdc, hor, hz1, hz2, hw2, hle1, hdrop, hsr, hc2, hn1, hc3, hc4, hxz]; refine RunTo.fn y (by first | exact trivial | omega | (simp; done) | (simp; omega)) ?_; clear y Y))
      exact ⟨by simp, _, _, _, Le.refl _ _, rfl, trivial, rfl, rfl⟩
    · have hz2 : decide ((0 : Int) < (i : Int)) = false := decide_eq_false (by omega)
      repeat (first | (apply fw; focus ((with_reducible constructor) <;> rfl)) | (apply WpA.cd; focus constructor) | ((first | with_reducible refine WpA.go _ rfl fun Y y => ?_ | apply RunTo.id); simp only [zb, seval, w28, txtA, rdO, hsz, hd1, hd2, hga, ha1, ha2, ha3, hdl, e9, hdc, hor, hz2, hw2, hle1, hdrop, hsr, hc2, hn1, hc3, hc4, hxz]; refine RunTo.fn y (by first | exact trivial | omega | (simp; done) | (simp; omega)) ?_; clear y Y))
      exact ⟨by simp, _, _, _, Le.refl _ _, rfl, trivial, rfl, rfl⟩
  · have e9 : ((i : Int) == 9) = false := by simp; omega
    by_cases hz : c.toNat = 0 ∧ 0 < i
    · have hz1 : ((c.toNat : Int) == 0) = true := by simp; omega
      have hz2 : decide ((0 : Int) < (i : Int)) = true := decide_eq_true (by omega)
      have hno : getL l = none := by rw [getL, hg, if_pos hz]; rfl
      have hV : numV l 0 = (0, l, 1) := by rw [numV, if_pos rfl, hno]
      rw [hV]
      repeat (first | (apply fw; focus ((with_reducible constructor) <;> rfl)) | (apply WpA.cd; focus constructor) | ((first | with_reducible refine WpA.go _ rfl fun Y y => ?_ | apply RunTo.id); simp only [zb, seval, w28, txtA, rdO, hsz, hd1, hd2, hga, ha1, ha2, ha3, hdl, e9, hor, hz1, hz2]; refine RunTo.fn y (by first | exact trivial | omega | (simp; done) | (simp; omega)) ?_; clear y Y))
      exact ⟨by simp, _, _, _, Le.refl _ _, rfl, trivial, rfl, rfl⟩
    have hle1 : i + 1 ≤ l.length := by omega
    have hdrop := tB_drop l (i + 1)
    have hV : numV l 0 = (zag y, l.drop (i + 1), 0) := by rw [numV, if_pos rfl, getL, hg, if_neg hz]; rfl
    rw [hV]
    have hsr : (y : Int).fdiv (2 ^ min 1 IntKind.u64.bits) = ((y / 2 : Nat) : Int) := by
      rw [show (2 : Int) ^ min 1 IntKind.u64.bits = 2 from by decide, Int.fdiv_eq_ediv_of_nonneg _ (by omega)]; omega
    have hc2 : IntKind.i64.wrap ((y / 2 : Nat) : Int) = ((y / 2 : Nat) : Int) := wrap64 (by omega) (by omega)
    have hn1 := and1 y
    have hc3 : IntKind.i64.wrap ((y % 2 : Nat) : Int) = ((y % 2 : Nat) : Int) := wrap64 (by omega) (by omega)
    have hc4 : IntKind.i64.wrap (0 - ((y % 2 : Nat) : Int)) = -((y % 2 : Nat) : Int) := by rw [wrap64 (by omega) (by omega)]; omega
    have hxz := xor_zag hbd
    by_cases hi0 : 0 < i
    · have hz2 : decide ((0 : Int) < (i : Int)) = true := decide_eq_true (by omega)
      have hz1 : ((c.toNat : Int) == 0) = false := by simp; omega
      repeat (first | (apply fw; focus ((with_reducible constructor) <;> rfl)) | (apply WpA.cd; focus constructor) | ((first | with_reducible refine WpA.go _ rfl fun Y y => ?_ | apply RunTo.id); simp only [zb, seval, w28, txtA, rdO, hsz, hd1, hd2, hga, ha1, ha2, ha3, hdl, e9, hor, hz1, hz2, hw2, hle1, hdrop, hsr, hc2, hn1, hc3, hc4, hxz]; refine RunTo.fn y (by first | exact trivial | omega | (simp; done) | (simp; omega)) ?_; clear y Y))
      exact ⟨by simp, _, _, _, Le.refl _ _, rfl, trivial, rfl, rfl⟩
    · have hz2 : decide ((0 : Int) < (i : Int)) = false := decide_eq_false (by omega)
      repeat (first | (apply fw; focus ((with_reducible constructor) <;> rfl)) | (apply WpA.cd; focus constructor) | ((first | with_reducible refine WpA.go _ rfl fun Y y => ?_ | apply RunTo.id); simp only [zb, seval, w28, txtA, rdO, hsz, hd1, hd2, hga, ha1, ha2, ha3, hdl, e9, hor, hz2, hw2, hle1, hdrop, hsr, hc2, hn1, hc3, hc4, hxz]; refine RunTo.fn y (by first | exact trivial | omega | (simp; done) | (simp; omega)) ?_; clear y Y))
      exact ⟨by simp, _, _, _, Le.refl _ _, rfl, trivial, rfl, rfl⟩
theorem i64_zero : I64 0 := by constructor <;> decide
theorem numV_ok (l : List UInt8) (b : Int) : I64 (numV l b).1 ∧ (numV l b).2.1.length ≤ l.length := by
  unfold numV
  split
  · cases h : getL l with
    | none => exact ⟨i64_zero, Nat.le_refl _⟩
    | some p => obtain ⟨n, r⟩ := p; have := getL_ok h; exact ⟨this.1, Nat.le_of_lt this.2⟩
  · exact ⟨i64_zero, Nat.le_refl _⟩
/-- What amount answers. -/
def amV (l : List UInt8) (b : Int) : Nat × List UInt8 × Int := if (numV l b).1 < 0 ∨ ((numV l b).2.1.length : Int) < (numV l b).1 then (0, (numV l b).2.1, 1) else ((numV l b).1.toNat, (numV l b).2.1, (numV l b).2.2)
/-- What text answers. -/
def txV (l : List UInt8) (b : Int) : List UInt8 × List UInt8 × Int := ((amV l b).2.1.take (amV l b).1, (amV l b).2.1.drop (amV l b).1, (amV l b).2.2)
theorem amV_ok (l : List UInt8) (b : Int) : (amV l b).1 ≤ (amV l b).2.1.length ∧ (amV l b).2.1.length ≤ l.length := by
  have h := numV_ok l b
  unfold amV
  split
  · exact ⟨Nat.zero_le _, h.2⟩
  · refine ⟨?_, h.2⟩
    rename_i hn
    show (numV l b).1.toNat ≤ (numV l b).2.1.length
    omega
theorem amount_fn (l : List UInt8) (b : Int) (hl : l.length ≤ 100000) : Fn Tryd.prog 30 [.one (.ptr 0 1 0 0)] [some (rdO (tB l) b)] (fun r s' => r = .one (.v (.int .i64 ((amV l b).1 : Nat))) ∧ s' = [some (rdO (tB (amV l b).2.1) (amV l b).2.2)]) := by
  have hnum := snum_fn l b hl
  have hok := numV_ok l b
  have ham : amV l b = if (numV l b).1 < 0 ∨ ((numV l b).2.1.length : Int) < (numV l b).1 then (0, (numV l b).2.1, 1) else ((numV l b).1.toNat, (numV l b).2.1, (numV l b).2.2) := rfl
  generalize numV l b = V at *
  obtain ⟨n, r, b1⟩ := V
  simp only at hok ham hnum
  have hsz := tB_size r
  refine Fn.introS Tryd.func30 rfl Tryd.ntmps30 Tryd.results30 (by simp only [List.length_cons, List.length_nil]; decide) ?_
  repeat (first | (apply fw; focus ((with_reducible constructor) <;> rfl)) | (apply WpA.cd; focus constructor) | ((first | with_reducible refine WpA.go _ rfl fun Y y => ?_ | apply RunTo.id); simp only [zb, seval, w30, txtA, rdO]; refine RunTo.fn y (by first | exact trivial | omega | (simp; done) | (simp; omega)) ?_; clear y Y))
  refine WpL.handAll rfl (guardA_sound (P := Tryd.prog) rfl) rfl rfl (by kernel_rfl) (ALes.refl _) hnum ?_
  rintro _ s' ⟨rfl, rfl⟩
  by_cases hn : n < 0
  · have hd : decide (n < 0) = true := decide_eq_true hn
    rw [if_pos (.inl hn)] at ham
    rw [ham]
    (refine WpL.go _ rfl fun Y y => ?_); repeat (first | (apply fw; focus ((with_reducible constructor) <;> rfl)) | (apply WpA.cd; focus constructor) | ((first | with_reducible refine WpA.go _ rfl fun Y y => ?_ | apply RunTo.id); simp only [zb, seval, w30, txtA, rdO, hsz, hd]; refine RunTo.fn y (by first | exact trivial | omega | (simp; done) | (simp; omega)) ?_; clear y Y))
    exact ⟨by simp, _, _, _, Le.refl _ _, rfl, trivial, rfl, rfl⟩
  have hd : decide (n < 0) = false := decide_eq_false hn
  by_cases hg : (r.length : Int) < n
  · have hd2 : decide ((r.length : Int) < n) = true := decide_eq_true hg
    rw [if_pos (.inr hg)] at ham
    rw [ham]
    (refine WpL.go _ rfl fun Y y => ?_); repeat (first | (apply fw; focus ((with_reducible constructor) <;> rfl)) | (apply WpA.cd; focus constructor) | ((first | with_reducible refine WpA.go _ rfl fun Y y => ?_ | apply RunTo.id); simp only [zb, seval, w30, txtA, rdO, hsz, hd, hd2]; refine RunTo.fn y (by first | exact trivial | omega | (simp; done) | (simp; omega)) ?_; clear y Y))
    exact ⟨by simp, _, _, _, Le.refl _ _, rfl, trivial, rfl, rfl⟩
  · have hd2 : decide ((r.length : Int) < n) = false := decide_eq_false hg
    rw [if_neg (by omega)] at ham
    rw [ham]
    obtain ⟨k, rfl⟩ : ∃ k : Nat, n = (k : Int) := ⟨n.toNat, by omega⟩
    (refine WpL.go _ rfl fun Y y => ?_); repeat (first | (apply fw; focus ((with_reducible constructor) <;> rfl)) | (apply WpA.cd; focus constructor) | ((first | with_reducible refine WpA.go _ rfl fun Y y => ?_ | apply RunTo.id); simp only [zb, seval, w30, txtA, rdO, hsz, hd, hd2]; refine RunTo.fn y (by first | exact trivial | omega | (simp; done) | (simp; omega)) ?_; clear y Y))
    exact ⟨by simp, _, _, _, Le.refl _ _, rfl, trivial, rfl, rfl⟩
theorem stext_fn (l : List UInt8) (b : Int) (hl : l.length ≤ 100000) : Fn Tryd.prog 29 [.one (.ptr 0 1 0 0)] [some (rdO (tB l) b)] (fun r s' => r = .one (.v (.string (tB (txV l b).1))) ∧ s' = [some (rdO (tB (txV l b).2.1) (txV l b).2.2)]) := by
  have ham := amount_fn l b hl
  have hok := amV_ok l b
  have htx : txV l b = ((amV l b).2.1.take (amV l b).1, (amV l b).2.1.drop (amV l b).1, (amV l b).2.2) := rfl
  rw [htx]
  generalize amV l b = V at *
  obtain ⟨k, r, b1⟩ := V
  simp only at hok ham
  have hsz := tB_size r
  have hdrop := tB_drop r k
  have htake := tB_take r k
  have hk := hok.1
  refine Fn.introS Tryd.func29 rfl Tryd.ntmps29 Tryd.results29 (by simp only [List.length_cons, List.length_nil]; decide) ?_
  repeat (first | (apply fw; focus ((with_reducible constructor) <;> rfl)) | (apply WpA.cd; focus constructor) | ((first | with_reducible refine WpA.go _ rfl fun Y y => ?_ | apply RunTo.id); simp only [zb, seval, w29, txtA, rdO]; refine RunTo.fn y (by first | exact trivial | omega | (simp; done) | (simp; omega)) ?_; clear y Y))
  refine WpL.handAll rfl (guardA_sound (P := Tryd.prog) rfl) rfl rfl (by kernel_rfl) (ALes.refl _) ham ?_
  rintro _ s' ⟨rfl, rfl⟩
  (refine WpL.go _ rfl fun Y y => ?_); repeat (first | (apply fw; focus ((with_reducible constructor) <;> rfl)) | (apply WpA.cd; focus constructor) | ((first | with_reducible refine WpA.go _ rfl fun Y y => ?_ | apply RunTo.id); simp only [zb, seval, w29, txtA, rdO, hsz, hdrop, htake, hk]; refine RunTo.fn y (by first | exact trivial | omega | (simp; done) | (simp; omega)) ?_; clear y Y))
  exact ⟨by simp, _, _, _, Le.refl _ _, rfl, trivial, rfl, rfl⟩
def jobZ : Jb := ⟨⟨#[]⟩, ⟨#[]⟩, 0, 0, []⟩
def oneV (l : List UInt8) (b : Int) : Co × List UInt8 × Int :=
  (⟨(numV l b).1, (numV (numV l b).2.1 (numV l b).2.2).1, (numV (numV (numV l b).2.1 (numV l b).2.2).2.1 (numV (numV l b).2.1 (numV l b).2.2).2.2).1⟩, (numV (numV (numV l b).2.1 (numV l b).2.2).2.1 (numV (numV l b).2.1 (numV l b).2.2).2.2).2)
def colV (l : List UInt8) (b : Int) : Nat → List Co × List UInt8 × Int
  | 0 => ([], l, b)
  | k + 1 => ((colV l b k).1 ++ [(oneV (colV l b k).2.1 (colV l b k).2.2).1], (oneV (colV l b k).2.1 (colV l b k).2.2).2)
/-- What Decode answers, from what is left behind the numbers and the first text. -/
def decW (lim fu : Int) (inp : List UInt8) (p4 : Nat × List UInt8 × Int) : Jb × Int :=
  if 1000 < p4.1 then (jobZ, 12) else
  if (txV (colV p4.2.1 p4.2.2 p4.1).2.1 (colV p4.2.1 p4.2.2 p4.1).2.2).2.2 = 1 ∨ (txV (colV p4.2.1 p4.2.2 p4.1).2.1 (colV p4.2.1 p4.2.2 p4.1).2.2).2.1 ≠ [] then (jobZ, 9)
  else (⟨tB (txV (colV p4.2.1 p4.2.2 p4.1).2.1 (colV p4.2.1 p4.2.2 p4.1).2.2).1, tB inp, lim, fu, (colV p4.2.1 p4.2.2 p4.1).1⟩, 0)
def decV (l : List UInt8) : Jb × Int :=
  if 65536 < l.length then (jobZ, 12) else
  decW (numV l 0).1 (numV (numV l 0).2.1 (numV l 0).2.2).1 (txV (numV (numV l 0).2.1 (numV l 0).2.2).2.1 (numV (numV l 0).2.1 (numV l 0).2.2).2.2).1
    (amV (txV (numV (numV l 0).2.1 (numV l 0).2.2).2.1 (numV (numV l 0).2.1 (numV l 0).2.2).2.2).2.1 (txV (numV (numV l 0).2.1 (numV l 0).2.2).2.1 (numV (numV l 0).2.1 (numV l 0).2.2).2.2).2.2)
section
variable {nt : Cf} {ops : Array Oper} {Q : St → Prop} {rest : List Oper} {e : List (Nat × A)} {ds : List (Option Tmp)} {d : Option Tmp} {args : List Operand} {tys : Array TypeId} {ty : TypeId} {pos : String} {aft : Array Edge} {o0 : Ob} {T : List (Option Ob)} {l l' : List UInt8} {b b' : Int} {v : Value} {f : FuncId}
theorem txV_ok (l : List UInt8) (b : Int) : (txV l b).2.1.length ≤ l.length := by
  have := amV_ok l b
  simp only [txV, List.length_drop]; omega
theorem rdO_ren (g : Nat → Nat) (s : ByteArray) (b : Int) : (rdO s b).ren g = rdO s b := by simp [rdO, Ob.ren, C.rens, C.ren]
theorem OpS.rd {s' : List (Option Ob)} (hfn : Fn Tryd.prog f [.one (.ptr 0 1 0 0)] [some (rdO (tB l) b)] (fun r s' => r = .one (.v v) ∧ s' = [some (rdO (tB l') b')])) (ha : rdAs e args = some [.one (.ptr 1 1 0 0)]) (hc : callable Tryd.prog f = true) (hs' : some o0 :: some (rdO (tB l') b') :: T = s') :
    OpS Tryd.prog nt ds ⟨d, .call { callee := .value (.func f), args := args.toArray, argTypes := tys }, ty, pos, aft, none⟩ e (some o0 :: some (rdO (tB l) b) :: T) (.one (.v v)) s' := by
  subst hs'
  have := OpS.hand (P := Tryd.prog) (nt := nt) (ds := ds) (d := d) (ty := ty) (pos := pos) (aft := aft) (s := some o0 :: some (rdO (tB l) b) :: T) (tys := tys) (g := none) (ρ := [1]) (s1 := [some (rdO (tB l) b)]) (xs' := [.one (.ptr 0 1 0 0)]) (caps := []) (fo := .func f) (args := args) (e := e) rfl rfl ha hc (by simp [A.rens, A.ren, C.ren, rn]) (Handed.of (by decide) (by simp [rdO_ren])) hfn
  simpa [back, mix, putAll, rdO_ren, A.ren, C.ren] using this
theorem WpL.rd (hfn : Fn Tryd.prog f [.one (.ptr 0 1 0 0)] [some (rdO (tB l) b)] (fun r s' => r = .one (.v v) ∧ s' = [some (rdO (tB l') b')])) (hd : fits nt d = true) (ha : rdAs e args = some [.one (.ptr 1 1 0 0)]) (hc : callable Tryd.prog f = true)
    (h : WpL Tryd.prog nt ops Q rest (St.put ⟨e, some o0 :: some (rdO (tB l') b') :: T⟩ d (.one (.v v)))) : WpL Tryd.prog nt ops Q (⟨d, .call { callee := .value (.func f), args := args.toArray, argTypes := tys }, ty, pos, aft, none⟩ :: rest) ⟨e, some o0 :: some (rdO (tB l) b) :: T⟩ := by
  refine WpL.hand (s := [some (rdO (tB l) b)]) (ρ := [1]) (xs' := [.one (.ptr 0 1 0 0)]) hd wanted_none rfl ha hc (by simp [A.rens, A.ren, C.ren, rn]) (Handed.of (by decide) (by simp [rdO_ren])) hfn ?_
  rintro r s' ⟨rfl, rfl⟩
  simpa [back, mix, putAll, rdO_ren, A.ren, A.rens, C.ren] using h
end
def anyR : Ob := ⟨58, 2, [[.any, .any]]⟩
theorem rd_le (o0 : Ob) (s : ByteArray) (b : Int) (T T' : List (Option Ob)) : LeS (some o0 :: some anyR :: T) (some o0 :: some (rdO s b) :: (T ++ T')) :=
  LeS.any (j := 1) (a := anyR) (b := rdO s b) (SLe.app _ T') rfl rfl rfl ⟨⟨FzC.any, FzC.any, trivial⟩, trivial⟩
def jO (inp : ByteArray) (lim fu : Int) (fc : C) : Ob := ⟨24, 5, [[.v (.string ⟨#[]⟩), .v (.string inp), .v (.int .i64 lim), .v (.int .i64 fu), fc]]⟩
def j0 : Ob := ⟨24, 5, [[.v (.string ⟨#[]⟩), .v (.string ⟨#[]⟩), .v (.int .i64 0), .v (.int .i64 0), .v (.slice none 0 0)]]⟩
theorem colV_ok (l : List UInt8) (b : Int) : ∀ k, (colV l b k).1.length = k ∧ (colV l b k).2.1.length ≤ l.length
  | 0 => ⟨rfl, Nat.le_refl _⟩
  | k + 1 => by
    have h := colV_ok l b k
    refine ⟨by simp [colV, h.1], ?_⟩
    have h1 := numV_ok (colV l b k).2.1 (colV l b k).2.2
    have h2 := numV_ok (numV (colV l b k).2.1 (colV l b k).2.2).2.1 (numV (colV l b k).2.1 (colV l b k).2.2).2.2
    have h3 := numV_ok (numV (numV (colV l b k).2.1 (colV l b k).2.2).2.1 (numV (colV l b k).2.1 (colV l b k).2.2).2.2).2.1 (numV (numV (colV l b k).2.1 (colV l b k).2.2).2.1 (numV (colV l b k).2.1 (colV l b k).2.2).2.2).2.2
    simp only [colV, oneV]
    omega
theorem fC_snoc (fs : List Co) (c : Co) : fC (fs ++ [c]) = fC fs ++ [[.v (.int .i64 c.s), .v (.int .i64 c.g), .v (.int .i64 c.t)]] := by simp [fC]
theorem fC_shut (fs : List Co) : ∀ r ∈ fC fs, ∀ c ∈ r, C.shut c = true := fun r hr c hc => by
  simp only [fC, List.mem_map] at hr
  obtain ⟨x, -, rfl⟩ := hr
  simp only [List.mem_cons, List.not_mem_nil, or_false] at hc
  rcases hc with rfl | rfl | rfl <;> rfl
def sdE (n k : Nat) : List (Nat × A) := [(33, .one (.v (.int .i64 k))), (32, .one (.v (.int .i64 n))), (5, .one (.ptr 2 1 0 0)), (4, .one (.ptr 1 1 0 0)), (3, .one (.v (.int .i64 0))), (2, .one (.ptr 0 1 0 0))]
def SdI (lim fu : Int) (inp : ByteArray) (n : Nat) (l : List UInt8) (b : Int) (N : Nat) (st : St) : Prop := ∃ k : Nat, N = n - k ∧ k ≤ n ∧
  ((k = 0 ∧ st = ⟨sdE n k, [some j0, some (rdO (tB (colV l b k).2.1) (colV l b k).2.2), some (jO inp lim fu (.v (.slice none 0 0)))]⟩) ∨
   (0 < k ∧ st = ⟨sdE n k, [some j0, some (rdO (tB (colV l b k).2.1) (colV l b k).2.2), some (jO inp lim fu (.ms 3 k)), some ⟨48, 3, fC (colV l b k).1⟩]⟩))
theorem sdecode_pure (l : List UInt8) (hl : l.length ≤ 70000) : Pure Tryd.prog 17 [.one (.v (.string (tB l)))] (.tup [.agg (decV l).1.cs, .one (.v (.int .i64 (decV l).2))]) := by
  have hsz := tB_size l
  have hZ : ∀ e : Int, ALe (.tup [.agg [.v (.string ⟨#[]⟩), .v (.string ⟨#[]⟩), .v (.int .i64 0), .v (.int .i64 0), .v (.slice none 0 0)], .one (.v (.int .i64 e))]) (.tup [.agg jobZ.cs, .one (.v (.int .i64 e))]) := fun e => ALe.tup (ALes.cons (ALe.agg (by simp only [Jb.cs, jobZ, fC, List.map_nil]; repeat (first | exact CLes.refl _ | refine CLes.nil ?_ | refine CLes.cons ?_))) (ALes.refl _))
  refine Fn.intro Tryd.func17 rfl Tryd.ntmps17 Tryd.results17 (by simp only [List.length_cons, List.length_nil]; decide) ?_
  by_cases hbig : 65536 < l.length
  · have hd : decide ((65536 : Int) < (l.length : Int)) = true := by simp; omega
    have hV : decV l = (jobZ, 12) := by rw [decV, if_pos hbig]
    rw [hV]
    repeat (first | (apply fw; focus ((with_reducible constructor) <;> rfl)) | (apply WpA.cd; focus constructor) | ((first | with_reducible refine WpA.go _ rfl fun Y y => ?_ | apply RunTo.id); simp only [zb, seval, w17, txtA, hsz, hd]; refine RunTo.fn y (by first | exact trivial | omega | (simp; done) | (simp; omega)) ?_; clear y Y))
    refine ⟨by simp, _, _, _, _, (by simp only [zb, seval, w17]; rfl), (by simp), (by simp only [zv]; rfl), (by simp), _, (hZ 12), rfl⟩
  have hd : decide ((65536 : Int) < (l.length : Int)) = false := by simp; omega
  repeat (first | (apply fw; focus ((with_reducible constructor) <;> rfl)) | (apply WpA.cd; focus constructor) | ((first | with_reducible refine WpA.go _ rfl fun Y y => ?_ | apply RunTo.id); simp only [zb, seval, w17, txtA, hsz, hd]; refine RunTo.fn y (by first | exact trivial | omega | (simp; done) | (simp; omega)) ?_; clear y Y))
  have n1 := snum_fn l 0 (by omega)
  have k1 := numV_ok l 0
  have hV : decV l = decW (numV l 0).1 (numV (numV l 0).2.1 (numV l 0).2.2).1 (txV (numV (numV l 0).2.1 (numV l 0).2.2).2.1 (numV (numV l 0).2.1 (numV l 0).2.2).2.2).1
    (amV (txV (numV (numV l 0).2.1 (numV l 0).2.2).2.1 (numV (numV l 0).2.1 (numV l 0).2.2).2.2).2.1 (txV (numV (numV l 0).2.1 (numV l 0).2.2).2.1 (numV (numV l 0).2.1 (numV l 0).2.2).2.2).2.2) := by rw [decV, if_neg hbig]
  rw [hV]
  clear hV
  generalize numV l 0 = V1 at *
  obtain ⟨lim, l1, b1⟩ := V1
  simp only at n1 k1 ⊢
  have n2 := snum_fn l1 b1 (by omega)
  have k2 := numV_ok l1 b1
  generalize numV l1 b1 = V2 at *
  obtain ⟨fu, l2, b2⟩ := V2
  simp only at n2 k2 ⊢
  refine WpA.le (Le.sub (e' := [(4, .one (.ptr 1 1 0 0)), (3, .one (.v (.int .i64 0))), (2, .one (.ptr 0 1 0 0))]) (by simp [Sub, find])) ?_
  have hle : ∀ s ∈ [[some j0, some (rdO (tB l) 0)], [some j0, some (rdO (tB l1) b1)], [some j0, some (rdO (tB l2) b2)], [some j0, some (rdO (tB l) 0), some j0], [some j0, some (rdO (tB l1) b1), some j0], [some j0, some (rdO (tB l2) b2), some j0]], LeS [some j0, some anyR] s := by
    simp only [List.mem_cons, List.not_mem_nil, or_false, forall_eq_or_imp, forall_eq]
    exact ⟨rd_le _ _ _ [] [], rd_le _ _ _ [] [], rd_le _ _ _ [] [], rd_le _ _ _ [] [_], rd_le _ _ _ [] [_], rd_le _ _ _ [] [_]⟩
  skip
  skip
  (refine WpA.draw2 10 [3, 7, 9] [some j0, some anyR] [[], [3], [3, 7], [9], [3, 9], [3, 7, 9]] [[some j0, some (rdO (tB l) 0)], [some j0, some (rdO (tB l1) b1)], [some j0, some (rdO (tB l2) b2)], [some j0, some (rdO (tB l) 0), some j0], [some j0, some (rdO (tB l1) b1), some j0], [some j0, some (rdO (tB l2) b2), some j0]] 5 _ _ _ _ rfl rfl rfl (by kernel_rfl) (by kernel_rfl) (by kernel_rfl) (by kernel_rfl) rfl rfl rfl (by decide) fun K8 hK8 => ?_)
  simp only [zz] at hK8 ⊢
  (refine Draw2.go fun K7 hK7 => ?_); simp only [zb, seval, w17, j0, anyR]; (refine RunQ.mk (by first | exact trivial | omega | (simp; done) | (simp; omega)) (hK7 _ _ (by rfl) ?_)); clear hK7 K7; (simp only [zz, Nat.reduceAdd, Nat.reduceSub]); (try ((refine Draw2.nil (zip_le (hle)) (hK8 _ ?_)); clear hK8 K8; (refine WpL.go _ rfl fun Y y => ?_); repeat (first | (apply fw; focus ((with_reducible constructor) <;> rfl)) | (apply WpA.cd; focus constructor) | ((first | with_reducible refine WpA.go _ rfl fun Y y => ?_ | apply RunTo.id); simp only [zb, seval, w17, j0, anyR]; refine RunTo.fn y (by first | exact trivial | omega | (simp; done) | (simp; omega)) ?_; clear y Y))))
  refine Draw2.eff (x := .one (.v (.int .i64 lim))) [(0, 1), (3, 4)] rfl rfl (by kernel_rfl) (fun t ht s s' h1 h2 => ?_) ?_
  · simp only [List.mem_cons, List.not_mem_nil, or_false] at ht
    rcases ht with rfl | rfl <;> (cases h1; cases h2)
    · exact OpS.rd n1 rfl (by kernel_rfl) rfl
    · exact OpS.rd n1 rfl (by kernel_rfl) rfl
  simp only [putE]
  (refine Draw2.go fun K7 hK7 => ?_); simp only [zb, seval, w17, j0, anyR]; (refine RunQ.mk (by first | exact trivial | omega | (simp; done) | (simp; omega)) (hK7 _ _ (by rfl) ?_)); clear hK7 K7; (simp only [zz, Nat.reduceAdd, Nat.reduceSub]); (try ((refine Draw2.nil (zip_le (hle)) (hK8 _ ?_)); clear hK8 K8; (refine WpL.go _ rfl fun Y y => ?_); repeat (first | (apply fw; focus ((with_reducible constructor) <;> rfl)) | (apply WpA.cd; focus constructor) | ((first | with_reducible refine WpA.go _ rfl fun Y y => ?_ | apply RunTo.id); simp only [zb, seval, w17, j0, anyR]; refine RunTo.fn y (by first | exact trivial | omega | (simp; done) | (simp; omega)) ?_; clear y Y))))
  refine Draw2.eff (x := .one (.v (.int .i64 fu))) [(1, 2), (4, 5)] rfl rfl (by kernel_rfl) (fun t ht s s' h1 h2 => ?_) ?_
  · simp only [List.mem_cons, List.not_mem_nil, or_false] at ht
    rcases ht with rfl | rfl <;> (cases h1; cases h2)
    · exact OpS.rd n2 rfl (by kernel_rfl) rfl
    · exact OpS.rd n2 rfl (by kernel_rfl) rfl
  simp only [putE]
  (refine Draw2.go fun K7 hK7 => ?_); simp only [zb, seval, w17, j0, anyR]; (refine RunQ.mk (by first | exact trivial | omega | (simp; done) | (simp; omega)) (hK7 _ _ (by rfl) ?_)); clear hK7 K7; (simp only [zz, Nat.reduceAdd, Nat.reduceSub]); (try ((refine Draw2.nil (zip_le (hle)) (hK8 _ ?_)); clear hK8 K8; (refine WpL.go _ rfl fun Y y => ?_); repeat (first | (apply fw; focus ((with_reducible constructor) <;> rfl)) | (apply WpA.cd; focus constructor) | ((first | with_reducible refine WpA.go _ rfl fun Y y => ?_ | apply RunTo.id); simp only [zb, seval, w17, j0, anyR]; refine RunTo.fn y (by first | exact trivial | omega | (simp; done) | (simp; omega)) ?_; clear y Y))))
  refine Draw2.eff (x := .one (.ptr 2 1 0 0)) [(0, 3), (1, 4), (2, 5)] rfl rfl (by kernel_rfl) (fun t ht s s' h1 h2 => ?_) ?_
  · simp only [List.mem_cons, List.not_mem_nil, or_false] at ht
    rcases ht with rfl | rfl | rfl <;> (cases h1; cases h2)
    · exact OpS.eff [] rfl (by rfl) trivial (by simp only [zb, seval, w17]; rfl) trivial
    · exact OpS.eff [] rfl (by rfl) trivial (by simp only [zb, seval, w17]; rfl) trivial
    · exact OpS.eff [] rfl (by rfl) trivial (by simp only [zb, seval, w17]; rfl) trivial
  simp only [putE]
  (refine Draw2.go fun K7 hK7 => ?_); simp only [zb, seval, w17, j0, rdO]; (refine RunQ.mk (by first | exact trivial | omega | (simp; done) | (simp; omega)) (hK7 _ _ (by rfl) ?_)); clear hK7 K7; (simp only [zz, Nat.reduceAdd, Nat.reduceSub]); (try ((refine Draw2.nil (zip_le (hle)) (hK8 _ ?_)); clear hK8 K8; (refine WpL.go _ rfl fun Y y => ?_); repeat (first | (apply fw; focus ((with_reducible constructor) <;> rfl)) | (apply WpA.cd; focus constructor) | ((first | with_reducible refine WpA.go _ rfl fun Y y => ?_ | apply RunTo.id); simp only [zb, seval, w17, j0, rdO]; refine RunTo.fn y (by first | exact trivial | omega | (simp; done) | (simp; omega)) ?_; clear y Y))))
  have n3 := stext_fn l2 b2 (by omega)
  have k3 := txV_ok l2 b2
  generalize txV l2 b2 = V3 at *
  obtain ⟨inp, l3, b3⟩ := V3
  simp only at n3 k3 ⊢
  refine WpL.rd n3 rfl rfl (by kernel_rfl) ?_
  (refine WpL.go _ rfl fun Y y => ?_); repeat (first | (apply fw; focus ((with_reducible constructor) <;> rfl)) | (apply WpA.cd; focus constructor) | ((first | with_reducible refine WpA.go _ rfl fun Y y => ?_ | apply RunTo.id); simp only [zb, seval, w17, txtA, rdO]; refine RunTo.fn y (by first | exact trivial | omega | (simp; done) | (simp; omega)) ?_; clear y Y))
  have n4 := amount_fn l3 b3 (by omega)
  have k4 := amV_ok l3 b3
  generalize amV l3 b3 = V4 at *
  obtain ⟨n, l4, b4⟩ := V4
  simp only at n4 k4 ⊢
  refine WpL.rd n4 rfl rfl (by kernel_rfl) ?_
  by_cases hn : 1000 < n
  · have hdn : decide ((1000 : Int) < (n : Int)) = true := decide_eq_true (by omega)
    have hV : decW lim fu inp (n, l4, b4) = (jobZ, 12) := by rw [decW, if_pos hn]
    rw [hV]
    (refine WpL.go _ rfl fun Y y => ?_); repeat (first | (apply fw; focus ((with_reducible constructor) <;> rfl)) | (apply WpA.cd; focus constructor) | ((first | with_reducible refine WpA.go _ rfl fun Y y => ?_ | apply RunTo.id); simp only [zb, seval, w17, txtA, rdO, hdn]; refine RunTo.fn y (by first | exact trivial | omega | (simp; done) | (simp; omega)) ?_; clear y Y))
    refine ⟨by simp, _, _, _, _, (by simp only [zb, seval, w17]; rfl), (by simp), (by simp only [zv]; rfl), (by simp), _, (hZ 12), rfl⟩
  have hdn : decide ((1000 : Int) < (n : Int)) = false := decide_eq_false (by omega)
  (refine WpL.go _ rfl fun Y y => ?_); repeat (first | (apply fw; focus ((with_reducible constructor) <;> rfl)) | (apply WpA.cd; focus constructor) | ((first | with_reducible refine WpA.go _ rfl fun Y y => ?_ | apply RunTo.id); simp only [zb, seval, w17, txtA, rdO, hdn]; refine RunTo.fn y (by first | exact trivial | omega | (simp; done) | (simp; omega)) ?_; clear y Y))
  refine WpA.loop (SdI lim fu (tB inp) n l4 b4) n ?_ ⟨0, rfl, Nat.zero_le _, .inl ⟨rfl, rfl⟩⟩ ?_
  · exact Le.sub (by simp [Sub, find, sdE])
  intro n' st hI
  obtain ⟨k, rfl, hk, hI⟩ := hI
  have hw2 : IntKind.i64.wrap ((k : Int) + 1) = ((k + 1 : Nat) : Int) := by rw [wrap64 (by omega) (by omega)]; omega
  by_cases hlt : k < n
  · have hd3 : decide ((k : Int) < (n : Int)) = true := decide_eq_true (by omega)
    have hcol : colV l4 b4 (k + 1) = ((colV l4 b4 k).1 ++ [(oneV (colV l4 b4 k).2.1 (colV l4 b4 k).2.2).1], (oneV (colV l4 b4 k).2.1 (colV l4 b4 k).2.2).2) := rfl
    have hck := colV_ok l4 b4 k
    generalize colV l4 b4 k = V at *
    obtain ⟨fs, l, b⟩ := V
    simp only [oneV] at hcol hck hI
    have na := snum_fn l b (by omega)
    have ka := numV_ok l b
    generalize numV l b = Va at *
    obtain ⟨x, la, ba⟩ := Va
    simp only at hcol na ka
    have nb := snum_fn la ba (by omega)
    have kb := numV_ok la ba
    generalize numV la ba = Vb at *
    obtain ⟨y, lb, bb⟩ := Vb
    simp only at hcol nb kb
    have nc := snum_fn lb bb (by omega)
    have kc := numV_ok lb bb
    generalize numV lb bb = Vc at *
    obtain ⟨z, lc, bc⟩ := Vc
    simp only at hcol nc kc
    have hfs := fC_len fs

    have hck1 := hck.1
    rcases hI with ⟨hk0, rfl⟩ | ⟨hk0, rfl⟩
    · repeat (first | (apply fw; focus ((with_reducible constructor) <;> rfl)) | (apply WpA.cd; focus constructor) | ((first | with_reducible refine WpA.go _ rfl fun Y y => ?_ | apply RunTo.id); simp only [zb, seval, w17, txtA, sdE, hd3]; refine RunTo.fn y (by first | exact trivial | omega | (simp; done) | (simp; omega)) ?_; clear y Y))
      have hle : ∀ s ∈ [[some j0, some (rdO (tB l) b), some (jO (tB inp) lim fu (.v (.slice none 0 0)))], [some j0, some (rdO (tB la) ba), some (jO (tB inp) lim fu (.v (.slice none 0 0)))], [some j0, some (rdO (tB lb) bb), some (jO (tB inp) lim fu (.v (.slice none 0 0)))], [some j0, some (rdO (tB lc) bc), some (jO (tB inp) lim fu (.v (.slice none 0 0)))], [some j0, some (rdO (tB lc) bc), some (jO (tB inp) lim fu (.v (.slice none 0 0))), some ⟨48, 3, [[.v (.int .i64 x), .v (.int .i64 y), .v (.int .i64 z)]]⟩]], LeS [some j0, some anyR, some (jO (tB inp) lim fu (.v (.slice none 0 0)))] s := by
        simp only [List.mem_cons, List.not_mem_nil, or_false, forall_eq_or_imp, forall_eq]
        exact ⟨rd_le _ _ _ [_] [], rd_le _ _ _ [_] [], rd_le _ _ _ [_] [], rd_le _ _ _ [_] [], rd_le _ _ _ [_] [_]⟩
      skip
      skip
      (refine WpA.draw1 18 [5, 9, 13, 16] [some j0, some anyR, some (jO (tB inp) lim fu (.v (.slice none 0 0)))] [[some j0, some (rdO (tB l) b), some (jO (tB inp) lim fu (.v (.slice none 0 0)))], [some j0, some (rdO (tB la) ba), some (jO (tB inp) lim fu (.v (.slice none 0 0)))], [some j0, some (rdO (tB lb) bb), some (jO (tB inp) lim fu (.v (.slice none 0 0)))], [some j0, some (rdO (tB lc) bc), some (jO (tB inp) lim fu (.v (.slice none 0 0)))], [some j0, some (rdO (tB lc) bc), some (jO (tB inp) lim fu (.v (.slice none 0 0))), some ⟨48, 3, [[.v (.int .i64 x), .v (.int .i64 y), .v (.int .i64 z)]]⟩]] _ _ _ _ rfl rfl rfl (by kernel_rfl) (by kernel_rfl) (by kernel_rfl) (by kernel_rfl) rfl rfl rfl rfl (by decide) fun K8 hK8 => ?_)
      simp only [zz] at hK8 ⊢
      (refine Draw1.go fun K7 hK7 => ?_); simp only [zb, seval, w17, j0, anyR, jO]; (refine RunQ.mk (by first | exact trivial | omega | (simp; done) | (simp; omega)) (hK7 _ _ (by rfl) ?_)); clear hK7 K7; (simp only [zz, Nat.reduceAdd, Nat.reduceSub]); (try ((refine Draw1.nil hle (hK8 _ ?_)); clear hK8 K8; (refine WpL.go _ rfl fun Y y => ?_); repeat (first | (apply fw; focus ((with_reducible constructor) <;> rfl)) | (apply WpA.cd; focus constructor) | ((first | with_reducible refine WpA.go _ rfl fun Y y => ?_ | apply RunTo.id); simp only [zb, seval, w17, j0, anyR, jO]; refine RunTo.fn y (by first | exact trivial | omega | (simp; done) | (simp; omega)) ?_; clear y Y))))
      refine Draw1.eff 0 rfl rfl rfl (OpS.rd na rfl (by kernel_rfl) rfl) ?_
      simp only [putE]
      (refine Draw1.go fun K7 hK7 => ?_); simp only [zb, seval, w17, j0, anyR, jO]; (refine RunQ.mk (by first | exact trivial | omega | (simp; done) | (simp; omega)) (hK7 _ _ (by rfl) ?_)); clear hK7 K7; (simp only [zz, Nat.reduceAdd, Nat.reduceSub]); (try ((refine Draw1.nil hle (hK8 _ ?_)); clear hK8 K8; (refine WpL.go _ rfl fun Y y => ?_); repeat (first | (apply fw; focus ((with_reducible constructor) <;> rfl)) | (apply WpA.cd; focus constructor) | ((first | with_reducible refine WpA.go _ rfl fun Y y => ?_ | apply RunTo.id); simp only [zb, seval, w17, j0, anyR, jO]; refine RunTo.fn y (by first | exact trivial | omega | (simp; done) | (simp; omega)) ?_; clear y Y))))
      refine Draw1.eff 1 rfl rfl rfl (OpS.rd nb rfl (by kernel_rfl) rfl) ?_
      simp only [putE]
      (refine Draw1.go fun K7 hK7 => ?_); simp only [zb, seval, w17, j0, anyR, jO]; (refine RunQ.mk (by first | exact trivial | omega | (simp; done) | (simp; omega)) (hK7 _ _ (by rfl) ?_)); clear hK7 K7; (simp only [zz, Nat.reduceAdd, Nat.reduceSub]); (try ((refine Draw1.nil hle (hK8 _ ?_)); clear hK8 K8; (refine WpL.go _ rfl fun Y y => ?_); repeat (first | (apply fw; focus ((with_reducible constructor) <;> rfl)) | (apply WpA.cd; focus constructor) | ((first | with_reducible refine WpA.go _ rfl fun Y y => ?_ | apply RunTo.id); simp only [zb, seval, w17, j0, anyR, jO]; refine RunTo.fn y (by first | exact trivial | omega | (simp; done) | (simp; omega)) ?_; clear y Y))))
      refine Draw1.eff 2 rfl rfl rfl (OpS.rd nc rfl (by kernel_rfl) rfl) ?_
      simp only [putE]
      (refine Draw1.go fun K7 hK7 => ?_); simp only [zb, seval, w17, j0, anyR, jO]; (refine RunQ.mk (by first | exact trivial | omega | (simp; done) | (simp; omega)) (hK7 _ _ (by rfl) ?_)); clear hK7 K7; (simp only [zz, Nat.reduceAdd, Nat.reduceSub]); (try ((refine Draw1.nil hle (hK8 _ ?_)); clear hK8 K8; (refine WpL.go _ rfl fun Y y => ?_); repeat (first | (apply fw; focus ((with_reducible constructor) <;> rfl)) | (apply WpA.cd; focus constructor) | ((first | with_reducible refine WpA.go _ rfl fun Y y => ?_ | apply RunTo.id); simp only [zb, seval, w17, j0, anyR, jO]; refine RunTo.fn y (by first | exact trivial | omega | (simp; done) | (simp; omega)) ?_; clear y Y))))
      refine Draw1.step (by rfl) (fun s9 h9 => OpS.frozen (n := 1) (wd := 3) (ty := 48) (rows := [[.v (.int .i64 x), .v (.int .i64 y), .v (.int .i64 z)]]) (OpS.eff [(49, _)] rfl (by rfl) ⟨rfl, trivial⟩ (by simp only [zb, seval, w17]; rfl) (by simp)) rfl (by simp [C.shut])) ?_
      simp only [putE]
      refine Draw1.eff 3 rfl rfl rfl (OpS.eff [(36, _), (50, _)] rfl (by rfl) ⟨rfl, rfl, trivial⟩ (by simp only [zb, seval, w17, hfs, hck1, hw2, j0, jO]; rfl) (by first | exact trivial | omega | (simp; done) | (simp; omega))) ?_; (try simp only [putE]); (try ((refine Draw1.go fun K7 hK7 => ?_); simp only [zb, seval, w17, hfs, hck1, hw2, j0, jO]; (refine RunQ.mk (by first | exact trivial | omega | (simp; done) | (simp; omega)) (hK7 _ _ (by rfl) ?_)); clear hK7 K7; (simp only [zz, Nat.reduceAdd, Nat.reduceSub]); (try ((refine Draw1.nil hle (hK8 _ ?_)); clear hK8 K8; (refine WpL.go _ rfl fun Y y => ?_); repeat (first | (apply fw; focus ((with_reducible constructor) <;> rfl)) | (apply WpA.cd; focus constructor) | ((first | with_reducible refine WpA.go _ rfl fun Y y => ?_ | apply RunTo.id); simp only [zb, seval, w17, hfs, hck1, hw2, j0, jO]; refine RunTo.fn y (by first | exact trivial | omega | (simp; done) | (simp; omega)) ?_; clear y Y))))))
      refine ⟨n - (k + 1), ⟨sdE n (k + 1), [some j0, some (rdO (tB lc) bc), some (jO (tB inp) lim fu (.ms 3 (k + 1))), some ⟨48, 3, fC fs ++ [[.v (.int .i64 x), .v (.int .i64 y), .v (.int .i64 z)]]⟩]⟩, by omega, ?_, k + 1, rfl, hlt, .inr ⟨by omega, ?_⟩⟩
      · obtain rfl : fs = [] := List.eq_nil_of_length_eq_zero (by omega); subst hk0; skip
        exact Le.sub (by simp [Sub, find, sdE])
      · rw [hcol, fC_snoc]
    · repeat (first | (apply fw; focus ((with_reducible constructor) <;> rfl)) | (apply WpA.cd; focus constructor) | ((first | with_reducible refine WpA.go _ rfl fun Y y => ?_ | apply RunTo.id); simp only [zb, seval, w17, txtA, sdE, hd3]; refine RunTo.fn y (by first | exact trivial | omega | (simp; done) | (simp; omega)) ?_; clear y Y))
      have hle : ∀ s ∈ [[some j0, some (rdO (tB l) b), some (jO (tB inp) lim fu (.ms 3 k)), some ⟨48, 3, fC fs⟩], [some j0, some (rdO (tB la) ba), some (jO (tB inp) lim fu (.ms 3 k)), some ⟨48, 3, fC fs⟩], [some j0, some (rdO (tB lb) bb), some (jO (tB inp) lim fu (.ms 3 k)), some ⟨48, 3, fC fs⟩], [some j0, some (rdO (tB lc) bc), some (jO (tB inp) lim fu (.ms 3 k)), some ⟨48, 3, fC fs⟩], [some j0, some (rdO (tB lc) bc), some (jO (tB inp) lim fu (.ms 3 k)), some ⟨48, 3, fC fs ++ [[.v (.int .i64 x), .v (.int .i64 y), .v (.int .i64 z)]]⟩]], LeS [some j0, some anyR, some (jO (tB inp) lim fu (.ms 3 k))] s := by
        simp only [List.mem_cons, List.not_mem_nil, or_false, forall_eq_or_imp, forall_eq]
        exact ⟨rd_le _ _ _ [_] [_], rd_le _ _ _ [_] [_], rd_le _ _ _ [_] [_], rd_le _ _ _ [_] [_], rd_le _ _ _ [_] [_]⟩
      skip
      skip
      (refine WpA.draw1 18 [5, 9, 13, 16] [some j0, some anyR, some (jO (tB inp) lim fu (.ms 3 k))] [[some j0, some (rdO (tB l) b), some (jO (tB inp) lim fu (.ms 3 k)), some ⟨48, 3, fC fs⟩], [some j0, some (rdO (tB la) ba), some (jO (tB inp) lim fu (.ms 3 k)), some ⟨48, 3, fC fs⟩], [some j0, some (rdO (tB lb) bb), some (jO (tB inp) lim fu (.ms 3 k)), some ⟨48, 3, fC fs⟩], [some j0, some (rdO (tB lc) bc), some (jO (tB inp) lim fu (.ms 3 k)), some ⟨48, 3, fC fs⟩], [some j0, some (rdO (tB lc) bc), some (jO (tB inp) lim fu (.ms 3 k)), some ⟨48, 3, fC fs ++ [[.v (.int .i64 x), .v (.int .i64 y), .v (.int .i64 z)]]⟩]] _ _ _ _ rfl rfl rfl (by kernel_rfl) (by kernel_rfl) (by kernel_rfl) (by kernel_rfl) rfl rfl rfl rfl (by decide) fun K8 hK8 => ?_)
      simp only [zz] at hK8 ⊢
      (refine Draw1.go fun K7 hK7 => ?_); simp only [zb, seval, w17, j0, anyR, jO]; (refine RunQ.mk (by first | exact trivial | omega | (simp; done) | (simp; omega)) (hK7 _ _ (by rfl) ?_)); clear hK7 K7; (simp only [zz, Nat.reduceAdd, Nat.reduceSub]); (try ((refine Draw1.nil hle (hK8 _ ?_)); clear hK8 K8; (refine WpL.go _ rfl fun Y y => ?_); repeat (first | (apply fw; focus ((with_reducible constructor) <;> rfl)) | (apply WpA.cd; focus constructor) | ((first | with_reducible refine WpA.go _ rfl fun Y y => ?_ | apply RunTo.id); simp only [zb, seval, w17, j0, anyR, jO]; refine RunTo.fn y (by first | exact trivial | omega | (simp; done) | (simp; omega)) ?_; clear y Y))))
      refine Draw1.eff 0 rfl rfl rfl (OpS.rd na rfl (by kernel_rfl) rfl) ?_
      simp only [putE]
      (refine Draw1.go fun K7 hK7 => ?_); simp only [zb, seval, w17, j0, anyR, jO]; (refine RunQ.mk (by first | exact trivial | omega | (simp; done) | (simp; omega)) (hK7 _ _ (by rfl) ?_)); clear hK7 K7; (simp only [zz, Nat.reduceAdd, Nat.reduceSub]); (try ((refine Draw1.nil hle (hK8 _ ?_)); clear hK8 K8; (refine WpL.go _ rfl fun Y y => ?_); repeat (first | (apply fw; focus ((with_reducible constructor) <;> rfl)) | (apply WpA.cd; focus constructor) | ((first | with_reducible refine WpA.go _ rfl fun Y y => ?_ | apply RunTo.id); simp only [zb, seval, w17, j0, anyR, jO]; refine RunTo.fn y (by first | exact trivial | omega | (simp; done) | (simp; omega)) ?_; clear y Y))))
      refine Draw1.eff 1 rfl rfl rfl (OpS.rd nb rfl (by kernel_rfl) rfl) ?_
      simp only [putE]
      (refine Draw1.go fun K7 hK7 => ?_); simp only [zb, seval, w17, j0, anyR, jO]; (refine RunQ.mk (by first | exact trivial | omega | (simp; done) | (simp; omega)) (hK7 _ _ (by rfl) ?_)); clear hK7 K7; (simp only [zz, Nat.reduceAdd, Nat.reduceSub]); (try ((refine Draw1.nil hle (hK8 _ ?_)); clear hK8 K8; (refine WpL.go _ rfl fun Y y => ?_); repeat (first | (apply fw; focus ((with_reducible constructor) <;> rfl)) | (apply WpA.cd; focus constructor) | ((first | with_reducible refine WpA.go _ rfl fun Y y => ?_ | apply RunTo.id); simp only [zb, seval, w17, j0, anyR, jO]; refine RunTo.fn y (by first | exact trivial | omega | (simp; done) | (simp; omega)) ?_; clear y Y))))
      refine Draw1.eff 2 rfl rfl rfl (OpS.rd nc rfl (by kernel_rfl) rfl) ?_
      simp only [putE]
      (refine Draw1.go fun K7 hK7 => ?_); simp only [zb, seval, w17, j0, anyR, jO]; (refine RunQ.mk (by first | exact trivial | omega | (simp; done) | (simp; omega)) (hK7 _ _ (by rfl) ?_)); clear hK7 K7; (simp only [zz, Nat.reduceAdd, Nat.reduceSub]); (try ((refine Draw1.nil hle (hK8 _ ?_)); clear hK8 K8; (refine WpL.go _ rfl fun Y y => ?_); repeat (first | (apply fw; focus ((with_reducible constructor) <;> rfl)) | (apply WpA.cd; focus constructor) | ((first | with_reducible refine WpA.go _ rfl fun Y y => ?_ | apply RunTo.id); simp only [zb, seval, w17, j0, anyR, jO]; refine RunTo.fn y (by first | exact trivial | omega | (simp; done) | (simp; omega)) ?_; clear y Y))))
      refine Draw1.step (by rfl) (fun s9 h9 => OpS.frozen (n := 1) (wd := 3) (ty := 48) (rows := [[.v (.int .i64 x), .v (.int .i64 y), .v (.int .i64 z)]]) (OpS.eff [(49, _)] rfl (by rfl) ⟨rfl, trivial⟩ (by simp only [zb, seval, w17]; rfl) (by simp)) rfl (by simp [C.shut])) ?_
      simp only [putE]
      refine Draw1.eff 3 rfl rfl rfl (OpS.eff [(36, _), (50, _)] rfl (by rfl) ⟨rfl, rfl, trivial⟩ (by simp only [zb, seval, w17, hfs, hck1, hw2, j0, jO]; rfl) (by first | exact trivial | omega | (simp; done) | (simp; omega))) ?_; (try simp only [putE]); (try ((refine Draw1.go fun K7 hK7 => ?_); simp only [zb, seval, w17, hfs, hck1, hw2, j0, jO]; (refine RunQ.mk (by first | exact trivial | omega | (simp; done) | (simp; omega)) (hK7 _ _ (by rfl) ?_)); clear hK7 K7; (simp only [zz, Nat.reduceAdd, Nat.reduceSub]); (try ((refine Draw1.nil hle (hK8 _ ?_)); clear hK8 K8; (refine WpL.go _ rfl fun Y y => ?_); repeat (first | (apply fw; focus ((with_reducible constructor) <;> rfl)) | (apply WpA.cd; focus constructor) | ((first | with_reducible refine WpA.go _ rfl fun Y y => ?_ | apply RunTo.id); simp only [zb, seval, w17, hfs, hck1, hw2, j0, jO]; refine RunTo.fn y (by first | exact trivial | omega | (simp; done) | (simp; omega)) ?_; clear y Y))))))
      refine ⟨n - (k + 1), ⟨sdE n (k + 1), [some j0, some (rdO (tB lc) bc), some (jO (tB inp) lim fu (.ms 3 (k + 1))), some ⟨48, 3, fC fs ++ [[.v (.int .i64 x), .v (.int .i64 y), .v (.int .i64 z)]]⟩]⟩, by omega, ?_, k + 1, rfl, hlt, .inr ⟨by omega, ?_⟩⟩
      · skip
        exact Le.sub (by simp [Sub, find, sdE])
      · rw [hcol, fC_snoc]
  have hd3 : decide ((k : Int) < (n : Int)) = false := decide_eq_false (by omega)
  obtain rfl : k = n := by omega
  have hck := colV_ok l4 b4 k
  have hW : decW lim fu inp (k, l4, b4) = if (txV (colV l4 b4 k).2.1 (colV l4 b4 k).2.2).2.2 = 1 ∨ (txV (colV l4 b4 k).2.1 (colV l4 b4 k).2.2).2.1 ≠ [] then (jobZ, 9)
    else (⟨tB (txV (colV l4 b4 k).2.1 (colV l4 b4 k).2.2).1, tB inp, lim, fu, (colV l4 b4 k).1⟩, 0) := by rw [decW, if_neg hn]
  rw [hW]
  clear hW
  generalize colV l4 b4 k = V at *
  obtain ⟨fs, l5, b5⟩ := V
  simp only at hck hI ⊢
  have hfs := fC_len fs
  have hst : Le ⟨73, 0⟩ st ⟨sdE k k, [some j0, some (rdO (tB l5) b5), some (jO (tB inp) lim fu (.sl 3 (fC fs)))]⟩ := by
    rcases hI with ⟨hk0, rfl⟩ | ⟨hk0, rfl⟩
    · obtain rfl : fs = [] := List.eq_nil_of_length_eq_zero (by omega)
      exact Le.freeze (fun _ => false) (Frz.ofL ⟨rfl, rfl, rfl, FzR.same _ _ _, rfl, rfl, rfl, FzR.same _ _ _, rfl, rfl, rfl, ⟨⟨.inl rfl, .inl rfl, .inl rfl, .inl rfl, FzC.nil, trivial⟩, trivial⟩, trivial⟩) ⟨⟨_, rfl, .inl rfl⟩, ⟨_, rfl, .inl rfl⟩, ⟨_, rfl, .inl rfl⟩, ⟨_, rfl, .inl rfl⟩, ⟨_, rfl, .inl rfl⟩, ⟨_, rfl, .inl rfl⟩, trivial⟩
    · refine Le.trans (Le.freeze (S' := [some j0, some (rdO (tB l5) b5), some (jO (tB inp) lim fu (.sl 3 (fC fs))), none]) (e' := sdE k k) (fun i => i == 3) (Frz.ofL ⟨rfl, rfl, rfl, FzR.same _ _ _, rfl, rfl, rfl, FzR.same _ _ _, rfl, rfl, rfl, ⟨⟨.inl rfl, .inl rfl, .inl rfl, .inl rfl, FzC.ms (ty := 48) rfl rfl (by omega), trivial⟩, trivial⟩, fun _ ob h => by cases h; exact fC_shut fs, trivial⟩) ⟨⟨_, rfl, .inl rfl⟩, ⟨_, rfl, .inl rfl⟩, ⟨_, rfl, .inl rfl⟩, ⟨_, rfl, .inl rfl⟩, ⟨_, rfl, .inl rfl⟩, ⟨_, rfl, .inl rfl⟩, trivial⟩) ?_
      exact Le.drop 3 (Nat.zero_le _) rfl (by simp [Sub, find, sdE]) (by simp [envBd, sdE, A.bd, C.bd]) (by simp [ObBd, j0, rdO, jO, C.bd])
  refine WpA.le hst ?_
  have n6 := stext_fn l5 b5 (by omega)
  generalize txV l5 b5 = V6 at *
  obtain ⟨src, l6, b6⟩ := V6
  simp only at n6 ⊢
  have hz6 := tB_size l6
  repeat (first | (apply fw; focus ((with_reducible constructor) <;> rfl)) | (apply WpA.cd; focus constructor) | ((first | with_reducible refine WpA.go _ rfl fun Y y => ?_ | apply RunTo.id); simp only [zb, seval, w17, txtA, sdE, hd3]; refine RunTo.fn y (by first | exact trivial | omega | (simp; done) | (simp; omega)) ?_; clear y Y))
  refine WpL.rd n6 rfl rfl (by kernel_rfl) ?_
  by_cases hb6 : b6 = 1
  · have hb1 : (b6 == 1) = true := by simp [hb6]
    rw [if_pos (.inl hb6)]
    (refine WpL.go _ rfl fun Y y => ?_); repeat (first | (apply fw; focus ((with_reducible constructor) <;> rfl)) | (apply WpA.cd; focus constructor) | ((first | with_reducible refine WpA.go _ rfl fun Y y => ?_ | apply RunTo.id); simp only [zb, seval, w17, txtA, rdO, j0, jO, hb1]; refine RunTo.fn y (by first | exact trivial | omega | (simp; done) | (simp; omega)) ?_; clear y Y))
    refine ⟨by simp, _, _, _, _, (by simp only [zb, seval, w17]; rfl), (by simp), (by simp only [zv]; rfl), (by simp), _, (hZ 9), rfl⟩
  have hb1 : (b6 == 1) = false := by simp [hb6]
  by_cases hl6 : l6 = []
  · have hne : (!((tB l6).toList == (⟨#[]⟩ : ByteArray).toList)) = false := by rw [strDec, decide_eq_true ((size_nil _).2 (by rw [hz6, hl6]; rfl))]; rfl
    rw [if_neg (by simp [hb6, hl6])]
    (refine WpL.go _ rfl fun Y y => ?_); repeat (first | (apply fw; focus ((with_reducible constructor) <;> rfl)) | (apply WpA.cd; focus constructor) | ((first | with_reducible refine WpA.go _ rfl fun Y y => ?_ | apply RunTo.id); simp only [zb, seval, w17, txtA, rdO, j0, jO, hb1, hne]; refine RunTo.fn y (by first | exact trivial | omega | (simp; done) | (simp; omega)) ?_; clear y Y))
    refine ⟨by simp, _, _, _, _, (by simp only [zb, seval, w17]; rfl), (by simp), (by simp only [zv]; rfl), (by simp), _, ALe.refl _, ?_⟩
    rfl
  · have hne : (!((tB l6).toList == (⟨#[]⟩ : ByteArray).toList)) = true := by
      rw [strDec, decide_eq_false (fun h => ?_)]; rfl
      have := (size_nil _).1 h
      rw [hz6] at this
      exact hl6 (List.eq_nil_of_length_eq_zero this)
    rw [if_pos (.inr hl6)]
    (refine WpL.go _ rfl fun Y y => ?_); repeat (first | (apply fw; focus ((with_reducible constructor) <;> rfl)) | (apply WpA.cd; focus constructor) | ((first | with_reducible refine WpA.go _ rfl fun Y y => ?_ | apply RunTo.id); simp only [zb, seval, w17, txtA, rdO, j0, jO, hb1, hne]; refine RunTo.fn y (by first | exact trivial | omega | (simp; done) | (simp; omega)) ?_; clear y Y))
    refine ⟨by simp, _, _, _, _, (by simp only [zb, seval, w17]; rfl), (by simp), (by simp only [zv]; rfl), (by simp), _, (hZ 9), rfl⟩
theorem numV_bad (l : List UInt8) : numV l 1 = (0, l, 1) := rfl
theorem numV_none {l : List UInt8} (h : getL l = none) : numV l 0 = (0, l, 1) := by rw [numV, if_pos rfl, h]
theorem numV_some {l r : List UInt8} {n : Int} (h : getL l = some (n, r)) : numV l 0 = (n, r, 0) := by rw [numV, if_pos rfl, h]
theorem amV_bad (l : List UInt8) : amV l 1 = (0, l, 1) := by rw [amV, numV_bad, if_neg (by simp)]; rfl
theorem amV_none {l : List UInt8} (h : getL l = none) : amV l 0 = (0, l, 1) := by rw [amV, numV_none h, if_neg (by simp)]; rfl
theorem amV_out {l r : List UInt8} {n : Int} (h : getL l = some (n, r)) (ho : n < 0 ∨ (r.length : Int) < n) : amV l 0 = (0, r, 1) := by rw [amV, numV_some h, if_pos ho]
theorem amV_in {l r : List UInt8} {n : Int} (h : getL l = some (n, r)) (ho : ¬(n < 0 ∨ (r.length : Int) < n)) : amV l 0 = (n.toNat, r, 0) := by rw [amV, numV_some h, if_neg ho]
theorem txV_bad (l : List UInt8) : (txV l 1).2.2 = 1 := by rw [txV, amV_bad]
theorem txV_of {l r : List UInt8} {b : Int} {n : Nat} (h : amV l b = (n, r, b)) : txV l b = (r.take n, r.drop n, b) := by rw [txV, h]
theorem oneV_bad (l : List UInt8) : (oneV l 1).2 = (l, 1) := rfl
theorem colV_bad {l : List UInt8} {b : Int} {k : Nat} (h : (colV l b k).2.2 = 1) : ∀ j, (colV l b (k + j)).2.2 = 1
  | 0 => h
  | j + 1 => by
    have := colV_bad h j
    show (oneV (colV l b (k + j)).2.1 (colV l b (k + j)).2.2).2.2 = 1
    rw [this]; rfl
theorem decW_bad {lim fu : Int} {inp : List UInt8} {p : Nat × List UInt8 × Int} (h1 : p.1 ≤ 1000) (h : (colV p.2.1 p.2.2 p.1).2.2 = 1) : decW lim fu inp p = (jobZ, 9) := by
  rw [decW, if_neg (by omega), if_pos (.inl (by rw [h]; exact txV_bad _))]
theorem decW_bad0 {lim fu : Int} {inp l : List UInt8} : decW lim fu inp (0, l, 1) = (jobZ, 9) := decW_bad (Nat.zero_le _) rfl
theorem decV_1 {l : List UInt8} (h : ¬65536 < l.length) (h1 : getL l = none) : decV l = (jobZ, 9) := by
  rw [decV, if_neg h, numV_none h1]
  simp only [numV_bad]
  rw [show (amV (txV l 1).2.1 (txV l 1).2.2) = (0, (txV l 1).2.1, 1) by rw [txV_bad]; exact amV_bad _]
  exact decW_bad0
theorem decV_2 {l l1 : List UInt8} {lim : Int} (h : ¬65536 < l.length) (h1 : getL l = some (lim, l1)) (h2 : getL l1 = none) : decV l = (jobZ, 9) := by
  rw [decV, if_neg h, numV_some h1]
  simp only [numV_none h2]
  rw [show (amV (txV l1 1).2.1 (txV l1 1).2.2) = (0, (txV l1 1).2.1, 1) by rw [txV_bad]; exact amV_bad _]
  exact decW_bad0
theorem decV_3 {l l1 l2 : List UInt8} {lim fu : Int} (h : ¬65536 < l.length) (h1 : getL l = some (lim, l1)) (h2 : getL l1 = some (fu, l2)) : decV l = decW lim fu (txV l2 0).1 (amV (txV l2 0).2.1 (txV l2 0).2.2) := by
  rw [decV, if_neg h, numV_some h1]
  simp only [numV_some h2]
theorem decW_tx {l2 : List UInt8} {lim fu : Int} (h : (txV l2 0).2.2 = 1) : decW lim fu (txV l2 0).1 (amV (txV l2 0).2.1 (txV l2 0).2.2) = (jobZ, 9) := by
  rw [h, amV_bad]; exact decW_bad0
def jA : Ob := ⟨24, 5, [[.any, .any, .any, .any, .any]]⟩
theorem jA_le (o0 : Ob) (inp : ByteArray) (lim fu : Int) (fc : C) : LeS [some o0, some jA] [some o0, some (jO inp lim fu fc)] :=
  LeS.any (j := 1) (a := jA) (b := jO inp lim fu fc) (SLe.refl _) rfl rfl rfl ⟨⟨FzC.any, FzC.any, FzC.any, FzC.any, FzC.any, trivial⟩, trivial⟩
def rdE (m k : Nat) (l : List UInt8) : List (Nat × A) := [(7, .one (.v (.int .i64 k))), (6, .one (.v (.int .i64 m))), (5, .one (.v (.bool true))), (0, .one (.v (.string (tB l)))), (4, .one (.ptr 1 1 0 0)), (3, .one (.v (.int .i64 0))), (2, .one (.ptr 0 1 0 0))]
def RdI (lim fu : Int) (inp : ByteArray) (m : Nat) (l : List UInt8) (N : Nat) (st : St) : Prop := ∃ (k : Nat) (fs : List Co) (l' : List UInt8), N = m - k ∧ k ≤ m ∧ colV l 0 k = (fs, l', 0) ∧
  ((k = 0 ∧ st = ⟨rdE m k l', [some j0, some (jO inp lim fu (.v (.slice none 0 0)))]⟩) ∨
   (0 < k ∧ st = ⟨rdE m k l', [some j0, some (jO inp lim fu (.ms 2 k)), some ⟨48, 3, fC fs⟩]⟩))
theorem fC_ren (g : Nat → Nat) (fs : List Co) : (fC fs).map (C.rens g) = fC fs := by simp [fC, C.rens, C.ren]
theorem rdecode_pure (l : List UInt8) (hl : l.length ≤ 70000) : Pure Tryd.prog 18 [.one (.v (.string (tB l)))] (.tup [.agg (decV l).1.cs, .one (.v (.int .i64 (decV l).2))]) := by
  have hsz := tB_size l
  have hZ : ∀ e : Int, ALe (.tup [.agg [.v (.string ⟨#[]⟩), .v (.string ⟨#[]⟩), .v (.int .i64 0), .v (.int .i64 0), .v (.slice none 0 0)], .one (.v (.int .i64 e))]) (.tup [.agg jobZ.cs, .one (.v (.int .i64 e))]) := fun e => ALe.tup (ALes.cons (ALe.agg (by simp only [Jb.cs, jobZ, fC, List.map_nil]; repeat (first | exact CLes.refl _ | refine CLes.nil ?_ | refine CLes.cons ?_))) (ALes.refl _))
  refine Fn.intro Tryd.func18 rfl Tryd.ntmps18 Tryd.results18 (by simp only [List.length_cons, List.length_nil]; decide) ?_
  by_cases hbig : 65536 < l.length
  · have hd : decide ((65536 : Int) < (l.length : Int)) = true := by simp; omega
    have hV : decV l = (jobZ, 12) := by rw [decV, if_pos hbig]
    rw [hV]
    repeat (first | (apply fw; focus ((with_reducible constructor) <;> rfl)) | (apply WpA.cd; focus constructor) | ((first | with_reducible refine WpA.go _ rfl fun Y y => ?_ | apply RunTo.id); simp only [zb, seval, w18, txtA, hsz, hd]; refine RunTo.fn y (by first | exact trivial | omega | (simp; done) | (simp; omega)) ?_; clear y Y))
    refine ⟨by simp, _, _, _, _, (by simp only [zb, seval, w18]; rfl), (by simp), (by simp only [zv]; rfl), (by simp), _, (hZ 12), rfl⟩
  have hd : decide ((65536 : Int) < (l.length : Int)) = false := by simp; omega
  repeat (first | (apply fw; focus ((with_reducible constructor) <;> rfl)) | (apply WpA.cd; focus constructor) | ((first | with_reducible refine WpA.go _ rfl fun Y y => ?_ | apply RunTo.id); simp only [zb, seval, w18, txtA, hsz, hd]; refine RunTo.fn y (by first | exact trivial | omega | (simp; done) | (simp; omega)) ?_; clear y Y))
  have g1 := get_pure l (by omega)
  cases hg1 : getL l with
  | none =>
    rw [hg1] at g1
    simp only [getT] at g1
    rw [decV_1 hbig hg1]
    refine WpL.call rfl (guardA_sound (P := Tryd.prog) rfl) (CallA.shut rfl rfl (by kernel_rfl) (ALes.refl _) (by first | rfl | simp [shuts, A.shut, C.shut]) (g1) ?_)
    (refine WpL.go _ rfl fun Y y => ?_); repeat (first | (apply fw; focus ((with_reducible constructor) <;> rfl)) | (apply WpA.cd; focus constructor) | ((first | with_reducible refine WpA.go _ rfl fun Y y => ?_ | apply RunTo.id); simp only [zb, seval, w18, txtA]; refine RunTo.fn y (by first | exact trivial | omega | (simp; done) | (simp; omega)) ?_; clear y Y))
    refine ⟨by simp, _, _, _, _, (by simp only [zb, seval, w18]; rfl), (by simp), (by simp only [zv]; rfl), (by simp), _, (hZ 9), rfl⟩
  | some p =>
  obtain ⟨lim, l1⟩ := p
  rw [hg1] at g1
  simp only [getT] at g1
  have k1 := getL_ok hg1
  refine WpL.call rfl (guardA_sound (P := Tryd.prog) rfl) (CallA.shut rfl rfl (by kernel_rfl) (ALes.refl _) (by first | rfl | simp [shuts, A.shut, C.shut]) (g1) ?_)
  (refine WpL.go _ rfl fun Y y => ?_); repeat (first | (apply fw; focus ((with_reducible constructor) <;> rfl)) | (apply WpA.cd; focus constructor) | ((first | with_reducible refine WpA.go _ rfl fun Y y => ?_ | apply RunTo.id); simp only [zb, seval, w18, txtA]; refine RunTo.fn y (by first | exact trivial | omega | (simp; done) | (simp; omega)) ?_; clear y Y))
  have g2 := get_pure l1 (by omega)
  cases hg2 : getL l1 with
  | none =>
    rw [hg2] at g2
    simp only [getT] at g2
    rw [decV_2 hbig hg1 hg2]
    refine WpL.call rfl (guardA_sound (P := Tryd.prog) rfl) (CallA.shut rfl rfl (by kernel_rfl) (ALes.refl _) (by first | rfl | simp [shuts, A.shut, C.shut]) (g2) ?_)
    (refine WpL.go _ rfl fun Y y => ?_); repeat (first | (apply fw; focus ((with_reducible constructor) <;> rfl)) | (apply WpA.cd; focus constructor) | ((first | with_reducible refine WpA.go _ rfl fun Y y => ?_ | apply RunTo.id); simp only [zb, seval, w18, txtA]; refine RunTo.fn y (by first | exact trivial | omega | (simp; done) | (simp; omega)) ?_; clear y Y))
    refine ⟨by simp, _, _, _, _, (by simp only [zb, seval, w18]; rfl), (by simp), (by simp only [zv]; rfl), (by simp), _, (hZ 9), rfl⟩
  | some p =>
  obtain ⟨fu, l2⟩ := p
  rw [hg2] at g2
  simp only [getT] at g2
  have k2 := getL_ok hg2
  rw [decV_3 hbig hg1 hg2]
  clear hg1 hg2
  refine WpL.call rfl (guardA_sound (P := Tryd.prog) rfl) (CallA.shut rfl rfl (by kernel_rfl) (ALes.refl _) (by first | rfl | simp [shuts, A.shut, C.shut]) (g2) ?_)
  (refine WpL.go _ rfl fun Y y => ?_); repeat (first | (apply fw; focus ((with_reducible constructor) <;> rfl)) | (apply WpA.cd; focus constructor) | ((first | with_reducible refine WpA.go _ rfl fun Y y => ?_ | apply RunTo.id); simp only [zb, seval, w18, txtA]; refine RunTo.fn y (by first | exact trivial | omega | (simp; done) | (simp; omega)) ?_; clear y Y))
  have g3 := get_pure l2 (by omega)
  cases hg3 : getL l2 with
  | none =>
    rw [hg3] at g3
    simp only [getT] at g3
    rw [decW_tx (by rw [txV, amV_none hg3])]
    refine WpL.call rfl (guardA_sound (P := Tryd.prog) rfl) (CallA.shut rfl rfl (by kernel_rfl) (ALes.refl _) (by first | rfl | simp [shuts, A.shut, C.shut]) (g3) ?_)
    (refine WpL.go _ rfl fun Y y => ?_); repeat (first | (apply fw; focus ((with_reducible constructor) <;> rfl)) | (apply WpA.cd; focus constructor) | ((first | with_reducible refine WpA.go _ rfl fun Y y => ?_ | apply RunTo.id); simp only [zb, seval, w18, txtA]; refine RunTo.fn y (by first | exact trivial | omega | (simp; done) | (simp; omega)) ?_; clear y Y))
    refine ⟨by simp, _, _, _, _, (by simp only [zb, seval, w18]; rfl), (by simp), (by simp only [zv]; rfl), (by simp), _, (hZ 9), rfl⟩
  | some p =>
  obtain ⟨n, l3⟩ := p
  rw [hg3] at g3
  simp only [getT] at g3
  have k3 := getL_ok hg3
  have z3 := tB_size l3
  refine WpL.call rfl (guardA_sound (P := Tryd.prog) rfl) (CallA.shut rfl rfl (by kernel_rfl) (ALes.refl _) (by first | rfl | simp [shuts, A.shut, C.shut]) (g3) ?_)
  by_cases hn0 : n < 0
  · have hd1 : decide (n < 0) = true := decide_eq_true hn0
    rw [decW_tx (by rw [txV, amV_out hg3 (.inl hn0)])]
    (refine WpL.go _ rfl fun Y y => ?_); repeat (first | (apply fw; focus ((with_reducible constructor) <;> rfl)) | (apply WpA.cd; focus constructor) | ((first | with_reducible refine WpA.go _ rfl fun Y y => ?_ | apply RunTo.id); simp only [zb, seval, w18, txtA, hd1]; refine RunTo.fn y (by first | exact trivial | omega | (simp; done) | (simp; omega)) ?_; clear y Y))
    refine ⟨by simp, _, _, _, _, (by simp only [zb, seval, w18]; rfl), (by simp), (by simp only [zv]; rfl), (by simp), _, (hZ 9), rfl⟩
  have hd1 : decide (n < 0) = false := decide_eq_false hn0
  by_cases hn1 : (l3.length : Int) < n
  · have hd2 : decide ((l3.length : Int) < n) = true := decide_eq_true hn1
    rw [decW_tx (by rw [txV, amV_out hg3 (.inr hn1)])]
    (refine WpL.go _ rfl fun Y y => ?_); repeat (first | (apply fw; focus ((with_reducible constructor) <;> rfl)) | (apply WpA.cd; focus constructor) | ((first | with_reducible refine WpA.go _ rfl fun Y y => ?_ | apply RunTo.id); simp only [zb, seval, w18, txtA, hd1, hd2, z3]; refine RunTo.fn y (by first | exact trivial | omega | (simp; done) | (simp; omega)) ?_; clear y Y))
    refine ⟨by simp, _, _, _, _, (by simp only [zb, seval, w18]; rfl), (by simp), (by simp only [zv]; rfl), (by simp), _, (hZ 9), rfl⟩
  have hd2 : decide ((l3.length : Int) < n) = false := decide_eq_false hn1
  obtain ⟨n, rfl⟩ : ∃ k : Nat, n = (k : Int) := ⟨n.toNat, by omega⟩
  have hnl : n ≤ l3.length := by omega
  have htx : txV l2 0 = (l3.take n, l3.drop n, 0) := txV_of (amV_in hg3 (by omega))
  rw [htx]
  clear htx hg3
  (refine WpL.go _ rfl fun Y y => ?_); repeat (first | (apply fw; focus ((with_reducible constructor) <;> rfl)) | (apply WpA.cd; focus constructor) | ((first | with_reducible refine WpA.go _ rfl fun Y y => ?_ | apply RunTo.id); simp only [zb, seval, w18, txtA, hd1, hd2, z3]; refine RunTo.fn y (by first | exact trivial | omega | (simp; done) | (simp; omega)) ?_; clear y Y))
  refine WpA.le (Le.sub (e' := [(6, .one (.v (.int .i64 n))), (5, .one (.v (.bool true))), (0, .one (.v (.string (tB l3)))), (4, .one (.ptr 1 1 0 0)), (3, .one (.v (.int .i64 0))), (2, .one (.ptr 0 1 0 0))]) (by simp [Sub, find])) ?_
  have htake := tB_take l3 n
  have hdrop := tB_drop l3 n
  have k4 : (l3.drop n).length ≤ l3.length := by simp only [List.length_drop]; omega
  generalize l3.take n = inp at *
  generalize l3.drop n = l4 at *
  have hle : ∀ s ∈ [[some j0, some (jO ⟨#[]⟩ lim fu (.v (.slice none 0 0)))], [some j0, some (jO (tB inp) lim fu (.v (.slice none 0 0)))]], LeS [some j0, some jA] s := by
    simp only [List.mem_cons, List.not_mem_nil, or_false, forall_eq_or_imp, forall_eq]
    exact ⟨jA_le _ _ _ _ _, jA_le _ _ _ _ _⟩
  skip
  skip
  (refine WpA.draw1 8 [7] [some j0, some jA] [[some j0, some (jO ⟨#[]⟩ lim fu (.v (.slice none 0 0)))], [some j0, some (jO (tB inp) lim fu (.v (.slice none 0 0)))]] _ _ _ _ rfl rfl rfl (by kernel_rfl) (by kernel_rfl) (by kernel_rfl) (by kernel_rfl) rfl rfl rfl rfl (by decide) fun K8 hK8 => ?_)
  simp only [zz] at hK8 ⊢
  (refine Draw1.go fun K7 hK7 => ?_); simp only [zb, seval, w18, txtA, z3, htake, hdrop, hnl, j0, jA]; (refine RunQ.mk (by first | exact trivial | omega | (simp; done) | (simp; omega)) (hK7 _ _ (by rfl) ?_)); clear hK7 K7; (simp only [zz, Nat.reduceAdd, Nat.reduceSub]); (try ((refine Draw1.nil hle (hK8 _ ?_)); clear hK8 K8; (refine WpL.go _ rfl fun Y y => ?_); repeat (first | (apply fw; focus ((with_reducible constructor) <;> rfl)) | (apply WpA.cd; focus constructor) | ((first | with_reducible refine WpA.go _ rfl fun Y y => ?_ | apply RunTo.id); simp only [zb, seval, w18, txtA, z3, htake, hdrop, hnl, j0, jA]; refine RunTo.fn y (by first | exact trivial | omega | (simp; done) | (simp; omega)) ?_; clear y Y))))
  refine Draw1.eff 0 rfl rfl rfl (OpS.eff [(60, _), (56, _)] rfl (by rfl) ⟨rfl, rfl, trivial⟩ (by simp only [zb, seval, w18, txtA, z3, htake, hdrop, hnl, j0, jO]; rfl) (by first | exact trivial | omega | (simp; done) | (simp; omega))) ?_; (try simp only [putE]); (try ((refine Draw1.go fun K7 hK7 => ?_); simp only [zb, seval, w18, txtA, z3, htake, hdrop, hnl, j0, jO]; (refine RunQ.mk (by first | exact trivial | omega | (simp; done) | (simp; omega)) (hK7 _ _ (by rfl) ?_)); clear hK7 K7; (simp only [zz, Nat.reduceAdd, Nat.reduceSub]); (try ((refine Draw1.nil hle (hK8 _ ?_)); clear hK8 K8; (refine WpL.go _ rfl fun Y y => ?_); repeat (first | (apply fw; focus ((with_reducible constructor) <;> rfl)) | (apply WpA.cd; focus constructor) | ((first | with_reducible refine WpA.go _ rfl fun Y y => ?_ | apply RunTo.id); simp only [zb, seval, w18, txtA, z3, htake, hdrop, hnl, j0, jO]; refine RunTo.fn y (by first | exact trivial | omega | (simp; done) | (simp; omega)) ?_; clear y Y))))))
  have g4 := get_pure l4 (by omega)
  cases hg4 : getL l4 with
  | none =>
    rw [hg4] at g4
    simp only [getT] at g4
    rw [amV_none hg4, decW_bad0]
    refine WpL.call rfl (guardA_sound (P := Tryd.prog) rfl) (CallA.shut rfl rfl (by kernel_rfl) (ALes.refl _) (by first | rfl | simp [shuts, A.shut, C.shut]) (g4) ?_)
    (refine WpL.go _ rfl fun Y y => ?_); repeat (first | (apply fw; focus ((with_reducible constructor) <;> rfl)) | (apply WpA.cd; focus constructor) | ((first | with_reducible refine WpA.go _ rfl fun Y y => ?_ | apply RunTo.id); simp only [zb, seval, w18, txtA]; refine RunTo.fn y (by first | exact trivial | omega | (simp; done) | (simp; omega)) ?_; clear y Y))
    refine ⟨by simp, _, _, _, _, (by simp only [zb, seval, w18]; rfl), (by simp), (by simp only [zv]; rfl), (by simp), _, (hZ 9), rfl⟩
  | some p =>
  obtain ⟨m, l5⟩ := p
  rw [hg4] at g4
  simp only [getT] at g4
  have k5 := getL_ok hg4
  have z5 := tB_size l5
  refine WpL.call rfl (guardA_sound (P := Tryd.prog) rfl) (CallA.shut rfl rfl (by kernel_rfl) (ALes.refl _) (by first | rfl | simp [shuts, A.shut, C.shut]) (g4) ?_)
  by_cases hm0 : m < 0
  · have hd1 : decide (m < 0) = true := decide_eq_true hm0
    rw [amV_out hg4 (.inl hm0), decW_bad0]
    (refine WpL.go _ rfl fun Y y => ?_); repeat (first | (apply fw; focus ((with_reducible constructor) <;> rfl)) | (apply WpA.cd; focus constructor) | ((first | with_reducible refine WpA.go _ rfl fun Y y => ?_ | apply RunTo.id); simp only [zb, seval, w18, txtA, hd1]; refine RunTo.fn y (by first | exact trivial | omega | (simp; done) | (simp; omega)) ?_; clear y Y))
    refine ⟨by simp, _, _, _, _, (by simp only [zb, seval, w18]; rfl), (by simp), (by simp only [zv]; rfl), (by simp), _, (hZ 9), rfl⟩
  have hd1 : decide (m < 0) = false := decide_eq_false hm0
  by_cases hm1 : (l5.length : Int) < m
  · have hd2 : decide ((l5.length : Int) < m) = true := decide_eq_true hm1
    rw [amV_out hg4 (.inr hm1), decW_bad0]
    (refine WpL.go _ rfl fun Y y => ?_); repeat (first | (apply fw; focus ((with_reducible constructor) <;> rfl)) | (apply WpA.cd; focus constructor) | ((first | with_reducible refine WpA.go _ rfl fun Y y => ?_ | apply RunTo.id); simp only [zb, seval, w18, txtA, hd1, hd2, z5]; refine RunTo.fn y (by first | exact trivial | omega | (simp; done) | (simp; omega)) ?_; clear y Y))
    refine ⟨by simp, _, _, _, _, (by simp only [zb, seval, w18]; rfl), (by simp), (by simp only [zv]; rfl), (by simp), _, (hZ 9), rfl⟩
  have hd2 : decide ((l5.length : Int) < m) = false := decide_eq_false hm1
  obtain ⟨m, rfl⟩ : ∃ k : Nat, m = (k : Int) := ⟨m.toNat, by omega⟩
  rw [amV_in hg4 (by omega), Int.toNat_natCast]
  clear hg4
  by_cases hm : 1000 < m
  · have hdn : decide ((1000 : Int) < (m : Int)) = true := decide_eq_true (by omega)
    rw [decW, if_pos hm]
    (refine WpL.go _ rfl fun Y y => ?_); repeat (first | (apply fw; focus ((with_reducible constructor) <;> rfl)) | (apply WpA.cd; focus constructor) | ((first | with_reducible refine WpA.go _ rfl fun Y y => ?_ | apply RunTo.id); simp only [zb, seval, w18, txtA, hd1, hd2, z5, hdn]; refine RunTo.fn y (by first | exact trivial | omega | (simp; done) | (simp; omega)) ?_; clear y Y))
    refine ⟨by simp, _, _, _, _, (by simp only [zb, seval, w18]; rfl), (by simp), (by simp only [zv]; rfl), (by simp), _, (hZ 12), rfl⟩
  have hdn : decide ((1000 : Int) < (m : Int)) = false := decide_eq_false (by omega)
  (refine WpL.go _ rfl fun Y y => ?_); repeat (first | (apply fw; focus ((with_reducible constructor) <;> rfl)) | (apply WpA.cd; focus constructor) | ((first | with_reducible refine WpA.go _ rfl fun Y y => ?_ | apply RunTo.id); simp only [zb, seval, w18, txtA, hd1, hd2, z5, hdn]; refine RunTo.fn y (by first | exact trivial | omega | (simp; done) | (simp; omega)) ?_; clear y Y))
  have g0 : Pure Tryd.prog 31 [.one (.v (.string ⟨#[]⟩))] (.tup [.one (.v (.int .i64 0)), .one (.v (.string ⟨#[]⟩)), .one (.v (.bool false))]) := get_pure [] (by simp)
  refine WpA.loop (RdI lim fu (tB inp) m l5) m ?_ ⟨0, [], l5, rfl, Nat.zero_le _, rfl, .inl ⟨rfl, rfl⟩⟩ ?_
  · exact Le.sub (by simp [Sub, find, rdE])
  intro n' st hI
  obtain ⟨k, fs, l', rfl, hk, hcv, hI⟩ := hI
  have hw2 : IntKind.i64.wrap ((k : Int) + 1) = ((k + 1 : Nat) : Int) := by rw [wrap64 (by omega) (by omega)]; omega
  have hck := colV_ok l5 0 k
  rw [hcv] at hck
  simp only at hck
  have hck1 := hck.1
  have hfs := fC_len fs
  by_cases hlt : k < m
  · have hd3 : decide ((k : Int) < (m : Int)) = true := decide_eq_true (by omega)
    have hcol : colV l5 0 (k + 1) = (fs ++ [(oneV l' 0).1], (oneV l' 0).2) := by rw [colV, hcv]
    have hbad : (oneV l' 0).2.2 = 1 → decW lim fu inp (m, l5, 0) = (jobZ, 9) := fun h => by
      refine decW_bad (by show m ≤ 1000; omega) ?_
      have := colV_bad (l := l5) (b := 0) (k := k + 1) (by rw [hcol]; exact h) (m - (k + 1))
      rwa [show k + 1 + (m - (k + 1)) = m by omega] at this
    have g1 := get_pure l' (by omega)
    cases hg1 : getL l' with
    | none =>
      rw [hg1] at g1
      simp only [getT] at g1
      rw [hbad (by simp only [oneV, numV_none hg1, numV_bad])]
      rcases hI with ⟨hk0, rfl⟩ | ⟨hk0, rfl⟩
      · repeat (first | (apply fw; focus ((with_reducible constructor) <;> rfl)) | (apply WpA.cd; focus constructor) | ((first | with_reducible refine WpA.go _ rfl fun Y y => ?_ | apply RunTo.id); simp only [zb, seval, w18, txtA, rdE, hd3, j0, jO]; refine RunTo.fn y (by first | exact trivial | omega | (simp; done) | (simp; omega)) ?_; clear y Y))
        refine WpL.call rfl (guardA_sound (P := Tryd.prog) rfl) (CallA.shut rfl rfl (by kernel_rfl) (ALes.refl _) (by first | rfl | simp [shuts, A.shut, C.shut]) (g1) ?_)
        (refine WpL.go _ rfl fun Y y => ?_); repeat (first | (apply fw; focus ((with_reducible constructor) <;> rfl)) | (apply WpA.cd; focus constructor) | ((first | with_reducible refine WpA.go _ rfl fun Y y => ?_ | apply RunTo.id); simp only [zb, seval, w18, txtA]; refine RunTo.fn y (by first | exact trivial | omega | (simp; done) | (simp; omega)) ?_; clear y Y))
        refine WpL.call rfl (guardA_sound (P := Tryd.prog) rfl) (CallA.shut rfl rfl (by kernel_rfl) (ALes.refl _) (by first | rfl | simp [shuts, A.shut, C.shut]) (g0) ?_)
        (refine WpL.go _ rfl fun Y y => ?_); repeat (first | (apply fw; focus ((with_reducible constructor) <;> rfl)) | (apply WpA.cd; focus constructor) | ((first | with_reducible refine WpA.go _ rfl fun Y y => ?_ | apply RunTo.id); simp only [zb, seval, w18, txtA]; refine RunTo.fn y (by first | exact trivial | omega | (simp; done) | (simp; omega)) ?_; clear y Y))
        refine WpL.call rfl (guardA_sound (P := Tryd.prog) rfl) (CallA.shut rfl rfl (by kernel_rfl) (ALes.refl _) (by first | rfl | simp [shuts, A.shut, C.shut]) (g0) ?_)
        (refine WpL.go _ rfl fun Y y => ?_); repeat (first | (apply fw; focus ((with_reducible constructor) <;> rfl)) | (apply WpA.cd; focus constructor) | ((first | with_reducible refine WpA.go _ rfl fun Y y => ?_ | apply RunTo.id); simp only [zb, seval, w18, txtA]; refine RunTo.fn y (by first | exact trivial | omega | (simp; done) | (simp; omega)) ?_; clear y Y))
        refine ⟨by simp, _, _, _, _, (by simp only [zb, seval, w18]; rfl), (by simp), (by simp only [zv]; rfl), (by simp), _, (hZ 9), rfl⟩
      · repeat (first | (apply fw; focus ((with_reducible constructor) <;> rfl)) | (apply WpA.cd; focus constructor) | ((first | with_reducible refine WpA.go _ rfl fun Y y => ?_ | apply RunTo.id); simp only [zb, seval, w18, txtA, rdE, hd3, j0, jO]; refine RunTo.fn y (by first | exact trivial | omega | (simp; done) | (simp; omega)) ?_; clear y Y))
        refine WpL.call rfl (guardA_sound (P := Tryd.prog) rfl) (CallA.shut rfl rfl (by kernel_rfl) (ALes.refl _) (by first | rfl | simp [shuts, A.shut, C.shut]) (g1) ?_)
        (refine WpL.go _ rfl fun Y y => ?_); repeat (first | (apply fw; focus ((with_reducible constructor) <;> rfl)) | (apply WpA.cd; focus constructor) | ((first | with_reducible refine WpA.go _ rfl fun Y y => ?_ | apply RunTo.id); simp only [zb, seval, w18, txtA]; refine RunTo.fn y (by first | exact trivial | omega | (simp; done) | (simp; omega)) ?_; clear y Y))
        refine WpL.call rfl (guardA_sound (P := Tryd.prog) rfl) (CallA.shut rfl rfl (by kernel_rfl) (ALes.refl _) (by first | rfl | simp [shuts, A.shut, C.shut]) (g0) ?_)
        (refine WpL.go _ rfl fun Y y => ?_); repeat (first | (apply fw; focus ((with_reducible constructor) <;> rfl)) | (apply WpA.cd; focus constructor) | ((first | with_reducible refine WpA.go _ rfl fun Y y => ?_ | apply RunTo.id); simp only [zb, seval, w18, txtA]; refine RunTo.fn y (by first | exact trivial | omega | (simp; done) | (simp; omega)) ?_; clear y Y))
        refine WpL.call rfl (guardA_sound (P := Tryd.prog) rfl) (CallA.shut rfl rfl (by kernel_rfl) (ALes.refl _) (by first | rfl | simp [shuts, A.shut, C.shut]) (g0) ?_)
        (refine WpL.go _ rfl fun Y y => ?_); repeat (first | (apply fw; focus ((with_reducible constructor) <;> rfl)) | (apply WpA.cd; focus constructor) | ((first | with_reducible refine WpA.go _ rfl fun Y y => ?_ | apply RunTo.id); simp only [zb, seval, w18, txtA]; refine RunTo.fn y (by first | exact trivial | omega | (simp; done) | (simp; omega)) ?_; clear y Y))
        refine ⟨by simp, _, _, _, _, (by simp only [zb, seval, w18]; rfl), (by simp), (by simp only [zv]; rfl), (by simp), _, (hZ 9), rfl⟩
    | some p =>
    obtain ⟨x, la⟩ := p
    rw [hg1] at g1
    simp only [getT] at g1
    have ka := getL_ok hg1
    have g2 := get_pure la (by omega)
    cases hg2 : getL la with
    | none =>
      rw [hg2] at g2
      simp only [getT] at g2
      rw [hbad (by simp only [oneV, numV_some hg1, numV_none hg2, numV_bad])]
      rcases hI with ⟨hk0, rfl⟩ | ⟨hk0, rfl⟩
      · repeat (first | (apply fw; focus ((with_reducible constructor) <;> rfl)) | (apply WpA.cd; focus constructor) | ((first | with_reducible refine WpA.go _ rfl fun Y y => ?_ | apply RunTo.id); simp only [zb, seval, w18, txtA, rdE, hd3, j0, jO]; refine RunTo.fn y (by first | exact trivial | omega | (simp; done) | (simp; omega)) ?_; clear y Y))
        refine WpL.call rfl (guardA_sound (P := Tryd.prog) rfl) (CallA.shut rfl rfl (by kernel_rfl) (ALes.refl _) (by first | rfl | simp [shuts, A.shut, C.shut]) (g1) ?_)
        (refine WpL.go _ rfl fun Y y => ?_); repeat (first | (apply fw; focus ((with_reducible constructor) <;> rfl)) | (apply WpA.cd; focus constructor) | ((first | with_reducible refine WpA.go _ rfl fun Y y => ?_ | apply RunTo.id); simp only [zb, seval, w18, txtA]; refine RunTo.fn y (by first | exact trivial | omega | (simp; done) | (simp; omega)) ?_; clear y Y))
        refine WpL.call rfl (guardA_sound (P := Tryd.prog) rfl) (CallA.shut rfl rfl (by kernel_rfl) (ALes.refl _) (by first | rfl | simp [shuts, A.shut, C.shut]) (g2) ?_)
        (refine WpL.go _ rfl fun Y y => ?_); repeat (first | (apply fw; focus ((with_reducible constructor) <;> rfl)) | (apply WpA.cd; focus constructor) | ((first | with_reducible refine WpA.go _ rfl fun Y y => ?_ | apply RunTo.id); simp only [zb, seval, w18, txtA]; refine RunTo.fn y (by first | exact trivial | omega | (simp; done) | (simp; omega)) ?_; clear y Y))
        refine WpL.call rfl (guardA_sound (P := Tryd.prog) rfl) (CallA.shut rfl rfl (by kernel_rfl) (ALes.refl _) (by first | rfl | simp [shuts, A.shut, C.shut]) (g0) ?_)
        (refine WpL.go _ rfl fun Y y => ?_); repeat (first | (apply fw; focus ((with_reducible constructor) <;> rfl)) | (apply WpA.cd; focus constructor) | ((first | with_reducible refine WpA.go _ rfl fun Y y => ?_ | apply RunTo.id); simp only [zb, seval, w18, txtA]; refine RunTo.fn y (by first | exact trivial | omega | (simp; done) | (simp; omega)) ?_; clear y Y))
        refine ⟨by simp, _, _, _, _, (by simp only [zb, seval, w18]; rfl), (by simp), (by simp only [zv]; rfl), (by simp), _, (hZ 9), rfl⟩
      · repeat (first | (apply fw; focus ((with_reducible constructor) <;> rfl)) | (apply WpA.cd; focus constructor) | ((first | with_reducible refine WpA.go _ rfl fun Y y => ?_ | apply RunTo.id); simp only [zb, seval, w18, txtA, rdE, hd3, j0, jO]; refine RunTo.fn y (by first | exact trivial | omega | (simp; done) | (simp; omega)) ?_; clear y Y))
        refine WpL.call rfl (guardA_sound (P := Tryd.prog) rfl) (CallA.shut rfl rfl (by kernel_rfl) (ALes.refl _) (by first | rfl | simp [shuts, A.shut, C.shut]) (g1) ?_)
        (refine WpL.go _ rfl fun Y y => ?_); repeat (first | (apply fw; focus ((with_reducible constructor) <;> rfl)) | (apply WpA.cd; focus constructor) | ((first | with_reducible refine WpA.go _ rfl fun Y y => ?_ | apply RunTo.id); simp only [zb, seval, w18, txtA]; refine RunTo.fn y (by first | exact trivial | omega | (simp; done) | (simp; omega)) ?_; clear y Y))
        refine WpL.call rfl (guardA_sound (P := Tryd.prog) rfl) (CallA.shut rfl rfl (by kernel_rfl) (ALes.refl _) (by first | rfl | simp [shuts, A.shut, C.shut]) (g2) ?_)
        (refine WpL.go _ rfl fun Y y => ?_); repeat (first | (apply fw; focus ((with_reducible constructor) <;> rfl)) | (apply WpA.cd; focus constructor) | ((first | with_reducible refine WpA.go _ rfl fun Y y => ?_ | apply RunTo.id); simp only [zb, seval, w18, txtA]; refine RunTo.fn y (by first | exact trivial | omega | (simp; done) | (simp; omega)) ?_; clear y Y))
        refine WpL.call rfl (guardA_sound (P := Tryd.prog) rfl) (CallA.shut rfl rfl (by kernel_rfl) (ALes.refl _) (by first | rfl | simp [shuts, A.shut, C.shut]) (g0) ?_)
        (refine WpL.go _ rfl fun Y y => ?_); repeat (first | (apply fw; focus ((with_reducible constructor) <;> rfl)) | (apply WpA.cd; focus constructor) | ((first | with_reducible refine WpA.go _ rfl fun Y y => ?_ | apply RunTo.id); simp only [zb, seval, w18, txtA]; refine RunTo.fn y (by first | exact trivial | omega | (simp; done) | (simp; omega)) ?_; clear y Y))
        refine ⟨by simp, _, _, _, _, (by simp only [zb, seval, w18]; rfl), (by simp), (by simp only [zv]; rfl), (by simp), _, (hZ 9), rfl⟩
    | some p =>
    obtain ⟨y, lb⟩ := p
    rw [hg2] at g2
    simp only [getT] at g2
    have kb := getL_ok hg2
    have g3 := get_pure lb (by omega)
    cases hg3 : getL lb with
    | none =>
      rw [hg3] at g3
      simp only [getT] at g3
      rw [hbad (by simp only [oneV, numV_some hg1, numV_some hg2, numV_none hg3])]
      rcases hI with ⟨hk0, rfl⟩ | ⟨hk0, rfl⟩
      · repeat (first | (apply fw; focus ((with_reducible constructor) <;> rfl)) | (apply WpA.cd; focus constructor) | ((first | with_reducible refine WpA.go _ rfl fun Y y => ?_ | apply RunTo.id); simp only [zb, seval, w18, txtA, rdE, hd3, j0, jO]; refine RunTo.fn y (by first | exact trivial | omega | (simp; done) | (simp; omega)) ?_; clear y Y))
        refine WpL.call rfl (guardA_sound (P := Tryd.prog) rfl) (CallA.shut rfl rfl (by kernel_rfl) (ALes.refl _) (by first | rfl | simp [shuts, A.shut, C.shut]) (g1) ?_)
        (refine WpL.go _ rfl fun Y y => ?_); repeat (first | (apply fw; focus ((with_reducible constructor) <;> rfl)) | (apply WpA.cd; focus constructor) | ((first | with_reducible refine WpA.go _ rfl fun Y y => ?_ | apply RunTo.id); simp only [zb, seval, w18, txtA]; refine RunTo.fn y (by first | exact trivial | omega | (simp; done) | (simp; omega)) ?_; clear y Y))
        refine WpL.call rfl (guardA_sound (P := Tryd.prog) rfl) (CallA.shut rfl rfl (by kernel_rfl) (ALes.refl _) (by first | rfl | simp [shuts, A.shut, C.shut]) (g2) ?_)
        (refine WpL.go _ rfl fun Y y => ?_); repeat (first | (apply fw; focus ((with_reducible constructor) <;> rfl)) | (apply WpA.cd; focus constructor) | ((first | with_reducible refine WpA.go _ rfl fun Y y => ?_ | apply RunTo.id); simp only [zb, seval, w18, txtA]; refine RunTo.fn y (by first | exact trivial | omega | (simp; done) | (simp; omega)) ?_; clear y Y))
        refine WpL.call rfl (guardA_sound (P := Tryd.prog) rfl) (CallA.shut rfl rfl (by kernel_rfl) (ALes.refl _) (by first | rfl | simp [shuts, A.shut, C.shut]) (g3) ?_)
        (refine WpL.go _ rfl fun Y y => ?_); repeat (first | (apply fw; focus ((with_reducible constructor) <;> rfl)) | (apply WpA.cd; focus constructor) | ((first | with_reducible refine WpA.go _ rfl fun Y y => ?_ | apply RunTo.id); simp only [zb, seval, w18, txtA]; refine RunTo.fn y (by first | exact trivial | omega | (simp; done) | (simp; omega)) ?_; clear y Y))
        refine ⟨by simp, _, _, _, _, (by simp only [zb, seval, w18]; rfl), (by simp), (by simp only [zv]; rfl), (by simp), _, (hZ 9), rfl⟩
      · repeat (first | (apply fw; focus ((with_reducible constructor) <;> rfl)) | (apply WpA.cd; focus constructor) | ((first | with_reducible refine WpA.go _ rfl fun Y y => ?_ | apply RunTo.id); simp only [zb, seval, w18, txtA, rdE, hd3, j0, jO]; refine RunTo.fn y (by first | exact trivial | omega | (simp; done) | (simp; omega)) ?_; clear y Y))
        refine WpL.call rfl (guardA_sound (P := Tryd.prog) rfl) (CallA.shut rfl rfl (by kernel_rfl) (ALes.refl _) (by first | rfl | simp [shuts, A.shut, C.shut]) (g1) ?_)
        (refine WpL.go _ rfl fun Y y => ?_); repeat (first | (apply fw; focus ((with_reducible constructor) <;> rfl)) | (apply WpA.cd; focus constructor) | ((first | with_reducible refine WpA.go _ rfl fun Y y => ?_ | apply RunTo.id); simp only [zb, seval, w18, txtA]; refine RunTo.fn y (by first | exact trivial | omega | (simp; done) | (simp; omega)) ?_; clear y Y))
        refine WpL.call rfl (guardA_sound (P := Tryd.prog) rfl) (CallA.shut rfl rfl (by kernel_rfl) (ALes.refl _) (by first | rfl | simp [shuts, A.shut, C.shut]) (g2) ?_)
        (refine WpL.go _ rfl fun Y y => ?_); repeat (first | (apply fw; focus ((with_reducible constructor) <;> rfl)) | (apply WpA.cd; focus constructor) | ((first | with_reducible refine WpA.go _ rfl fun Y y => ?_ | apply RunTo.id); simp only [zb, seval, w18, txtA]; refine RunTo.fn y (by first | exact trivial | omega | (simp; done) | (simp; omega)) ?_; clear y Y))
        refine WpL.call rfl (guardA_sound (P := Tryd.prog) rfl) (CallA.shut rfl rfl (by kernel_rfl) (ALes.refl _) (by first | rfl | simp [shuts, A.shut, C.shut]) (g3) ?_)
        (refine WpL.go _ rfl fun Y y => ?_); repeat (first | (apply fw; focus ((with_reducible constructor) <;> rfl)) | (apply WpA.cd; focus constructor) | ((first | with_reducible refine WpA.go _ rfl fun Y y => ?_ | apply RunTo.id); simp only [zb, seval, w18, txtA]; refine RunTo.fn y (by first | exact trivial | omega | (simp; done) | (simp; omega)) ?_; clear y Y))
        refine ⟨by simp, _, _, _, _, (by simp only [zb, seval, w18]; rfl), (by simp), (by simp only [zv]; rfl), (by simp), _, (hZ 9), rfl⟩
    | some p =>
    obtain ⟨z, lc⟩ := p
    rw [hg3] at g3
    simp only [getT] at g3
    have hone : oneV l' 0 = (⟨x, y, z⟩, lc, 0) := by simp only [oneV, numV_some hg1, numV_some hg2, numV_some hg3]
    rw [hone] at hcol
    simp only at hcol
    rcases hI with ⟨hk0, rfl⟩ | ⟨hk0, rfl⟩
    · obtain rfl : fs = [] := List.eq_nil_of_length_eq_zero (by omega)
      repeat (first | (apply fw; focus ((with_reducible constructor) <;> rfl)) | (apply WpA.cd; focus constructor) | ((first | with_reducible refine WpA.go _ rfl fun Y y => ?_ | apply RunTo.id); simp only [zb, seval, w18, txtA, rdE, hd3, j0, jO]; refine RunTo.fn y (by first | exact trivial | omega | (simp; done) | (simp; omega)) ?_; clear y Y))
      refine WpL.call rfl (guardA_sound (P := Tryd.prog) rfl) (CallA.shut rfl rfl (by kernel_rfl) (ALes.refl _) (by first | rfl | simp [shuts, A.shut, C.shut]) (g1) ?_)
      (refine WpL.go _ rfl fun Y y => ?_); repeat (first | (apply fw; focus ((with_reducible constructor) <;> rfl)) | (apply WpA.cd; focus constructor) | ((first | with_reducible refine WpA.go _ rfl fun Y y => ?_ | apply RunTo.id); simp only [zb, seval, w18, txtA]; refine RunTo.fn y (by first | exact trivial | omega | (simp; done) | (simp; omega)) ?_; clear y Y))
      refine WpL.call rfl (guardA_sound (P := Tryd.prog) rfl) (CallA.shut rfl rfl (by kernel_rfl) (ALes.refl _) (by first | rfl | simp [shuts, A.shut, C.shut]) (g2) ?_)
      (refine WpL.go _ rfl fun Y y => ?_); repeat (first | (apply fw; focus ((with_reducible constructor) <;> rfl)) | (apply WpA.cd; focus constructor) | ((first | with_reducible refine WpA.go _ rfl fun Y y => ?_ | apply RunTo.id); simp only [zb, seval, w18, txtA]; refine RunTo.fn y (by first | exact trivial | omega | (simp; done) | (simp; omega)) ?_; clear y Y))
      refine WpL.call rfl (guardA_sound (P := Tryd.prog) rfl) (CallA.shut rfl rfl (by kernel_rfl) (ALes.refl _) (by first | rfl | simp [shuts, A.shut, C.shut]) (g3) ?_)
      (refine WpL.go _ rfl fun Y y => ?_); repeat (first | (apply fw; focus ((with_reducible constructor) <;> rfl)) | (apply WpA.cd; focus constructor) | ((first | with_reducible refine WpA.go _ rfl fun Y y => ?_ | apply RunTo.id); simp only [zb, seval, w18, txtA, hw2]; refine RunTo.fn y (by first | exact trivial | omega | (simp; done) | (simp; omega)) ?_; clear y Y))
      refine ⟨m - (k + 1), ⟨rdE m (k + 1) lc, [some j0, some (jO (tB inp) lim fu (.ms 2 (k + 1))), some ⟨48, 3, [[.v (.int .i64 x), .v (.int .i64 y), .v (.int .i64 z)]]⟩]⟩, by omega, ?_, k + 1, _, lc, rfl, hlt, hcol, .inr ⟨by omega, rfl⟩⟩
      subst hk0
      refine Le.names [0, 1, 4] (Handed.of (by decide) ?_) (fun i hi => absurd hi (Nat.not_lt_zero _)) (by simp [SubR, find, rdE, A.ren, C.ren, rn])
      simp [j0, jO, Ob.ren, C.rens, C.ren, rn]
    · repeat (first | (apply fw; focus ((with_reducible constructor) <;> rfl)) | (apply WpA.cd; focus constructor) | ((first | with_reducible refine WpA.go _ rfl fun Y y => ?_ | apply RunTo.id); simp only [zb, seval, w18, txtA, rdE, hd3, j0, jO]; refine RunTo.fn y (by first | exact trivial | omega | (simp; done) | (simp; omega)) ?_; clear y Y))
      refine WpL.call rfl (guardA_sound (P := Tryd.prog) rfl) (CallA.shut rfl rfl (by kernel_rfl) (ALes.refl _) (by first | rfl | simp [shuts, A.shut, C.shut]) (g1) ?_)
      (refine WpL.go _ rfl fun Y y => ?_); repeat (first | (apply fw; focus ((with_reducible constructor) <;> rfl)) | (apply WpA.cd; focus constructor) | ((first | with_reducible refine WpA.go _ rfl fun Y y => ?_ | apply RunTo.id); simp only [zb, seval, w18, txtA]; refine RunTo.fn y (by first | exact trivial | omega | (simp; done) | (simp; omega)) ?_; clear y Y))
      refine WpL.call rfl (guardA_sound (P := Tryd.prog) rfl) (CallA.shut rfl rfl (by kernel_rfl) (ALes.refl _) (by first | rfl | simp [shuts, A.shut, C.shut]) (g2) ?_)
      (refine WpL.go _ rfl fun Y y => ?_); repeat (first | (apply fw; focus ((with_reducible constructor) <;> rfl)) | (apply WpA.cd; focus constructor) | ((first | with_reducible refine WpA.go _ rfl fun Y y => ?_ | apply RunTo.id); simp only [zb, seval, w18, txtA]; refine RunTo.fn y (by first | exact trivial | omega | (simp; done) | (simp; omega)) ?_; clear y Y))
      refine WpL.call rfl (guardA_sound (P := Tryd.prog) rfl) (CallA.shut rfl rfl (by kernel_rfl) (ALes.refl _) (by first | rfl | simp [shuts, A.shut, C.shut]) (g3) ?_)
      (refine WpL.go _ rfl fun Y y => ?_); repeat (first | (apply fw; focus ((with_reducible constructor) <;> rfl)) | (apply WpA.cd; focus constructor) | ((first | with_reducible refine WpA.go _ rfl fun Y y => ?_ | apply RunTo.id); simp only [zb, seval, w18, txtA, hw2, hfs, hck1]; refine RunTo.fn y (by first | exact trivial | omega | (simp; done) | (simp; omega)) ?_; clear y Y))
      refine ⟨m - (k + 1), ⟨rdE m (k + 1) lc, [some j0, some (jO (tB inp) lim fu (.ms 2 (k + 1))), some ⟨48, 3, fC fs ++ [[.v (.int .i64 x), .v (.int .i64 y), .v (.int .i64 z)]]⟩]⟩, by omega, ?_, k + 1, _, lc, rfl, hlt, hcol, .inr ⟨by omega, by rw [fC_snoc]⟩⟩
      refine Le.names [0, 1, 2] (Handed.of (by decide) ?_) (fun i hi => absurd hi (Nat.not_lt_zero _)) (by simp [SubR, find, rdE, A.ren, C.ren, rn])
      simp [j0, jO, Ob.ren, C.rens, C.ren, rn, fC_ren]
  have hd3 : decide ((k : Int) < (m : Int)) = false := decide_eq_false (by omega)
  obtain rfl : k = m := by omega
  have hW : decW lim fu inp (k, l5, 0) = if (txV l' 0).2.2 = 1 ∨ (txV l' 0).2.1 ≠ [] then (jobZ, 9) else (⟨tB (txV l' 0).1, tB inp, lim, fu, fs⟩, 0) := by
    rw [decW, if_neg hm]
    show (if (txV (colV l5 0 k).2.1 (colV l5 0 k).2.2).2.2 = 1 ∨ (txV (colV l5 0 k).2.1 (colV l5 0 k).2.2).2.1 ≠ [] then (jobZ, (9 : Int)) else (⟨tB (txV (colV l5 0 k).2.1 (colV l5 0 k).2.2).1, tB inp, lim, fu, (colV l5 0 k).1⟩, 0)) = _
    rw [hcv]
  rw [hW]
  clear hW hcv
  have hst : Le ⟨144, 0⟩ st ⟨rdE k k l', [some j0, some (jO (tB inp) lim fu (.sl 3 (fC fs)))]⟩ := by
    rcases hI with ⟨hk0, rfl⟩ | ⟨hk0, rfl⟩
    · obtain rfl : fs = [] := List.eq_nil_of_length_eq_zero (by omega)
      exact Le.freeze (fun _ => false) (Frz.ofL ⟨rfl, rfl, rfl, FzR.same _ _ _, rfl, rfl, rfl, ⟨⟨.inl rfl, .inl rfl, .inl rfl, .inl rfl, FzC.nil, trivial⟩, trivial⟩, trivial⟩) ⟨⟨_, rfl, .inl rfl⟩, ⟨_, rfl, .inl rfl⟩, ⟨_, rfl, .inl rfl⟩, ⟨_, rfl, .inl rfl⟩, ⟨_, rfl, .inl rfl⟩, ⟨_, rfl, .inl rfl⟩, ⟨_, rfl, .inl rfl⟩, trivial⟩
    · refine Le.trans (Le.freeze (S' := [some j0, some (jO (tB inp) lim fu (.sl 3 (fC fs))), none]) (e' := rdE k k l') (fun i => i == 2) (Frz.ofL ⟨rfl, rfl, rfl, FzR.same _ _ _, rfl, rfl, rfl, ⟨⟨.inl rfl, .inl rfl, .inl rfl, .inl rfl, FzC.ms (ty := 48) rfl rfl (by omega), trivial⟩, trivial⟩, fun _ ob h => by cases h; exact fC_shut fs, trivial⟩) ⟨⟨_, rfl, .inl rfl⟩, ⟨_, rfl, .inl rfl⟩, ⟨_, rfl, .inl rfl⟩, ⟨_, rfl, .inl rfl⟩, ⟨_, rfl, .inl rfl⟩, ⟨_, rfl, .inl rfl⟩, ⟨_, rfl, .inl rfl⟩, trivial⟩) ?_
      exact Le.drop 2 (Nat.zero_le _) rfl (by simp [Sub, find, rdE]) (by simp [envBd, rdE, A.bd, C.bd]) (by simp [ObBd, j0, jO, C.bd])
  refine WpA.le hst ?_
  have g1 := get_pure l' (by omega)
  repeat (first | (apply fw; focus ((with_reducible constructor) <;> rfl)) | (apply WpA.cd; focus constructor) | ((first | with_reducible refine WpA.go _ rfl fun Y y => ?_ | apply RunTo.id); simp only [zb, seval, w18, txtA, rdE, hd3, j0, jO]; refine RunTo.fn y (by first | exact trivial | omega | (simp; done) | (simp; omega)) ?_; clear y Y))
  cases hg1 : getL l' with
  | none =>
    rw [hg1] at g1
    simp only [getT] at g1
    rw [if_pos (.inl (by rw [txV, amV_none hg1]))]
    refine WpL.call rfl (guardA_sound (P := Tryd.prog) rfl) (CallA.shut rfl rfl (by kernel_rfl) (ALes.refl _) (by first | rfl | simp [shuts, A.shut, C.shut]) (g1) ?_)
    (refine WpL.go _ rfl fun Y y => ?_); repeat (first | (apply fw; focus ((with_reducible constructor) <;> rfl)) | (apply WpA.cd; focus constructor) | ((first | with_reducible refine WpA.go _ rfl fun Y y => ?_ | apply RunTo.id); simp only [zb, seval, w18, txtA]; refine RunTo.fn y (by first | exact trivial | omega | (simp; done) | (simp; omega)) ?_; clear y Y))
    refine ⟨by simp, _, _, _, _, (by simp only [zb, seval, w18]; rfl), (by simp), (by simp only [zv]; rfl), (by simp), _, (hZ 9), rfl⟩
  | some p =>
  obtain ⟨n, s7⟩ := p
  rw [hg1] at g1
  simp only [getT] at g1
  have z7 := tB_size s7
  refine WpL.call rfl (guardA_sound (P := Tryd.prog) rfl) (CallA.shut rfl rfl (by kernel_rfl) (ALes.refl _) (by first | rfl | simp [shuts, A.shut, C.shut]) (g1) ?_)
  by_cases hne : n = (s7.length : Int)
  · subst hne
    have hb : ((s7.length : Int) != (s7.length : Int)) = false := by simp
    have hT : txV l' 0 = (s7, [], 0) := by rw [txV_of (amV_in hg1 (by omega))]; simp
    rw [hT, if_neg (by simp)]
    (refine WpL.go _ rfl fun Y y => ?_); repeat (first | (apply fw; focus ((with_reducible constructor) <;> rfl)) | (apply WpA.cd; focus constructor) | ((first | with_reducible refine WpA.go _ rfl fun Y y => ?_ | apply RunTo.id); simp only [zb, seval, w18, txtA, z7, hb]; refine RunTo.fn y (by first | exact trivial | omega | (simp; done) | (simp; omega)) ?_; clear y Y))
    refine ⟨by simp, _, _, _, _, (by simp only [zb, seval, w18]; rfl), (by simp), (by simp only [zv]; rfl), (by simp), _, ALe.refl _, ?_⟩
    rfl
  · have hb : (n != (s7.length : Int)) = true := by simp [hne]
    have hT : (txV l' 0).2.2 = 1 ∨ (txV l' 0).2.1 ≠ [] := by
      by_cases ho : n < 0 ∨ (s7.length : Int) < n
      · exact .inl (by rw [txV, amV_out hg1 ho])
      · refine .inr ?_
        rw [txV_of (amV_in hg1 ho)]
        intro h
        have := congrArg List.length h
        simp only [List.length_drop, List.length_nil] at this
        omega
    rw [if_pos hT]
    (refine WpL.go _ rfl fun Y y => ?_); repeat (first | (apply fw; focus ((with_reducible constructor) <;> rfl)) | (apply WpA.cd; focus constructor) | ((first | with_reducible refine WpA.go _ rfl fun Y y => ?_ | apply RunTo.id); simp only [zb, seval, w18, txtA, z7, hb]; refine RunTo.fn y (by first | exact trivial | omega | (simp; done) | (simp; omega)) ?_; clear y Y))
    refine ⟨by simp, _, _, _, _, (by simp only [zb, seval, w18]; rfl), (by simp), (by simp only [zv]; rfl), (by simp), _, (hZ 9), rfl⟩
theorem eqCo (a b c : Int) (w : World) : (Op.equalIn 10000 48 (.agg #[.int .i64 a, .int .i64 b, .int .i64 c]) (.agg #[.int .i64 a, .int .i64 b, .int .i64 c])).run Tryd.prog w = .ok true w := by
  have u3 := Tryd.underlying3
  have hS : Tryd.prog.underlying 48 = some (.struct (Tryd.prog.fieldsOf 48)) := by kernel_rfl
  rw [show (10000 : Nat) = 9999 + 1 from rfl, run_equalIn_agg w 9999 48 _ _ hS (by kernel_rfl)]
  simp only [Program.fieldsOf, Tryd.underlying48]
  go_simp
theorem quiet_neqCo {P : Program} {ρA : Operand → Option A} {s : List (Option Ob)} {x y : Operand} {a b c : Int} {ty t' : TypeId} (hP : P = Tryd.prog) (hx : ρA x = some (.agg [.v (.int .i64 a), .v (.int .i64 b), .v (.int .i64 c)])) (hy : ρA y = some (.agg [.v (.int .i64 a), .v (.int .i64 b), .v (.int .i64 c)])) :
    Quiet P (.binOp .neq 48 x y t') ty s ρA (.one (.v (.bool false))) := by
  subst hP
  intro H m w ρ hs hρ
  have h1 := hρ x (by simp [Op.operands]) _ hx
  have h2 := hρ y (by simp [Op.operands]) _ hy
  simp only [Ca, Ccs, Cc] at h1 h2
  obtain ⟨cs, e1, u1, r1, rfl, ⟨rfl, -⟩, u2, r2, rfl, ⟨rfl, -⟩, u3, r3, rfl, ⟨rfl, -⟩, rfl⟩ := h1
  obtain ⟨ds, e2, v1, q1, rfl, ⟨rfl, -⟩, v2, q2, rfl, ⟨rfl, -⟩, v3, q3, rfl, ⟨rfl, -⟩, rfl⟩ := h2
  refine ⟨.bool false, ?_, caV rfl⟩
  simp only [execOp, e1, e2, Sem.run_bind, Sem.run_pure, Result.andThen_ok, run_eqGuard_agg (P := Tryd.prog) w .neq 48 x y _ _ (by kernel_rfl), run_neq_struct (P := Tryd.prog) w 48, eqCo a b c w, Bool.not_true]
def SaI (j : Jb) (n : Nat) (st : St) : Prop := ∃ k : Nat, n = j.fs.length - k ∧ k ≤ j.fs.length ∧
  st = ⟨[(5, .one (.v (.int .i64 k))), (3, .one (.ptr 1 1 0 0)), (2, .one (.ptr 0 1 0 0))], [some (jobOb j), some (jobOb j)]⟩
theorem same_pure (j : Jb) (hl : j.fs.length ≤ 100000) : Pure Tryd.prog 19 [.agg j.cs, .agg j.cs] (.one (.v (.bool true))) := by
  have hfl := fC_len j.fs
  have e1 : (j.src.toList == j.src.toList) = true := by simp
  have e2 : (j.inp.toList == j.inp.toList) = true := by simp
  have e3 : (j.lim != j.lim) = false := by simp
  have e4 : (j.fu != j.fu) = false := by simp
  have e5 : ((j.fs.length : Int) != (j.fs.length : Int)) = false := by simp
  refine Fn.intro Tryd.func19 rfl Tryd.ntmps19 Tryd.results19 (by simp only [List.length_cons, List.length_nil]; decide) ?_
  repeat (first | (apply fw; focus ((with_reducible constructor) <;> rfl)) | (apply WpA.cd; focus constructor) | ((first | with_reducible refine WpA.go _ rfl fun Y y => ?_ | apply RunTo.id); simp only [zb, seval, w19, txtA, Jb.cs, hfl, e1, e2, e3, e4, e5]; refine RunTo.fn y (by first | exact trivial | omega | (simp; done) | (simp; omega)) ?_; clear y Y))
  refine WpA.loop (SaI j) j.fs.length ?_ ⟨0, rfl, Nat.zero_le _, rfl⟩ ?_
  · exact Le.sub (by simp [Sub, find])
  intro n' st hI
  obtain ⟨k, rfl, hk, rfl⟩ := hI
  have hw2 : IntKind.i64.wrap ((k : Int) + 1) = ((k + 1 : Nat) : Int) := by rw [wrap64 (by omega) (by omega)]; omega
  by_cases hlt : k < j.fs.length
  · have hd3 : decide ((k : Int) < (j.fs.length : Int)) = true := decide_eq_true (by omega)
    have hga := fC_get hlt
    repeat (first | (apply fw; focus ((with_reducible constructor) <;> rfl)) | (apply WpA.cd; focus constructor) | ((first | with_reducible refine WpA.go _ rfl fun Y y => ?_ | apply RunTo.id); simp only [zb, seval, w19, txtA, jobOb, Jb.cs, hfl, hd3]; refine RunTo.fn y (by first | exact trivial | omega | (simp; done) | (simp; omega)) ?_; clear y Y))
    (refine WpA.draw0 11 _ _ _ rfl rfl rfl (by kernel_rfl) (by kernel_rfl) (by kernel_rfl) fun K8 hK8 => ?_); simp only [zz] at hK8 ⊢; (refine Draw0.go fun K7 hK7 => ?_); simp only [zb, seval, w19, Jb.cs, hfl, hga]; (refine RunQ.mk (by first | exact trivial | omega | (simp; done) | (simp; omega)) (hK7 _ _ ?_)); clear hK7 K7; (try ((refine Draw0.nil (hK8 _ ?_)); clear hK8 K8; (refine WpL.go _ rfl fun Y y => ?_); repeat (first | (apply fw; focus ((with_reducible constructor) <;> rfl)) | (apply WpA.cd; focus constructor) | ((first | with_reducible refine WpA.go _ rfl fun Y y => ?_ | apply RunTo.id); simp only [zb, seval, w19, Jb.cs, hfl, hga]; refine RunTo.fn y (by first | exact trivial | omega | (simp; done) | (simp; omega)) ?_; clear y Y))))
    refine Draw0.step (OpS.quietQ rfl (quiet_neqCo rfl rfl rfl)) ?_
    (refine Draw0.go fun K7 hK7 => ?_); simp only [zb, seval, w19, hw2]; (refine RunQ.mk (by first | exact trivial | omega | (simp; done) | (simp; omega)) (hK7 _ _ ?_)); clear hK7 K7; (try ((refine Draw0.nil (hK8 _ ?_)); clear hK8 K8; (refine WpL.go _ rfl fun Y y => ?_); repeat (first | (apply fw; focus ((with_reducible constructor) <;> rfl)) | (apply WpA.cd; focus constructor) | ((first | with_reducible refine WpA.go _ rfl fun Y y => ?_ | apply RunTo.id); simp only [zb, seval, w19, hw2]; refine RunTo.fn y (by first | exact trivial | omega | (simp; done) | (simp; omega)) ?_; clear y Y))))
    exact ⟨j.fs.length - (k + 1), _, by omega, Le.sub (e' := [(5, .one (.v (.int .i64 (k + 1 : Nat)))), (3, .one (.ptr 1 1 0 0)), (2, .one (.ptr 0 1 0 0))]) (by simp [Sub, find]), k + 1, rfl, hlt, rfl⟩
  · have hd3 : decide ((k : Int) < (j.fs.length : Int)) = false := decide_eq_false (by omega)
    repeat (first | (apply fw; focus ((with_reducible constructor) <;> rfl)) | (apply WpA.cd; focus constructor) | ((first | with_reducible refine WpA.go _ rfl fun Y y => ?_ | apply RunTo.id); simp only [zb, seval, w19, txtA, jobOb, Jb.cs, hfl, hd3]; refine RunTo.fn y (by first | exact trivial | omega | (simp; done) | (simp; omega)) ?_; clear y Y))
    refine ⟨by simp, _, _, _, _, (by simp only [zb, seval, w19]; rfl), (by simp), (by simp only [zv]; rfl), (by simp), _, ALe.refl _, ?_⟩
    rfl
end Go.Proofs.YtdcmihhcpgkgiaaDoor
end
