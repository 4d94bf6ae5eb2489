/-
  Laid together: LawTells.
-/
import Derived.Test.YtdcmihhcpgkgiaaDoorGB
import Derived.Test.YtdcmihhcpgkgiaaDoorG7

section
namespace Go.Proofs.YtdcmihhcpgkgiaaDoor
open Go Go.RowKit Go.Lib
set_option linter.unusedSimpArgs false
set_option linter.unusedVariables false
set_option maxHeartbeats 4000000
set_option maxRecDepth 100000
theorem lawTells_pure (r : Rs) (h2 : I64 r.err) (h3 : I64 r.pl) (h4 : I64 r.st) (h6 : ∀ c ∈ r.log, ∀ n ∈ c.l, I64 n) (hl : r.log.length ≤ 1000000000000000) (hs : r.out.size ≤ 140737488351232) :
    Pure Tryd.prog 4 [.agg r.cs] (.one (.v (.bool true))) := by
  have hfl := fC_len r.log
  refine Fn.intro Tryd.func4 rfl Tryd.ntmps4 Tryd.results4 (by simp only [List.length_cons, List.length_nil]; decide) ?_
  by_cases hn : 1200 < r.log.length
  · have hd1 : decide ((1200 : Int) < (r.log.length : Int)) = true := by simp; omega
    repeat (first | (apply fw; focus ((with_reducible constructor) <;> rfl)) | (apply WpA.cd; focus constructor) | ((first | with_reducible refine WpA.go _ rfl fun Y y => ?_ | apply RunTo.id); simp only [zb, seval, w4, txtA, Rs.cs, hfl, hd1]; refine RunTo.fn y (by first | exact trivial | omega | (simp; done) | (simp; omega)) ?_; clear y Y))
    refine WpL.call rfl (guardA_sound (P := Tryd.prog) rfl) (CallA.shut rfl rfl (by kernel_rfl) (ALes.refl _) (by first | rfl | simp [shuts, A.shut, C.shut]) (awake_pure) ?_)
    (refine WpL.go _ rfl fun Y y => ?_); repeat (first | (apply fw; focus ((with_reducible constructor) <;> rfl)) | (apply WpA.cd; focus constructor) | ((first | with_reducible refine WpA.go _ rfl fun Y y => ?_ | apply RunTo.id); simp only [zb, seval, w4]; refine RunTo.fn y (by first | exact trivial | omega | (simp; done) | (simp; omega)) ?_; clear y Y))
    refine ⟨by simp, _, _, _, _, (by simp only [zb, seval, w4]; rfl), (by simp), (by simp only [zv]; rfl), (by simp), _, ALe.refl _, ?_⟩
    rfl
  have hd1 : decide ((1200 : Int) < (r.log.length : Int)) = false := by simp; omega
  by_cases hb : 70000 < r.out.size
  · have hd2 : decide ((70000 : Int) < (r.out.size : Int)) = true := by simp; omega
    repeat (first | (apply fw; focus ((with_reducible constructor) <;> rfl)) | (apply WpA.cd; focus constructor) | ((first | with_reducible refine WpA.go _ rfl fun Y y => ?_ | apply RunTo.id); simp only [zb, seval, w4, txtA, Rs.cs, hfl, hd1, hd2]; refine RunTo.fn y (by first | exact trivial | omega | (simp; done) | (simp; omega)) ?_; clear y Y))
    refine WpL.call rfl (guardA_sound (P := Tryd.prog) rfl) (CallA.shut rfl rfl (by kernel_rfl) (ALes.refl _) (by first | rfl | simp [shuts, A.shut, C.shut]) (awake_pure) ?_)
    (refine WpL.go _ rfl fun Y y => ?_); repeat (first | (apply fw; focus ((with_reducible constructor) <;> rfl)) | (apply WpA.cd; focus constructor) | ((first | with_reducible refine WpA.go _ rfl fun Y y => ?_ | apply RunTo.id); simp only [zb, seval, w4]; refine RunTo.fn y (by first | exact trivial | omega | (simp; done) | (simp; omega)) ?_; clear y Y))
    refine ⟨by simp, _, _, _, _, (by simp only [zb, seval, w4]; rfl), (by simp), (by simp only [zv]; rfl), (by simp), _, ALe.refl _, ?_⟩
    rfl
  have hd2 : decide ((70000 : Int) < (r.out.size : Int)) = false := by simp; omega
  have hok : r.Ok := ⟨by omega, h2, h3, h4, by omega, h6⟩
  have t1 := tell_pure r hok
  have t2 := rtell_pure r hok
  have hself : ((tellA r).toList == (tellA r).toList) = true := by simp
  generalize tellA r = T at *
  repeat (first | (apply fw; focus ((with_reducible constructor) <;> rfl)) | (apply WpA.cd; focus constructor) | ((first | with_reducible refine WpA.go _ rfl fun Y y => ?_ | apply RunTo.id); simp only [zb, seval, w4, txtA, Rs.cs, hfl, hd1, hd2]; refine RunTo.fn y (by first | exact trivial | omega | (simp; done) | (simp; omega)) ?_; clear y Y))
  (refine WpA.draw0 9 _ _ _ rfl rfl rfl (by kernel_rfl) (by kernel_rfl) (by kernel_rfl) fun K8 hK8 => ?_); simp only [zz] at hK8 ⊢; (refine Draw0.go fun K7 hK7 => ?_); simp only [zb, seval, w4, Rs.cs]; (refine RunQ.mk (by first | exact trivial | omega | (simp; done) | (simp; omega)) (hK7 _ _ ?_)); clear hK7 K7; (try ((refine Draw0.nil (hK8 _ ?_)); clear hK8 K8; (refine WpL.go _ rfl fun Y y => ?_); repeat (first | (apply fw; focus ((with_reducible constructor) <;> rfl)) | (apply WpA.cd; focus constructor) | ((first | with_reducible refine WpA.go _ rfl fun Y y => ?_ | apply RunTo.id); simp only [zb, seval, w4, Rs.cs]; refine RunTo.fn y (by first | exact trivial | omega | (simp; done) | (simp; omega)) ?_; clear y Y))))
  refine Draw0.step (OpS.shut rfl rfl rfl (by kernel_rfl) (ALes.refl _) (by first | rfl | simp [shuts, A.shut, C.shut]) (t1)) ?_
  (refine Draw0.go fun K7 hK7 => ?_); simp only [zb, seval, w4, Rs.cs]; (refine RunQ.mk (by first | exact trivial | omega | (simp; done) | (simp; omega)) (hK7 _ _ ?_)); clear hK7 K7; (try ((refine Draw0.nil (hK8 _ ?_)); clear hK8 K8; (refine WpL.go _ rfl fun Y y => ?_); repeat (first | (apply fw; focus ((with_reducible constructor) <;> rfl)) | (apply WpA.cd; focus constructor) | ((first | with_reducible refine WpA.go _ rfl fun Y y => ?_ | apply RunTo.id); simp only [zb, seval, w4, Rs.cs]; refine RunTo.fn y (by first | exact trivial | omega | (simp; done) | (simp; omega)) ?_; clear y Y))))
  refine Draw0.step (OpS.shut rfl rfl rfl (by kernel_rfl) (ALes.refl _) (by first | rfl | simp [shuts, A.shut, C.shut]) (t2)) ?_
  (refine Draw0.go fun K7 hK7 => ?_); simp only [zb, seval, w4, Rs.cs, hself]; (refine RunQ.mk (by first | exact trivial | omega | (simp; done) | (simp; omega)) (hK7 _ _ ?_)); clear hK7 K7; (try ((refine Draw0.nil (hK8 _ ?_)); clear hK8 K8; (refine WpL.go _ rfl fun Y y => ?_); repeat (first | (apply fw; focus ((with_reducible constructor) <;> rfl)) | (apply WpA.cd; focus constructor) | ((first | with_reducible refine WpA.go _ rfl fun Y y => ?_ | apply RunTo.id); simp only [zb, seval, w4, Rs.cs, hself]; refine RunTo.fn y (by first | exact trivial | omega | (simp; done) | (simp; omega)) ?_; clear y Y))))
  refine Draw0.step (OpS.shut rfl rfl rfl (by kernel_rfl) (ALes.refl _) (by first | rfl | simp [shuts, A.shut, C.shut]) (awake_pure)) ?_
  (refine Draw0.go fun K7 hK7 => ?_); simp only [zb, seval, w4, Rs.cs, hself]; (refine RunQ.mk (by first | exact trivial | omega | (simp; done) | (simp; omega)) (hK7 _ _ ?_)); clear hK7 K7; (try ((refine Draw0.nil (hK8 _ ?_)); clear hK8 K8; (refine WpL.go _ rfl fun Y y => ?_); repeat (first | (apply fw; focus ((with_reducible constructor) <;> rfl)) | (apply WpA.cd; focus constructor) | ((first | with_reducible refine WpA.go _ rfl fun Y y => ?_ | apply RunTo.id); simp only [zb, seval, w4, Rs.cs, hself]; refine RunTo.fn y (by first | exact trivial | omega | (simp; done) | (simp; omega)) ?_; clear y Y))))
  refine ⟨by simp, _, _, _, _, (by simp only [zb, seval, w4]; rfl), (by simp), (by simp only [zv]; rfl), (by simp), _, ALe.refl _, ?_⟩
  rfl
end Go.Proofs.YtdcmihhcpgkgiaaDoor
end
