/-
  Laid together: Nums27, Reads27, Parse27, ParseB27, ParseC27.
-/
import Derived.Test.YtdcmihhcpgkgiaaDoorG5
import Derived.Test.YtdcmihhcpgkgiaaDoorG4
import Derived.Maps.Views

section
namespace Go.Proofs.YtdcmihhcpgkgiaaDoor
open Go Go.RowKit Go.Lib
set_option linter.unusedSimpArgs false
set_option linter.unusedVariables false
set_option maxHeartbeats 4000000
set_option maxRecDepth 100000
def isNilI : Value → Option Bool
  | .nilIface => some true
  | .iface _ _ => some false
  | _ => none
theorem run_neq_nilI {P : Program} {w : World} {t : TypeId} {ms : Array (String × TypeId)} (h : P.underlying t = some (.interface ms)) {u : Value} {b : Bool} (hu : isNilI u = some b) : (binOp .neq t u .nilIface).run P w = .ok (.bool (!b)) w := by
  have hun : (underlying t).run P w = .ok (.interface ms) w := by simp [underlying, program, bind, Sem.bind, Sem.run, h, pure]
  cases u <;> simp only [isNilI, Option.some.injEq, reduceCtorEq] at hu <;> subst hu
  · rename_i t' p'
    have he : (Op.equal t (.iface t' p') .nilIface).run P w = .ok false w := by
      unfold Op.equal Op.maxDepth
      rw [Op.equalIn]
      simp only [Sem.run_bind, hun, Result.andThen_ok, Sem.run_pure]
    simp only [binOp, Sem.run_bind, he, Result.andThen_ok, Sem.run_pure]
  · have he : (Op.equal t .nilIface .nilIface).run P w = .ok true w := by
      unfold Op.equal Op.maxDepth
      rw [Op.equalIn]
      simp only [Sem.run_bind, hun, Result.andThen_ok, Sem.run_pure]
    simp only [binOp, Sem.run_bind, he, Result.andThen_ok, Sem.run_pure]
/-- 'e != nil'. -/
theorem WpL.neqNil {P : Program} {nt : Cf} {ops : Array Oper} {Q : St → Prop} {st : St} {rest : List Oper} {d : Option Tmp} {t ty t' : TypeId} {ms : Array (String × TypeId)} {x : Operand} {pos : String} {aft : Array Edge} {u : Value} {b : Bool} (hd : fits nt d = true)
    (hx : rdA st.e x = some (.one (.v u))) (hu : isNilI u = some b) (ht : P.underlying t = some (.interface ms)) (h : WpL P nt ops Q rest (st.put d (.one (.v (.bool (!b)))))) : WpL P nt ops Q (⟨d, .binOp .neq t x (.const .nilIface) t', ty, pos, aft, none⟩ :: rest) st := fun H w0 S0 m0 m a w hs Q' hQ => by
  have h1 := hs.rd hx
  simp only [Ca, Cc] at h1
  have hnext := h H w0 S0 m0 m _ w (hs.put hd (caV rfl)) Q' hQ
  unfold wpList
  rw [if_pos (by rfl)]
  refine .inl ?_
  unfold Oper.wp
  have hrun : (execOp a.eval ⟨d, .binOp .neq t x (.const .nilIface) t', ty, pos, aft, none⟩).run P w = .ok (.value (.bool (!b))) w := by
    have e2 : a.eval (.const .nilIface) = .nilIface := rfl
    have hg : (eqGuard .neq t x (.const .nilIface) u .nilIface).run P w = .ok () w := by
      cases u <;> simp only [isNilI, reduceCtorEq] at hu <;> simp [eqGuard]
    simp only [execOp, h1.1, e2, Sem.run_bind, hg, Result.andThen_ok, run_neq_nilI (w := w) ht hu, Sem.run_pure]
  rw [hrun]
  exact hnext
theorem parseInt_ok (t : ByteArray) (v : Int) (hs : t.size ≤ 281474976710656) (hp : Lib.parseIntB 64 t.data.toList = .ok v) : Pure Tryd.prog 46 [.one (.v (.string t)), .one (.v (.int .i64 10)), .one (.v (.int .i64 64))] (.tup [.one (.v (.int .i64 v)), .one (.v .nilIface)]) :=
  (parseInt_fn t hs).mono fun x s h => by
    obtain ⟨h1, h2⟩ := h
    unfold ParsesTo at h1
    rw [hp] at h1
    exact ⟨h1, h2⟩
theorem numbers1_pure (t : ByteArray) (v : Int) (hs : t.size ≤ 281474976710656) (hp : Lib.parseIntB 64 t.data.toList = .ok v) (hv : I64 v) (ht : (⟨(Lib.itoa v).toArray⟩ : ByteArray) = t) :
    Pure Tryd.prog 41 [.one (.sl 1 [[.v (.string t)]]), .one (.v (.int .i64 1))] (.tup [.one (.sl 1 [[.v (.int .i64 v)]]), .one (.v (.bool true))]) := by
  have hw1 : IntKind.i64.wrap (0 + 1) = 1 := by decide
  have hf : Pure Tryd.prog 47 [.one (.v (.int .i64 v)), .one (.v (.int .i64 10))] (.one (.v (.string t))) := by rw [← ht]; exact formatInt_pure v hv.1 hv.2
  refine Fn.intro Tryd.func41 rfl Tryd.ntmps41 Tryd.results41 (by simp only [List.length_cons, List.length_nil]; decide) ?_
  repeat (first | (apply fw; focus ((with_reducible constructor) <;> rfl)) | (apply WpA.cd; focus constructor) | ((first | with_reducible refine WpA.go _ rfl fun Y y => ?_ | apply RunTo.id); simp only [zb, seval, w41, txtA]; refine RunTo.fn y (by first | exact trivial | omega | (simp; done) | (simp; omega)) ?_; clear y Y))
  refine WpA.rounds 2 ?_
  repeat (first | (apply fw; focus ((with_reducible constructor) <;> rfl)) | (apply WpA.cd; focus constructor) | ((first | with_reducible refine WpA.go _ rfl fun Y y => ?_ | apply RunTo.id); simp only [zb, seval, w41, txtA]; refine RunTo.fn y (by first | exact trivial | omega | (simp; done) | (simp; omega)) ?_; clear y Y))
  refine WpL.call rfl (guardA_sound (P := Tryd.prog) rfl) (CallA.shut rfl rfl (by kernel_rfl) (ALes.refl _) (by first | rfl | simp [shuts, A.shut, C.shut]) (parseInt_ok t v hs hp) ?_)
  (refine WpL.go _ rfl fun Y y => ?_); repeat (first | (apply fw; focus ((with_reducible constructor) <;> rfl)) | (apply WpA.cd; focus constructor) | ((first | with_reducible refine WpA.go _ rfl fun Y y => ?_ | apply RunTo.id); simp only [zb, seval, w41, txtA]; refine RunTo.fn y (by first | exact trivial | omega | (simp; done) | (simp; omega)) ?_; clear y Y))
  refine WpL.neqNil rfl rfl rfl Tryd.underlying87 ?_
  (refine WpL.go _ rfl fun Y y => ?_); repeat (first | (apply fw; focus ((with_reducible constructor) <;> rfl)) | (apply WpA.cd; focus constructor) | ((first | with_reducible refine WpA.go _ rfl fun Y y => ?_ | apply RunTo.id); simp only [zb, seval, w41, txtA]; refine RunTo.fn y (by first | exact trivial | omega | (simp; done) | (simp; omega)) ?_; clear y Y))
  refine WpL.call rfl (guardA_sound (P := Tryd.prog) rfl) (CallA.shut rfl rfl (by kernel_rfl) (ALes.refl _) (by first | rfl | simp [shuts, A.shut, C.shut]) (hf) ?_)
  (refine WpL.go _ rfl fun Y y => ?_); repeat (first | (apply fw; focus ((with_reducible constructor) <;> rfl)) | (apply WpA.cd; focus constructor) | ((first | with_reducible refine WpA.go _ rfl fun Y y => ?_ | apply RunTo.id); simp only [zb, seval, w41, txtA, hw1]; refine RunTo.fn y (by first | exact trivial | omega | (simp; done) | (simp; omega)) ?_; clear y Y))
  refine ⟨by simp, _, _, _, _, (by simp only [zb, seval, w41]; rfl), (by simp), (by simp only [zv]; rfl), (by simp [C.shut]), _, ALe.refl _, ?_⟩
  rfl
def jobO (src inp : ByteArray) (lim fu : Int) (fc : C) : Option Ob := some ⟨24, 5, [[.v (.string src), .v (.string inp), .v (.int .i64 lim), .v (.int .i64 fu), fc]]⟩
def limitS : ByteArray := ⟨#[108, 105, 109, 105, 116]⟩
def fuelS : ByteArray := ⟨#[102, 117, 101, 108]⟩
theorem reads_limit (b : Nat) (o : Obj) (n : Nat) (D : DataW Unit) (line t : ByteArray) (v c : Int) (src inp : ByteArray) (lim fu : Int) (fc : C) (o0 o1 o2 o4 o5 o6 : Ob) (hsz : line.size ≤ 70000) (he0 : (line.toList == (⟨#[]⟩ : ByteArray).toList) = false) (z : UInt8) (hg0 : line[0]? = some z) (hg1 : ((z.toNat : Int) == 35) = false) (hsp : Lib.splitB ⟨#[32]⟩ 0 (Lib.countB line ⟨#[32]⟩) line = [limitS, t])
    (hpt : Lib.parseIntB 64 t.data.toList = .ok v) (hv : I64 v) (ht : (⟨(Lib.itoa v).toArray⟩ : ByteArray) = t) (hf : MFit Tryd.prog 9 3 o n D) (hn : n < maxLen) (hc : D.atKey (.string limitS.data.toList) (.lit (.int .i64 0)) = .lit (.int .i64 c)) (hcc : c = 0 ∨ c = 1) (hD : Maps.IsMap D) (htz : t.size ≤ 70000) :
    FnM Tryd.prog 33 [.one (.ptr 3 1 0 0), .one (.v (.string line)), .one (.v (.map (some b)))] [some o0, some o1, some o2, jobO src inp lim fu fc, some o4, some o5, some o6] b o
      (fun r s' o' => r = .one (.v (.int .i64 (if c = 0 then 0 else 9))) ∧ s' = [some o0, some o1, some o2, jobO src inp v fu fc, some o4, some o5, some o6] ∧ ∃ es c', o' = .map es c' ∧ MFit Tryd.prog 9 3 (.map es c') (n + 1) (D.put (.string limitS.data.toList) (.lit (.int .i64 (c + 1))))) := by
  have hw0 : IntKind.i64.wrap (c + 1) = c + 1 := by rw [wrap64 (by omega) (by omega)]
  have hlS : limitS.size ≤ maxLen := by decide
  have hkw : (limitS.toList == (⟨#[105, 110]⟩ : ByteArray).toList) = false := by kernel_rfl
  have hkw2 : (limitS.toList == (⟨#[108, 105, 109, 105, 116]⟩ : ByteArray).toList) = true := by kernel_rfl
  have hkw3 : (limitS.toList == (⟨#[102, 117, 101, 108]⟩ : ByteArray).toList) = false := by kernel_rfl
  refine FnM.intro Tryd.func33 rfl Tryd.ntmps33 Tryd.results33 (by simp only [List.length_cons, List.length_nil]; decide) ?_
  refine WpX.seq (WpX.ofB ?_)
  repeat (first | (apply fw; focus ((with_reducible constructor) <;> rfl)) | (apply WpA.cd; focus constructor) | ((first | with_reducible refine WpA.go _ rfl fun Y y => ?_ | apply RunTo.id); simp only [zb, seval, w33, txtA]; refine RunTo.fn y (by first | exact trivial | omega | (simp; done) | (simp; omega)) ?_; clear y Y))
  change WpX _ _ _ _ _ _ _ _
  refine WpX.seq (WpX.ofB ?_)
  repeat (first | (apply fw; focus ((with_reducible constructor) <;> rfl)) | (apply WpA.cd; focus constructor) | ((first | with_reducible refine WpA.go _ rfl fun Y y => ?_ | apply RunTo.id); simp only [zb, seval, w33, txtA, he0, hg0, hg1]; refine RunTo.fn y (by first | exact trivial | omega | (simp; done) | (simp; omega)) ?_; clear y Y))
  change WpX _ _ _ _ _ _ _ _
  refine WpX.seq (WpX.ofB ?_)
  repeat (first | (apply fw; focus ((with_reducible constructor) <;> rfl)) | (apply WpA.cd; focus constructor) | ((first | with_reducible refine WpA.go _ rfl fun Y y => ?_ | apply RunTo.id); simp only [zb, seval, w33, txtA]; refine RunTo.fn y (by first | exact trivial | omega | (simp; done) | (simp; omega)) ?_; clear y Y))
  refine WpL.call rfl (guardA_sound (P := Tryd.prog) rfl) (CallA.shut rfl rfl (by kernel_rfl) (ALes.refl _) (by first | rfl | simp [shuts, A.shut, C.shut]) (split_pure line ⟨#[32]⟩ (by omega) (by decide)) ?_)
  rw [hsp]
  (refine WpL.go _ rfl fun Y y => ?_); repeat (first | (apply fw; focus ((with_reducible constructor) <;> rfl)) | (apply WpA.cd; focus constructor) | ((first | with_reducible refine WpA.go _ rfl fun Y y => ?_ | apply RunTo.id); simp only [zb, seval, w33, txtA]; refine RunTo.fn y (by first | exact trivial | omega | (simp; done) | (simp; omega)) ?_; clear y Y))
  change WpX _ _ _ _ _ _ _ _
  refine WpX.seq (WpX.region ?_)
  (refine WpXL.go _ rfl rfl fun Y y => ?_); simp only [zb, seval, w33, txtA]; (refine RunTo.fx y (by first | exact trivial | omega | (simp; done) | (simp; omega)) ?_); clear y Y
  refine WpXL.lookup rfl rfl rfl hf Tryd.underlying63 Tryd.underlying9 Tryd.underlying3 (fun w => Tryd.zeroValue3 w) hlS fun c9 hc9 => ?_
  obtain rfl : c9 = c := by rw [hc] at hc9; cases hc9; rfl
  (refine WpXL.go _ rfl rfl fun Y y => ?_); simp only [zb, seval, w33, txtA, hw0]; (refine RunTo.fx y (by first | exact trivial | omega | (simp; done) | (simp; omega)) ?_); clear y Y
  refine WpXL.update rfl rfl rfl hf Tryd.underlying63 Tryd.underlying9 Tryd.underlying3 hlS hn (by rcases hcc with rfl | rfl <;> decide) (by simp) fun es c' hf2 => ?_
  refine WpXL.nil ?_
  change WpX _ _ _ _ _ _ _ _
  refine WpX.seq (WpX.region ?_)
  (refine WpXL.go _ rfl rfl fun Y y => ?_); simp only [zb, seval, w33, txtA]; (refine RunTo.fx y (by first | exact trivial | omega | (simp; done) | (simp; omega)) ?_); clear y Y
  refine WpXL.lookup rfl rfl rfl hf2 Tryd.underlying63 Tryd.underlying9 Tryd.underlying3 (fun w => Tryd.zeroValue3 w) hlS fun c8 hc8 => ?_
  obtain rfl : c8 = c9 + 1 := by rw [Maps.atKey_put_same hD (by first | trivial | simp [WideAt.IsKeyLit])] at hc8; cases hc8; rfl
  (refine WpXL.go _ rfl rfl fun Y y => ?_); simp only [zb, seval, w33, txtA]; (refine RunTo.fx y (by first | exact trivial | omega | (simp; done) | (simp; omega)) ?_); clear y Y
  refine WpXL.nil ?_
  change WpX _ _ _ _ _ _ _ _
  refine WpX.ofB ?_
  rcases hcc with rfl | rfl
  · repeat (first | (apply fw; focus ((with_reducible constructor) <;> rfl)) | (apply WpA.cd; focus constructor) | ((first | with_reducible refine WpA.go _ rfl fun Y y => ?_ | apply RunTo.id); simp only [zb, seval, w33, txtA, hkw, hkw2, hkw3]; refine RunTo.fn y (by first | exact trivial | omega | (simp; done) | (simp; omega)) ?_; clear y Y))
    refine WpL.call rfl (guardA_sound (P := Tryd.prog) rfl) (CallA.shut rfl rfl (by kernel_rfl) (ALes.refl _) (by first | rfl | simp [shuts, A.shut, C.shut]) (numbers1_pure t v (by omega) hpt hv ht) ?_)
    (refine WpL.go _ rfl fun Y y => ?_); repeat (first | (apply fw; focus ((with_reducible constructor) <;> rfl)) | (apply WpA.cd; focus constructor) | ((first | with_reducible refine WpA.go _ rfl fun Y y => ?_ | apply RunTo.id); simp only [zb, seval, w33, txtA, hkw, hkw2, hkw3, jobO]; refine RunTo.fn y (by first | exact trivial | omega | (simp; done) | (simp; omega)) ?_; clear y Y))
    exact ⟨by simp, _, rfl, _, _, _, Le.refl _ _, rfl, trivial, rfl, rfl, es, c', rfl, hf2⟩
  · repeat (first | (apply fw; focus ((with_reducible constructor) <;> rfl)) | (apply WpA.cd; focus constructor) | ((first | with_reducible refine WpA.go _ rfl fun Y y => ?_ | apply RunTo.id); simp only [zb, seval, w33, txtA, hkw, hkw2, hkw3]; refine RunTo.fn y (by first | exact trivial | omega | (simp; done) | (simp; omega)) ?_; clear y Y))
    refine WpL.call rfl (guardA_sound (P := Tryd.prog) rfl) (CallA.shut rfl rfl (by kernel_rfl) (ALes.refl _) (by first | rfl | simp [shuts, A.shut, C.shut]) (numbers1_pure t v (by omega) hpt hv ht) ?_)
    (refine WpL.go _ rfl fun Y y => ?_); repeat (first | (apply fw; focus ((with_reducible constructor) <;> rfl)) | (apply WpA.cd; focus constructor) | ((first | with_reducible refine WpA.go _ rfl fun Y y => ?_ | apply RunTo.id); simp only [zb, seval, w33, txtA, hkw, hkw2, hkw3, jobO]; refine RunTo.fn y (by first | exact trivial | omega | (simp; done) | (simp; omega)) ?_; clear y Y))
    exact ⟨by simp, _, rfl, _, _, _, Le.refl _ _, rfl, trivial, rfl, rfl, es, c', rfl, hf2⟩
theorem reads_fuel (b : Nat) (o : Obj) (n : Nat) (D : DataW Unit) (line t : ByteArray) (v c : Int) (src inp : ByteArray) (lim fu : Int) (fc : C) (o0 o1 o2 o4 o5 o6 : Ob) (hsz : line.size ≤ 70000) (he0 : (line.toList == (⟨#[]⟩ : ByteArray).toList) = false) (z : UInt8) (hg0 : line[0]? = some z) (hg1 : ((z.toNat : Int) == 35) = false) (hsp : Lib.splitB ⟨#[32]⟩ 0 (Lib.countB line ⟨#[32]⟩) line = [fuelS, t])
    (hpt : Lib.parseIntB 64 t.data.toList = .ok v) (hv : I64 v) (ht : (⟨(Lib.itoa v).toArray⟩ : ByteArray) = t) (hf : MFit Tryd.prog 9 3 o n D) (hn : n < maxLen) (hc : D.atKey (.string fuelS.data.toList) (.lit (.int .i64 0)) = .lit (.int .i64 c)) (hcc : c = 0 ∨ c = 1) (hD : Maps.IsMap D) (htz : t.size ≤ 70000) :
    FnM Tryd.prog 33 [.one (.ptr 3 1 0 0), .one (.v (.string line)), .one (.v (.map (some b)))] [some o0, some o1, some o2, jobO src inp lim fu fc, some o4, some o5, some o6] b o
      (fun r s' o' => r = .one (.v (.int .i64 (if c = 0 then 0 else 9))) ∧ s' = [some o0, some o1, some o2, jobO src inp lim v fc, some o4, some o5, some o6] ∧ ∃ es c', o' = .map es c' ∧ MFit Tryd.prog 9 3 (.map es c') (n + 1) (D.put (.string fuelS.data.toList) (.lit (.int .i64 (c + 1))))) := by
  have hw0 : IntKind.i64.wrap (c + 1) = c + 1 := by rw [wrap64 (by omega) (by omega)]
  have hlS : fuelS.size ≤ maxLen := by decide
  have hkw : (fuelS.toList == (⟨#[105, 110]⟩ : ByteArray).toList) = false := by kernel_rfl
  have hkw2 : (fuelS.toList == (⟨#[108, 105, 109, 105, 116]⟩ : ByteArray).toList) = false := by kernel_rfl
  have hkw3 : (fuelS.toList == (⟨#[102, 117, 101, 108]⟩ : ByteArray).toList) = true := by kernel_rfl
  refine FnM.intro Tryd.func33 rfl Tryd.ntmps33 Tryd.results33 (by simp only [List.length_cons, List.length_nil]; decide) ?_
  refine WpX.seq (WpX.ofB ?_)
  repeat (first | (apply fw; focus ((with_reducible constructor) <;> rfl)) | (apply WpA.cd; focus constructor) | ((first | with_reducible refine WpA.go _ rfl fun Y y => ?_ | apply RunTo.id); simp only [zb, seval, w33, txtA]; refine RunTo.fn y (by first | exact trivial | omega | (simp; done) | (simp; omega)) ?_; clear y Y))
  change WpX _ _ _ _ _ _ _ _
  refine WpX.seq (WpX.ofB ?_)
  repeat (first | (apply fw; focus ((with_reducible constructor) <;> rfl)) | (apply WpA.cd; focus constructor) | ((first | with_reducible refine WpA.go _ rfl fun Y y => ?_ | apply RunTo.id); simp only [zb, seval, w33, txtA, he0, hg0, hg1]; refine RunTo.fn y (by first | exact trivial | omega | (simp; done) | (simp; omega)) ?_; clear y Y))
  change WpX _ _ _ _ _ _ _ _
  refine WpX.seq (WpX.ofB ?_)
  repeat (first | (apply fw; focus ((with_reducible constructor) <;> rfl)) | (apply WpA.cd; focus constructor) | ((first | with_reducible refine WpA.go _ rfl fun Y y => ?_ | apply RunTo.id); simp only [zb, seval, w33, txtA]; refine RunTo.fn y (by first | exact trivial | omega | (simp; done) | (simp; omega)) ?_; clear y Y))
  refine WpL.call rfl (guardA_sound (P := Tryd.prog) rfl) (CallA.shut rfl rfl (by kernel_rfl) (ALes.refl _) (by first | rfl | simp [shuts, A.shut, C.shut]) (split_pure line ⟨#[32]⟩ (by omega) (by decide)) ?_)
  rw [hsp]
  (refine WpL.go _ rfl fun Y y => ?_); repeat (first | (apply fw; focus ((with_reducible constructor) <;> rfl)) | (apply WpA.cd; focus constructor) | ((first | with_reducible refine WpA.go _ rfl fun Y y => ?_ | apply RunTo.id); simp only [zb, seval, w33, txtA]; refine RunTo.fn y (by first | exact trivial | omega | (simp; done) | (simp; omega)) ?_; clear y Y))
  change WpX _ _ _ _ _ _ _ _
  refine WpX.seq (WpX.region ?_)
  (refine WpXL.go _ rfl rfl fun Y y => ?_); simp only [zb, seval, w33, txtA]; (refine RunTo.fx y (by first | exact trivial | omega | (simp; done) | (simp; omega)) ?_); clear y Y
  refine WpXL.lookup rfl rfl rfl hf Tryd.underlying63 Tryd.underlying9 Tryd.underlying3 (fun w => Tryd.zeroValue3 w) hlS fun c9 hc9 => ?_
  obtain rfl : c9 = c := by rw [hc] at hc9; cases hc9; rfl
  (refine WpXL.go _ rfl rfl fun Y y => ?_); simp only [zb, seval, w33, txtA, hw0]; (refine RunTo.fx y (by first | exact trivial | omega | (simp; done) | (simp; omega)) ?_); clear y Y
  refine WpXL.update rfl rfl rfl hf Tryd.underlying63 Tryd.underlying9 Tryd.underlying3 hlS hn (by rcases hcc with rfl | rfl <;> decide) (by simp) fun es c' hf2 => ?_
  refine WpXL.nil ?_
  change WpX _ _ _ _ _ _ _ _
  refine WpX.seq (WpX.region ?_)
  (refine WpXL.go _ rfl rfl fun Y y => ?_); simp only [zb, seval, w33, txtA]; (refine RunTo.fx y (by first | exact trivial | omega | (simp; done) | (simp; omega)) ?_); clear y Y
  refine WpXL.lookup rfl rfl rfl hf2 Tryd.underlying63 Tryd.underlying9 Tryd.underlying3 (fun w => Tryd.zeroValue3 w) hlS fun c8 hc8 => ?_
  obtain rfl : c8 = c9 + 1 := by rw [Maps.atKey_put_same hD (by first | trivial | simp [WideAt.IsKeyLit])] at hc8; cases hc8; rfl
  (refine WpXL.go _ rfl rfl fun Y y => ?_); simp only [zb, seval, w33, txtA]; (refine RunTo.fx y (by first | exact trivial | omega | (simp; done) | (simp; omega)) ?_); clear y Y
  refine WpXL.nil ?_
  change WpX _ _ _ _ _ _ _ _
  refine WpX.ofB ?_
  rcases hcc with rfl | rfl
  · repeat (first | (apply fw; focus ((with_reducible constructor) <;> rfl)) | (apply WpA.cd; focus constructor) | ((first | with_reducible refine WpA.go _ rfl fun Y y => ?_ | apply RunTo.id); simp only [zb, seval, w33, txtA, hkw, hkw2, hkw3]; refine RunTo.fn y (by first | exact trivial | omega | (simp; done) | (simp; omega)) ?_; clear y Y))
    refine WpL.call rfl (guardA_sound (P := Tryd.prog) rfl) (CallA.shut rfl rfl (by kernel_rfl) (ALes.refl _) (by first | rfl | simp [shuts, A.shut, C.shut]) (numbers1_pure t v (by omega) hpt hv ht) ?_)
    (refine WpL.go _ rfl fun Y y => ?_); repeat (first | (apply fw; focus ((with_reducible constructor) <;> rfl)) | (apply WpA.cd; focus constructor) | ((first | with_reducible refine WpA.go _ rfl fun Y y => ?_ | apply RunTo.id); simp only [zb, seval, w33, txtA, hkw, hkw2, hkw3, jobO]; refine RunTo.fn y (by first | exact trivial | omega | (simp; done) | (simp; omega)) ?_; clear y Y))
    exact ⟨by simp, _, rfl, _, _, _, Le.refl _ _, rfl, trivial, rfl, rfl, es, c', rfl, hf2⟩
  · repeat (first | (apply fw; focus ((with_reducible constructor) <;> rfl)) | (apply WpA.cd; focus constructor) | ((first | with_reducible refine WpA.go _ rfl fun Y y => ?_ | apply RunTo.id); simp only [zb, seval, w33, txtA, hkw, hkw2, hkw3]; refine RunTo.fn y (by first | exact trivial | omega | (simp; done) | (simp; omega)) ?_; clear y Y))
    refine WpL.call rfl (guardA_sound (P := Tryd.prog) rfl) (CallA.shut rfl rfl (by kernel_rfl) (ALes.refl _) (by first | rfl | simp [shuts, A.shut, C.shut]) (numbers1_pure t v (by omega) hpt hv ht) ?_)
    (refine WpL.go _ rfl fun Y y => ?_); repeat (first | (apply fw; focus ((with_reducible constructor) <;> rfl)) | (apply WpA.cd; focus constructor) | ((first | with_reducible refine WpA.go _ rfl fun Y y => ?_ | apply RunTo.id); simp only [zb, seval, w33, txtA, hkw, hkw2, hkw3, jobO]; refine RunTo.fn y (by first | exact trivial | omega | (simp; done) | (simp; omega)) ?_; clear y Y))
    exact ⟨by simp, _, rfl, _, _, _, Le.refl _ _, rfl, trivial, rfl, rfl, es, c', rfl, hf2⟩
def nilS : C := .v (.slice none 0 0)
def noB : ByteArray := ⟨#[]⟩
def boxS (t : ByteArray) : Option Ob := some ⟨9, 1, [[.v (.string t)]]⟩
def intO (n : Int) : Ob := ⟨3, 1, [[.v (.int .i64 n)]]⟩
def errO (n : Int) : Ob := ⟨27, 1, [[.v (.int .i64 n)]]⟩
def zeroJ : Ob := ⟨24, 5, [[.v (.string noB), .v (.string noB), .v (.int .i64 0), .v (.int .i64 0), nilS]]⟩
def stoodO (b : Nat) : Ob := ⟨63, 1, [[.v (.map (some b))]]⟩
/-- What lines answers: a function that keeps the rest of the text. -/
theorem lines_fn (s : ByteArray) (o0 o1 o2 o3 o4 : Ob) : Fn Tryd.prog 32 [.one (.v (.string s))] [some o0, some o1, some o2, some o3, some o4] (fun r s' => r = .one (.fn 37 [.ptr 5 1 0 0]) ∧ s' = [some o0, some o1, some o2, some o3, some o4, boxS s]) := by
  refine Fn.introS Tryd.func32 rfl Tryd.ntmps32 Tryd.results32 (by simp only [List.length_cons, List.length_nil]; decide) ?_
  repeat (first | (apply fw; focus ((with_reducible constructor) <;> rfl)) | (apply WpA.cd; focus constructor) | ((first | with_reducible refine WpA.go _ rfl fun Y y => ?_ | apply RunTo.id); simp only [zb, seval, txtA]; refine RunTo.fn y (by first | exact trivial | omega | (simp; done) | (simp; omega)) ?_; clear y Y))
  exact ⟨by simp, _, _, _, Le.refl _ _, rfl, trivial, rfl, rfl⟩
structure PS where
  lim : Int
  fu : Int
  n : Nat
  D : DataW Unit
def PS.job (σ : PS) : Option Ob := jobO noB noB σ.lim σ.fu nilS
def ReadsTo (line : ByteArray) (σ σ' : PS) (e : Int) : Prop := ∀ (b : Nat) (o : Obj) (o0 o1 o2 o4 o5 o6 : Ob), MFit Tryd.prog 9 3 o σ.n σ.D → FnM Tryd.prog 33 [.one (.ptr 3 1 0 0), .one (.v (.string line)), .one (.v (.map (some b)))] [some o0, some o1, some o2, σ.job, some o4, some o5, some o6] b o
  (fun r s' o' => r = .one (.v (.int .i64 e)) ∧ s' = [some o0, some o1, some o2, σ'.job, some o4, some o5, some o6] ∧ ∃ es c', o' = .map es c' ∧ MFit Tryd.prog 9 3 (.map es c') σ'.n σ'.D)
structure PRes where
  src : ByteArray
  lim : Int
  fu : Int
  num : Int
  err : Int
def progS : ByteArray := ⟨#[112, 114, 111, 103, 114, 97, 109]⟩
/-- What comes of a text, line by line. -/
inductive PRun : Nat → ByteArray → Nat → PS → PRes → Prop
  | done (i : Nat) (σ : PS) : PRun 0 noB i σ ⟨noB, σ.lim, σ.fu, 0, 0⟩
  | prog {k i : Nat} {σ : PS} {t rest : ByteArray} {bb : Bool} (hs : t.size ≤ 70000) (hne : (t.toList == noB.toList) = false) (hcut : Lib.cut t.data.toList [10] = (progS.data.toList, rest.data.toList, bb)) : PRun k t i σ ⟨rest, σ.lim, σ.fu, 0, 0⟩
  | bad {k i : Nat} {σ σ' : PS} {t l rest : ByteArray} {bb : Bool} {e : Int} (hs : t.size ≤ 70000) (hne : (t.toList == noB.toList) = false) (hcut : Lib.cut t.data.toList [10] = (l.data.toList, rest.data.toList, bb)) (hl : (l.toList == progS.toList) = false) (hr : ReadsTo l σ σ' e) (he : (e == 0) = false) : PRun k t i σ ⟨noB, 0, 0, i, e⟩
  | line {k i : Nat} {σ σ' : PS} {t l rest : ByteArray} {bb : Bool} {r : PRes} (hs : t.size ≤ 70000) (hne : (t.toList == noB.toList) = false) (hcut : Lib.cut t.data.toList [10] = (l.data.toList, rest.data.toList, bb)) (hl : (l.toList == progS.toList) = false) (hr : ReadsTo l σ σ' 0) (hk : PRun k rest (i + 1) σ' r) : PRun (k + 1) t i σ r
theorem ba_list (l : ByteArray) : (⟨l.data.toList.toArray⟩ : ByteArray) = l := by cases l; simp
theorem cutTo {t l r : ByteArray} {bb : Bool} (hs : t.size ≤ 70000) (h : Lib.cut t.data.toList [10] = (l.data.toList, r.data.toList, bb)) : Pure Tryd.prog 38 [.one (.v (.string t)), .one (.v (.string ⟨#[10]⟩))] (.tup [.one (.v (.string l)), .one (.v (.string r)), .one (.v (.bool bb))]) := by
  have := cut_pure t ⟨#[10]⟩ (by omega)
  rw [show (⟨#[10]⟩ : ByteArray).data.toList = [10] from rfl, h] at this
  simpa only [ba_list] using this
theorem OpA.indexArr {P : Program} {nt : Cf} {st : St} {t ty e : TypeId} {x y : Operand} {loc k i off len sz : Nat} {ob : Ob} {kk : IntKind} {n : Int} (hx : rdA st.e x = some (.one (.ptr loc k i off))) (hy : rdA st.e y = some (.one (.v (.int kk n)))) (ht : arrI P t = some (len, e, sz)) (ho : st.s[loc]? = some (some ob)) (hk : k = ob.es.length) (h0 : 0 ≤ n) (h1 : n < len) :
    OpA P nt (.indexAddr t x y) ty st (.one (.ptr loc k i (off + n.toNat * sz))) st := fun H w0 S0 m0 m a w hs => by
  have h2 := hs.rd hx
  have h3 := hs.rd hy
  simp only [Ca, Cc] at h2 h3
  obtain ⟨-, l, hl, hle, he⟩ := h2
  have hn := (hs.sto.ok loc ob l ho hl).n
  have he := he (by omega)
  unfold arrI at ht
  split at ht
  case h_2 => cases ht
  rename_i n' e' hu
  split at ht
  case h_2 => cases ht
  rename_i inf hi
  cases ht
  have hun : (underlying t).run P w = .ok (.array len e) w := by simp [underlying, program, bind, Sem.bind, Sem.run, hu, pure]
  have hsz : (sizeOf e).run P w = .ok inf.size w := by simp [sizeOf, typeInfo, program, Sem.run, hi, bind, Sem.bind, pure]
  refine ⟨.pointer (some ⟨l.b, i * l.wd + off + n.toNat * inf.size, none⟩), w, m, .inl ?_, hs, Goes.refl _ _ _, ?_⟩
  · simp only [execOp, he, h3.1, Instr.indexAt, asIntOf, Sem.run_bind, Sem.run_pure, Result.andThen_ok, hun, Instr.sureAddr]
    simp only [h0, h1, and_self, if_true, hsz, add_spot, Sem.run_bind, Sem.run_pure, Result.andThen_ok]
  · simp only [Ca, Cc]
    exact ⟨rfl, l, hl, hle, fun _ => by rw [Nat.add_assoc]⟩
theorem OpA.buildArr {P : Program} {nt : Cf} {st : St} {t ty e : TypeId} {len sz : Nat} {parts : List (Nat × Operand)} {pl : List (Nat × A)} {zs : List Value} {cs : List C} (hp : partsA (rdA st.e) parts = some pl) (hz : zerI P t = some zs) (ht : arrI P t = some (len, e, sz)) (h : fillA (fun i => some (i * sz, sz)) (zs.map .v) pl = some cs) :
    OpA P nt (.build t parts.toArray) ty st (.agg cs) st := OpA.quiet fun H m w ρ hs hρ => by
  obtain ⟨i, z, hi, hzz, hzc, h1, hzl⟩ := zerI_of hz
  obtain ⟨hp1, hp2⟩ := partsA_spec hp
  unfold arrI at ht
  split at ht
  case h_2 => cases ht
  rename_i n' e' hu
  split at ht
  case h_2 => cases ht
  rename_i inf hinf
  cases ht
  have hun : (underlying t).run P w = .ok (.array len e) w := by simp [underlying, program, bind, Sem.bind, Sem.run, hu, pure]
  have hsz : (sizeOf e).run P w = .ok inf.size w := by simp [sizeOf, typeInfo, program, Sem.run, hinf, bind, Sem.bind, pure]
  obtain ⟨us', g1, g2⟩ := fill_sound (X := ⟨vis H st.s m w, m⟩) (us := z.cells) (vl := (parts.map fun (p : Nat × Operand) => (p.1, ρ p.2))) h (by rw [hzc]; exact Ccs.vals _ h1) (by rw [hp1]; simp [Function.comp_def]) (fun j x v hx hv => by
    obtain ⟨o, ho, hox⟩ := hp2 j x hx
    refine (show v = ρ o from ?_) ▸ hρ o ?_ x hox
    · simp only [List.map_map, List.getElem?_map, Option.map_eq_some_iff, Function.comp_def] at hv ho
      obtain ⟨p1, e1, rfl⟩ := hv
      obtain ⟨p2, e2, rfl⟩ := ho
      rw [e1] at e2; cases e2; rfl
    · simp only [Op.operands]
      have := List.mem_of_getElem? ho
      simpa using this)
  refine ⟨.agg us', ?_, by simp only [Ca]; exact ⟨us'.toList, by simp, g2⟩⟩
  simp only [execOp, Instr.build, Sem.run_bind, run_zeroValue hi hzz, Result.andThen_ok, hun, hsz, List.map_toArray, g1, Sem.run_pure]
def rangeParts : Code → Option (Code × Code)
  | .rangeFunc _ _ a b => some (a, b)
  | .seq x y => match rangeParts x with | some r => some r | none => rangeParts y
  | .block _ x => rangeParts x
  | .loop x => rangeParts x
  | _ => none
def EO : List (Nat × A) := [(5, .one (.ptr 3 1 0 0)), (6, .one (.ptr 4 1 0 0)), (2, .one (.ptr 0 1 0 0)), (3, .one (.ptr 1 1 0 0)), (4, .one (.ptr 2 1 0 0))]
/-- One round of the loop over the lines. -/
def RoundC (ac bd : Code) : Prop := ∀ (n0 l D : Nat) (fn : FuncId) (tm : Array Value) (b : Nat) (es : Array MapEntry) (c : Nat) (t : ByteArray) (i : Nat) (ln rest : ByteArray) (σ : PS), MFit Tryd.prog 9 3 (.map es c) σ.n σ.D → ∀ (Qf : Exit → List (Option Ob) → Obj → Prop),
  (((ln.toList == progS.toList) = true ∧ ∀ a6, Qf (.exit 0) [some zeroJ, some (intO 0), some (errO 0), jobO rest noB σ.lim σ.fu nilS, some (stoodO b), boxS t, some a6] (.map es c)) ∨
   ((ln.toList == progS.toList) = false ∧ ∃ (σ' : PS) (e : Int), ReadsTo ln σ σ' e ∧ ∀ es' c' a6, MFit Tryd.prog 9 3 (.map es' c') σ'.n σ'.D → (((e == 0) = true → Qf .normal [some zeroJ, some (intO 0), some (errO 0), σ'.job, some (stoodO b), boxS t, some a6] (.map es' c')) ∧ ((e == 0) = false → Qf .ret [some zeroJ, some (intO i), some (errO e), σ'.job, some (stoodO b), boxS t, some a6] (.map es' c'))))) →
  WpX Tryd.prog (some l) (fun _ => True) ⟨35, n0⟩ ac (fun e st1 g1 => e = .normal ∧ ∃ o1, isMapB o1 = true ∧ g1 = ⟨[], K3 b o1 l (recL .ready none fn tm [17, 18] ac bd D) D⟩ ∧
      WpX Tryd.prog (some l) (fun _ => True) ⟨35, n0⟩ bd (fun e st' g' => ∃ o', isMapB o' = true ∧ g' = ⟨[], K3 b o' l (recL .busy none fn tm [17, 18] ac bd D) D⟩ ∧ Qf e st'.s o') st1 ⟨[], K3 b o1 l (recL .busy none fn tm [17, 18] ac bd D) D⟩)
    ⟨bindA EO [17, 18] [.one (.v (.int .i64 i)), .agg [.v (.string ln), .v (.string rest)]], [some zeroJ, some (intO 0), some (errO 0), σ.job, some (stoodO b), boxS t]⟩ ⟨[], K3 b (.map es c) l (recL .ready none fn tm [17, 18] ac bd D) D⟩
theorem round_ok (ac bd : Code) (h : ∀ c, Tryd.f20.body = some c → rangeParts c = some (ac, bd)) : RoundC ac bd := by
  have h := h _ rfl
  simp only [rangeParts] at h
  injection h with h
  injection h with h1 h2
  subst h1 h2
  intro n0 l D fn tm b es c t i ln rest σ hf Qf hcase
  refine WpX.seq (WpX.region ?_)
  simp only [bindA, EO]
  (refine WpXL.go _ rfl rfl fun Y y => ?_); simp only [zb, seval, w20, txtA]; (refine RunTo.fx y (by first | exact trivial | omega | (simp; done) | (simp; omega)) ?_); clear y Y
  refine WpXL.nil ?_
  change WpX _ _ _ _ _ _ _ _
  refine WpX.region ?_
  (refine WpXL.go _ rfl rfl fun Y y => ?_); simp only [zb, seval, w20, txtA]; (refine RunTo.fx y (by first | exact trivial | omega | (simp; done) | (simp; omega)) ?_); clear y Y
  refine WpXL.nil ?_
  refine ⟨rfl, _, rfl, rfl, ?_⟩
  refine WpX.block ?_
  refine WpX.seq (WpX.seq (WpX.region ?_))
  rcases hcase with ⟨hp, hQ⟩ | ⟨hp, σ', e, hr, hQ⟩
  · have hp' : (ln.toList == (⟨#[112, 114, 111, 103, 114, 97, 109]⟩ : ByteArray).toList) = true := hp
    refine WpXL.op rfl (fun c e => by cases e) (guardA_sound (P := Tryd.prog) rfl) (OpA.indexArr rfl rfl arr_67 rfl rfl (by decide) (by decide)) ?_
    (refine WpXL.go _ rfl rfl fun Y y => ?_); simp only [zb, seval, w20, txtA, hp']; (refine RunTo.fx y (by first | exact trivial | omega | (simp; done) | (simp; omega)) ?_); clear y Y
    refine WpXL.nil ?_
    change WpX _ _ _ _ _ _ _ _
    (apply WpX.cd; focus constructor)
    refine WpX.seq (WpX.region ?_)
    refine WpXL.op rfl (fun c e => by cases e) (guardA_sound (P := Tryd.prog) rfl) (OpA.indexArr rfl rfl arr_67 rfl rfl (by decide) (by decide)) ?_
    (refine WpXL.go _ rfl rfl fun Y y => ?_); simp only [zb, seval, w20, txtA, PS.job, jobO]; (refine RunTo.fx y (by first | exact trivial | omega | (simp; done) | (simp; omega)) ?_); clear y Y
    refine WpXL.nil ?_
    change WpX _ _ _ _ _ _ _ _
    refine WpX.exit ?_
    exact ⟨_, rfl, rfl, hQ _⟩
  · have hp' : (ln.toList == (⟨#[112, 114, 111, 103, 114, 97, 109]⟩ : ByteArray).toList) = false := hp
    refine WpXL.op rfl (fun c e => by cases e) (guardA_sound (P := Tryd.prog) rfl) (OpA.indexArr rfl rfl arr_67 rfl rfl (by decide) (by decide)) ?_
    (refine WpXL.go _ rfl rfl fun Y y => ?_); simp only [zb, seval, w20, txtA, hp']; (refine RunTo.fx y (by first | exact trivial | omega | (simp; done) | (simp; omega)) ?_); clear y Y
    refine WpXL.nil ?_
    change WpX _ _ _ _ _ _ _ _
    (apply WpX.cd; focus constructor)
    refine WpX.skip ?_
    change WpX _ _ _ _ _ _ _ _
    refine WpX.seq (WpX.region ?_)
    refine WpXL.op rfl (fun c e => by cases e) (guardA_sound (P := Tryd.prog) rfl) (OpA.indexArr rfl rfl arr_67 rfl rfl (by decide) (by decide)) ?_
    (refine WpXL.go _ rfl rfl fun Y y => ?_); simp only [zb, seval, w20, txtA, stoodO]; (refine RunTo.fx y (by first | exact trivial | omega | (simp; done) | (simp; omega)) ?_); clear y Y
    refine WpXL.callM rfl (guardA_sound (P := Tryd.prog) rfl) rfl rfl (by kernel_rfl) (ALes.refl _) (hr _ _ _ _ _ _ _ _ hf) (by simp [K3]) ?_
    rintro r s' o' ⟨rfl, rfl, es', c', rfl, hf'⟩
    obtain ⟨hq0, hq1⟩ := hQ es' c' _ hf'
    (refine WpXL.go _ rfl rfl fun Y y => ?_); simp only [zb, seval, w20, txtA]; (refine RunTo.fx y (by first | exact trivial | omega | (simp; done) | (simp; omega)) ?_); clear y Y
    refine WpXL.nil ?_
    change WpX _ _ _ _ _ _ _ _
    refine WpX.seq (WpX.region ?_)
    cases he : (e == 0)
    · have he' : (e != 0) = true := by simp only [bne, he]; rfl
      (refine WpXL.go _ rfl rfl fun Y y => ?_); simp only [zb, seval, w20, txtA, he, he']; (refine RunTo.fx y (by first | exact trivial | omega | (simp; done) | (simp; omega)) ?_); clear y Y
      refine WpXL.nil ?_
      change WpX _ _ _ _ _ _ _ _
      (apply WpX.cd; focus constructor)
      refine WpX.seq (WpX.region ?_)
      (refine WpXL.go _ rfl rfl fun Y y => ?_); simp only [zb, seval, w20, txtA, zeroJ, intO, errO]; (refine RunTo.fx y (by first | exact trivial | omega | (simp; done) | (simp; omega)) ?_); clear y Y
      refine WpXL.nil ?_
      change WpX _ _ _ _ _ _ _ _
      refine WpX.ret ?_
      exact ⟨_, rfl, rfl, hq1 he⟩
    · have he' : (e != 0) = false := by simp only [bne, he]; rfl
      (refine WpXL.go _ rfl rfl fun Y y => ?_); simp only [zb, seval, w20, txtA, he, he']; (refine RunTo.fx y (by first | exact trivial | omega | (simp; done) | (simp; omega)) ?_); clear y Y
      refine WpXL.nil ?_
      change WpX _ _ _ _ _ _ _ _
      (apply WpX.cd; focus constructor)
      refine WpX.skip ?_
      exact ⟨_, rfl, rfl, hq0 he⟩
/-- How the loop over the lines ends. -/
def FinS (res : PRes) (ex : Exit) (S : List (Option Ob)) : Prop :=
  ((ex = .normal ∨ ex = .exit 0) ∧ res.num = 0 ∧ res.err = 0 ∧ ∃ a4 a5 T, S = some zeroJ :: some (intO 0) :: some (errO 0) :: jobO res.src noB res.lim res.fu nilS :: a4 :: a5 :: T) ∨
  (ex = .ret ∧ res.src = noB ∧ res.lim = 0 ∧ res.fu = 0 ∧ ∃ T, S = some zeroJ :: some (intO res.num) :: some (errO res.err) :: T)
theorem PRun.split {j : Nat} {t : ByteArray} {i : Nat} {σ : PS} {res : PRes} (h : PRun j t i σ res) : (t = noB ∧ res = ⟨noB, σ.lim, σ.fu, 0, 0⟩) ∨ ∃ ln rest bb, t.size ≤ 70000 ∧ (t.toList == noB.toList) = false ∧ Lib.cut t.data.toList [10] = (ln.data.toList, rest.data.toList, bb) ∧
    (((ln.toList == progS.toList) = true ∧ res = ⟨rest, σ.lim, σ.fu, 0, 0⟩) ∨ ((ln.toList == progS.toList) = false ∧ ∃ (σ' : PS) (e : Int), ReadsTo ln σ σ' e ∧ (((e == 0) = false ∧ res = ⟨noB, 0, 0, i, e⟩) ∨ (e = 0 ∧ ∃ k, j = k + 1 ∧ PRun k rest (i + 1) σ' res)))) := by
  cases h with
  | done i σ => exact .inl ⟨rfl, rfl⟩
  | prog hs hne hcut => exact .inr ⟨_, _, _, hs, hne, hcut, .inl ⟨by kernel_rfl, rfl⟩⟩
  | bad hs hne hcut hl hr he => exact .inr ⟨_, _, _, hs, hne, hcut, .inr ⟨hl, _, _, hr, .inl ⟨he, rfl⟩⟩⟩
  | line hs hne hcut hl hr hk => exact .inr ⟨_, _, _, hs, hne, hcut, .inr ⟨hl, _, _, hr, .inr ⟨rfl, _, rfl, hk⟩⟩⟩
def RndQ (res : PRes) (b : Nat) (t rest : ByteArray) (i j : Nat) (e : Exit) (S : List (Option Ob)) (o' : Obj) : Prop :=
  ((e = .exit 0 ∨ e = .ret) ∧ FinS res e S) ∨ (e = .normal ∧ ∃ (σ' : PS) (es' : Array MapEntry) (c' k : Nat) (a6 : Ob), S = [some zeroJ, some (intO 0), some (errO 0), σ'.job, some (stoodO b), boxS t, some a6] ∧ o' = .map es' c' ∧ MFit Tryd.prog 9 3 (.map es' c') σ'.n σ'.D ∧ j = k + 1 ∧ PRun k rest (i + 1) σ' res)
def IterI (res : PRes) (k0 : Nat) (b l D : Nat) (fn : FuncId) (tm : Array Value) (ac bd : Code) (j : Nat) (st : St) (g : Gs) : Prop := ∃ (t : ByteArray) (i : Nat) (σ : PS) (es : Array MapEntry) (c : Nat), PRun j t i σ res ∧ i + j ≤ k0 + 1 ∧ MFit Tryd.prog 9 3 (.map es c) σ.n σ.D ∧
  st = ⟨[(3, .one (.v (.int .i64 i))), (0, .one (.v (.func (.yield l) #[] #[]))), (1, .one (.ptr 5 1 0 0))], [some zeroJ, some (intO 0), some (errO 0), σ.job, some (stoodO b), boxS t]⟩ ∧ g = ⟨[], K3 b (.map es c) l (recL .ready none fn tm [17, 18] ac bd D) D⟩
theorem iter_ok (ac bd : Code) (hR : RoundC ac bd) (s : ByteArray) (k0 : Nat) (res : PRes) (h : PRun k0 s 1 ⟨0, 0, 0, .map []⟩ res) (hk0 : k0 ≤ 70000) (b l D : Nat) (es0 : Array MapEntry) (c0 : Nat) (hf0 : MFit Tryd.prog 9 3 (.map es0 c0) 0 (.map [])) (fn : FuncId) (tm : Array Value) (htm : tm.size = 35) (cI : Code) (hcI : Tryd.f37.body = some cI) :
    WpX Tryd.prog none (OutOk EO tm) ⟨25, 6⟩ cI (fun e st' g' => (e = .ret ∨ e = .normal) ∧ ∃ o' s j, isMapB o' = true ∧ g' = ⟨[], K3 b o' l (recL s j fn tm [17, 18] ac bd D) D⟩ ∧ (s = .ready ∨ s = .done) ∧ ∃ ex, jumpOf ex = some j ∧ FinS res ex st'.s)
      ⟨[(0, .one (.v (.func (.yield l) #[] #[]))), (1, .one (.ptr 5 1 0 0))], [some zeroJ, some (intO 0), some (errO 0), jobO noB noB 0 0 nilS, some (stoodO b), boxS s]⟩ ⟨[], K3 b (.map es0 c0) l (recL .ready none fn tm [17, 18] ac bd D) D⟩ := by
  cases hcI
  refine WpX.seq (WpX.region ?_)
  (refine WpXL.go _ rfl rfl fun Y y => ?_); simp only [zb, seval, w37, txtA]; (refine RunTo.fx y (by first | exact trivial | omega | (simp; done) | (simp; omega)) ?_); clear y Y
  refine WpXL.nil ?_
  change WpX _ _ _ _ _ _ _ _
  refine WpX.block ?_
  refine WpX.loop (IterI res k0 b l D fn tm ac bd) k0 (Le.refl _ _) ⟨s, 1, _, es0, c0, h, by omega, hf0, rfl, rfl⟩ ?_
  rintro j st g ⟨t, i, σ, es, c, hp, hij, hf, rfl, rfl⟩
  refine WpX.seq (WpX.seq (WpX.region ?_))
  rcases hp.split with ⟨rfl, hres⟩ | ⟨ln, rest, bb, hs, hne, hcut, hcase⟩
  · have hne : (noB.toList == (⟨#[]⟩ : ByteArray).toList) = true := by kernel_rfl
    have hne' : (!(noB.toList == (⟨#[]⟩ : ByteArray).toList)) = false := by rw [hne]; rfl
    (refine WpXL.go _ rfl rfl fun Y y => ?_); simp only [zb, seval, w37, txtA, boxS, hne, hne']; (refine RunTo.fx y (by first | exact trivial | omega | (simp; done) | (simp; omega)) ?_); clear y Y
    refine WpXL.nil ?_
    change WpX _ _ _ _ _ _ _ _
    (apply WpX.cd; focus constructor)
    refine WpX.exit ?_
    exact ⟨.inr rfl, _, .ready, none, rfl, rfl, .inl rfl, .normal, rfl, .inl ⟨.inl rfl, by rw [hres], by rw [hres], _, _, _, by rw [hres]; rfl⟩⟩
  have hne1 : (t.toList == (⟨#[]⟩ : ByteArray).toList) = false := hne
  have hne' : (!(t.toList == (⟨#[]⟩ : ByteArray).toList)) = true := by rw [hne1]; rfl
  have hw2 : IntKind.i64.wrap ((i : Int) + 1) = ((i + 1 : Nat) : Int) := by rw [wrap64 (by omega) (by omega)]; omega
  (refine WpXL.go _ rfl rfl fun Y y => ?_); simp only [zb, seval, w37, txtA, boxS, hne1, hne']; (refine RunTo.fx y (by first | exact trivial | omega | (simp; done) | (simp; omega)) ?_); clear y Y
  refine WpXL.nil ?_
  change WpX _ _ _ _ _ _ _ _
  (apply WpX.cd; focus constructor)
  refine WpX.skip ?_
  change WpX _ _ _ _ _ _ _ _
  refine WpX.seq (WpX.block ?_)
  refine WpX.seq (WpX.region ?_)
  (refine WpXL.go _ rfl rfl fun Y y => ?_); simp only [zb, seval, w37, txtA, boxS]; (refine RunTo.fx y (by first | exact trivial | omega | (simp; done) | (simp; omega)) ?_); clear y Y
  refine WpXL.call rfl (guardA_sound (P := Tryd.prog) rfl) (CallA.shut rfl rfl (by kernel_rfl) (ALes.refl _) rfl (cutTo hs hcut) ?_)
  (refine WpXL.go _ rfl rfl fun Y y => ?_); simp only [zb, seval, w37, txtA]; (refine RunTo.fx y (by first | exact trivial | omega | (simp; done) | (simp; omega)) ?_); clear y Y
  refine WpXL.nil ?_
  change WpX _ _ _ _ _ _ _ _
  have hpl0 : placeI Tryd.prog 67 0 = none := by kernel_rfl
  refine WpX.seq (WpX.seq (WpX.region ?_))
  (refine WpXL.go _ rfl rfl fun Y y => ?_); simp only [zb, seval, w37, txtA, hpl0]; (refine RunTo.fx y (by first | exact trivial | omega | (simp; done) | (simp; omega)) ?_); clear y Y
  refine WpXL.op rfl (fun c e => by cases e) (guardA_sound (P := Tryd.prog) rfl) (OpA.buildArr (parts := [(0, .tmp 19), (1, .tmp 20)]) rfl zer_67 arr_67 rfl) ?_
  have hcase' : ((ln.toList == progS.toList) = true ∧ ∀ a6, RndQ res b t rest i j (.exit 0) [some zeroJ, some (intO 0), some (errO 0), jobO rest noB σ.lim σ.fu nilS, some (stoodO b), boxS t, some a6] (.map es c)) ∨
   ((ln.toList == progS.toList) = false ∧ ∃ (σ' : PS) (e : Int), ReadsTo ln σ σ' e ∧ ∀ es' c' a6, MFit Tryd.prog 9 3 (.map es' c') σ'.n σ'.D → (((e == 0) = true → RndQ res b t rest i j .normal [some zeroJ, some (intO 0), some (errO 0), σ'.job, some (stoodO b), boxS t, some a6] (.map es' c')) ∧ ((e == 0) = false → RndQ res b t rest i j .ret [some zeroJ, some (intO i), some (errO e), σ'.job, some (stoodO b), boxS t, some a6] (.map es' c')))) := by
    rcases hcase with ⟨h1, h2⟩ | ⟨h1, σ', e, hr, h2⟩
    · exact .inl ⟨h1, fun a6 => .inl ⟨.inl rfl, .inl ⟨.inr rfl, by rw [h2], by rw [h2], _, _, _, by rw [h2]⟩⟩⟩
    · refine .inr ⟨h1, σ', e, hr, fun es' c' a6 hf' => ⟨fun he => ?_, fun he => ?_⟩⟩
      · rcases h2 with ⟨h2, -⟩ | ⟨-, k, h3, h4⟩
        · rw [h2] at he; cases he
        · exact .inr ⟨rfl, σ', es', c', k, a6, rfl, rfl, hf', h3, h4⟩
      · rcases h2 with ⟨-, h2⟩ | ⟨h2, -⟩
        · exact .inl ⟨.inr rfl, .inr ⟨rfl, by rw [h2], by rw [h2], by rw [h2], _, by rw [h2]⟩⟩
        · subst h2; cases he
  refine WpXL.yield (nto := 35) (l := l) (D := D) (b := b) (o := .map es c) (fn := fn) (tm := tm) (ps := [17, 18]) (ac := ac) (bd := bd) (eo := EO) (xs := [.one (.v (.int .i64 i)), .agg [.v (.string ln), .v (.string rest)]]) ?_ ?_ ?_ rfl (by decide) htm rfl (fun _ h => h) ?_
  · rfl
  · rfl
  · rfl
  intro n0
  refine (hR n0 l D fn tm b es c t i ln rest σ hf (RndQ res b t rest i j) hcase').mono ?_
  rintro e1 st1 g1 ⟨he1, o1, hm1, hg1, hb1⟩
  refine ⟨he1, o1, hm1, hg1, hb1.mono ?_⟩
  rintro e2 st2 g2 ⟨o2, hm2, hg2, hq⟩
  refine ⟨o2, hm2, hg2, ?_⟩
  rcases hq with ⟨he2, hfin⟩ | ⟨rfl, σ', es', c', k, a6, hS, rfl, hf', rfl, hrun⟩
  · obtain ⟨q, hj⟩ : ∃ q, jumpOf e2 = some (some q) := by rcases he2 with rfl | rfl <;> exact ⟨_, rfl⟩
    refine ⟨_, hj, ?_⟩
    (refine WpXL.go _ rfl rfl fun Y y => ?_); simp only [zb, seval, w37, txtA]; (refine RunTo.fx y (by first | exact trivial | omega | (simp; done) | (simp; omega)) ?_); clear y Y
    refine WpXL.nil ?_
    change WpX _ _ _ _ _ _ _ _
    (apply WpX.cd; focus constructor)
    refine WpX.ret ?_
    exact ⟨.inl rfl, _, .done, _, hm2, rfl, .inr rfl, e2, hj, hfin⟩
  · refine ⟨none, rfl, ?_⟩
    rw [hS]
    (refine WpXL.go _ rfl rfl fun Y y => ?_); simp only [zb, seval, w37, txtA]; (refine RunTo.fx y (by first | exact trivial | omega | (simp; done) | (simp; omega)) ?_); clear y Y
    refine WpXL.nil ?_
    change WpX _ _ _ _ _ _ _ _
    (apply WpX.cd; focus constructor)
    refine WpX.skip ?_
    change WpX _ _ _ _ _ _ _ _
    refine WpX.region ?_
    (refine WpXL.go _ rfl rfl fun Y y => ?_); simp only [zb, seval, w37, txtA, boxS]; (refine RunTo.fx y (by first | exact trivial | omega | (simp; done) | (simp; omega)) ?_); clear y Y
    refine WpXL.nil ?_
    change WpX _ _ _ _ _ _ _ _
    refine WpX.region ?_
    (refine WpXL.go _ rfl rfl fun Y y => ?_); simp only [zb, seval, w37, txtA, hw2]; (refine RunTo.fx y (by first | exact trivial | omega | (simp; done) | (simp; omega)) ?_); clear y Y
    refine WpXL.nil ?_
    refine ⟨k, _, Nat.lt_succ_self k, Le.names [0, 1, 2, 3, 4, 5] (Handed.of (by decide) ?_) ?_ ?_, rest, i + 1, σ', es', c', hrun, by omega, hf', rfl, rfl⟩
    · rfl
    · intro q hq
      have : q < 6 := hq
      match q, this with
      | 0, _ => rfl
      | 1, _ => rfl
      | 2, _ => rfl
      | 3, _ => rfl
      | 4, _ => rfl
      | 5, _ => rfl
    · simp [SubR, find, A.ren, C.ren, rn]
theorem parse_pure (s : ByteArray) (hs : s.size ≤ 65536) (k0 : Nat) (res : PRes) (h : PRun k0 s 1 ⟨0, 0, 0, .map []⟩ res) (hk0 : k0 ≤ 70000) :
    Pure Tryd.prog 20 [.one (.v (.string s))] (.tup [.agg [.v (.string res.src), .v (.string noB), .v (.int .i64 res.lim), .v (.int .i64 res.fu), nilS], .one (.v (.int .i64 res.num)), .one (.v (.int .i64 res.err))]) := by
  have hd0 : decide ((s.size : Int) > 65536) = false := by simp; omega
  refine Fn.introX Tryd.func20 rfl Tryd.ntmps20 Tryd.results20 (by simp only [List.length_cons, List.length_nil]; decide) ?_
  refine WpX.seq (WpX.ofB ?_)
  repeat (first | (apply fw; focus ((with_reducible constructor) <;> rfl)) | (apply WpA.cd; focus constructor) | ((first | with_reducible refine WpA.go _ rfl fun Y y => ?_ | apply RunTo.id); simp only [zb, seval, w20, txtA]; refine RunTo.fn y (by first | exact trivial | omega | (simp; done) | (simp; omega)) ?_; clear y Y))
  change WpX _ _ _ _ _ _ _ _
  refine WpX.seq (WpX.ofB ?_)
  repeat (first | (apply fw; focus ((with_reducible constructor) <;> rfl)) | (apply WpA.cd; focus constructor) | ((first | with_reducible refine WpA.go _ rfl fun Y y => ?_ | apply RunTo.id); simp only [zb, seval, w20, txtA, hd0]; refine RunTo.fn y (by first | exact trivial | omega | (simp; done) | (simp; omega)) ?_; clear y Y))
  change WpX _ _ _ _ _ _ _ _
  refine WpX.seq (WpX.ofB ?_)
  repeat (first | (apply fw; focus ((with_reducible constructor) <;> rfl)) | (apply WpA.cd; focus constructor) | ((first | with_reducible refine WpA.go _ rfl fun Y y => ?_ | apply RunTo.id); simp only [zb, seval, w20, txtA]; refine RunTo.fn y (by first | exact trivial | omega | (simp; done) | (simp; omega)) ?_; clear y Y))
  change WpX _ _ _ _ _ _ _ _
  refine WpX.seq (WpX.region ?_)
  refine WpXL.makeMap rfl fun b => ?_
  (refine WpXL.go _ rfl rfl fun Y y => ?_); simp only [zb, seval, w20, txtA]; (refine RunTo.fx y (by first | exact trivial | omega | (simp; done) | (simp; omega)) ?_); clear y Y
  refine WpXL.nil ?_
  change WpX _ _ _ _ _ _ _ _
  refine WpX.seq (WpX.seq (WpX.region ?_))
  (refine WpXL.go _ rfl rfl fun Y y => ?_); simp only [zb, seval, w20, txtA]; (refine RunTo.fx y (by first | exact trivial | omega | (simp; done) | (simp; omega)) ?_); clear y Y
  refine WpXL.callM rfl (guardA_sound (P := Tryd.prog) rfl) rfl rfl (by kernel_rfl) (ALes.refl _) (FnM.ofFn (lines_fn s _ _ _ _ _)) (by simp) ?_
  rintro r s' o' ⟨⟨rfl, rfl⟩, rfl⟩
  refine WpXL.nil ?_
  change WpX _ _ _ _ _ _ _ _
  refine WpX.block ?_
  refine WpX.range EO rfl Tryd.func37 rfl Tryd.ntmps37 rfl (by kernel_rfl) (by decide) rfl ?heo ?_
  case heo =>
    intro i x hx
    simp only [find, EO] at hx
    repeat' (split at hx)
    all_goals (first | (cases hx; subst_vars; exact ⟨rfl, rfl⟩) | cases hx)
  intro l D fn tm htm
  refine (iter_ok _ _ (round_ok _ _ fun c hc => by cases hc; rfl) s k0 res h hk0 b l D #[] 0 (MFit.made _ _ _) fn tm htm _ rfl).mono ?_
  rintro e st' g' ⟨he, o', sj, j, hm, hg, hsj, ex, hex, hfin⟩
  refine ⟨he, o', sj, j, hm, hg, hsj, ex, hex, ?_⟩
  have hds : ([{ target := .collected D, args := #[] }] : List Deferred) = [] ∨ ∃ D', ([{ target := .collected D, args := #[] }] : List Deferred) = [{ target := .collected D', args := #[] }] ∧ (D', Obj.deferred (some [])) ∈ [(b, o'), (D, .deferred (some []))] := .inr ⟨D, rfl, by simp⟩
  rcases hfin with ⟨hex2, hn, he0, a4, a5, T, hS⟩ | ⟨rfl, h1, h2, h3, T, hS⟩
  · rw [hS]
    rcases hex2 with rfl | rfl
    all_goals
      change WpX _ _ _ _ _ _ _ _
      refine WpX.seq (WpX.region ?_)
      (refine WpXL.go _ rfl rfl fun Y y => ?_); simp only [zb, seval, w20, txtA, zeroJ, intO, errO, jobO]; (refine RunTo.fx y (by first | exact trivial | omega | (simp; done) | (simp; omega)) ?_); clear y Y
      refine WpXL.nil ?_
      change WpX _ _ _ _ _ _ _ _
      refine WpX.ret ?_
      rw [hn, he0]
      exact ⟨.inl rfl, hds, _, _, _, _, (by simp only [zb, seval, w20, zeroJ, intO, errO, jobO]; rfl), by simp, (by simp only [zv]; rfl), by simp, _, ALe.refl _, rfl⟩
  · rw [hS, h1, h2, h3]
    exact ⟨.inl rfl, hds, _, _, _, _, (by simp only [zb, seval, w20, zeroJ, intO, errO, jobO]; rfl), by simp, (by simp only [zv]; rfl), by simp, _, ALe.refl _, rfl⟩
def ex1 : ByteArray := ⟨#[108, 105, 109, 105, 116, 32, 49, 54, 10, 102, 117, 101, 108, 32, 49, 48, 48, 10, 112, 114, 111, 103, 114, 97, 109, 10, 40, 99, 97, 114, 32, 50, 41, 10]⟩
def ex1b : ByteArray := ⟨#[102, 117, 101, 108, 32, 49, 48, 48, 10, 112, 114, 111, 103, 114, 97, 109, 10, 40, 99, 97, 114, 32, 50, 41, 10]⟩
def ex1c : ByteArray := ⟨#[112, 114, 111, 103, 114, 97, 109, 10, 40, 99, 97, 114, 32, 50, 41, 10]⟩
def ex1d : ByteArray := ⟨#[40, 99, 97, 114, 32, 50, 41, 10]⟩
def ex2 : ByteArray := ⟨#[108, 105, 109, 105, 116, 32, 49, 54, 10, 108, 105, 109, 105, 116, 32, 49, 54, 10]⟩
def ex2b : ByteArray := ⟨#[108, 105, 109, 105, 116, 32, 49, 54, 10]⟩
def lim16 : ByteArray := ⟨#[108, 105, 109, 105, 116, 32, 49, 54]⟩
def fuel100 : ByteArray := ⟨#[102, 117, 101, 108, 32, 49, 48, 48]⟩
def t16 : ByteArray := ⟨#[49, 54]⟩
def t100 : ByteArray := ⟨#[49, 48, 48]⟩
def D1 : DataW Unit := (DataW.map []).put (.string limitS.data.toList) (.lit (.int .i64 (0 + 1)))
def D2 : DataW Unit := D1.put (.string fuelS.data.toList) (.lit (.int .i64 (0 + 1)))
theorem lim16_first (lim fu : Int) : ReadsTo lim16 ⟨lim, fu, 0, .map []⟩ ⟨16, fu, 1, D1⟩ 0 := fun b o o0 o1 o2 o4 o5 o6 hf =>
  reads_limit b o 0 (.map []) lim16 t16 16 0 noB noB lim fu nilS o0 o1 o2 o4 o5 o6 (by decide) (by kernel_rfl) 108 rfl (by decide) (by kernel_rfl) (by kernel_rfl) (by constructor <;> decide) (by kernel_rfl) hf (by decide) (by kernel_rfl) (.inl rfl) ⟨_, rfl⟩ (by decide)
theorem fuel100_first (lim fu : Int) : ReadsTo fuel100 ⟨lim, fu, 1, D1⟩ ⟨lim, 100, 2, D2⟩ 0 := fun b o o0 o1 o2 o4 o5 o6 hf =>
  reads_fuel b o 1 D1 fuel100 t100 100 0 noB noB lim fu nilS o0 o1 o2 o4 o5 o6 (by decide) (by kernel_rfl) 102 rfl (by decide) (by kernel_rfl) (by kernel_rfl) (by constructor <;> decide) (by kernel_rfl) hf (by decide) (by kernel_rfl) (.inl rfl) ⟨_, rfl⟩ (by decide)
theorem lim16_again (lim fu : Int) : ReadsTo lim16 ⟨lim, fu, 1, D1⟩ ⟨16, fu, 2, D1.put (.string limitS.data.toList) (.lit (.int .i64 (1 + 1)))⟩ 9 := fun b o o0 o1 o2 o4 o5 o6 hf =>
  reads_limit b o 1 D1 lim16 t16 16 1 noB noB lim fu nilS o0 o1 o2 o4 o5 o6 (by decide) (by kernel_rfl) 108 rfl (by decide) (by kernel_rfl) (by kernel_rfl) (by constructor <;> decide) (by kernel_rfl) hf (by decide) (by kernel_rfl) (.inr rfl) ⟨_, rfl⟩ (by decide)
theorem run1 : PRun 2 ex1 1 ⟨0, 0, 0, .map []⟩ ⟨ex1d, 16, 100, 0, 0⟩ :=
  .line (l := lim16) (rest := ex1b) (bb := true) (by decide) (by kernel_rfl) (by kernel_rfl) (by kernel_rfl) (lim16_first 0 0)
    (.line (l := fuel100) (rest := ex1c) (bb := true) (by decide) (by kernel_rfl) (by kernel_rfl) (by kernel_rfl) (fuel100_first 16 0)
      (.prog (rest := ex1d) (bb := true) (by decide) (by kernel_rfl) (by kernel_rfl)))
theorem run2 : PRun 1 ex2 1 ⟨0, 0, 0, .map []⟩ ⟨noB, 0, 0, 2, 9⟩ :=
  .line (l := lim16) (rest := ex2b) (bb := true) (by decide) (by kernel_rfl) (by kernel_rfl) (by kernel_rfl) (lim16_first 0 0)
    (.bad (l := lim16) (rest := noB) (bb := true) (by decide) (by kernel_rfl) (by kernel_rfl) (by kernel_rfl) (lim16_again 16 0) (by decide))
theorem parse_ex1 : Pure Tryd.prog 20 [.one (.v (.string ex1))] (.tup [.agg [.v (.string ex1d), .v (.string noB), .v (.int .i64 16), .v (.int .i64 100), nilS], .one (.v (.int .i64 0)), .one (.v (.int .i64 0))]) := parse_pure ex1 (by decide) 2 _ run1 (by decide)
theorem parse_ex2 : Pure Tryd.prog 20 [.one (.v (.string ex2))] (.tup [.agg [.v (.string noB), .v (.string noB), .v (.int .i64 0), .v (.int .i64 0), nilS], .one (.v (.int .i64 2)), .one (.v (.int .i64 9))]) := parse_pure ex2 (by decide) 1 _ run2 (by decide)
end Go.Proofs.YtdcmihhcpgkgiaaDoor
end
