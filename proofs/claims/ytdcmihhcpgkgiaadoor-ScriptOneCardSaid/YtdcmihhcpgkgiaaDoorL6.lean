/-
  Laid together: NumsG27, UnB27, ReadsG27, ReadsH27, ReadsC27.
-/
import Derived.Test.YtdcmihhcpgkgiaaDoorG6
import Derived.Test.YtdcmihhcpgkgiaaDoorGB
import Derived.Lib.ParseIntBTie
import Derived.Test.YtdcmihhcpgkgiaaDoorL5

section
namespace Go.Proofs.YtdcmihhcpgkgiaaDoor
open Go Go.RowKit Go.Lib
set_option linter.unusedSimpArgs false
set_option linter.unusedVariables false
set_option maxHeartbeats 4000000
set_option maxRecDepth 100000
theorem WpL.rel {P : Program} {nt : Cf} {ops : Array Oper} {Q : St → Prop} {rest : List Oper} {e : List (Nat × A)} {S : List (Option Ob)} {d : Option Tmp} {args : List Operand} {tys : Array TypeId} {ty : TypeId} {pos : String} {aft : Array Edge} {f : FuncId} {xs : List A} {R : A → Prop}
    (hfn : Fn P f xs [] (fun r s' => R r ∧ s' = [])) (hd : fits nt d = true) (ha : rdAs e args = some xs) (hc : callable P f = true) (hx : ∀ g, A.rens g xs = xs) (hR : ∀ r, R r → ∀ g, r.ren g = r)
    (h : ∀ r, R r → WpL P nt ops Q rest (St.put ⟨e, S⟩ d r)) : WpL P nt ops Q (⟨d, .call { callee := .value (.func f), args := args.toArray, argTypes := tys }, ty, pos, aft, none⟩ :: rest) ⟨e, S⟩ := by
  refine WpL.hand (s := []) (ρ := []) (xs' := xs) hd wanted_none rfl ha hc (by rw [hx]; simp) (Handed.of (by decide) rfl) hfn ?_
  rintro r s' ⟨hr, rfl⟩
  rw [hR r hr]
  simpa [back, mix, putAll] using h r hr
/-- A word that is a number. -/
def numW (w : ByteArray) : Option Int := match Lib.parseIntB 64 w.data.toList with
  | .ok v => if itB v = w then some v else none
  | _ => none
def numsV : List ByteArray → Option (List Int)
  | [] => some []
  | w :: ws => match numW w with
    | none => none
    | some v => (numsV ws).map (v :: ·)
def sC (ws : List ByteArray) : List (List C) := ws.map fun w => [.v (.string w)]
theorem sC_len (l : List ByteArray) : (sC l).length = l.length := by simp [sC]
theorem sC_get {l : List ByteArray} {k : Nat} (h : k < l.length) : (sC l)[k]? = some [.v (.string l[k])] := by simp [sC, h]
theorem numW_ok {w : ByteArray} {v : Int} (h : numW w = some v) : I64 v := by
  unfold numW at h
  split at h
  · rename_i u hu
    split at h
    · cases h
      have := Lib.parseIntB_bounds hu
      constructor <;> omega
    · cases h
  · cases h
theorem numsV_ok : ∀ {ws : List ByteArray} {l : List Int}, numsV ws = some l → l.length = ws.length ∧ ∀ n ∈ l, I64 n
  | [], l, h => by cases h; simp
  | w :: ws, l, h => by
    unfold numsV at h
    split at h
    · cases h
    · rename_i v hv
      cases hn : numsV ws with
      | none => rw [hn] at h; cases h
      | some k =>
        rw [hn] at h
        simp only [Option.map_some, Option.some.injEq] at h
        subst h
        have := numsV_ok hn
        refine ⟨by simp [this.1], fun n hn => ?_⟩
        rcases List.mem_cons.1 hn with rfl | hn
        · exact numW_ok hv
        · exact this.2 n hn
def numT (ws : List ByteArray) (n : Int) : A := match numsV ws with
  | none => .tup [.one (.sl 1 []), .one (.v (.bool false))]
  | some l => .tup [.one (.sl 1 (nC l)), .one (.v (.bool ((l.length : Int) == n)))]
def NsI (ws : List ByteArray) (n : Int) (N : Nat) (st : St) : Prop := ∃ (k : Nat) (l : List Int), N = ws.length - k ∧ k ≤ ws.length ∧ l.length = k ∧ numsV ws = (numsV (ws.drop k)).map (l ++ ·) ∧
  ((k = 0 ∧ st = ⟨[(13, .one (.v (.int .i64 k))), (12, .one (.v (.int .i64 ws.length))), (11, .one (.sl 1 (sC ws))), (6, .one (.v (.slice none 0 0))), (1, .one (.v (.int .i64 n)))], []⟩) ∨
   (0 < k ∧ st = ⟨[(13, .one (.v (.int .i64 k))), (12, .one (.v (.int .i64 ws.length))), (11, .one (.sl 1 (sC ws))), (6, .one (.ms 0 k)), (1, .one (.v (.int .i64 n)))], [some ⟨3, 1, nC l⟩]⟩))
theorem nC_snoc (l : List Int) (v : Int) : nC (l ++ [v]) = nC l ++ [[.v (.int .i64 v)]] := by simp [nC]
theorem numbers_pure (ws : List ByteArray) (n : Int) (hl : ws.length ≤ 100000) (hz : ∀ w ∈ ws, w.size ≤ 70000) : Pure Tryd.prog 41 [.one (.sl 1 (sC ws)), .one (.v (.int .i64 n))] (numT ws n) := by
  have hsl := sC_len ws
  have hX : ALe (.tup [.one (.v (.slice none 0 0)), .one (.v (.bool false))]) (.tup [.one (.sl 1 []), .one (.v (.bool false))]) := ALe.tup (ALes.cons ALe.nil (ALes.refl _))
  refine Fn.intro Tryd.func41 rfl Tryd.ntmps41 Tryd.results41 (by simp only [List.length_cons, List.length_nil]; decide) ?_
  repeat (first | (apply fw; focus ((with_reducible constructor) <;> rfl)) | (apply WpA.cd; focus constructor) | ((first | with_reducible refine WpA.go _ rfl fun Y y => ?_ | apply RunTo.id); simp only [zb, seval, w41, txtA, hsl]; refine RunTo.fn y (by first | exact trivial | omega | (simp; done) | (simp; omega)) ?_; clear y Y))
  refine WpA.loop (NsI ws n) ws.length ?_ ⟨0, [], rfl, Nat.zero_le _, rfl, by simp, .inl ⟨rfl, rfl⟩⟩ ?_
  · exact Le.sub (by simp [Sub, find])
  intro n' st hI
  obtain ⟨k, l, rfl, hk, hlk, hV, hI⟩ := hI
  have hw2 : IntKind.i64.wrap ((k : Int) + 1) = ((k + 1 : Nat) : Int) := by rw [wrap64 (by omega) (by omega)]; omega
  have hnl := nC_len l
  by_cases hlt : k < ws.length
  case neg =>
    have hd0 : decide ((k : Int) < (ws.length : Int)) = false := decide_eq_false (by omega)
    have hR : numT ws n = .tup [.one (.sl 1 (nC l)), .one (.v (.bool ((l.length : Int) == n)))] := by
      rw [numT, hV, List.drop_eq_nil_of_le (by omega)]
      simp [numsV]
    rw [hR]
    rcases hI with ⟨hk0, rfl⟩ | ⟨hk0, rfl⟩
    · obtain rfl : l = [] := List.eq_nil_of_length_eq_zero (by omega)
      repeat (first | (apply fw; focus ((with_reducible constructor) <;> rfl)) | (apply WpA.cd; focus constructor) | ((first | with_reducible refine WpA.go _ rfl fun Y y => ?_ | apply RunTo.id); simp only [zb, seval, w41, txtA, hd0]; refine RunTo.fn y (by first | exact trivial | omega | (simp; done) | (simp; omega)) ?_; clear y Y))
      refine ⟨by simp, _, _, _, _, (by simp only [zb, seval, w41]; rfl), (by simp), (by simp only [zv]; rfl), (by simp), _, (ALe.tup (ALes.cons ALe.nil (ALes.refl _))), rfl⟩
    · refine WpA.le (Le.frzLast (S := []) (t := 3) [(6, .one (.sl 1 (nC l))), (13, .one (.v (.int .i64 k))), (12, .one (.v (.int .i64 ws.length))), (1, .one (.v (.int .i64 n)))] (nC_shut l) (Nat.zero_le _) ⟨⟨_, rfl, FzA.last rfl (by omega)⟩, ⟨_, rfl, .inl rfl⟩, ⟨_, rfl, .inl rfl⟩, ⟨_, rfl, .inl rfl⟩, trivial⟩ (by simp [Sub, find]) (by simp [envBd, A.bd, C.bd]) (by simp [ObBd])) ?_
      repeat (first | (apply fw; focus ((with_reducible constructor) <;> rfl)) | (apply WpA.cd; focus constructor) | ((first | with_reducible refine WpA.go _ rfl fun Y y => ?_ | apply RunTo.id); simp only [zb, seval, w41, txtA, hd0, hnl]; refine RunTo.fn y (by first | exact trivial | omega | (simp; done) | (simp; omega)) ?_; clear y Y))
      refine ⟨by simp, _, _, _, _, (by simp only [zb, seval, w41]; rfl), (by simp), (by simp only [zv]; rfl), (by simp), _, ALe.refl _, ?_⟩
      rfl
  have hd1 : decide ((k : Int) < (ws.length : Int)) = true := decide_eq_true (by omega)
  have hga := sC_get hlt
  have hwz := hz ws[k] (by simp)
  have hdr : ws.drop k = ws[k] :: ws.drop (k + 1) := by rw [List.drop_eq_getElem_cons hlt]
  rw [hdr, numsV] at hV
  generalize ws[k] = w at *
  have hpf := parseInt_fn w (by omega)
  cases hp : Lib.parseIntB 64 w.data.toList with
  | ok v =>
    have hb := Lib.parseIntB_bounds hp
    have hv : I64 v := by constructor <;> omega
    have hpi := parseInt_ok w v (by omega) hp
    have hfi : Pure Tryd.prog 47 [.one (.v (.int .i64 v)), .one (.v (.int .i64 10))] (.one (.v (.string (itB v)))) := formatInt_pure v hv.1 hv.2
    by_cases hit : itB v = w
    · have hW : numW w = some v := by rw [numW, hp]; exact if_pos hit
      rw [hW] at hV
      have hne : (!((itB v).toList == w.toList)) = false := by rw [strDec, decide_eq_true hit]; rfl
      have hV' : numsV ws = (numsV (ws.drop (k + 1))).map ((l ++ [v]) ++ ·) := by
        rw [hV]; cases numsV (ws.drop (k + 1)) <;> simp
      rcases hI with ⟨hk0, rfl⟩ | ⟨hk0, rfl⟩
      · obtain rfl : l = [] := List.eq_nil_of_length_eq_zero (by omega)
        repeat (first | (apply fw; focus ((with_reducible constructor) <;> rfl)) | (apply WpA.cd; focus constructor) | ((first | with_reducible refine WpA.go _ rfl fun Y y => ?_ | apply RunTo.id); simp only [zb, seval, w41, txtA, hd1, hga]; refine RunTo.fn y (by first | exact trivial | omega | (simp; done) | (simp; omega)) ?_; clear y Y))
        refine WpL.call rfl (guardA_sound (P := Tryd.prog) rfl) (CallA.shut rfl rfl (by kernel_rfl) (ALes.refl _) (by first | rfl | simp [shuts, A.shut, C.shut]) (hpi) ?_)
        (refine WpL.go _ rfl fun Y y => ?_); repeat (first | (apply fw; focus ((with_reducible constructor) <;> rfl)) | (apply WpA.cd; focus constructor) | ((first | with_reducible refine WpA.go _ rfl fun Y y => ?_ | apply RunTo.id); simp only [zb, seval, w41, txtA]; refine RunTo.fn y (by first | exact trivial | omega | (simp; done) | (simp; omega)) ?_; clear y Y))
        refine WpL.neqNil rfl rfl rfl Tryd.underlying87 ?_
        (refine WpL.go _ rfl fun Y y => ?_); repeat (first | (apply fw; focus ((with_reducible constructor) <;> rfl)) | (apply WpA.cd; focus constructor) | ((first | with_reducible refine WpA.go _ rfl fun Y y => ?_ | apply RunTo.id); simp only [zb, seval, w41, txtA]; refine RunTo.fn y (by first | exact trivial | omega | (simp; done) | (simp; omega)) ?_; clear y Y))
        refine WpL.call rfl (guardA_sound (P := Tryd.prog) rfl) (CallA.shut rfl rfl (by kernel_rfl) (ALes.refl _) (by first | rfl | simp [shuts, A.shut, C.shut]) (hfi) ?_)
        (refine WpL.go _ rfl fun Y y => ?_); repeat (first | (apply fw; focus ((with_reducible constructor) <;> rfl)) | (apply WpA.cd; focus constructor) | ((first | with_reducible refine WpA.go _ rfl fun Y y => ?_ | apply RunTo.id); simp only [zb, seval, w41, txtA, hne, hw2]; refine RunTo.fn y (by first | exact trivial | omega | (simp; done) | (simp; omega)) ?_; clear y Y))
        refine ⟨ws.length - (k + 1), ⟨[(13, .one (.v (.int .i64 (k + 1 : Nat)))), (12, .one (.v (.int .i64 ws.length))), (11, .one (.sl 1 (sC ws))), (6, .one (.ms 0 (k + 1))), (1, .one (.v (.int .i64 n)))], [some ⟨3, 1, [[.v (.int .i64 v)]]⟩]⟩, by omega, ?_, k + 1, [v], rfl, hlt, by simp; omega, hV', .inr ⟨by omega, rfl⟩⟩
        subst hk0
        exact Le.names [1] (Handed.of (by decide) rfl) (fun i hi => absurd hi (Nat.not_lt_zero _)) (by simp [SubR, find, A.ren, C.ren, rn])
      · repeat (first | (apply fw; focus ((with_reducible constructor) <;> rfl)) | (apply WpA.cd; focus constructor) | ((first | with_reducible refine WpA.go _ rfl fun Y y => ?_ | apply RunTo.id); simp only [zb, seval, w41, txtA, hd1, hga]; refine RunTo.fn y (by first | exact trivial | omega | (simp; done) | (simp; omega)) ?_; clear y Y))
        refine WpL.call rfl (guardA_sound (P := Tryd.prog) rfl) (CallA.shut rfl rfl (by kernel_rfl) (ALes.refl _) (by first | rfl | simp [shuts, A.shut, C.shut]) (hpi) ?_)
        (refine WpL.go _ rfl fun Y y => ?_); repeat (first | (apply fw; focus ((with_reducible constructor) <;> rfl)) | (apply WpA.cd; focus constructor) | ((first | with_reducible refine WpA.go _ rfl fun Y y => ?_ | apply RunTo.id); simp only [zb, seval, w41, txtA]; refine RunTo.fn y (by first | exact trivial | omega | (simp; done) | (simp; omega)) ?_; clear y Y))
        refine WpL.neqNil rfl rfl rfl Tryd.underlying87 ?_
        (refine WpL.go _ rfl fun Y y => ?_); repeat (first | (apply fw; focus ((with_reducible constructor) <;> rfl)) | (apply WpA.cd; focus constructor) | ((first | with_reducible refine WpA.go _ rfl fun Y y => ?_ | apply RunTo.id); simp only [zb, seval, w41, txtA]; refine RunTo.fn y (by first | exact trivial | omega | (simp; done) | (simp; omega)) ?_; clear y Y))
        refine WpL.call rfl (guardA_sound (P := Tryd.prog) rfl) (CallA.shut rfl rfl (by kernel_rfl) (ALes.refl _) (by first | rfl | simp [shuts, A.shut, C.shut]) (hfi) ?_)
        (refine WpL.go _ rfl fun Y y => ?_); repeat (first | (apply fw; focus ((with_reducible constructor) <;> rfl)) | (apply WpA.cd; focus constructor) | ((first | with_reducible refine WpA.go _ rfl fun Y y => ?_ | apply RunTo.id); simp only [zb, seval, w41, txtA, hne, hw2, hnl, hlk]; refine RunTo.fn y (by first | exact trivial | omega | (simp; done) | (simp; omega)) ?_; clear y Y))
        refine ⟨ws.length - (k + 1), ⟨[(13, .one (.v (.int .i64 (k + 1 : Nat)))), (12, .one (.v (.int .i64 ws.length))), (11, .one (.sl 1 (sC ws))), (6, .one (.ms 0 (k + 1))), (1, .one (.v (.int .i64 n)))], [some ⟨3, 1, nC l ++ [[.v (.int .i64 v)]]⟩]⟩, by omega, ?_, k + 1, l ++ [v], rfl, hlt, by simp; omega, hV', .inr ⟨by omega, by rw [nC_snoc]⟩⟩
        exact Le.names [0] (Handed.of (by decide) (by simp [Ob.ren, C.rens, C.ren, nC])) (fun i hi => absurd hi (Nat.not_lt_zero _)) (by simp [SubR, find, A.ren, C.ren, rn])
    · have hW : numW w = none := by rw [numW, hp]; exact if_neg hit
      rw [hW] at hV
      have hR : numT ws n = .tup [.one (.sl 1 []), .one (.v (.bool false))] := by rw [numT, hV]; rfl
      rw [hR]
      have hne : (!((itB v).toList == w.toList)) = true := by rw [strDec, decide_eq_false hit]; rfl
      rcases hI with ⟨hk0, rfl⟩ | ⟨hk0, rfl⟩
      · repeat (first | (apply fw; focus ((with_reducible constructor) <;> rfl)) | (apply WpA.cd; focus constructor) | ((first | with_reducible refine WpA.go _ rfl fun Y y => ?_ | apply RunTo.id); simp only [zb, seval, w41, txtA, hd1, hga]; refine RunTo.fn y (by first | exact trivial | omega | (simp; done) | (simp; omega)) ?_; clear y Y))
        refine WpL.call rfl (guardA_sound (P := Tryd.prog) rfl) (CallA.shut rfl rfl (by kernel_rfl) (ALes.refl _) (by first | rfl | simp [shuts, A.shut, C.shut]) (hpi) ?_)
        (refine WpL.go _ rfl fun Y y => ?_); repeat (first | (apply fw; focus ((with_reducible constructor) <;> rfl)) | (apply WpA.cd; focus constructor) | ((first | with_reducible refine WpA.go _ rfl fun Y y => ?_ | apply RunTo.id); simp only [zb, seval, w41, txtA]; refine RunTo.fn y (by first | exact trivial | omega | (simp; done) | (simp; omega)) ?_; clear y Y))
        refine WpL.neqNil rfl rfl rfl Tryd.underlying87 ?_
        (refine WpL.go _ rfl fun Y y => ?_); repeat (first | (apply fw; focus ((with_reducible constructor) <;> rfl)) | (apply WpA.cd; focus constructor) | ((first | with_reducible refine WpA.go _ rfl fun Y y => ?_ | apply RunTo.id); simp only [zb, seval, w41, txtA]; refine RunTo.fn y (by first | exact trivial | omega | (simp; done) | (simp; omega)) ?_; clear y Y))
        refine WpL.call rfl (guardA_sound (P := Tryd.prog) rfl) (CallA.shut rfl rfl (by kernel_rfl) (ALes.refl _) (by first | rfl | simp [shuts, A.shut, C.shut]) (hfi) ?_)
        (refine WpL.go _ rfl fun Y y => ?_); repeat (first | (apply fw; focus ((with_reducible constructor) <;> rfl)) | (apply WpA.cd; focus constructor) | ((first | with_reducible refine WpA.go _ rfl fun Y y => ?_ | apply RunTo.id); simp only [zb, seval, w41, txtA, hne]; refine RunTo.fn y (by first | exact trivial | omega | (simp; done) | (simp; omega)) ?_; clear y Y))
        refine ⟨by simp, _, _, _, _, (by simp only [zb, seval, w41]; rfl), (by simp), (by simp only [zv]; rfl), (by simp), _, hX, rfl⟩
      · repeat (first | (apply fw; focus ((with_reducible constructor) <;> rfl)) | (apply WpA.cd; focus constructor) | ((first | with_reducible refine WpA.go _ rfl fun Y y => ?_ | apply RunTo.id); simp only [zb, seval, w41, txtA, hd1, hga]; refine RunTo.fn y (by first | exact trivial | omega | (simp; done) | (simp; omega)) ?_; clear y Y))
        refine WpL.call rfl (guardA_sound (P := Tryd.prog) rfl) (CallA.shut rfl rfl (by kernel_rfl) (ALes.refl _) (by first | rfl | simp [shuts, A.shut, C.shut]) (hpi) ?_)
        (refine WpL.go _ rfl fun Y y => ?_); repeat (first | (apply fw; focus ((with_reducible constructor) <;> rfl)) | (apply WpA.cd; focus constructor) | ((first | with_reducible refine WpA.go _ rfl fun Y y => ?_ | apply RunTo.id); simp only [zb, seval, w41, txtA]; refine RunTo.fn y (by first | exact trivial | omega | (simp; done) | (simp; omega)) ?_; clear y Y))
        refine WpL.neqNil rfl rfl rfl Tryd.underlying87 ?_
        (refine WpL.go _ rfl fun Y y => ?_); repeat (first | (apply fw; focus ((with_reducible constructor) <;> rfl)) | (apply WpA.cd; focus constructor) | ((first | with_reducible refine WpA.go _ rfl fun Y y => ?_ | apply RunTo.id); simp only [zb, seval, w41, txtA]; refine RunTo.fn y (by first | exact trivial | omega | (simp; done) | (simp; omega)) ?_; clear y Y))
        refine WpL.call rfl (guardA_sound (P := Tryd.prog) rfl) (CallA.shut rfl rfl (by kernel_rfl) (ALes.refl _) (by first | rfl | simp [shuts, A.shut, C.shut]) (hfi) ?_)
        (refine WpL.go _ rfl fun Y y => ?_); repeat (first | (apply fw; focus ((with_reducible constructor) <;> rfl)) | (apply WpA.cd; focus constructor) | ((first | with_reducible refine WpA.go _ rfl fun Y y => ?_ | apply RunTo.id); simp only [zb, seval, w41, txtA, hne]; refine RunTo.fn y (by first | exact trivial | omega | (simp; done) | (simp; omega)) ?_; clear y Y))
        refine ⟨by simp, _, _, _, _, (by simp only [zb, seval, w41]; rfl), (by simp), (by simp only [zv]; rfl), (by simp), _, hX, rfl⟩
  | _ =>
    have hW : numW w = none := by rw [numW, hp]
    rw [hW] at hV
    have hR : numT ws n = .tup [.one (.sl 1 []), .one (.v (.bool false))] := by rw [numT, hV]; rfl
    rw [hR]
    rcases hI with ⟨hk0, rfl⟩ | ⟨hk0, rfl⟩
    · repeat (first | (apply fw; focus ((with_reducible constructor) <;> rfl)) | (apply WpA.cd; focus constructor) | ((first | with_reducible refine WpA.go _ rfl fun Y y => ?_ | apply RunTo.id); simp only [zb, seval, w41, txtA, hd1, hga]; refine RunTo.fn y (by first | exact trivial | omega | (simp; done) | (simp; omega)) ?_; clear y Y))
      refine WpL.rel hpf rfl rfl (by kernel_rfl) (fun g => by simp [A.rens, A.ren, C.ren]) (fun r hr g => ?_) ?_
      · unfold ParsesTo at hr
        rw [hp] at hr
        obtain ⟨n9, t9, p9, rfl⟩ := hr
        simp [A.ren, A.rens, C.ren]
      intro r hr
      unfold ParsesTo at hr
      rw [hp] at hr
      obtain ⟨n9, t9, p9, rfl⟩ := hr
      (refine WpL.go _ rfl fun Y y => ?_); repeat (first | (apply fw; focus ((with_reducible constructor) <;> rfl)) | (apply WpA.cd; focus constructor) | ((first | with_reducible refine WpA.go _ rfl fun Y y => ?_ | apply RunTo.id); simp only [zb, seval, w41, txtA]; refine RunTo.fn y (by first | exact trivial | omega | (simp; done) | (simp; omega)) ?_; clear y Y))
      refine WpL.neqNil rfl rfl rfl Tryd.underlying87 ?_
      (refine WpL.go _ rfl fun Y y => ?_); repeat (first | (apply fw; focus ((with_reducible constructor) <;> rfl)) | (apply WpA.cd; focus constructor) | ((first | with_reducible refine WpA.go _ rfl fun Y y => ?_ | apply RunTo.id); simp only [zb, seval, w41, txtA]; refine RunTo.fn y (by first | exact trivial | omega | (simp; done) | (simp; omega)) ?_; clear y Y))
      refine ⟨by simp, _, _, _, _, (by simp only [zb, seval, w41]; rfl), (by simp), (by simp only [zv]; rfl), (by simp), _, hX, rfl⟩
    · repeat (first | (apply fw; focus ((with_reducible constructor) <;> rfl)) | (apply WpA.cd; focus constructor) | ((first | with_reducible refine WpA.go _ rfl fun Y y => ?_ | apply RunTo.id); simp only [zb, seval, w41, txtA, hd1, hga]; refine RunTo.fn y (by first | exact trivial | omega | (simp; done) | (simp; omega)) ?_; clear y Y))
      refine WpL.rel hpf rfl rfl (by kernel_rfl) (fun g => by simp [A.rens, A.ren, C.ren]) (fun r hr g => ?_) ?_
      · unfold ParsesTo at hr
        rw [hp] at hr
        obtain ⟨n9, t9, p9, rfl⟩ := hr
        simp [A.ren, A.rens, C.ren]
      intro r hr
      unfold ParsesTo at hr
      rw [hp] at hr
      obtain ⟨n9, t9, p9, rfl⟩ := hr
      (refine WpL.go _ rfl fun Y y => ?_); repeat (first | (apply fw; focus ((with_reducible constructor) <;> rfl)) | (apply WpA.cd; focus constructor) | ((first | with_reducible refine WpA.go _ rfl fun Y y => ?_ | apply RunTo.id); simp only [zb, seval, w41, txtA]; refine RunTo.fn y (by first | exact trivial | omega | (simp; done) | (simp; omega)) ?_; clear y Y))
      refine WpL.neqNil rfl rfl rfl Tryd.underlying87 ?_
      (refine WpL.go _ rfl fun Y y => ?_); repeat (first | (apply fw; focus ((with_reducible constructor) <;> rfl)) | (apply WpA.cd; focus constructor) | ((first | with_reducible refine WpA.go _ rfl fun Y y => ?_ | apply RunTo.id); simp only [zb, seval, w41, txtA]; refine RunTo.fn y (by first | exact trivial | omega | (simp; done) | (simp; omega)) ?_; clear y Y))
      refine ⟨by simp, _, _, _, _, (by simp only [zb, seval, w41]; rfl), (by simp), (by simp only [zv]; rfl), (by simp), _, hX, rfl⟩
def hexV (c : UInt8) : Int := Lib.indexByte hexS.data.toList c
theorem hexV_le (c : UInt8) : -1 ≤ hexV c ∧ hexV c ≤ 15 := by
  have h2 : ∀ b : Fin 256, -1 ≤ hexV (UInt8.ofNat b.val) ∧ hexV (UInt8.ofNat b.val) ≤ 15 := by decide +kernel
  have := h2 ⟨c.toNat, c.toNat_lt⟩
  simpa using this
theorem hexV_N {n : Nat} (h : n < 16) : hexV (hexN n) = n := by
  have h2 : ∀ b : Fin 16, hexV (hexN b.val) = b.val := by decide +kernel
  exact h2 ⟨n, h⟩
/-- Bytes out of digits, and what is left. -/
def unhexL : List UInt8 → Option (List UInt8 × List UInt8)
  | a :: b :: r => if hexV a < 0 ∨ hexV b < 0 then none else (unhexL r).map fun p => (UInt8.ofNat (hexV a * 16 + hexV b).toNat :: p.1, p.2)
  | l => some ([], l)
def unT (l : List UInt8) : A := match unhexL l with
  | none => .tup [.one (.v (.string ⟨#[]⟩)), .one (.v (.bool false))]
  | some (b, r) => .tup [.one (.v (.string (tB b))), .one (.v (.bool (decide (r = []) && decide (b ≠ []))))]
theorem or16 {a b : Int} (ha : 0 ≤ a ∧ a ≤ 15) (hb : 0 ≤ b ∧ b ≤ 15) : IntKind.u8.wrap (bits .or .i64 (IntKind.i64.wrap (a * 2 ^ min 4 IntKind.i64.bits)) b) = ((UInt8.ofNat (a * 16 + b).toNat).toNat : Int) := by
  have h2 : ∀ x y : Fin 16, IntKind.u8.wrap (bits .or .i64 (IntKind.i64.wrap ((x.val : Int) * 2 ^ min 4 IntKind.i64.bits)) (y.val : Int)) = ((UInt8.ofNat ((x.val : Int) * 16 + (y.val : Int)).toNat).toNat : Int) := by decide +kernel
  have := h2 ⟨a.toNat, by omega⟩ ⟨b.toNat, by omega⟩
  simpa [Int.toNat_of_nonneg ha.1, Int.toNat_of_nonneg hb.1] using this
theorem hexV_pure (c : UInt8) : Pure Tryd.prog 45 [.one (.v (.string ⟨#[48, 49, 50, 51, 52, 53, 54, 55, 56, 57, 97, 98, 99, 100, 101, 102]⟩)), .one (.v (.int .u8 c.toNat))] (.one (.v (.int .i64 (hexV c)))) := by
  have := indexByte_pure hexS c.toNat
  rw [show ((c.toNat : Int).toNat.toUInt8) = c by simp] at this
  exact this
def UbI (s : List UInt8) (N : Nat) (st : St) : Prop := ∃ (l b : List UInt8), N = l.length ∧ l.length ≤ s.length ∧ b.length ≤ s.length ∧ unhexL s = (unhexL l).map (fun p => (b ++ p.1, p.2)) ∧ b.length + l.length ≤ s.length ∧
  ((b = [] ∧ st = ⟨[(4, .one (.v (.slice none 0 0))), (0, .one (.v (.string (tB l))))], []⟩) ∨
   (b ≠ [] ∧ st = ⟨[(4, .one (.ms 0 b.length)), (0, .one (.v (.string (tB l))))], [some ⟨5, 1, bC b⟩]⟩))
theorem unhexL_short {l : List UInt8} (h : l.length ≤ 1) : unhexL l = some ([], l) := by
  match l, h with
  | [], _ => rfl
  | [_], _ => rfl
theorem unbytes_pure (s : List UInt8) (hs : s.length ≤ 70000) : Pure Tryd.prog 40 [.one (.v (.string (tB s)))] (unT s) := by
  refine Fn.intro Tryd.func40 rfl Tryd.ntmps40 Tryd.results40 (by simp only [List.length_cons, List.length_nil]; decide) ?_
  repeat (first | (apply fw; focus ((with_reducible constructor) <;> rfl)) | (apply WpA.cd; focus constructor) | ((first | with_reducible refine WpA.go _ rfl fun Y y => ?_ | apply RunTo.id); simp only [zb, seval, w40, txtA]; refine RunTo.fn y (by first | exact trivial | omega | (simp; done) | (simp; omega)) ?_; clear y Y))
  refine WpA.loop (UbI s) s.length ?_ ⟨s, [], rfl, Nat.le_refl _, by simp, by simp, by simp, .inl ⟨rfl, rfl⟩⟩ ?_
  · exact Le.sub (by simp [Sub, find])
  intro n' st hI
  obtain ⟨l, b, rfl, hll, hbl, hV, hbll, hI⟩ := hI
  have hsz := tB_size l
  have hbc := bC_len b
  by_cases hlen : 1 < l.length
  · obtain ⟨a, c, r, hL⟩ : ∃ a c r, l = a :: c :: r := by
      match l, hlen with
      | a :: c :: r, _ => exact ⟨a, c, r, rfl⟩
    have hg0 : (tB l)[0]? = some a := by rw [tB_get, hL]; rfl
    have hg1 : (tB l)[1]? = some c := by rw [tB_get, hL]; rfl
    have hd1 : decide ((1 : Int) < (l.length : Int)) = true := decide_eq_true (by omega)
    have hdrop : (tB l).extract 2 l.length = tB r := by rw [tB_drop, hL]; rfl
    have hl2 : 2 ≤ l.length := hlen
    have hlr : l.length = r.length + 2 := by rw [hL]; rfl
    have va := hexV_le a
    have vc := hexV_le c
    have p1 := hexV_pure a
    have p2 := hexV_pure c
    have hU : unhexL l = if hexV a < 0 ∨ hexV c < 0 then none else (unhexL r).map fun p => (UInt8.ofNat (hexV a * 16 + hexV c).toNat :: p.1, p.2) := by rw [hL]; rfl
    rw [hU] at hV
    clear hU
    by_cases hbad : hexV a < 0 ∨ hexV c < 0
    · rw [if_pos hbad] at hV
      have hR : unT s = .tup [.one (.v (.string ⟨#[]⟩)), .one (.v (.bool false))] := by rw [unT, hV]; rfl
      rw [hR]
      by_cases ha : hexV a < 0
      · have hda : decide (hexV a < 0) = true := decide_eq_true ha
        rcases hI with ⟨hb0, rfl⟩ | ⟨hb0, rfl⟩
        · repeat (first | (apply fw; focus ((with_reducible constructor) <;> rfl)) | (apply WpA.cd; focus constructor) | ((first | with_reducible refine WpA.go _ rfl fun Y y => ?_ | apply RunTo.id); simp only [zb, seval, w40, txtA, hsz, hd1]; refine RunTo.fn y (by first | exact trivial | omega | (simp; done) | (simp; omega)) ?_; clear y Y))
          (refine WpA.draw0 8 _ _ _ rfl rfl rfl (by kernel_rfl) (by kernel_rfl) (by kernel_rfl) fun K8 hK8 => ?_); simp only [zz] at hK8 ⊢; (refine Draw0.go fun K7 hK7 => ?_); simp only [zb, seval, w40, txtA, hg0, hg1]; (refine RunQ.mk (by first | exact trivial | omega | (simp; done) | (simp; omega)) (hK7 _ _ ?_)); clear hK7 K7; (try ((refine Draw0.nil (hK8 _ ?_)); clear hK8 K8; (refine WpL.go _ rfl fun Y y => ?_); repeat (first | (apply fw; focus ((with_reducible constructor) <;> rfl)) | (apply WpA.cd; focus constructor) | ((first | with_reducible refine WpA.go _ rfl fun Y y => ?_ | apply RunTo.id); simp only [zb, seval, w40, txtA, hg0, hg1]; refine RunTo.fn y (by first | exact trivial | omega | (simp; done) | (simp; omega)) ?_; clear y Y))))
          refine Draw0.step (OpS.shut rfl rfl rfl (by kernel_rfl) (ALes.refl _) (by first | rfl | simp [shuts, A.shut, C.shut]) (p1)) ?_
          (refine Draw0.go fun K7 hK7 => ?_); simp only [zb, seval, w40, txtA, hg0, hg1]; (refine RunQ.mk (by first | exact trivial | omega | (simp; done) | (simp; omega)) (hK7 _ _ ?_)); clear hK7 K7; (try ((refine Draw0.nil (hK8 _ ?_)); clear hK8 K8; (refine WpL.go _ rfl fun Y y => ?_); repeat (first | (apply fw; focus ((with_reducible constructor) <;> rfl)) | (apply WpA.cd; focus constructor) | ((first | with_reducible refine WpA.go _ rfl fun Y y => ?_ | apply RunTo.id); simp only [zb, seval, w40, txtA, hg0, hg1]; refine RunTo.fn y (by first | exact trivial | omega | (simp; done) | (simp; omega)) ?_; clear y Y))))
          refine Draw0.step (OpS.shut rfl rfl rfl (by kernel_rfl) (ALes.refl _) (by first | rfl | simp [shuts, A.shut, C.shut]) (p2)) ?_
          (refine Draw0.go fun K7 hK7 => ?_); simp only [zb, seval, w40, txtA, hda]; (refine RunQ.mk (by first | exact trivial | omega | (simp; done) | (simp; omega)) (hK7 _ _ ?_)); clear hK7 K7; (try ((refine Draw0.nil (hK8 _ ?_)); clear hK8 K8; (refine WpL.go _ rfl fun Y y => ?_); repeat (first | (apply fw; focus ((with_reducible constructor) <;> rfl)) | (apply WpA.cd; focus constructor) | ((first | with_reducible refine WpA.go _ rfl fun Y y => ?_ | apply RunTo.id); simp only [zb, seval, w40, txtA, hda]; refine RunTo.fn y (by first | exact trivial | omega | (simp; done) | (simp; omega)) ?_; clear y Y))))
          refine ⟨by simp, _, _, _, _, (by simp only [zb, seval, w40]; rfl), (by simp), (by simp only [zv]; rfl), (by simp), _, ALe.refl _, ?_⟩
          rfl
        · repeat (first | (apply fw; focus ((with_reducible constructor) <;> rfl)) | (apply WpA.cd; focus constructor) | ((first | with_reducible refine WpA.go _ rfl fun Y y => ?_ | apply RunTo.id); simp only [zb, seval, w40, txtA, hsz, hd1]; refine RunTo.fn y (by first | exact trivial | omega | (simp; done) | (simp; omega)) ?_; clear y Y))
          (refine WpA.draw0 8 _ _ _ rfl rfl rfl (by kernel_rfl) (by kernel_rfl) (by kernel_rfl) fun K8 hK8 => ?_); simp only [zz] at hK8 ⊢; (refine Draw0.go fun K7 hK7 => ?_); simp only [zb, seval, w40, txtA, hg0, hg1]; (refine RunQ.mk (by first | exact trivial | omega | (simp; done) | (simp; omega)) (hK7 _ _ ?_)); clear hK7 K7; (try ((refine Draw0.nil (hK8 _ ?_)); clear hK8 K8; (refine WpL.go _ rfl fun Y y => ?_); repeat (first | (apply fw; focus ((with_reducible constructor) <;> rfl)) | (apply WpA.cd; focus constructor) | ((first | with_reducible refine WpA.go _ rfl fun Y y => ?_ | apply RunTo.id); simp only [zb, seval, w40, txtA, hg0, hg1]; refine RunTo.fn y (by first | exact trivial | omega | (simp; done) | (simp; omega)) ?_; clear y Y))))
          refine Draw0.step (OpS.shut rfl rfl rfl (by kernel_rfl) (ALes.refl _) (by first | rfl | simp [shuts, A.shut, C.shut]) (p1)) ?_
          (refine Draw0.go fun K7 hK7 => ?_); simp only [zb, seval, w40, txtA, hg0, hg1]; (refine RunQ.mk (by first | exact trivial | omega | (simp; done) | (simp; omega)) (hK7 _ _ ?_)); clear hK7 K7; (try ((refine Draw0.nil (hK8 _ ?_)); clear hK8 K8; (refine WpL.go _ rfl fun Y y => ?_); repeat (first | (apply fw; focus ((with_reducible constructor) <;> rfl)) | (apply WpA.cd; focus constructor) | ((first | with_reducible refine WpA.go _ rfl fun Y y => ?_ | apply RunTo.id); simp only [zb, seval, w40, txtA, hg0, hg1]; refine RunTo.fn y (by first | exact trivial | omega | (simp; done) | (simp; omega)) ?_; clear y Y))))
          refine Draw0.step (OpS.shut rfl rfl rfl (by kernel_rfl) (ALes.refl _) (by first | rfl | simp [shuts, A.shut, C.shut]) (p2)) ?_
          (refine Draw0.go fun K7 hK7 => ?_); simp only [zb, seval, w40, txtA, hda]; (refine RunQ.mk (by first | exact trivial | omega | (simp; done) | (simp; omega)) (hK7 _ _ ?_)); clear hK7 K7; (try ((refine Draw0.nil (hK8 _ ?_)); clear hK8 K8; (refine WpL.go _ rfl fun Y y => ?_); repeat (first | (apply fw; focus ((with_reducible constructor) <;> rfl)) | (apply WpA.cd; focus constructor) | ((first | with_reducible refine WpA.go _ rfl fun Y y => ?_ | apply RunTo.id); simp only [zb, seval, w40, txtA, hda]; refine RunTo.fn y (by first | exact trivial | omega | (simp; done) | (simp; omega)) ?_; clear y Y))))
          refine ⟨by simp, _, _, _, _, (by simp only [zb, seval, w40]; rfl), (by simp), (by simp only [zv]; rfl), (by simp), _, ALe.refl _, ?_⟩
          rfl
      · have hda : decide (hexV a < 0) = false := decide_eq_false ha
        have hdc : decide (hexV c < 0) = true := decide_eq_true (by omega)
        rcases hI with ⟨hb0, rfl⟩ | ⟨hb0, rfl⟩
        · repeat (first | (apply fw; focus ((with_reducible constructor) <;> rfl)) | (apply WpA.cd; focus constructor) | ((first | with_reducible refine WpA.go _ rfl fun Y y => ?_ | apply RunTo.id); simp only [zb, seval, w40, txtA, hsz, hd1]; refine RunTo.fn y (by first | exact trivial | omega | (simp; done) | (simp; omega)) ?_; clear y Y))
          (refine WpA.draw0 8 _ _ _ rfl rfl rfl (by kernel_rfl) (by kernel_rfl) (by kernel_rfl) fun K8 hK8 => ?_); simp only [zz] at hK8 ⊢; (refine Draw0.go fun K7 hK7 => ?_); simp only [zb, seval, w40, txtA, hg0, hg1]; (refine RunQ.mk (by first | exact trivial | omega | (simp; done) | (simp; omega)) (hK7 _ _ ?_)); clear hK7 K7; (try ((refine Draw0.nil (hK8 _ ?_)); clear hK8 K8; (refine WpL.go _ rfl fun Y y => ?_); repeat (first | (apply fw; focus ((with_reducible constructor) <;> rfl)) | (apply WpA.cd; focus constructor) | ((first | with_reducible refine WpA.go _ rfl fun Y y => ?_ | apply RunTo.id); simp only [zb, seval, w40, txtA, hg0, hg1]; refine RunTo.fn y (by first | exact trivial | omega | (simp; done) | (simp; omega)) ?_; clear y Y))))
          refine Draw0.step (OpS.shut rfl rfl rfl (by kernel_rfl) (ALes.refl _) (by first | rfl | simp [shuts, A.shut, C.shut]) (p1)) ?_
          (refine Draw0.go fun K7 hK7 => ?_); simp only [zb, seval, w40, txtA, hg0, hg1]; (refine RunQ.mk (by first | exact trivial | omega | (simp; done) | (simp; omega)) (hK7 _ _ ?_)); clear hK7 K7; (try ((refine Draw0.nil (hK8 _ ?_)); clear hK8 K8; (refine WpL.go _ rfl fun Y y => ?_); repeat (first | (apply fw; focus ((with_reducible constructor) <;> rfl)) | (apply WpA.cd; focus constructor) | ((first | with_reducible refine WpA.go _ rfl fun Y y => ?_ | apply RunTo.id); simp only [zb, seval, w40, txtA, hg0, hg1]; refine RunTo.fn y (by first | exact trivial | omega | (simp; done) | (simp; omega)) ?_; clear y Y))))
          refine Draw0.step (OpS.shut rfl rfl rfl (by kernel_rfl) (ALes.refl _) (by first | rfl | simp [shuts, A.shut, C.shut]) (p2)) ?_
          (refine Draw0.go fun K7 hK7 => ?_); simp only [zb, seval, w40, txtA, hda, hdc]; (refine RunQ.mk (by first | exact trivial | omega | (simp; done) | (simp; omega)) (hK7 _ _ ?_)); clear hK7 K7; (try ((refine Draw0.nil (hK8 _ ?_)); clear hK8 K8; (refine WpL.go _ rfl fun Y y => ?_); repeat (first | (apply fw; focus ((with_reducible constructor) <;> rfl)) | (apply WpA.cd; focus constructor) | ((first | with_reducible refine WpA.go _ rfl fun Y y => ?_ | apply RunTo.id); simp only [zb, seval, w40, txtA, hda, hdc]; refine RunTo.fn y (by first | exact trivial | omega | (simp; done) | (simp; omega)) ?_; clear y Y))))
          refine ⟨by simp, _, _, _, _, (by simp only [zb, seval, w40]; rfl), (by simp), (by simp only [zv]; rfl), (by simp), _, ALe.refl _, ?_⟩
          rfl
        · repeat (first | (apply fw; focus ((with_reducible constructor) <;> rfl)) | (apply WpA.cd; focus constructor) | ((first | with_reducible refine WpA.go _ rfl fun Y y => ?_ | apply RunTo.id); simp only [zb, seval, w40, txtA, hsz, hd1]; refine RunTo.fn y (by first | exact trivial | omega | (simp; done) | (simp; omega)) ?_; clear y Y))
          (refine WpA.draw0 8 _ _ _ rfl rfl rfl (by kernel_rfl) (by kernel_rfl) (by kernel_rfl) fun K8 hK8 => ?_); simp only [zz] at hK8 ⊢; (refine Draw0.go fun K7 hK7 => ?_); simp only [zb, seval, w40, txtA, hg0, hg1]; (refine RunQ.mk (by first | exact trivial | omega | (simp; done) | (simp; omega)) (hK7 _ _ ?_)); clear hK7 K7; (try ((refine Draw0.nil (hK8 _ ?_)); clear hK8 K8; (refine WpL.go _ rfl fun Y y => ?_); repeat (first | (apply fw; focus ((with_reducible constructor) <;> rfl)) | (apply WpA.cd; focus constructor) | ((first | with_reducible refine WpA.go _ rfl fun Y y => ?_ | apply RunTo.id); simp only [zb, seval, w40, txtA, hg0, hg1]; refine RunTo.fn y (by first | exact trivial | omega | (simp; done) | (simp; omega)) ?_; clear y Y))))
          refine Draw0.step (OpS.shut rfl rfl rfl (by kernel_rfl) (ALes.refl _) (by first | rfl | simp [shuts, A.shut, C.shut]) (p1)) ?_
          (refine Draw0.go fun K7 hK7 => ?_); simp only [zb, seval, w40, txtA, hg0, hg1]; (refine RunQ.mk (by first | exact trivial | omega | (simp; done) | (simp; omega)) (hK7 _ _ ?_)); clear hK7 K7; (try ((refine Draw0.nil (hK8 _ ?_)); clear hK8 K8; (refine WpL.go _ rfl fun Y y => ?_); repeat (first | (apply fw; focus ((with_reducible constructor) <;> rfl)) | (apply WpA.cd; focus constructor) | ((first | with_reducible refine WpA.go _ rfl fun Y y => ?_ | apply RunTo.id); simp only [zb, seval, w40, txtA, hg0, hg1]; refine RunTo.fn y (by first | exact trivial | omega | (simp; done) | (simp; omega)) ?_; clear y Y))))
          refine Draw0.step (OpS.shut rfl rfl rfl (by kernel_rfl) (ALes.refl _) (by first | rfl | simp [shuts, A.shut, C.shut]) (p2)) ?_
          (refine Draw0.go fun K7 hK7 => ?_); simp only [zb, seval, w40, txtA, hda, hdc]; (refine RunQ.mk (by first | exact trivial | omega | (simp; done) | (simp; omega)) (hK7 _ _ ?_)); clear hK7 K7; (try ((refine Draw0.nil (hK8 _ ?_)); clear hK8 K8; (refine WpL.go _ rfl fun Y y => ?_); repeat (first | (apply fw; focus ((with_reducible constructor) <;> rfl)) | (apply WpA.cd; focus constructor) | ((first | with_reducible refine WpA.go _ rfl fun Y y => ?_ | apply RunTo.id); simp only [zb, seval, w40, txtA, hda, hdc]; refine RunTo.fn y (by first | exact trivial | omega | (simp; done) | (simp; omega)) ?_; clear y Y))))
          refine ⟨by simp, _, _, _, _, (by simp only [zb, seval, w40]; rfl), (by simp), (by simp only [zv]; rfl), (by simp), _, ALe.refl _, ?_⟩
          rfl
    rw [if_neg hbad] at hV
    have hda : decide (hexV a < 0) = false := decide_eq_false (by omega)
    have hdc : decide (hexV c < 0) = false := decide_eq_false (by omega)
    have hor := or16 (a := hexV a) (b := hexV c) (by omega) (by omega)
    have hV' : unhexL s = (unhexL r).map (fun p => ((b ++ [UInt8.ofNat (hexV a * 16 + hexV c).toNat]) ++ p.1, p.2)) := by
      rw [hV]; cases unhexL r <;> simp
    have hsn := bC_snoc b (UInt8.ofNat (hexV a * 16 + hexV c).toNat)
    generalize hx : UInt8.ofNat (hexV a * 16 + hexV c).toNat = x at *
    rcases hI with ⟨hb0, rfl⟩ | ⟨hb0, rfl⟩
    · repeat (first | (apply fw; focus ((with_reducible constructor) <;> rfl)) | (apply WpA.cd; focus constructor) | ((first | with_reducible refine WpA.go _ rfl fun Y y => ?_ | apply RunTo.id); simp only [zb, seval, w40, txtA, hsz, hd1]; refine RunTo.fn y (by first | exact trivial | omega | (simp; done) | (simp; omega)) ?_; clear y Y))
      (refine WpA.draw0 8 _ _ _ rfl rfl rfl (by kernel_rfl) (by kernel_rfl) (by kernel_rfl) fun K8 hK8 => ?_); simp only [zz] at hK8 ⊢; (refine Draw0.go fun K7 hK7 => ?_); simp only [zb, seval, w40, txtA, hg0, hg1]; (refine RunQ.mk (by first | exact trivial | omega | (simp; done) | (simp; omega)) (hK7 _ _ ?_)); clear hK7 K7; (try ((refine Draw0.nil (hK8 _ ?_)); clear hK8 K8; (refine WpL.go _ rfl fun Y y => ?_); repeat (first | (apply fw; focus ((with_reducible constructor) <;> rfl)) | (apply WpA.cd; focus constructor) | ((first | with_reducible refine WpA.go _ rfl fun Y y => ?_ | apply RunTo.id); simp only [zb, seval, w40, txtA, hg0, hg1]; refine RunTo.fn y (by first | exact trivial | omega | (simp; done) | (simp; omega)) ?_; clear y Y))))
      refine Draw0.step (OpS.shut rfl rfl rfl (by kernel_rfl) (ALes.refl _) (by first | rfl | simp [shuts, A.shut, C.shut]) (p1)) ?_
      (refine Draw0.go fun K7 hK7 => ?_); simp only [zb, seval, w40, txtA, hg0, hg1]; (refine RunQ.mk (by first | exact trivial | omega | (simp; done) | (simp; omega)) (hK7 _ _ ?_)); clear hK7 K7; (try ((refine Draw0.nil (hK8 _ ?_)); clear hK8 K8; (refine WpL.go _ rfl fun Y y => ?_); repeat (first | (apply fw; focus ((with_reducible constructor) <;> rfl)) | (apply WpA.cd; focus constructor) | ((first | with_reducible refine WpA.go _ rfl fun Y y => ?_ | apply RunTo.id); simp only [zb, seval, w40, txtA, hg0, hg1]; refine RunTo.fn y (by first | exact trivial | omega | (simp; done) | (simp; omega)) ?_; clear y Y))))
      refine Draw0.step (OpS.shut rfl rfl rfl (by kernel_rfl) (ALes.refl _) (by first | rfl | simp [shuts, A.shut, C.shut]) (p2)) ?_
      (refine Draw0.go fun K7 hK7 => ?_); simp only [zb, seval, w40, txtA, hda, hdc, hor, hsz, hdrop, hl2]; (refine RunQ.mk (by first | exact trivial | omega | (simp; done) | (simp; omega)) (hK7 _ _ ?_)); clear hK7 K7; (try ((refine Draw0.nil (hK8 _ ?_)); clear hK8 K8; (refine WpL.go _ rfl fun Y y => ?_); repeat (first | (apply fw; focus ((with_reducible constructor) <;> rfl)) | (apply WpA.cd; focus constructor) | ((first | with_reducible refine WpA.go _ rfl fun Y y => ?_ | apply RunTo.id); simp only [zb, seval, w40, txtA, hda, hdc, hor, hsz, hdrop, hl2]; refine RunTo.fn y (by first | exact trivial | omega | (simp; done) | (simp; omega)) ?_; clear y Y))))
      subst hb0
      refine ⟨r.length, ⟨[(4, .one (.ms 0 1)), (0, .one (.v (.string (tB r))))], [some ⟨5, 1, [[.v (.int .u8 x.toNat)]]⟩]⟩, by omega, Le.names [1] (Handed.of (by decide) rfl) (fun i hi => absurd hi (Nat.not_lt_zero _)) (by simp [SubR, find, A.ren, C.ren, rn]), r, [] ++ [x], rfl, by omega, by simp; omega, hV', by simp; omega, .inr ⟨by simp, rfl⟩⟩
    · repeat (first | (apply fw; focus ((with_reducible constructor) <;> rfl)) | (apply WpA.cd; focus constructor) | ((first | with_reducible refine WpA.go _ rfl fun Y y => ?_ | apply RunTo.id); simp only [zb, seval, w40, txtA, hsz, hd1]; refine RunTo.fn y (by first | exact trivial | omega | (simp; done) | (simp; omega)) ?_; clear y Y))
      (refine WpA.draw0 8 _ _ _ rfl rfl rfl (by kernel_rfl) (by kernel_rfl) (by kernel_rfl) fun K8 hK8 => ?_); simp only [zz] at hK8 ⊢; (refine Draw0.go fun K7 hK7 => ?_); simp only [zb, seval, w40, txtA, hg0, hg1]; (refine RunQ.mk (by first | exact trivial | omega | (simp; done) | (simp; omega)) (hK7 _ _ ?_)); clear hK7 K7; (try ((refine Draw0.nil (hK8 _ ?_)); clear hK8 K8; (refine WpL.go _ rfl fun Y y => ?_); repeat (first | (apply fw; focus ((with_reducible constructor) <;> rfl)) | (apply WpA.cd; focus constructor) | ((first | with_reducible refine WpA.go _ rfl fun Y y => ?_ | apply RunTo.id); simp only [zb, seval, w40, txtA, hg0, hg1]; refine RunTo.fn y (by first | exact trivial | omega | (simp; done) | (simp; omega)) ?_; clear y Y))))
      refine Draw0.step (OpS.shut rfl rfl rfl (by kernel_rfl) (ALes.refl _) (by first | rfl | simp [shuts, A.shut, C.shut]) (p1)) ?_
      (refine Draw0.go fun K7 hK7 => ?_); simp only [zb, seval, w40, txtA, hg0, hg1]; (refine RunQ.mk (by first | exact trivial | omega | (simp; done) | (simp; omega)) (hK7 _ _ ?_)); clear hK7 K7; (try ((refine Draw0.nil (hK8 _ ?_)); clear hK8 K8; (refine WpL.go _ rfl fun Y y => ?_); repeat (first | (apply fw; focus ((with_reducible constructor) <;> rfl)) | (apply WpA.cd; focus constructor) | ((first | with_reducible refine WpA.go _ rfl fun Y y => ?_ | apply RunTo.id); simp only [zb, seval, w40, txtA, hg0, hg1]; refine RunTo.fn y (by first | exact trivial | omega | (simp; done) | (simp; omega)) ?_; clear y Y))))
      refine Draw0.step (OpS.shut rfl rfl rfl (by kernel_rfl) (ALes.refl _) (by first | rfl | simp [shuts, A.shut, C.shut]) (p2)) ?_
      (refine Draw0.go fun K7 hK7 => ?_); simp only [zb, seval, w40, txtA, hda, hdc, hor, hsz, hdrop, hl2, hbc]; (refine RunQ.mk (by first | exact trivial | omega | (simp; done) | (simp; omega)) (hK7 _ _ ?_)); clear hK7 K7; (try ((refine Draw0.nil (hK8 _ ?_)); clear hK8 K8; (refine WpL.go _ rfl fun Y y => ?_); repeat (first | (apply fw; focus ((with_reducible constructor) <;> rfl)) | (apply WpA.cd; focus constructor) | ((first | with_reducible refine WpA.go _ rfl fun Y y => ?_ | apply RunTo.id); simp only [zb, seval, w40, txtA, hda, hdc, hor, hsz, hdrop, hl2, hbc]; refine RunTo.fn y (by first | exact trivial | omega | (simp; done) | (simp; omega)) ?_; clear y Y))))
      refine ⟨r.length, ⟨[(4, .one (.ms 0 (b.length + 1))), (0, .one (.v (.string (tB r))))], [some ⟨5, 1, bC b ++ [[.v (.int .u8 x.toNat)]]⟩]⟩, by omega, Le.names [0] (Handed.of (by decide) (by simp [Ob.ren, C.rens, C.ren, bC_ren])) (fun i hi => absurd hi (Nat.not_lt_zero _)) (by simp [SubR, find, A.ren, C.ren, rn]), r, b ++ [x], rfl, by omega, by simp; omega, hV', by simp; omega, .inr ⟨by simp, by rw [hsn]; simp⟩⟩
  · have hd1 : decide ((1 : Int) < (l.length : Int)) = false := decide_eq_false (by omega)
    rw [unhexL_short (l := l) (by omega)] at hV
    have hR : unT s = .tup [.one (.v (.string (tB b))), .one (.v (.bool (decide (l = []) && decide (b ≠ []))))] := by rw [unT, hV]; simp
    rw [hR]
    have hse : ((tB l).toList == (⟨#[]⟩ : ByteArray).toList) = decide (l = []) := by
      rw [strDec]
      by_cases h : l = []
      · rw [decide_eq_true h, decide_eq_true ((size_nil _).2 (by rw [hsz, h]; rfl))]
      · rw [decide_eq_false h, decide_eq_false fun e => h (List.eq_nil_of_length_eq_zero (by rw [← hsz]; exact (size_nil _).1 e))]
    by_cases hl0 : l = []
    · rw [decide_eq_true hl0] at hse
      rw [decide_eq_true hl0]
      rcases hI with ⟨hb0, rfl⟩ | ⟨hb0, rfl⟩
      · subst hb0
        repeat (first | (apply fw; focus ((with_reducible constructor) <;> rfl)) | (apply WpA.cd; focus constructor) | ((first | with_reducible refine WpA.go _ rfl fun Y y => ?_ | apply RunTo.id); simp only [zb, seval, w40, txtA, hsz, hd1, hse, unB, unB_bC]; refine RunTo.fn y (by first | exact trivial | omega | (simp; done) | (simp; omega)) ?_; clear y Y))
        refine ⟨by simp, _, _, _, _, (by simp only [zb, seval, w40]; rfl), (by simp), (by simp only [zv]; rfl), (by simp), _, ALe.refl _, ?_⟩
        rfl
      · have hb1 : decide ((0 : Int) < (b.length : Int)) = true := decide_eq_true (by have := List.length_pos_iff.2 hb0; omega)
        rw [decide_eq_true hb0]
        repeat (first | (apply fw; focus ((with_reducible constructor) <;> rfl)) | (apply WpA.cd; focus constructor) | ((first | with_reducible refine WpA.go _ rfl fun Y y => ?_ | apply RunTo.id); simp only [zb, seval, w40, txtA, hsz, hd1, hse, unB, unB_bC, hbc, hb1]; refine RunTo.fn y (by first | exact trivial | omega | (simp; done) | (simp; omega)) ?_; clear y Y))
        refine ⟨by simp, _, _, _, _, (by simp only [zb, seval, w40]; rfl), (by simp), (by simp only [zv]; rfl), (by simp), _, ALe.refl _, ?_⟩
        rfl
    · rw [decide_eq_false hl0] at hse
      rw [decide_eq_false hl0]
      rcases hI with ⟨hb0, rfl⟩ | ⟨hb0, rfl⟩
      · subst hb0
        repeat (first | (apply fw; focus ((with_reducible constructor) <;> rfl)) | (apply WpA.cd; focus constructor) | ((first | with_reducible refine WpA.go _ rfl fun Y y => ?_ | apply RunTo.id); simp only [zb, seval, w40, txtA, hsz, hd1, hse, unB, unB_bC]; refine RunTo.fn y (by first | exact trivial | omega | (simp; done) | (simp; omega)) ?_; clear y Y))
        refine ⟨by simp, _, _, _, _, (by simp only [zb, seval, w40]; rfl), (by simp), (by simp only [zv]; rfl), (by simp), _, ALe.refl _, ?_⟩
        rfl
      · repeat (first | (apply fw; focus ((with_reducible constructor) <;> rfl)) | (apply WpA.cd; focus constructor) | ((first | with_reducible refine WpA.go _ rfl fun Y y => ?_ | apply RunTo.id); simp only [zb, seval, w40, txtA, hsz, hd1, hse, unB, unB_bC, hbc]; refine RunTo.fn y (by first | exact trivial | omega | (simp; done) | (simp; omega)) ?_; clear y Y))
        refine ⟨by simp, _, _, _, _, (by simp only [zb, seval, w40]; rfl), (by simp), (by simp only [zv]; rfl), (by simp), _, ALe.refl _, ?_⟩
        rfl
def inS : ByteArray := ⟨#[105, 110]⟩
def collS : ByteArray := ⟨#[99, 111, 108, 108, 101, 99, 116]⟩
def mt : ByteArray := ⟨#[]⟩
def ubV (lim fu c : Int) : Option (List UInt8 × List UInt8) → ByteArray × Int × Int × Int
  | none => (mt, lim, fu, 9)
  | some (b, r) => (tB b, lim, fu, if (decide (r = []) && decide (b ≠ [])) = true ∧ c = 0 then 0 else 9)
def inV (inp : ByteArray) (lim fu c : Int) : List ByteArray → ByteArray × Int × Int × Int
  | [w] => ubV lim fu c (unhexL w.data.toList)
  | _ => (inp, lim, fu, 9)
def limV (inp : ByteArray) (lim fu c : Int) : Option (List Int) → ByteArray × Int × Int × Int
  | some [v] => (inp, v, fu, if c = 0 then 0 else 9)
  | _ => (inp, lim, fu, 9)
def fuV (inp : ByteArray) (lim fu c : Int) : Option (List Int) → ByteArray × Int × Int × Int
  | some [v] => (inp, lim, v, if c = 0 then 0 else 9)
  | _ => (inp, lim, fu, 9)
/-- What a line says of a job: its input, limit and fuel, and whether it is wrong. -/
def rdsV (inp : ByteArray) (lim fu c : Int) (w0 : ByteArray) (wt : List ByteArray) : ByteArray × Int × Int × Int :=
  if w0 = inS then inV inp lim fu c wt
  else if w0 = limitS then limV inp lim fu c (numsV wt)
  else if w0 = fuelS then fuV inp lim fu c (numsV wt)
  else (inp, lim, fu, 9)
theorem rdsV_in (inp : ByteArray) (lim fu c : Int) (wt : List ByteArray) : rdsV inp lim fu c inS wt = inV inp lim fu c wt := if_pos rfl
theorem rdsV_lim (inp : ByteArray) (lim fu c : Int) (wt : List ByteArray) : rdsV inp lim fu c limitS wt = limV inp lim fu c (numsV wt) := by rw [rdsV, if_neg (by decide), if_pos rfl]
theorem rdsV_fu (inp : ByteArray) (lim fu c : Int) (wt : List ByteArray) : rdsV inp lim fu c fuelS wt = fuV inp lim fu c (numsV wt) := by rw [rdsV, if_neg (by decide), if_neg (by decide), if_pos rfl]
theorem rdsV_coll (inp : ByteArray) (lim fu c : Int) (wt : List ByteArray) : rdsV inp lim fu c collS wt = (inp, lim, fu, 9) := by rw [rdsV, if_neg (by decide), if_neg (by decide), if_neg (by decide)]
theorem split_at (line : ByteArray) (ws : List ByteArray) (hsz : line.size ≤ 70000) (hsp : Lib.splitB ⟨#[32]⟩ 0 (Lib.countB line ⟨#[32]⟩) line = ws) : Pure Tryd.prog 39 [.one (.v (.string line)), .one (.v (.string ⟨#[32]⟩))] (.one (.sl 1 (sC ws))) := by
  subst hsp; exact split_pure line ⟨#[32]⟩ (by omega) (by decide)
/-- A line that says nothing. -/
theorem reads_skip (b : Nat) (o : Obj) (line : ByteArray) (s : List (Option Ob)) (h : line.size = 0 ∨ line[0]? = some 35) :
    FnM Tryd.prog 33 [.one (.ptr 3 1 0 0), .one (.v (.string line)), .one (.v (.map (some b)))] s b o
      (fun r s' o' => r = .one (.v (.int .i64 0)) ∧ s' = s ∧ o' = o) := by
  refine FnM.intro Tryd.func33 rfl Tryd.ntmps33 Tryd.results33 (by simp only [List.length_cons, List.length_nil]; decide) ?_
  refine WpX.seq (WpX.ofB ?_)
  repeat (first | (apply fw; focus ((with_reducible constructor) <;> rfl)) | (apply WpA.cd; focus constructor) | ((first | with_reducible refine WpA.go _ rfl fun Y y => ?_ | apply RunTo.id); simp only [zb, seval, w33, txtA]; refine RunTo.fn y (by first | exact trivial | omega | (simp; done) | (simp; omega)) ?_; clear y Y))
  change WpX _ _ _ _ _ _ _ _
  by_cases h0 : line.size = 0
  · have he0 : (line.toList == (⟨#[]⟩ : ByteArray).toList) = true := by rw [strDec, decide_eq_true ((size_nil _).2 h0)]
    refine WpX.seq (WpX.ofB ?_)
    repeat (first | (apply fw; focus ((with_reducible constructor) <;> rfl)) | (apply WpA.cd; focus constructor) | ((first | with_reducible refine WpA.go _ rfl fun Y y => ?_ | apply RunTo.id); simp only [zb, seval, w33, txtA, he0]; refine RunTo.fn y (by first | exact trivial | omega | (simp; done) | (simp; omega)) ?_; clear y Y))
    exact ⟨by simp, _, rfl, _, _, _, Le.refl _ _, rfl, trivial, rfl, rfl, rfl⟩
  · have he0 : (line.toList == (⟨#[]⟩ : ByteArray).toList) = false := by rw [strDec, decide_eq_false fun e => h0 ((size_nil _).1 e)]
    have hg0 : line[0]? = some 35 := h.resolve_left h0
    refine WpX.seq (WpX.ofB ?_)
    repeat (first | (apply fw; focus ((with_reducible constructor) <;> rfl)) | (apply WpA.cd; focus constructor) | ((first | with_reducible refine WpA.go _ rfl fun Y y => ?_ | apply RunTo.id); simp only [zb, seval, w33, txtA, he0, hg0]; refine RunTo.fn y (by first | exact trivial | omega | (simp; done) | (simp; omega)) ?_; clear y Y))
    exact ⟨by simp, _, rfl, _, _, _, Le.refl _ _, rfl, trivial, rfl, rfl, rfl⟩

theorem reads_other (b : Nat) (o : Obj) (n : Nat) (D : DataW Unit) (line w0 : ByteArray) (wt : List ByteArray) (c : Int) (T : List (Option Ob)) (o0 o1 o2 o3 : Ob) (hsz : line.size ≤ 70000) (hl0 : line.size ≠ 0) (z : UInt8) (hg0 : line[0]? = some z) (hz : z ≠ 35) (hsp : Lib.splitB ⟨#[32]⟩ 0 (Lib.countB line ⟨#[32]⟩) line = w0 :: wt) (hws : w0.size ≤ 70000) (hwl : wt.length ≤ 70000)
    (hf : MFit Tryd.prog 9 3 o n D) (hn : n < maxLen) (hc : D.atKey (.string w0.data.toList) (.lit (.int .i64 0)) = .lit (.int .i64 c)) (hcc : 0 ≤ c ∧ c ≤ 1000000) (hD : Maps.IsMap D) (h1 : w0 ≠ inS) (h2 : w0 ≠ limitS) (h3 : w0 ≠ fuelS) (h4 : w0 ≠ collS) :
    FnM Tryd.prog 33 [.one (.ptr 3 1 0 0), .one (.v (.string line)), .one (.v (.map (some b)))] (some o0 :: some o1 :: some o2 :: some o3 :: T) b o
      (fun r s' o' => r = .one (.v (.int .i64 9)) ∧ s' = some o0 :: some o1 :: some o2 :: some o3 :: T ∧ ∃ es c', o' = .map es c' ∧ MFit Tryd.prog 9 3 (.map es c') (n + 1) (D.put (.string w0.data.toList) (.lit (.int .i64 (c + 1))))) := by
  have he0 : (line.toList == (⟨#[]⟩ : ByteArray).toList) = false := by rw [strDec, decide_eq_false fun e => hl0 ((size_nil _).1 e)]
  have hg1 : ((z.toNat : Int) == 35) = false := by simp; intro e; apply hz; exact UInt8.toNat_inj.1 (by rw [show (35 : UInt8).toNat = 35 from rfl]; omega)
  have hspl := split_at line _ hsz hsp
  have hs0 : (sC (w0 :: wt))[0]? = some [.v (.string w0)] := rfl
  have hwl0 : (0 : Int) < ((sC (w0 :: wt)).length : Int) := by rw [sC_len]; simp only [List.length_cons]; omega
  have hw0 : IntKind.i64.wrap (c + 1) = c + 1 := by rw [wrap64 (by omega) (by omega)]
  have hlS : w0.size ≤ maxLen := Nat.le_trans hws (by decide)
  have k1 : (w0.toList == (⟨#[105, 110]⟩ : ByteArray).toList) = false := by rw [strDec]; exact decide_eq_false h1
  have k2 : (w0.toList == (⟨#[108, 105, 109, 105, 116]⟩ : ByteArray).toList) = false := by rw [strDec]; exact decide_eq_false h2
  have k3 : (w0.toList == (⟨#[102, 117, 101, 108]⟩ : ByteArray).toList) = false := by rw [strDec]; exact decide_eq_false h3
  have k4 : (w0.toList == (⟨#[99, 111, 108, 108, 101, 99, 116]⟩ : ByteArray).toList) = false := by rw [strDec]; exact decide_eq_false h4
  generalize hrw : sC (w0 :: wt) = rw0 at *
  refine FnM.intro Tryd.func33 rfl Tryd.ntmps33 Tryd.results33 (by simp only [List.length_cons, List.length_nil]; decide) ?_
  refine WpX.seq (WpX.ofB ?_)
  repeat (first | (apply fw; focus ((with_reducible constructor) <;> rfl)) | (apply WpA.cd; focus constructor) | ((first | with_reducible refine WpA.go _ rfl fun Y y => ?_ | apply RunTo.id); simp only [zb, seval, w33, txtA]; refine RunTo.fn y (by first | exact trivial | omega | (simp; done) | (simp; omega)) ?_; clear y Y))
  change WpX _ _ _ _ _ _ _ _
  refine WpX.seq (WpX.ofB ?_)
  repeat (first | (apply fw; focus ((with_reducible constructor) <;> rfl)) | (apply WpA.cd; focus constructor) | ((first | with_reducible refine WpA.go _ rfl fun Y y => ?_ | apply RunTo.id); simp only [zb, seval, w33, txtA, he0, hg0, hg1]; refine RunTo.fn y (by first | exact trivial | omega | (simp; done) | (simp; omega)) ?_; clear y Y))
  change WpX _ _ _ _ _ _ _ _
  refine WpX.seq (WpX.ofB ?_)
  repeat (first | (apply fw; focus ((with_reducible constructor) <;> rfl)) | (apply WpA.cd; focus constructor) | ((first | with_reducible refine WpA.go _ rfl fun Y y => ?_ | apply RunTo.id); simp only [zb, seval, w33, txtA]; refine RunTo.fn y (by first | exact trivial | omega | (simp; done) | (simp; omega)) ?_; clear y Y))
  refine WpL.call rfl (guardA_sound (P := Tryd.prog) rfl) (CallA.shut rfl rfl (by kernel_rfl) (ALes.refl _) (by first | rfl | simp [shuts, A.shut, C.shut]) (hspl) ?_)
  (refine WpL.go _ rfl fun Y y => ?_); repeat (first | (apply fw; focus ((with_reducible constructor) <;> rfl)) | (apply WpA.cd; focus constructor) | ((first | with_reducible refine WpA.go _ rfl fun Y y => ?_ | apply RunTo.id); simp only [zb, seval, w33, txtA]; refine RunTo.fn y (by first | exact trivial | omega | (simp; done) | (simp; omega)) ?_; clear y Y))
  change WpX _ _ _ _ _ _ _ _
  refine WpX.seq (WpX.region ?_)
  (refine WpXL.go _ rfl rfl fun Y y => ?_); simp only [zb, seval, w33, txtA, hs0, hwl0]; (refine RunTo.fx y (by first | exact trivial | omega | (simp; done) | (simp; omega)) ?_); clear y Y
  refine WpXL.lookup rfl rfl rfl hf Tryd.underlying63 Tryd.underlying9 Tryd.underlying3 (fun w => Tryd.zeroValue3 w) hlS fun c9 hc9 => ?_
  obtain rfl : c9 = c := by rw [hc] at hc9; cases hc9; rfl
  (refine WpXL.go _ rfl rfl fun Y y => ?_); simp only [zb, seval, w33, txtA, hw0]; (refine RunTo.fx y (by first | exact trivial | omega | (simp; done) | (simp; omega)) ?_); clear y Y
  refine WpXL.update rfl rfl rfl hf Tryd.underlying63 Tryd.underlying9 Tryd.underlying3 hlS hn (by simp [Lit.wf, IntKind.min, IntKind.max, IntKind.signed, IntKind.bits]; omega) (by simp) fun es c' hf2 => ?_
  refine WpXL.nil ?_
  change WpX _ _ _ _ _ _ _ _
  refine WpX.seq (WpX.region ?_)
  (refine WpXL.go _ rfl rfl fun Y y => ?_); simp only [zb, seval, w33, txtA, hs0, hwl0]; (refine RunTo.fx y (by first | exact trivial | omega | (simp; done) | (simp; omega)) ?_); clear y Y
  refine WpXL.lookup rfl rfl rfl hf2 Tryd.underlying63 Tryd.underlying9 Tryd.underlying3 (fun w => Tryd.zeroValue3 w) hlS fun c8 hc8 => ?_
  obtain rfl : c8 = c9 + 1 := by rw [Maps.atKey_put_same hD (by first | trivial | simp [WideAt.IsKeyLit])] at hc8; cases hc8; rfl
  (refine WpXL.go _ rfl rfl fun Y y => ?_); simp only [zb, seval, w33, txtA]; (refine RunTo.fx y (by first | exact trivial | omega | (simp; done) | (simp; omega)) ?_); clear y Y
  refine WpXL.nil ?_
  change WpX _ _ _ _ _ _ _ _
  refine WpX.ofB ?_
  repeat (first | (apply fw; focus ((with_reducible constructor) <;> rfl)) | (apply WpA.cd; focus constructor) | ((first | with_reducible refine WpA.go _ rfl fun Y y => ?_ | apply RunTo.id); simp only [zb, seval, w33, txtA, hs0, hwl0, k1, k2, k3, k4]; refine RunTo.fn y (by first | exact trivial | omega | (simp; done) | (simp; omega)) ?_; clear y Y))
  exact ⟨by simp, _, rfl, _, _, _, Le.refl _ _, rfl, trivial, rfl, rfl, es, c', rfl, hf2⟩
theorem reads_in (b : Nat) (o : Obj) (n : Nat) (D : DataW Unit) (line : ByteArray) (wt : List ByteArray) (c : Int) (T : List (Option Ob)) (o0 o1 o2 : Ob) (src inp : ByteArray) (lim fu : Int) (fc : C) (hsz : line.size ≤ 70000) (hl0 : line.size ≠ 0) (z : UInt8) (hg0 : line[0]? = some z) (hz : z ≠ 35) (hsp : Lib.splitB ⟨#[32]⟩ 0 (Lib.countB line ⟨#[32]⟩) line = inS :: wt) (hwl : wt.length ≤ 70000) (hwz : ∀ w ∈ wt, w.size ≤ 70000)
    (hf : MFit Tryd.prog 9 3 o n D) (hn : n < maxLen) (hc : D.atKey (.string inS.data.toList) (.lit (.int .i64 0)) = .lit (.int .i64 c)) (hcc : 0 ≤ c ∧ c ≤ 1000000) (hD : Maps.IsMap D) :
    FnM Tryd.prog 33 [.one (.ptr 3 1 0 0), .one (.v (.string line)), .one (.v (.map (some b)))] (some o0 :: some o1 :: some o2 :: jobO src inp lim fu fc :: T) b o
      (fun r s' o' => r = .one (.v (.int .i64 (rdsV inp lim fu c inS wt).2.2.2)) ∧ s' = some o0 :: some o1 :: some o2 :: jobO src (rdsV inp lim fu c inS wt).1 (rdsV inp lim fu c inS wt).2.1 (rdsV inp lim fu c inS wt).2.2.1 fc :: T ∧ ∃ es c', o' = .map es c' ∧ MFit Tryd.prog 9 3 (.map es c') (n + 1) (D.put (.string inS.data.toList) (.lit (.int .i64 (c + 1))))) := by
  have he0 : (line.toList == (⟨#[]⟩ : ByteArray).toList) = false := by rw [strDec, decide_eq_false fun e => hl0 ((size_nil _).1 e)]
  have hg1 : ((z.toNat : Int) == 35) = false := by simp; intro e; apply hz; exact UInt8.toNat_inj.1 (by rw [show (35 : UInt8).toNat = 35 from rfl]; omega)
  have hspl := split_at line _ hsz hsp
  have hs0 : (sC (inS :: wt))[0]? = some [.v (.string inS)] := rfl
  have hrl : (sC (inS :: wt)).length = wt.length + 1 := by rw [sC_len]; rfl
  have hwl0 : (0 : Int) < ((sC (inS :: wt)).length : Int) := by rw [hrl]; omega
  have hw0 : IntKind.i64.wrap (c + 1) = c + 1 := by rw [wrap64 (by omega) (by omega)]
  have hlS : inS.size ≤ maxLen := by decide
  have hon : c = 0 ∨ c ≠ 0 := by omega
  have k1 : (inS.toList == (⟨#[105, 110]⟩ : ByteArray).toList) = true := by kernel_rfl
  rw [rdsV_in]
  by_cases hl1 : wt.length = 1
  · obtain ⟨w, rfl⟩ : ∃ w, wt = [w] := by
      match wt, hl1 with
      | [w], _ => exact ⟨w, rfl⟩
    have hs1 : (sC [inS, w])[1]? = some [.v (.string w)] := rfl
    have hl2 : (((sC [inS, w]).length : Int) == 2) = true := by rw [hrl]; rfl
    have hwl1 : (1 : Int) < ((sC [inS, w]).length : Int) := by rw [hrl]; simp
    have hub : Pure Tryd.prog 40 [.one (.v (.string w))] (unT w.data.toList) := unbytes_pure w.data.toList (by have := hwz w (by simp); rw [show w.data.toList.length = w.size from Array.length_toList]; exact this)
    simp only [inV]
    generalize sC [inS, w] = rw0 at *
    cases hu : unhexL w.data.toList with
    | none =>
      simp only [unT, hu] at hub
      simp only [ubV]
      refine FnM.intro Tryd.func33 rfl Tryd.ntmps33 Tryd.results33 (by simp only [List.length_cons, List.length_nil]; decide) ?_
      refine WpX.seq (WpX.ofB ?_)
      repeat (first | (apply fw; focus ((with_reducible constructor) <;> rfl)) | (apply WpA.cd; focus constructor) | ((first | with_reducible refine WpA.go _ rfl fun Y y => ?_ | apply RunTo.id); simp only [zb, seval, w33, txtA]; refine RunTo.fn y (by first | exact trivial | omega | (simp; done) | (simp; omega)) ?_; clear y Y))
      change WpX _ _ _ _ _ _ _ _
      refine WpX.seq (WpX.ofB ?_)
      repeat (first | (apply fw; focus ((with_reducible constructor) <;> rfl)) | (apply WpA.cd; focus constructor) | ((first | with_reducible refine WpA.go _ rfl fun Y y => ?_ | apply RunTo.id); simp only [zb, seval, w33, txtA, he0, hg0, hg1]; refine RunTo.fn y (by first | exact trivial | omega | (simp; done) | (simp; omega)) ?_; clear y Y))
      change WpX _ _ _ _ _ _ _ _
      refine WpX.seq (WpX.ofB ?_)
      repeat (first | (apply fw; focus ((with_reducible constructor) <;> rfl)) | (apply WpA.cd; focus constructor) | ((first | with_reducible refine WpA.go _ rfl fun Y y => ?_ | apply RunTo.id); simp only [zb, seval, w33, txtA]; refine RunTo.fn y (by first | exact trivial | omega | (simp; done) | (simp; omega)) ?_; clear y Y))
      refine WpL.call rfl (guardA_sound (P := Tryd.prog) rfl) (CallA.shut rfl rfl (by kernel_rfl) (ALes.refl _) (by first | rfl | simp [shuts, A.shut, C.shut]) (hspl) ?_)
      (refine WpL.go _ rfl fun Y y => ?_); repeat (first | (apply fw; focus ((with_reducible constructor) <;> rfl)) | (apply WpA.cd; focus constructor) | ((first | with_reducible refine WpA.go _ rfl fun Y y => ?_ | apply RunTo.id); simp only [zb, seval, w33, txtA]; refine RunTo.fn y (by first | exact trivial | omega | (simp; done) | (simp; omega)) ?_; clear y Y))
      change WpX _ _ _ _ _ _ _ _
      refine WpX.seq (WpX.region ?_)
      (refine WpXL.go _ rfl rfl fun Y y => ?_); simp only [zb, seval, w33, txtA, hs0, hwl0]; (refine RunTo.fx y (by first | exact trivial | omega | (simp; done) | (simp; omega)) ?_); clear y Y
      refine WpXL.lookup rfl rfl rfl hf Tryd.underlying63 Tryd.underlying9 Tryd.underlying3 (fun w => Tryd.zeroValue3 w) hlS fun c9 hc9 => ?_
      obtain rfl : c9 = c := by rw [hc] at hc9; cases hc9; rfl
      (refine WpXL.go _ rfl rfl fun Y y => ?_); simp only [zb, seval, w33, txtA, hw0]; (refine RunTo.fx y (by first | exact trivial | omega | (simp; done) | (simp; omega)) ?_); clear y Y
      refine WpXL.update rfl rfl rfl hf Tryd.underlying63 Tryd.underlying9 Tryd.underlying3 hlS hn (by simp [Lit.wf, IntKind.min, IntKind.max, IntKind.signed, IntKind.bits]; omega) (by simp) fun es c' hf2 => ?_
      refine WpXL.nil ?_
      change WpX _ _ _ _ _ _ _ _
      refine WpX.seq (WpX.region ?_)
      (refine WpXL.go _ rfl rfl fun Y y => ?_); simp only [zb, seval, w33, txtA, hs0, hwl0]; (refine RunTo.fx y (by first | exact trivial | omega | (simp; done) | (simp; omega)) ?_); clear y Y
      refine WpXL.lookup rfl rfl rfl hf2 Tryd.underlying63 Tryd.underlying9 Tryd.underlying3 (fun w => Tryd.zeroValue3 w) hlS fun c8 hc8 => ?_
      obtain rfl : c8 = c9 + 1 := by rw [Maps.atKey_put_same hD (by first | trivial | simp [WideAt.IsKeyLit])] at hc8; cases hc8; rfl
      (refine WpXL.go _ rfl rfl fun Y y => ?_); simp only [zb, seval, w33, txtA]; (refine RunTo.fx y (by first | exact trivial | omega | (simp; done) | (simp; omega)) ?_); clear y Y
      refine WpXL.nil ?_
      change WpX _ _ _ _ _ _ _ _
      refine WpX.ofB ?_
      repeat (first | (apply fw; focus ((with_reducible constructor) <;> rfl)) | (apply WpA.cd; focus constructor) | ((first | with_reducible refine WpA.go _ rfl fun Y y => ?_ | apply RunTo.id); simp only [zb, seval, w33, txtA, hs0, hwl0, k1, hl2, hs1, hwl1]; refine RunTo.fn y (by first | exact trivial | omega | (simp; done) | (simp; omega)) ?_; clear y Y))
      refine WpL.call rfl (guardA_sound (P := Tryd.prog) rfl) (CallA.shut rfl rfl (by kernel_rfl) (ALes.refl _) (by first | rfl | simp [shuts, A.shut, C.shut]) (hub) ?_)
      (refine WpL.go _ rfl fun Y y => ?_); repeat (first | (apply fw; focus ((with_reducible constructor) <;> rfl)) | (apply WpA.cd; focus constructor) | ((first | with_reducible refine WpA.go _ rfl fun Y y => ?_ | apply RunTo.id); simp only [zb, seval, w33, txtA, jobO]; refine RunTo.fn y (by first | exact trivial | omega | (simp; done) | (simp; omega)) ?_; clear y Y))
      exact ⟨by simp, _, rfl, _, _, _, Le.refl _ _, rfl, trivial, rfl, rfl, es, c', rfl, hf2⟩
    | some p =>
      obtain ⟨bb, rr⟩ := p
      simp only [unT, hu] at hub
      simp only [ubV]
      by_cases hok : (decide (rr = []) && decide (bb ≠ [])) = true
      · rw [hok] at hub ⊢
        by_cases hc0 : c = 0
        · have hc1 : ((c + 1 : Int) == 1) = true := by simp [hc0]
          rw [if_pos ⟨rfl, hc0⟩]
          refine FnM.intro Tryd.func33 rfl Tryd.ntmps33 Tryd.results33 (by simp only [List.length_cons, List.length_nil]; decide) ?_
          refine WpX.seq (WpX.ofB ?_)
          repeat (first | (apply fw; focus ((with_reducible constructor) <;> rfl)) | (apply WpA.cd; focus constructor) | ((first | with_reducible refine WpA.go _ rfl fun Y y => ?_ | apply RunTo.id); simp only [zb, seval, w33, txtA]; refine RunTo.fn y (by first | exact trivial | omega | (simp; done) | (simp; omega)) ?_; clear y Y))
          change WpX _ _ _ _ _ _ _ _
          refine WpX.seq (WpX.ofB ?_)
          repeat (first | (apply fw; focus ((with_reducible constructor) <;> rfl)) | (apply WpA.cd; focus constructor) | ((first | with_reducible refine WpA.go _ rfl fun Y y => ?_ | apply RunTo.id); simp only [zb, seval, w33, txtA, he0, hg0, hg1]; refine RunTo.fn y (by first | exact trivial | omega | (simp; done) | (simp; omega)) ?_; clear y Y))
          change WpX _ _ _ _ _ _ _ _
          refine WpX.seq (WpX.ofB ?_)
          repeat (first | (apply fw; focus ((with_reducible constructor) <;> rfl)) | (apply WpA.cd; focus constructor) | ((first | with_reducible refine WpA.go _ rfl fun Y y => ?_ | apply RunTo.id); simp only [zb, seval, w33, txtA]; refine RunTo.fn y (by first | exact trivial | omega | (simp; done) | (simp; omega)) ?_; clear y Y))
          refine WpL.call rfl (guardA_sound (P := Tryd.prog) rfl) (CallA.shut rfl rfl (by kernel_rfl) (ALes.refl _) (by first | rfl | simp [shuts, A.shut, C.shut]) (hspl) ?_)
          (refine WpL.go _ rfl fun Y y => ?_); repeat (first | (apply fw; focus ((with_reducible constructor) <;> rfl)) | (apply WpA.cd; focus constructor) | ((first | with_reducible refine WpA.go _ rfl fun Y y => ?_ | apply RunTo.id); simp only [zb, seval, w33, txtA]; refine RunTo.fn y (by first | exact trivial | omega | (simp; done) | (simp; omega)) ?_; clear y Y))
          change WpX _ _ _ _ _ _ _ _
          refine WpX.seq (WpX.region ?_)
          (refine WpXL.go _ rfl rfl fun Y y => ?_); simp only [zb, seval, w33, txtA, hs0, hwl0]; (refine RunTo.fx y (by first | exact trivial | omega | (simp; done) | (simp; omega)) ?_); clear y Y
          refine WpXL.lookup rfl rfl rfl hf Tryd.underlying63 Tryd.underlying9 Tryd.underlying3 (fun w => Tryd.zeroValue3 w) hlS fun c9 hc9 => ?_
          obtain rfl : c9 = c := by rw [hc] at hc9; cases hc9; rfl
          (refine WpXL.go _ rfl rfl fun Y y => ?_); simp only [zb, seval, w33, txtA, hw0]; (refine RunTo.fx y (by first | exact trivial | omega | (simp; done) | (simp; omega)) ?_); clear y Y
          refine WpXL.update rfl rfl rfl hf Tryd.underlying63 Tryd.underlying9 Tryd.underlying3 hlS hn (by simp [Lit.wf, IntKind.min, IntKind.max, IntKind.signed, IntKind.bits]; omega) (by simp) fun es c' hf2 => ?_
          refine WpXL.nil ?_
          change WpX _ _ _ _ _ _ _ _
          refine WpX.seq (WpX.region ?_)
          (refine WpXL.go _ rfl rfl fun Y y => ?_); simp only [zb, seval, w33, txtA, hs0, hwl0]; (refine RunTo.fx y (by first | exact trivial | omega | (simp; done) | (simp; omega)) ?_); clear y Y
          refine WpXL.lookup rfl rfl rfl hf2 Tryd.underlying63 Tryd.underlying9 Tryd.underlying3 (fun w => Tryd.zeroValue3 w) hlS fun c8 hc8 => ?_
          obtain rfl : c8 = c9 + 1 := by rw [Maps.atKey_put_same hD (by first | trivial | simp [WideAt.IsKeyLit])] at hc8; cases hc8; rfl
          (refine WpXL.go _ rfl rfl fun Y y => ?_); simp only [zb, seval, w33, txtA]; (refine RunTo.fx y (by first | exact trivial | omega | (simp; done) | (simp; omega)) ?_); clear y Y
          refine WpXL.nil ?_
          change WpX _ _ _ _ _ _ _ _
          refine WpX.ofB ?_
          repeat (first | (apply fw; focus ((with_reducible constructor) <;> rfl)) | (apply WpA.cd; focus constructor) | ((first | with_reducible refine WpA.go _ rfl fun Y y => ?_ | apply RunTo.id); simp only [zb, seval, w33, txtA, hs0, hwl0, k1, hl2, hs1, hwl1, hc1]; refine RunTo.fn y (by first | exact trivial | omega | (simp; done) | (simp; omega)) ?_; clear y Y))
          refine WpL.call rfl (guardA_sound (P := Tryd.prog) rfl) (CallA.shut rfl rfl (by kernel_rfl) (ALes.refl _) (by first | rfl | simp [shuts, A.shut, C.shut]) (hub) ?_)
          (refine WpL.go _ rfl fun Y y => ?_); repeat (first | (apply fw; focus ((with_reducible constructor) <;> rfl)) | (apply WpA.cd; focus constructor) | ((first | with_reducible refine WpA.go _ rfl fun Y y => ?_ | apply RunTo.id); simp only [zb, seval, w33, txtA, jobO, hc1]; refine RunTo.fn y (by first | exact trivial | omega | (simp; done) | (simp; omega)) ?_; clear y Y))
          exact ⟨by simp, _, rfl, _, _, _, Le.refl _ _, rfl, trivial, rfl, rfl, es, c', rfl, hf2⟩
        · have hc1 : ((c + 1 : Int) == 1) = false := by simp; omega
          rw [if_neg (by simp [hc0])]
          refine FnM.intro Tryd.func33 rfl Tryd.ntmps33 Tryd.results33 (by simp only [List.length_cons, List.length_nil]; decide) ?_
          refine WpX.seq (WpX.ofB ?_)
          repeat (first | (apply fw; focus ((with_reducible constructor) <;> rfl)) | (apply WpA.cd; focus constructor) | ((first | with_reducible refine WpA.go _ rfl fun Y y => ?_ | apply RunTo.id); simp only [zb, seval, w33, txtA]; refine RunTo.fn y (by first | exact trivial | omega | (simp; done) | (simp; omega)) ?_; clear y Y))
          change WpX _ _ _ _ _ _ _ _
          refine WpX.seq (WpX.ofB ?_)
          repeat (first | (apply fw; focus ((with_reducible constructor) <;> rfl)) | (apply WpA.cd; focus constructor) | ((first | with_reducible refine WpA.go _ rfl fun Y y => ?_ | apply RunTo.id); simp only [zb, seval, w33, txtA, he0, hg0, hg1]; refine RunTo.fn y (by first | exact trivial | omega | (simp; done) | (simp; omega)) ?_; clear y Y))
          change WpX _ _ _ _ _ _ _ _
          refine WpX.seq (WpX.ofB ?_)
          repeat (first | (apply fw; focus ((with_reducible constructor) <;> rfl)) | (apply WpA.cd; focus constructor) | ((first | with_reducible refine WpA.go _ rfl fun Y y => ?_ | apply RunTo.id); simp only [zb, seval, w33, txtA]; refine RunTo.fn y (by first | exact trivial | omega | (simp; done) | (simp; omega)) ?_; clear y Y))
          refine WpL.call rfl (guardA_sound (P := Tryd.prog) rfl) (CallA.shut rfl rfl (by kernel_rfl) (ALes.refl _) (by first | rfl | simp [shuts, A.shut, C.shut]) (hspl) ?_)
          (refine WpL.go _ rfl fun Y y => ?_); repeat (first | (apply fw; focus ((with_reducible constructor) <;> rfl)) | (apply WpA.cd; focus constructor) | ((first | with_reducible refine WpA.go _ rfl fun Y y => ?_ | apply RunTo.id); simp only [zb, seval, w33, txtA]; refine RunTo.fn y (by first | exact trivial | omega | (simp; done) | (simp; omega)) ?_; clear y Y))
          change WpX _ _ _ _ _ _ _ _
          refine WpX.seq (WpX.region ?_)
          (refine WpXL.go _ rfl rfl fun Y y => ?_); simp only [zb, seval, w33, txtA, hs0, hwl0]; (refine RunTo.fx y (by first | exact trivial | omega | (simp; done) | (simp; omega)) ?_); clear y Y
          refine WpXL.lookup rfl rfl rfl hf Tryd.underlying63 Tryd.underlying9 Tryd.underlying3 (fun w => Tryd.zeroValue3 w) hlS fun c9 hc9 => ?_
          obtain rfl : c9 = c := by rw [hc] at hc9; cases hc9; rfl
          (refine WpXL.go _ rfl rfl fun Y y => ?_); simp only [zb, seval, w33, txtA, hw0]; (refine RunTo.fx y (by first | exact trivial | omega | (simp; done) | (simp; omega)) ?_); clear y Y
          refine WpXL.update rfl rfl rfl hf Tryd.underlying63 Tryd.underlying9 Tryd.underlying3 hlS hn (by simp [Lit.wf, IntKind.min, IntKind.max, IntKind.signed, IntKind.bits]; omega) (by simp) fun es c' hf2 => ?_
          refine WpXL.nil ?_
          change WpX _ _ _ _ _ _ _ _
          refine WpX.seq (WpX.region ?_)
          (refine WpXL.go _ rfl rfl fun Y y => ?_); simp only [zb, seval, w33, txtA, hs0, hwl0]; (refine RunTo.fx y (by first | exact trivial | omega | (simp; done) | (simp; omega)) ?_); clear y Y
          refine WpXL.lookup rfl rfl rfl hf2 Tryd.underlying63 Tryd.underlying9 Tryd.underlying3 (fun w => Tryd.zeroValue3 w) hlS fun c8 hc8 => ?_
          obtain rfl : c8 = c9 + 1 := by rw [Maps.atKey_put_same hD (by first | trivial | simp [WideAt.IsKeyLit])] at hc8; cases hc8; rfl
          (refine WpXL.go _ rfl rfl fun Y y => ?_); simp only [zb, seval, w33, txtA]; (refine RunTo.fx y (by first | exact trivial | omega | (simp; done) | (simp; omega)) ?_); clear y Y
          refine WpXL.nil ?_
          change WpX _ _ _ _ _ _ _ _
          refine WpX.ofB ?_
          repeat (first | (apply fw; focus ((with_reducible constructor) <;> rfl)) | (apply WpA.cd; focus constructor) | ((first | with_reducible refine WpA.go _ rfl fun Y y => ?_ | apply RunTo.id); simp only [zb, seval, w33, txtA, hs0, hwl0, k1, hl2, hs1, hwl1, hc1]; refine RunTo.fn y (by first | exact trivial | omega | (simp; done) | (simp; omega)) ?_; clear y Y))
          refine WpL.call rfl (guardA_sound (P := Tryd.prog) rfl) (CallA.shut rfl rfl (by kernel_rfl) (ALes.refl _) (by first | rfl | simp [shuts, A.shut, C.shut]) (hub) ?_)
          (refine WpL.go _ rfl fun Y y => ?_); repeat (first | (apply fw; focus ((with_reducible constructor) <;> rfl)) | (apply WpA.cd; focus constructor) | ((first | with_reducible refine WpA.go _ rfl fun Y y => ?_ | apply RunTo.id); simp only [zb, seval, w33, txtA, jobO, hc1]; refine RunTo.fn y (by first | exact trivial | omega | (simp; done) | (simp; omega)) ?_; clear y Y))
          exact ⟨by simp, _, rfl, _, _, _, Le.refl _ _, rfl, trivial, rfl, rfl, es, c', rfl, hf2⟩
      · have hok' := Bool.eq_false_iff.2 hok
        rw [hok'] at hub ⊢
        rw [if_neg (by simp)]
        refine FnM.intro Tryd.func33 rfl Tryd.ntmps33 Tryd.results33 (by simp only [List.length_cons, List.length_nil]; decide) ?_
        refine WpX.seq (WpX.ofB ?_)
        repeat (first | (apply fw; focus ((with_reducible constructor) <;> rfl)) | (apply WpA.cd; focus constructor) | ((first | with_reducible refine WpA.go _ rfl fun Y y => ?_ | apply RunTo.id); simp only [zb, seval, w33, txtA]; refine RunTo.fn y (by first | exact trivial | omega | (simp; done) | (simp; omega)) ?_; clear y Y))
        change WpX _ _ _ _ _ _ _ _
        refine WpX.seq (WpX.ofB ?_)
        repeat (first | (apply fw; focus ((with_reducible constructor) <;> rfl)) | (apply WpA.cd; focus constructor) | ((first | with_reducible refine WpA.go _ rfl fun Y y => ?_ | apply RunTo.id); simp only [zb, seval, w33, txtA, he0, hg0, hg1]; refine RunTo.fn y (by first | exact trivial | omega | (simp; done) | (simp; omega)) ?_; clear y Y))
        change WpX _ _ _ _ _ _ _ _
        refine WpX.seq (WpX.ofB ?_)
        repeat (first | (apply fw; focus ((with_reducible constructor) <;> rfl)) | (apply WpA.cd; focus constructor) | ((first | with_reducible refine WpA.go _ rfl fun Y y => ?_ | apply RunTo.id); simp only [zb, seval, w33, txtA]; refine RunTo.fn y (by first | exact trivial | omega | (simp; done) | (simp; omega)) ?_; clear y Y))
        refine WpL.call rfl (guardA_sound (P := Tryd.prog) rfl) (CallA.shut rfl rfl (by kernel_rfl) (ALes.refl _) (by first | rfl | simp [shuts, A.shut, C.shut]) (hspl) ?_)
        (refine WpL.go _ rfl fun Y y => ?_); repeat (first | (apply fw; focus ((with_reducible constructor) <;> rfl)) | (apply WpA.cd; focus constructor) | ((first | with_reducible refine WpA.go _ rfl fun Y y => ?_ | apply RunTo.id); simp only [zb, seval, w33, txtA]; refine RunTo.fn y (by first | exact trivial | omega | (simp; done) | (simp; omega)) ?_; clear y Y))
        change WpX _ _ _ _ _ _ _ _
        refine WpX.seq (WpX.region ?_)
        (refine WpXL.go _ rfl rfl fun Y y => ?_); simp only [zb, seval, w33, txtA, hs0, hwl0]; (refine RunTo.fx y (by first | exact trivial | omega | (simp; done) | (simp; omega)) ?_); clear y Y
        refine WpXL.lookup rfl rfl rfl hf Tryd.underlying63 Tryd.underlying9 Tryd.underlying3 (fun w => Tryd.zeroValue3 w) hlS fun c9 hc9 => ?_
        obtain rfl : c9 = c := by rw [hc] at hc9; cases hc9; rfl
        (refine WpXL.go _ rfl rfl fun Y y => ?_); simp only [zb, seval, w33, txtA, hw0]; (refine RunTo.fx y (by first | exact trivial | omega | (simp; done) | (simp; omega)) ?_); clear y Y
        refine WpXL.update rfl rfl rfl hf Tryd.underlying63 Tryd.underlying9 Tryd.underlying3 hlS hn (by simp [Lit.wf, IntKind.min, IntKind.max, IntKind.signed, IntKind.bits]; omega) (by simp) fun es c' hf2 => ?_
        refine WpXL.nil ?_
        change WpX _ _ _ _ _ _ _ _
        refine WpX.seq (WpX.region ?_)
        (refine WpXL.go _ rfl rfl fun Y y => ?_); simp only [zb, seval, w33, txtA, hs0, hwl0]; (refine RunTo.fx y (by first | exact trivial | omega | (simp; done) | (simp; omega)) ?_); clear y Y
        refine WpXL.lookup rfl rfl rfl hf2 Tryd.underlying63 Tryd.underlying9 Tryd.underlying3 (fun w => Tryd.zeroValue3 w) hlS fun c8 hc8 => ?_
        obtain rfl : c8 = c9 + 1 := by rw [Maps.atKey_put_same hD (by first | trivial | simp [WideAt.IsKeyLit])] at hc8; cases hc8; rfl
        (refine WpXL.go _ rfl rfl fun Y y => ?_); simp only [zb, seval, w33, txtA]; (refine RunTo.fx y (by first | exact trivial | omega | (simp; done) | (simp; omega)) ?_); clear y Y
        refine WpXL.nil ?_
        change WpX _ _ _ _ _ _ _ _
        refine WpX.ofB ?_
        repeat (first | (apply fw; focus ((with_reducible constructor) <;> rfl)) | (apply WpA.cd; focus constructor) | ((first | with_reducible refine WpA.go _ rfl fun Y y => ?_ | apply RunTo.id); simp only [zb, seval, w33, txtA, hs0, hwl0, k1, hl2, hs1, hwl1]; refine RunTo.fn y (by first | exact trivial | omega | (simp; done) | (simp; omega)) ?_; clear y Y))
        refine WpL.call rfl (guardA_sound (P := Tryd.prog) rfl) (CallA.shut rfl rfl (by kernel_rfl) (ALes.refl _) (by first | rfl | simp [shuts, A.shut, C.shut]) (hub) ?_)
        (refine WpL.go _ rfl fun Y y => ?_); repeat (first | (apply fw; focus ((with_reducible constructor) <;> rfl)) | (apply WpA.cd; focus constructor) | ((first | with_reducible refine WpA.go _ rfl fun Y y => ?_ | apply RunTo.id); simp only [zb, seval, w33, txtA, jobO]; refine RunTo.fn y (by first | exact trivial | omega | (simp; done) | (simp; omega)) ?_; clear y Y))
        exact ⟨by simp, _, rfl, _, _, _, Le.refl _ _, rfl, trivial, rfl, rfl, es, c', rfl, hf2⟩
  · have hV2 : inV inp lim fu c wt = (inp, lim, fu, 9) := by
      clear hsp hwl hwz hspl hs0 hrl hwl0
      match wt, hl1 with
      | [], _ => rfl
      | [w], h => exact absurd rfl h
      | _ :: _ :: _, _ => rfl
    rw [hV2]
    have hl2 : (((sC (inS :: wt)).length : Int) == 2) = false := by rw [hrl]; simp; omega
    generalize sC (inS :: wt) = rw0 at *
    refine FnM.intro Tryd.func33 rfl Tryd.ntmps33 Tryd.results33 (by simp only [List.length_cons, List.length_nil]; decide) ?_
    refine WpX.seq (WpX.ofB ?_)
    repeat (first | (apply fw; focus ((with_reducible constructor) <;> rfl)) | (apply WpA.cd; focus constructor) | ((first | with_reducible refine WpA.go _ rfl fun Y y => ?_ | apply RunTo.id); simp only [zb, seval, w33, txtA]; refine RunTo.fn y (by first | exact trivial | omega | (simp; done) | (simp; omega)) ?_; clear y Y))
    change WpX _ _ _ _ _ _ _ _
    refine WpX.seq (WpX.ofB ?_)
    repeat (first | (apply fw; focus ((with_reducible constructor) <;> rfl)) | (apply WpA.cd; focus constructor) | ((first | with_reducible refine WpA.go _ rfl fun Y y => ?_ | apply RunTo.id); simp only [zb, seval, w33, txtA, he0, hg0, hg1]; refine RunTo.fn y (by first | exact trivial | omega | (simp; done) | (simp; omega)) ?_; clear y Y))
    change WpX _ _ _ _ _ _ _ _
    refine WpX.seq (WpX.ofB ?_)
    repeat (first | (apply fw; focus ((with_reducible constructor) <;> rfl)) | (apply WpA.cd; focus constructor) | ((first | with_reducible refine WpA.go _ rfl fun Y y => ?_ | apply RunTo.id); simp only [zb, seval, w33, txtA]; refine RunTo.fn y (by first | exact trivial | omega | (simp; done) | (simp; omega)) ?_; clear y Y))
    refine WpL.call rfl (guardA_sound (P := Tryd.prog) rfl) (CallA.shut rfl rfl (by kernel_rfl) (ALes.refl _) (by first | rfl | simp [shuts, A.shut, C.shut]) (hspl) ?_)
    (refine WpL.go _ rfl fun Y y => ?_); repeat (first | (apply fw; focus ((with_reducible constructor) <;> rfl)) | (apply WpA.cd; focus constructor) | ((first | with_reducible refine WpA.go _ rfl fun Y y => ?_ | apply RunTo.id); simp only [zb, seval, w33, txtA]; refine RunTo.fn y (by first | exact trivial | omega | (simp; done) | (simp; omega)) ?_; clear y Y))
    change WpX _ _ _ _ _ _ _ _
    refine WpX.seq (WpX.region ?_)
    (refine WpXL.go _ rfl rfl fun Y y => ?_); simp only [zb, seval, w33, txtA, hs0, hwl0]; (refine RunTo.fx y (by first | exact trivial | omega | (simp; done) | (simp; omega)) ?_); clear y Y
    refine WpXL.lookup rfl rfl rfl hf Tryd.underlying63 Tryd.underlying9 Tryd.underlying3 (fun w => Tryd.zeroValue3 w) hlS fun c9 hc9 => ?_
    obtain rfl : c9 = c := by rw [hc] at hc9; cases hc9; rfl
    (refine WpXL.go _ rfl rfl fun Y y => ?_); simp only [zb, seval, w33, txtA, hw0]; (refine RunTo.fx y (by first | exact trivial | omega | (simp; done) | (simp; omega)) ?_); clear y Y
    refine WpXL.update rfl rfl rfl hf Tryd.underlying63 Tryd.underlying9 Tryd.underlying3 hlS hn (by simp [Lit.wf, IntKind.min, IntKind.max, IntKind.signed, IntKind.bits]; omega) (by simp) fun es c' hf2 => ?_
    refine WpXL.nil ?_
    change WpX _ _ _ _ _ _ _ _
    refine WpX.seq (WpX.region ?_)
    (refine WpXL.go _ rfl rfl fun Y y => ?_); simp only [zb, seval, w33, txtA, hs0, hwl0]; (refine RunTo.fx y (by first | exact trivial | omega | (simp; done) | (simp; omega)) ?_); clear y Y
    refine WpXL.lookup rfl rfl rfl hf2 Tryd.underlying63 Tryd.underlying9 Tryd.underlying3 (fun w => Tryd.zeroValue3 w) hlS fun c8 hc8 => ?_
    obtain rfl : c8 = c9 + 1 := by rw [Maps.atKey_put_same hD (by first | trivial | simp [WideAt.IsKeyLit])] at hc8; cases hc8; rfl
    (refine WpXL.go _ rfl rfl fun Y y => ?_); simp only [zb, seval, w33, txtA]; (refine RunTo.fx y (by first | exact trivial | omega | (simp; done) | (simp; omega)) ?_); clear y Y
    refine WpXL.nil ?_
    change WpX _ _ _ _ _ _ _ _
    refine WpX.ofB ?_
    repeat (first | (apply fw; focus ((with_reducible constructor) <;> rfl)) | (apply WpA.cd; focus constructor) | ((first | with_reducible refine WpA.go _ rfl fun Y y => ?_ | apply RunTo.id); simp only [zb, seval, w33, txtA, hs0, hwl0, k1, hl2]; refine RunTo.fn y (by first | exact trivial | omega | (simp; done) | (simp; omega)) ?_; clear y Y))
    exact ⟨by simp, _, rfl, _, _, _, Le.refl _ _, rfl, trivial, rfl, rfl, es, c', rfl, hf2⟩
theorem reads_limG (b : Nat) (o : Obj) (n : Nat) (D : DataW Unit) (line : ByteArray) (wt : List ByteArray) (c : Int) (T : List (Option Ob)) (o0 o1 o2 : Ob) (src inp : ByteArray) (lim fu : Int) (fc : C) (hsz : line.size ≤ 70000) (hl0 : line.size ≠ 0) (z : UInt8) (hg0 : line[0]? = some z) (hz : z ≠ 35) (hsp : Lib.splitB ⟨#[32]⟩ 0 (Lib.countB line ⟨#[32]⟩) line = limitS :: wt) (hwl : wt.length ≤ 70000) (hwz : ∀ w ∈ wt, w.size ≤ 70000)
    (hf : MFit Tryd.prog 9 3 o n D) (hn : n < maxLen) (hc : D.atKey (.string limitS.data.toList) (.lit (.int .i64 0)) = .lit (.int .i64 c)) (hcc : 0 ≤ c ∧ c ≤ 1000000) (hD : Maps.IsMap D) :
    FnM Tryd.prog 33 [.one (.ptr 3 1 0 0), .one (.v (.string line)), .one (.v (.map (some b)))] (some o0 :: some o1 :: some o2 :: jobO src inp lim fu fc :: T) b o
      (fun r s' o' => r = .one (.v (.int .i64 (rdsV inp lim fu c limitS wt).2.2.2)) ∧ s' = some o0 :: some o1 :: some o2 :: jobO src (rdsV inp lim fu c limitS wt).1 (rdsV inp lim fu c limitS wt).2.1 (rdsV inp lim fu c limitS wt).2.2.1 fc :: T ∧ ∃ es c', o' = .map es c' ∧ MFit Tryd.prog 9 3 (.map es c') (n + 1) (D.put (.string limitS.data.toList) (.lit (.int .i64 (c + 1))))) := by
  have he0 : (line.toList == (⟨#[]⟩ : ByteArray).toList) = false := by rw [strDec, decide_eq_false fun e => hl0 ((size_nil _).1 e)]
  have hg1 : ((z.toNat : Int) == 35) = false := by simp; intro e; apply hz; exact UInt8.toNat_inj.1 (by rw [show (35 : UInt8).toNat = 35 from rfl]; omega)
  have hspl := split_at line _ hsz hsp
  have hs0 : (sC (limitS :: wt))[0]? = some [.v (.string limitS)] := rfl
  have hrl : (sC (limitS :: wt)).length = wt.length + 1 := by rw [sC_len]; rfl
  have hwl0 : (0 : Int) < ((sC (limitS :: wt)).length : Int) := by rw [hrl]; omega
  have hw0 : IntKind.i64.wrap (c + 1) = c + 1 := by rw [wrap64 (by omega) (by omega)]
  have hlS : limitS.size ≤ maxLen := by decide
  have hon : c = 0 ∨ c ≠ 0 := by omega
  have k1 : (limitS.toList == (⟨#[105, 110]⟩ : ByteArray).toList) = false := by kernel_rfl
  have k2 : (limitS.toList == (⟨#[108, 105, 109, 105, 116]⟩ : ByteArray).toList) = true := by kernel_rfl
  have k3 : (limitS.toList == (⟨#[102, 117, 101, 108]⟩ : ByteArray).toList) = false := by kernel_rfl
  have hrl1 : ((1 : Int) ≤ ((sC (limitS :: wt)).length : Int)) := by rw [hrl]; omega
  have hdr1 : List.drop 1 (List.take (sC (limitS :: wt)).length (sC (limitS :: wt))) = sC wt := by rw [List.take_length]; rfl
  have hnum := numbers_pure wt 1 (by omega) hwz
  rw [rdsV_lim]
  generalize sC (limitS :: wt) = rw0 at *
  cases hv : numsV wt with
  | none =>
    simp only [numT, hv] at hnum
    refine FnM.intro Tryd.func33 rfl Tryd.ntmps33 Tryd.results33 (by simp only [List.length_cons, List.length_nil]; decide) ?_
    refine WpX.seq (WpX.ofB ?_)
    repeat (first | (apply fw; focus ((with_reducible constructor) <;> rfl)) | (apply WpA.cd; focus constructor) | ((first | with_reducible refine WpA.go _ rfl fun Y y => ?_ | apply RunTo.id); simp only [zb, seval, w33, txtA]; refine RunTo.fn y (by first | exact trivial | omega | (simp; done) | (simp; omega)) ?_; clear y Y))
    change WpX _ _ _ _ _ _ _ _
    refine WpX.seq (WpX.ofB ?_)
    repeat (first | (apply fw; focus ((with_reducible constructor) <;> rfl)) | (apply WpA.cd; focus constructor) | ((first | with_reducible refine WpA.go _ rfl fun Y y => ?_ | apply RunTo.id); simp only [zb, seval, w33, txtA, he0, hg0, hg1]; refine RunTo.fn y (by first | exact trivial | omega | (simp; done) | (simp; omega)) ?_; clear y Y))
    change WpX _ _ _ _ _ _ _ _
    refine WpX.seq (WpX.ofB ?_)
    repeat (first | (apply fw; focus ((with_reducible constructor) <;> rfl)) | (apply WpA.cd; focus constructor) | ((first | with_reducible refine WpA.go _ rfl fun Y y => ?_ | apply RunTo.id); simp only [zb, seval, w33, txtA]; refine RunTo.fn y (by first | exact trivial | omega | (simp; done) | (simp; omega)) ?_; clear y Y))
    refine WpL.call rfl (guardA_sound (P := Tryd.prog) rfl) (CallA.shut rfl rfl (by kernel_rfl) (ALes.refl _) (by first | rfl | simp [shuts, A.shut, C.shut]) (hspl) ?_)
    (refine WpL.go _ rfl fun Y y => ?_); repeat (first | (apply fw; focus ((with_reducible constructor) <;> rfl)) | (apply WpA.cd; focus constructor) | ((first | with_reducible refine WpA.go _ rfl fun Y y => ?_ | apply RunTo.id); simp only [zb, seval, w33, txtA]; refine RunTo.fn y (by first | exact trivial | omega | (simp; done) | (simp; omega)) ?_; clear y Y))
    change WpX _ _ _ _ _ _ _ _
    refine WpX.seq (WpX.region ?_)
    (refine WpXL.go _ rfl rfl fun Y y => ?_); simp only [zb, seval, w33, txtA, hs0, hwl0]; (refine RunTo.fx y (by first | exact trivial | omega | (simp; done) | (simp; omega)) ?_); clear y Y
    refine WpXL.lookup rfl rfl rfl hf Tryd.underlying63 Tryd.underlying9 Tryd.underlying3 (fun w => Tryd.zeroValue3 w) hlS fun c9 hc9 => ?_
    obtain rfl : c9 = c := by rw [hc] at hc9; cases hc9; rfl
    (refine WpXL.go _ rfl rfl fun Y y => ?_); simp only [zb, seval, w33, txtA, hw0]; (refine RunTo.fx y (by first | exact trivial | omega | (simp; done) | (simp; omega)) ?_); clear y Y
    refine WpXL.update rfl rfl rfl hf Tryd.underlying63 Tryd.underlying9 Tryd.underlying3 hlS hn (by simp [Lit.wf, IntKind.min, IntKind.max, IntKind.signed, IntKind.bits]; omega) (by simp) fun es c' hf2 => ?_
    refine WpXL.nil ?_
    change WpX _ _ _ _ _ _ _ _
    refine WpX.seq (WpX.region ?_)
    (refine WpXL.go _ rfl rfl fun Y y => ?_); simp only [zb, seval, w33, txtA, hs0, hwl0]; (refine RunTo.fx y (by first | exact trivial | omega | (simp; done) | (simp; omega)) ?_); clear y Y
    refine WpXL.lookup rfl rfl rfl hf2 Tryd.underlying63 Tryd.underlying9 Tryd.underlying3 (fun w => Tryd.zeroValue3 w) hlS fun c8 hc8 => ?_
    obtain rfl : c8 = c9 + 1 := by rw [Maps.atKey_put_same hD (by first | trivial | simp [WideAt.IsKeyLit])] at hc8; cases hc8; rfl
    (refine WpXL.go _ rfl rfl fun Y y => ?_); simp only [zb, seval, w33, txtA]; (refine RunTo.fx y (by first | exact trivial | omega | (simp; done) | (simp; omega)) ?_); clear y Y
    refine WpXL.nil ?_
    change WpX _ _ _ _ _ _ _ _
    refine WpX.ofB ?_
    repeat (first | (apply fw; focus ((with_reducible constructor) <;> rfl)) | (apply WpA.cd; focus constructor) | ((first | with_reducible refine WpA.go _ rfl fun Y y => ?_ | apply RunTo.id); simp only [zb, seval, w33, txtA, hs0, hwl0, k1, k2, k3, hrl1, hdr1]; refine RunTo.fn y (by first | exact trivial | omega | (simp; done) | (simp; omega)) ?_; clear y Y))
    refine WpL.call rfl (guardA_sound (P := Tryd.prog) rfl) (CallA.shut rfl rfl (by kernel_rfl) (ALes.refl _) (by first | rfl | simp [shuts, A.shut, C.shut]) (hnum) ?_)
    (refine WpL.go _ rfl fun Y y => ?_); repeat (first | (apply fw; focus ((with_reducible constructor) <;> rfl)) | (apply WpA.cd; focus constructor) | ((first | with_reducible refine WpA.go _ rfl fun Y y => ?_ | apply RunTo.id); simp only [zb, seval, w33, txtA, jobO, k1, k2, k3]; refine RunTo.fn y (by first | exact trivial | omega | (simp; done) | (simp; omega)) ?_; clear y Y))
    exact ⟨by simp, _, rfl, _, _, _, Le.refl _ _, rfl, trivial, rfl, rfl, es, c', rfl, hf2⟩
  | some l =>
    simp only [numT, hv] at hnum
    by_cases hl1 : l.length = 1
    · obtain ⟨v, rfl⟩ : ∃ v, l = [v] := by
        match l, hl1 with
        | [v], _ => exact ⟨v, rfl⟩
      have he1 : ((([v] : List Int).length : Int) == 1) = true := rfl
      rw [he1] at hnum
      have hnv : (nC [v]) = [[.v (.int .i64 v)]] := rfl
      rw [hnv] at hnum
      simp only [limV]
      by_cases hc0 : c = 0
      · have hc1 : ((c + 1 : Int) == 1) = true := by simp [hc0]
        rw [if_pos hc0]
        refine FnM.intro Tryd.func33 rfl Tryd.ntmps33 Tryd.results33 (by simp only [List.length_cons, List.length_nil]; decide) ?_
        refine WpX.seq (WpX.ofB ?_)
        repeat (first | (apply fw; focus ((with_reducible constructor) <;> rfl)) | (apply WpA.cd; focus constructor) | ((first | with_reducible refine WpA.go _ rfl fun Y y => ?_ | apply RunTo.id); simp only [zb, seval, w33, txtA]; refine RunTo.fn y (by first | exact trivial | omega | (simp; done) | (simp; omega)) ?_; clear y Y))
        change WpX _ _ _ _ _ _ _ _
        refine WpX.seq (WpX.ofB ?_)
        repeat (first | (apply fw; focus ((with_reducible constructor) <;> rfl)) | (apply WpA.cd; focus constructor) | ((first | with_reducible refine WpA.go _ rfl fun Y y => ?_ | apply RunTo.id); simp only [zb, seval, w33, txtA, he0, hg0, hg1]; refine RunTo.fn y (by first | exact trivial | omega | (simp; done) | (simp; omega)) ?_; clear y Y))
        change WpX _ _ _ _ _ _ _ _
        refine WpX.seq (WpX.ofB ?_)
        repeat (first | (apply fw; focus ((with_reducible constructor) <;> rfl)) | (apply WpA.cd; focus constructor) | ((first | with_reducible refine WpA.go _ rfl fun Y y => ?_ | apply RunTo.id); simp only [zb, seval, w33, txtA]; refine RunTo.fn y (by first | exact trivial | omega | (simp; done) | (simp; omega)) ?_; clear y Y))
        refine WpL.call rfl (guardA_sound (P := Tryd.prog) rfl) (CallA.shut rfl rfl (by kernel_rfl) (ALes.refl _) (by first | rfl | simp [shuts, A.shut, C.shut]) (hspl) ?_)
        (refine WpL.go _ rfl fun Y y => ?_); repeat (first | (apply fw; focus ((with_reducible constructor) <;> rfl)) | (apply WpA.cd; focus constructor) | ((first | with_reducible refine WpA.go _ rfl fun Y y => ?_ | apply RunTo.id); simp only [zb, seval, w33, txtA]; refine RunTo.fn y (by first | exact trivial | omega | (simp; done) | (simp; omega)) ?_; clear y Y))
        change WpX _ _ _ _ _ _ _ _
        refine WpX.seq (WpX.region ?_)
        (refine WpXL.go _ rfl rfl fun Y y => ?_); simp only [zb, seval, w33, txtA, hs0, hwl0]; (refine RunTo.fx y (by first | exact trivial | omega | (simp; done) | (simp; omega)) ?_); clear y Y
        refine WpXL.lookup rfl rfl rfl hf Tryd.underlying63 Tryd.underlying9 Tryd.underlying3 (fun w => Tryd.zeroValue3 w) hlS fun c9 hc9 => ?_
        obtain rfl : c9 = c := by rw [hc] at hc9; cases hc9; rfl
        (refine WpXL.go _ rfl rfl fun Y y => ?_); simp only [zb, seval, w33, txtA, hw0]; (refine RunTo.fx y (by first | exact trivial | omega | (simp; done) | (simp; omega)) ?_); clear y Y
        refine WpXL.update rfl rfl rfl hf Tryd.underlying63 Tryd.underlying9 Tryd.underlying3 hlS hn (by simp [Lit.wf, IntKind.min, IntKind.max, IntKind.signed, IntKind.bits]; omega) (by simp) fun es c' hf2 => ?_
        refine WpXL.nil ?_
        change WpX _ _ _ _ _ _ _ _
        refine WpX.seq (WpX.region ?_)
        (refine WpXL.go _ rfl rfl fun Y y => ?_); simp only [zb, seval, w33, txtA, hs0, hwl0]; (refine RunTo.fx y (by first | exact trivial | omega | (simp; done) | (simp; omega)) ?_); clear y Y
        refine WpXL.lookup rfl rfl rfl hf2 Tryd.underlying63 Tryd.underlying9 Tryd.underlying3 (fun w => Tryd.zeroValue3 w) hlS fun c8 hc8 => ?_
        obtain rfl : c8 = c9 + 1 := by rw [Maps.atKey_put_same hD (by first | trivial | simp [WideAt.IsKeyLit])] at hc8; cases hc8; rfl
        (refine WpXL.go _ rfl rfl fun Y y => ?_); simp only [zb, seval, w33, txtA]; (refine RunTo.fx y (by first | exact trivial | omega | (simp; done) | (simp; omega)) ?_); clear y Y
        refine WpXL.nil ?_
        change WpX _ _ _ _ _ _ _ _
        refine WpX.ofB ?_
        repeat (first | (apply fw; focus ((with_reducible constructor) <;> rfl)) | (apply WpA.cd; focus constructor) | ((first | with_reducible refine WpA.go _ rfl fun Y y => ?_ | apply RunTo.id); simp only [zb, seval, w33, txtA, hs0, hwl0, k1, k2, k3, hrl1, hdr1, hc1]; refine RunTo.fn y (by first | exact trivial | omega | (simp; done) | (simp; omega)) ?_; clear y Y))
        refine WpL.call rfl (guardA_sound (P := Tryd.prog) rfl) (CallA.shut rfl rfl (by kernel_rfl) (ALes.refl _) (by first | rfl | simp [shuts, A.shut, C.shut]) (hnum) ?_)
        (refine WpL.go _ rfl fun Y y => ?_); repeat (first | (apply fw; focus ((with_reducible constructor) <;> rfl)) | (apply WpA.cd; focus constructor) | ((first | with_reducible refine WpA.go _ rfl fun Y y => ?_ | apply RunTo.id); simp only [zb, seval, w33, txtA, jobO, k1, k2, k3, hs0, hwl0, hc1]; refine RunTo.fn y (by first | exact trivial | omega | (simp; done) | (simp; omega)) ?_; clear y Y))
        exact ⟨by simp, _, rfl, _, _, _, Le.refl _ _, rfl, trivial, rfl, rfl, es, c', rfl, hf2⟩
      · have hc1 : ((c + 1 : Int) == 1) = false := by simp; omega
        rw [if_neg hc0]
        refine FnM.intro Tryd.func33 rfl Tryd.ntmps33 Tryd.results33 (by simp only [List.length_cons, List.length_nil]; decide) ?_
        refine WpX.seq (WpX.ofB ?_)
        repeat (first | (apply fw; focus ((with_reducible constructor) <;> rfl)) | (apply WpA.cd; focus constructor) | ((first | with_reducible refine WpA.go _ rfl fun Y y => ?_ | apply RunTo.id); simp only [zb, seval, w33, txtA]; refine RunTo.fn y (by first | exact trivial | omega | (simp; done) | (simp; omega)) ?_; clear y Y))
        change WpX _ _ _ _ _ _ _ _
        refine WpX.seq (WpX.ofB ?_)
        repeat (first | (apply fw; focus ((with_reducible constructor) <;> rfl)) | (apply WpA.cd; focus constructor) | ((first | with_reducible refine WpA.go _ rfl fun Y y => ?_ | apply RunTo.id); simp only [zb, seval, w33, txtA, he0, hg0, hg1]; refine RunTo.fn y (by first | exact trivial | omega | (simp; done) | (simp; omega)) ?_; clear y Y))
        change WpX _ _ _ _ _ _ _ _
        refine WpX.seq (WpX.ofB ?_)
        repeat (first | (apply fw; focus ((with_reducible constructor) <;> rfl)) | (apply WpA.cd; focus constructor) | ((first | with_reducible refine WpA.go _ rfl fun Y y => ?_ | apply RunTo.id); simp only [zb, seval, w33, txtA]; refine RunTo.fn y (by first | exact trivial | omega | (simp; done) | (simp; omega)) ?_; clear y Y))
        refine WpL.call rfl (guardA_sound (P := Tryd.prog) rfl) (CallA.shut rfl rfl (by kernel_rfl) (ALes.refl _) (by first | rfl | simp [shuts, A.shut, C.shut]) (hspl) ?_)
        (refine WpL.go _ rfl fun Y y => ?_); repeat (first | (apply fw; focus ((with_reducible constructor) <;> rfl)) | (apply WpA.cd; focus constructor) | ((first | with_reducible refine WpA.go _ rfl fun Y y => ?_ | apply RunTo.id); simp only [zb, seval, w33, txtA]; refine RunTo.fn y (by first | exact trivial | omega | (simp; done) | (simp; omega)) ?_; clear y Y))
        change WpX _ _ _ _ _ _ _ _
        refine WpX.seq (WpX.region ?_)
        (refine WpXL.go _ rfl rfl fun Y y => ?_); simp only [zb, seval, w33, txtA, hs0, hwl0]; (refine RunTo.fx y (by first | exact trivial | omega | (simp; done) | (simp; omega)) ?_); clear y Y
        refine WpXL.lookup rfl rfl rfl hf Tryd.underlying63 Tryd.underlying9 Tryd.underlying3 (fun w => Tryd.zeroValue3 w) hlS fun c9 hc9 => ?_
        obtain rfl : c9 = c := by rw [hc] at hc9; cases hc9; rfl
        (refine WpXL.go _ rfl rfl fun Y y => ?_); simp only [zb, seval, w33, txtA, hw0]; (refine RunTo.fx y (by first | exact trivial | omega | (simp; done) | (simp; omega)) ?_); clear y Y
        refine WpXL.update rfl rfl rfl hf Tryd.underlying63 Tryd.underlying9 Tryd.underlying3 hlS hn (by simp [Lit.wf, IntKind.min, IntKind.max, IntKind.signed, IntKind.bits]; omega) (by simp) fun es c' hf2 => ?_
        refine WpXL.nil ?_
        change WpX _ _ _ _ _ _ _ _
        refine WpX.seq (WpX.region ?_)
        (refine WpXL.go _ rfl rfl fun Y y => ?_); simp only [zb, seval, w33, txtA, hs0, hwl0]; (refine RunTo.fx y (by first | exact trivial | omega | (simp; done) | (simp; omega)) ?_); clear y Y
        refine WpXL.lookup rfl rfl rfl hf2 Tryd.underlying63 Tryd.underlying9 Tryd.underlying3 (fun w => Tryd.zeroValue3 w) hlS fun c8 hc8 => ?_
        obtain rfl : c8 = c9 + 1 := by rw [Maps.atKey_put_same hD (by first | trivial | simp [WideAt.IsKeyLit])] at hc8; cases hc8; rfl
        (refine WpXL.go _ rfl rfl fun Y y => ?_); simp only [zb, seval, w33, txtA]; (refine RunTo.fx y (by first | exact trivial | omega | (simp; done) | (simp; omega)) ?_); clear y Y
        refine WpXL.nil ?_
        change WpX _ _ _ _ _ _ _ _
        refine WpX.ofB ?_
        repeat (first | (apply fw; focus ((with_reducible constructor) <;> rfl)) | (apply WpA.cd; focus constructor) | ((first | with_reducible refine WpA.go _ rfl fun Y y => ?_ | apply RunTo.id); simp only [zb, seval, w33, txtA, hs0, hwl0, k1, k2, k3, hrl1, hdr1, hc1]; refine RunTo.fn y (by first | exact trivial | omega | (simp; done) | (simp; omega)) ?_; clear y Y))
        refine WpL.call rfl (guardA_sound (P := Tryd.prog) rfl) (CallA.shut rfl rfl (by kernel_rfl) (ALes.refl _) (by first | rfl | simp [shuts, A.shut, C.shut]) (hnum) ?_)
        (refine WpL.go _ rfl fun Y y => ?_); repeat (first | (apply fw; focus ((with_reducible constructor) <;> rfl)) | (apply WpA.cd; focus constructor) | ((first | with_reducible refine WpA.go _ rfl fun Y y => ?_ | apply RunTo.id); simp only [zb, seval, w33, txtA, jobO, k1, k2, k3, hs0, hwl0, hc1]; refine RunTo.fn y (by first | exact trivial | omega | (simp; done) | (simp; omega)) ?_; clear y Y))
        exact ⟨by simp, _, rfl, _, _, _, Le.refl _ _, rfl, trivial, rfl, rfl, es, c', rfl, hf2⟩
    · have he1 : ((l.length : Int) == 1) = false := by simp; omega
      rw [he1] at hnum
      have hV2 : limV inp lim fu c (some l) = (inp, lim, fu, 9) := by
        match l, hl1 with
        | [], _ => rfl
        | [w], h => exact absurd rfl h
        | _ :: _ :: _, _ => rfl
      rw [hV2]
      refine FnM.intro Tryd.func33 rfl Tryd.ntmps33 Tryd.results33 (by simp only [List.length_cons, List.length_nil]; decide) ?_
      refine WpX.seq (WpX.ofB ?_)
      repeat (first | (apply fw; focus ((with_reducible constructor) <;> rfl)) | (apply WpA.cd; focus constructor) | ((first | with_reducible refine WpA.go _ rfl fun Y y => ?_ | apply RunTo.id); simp only [zb, seval, w33, txtA]; refine RunTo.fn y (by first | exact trivial | omega | (simp; done) | (simp; omega)) ?_; clear y Y))
      change WpX _ _ _ _ _ _ _ _
      refine WpX.seq (WpX.ofB ?_)
      repeat (first | (apply fw; focus ((with_reducible constructor) <;> rfl)) | (apply WpA.cd; focus constructor) | ((first | with_reducible refine WpA.go _ rfl fun Y y => ?_ | apply RunTo.id); simp only [zb, seval, w33, txtA, he0, hg0, hg1]; refine RunTo.fn y (by first | exact trivial | omega | (simp; done) | (simp; omega)) ?_; clear y Y))
      change WpX _ _ _ _ _ _ _ _
      refine WpX.seq (WpX.ofB ?_)
      repeat (first | (apply fw; focus ((with_reducible constructor) <;> rfl)) | (apply WpA.cd; focus constructor) | ((first | with_reducible refine WpA.go _ rfl fun Y y => ?_ | apply RunTo.id); simp only [zb, seval, w33, txtA]; refine RunTo.fn y (by first | exact trivial | omega | (simp; done) | (simp; omega)) ?_; clear y Y))
      refine WpL.call rfl (guardA_sound (P := Tryd.prog) rfl) (CallA.shut rfl rfl (by kernel_rfl) (ALes.refl _) (by first | rfl | simp [shuts, A.shut, C.shut]) (hspl) ?_)
      (refine WpL.go _ rfl fun Y y => ?_); repeat (first | (apply fw; focus ((with_reducible constructor) <;> rfl)) | (apply WpA.cd; focus constructor) | ((first | with_reducible refine WpA.go _ rfl fun Y y => ?_ | apply RunTo.id); simp only [zb, seval, w33, txtA]; refine RunTo.fn y (by first | exact trivial | omega | (simp; done) | (simp; omega)) ?_; clear y Y))
      change WpX _ _ _ _ _ _ _ _
      refine WpX.seq (WpX.region ?_)
      (refine WpXL.go _ rfl rfl fun Y y => ?_); simp only [zb, seval, w33, txtA, hs0, hwl0]; (refine RunTo.fx y (by first | exact trivial | omega | (simp; done) | (simp; omega)) ?_); clear y Y
      refine WpXL.lookup rfl rfl rfl hf Tryd.underlying63 Tryd.underlying9 Tryd.underlying3 (fun w => Tryd.zeroValue3 w) hlS fun c9 hc9 => ?_
      obtain rfl : c9 = c := by rw [hc] at hc9; cases hc9; rfl
      (refine WpXL.go _ rfl rfl fun Y y => ?_); simp only [zb, seval, w33, txtA, hw0]; (refine RunTo.fx y (by first | exact trivial | omega | (simp; done) | (simp; omega)) ?_); clear y Y
      refine WpXL.update rfl rfl rfl hf Tryd.underlying63 Tryd.underlying9 Tryd.underlying3 hlS hn (by simp [Lit.wf, IntKind.min, IntKind.max, IntKind.signed, IntKind.bits]; omega) (by simp) fun es c' hf2 => ?_
      refine WpXL.nil ?_
      change WpX _ _ _ _ _ _ _ _
      refine WpX.seq (WpX.region ?_)
      (refine WpXL.go _ rfl rfl fun Y y => ?_); simp only [zb, seval, w33, txtA, hs0, hwl0]; (refine RunTo.fx y (by first | exact trivial | omega | (simp; done) | (simp; omega)) ?_); clear y Y
      refine WpXL.lookup rfl rfl rfl hf2 Tryd.underlying63 Tryd.underlying9 Tryd.underlying3 (fun w => Tryd.zeroValue3 w) hlS fun c8 hc8 => ?_
      obtain rfl : c8 = c9 + 1 := by rw [Maps.atKey_put_same hD (by first | trivial | simp [WideAt.IsKeyLit])] at hc8; cases hc8; rfl
      (refine WpXL.go _ rfl rfl fun Y y => ?_); simp only [zb, seval, w33, txtA]; (refine RunTo.fx y (by first | exact trivial | omega | (simp; done) | (simp; omega)) ?_); clear y Y
      refine WpXL.nil ?_
      change WpX _ _ _ _ _ _ _ _
      refine WpX.ofB ?_
      repeat (first | (apply fw; focus ((with_reducible constructor) <;> rfl)) | (apply WpA.cd; focus constructor) | ((first | with_reducible refine WpA.go _ rfl fun Y y => ?_ | apply RunTo.id); simp only [zb, seval, w33, txtA, hs0, hwl0, k1, k2, k3, hrl1, hdr1]; refine RunTo.fn y (by first | exact trivial | omega | (simp; done) | (simp; omega)) ?_; clear y Y))
      refine WpL.call rfl (guardA_sound (P := Tryd.prog) rfl) (CallA.shut rfl rfl (by kernel_rfl) (ALes.refl _) (by first | rfl | simp [shuts, A.shut, C.shut]) (hnum) ?_)
      (refine WpL.go _ rfl fun Y y => ?_); repeat (first | (apply fw; focus ((with_reducible constructor) <;> rfl)) | (apply WpA.cd; focus constructor) | ((first | with_reducible refine WpA.go _ rfl fun Y y => ?_ | apply RunTo.id); simp only [zb, seval, w33, txtA, jobO, k1, k2, k3]; refine RunTo.fn y (by first | exact trivial | omega | (simp; done) | (simp; omega)) ?_; clear y Y))
      exact ⟨by simp, _, rfl, _, _, _, Le.refl _ _, rfl, trivial, rfl, rfl, es, c', rfl, hf2⟩
theorem reads_fuG (b : Nat) (o : Obj) (n : Nat) (D : DataW Unit) (line : ByteArray) (wt : List ByteArray) (c : Int) (T : List (Option Ob)) (o0 o1 o2 : Ob) (src inp : ByteArray) (lim fu : Int) (fc : C) (hsz : line.size ≤ 70000) (hl0 : line.size ≠ 0) (z : UInt8) (hg0 : line[0]? = some z) (hz : z ≠ 35) (hsp : Lib.splitB ⟨#[32]⟩ 0 (Lib.countB line ⟨#[32]⟩) line = fuelS :: wt) (hwl : wt.length ≤ 70000) (hwz : ∀ w ∈ wt, w.size ≤ 70000)
    (hf : MFit Tryd.prog 9 3 o n D) (hn : n < maxLen) (hc : D.atKey (.string fuelS.data.toList) (.lit (.int .i64 0)) = .lit (.int .i64 c)) (hcc : 0 ≤ c ∧ c ≤ 1000000) (hD : Maps.IsMap D) :
    FnM Tryd.prog 33 [.one (.ptr 3 1 0 0), .one (.v (.string line)), .one (.v (.map (some b)))] (some o0 :: some o1 :: some o2 :: jobO src inp lim fu fc :: T) b o
      (fun r s' o' => r = .one (.v (.int .i64 (rdsV inp lim fu c fuelS wt).2.2.2)) ∧ s' = some o0 :: some o1 :: some o2 :: jobO src (rdsV inp lim fu c fuelS wt).1 (rdsV inp lim fu c fuelS wt).2.1 (rdsV inp lim fu c fuelS wt).2.2.1 fc :: T ∧ ∃ es c', o' = .map es c' ∧ MFit Tryd.prog 9 3 (.map es c') (n + 1) (D.put (.string fuelS.data.toList) (.lit (.int .i64 (c + 1))))) := by
  have he0 : (line.toList == (⟨#[]⟩ : ByteArray).toList) = false := by rw [strDec, decide_eq_false fun e => hl0 ((size_nil _).1 e)]
  have hg1 : ((z.toNat : Int) == 35) = false := by simp; intro e; apply hz; exact UInt8.toNat_inj.1 (by rw [show (35 : UInt8).toNat = 35 from rfl]; omega)
  have hspl := split_at line _ hsz hsp
  have hs0 : (sC (fuelS :: wt))[0]? = some [.v (.string fuelS)] := rfl
  have hrl : (sC (fuelS :: wt)).length = wt.length + 1 := by rw [sC_len]; rfl
  have hwl0 : (0 : Int) < ((sC (fuelS :: wt)).length : Int) := by rw [hrl]; omega
  have hw0 : IntKind.i64.wrap (c + 1) = c + 1 := by rw [wrap64 (by omega) (by omega)]
  have hlS : fuelS.size ≤ maxLen := by decide
  have hon : c = 0 ∨ c ≠ 0 := by omega
  have k1 : (fuelS.toList == (⟨#[105, 110]⟩ : ByteArray).toList) = false := by kernel_rfl
  have k2 : (fuelS.toList == (⟨#[108, 105, 109, 105, 116]⟩ : ByteArray).toList) = false := by kernel_rfl
  have k3 : (fuelS.toList == (⟨#[102, 117, 101, 108]⟩ : ByteArray).toList) = true := by kernel_rfl
  have hrl1 : ((1 : Int) ≤ ((sC (fuelS :: wt)).length : Int)) := by rw [hrl]; omega
  have hdr1 : List.drop 1 (List.take (sC (fuelS :: wt)).length (sC (fuelS :: wt))) = sC wt := by rw [List.take_length]; rfl
  have hnum := numbers_pure wt 1 (by omega) hwz
  rw [rdsV_fu]
  generalize sC (fuelS :: wt) = rw0 at *
  cases hv : numsV wt with
  | none =>
    simp only [numT, hv] at hnum
    refine FnM.intro Tryd.func33 rfl Tryd.ntmps33 Tryd.results33 (by simp only [List.length_cons, List.length_nil]; decide) ?_
    refine WpX.seq (WpX.ofB ?_)
    repeat (first | (apply fw; focus ((with_reducible constructor) <;> rfl)) | (apply WpA.cd; focus constructor) | ((first | with_reducible refine WpA.go _ rfl fun Y y => ?_ | apply RunTo.id); simp only [zb, seval, w33, txtA]; refine RunTo.fn y (by first | exact trivial | omega | (simp; done) | (simp; omega)) ?_; clear y Y))
    change WpX _ _ _ _ _ _ _ _
    refine WpX.seq (WpX.ofB ?_)
    repeat (first | (apply fw; focus ((with_reducible constructor) <;> rfl)) | (apply WpA.cd; focus constructor) | ((first | with_reducible refine WpA.go _ rfl fun Y y => ?_ | apply RunTo.id); simp only [zb, seval, w33, txtA, he0, hg0, hg1]; refine RunTo.fn y (by first | exact trivial | omega | (simp; done) | (simp; omega)) ?_; clear y Y))
    change WpX _ _ _ _ _ _ _ _
    refine WpX.seq (WpX.ofB ?_)
    repeat (first | (apply fw; focus ((with_reducible constructor) <;> rfl)) | (apply WpA.cd; focus constructor) | ((first | with_reducible refine WpA.go _ rfl fun Y y => ?_ | apply RunTo.id); simp only [zb, seval, w33, txtA]; refine RunTo.fn y (by first | exact trivial | omega | (simp; done) | (simp; omega)) ?_; clear y Y))
    refine WpL.call rfl (guardA_sound (P := Tryd.prog) rfl) (CallA.shut rfl rfl (by kernel_rfl) (ALes.refl _) (by first | rfl | simp [shuts, A.shut, C.shut]) (hspl) ?_)
    (refine WpL.go _ rfl fun Y y => ?_); repeat (first | (apply fw; focus ((with_reducible constructor) <;> rfl)) | (apply WpA.cd; focus constructor) | ((first | with_reducible refine WpA.go _ rfl fun Y y => ?_ | apply RunTo.id); simp only [zb, seval, w33, txtA]; refine RunTo.fn y (by first | exact trivial | omega | (simp; done) | (simp; omega)) ?_; clear y Y))
    change WpX _ _ _ _ _ _ _ _
    refine WpX.seq (WpX.region ?_)
    (refine WpXL.go _ rfl rfl fun Y y => ?_); simp only [zb, seval, w33, txtA, hs0, hwl0]; (refine RunTo.fx y (by first | exact trivial | omega | (simp; done) | (simp; omega)) ?_); clear y Y
    refine WpXL.lookup rfl rfl rfl hf Tryd.underlying63 Tryd.underlying9 Tryd.underlying3 (fun w => Tryd.zeroValue3 w) hlS fun c9 hc9 => ?_
    obtain rfl : c9 = c := by rw [hc] at hc9; cases hc9; rfl
    (refine WpXL.go _ rfl rfl fun Y y => ?_); simp only [zb, seval, w33, txtA, hw0]; (refine RunTo.fx y (by first | exact trivial | omega | (simp; done) | (simp; omega)) ?_); clear y Y
    refine WpXL.update rfl rfl rfl hf Tryd.underlying63 Tryd.underlying9 Tryd.underlying3 hlS hn (by simp [Lit.wf, IntKind.min, IntKind.max, IntKind.signed, IntKind.bits]; omega) (by simp) fun es c' hf2 => ?_
    refine WpXL.nil ?_
    change WpX _ _ _ _ _ _ _ _
    refine WpX.seq (WpX.region ?_)
    (refine WpXL.go _ rfl rfl fun Y y => ?_); simp only [zb, seval, w33, txtA, hs0, hwl0]; (refine RunTo.fx y (by first | exact trivial | omega | (simp; done) | (simp; omega)) ?_); clear y Y
    refine WpXL.lookup rfl rfl rfl hf2 Tryd.underlying63 Tryd.underlying9 Tryd.underlying3 (fun w => Tryd.zeroValue3 w) hlS fun c8 hc8 => ?_
    obtain rfl : c8 = c9 + 1 := by rw [Maps.atKey_put_same hD (by first | trivial | simp [WideAt.IsKeyLit])] at hc8; cases hc8; rfl
    (refine WpXL.go _ rfl rfl fun Y y => ?_); simp only [zb, seval, w33, txtA]; (refine RunTo.fx y (by first | exact trivial | omega | (simp; done) | (simp; omega)) ?_); clear y Y
    refine WpXL.nil ?_
    change WpX _ _ _ _ _ _ _ _
    refine WpX.ofB ?_
    repeat (first | (apply fw; focus ((with_reducible constructor) <;> rfl)) | (apply WpA.cd; focus constructor) | ((first | with_reducible refine WpA.go _ rfl fun Y y => ?_ | apply RunTo.id); simp only [zb, seval, w33, txtA, hs0, hwl0, k1, k2, k3, hrl1, hdr1]; refine RunTo.fn y (by first | exact trivial | omega | (simp; done) | (simp; omega)) ?_; clear y Y))
    refine WpL.call rfl (guardA_sound (P := Tryd.prog) rfl) (CallA.shut rfl rfl (by kernel_rfl) (ALes.refl _) (by first | rfl | simp [shuts, A.shut, C.shut]) (hnum) ?_)
    (refine WpL.go _ rfl fun Y y => ?_); repeat (first | (apply fw; focus ((with_reducible constructor) <;> rfl)) | (apply WpA.cd; focus constructor) | ((first | with_reducible refine WpA.go _ rfl fun Y y => ?_ | apply RunTo.id); simp only [zb, seval, w33, txtA, jobO, k1, k2, k3]; refine RunTo.fn y (by first | exact trivial | omega | (simp; done) | (simp; omega)) ?_; clear y Y))
    exact ⟨by simp, _, rfl, _, _, _, Le.refl _ _, rfl, trivial, rfl, rfl, es, c', rfl, hf2⟩
  | some l =>
    simp only [numT, hv] at hnum
    by_cases hl1 : l.length = 1
    · obtain ⟨v, rfl⟩ : ∃ v, l = [v] := by
        match l, hl1 with
        | [v], _ => exact ⟨v, rfl⟩
      have he1 : ((([v] : List Int).length : Int) == 1) = true := rfl
      rw [he1] at hnum
      have hnv : (nC [v]) = [[.v (.int .i64 v)]] := rfl
      rw [hnv] at hnum
      simp only [fuV]
      by_cases hc0 : c = 0
      · have hc1 : ((c + 1 : Int) == 1) = true := by simp [hc0]
        rw [if_pos hc0]
        refine FnM.intro Tryd.func33 rfl Tryd.ntmps33 Tryd.results33 (by simp only [List.length_cons, List.length_nil]; decide) ?_
        refine WpX.seq (WpX.ofB ?_)
        repeat (first | (apply fw; focus ((with_reducible constructor) <;> rfl)) | (apply WpA.cd; focus constructor) | ((first | with_reducible refine WpA.go _ rfl fun Y y => ?_ | apply RunTo.id); simp only [zb, seval, w33, txtA]; refine RunTo.fn y (by first | exact trivial | omega | (simp; done) | (simp; omega)) ?_; clear y Y))
        change WpX _ _ _ _ _ _ _ _
        refine WpX.seq (WpX.ofB ?_)
        repeat (first | (apply fw; focus ((with_reducible constructor) <;> rfl)) | (apply WpA.cd; focus constructor) | ((first | with_reducible refine WpA.go _ rfl fun Y y => ?_ | apply RunTo.id); simp only [zb, seval, w33, txtA, he0, hg0, hg1]; refine RunTo.fn y (by first | exact trivial | omega | (simp; done) | (simp; omega)) ?_; clear y Y))
        change WpX _ _ _ _ _ _ _ _
        refine WpX.seq (WpX.ofB ?_)
        repeat (first | (apply fw; focus ((with_reducible constructor) <;> rfl)) | (apply WpA.cd; focus constructor) | ((first | with_reducible refine WpA.go _ rfl fun Y y => ?_ | apply RunTo.id); simp only [zb, seval, w33, txtA]; refine RunTo.fn y (by first | exact trivial | omega | (simp; done) | (simp; omega)) ?_; clear y Y))
        refine WpL.call rfl (guardA_sound (P := Tryd.prog) rfl) (CallA.shut rfl rfl (by kernel_rfl) (ALes.refl _) (by first | rfl | simp [shuts, A.shut, C.shut]) (hspl) ?_)
        (refine WpL.go _ rfl fun Y y => ?_); repeat (first | (apply fw; focus ((with_reducible constructor) <;> rfl)) | (apply WpA.cd; focus constructor) | ((first | with_reducible refine WpA.go _ rfl fun Y y => ?_ | apply RunTo.id); simp only [zb, seval, w33, txtA]; refine RunTo.fn y (by first | exact trivial | omega | (simp; done) | (simp; omega)) ?_; clear y Y))
        change WpX _ _ _ _ _ _ _ _
        refine WpX.seq (WpX.region ?_)
        (refine WpXL.go _ rfl rfl fun Y y => ?_); simp only [zb, seval, w33, txtA, hs0, hwl0]; (refine RunTo.fx y (by first | exact trivial | omega | (simp; done) | (simp; omega)) ?_); clear y Y
        refine WpXL.lookup rfl rfl rfl hf Tryd.underlying63 Tryd.underlying9 Tryd.underlying3 (fun w => Tryd.zeroValue3 w) hlS fun c9 hc9 => ?_
        obtain rfl : c9 = c := by rw [hc] at hc9; cases hc9; rfl
        (refine WpXL.go _ rfl rfl fun Y y => ?_); simp only [zb, seval, w33, txtA, hw0]; (refine RunTo.fx y (by first | exact trivial | omega | (simp; done) | (simp; omega)) ?_); clear y Y
        refine WpXL.update rfl rfl rfl hf Tryd.underlying63 Tryd.underlying9 Tryd.underlying3 hlS hn (by simp [Lit.wf, IntKind.min, IntKind.max, IntKind.signed, IntKind.bits]; omega) (by simp) fun es c' hf2 => ?_
        refine WpXL.nil ?_
        change WpX _ _ _ _ _ _ _ _
        refine WpX.seq (WpX.region ?_)
        (refine WpXL.go _ rfl rfl fun Y y => ?_); simp only [zb, seval, w33, txtA, hs0, hwl0]; (refine RunTo.fx y (by first | exact trivial | omega | (simp; done) | (simp; omega)) ?_); clear y Y
        refine WpXL.lookup rfl rfl rfl hf2 Tryd.underlying63 Tryd.underlying9 Tryd.underlying3 (fun w => Tryd.zeroValue3 w) hlS fun c8 hc8 => ?_
        obtain rfl : c8 = c9 + 1 := by rw [Maps.atKey_put_same hD (by first | trivial | simp [WideAt.IsKeyLit])] at hc8; cases hc8; rfl
        (refine WpXL.go _ rfl rfl fun Y y => ?_); simp only [zb, seval, w33, txtA]; (refine RunTo.fx y (by first | exact trivial | omega | (simp; done) | (simp; omega)) ?_); clear y Y
        refine WpXL.nil ?_
        change WpX _ _ _ _ _ _ _ _
        refine WpX.ofB ?_
        repeat (first | (apply fw; focus ((with_reducible constructor) <;> rfl)) | (apply WpA.cd; focus constructor) | ((first | with_reducible refine WpA.go _ rfl fun Y y => ?_ | apply RunTo.id); simp only [zb, seval, w33, txtA, hs0, hwl0, k1, k2, k3, hrl1, hdr1, hc1]; refine RunTo.fn y (by first | exact trivial | omega | (simp; done) | (simp; omega)) ?_; clear y Y))
        refine WpL.call rfl (guardA_sound (P := Tryd.prog) rfl) (CallA.shut rfl rfl (by kernel_rfl) (ALes.refl _) (by first | rfl | simp [shuts, A.shut, C.shut]) (hnum) ?_)
        (refine WpL.go _ rfl fun Y y => ?_); repeat (first | (apply fw; focus ((with_reducible constructor) <;> rfl)) | (apply WpA.cd; focus constructor) | ((first | with_reducible refine WpA.go _ rfl fun Y y => ?_ | apply RunTo.id); simp only [zb, seval, w33, txtA, jobO, k1, k2, k3, hs0, hwl0, hc1]; refine RunTo.fn y (by first | exact trivial | omega | (simp; done) | (simp; omega)) ?_; clear y Y))
        exact ⟨by simp, _, rfl, _, _, _, Le.refl _ _, rfl, trivial, rfl, rfl, es, c', rfl, hf2⟩
      · have hc1 : ((c + 1 : Int) == 1) = false := by simp; omega
        rw [if_neg hc0]
        refine FnM.intro Tryd.func33 rfl Tryd.ntmps33 Tryd.results33 (by simp only [List.length_cons, List.length_nil]; decide) ?_
        refine WpX.seq (WpX.ofB ?_)
        repeat (first | (apply fw; focus ((with_reducible constructor) <;> rfl)) | (apply WpA.cd; focus constructor) | ((first | with_reducible refine WpA.go _ rfl fun Y y => ?_ | apply RunTo.id); simp only [zb, seval, w33, txtA]; refine RunTo.fn y (by first | exact trivial | omega | (simp; done) | (simp; omega)) ?_; clear y Y))
        change WpX _ _ _ _ _ _ _ _
        refine WpX.seq (WpX.ofB ?_)
        repeat (first | (apply fw; focus ((with_reducible constructor) <;> rfl)) | (apply WpA.cd; focus constructor) | ((first | with_reducible refine WpA.go _ rfl fun Y y => ?_ | apply RunTo.id); simp only [zb, seval, w33, txtA, he0, hg0, hg1]; refine RunTo.fn y (by first | exact trivial | omega | (simp; done) | (simp; omega)) ?_; clear y Y))
        change WpX _ _ _ _ _ _ _ _
        refine WpX.seq (WpX.ofB ?_)
        repeat (first | (apply fw; focus ((with_reducible constructor) <;> rfl)) | (apply WpA.cd; focus constructor) | ((first | with_reducible refine WpA.go _ rfl fun Y y => ?_ | apply RunTo.id); simp only [zb, seval, w33, txtA]; refine RunTo.fn y (by first | exact trivial | omega | (simp; done) | (simp; omega)) ?_; clear y Y))
        refine WpL.call rfl (guardA_sound (P := Tryd.prog) rfl) (CallA.shut rfl rfl (by kernel_rfl) (ALes.refl _) (by first | rfl | simp [shuts, A.shut, C.shut]) (hspl) ?_)
        (refine WpL.go _ rfl fun Y y => ?_); repeat (first | (apply fw; focus ((with_reducible constructor) <;> rfl)) | (apply WpA.cd; focus constructor) | ((first | with_reducible refine WpA.go _ rfl fun Y y => ?_ | apply RunTo.id); simp only [zb, seval, w33, txtA]; refine RunTo.fn y (by first | exact trivial | omega | (simp; done) | (simp; omega)) ?_; clear y Y))
        change WpX _ _ _ _ _ _ _ _
        refine WpX.seq (WpX.region ?_)
        (refine WpXL.go _ rfl rfl fun Y y => ?_); simp only [zb, seval, w33, txtA, hs0, hwl0]; (refine RunTo.fx y (by first | exact trivial | omega | (simp; done) | (simp; omega)) ?_); clear y Y
        refine WpXL.lookup rfl rfl rfl hf Tryd.underlying63 Tryd.underlying9 Tryd.underlying3 (fun w => Tryd.zeroValue3 w) hlS fun c9 hc9 => ?_
        obtain rfl : c9 = c := by rw [hc] at hc9; cases hc9; rfl
        (refine WpXL.go _ rfl rfl fun Y y => ?_); simp only [zb, seval, w33, txtA, hw0]; (refine RunTo.fx y (by first | exact trivial | omega | (simp; done) | (simp; omega)) ?_); clear y Y
        refine WpXL.update rfl rfl rfl hf Tryd.underlying63 Tryd.underlying9 Tryd.underlying3 hlS hn (by simp [Lit.wf, IntKind.min, IntKind.max, IntKind.signed, IntKind.bits]; omega) (by simp) fun es c' hf2 => ?_
        refine WpXL.nil ?_
        change WpX _ _ _ _ _ _ _ _
        refine WpX.seq (WpX.region ?_)
        (refine WpXL.go _ rfl rfl fun Y y => ?_); simp only [zb, seval, w33, txtA, hs0, hwl0]; (refine RunTo.fx y (by first | exact trivial | omega | (simp; done) | (simp; omega)) ?_); clear y Y
        refine WpXL.lookup rfl rfl rfl hf2 Tryd.underlying63 Tryd.underlying9 Tryd.underlying3 (fun w => Tryd.zeroValue3 w) hlS fun c8 hc8 => ?_
        obtain rfl : c8 = c9 + 1 := by rw [Maps.atKey_put_same hD (by first | trivial | simp [WideAt.IsKeyLit])] at hc8; cases hc8; rfl
        (refine WpXL.go _ rfl rfl fun Y y => ?_); simp only [zb, seval, w33, txtA]; (refine RunTo.fx y (by first | exact trivial | omega | (simp; done) | (simp; omega)) ?_); clear y Y
        refine WpXL.nil ?_
        change WpX _ _ _ _ _ _ _ _
        refine WpX.ofB ?_
        repeat (first | (apply fw; focus ((with_reducible constructor) <;> rfl)) | (apply WpA.cd; focus constructor) | ((first | with_reducible refine WpA.go _ rfl fun Y y => ?_ | apply RunTo.id); simp only [zb, seval, w33, txtA, hs0, hwl0, k1, k2, k3, hrl1, hdr1, hc1]; refine RunTo.fn y (by first | exact trivial | omega | (simp; done) | (simp; omega)) ?_; clear y Y))
        refine WpL.call rfl (guardA_sound (P := Tryd.prog) rfl) (CallA.shut rfl rfl (by kernel_rfl) (ALes.refl _) (by first | rfl | simp [shuts, A.shut, C.shut]) (hnum) ?_)
        (refine WpL.go _ rfl fun Y y => ?_); repeat (first | (apply fw; focus ((with_reducible constructor) <;> rfl)) | (apply WpA.cd; focus constructor) | ((first | with_reducible refine WpA.go _ rfl fun Y y => ?_ | apply RunTo.id); simp only [zb, seval, w33, txtA, jobO, k1, k2, k3, hs0, hwl0, hc1]; refine RunTo.fn y (by first | exact trivial | omega | (simp; done) | (simp; omega)) ?_; clear y Y))
        exact ⟨by simp, _, rfl, _, _, _, Le.refl _ _, rfl, trivial, rfl, rfl, es, c', rfl, hf2⟩
    · have he1 : ((l.length : Int) == 1) = false := by simp; omega
      rw [he1] at hnum
      have hV2 : fuV inp lim fu c (some l) = (inp, lim, fu, 9) := by
        match l, hl1 with
        | [], _ => rfl
        | [w], h => exact absurd rfl h
        | _ :: _ :: _, _ => rfl
      rw [hV2]
      refine FnM.intro Tryd.func33 rfl Tryd.ntmps33 Tryd.results33 (by simp only [List.length_cons, List.length_nil]; decide) ?_
      refine WpX.seq (WpX.ofB ?_)
      repeat (first | (apply fw; focus ((with_reducible constructor) <;> rfl)) | (apply WpA.cd; focus constructor) | ((first | with_reducible refine WpA.go _ rfl fun Y y => ?_ | apply RunTo.id); simp only [zb, seval, w33, txtA]; refine RunTo.fn y (by first | exact trivial | omega | (simp; done) | (simp; omega)) ?_; clear y Y))
      change WpX _ _ _ _ _ _ _ _
      refine WpX.seq (WpX.ofB ?_)
      repeat (first | (apply fw; focus ((with_reducible constructor) <;> rfl)) | (apply WpA.cd; focus constructor) | ((first | with_reducible refine WpA.go _ rfl fun Y y => ?_ | apply RunTo.id); simp only [zb, seval, w33, txtA, he0, hg0, hg1]; refine RunTo.fn y (by first | exact trivial | omega | (simp; done) | (simp; omega)) ?_; clear y Y))
      change WpX _ _ _ _ _ _ _ _
      refine WpX.seq (WpX.ofB ?_)
      repeat (first | (apply fw; focus ((with_reducible constructor) <;> rfl)) | (apply WpA.cd; focus constructor) | ((first | with_reducible refine WpA.go _ rfl fun Y y => ?_ | apply RunTo.id); simp only [zb, seval, w33, txtA]; refine RunTo.fn y (by first | exact trivial | omega | (simp; done) | (simp; omega)) ?_; clear y Y))
      refine WpL.call rfl (guardA_sound (P := Tryd.prog) rfl) (CallA.shut rfl rfl (by kernel_rfl) (ALes.refl _) (by first | rfl | simp [shuts, A.shut, C.shut]) (hspl) ?_)
      (refine WpL.go _ rfl fun Y y => ?_); repeat (first | (apply fw; focus ((with_reducible constructor) <;> rfl)) | (apply WpA.cd; focus constructor) | ((first | with_reducible refine WpA.go _ rfl fun Y y => ?_ | apply RunTo.id); simp only [zb, seval, w33, txtA]; refine RunTo.fn y (by first | exact trivial | omega | (simp; done) | (simp; omega)) ?_; clear y Y))
      change WpX _ _ _ _ _ _ _ _
      refine WpX.seq (WpX.region ?_)
      (refine WpXL.go _ rfl rfl fun Y y => ?_); simp only [zb, seval, w33, txtA, hs0, hwl0]; (refine RunTo.fx y (by first | exact trivial | omega | (simp; done) | (simp; omega)) ?_); clear y Y
      refine WpXL.lookup rfl rfl rfl hf Tryd.underlying63 Tryd.underlying9 Tryd.underlying3 (fun w => Tryd.zeroValue3 w) hlS fun c9 hc9 => ?_
      obtain rfl : c9 = c := by rw [hc] at hc9; cases hc9; rfl
      (refine WpXL.go _ rfl rfl fun Y y => ?_); simp only [zb, seval, w33, txtA, hw0]; (refine RunTo.fx y (by first | exact trivial | omega | (simp; done) | (simp; omega)) ?_); clear y Y
      refine WpXL.update rfl rfl rfl hf Tryd.underlying63 Tryd.underlying9 Tryd.underlying3 hlS hn (by simp [Lit.wf, IntKind.min, IntKind.max, IntKind.signed, IntKind.bits]; omega) (by simp) fun es c' hf2 => ?_
      refine WpXL.nil ?_
      change WpX _ _ _ _ _ _ _ _
      refine WpX.seq (WpX.region ?_)
      (refine WpXL.go _ rfl rfl fun Y y => ?_); simp only [zb, seval, w33, txtA, hs0, hwl0]; (refine RunTo.fx y (by first | exact trivial | omega | (simp; done) | (simp; omega)) ?_); clear y Y
      refine WpXL.lookup rfl rfl rfl hf2 Tryd.underlying63 Tryd.underlying9 Tryd.underlying3 (fun w => Tryd.zeroValue3 w) hlS fun c8 hc8 => ?_
      obtain rfl : c8 = c9 + 1 := by rw [Maps.atKey_put_same hD (by first | trivial | simp [WideAt.IsKeyLit])] at hc8; cases hc8; rfl
      (refine WpXL.go _ rfl rfl fun Y y => ?_); simp only [zb, seval, w33, txtA]; (refine RunTo.fx y (by first | exact trivial | omega | (simp; done) | (simp; omega)) ?_); clear y Y
      refine WpXL.nil ?_
      change WpX _ _ _ _ _ _ _ _
      refine WpX.ofB ?_
      repeat (first | (apply fw; focus ((with_reducible constructor) <;> rfl)) | (apply WpA.cd; focus constructor) | ((first | with_reducible refine WpA.go _ rfl fun Y y => ?_ | apply RunTo.id); simp only [zb, seval, w33, txtA, hs0, hwl0, k1, k2, k3, hrl1, hdr1]; refine RunTo.fn y (by first | exact trivial | omega | (simp; done) | (simp; omega)) ?_; clear y Y))
      refine WpL.call rfl (guardA_sound (P := Tryd.prog) rfl) (CallA.shut rfl rfl (by kernel_rfl) (ALes.refl _) (by first | rfl | simp [shuts, A.shut, C.shut]) (hnum) ?_)
      (refine WpL.go _ rfl fun Y y => ?_); repeat (first | (apply fw; focus ((with_reducible constructor) <;> rfl)) | (apply WpA.cd; focus constructor) | ((first | with_reducible refine WpA.go _ rfl fun Y y => ?_ | apply RunTo.id); simp only [zb, seval, w33, txtA, jobO, k1, k2, k3]; refine RunTo.fn y (by first | exact trivial | omega | (simp; done) | (simp; omega)) ?_; clear y Y))
      exact ⟨by simp, _, rfl, _, _, _, Le.refl _ _, rfl, trivial, rfl, rfl, es, c', rfl, hf2⟩
theorem reads_collBad (b : Nat) (o : Obj) (n : Nat) (D : DataW Unit) (line : ByteArray) (wt : List ByteArray) (c : Int) (T : List (Option Ob)) (o0 o1 o2 : Ob) (src inp : ByteArray) (lim fu : Int) (fc : C) (hsz : line.size ≤ 70000) (hl0 : line.size ≠ 0) (z : UInt8) (hg0 : line[0]? = some z) (hz : z ≠ 35) (hsp : Lib.splitB ⟨#[32]⟩ 0 (Lib.countB line ⟨#[32]⟩) line = collS :: wt) (hwl : wt.length ≤ 70000) (hwz : ∀ w ∈ wt, w.size ≤ 70000)
    (hf : MFit Tryd.prog 9 3 o n D) (hn : n < maxLen) (hc : D.atKey (.string collS.data.toList) (.lit (.int .i64 0)) = .lit (.int .i64 c)) (hcc : 0 ≤ c ∧ c ≤ 1000000) (hD : Maps.IsMap D) (hbad : ∀ l, numsV wt = some l → l.length ≠ 3) :
    FnM Tryd.prog 33 [.one (.ptr 3 1 0 0), .one (.v (.string line)), .one (.v (.map (some b)))] (some o0 :: some o1 :: some o2 :: jobO src inp lim fu fc :: T) b o
      (fun r s' o' => r = .one (.v (.int .i64 9)) ∧ s' = some o0 :: some o1 :: some o2 :: jobO src inp lim fu fc :: T ∧ ∃ es c', o' = .map es c' ∧ MFit Tryd.prog 9 3 (.map es c') (n + 1) (D.put (.string collS.data.toList) (.lit (.int .i64 (c + 1))))) := by
  have he0 : (line.toList == (⟨#[]⟩ : ByteArray).toList) = false := by rw [strDec, decide_eq_false fun e => hl0 ((size_nil _).1 e)]
  have hg1 : ((z.toNat : Int) == 35) = false := by simp; intro e; apply hz; exact UInt8.toNat_inj.1 (by rw [show (35 : UInt8).toNat = 35 from rfl]; omega)
  have hspl := split_at line _ hsz hsp
  have hs0 : (sC (collS :: wt))[0]? = some [.v (.string collS)] := rfl
  have hrl : (sC (collS :: wt)).length = wt.length + 1 := by rw [sC_len]; rfl
  have hwl0 : (0 : Int) < ((sC (collS :: wt)).length : Int) := by rw [hrl]; omega
  have hw0 : IntKind.i64.wrap (c + 1) = c + 1 := by rw [wrap64 (by omega) (by omega)]
  have hlS : collS.size ≤ maxLen := by decide
  have hon : c = 0 ∨ c ≠ 0 := by omega
  have k1 : (collS.toList == (⟨#[105, 110]⟩ : ByteArray).toList) = false := by kernel_rfl
  have k2 : (collS.toList == (⟨#[108, 105, 109, 105, 116]⟩ : ByteArray).toList) = false := by kernel_rfl
  have k3 : (collS.toList == (⟨#[102, 117, 101, 108]⟩ : ByteArray).toList) = false := by kernel_rfl
  have k4 : (collS.toList == (⟨#[99, 111, 108, 108, 101, 99, 116]⟩ : ByteArray).toList) = true := by kernel_rfl
  have hrl1 : ((1 : Int) ≤ ((sC (collS :: wt)).length : Int)) := by rw [hrl]; omega
  have hdr1 : List.drop 1 (List.take (sC (collS :: wt)).length (sC (collS :: wt))) = sC wt := by rw [List.take_length]; rfl
  have hnum := numbers_pure wt 3 (by omega) hwz
  generalize sC (collS :: wt) = rw0 at *
  cases hv : numsV wt with
  | none =>
    simp only [numT, hv] at hnum
    refine FnM.intro Tryd.func33 rfl Tryd.ntmps33 Tryd.results33 (by simp only [List.length_cons, List.length_nil]; decide) ?_
    refine WpX.seq (WpX.ofB ?_)
    repeat (first | (apply fw; focus ((with_reducible constructor) <;> rfl)) | (apply WpA.cd; focus constructor) | ((first | with_reducible refine WpA.go _ rfl fun Y y => ?_ | apply RunTo.id); simp only [zb, seval, w33, txtA]; refine RunTo.fn y (by first | exact trivial | omega | (simp; done) | (simp; omega)) ?_; clear y Y))
    change WpX _ _ _ _ _ _ _ _
    refine WpX.seq (WpX.ofB ?_)
    repeat (first | (apply fw; focus ((with_reducible constructor) <;> rfl)) | (apply WpA.cd; focus constructor) | ((first | with_reducible refine WpA.go _ rfl fun Y y => ?_ | apply RunTo.id); simp only [zb, seval, w33, txtA, he0, hg0, hg1]; refine RunTo.fn y (by first | exact trivial | omega | (simp; done) | (simp; omega)) ?_; clear y Y))
    change WpX _ _ _ _ _ _ _ _
    refine WpX.seq (WpX.ofB ?_)
    repeat (first | (apply fw; focus ((with_reducible constructor) <;> rfl)) | (apply WpA.cd; focus constructor) | ((first | with_reducible refine WpA.go _ rfl fun Y y => ?_ | apply RunTo.id); simp only [zb, seval, w33, txtA]; refine RunTo.fn y (by first | exact trivial | omega | (simp; done) | (simp; omega)) ?_; clear y Y))
    refine WpL.call rfl (guardA_sound (P := Tryd.prog) rfl) (CallA.shut rfl rfl (by kernel_rfl) (ALes.refl _) (by first | rfl | simp [shuts, A.shut, C.shut]) (hspl) ?_)
    (refine WpL.go _ rfl fun Y y => ?_); repeat (first | (apply fw; focus ((with_reducible constructor) <;> rfl)) | (apply WpA.cd; focus constructor) | ((first | with_reducible refine WpA.go _ rfl fun Y y => ?_ | apply RunTo.id); simp only [zb, seval, w33, txtA]; refine RunTo.fn y (by first | exact trivial | omega | (simp; done) | (simp; omega)) ?_; clear y Y))
    change WpX _ _ _ _ _ _ _ _
    refine WpX.seq (WpX.region ?_)
    (refine WpXL.go _ rfl rfl fun Y y => ?_); simp only [zb, seval, w33, txtA, hs0, hwl0]; (refine RunTo.fx y (by first | exact trivial | omega | (simp; done) | (simp; omega)) ?_); clear y Y
    refine WpXL.lookup rfl rfl rfl hf Tryd.underlying63 Tryd.underlying9 Tryd.underlying3 (fun w => Tryd.zeroValue3 w) hlS fun c9 hc9 => ?_
    obtain rfl : c9 = c := by rw [hc] at hc9; cases hc9; rfl
    (refine WpXL.go _ rfl rfl fun Y y => ?_); simp only [zb, seval, w33, txtA, hw0]; (refine RunTo.fx y (by first | exact trivial | omega | (simp; done) | (simp; omega)) ?_); clear y Y
    refine WpXL.update rfl rfl rfl hf Tryd.underlying63 Tryd.underlying9 Tryd.underlying3 hlS hn (by simp [Lit.wf, IntKind.min, IntKind.max, IntKind.signed, IntKind.bits]; omega) (by simp) fun es c' hf2 => ?_
    refine WpXL.nil ?_
    change WpX _ _ _ _ _ _ _ _
    refine WpX.seq (WpX.region ?_)
    (refine WpXL.go _ rfl rfl fun Y y => ?_); simp only [zb, seval, w33, txtA, hs0, hwl0]; (refine RunTo.fx y (by first | exact trivial | omega | (simp; done) | (simp; omega)) ?_); clear y Y
    refine WpXL.lookup rfl rfl rfl hf2 Tryd.underlying63 Tryd.underlying9 Tryd.underlying3 (fun w => Tryd.zeroValue3 w) hlS fun c8 hc8 => ?_
    obtain rfl : c8 = c9 + 1 := by rw [Maps.atKey_put_same hD (by first | trivial | simp [WideAt.IsKeyLit])] at hc8; cases hc8; rfl
    (refine WpXL.go _ rfl rfl fun Y y => ?_); simp only [zb, seval, w33, txtA]; (refine RunTo.fx y (by first | exact trivial | omega | (simp; done) | (simp; omega)) ?_); clear y Y
    refine WpXL.nil ?_
    change WpX _ _ _ _ _ _ _ _
    refine WpX.ofB ?_
    repeat (first | (apply fw; focus ((with_reducible constructor) <;> rfl)) | (apply WpA.cd; focus constructor) | ((first | with_reducible refine WpA.go _ rfl fun Y y => ?_ | apply RunTo.id); simp only [zb, seval, w33, txtA, hs0, hwl0, k1, k2, k3, k4, hrl1, hdr1]; refine RunTo.fn y (by first | exact trivial | omega | (simp; done) | (simp; omega)) ?_; clear y Y))
    refine WpL.call rfl (guardA_sound (P := Tryd.prog) rfl) (CallA.shut rfl rfl (by kernel_rfl) (ALes.refl _) (by first | rfl | simp [shuts, A.shut, C.shut]) (hnum) ?_)
    (refine WpL.go _ rfl fun Y y => ?_); repeat (first | (apply fw; focus ((with_reducible constructor) <;> rfl)) | (apply WpA.cd; focus constructor) | ((first | with_reducible refine WpA.go _ rfl fun Y y => ?_ | apply RunTo.id); simp only [zb, seval, w33, txtA, jobO, k1, k2, k3]; refine RunTo.fn y (by first | exact trivial | omega | (simp; done) | (simp; omega)) ?_; clear y Y))
    exact ⟨by simp, _, rfl, _, _, _, Le.refl _ _, rfl, trivial, rfl, rfl, es, c', rfl, hf2⟩
  | some l =>
    simp only [numT, hv] at hnum
    have he1 : ((l.length : Int) == 3) = false := by have := hbad l hv; simp; omega
    rw [he1] at hnum
    refine FnM.intro Tryd.func33 rfl Tryd.ntmps33 Tryd.results33 (by simp only [List.length_cons, List.length_nil]; decide) ?_
    refine WpX.seq (WpX.ofB ?_)
    repeat (first | (apply fw; focus ((with_reducible constructor) <;> rfl)) | (apply WpA.cd; focus constructor) | ((first | with_reducible refine WpA.go _ rfl fun Y y => ?_ | apply RunTo.id); simp only [zb, seval, w33, txtA]; refine RunTo.fn y (by first | exact trivial | omega | (simp; done) | (simp; omega)) ?_; clear y Y))
    change WpX _ _ _ _ _ _ _ _
    refine WpX.seq (WpX.ofB ?_)
    repeat (first | (apply fw; focus ((with_reducible constructor) <;> rfl)) | (apply WpA.cd; focus constructor) | ((first | with_reducible refine WpA.go _ rfl fun Y y => ?_ | apply RunTo.id); simp only [zb, seval, w33, txtA, he0, hg0, hg1]; refine RunTo.fn y (by first | exact trivial | omega | (simp; done) | (simp; omega)) ?_; clear y Y))
    change WpX _ _ _ _ _ _ _ _
    refine WpX.seq (WpX.ofB ?_)
    repeat (first | (apply fw; focus ((with_reducible constructor) <;> rfl)) | (apply WpA.cd; focus constructor) | ((first | with_reducible refine WpA.go _ rfl fun Y y => ?_ | apply RunTo.id); simp only [zb, seval, w33, txtA]; refine RunTo.fn y (by first | exact trivial | omega | (simp; done) | (simp; omega)) ?_; clear y Y))
    refine WpL.call rfl (guardA_sound (P := Tryd.prog) rfl) (CallA.shut rfl rfl (by kernel_rfl) (ALes.refl _) (by first | rfl | simp [shuts, A.shut, C.shut]) (hspl) ?_)
    (refine WpL.go _ rfl fun Y y => ?_); repeat (first | (apply fw; focus ((with_reducible constructor) <;> rfl)) | (apply WpA.cd; focus constructor) | ((first | with_reducible refine WpA.go _ rfl fun Y y => ?_ | apply RunTo.id); simp only [zb, seval, w33, txtA]; refine RunTo.fn y (by first | exact trivial | omega | (simp; done) | (simp; omega)) ?_; clear y Y))
    change WpX _ _ _ _ _ _ _ _
    refine WpX.seq (WpX.region ?_)
    (refine WpXL.go _ rfl rfl fun Y y => ?_); simp only [zb, seval, w33, txtA, hs0, hwl0]; (refine RunTo.fx y (by first | exact trivial | omega | (simp; done) | (simp; omega)) ?_); clear y Y
    refine WpXL.lookup rfl rfl rfl hf Tryd.underlying63 Tryd.underlying9 Tryd.underlying3 (fun w => Tryd.zeroValue3 w) hlS fun c9 hc9 => ?_
    obtain rfl : c9 = c := by rw [hc] at hc9; cases hc9; rfl
    (refine WpXL.go _ rfl rfl fun Y y => ?_); simp only [zb, seval, w33, txtA, hw0]; (refine RunTo.fx y (by first | exact trivial | omega | (simp; done) | (simp; omega)) ?_); clear y Y
    refine WpXL.update rfl rfl rfl hf Tryd.underlying63 Tryd.underlying9 Tryd.underlying3 hlS hn (by simp [Lit.wf, IntKind.min, IntKind.max, IntKind.signed, IntKind.bits]; omega) (by simp) fun es c' hf2 => ?_
    refine WpXL.nil ?_
    change WpX _ _ _ _ _ _ _ _
    refine WpX.seq (WpX.region ?_)
    (refine WpXL.go _ rfl rfl fun Y y => ?_); simp only [zb, seval, w33, txtA, hs0, hwl0]; (refine RunTo.fx y (by first | exact trivial | omega | (simp; done) | (simp; omega)) ?_); clear y Y
    refine WpXL.lookup rfl rfl rfl hf2 Tryd.underlying63 Tryd.underlying9 Tryd.underlying3 (fun w => Tryd.zeroValue3 w) hlS fun c8 hc8 => ?_
    obtain rfl : c8 = c9 + 1 := by rw [Maps.atKey_put_same hD (by first | trivial | simp [WideAt.IsKeyLit])] at hc8; cases hc8; rfl
    (refine WpXL.go _ rfl rfl fun Y y => ?_); simp only [zb, seval, w33, txtA]; (refine RunTo.fx y (by first | exact trivial | omega | (simp; done) | (simp; omega)) ?_); clear y Y
    refine WpXL.nil ?_
    change WpX _ _ _ _ _ _ _ _
    refine WpX.ofB ?_
    repeat (first | (apply fw; focus ((with_reducible constructor) <;> rfl)) | (apply WpA.cd; focus constructor) | ((first | with_reducible refine WpA.go _ rfl fun Y y => ?_ | apply RunTo.id); simp only [zb, seval, w33, txtA, hs0, hwl0, k1, k2, k3, k4, hrl1, hdr1]; refine RunTo.fn y (by first | exact trivial | omega | (simp; done) | (simp; omega)) ?_; clear y Y))
    refine WpL.call rfl (guardA_sound (P := Tryd.prog) rfl) (CallA.shut rfl rfl (by kernel_rfl) (ALes.refl _) (by first | rfl | simp [shuts, A.shut, C.shut]) (hnum) ?_)
    (refine WpL.go _ rfl fun Y y => ?_); repeat (first | (apply fw; focus ((with_reducible constructor) <;> rfl)) | (apply WpA.cd; focus constructor) | ((first | with_reducible refine WpA.go _ rfl fun Y y => ?_ | apply RunTo.id); simp only [zb, seval, w33, txtA, jobO, k1, k2, k3]; refine RunTo.fn y (by first | exact trivial | omega | (simp; done) | (simp; omega)) ?_; clear y Y))
    exact ⟨by simp, _, rfl, _, _, _, Le.refl _ _, rfl, trivial, rfl, rfl, es, c', rfl, hf2⟩
theorem reads_collA (b : Nat) (o : Obj) (n : Nat) (D : DataW Unit) (line : ByteArray) (wt : List ByteArray) (c : Int) (o0 o1 o2 : Ob) (src inp : ByteArray) (lim fu : Int) (hsz : line.size ≤ 70000) (hl0 : line.size ≠ 0) (z : UInt8) (hg0 : line[0]? = some z) (hz : z ≠ 35) (hsp : Lib.splitB ⟨#[32]⟩ 0 (Lib.countB line ⟨#[32]⟩) line = collS :: wt) (hwl : wt.length ≤ 70000) (hwz : ∀ w ∈ wt, w.size ≤ 70000)
    (hf : MFit Tryd.prog 9 3 o n D) (hn : n < maxLen) (hc : D.atKey (.string collS.data.toList) (.lit (.int .i64 0)) = .lit (.int .i64 c)) (hcc : 0 ≤ c ∧ c ≤ 1000000) (hD : Maps.IsMap D) (o4 o5 o6 : Ob) (q1 q2 q3 : Int) (hv : numsV wt = some [q1, q2, q3]) :
    FnM Tryd.prog 33 [.one (.ptr 3 1 0 0), .one (.v (.string line)), .one (.v (.map (some b)))] [some o0, some o1, some o2, jobO src inp lim fu nilS, some o4, some o5, some o6] b o
      (fun r s' o' => r = .one (.v (.int .i64 0)) ∧ s' = [some o0, some o1, some o2, jobO src inp lim fu (.ms 7 1), some o4, some o5, some o6, some ⟨48, 3, fC [⟨q1, q2, q3⟩]⟩] ∧ ∃ es c', o' = .map es c' ∧ MFit Tryd.prog 9 3 (.map es c') (n + 1) (D.put (.string collS.data.toList) (.lit (.int .i64 (c + 1))))) := by
  have he0 : (line.toList == (⟨#[]⟩ : ByteArray).toList) = false := by rw [strDec, decide_eq_false fun e => hl0 ((size_nil _).1 e)]
  have hg1 : ((z.toNat : Int) == 35) = false := by simp; intro e; apply hz; exact UInt8.toNat_inj.1 (by rw [show (35 : UInt8).toNat = 35 from rfl]; omega)
  have hspl := split_at line _ hsz hsp
  have hs0 : (sC (collS :: wt))[0]? = some [.v (.string collS)] := rfl
  have hrl : (sC (collS :: wt)).length = wt.length + 1 := by rw [sC_len]; rfl
  have hwl0 : (0 : Int) < ((sC (collS :: wt)).length : Int) := by rw [hrl]; omega
  have hw0 : IntKind.i64.wrap (c + 1) = c + 1 := by rw [wrap64 (by omega) (by omega)]
  have hlS : collS.size ≤ maxLen := by decide
  have hon : c = 0 ∨ c ≠ 0 := by omega
  have k1 : (collS.toList == (⟨#[105, 110]⟩ : ByteArray).toList) = false := by kernel_rfl
  have k2 : (collS.toList == (⟨#[108, 105, 109, 105, 116]⟩ : ByteArray).toList) = false := by kernel_rfl
  have k3 : (collS.toList == (⟨#[102, 117, 101, 108]⟩ : ByteArray).toList) = false := by kernel_rfl
  have k4 : (collS.toList == (⟨#[99, 111, 108, 108, 101, 99, 116]⟩ : ByteArray).toList) = true := by kernel_rfl
  have hrl1 : ((1 : Int) ≤ ((sC (collS :: wt)).length : Int)) := by rw [hrl]; omega
  have hdr1 : List.drop 1 (List.take (sC (collS :: wt)).length (sC (collS :: wt))) = sC wt := by rw [List.take_length]; rfl
  have hnum := numbers_pure wt 3 (by omega) hwz
  generalize sC (collS :: wt) = rw0 at *
  simp only [numT, hv] at hnum
  have he1 : ((([q1, q2, q3] : List Int).length : Int) == 3) = true := rfl
  rw [he1] at hnum
  have hnv : (nC [q1, q2, q3]) = [[.v (.int .i64 q1)], [.v (.int .i64 q2)], [.v (.int .i64 q3)]] := rfl
  rw [hnv] at hnum
  refine FnM.intro Tryd.func33 rfl Tryd.ntmps33 Tryd.results33 (by simp only [List.length_cons, List.length_nil]; decide) ?_
  refine WpX.seq (WpX.ofB ?_)
  repeat (first | (apply fw; focus ((with_reducible constructor) <;> rfl)) | (apply WpA.cd; focus constructor) | ((first | with_reducible refine WpA.go _ rfl fun Y y => ?_ | apply RunTo.id); simp only [zb, seval, w33, txtA]; refine RunTo.fn y (by first | exact trivial | omega | (simp; done) | (simp; omega)) ?_; clear y Y))
  change WpX _ _ _ _ _ _ _ _
  refine WpX.seq (WpX.ofB ?_)
  repeat (first | (apply fw; focus ((with_reducible constructor) <;> rfl)) | (apply WpA.cd; focus constructor) | ((first | with_reducible refine WpA.go _ rfl fun Y y => ?_ | apply RunTo.id); simp only [zb, seval, w33, txtA, he0, hg0, hg1]; refine RunTo.fn y (by first | exact trivial | omega | (simp; done) | (simp; omega)) ?_; clear y Y))
  change WpX _ _ _ _ _ _ _ _
  refine WpX.seq (WpX.ofB ?_)
  repeat (first | (apply fw; focus ((with_reducible constructor) <;> rfl)) | (apply WpA.cd; focus constructor) | ((first | with_reducible refine WpA.go _ rfl fun Y y => ?_ | apply RunTo.id); simp only [zb, seval, w33, txtA]; refine RunTo.fn y (by first | exact trivial | omega | (simp; done) | (simp; omega)) ?_; clear y Y))
  refine WpL.call rfl (guardA_sound (P := Tryd.prog) rfl) (CallA.shut rfl rfl (by kernel_rfl) (ALes.refl _) (by first | rfl | simp [shuts, A.shut, C.shut]) (hspl) ?_)
  (refine WpL.go _ rfl fun Y y => ?_); repeat (first | (apply fw; focus ((with_reducible constructor) <;> rfl)) | (apply WpA.cd; focus constructor) | ((first | with_reducible refine WpA.go _ rfl fun Y y => ?_ | apply RunTo.id); simp only [zb, seval, w33, txtA]; refine RunTo.fn y (by first | exact trivial | omega | (simp; done) | (simp; omega)) ?_; clear y Y))
  change WpX _ _ _ _ _ _ _ _
  refine WpX.seq (WpX.region ?_)
  (refine WpXL.go _ rfl rfl fun Y y => ?_); simp only [zb, seval, w33, txtA, hs0, hwl0]; (refine RunTo.fx y (by first | exact trivial | omega | (simp; done) | (simp; omega)) ?_); clear y Y
  refine WpXL.lookup rfl rfl rfl hf Tryd.underlying63 Tryd.underlying9 Tryd.underlying3 (fun w => Tryd.zeroValue3 w) hlS fun c9 hc9 => ?_
  obtain rfl : c9 = c := by rw [hc] at hc9; cases hc9; rfl
  (refine WpXL.go _ rfl rfl fun Y y => ?_); simp only [zb, seval, w33, txtA, hw0]; (refine RunTo.fx y (by first | exact trivial | omega | (simp; done) | (simp; omega)) ?_); clear y Y
  refine WpXL.update rfl rfl rfl hf Tryd.underlying63 Tryd.underlying9 Tryd.underlying3 hlS hn (by simp [Lit.wf, IntKind.min, IntKind.max, IntKind.signed, IntKind.bits]; omega) (by simp) fun es c' hf2 => ?_
  refine WpXL.nil ?_
  change WpX _ _ _ _ _ _ _ _
  refine WpX.seq (WpX.region ?_)
  (refine WpXL.go _ rfl rfl fun Y y => ?_); simp only [zb, seval, w33, txtA, hs0, hwl0]; (refine RunTo.fx y (by first | exact trivial | omega | (simp; done) | (simp; omega)) ?_); clear y Y
  refine WpXL.lookup rfl rfl rfl hf2 Tryd.underlying63 Tryd.underlying9 Tryd.underlying3 (fun w => Tryd.zeroValue3 w) hlS fun c8 hc8 => ?_
  obtain rfl : c8 = c9 + 1 := by rw [Maps.atKey_put_same hD (by first | trivial | simp [WideAt.IsKeyLit])] at hc8; cases hc8; rfl
  (refine WpXL.go _ rfl rfl fun Y y => ?_); simp only [zb, seval, w33, txtA]; (refine RunTo.fx y (by first | exact trivial | omega | (simp; done) | (simp; omega)) ?_); clear y Y
  refine WpXL.nil ?_
  change WpX _ _ _ _ _ _ _ _
  refine WpX.ofB ?_
  repeat (first | (apply fw; focus ((with_reducible constructor) <;> rfl)) | (apply WpA.cd; focus constructor) | ((first | with_reducible refine WpA.go _ rfl fun Y y => ?_ | apply RunTo.id); simp only [zb, seval, w33, txtA, hs0, hwl0, k1, k2, k3, k4, hrl1, hdr1]; refine RunTo.fn y (by first | exact trivial | omega | (simp; done) | (simp; omega)) ?_; clear y Y))
  refine WpL.call rfl (guardA_sound (P := Tryd.prog) rfl) (CallA.shut rfl rfl (by kernel_rfl) (ALes.refl _) (by first | rfl | simp [shuts, A.shut, C.shut]) (hnum) ?_)
  (refine WpL.go _ rfl fun Y y => ?_); repeat (first | (apply fw; focus ((with_reducible constructor) <;> rfl)) | (apply WpA.cd; focus constructor) | ((first | with_reducible refine WpA.go _ rfl fun Y y => ?_ | apply RunTo.id); simp only [zb, seval, w33, txtA, jobO, nilS]; refine RunTo.fn y (by first | exact trivial | omega | (simp; done) | (simp; omega)) ?_; clear y Y))
  have hle : ∀ s ∈ [[some o0, some o1, some o2, jobO src inp lim fu nilS, some o4, some o5, some o6], [some o0, some o1, some o2, jobO src inp lim fu nilS, some o4, some o5, some o6, some ⟨48, 3, [[.v (.int .i64 q1), .v (.int .i64 q2), .v (.int .i64 q3)]]⟩]], LeS [some o0, some o1, some o2, jobO src inp lim fu nilS, some o4, some o5, some o6] s := by
    simp only [List.mem_cons, List.not_mem_nil, or_false, forall_eq_or_imp, forall_eq]
    exact ⟨LeS.of (SLe.app [some o0, some o1, some o2, jobO src inp lim fu nilS, some o4, some o5, some o6] []), LeS.of (SLe.app [some o0, some o1, some o2, jobO src inp lim fu nilS, some o4, some o5, some o6] [_])⟩
  skip
  skip
  (refine WpA.draw1 17 [16] ([some o0, some o1, some o2, jobO src inp lim fu nilS, some o4, some o5, some o6]) [[some o0, some o1, some o2, jobO src inp lim fu nilS, some o4, some o5, some o6], [some o0, some o1, some o2, jobO src inp lim fu nilS, some o4, some o5, some o6, some ⟨48, 3, [[.v (.int .i64 q1), .v (.int .i64 q2), .v (.int .i64 q3)]]⟩]] _ _ _ _ rfl rfl rfl (by kernel_rfl) (by kernel_rfl) (by kernel_rfl) (by kernel_rfl) rfl rfl rfl rfl (by decide) fun K8 hK8 => ?_)
  simp only [zz] at hK8 ⊢
  (refine Draw1.go fun K7 hK7 => ?_); simp only [zb, seval, w33, jobO, nilS]; (refine RunQ.mk (by first | exact trivial | omega | (simp; done) | (simp; omega)) (hK7 _ _ (by rfl) ?_)); clear hK7 K7; (simp only [zz, Nat.reduceAdd, Nat.reduceSub]); (try ((refine Draw1.nil hle (hK8 _ ?_)); clear hK8 K8; (refine WpL.go _ rfl fun Y y => ?_); repeat (first | (apply fw; focus ((with_reducible constructor) <;> rfl)) | (apply WpA.cd; focus constructor) | ((first | with_reducible refine WpA.go _ rfl fun Y y => ?_ | apply RunTo.id); simp only [zb, seval, w33, jobO, nilS]; refine RunTo.fn y (by first | exact trivial | omega | (simp; done) | (simp; omega)) ?_; clear y Y))))
  refine Draw1.step (by rfl) (fun s9 h9 => OpS.frozen (n := 1) (wd := 3) (ty := 48) (rows := [[.v (.int .i64 q1), .v (.int .i64 q2), .v (.int .i64 q3)]]) (OpS.eff [(117, _)] rfl (by rfl) ⟨rfl, trivial⟩ (by simp only [zb, seval, w33]; rfl) (by simp)) rfl (by simp [C.shut])) ?_
  simp only [putE]
  refine Draw1.eff 0 rfl rfl rfl (OpS.eff [(107, _), (118, _)] rfl (by rfl) ⟨rfl, rfl, trivial⟩ (by simp only [zb, seval, w33, jobO, nilS]; rfl) (by first | exact trivial | omega | (simp; done) | (simp; omega))) ?_; (try simp only [putE]); (try ((refine Draw1.go fun K7 hK7 => ?_); simp only [zb, seval, w33, jobO, nilS]; (refine RunQ.mk (by first | exact trivial | omega | (simp; done) | (simp; omega)) (hK7 _ _ (by rfl) ?_)); clear hK7 K7; (simp only [zz, Nat.reduceAdd, Nat.reduceSub]); (try ((refine Draw1.nil hle (hK8 _ ?_)); clear hK8 K8; (refine WpL.go _ rfl fun Y y => ?_); repeat (first | (apply fw; focus ((with_reducible constructor) <;> rfl)) | (apply WpA.cd; focus constructor) | ((first | with_reducible refine WpA.go _ rfl fun Y y => ?_ | apply RunTo.id); simp only [zb, seval, w33, jobO, nilS]; refine RunTo.fn y (by first | exact trivial | omega | (simp; done) | (simp; omega)) ?_; clear y Y))))))
  exact ⟨by simp, _, rfl, _, _, _, Le.refl _ _, rfl, trivial, rfl, rfl, es, c', rfl, hf2⟩
theorem reads_collB (b : Nat) (o : Obj) (n : Nat) (D : DataW Unit) (line : ByteArray) (wt : List ByteArray) (c : Int) (o0 o1 o2 : Ob) (src inp : ByteArray) (lim fu : Int) (hsz : line.size ≤ 70000) (hl0 : line.size ≠ 0) (z : UInt8) (hg0 : line[0]? = some z) (hz : z ≠ 35) (hsp : Lib.splitB ⟨#[32]⟩ 0 (Lib.countB line ⟨#[32]⟩) line = collS :: wt) (hwl : wt.length ≤ 70000) (hwz : ∀ w ∈ wt, w.size ≤ 70000)
    (hf : MFit Tryd.prog 9 3 o n D) (hn : n < maxLen) (hc : D.atKey (.string collS.data.toList) (.lit (.int .i64 0)) = .lit (.int .i64 c)) (hcc : 0 ≤ c ∧ c ≤ 1000000) (hD : Maps.IsMap D) (o4 o5 o7 : Ob) (fs : List Co) (hk9 : fs.length < 1000) (q1 q2 q3 : Int) (hv : numsV wt = some [q1, q2, q3]) :
    FnM Tryd.prog 33 [.one (.ptr 3 1 0 0), .one (.v (.string line)), .one (.v (.map (some b)))] [some o0, some o1, some o2, jobO src inp lim fu (.ms 6 fs.length), some o4, some o5, some ⟨48, 3, fC fs⟩, some o7] b o
      (fun r s' o' => r = .one (.v (.int .i64 0)) ∧ s' = [some o0, some o1, some o2, jobO src inp lim fu (.ms 6 (fs.length + 1)), some o4, some o5, some ⟨48, 3, fC fs ++ [[.v (.int .i64 q1), .v (.int .i64 q2), .v (.int .i64 q3)]]⟩, some o7] ∧ ∃ es c', o' = .map es c' ∧ MFit Tryd.prog 9 3 (.map es c') (n + 1) (D.put (.string collS.data.toList) (.lit (.int .i64 (c + 1))))) := by
  have he0 : (line.toList == (⟨#[]⟩ : ByteArray).toList) = false := by rw [strDec, decide_eq_false fun e => hl0 ((size_nil _).1 e)]
  have hg1 : ((z.toNat : Int) == 35) = false := by simp; intro e; apply hz; exact UInt8.toNat_inj.1 (by rw [show (35 : UInt8).toNat = 35 from rfl]; omega)
  have hspl := split_at line _ hsz hsp
  have hs0 : (sC (collS :: wt))[0]? = some [.v (.string collS)] := rfl
  have hrl : (sC (collS :: wt)).length = wt.length + 1 := by rw [sC_len]; rfl
  have hwl0 : (0 : Int) < ((sC (collS :: wt)).length : Int) := by rw [hrl]; omega
  have hw0 : IntKind.i64.wrap (c + 1) = c + 1 := by rw [wrap64 (by omega) (by omega)]
  have hlS : collS.size ≤ maxLen := by decide
  have hon : c = 0 ∨ c ≠ 0 := by omega
  have k1 : (collS.toList == (⟨#[105, 110]⟩ : ByteArray).toList) = false := by kernel_rfl
  have k2 : (collS.toList == (⟨#[108, 105, 109, 105, 116]⟩ : ByteArray).toList) = false := by kernel_rfl
  have k3 : (collS.toList == (⟨#[102, 117, 101, 108]⟩ : ByteArray).toList) = false := by kernel_rfl
  have k4 : (collS.toList == (⟨#[99, 111, 108, 108, 101, 99, 116]⟩ : ByteArray).toList) = true := by kernel_rfl
  have hrl1 : ((1 : Int) ≤ ((sC (collS :: wt)).length : Int)) := by rw [hrl]; omega
  have hdr1 : List.drop 1 (List.take (sC (collS :: wt)).length (sC (collS :: wt))) = sC wt := by rw [List.take_length]; rfl
  have hnum := numbers_pure wt 3 (by omega) hwz
  have hfl := fC_len fs
  have hkk : ((fs.length : Int) == 1000) = false := by simp; omega
  generalize sC (collS :: wt) = rw0 at *
  simp only [numT, hv] at hnum
  have he1 : ((([q1, q2, q3] : List Int).length : Int) == 3) = true := rfl
  rw [he1] at hnum
  have hnv : (nC [q1, q2, q3]) = [[.v (.int .i64 q1)], [.v (.int .i64 q2)], [.v (.int .i64 q3)]] := rfl
  rw [hnv] at hnum
  refine FnM.intro Tryd.func33 rfl Tryd.ntmps33 Tryd.results33 (by simp only [List.length_cons, List.length_nil]; decide) ?_
  refine WpX.seq (WpX.ofB ?_)
  repeat (first | (apply fw; focus ((with_reducible constructor) <;> rfl)) | (apply WpA.cd; focus constructor) | ((first | with_reducible refine WpA.go _ rfl fun Y y => ?_ | apply RunTo.id); simp only [zb, seval, w33, txtA]; refine RunTo.fn y (by first | exact trivial | omega | (simp; done) | (simp; omega)) ?_; clear y Y))
  change WpX _ _ _ _ _ _ _ _
  refine WpX.seq (WpX.ofB ?_)
  repeat (first | (apply fw; focus ((with_reducible constructor) <;> rfl)) | (apply WpA.cd; focus constructor) | ((first | with_reducible refine WpA.go _ rfl fun Y y => ?_ | apply RunTo.id); simp only [zb, seval, w33, txtA, he0, hg0, hg1]; refine RunTo.fn y (by first | exact trivial | omega | (simp; done) | (simp; omega)) ?_; clear y Y))
  change WpX _ _ _ _ _ _ _ _
  refine WpX.seq (WpX.ofB ?_)
  repeat (first | (apply fw; focus ((with_reducible constructor) <;> rfl)) | (apply WpA.cd; focus constructor) | ((first | with_reducible refine WpA.go _ rfl fun Y y => ?_ | apply RunTo.id); simp only [zb, seval, w33, txtA]; refine RunTo.fn y (by first | exact trivial | omega | (simp; done) | (simp; omega)) ?_; clear y Y))
  refine WpL.call rfl (guardA_sound (P := Tryd.prog) rfl) (CallA.shut rfl rfl (by kernel_rfl) (ALes.refl _) (by first | rfl | simp [shuts, A.shut, C.shut]) (hspl) ?_)
  (refine WpL.go _ rfl fun Y y => ?_); repeat (first | (apply fw; focus ((with_reducible constructor) <;> rfl)) | (apply WpA.cd; focus constructor) | ((first | with_reducible refine WpA.go _ rfl fun Y y => ?_ | apply RunTo.id); simp only [zb, seval, w33, txtA]; refine RunTo.fn y (by first | exact trivial | omega | (simp; done) | (simp; omega)) ?_; clear y Y))
  change WpX _ _ _ _ _ _ _ _
  refine WpX.seq (WpX.region ?_)
  (refine WpXL.go _ rfl rfl fun Y y => ?_); simp only [zb, seval, w33, txtA, hs0, hwl0]; (refine RunTo.fx y (by first | exact trivial | omega | (simp; done) | (simp; omega)) ?_); clear y Y
  refine WpXL.lookup rfl rfl rfl hf Tryd.underlying63 Tryd.underlying9 Tryd.underlying3 (fun w => Tryd.zeroValue3 w) hlS fun c9 hc9 => ?_
  obtain rfl : c9 = c := by rw [hc] at hc9; cases hc9; rfl
  (refine WpXL.go _ rfl rfl fun Y y => ?_); simp only [zb, seval, w33, txtA, hw0]; (refine RunTo.fx y (by first | exact trivial | omega | (simp; done) | (simp; omega)) ?_); clear y Y
  refine WpXL.update rfl rfl rfl hf Tryd.underlying63 Tryd.underlying9 Tryd.underlying3 hlS hn (by simp [Lit.wf, IntKind.min, IntKind.max, IntKind.signed, IntKind.bits]; omega) (by simp) fun es c' hf2 => ?_
  refine WpXL.nil ?_
  change WpX _ _ _ _ _ _ _ _
  refine WpX.seq (WpX.region ?_)
  (refine WpXL.go _ rfl rfl fun Y y => ?_); simp only [zb, seval, w33, txtA, hs0, hwl0]; (refine RunTo.fx y (by first | exact trivial | omega | (simp; done) | (simp; omega)) ?_); clear y Y
  refine WpXL.lookup rfl rfl rfl hf2 Tryd.underlying63 Tryd.underlying9 Tryd.underlying3 (fun w => Tryd.zeroValue3 w) hlS fun c8 hc8 => ?_
  obtain rfl : c8 = c9 + 1 := by rw [Maps.atKey_put_same hD (by first | trivial | simp [WideAt.IsKeyLit])] at hc8; cases hc8; rfl
  (refine WpXL.go _ rfl rfl fun Y y => ?_); simp only [zb, seval, w33, txtA]; (refine RunTo.fx y (by first | exact trivial | omega | (simp; done) | (simp; omega)) ?_); clear y Y
  refine WpXL.nil ?_
  change WpX _ _ _ _ _ _ _ _
  refine WpX.ofB ?_
  repeat (first | (apply fw; focus ((with_reducible constructor) <;> rfl)) | (apply WpA.cd; focus constructor) | ((first | with_reducible refine WpA.go _ rfl fun Y y => ?_ | apply RunTo.id); simp only [zb, seval, w33, txtA, hs0, hwl0, k1, k2, k3, k4, hrl1, hdr1]; refine RunTo.fn y (by first | exact trivial | omega | (simp; done) | (simp; omega)) ?_; clear y Y))
  refine WpL.call rfl (guardA_sound (P := Tryd.prog) rfl) (CallA.shut rfl rfl (by kernel_rfl) (ALes.refl _) (by first | rfl | simp [shuts, A.shut, C.shut]) (hnum) ?_)
  (refine WpL.go _ rfl fun Y y => ?_); repeat (first | (apply fw; focus ((with_reducible constructor) <;> rfl)) | (apply WpA.cd; focus constructor) | ((first | with_reducible refine WpA.go _ rfl fun Y y => ?_ | apply RunTo.id); simp only [zb, seval, w33, txtA, jobO, nilS, hfl, hkk]; refine RunTo.fn y (by first | exact trivial | omega | (simp; done) | (simp; omega)) ?_; clear y Y))
  have hle : ∀ s ∈ [[some o0, some o1, some o2, jobO src inp lim fu (.ms 6 fs.length), some o4, some o5, some ⟨48, 3, fC fs⟩, some o7], [some o0, some o1, some o2, jobO src inp lim fu (.ms 6 fs.length), some o4, some o5, some ⟨48, 3, fC fs ++ [[.v (.int .i64 q1), .v (.int .i64 q2), .v (.int .i64 q3)]]⟩, some o7]], LeS [some o0, some o1, some o2, jobO src inp lim fu (.ms 6 fs.length), some o4, some o5] s := by
    simp only [List.mem_cons, List.not_mem_nil, or_false, forall_eq_or_imp, forall_eq]
    exact ⟨LeS.of (SLe.app [some o0, some o1, some o2, jobO src inp lim fu (.ms 6 fs.length), some o4, some o5] [_, _]), LeS.of (SLe.app [some o0, some o1, some o2, jobO src inp lim fu (.ms 6 fs.length), some o4, some o5] [_, _])⟩
  skip
  skip
  (refine WpA.draw1 17 [16] ([some o0, some o1, some o2, jobO src inp lim fu (.ms 6 fs.length), some o4, some o5]) [[some o0, some o1, some o2, jobO src inp lim fu (.ms 6 fs.length), some o4, some o5, some ⟨48, 3, fC fs⟩, some o7], [some o0, some o1, some o2, jobO src inp lim fu (.ms 6 fs.length), some o4, some o5, some ⟨48, 3, fC fs ++ [[.v (.int .i64 q1), .v (.int .i64 q2), .v (.int .i64 q3)]]⟩, some o7]] _ _ _ _ rfl rfl rfl (by kernel_rfl) (by kernel_rfl) (by kernel_rfl) (by kernel_rfl) rfl rfl rfl rfl (by decide) fun K8 hK8 => ?_)
  simp only [zz] at hK8 ⊢
  (refine Draw1.go fun K7 hK7 => ?_); simp only [zb, seval, w33, jobO, nilS]; (refine RunQ.mk (by first | exact trivial | omega | (simp; done) | (simp; omega)) (hK7 _ _ (by rfl) ?_)); clear hK7 K7; (simp only [zz, Nat.reduceAdd, Nat.reduceSub]); (try ((refine Draw1.nil hle (hK8 _ ?_)); clear hK8 K8; (refine WpL.go _ rfl fun Y y => ?_); repeat (first | (apply fw; focus ((with_reducible constructor) <;> rfl)) | (apply WpA.cd; focus constructor) | ((first | with_reducible refine WpA.go _ rfl fun Y y => ?_ | apply RunTo.id); simp only [zb, seval, w33, jobO, nilS]; refine RunTo.fn y (by first | exact trivial | omega | (simp; done) | (simp; omega)) ?_; clear y Y))))
  refine Draw1.step (by rfl) (fun s9 h9 => OpS.frozen (n := 1) (wd := 3) (ty := 48) (rows := [[.v (.int .i64 q1), .v (.int .i64 q2), .v (.int .i64 q3)]]) (OpS.eff [(117, _)] rfl (by rfl) ⟨rfl, trivial⟩ (by simp only [zb, seval, w33]; rfl) (by simp)) rfl (by simp [C.shut])) ?_
  simp only [putE]
  refine Draw1.eff 0 rfl rfl rfl (OpS.eff [(107, _), (118, _)] rfl (by rfl) ⟨rfl, rfl, trivial⟩ (by simp only [zb, seval, w33, jobO, nilS, hfl]; rfl) (by first | exact trivial | omega | (simp; done) | (simp; omega))) ?_; (try simp only [putE]); (try ((refine Draw1.go fun K7 hK7 => ?_); simp only [zb, seval, w33, jobO, nilS, hfl]; (refine RunQ.mk (by first | exact trivial | omega | (simp; done) | (simp; omega)) (hK7 _ _ (by rfl) ?_)); clear hK7 K7; (simp only [zz, Nat.reduceAdd, Nat.reduceSub]); (try ((refine Draw1.nil hle (hK8 _ ?_)); clear hK8 K8; (refine WpL.go _ rfl fun Y y => ?_); repeat (first | (apply fw; focus ((with_reducible constructor) <;> rfl)) | (apply WpA.cd; focus constructor) | ((first | with_reducible refine WpA.go _ rfl fun Y y => ?_ | apply RunTo.id); simp only [zb, seval, w33, jobO, nilS, hfl]; refine RunTo.fn y (by first | exact trivial | omega | (simp; done) | (simp; omega)) ?_; clear y Y))))))
  exact ⟨by simp, _, rfl, _, _, _, Le.refl _ _, rfl, trivial, rfl, rfl, es, c', rfl, hf2⟩
theorem reads_collF (b : Nat) (o : Obj) (n : Nat) (D : DataW Unit) (line : ByteArray) (wt : List ByteArray) (c : Int) (o0 o1 o2 : Ob) (src inp : ByteArray) (lim fu : Int) (hsz : line.size ≤ 70000) (hl0 : line.size ≠ 0) (z : UInt8) (hg0 : line[0]? = some z) (hz : z ≠ 35) (hsp : Lib.splitB ⟨#[32]⟩ 0 (Lib.countB line ⟨#[32]⟩) line = collS :: wt) (hwl : wt.length ≤ 70000) (hwz : ∀ w ∈ wt, w.size ≤ 70000)
    (hf : MFit Tryd.prog 9 3 o n D) (hn : n < maxLen) (hc : D.atKey (.string collS.data.toList) (.lit (.int .i64 0)) = .lit (.int .i64 c)) (hcc : 0 ≤ c ∧ c ≤ 1000000) (hD : Maps.IsMap D) (o4 o5 o7 : Ob) (fs : List Co) (hk9 : fs.length = 1000) (q1 q2 q3 : Int) (hv : numsV wt = some [q1, q2, q3]) :
    FnM Tryd.prog 33 [.one (.ptr 3 1 0 0), .one (.v (.string line)), .one (.v (.map (some b)))] [some o0, some o1, some o2, jobO src inp lim fu (.ms 6 fs.length), some o4, some o5, some ⟨48, 3, fC fs⟩, some o7] b o
      (fun r s' o' => r = .one (.v (.int .i64 12)) ∧ s' = [some o0, some o1, some o2, jobO src inp lim fu (.ms 6 fs.length), some o4, some o5, some ⟨48, 3, fC fs⟩, some o7] ∧ ∃ es c', o' = .map es c' ∧ MFit Tryd.prog 9 3 (.map es c') (n + 1) (D.put (.string collS.data.toList) (.lit (.int .i64 (c + 1))))) := by
  have he0 : (line.toList == (⟨#[]⟩ : ByteArray).toList) = false := by rw [strDec, decide_eq_false fun e => hl0 ((size_nil _).1 e)]
  have hg1 : ((z.toNat : Int) == 35) = false := by simp; intro e; apply hz; exact UInt8.toNat_inj.1 (by rw [show (35 : UInt8).toNat = 35 from rfl]; omega)
  have hspl := split_at line _ hsz hsp
  have hs0 : (sC (collS :: wt))[0]? = some [.v (.string collS)] := rfl
  have hrl : (sC (collS :: wt)).length = wt.length + 1 := by rw [sC_len]; rfl
  have hwl0 : (0 : Int) < ((sC (collS :: wt)).length : Int) := by rw [hrl]; omega
  have hw0 : IntKind.i64.wrap (c + 1) = c + 1 := by rw [wrap64 (by omega) (by omega)]
  have hlS : collS.size ≤ maxLen := by decide
  have hon : c = 0 ∨ c ≠ 0 := by omega
  have k1 : (collS.toList == (⟨#[105, 110]⟩ : ByteArray).toList) = false := by kernel_rfl
  have k2 : (collS.toList == (⟨#[108, 105, 109, 105, 116]⟩ : ByteArray).toList) = false := by kernel_rfl
  have k3 : (collS.toList == (⟨#[102, 117, 101, 108]⟩ : ByteArray).toList) = false := by kernel_rfl
  have k4 : (collS.toList == (⟨#[99, 111, 108, 108, 101, 99, 116]⟩ : ByteArray).toList) = true := by kernel_rfl
  have hrl1 : ((1 : Int) ≤ ((sC (collS :: wt)).length : Int)) := by rw [hrl]; omega
  have hdr1 : List.drop 1 (List.take (sC (collS :: wt)).length (sC (collS :: wt))) = sC wt := by rw [List.take_length]; rfl
  have hnum := numbers_pure wt 3 (by omega) hwz
  have hfl := fC_len fs
  have hkk : ((fs.length : Int) == 1000) = true := by simp; omega
  generalize sC (collS :: wt) = rw0 at *
  simp only [numT, hv] at hnum
  have he1 : ((([q1, q2, q3] : List Int).length : Int) == 3) = true := rfl
  rw [he1] at hnum
  have hnv : (nC [q1, q2, q3]) = [[.v (.int .i64 q1)], [.v (.int .i64 q2)], [.v (.int .i64 q3)]] := rfl
  rw [hnv] at hnum
  refine FnM.intro Tryd.func33 rfl Tryd.ntmps33 Tryd.results33 (by simp only [List.length_cons, List.length_nil]; decide) ?_
  refine WpX.seq (WpX.ofB ?_)
  repeat (first | (apply fw; focus ((with_reducible constructor) <;> rfl)) | (apply WpA.cd; focus constructor) | ((first | with_reducible refine WpA.go _ rfl fun Y y => ?_ | apply RunTo.id); simp only [zb, seval, w33, txtA]; refine RunTo.fn y (by first | exact trivial | omega | (simp; done) | (simp; omega)) ?_; clear y Y))
  change WpX _ _ _ _ _ _ _ _
  refine WpX.seq (WpX.ofB ?_)
  repeat (first | (apply fw; focus ((with_reducible constructor) <;> rfl)) | (apply WpA.cd; focus constructor) | ((first | with_reducible refine WpA.go _ rfl fun Y y => ?_ | apply RunTo.id); simp only [zb, seval, w33, txtA, he0, hg0, hg1]; refine RunTo.fn y (by first | exact trivial | omega | (simp; done) | (simp; omega)) ?_; clear y Y))
  change WpX _ _ _ _ _ _ _ _
  refine WpX.seq (WpX.ofB ?_)
  repeat (first | (apply fw; focus ((with_reducible constructor) <;> rfl)) | (apply WpA.cd; focus constructor) | ((first | with_reducible refine WpA.go _ rfl fun Y y => ?_ | apply RunTo.id); simp only [zb, seval, w33, txtA]; refine RunTo.fn y (by first | exact trivial | omega | (simp; done) | (simp; omega)) ?_; clear y Y))
  refine WpL.call rfl (guardA_sound (P := Tryd.prog) rfl) (CallA.shut rfl rfl (by kernel_rfl) (ALes.refl _) (by first | rfl | simp [shuts, A.shut, C.shut]) (hspl) ?_)
  (refine WpL.go _ rfl fun Y y => ?_); repeat (first | (apply fw; focus ((with_reducible constructor) <;> rfl)) | (apply WpA.cd; focus constructor) | ((first | with_reducible refine WpA.go _ rfl fun Y y => ?_ | apply RunTo.id); simp only [zb, seval, w33, txtA]; refine RunTo.fn y (by first | exact trivial | omega | (simp; done) | (simp; omega)) ?_; clear y Y))
  change WpX _ _ _ _ _ _ _ _
  refine WpX.seq (WpX.region ?_)
  (refine WpXL.go _ rfl rfl fun Y y => ?_); simp only [zb, seval, w33, txtA, hs0, hwl0]; (refine RunTo.fx y (by first | exact trivial | omega | (simp; done) | (simp; omega)) ?_); clear y Y
  refine WpXL.lookup rfl rfl rfl hf Tryd.underlying63 Tryd.underlying9 Tryd.underlying3 (fun w => Tryd.zeroValue3 w) hlS fun c9 hc9 => ?_
  obtain rfl : c9 = c := by rw [hc] at hc9; cases hc9; rfl
  (refine WpXL.go _ rfl rfl fun Y y => ?_); simp only [zb, seval, w33, txtA, hw0]; (refine RunTo.fx y (by first | exact trivial | omega | (simp; done) | (simp; omega)) ?_); clear y Y
  refine WpXL.update rfl rfl rfl hf Tryd.underlying63 Tryd.underlying9 Tryd.underlying3 hlS hn (by simp [Lit.wf, IntKind.min, IntKind.max, IntKind.signed, IntKind.bits]; omega) (by simp) fun es c' hf2 => ?_
  refine WpXL.nil ?_
  change WpX _ _ _ _ _ _ _ _
  refine WpX.seq (WpX.region ?_)
  (refine WpXL.go _ rfl rfl fun Y y => ?_); simp only [zb, seval, w33, txtA, hs0, hwl0]; (refine RunTo.fx y (by first | exact trivial | omega | (simp; done) | (simp; omega)) ?_); clear y Y
  refine WpXL.lookup rfl rfl rfl hf2 Tryd.underlying63 Tryd.underlying9 Tryd.underlying3 (fun w => Tryd.zeroValue3 w) hlS fun c8 hc8 => ?_
  obtain rfl : c8 = c9 + 1 := by rw [Maps.atKey_put_same hD (by first | trivial | simp [WideAt.IsKeyLit])] at hc8; cases hc8; rfl
  (refine WpXL.go _ rfl rfl fun Y y => ?_); simp only [zb, seval, w33, txtA]; (refine RunTo.fx y (by first | exact trivial | omega | (simp; done) | (simp; omega)) ?_); clear y Y
  refine WpXL.nil ?_
  change WpX _ _ _ _ _ _ _ _
  refine WpX.ofB ?_
  repeat (first | (apply fw; focus ((with_reducible constructor) <;> rfl)) | (apply WpA.cd; focus constructor) | ((first | with_reducible refine WpA.go _ rfl fun Y y => ?_ | apply RunTo.id); simp only [zb, seval, w33, txtA, hs0, hwl0, k1, k2, k3, k4, hrl1, hdr1]; refine RunTo.fn y (by first | exact trivial | omega | (simp; done) | (simp; omega)) ?_; clear y Y))
  refine WpL.call rfl (guardA_sound (P := Tryd.prog) rfl) (CallA.shut rfl rfl (by kernel_rfl) (ALes.refl _) (by first | rfl | simp [shuts, A.shut, C.shut]) (hnum) ?_)
  (refine WpL.go _ rfl fun Y y => ?_); repeat (first | (apply fw; focus ((with_reducible constructor) <;> rfl)) | (apply WpA.cd; focus constructor) | ((first | with_reducible refine WpA.go _ rfl fun Y y => ?_ | apply RunTo.id); simp only [zb, seval, w33, txtA, jobO, nilS, hfl, hkk]; refine RunTo.fn y (by first | exact trivial | omega | (simp; done) | (simp; omega)) ?_; clear y Y))
  exact ⟨by simp, _, rfl, _, _, _, Le.refl _ _, rfl, trivial, rfl, rfl, es, c', rfl, hf2⟩
end Go.Proofs.YtdcmihhcpgkgiaaDoor
end
