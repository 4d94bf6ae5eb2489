/-
 Laid together: MayD18, Wr18, Ws18, RList, Awk18.
-/
import Derived.Test.YtaeioidifpebdaaGreatDoorG3
import Derived.Test.YtaeioidifpebdaaGreatDoorMay
import Derived.Test.YtaeioidifpebdaaGreatDoorG9
import Derived.Test.YtaeioidifpebdaaGreatDoorG5
import Derived.Test.YtaeioidifpebdaaGreatDoorG4
import Derived.Test.YtaeioidifpebdaaGreatDoorG6
section
namespace Go.Proofs.YtaeioidifpebdaaGreatDoor
open Go Go.RowKit Go.Lib
theorem dmay_pure (d : D) (hok : d.Ok) (hb : d.count < 1000000000) : Pure Tryz.prog 39 [.agg d.cc] (.one (.v (.bool (mayB d)))) := by
 refine pure_old_v rfl fun w vs hg hv => ?_
 obtain ⟨v, rfl, hv1⟩ := hv.one1
 exact may_any d w v hok hb hg.tabs hv1.isD
end Go.Proofs.YtaeioidifpebdaaGreatDoor
end
section
namespace Go.Proofs.YtaeioidifpebdaaGreatDoor
open Go Go.RowKit Go.Lib
set_option linter.unusedSimpArgs false
set_option linter.unusedVariables false
set_option maxHeartbeats 4000000
set_option maxRecDepth 100000
theorem topN_le {n : Nat} {ev : Ev} (hE : HE n ev) : ∀ (m : Nat) (d : D), (topN ev m d).2 ≤ 2
 | 0, d => Nat.zero_le _
 | m + 1, d => by
  unfold topN
  repeat' split
  ·exact defE_le hE _
  ·exact hE.e2 d
  ·exact Nat.zero_le _
  ·exact supN_le fun x hx => by
    obtain ⟨d, _, rfl⟩ := List.mem_map.1 hx
    exact topN_le hE m d
def TopI (d : D) (E : D → Rs) (l : List D) (n : Nat) (st : St) : Prop := ∃ (i : Nat) (S : List (Option Ob)) (cO : C), n = l.length - i ∧ i ≤ l.length ∧ At 31 11 S cO (((l.take i).map fun d => (E d).1).map K.cc) ∧
 S[1]? = some (some ⟨31, 11, [[.v (.int .i64 0), .v (.string ⟨#[]⟩), .v (.string ⟨#[]⟩), .v (.slice none 0 0), .v (.int .i64 0), .v (.int .i32 0), .v (.bool false), .v (.slice none 0 0), .v (.string ⟨#[]⟩), .v (.slice none 0 0), .v (.slice none 0 0)]]⟩) ∧ (∀ n, cO ≠ .ms 1 n) ∧
 st = ⟨[(51, .one (.v (.int .i64 i))), (50, .one (.v (.int .i64 l.length))), (49, .one (.sl 6 (l.map D.cc))), (2, .one (.ptr 1 1 0 0)), (3, .one (.er 0)), (11, .one cO), (12, .one (.er (supN ((l.take i).map fun d => (E d).2))))], S⟩
theorem top_pure {n : Nat} {ev : Ev} (hE : HE n ev) : ∀ (m : Nat) (d : D), d.msr < m → Gd n d → Pure Tryz.prog 40 [.agg d.cc] (rsA (topN ev m d))
 | 0, d, h, _ => absurd h (Nat.not_lt_zero _)
 | m + 1, d, hm, hd => by
  have hbig := hE.big
  have hh1 := head_pure n d sDefine hd (by omega)
  have hh2 := head_pure n d sBegin hd (by omega)
  have hx := hE.e d hd
  cases ho : headO d sDefine with
  | some l =>
   obtain ⟨g1, g2⟩ := gds_head hd ho
   have hdf := definition_pure hE l g1
   rw [show topN ev (m + 1) d = (.mk 4 (defE ev l).1 e0 [] dNil [(defE ev l).2.1], (defE ev l).2.2) by rw [topN, ho]]
   rw [ho] at hh1
   simp only [headA] at hh1
   simp only [dfA] at hdf
   simp only [rsA]
   refine fi Tryz.func40 Tryz.ntmps40 Tryz.results40 ?_
   repeat (first | (apply fw; (with_reducible constructor) <;> rfl) | (apply WpA.cd; constructor) | ((first | with_reducible refine WpA.go _ rfl fun Y y => ?_ | apply RunTo.id); simp only [zb, seval, w40, kcc]; refine fz y ?_; clear y Y))
   refine cz (hh1) ?_
   (refine WpL.go _ rfl fun Y y => ?_); repeat (first | (apply fw; (with_reducible constructor) <;> rfl) | (apply WpA.cd; constructor) | ((first | with_reducible refine WpA.go _ rfl fun Y y => ?_ | apply RunTo.id); simp only [zb, seval, w40, kcc]; refine fz y ?_; clear y Y))
   refine cz (hdf) ?_
   (refine WpL.go _ rfl fun Y y => ?_); repeat (first | (apply fw; (with_reducible constructor) <;> rfl) | (apply WpA.cd; constructor) | ((first | with_reducible refine WpA.go _ rfl fun Y y => ?_ | apply RunTo.id); simp only [zb, seval, w40, kcc]; refine fz y ?_; clear y Y))
   refine ⟨by simp, _, _, _, _, (by simp only [zb, seval, w40, kcc]; rfl), (by simp), (by simp only [zv, kcc]; rfl), (by simp [ksh]), _, (by simp only [rcc]; exact ae), rfl⟩
  | none =>
   rw [ho] at hh1
   cases hb : headO d sBegin with
   | none =>
    rw [show topN ev (m + 1) d = ev.e d by rw [topN, ho]; dsimp only; rw [hb]]
    rw [hb] at hh2
    simp only [headA] at hh1 hh2
    simp only [rsA] at hx ⊢
    refine fi Tryz.func40 Tryz.ntmps40 Tryz.results40 ?_
    repeat (first | (apply fw; (with_reducible constructor) <;> rfl) | (apply WpA.cd; constructor) | ((first | with_reducible refine WpA.go _ rfl fun Y y => ?_ | apply RunTo.id); simp only [zb, seval, w40, kcc]; refine fz y ?_; clear y Y))
    refine cz (hh1) ?_
    (refine WpL.go _ rfl fun Y y => ?_); repeat (first | (apply fw; (with_reducible constructor) <;> rfl) | (apply WpA.cd; constructor) | ((first | with_reducible refine WpA.go _ rfl fun Y y => ?_ | apply RunTo.id); simp only [zb, seval, w40, kcc]; refine fz y ?_; clear y Y))
    refine cz (hh2) ?_
    (refine WpL.go _ rfl fun Y y => ?_); repeat (first | (apply fw; (with_reducible constructor) <;> rfl) | (apply WpA.cd; constructor) | ((first | with_reducible refine WpA.go _ rfl fun Y y => ?_ | apply RunTo.id); simp only [zb, seval, w40, kcc]; refine fz y ?_; clear y Y))
    refine cz (hx) ?_
    (refine WpL.go _ rfl fun Y y => ?_); repeat (first | (apply fw; (with_reducible constructor) <;> rfl) | (apply WpA.cd; constructor) | ((first | with_reducible refine WpA.go _ rfl fun Y y => ?_ | apply RunTo.id); simp only [zb, seval, w40, kcc]; refine fz y ?_; clear y Y))
    refine ye (by simp only [zb, seval, w40, kcc]; rfl) (by simp only [zv, kcc]; rfl) ?_
    rfl
   | some l =>
    obtain ⟨g1, g2⟩ := gds_head hd hb
    rw [hb] at hh2
    simp only [headA] at hh1 hh2
    by_cases hl0 : l = []
    ·subst hl0
     have hno := nothing_pure
     rw [show topN ev (m + 1) d = (nothingK, 0) by rw [topN, ho]; dsimp only; rw [hb]]
     simp only [rsA]
     refine fi Tryz.func40 Tryz.ntmps40 Tryz.results40 ?_
     repeat (first | (apply fw; (with_reducible constructor) <;> rfl) | (apply WpA.cd; constructor) | ((first | with_reducible refine WpA.go _ rfl fun Y y => ?_ | apply RunTo.id); simp only [zb, seval, w40, kcc]; refine fz y ?_; clear y Y))
     refine cz (hh1) ?_
     (refine WpL.go _ rfl fun Y y => ?_); repeat (first | (apply fw; (with_reducible constructor) <;> rfl) | (apply WpA.cd; constructor) | ((first | with_reducible refine WpA.go _ rfl fun Y y => ?_ | apply RunTo.id); simp only [zb, seval, w40, kcc]; refine fz y ?_; clear y Y))
     refine cz (hh2) ?_
     (refine WpL.go _ rfl fun Y y => ?_); repeat (first | (apply fw; (with_reducible constructor) <;> rfl) | (apply WpA.cd; constructor) | ((first | with_reducible refine WpA.go _ rfl fun Y y => ?_ | apply RunTo.id); simp only [zb, seval, w40, kcc]; refine fz y ?_; clear y Y))
     refine cz (hno) ?_
     (refine WpL.go _ rfl fun Y y => ?_); repeat (first | (apply fw; (with_reducible constructor) <;> rfl) | (apply WpA.cd; constructor) | ((first | with_reducible refine WpA.go _ rfl fun Y y => ?_ | apply RunTo.id); simp only [zb, seval, w40, kcc]; refine fz y ?_; clear y Y))
     refine ye (by simp only [zb, seval, w40, kcc]; rfl) (by simp only [zv, kcc]; rfl) ?_
     rfl
    ·have hne : ((l.length : Int) == 0) = false := by
      have : l.length ≠ 0 := fun h => hl0 (List.length_eq_zero_iff.1 h)
      simp; exact hl0
     have hlen := g1.len
     have hml : (l.map D.cc).length = l.length := List.length_map ..
     rw [show topN ev (m + 1) d = (seqK (l.map fun x => (topN ev m x).1), supN (l.map fun x => (topN ev m x).2)) by
      obtain ⟨a, r, rfl⟩ : ∃ a r, l = a :: r := by
       match l, hl0 with
       | a :: r, _ => exact ⟨a, r, rfl⟩
      rw [topN, ho]; dsimp only; rw [hb]]
     have hrec : ∀ x ∈ l, Pure Tryz.prog 40 [.agg x.cc] (rsA (topN ev m x)) := fun x hx => top_pure hE m x (by have := msrs_mem hx; omega) (g1.mem hx)
     have hrec2 : ∀ x, (topN ev m x).2 ≤ 2 := topN_le hE m
     generalize topN ev m = E at hrec hrec2 ⊢
     refine fi Tryz.func40 Tryz.ntmps40 Tryz.results40 ?_
     repeat (first | (apply fw; (with_reducible constructor) <;> rfl) | (apply WpA.cd; constructor) | ((first | with_reducible refine WpA.go _ rfl fun Y y => ?_ | apply RunTo.id); simp only [zb, seval, w40, kcc]; refine fz y ?_; clear y Y))
     refine cz (hh1) ?_
     (refine WpL.go _ rfl fun Y y => ?_); repeat (first | (apply fw; (with_reducible constructor) <;> rfl) | (apply WpA.cd; constructor) | ((first | with_reducible refine WpA.go _ rfl fun Y y => ?_ | apply RunTo.id); simp only [zb, seval, w40, kcc]; refine fz y ?_; clear y Y))
     refine cz (hh2) ?_
     (refine WpL.go _ rfl fun Y y => ?_); repeat (first | (apply fw; (with_reducible constructor) <;> rfl) | (apply WpA.cd; constructor) | ((first | with_reducible refine WpA.go _ rfl fun Y y => ?_ | apply RunTo.id); simp only [zb, seval, w40, kcc, hne, hml]; refine fz y ?_; clear y Y))
     refine WpA.loop (TopI d E l) l.length (st0 := ⟨[(51, .one (.v (.int .i64 (0 : Nat)))), (50, .one (.v (.int .i64 l.length))), (49, .one (.sl 6 (l.map D.cc))), (2, .one (.ptr 1 1 0 0)), (3, .one (.er 0)), (11, .one (.v (.slice none 0 0))), (12, .one (.er 0))], [some ⟨28, 6, [d.cc]⟩, some ⟨31, 11, [[.v (.int .i64 0), .v (.string ⟨#[]⟩), .v (.string ⟨#[]⟩), .v (.slice none 0 0), .v (.int .i64 0), .v (.int .i32 0), .v (.bool false), .v (.slice none 0 0), .v (.string ⟨#[]⟩), .v (.slice none 0 0), .v (.slice none 0 0)]]⟩]⟩) (Le.sub (by simp [Sub, find]))
      ⟨0, _, _, rfl, Nat.zero_le _, At.nil _ _ _, rfl, (fun n e => by cases e), rfl⟩ ?_
     intro n' st hI
     obtain ⟨i, S, cO, rfl, hi, hA, hbox, hne0, rfl⟩ := hI
     have hw2 : IntKind.i64.wrap ((i : Int) + 1) = ((i + 1 : Nat) : Int) := by rw [wrap64 (by omega) (by omega)]; omega
     have hS1 := (List.getElem?_eq_some_iff.1 hbox).1
     by_cases hlt : i < l.length
     ·have hd1 : decide ((i : Int) < (l.length : Int)) = true := by simp; omega
      have hget := getC hlt
      have hc := hrec l[i] (List.getElem_mem hlt)
      have hbo := both_pure (supN ((l.take i).map fun d => (E d).2)) (E l[i]).2 (supN_le fun x hx => by
       obtain ⟨d, _, rfl⟩ := List.mem_map.1 hx
       exact hrec2 d) (hrec2 _)
      simp only [rsA] at hc
      have hal := hA.len
      rw [List.length_map, List.length_map, List.length_take, Nat.min_eq_left hi] at hal
      repeat (first | (apply fw; (with_reducible constructor) <;> rfl) | (apply WpA.cd; constructor) | ((first | with_reducible refine WpA.go _ rfl fun Y y => ?_ | apply RunTo.id); simp only [zb, seval, w40, hd1, hget, kcc, apps]; refine fz y ?_; clear y Y))
      refine cz (hc) ?_
      (refine WpL.go _ rfl fun Y y => ?_); repeat (first | (apply fw; (with_reducible constructor) <;> rfl) | (apply WpA.cd; constructor) | ((first | with_reducible refine WpA.go _ rfl fun Y y => ?_ | apply RunTo.id); simp only [zb, seval, w40, kcc, apps]; refine fz y ?_; clear y Y))
      refine cz (hbo) ?_
      (refine WpL.go _ rfl fun Y y => ?_); repeat (first | (apply fw; (with_reducible constructor) <;> rfl) | (apply WpA.cd; constructor) | ((first | with_reducible refine WpA.go _ rfl fun Y y => ?_ | apply RunTo.id); simp only [zb, seval, w40, kcc, apps]; refine fz y ?_; clear y Y))
      refine WpA.region ?_
      (try simp only [St.put]); (refine WpL.op rfl (guardA_sound (P := Tryz.prog) rfl) (aop_sound (by simp only [zb, seval, w40, kcc, apps]; rfl) (by first | (simp; done) | omega | (simp; omega))) ?_); simp only [St.put]; (refine WpL.op rfl (guardA_sound (P := Tryz.prog) rfl) (aop_sound (by simp only [zb, seval, w40, kcc, apps]; rfl) (by first | (simp; done) | omega | (simp; omega))) ?_); simp only [St.put]; (refine WpL.op rfl (guardA_sound (P := Tryz.prog) rfl) (aop_sound (by simp only [zb, seval, w40, kcc, apps]; rfl) (by first | (simp; done) | omega | (simp; omega))) ?_); simp only [St.put]
      obtain ⟨S8, j, hA8, hj8, hl8, hfr8, hpl8, hop8⟩ := append_op (P := Tryz.prog) (T := 29) (by_ := 176) elt_29 byt_29 zel_29 (by omega) (S := S ++ [some ⟨28, 6, [l[i].cc]⟩, some ⟨31, 11, [(E l[i]).1.cc]⟩, some ⟨31, 11, [(E l[i]).1.cc]⟩]) (hA.app _) (q := S.length + 2) (new := [(E l[i]).1.cc]) (get_app2 _ _ _ _ _) (by simp) (fun n e => by have := hA.lt e; omega) (by simp; omega) (by simp; omega)
      simp only [List.length_cons, List.length_nil, Nat.zero_add] at hop8 hA8
      refine WpL.aop rfl (hop8 _ _ _ rfl rfl) ?_
      simp only [St.put]
      have hs : max (supN ((l.take i).map fun d => (E d).2)) (E l[i]).2 = supN ((l.take (i + 1)).map fun d => (E d).2) := by rw [map_take_succ _ hlt, supN_app]
      (refine WpL.go _ rfl fun Y y => ?_); repeat (first | (apply fw; (with_reducible constructor) <;> rfl) | (apply WpA.cd; constructor) | ((first | with_reducible refine WpA.go _ rfl fun Y y => ?_ | apply RunTo.id); simp only [zb, seval, w40, hw2, hs]; refine fz y ?_; clear y Y))
      have hpl : cO = .ms j (((l.take i).map fun d => (E d).1).map K.cc).length ∨ S.length ≤ j := hpl8.imp id fun q => by rw [List.length_append] at q; omega
      refine ⟨l.length - (i + 1), _, by omega, Le.sub (by simp [Sub, find]), i + 1, S8, .ms j ((((l.take i).map fun d => (E d).1).map K.cc).length + 1), rfl, hlt, ?_, hfr8 1 _ (up_app hbox) hne0, fun m e => ?_, rfl⟩
      ·rw [map_take_succ _ hlt, List.map_append]; exact hA8
      ·have := (C.ms.inj e).1
       rcases hpl with q | q
       ·exact hne0 _ (this ▸ q)
       ·omega
     ·have hd0 : decide ((i : Int) < (l.length : Int)) = false := by simp; omega
      have hii : i = l.length := by omega
      subst hii
      rw [List.take_length] at hA ⊢
      have hsq := seq_pure (l.map fun d => (E d).1)
      repeat (first | (apply fw; (with_reducible constructor) <;> rfl) | (apply WpA.cd; constructor))
      ((with_reducible refine WpA.go _ rfl fun Y y => ?_); simp only [zb, seval, w40, hd0]; (refine RunTo.fn y (by first | (simp; done) | omega | (simp; omega)) ?_); clear y Y); repeat (first | (apply fw; (with_reducible constructor) <;> rfl) | (apply WpA.cd; constructor))
      refine WpA.frzAt 11 hA.au (k_shut _) rfl fun S1 hl1 ho1 => ?_
      have h01 := ho1 1 _ hbox hne0
      have hS3 := (List.getElem?_eq_some_iff.1 h01).1
      have hset0 : ∀ (a : Option Ob), (S1.set 1 a)[1]? = some a := fun a => List.getElem?_set_self hS3
      repeat (first | (apply fw; (with_reducible constructor) <;> rfl) | (apply WpA.cd; constructor) | ((first | with_reducible refine WpA.go _ rfl fun Y y => ?_ | apply RunTo.id); simp only [zb, seval, w40, kcc]; refine fz y ?_; clear y Y))
      refine cz (hsq) ?_
      (refine WpL.go _ rfl fun Y y => ?_); repeat (first | (apply fw; (with_reducible constructor) <;> rfl) | (apply WpA.cd; constructor) | ((first | with_reducible refine WpA.go _ rfl fun Y y => ?_ | apply RunTo.id); simp only [zb, seval, w40, kcc, h01]; refine fz y ?_; clear y Y))
      refine ye (by simp only [zb, seval, w40, kcc, hset0]; rfl) (by simp only [zv, kcc, hset0]; rfl) ?_
      rfl
def errI : Nat → Int
 | 0 => 0
 | 1 => 6
 | _ => 8
noncomputable def oneE (d : D) : K × Int := if mayB d = true then (if (topE d).2 = 0 then (topE d).1 else kz, errI (topE d).2) else (kz, 1)
def onA (r : K × Int) : A := .tup [.agg r.1.cc, .one (.v (.int .i64 r.2))]
theorem mayB_gd {d : D} (hok : d.Ok) (h : mayB d = true) : Gd (d.msr + 1) d := by
 have h1 : plainB d = true := (Bool.and_eq_true_iff.1 h).1
 exact ⟨(plainB_iff.1 h1).two, hok, Nat.lt_succ_self _⟩
theorem topE_pure (d : D) (hg : Gd (d.msr + 1) d) (hm : d.msr + 1 ≤ 100000000) : Pure Tryz.prog 40 [.agg d.cc] (rsA (topE d)) ∧ (topE d).2 ≤ 2 :=
 ⟨top_pure (evs_HE _ hm) _ d (Nat.lt_succ_self _) hg, topN_le (evs_HE _ hm) _ d⟩
theorem one_fn (d : D) (hok : d.Ok) (hc : d.count < 1000000000) (hm : d.msr + 1 ≤ 100000000) : Pure Tryz.prog 17 [.agg d.cc] (onA (oneE d)) := by
 have hmy := dmay_pure d hok hc
 cases hb : mayB d with
 | false =>
  rw [hb] at hmy
  rw [show oneE d = (kz, 1) by unfold oneE; rw [hb]; rfl]
  simp only [onA]
  refine fi Tryz.func17 Tryz.ntmps17 Tryz.results17 ?_
  repeat (first | (apply fw; (with_reducible constructor) <;> rfl) | (apply WpA.cd; constructor) | ((first | with_reducible refine WpA.go _ rfl fun Y y => ?_ | apply RunTo.id); simp only [zb, seval, w17, kcc]; refine fz y ?_; clear y Y))
  refine cz (hmy) ?_
  (refine WpL.go _ rfl fun Y y => ?_); repeat (first | (apply fw; (with_reducible constructor) <;> rfl) | (apply WpA.cd; constructor) | ((first | with_reducible refine WpA.go _ rfl fun Y y => ?_ | apply RunTo.id); simp only [zb, seval, w17, kcc]; refine fz y ?_; clear y Y))
  refine ⟨by simp, _, _, _, _, (by simp only [zb, seval, w17, kcc]; rfl), (by simp), (by simp only [zv, kcc]; rfl), (by simp [ksh]), _, (by simp only [rcc]; exact ae), rfl⟩
 | true =>
  obtain ⟨ht, hle⟩ := topE_pure d (mayB_gd hok hb) hm
  have his : Pure Tryz.prog 41 [.one (.er (topE d).2), .one (.gv 0)] (.one (.v (.bool (decide ((topE d).2 = 1))))) := is_pure (topE d).2 0 hle (by omega)
  rw [hb] at hmy
  rw [show oneE d = (if (topE d).2 = 0 then (topE d).1 else kz, errI (topE d).2) by unfold oneE; rw [hb]; rfl]
  simp only [rsA] at ht
  simp only [onA]
  generalize topE d = x at *
  obtain ⟨k, n⟩ := x
  dsimp only at *
  have hn : n = 0 ∨ n = 1 ∨ n = 2 := by omega
  rcases hn with rfl | rfl | rfl
  ·rw [if_pos rfl]
   refine fi Tryz.func17 Tryz.ntmps17 Tryz.results17 ?_
   repeat (first | (apply fw; (with_reducible constructor) <;> rfl) | (apply WpA.cd; constructor) | ((first | with_reducible refine WpA.go _ rfl fun Y y => ?_ | apply RunTo.id); simp only [zb, seval, w17, kcc]; refine fz y ?_; clear y Y))
   refine cz (hmy) ?_
   (refine WpL.go _ rfl fun Y y => ?_); repeat (first | (apply fw; (with_reducible constructor) <;> rfl) | (apply WpA.cd; constructor) | ((first | with_reducible refine WpA.go _ rfl fun Y y => ?_ | apply RunTo.id); simp only [zb, seval, w17, kcc]; refine fz y ?_; clear y Y))
   refine cz (ht) ?_
   (refine WpL.go _ rfl fun Y y => ?_); repeat (first | (apply fw; (with_reducible constructor) <;> rfl) | (apply WpA.cd; constructor) | ((first | with_reducible refine WpA.go _ rfl fun Y y => ?_ | apply RunTo.id); simp only [zb, seval, w17, kcc]; refine fz y ?_; clear y Y))
   refine ye (by simp only [zb, seval, w17, kcc]; rfl) (by simp only [zv, kcc]; rfl) ?_
   rfl
  all_goals
   rw [if_neg (by decide)]
   refine fi Tryz.func17 Tryz.ntmps17 Tryz.results17 ?_
   repeat (first | (apply fw; (with_reducible constructor) <;> rfl) | (apply WpA.cd; constructor) | ((first | with_reducible refine WpA.go _ rfl fun Y y => ?_ | apply RunTo.id); simp only [zb, seval, w17, kcc]; refine fz y ?_; clear y Y))
   refine cz (hmy) ?_
   (refine WpL.go _ rfl fun Y y => ?_); repeat (first | (apply fw; (with_reducible constructor) <;> rfl) | (apply WpA.cd; constructor) | ((first | with_reducible refine WpA.go _ rfl fun Y y => ?_ | apply RunTo.id); simp only [zb, seval, w17, kcc]; refine fz y ?_; clear y Y))
   refine cz (ht) ?_
   (refine WpL.go _ rfl fun Y y => ?_); repeat (first | (apply fw; (with_reducible constructor) <;> rfl) | (apply WpA.cd; constructor) | ((first | with_reducible refine WpA.go _ rfl fun Y y => ?_ | apply RunTo.id); simp only [zb, seval, w17, kcc]; refine fz y ?_; clear y Y))
   refine cz (his) ?_
   (refine WpL.go _ rfl fun Y y => ?_); repeat (first | (apply fw; (with_reducible constructor) <;> rfl) | (apply WpA.cd; constructor) | ((first | with_reducible refine WpA.go _ rfl fun Y y => ?_ | apply RunTo.id); simp only [zb, seval, w17, kcc]; refine fz y ?_; clear y Y))
   refine ⟨by simp, _, _, _, _, (by simp only [zb, seval, w17, kcc]; rfl), (by simp), (by simp only [zv, kcc]; rfl), (by simp [ksh]), _, (by simp only [rcc]; exact ae), rfl⟩
theorem D.cc_bd (k : Nat) (d : D) : ∀ c ∈ d.cc, C.bd k c = true := by rw [D.cc_eq]; simp [C.bd]
def D.co (d : D) : List C := [.v (.int .i64 d.k), .v (.int .i32 d.c), .v (.bool d.neg), .sl 1 (d.mag.map fun n => [.v (.int .u32 n)]), .v (.string d.t), .sl 6 (d.l.map D.cc)]
def RLI (l : List D) (n : Nat) (st : St) : Prop := n ≤ l.length ∧
 st = ⟨[(4, .one (.v (.int .i64 ((n : Int) - 1)))), (0, .one (.sl 6 (l.map D.cc))), (3, .one (.ptr 1 1 0 0)), (2, .one (.ptr 0 1 0 0))],
  [some ⟨28, 6, [[.v (.int .i64 0), .v (.int .i32 0), .v (.bool false), .v (.slice none 0 0), .v (.string ⟨#[]⟩), .v (.slice none 0 0)]]⟩, some ⟨28, 6, [[.v (.int .i64 (dList (l.drop n)).k), .v (.int .i32 (dList (l.drop n)).c), .v (.bool (dList (l.drop n)).neg), .sl 1 ((dList (l.drop n)).mag.map fun n => [.v (.int .u32 n)]), .v (.string (dList (l.drop n)).t), .sl 6 ((dList (l.drop n)).l.map D.cc)]]⟩]⟩
theorem rlist_pure (l : List D) (hlen : l.length ≤ 1000000) : Pure Tryz.prog 44 [.one (.sl 6 (l.map D.cc))] (.agg (dList l).cc) := by
 have hw0 : IntKind.i64.wrap ((l.length : Int) - 1) = (l.length : Int) - 1 := wrap64 (by omega) (by omega)
 rw [D.cc_eq (dList l)]
 refine fi Tryz.func44 Tryz.ntmps44 Tryz.results44 ?_
 repeat (first | (apply fw; (with_reducible constructor) <;> rfl) | (apply WpA.cd; constructor) | ((first | with_reducible refine WpA.go _ rfl fun Y y => ?_ | apply RunTo.id); simp only [zb, seval, w44, hw0]; refine fz y ?_; clear y Y))
 refine WpA.loop (RLI l) l.length ?_ ⟨Nat.le_refl _, rfl⟩ ?_
 ·refine Le.freeze (fun _ => false) ⟨rfl, by simp, fun j b hb => ?_⟩ (by simp [SubZ, find, FzA, FzC])
  match j, hb with
  | 0, hb => exact ⟨rfl, b, hb, rfl, rfl, FzR.same _ _ _⟩
  | 1, hb =>
   simp [dList, dNil] at hb
   subst hb
   exact ⟨rfl, _, rfl, rfl, rfl, ⟨.inl rfl, .inl rfl, .inl rfl, FzC.nil, .inl rfl, FzC.nil, trivial⟩, trivial⟩
  | j + 2, hb => simp at hb
 intro n st hI
 obtain ⟨hn, rfl⟩ := hI
 rcases n with _ | n
 ·have hz : ((0 : Nat) : Int) - 1 = -1 := rfl
  rw [hz]
  have hf : decide ((0 : Int) ≤ -1) = false := rfl
  repeat (first | (apply fw; (with_reducible constructor) <;> rfl) | (apply WpA.cd; constructor) | ((first | with_reducible refine WpA.go _ rfl fun Y y => ?_ | apply RunTo.id); simp only [zb, seval, w44, hf]; refine fz y ?_; clear y Y))
  repeat (first | (apply fw; (with_reducible constructor) <;> rfl) | (apply WpA.cd; constructor) | ((first | with_reducible refine WpA.go _ rfl fun Y y => ?_ | apply RunTo.id); simp only [zb, seval, w44, hf]; refine fz y ?_; clear y Y))
  refine ye (by simp only [zb, seval, w44]; rfl) (by simp only [zv]; rfl) ?_
  rfl
 have hge : ((n + 1 : Nat) : Int) - 1 = (n : Int) := by omega
 have hw2 : IntKind.i64.wrap ((n : Int) - 1) = (n : Int) - 1 := wrap64 (by omega) (by omega)
 have hlt : n < l.length := by omega
 have hget := getC hlt
 rw [D.cc_eq] at hget
 have hg0 : decide ((n : Int) ≥ 0) = true := by simp
 have hg1 : decide (0 ≤ (n : Int)) = true := by simp
 rw [hge]
 repeat (first | (apply fw; (with_reducible constructor) <;> rfl) | (apply WpA.cd; constructor) | ((first | with_reducible refine WpA.go _ rfl fun Y y => ?_ | apply RunTo.id); simp only [zb, seval, w44, hg0, hg1]; refine fz y ?_; clear y Y))
 (refine WpA.draw1 7 [5] ([some ⟨28, 6, [[.v (.int .i64 0), .v (.int .i32 0), .v (.bool false), .v (.slice none 0 0), .v (.string ⟨#[]⟩), .v (.slice none 0 0)]]⟩, some ⟨28, 6, [[.v (.int .i64 (dList (l.drop (n + 1))).k), .v (.int .i32 (dList (l.drop (n + 1))).c), .v (.bool (dList (l.drop (n + 1))).neg), .sl 1 ((dList (l.drop (n + 1))).mag.map fun n => [.v (.int .u32 n)]), .v (.string (dList (l.drop (n + 1))).t), .sl 6 ((dList (l.drop (n + 1))).l.map D.cc)]]⟩]) [_, ?_] _ _ _ _ rfl rfl rfl (by kernel_rfl) (by kernel_rfl) (by kernel_rfl) (by kernel_rfl) rfl rfl rfl rfl (by decide) fun K8 hK8 => ?_); rotate_left 1; simp only [zz] at hK8 ⊢; (refine Draw1.go fun K7 k => ?_); simp only [zb, seval, w44, hget]; (refine qz (k _ _ (by rfl) ?_)); clear k K7; (simp only [zz, Nat.reduceAdd, Nat.reduceSub]); (try ((refine nz (hK8 _ ?_)); clear hK8 K8; (refine WpL.go _ rfl fun Y y => ?_); repeat (first | (apply fw; (with_reducible constructor) <;> rfl) | (apply WpA.cd; constructor) | ((first | with_reducible refine WpA.go _ rfl fun Y y => ?_ | apply RunTo.id); simp only [zb, seval, w44, hget]; refine fz y ?_; clear y Y))))
 refine Draw1.eff 0 rfl rfl rfl (OpS.eff [(16, _), (17, _)] rfl (by rfl) ⟨rfl, rfl, trivial⟩ (by simp only [zb, seval, w44, hw2]; rfl) (by first | (simp; done) | omega | (simp; omega))) ?_; (try simp only [putE]); (try ((refine Draw1.go fun K7 k => ?_); simp only [zb, seval, w44, hw2]; (refine qz (k _ _ (by rfl) ?_)); clear k K7; (simp only [zz, Nat.reduceAdd, Nat.reduceSub]); (try ((refine nz (hK8 _ ?_)); clear hK8 K8; (refine WpL.go _ rfl fun Y y => ?_); repeat (first | (apply fw; (with_reducible constructor) <;> rfl) | (apply WpA.cd; constructor) | ((first | with_reducible refine WpA.go _ rfl fun Y y => ?_ | apply RunTo.id); simp only [zb, seval, w44, hw2]; refine fz y ?_; clear y Y))))))
 refine ⟨n, _, by omega, ?_, by omega, rfl⟩
 have hdl : dList (l.drop n) = .mk 7 0 false [] ⟨#[]⟩ [l[n], dList (l.drop (n + 1))] := by rw [List.drop_eq_getElem_cons hlt]; rfl
 refine Le.trans (Le.freeze (S' := [some ⟨28, 6, [[.v (.int .i64 0), .v (.int .i32 0), .v (.bool false), .v (.slice none 0 0), .v (.string ⟨#[]⟩), .v (.slice none 0 0)]]⟩, some ⟨28, 6, [D.co (dList (l.drop n))]⟩, none]) (e' := [(4, .one (.v (.int .i64 ((n : Int) - 1)))), (0, .one (.sl 6 (l.map D.cc))), (3, .one (.ptr 1 1 0 0)), (2, .one (.ptr 0 1 0 0))]) (fun i => i == 2) ⟨rfl, fun j ob hj ho => ?_, fun j b hb => ?_⟩ (by simp [SubZ, find, FzA, FzC])) (Le.drop 2 (Nat.zero_le _) rfl (by simp [Sub, find]) rfl (by simp [ObBd, C.bd]))
 ·obtain rfl : j = 2 := by simpa using hj
  simp at ho
  subst ho
  simp [C.shut]
 ·match j, hb with
  | 0, hb => exact ⟨rfl, b, hb, rfl, rfl, FzR.same _ _ _⟩
  | 1, hb =>
   simp at hb
   subst hb
   refine ⟨rfl, _, rfl, rfl, rfl, ?_, trivial⟩
   rw [hdl]
   refine ⟨.inl rfl, .inl rfl, .inl rfl, FzC.nil, .inl rfl, ?_, trivial⟩
   simp only [D.l, List.map_cons, List.map_nil]
   rw [D.cc_eq l[n], D.cc_eq (dList (l.drop (n + 1)))]
   exact FzC.ms rfl rfl rfl
  | 2, hb => simp at hb
  | j + 3, hb => simp at hb
theorem dcc : (∀ (d : D) (r : List C), List.take 6 (d.cc ++ r) = d.cc) ∧ (∀ (d : D) (r : List C), List.drop 6 (d.cc ++ r) = r) ∧ (∀ (d : D) (r : List C), List.take 12 (d.cc ++ r) = d.cc ++ List.take 6 r) ∧ (∀ (d : D) (r : List C), List.drop 12 (d.cc ++ r) = List.drop 6 r) ∧ (∀ (d : D) (r : List C), List.take 18 (d.cc ++ r) = d.cc ++ List.take 12 r) ∧ (∀ (d : D) (r : List C), List.drop 18 (d.cc ++ r) = List.drop 12 r) ∧ (∀ (d : D) (r : List C), List.take 24 (d.cc ++ r) = d.cc ++ List.take 18 r) ∧ (∀ (d : D) (r : List C), List.drop 24 (d.cc ++ r) = List.drop 18 r) ∧ (∀ (d : D) (r : List C), (d.cc ++ r).length = r.length + 6) := by
 have h : ∀ d : D, d.cc.length = 6 := D.cc_len
 refine ⟨?_, ?_, ?_, ?_, ?_, ?_, ?_, ?_, fun d r => by rw [List.length_append, h]; omega⟩ <;> intro d r <;> first | rw [List.take_append, h, List.take_of_length_le (by rw [h]; omega)] | rw [List.drop_append, h, List.drop_of_length_le (by rw [h]; omega)]
 all_goals simp
theorem lsym_pure (s : ByteArray) : Pure Tryz.prog 21 [.one (.v (.string s))] (.agg (dSym s).cc) := by
 rw [D.cc_eq]
 refine fi Tryz.func21 Tryz.ntmps21 Tryz.results21 ?_
 repeat (first | (apply fw; (with_reducible constructor) <;> rfl) | (apply WpA.cd; constructor) | ((first | with_reducible refine WpA.go _ rfl fun Y y => ?_ | apply RunTo.id); simp only [zb, seval, w21]; refine fz y ?_; clear y Y))
 refine ⟨by simp, _, _, _, _, (by simp only [zb, seval, w21]; rfl), (by simp), (by simp only [zv]; rfl), (by simp [ksh]), _, (by exact ae), rfl⟩
theorem llist_pure (l : List D) (hlen : l.length ≤ 1000000) : Pure Tryz.prog 23 [.one (.sl 6 (l.map D.cc))] (.agg (dList l).cc) := by
 have h := rlist_pure l hlen
 refine fi Tryz.func23 Tryz.ntmps23 Tryz.results23 ?_
 repeat (first | (apply fw; (with_reducible constructor) <;> rfl) | (apply WpA.cd; constructor) | ((first | with_reducible refine WpA.go _ rfl fun Y y => ?_ | apply RunTo.id); simp only [zb, seval, w23, kcc, dcc]; refine fz y ?_; clear y Y))
 refine cz (h) ?_
 (refine WpL.go _ rfl fun Y y => ?_); repeat (first | (apply fw; (with_reducible constructor) <;> rfl) | (apply WpA.cd; constructor) | ((first | with_reducible refine WpA.go _ rfl fun Y y => ?_ | apply RunTo.id); simp only [zb, seval, w23, kcc, dcc]; refine fz y ?_; clear y Y))
 refine ye (by simp only [zb, seval, w23, kcc, dcc]; rfl) (by simp only [zv, kcc, dcc]; rfl) ?_
 rfl
def sa : ByteArray := ⟨#[97]⟩
def one1 : D := kindD 1
def dA1 : D := dList [dSym sLet, dList [dList [dSym sa, one1]], dSym sa]
def dA2 : D := dList [dList [dSym sLambda, dList [dSym sa], dSym sa], one1]
def dA3 : D := dList [dSym sElse]
def kA : K := callK [.mk 6 e0 e0 [sa] dNil [refK sa], constK one1]
theorem sa_key : keyB sa = false := keyF (by simp only [keyL, List.mem_cons, List.not_mem_nil, or_false]; decide)
theorem bod_sa (ev : Ev) (h : ev.e (dSym sa) = (refK sa, 0)) : bodE ev [dSym sa] = (refK sa, 0) := by
 rw [bodE_flat ev (by simp) (fun d hd => by simp at hd; subst hd; exact ⟨headO_k (by decide) _, headO_k (by decide) _⟩), seqE_one, h]
theorem sym_ok' (s : ByteArray) (h : s.size ≤ 1000) : (dSym s).Ok := sym_ok (by omega)
theorem dA1_ok : dA1.Ok := ok_dList ⟨sym_ok' _ (by decide), ok_dList ⟨ok_dList ⟨sym_ok' _ (by decide), kind_ok (by decide), trivial⟩, trivial⟩, sym_ok' _ (by decide), trivial⟩
theorem dA2_ok : dA2.Ok := ok_dList ⟨ok_dList ⟨sym_ok' _ (by decide), ok_dList ⟨sym_ok' _ (by decide), trivial⟩, sym_ok' _ (by decide), trivial⟩, kind_ok (by decide), trivial⟩
theorem dA3_ok : dA3.Ok := ok_dList ⟨sym_ok' _ (by decide), trivial⟩
theorem txt_a : txtOk sa 1 = true := by decide
theorem txt_let : txtOk sLet 1 = true := by decide
theorem txt_lambda : txtOk sLambda 1 = true := by decide
theorem txt_else : txtOk sElse 1 = true := by decide
theorem dA1_may : mayB dA1 = true := mayB_iff.2 ⟨plain_dList.2 ⟨(sym_plain _).2 txt_let, plain_dList.2 ⟨plain_dList.2 ⟨(sym_plain _).2 txt_a, plain_kind (.inl rfl), trivial⟩, trivial⟩, (sym_plain _).2 txt_a, trivial⟩, by
 simp [dA1, depth_dList, supD, depth_sym, one1, depth_kind]⟩
theorem dA2_may : mayB dA2 = true := mayB_iff.2 ⟨plain_dList.2 ⟨plain_dList.2 ⟨(sym_plain _).2 txt_lambda, plain_dList.2 ⟨(sym_plain _).2 txt_a, trivial⟩, (sym_plain _).2 txt_a, trivial⟩, plain_kind (.inl rfl), trivial⟩, by
 simp [dA2, depth_dList, supD, depth_sym, one1, depth_kind]⟩
theorem dA3_may : mayB dA3 = true := mayB_iff.2 ⟨plain_dList.2 ⟨(sym_plain _).2 txt_else, trivial⟩, by
 simp [dA3, depth_dList, supD, depth_sym]⟩
theorem evs_step {n : Nat} (h : 2 ≤ n) : ∃ m, n = m + 2 := ⟨n - 2, by omega⟩
theorem a_bod (n : Nat) : (evs (n + 1)).b [dSym sa] = (refK sa, 0) := by
 rw [evs]; dsimp only; exact bod_sa ⟨exprE (evs n), (evs n).b, (evs n).q⟩ (exprE_sym (evs n) sa_key)
theorem a_one (n : Nat) : (evs (n + 1)).e one1 = (constK one1, 0) := by rw [evs]; dsimp only; exact exprE_kind _ (.inl rfl)
theorem a_app (n : Nat) : callE ((lamE [sa] e0 (refK sa)).1 :: (eachE (evs (n + 2)).e [one1]).1) = (kA, 0) := by
 rw [lamE_small [sa] (by decide), callE_small (by simp [eachE])]
 simp only [eachE, List.map_cons, List.map_nil, a_one]
 rfl
theorem dA1_one : oneE dA1 = (kA, 0) := by
 unfold oneE
 have h : topE dA1 = (kA, 0) := by
  have h1 : symB (dSym sLet) sDefine = false := by rw [symB_sym]; exact eqB_neg (by decide)
  have h2 : symB (dSym sLet) sBegin = false := by rw [symB_sym]; exact eqB_neg (by decide)
  rw [topE_expr (by unfold dA1; rw [headO_list, h1]; rfl) (by unfold dA1; rw [headO_list, h2]; rfl)]
  obtain ⟨n, hn⟩ := evs_step (n := dA1.msr) (by simp [dA1, msr_dList, msrs, msr_sym]; omega)
  rw [hn, dA1, exprE_form _ (by simp [keyL]), formE_let]
  show ((applyE _ _ _ _).1, max (max (max _ _) _) _) = _
  rw [bindE_one sa_key, a_bod]
  unfold applyE
  dsimp only
  rw [a_app, lamE_small [sa] (by decide), unl_one]
  simp only [eachE, List.map_cons, List.map_nil, a_one]
  rfl
 rw [dA1_may, if_pos rfl, h]; rfl
theorem dA2_one : oneE dA2 = (kA, 0) := by
 unfold oneE
 have h : topE dA2 = (kA, 0) := by
  rw [topE_expr (by unfold dA2; rw [headO_list, symB_k (by decide)]; rfl) (by unfold dA2; rw [headO_list, symB_k (by decide)]; rfl)]
  obtain ⟨n, hn⟩ := evs_step (n := dA2.msr) (by simp [dA2, msr_dList, msrs, msr_sym]; omega)
  have hl : (evs (n + 2)).e (dList [dSym sLambda, dList [dSym sa], dSym sa]) = (.mk 6 e0 e0 [sa] dNil [refK sa], 0) := by
   rw [evs]
   dsimp only
   rw [exprE_form _ (by simp [keyL]), formE_lambda]
   unfold functionE
   rw [formalsE_one sa_key, a_bod]
   dsimp only
   rw [lamE_small [sa] (by decide)]
   rfl
  rw [hn, dA2, exprE_call _ (.inl (by decide))]
  simp only [eachE, List.map_cons, List.map_nil, hl, a_one]
  rw [callE_small (by simp)]
  rfl
 rw [dA2_may, if_pos rfl, h]; rfl
theorem dA3_one : oneE dA3 = (kz, 8) := by
 unfold oneE
 have h : topE dA3 = (kz, 2) := by
  have h1 : symB (dSym sElse) sDefine = false := by rw [symB_sym]; exact eqB_neg (by decide)
  have h2 : symB (dSym sElse) sBegin = false := by rw [symB_sym]; exact eqB_neg (by decide)
  rw [topE_expr (by unfold dA3; rw [headO_list, h1]; rfl) (by unfold dA3; rw [headO_list, h2]; rfl), dA3, exprE_form _ (by simp [keyL]), formE_else]
 rw [dA3_may, if_pos rfl, h]; rfl
theorem kA_ok : kA.Ok := by
 simp [kA, callK, one1, kindD, constK, refK, K.Ok, K.Oks, D.Ok, Oks, e0, sa, ByteArray.size, dNil]
theorem one1_cc : one1.cc = [.v (.int .i64 1), .v (.int .i32 0), .v (.bool false), .sl 1 [], .v (.string ⟨#[]⟩), .sl 6 []] := rcc.2.2.2.2.2.2.2.2.2.2.2.1 1
theorem awake_pure : Pure Tryz.prog 11 [] (.one (.v (.bool true))) := by
 have s1 := lsym_pure sLet
 have s2 := lsym_pure sa
 have s3 := lsym_pure sLambda
 have s4 := lsym_pure sElse
 have l1 := llist_pure [dSym sa, one1] (by decide)
 have l2 := llist_pure [dList [dSym sa, one1]] (by simp)
 have l3 := llist_pure [dSym sLet, dList [dList [dSym sa, one1]], dSym sa] (by simp)
 have l4 := llist_pure [dSym sa] (by simp)
 have l5 := llist_pure [dSym sLambda, dList [dSym sa], dSym sa] (by simp)
 have l6 := llist_pure [dList [dSym sLambda, dList [dSym sa], dSym sa], one1] (by simp)
 have l7 := llist_pure [dSym sElse] (by simp)
 have o1 := one_fn dA1 dA1_ok (by simp [dA1, count_dList, cnts, count_sym, one1, count_kind]) (by simp [dA1, msr_dList, msrs, msr_sym, one1, msr_kind])
 have o2 := one_fn dA2 dA2_ok (by simp [dA2, count_dList, cnts, count_sym, one1, count_kind]) (by simp [dA2, msr_dList, msrs, msr_sym, one1, msr_kind])
 have o3 := one_fn dA3 dA3_ok (by simp [dA3, count_dList, cnts, count_sym]) (by simp [dA3, msr_dList, msrs, msr_sym])
 have hs := esame_pure kA kA kA_ok
 have hk1 := key_pure sLet
 have hk2 := key_pure ⟨#[99, 97, 114]⟩
 rw [show keyB sLet = true from keyT (by simp [keyL])] at hk1
 rw [show keyB ⟨#[99, 97, 114]⟩ = false from keyF (by simp only [keyL, List.mem_cons, List.not_mem_nil, or_false]; decide)] at hk2
 rw [eqB_pos rfl] at hs
 rw [dA1_one] at o1
 rw [dA2_one] at o2
 rw [dA3_one] at o3
 simp only [onA, dA1, dA2, dA3] at o1 o2 o3
 simp only [List.map_cons, List.map_nil] at l1 l2 l3 l4 l5 l6 l7
 refine fi Tryz.func11 Tryz.ntmps11 Tryz.results11 ?_
 repeat (first | (apply fw; (with_reducible constructor) <;> rfl) | (apply WpA.cd; constructor) | ((first | with_reducible refine WpA.go _ rfl fun Y y => ?_ | apply RunTo.id); simp only [zb, seval, w11, kcc, dcc]; refine fz y ?_; clear y Y))
 refine WpA.le (st' := ⟨[(1, .one (.ptr 0 1 0 0)), (0, .one (.v (.bool false)))], [some ⟨28, 6, [one1.cc]⟩]⟩) (Le.freeze (fun _ => false) (Frz.ofL ?_) ?_) ?_
 ·rw [one1_cc]
  simp only [FrzL, FzR, FzCs]
  repeat' first | exact FzC.same _ _ _ | exact FzC.nil | exact rfl | exact trivial | refine And.intro ?_ ?_ | (intro hz; exact absurd hz (by decide))
 ·simp only [SubZ]; exact ⟨⟨_, rfl, FzA.same _ _ _⟩, ⟨_, rfl, FzA.same _ _ _⟩, trivial⟩
 (refine WpA.draw1c 16 [14, 15] [_, ?_, ?_] _ _ _ _ rfl rfl rfl (by kernel_rfl) (by kernel_rfl) (by kernel_rfl) (by kernel_rfl) rfl rfl rfl rfl (by decide) fun K8 hK8 => ?_); rotate_left 2; simp only [zz] at hK8 ⊢; (refine Draw1.go fun K7 k => ?_); simp only [zb, seval, w11, kcc, dcc]; (refine qz (k _ _ (by rfl) ?_)); clear k K7; (simp only [zz, Nat.reduceAdd, Nat.reduceSub]); (try ((refine nz (hK8 _ ?_)); clear hK8 K8; (refine WpL.go _ rfl fun Y y => ?_); repeat (first | (apply fw; (with_reducible constructor) <;> rfl) | (apply WpA.cd; constructor) | ((first | with_reducible refine WpA.go _ rfl fun Y y => ?_ | apply RunTo.id); simp only [zb, seval, w11, kcc, dcc]; refine fz y ?_; clear y Y))))
 refine Draw1.step (by rfl) (fun s9 _ => oz (s1)) ?_
 (refine Draw1.go fun K7 k => ?_); simp only [zb, seval, w11, kcc, dcc]; (refine qz (k _ _ (by rfl) ?_)); clear k K7; (simp only [zz, Nat.reduceAdd, Nat.reduceSub]); (try ((refine nz (hK8 _ ?_)); clear hK8 K8; (refine WpL.go _ rfl fun Y y => ?_); repeat (first | (apply fw; (with_reducible constructor) <;> rfl) | (apply WpA.cd; constructor) | ((first | with_reducible refine WpA.go _ rfl fun Y y => ?_ | apply RunTo.id); simp only [zb, seval, w11, kcc, dcc]; refine fz y ?_; clear y Y))))
 refine Draw1.step (by rfl) (fun s9 _ => oz (s2)) ?_
 (refine Draw1.go fun K7 k => ?_); simp only [zb, seval, w11, kcc, dcc]; (refine qz (k _ _ (by rfl) ?_)); clear k K7; (simp only [zz, Nat.reduceAdd, Nat.reduceSub]); (try ((refine nz (hK8 _ ?_)); clear hK8 K8; (refine WpL.go _ rfl fun Y y => ?_); repeat (first | (apply fw; (with_reducible constructor) <;> rfl) | (apply WpA.cd; constructor) | ((first | with_reducible refine WpA.go _ rfl fun Y y => ?_ | apply RunTo.id); simp only [zb, seval, w11, kcc, dcc]; refine fz y ?_; clear y Y))))
 refine Draw1.step (by rfl) (fun s9 _ => OpS.frozen (n := 2) (wd := 6) (ty := 28) (rows := [(dSym sa).cc, one1.cc]) (OpS.eff [(11, _), (12, _)] rfl (by rfl) ⟨rfl, rfl, trivial⟩ (by simp only [zb, seval, w11, kcc, dcc]; rfl) (by simp)) rfl (by simp [ksh])) ?_; simp only [putE]
 refine Draw1.step (by rfl) (fun s9 _ => oz (l1)) ?_
 (refine Draw1.go fun K7 k => ?_); simp only [zb, seval, w11, kcc, dcc]; (refine qz (k _ _ (by rfl) ?_)); clear k K7; (simp only [zz, Nat.reduceAdd, Nat.reduceSub]); (try ((refine nz (hK8 _ ?_)); clear hK8 K8; (refine WpL.go _ rfl fun Y y => ?_); repeat (first | (apply fw; (with_reducible constructor) <;> rfl) | (apply WpA.cd; constructor) | ((first | with_reducible refine WpA.go _ rfl fun Y y => ?_ | apply RunTo.id); simp only [zb, seval, w11, kcc, dcc]; refine fz y ?_; clear y Y))))
 refine Draw1.step (by rfl) (fun s9 _ => OpS.frozen (n := 1) (wd := 6) (ty := 28) (rows := [(dList [dSym sa, one1]).cc]) (OpS.eff [(14, _)] rfl (by rfl) ⟨rfl, trivial⟩ (by simp only [zb, seval, w11, kcc, dcc]; rfl) (by simp)) rfl (by simp [ksh])) ?_; simp only [putE]
 refine Draw1.step (by rfl) (fun s9 _ => oz (l2)) ?_
 (refine Draw1.go fun K7 k => ?_); simp only [zb, seval, w11, kcc, dcc]; (refine qz (k _ _ (by rfl) ?_)); clear k K7; (simp only [zz, Nat.reduceAdd, Nat.reduceSub]); (try ((refine nz (hK8 _ ?_)); clear hK8 K8; (refine WpL.go _ rfl fun Y y => ?_); repeat (first | (apply fw; (with_reducible constructor) <;> rfl) | (apply WpA.cd; constructor) | ((first | with_reducible refine WpA.go _ rfl fun Y y => ?_ | apply RunTo.id); simp only [zb, seval, w11, kcc, dcc]; refine fz y ?_; clear y Y))))
 refine Draw1.step (by rfl) (fun s9 _ => oz (s2)) ?_
 (refine Draw1.go fun K7 k => ?_); simp only [zb, seval, w11, kcc, dcc]; (refine qz (k _ _ (by rfl) ?_)); clear k K7; (simp only [zz, Nat.reduceAdd, Nat.reduceSub]); (try ((refine nz (hK8 _ ?_)); clear hK8 K8; (refine WpL.go _ rfl fun Y y => ?_); repeat (first | (apply fw; (with_reducible constructor) <;> rfl) | (apply WpA.cd; constructor) | ((first | with_reducible refine WpA.go _ rfl fun Y y => ?_ | apply RunTo.id); simp only [zb, seval, w11, kcc, dcc]; refine fz y ?_; clear y Y))))
 refine Draw1.step (by rfl) (fun s9 _ => OpS.frozen (n := 3) (wd := 6) (ty := 28) (rows := [(dSym sLet).cc, (dList [dList [dSym sa, one1]]).cc, (dSym sa).cc]) (OpS.eff [(10, _), (16, _), (17, _)] rfl (by rfl) ⟨rfl, rfl, rfl, trivial⟩ (by simp only [zb, seval, w11, kcc, dcc]; rfl) (by simp)) rfl (by simp [ksh])) ?_; simp only [putE]
 refine Draw1.step (by rfl) (fun s9 _ => oz (l3)) ?_
 (refine Draw1.go fun K7 k => ?_); simp only [zb, seval, w11, kcc, dcc]; (refine qz (k _ _ (by rfl) ?_)); clear k K7; (simp only [zz, Nat.reduceAdd, Nat.reduceSub]); (try ((refine nz (hK8 _ ?_)); clear hK8 K8; (refine WpL.go _ rfl fun Y y => ?_); repeat (first | (apply fw; (with_reducible constructor) <;> rfl) | (apply WpA.cd; constructor) | ((first | with_reducible refine WpA.go _ rfl fun Y y => ?_ | apply RunTo.id); simp only [zb, seval, w11, kcc, dcc]; refine fz y ?_; clear y Y))))
 refine Draw1.step (by rfl) (fun s9 _ => oz (o1)) ?_
 (refine Draw1.go fun K7 k => ?_); simp only [zb, seval, w11, kcc, dcc]; (refine qz (k _ _ (by rfl) ?_)); clear k K7; (simp only [zz, Nat.reduceAdd, Nat.reduceSub]); (try ((refine nz (hK8 _ ?_)); clear hK8 K8; (refine WpL.go _ rfl fun Y y => ?_); repeat (first | (apply fw; (with_reducible constructor) <;> rfl) | (apply WpA.cd; constructor) | ((first | with_reducible refine WpA.go _ rfl fun Y y => ?_ | apply RunTo.id); simp only [zb, seval, w11, kcc, dcc]; refine fz y ?_; clear y Y))))
 refine Draw1.eff 0 rfl rfl rfl (OpS.eff [] rfl (by rfl) trivial (by simp only [zb, seval, w11, kcc, dcc]; rfl) (by first | (simp; done) | omega | (simp; omega))) ?_; (try simp only [putE]); (try ((refine Draw1.go fun K7 k => ?_); simp only [zb, seval, w11, kcc, dcc]; (refine qz (k _ _ (by rfl) ?_)); clear k K7; (simp only [zz, Nat.reduceAdd, Nat.reduceSub]); (try ((refine nz (hK8 _ ?_)); clear hK8 K8; (refine WpL.go _ rfl fun Y y => ?_); repeat (first | (apply fw; (with_reducible constructor) <;> rfl) | (apply WpA.cd; constructor) | ((first | with_reducible refine WpA.go _ rfl fun Y y => ?_ | apply RunTo.id); simp only [zb, seval, w11, kcc, dcc]; refine fz y ?_; clear y Y))))))
 refine Draw1.eff 1 rfl rfl rfl (OpS.eff [(2, _), (21, _)] rfl (by rfl) ⟨rfl, rfl, trivial⟩ (by simp only [zb, seval, w11, kcc, dcc]; rfl) (by first | (simp; done) | omega | (simp; omega))) ?_; (try simp only [putE]); (try ((refine Draw1.go fun K7 k => ?_); simp only [zb, seval, w11, kcc, dcc]; (refine qz (k _ _ (by rfl) ?_)); clear k K7; (simp only [zz, Nat.reduceAdd, Nat.reduceSub]); (try ((refine nz (hK8 _ ?_)); clear hK8 K8; (refine WpL.go _ rfl fun Y y => ?_); repeat (first | (apply fw; (with_reducible constructor) <;> rfl) | (apply WpA.cd; constructor) | ((first | with_reducible refine WpA.go _ rfl fun Y y => ?_ | apply RunTo.id); simp only [zb, seval, w11, kcc, dcc]; refine fz y ?_; clear y Y))))))
 (refine WpA.draw1c 16 [14, 15] [_, ?_, ?_] _ _ _ _ rfl rfl rfl (by kernel_rfl) (by kernel_rfl) (by kernel_rfl) (by kernel_rfl) rfl rfl rfl rfl (by decide) fun K8 hK8 => ?_); rotate_left 2; simp only [zz] at hK8 ⊢; (refine Draw1.go fun K7 k => ?_); simp only [zb, seval, w11, kcc, dcc]; (refine qz (k _ _ (by rfl) ?_)); clear k K7; (simp only [zz, Nat.reduceAdd, Nat.reduceSub]); (try ((refine nz (hK8 _ ?_)); clear hK8 K8; (refine WpL.go _ rfl fun Y y => ?_); repeat (first | (apply fw; (with_reducible constructor) <;> rfl) | (apply WpA.cd; constructor) | ((first | with_reducible refine WpA.go _ rfl fun Y y => ?_ | apply RunTo.id); simp only [zb, seval, w11, kcc, dcc]; refine fz y ?_; clear y Y))))
 refine Draw1.step (by rfl) (fun s9 _ => oz (s3)) ?_
 (refine Draw1.go fun K7 k => ?_); simp only [zb, seval, w11, kcc, dcc]; (refine qz (k _ _ (by rfl) ?_)); clear k K7; (simp only [zz, Nat.reduceAdd, Nat.reduceSub]); (try ((refine nz (hK8 _ ?_)); clear hK8 K8; (refine WpL.go _ rfl fun Y y => ?_); repeat (first | (apply fw; (with_reducible constructor) <;> rfl) | (apply WpA.cd; constructor) | ((first | with_reducible refine WpA.go _ rfl fun Y y => ?_ | apply RunTo.id); simp only [zb, seval, w11, kcc, dcc]; refine fz y ?_; clear y Y))))
 refine Draw1.step (by rfl) (fun s9 _ => oz (s2)) ?_
 (refine Draw1.go fun K7 k => ?_); simp only [zb, seval, w11, kcc, dcc]; (refine qz (k _ _ (by rfl) ?_)); clear k K7; (simp only [zz, Nat.reduceAdd, Nat.reduceSub]); (try ((refine nz (hK8 _ ?_)); clear hK8 K8; (refine WpL.go _ rfl fun Y y => ?_); repeat (first | (apply fw; (with_reducible constructor) <;> rfl) | (apply WpA.cd; constructor) | ((first | with_reducible refine WpA.go _ rfl fun Y y => ?_ | apply RunTo.id); simp only [zb, seval, w11, kcc, dcc]; refine fz y ?_; clear y Y))))
 refine Draw1.step (by rfl) (fun s9 _ => OpS.frozen (n := 1) (wd := 6) (ty := 28) (rows := [(dSym sa).cc]) (OpS.eff [(25, _)] rfl (by rfl) ⟨rfl, trivial⟩ (by simp only [zb, seval, w11, kcc, dcc]; rfl) (by simp)) rfl (by simp [ksh])) ?_; simp only [putE]
 refine Draw1.step (by rfl) (fun s9 _ => oz (l4)) ?_
 (refine Draw1.go fun K7 k => ?_); simp only [zb, seval, w11, kcc, dcc]; (refine qz (k _ _ (by rfl) ?_)); clear k K7; (simp only [zz, Nat.reduceAdd, Nat.reduceSub]); (try ((refine nz (hK8 _ ?_)); clear hK8 K8; (refine WpL.go _ rfl fun Y y => ?_); repeat (first | (apply fw; (with_reducible constructor) <;> rfl) | (apply WpA.cd; constructor) | ((first | with_reducible refine WpA.go _ rfl fun Y y => ?_ | apply RunTo.id); simp only [zb, seval, w11, kcc, dcc]; refine fz y ?_; clear y Y))))
 refine Draw1.step (by rfl) (fun s9 _ => oz (s2)) ?_
 (refine Draw1.go fun K7 k => ?_); simp only [zb, seval, w11, kcc, dcc]; (refine qz (k _ _ (by rfl) ?_)); clear k K7; (simp only [zz, Nat.reduceAdd, Nat.reduceSub]); (try ((refine nz (hK8 _ ?_)); clear hK8 K8; (refine WpL.go _ rfl fun Y y => ?_); repeat (first | (apply fw; (with_reducible constructor) <;> rfl) | (apply WpA.cd; constructor) | ((first | with_reducible refine WpA.go _ rfl fun Y y => ?_ | apply RunTo.id); simp only [zb, seval, w11, kcc, dcc]; refine fz y ?_; clear y Y))))
 refine Draw1.step (by rfl) (fun s9 _ => OpS.frozen (n := 3) (wd := 6) (ty := 28) (rows := [(dSym sLambda).cc, (dList [dSym sa]).cc, (dSym sa).cc]) (OpS.eff [(24, _), (27, _), (28, _)] rfl (by rfl) ⟨rfl, rfl, rfl, trivial⟩ (by simp only [zb, seval, w11, kcc, dcc]; rfl) (by simp)) rfl (by simp [ksh])) ?_; simp only [putE]
 refine Draw1.step (by rfl) (fun s9 _ => oz (l5)) ?_
 (refine Draw1.go fun K7 k => ?_); simp only [zb, seval, w11, kcc, dcc]; (refine qz (k _ _ (by rfl) ?_)); clear k K7; (simp only [zz, Nat.reduceAdd, Nat.reduceSub]); (try ((refine nz (hK8 _ ?_)); clear hK8 K8; (refine WpL.go _ rfl fun Y y => ?_); repeat (first | (apply fw; (with_reducible constructor) <;> rfl) | (apply WpA.cd; constructor) | ((first | with_reducible refine WpA.go _ rfl fun Y y => ?_ | apply RunTo.id); simp only [zb, seval, w11, kcc, dcc]; refine fz y ?_; clear y Y))))
 refine Draw1.step (by rfl) (fun s9 _ => OpS.frozen (n := 2) (wd := 6) (ty := 28) (rows := [(dList [dSym sLambda, dList [dSym sa], dSym sa]).cc, one1.cc]) (OpS.eff [(30, _), (31, _)] rfl (by rfl) ⟨rfl, rfl, trivial⟩ (by simp only [zb, seval, w11, kcc, dcc]; rfl) (by simp)) rfl (by simp [ksh])) ?_; simp only [putE]
 refine Draw1.step (by rfl) (fun s9 _ => oz (l6)) ?_
 (refine Draw1.go fun K7 k => ?_); simp only [zb, seval, w11, kcc, dcc]; (refine qz (k _ _ (by rfl) ?_)); clear k K7; (simp only [zz, Nat.reduceAdd, Nat.reduceSub]); (try ((refine nz (hK8 _ ?_)); clear hK8 K8; (refine WpL.go _ rfl fun Y y => ?_); repeat (first | (apply fw; (with_reducible constructor) <;> rfl) | (apply WpA.cd; constructor) | ((first | with_reducible refine WpA.go _ rfl fun Y y => ?_ | apply RunTo.id); simp only [zb, seval, w11, kcc, dcc]; refine fz y ?_; clear y Y))))
 refine Draw1.step (by rfl) (fun s9 _ => oz (o2)) ?_
 (refine Draw1.go fun K7 k => ?_); simp only [zb, seval, w11, kcc, dcc]; (refine qz (k _ _ (by rfl) ?_)); clear k K7; (simp only [zz, Nat.reduceAdd, Nat.reduceSub]); (try ((refine nz (hK8 _ ?_)); clear hK8 K8; (refine WpL.go _ rfl fun Y y => ?_); repeat (first | (apply fw; (with_reducible constructor) <;> rfl) | (apply WpA.cd; constructor) | ((first | with_reducible refine WpA.go _ rfl fun Y y => ?_ | apply RunTo.id); simp only [zb, seval, w11, kcc, dcc]; refine fz y ?_; clear y Y))))
 refine Draw1.eff 0 rfl rfl rfl (OpS.eff [] rfl (by rfl) trivial (by simp only [zb, seval, w11, kcc, dcc]; rfl) (by first | (simp; done) | omega | (simp; omega))) ?_; (try simp only [putE]); (try ((refine Draw1.go fun K7 k => ?_); simp only [zb, seval, w11, kcc, dcc]; (refine qz (k _ _ (by rfl) ?_)); clear k K7; (simp only [zz, Nat.reduceAdd, Nat.reduceSub]); (try ((refine nz (hK8 _ ?_)); clear hK8 K8; (refine WpL.go _ rfl fun Y y => ?_); repeat (first | (apply fw; (with_reducible constructor) <;> rfl) | (apply WpA.cd; constructor) | ((first | with_reducible refine WpA.go _ rfl fun Y y => ?_ | apply RunTo.id); simp only [zb, seval, w11, kcc, dcc]; refine fz y ?_; clear y Y))))))
 refine Draw1.eff 1 rfl rfl rfl (OpS.eff [(4, _), (35, _)] rfl (by rfl) ⟨rfl, rfl, trivial⟩ (by simp only [zb, seval, w11, kcc, dcc]; rfl) (by first | (simp; done) | omega | (simp; omega))) ?_; (try simp only [putE]); (try ((refine Draw1.go fun K7 k => ?_); simp only [zb, seval, w11, kcc, dcc]; (refine qz (k _ _ (by rfl) ?_)); clear k K7; (simp only [zz, Nat.reduceAdd, Nat.reduceSub]); (try ((refine nz (hK8 _ ?_)); clear hK8 K8; (refine WpL.go _ rfl fun Y y => ?_); repeat (first | (apply fw; (with_reducible constructor) <;> rfl) | (apply WpA.cd; constructor) | ((first | with_reducible refine WpA.go _ rfl fun Y y => ?_ | apply RunTo.id); simp only [zb, seval, w11, kcc, dcc]; refine fz y ?_; clear y Y))))))
 refine cz (s4) ?_
 (refine WpL.go _ rfl fun Y y => ?_); repeat (first | (apply fw; (with_reducible constructor) <;> rfl) | (apply WpA.cd; constructor) | ((first | with_reducible refine WpA.go _ rfl fun Y y => ?_ | apply RunTo.id); simp only [zb, seval, w11, kcc, dcc]; refine fz y ?_; clear y Y))
 (refine WpL.frz 39 (3) (by rfl) (by first | rfl | (simp only [zz, kcc]; rfl) | (simp only [zz, kcc])) (by first | rfl | (simp [kcc]; done) | (simp [kcc]; omega)) (by simp [ksh]) ?_); simp only [zz, kcc]
 refine cz (l7) ?_
 (refine WpL.go _ rfl fun Y y => ?_); repeat (first | (apply fw; (with_reducible constructor) <;> rfl) | (apply WpA.cd; constructor) | ((first | with_reducible refine WpA.go _ rfl fun Y y => ?_ | apply RunTo.id); simp only [zb, seval, w11, kcc, dcc]; refine fz y ?_; clear y Y))
 refine cz (o3) ?_
 (refine WpL.go _ rfl fun Y y => ?_); repeat (first | (apply fw; (with_reducible constructor) <;> rfl) | (apply WpA.cd; constructor) | ((first | with_reducible refine WpA.go _ rfl fun Y y => ?_ | apply RunTo.id); simp only [zb, seval, w11, kcc, dcc]; refine fz y ?_; clear y Y))
 refine cz (hs) ?_
 (refine WpL.go _ rfl fun Y y => ?_); repeat (first | (apply fw; (with_reducible constructor) <;> rfl) | (apply WpA.cd; constructor) | ((first | with_reducible refine WpA.go _ rfl fun Y y => ?_ | apply RunTo.id); simp only [zb, seval, w11, kcc, dcc]; refine fz y ?_; clear y Y))
 refine cz (hk1) ?_
 (refine WpL.go _ rfl fun Y y => ?_); repeat (first | (apply fw; (with_reducible constructor) <;> rfl) | (apply WpA.cd; constructor) | ((first | with_reducible refine WpA.go _ rfl fun Y y => ?_ | apply RunTo.id); simp only [zb, seval, w11, kcc, dcc]; refine fz y ?_; clear y Y))
 refine cz (hk2) ?_
 (refine WpL.go _ rfl fun Y y => ?_); repeat (first | (apply fw; (with_reducible constructor) <;> rfl) | (apply WpA.cd; constructor) | ((first | with_reducible refine WpA.go _ rfl fun Y y => ?_ | apply RunTo.id); simp only [zb, seval, w11, kcc, dcc]; refine fz y ?_; clear y Y))
 refine ye (by simp only [zb, seval, w11, kcc, dcc]; rfl) (by simp only [zv, kcc, dcc]; rfl) ?_
 rfl
end Go.Proofs.YtaeioidifpebdaaGreatDoor
end
