import Derived.Test.YtajjhhobfjjaeaaDoorLawLike
import Derived.Test.YtajjhhobfjjaeaaDoorSame3
import Derived.Test.YtajjhhobfjjaeaaDoorPhiG
import Derived.Laws.BitsLemmas
namespace Go.Proofs.YtajjhhobfjjaeaaDoor
open Go.RowKit
set_option linter.unusedSimpArgs false
set_option linter.unusedVariables false

theorem items_cons (a b : D) : items (dCons a b) = a :: items b := by simp [dCons, items, itemsL]
theorem endK_cons (a b : D) : endK (dCons a b) = endK b := by simp [dCons, endK, endKs]
theorem items_list : ∀ l : List D, items (dList l) = l
  | [] => rfl
  | x :: r => by show items (dCons x (dList r)) = _; rw [items_cons, items_list r]
theorem endK_list : ∀ l : List D, endK (dList l) = 0
  | [] => rfl
  | x :: r => by show endK (dCons x (dList r)) = _; rw [endK_cons, endK_list r]
theorem dList_ok : ∀ l : List D, Oks l → (dList l).Ok
  | [], _ => dNil_ok
  | x :: r, h => dCons_ok h.1 (dList_ok r h.2)
theorem items_count : ∀ (n : Nat) (d : D), d.count ≤ n → (items d).length ≤ d.count
  | 0, d, h => absurd d.count_pos (by omega)
  | n + 1, d, h => by
    rcases hg : goesOn d
    · rw [(items_off hg).1]; simp
    · obtain ⟨a, b, hl, hi, -⟩ := items_on hg
      rw [hi, D.count_eq, hl]
      rw [D.count_eq, hl] at h
      simp only [cnts, List.length_cons] at h ⊢
      have := items_count n b (by omega)
      omega

/-- All but the first. -/
theorem RdRow.tail {w : World} {b o n : Nat} {e : V} {es : List V} (h : RdRow w b o (e :: es)) (hw : wid e = n) : RdRow w b (o + n) es := by
  simp only [RdRow] at h
  obtain ⟨cs, -, h2, h3⟩ := h
  rw [Rd.len h2, hw] at h3
  exact h3
theorem IsDs.tail {w : World} {x : D} {l : List D} {b o cap n c' : Nat} (h : IsDs w (x :: l) (.slice (some ⟨b, o, none⟩) n cap)) (hc : c' = cap - 1) : IsDs w l (.slice (some ⟨b, o + 6, none⟩) l.length c') := by
  simp only [IsDs, Rd, List.map_cons, List.length_cons, List.length_map] at h ⊢
  obtain ⟨_, e, h⟩ := h
  cases e
  rcases h with ⟨h0, -⟩ | ⟨b', o', cap', e, l1, l2, hr⟩
  · cases h0
  · cases e
    exact ⟨_, rfl, .inr ⟨b, o + 6, c', rfl, by omega, by omega, hr.tail x.wid_v⟩⟩
theorem IsDs.tail1 {w : World} {x : D} {l : List D} {b o cap n : Nat} (h : IsDs w (x :: l) (.slice (some ⟨b, o, none⟩) n cap)) : IsDs w l (.slice (if cap = 1 then some ⟨b, o, none⟩ else some ⟨b, o + 6, none⟩) l.length (cap - 1)) := by
  split
  · rename_i hc
    obtain ⟨a, cap', e, h1, h2⟩ := h.form
    cases e
    have hl : l = [] := List.eq_nil_of_length_eq_zero (by simp at h1; omega)
    subst hl
    simp only [IsDs, List.map_nil, Rd]
    exact ⟨_, rfl, .inl ⟨trivial, .inr ⟨_, _, rfl, by omega⟩⟩⟩
  · exact h.tail rfl
theorem IsDs.some_of {w : World} {x : D} {l : List D} {v : Value} (h : IsDs w (x :: l) v) : ∃ b o cap, v = .slice (some ⟨b, o, none⟩) (l.length + 1) cap ∧ l.length + 1 ≤ cap ∧ cap ≤ maxLen ∧ CellsD w b o x := by
  obtain ⟨a, cap, rfl, h1, h2⟩ := h.form
  obtain ⟨b, o, rfl, hc⟩ := h.get 0 (by simp)
  exact ⟨b, o, cap, rfl, h1, h2, by simpa using hc⟩

set_option maxRecDepth 100000 in
set_option maxHeartbeats 16000000 in
theorem lawParts_any (a : D) (l : List D) (f : D) (w : World) (va vl vf : Value) (hT : Tabs w) (hoa : a.Ok) (hol : Oks l) (hll : l.length ≤ 1599289640354) (hof : f.Ok) (ha : IsD w a va) (hl : IsDs w l vl) (hf : IsD w f vf) :
    Calls Tryd.prog 6 #[va, vl, vf] w fun e w' => e = .returned (.bool true) ∧ Ext w w' := by
  have HA := Lib.hid (fun W (hx : Ext w W) => heavy_any a W va hoa (ha.keep hx.keeps))
  have HF := Lib.hid (fun W (hx : Ext w W) => heavy_any f W vf hof (hf.keep hx.keeps))
  have HW := Lib.hid (fun W (hx : Ext w W) => awake_any W (hT.ext hx))
  have HL := Lib.hid (fun W (hx : Ext w W) => list_any l W vl hol hll (hl.keep hx.keeps))
  have HLS := Lib.hid (fun W (hx : Ext w W) => hl.keep hx.keeps)
  have HAS := Lib.hid (fun W (hx : Ext w W) => ha.keep hx.keeps)
  have HFS := Lib.hid (fun W (hx : Ext w W) => hf.keep hx.keeps)
  obtain ⟨al, cl, rfl, -, hcl⟩ := hl.form
  obtain ⟨am, cm, aa, ca, rfl, -, -, -, -, -, -⟩ := ha.open
  obtain ⟨bm, dm, ba, da, rfl, -, -, -, -, -, -⟩ := hf.open
  unfold maxLen at hcl
  clear ha hf hT
  have HOL := Lib.hid hol; clear hol
  have hx0 := ((Ext.refl w).alloc (.cells #[.int .i64 a.k, .int .i32 a.c, .bool a.neg, .slice am a.mag.length cm, .string a.t, .slice aa a.l.length ca] 27)).alloc (.cells #[.int .i64 f.k, .int .i32 f.c, .bool f.neg, .slice bm f.mag.length dm, .string f.t, .slice ba f.l.length da] 27)
  have b0 := heap_new0 w (.cells #[.int .i64 a.k, .int .i32 a.c, .bool a.neg, .slice am a.mag.length cm, .string a.t, .slice aa a.l.length ca] 27) (.cells #[.int .i64 f.k, .int .i32 f.c, .bool f.neg, .slice bm f.mag.length dm, .string f.t, .slice ba f.l.length da] 27)
  have b1 := heap_new1 w (.cells #[.int .i64 a.k, .int .i32 a.c, .bool a.neg, .slice am a.mag.length cm, .string a.t, .slice aa a.l.length ca] 27) (.cells #[.int .i64 f.k, .int .i32 f.c, .bool f.neg, .slice bm f.mag.length dm, .string f.t, .slice ba f.l.length da] 27)
  go_enter Tryd.func6, Tryd.ntmps6
  go_wp2_with fail
  generalize (w.alloc (.cells #[.int .i64 a.k, .int .i32 a.c, .bool a.neg, .slice am a.mag.length cm, .string a.t, .slice aa a.l.length ca] 27)).alloc (.cells #[.int .i64 f.k, .int .i32 f.c, .bool f.neg, .slice bm f.mag.length dm, .string f.t, .slice ba f.l.length da] 27) = w1 at *
  refine (HA.out _ hx0).mono ?_
  rintro e w2 ⟨rfl, hx2⟩
  have b0 := (hx2.block _ (Array.getElem?_eq_some_iff.1 b0).1).trans b0
  have b1 := (hx2.block _ (Array.getElem?_eq_some_iff.1 b1).1).trans b1
  have hx3 := hx0.trans hx2
  clear hx2 hx0
  rcases hha : a.heavy
  case true =>
    go_wp2_with fail
    refine (HW.out _ hx3).mono ?_
    rintro e w4 ⟨rfl, hx6⟩
    go_wp2_with fail
    go_ret
    exact ⟨rfl, hx3.trans hx6⟩
  have hc1 := cell_of b1
  go_wp2_with fail
  refine (HF.out _ hx3).mono ?_
  rintro e w3 ⟨rfl, hx4⟩
  have b0 := (hx4.block _ (Array.getElem?_eq_some_iff.1 b0).1).trans b0
  have b1 := (hx4.block _ (Array.getElem?_eq_some_iff.1 b1).1).trans b1
  have hx5 := hx3.trans hx4
  clear hx3 hx4 hc1
  rcases hhf : f.heavy
  case true =>
    go_wp2_with fail
    refine (HW.out _ hx5).mono ?_
    rintro e w4 ⟨rfl, hx6⟩
    go_wp2_with fail
    go_ret
    exact ⟨rfl, hx5.trans hx6⟩
  by_cases h50 : l.length ≤ 50
  case neg =>
    have ed : decide ((50 : Int) < l.length) = true := by simp; omega
    go_wp2_with fail
    refine (HW.out _ hx5).mono ?_
    rintro e w4 ⟨rfl, hx6⟩
    go_wp2_with fail
    go_ret
    exact ⟨rfl, hx5.trans hx6⟩
  have ed : decide ((50 : Int) < l.length) = false := by simp; omega
  go_wp2_with fail
  go_loopw [7] (fun i wr => ∃ (k : Nat), k ≤ l.length ∧ i = .int .i64 k ∧ Ext w3 wr) (fun i _ => l.length - (intOf i).toNat)
  case atStart => exact ⟨0, Nat.zero_le _, rfl, Ext.refl _⟩
  case round =>
    obtain ⟨k, hk, rfl, hxr⟩ := hrel
    have hxw := hx5.trans hxr
    by_cases hlt : k < l.length
    · obtain ⟨b', o, rfl, hcell⟩ := hl.get k hlt
      obtain ⟨am', cm', al', cl', c0, c1, c2, c3, c4, c5, hm', hl'⟩ := hcell.keep hxw.keeps
      have HX := Lib.hid (IsD.mk' (d := l[k]) hm' hl')
      clear hl
      go_wp2_with fail
      refine (heavy_any l[k] _ _ (HOL.out.get k hlt) HX.out).mono ?_
      rintro e w4 ⟨rfl, hx6⟩
      rcases hhx : l[k].heavy
      case true =>
        go_wp2_with fail
        refine (HW.out _ (hxw.trans hx6)).mono ?_
        rintro e w5 ⟨rfl, hx7⟩
        go_wp2_with fail
        go_ret
        exact ⟨rfl, (hxw.trans hx6).trans hx7⟩
      go_wp2_with fail
      go_roundw
      case rel => exact ⟨k + 1, by omega, by go_num, hxr.trans hx6⟩
      case measure => simp [intOf]; omega
    · have ed4 : decide ((k : Int) < l.length) = false := by simp; omega
      clear hl
      have b0 := (hxr.block _ (Array.getElem?_eq_some_iff.1 b0).1).trans b0
      have b1 := (hxr.block _ (Array.getElem?_eq_some_iff.1 b1).1).trans b1
      have x0 := cell_of b0 0; have x1 := cell_of b0 1; have x2 := cell_of b0 2; have x3 := cell_of b0 3; have x4 := cell_of b0 4; have x5 := cell_of b0 5
      simp only [List.getElem?_toArray, List.getElem?_cons_zero, List.getElem?_cons_succ] at x0 x1 x2 x3 x4 x5
      go_wp2_with fail
      have hS : ∀ W9, Ext _ W9 → W9.cell? _ = _ ∧ W9.cell? _ = _ ∧ W9.cell? _ = _ ∧ W9.cell? _ = _ ∧ W9.cell? _ = _ ∧ W9.cell? _ = _ ∧ True := fun W9 h => ⟨h.keeps _ _ x0, h.keeps _ _ x1, h.keeps _ _ x2, h.keeps _ _ x3, h.keeps _ _ x4, h.keeps _ _ x5, trivial⟩
      clear x0 x1 x2 x3 x4 x5
      refine wp_region_eachG 5 _ _ _ rfl rfl rfl (by kernel_rfl) (by kernel_rfl) (by kernel_rfl) (fun Q9 hQ9 => ?_); simp only [List.take_succ_cons, List.take_zero, List.drop_succ_cons, List.drop_zero, List.map_cons, List.map_nil] at hQ9 ⊢
      repeat (first | ((with_reducible apply PhiG.skip); · (intro ρ wq g9 hx hp hk; simp [KnowsAllG, KnowsG, lookG, looks, Op.operands, Call.operands, Act.eval] at hk; simp [wanted, undef, hk])) | ((with_reducible apply PhiG.pure); · (intro ρ wq g9 hx hp hk; (first | (simp [KnowsAllG, KnowsG, lookG, looks, Op.operands, Call.operands, Act.eval] at hk; refine ⟨?_, ?_⟩; (· (simp [wanted, undef, hk])); (· (simp [go_sem, hk, hp.1, hp.2.1, hp.2.2, hS wq hx.1]; rfl))) | (refine ⟨?_, ?_⟩; (· (simp [wanted])); (· (simp [go_sem, hp.1, hp.2.1, hp.2.2, hS wq hx.1]; rfl)))))))
      refine PhiG.make (fun v W g => IsD (hidG W g) (dList l) v) (fun v w g w9 g9 hx h => h.keep (hidG_ext hx)) ?_ ?_; · (intro ρ wq g9 hx hp hk; (first | (simp [KnowsAllG, KnowsG, lookG, looks, Op.operands, Call.operands, Act.eval] at hk; refine ⟨by simp [wanted, hk], OpGood.call (by simp [go_sem, hk, hp.1, hp.2.1, hp.2.2]; exact ⟨rfl, rfl⟩) ?_⟩) | (refine ⟨by simp [wanted], OpGood.call (by simp [go_sem, hp.1, hp.2.1, hp.2.2]; exact ⟨rfl, rfl⟩) ?_⟩)); exact phiG_fresh (R := fun W v => IsD W (dList l) v) (fun hk h => h.keep hk) hx (HL.out _ (hxw.trans hx.1)))
      refine PhiG.make (fun v W g => IsD (hidG W g) (dCons a (dList l)) v) (fun v w g w9 g9 hx h => h.keep (hidG_ext hx)) ?_ ?_; · (intro ρ wq g9 hx hp hk; (first | (simp [KnowsAllG, KnowsG, lookG, looks, Op.operands, Call.operands, Act.eval] at hk; refine ⟨by simp [wanted, hk], OpGood.call (by simp [go_sem, hk, hp.1, hp.2.1, hp.2.2]; exact ⟨rfl, rfl⟩) ?_⟩) | (refine ⟨by simp [wanted], OpGood.call (by simp [go_sem, hp.1, hp.2.1, hp.2.2]; exact ⟨rfl, rfl⟩) ?_⟩)); exact phiG_fresh (R := fun W v => IsD W (dCons a (dList l)) v) (fun hk h => h.keep hk) hx (cons_any a (dList l) _ _ _ hoa (dList_ok l HOL.out) (HAS.out _ (hxw.trans hx.1)) (hk.2.keep (hidG_keeps _ _))))
      refine PhiG.make (fun v W g => BoxG (.cells #[.int .i64 0, .int .i32 0, .bool false, .slice none 0 0, .string ⟨#[]⟩, .slice none 0 0] 27 (0, 0)) v W g) (fun v w g w9 g9 hx h => h.ext hx) ?_ ?_; · (intro ρ wq g9 hx hp hk; refine ⟨by simp [wanted], ?_⟩; unfold OpGood; simp [go_sem]; exact ⟨(Ext.refl _).alloc _, _, ExtG.box _ _ _, BoxG.new _ _ _⟩)
      refine PhiG.done ?_; intro w2 g2 hx2; simp only [FinalG, List.nil_append, List.cons_append, forall_eq]
      intro v41 hv41 v42 hv42 v8 hv8
      obtain ⟨bx, rfl, hbg, hbx⟩ := hv8
      obtain ⟨am3, cm3, al3, cl3, rfl, -, -, -, -, -, -⟩ := hv42.open
      have HV := Lib.hid (And.intro hv42 (And.intro hbg hbx)); clear hv41 hv42
      have hcx := cell_of hbx
      have hfx := frozen_of hbx
      refine hQ9 _ _ ?_
      clear hQ9 Q9 hS
      simp only [Act.put, List.setIfInBounds_toArray, List.set_cons_succ, List.set_cons_zero]
      go_wp2_with fail
      have hbn : wr.heap.size ≤ bx := by
        obtain ⟨-, l9, hl9, h9⟩ := hx2
        exact (h9 bx (by rw [hl9, List.append_nil] at hbg; exact hbg)).1
      have hbw : w.heap.size + 2 ≤ bx := by have := (Array.getElem?_eq_some_iff.1 b1).1; omega
      show Calls _ _ _ (set6 w2 bx _ _ _ _ _ _) _
      have hx8 : Ext w (set6 w2 bx (.int .i64 (dCons a (dList l)).k) (.int .i32 (dCons a (dList l)).c) (.bool (dCons a (dList l)).neg) (.slice am3 (dCons a (dList l)).mag.length cm3) (.string (dCons a (dList l)).t) (.slice al3 (dCons a (dList l)).l.length cl3)) := set6_below (hxw.trans hx2.1) (by omega) _ _ _ _ _ _
      have HXD := Lib.hid (HV.out.1.keep ((hidG_heap (fun k hk _ => set6_ne (by rintro rfl; exact hk HV.out.2.1) (.int .i64 (dCons a (dList l)).k) (.int .i32 (dCons a (dList l)).c) (.bool (dCons a (dList l)).neg) (.slice am3 (dCons a (dList l)).mag.length cm3) (.string (dCons a (dList l)).t) (.slice al3 (dCons a (dList l)).l.length cl3))).trans (hidG_keeps _ _)))
      have b3 := set6_block HV.out.2.2 (.int .i64 (dCons a (dList l)).k) (.int .i32 (dCons a (dList l)).c) (.bool (dCons a (dList l)).neg) (.slice am3 (dCons a (dList l)).mag.length cm3) (.string (dCons a (dList l)).t) (.slice al3 (dCons a (dList l)).l.length cl3)
      have b0 := (set6_ne (w := w2) (B := bx) (k := w.heap.size) (by omega) (.int .i64 (dCons a (dList l)).k) (.int .i32 (dCons a (dList l)).c) (.bool (dCons a (dList l)).neg) (.slice am3 (dCons a (dList l)).mag.length cm3) (.string (dCons a (dList l)).t) (.slice al3 (dCons a (dList l)).l.length cl3)).trans ((hx2.1.block _ (Array.getElem?_eq_some_iff.1 b0).1).trans b0)
      have b1 := (set6_ne (w := w2) (B := bx) (k := w.heap.size + 1) (by omega) (.int .i64 (dCons a (dList l)).k) (.int .i32 (dCons a (dList l)).c) (.bool (dCons a (dList l)).neg) (.slice am3 (dCons a (dList l)).mag.length cm3) (.string (dCons a (dList l)).t) (.slice al3 (dCons a (dList l)).l.length cl3)).trans ((hx2.1.block _ (Array.getElem?_eq_some_iff.1 b1).1).trans b1)
      generalize set6 w2 bx (.int .i64 (dCons a (dList l)).k) (.int .i32 (dCons a (dList l)).c) (.bool (dCons a (dList l)).neg) (.slice am3 (dCons a (dList l)).mag.length cm3) (.string (dCons a (dList l)).t) (.slice al3 (dCons a (dList l)).l.length cl3) = W3 at *
      clear HV hcx hfx hbx hbg hxr hxw hx2
      refine (items_any (dCons a (dList l)) W3 _ (dCons_ok hoa (dList_ok l HOL.out)) (by rw [items_cons, items_list]; simp; omega) HXD.out).mono ?_
      rw [endK_cons, endK_list, items_cons, items_list, if_pos rfl]
      rintro e w4 ⟨vI, rfl, hx9, hI⟩
      have hI := hI.keep (since_keeps _ _)
      obtain ⟨bi, oi, ci, rfl, hci1, hci2, hcd⟩ := hI.some_of
      have HI := Lib.hid (fun W (hx : Ext w4 W) => hI.keep hx.keeps); clear hI
      obtain ⟨am4, cm4, al4, cl4, y0, y1, y2, y3, y4, y5, hm4, hl4⟩ := hcd
      have HY := Lib.hid (fun W (hx : Ext w4 W) => IsD.mk' (d := a) (hm4.keep hx.keeps) (hl4.keep hx.keeps)); clear hm4 hl4
      have b0 := (hx9.block _ (Array.getElem?_eq_some_iff.1 b0).1).trans b0
      have b1 := (hx9.block _ (Array.getElem?_eq_some_iff.1 b1).1).trans b1
      have b3 := (hx9.block _ (Array.getElem?_eq_some_iff.1 b3).1).trans b3
      have hxA := hx8.trans hx9
      unfold maxLen at hci2
      have HXE := Lib.hid (fun W (hx : Ext w4 W) => HXD.out.keep (hx9.trans hx).keeps); clear HXD
      have x0 := cell_of b0 0; have x1 := cell_of b0 1; have x2 := cell_of b0 2; have x3 := cell_of b0 3; have x4 := cell_of b0 4; have x5 := cell_of b0 5
      have z0 := cell_of b3 0; have z1 := cell_of b3 1; have z2 := cell_of b3 2; have z3 := cell_of b3 3; have z4 := cell_of b3 4; have z5 := cell_of b3 5
      simp only [List.getElem?_toArray, List.getElem?_cons_zero, List.getElem?_cons_succ] at x0 x1 x2 x3 x4 x5 z0 z1 z2 z3 z4 z5
      go_wp2_with fail
      have hS : ∀ W9, Ext _ W9 → W9.cell? _ = _ ∧ W9.cell? _ = _ ∧ W9.cell? _ = _ ∧ W9.cell? _ = _ ∧ W9.cell? _ = _ ∧ W9.cell? _ = _ ∧ W9.cell? _ = _ ∧ W9.cell? _ = _ ∧ W9.cell? _ = _ ∧ W9.cell? _ = _ ∧ W9.cell? _ = _ ∧ W9.cell? _ = _ ∧ W9.cell? _ = _ ∧ W9.cell? _ = _ ∧ W9.cell? _ = _ ∧ W9.cell? _ = _ ∧ W9.cell? _ = _ ∧ W9.cell? _ = _ ∧ True := fun W9 h => ⟨h.keeps _ _ x0, h.keeps _ _ x1, h.keeps _ _ x2, h.keeps _ _ x3, h.keeps _ _ x4, h.keeps _ _ x5, h.keeps _ _ y0, h.keeps _ _ y1, h.keeps _ _ y2, h.keeps _ _ y3, h.keeps _ _ y4, h.keeps _ _ y5, h.keeps _ _ z0, h.keeps _ _ z1, h.keeps _ _ z2, h.keeps _ _ z3, h.keeps _ _ z4, h.keeps _ _ z5, trivial⟩
      clear x0 x1 x2 x3 x4 x5 y0 y1 y2 y3 y4 y5 z0 z1 z2 z3 z4 z5
      have hwr : IntKind.i64.wrap ((l.length : Int) + 1) = (l.length : Int) + 1 := by rw [IntKind.wrap_i64]; omega
      obtain ⟨ai, hai⟩ : ∃ ai : Option Addr, (if ci = 1 then some (⟨bi, oi, none⟩ : Addr) else some ⟨bi, oi + 6, none⟩) = ai := ⟨_, rfl⟩
      refine wp_region_each 32 _ _ _ rfl rfl rfl (by kernel_rfl) (by kernel_rfl) (by kernel_rfl) (fun Q9 hQ9 => ?_); simp only [List.take_succ_cons, List.take_zero, List.drop_succ_cons, List.drop_zero, List.map_cons, List.map_nil] at hQ9 ⊢
      repeat (first | ((with_reducible apply Phi.skip); · (intro ρ wq hx hp hk; simp [KnowsAll, Knows, look, looks, Op.operands, Call.operands, Act.eval] at hk; simp [wanted, undef, hk, hwr])) | ((with_reducible apply Phi.pure); · (intro ρ wq hx hp hk; (first | (simp [KnowsAll, Knows, look, looks, Op.operands, Call.operands, Act.eval] at hk; refine ⟨?_, ?_⟩; (· (simp [wanted, undef, hk, hwr])); (· (simp [go_sem, hk, hp.1, hp.2.1, hp.2.2, hS wq hx, hwr]; rfl))) | (refine ⟨?_, ?_⟩; (· (simp [wanted])); (· (simp [go_sem, hp.1, hp.2.1, hp.2.2, hS wq hx, hwr]; rfl)))))))
      refine Phi.make (fun v _ => v = .bool true) (Stab.const _) ?_ ?_; · (intro ρ wq hx hp hk; (first | (simp [KnowsAll, Knows, look, looks, Op.operands, Call.operands, Act.eval] at hk; refine ⟨by simp [wanted, hk], OpGood.call (by simp [go_sem, hk, hp.1, hp.2.1, hp.2.2]; exact ⟨rfl, rfl⟩) ?_⟩) | (refine ⟨by simp [wanted], OpGood.call (by simp [go_sem, hp.1, hp.2.1, hp.2.2]; exact ⟨rfl, rfl⟩) ?_⟩)); exact phi_const (by have := same_any a a _ _ _ (HY.out _ hx) (HAS.out _ (hxA.trans hx)); rwa [eqB_pos rfl] at this))
      repeat (first | ((with_reducible apply Phi.skip); · (intro ρ wq hx hp hk; simp [KnowsAll, Knows, look, looks, Op.operands, Call.operands, Act.eval] at hk; simp [wanted, undef, hk])) | ((with_reducible apply Phi.pure); · (intro ρ wq hx hp hk; (first | (simp [KnowsAll, Knows, look, looks, Op.operands, Call.operands, Act.eval] at hk; refine ⟨?_, ?_⟩; (· (simp [wanted, undef, hk])); (· (simp [go_sem, hk, hp.1, hp.2.1, hp.2.2, hS wq hx]; rfl))) | (refine ⟨?_, ?_⟩; (· (simp [wanted])); (· (simp [go_sem, hp.1, hp.2.1, hp.2.2, hS wq hx]; rfl)))))))
      refine Phi.pure (v := .slice ai l.length (ci - 1)) ?_ ?_
      · intro ρ wq hx hp hk
        simp [KnowsAll, Knows, look, looks, Op.operands, Call.operands, Act.eval] at hk
        refine ⟨by simp [wanted, hk], ?_⟩
        have h1 : (1 : Int) ≤ (l.length : Int) + 1 := by omega
        simp [go_sem, hk, hp.1, h1]
        exact hai
      repeat (first | ((with_reducible apply Phi.skip); · (intro ρ wq hx hp hk; simp [KnowsAll, Knows, look, looks, Op.operands, Call.operands, Act.eval] at hk; simp [wanted, undef, hk])) | ((with_reducible apply Phi.pure); · (intro ρ wq hx hp hk; (first | (simp [KnowsAll, Knows, look, looks, Op.operands, Call.operands, Act.eval] at hk; refine ⟨?_, ?_⟩; (· (simp [wanted, undef, hk])); (· (simp [go_sem, hk, hp.1, hp.2.1, hp.2.2, hS wq hx]; rfl))) | (refine ⟨?_, ?_⟩; (· (simp [wanted])); (· (simp [go_sem, hp.1, hp.2.1, hp.2.2, hS wq hx]; rfl)))))))
      refine Phi.make (fun v _ => v = .bool true) (Stab.const _) ?_ ?_; · (intro ρ wq hx hp hk; (first | (simp [KnowsAll, Knows, look, looks, Op.operands, Call.operands, Act.eval] at hk; refine ⟨by simp [wanted, hk], OpGood.call (by simp [go_sem, hk, hp.1, hp.2.1, hp.2.2]; exact ⟨rfl, rfl⟩) ?_⟩) | (refine ⟨by simp [wanted], OpGood.call (by simp [go_sem, hp.1, hp.2.1, hp.2.2]; exact ⟨rfl, rfl⟩) ?_⟩)); exact phi_const (by have := rsamelist_any l l _ _ _ (by have := (HI.out _ hx).tail1; rwa [hai] at this) (HLS.out _ (hxA.trans hx)); rwa [eqB_pos rfl] at this))
      repeat (first | ((with_reducible apply Phi.skip); · (intro ρ wq hx hp hk; simp [KnowsAll, Knows, look, looks, Op.operands, Call.operands, Act.eval] at hk; simp [wanted, undef, hk])) | ((with_reducible apply Phi.pure); · (intro ρ wq hx hp hk; (first | (simp [KnowsAll, Knows, look, looks, Op.operands, Call.operands, Act.eval] at hk; refine ⟨?_, ?_⟩; (· (simp [wanted, undef, hk])); (· (simp [go_sem, hk, hp.1, hp.2.1, hp.2.2, hS wq hx]; rfl))) | (refine ⟨?_, ?_⟩; (· (simp [wanted])); (· (simp [go_sem, hp.1, hp.2.1, hp.2.2, hS wq hx]; rfl)))))))
      refine Phi.make (fun v W => IsD W (dCons a (dList l)) v) (fun v W W' hx h => h.keep hx.keeps) ?_ ?_; · (intro ρ wq hx hp hk; (first | (simp [KnowsAll, Knows, look, looks, Op.operands, Call.operands, Act.eval] at hk; refine ⟨by simp [wanted, hk], OpGood.call (by simp [go_sem, hk, hp.1, hp.2.1, hp.2.2]; exact ⟨rfl, rfl⟩) ?_⟩) | (refine ⟨by simp [wanted], OpGood.call (by simp [go_sem, hp.1, hp.2.1, hp.2.2]; exact ⟨rfl, rfl⟩) ?_⟩)); exact (list_any (a :: l) _ _ ⟨hoa, HOL.out⟩ (by simp; omega) (HI.out _ hx)).mono (fun e w'' ⟨v, he, hx', hv⟩ => ⟨v, he, hx', hv.keep (since_keeps _ _)⟩))
      repeat (first | ((with_reducible apply Phi.skip); · (intro ρ wq hx hp hk; simp [KnowsAll, Knows, look, looks, Op.operands, Call.operands, Act.eval] at hk; simp [wanted, undef, hk])) | ((with_reducible apply Phi.pure); · (intro ρ wq hx hp hk; (first | (simp [KnowsAll, Knows, look, looks, Op.operands, Call.operands, Act.eval] at hk; refine ⟨?_, ?_⟩; (· (simp [wanted, undef, hk])); (· (simp [go_sem, hk, hp.1, hp.2.1, hp.2.2, hS wq hx]; rfl))) | (refine ⟨?_, ?_⟩; (· (simp [wanted])); (· (simp [go_sem, hp.1, hp.2.1, hp.2.2, hS wq hx]; rfl)))))))
      refine Phi.make (fun v _ => v = .bool true) (Stab.const _) ?_ ?_; · (intro ρ wq hx hp hk; (first | (simp [KnowsAll, Knows, look, looks, Op.operands, Call.operands, Act.eval] at hk; refine ⟨by simp [wanted, hk], OpGood.call (by simp [go_sem, hk, hp.1, hp.2.1, hp.2.2]; exact ⟨rfl, rfl⟩) ?_⟩) | (refine ⟨by simp [wanted], OpGood.call (by simp [go_sem, hp.1, hp.2.1, hp.2.2]; exact ⟨rfl, rfl⟩) ?_⟩)); exact phi_const (by have := same_any _ _ _ _ _ hk.1 (HXE.out _ hx); rwa [eqB_pos rfl] at this))
      repeat (first | ((with_reducible apply Phi.skip); · (intro ρ wq hx hp hk; simp [KnowsAll, Knows, look, looks, Op.operands, Call.operands, Act.eval] at hk; simp [wanted, undef, hk])) | ((with_reducible apply Phi.pure); · (intro ρ wq hx hp hk; (first | (simp [KnowsAll, Knows, look, looks, Op.operands, Call.operands, Act.eval] at hk; refine ⟨?_, ?_⟩; (· (simp [wanted, undef, hk])); (· (simp [go_sem, hk, hp.1, hp.2.1, hp.2.2, hS wq hx]; rfl))) | (refine ⟨?_, ?_⟩; (· (simp [wanted])); (· (simp [go_sem, hp.1, hp.2.1, hp.2.2, hS wq hx]; rfl)))))))
      refine Phi.done ?_; intro w2 hx2; simp only [Final, List.nil_append, List.cons_append, forall_eq]
      intro v75 h75
      ((refine hQ9 _ _ ?_); (try refine wpList_nil ?_); (clear hQ9 Q9)); simp only [Act.put, List.setIfInBounds_toArray, List.set_cons_succ, List.set_cons_zero]
      clear h75 hai
      have hxB := hxA.trans hx2
      have b0 := (hx2.block _ (Array.getElem?_eq_some_iff.1 b0).1).trans b0
      have b1 := (hx2.block _ (Array.getElem?_eq_some_iff.1 b1).1).trans b1
      have hc0 := cell_of b0
      have hc1 := cell_of b1
      clear hS b3 hx2
      have hcf := light_count hhf
      have hif := items_count f.count f (Nat.le_refl _)
      go_wp2_with fail
      refine (cons_any a f _ _ _ hoa hof (HAS.out _ hxB) (HFS.out _ hxB)).mono ?_
      rintro e w5 ⟨vC, rfl, hxC, hC⟩
      go_wp2_with fail
      refine (items_any (dCons a f) _ _ (dCons_ok hoa hof) (by rw [items_cons]; simp; omega) (hC.keep (since_keeps _ _))).mono ?_
      rw [endK_cons]
      rintro e w6 ⟨vJ, rfl, hxD, -⟩
      have hxE := (hxB.trans hxC).trans hxD
      have b1 := ((hxC.trans hxD).block _ (Array.getElem?_eq_some_iff.1 b1).1).trans b1
      clear hc0 hc1 hC
      have hc1 := cell_of b1
      go_wp2_with fail
      refine (items_any f _ _ hof (by omega) (HFS.out _ hxE)).mono ?_
      rintro e w7 ⟨vK, rfl, hxF, -⟩
      clear hc1
      go_wp2_with fail
      refine (HW.out _ (hxE.trans hxF)).mono ?_
      rintro e w8 ⟨rfl, hxG⟩
      go_wp2_with fail
      go_ret
      exact ⟨rfl, (hxE.trans hxF).trans hxG⟩
end Go.Proofs.YtajjhhobfjjaeaaDoor
