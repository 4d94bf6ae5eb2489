
import Derived.Test.YtpacdmgnpadleaaDoorCopy
namespace Go.Proofs.YtpacdmgnpadleaaDoor
open Go.RowKit
set_option linter.unusedSimpArgs false
set_option linter.unusedVariables false

/-- What is claimed of moraineref03.Copy, of trees up to a height. -/
def RCopyUpTo (n : Nat) : Prop := ∀ (d : D) (w : World) (v : Value), d.ht ≤ n → d.Ok → IsD w d v →
  Calls Tryd.prog 24 #[v] w fun e w' => ∃ v', e = .returned v' ∧ Ext w w' ∧ IsD (since w' w.heap.size) d v'

set_option maxHeartbeats 2000000 in
theorem rcopy_step (n : Nat) (ih : RCopyUpTo n) : RCopyUpTo (n + 1) := by
  intro d w v hh hok h
  obtain ⟨am, cm, al, cl, rfl, hm, hl, hm1, hm2, hc1, hc2⟩ := h.open
  unfold maxLen at hc2 hm2
  have hhl : ∀ i (hi : i < d.l.length), d.l[i].ht ≤ n := fun i hi => by have := D.ht_lt hi; omega
  have HH := Lib.hid hhl; clear hhl hh
  have HO := Lib.hid hok.get
  obtain ⟨i0, hi, hz0, hz1, hz2⟩ := info_parts infoD
  have hlb := hok.lLen
  have hmb := hok.magLen
  obtain ⟨j0, hj, hj0, hj1, hj2⟩ := info_parts info32
  obtain ⟨ao, cap, news, hvm, hcap, hlc, hnone, hlen, hcells, hrd⟩ := Rd.source hm (mag_wid d.mag)
  rw [List.length_map] at *
  injection hvm with q1 q2 q3
  subst q1 q3
  have q1 : (d.mag.map fun n => V.val (.int .u32 n)).length = d.mag.length := by simp
  have q4 : ∀ W, Ext w W → ∀ a, am = some a → ∀ (j : Nat) (u : Value), news[j]? = some u → W.cell? (a.add j) = some u := fun W hW a ha j u hu => hW.keeps _ _ (hcells a ha j u hu)
  have HQ := Lib.hid (And.intro q1 q4); clear q1 q4 q2
  have HR := Lib.hid hrd; clear hrd hcells
  have HN := Lib.hid hnone; clear hnone
  have hx0 := (((Ext.refl w).alloc (.cells #[.int .i64 d.k, .int .i32 d.c, .bool d.neg, .slice am d.mag.length cm, .string d.t, .slice al d.l.length cl] 31)).alloc (.cells #[.int .i64 0, .int .i32 0, .bool false, .slice none 0 0, .string ⟨#[]⟩, .slice none 0 0] 31)).alloc (.cells #[] 93)
  have HM := Lib.hid (show Own (World.alloc ((w.alloc (.cells #[.int .i64 d.k, .int .i32 d.c, .bool d.neg, .slice am d.mag.length cm, .string d.t, .slice al d.l.length cl] 31)).alloc (.cells #[.int .i64 0, .int .i32 0, .bool false, .slice none 0 0, .string ⟨#[]⟩, .slice none 0 0] 31)) (.cells #[] 93)) (w.heap.size + 2) 93 1 [] (.slice (some ⟨w.heap.size + 1 + 1, 0, none⟩) 0 0) by have := Own.made ((w.alloc (.cells #[.int .i64 d.k, .int .i32 d.c, .bool d.neg, .slice am d.mag.length cm, .string d.t, .slice al d.l.length cl] 31)).alloc (.cells #[.int .i64 0, .int .i32 0, .bool false, .slice none 0 0, .string ⟨#[]⟩, .slice none 0 0] 31)) (w.heap.size + 2) 93 1 #[] 0 (by simp) (Nat.zero_le _) rfl; simp only [World.size_alloc] at this; exact this)
  go_enter Tryd.func24, Tryd.ntmps24
  go_wp2_with (
      at_builtin
      go_must (
      refine wpList_append_Own rfl (.tmp 5) (.tmp 8) 26 rfl (w.heap.size + 2) 93 j0 (.int .u32 0) 1 4 Tryd.underlying26 hj hj0 hj1 hj2 rfl (by decide) _ [] rfl HM.out am d.mag.length cm news (d.mag.map fun n => V.val (.int .u32 n)) rfl HQ.out.1 HN.out hlen (HQ.out.2 _ hx0) (RdAll.plain (mag_plain d.mag) HR.out) (mag_rd HR.out) (by simp [maxLen]; omega) (by simp; omega) (by simp) ?_
      intro vm' wc hown' hg hb
      obtain ⟨am', cm', rfl, -, -⟩ := hown'.form
      have hmag : IsMag (since wc (w.heap.size + 2)) d.mag (.slice am' ([] ++ d.mag.map fun n => V.val (.int .u32 n)).length cm') := by have := hown'.reads; rw [List.nil_append] at this ⊢; exact this
      rw [List.nil_append, List.length_map] at hmag ⊢
      have b0 : wc.heap[w.heap.size]? = some (.cells #[.int .i64 d.k, .int .i32 d.c, .bool d.neg, .slice am d.mag.length cm, .string d.t, .slice al d.l.length cl] 31 (0, 0)) := by rw [hb.block _ (by omega), Below.heap_alloc _ _ _ (by simp; omega)]; exact heap_new0 _ _ _
      have b1 : wc.heap[w.heap.size + 1]? = some (.cells #[.int .i64 0, .int .i32 0, .bool false, .slice none 0 0, .string ⟨#[]⟩, .slice none 0 0] 31 (0, 0)) := by rw [hb.block _ (by omega), Below.heap_alloc _ _ _ (by simp)]; exact heap_new1 _ _ _
      have hxc : Ext w wc := hx0.below (hb.mono (by omega))
      have hszc : w.heap.size + 3 ≤ wc.heap.size := by have := hb.size; simpa using this
      clear hown' hg hb
      have hc0 := cell_of b0
      have hf0 := frozen_of b0
      have hx1 : Ext w (wc.setCell ⟨w.heap.size, 3, none⟩ (.slice am' d.mag.length cm')) := hxc.setCell (Nat.le_refl _) _
      have b0' := heap_set b0 (o := 3) (.slice am' d.mag.length cm')
      have b1' : (wc.setCell ⟨w.heap.size, 3, none⟩ (.slice am' d.mag.length cm')).heap[w.heap.size + 1]? = _ := (heap_set_ne (by simp) _).trans b1
      have hsz : w.heap.size + 2 ≤ wc.heap.size := by omega
      have hmag' : IsMag (since (wc.setCell ⟨w.heap.size, 3, none⟩ (.slice am' d.mag.length cm')) (w.heap.size + 2)) d.mag (.slice am' d.mag.length cm') := by
        have := hmag.keep (since_setCell wc (p := ⟨w.heap.size, 3, none⟩) (by simp) (.slice am' d.mag.length cm'))
        simpa using this
      have B := Lib.hid (And.intro hx1 (And.intro b0' (And.intro b1' hmag'))); clear hx1 b0' b1' b0 b1 hmag hmag' hxc
      have hsz' : w.heap.size + 2 ≤ (wc.setCell ⟨w.heap.size, 3, none⟩ (.slice am' d.mag.length cm')).heap.size := by simpa using hsz))
  generalize hw1 : wc.setCell ⟨w.heap.size, 3, none⟩ (.slice am' d.mag.length cm') = w1 at *
  clear hc0 hf0 hsz
  have W1 := Lib.hid hw1; clear hw1
  obtain ⟨hx1, b0, b1, hmag⟩ := B.out
  have HB := Lib.hid (And.intro b0 (And.intro b1 hmag)); clear B b0 b1 hmag
  go_loopw [3, 4] (fun s i wr => ∃ k : Nat, k ≤ d.l.length ∧ i = .int .i64 k ∧ Ext w1 wr ∧ Own wr w1.heap.size 31 6 ((d.l.take k).map D.v) s) (fun _ i _ => d.l.length - (intOf i).toNat)
  case atStart => exact ⟨0, Nat.zero_le _, rfl, Ext.refl _, by simpa using Own.nil _ _ _ _⟩
  case round =>
    obtain ⟨k, hk, rfl, hxr, hown⟩ := hrel
    have hx2 := hx1.trans hxr
    have hc5 : wr.cell? ⟨w.heap.size, 5, none⟩ = some (.slice al d.l.length cl) := by have := cell_of ((hxr.block _ (by omega)).trans HB.out.1) 5; simpa using this
    by_cases hlt : k < d.l.length
    · obtain ⟨b, o, rfl, hcell⟩ := hl.get k hlt
      obtain ⟨am2, cm2, al2, cl2, c0, c1, c2, c3, c4, c5, hm2, hl2⟩ := hcell.keep hx2.keeps
      have HOWN := Lib.hid hown; clear hown
      have hxb := Ext.refl wr
      go_wp2_with fail
      refine (ih d.l[k] _ _ (HH.out k hlt) (HO.out k hlt) (IsD.mk' (hm2.keep hxb.keeps) (hl2.keep hxb.keeps))).mono ?_
      rintro e w2 ⟨v', rfl, hx3, hv'⟩
      obtain ⟨am3, cm3, al3, cl3, rfl, -, -, -, -, -, -⟩ := hv'.open
      have hv2 : Rd (since w2 wr.heap.size) d.l[k].v [.int .i64 d.l[k].k, .int .i32 d.l[k].c, .bool d.l[k].neg, .slice am3 d.l[k].mag.length cm3, .string d.l[k].t, .slice al3 d.l[k].l.length cl3] := by
        obtain ⟨cs, e, hr⟩ := hv'
        have e' : cs = [.int .i64 d.l[k].k, .int .i32 d.l[k].c, .bool d.l[k].neg, .slice am3 d.l[k].mag.length cm3, .string d.l[k].t, .slice al3 d.l[k].l.length cl3] := by
          have := congrArg Array.toList (Value.agg.inj e)
          simpa using this.symm
        subst e'
        exact hr
      have HV := Lib.hid (And.intro hv2 (hxb.trans hx3)); clear hv' hv2
      have hle1 := hxr.le
      go_wp2_with (at_builtin; refine wpList_append_new (w := wr) (w2 := w2) rfl _ _ 29 rfl w1.heap.size 31 i0 _ 6 88 Tryd.underlying29 hi hz0 hz1 hz2 rfl (by decide) _ _ rfl HOWN.out hle1 HV.out.2 _ d.l[k].v _ rfl rfl (D.plain_v _) HV.out.1 (by simp [maxLen]; omega) (by simp; omega) ?_; intro v2 w3 hown' hb; have H1 := Lib.hid hown'; have H2 := Lib.hid hb; clear hown' hb)
      go_roundw
      case rel =>
        refine ⟨k + 1, hlt, by go_num, ?_, ?_⟩
        · exact ((hxr.trans HV.out.2).alloc _).below H2.out
        · rw [List.take_succ_eq_append_getElem hlt, List.map_append]; exact H1.out
      case measure => simp [intOf]; omega
    · obtain ⟨b0, b1, hmag⟩ := HB.out
      have b0 := (hxr.block _ (by omega)).trans b0
      have b1 := (hxr.block _ (by omega)).trans b1
      have hc0 := cell_of b0
      have hf0 := frozen_of b0
      have hc1 := cell_of b1
      have hf1 := frozen_of b1
      rw [List.take_of_length_le (by omega)] at hown
      obtain ⟨al', cl', rfl, -, -⟩ := hown.form
      rw [List.length_map] at hown ⊢
      have HF := Lib.hid (And.intro hmag hown); clear hmag hown b0 b1 HB
      go_wp2_with fail
      refine bodyPost_ret (v := .agg #[.int .i64 d.k, .int .i32 d.c, .bool d.neg, .slice am' d.mag.length cm', .string d.t, .slice al' d.l.length cl']) (by simp [results, Tryd.results24, go_sem, hc1]) rfl ⟨_, rfl, ?_, ?_⟩
      · repeat (with_reducible refine Ext.setCell ?_ ?hh _; case hh => simp)
        exact hx2
      · have hK : ∀ W, Keeps (since wr (w.heap.size + 2)) (since W (w.heap.size + 2)) → Keeps (since wr (w.heap.size + 2)) (since W w.heap.size) := fun W h => h.trans (since_mono _ (by omega))
        refine IsD.mk' ?_ ?_
        · refine (HF.out.1.keep (since_ext _ hxr)).keep (hK _ ?_)
          repeat (with_reducible refine Keeps.trans ?_ (since_setCell _ ?hh _); case hh => simp)
          exact Keeps.refl _
        · refine IsDs.keep (hK _ ?_) (Rd.keep (since_mono _ hsz') HF.out.2.reads)
          repeat (with_reducible refine Keeps.trans ?_ (since_setCell _ ?hh _); case hh => simp)
          exact Keeps.refl _
theorem rcopy_upto : ∀ n, RCopyUpTo n
  | 0 => fun d _ _ h => absurd h (by cases d; rw [D.ht]; omega)
  | n + 1 => rcopy_step n (rcopy_upto n)
theorem rcopy_any (d : D) (w : World) (v : Value) (hok : d.Ok) (h : IsD w d v) :
    Calls Tryd.prog 24 #[v] w fun e w' => ∃ v', e = .returned v' ∧ Ext w w' ∧ IsD (since w' w.heap.size) d v' := rcopy_upto d.ht d w v (Nat.le_refl _) hok h
end Go.Proofs.YtpacdmgnpadleaaDoor
