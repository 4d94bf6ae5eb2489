import Derived.Test.YtajjhhobfjjaeaaDoorPlain2
import Derived.Test.YtajjhhobfjjaeaaDoorKit
namespace Go.Proofs.YtajjhhobfjjaeaaDoor
open Go.RowKit
set_option linter.unusedSimpArgs false
set_option linter.unusedVariables false

/-- The numbers of this layer's heavy. -/
def wp03 : Nat × Nat × Nat × Nat := (3000, 3000, 16, 16)
theorem weigh03_no (d : D) (left : Int) (h : 3000 < d.t.size ∨ 3000 < d.mag.length) : d.weigh wp03 left = -1 := by
  rw [D.weigh_eq]; exact if_pos h
theorem weigh03_go (d : D) (left : Int) (h : ¬ (3000 < d.t.size ∨ 3000 < d.mag.length)) : d.weigh wp03 left = weighs wp03 d.l (left - 1 - (d.t.size / 16 : Nat) - (d.mag.length / 16 : Nat)) := by
  rw [D.weigh_eq]; exact if_neg h
def WeighUpTo (n : Nat) : Prop := ∀ (d : D) (left : Int) (w : World) (v : Value), d.ht ≤ n → d.Ok → 0 ≤ left → left ≤ 3000 → IsD w d v →
    Calls Tryd.prog 31 #[v, .int .i64 left] w fun e w' => e = .returned (.int .i64 (d.weigh wp03 left)) ∧ Ext w w'

set_option maxHeartbeats 2000000 in
theorem weigh_step (n : Nat) (ih : WeighUpTo n) : WeighUpTo (n + 1) := by
  intro d left w v hh hok h0 h1 h
  obtain ⟨am, cm, al, cl, rfl, hm, hl, hm1, hm2, hc1, hc2⟩ := h.open
  unfold maxLen at hc2 hm2
  have hhl : ∀ i (hi : i < d.l.length), d.l[i].ht ≤ n := fun i hi => by have := D.ht_lt hi; omega
  have HH := Lib.hid hhl; clear hhl hh
  have HO := Lib.hid hok.get
  have hts := hok.t
  clear h hok
  by_cases ht : 3000 < d.t.size
  · have HW := Lib.hid (weigh03_no d left (.inl ht))
    have ed : decide ((3000 : Int) < d.t.size) = true := by simp; omega
    go_enter Tryd.func31, Tryd.ntmps31
    go_wp2
    go_ret
    exact ⟨ret_int HW.out.symm, (Ext.refl _).alloc _⟩
  have ed : decide ((3000 : Int) < d.t.size) = false := by simp; omega
  by_cases hmg : 3000 < d.mag.length
  · have HW := Lib.hid (weigh03_no d left (.inr hmg))
    have ed2 : decide ((3000 : Int) < d.mag.length) = true := by simp; omega
    go_enter Tryd.func31, Tryd.ntmps31
    go_wp2
    go_ret
    exact ⟨ret_int HW.out.symm, (Ext.refl _).alloc _⟩
  have ed2 : decide ((3000 : Int) < d.mag.length) = false := by simp; omega
  have HW := Lib.hid (weigh03_go d left (fun h => by omega))
  obtain ⟨q1, hq1⟩ : ∃ q : Nat, q = d.t.size / 16 := ⟨_, rfl⟩
  obtain ⟨q2, hq2⟩ : ∃ q : Nat, q = d.mag.length / 16 := ⟨_, rfl⟩
  have hq1' : q1 ≤ 187 := by omega
  have hq2' : q2 ≤ 187 := by omega
  have f1 : ((d.t.size : Int) / 16) = q1 := by omega
  have f2 : ((d.mag.length : Int) / 16) = q2 := by omega
  rw [← hq1, ← hq2] at HW
  clear hq1 hq2
  go_enter Tryd.func31, Tryd.ntmps31
  go_wp2
  go_loopw [1, 5] (fun s i wr => ∃ (k : Nat), k ≤ d.l.length ∧ i = .int .i64 k ∧ s = .int .i64 (weighs wp03 (d.l.take k) (left - 1 - (q1 : Nat) - (q2 : Nat))) ∧ Ext (w.alloc (.cells #[.int .i64 d.k, .int .i32 d.c, .bool d.neg, .slice am d.mag.length cm, .string d.t, .slice al d.l.length cl] 27)) wr) (fun _ i _ => d.l.length - (intOf i).toNat)
  case atStart => exact ⟨0, Nat.zero_le _, rfl, by simp [weighs], Ext.refl _⟩
  case round =>
    obtain ⟨k, hk, rfl, rfl, hxr⟩ := hrel
    have hx0 : Ext w wr := ((Ext.refl _).alloc _).trans hxr
    have f0 : wr.cell? ⟨w.heap.size, 5, none⟩ = some (.slice al d.l.length cl) := hxr.keeps _ _ (by go_simp)
    have hbd := weighs_bd wp03 375 (by decide) (d.l.take k) (left - 1 - (q1 : Nat) - (q2 : Nat)) (by omega)
    have HSU := Lib.hid (weighs_succ wp03 d.l (left - 1 - (q1 : Nat) - (q2 : Nat)) k)
    have HST := Lib.hid (weighs_stop wp03 d.l (left - 1 - (q1 : Nat) - (q2 : Nat)) k)
    obtain ⟨s, hs⟩ : ∃ s, s = weighs wp03 (d.l.take k) (left - 1 - (q1 : Nat) - (q2 : Nat)) := ⟨_, rfl⟩
    rw [← hs] at hbd HSU HST ⊢
    have HS := Lib.hid hs; clear hs
    obtain ⟨hb1, hb2⟩ := hbd
    by_cases hlt : k < d.l.length
    · obtain ⟨b, o, rfl, hcell⟩ := hl.get k hlt
      obtain ⟨am', cm', al', cl', c0, c1, c2, c3, c4, c5, hm', hl'⟩ := hcell.keep hx0.keeps
      by_cases hneg : s < 0
      · have ed3 : decide ((0 : Int) ≤ s) = false := by simp; omega
        go_wp2_with fail
        go_ret
        exact ⟨ret_int (by rw [HW.out]; exact (HST.out hneg).symm), hx0⟩
      · have ed3 : decide ((0 : Int) ≤ s) = true := by simp; omega
        have hs0 : 0 ≤ s := by omega
        go_wp2_with fail
        refine (ih d.l[k] s _ _ (HH.out k hlt) (HO.out k hlt) hs0 (by omega) (IsD.mk' hm' hl')).mono ?_
        rintro e w2 ⟨rfl, hx2⟩
        go_wp2_with fail
        go_roundw
        case rel => exact ⟨k + 1, by omega, by go_num, by rw [HSU.out hlt hneg], hxr.trans hx2⟩
        case measure => simp [intOf]; omega
    · have ed4 : decide ((k : Int) < d.l.length) = false := by simp; omega
      go_wp2_with fail
      go_ret
      exact ⟨ret_int (by rw [HW.out, HS.out, List.take_of_length_le (by omega)]), hx0⟩
theorem weigh_upto : ∀ n, WeighUpTo n
  | 0 => fun d _ _ _ h => absurd h (by cases d; rw [D.ht]; omega)
  | n + 1 => weigh_step n (weigh_upto n)
theorem weigh_any (d : D) (left : Int) (w : World) (v : Value) (hok : d.Ok) (h0 : 0 ≤ left) (h1 : left ≤ 3000) (h : IsD w d v) :
    Calls Tryd.prog 31 #[v, .int .i64 left] w fun e w' => e = .returned (.int .i64 (d.weigh wp03 left)) ∧ Ext w w' := weigh_upto d.ht d left w v (Nat.le_refl _) hok h0 h1 h
/-- Is it heavy? -/
def D.heavy (d : D) : Bool := decide (d.weigh wp03 3000 < 0)
theorem heavy_any (d : D) (w : World) (v : Value) (hok : d.Ok) (h : IsD w d v) :
    Calls Tryd.prog 9 #[v] w fun e w' => e = .returned (.bool d.heavy) ∧ Ext w w' := by
  obtain ⟨am, cm, al, cl, rfl, hm, hl, -, -, -, -⟩ := h.open
  have HC := Lib.hid (fun W hx => weigh_any d 3000 W _ hok (by omega) (by omega) (IsD.mk' (IsMag.keep (Ext.keeps (w := w) hx) hm) (IsDs.keep (Ext.keeps hx) hl)))
  clear hok h
  go_enter Tryd.func9, Tryd.ntmps9
  go_wp2_with fail
  refine (HC.out _ ((Ext.refl _).alloc _)).mono ?_
  rintro e w2 ⟨rfl, hx2⟩
  go_wp2_with fail
  go_ret
  exact ⟨rfl, ((Ext.refl _).alloc _).trans hx2⟩
theorem light_count {d : D} (h : d.heavy = false) : d.count ≤ 3000 := by
  have h1 : ¬ d.weigh wp03 3000 < 0 := by simpa [D.heavy] using h
  have := weigh_count wp03 d 3000 (by omega)
  omega
end Go.Proofs.YtajjhhobfjjaeaaDoor
