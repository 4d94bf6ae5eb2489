import Derived.Test.YtajjhhobfjjaeaaDoorPlain2
import Derived.Test.YtajjhhobfjjaeaaDoorKit
namespace Go.Proofs.YtajjhhobfjjaeaaDoor
open Go.RowKit
set_option linter.unusedSimpArgs false
set_option linter.unusedVariables false

def CountUpTo (n : Nat) : Prop := ∀ (d : D) (w : World) (v : Value), d.ht ≤ n → d.count < 1000000000 → IsD w d v →
    Calls Tryd.prog 16 #[v] w fun e w' => e = .returned (.int .i64 d.count) ∧ Ext w w'

set_option maxHeartbeats 1000000 in
theorem count_step (n : Nat) (ih : CountUpTo n) : CountUpTo (n + 1) := by
  intro d w v hh hb h
  obtain ⟨am, cm, al, cl, rfl, hm, hl, -, -, hc1, hc2⟩ := h.open
  unfold maxLen at hc2
  have hhl : ∀ i (hi : i < d.l.length), d.l[i].ht ≤ n := fun i hi => by have := D.ht_lt hi; omega
  have HH := Lib.hid hhl; clear hhl hh
  have he := d.count_eq
  have hb' : cnts d.l < 1000000000 := by omega
  have HE := Lib.hid he; clear he
  rw [HE.out]
  clear h hb
  go_enter Tryd.func16, Tryd.ntmps16
  go_wp2
  go_loopw [3, 9] (fun s i wr => ∃ k : Nat, k ≤ d.l.length ∧ i = .int .i64 k ∧ s = .int .i64 ((1 + cnts (d.l.take k) : Nat) : Int) ∧ Ext w wr) (fun _ i _ => d.l.length - (intOf i).toNat)
  case atStart => exact ⟨0, Nat.zero_le _, rfl, rfl, (Ext.refl _).alloc _⟩
  case round =>
    obtain ⟨k, hk, rfl, rfl, hxr⟩ := hrel
    by_cases hlt : k < d.l.length
    · obtain ⟨b, o, rfl, hcell⟩ := hl.get k hlt
      obtain ⟨am', cm', al', cl', c0, c1, c2, c3, c4, c5, hm', hl'⟩ := hcell.keep hxr.keeps
      have hs := cnts_le d.l k
      have hs1 := cnts_le d.l (k + 1)
      have hs2 := Lib.hid (cnts_succ d.l k hlt)
      have hcb : d.l[k].count < 1000000000 := by have := hs2.out; omega
      go_wp2_with fail
      refine (ih d.l[k] _ _ (HH.out k hlt) (by have := hs2.out; omega) (IsD.mk' (hm'.keep ((Ext.refl _).alloc _).keeps) (hl'.keep ((Ext.refl _).alloc _).keeps))).mono ?_
      rintro e w2 ⟨rfl, hx2⟩
      go_wp2
      go_roundw
      case rel => exact ⟨k + 1, by omega, by go_num, by rw [hs2.out]; go_num, (hxr.alloc _).trans hx2⟩
      case measure => simp [intOf]; omega
    · go_wp2
      go_ret
      exact ⟨by rw [List.take_of_length_le (by omega)]; rfl, hxr⟩
theorem count_upto : ∀ n, CountUpTo n
  | 0 => fun d _ _ h => absurd h (by cases d; rw [D.ht]; omega)
  | n + 1 => count_step n (count_upto n)
theorem count_any (d : D) (w : World) (v : Value) (hb : d.count < 1000000000) (h : IsD w d v) :
    Calls Tryd.prog 16 #[v] w fun e w' => e = .returned (.int .i64 d.count) ∧ Ext w w' := count_upto d.ht d w v (Nat.le_refl _) hb h

def RCountUpTo (n : Nat) : Prop := ∀ (d : D) (w : World) (v : Value), d.ht ≤ n → d.count < 1000000000 → IsD w d v →
    Calls Tryd.prog 17 #[v] w fun e w' => e = .returned (.int .i64 d.count) ∧ Ext w w'

set_option maxHeartbeats 1000000 in
theorem rcount_step (n : Nat) (ih : RCountUpTo n) : RCountUpTo (n + 1) := by
  intro d w v hh hb h
  obtain ⟨am, cm, al, cl, rfl, hm, hl, -, -, hc1, hc2⟩ := h.open
  unfold maxLen at hc2
  have hhl : ∀ i (hi : i < d.l.length), d.l[i].ht ≤ n := fun i hi => by have := D.ht_lt hi; omega
  have HH := Lib.hid hhl; clear hhl hh
  have he := d.count_eq
  have hb' : cnts d.l < 1000000000 := by omega
  have HE := Lib.hid he; clear he
  rw [HE.out]
  clear h hb
  go_enter Tryd.func17, Tryd.ntmps17
  go_wp2
  go_loopw [3, 4] (fun s i wr => ∃ k : Nat, k ≤ d.l.length ∧ i = .int .i64 k ∧ s = .int .i64 ((1 + cnts (d.l.take k) : Nat) : Int) ∧ Ext (w.alloc (.cells #[.int .i64 d.k, .int .i32 d.c, .bool d.neg, .slice am d.mag.length cm, .string d.t, .slice al d.l.length cl] 27)) wr) (fun _ i _ => d.l.length - (intOf i).toNat)
  case atStart => exact ⟨0, Nat.zero_le _, rfl, rfl, Ext.refl _⟩
  case round =>
    obtain ⟨k, hk, rfl, rfl, hxr⟩ := hrel
    have hx0 : Ext w wr := ((Ext.refl _).alloc _).trans hxr
    have f0 : wr.cell? ⟨w.heap.size, 5, none⟩ = some (.slice al d.l.length cl) := hxr.keeps _ _ (by go_simp)
    by_cases hlt : k < d.l.length
    · obtain ⟨b, o, rfl, hcell⟩ := hl.get k hlt
      obtain ⟨am', cm', al', cl', c0, c1, c2, c3, c4, c5, hm', hl'⟩ := hcell.keep hx0.keeps
      have hs := cnts_le d.l k
      have hs1 := cnts_le d.l (k + 1)
      have hs2 := Lib.hid (cnts_succ d.l k hlt)
      have hcb : d.l[k].count < 1000000000 := by have := hs2.out; omega
      go_wp2_with fail
      refine (ih d.l[k] _ _ (HH.out k hlt) (by have := hs2.out; omega) (IsD.mk' hm' hl')).mono ?_
      rintro e w2 ⟨rfl, hx2⟩
      go_wp2
      go_roundw
      case rel => exact ⟨k + 1, by omega, by go_num, by rw [hs2.out]; go_num, hxr.trans hx2⟩
      case measure => simp [intOf]; omega
    · go_wp2
      go_ret
      exact ⟨by rw [List.take_of_length_le (by omega)]; rfl, hx0⟩
theorem rcount_upto : ∀ n, RCountUpTo n
  | 0 => fun d _ _ h => absurd h (by cases d; rw [D.ht]; omega)
  | n + 1 => rcount_step n (rcount_upto n)
theorem rcount_any (d : D) (w : World) (v : Value) (hb : d.count < 1000000000) (h : IsD w d v) :
    Calls Tryd.prog 17 #[v] w fun e w' => e = .returned (.int .i64 d.count) ∧ Ext w w' := rcount_upto d.ht d w v (Nat.le_refl _) hb h
end Go.Proofs.YtajjhhobfjjaeaaDoor
