import Derived.Test.YtajjhhobfjjaeaaDoorRef1
namespace Go.Proofs.YtajjhhobfjjaeaaDoor
open Go.RowKit
set_option linter.unusedSimpArgs false
set_option linter.unusedVariables false

set_option maxHeartbeats 4000000 in
theorem bare0_any (d : D) (w : World) (v : Value) (h : IsD w d v) : Calls Tryd.prog 47 #[v, .int .i64 0] w fun e w' => e = .returned (.bool (bareB false false false false d)) ∧ Ext w w' := by
  obtain ⟨am, cm, al, cl, rfl, -, -, -, hm, -, hl⟩ := h.open
  unfold maxLen at hm hl
  clear h
  have hx0 := (Ext.refl w).alloc (.cells #[.int .i64 d.k, .int .i32 d.c, .bool d.neg, .slice am d.mag.length cm, .string d.t, .slice al d.l.length cl] 27)
  have e1 : (d.c == 0) = decide (d.c = 0) := by rfl
  have e3 := len0 d.mag.length
  have e4 := str0 d.t
  have e5 := len0 d.l.length
  have b1 : (bits BinOp.and IntKind.i64 1 1 != 0) = true := by decide
  have b2 : (bits BinOp.and IntKind.i64 2 2 != 0) = true := by decide
  have b4 : (bits BinOp.and IntKind.i64 4 4 != 0) = true := by decide
  have b8 : (bits BinOp.and IntKind.i64 8 8 != 0) = true := by decide
  unfold bareB
  generalize decide (d.c = 0) = c1 at *
  generalize decide (d.mag.length = 0) = c3 at *
  generalize decide (d.t.size = 0) = c4 at *
  generalize decide (d.l.length = 0) = c5 at *
  generalize d.neg = c2 at *
  cases c1
  case false =>
    skip
    all_goals (go_enter Tryd.func47, Tryd.ntmps47; go_wp2_with fail; go_ret; exact ⟨ret_bool (by simp), hx0⟩)
  cases c2
  case true =>
    skip
    all_goals (go_enter Tryd.func47, Tryd.ntmps47; go_wp2_with fail; go_ret; exact ⟨ret_bool (by simp), hx0⟩)
  cases c3
  case false =>
    skip
    all_goals (go_enter Tryd.func47, Tryd.ntmps47; go_wp2_with fail; go_ret; exact ⟨ret_bool (by simp), hx0⟩)
  cases c4
  all_goals (go_enter Tryd.func47, Tryd.ntmps47; go_wp2_with fail; go_ret; exact ⟨ret_bool (by simp), hx0⟩)
set_option maxHeartbeats 4000000 in
theorem bare1_any (d : D) (w : World) (v : Value) (h : IsD w d v) : Calls Tryd.prog 47 #[v, .int .i64 1] w fun e w' => e = .returned (.bool (bareB true false false false d)) ∧ Ext w w' := by
  obtain ⟨am, cm, al, cl, rfl, -, -, -, hm, -, hl⟩ := h.open
  unfold maxLen at hm hl
  clear h
  have hx0 := (Ext.refl w).alloc (.cells #[.int .i64 d.k, .int .i32 d.c, .bool d.neg, .slice am d.mag.length cm, .string d.t, .slice al d.l.length cl] 27)
  have e1 : (d.c == 0) = decide (d.c = 0) := by rfl
  have e3 := len0 d.mag.length
  have e4 := str0 d.t
  have e5 := len0 d.l.length
  have b1 : (bits BinOp.and IntKind.i64 1 1 != 0) = true := by decide
  have b2 : (bits BinOp.and IntKind.i64 2 2 != 0) = true := by decide
  have b4 : (bits BinOp.and IntKind.i64 4 4 != 0) = true := by decide
  have b8 : (bits BinOp.and IntKind.i64 8 8 != 0) = true := by decide
  unfold bareB
  generalize decide (d.c = 0) = c1 at *
  generalize decide (d.mag.length = 0) = c3 at *
  generalize decide (d.t.size = 0) = c4 at *
  generalize decide (d.l.length = 0) = c5 at *
  generalize d.neg = c2 at *
  cases c1
  case false =>
    cases c2 <;> cases c3 <;> cases c4
    all_goals (go_enter Tryd.func47, Tryd.ntmps47; go_wp2_with fail; go_ret; exact ⟨ret_bool (by simp), hx0⟩)
  cases c2
  case true =>
    skip
    all_goals (go_enter Tryd.func47, Tryd.ntmps47; go_wp2_with fail; go_ret; exact ⟨ret_bool (by simp), hx0⟩)
  cases c3
  case false =>
    skip
    all_goals (go_enter Tryd.func47, Tryd.ntmps47; go_wp2_with fail; go_ret; exact ⟨ret_bool (by simp), hx0⟩)
  cases c4
  all_goals (go_enter Tryd.func47, Tryd.ntmps47; go_wp2_with fail; go_ret; exact ⟨ret_bool (by simp), hx0⟩)
set_option maxHeartbeats 4000000 in
theorem bare2_any (d : D) (w : World) (v : Value) (h : IsD w d v) : Calls Tryd.prog 47 #[v, .int .i64 2] w fun e w' => e = .returned (.bool (bareB false true false false d)) ∧ Ext w w' := by
  obtain ⟨am, cm, al, cl, rfl, -, -, -, hm, -, hl⟩ := h.open
  unfold maxLen at hm hl
  clear h
  have hx0 := (Ext.refl w).alloc (.cells #[.int .i64 d.k, .int .i32 d.c, .bool d.neg, .slice am d.mag.length cm, .string d.t, .slice al d.l.length cl] 27)
  have e1 : (d.c == 0) = decide (d.c = 0) := by rfl
  have e3 := len0 d.mag.length
  have e4 := str0 d.t
  have e5 := len0 d.l.length
  have b1 : (bits BinOp.and IntKind.i64 1 1 != 0) = true := by decide
  have b2 : (bits BinOp.and IntKind.i64 2 2 != 0) = true := by decide
  have b4 : (bits BinOp.and IntKind.i64 4 4 != 0) = true := by decide
  have b8 : (bits BinOp.and IntKind.i64 8 8 != 0) = true := by decide
  unfold bareB
  generalize decide (d.c = 0) = c1 at *
  generalize decide (d.mag.length = 0) = c3 at *
  generalize decide (d.t.size = 0) = c4 at *
  generalize decide (d.l.length = 0) = c5 at *
  generalize d.neg = c2 at *
  cases c1
  case false =>
    skip
    all_goals (go_enter Tryd.func47, Tryd.ntmps47; go_wp2_with fail; go_ret; exact ⟨ret_bool (by simp), hx0⟩)
  cases c2
  case true =>
    cases c4
    all_goals (go_enter Tryd.func47, Tryd.ntmps47; go_wp2_with fail; go_ret; exact ⟨ret_bool (by simp), hx0⟩)
  cases c3
  case false =>
    cases c4
    all_goals (go_enter Tryd.func47, Tryd.ntmps47; go_wp2_with fail; go_ret; exact ⟨ret_bool (by simp), hx0⟩)
  cases c4
  all_goals (go_enter Tryd.func47, Tryd.ntmps47; go_wp2_with fail; go_ret; exact ⟨ret_bool (by simp), hx0⟩)
set_option maxHeartbeats 4000000 in
theorem bare4_any (d : D) (w : World) (v : Value) (h : IsD w d v) : Calls Tryd.prog 47 #[v, .int .i64 4] w fun e w' => e = .returned (.bool (bareB false false true false d)) ∧ Ext w w' := by
  obtain ⟨am, cm, al, cl, rfl, -, -, -, hm, -, hl⟩ := h.open
  unfold maxLen at hm hl
  clear h
  have hx0 := (Ext.refl w).alloc (.cells #[.int .i64 d.k, .int .i32 d.c, .bool d.neg, .slice am d.mag.length cm, .string d.t, .slice al d.l.length cl] 27)
  have e1 : (d.c == 0) = decide (d.c = 0) := by rfl
  have e3 := len0 d.mag.length
  have e4 := str0 d.t
  have e5 := len0 d.l.length
  have b1 : (bits BinOp.and IntKind.i64 1 1 != 0) = true := by decide
  have b2 : (bits BinOp.and IntKind.i64 2 2 != 0) = true := by decide
  have b4 : (bits BinOp.and IntKind.i64 4 4 != 0) = true := by decide
  have b8 : (bits BinOp.and IntKind.i64 8 8 != 0) = true := by decide
  unfold bareB
  generalize decide (d.c = 0) = c1 at *
  generalize decide (d.mag.length = 0) = c3 at *
  generalize decide (d.t.size = 0) = c4 at *
  generalize decide (d.l.length = 0) = c5 at *
  generalize d.neg = c2 at *
  cases c1
  case false =>
    skip
    all_goals (go_enter Tryd.func47, Tryd.ntmps47; go_wp2_with fail; go_ret; exact ⟨ret_bool (by simp), hx0⟩)
  cases c2
  case true =>
    skip
    all_goals (go_enter Tryd.func47, Tryd.ntmps47; go_wp2_with fail; go_ret; exact ⟨ret_bool (by simp), hx0⟩)
  cases c3
  case false =>
    skip
    all_goals (go_enter Tryd.func47, Tryd.ntmps47; go_wp2_with fail; go_ret; exact ⟨ret_bool (by simp), hx0⟩)
  cases c4
  all_goals (go_enter Tryd.func47, Tryd.ntmps47; go_wp2_with fail; go_ret; exact ⟨ret_bool (by simp), hx0⟩)
set_option maxHeartbeats 4000000 in
theorem bare8_any (d : D) (w : World) (v : Value) (h : IsD w d v) : Calls Tryd.prog 47 #[v, .int .i64 8] w fun e w' => e = .returned (.bool (bareB false false false true d)) ∧ Ext w w' := by
  obtain ⟨am, cm, al, cl, rfl, -, -, -, hm, -, hl⟩ := h.open
  unfold maxLen at hm hl
  clear h
  have hx0 := (Ext.refl w).alloc (.cells #[.int .i64 d.k, .int .i32 d.c, .bool d.neg, .slice am d.mag.length cm, .string d.t, .slice al d.l.length cl] 27)
  have e1 : (d.c == 0) = decide (d.c = 0) := by rfl
  have e3 := len0 d.mag.length
  have e4 := str0 d.t
  have e5 := len0 d.l.length
  have b1 : (bits BinOp.and IntKind.i64 1 1 != 0) = true := by decide
  have b2 : (bits BinOp.and IntKind.i64 2 2 != 0) = true := by decide
  have b4 : (bits BinOp.and IntKind.i64 4 4 != 0) = true := by decide
  have b8 : (bits BinOp.and IntKind.i64 8 8 != 0) = true := by decide
  unfold bareB
  generalize decide (d.c = 0) = c1 at *
  generalize decide (d.mag.length = 0) = c3 at *
  generalize decide (d.t.size = 0) = c4 at *
  generalize decide (d.l.length = 0) = c5 at *
  generalize d.neg = c2 at *
  cases c1
  case false =>
    skip
    all_goals (go_enter Tryd.func47, Tryd.ntmps47; go_wp2_with fail; go_ret; exact ⟨ret_bool (by simp), hx0⟩)
  cases c2
  case true =>
    skip
    all_goals (go_enter Tryd.func47, Tryd.ntmps47; go_wp2_with fail; go_ret; exact ⟨ret_bool (by simp), hx0⟩)
  cases c3
  case false =>
    skip
    all_goals (go_enter Tryd.func47, Tryd.ntmps47; go_wp2_with fail; go_ret; exact ⟨ret_bool (by simp), hx0⟩)
  cases c4
  all_goals (go_enter Tryd.func47, Tryd.ntmps47; go_wp2_with fail; go_ret; exact ⟨ret_bool (by simp), hx0⟩)
end Go.Proofs.YtajjhhobfjjaeaaDoor
