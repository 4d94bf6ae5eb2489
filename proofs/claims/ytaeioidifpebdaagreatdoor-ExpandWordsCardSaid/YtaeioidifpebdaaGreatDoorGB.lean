/-
 Laid together: ReadK, Glb18, Wit18.
-/
import Derived.Test.YtaeioidifpebdaaGreatDoorArgs
import Derived.Test.YtaeioidifpebdaaGreatDoorG5
import Derived.Test.YtaeioidifpebdaaGreatDoorG3
import Derived.Test.YtaeioidifpebdaaGreatDoorG1
import Derived.Test.YtaeioidifpebdaaGreatDoorRows
import Derived.LaidLaws
import Derived.Lib.LaidU8T
import Derived.KernelRfl
import Derived.Lib.LaidIn
section
namespace Go.Proofs.YtaeioidifpebdaaGreatDoor
open Go Go.ChangeShapes Go.WideShapes Go.ChangeAt Go.RowKit
set_option linter.unusedSimpArgs false
set_option linter.unusedVariables false
set_option maxRecDepth 100000
section
variable {H : Type} {enc : TypeId × Value → H} {w : World} {base : Nat} {spare : Nat → Bool} {held : Bool}
theorem readSlC {α : Type} (f : α → List C) (good : α → Prop) {P : Program} {t e : TypeId} {n wd : Nat} {cs : List Value} {x : DataW H × List MemPlace} (ht : P.underlying t = some (.slice e)) (hs : 0 < P.cellsOf e) (hf : ∀ a, (f a).length = wd)
  (hread : ∀ m cs x, m < n → DataW.trod enc P w base spare held m e cs = some x → (∀ k ∈ x.1.weights P e, k ≤ reachBytes) → ∃ a, Ccs ⟨w, []⟩ (f a) cs ∧ good a)
  (h : DataW.trod enc P w base spare held n t cs = some x) (hw : ∀ k ∈ x.1.weights P t, k ≤ reachBytes) :
  ∃ (l : List α) (v : Value), cs = [v] ∧ Cc ⟨w, []⟩ (.sl wd (l.map f)) v ∧ (∀ a ∈ l, good a) ∧ l.length * P.bytesOf e ≤ reachBytes := by
 have hfm : ∀ (l : List α), ∀ e ∈ l.map f, e.length = wd := fun l e he => by obtain ⟨a, _, rfl⟩ := List.mem_map.1 he; exact hf a
 rcases DataW.trod_slice ht h with ⟨rfl, rfl⟩ | ⟨a, len, cap, elems, rest, m, rfl, rfl, rfl, hb, hl, hm, hlen, hel, -, -⟩
 ·refine ⟨[], _, rfl, ?_, by simp, by simp⟩
  simp only [List.map_nil, Cc]
  exact ⟨by simp, .inl ⟨trivial, .inl rfl⟩⟩
 ·rw [DataW.weights, ht] at hw
  have hbytes : len * P.bytesOf e ≤ reachBytes := by
   have := hw _ (List.mem_cons_self ..)
   simp only [List.length_map, hlen] at this
   exact Nat.le_trans (Nat.mul_le_mul_right _ (by omega)) this
  have hel' : ∀ i, i < len → ∃ cs' y, w.cells? base (a.add (i * P.cellsOf e)) (P.cellsOf e) = some cs' ∧ DataW.trod enc P w base spare held m e cs' = some y ∧ ∀ k ∈ y.1.weights P e, k ≤ reachBytes := by
   intro i hi
   have h1 := hel i hi
   rw [List.getElem?_eq_getElem (by omega)] at h1
   obtain ⟨cs', h2, h3⟩ := Option.bind_eq_some_iff.1 h1
   refine ⟨cs', _, h2, h3, fun k hk => hw k ?_⟩
   exact List.mem_cons_of_mem _ (List.mem_append_left _ (weightsAll_mem (List.mem_map_of_mem (List.getElem_mem _)) k hk))
  by_cases h0 : len = 0
  ·subst h0
   refine ⟨[], _, rfl, ?_, by simp, by simp⟩
   simp only [List.map_nil, Cc]
   exact ⟨by simp, .inl ⟨trivial, .inr ⟨_, _, rfl, hm⟩⟩⟩
  have hspot : a.spot = none := by
   obtain ⟨cs', y, h2, -, -⟩ := hel' 0 (by omega)
   obtain ⟨-, hcl, hat⟩ := World.cells?_some h2
   have h3 := hat 0 hs
   simp only [Nat.zero_mul, Addr.add, if_true] at h3
   rw [List.getElem?_eq_getElem (by omega)] at h3
   unfold World.cell? at h3
   split at h3
   ·split at h3
    ·cases h3
    ·rename_i hn; simpa using hn
   ·cases h3
  obtain ⟨b, o, sp⟩ := a
  simp only at hspot
  subst hspot
  have hadd : ∀ o j, (⟨b, o, none⟩ : Addr).add j = ⟨b, o + j, none⟩ := fun o j => by
   unfold Addr.add; split
   ·subst_vars; rfl
   ·rfl
  have key : ∀ k j, j + k = len → ∃ l : List α, l.length = k ∧ Crow ⟨w, []⟩ (l.map f) b (o + j * P.cellsOf e) ∧ ∀ a ∈ l, good a := by
   intro k
   induction k with
   | zero => exact fun j _ => ⟨[], rfl, by simp only [List.map_nil, Crow], by simp⟩
   | succ k ih =>
    intro j hj
    obtain ⟨l, hl1, hl2, hl3⟩ := ih (j + 1) (by omega)
    obtain ⟨cs', y, h2, h3, h4⟩ := hel' j (by omega)
    obtain ⟨z, hz1, hz2⟩ := hread m cs' y (Nat.lt_succ_self _) h3 h4
    obtain ⟨-, hcl, hat⟩ := World.cells?_some h2
    refine ⟨z :: l, by simp [hl1], ?_, fun a ha => ?_⟩
    ·rw [List.map_cons, Crow]
     refine ⟨cs', CellsAt.of fun i u hu => ?_, hz1, ?_⟩
     ·have hi : i < cs'.length := (List.getElem?_eq_some_iff.1 hu).1
      have := hat i (by omega)
      rw [hadd, hadd] at this
      exact this.trans hu
     ·rw [hcl, Nat.add_assoc, ← Nat.succ_mul]; exact hl2
    ·rcases List.mem_cons.1 ha with rfl | ha
     ·exact hz2
     ·exact hl3 a ha
  obtain ⟨l, hl1, hl2, hl3⟩ := key len 0 (by omega)
  refine ⟨l, _, rfl, ?_, hl3, by rw [hl1]; exact hbytes⟩
  simp only [Cc]
  refine ⟨hfm l, .inr ⟨b, o, cap, by rw [List.length_map, hl1], by rw [List.length_map, hl1]; exact hl, hm, by simpa using hl2⟩⟩
theorem readStrs {n : Nat} {cs : List Value} {x : DataW H × List MemPlace} (h : DataW.trod enc Tryz.prog w base spare held n 22 cs = some x) (hw : ∀ k ∈ x.1.weights Tryz.prog 22, k ≤ reachBytes) :
  ∃ (l : List ByteArray) (v : Value), cs = [v] ∧ Cc ⟨w, []⟩ (.sl 1 (strC l)) v ∧ l.length ≤ 1000000000000000 := by
 obtain ⟨l, v, h1, h2, -, h3⟩ := readSlC (fun s : ByteArray => [C.v (.string s)]) (fun _ => True) (wd := 1) Tryz.underlying22 (Nat.lt_of_lt_of_eq Nat.zero_lt_one (show 1 = Tryz.prog.cellsOf 9 by kernel_rfl)) (fun _ => rfl) (fun m cs x _ h _ => by
  obtain ⟨s, rfl, -, -⟩ := DataW.trod_string Tryz.underlying9 h
  exact ⟨s, by simp only [Ccs]; exact ⟨_, _, rfl, by simp only [Cc]; exact ⟨trivial, rfl⟩, rfl⟩, trivial⟩) h hw
 rw [show Tryz.prog.bytesOf 9 = 16 by kernel_rfl] at h3
 exact ⟨l, v, h1, h2, by unfold reachBytes at h3; omega⟩
theorem readK : ∀ (n : Nat) (cs : List Value) (x : DataW H × List MemPlace), DataW.trod enc Tryz.prog w base spare held n 31 cs = some x → (∀ k ∈ x.1.weights Tryz.prog 31, k ≤ reachBytes) → ∃ d : K, Ccs ⟨w, []⟩ d.cc cs ∧ d.Ok := by
 intro n
 induction n using Nat.strongRecOn with
 | ind n ih =>
  intro cs x h hw
  obtain ⟨xs, m, rfl, rfl, hcl, hxl, hf⟩ := DataW.trod_struct Tryz.underlying31 h
  rw [show Tryz.prog.cellsOf 31 = 11 by kernel_rfl] at hcl
  match cs, hcl with
  | [c0, c1, c2, c3, c4, c5, c6, c7, c8, c9, c10], _ =>
  match xs, hxl with
  | [y0, y1, y2, y3, y4, y5], _ =>
  have h0 : DataW.trod enc Tryz.prog w base spare held m 3 (([c0, c1, c2, c3, c4, c5, c6, c7, c8, c9, c10].drop 0).take (Tryz.prog.cellsOf 3)) = some y0 := hf 0 _ rfl
  have h1 : DataW.trod enc Tryz.prog w base spare held m 9 (([c0, c1, c2, c3, c4, c5, c6, c7, c8, c9, c10].drop 1).take (Tryz.prog.cellsOf 9)) = some y1 := hf 1 _ rfl
  have h2 : DataW.trod enc Tryz.prog w base spare held m 9 (([c0, c1, c2, c3, c4, c5, c6, c7, c8, c9, c10].drop 2).take (Tryz.prog.cellsOf 9)) = some y2 := hf 2 _ rfl
  have h3 : DataW.trod enc Tryz.prog w base spare held m 22 (([c0, c1, c2, c3, c4, c5, c6, c7, c8, c9, c10].drop 3).take (Tryz.prog.cellsOf 22)) = some y3 := hf 3 _ rfl
  have h4 : DataW.trod enc Tryz.prog w base spare held m 28 (([c0, c1, c2, c3, c4, c5, c6, c7, c8, c9, c10].drop 4).take (Tryz.prog.cellsOf 28)) = some y4 := hf 4 _ rfl
  have h5 : DataW.trod enc Tryz.prog w base spare held m 29 (([c0, c1, c2, c3, c4, c5, c6, c7, c8, c9, c10].drop 10).take (Tryz.prog.cellsOf 29)) = some y5 := hf 5 _ rfl
  rw [show Tryz.prog.cellsOf 3 = 1 by kernel_rfl] at h0
  rw [show Tryz.prog.cellsOf 9 = 1 by kernel_rfl] at h1 h2
  rw [show Tryz.prog.cellsOf 22 = 1 by kernel_rfl] at h3
  rw [show Tryz.prog.cellsOf 28 = 6 by kernel_rfl] at h4
  rw [show Tryz.prog.cellsOf 29 = 1 by kernel_rfl] at h5
  rw [DataW.weights, Tryz.underlying31] at hw
  change ∀ k ∈ y0.1.weights Tryz.prog 3 ++ (y1.1.weights Tryz.prog 9 ++ (y2.1.weights Tryz.prog 9 ++ (y3.1.weights Tryz.prog 22 ++ (y4.1.weights Tryz.prog 28 ++ (y5.1.weights Tryz.prog 29 ++ _))))), k ≤ reachBytes at hw
  have hw3 : ∀ k ∈ y3.1.weights Tryz.prog 22, k ≤ reachBytes := fun k hk => hw k (List.mem_append_right _ (List.mem_append_right _ (List.mem_append_right _ (List.mem_append_left _ hk))))
  have hw4 : ∀ k ∈ y4.1.weights Tryz.prog 28, k ≤ reachBytes := fun k hk => hw k (List.mem_append_right _ (List.mem_append_right _ (List.mem_append_right _ (List.mem_append_right _ (List.mem_append_left _ hk)))))
  have hw5 : ∀ k ∈ y5.1.weights Tryz.prog 29, k ≤ reachBytes := fun k hk => hw k (List.mem_append_right _ (List.mem_append_right _ (List.mem_append_right _ (List.mem_append_right _ (List.mem_append_right _ (List.mem_append_left _ hk))))))
  obtain ⟨k0, e0, rfl, b0⟩ := DataW.trod_int Tryz.underlying3 h0
  obtain ⟨s1, e1, -, -⟩ := DataW.trod_string Tryz.underlying9 h1
  obtain ⟨s2, e2, -, -⟩ := DataW.trod_string Tryz.underlying9 h2
  obtain ⟨ps, vp, e3, p1, p2⟩ := readStrs h3 hw3
  obtain ⟨d, d1, d2⟩ := readD m _ _ h4 hw4
  obtain ⟨l, vl, e5, l1, l2, l3⟩ := readSlC K.cc K.Ok (wd := 11) Tryz.underlying29 (Nat.lt_of_lt_of_eq (show 0 < 11 by decide) (show 11 = Tryz.prog.cellsOf 31 by kernel_rfl)) K.cc_len (fun m' cs x hm h hw => ih m' (by omega) cs x h hw) h5 hw5
  have hd := D.cc_of d.ht d _ (Nat.le_refl _) d1
  simp at e0 e1 e2 e3 e5
  subst e0 e1 e2 e3 e5
  rw [show Tryz.prog.bytesOf 31 = 176 by kernel_rfl] at l3
  refine ⟨.mk k0 s1 s2 ps d l, ?_, ?_⟩
  ·rw [K.cc_eq]
   rw [D.cc_eq] at hd
   change Ccs _ _ [c4, c5, c6, c7, c8, c9] at hd
   simp only [K.k, K.name, K.rest, K.params, K.d, K.l]
   refine Ccs.append (cs := [_, _, _, _]) (ds := [_, _, _, _, _, _, _]) |>.2 ⟨[_, _, _, _], [c4, c5, c6, c7, c8, c9, _], rfl, ?_, Ccs.append (cs := [_, _, _, _, _, _]) (ds := [_]) |>.2 ⟨[c4, c5, c6, c7, c8, c9], [_], rfl, hd, ?_⟩⟩
   ·simp only [Ccs]
    exact ⟨_, _, rfl, by simp [Cc, Value.oneCell'], _, _, rfl, by simp [Cc, Value.oneCell'], _, _, rfl, by simp [Cc, Value.oneCell'], _, _, rfl, p1, rfl⟩
   ·simp only [Ccs]
    exact ⟨_, _, rfl, l1, rfl⟩
  ·have hoks : K.Oks l := by
    clear l1 l3 h5 hw5
    induction l with
    | nil => simp only [K.Oks]
    | cons a l ih => simp only [K.Oks]; exact ⟨l2 a (by simp), ih (fun b hb => l2 b (by simp [hb]))⟩
   rw [K.Ok]
   refine ⟨wf_bounds b0, p2, d2, ?_, hoks⟩
   unfold reachBytes at l3; omega
variable {v : Value} {d : DataW H} {ps : List MemPlace} {base' : Nat}
theorem argC (hok : Value.okWide Tryz.prog w .any base' 31 v) (h : DataW.Trod enc Tryz.prog w base spare held 31 v d ps) (hw : ∀ k ∈ d.weights Tryz.prog 31, k ≤ reachBytes) : ∃ x : K, Ca ⟨w, []⟩ (.agg x.cc) v ∧ x.Ok := by
 obtain ⟨n, h⟩ := h
 obtain ⟨x, h1, h2⟩ := readK n _ _ h hw
 simp only [Value.okWide, Tryz.underlying31] at hok
 obtain ⟨cs, rfl, -, -⟩ := hok
 exact ⟨x, by simp only [Ca]; exact ⟨cs.toList, by simp, h1⟩, h2⟩
end
end Go.Proofs.YtaeioidifpebdaaGreatDoor
end
section
namespace Go.Proofs.YtaeioidifpebdaaGreatDoor
open Go Go.RowKit Go.Lib Go.Shelf
set_option linter.unusedVariables false
set_option maxRecDepth 100000
theorem cell_size {w : World} {b o : Nat} {v : Value} (h : w.cell? ⟨b, o, none⟩ = some v) : b < w.heap.size := by
 refine Nat.lt_of_not_le fun hn => ?_
 have : w.heap[b]? = none := Array.getElem?_eq_none hn
 simp [World.cell?, this] at h
theorem heap_size {w : World} {b : Nat} {o : Obj} (h : w.heap[b]? = some o) : b < w.heap.size := (Array.getElem?_eq_some_iff.1 h).1
theorem GL.size {w : World} (h : GL w) : ∀ b, GBw w b → b < w.heap.size := fun b hb => by
 obtain ⟨h1, a, c, ca, cb, ta, tb, g2, g3, g6, g7, g8, g4, g5⟩ := h
 rcases hb with hb | ⟨g, t, o, hg, hc⟩
 ·simp only [GB, Bool.or_eq_true, beq_iff_eq] at hb
  rcases hb with ((rfl | rfl) | rfl) | rfl
  ·exact cell_size (h1.1 0 (by decide))
  ·exact cell_size (h1.2 0 (by decide)).1
  ·exact cell_size g2
  ·exact cell_size g3
 ·rcases hg with rfl | rfl
  ·rw [g2] at hc; simp at hc; obtain ⟨-, rfl⟩ := hc; exact heap_size g4
  ·rw [g3] at hc; simp at hc; obtain ⟨-, rfl⟩ := hc; exact heap_size g5
abbrev laid4 : List (String × DataW Unit) := [("unicode/utf8.acceptRanges", Rows.laid_unicode_utf8_acceptRanges), ("moraine/expand.errSyntax", Rows.laid_moraine_expand_errSyntax), ("moraine/expand.errBig", Rows.laid_moraine_expand_errBig), ("unicode/utf8.first", Rows.laid_unicode_utf8_first)]
theorem placed {P : Program} {w : World} : ∀ {l : List (String × DataW Unit)} {ps : List MemPlace}, DataW.LaidVars P w l ps → ∀ n d, (n, d) ∈ l →
  ∃ g t cs fuel p, P.globalNamed n = some g ∧ (P.globals[g]?).map (·.type) = some t ∧ w.var? P n = some cs ∧ DataW.trod (fun _ => ()) P w 0 (fun _ => true) false fuel t cs.toList = some (d, p) ∧ ∀ x, x ∈ p ∨ x ∈ MemPlace.row ⟨g, 0, none⟩ cs.size → x ∈ ps
 | [], _, _, _, _, hm => by cases hm
 | (n', d') :: r, ps, h, n, d, hm => by
  obtain ⟨g, t, cs, fuel, p, q, h1, h2, h3, h4, h5, rfl⟩ := h
  rcases List.mem_cons.1 hm with e | e
  ·cases e
   exact ⟨g, t, cs, fuel, p, h1, h2, h3, h4, fun x hx => by rcases hx with hx | hx <;> simp [hx]⟩
  ·obtain ⟨g', t', cs', f', p', k1, k2, k3, k4, k5⟩ := placed h5 n d e
   exact ⟨g', t', cs', f', p', k1, k2, k3, k4, fun x hx => List.mem_append_right _ (k5 x hx)⟩
theorem star_es (u : TypeId) (hu : Tryz.prog.typeName? 3 u = some "*errors.errorString") : u = 183 :=
 typeName_ptr_named (nm := "errors.errorString") (by kernel_rfl) (by kernel_rfl) (by decide) u (hu.trans (by rfl))
theorem err_at {W : World} (hM : laidMet Tryz.prog laid4 W) {n : String} {text : List UInt8} {g : Nat} (hm : (n, DataW.iface "*errors.errorString" (.ptr (.agg [.lit (.string text)]))) ∈ laid4) (hg : Tryz.prog.globalNamed n = some g) (hty : (Tryz.prog.globals[g]?).map (·.type) = some 62) :
  ∃ a s c t, W.cell? ⟨g, 0, none⟩ = some (.iface 183 (.pointer (some a))) ∧ W.cell? a = some (.string s) ∧ s.data.toList = text ∧ W.heap[a.block]? = some (.cells c t (0, 0)) := by
 obtain ⟨ps, h1, h2, h3⟩ := hM
 obtain ⟨g', t', cs, fuel, p, k1, k2, k3, k4, k5⟩ := placed h1 _ _ hm
 obtain rfl := Option.some.inj (hg.symm.trans k1)
 obtain rfl := Option.some.inj (hty.symm.trans k2)
 have hc0 := World.var?_cell hg k3 0
 obtain ⟨l⟩ := cs
 obtain ⟨a, s, e1, e2, e3, -, rfl⟩ := errorString_of_trod (ts := 9) Tryz.underlying62 star_es Tryz.underlying183 Tryz.underlying208 rfl rfl Tryz.underlying9 (by kernel_rfl) (by kernel_rfl) k4 (fun u v e => by
  simp only at e
  subst e
  exact (h3 g 0 (k5 _ (.inr (by simp [MemPlace.row])))).2 u v hc0)
 simp only at e1
 subst e1
 obtain ⟨⟨c, t, hh⟩, -⟩ := h3 a.block a.off (k5 _ (.inl (by simp [MemPlace.row])))
 exact ⟨a, s, c, t, hc0, e2, e3, hh⟩
theorem cell_spot {W : World} {a : Addr} {v : Value} (h : W.cell? a = some v) : a.spot = none := by
 unfold World.cell? at h
 split at h
 ·split at h
  ·cases h
  ·rename_i hn; simpa using hn
 ·cases h
theorem first_eq : Rows.laid_unicode_utf8_first = firstData := by kernel_rfl
theorem accept_eq : Rows.laid_unicode_utf8_acceptRanges = acceptData := by kernel_rfl
theorem gl_of {W : World} (hL : laidMetH Tryz.prog laid4 W) : GL W := by
 have hM : laidMet Tryz.prog laid4 W := hL
 have h1 := Lib.laidMet.reads hL (n := "unicode/utf8.first") (d := Rows.laid_unicode_utf8_first) (by simp [laid4])
 have h2 := Lib.laidMet.reads hL (n := "unicode/utf8.acceptRanges") (d := Rows.laid_unicode_utf8_acceptRanges) (by simp [laid4])
 rw [first_eq] at h1
 rw [accept_eq] at h2
 obtain ⟨a, s, c, t, a1, a2, a3, a4⟩ := err_at hM (n := "moraine/expand.errBig") (text := [116, 111, 111, 32, 109, 97, 110, 121]) (g := 0) (by simp [laid4, Rows.laid_moraine_expand_errBig]) (by kernel_rfl) (by kernel_rfl)
 obtain ⟨b, u, e, f, b1, b2, b3, b4⟩ := err_at hM (n := "moraine/expand.errSyntax") (text := [110, 111, 32, 101, 120, 112, 114, 101, 115, 115, 105, 111, 110]) (g := 1) (by simp [laid4, Rows.laid_moraine_expand_errSyntax]) (by kernel_rfl) (by kernel_rfl)
 refine ⟨utf8Tabs_of_readsT (U8Types.of196 Tryz.lays196) ⟨by kernel_rfl, by kernel_rfl, by kernel_rfl, by kernel_rfl, by kernel_rfl, by kernel_rfl, by kernel_rfl⟩ h1 h2, a, b, c, e, t, f, a1, b1, cell_spot a2, cell_spot b2, fun e => ?_, a4, b4⟩
 subst e
 rw [a2] at b2
 cases b2
 rw [a3] at b3
 cases b3
end Go.Proofs.YtaeioidifpebdaaGreatDoor
end
section
namespace Go.Proofs.YtaeioidifpebdaaGreatDoor
open Go.ChangeShapes Go.WideShapes Go.ChangeAt Go.RowKit
set_option linter.unusedSimpArgs false
set_option linter.unusedVariables false
set_option maxRecDepth 100000
noncomputable def low : Nat := (World.holding Tryz.prog default ⟨#[], #[], []⟩).heap.size
def tooS : ByteArray := ⟨#[116, 111, 111, 32, 109, 97, 110, 121]⟩
def noS : ByteArray := ⟨#[110, 111, 32, 101, 120, 112, 114, 101, 115, 115, 105, 111, 110]⟩
noncomputable def laidWorld (os : Os) : World :=
 let w0 := World.holding Tryz.prog os ⟨#[.cells #[.string tooS] 208, .cells #[.string noS] 208], #[], []⟩
 let put (h : Array Obj) (g : Nat) (cs : Array Value) : Array Obj := h.modify g fun
  | .cells _ t frozen => .cells cs t frozen
  | o => o
 let h1 := put w0.heap 2 (Go.Pinned.utf8FirstZ.map fun z => Value.int .u8 (Int.ofNat z)).toArray
 let h2 := put h1 3 (([128, 191, 160, 191, 128, 159, 144, 191, 128, 143] ++ List.replicate 22 0).map fun z => Value.int .u8 (Int.ofNat z)).toArray
 let h3 := put h2 0 #[.iface 183 (.pointer (some ⟨low, 0, none⟩))]
 let h4 := put h3 1 #[.iface 183 (.pointer (some ⟨low + 1, 0, none⟩))]
 { w0 with heap := h4 }
theorem laid_met (os : Os) (args : Array Value) : laidMet Tryz.prog laid4 ((laidWorld os).forCall (fun _ _ => 0) ⟨#[], args, []⟩).memory :=
 (LaidIn.of_run (l := laid4) [3, 1, 0, 2, low, low + 1] 8 (by kernel_rfl) (by kernel_rfl) (by kernel_rfl) (by kernel_rfl)).met
end Go.Proofs.YtaeioidifpebdaaGreatDoor
end
