/-
  Laid together: Args27, Glb27, Wit27.
-/
import Derived.Test.YtdcmihhcpgkgiaaDoorGA
import Derived.Test.YtdcmihhcpgkgiaaDoorGB
import Derived.Test.YtdcmihhcpgkgiaaDoorG3
import Derived.Test.YtdcmihhcpgkgiaaDoorRows
import Derived.Shelf.Vars
import Derived.LaidLaws
import Derived.Lib.LaidU8T
import Derived.Lib.LaidTab
import Derived.KernelRfl
import Derived.Lib.LaidIn

section
namespace Go.Proofs.YtdcmihhcpgkgiaaDoor
open Go Go.ChangeShapes Go.WideShapes Go.ChangeAt Go.RowKit
set_option linter.unusedSimpArgs false
set_option linter.unusedVariables false
set_option maxRecDepth 100000
theorem weights_cons {H : Type} {P : Program} {t : TypeId} {ts vs : List TypeId} {d : DataW H} {ds gs : List (DataW H)} (h : (DataW.weightsEach P ((t :: ts) ++ vs) ((d :: ds) ++ gs)).all (· ≤ reachBytes) = true) :
    (∀ k ∈ d.weights P t, k ≤ reachBytes) ∧ (DataW.weightsEach P (ts ++ vs) (ds ++ gs)).all (· ≤ reachBytes) = true := by
  simp only [List.cons_append, DataW.weightsEach, List.all_append, Bool.and_eq_true] at h
  refine ⟨fun k hk => ?_, h.2⟩
  have := List.all_eq_true.1 h.1 k hk
  simpa using this
section
variable {H : Type} {enc : TypeId × Value → H} {w : World} {base : Nat} {spare : Nat → Bool} {held : Bool}
/-- A slice's cells read as a list, where each of its elements reads. -/
theorem readSlC {α : Type} (f : α → List C) (good : α → Prop) {P : Program} {t e : TypeId} {n wd : Nat} {cs : List Value} {x : DataW H × List MemPlace} (ht : P.underlying t = some (.slice e)) (hs : 0 < P.cellsOf e) (hf : ∀ a, (f a).length = wd)
    (hread : ∀ m cs x, m < n → DataW.trod enc P w base spare held m e cs = some x → (∀ k ∈ x.1.weights P e, k ≤ reachBytes) → ∃ a, Ccs ⟨w, []⟩ (f a) cs ∧ good a)
    (h : DataW.trod enc P w base spare held n t cs = some x) (hw : ∀ k ∈ x.1.weights P t, k ≤ reachBytes) :
    ∃ (l : List α) (v : Value), cs = [v] ∧ Cc ⟨w, []⟩ (.sl wd (l.map f)) v ∧ (∀ a ∈ l, good a) ∧ l.length * P.bytesOf e ≤ reachBytes := by
  have hfm : ∀ (l : List α), ∀ e ∈ l.map f, e.length = wd := fun l e he => by obtain ⟨a, _, rfl⟩ := List.mem_map.1 he; exact hf a
  rcases DataW.trod_slice ht h with ⟨rfl, rfl⟩ | ⟨a, len, cap, elems, rest, m, rfl, rfl, rfl, hb, hl, hm, hlen, hel, -, -⟩
  · refine ⟨[], _, rfl, ?_, by simp, by simp⟩
    simp only [List.map_nil, Cc]
    exact ⟨by simp, .inl ⟨trivial, .inl rfl⟩⟩
  · rw [DataW.weights, ht] at hw
    have hbytes : len * P.bytesOf e ≤ reachBytes := by
      have := hw _ (List.mem_cons_self ..)
      simp only [List.length_map, hlen] at this
      exact Nat.le_trans (Nat.mul_le_mul_right _ (by omega)) this
    have hel' : ∀ i, i < len → ∃ cs' y, w.cells? base (a.add (i * P.cellsOf e)) (P.cellsOf e) = some cs' ∧ DataW.trod enc P w base spare held m e cs' = some y ∧ ∀ k ∈ y.1.weights P e, k ≤ reachBytes := by
      intro i hi
      have h1 := hel i hi
      rw [List.getElem?_eq_getElem (by omega)] at h1
      obtain ⟨cs', h2, h3⟩ := Option.bind_eq_some_iff.1 h1
      refine ⟨cs', _, h2, h3, fun k hk => hw k ?_⟩
      exact List.mem_cons_of_mem _ (List.mem_append_left _ (weightsAll_mem (List.mem_map_of_mem (List.getElem_mem _)) k hk))
    by_cases h0 : len = 0
    · subst h0
      refine ⟨[], _, rfl, ?_, by simp, by simp⟩
      simp only [List.map_nil, Cc]
      exact ⟨by simp, .inl ⟨trivial, .inr ⟨_, _, rfl, hm⟩⟩⟩
    have hspot : a.spot = none := by
      obtain ⟨cs', y, h2, -, -⟩ := hel' 0 (by omega)
      obtain ⟨-, hcl, hat⟩ := World.cells?_some h2
      have h3 := hat 0 hs
      simp only [Nat.zero_mul, Addr.add, if_true] at h3
      rw [List.getElem?_eq_getElem (by omega)] at h3
      unfold World.cell? at h3
      split at h3
      · split at h3
        · cases h3
        · rename_i hn; simpa using hn
      · cases h3
    obtain ⟨b, o, sp⟩ := a
    simp only at hspot
    subst hspot
    have hadd : ∀ o j, (⟨b, o, none⟩ : Addr).add j = ⟨b, o + j, none⟩ := fun o j => by
      unfold Addr.add; split
      · subst_vars; rfl
      · rfl
    have key : ∀ k j, j + k = len → ∃ l : List α, l.length = k ∧ Crow ⟨w, []⟩ (l.map f) b (o + j * P.cellsOf e) ∧ ∀ a ∈ l, good a := by
      intro k
      induction k with
      | zero => exact fun j _ => ⟨[], rfl, by simp only [List.map_nil, Crow], by simp⟩
      | succ k ih =>
        intro j hj
        obtain ⟨l, hl1, hl2, hl3⟩ := ih (j + 1) (by omega)
        obtain ⟨cs', y, h2, h3, h4⟩ := hel' j (by omega)
        obtain ⟨z, hz1, hz2⟩ := hread m cs' y (Nat.lt_succ_self _) h3 h4
        obtain ⟨-, hcl, hat⟩ := World.cells?_some h2
        refine ⟨z :: l, by simp [hl1], ?_, fun a ha => ?_⟩
        · rw [List.map_cons, Crow]
          refine ⟨cs', CellsAt.of fun i u hu => ?_, hz1, ?_⟩
          · have hi : i < cs'.length := (List.getElem?_eq_some_iff.1 hu).1
            have := hat i (by omega)
            rw [hadd, hadd] at this
            exact this.trans hu
          · rw [hcl, Nat.add_assoc, ← Nat.succ_mul]; exact hl2
        · rcases List.mem_cons.1 ha with rfl | ha
          · exact hz2
          · exact hl3 a ha
    obtain ⟨l, hl1, hl2, hl3⟩ := key len 0 (by omega)
    refine ⟨l, _, rfl, ?_, hl3, by rw [hl1]; exact hbytes⟩
    simp only [Cc]
    refine ⟨hfm l, .inr ⟨b, o, cap, by rw [List.length_map, hl1], by rw [List.length_map, hl1]; exact hl, hm, by simpa using hl2⟩⟩
theorem int_bounds {k : Int} (h : (Lit.int .i64 k).wf = true) : I64 k := wf_bounds h
theorem readCo {n : Nat} {cs : List Value} {x : DataW H × List MemPlace} (h : DataW.trod enc Tryd.prog w base spare held n 48 cs = some x) : ∃ c : Co, Ccs ⟨w, []⟩ [.v (.int .i64 c.s), .v (.int .i64 c.g), .v (.int .i64 c.t)] cs ∧ ∀ n ∈ c.l, I64 n := by
  obtain ⟨xs, m, rfl, rfl, hcl, hxl, hf⟩ := DataW.trod_struct Tryd.underlying48 h
  rw [show Tryd.prog.cellsOf 48 = 3 by kernel_rfl] at hcl
  match cs, hcl with
  | [c0, c1, c2], _ =>
  match xs, hxl with
  | [y0, y1, y2], _ =>
  have h0 : DataW.trod enc Tryd.prog w base spare held m 3 (([c0, c1, c2].drop 0).take (Tryd.prog.cellsOf 3)) = some y0 := hf 0 _ rfl
  have h1 : DataW.trod enc Tryd.prog w base spare held m 3 (([c0, c1, c2].drop 1).take (Tryd.prog.cellsOf 3)) = some y1 := hf 1 _ rfl
  have h2 : DataW.trod enc Tryd.prog w base spare held m 3 (([c0, c1, c2].drop 2).take (Tryd.prog.cellsOf 3)) = some y2 := hf 2 _ rfl
  rw [show Tryd.prog.cellsOf 3 = 1 by kernel_rfl] at h0 h1 h2
  obtain ⟨k0, e0, rfl, b0⟩ := DataW.trod_int Tryd.underlying3 h0
  obtain ⟨k1, e1, rfl, b1⟩ := DataW.trod_int Tryd.underlying3 h1
  obtain ⟨k2, e2, rfl, b2⟩ := DataW.trod_int Tryd.underlying3 h2
  simp at e0 e1 e2
  subst e0 e1 e2
  refine ⟨⟨k0, k1, k2⟩, ?_, ?_⟩
  · simp only [Ccs]
    exact ⟨_, _, rfl, by simp [Cc, Value.oneCell'], _, _, rfl, by simp [Cc, Value.oneCell'], _, _, rfl, by simp [Cc, Value.oneCell'], rfl⟩
  · simp only [Co.l, List.mem_cons, List.not_mem_nil, or_false]
    rintro n (rfl | rfl | rfl)
    · exact int_bounds b0
    · exact int_bounds b1
    · exact int_bounds b2
theorem readCos {n : Nat} {cs : List Value} {x : DataW H × List MemPlace} (h : DataW.trod enc Tryd.prog w base spare held n 22 cs = some x) (hw : ∀ k ∈ x.1.weights Tryd.prog 22, k ≤ reachBytes) :
    ∃ (l : List Co) (v : Value), cs = [v] ∧ Cc ⟨w, []⟩ (.sl 3 (fC l)) v ∧ (∀ c ∈ l, ∀ n ∈ c.l, I64 n) ∧ l.length ≤ 1000000000000000 := by
  obtain ⟨l, u, e, l1, l2, l3⟩ := readSlC (fun c : Co => [C.v (.int .i64 c.s), C.v (.int .i64 c.g), C.v (.int .i64 c.t)]) (fun c => ∀ n ∈ c.l, I64 n) (wd := 3) Tryd.underlying22 (Nat.lt_of_lt_of_eq (show 0 < 3 by decide) (show 3 = Tryd.prog.cellsOf 48 by kernel_rfl)) (fun _ => rfl) (fun m' cs x hm h hw => readCo h) h hw
  rw [show Tryd.prog.bytesOf 48 = 24 by kernel_rfl] at l3
  exact ⟨l, u, e, l1, l2, by unfold reachBytes at l3; omega⟩
variable {v : Value} {d : DataW H} {ps : List MemPlace} {base' : Nat}
theorem argRs (hok : Value.okWide Tryd.prog w .any base' 31 v) (h : DataW.Trod enc Tryd.prog w base spare held 31 v d ps) (hw : ∀ k ∈ d.weights Tryd.prog 31, k ≤ reachBytes) : ∃ r : Rs, Ca ⟨w, []⟩ (.agg r.cs) v ∧ I64 r.err ∧ I64 r.pl ∧ I64 r.st ∧ (∀ c ∈ r.log, ∀ n ∈ c.l, I64 n) ∧ r.log.length ≤ 1000000000000000 ∧ r.out.size ≤ 140737488351232 := by
  obtain ⟨n, h⟩ := h
  simp only [Value.okWide, Tryd.underlying31] at hok
  obtain ⟨cs, rfl, -, -⟩ := hok
  simp only [Value.cells] at h
  obtain ⟨cs⟩ := cs
  simp only at h
  obtain ⟨xs, m, rfl, hx, hcl, hxl, hf⟩ := DataW.trod_struct Tryd.underlying31 h
  obtain ⟨rfl, rfl⟩ := Prod.mk.inj hx
  rw [show Tryd.prog.cellsOf 31 = 5 by kernel_rfl] at hcl
  match cs, hcl with
  | [c0, c1, c2, c3, c4], _ =>
  match xs, hxl with
  | [y0, y1, y2, y3, y4], _ =>
  have h0 : DataW.trod enc Tryd.prog w base spare held m 9 (([c0, c1, c2, c3, c4].drop 0).take (Tryd.prog.cellsOf 9)) = some y0 := hf 0 _ rfl
  have h1 : DataW.trod enc Tryd.prog w base spare held m 27 (([c0, c1, c2, c3, c4].drop 1).take (Tryd.prog.cellsOf 27)) = some y1 := hf 1 _ rfl
  have h2 : DataW.trod enc Tryd.prog w base spare held m 3 (([c0, c1, c2, c3, c4].drop 2).take (Tryd.prog.cellsOf 3)) = some y2 := hf 2 _ rfl
  have h3 : DataW.trod enc Tryd.prog w base spare held m 3 (([c0, c1, c2, c3, c4].drop 3).take (Tryd.prog.cellsOf 3)) = some y3 := hf 3 _ rfl
  have h4 : DataW.trod enc Tryd.prog w base spare held m 22 (([c0, c1, c2, c3, c4].drop 4).take (Tryd.prog.cellsOf 22)) = some y4 := hf 4 _ rfl
  rw [show Tryd.prog.cellsOf 9 = 1 by kernel_rfl] at h0
  rw [show Tryd.prog.cellsOf 27 = 1 by kernel_rfl] at h1
  rw [show Tryd.prog.cellsOf 3 = 1 by kernel_rfl] at h2 h3
  rw [show Tryd.prog.cellsOf 22 = 1 by kernel_rfl] at h4
  rw [DataW.weights, Tryd.underlying31] at hw
  change ∀ k ∈ y0.1.weights Tryd.prog 9 ++ (y1.1.weights Tryd.prog 27 ++ (y2.1.weights Tryd.prog 3 ++ (y3.1.weights Tryd.prog 3 ++ (y4.1.weights Tryd.prog 22 ++ _)))), k ≤ reachBytes at hw
  obtain ⟨s, e0, rfl, b0⟩ := DataW.trod_string Tryd.underlying9 h0
  obtain ⟨k1, e1, rfl, b1⟩ := DataW.trod_int Tryd.underlying27 h1
  obtain ⟨k2, e2, rfl, b2⟩ := DataW.trod_int Tryd.underlying3 h2
  obtain ⟨k3, e3, rfl, b3⟩ := DataW.trod_int Tryd.underlying3 h3
  obtain ⟨l, u, e4, l1, l2, l3⟩ := readCos h4 fun k hk => hw k (List.mem_append_right _ (List.mem_append_right _ (List.mem_append_right _ (List.mem_append_right _ (List.mem_append_left _ hk)))))
  have hs := hw s.data.toList.length (List.mem_append_left _ (by simp [DataW.weights]))
  simp at e0 e1 e2 e3 e4
  subst e0 e1 e2 e3 e4
  refine ⟨⟨s, k1, k2, k3, l⟩, ?_, int_bounds b1, int_bounds b2, int_bounds b3, l2, l3, by unfold reachBytes at hs; rw [Array.length_toList] at hs; exact hs⟩
  simp only [Ca, Rs.cs, Ccs]
  refine ⟨_, rfl, ?_⟩
  exact ⟨_, _, rfl, by simp [Cc, Value.oneCell'], _, _, rfl, by simp [Cc, Value.oneCell'], _, _, rfl, by simp [Cc, Value.oneCell'], _, _, rfl, by simp [Cc, Value.oneCell'], _, _, rfl, l1, rfl⟩
theorem argJb (hok : Value.okWide Tryd.prog w .any base' 24 v) (h : DataW.Trod enc Tryd.prog w base spare held 24 v d ps) (hw : ∀ k ∈ d.weights Tryd.prog 24, k ≤ reachBytes) : ∃ r : Jb, Ca ⟨w, []⟩ (.agg r.cs) v ∧ I64 r.lim ∧ I64 r.fu ∧ (∀ c ∈ r.fs, ∀ n ∈ c.l, I64 n) ∧ r.fs.length ≤ 1000000000000000 ∧ r.src.size ≤ 140737488351232 ∧ r.inp.size ≤ 140737488351232 := by
  obtain ⟨n, h⟩ := h
  simp only [Value.okWide, Tryd.underlying24] at hok
  obtain ⟨cs, rfl, -, -⟩ := hok
  simp only [Value.cells] at h
  obtain ⟨cs⟩ := cs
  simp only at h
  obtain ⟨xs, m, rfl, hx, hcl, hxl, hf⟩ := DataW.trod_struct Tryd.underlying24 h
  obtain ⟨rfl, rfl⟩ := Prod.mk.inj hx
  rw [show Tryd.prog.cellsOf 24 = 5 by kernel_rfl] at hcl
  match cs, hcl with
  | [c0, c1, c2, c3, c4], _ =>
  match xs, hxl with
  | [y0, y1, y2, y3, y4], _ =>
  have h0 : DataW.trod enc Tryd.prog w base spare held m 9 (([c0, c1, c2, c3, c4].drop 0).take (Tryd.prog.cellsOf 9)) = some y0 := hf 0 _ rfl
  have h1 : DataW.trod enc Tryd.prog w base spare held m 9 (([c0, c1, c2, c3, c4].drop 1).take (Tryd.prog.cellsOf 9)) = some y1 := hf 1 _ rfl
  have h2 : DataW.trod enc Tryd.prog w base spare held m 3 (([c0, c1, c2, c3, c4].drop 2).take (Tryd.prog.cellsOf 3)) = some y2 := hf 2 _ rfl
  have h3 : DataW.trod enc Tryd.prog w base spare held m 3 (([c0, c1, c2, c3, c4].drop 3).take (Tryd.prog.cellsOf 3)) = some y3 := hf 3 _ rfl
  have h4 : DataW.trod enc Tryd.prog w base spare held m 22 (([c0, c1, c2, c3, c4].drop 4).take (Tryd.prog.cellsOf 22)) = some y4 := hf 4 _ rfl
  rw [show Tryd.prog.cellsOf 9 = 1 by kernel_rfl] at h0 h1
  rw [show Tryd.prog.cellsOf 3 = 1 by kernel_rfl] at h2 h3
  rw [show Tryd.prog.cellsOf 22 = 1 by kernel_rfl] at h4
  rw [DataW.weights, Tryd.underlying24] at hw
  change ∀ k ∈ y0.1.weights Tryd.prog 9 ++ (y1.1.weights Tryd.prog 9 ++ (y2.1.weights Tryd.prog 3 ++ (y3.1.weights Tryd.prog 3 ++ (y4.1.weights Tryd.prog 22 ++ _)))), k ≤ reachBytes at hw
  obtain ⟨s, e0, rfl, b0⟩ := DataW.trod_string Tryd.underlying9 h0
  obtain ⟨k1, e1, rfl, b1⟩ := DataW.trod_string Tryd.underlying9 h1
  obtain ⟨k2, e2, rfl, b2⟩ := DataW.trod_int Tryd.underlying3 h2
  obtain ⟨k3, e3, rfl, b3⟩ := DataW.trod_int Tryd.underlying3 h3
  obtain ⟨l, u, e4, l1, l2, l3⟩ := readCos h4 fun k hk => hw k (List.mem_append_right _ (List.mem_append_right _ (List.mem_append_right _ (List.mem_append_right _ (List.mem_append_left _ hk)))))
  have hs := hw s.data.toList.length (List.mem_append_left _ (by simp [DataW.weights]))
  have hs1 := hw k1.data.toList.length (List.mem_append_right _ (List.mem_append_left _ (by simp [DataW.weights])))
  simp at e0 e1 e2 e3 e4
  subst e0 e1 e2 e3 e4
  refine ⟨⟨s, k1, k2, k3, l⟩, ?_, int_bounds b2, int_bounds b3, l2, l3, by unfold reachBytes at hs; rw [Array.length_toList] at hs; exact hs, by unfold reachBytes at hs1; rw [Array.length_toList] at hs1; exact hs1⟩
  simp only [Ca, Jb.cs, Ccs]
  refine ⟨_, rfl, ?_⟩
  exact ⟨_, _, rfl, by simp [Cc, Value.oneCell'], _, _, rfl, by simp [Cc, Value.oneCell'], _, _, rfl, by simp [Cc, Value.oneCell'], _, _, rfl, by simp [Cc, Value.oneCell'], _, _, rfl, l1, rfl⟩
theorem argStr (hok : Value.okWide Tryd.prog w .any base' 9 v) (h : DataW.Trod enc Tryd.prog w base spare held 9 v d ps) (hw : ∀ k ∈ d.weights Tryd.prog 9, k ≤ reachBytes) : ∃ s : ByteArray, v = .string s ∧ s.size ≤ 140737488351232 := by
  obtain ⟨n, h⟩ := h
  obtain ⟨s, e, hd, hk⟩ := DataW.trod_string Tryd.underlying9 h
  simp only [Value.okWide, Tryd.underlying9] at hok
  have hv : v.cells = #[v] := by
    cases v with
    | agg cs => simp [Cell.okWide, Cell.ok, Tryd.underlying9] at hok
    | _ => rfl
  rw [hv] at e
  obtain rfl : d = _ := congrArg Prod.fst hd
  have hs := hw s.data.toList.length (by simp [DataW.weights])
  exact ⟨s, by simpa using e, by unfold reachBytes at hs; rw [Array.length_toList] at hs; exact hs⟩
end
end Go.Proofs.YtdcmihhcpgkgiaaDoor
end

section
namespace Go.Proofs.YtdcmihhcpgkgiaaDoor
open Go Go.RowKit Go.Lib Go.Shelf
set_option linter.unusedVariables false
set_option maxRecDepth 100000
theorem cell_size {w : World} {b o : Nat} {v : Value} (h : w.cell? ⟨b, o, none⟩ = some v) : b < w.heap.size := by
  refine Nat.lt_of_not_le fun hn => ?_
  have : w.heap[b]? = none := Array.getElem?_eq_none hn
  simp [World.cell?, this] at h
theorem GL.size {w : World} (h : GL w) : ∀ b, GB b = true → b < w.heap.size := fun b hb => by
  simp only [GB, Bool.or_eq_true, beq_iff_eq] at hb
  rcases hb with ((rfl | rfl) | rfl) | rfl
  · obtain ⟨m, hm⟩ := h.maxl; exact cell_size hm
  · exact cell_size (h.tab.cell name10 0 (by decide))
  · obtain ⟨_, _, hm⟩ := h.syn; exact cell_size hm
  · obtain ⟨_, _, hm⟩ := h.ran; exact cell_size hm
abbrev laid7 : List (String × DataW Unit) := [("math/bits.deBruijn32tab", Rows.laid_math_bits_deBruijn32tab), ("math/bits.deBruijn64tab", Rows.laid_math_bits_deBruijn64tab), ("internal/strconv.uint64pow10", Rows.laid_internal_strconv_uint64pow10), ("unicode/utf8.acceptRanges", Rows.laid_unicode_utf8_acceptRanges), ("strconv.ErrRange", Rows.laid_strconv_ErrRange), ("strconv.ErrSyntax", Rows.laid_strconv_ErrSyntax), ("unicode/utf8.first", Rows.laid_unicode_utf8_first)]
theorem pow10_eq : (Rows.laid_internal_strconv_uint64pow10 : DataW Unit) = tabData .u64 pow10Tab := by kernel_rfl
theorem tab_of {W : World} {n : String} {k : IntKind} {zs : List Int} {g : Nat} {t e : TypeId} {m : Nat} (h : VarReads Tryd.prog W n (tabData k zs)) (hg : Tryd.prog.globalNamed n = some g) (hty : (Tryd.prog.globals[g]?).map (·.type) = some t) (ht : Tryd.prog.underlying t = some (.array m e)) (he : Tryd.prog.underlying e = some (.int k)) (hce : Tryd.prog.cellsOf e = 1) (hct : Tryd.prog.cellsOf t = m) : TabIs Tryd.prog W n k zs := by
  obtain ⟨g', t', cs, fuel, p, hg', ht', hvar, hd⟩ := h
  obtain rfl := Option.some.inj (hg.symm.trans hg')
  obtain rfl := Option.some.inj (hty.symm.trans ht')
  unfold TabIs
  have := cells_of_tab ht he hce hct hd
  rw [hvar, ← this]
theorem err_of {W : World} {n nm : String} {d : DataW Unit} {g : Nat} {t : TypeId} {ms : Array (String × TypeId)} (h : VarReads Tryd.prog W n (.iface nm d)) (hg : Tryd.prog.globalNamed n = some g) (hty : (Tryd.prog.globals[g]?).map (·.type) = some t) (hi : Tryd.prog.underlying t = some (.interface ms)) : ∃ te pe, W.cell? ⟨g, 0, none⟩ = some (.iface te pe) := by
  obtain ⟨g', t', cs, fuel, p, hg', ht', hvar, hd⟩ := h
  obtain rfl := Option.some.inj (hg.symm.trans hg')
  obtain rfl := Option.some.inj (hty.symm.trans ht')
  obtain ⟨f, u, v, e, -, -⟩ := iface_of_trod hi hd
  refine ⟨u, v, ?_⟩
  have h0 := World.var?_cell hg hvar 0
  rw [h0]
  obtain ⟨l⟩ := cs
  simp only at e
  subst e
  rfl
theorem gl_of {W : World} (hL : laidMetH Tryd.prog laid7 W) (hs : W.ShapedOpen Tryd.prog) : GL W where
  maxl := cell_of_shapedOpen_int (zero := #[.int .i64 0]) (t := 3) hs (of_decide_eq_true (by kernel_rfl)) (by kernel_rfl) rfl (by kernel_rfl) (by kernel_rfl) Tryd.underlying3
  tab := tab_of (pow10_eq ▸ laidMet.reads hL (n := "internal/strconv.uint64pow10") (d := Rows.laid_internal_strconv_uint64pow10) (by simp [laid7])) name10 (t := 110) (by kernel_rfl) Tryd.underlying110 Tryd.underlying70 (by kernel_rfl) (by kernel_rfl)
  syn := err_of (laidMet.reads hL (n := "strconv.ErrSyntax") (d := Rows.laid_strconv_ErrSyntax) (by simp [laid7])) (by kernel_rfl) (t := 87) (by kernel_rfl) Tryd.underlying87
  ran := err_of (laidMet.reads hL (n := "strconv.ErrRange") (d := Rows.laid_strconv_ErrRange) (by simp [laid7])) (by kernel_rfl) (t := 87) (by kernel_rfl) Tryd.underlying87
end Go.Proofs.YtdcmihhcpgkgiaaDoor
end

section
namespace Go.Proofs.YtdcmihhcpgkgiaaDoor
open Go.ChangeShapes Go.WideShapes Go.ChangeAt Go.RowKit
set_option linter.unusedSimpArgs false
set_option linter.unusedVariables false
set_option maxRecDepth 100000
noncomputable def low : Nat := (World.holding Tryd.prog default ⟨#[], #[], []⟩).heap.size
def rangeS : ByteArray := ⟨#[118, 97, 108, 117, 101, 32, 111, 117, 116, 32, 111, 102, 32, 114, 97, 110, 103, 101]⟩
def syntaxS : ByteArray := ⟨#[105, 110, 118, 97, 108, 105, 100, 32, 115, 121, 110, 116, 97, 120]⟩
/-- The settled world, and all that is listed as it is laid. -/
noncomputable def laidWorld (os : Os) : World :=
  let w0 := World.holding Tryd.prog os ⟨#[.cells #[.string rangeS] 129, .cells #[.string syntaxS] 129], #[], []⟩
  let put (h : Array Obj) (g : Nat) (cs : Array Value) : Array Obj := h.modify g fun
    | .cells _ t frozen => .cells cs t frozen
    | o => o
  let u8s (l : List Int) : Array Value := (l.map fun z => Value.int .u8 z).toArray
  let h1 := put w0.heap 4 (Go.Pinned.utf8FirstZ.map fun z => Value.int .u8 (Int.ofNat z)).toArray
  let h2 := put h1 5 (([128, 191, 160, 191, 128, 159, 144, 191, 128, 143] ++ List.replicate 22 0).map fun z => Value.int .u8 (Int.ofNat z)).toArray
  let h3 := put h2 6 (u8s [0, 1, 28, 2, 29, 14, 24, 3, 30, 22, 20, 15, 25, 17, 4, 8, 31, 27, 13, 23, 21, 19, 16, 7, 26, 12, 18, 6, 11, 5, 10, 9])
  let h4 := put h3 7 (u8s [0, 1, 56, 2, 57, 49, 28, 3, 61, 58, 42, 50, 38, 29, 17, 4, 62, 47, 59, 36, 45, 43, 51, 22, 53, 39, 33, 30, 24, 18, 12, 5, 63, 55, 48, 27, 60, 41, 37, 16, 46, 35, 44, 21, 52, 32, 23, 11, 54, 26, 40, 15, 34, 20, 31, 10, 25, 14, 19, 9, 13, 8, 7, 6])
  let h5 := put h4 1 ((Go.Lib.pow10Tab.map fun z => Value.int .u64 z).toArray)
  let h6 := put h5 3 #[.iface 127 (.pointer (some ⟨low, 0, none⟩))]
  let h7 := put h6 2 #[.iface 127 (.pointer (some ⟨low + 1, 0, none⟩))]
  { w0 with heap := h7 }
theorem laid_met (os : Os) (args : Array Value) : laidMet Tryd.prog laid7 ((laidWorld os).forCall (fun _ _ => 0) ⟨#[], args, []⟩).memory :=
  (LaidIn.of_run (l := laid7) [6, 7, 1, 5, 3, 2, 4, low, low + 1] 8 (by kernel_rfl) (by kernel_rfl) (by kernel_rfl) (by kernel_rfl)).met
end Go.Proofs.YtdcmihhcpgkgiaaDoor
end
