/-
 Laid together: ReadK, RowK.
-/
import Derived.Test.YtpacdmgnpadleaaDoorArgs
import Derived.Test.YtpacdmgnpadleaaDoorG5
import Derived.Test.YtpacdmgnpadleaaDoorG3
import Derived.Test.YtpacdmgnpadleaaDoorWit
import Derived.Test.YtpacdmgnpadleaaDoorTabs
section
namespace Go.Proofs.YtpacdmgnpadleaaDoor
open Go Go.ChangeShapes Go.WideShapes Go.ChangeAt Go.RowKit
set_option linter.unusedSimpArgs false
set_option linter.unusedVariables false
set_option maxRecDepth 100000
section
variable {H : Type} {enc : TypeId × Value → H} {w : World} {base : Nat} {spare : Nat → Bool} {held : Bool}
theorem readSlC {α : Type} (f : α → List C) (good : α → Prop) {P : Program} {t e : TypeId} {n wd : Nat} {cs : List Value} {x : DataW H × List MemPlace} (ht : P.underlying t = some (.slice e)) (hs : 0 < P.cellsOf e) (hf : ∀ a, (f a).length = wd)
  (hread : ∀ m cs x, m < n → DataW.trod enc P w base spare held m e cs = some x → (∀ k ∈ x.1.weights P e, k ≤ reachBytes) → ∃ a, Ccs ⟨w, []⟩ (f a) cs ∧ good a)
  (h : DataW.trod enc P w base spare held n t cs = some x) (hw : ∀ k ∈ x.1.weights P t, k ≤ reachBytes) :
  ∃ (l : List α) (v : Value), cs = [v] ∧ Cc ⟨w, []⟩ (.sl wd (l.map f)) v ∧ (∀ a ∈ l, good a) ∧ l.length * P.bytesOf e ≤ reachBytes := by
 have hfm : ∀ (l : List α), ∀ e ∈ l.map f, e.length = wd := fun l e he => by obtain ⟨a, _, rfl⟩ := List.mem_map.1 he; exact hf a
 rcases DataW.trod_slice ht h with ⟨rfl, rfl⟩ | ⟨a, len, cap, elems, rest, m, rfl, rfl, rfl, hb, hl, hm, hlen, hel, -, -⟩
 ·refine ⟨[], _, rfl, ?_, by simp, by simp⟩
  simp only [List.map_nil, Cc]
  exact ⟨by simp, .inl ⟨trivial, .inl rfl⟩⟩
 ·rw [DataW.weights, ht] at hw
  have hbytes : len * P.bytesOf e ≤ reachBytes := by
   have := hw _ (List.mem_cons_self ..)
   simp only [List.length_map, hlen] at this
   exact Nat.le_trans (Nat.mul_le_mul_right _ (by omega)) this
  have hel' : ∀ i, i < len → ∃ cs' y, w.cells? base (a.add (i * P.cellsOf e)) (P.cellsOf e) = some cs' ∧ DataW.trod enc P w base spare held m e cs' = some y ∧ ∀ k ∈ y.1.weights P e, k ≤ reachBytes := by
   intro i hi
   have h1 := hel i hi
   rw [List.getElem?_eq_getElem (by omega)] at h1
   obtain ⟨cs', h2, h3⟩ := Option.bind_eq_some_iff.1 h1
   refine ⟨cs', _, h2, h3, fun k hk => hw k ?_⟩
   exact List.mem_cons_of_mem _ (List.mem_append_left _ (weightsAll_mem (List.mem_map_of_mem (List.getElem_mem _)) k hk))
  by_cases h0 : len = 0
  ·subst h0
   refine ⟨[], _, rfl, ?_, by simp, by simp⟩
   simp only [List.map_nil, Cc]
   exact ⟨by simp, .inl ⟨trivial, .inr ⟨_, _, rfl, hm⟩⟩⟩
  have hspot : a.spot = none := by
   obtain ⟨cs', y, h2, -, -⟩ := hel' 0 (by omega)
   obtain ⟨-, hcl, hat⟩ := World.cells?_some h2
   have h3 := hat 0 hs
   simp only [Nat.zero_mul, Addr.add, if_true] at h3
   rw [List.getElem?_eq_getElem (by omega)] at h3
   unfold World.cell? at h3
   split at h3
   ·split at h3
    ·cases h3
    ·rename_i hn; simpa using hn
   ·cases h3
  obtain ⟨b, o, sp⟩ := a
  simp only at hspot
  subst hspot
  have hadd : ∀ o j, (⟨b, o, none⟩ : Addr).add j = ⟨b, o + j, none⟩ := fun o j => by
   unfold Addr.add; split
   ·subst_vars; rfl
   ·rfl
  have key : ∀ k j, j + k = len → ∃ l : List α, l.length = k ∧ Crow ⟨w, []⟩ (l.map f) b (o + j * P.cellsOf e) ∧ ∀ a ∈ l, good a := by
   intro k
   induction k with
   | zero => exact fun j _ => ⟨[], rfl, by simp only [List.map_nil, Crow], by simp⟩
   | succ k ih =>
    intro j hj
    obtain ⟨l, hl1, hl2, hl3⟩ := ih (j + 1) (by omega)
    obtain ⟨cs', y, h2, h3, h4⟩ := hel' j (by omega)
    obtain ⟨z, hz1, hz2⟩ := hread m cs' y (Nat.lt_succ_self _) h3 h4
    obtain ⟨-, hcl, hat⟩ := World.cells?_some h2
    refine ⟨z :: l, by simp [hl1], ?_, fun a ha => ?_⟩
    ·rw [List.map_cons, Crow]
     refine ⟨cs', CellsAt.of fun i u hu => ?_, hz1, ?_⟩
     ·have hi : i < cs'.length := (List.getElem?_eq_some_iff.1 hu).1
      have := hat i (by omega)
      rw [hadd, hadd] at this
      exact this.trans hu
     ·rw [hcl, Nat.add_assoc, ← Nat.succ_mul]; exact hl2
    ·rcases List.mem_cons.1 ha with rfl | ha
     ·exact hz2
     ·exact hl3 a ha
  obtain ⟨l, hl1, hl2, hl3⟩ := key len 0 (by omega)
  refine ⟨l, _, rfl, ?_, hl3, by rw [hl1]; exact hbytes⟩
  simp only [Cc]
  refine ⟨hfm l, .inr ⟨b, o, cap, by rw [List.length_map, hl1], by rw [List.length_map, hl1]; exact hl, hm, by simpa using hl2⟩⟩
theorem readStrs {n : Nat} {cs : List Value} {x : DataW H × List MemPlace} (h : DataW.trod enc Tryd.prog w base spare held n 25 cs = some x) (hw : ∀ k ∈ x.1.weights Tryd.prog 25, k ≤ reachBytes) :
  ∃ (l : List ByteArray) (v : Value), cs = [v] ∧ Cc ⟨w, []⟩ (.sl 1 (strC l)) v ∧ l.length ≤ 1000000000000000 := by
 obtain ⟨l, v, h1, h2, -, h3⟩ := readSlC (fun s : ByteArray => [C.v (.string s)]) (fun _ => True) (wd := 1) Tryd.underlying25 (Nat.lt_of_lt_of_eq Nat.zero_lt_one (show 1 = Tryd.prog.cellsOf 9 by kernel_rfl)) (fun _ => rfl) (fun m cs x _ h _ => by
  obtain ⟨s, rfl, -, -⟩ := DataW.trod_string Tryd.underlying9 h
  exact ⟨s, by simp only [Ccs]; exact ⟨_, _, rfl, by simp only [Cc]; exact ⟨trivial, rfl⟩, rfl⟩, trivial⟩) h hw
 rw [show Tryd.prog.bytesOf 9 = 16 by kernel_rfl] at h3
 exact ⟨l, v, h1, h2, by unfold reachBytes at h3; omega⟩
theorem readK : ∀ (n : Nat) (cs : List Value) (x : DataW H × List MemPlace), DataW.trod enc Tryd.prog w base spare held n 33 cs = some x → (∀ k ∈ x.1.weights Tryd.prog 33, k ≤ reachBytes) → ∃ d : K, Ccs ⟨w, []⟩ d.cc cs ∧ d.Ok := by
 intro n
 induction n using Nat.strongRecOn with
 | ind n ih =>
  intro cs x h hw
  obtain ⟨xs, m, rfl, rfl, hcl, hxl, hf⟩ := DataW.trod_struct Tryd.underlying33 h
  rw [show Tryd.prog.cellsOf 33 = 11 by kernel_rfl] at hcl
  match cs, hcl with
  | [c0, c1, c2, c3, c4, c5, c6, c7, c8, c9, c10], _ =>
  match xs, hxl with
  | [y0, y1, y2, y3, y4, y5], _ =>
  have h0 : DataW.trod enc Tryd.prog w base spare held m 3 (([c0, c1, c2, c3, c4, c5, c6, c7, c8, c9, c10].drop 0).take (Tryd.prog.cellsOf 3)) = some y0 := hf 0 _ rfl
  have h1 : DataW.trod enc Tryd.prog w base spare held m 9 (([c0, c1, c2, c3, c4, c5, c6, c7, c8, c9, c10].drop 1).take (Tryd.prog.cellsOf 9)) = some y1 := hf 1 _ rfl
  have h2 : DataW.trod enc Tryd.prog w base spare held m 9 (([c0, c1, c2, c3, c4, c5, c6, c7, c8, c9, c10].drop 2).take (Tryd.prog.cellsOf 9)) = some y2 := hf 2 _ rfl
  have h3 : DataW.trod enc Tryd.prog w base spare held m 25 (([c0, c1, c2, c3, c4, c5, c6, c7, c8, c9, c10].drop 3).take (Tryd.prog.cellsOf 25)) = some y3 := hf 3 _ rfl
  have h4 : DataW.trod enc Tryd.prog w base spare held m 31 (([c0, c1, c2, c3, c4, c5, c6, c7, c8, c9, c10].drop 4).take (Tryd.prog.cellsOf 31)) = some y4 := hf 4 _ rfl
  have h5 : DataW.trod enc Tryd.prog w base spare held m 22 (([c0, c1, c2, c3, c4, c5, c6, c7, c8, c9, c10].drop 10).take (Tryd.prog.cellsOf 22)) = some y5 := hf 5 _ rfl
  rw [show Tryd.prog.cellsOf 3 = 1 by kernel_rfl] at h0
  rw [show Tryd.prog.cellsOf 9 = 1 by kernel_rfl] at h1 h2
  rw [show Tryd.prog.cellsOf 25 = 1 by kernel_rfl] at h3
  rw [show Tryd.prog.cellsOf 31 = 6 by kernel_rfl] at h4
  rw [show Tryd.prog.cellsOf 22 = 1 by kernel_rfl] at h5
  rw [DataW.weights, Tryd.underlying33] at hw
  change ∀ k ∈ y0.1.weights Tryd.prog 3 ++ (y1.1.weights Tryd.prog 9 ++ (y2.1.weights Tryd.prog 9 ++ (y3.1.weights Tryd.prog 25 ++ (y4.1.weights Tryd.prog 31 ++ (y5.1.weights Tryd.prog 22 ++ _))))), k ≤ reachBytes at hw
  have hw3 : ∀ k ∈ y3.1.weights Tryd.prog 25, k ≤ reachBytes := fun k hk => hw k (List.mem_append_right _ (List.mem_append_right _ (List.mem_append_right _ (List.mem_append_left _ hk))))
  have hw4 : ∀ k ∈ y4.1.weights Tryd.prog 31, k ≤ reachBytes := fun k hk => hw k (List.mem_append_right _ (List.mem_append_right _ (List.mem_append_right _ (List.mem_append_right _ (List.mem_append_left _ hk)))))
  have hw5 : ∀ k ∈ y5.1.weights Tryd.prog 22, k ≤ reachBytes := fun k hk => hw k (List.mem_append_right _ (List.mem_append_right _ (List.mem_append_right _ (List.mem_append_right _ (List.mem_append_right _ (List.mem_append_left _ hk))))))
  obtain ⟨k0, e0, rfl, b0⟩ := DataW.trod_int Tryd.underlying3 h0
  obtain ⟨s1, e1, -, -⟩ := DataW.trod_string Tryd.underlying9 h1
  obtain ⟨s2, e2, -, -⟩ := DataW.trod_string Tryd.underlying9 h2
  obtain ⟨ps, vp, e3, p1, p2⟩ := readStrs h3 hw3
  obtain ⟨d, d1, d2⟩ := readD m _ _ h4 hw4
  obtain ⟨l, vl, e5, l1, l2, l3⟩ := readSlC K.cc K.Ok (wd := 11) Tryd.underlying22 (Nat.lt_of_lt_of_eq (show 0 < 11 by decide) (show 11 = Tryd.prog.cellsOf 33 by kernel_rfl)) K.cc_len (fun m' cs x hm h hw => ih m' (by omega) cs x h hw) h5 hw5
  have hd := D.cc_of d.ht d _ (Nat.le_refl _) d1
  simp at e0 e1 e2 e3 e5
  subst e0 e1 e2 e3 e5
  rw [show Tryd.prog.bytesOf 33 = 176 by kernel_rfl] at l3
  refine ⟨.mk k0 s1 s2 ps d l, ?_, ?_⟩
  ·rw [K.cc_eq]
   rw [D.cc_eq] at hd
   change Ccs _ _ [c4, c5, c6, c7, c8, c9] at hd
   simp only [K.k, K.name, K.rest, K.params, K.d, K.l]
   refine Ccs.append (cs := [_, _, _, _]) (ds := [_, _, _, _, _, _, _]) |>.2 ⟨[_, _, _, _], [c4, c5, c6, c7, c8, c9, _], rfl, ?_, Ccs.append (cs := [_, _, _, _, _, _]) (ds := [_]) |>.2 ⟨[c4, c5, c6, c7, c8, c9], [_], rfl, hd, ?_⟩⟩
   ·simp only [Ccs]
    exact ⟨_, _, rfl, by simp [Cc, Value.oneCell'], _, _, rfl, by simp [Cc, Value.oneCell'], _, _, rfl, by simp [Cc, Value.oneCell'], _, _, rfl, p1, rfl⟩
   ·simp only [Ccs]
    exact ⟨_, _, rfl, l1, rfl⟩
  ·have hoks : K.Oks l := by
    clear l1 l3 h5 hw5
    induction l with
    | nil => simp only [K.Oks]
    | cons a l ih => simp only [K.Oks]; exact ⟨l2 a (by simp), ih (fun b hb => l2 b (by simp [hb]))⟩
   rw [K.Ok]
   refine ⟨wf_bounds b0, p2, d2, ?_, hoks⟩
   unfold reachBytes at l3; omega
variable {v : Value} {d : DataW H} {ps : List MemPlace} {base' : Nat}
theorem argKs (hok : Value.okWide Tryd.prog w .any base' 22 v) (h : DataW.Trod enc Tryd.prog w base spare held 22 v d ps) (hw : ∀ k ∈ d.weights Tryd.prog 22, k ≤ reachBytes) : ∃ l : List K, Ca ⟨w, []⟩ (.one (.sl 11 (l.map K.cc))) v ∧ K.Oks l ∧ l.length ≤ 1000000000000000 := by
 obtain ⟨n, h⟩ := h
 obtain ⟨l, u, e, l1, l2, l3⟩ := readSlC K.cc K.Ok (wd := 11) Tryd.underlying22 (Nat.lt_of_lt_of_eq (show 0 < 11 by decide) (show 11 = Tryd.prog.cellsOf 33 by kernel_rfl)) K.cc_len (fun m' cs x hm h hw => readK m' cs x h hw) h hw
 rw [show Tryd.prog.bytesOf 33 = 176 by kernel_rfl] at l3
 simp only [Value.okWide, Tryd.underlying22] at hok
 have hv : v.cells = #[v] := by
  cases v with
  | agg cs => simp [Cell.okWide, Cell.ok, Tryd.underlying22] at hok
  | _ => rfl
 rw [hv] at e
 obtain rfl : u = v := by simpa using e.symm
 have hoks : K.Oks l := by
  clear l1 l3
  induction l with
  | nil => simp only [K.Oks]
  | cons a l ih => simp only [K.Oks]; exact ⟨l2 a (by simp), ih (fun b hb => l2 b (by simp [hb]))⟩
 exact ⟨l, by simp only [Ca]; exact l1, hoks, by unfold reachBytes at l3; omega⟩
end
end Go.Proofs.YtpacdmgnpadleaaDoor
end
section
namespace Go.Proofs.YtpacdmgnpadleaaDoor
open Go Go.RowKit
theorem cell_size {w : World} {b o : Nat} {v : Value} (h : w.cell? ⟨b, o, none⟩ = some v) : b < w.heap.size := by
 refine Nat.lt_of_not_le fun hn => ?_
 have : w.heap[b]? = none := Array.getElem?_eq_none hn
 simp [World.cell?, this] at h
theorem GL.size {w : World} (h : GL w) : ∀ b, GB b = true → b < w.heap.size := fun b hb => by
 simp only [GB, Bool.or_eq_true, beq_iff_eq] at hb
 rcases hb with rfl | rfl
 ·exact cell_size (h.1 0 (by decide))
 ·exact cell_size (h.2 0 (by decide)).1
end Go.Proofs.YtpacdmgnpadleaaDoor
end
