/-
 Plain laws on data: no program in sight.
-/
import Derived.Test.YtaeioidifpebdaaGreatDoorDatum
import Derived.Laws.Strings
namespace Go.Proofs.YtaeioidifpebdaaGreatDoor
set_option linter.unusedSimpArgs false

theorem lY {α:Type} {l m:List α} {k:Nat} (h:l.take k=m.take k) (hl:k<l.length) (hm:k<m.length) (e:l[k]=m[k]):l.take (k+1)=m.take (k+1):=by
 rw [List.take_succ_eq_append_getElem hl,List.take_succ_eq_append_getElem hm,h,e]
theorem rX {α:Type} {l m:List α} {k:Nat} (hl:k<l.length) (hm:k<m.length) (e:l[k]≠m[k]):l≠m:=fun h=>by subst h;exact e rfl
theorem pG {α:Type} {l m:List α} {k:Nat} (h:l.take k=m.take k) (hl:l.length≤k) (hm:m.length≤k):l=m:=by
 rwa [List.take_of_length_le hl,List.take_of_length_le hm] at h

noncomputable def eqB {α:Type} (a b:α):Bool:=@decide (a=b) (Classical.propDecidable _)
theorem yE {α:Type} {a b:α}:eqB a b=true↔a=b:=by unfold eqB;exact @decide_eq_true_iff _ (Classical.propDecidable _)
theorem aY {α:Type} {a b:α} (h:a=b):eqB a b=true:=yE.2 h
theorem aA {α:Type} {a b:α} (h:a≠b):eqB a b=false:=by
 cases hc:eqB a b with
 | false=>rfl
 | true=>exact absurd (yE.1 hc) h

def FU (a b:D):Prop:=a.k=b.k∧a.c=b.c∧a.neg=b.neg∧a.mag=b.mag∧a.t=b.t∧a.l.length=b.l.length
noncomputable def fG (a b:D):Bool:=@decide (FU a b) (Classical.propDecidable _)
theorem CE {a b:D}:fG a b=true↔FU a b:=by unfold fG;exact @decide_eq_true_iff _ (Classical.propDecidable _)
theorem fI {a b:D} (h:FU a b):fG a b=true:=CE.2 h
theorem jO {a b:D} (h:¬FU a b):fG a b=false:=by
 cases hc:fG a b with
 | false=>rfl
 | true=>exact absurd (CE.1 hc) h
theorem D.ext' {a b:D} (h:FU a b) (hl:a.l=b.l):a=b:=by
 obtain⟨h1,h2,h3,h4,h5,_⟩:=h
 cases a;cases b
 simp only [D.k,D.c,D.neg,D.mag,D.t,D.l] at *
 subst h1 h2 h3 h4 h5 hl;rfl
theorem pH {a b:ByteArray} (h:a.toList=b.toList):a=b:=by
 rw [Go.ByteArray.toList_eq,Go.ByteArray.toList_eq] at h
 cases a;cases b
 simp only at h
 congr 1
 exact Array.toList_inj.1 h

def D.ht:D→Nat
 | .mk _ _ _ _ _ l=>1+(l.map ht).foldr max 0
theorem D.ht_lt {d:D} {i:Nat} (h:i<d.l.length):d.l[i].ht<d.ht:=by
 obtain⟨k,c,neg,mag,t,l⟩:=d
 simp only [D.l] at h ⊢
 rw [D.ht]
 have:∀(l:List D) (i:Nat) (h:i<l.length),l[i].ht≤(l.map D.ht).foldr max 0:=by
  intro l
  induction l with
  | nil=>intro i h;simp at h
  | cons a l ih =>
   intro i h
   cases i with
   | zero=>simp only [List.getElem_cons_zero,List.map_cons,List.foldr_cons];omega
   | succ i=>simp only [List.getElem_cons_succ,List.map_cons,List.foldr_cons];have:=ih i (by simpa using h);omega
 have:=this l i h
 omega
end Go.Proofs.YtaeioidifpebdaaGreatDoor
