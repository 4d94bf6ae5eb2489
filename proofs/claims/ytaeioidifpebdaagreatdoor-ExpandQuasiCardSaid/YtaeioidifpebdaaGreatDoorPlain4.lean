/-
 Which data may be: plain laws, no program in sight.
-/
import Derived.Test.YtaeioidifpebdaaGreatDoorText
namespace Go.Proofs.YtaeioidifpebdaaGreatDoor
set_option linter.unusedSimpArgs false
set_option linter.unusedVariables false

def cD:D→D
 | .mk k c neg mag t l=>.mk k (if k=3 then c else 0) (if k=4 then neg else false) (if k=4 then mag else []) (if k=5∨k=6 then t else ⟨#[]⟩) (if k=7∨k=8 then l else [])
def fF (d:D):Prop:=(d.k=3∨d.c=0)∧(d.k=4∨(d.neg=false∧d.mag=[]))∧((d.k=5∨d.k=6)∨d.t=⟨#[]⟩)∧((d.k=7∨d.k=8)∨d.l=[])
theorem gX (d:D):FU d (cD d)↔fF d:=by
 obtain⟨k,c,neg,mag,t,l⟩:=d
 simp only [FU,fF,cD,D.k,D.c,D.neg,D.mag,D.t,D.l,true_and]
 constructor
 ·rintro ⟨h1,h2,h3,h4,h5⟩
  refine⟨?_,?_,?_,?_⟩
  ·by_cases h:k=3
   ·exact .inl h
   ·rw [if_neg h] at h1;exact .inr h1
  ·by_cases h:k=4
   ·exact .inl h
   ·rw [if_neg h] at h2 h3;exact .inr ⟨h2,h3⟩
  ·by_cases h:k=5∨k=6
   ·exact .inl h
   ·rw [if_neg h] at h4;exact .inr h4
  ·by_cases h:k=7∨k=8
   ·exact .inl h
   ·rw [if_neg h] at h5;exact .inr (List.eq_nil_of_length_eq_zero h5)
 ·rintro ⟨h1,h2,h3,h4⟩
  refine⟨?_,?_,?_,?_,?_⟩
  ·by_cases h:k=3
   ·rw [if_pos h]
   ·rw [if_neg h];exact h1.resolve_left h
  ·by_cases h:k=4
   ·rw [if_pos h]
   ·rw [if_neg h];exact (h2.resolve_left h).1
  ·by_cases h:k=4
   ·rw [if_pos h]
   ·rw [if_neg h];exact (h2.resolve_left h).2
  ·by_cases h:k=5∨k=6
   ·rw [if_pos h]
   ·rw [if_neg h];exact h3.resolve_left h
  ·by_cases h:k=7∨k=8
   ·rw [if_pos h]
   ·rw [if_neg h];rw [h4.resolve_left h]

mutual
def D.Plain:D→Prop
 | .mk k c neg mag t l=>(0≤k∧k≤10)∧fF (.mk k c neg mag t l)∧(k=3→Lib.validRune c=true)∧(k=4→kN neg mag=true)∧(k=6→gN t 1=true)∧(k=5→gN t 0=true)∧(k=7→l.length=2)∧l.length≤62∧Plains l
def Plains:List D→Prop
 | []=>True
 | d::l=>d.Plain∧Plains l
end
theorem Plains.iff:∀(l:List D),Plains l↔∀i (h:i<l.length),l[i].Plain
 | []=>⟨fun _ i h=>absurd h (by simp),fun _=>trivial⟩
 | d::l=>by
  simp only [Plains]
  rw [Plains.iff l]
  constructor
  ·rintro ⟨h1,h2⟩ i hi
   cases i with
   | zero=>exact h1
   | succ i=>exact h2 i (by simpa using hi)
  ·intro h
   exact⟨h 0 (by simp),fun i hi=>h (i+1) (by simpa using hi)⟩
noncomputable def cA (d:D):Bool:=@decide d.Plain (Classical.propDecidable _)
theorem dC {d:D}:cA d=true↔d.Plain:=by unfold cA;exact @decide_eq_true_iff _ (Classical.propDecidable _)
theorem pX {d:D} (h:¬d.Plain):cA d=false:=by
 cases hc:cA d with
 | false=>rfl
 | true=>exact absurd (dC.1 hc) h
noncomputable def iB (l:List D):Bool:=@decide (Plains l) (Classical.propDecidable _)
theorem jQ {l:List D}:iB l=true↔Plains l:=by unfold iB;exact @decide_eq_true_iff _ (Classical.propDecidable _)
theorem rJ {l:List D} (h:¬Plains l):iB l=false:=by
 cases hc:iB l with
 | false=>rfl
 | true=>exact absurd (jQ.1 hc) h
noncomputable def oD (d:D):Bool:=cA d&&decide (d.depth≤64)

section kinds
variable {c:Int} {neg:Bool} {mag:List Int} {t:ByteArray} {l:List D}
theorem sF {a b:Bool} (h:a=true↔b=true):a=b:=by cases a<;>cases b<;>simp_all
theorem iH (k:Int) (hk:k=0∨k=1∨k=2∨k=9∨k=10) (hb:fF (.mk k c neg mag t l)):cA (.mk k c neg mag t l)=true:=by
 rw [dC,D.Plain]
 have hl:l=[]:=hb.2.2.2.resolve_left (by simp only [D.k];omega)
 subst hl
 exact⟨by omega,hb,fun h=>by omega,fun h=>by omega,fun h=>by omega,fun h=>by omega,fun h=>by omega,by simp,trivial⟩
theorem zU (hb:fF (.mk 3 c neg mag t l)):cA (.mk 3 c neg mag t l)=Lib.validRune c:=by
 have hl:l=[]:=hb.2.2.2.resolve_left (by simp only [D.k];omega)
 subst hl
 apply sF
 rw [dC,D.Plain]
 exact⟨fun h=>h.2.2.1 rfl,fun h=>⟨by omega,hb,fun _=>h,(fun h=>by omega),(fun h=>by omega),(fun h=>by omega),(fun h=>by omega),by simp,trivial⟩⟩
theorem CS (hb:fF (.mk 4 c neg mag t l)):cA (.mk 4 c neg mag t l)=kN neg mag:=by
 have hl:l=[]:=hb.2.2.2.resolve_left (by simp only [D.k];omega)
 subst hl
 apply sF
 rw [dC,D.Plain]
 exact⟨fun h=>h.2.2.2.1 rfl,fun h=>⟨by omega,hb,(fun h=>by omega),(fun _=>h),(fun h=>by omega),(fun h=>by omega),(fun h=>by omega),by simp,trivial⟩⟩
theorem sG (hb:fF (.mk 6 c neg mag t l)):cA (.mk 6 c neg mag t l)=gN t 1:=by
 have hl:l=[]:=hb.2.2.2.resolve_left (by simp only [D.k];omega)
 subst hl
 apply sF
 rw [dC,D.Plain]
 exact⟨fun h=>h.2.2.2.2.1 rfl,fun h=>⟨by omega,hb,(fun h=>by omega),(fun h=>by omega),(fun _=>h),(fun h=>by omega),(fun h=>by omega),by simp,trivial⟩⟩
theorem wG (hb:fF (.mk 5 c neg mag t l)):cA (.mk 5 c neg mag t l)=gN t 0:=by
 have hl:l=[]:=hb.2.2.2.resolve_left (by simp only [D.k];omega)
 subst hl
 apply sF
 rw [dC,D.Plain]
 exact⟨fun h=>h.2.2.2.2.2.1 rfl,fun h=>⟨by omega,hb,(fun h=>by omega),(fun h=>by omega),(fun h=>by omega),(fun _=>h),(fun h=>by omega),by simp,trivial⟩⟩
theorem tW (hb:fF (.mk 7 c neg mag t l)):cA (.mk 7 c neg mag t l)=(decide (l.length=2)&&iB l):=by
 apply sF
 rw [dC,D.Plain,Bool.and_eq_true,decide_eq_true_eq,jQ]
 exact⟨fun h=>⟨h.2.2.2.2.2.2.1 rfl,h.2.2.2.2.2.2.2.2⟩,fun h=>⟨by omega,hb,(fun h=>by omega),(fun h=>by omega),(fun h=>by omega),(fun h=>by omega),(fun _=>h.1),by omega,h.2⟩⟩
theorem wH (hb:fF (.mk 8 c neg mag t l)):cA (.mk 8 c neg mag t l)=(decide (l.length≤62)&&iB l):=by
 apply sF
 rw [dC,D.Plain,Bool.and_eq_true,decide_eq_true_eq,jQ]
 exact⟨fun h=>⟨h.2.2.2.2.2.2.2.1,h.2.2.2.2.2.2.2.2⟩,fun h=>⟨by omega,hb,(fun h=>by omega),(fun h=>by omega),(fun h=>by omega),(fun h=>by omega),(fun h=>by omega),h.1,h.2⟩⟩
end kinds
end Go.Proofs.YtaeioidifpebdaaGreatDoor
