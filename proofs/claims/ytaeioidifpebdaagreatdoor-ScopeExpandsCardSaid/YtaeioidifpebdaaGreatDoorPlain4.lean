/-
 Which data may be: plain laws, no program in sight.
-/
import Derived.Test.YtaeioidifpebdaaGreatDoorText
namespace Go.Proofs.YtaeioidifpebdaaGreatDoor
set_option linter.unusedSimpArgs false
set_option linter.unusedVariables false

def cQ:D→D
 | .mk k c neg mag t l=>.mk k (if k=3 then c else 0) (if k=4 then neg else false) (if k=4 then mag else []) (if k=5∨k=6 then t else ⟨#[]⟩) (if k=7∨k=8 then l else [])
def kV (d:D):Prop:=(d.k=3∨d.c=0)∧(d.k=4∨(d.neg=false∧d.mag=[]))∧((d.k=5∨d.k=6)∨d.t=⟨#[]⟩)∧((d.k=7∨d.k=8)∨d.l=[])
theorem gX (d:D):GC d (cQ d)↔kV d:=by
 obtain⟨k,c,neg,mag,t,l⟩:=d
 simp only [GC,kV,cQ,D.k,D.c,D.neg,D.mag,D.t,D.l,true_and]
 constructor
 ·rintro ⟨h1,h2,h3,h4,h5⟩
  refine⟨?_,?_,?_,?_⟩
  ·by_cases h:k=3
   ·exact .inl h
   ·rw [if_neg h] at h1;exact .inr h1
  ·by_cases h:k=4
   ·exact .inl h
   ·rw [if_neg h] at h2 h3;exact .inr ⟨h2,h3⟩
  ·by_cases h:k=5∨k=6
   ·exact .inl h
   ·rw [if_neg h] at h4;exact .inr h4
  ·by_cases h:k=7∨k=8
   ·exact .inl h
   ·rw [if_neg h] at h5;exact .inr (List.eq_nil_of_length_eq_zero h5)
 ·rintro ⟨h1,h2,h3,h4⟩
  refine⟨?_,?_,?_,?_,?_⟩
  ·by_cases h:k=3
   ·rw [if_pos h]
   ·rw [if_neg h];exact h1.resolve_left h
  ·by_cases h:k=4
   ·rw [if_pos h]
   ·rw [if_neg h];exact (h2.resolve_left h).1
  ·by_cases h:k=4
   ·rw [if_pos h]
   ·rw [if_neg h];exact (h2.resolve_left h).2
  ·by_cases h:k=5∨k=6
   ·rw [if_pos h]
   ·rw [if_neg h];exact h3.resolve_left h
  ·by_cases h:k=7∨k=8
   ·rw [if_pos h]
   ·rw [if_neg h];rw [h4.resolve_left h]

mutual
def D.Plain:D→Prop
 | .mk k c neg mag t l=>(0≤k∧k≤10)∧kV (.mk k c neg mag t l)∧(k=3→Lib.validRune c=true)∧(k=4→qW neg mag=true)∧(k=6→xD t 1=true)∧(k=5→xD t 0=true)∧(k=7→l.length=2)∧l.length≤62∧Plains l
def Plains:List D→Prop
 | []=>True
 | d::l=>d.Plain∧Plains l
end
theorem Plains.iff:∀(l:List D),Plains l↔∀i (h:i<l.length),l[i].Plain
 | []=>⟨fun _ i h=>absurd h (by simp),fun _=>trivial⟩
 | d::l=>by
  simp only [Plains]
  rw [Plains.iff l]
  constructor
  ·rintro ⟨h1,h2⟩ i hi
   cases i with
   | zero=>exact h1
   | succ i=>exact h2 i (by simpa using hi)
  ·intro h
   exact⟨h 0 (by simp),fun i hi=>h (i+1) (by simpa using hi)⟩
noncomputable def dT (d:D):Bool:=@decide d.Plain (Classical.propDecidable _)
theorem eB {d:D}:dT d=true↔d.Plain:=by unfold dT;exact @decide_eq_true_iff _ (Classical.propDecidable _)
theorem AG {d:D} (h:¬d.Plain):dT d=false:=by
 cases hc:dT d with
 | false=>rfl
 | true=>exact absurd (eB.1 hc) h
noncomputable def lF (l:List D):Bool:=@decide (Plains l) (Classical.propDecidable _)
theorem nU {l:List D}:lF l=true↔Plains l:=by unfold lF;exact @decide_eq_true_iff _ (Classical.propDecidable _)
theorem IL {l:List D} (h:¬Plains l):lF l=false:=by
 cases hc:lF l with
 | false=>rfl
 | true=>exact absurd (nU.1 hc) h
noncomputable def yF (d:D):Bool:=dT d&&decide (d.depth≤64)

section kinds
variable {c:Int} {neg:Bool} {mag:List Int} {t:ByteArray} {l:List D}
theorem sB {a b:Bool} (h:a=true↔b=true):a=b:=by cases a<;>cases b<;>simp_all
theorem jO (k:Int) (hk:k=0∨k=1∨k=2∨k=9∨k=10) (hb:kV (.mk k c neg mag t l)):dT (.mk k c neg mag t l)=true:=by
 rw [eB,D.Plain]
 have hl:l=[]:=hb.2.2.2.resolve_left (by simp only [D.k];omega)
 subst hl
 exact⟨by omega,hb,fun h=>by omega,fun h=>by omega,fun h=>by omega,fun h=>by omega,fun h=>by omega,by simp,trivial⟩
theorem KZ (hb:kV (.mk 3 c neg mag t l)):dT (.mk 3 c neg mag t l)=Lib.validRune c:=by
 have hl:l=[]:=hb.2.2.2.resolve_left (by simp only [D.k];omega)
 subst hl
 apply sB
 rw [eB,D.Plain]
 exact⟨fun h=>h.2.2.1 rfl,fun h=>⟨by omega,hb,fun _=>h,(fun h=>by omega),(fun h=>by omega),(fun h=>by omega),(fun h=>by omega),by simp,trivial⟩⟩
theorem OP (hb:kV (.mk 4 c neg mag t l)):dT (.mk 4 c neg mag t l)=qW neg mag:=by
 have hl:l=[]:=hb.2.2.2.resolve_left (by simp only [D.k];omega)
 subst hl
 apply sB
 rw [eB,D.Plain]
 exact⟨fun h=>h.2.2.2.1 rfl,fun h=>⟨by omega,hb,(fun h=>by omega),(fun _=>h),(fun h=>by omega),(fun h=>by omega),(fun h=>by omega),by simp,trivial⟩⟩
theorem CR (hb:kV (.mk 6 c neg mag t l)):dT (.mk 6 c neg mag t l)=xD t 1:=by
 have hl:l=[]:=hb.2.2.2.resolve_left (by simp only [D.k];omega)
 subst hl
 apply sB
 rw [eB,D.Plain]
 exact⟨fun h=>h.2.2.2.2.1 rfl,fun h=>⟨by omega,hb,(fun h=>by omega),(fun h=>by omega),(fun _=>h),(fun h=>by omega),(fun h=>by omega),by simp,trivial⟩⟩
theorem OQ (hb:kV (.mk 5 c neg mag t l)):dT (.mk 5 c neg mag t l)=xD t 0:=by
 have hl:l=[]:=hb.2.2.2.resolve_left (by simp only [D.k];omega)
 subst hl
 apply sB
 rw [eB,D.Plain]
 exact⟨fun h=>h.2.2.2.2.2.1 rfl,fun h=>⟨by omega,hb,(fun h=>by omega),(fun h=>by omega),(fun h=>by omega),(fun _=>h),(fun h=>by omega),by simp,trivial⟩⟩
theorem LA (hb:kV (.mk 7 c neg mag t l)):dT (.mk 7 c neg mag t l)=(decide (l.length=2)&&lF l):=by
 apply sB
 rw [eB,D.Plain,Bool.and_eq_true,decide_eq_true_eq,nU]
 exact⟨fun h=>⟨h.2.2.2.2.2.2.1 rfl,h.2.2.2.2.2.2.2.2⟩,fun h=>⟨by omega,hb,(fun h=>by omega),(fun h=>by omega),(fun h=>by omega),(fun h=>by omega),(fun _=>h.1),by omega,h.2⟩⟩
theorem OS (hb:kV (.mk 8 c neg mag t l)):dT (.mk 8 c neg mag t l)=(decide (l.length≤62)&&lF l):=by
 apply sB
 rw [eB,D.Plain,Bool.and_eq_true,decide_eq_true_eq,nU]
 exact⟨fun h=>⟨h.2.2.2.2.2.2.2.1,h.2.2.2.2.2.2.2.2⟩,fun h=>⟨by omega,hb,(fun h=>by omega),(fun h=>by omega),(fun h=>by omega),(fun h=>by omega),(fun h=>by omega),h.1,h.2⟩⟩
end kinds
end Go.Proofs.YtaeioidifpebdaaGreatDoor
