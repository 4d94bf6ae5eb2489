/-
 Plain laws on numbers: no program in sight.
-/
import Derived.Test.YtaeioidifpebdaaGreatDoorPlain2
import Derived.Test.YtaeioidifpebdaaGreatDoorOwn
namespace Go.Proofs.YtaeioidifpebdaaGreatDoor
set_option linter.unusedSimpArgs false
set_option linter.unusedVariables false

def cC (l:List Int):List Int:=(l.reverse.dropWhile (· == 0)).reverse
theorem jI (l:List Int):cC (l++[0])=cC l:=by simp [cC]
theorem tL (l:List Int) (x:Int) (h:x≠0):cC (l++[x])=l++[x]:=by
 simp [cC,List.dropWhile_cons,h]
theorem uQ (l:List Int) (n:Nat) (hn:n≤l.length) (h0:∀i (h:i<l.length),n≤i→l[i]=0) (h1:∀(h:0<n),l[n-1]'(by omega)≠0):cC l=l.take n:=by
 obtain⟨d,hd⟩:∃d,l.length=n+d:=⟨l.length-n,by omega⟩
 induction d generalizing l with
 | zero =>
  rw [List.take_of_length_le (by omega)]
  rcases Nat.eq_zero_or_pos n with h|h
  ·have:l=[]:=List.eq_nil_of_length_eq_zero (by omega)
   subst this;rfl
  ·have hne:l≠[]:=fun e=>by subst e;simp at hd;omega
   have e:=List.dropLast_concat_getLast hne
   have hl:l.getLast hne≠0:=by
    rw [List.getLast_eq_getElem]
    have:=h1 h
    have e2:l.length-1=n-1:=by omega
    simpa [e2] using this
   rw [←e,tL _ _ hl]
 | succ d ih =>
  have hne:l≠[]:=fun e=>by subst e;simp at hd
  have e:=List.dropLast_concat_getLast hne
  have hl:l.getLast hne=0:=by
   rw [List.getLast_eq_getElem];exact h0 _ (by omega) (by omega)
  rw [hl] at e
  have hlen:l.dropLast.length=n+d:=by rw [List.length_dropLast];omega
  have:=ih l.dropLast (by omega) (fun i h hi=>by rw [List.getElem_dropLast];exact h0 i (by omega) hi) (fun h=>by rw [List.getElem_dropLast];exact h1 h) hlen
  rw [←e,jI,this]
  rw [List.take_append_of_le_length (by omega)]
theorem qL (l:List Int):(cC l).length≤l.length:=by
 unfold cC;rw [List.length_reverse]
 have:=List.dropWhile_suffix (p:=fun x:Int=>x == 0) (l:=l.reverse)
 have:=this.length_le
 simpa using this
def kN (neg:Bool) (mag:List Int):Bool:=decide (mag.length≤48)&&decide ((cC mag).length=mag.length)&&(!neg||decide (0<mag.length))
theorem RdRow.take {w:World} {b:Nat}:∀{es:List V} {o:Nat} (n:Nat),RdRow w b o es→RdRow w b o (es.take n)
 | [],_,n,h=>by simpa using h
 | e::es,o,0,h=>by simp only [List.take_zero,RdRow]
 | e::es,o,n+1,h=>by
  simp only [List.take_succ_cons,RdRow] at h ⊢
  obtain⟨cs,h1,h2,h3⟩:=h
  exact⟨cs,h1,h2,RdRow.take n h3⟩
theorem Rd.take {w:World} {es:List V} {a:Option Addr} {cap n:Nat} (h:Rd w (.sl es) [.slice a es.length cap]) (hn:n≤es.length):Rd w (.sl (es.take n)) [.slice a n cap]:=by
 simp only [Rd] at h ⊢
 obtain⟨_,e,h⟩:=h
 cases e
 refine⟨_,rfl,?_⟩
 rcases h with ⟨h0,h1⟩|⟨b,o,cap',e,l1,l2,hr⟩
 ·subst h0
  have:n=0:=by simpa using hn
  subst this
  exact .inl ⟨by simp,h1⟩
 ·injection e with e1 e2 e3
  subst e1 e3
  refine .inr ⟨b,o,cap,by simp [Nat.min_eq_left hn],by simp;omega,l2,hr.take n⟩
theorem IsMag.take {w:World} {l:List Int} {a:Option Addr} {cap n:Nat} (h:IsMag w l (.slice a l.length cap)) (hn:n≤l.length):IsMag w (l.take n) (.slice a n cap):=by
 unfold IsMag at h ⊢
 rw [List.map_take]
 exact Rd.take (by simpa using h) (by simpa using hn)
theorem IsDs.take {w:World} {l:List D} {a:Option Addr} {cap n:Nat} (h:IsDs w l (.slice a l.length cap)) (hn:n≤l.length):IsDs w (l.take n) (.slice a n cap):=by
 unfold IsDs at h ⊢
 rw [List.map_take]
 exact Rd.take (by simpa using h) (by simpa using hn)
end Go.Proofs.YtaeioidifpebdaaGreatDoor
