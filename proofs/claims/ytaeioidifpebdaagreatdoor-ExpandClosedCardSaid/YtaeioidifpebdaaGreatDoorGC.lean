/-
 Laid together: Meas18, Stb18, Lam18, Good18, Gooe18, Goof18, Goog18, Gooh18, Gooi18, Gooj18, Sym18, Wt18, Wu18, LawClosed.
-/
import Derived.Test.YtaeioidifpebdaaGreatDoorG6
import Derived.Test.YtaeioidifpebdaaGreatDoorG5
import Derived.Test.YtaeioidifpebdaaGreatDoorG9
import Derived.Test.YtaeioidifpebdaaGreatDoorG8
import Derived.Test.YtaeioidifpebdaaGreatDoorGA
section
namespace Go.Proofs.YtaeioidifpebdaaGreatDoor
open Go Go.RowKit Go.Lib
set_option linter.unusedSimpArgs false
set_option linter.unusedVariables false
set_option maxHeartbeats 4000000
set_option maxRecDepth 100000
def p18:Nat × Nat × Nat × Nat:=(300,100,1000,1000)
theorem OQ (d:D) (left:Int):d.weigh p18 left=if 300<d.t.size∨100<d.mag.length then -1 else dI p18 d.l (left-1):=by
 rw [D.weigh_eq]
 show (if 300<d.t.size∨100<d.mag.length then (-1:Int) else dI p18 d.l (left-1-(d.t.size / 1000:Nat)-(d.mag.length / 1000:Nat)))=_
 by_cases h:300<d.t.size∨100<d.mag.length
 ·rw [if_pos h,if_pos h]
 ·rw [if_neg h,if_neg h,Nat.div_eq_of_lt (by omega),Nat.div_eq_of_lt (by omega)]
  simp
mutual
theorem SE:∀(d:D) (left:Int),-1≤left→-2≤d.weigh p18 left∧d.weigh p18 left≤max left (-1)
 | .mk k c neg mag t l,left,h=>by
  rw [OQ]
  by_cases hc:300<(D.mk k c neg mag t l).t.size∨100<(D.mk k c neg mag t l).mag.length
  ·rw [if_pos hc];omega
  ·rw [if_neg hc]
   have:=CV l (left-1) (by omega)
   show -2≤dI p18 l (left-1)∧dI p18 l (left-1)≤max left (-1)
   omega
theorem CV:∀(l:List D) (left:Int),-2≤left→-2≤dI p18 l left∧dI p18 l left≤max left (-1)
 | [],left,h=>by simp only [dI];omega
 | d::l,left,h=>by
  rw [dI]
  by_cases hc:left<0
  ·rw [if_pos hc];omega
  ·rw [if_neg hc]
   have h1:=SE d left (by omega)
   have h2:=CV l (d.weigh p18 left) (by omega)
   omega
end
def TM (d:D) (left:Int) (n:Nat) (st:St):Prop:=∃i:Nat,n=d.l.length-i∧i≤d.l.length ∧
 st=⟨[(5,.one (.v (.int .i64 i))),(1,.one (.v (.int .i64 (dI p18 (d.l.take i) (left-1))))),(2,.one (.ptr 0 1 0 0))],[some ⟨28,6,[[.v (.int .i64 d.k),.v (.int .i32 d.c),.v (.bool d.neg),.sl 1 (d.mag.map fun n=>[.v (.int .u32 n)]),.v (.string d.t),.sl 6 (d.l.map D.cc)]]⟩]⟩
theorem OS:∀n (d:D),d.ht≤n→d.Ok→∀left:Int,-1≤left→left≤1000000000→Pure Tryz.prog 38 [.agg d.cc,.one (.v (.int .i64 left))] (.one (.v (.int .i64 (d.weigh p18 left)))):=by
 intro n
 induction n with
 | zero=>intro d h;exact absurd h (by cases d;rw [D.ht];omega)
 | succ n ih =>
  intro d hh hok left h0 h1
  have hws:IntKind.i64.wrap (left-1)=left-1:=dU (by omega) (by omega)
  have hlen:d.l.length≤100000000000000:=by cases d;have:=hok.2.2.2.2.1.2;simp only [D.l];omega
  rw [OQ]
  have hts:decide ((300:Int)<(d.t.size:Int))=decide (300<d.t.size):=by apply decide_eq_decide.2;omega
  have hms:decide ((100:Int)<(d.mag.length:Int))=decide (100<d.mag.length):=by apply decide_eq_decide.2;omega
  rw [D.cc_eq]
  by_cases ht:300<d.t.size
  ·rw [if_pos (.inl ht)]
   refine fi Tryz.func38 Tryz.ntmps38 Tryz.results38 ?_
   repeat (first|(apply fw;(with_reducible constructor)<;>rfl)|(apply WpA.cd;constructor)|((first|with_reducible refine WpA.go _ rfl fun Y y=>?_|apply RunTo.id);simp only [zb,seval,w38,hws,hts,ht];refine fz y ?_;clear y Y))
   refine ye (by simp only [zb,seval,w38];rfl) (by simp only [zv];rfl) ?_
   rfl
  by_cases hm:100<d.mag.length
  ·rw [if_pos (.inr hm)]
   refine fi Tryz.func38 Tryz.ntmps38 Tryz.results38 ?_
   repeat (first|(apply fw;(with_reducible constructor)<;>rfl)|(apply WpA.cd;constructor)|((first|with_reducible refine WpA.go _ rfl fun Y y=>?_|apply RunTo.id);simp only [zb,seval,w38,hws,hts,ht,hms,hm];refine fz y ?_;clear y Y))
   refine ye (by simp only [zb,seval,w38];rfl) (by simp only [zv];rfl) ?_
   rfl
  rw [if_neg (by omega)]
  refine fi Tryz.func38 Tryz.ntmps38 Tryz.results38 ?_
  repeat (first|(apply fw;(with_reducible constructor)<;>rfl)|(apply WpA.cd;constructor)|((first|with_reducible refine WpA.go _ rfl fun Y y=>?_|apply RunTo.id);simp only [zb,seval,w38,hws,hts,ht,hms,hm];refine fz y ?_;clear y Y))
  refine WpA.loop (TM d left) d.l.length ?_ ⟨0,rfl,Nat.zero_le _,rfl⟩ ?_
  ·exact Le.drop 1 (Nat.zero_le _) rfl (by simp [Sub,find,dI]) rfl (by simp [ObBd,C.bd])
  intro n' st hst
  obtain⟨i,rfl,hi,rfl⟩:=hst
  have hw2:IntKind.i64.wrap ((i:Int)+1)=((i+1:Nat):Int):=by rw [dU (by omega) (by omega)];omega
  have hbd:=CV (d.l.take i) (left-1) (by omega)
  generalize hv:dI p18 (d.l.take i) (left-1)=v at *
  by_cases hlt:i<d.l.length
  ·have hd1:decide ((i:Int)<(d.l.length:Int))=true:=by simp;omega
   by_cases hn:v<0
   ·have hge:decide ((0:Int)≤v)=false:=by simp;omega
    have hst:=DK p18 d.l (left-1) i (by rw [hv];exact hn)
    repeat (first|(apply fw;(with_reducible constructor)<;>rfl)|(apply WpA.cd;constructor)|((first|with_reducible refine WpA.go _ rfl fun Y y=>?_|apply RunTo.id);simp only [zb,seval,w38,hd1,hge];refine fz y ?_;clear y Y))
    repeat (first|(apply fw;(with_reducible constructor)<;>rfl)|(apply WpA.cd;constructor)|((first|with_reducible refine WpA.go _ rfl fun Y y=>?_|apply RunTo.id);simp only [zb,seval,w38,hd1,hge];refine fz y ?_;clear y Y))
    refine ye (by simp only [zb,seval,w38];rfl) (by simp only [zv];rfl) ?_
    rw [hst,hv]
   ·have hge:decide ((0:Int)≤v)=true:=by simp;omega
    have hget:=xU hlt
    have hc:=ih d.l[i] (by have:=D.ht_lt hlt;omega) (by cases d;exact hok.2.2.2.2.2.get i hlt) v (by omega) (by omega)
    have hsu:=DJ p18 d.l (left-1) i hlt (by rw [hv];exact hn)
    rw [D.cc_eq] at hget hc
    repeat (first|(apply fw;(with_reducible constructor)<;>rfl)|(apply WpA.cd;constructor)|((first|with_reducible refine WpA.go _ rfl fun Y y=>?_|apply RunTo.id);simp only [zb,seval,w38,hd1,hge,hget];refine fz y ?_;clear y Y))
    refine cz (hc) ?_
    (refine WpL.go _ rfl fun Y y=>?_);repeat (first|(apply fw;(with_reducible constructor)<;>rfl)|(apply WpA.cd;constructor)|((first|with_reducible refine WpA.go _ rfl fun Y y=>?_|apply RunTo.id);simp only [zb,seval,w38,hw2];refine fz y ?_;clear y Y))
    refine⟨d.l.length-(i+1),_,by omega,?_,i+1,rfl,hlt,rfl⟩
    rw [hsu,hv]
    exact Le.drop 1 (Nat.zero_le _) rfl (by simp [Sub,find]) rfl (by simp [ObBd,C.bd])
  ·have hd0:decide ((i:Int)<(d.l.length:Int))=false:=by simp;omega
   have hii:i=d.l.length:=by omega
   subst hii
   repeat (first|(apply fw;(with_reducible constructor)<;>rfl)|(apply WpA.cd;constructor)|((first|with_reducible refine WpA.go _ rfl fun Y y=>?_|apply RunTo.id);simp only [zb,seval,w38,hd0];refine fz y ?_;clear y Y))
   repeat (first|(apply fw;(with_reducible constructor)<;>rfl)|(apply WpA.cd;constructor)|((first|with_reducible refine WpA.go _ rfl fun Y y=>?_|apply RunTo.id);simp only [zb,seval,w38,hd0];refine fz y ?_;clear y Y))
   refine ye (by simp only [zb,seval,w38];rfl) (by simp only [zv];rfl) ?_
   rw [List.take_length] at hv
   rw [hv]
theorem OT (d:D) (hok:d.Ok) (left:Int) (h0 : -1≤left) (h1:left≤1000000000):Pure Tryz.prog 38 [.agg d.cc,.one (.v (.int .i64 left))] (.one (.v (.int .i64 (d.weigh p18 left)))):=OS d.ht d (Nat.le_refl _) hok left h0 h1
theorem CW (d:D) (hok:d.Ok):Pure Tryz.prog 16 [.agg d.cc] (.one (.v (.bool (decide (d.weigh p18 800<0))))):=by
 have h:=OT d hok 800 (by decide) (by decide)
 refine fi Tryz.func16 Tryz.ntmps16 Tryz.results16 ?_
 repeat (first|(apply fw;(with_reducible constructor)<;>rfl)|(apply WpA.cd;constructor)|((first|with_reducible refine WpA.go _ rfl fun Y y=>?_|apply RunTo.id);simp only [zb,seval,bB,kcc];refine fz y ?_;clear y Y))
 refine cz (h) ?_
 (refine WpL.go _ rfl fun Y y=>?_);repeat (first|(apply fw;(with_reducible constructor)<;>rfl)|(apply WpA.cd;constructor)|((first|with_reducible refine WpA.go _ rfl fun Y y=>?_|apply RunTo.id);simp only [zb,seval,bB,kcc];refine fz y ?_;clear y Y))
 refine ye (by simp only [zb,seval,bB,kcc];rfl) (by simp only [zv,kcc];rfl) ?_
 rfl
mutual
theorem BB:∀d:D,d.msr+1≤3*d.count
 | .mk k c neg mag t l=>by
  have h:=BC l
  rw [D.msr,D.count]
  split<;>omega
theorem BC:∀l:List D,cH l+l.length≤3*iC l
 | []=>by simp [cH,iC]
 | d::l=>by
  have h1:=BB d
  have h2:=BC l
  rw [cH,iC,List.length_cons];omega
end
theorem QR {d:D} (h:¬d.weigh p18 800<0):d.count≤800∧d.msr+1≤2400:=by
 have h1:=vD p18 d 800 (by omega)
 have h2:=BB d
 omega
theorem K.Oks.take:∀{l:List K},K.Oks l→∀k,K.Oks (l.take k)
 | _,_,0=>by rw [List.take_zero];trivial
 | [],_,k+1=>trivial
 | c::l,h,k+1=>⟨h.1,K.Oks.take h.2 k⟩
end Go.Proofs.YtaeioidifpebdaaGreatDoor
end
section
namespace Go.Proofs.YtaeioidifpebdaaGreatDoor
open Go Go.RowKit Go.Lib
set_option linter.unusedSimpArgs false
set_option linter.unusedVariables false
set_option maxRecDepth 100000
structure Agr (n:Nat) (ev ev':Ev):Prop where
 e:∀d,Gd n d→ev.e d=ev'.e d
 b:∀l,Gds n l→ev.b l=ev'.b l
 q:∀d k,Gd n d→ev.q d k=ev'.q d k
theorem Gds.one {n:Nat} {d:D} (hd:Gd n d):Gds n [d]:=⟨⟨hd.1,trivial⟩,⟨hd.2.1,trivial⟩,by have:=hd.2.2;simp only [cH];omega⟩
theorem CX {n:Nat} {l:List D} (hl:Gds n l) {i:Nat} (hi:i<l.length):Gd n (l.getD i cK):=by
 have:l.getD i cK=l[i]:=by simp [List.getD,hi]
 rw [this];exact hl.mem (List.getElem_mem hi)
section
variable {n:Nat} {ev ev':Ev} (h:Agr n ev ev')
include h
end
end Go.Proofs.YtaeioidifpebdaaGreatDoor
end
section
namespace Go.Proofs.YtaeioidifpebdaaGreatDoor
open Go Go.RowKit Go.Lib
set_option linter.unusedSimpArgs false
set_option linter.unusedVariables false
set_option linter.unusedSectionVars false
set_option maxRecDepth 100000
set_option maxHeartbeats 1000000
mutual
def K.lh:K→Nat
 | .mk k _ _ _ _ l=>lhs l+if k=6 then 1 else 0
def lhs:List K→Nat
 | []=>0
 | x::l=>max x.lh (lhs l)
end
theorem BD (ev:Ev) (a b:D) (r:List D):fC ev (a::b::r)=if a.k=7 then ((bD a.fst).1,(dH ev a.snd (b::r)).1,max (bD a.fst).2 (dH ev a.snd (b::r)).2)
  else ((bD a).1,(ev.e b).1,max (if r=[] then (bD a).2 else max (bD a).2 2) (ev.e b).2):=rfl
theorem LU (ev:Ev) (a:D) (r:List D):tJ ev (a::r)=if a.k=6 then iW ev (a::r) else ((dX ev (aK a).1 (ev.b r).1 (aK a).2.1).1,max (max (max (aK a).2.2 (ev.b r).2) (unl (aK a).1)) (dX ev (aK a).1 (ev.b r).1 (aK a).2.1).2):=rfl
theorem IP {h:Nat}:∀{l:List K},(∀x∈l,x.lh≤h)→lhs l≤h
 | [],_=>Nat.zero_le _
 | x::l,hl=>Nat.max_le.2 ⟨hl x (by simp),IP fun y hy=>hl y (by simp [hy])⟩
theorem JO {x:K}:∀{l:List K},x∈l→x.lh≤lhs l
 | y::l,h=>by
  rw [lhs]
  rcases List.mem_cons.1 h with rfl|h
  ·omega
  ·have:=JO h;omega
theorem fG (a b c:K):(aG a b c).lh=max a.lh (max b.lh c.lh):=by simp [aG,K.lh,lhs]
theorem qL (d:D):(dK d).lh=0:=by simp [dK,K.lh,lhs]
theorem OU (s:ByteArray) (x:K):(tG s x).lh=x.lh:=by simp [tG,K.lh,lhs]
theorem qM (s:ByteArray):(bH s).lh=0:=by simp [bH,K.lh,lhs]
theorem wR (s:ByteArray):(fD s).lh=0:=by simp [fD,K.lh,lhs]
theorem OV:kz.lh=0:=by simp [kz,K.lh,lhs]
theorem QS:jW.lh=0:=by simp [jW,K.lh,lhs]
theorem qN (l:List K):(iA l).lh=lhs l:=by simp [iA,K.lh]
theorem pE {h:Nat} {l:List K} (hl:∀x∈l,x.lh≤h):(cQ l).1.lh≤h:=by
 unfold cQ;split
 ·rw [OV];exact Nat.zero_le _
 ·rw [qN];exact IP hl
theorem uZ {h:Nat} {l:List K} (hl:∀x∈l,x.lh≤h):(fQ l).lh≤h:=by
 unfold fQ;split
 ·exact hl _ (by simp)
 ·rw [K.lh];simp;exact IP hl
theorem yZ {h:Nat} {b:K} (ps:List ByteArray) (r:ByteArray) (hb:b.lh≤h):(eH ps r b).1.lh≤h+1:=by
 unfold eH
 by_cases hc:40<ps.length+(if r=e0 then 0 else 1)
 ·rw [if_pos hc,OV];exact Nat.zero_le _
 ·rw [if_neg hc];simp [K.lh,lhs];exact hb
theorem CY {h:Nat} {values:List K} {body:K} (names:List ByteArray) (hv:∀x∈values,x.lh≤h) (hb:body.lh≤h):(jP names values body).1.lh≤h+1:=by
 unfold jP
 refine pE fun x hx=>?_
 rcases List.mem_cons.1 hx with rfl|hx
 ·refine yZ _ _ (uZ fun y hy=>?_)
  rcases List.mem_append.1 hy with hy|hy
  ·obtain⟨p,hp,rfl⟩:=List.mem_map.1 hy
   rw [OU];exact hv _ (List.of_mem_zip hp).2
  ·rw [List.mem_singleton.1 hy];exact hb
 ·obtain⟨p,hp,rfl⟩:=List.mem_map.1 hx
  rw [QS];exact Nat.zero_le _
structure LB (N H:Nat) (ev:Ev):Prop where
 e:∀d,Gd N d→(ev.e d).1.lh≤H
 b:∀l,Gds N l→(ev.b l).1.lh≤H
 q:∀d k,Gd N d→(ev.q d k).1.lh≤H
theorem FK:∀l:List D,(kI l).lh=0
 | []=>by simp [kI,iG,qL]
 | d::l=>by simp [kI,fG,qN,lhs,wR,qM,qL,iG,FK l]
section
variable {N H:Nat} {ev:Ev} (h:LB N H ev)
include h
theorem nF {l:List D} (hl:Gds N l):∀x∈(aM ev.e l).1,x.lh≤H:=by
 intro x hx
 obtain⟨d,hd,rfl⟩:=List.mem_map.1 hx
 exact h.e d (hl.mem hd)
theorem uB {l:List D} (hl:Gds N l):(eL ev.e l).1.lh≤H:=by
 unfold eL;split
 ·rw [OV];exact Nat.zero_le _
 ·exact uZ (nF h hl)
theorem OW (f:D) {b:List D} (hb:Gds N b):(dH ev f b).1.lh≤H+1:=yZ _ _ (h.b b hb)
theorem OX:∀{l:List D},Gds N l→(fC ev l).2.1.lh≤H+1
 | [],_=>Nat.zero_le _
 | [_],_=>Nat.zero_le _
 | a::b::r,hl=>by
  rw [BD];split
  ·exact OW h _ hl.tail
  ·exact Nat.le_succ_of_le (h.e b hl.tail.head)
theorem CZ {m:Nat} (names:List ByteArray) {body:K} (hb:body.lh≤H+m) {v:List D} (hv:Gds N v):(dX ev names body v).1.lh≤H+m+1:=by
 unfold dX
 refine pE fun x hx=>?_
 rcases List.mem_cons.1 hx with rfl|hx
 ·exact yZ _ _ hb
 ·have:=nF h hv x hx;omega
theorem DA {m:Nat} {d:D} (hd:Gd N d) {b:K} (hb:b.lh≤H+m):(dL ev d b).1.lh≤H+m+1:=CZ h _ hb (Gds.one hd)
theorem SF:∀{l:List D},Gds N l→(iW ev l).1.lh≤H+2
 | [],_=>Nat.zero_le _
 | [_],_=>Nat.zero_le _
 | a::b::r,hl=>by
  unfold iW
  refine pE fun x hx=>?_
  rcases List.mem_cons.1 hx with rfl|hx
  ·refine CY (h:=H+1) _ (fun y hy=>?_) (by rw [qM];exact Nat.zero_le _)
   rw [List.mem_singleton.1 hy];exact yZ _ _ (h.b r hl.tail.tail)
  ·have:=nF h (eR hl.tail.head).1 x hx;omega
theorem SG:∀{l:List D},Gds N l→(tJ ev l).1.lh≤H+2
 | [],_=>Nat.zero_le _
 | a::r,hl=>by
  rw [LU];split
  ·exact SF h hl
  ·exact Nat.le_succ_of_le (CZ h (m:=0) _ (h.b r hl.tail) (eR hl.head).1)
theorem JP {m:Nat}:∀{l:List (ByteArray × D)} (s:Rs),(∀p∈l,Gd N p.2)→s.1.lh≤H+m→(lB ev l s).1.lh≤H+(m+l.length)
 | [],s,_,hs=>hs
 | p::l,s,hl,hs=>by
  show (dX ev [p.1] (lB ev l s).1 [p.2]).1.lh≤H+(m+(l.length+1))
  have:=CZ h [p.1] (JP (l:=l) s (fun q hq=>hl q (by simp [hq])) hs) (Gds.one (hl p (by simp)))
  omega
theorem SH:∀{l:List D},Gds N l→(gZ ev l).1.lh≤H+(N+1)
 | [],_=>Nat.zero_le _
 | a::r,hl=>by
  unfold gZ
  have hb:=(eR hl.head).1
  have hn:=hb.len
  refine Nat.le_trans (JP h (m:=1) _ (fun p hp=>hb.mem (List.of_mem_zip hp).2) (CZ h (m:=0) _ (h.b r hl.tail) (v:=[]) ⟨trivial,trivial,by have:=hl.2.2;simp only [cH];omega⟩)) ?_
  rw [List.length_zip];omega
theorem SI:∀{l:List D},Gds N l→(iR ev l).1.lh≤H+1
 | [],_=>Nat.zero_le _
 | a::r,hl=>CY _ (nF h (eR hl.head).1) (h.b r hl.tail)
theorem OY:∀{l:List D},Gds N l→(iB ev l).1.lh≤H+l.length
 | [],_=>Nat.zero_le _
 | a::r,hl=>by
  have hr:=OY hl.tail
  have hi:=jG hl.head
  rw [pB,List.length_cons,←Nat.add_assoc]
  generalize eV a=it at hi ⊢
  match it,hi with
  | [],_=>exact Nat.zero_le _
  | c::cs,hi =>
   have hs:=uB h hi.tail
   dsimp only
   split
   ·split
    ·omega
    ·exact Nat.zero_le _
   ·match cs,hi,hs with
    | [],hi,_=>exact DA h hi.head (by rw [fG,qM];omega)
    | f::fs,hi,hs =>
     dsimp only
     split
     ·match fs,hi with
      | [g],hi =>
       refine DA h hi.head ?_
       have:=pE (l:=[(ev.e g).1,bH bA]) (h:=H) fun x hx=>by
        simp only [List.mem_cons,List.not_mem_nil,or_false] at hx
        rcases hx with rfl|rfl
        ·exact h.e g hi.tail.tail.head
        ·rw [qM];exact Nat.zero_le _
       rw [fG,qM];omega
      | [],_=>exact Nat.zero_le _
      | _::_::_,_=>exact Nat.zero_le _
     ·have:=h.e c hi.head
      rw [fG];omega
theorem OZ:∀{l:List D},Gds N l→(eU ev l).1.lh≤H
 | [],_=>Nat.zero_le _
 | a::r,hl=>by
  have hr:=OZ hl.tail
  have hi:=jG hl.head
  rw [lU]
  generalize eV a=it at hi ⊢
  match it,hi with
  | [],_=>exact Nat.zero_le _
  | [_],_=>exact Nat.zero_le _
  | c::f::fs,hi =>
   have hs:=uB h hi.tail
   dsimp only
   split
   ·split
    ·exact hs
    ·exact Nat.zero_le _
   ·rw [fG,FK];omega
theorem IQ (b:Bool):∀{l:List D},Gds N l→(dE ev b l).1.lh≤H+l.length
 | [],_=>Nat.zero_le _
 | [d],hl=>Nat.le_succ_of_le (h.e d hl.head)
 | d::e::r,hl=>by
  have hr:=IQ b hl.tail
  have h1:=h.e d hl.head
  have lg:dE ev b (d::e::r)=if b=true then (aG (ev.e d).1 (dE ev b (e::r)).1 (iG 2),max (dE ev b (e::r)).2 (ev.e d).2) else ((dL ev d (aG (bH bA) (bH bA) (dE ev b (e::r)).1)).1,max (dE ev b (e::r)).2 (dL ev d (aG (bH bA) (bH bA) (dE ev b (e::r)).1)).2):=rfl
  rw [lg,List.length_cons,←Nat.add_assoc]
  split
  ·rw [fG,iG,qL];omega
  ·exact DA h hl.head (by rw [fG,qM];omega)
theorem SJ:∀{l:List D},Gds N l→(nM ev l).1.lh≤H+2
 | [],_=>Nat.zero_le _
 | [_],_=>Nat.zero_le _
 | a::b::r,hl=>by
  have g1:=(tZ (fO hl.head)).1
  have g2:=fO hl.tail.head
  rw [rC]
  generalize tI (aL a).1=I at g1 ⊢
  generalize tS (aL a).1=S at g1 ⊢
  generalize (aL b).1=B at g2 ⊢
  split
  ·match B,g2 with
   | [],_=>exact Nat.zero_le _
   | e::es,g2 =>
    unfold qJ
    dsimp only
    have w2:(if es=[] then ((bQ,0):Rs) else eL ev.e es).1.lh≤H:=by
     split
     ·exact Nat.zero_le _
     ·exact uB h g2.tail
    generalize (if es=[] then ((bQ,0):Rs) else eL ev.e es)=L at w2 ⊢
    refine pE fun x hx=>?_
    rcases List.mem_cons.1 hx with rfl|hx
    ·refine CY (h:=H+1) _ (fun y hy=>?_) (by rw [qM];exact Nat.zero_le _)
     rw [List.mem_singleton.1 hy]
     have w1:=h.e e g2.head
     have w3:=uZ (h:=H) (l:=(aM ev.e r).1++[(cQ (bH dR::(aM ev.e S).1)).1]) fun z hz=>by
      rcases List.mem_append.1 hz with hz|hz
      ·exact nF h hl.tail.tail z hz
      ·rw [List.mem_singleton.1 hz]
       refine pE fun u hu=>?_
       rcases List.mem_cons.1 hu with rfl|hu
       ·rw [qM];exact Nat.zero_le _
       ·exact nF h g1.2 u hu
     exact yZ _ _ (by rw [fG];omega)
    ·have:=nF h g1.1 x hx;omega
  ·exact Nat.zero_le _
theorem SK (w:ByteArray) {l:List D} (hl:Gds N l):(bI ev w l).1.lh≤H+(N+2):=by
 have h1:=SG h hl
 have h2:=SH h hl
 have h3:=SI h hl
 have h4:=OY h hl
 have h5:=SJ h hl
 have h6:=IQ h true hl
 have h7:=IQ h false hl
 have:=hl.len
 unfold bI
 repeat' split
 all_goals first|omega|exact Nat.zero_le _
theorem SL (w:ByteArray) {l:List D} (hl:Gds N l):(cW ev w l).1.lh≤H+(N+2):=by
 have h1:=SK h w hl
 have g:∀i,i<l.length→(ev.e (l.getD i cK)).1.lh≤H:=fun i hi=>h.e _ (CX hl hi)
 have g3:=uB h hl
 have g4:=uB h (hl.drop 1)
 have g5:=OW h (l.getD 0 cK) (hl.drop 1)
 have g6:(AP ev l).1.lh≤H+1:=by
  match l,hl with
  | [],_=>exact Nat.zero_le _
  | a::r,hl=>exact DA h (m:=0) hl.head (OZ h hl.tail)
 have gn:bQ.lh=0:=qL _
 unfold cW
 split
 ·exact Nat.zero_le _
 split
 ·have:=h.q (l.getD 0 cK) 1 (CX hl (by omega))
  omega
 split
 ·omega
 split
 ·have:=g 1 (by omega)
  dsimp only;rw [OU];omega
 split
 ·have:=g 0 (by omega)
  have:=g 1 (by omega)
  dsimp only;rw [fG];omega
 split
 ·have:=g 0 (by omega)
  have:=g 1 (by omega)
  have:=g 2 (by omega)
  dsimp only;rw [fG];omega
 split
 ·omega
 split
 ·omega
 split
 ·have:=g 0 (by omega)
  dsimp only;rw [fG];omega
 split
 ·have:=g 0 (by omega)
  dsimp only;rw [fG];omega
 exact h1
theorem SM {d:D} (hd:Gd (N+1) d):(eI ev d).1.lh≤H+(N+2):=by
 unfold eI
 split
 ·exact Nat.zero_le _
 split
 ·exact Nat.zero_le _
 split
 ·rename_i h7
  have hgi:Gds N (items d):=by
   have:=yA h7
   have:=hd.2.2
   exact⟨(jN d hd.1 hd.2.1).1,(jN d hd.1 hd.2.1).2,by omega⟩
  generalize items d=it at hgi ⊢
  split
  ·match it,hgi with
   | [],_=>exact Nat.zero_le _
   | a::r,hgi =>
    dsimp only
    split
    ·exact SL h _ hgi.tail
    ·exact Nat.le_trans (pE (nF h hgi)) (Nat.le_add_right _ _)
  ·exact Nat.zero_le _
 ·exact Nat.zero_le _
theorem JQ (he:∀d,Gd (N+1) d→(ev.e d).1.lh≤H):∀(l:List D) (s:Bs),Gds (N+1) l →
  ((∀x∈s.values,x.lh≤H+1)∧∀x∈s.rest,x.lh≤H+1)→(∀x∈(l.foldl (cZ ev) s).values,x.lh≤H+1)∧∀x∈(l.foldl (cZ ev) s).rest,x.lh≤H+1
 | [],s,_,hs=>hs
 | d::l,s,hl,hs=>by
  rw [List.foldl_cons]
  refine JQ he l _ hl.tail ?_
  unfold cZ
  cases ho:dS d fB with
  | none =>
   refine⟨hs.1,fun x hx=>?_⟩
   rcases List.mem_append.1 hx with hx|hx
   ·exact hs.2 x hx
   ·rw [List.mem_singleton.1 hx];exact Nat.le_succ_of_le (he d hl.head)
  | some x =>
   obtain⟨q1,q2⟩:=fW hl.head ho
   have hx:Gds N x:=⟨q1.1,q1.2.1,by have:=hl.head.2.2;omega⟩
   refine⟨fun y hy=>?_,hs.2⟩
   rcases List.mem_append.1 hy with hy|hy
   ·exact hs.1 y hy
   ·rw [List.mem_singleton.1 hy];exact OX h hx
theorem SN (he:∀d,Gd (N+1) d→(ev.e d).1.lh≤H) {l:List D} (hl:Gds (N+1) l):(uQ ev l).1.lh≤H+2:=by
 obtain⟨k1,k2⟩:=JQ h he (spl l) ⟨[],[],[],0⟩ (CJ hl).1 ⟨by simp,by simp⟩
 change (∀x∈(kZ ev (spl l)).values,x.lh≤H+1) at k1
 change (∀x∈(kZ ev (spl l)).rest,x.lh≤H+1) at k2
 unfold uQ nL
 split
 ·exact Nat.zero_le _
 split
 ·exact Nat.le_succ_of_le (uZ k2)
 ·exact CY _ k1 (uZ k2)
theorem SO {d:D} (hd:Gd (N+1) d) (k:Nat):(nN ev d k).1.lh≤H:=by
 have hc:∀a b:K,(rP a b).lh=max a.lh b.lh:=fun a b=>by simp [rP,qN,lhs,wR]
 have hm:∀(s:ByteArray) (x:K),(lS s x).lh=x.lh:=fun s x=>by simp [lS,hc,qL]
 unfold nN
 cases h1:pQ d xZ with
 | some y =>
  have hy:=(lV hd h1).1
  dsimp only
  split
  ·exact h.e y hy
  ·rw [hm];exact h.q y _ hy
 | none =>
  cases h2:pQ d eP with
  | some y =>
   dsimp only
   rw [hm];exact h.q y _ (lV hd h2).1
  | none =>
   dsimp only
   by_cases h8:d.k=8
   ·have hv:=hd.vec h8
    have:=hd.2.2
    rw [if_pos h8]
    have:=h.q (aX d.l) k ⟨hv.1.1,hv.1.2.1,by omega⟩
    simp only [qN,lhs,wR];omega
   ·rw [if_neg h8]
    by_cases h7:d.k=7
    ·obtain⟨-,hf,hs,hm7⟩:=hd.pair h7
     have:=hd.2.2
     have p1:=gD d.fst
     have p2:=gD d.snd
     have hf':Gd N d.fst:=⟨hf.1,hf.2.1,by omega⟩
     have hs':Gd N d.snd:=⟨hs.1,hs.2.1,by omega⟩
     have r1:=h.q d.snd k hs'
     have r2:=h.q d.fst k hf'
     rw [if_pos h7]
     cases h3:pQ d.fst iQ with
     | some y =>
      have hy:=(lV hf h3).1
      have r3:=h.e y hy
      have r4:=h.q y (k-1) hy
      dsimp only
      split
      ·simp only [qN,lhs,wR];omega
      ·rw [hc,hm];omega
     | none =>
      dsimp only
      rw [hc];omega
    ·rw [if_neg h7];exact Nat.zero_le _
end
theorem LB.weak {N H H':Nat} {ev:Ev} (h:LB N H ev) (hh:H≤H'):LB N H' ev:=⟨fun d hd=>Nat.le_trans (h.e d hd) hh,fun d hd=>Nat.le_trans (h.b d hd) hh,fun d k hd=>Nat.le_trans (h.q d k hd) hh⟩
theorem PA (M:Nat):∀n,n≤M→LB n (n*(M+4)) (evs n)
 | 0,_=>⟨fun d hd=>absurd hd.2.2 (Nat.not_lt_zero _),fun d hd=>absurd hd.2.2 (Nat.not_lt_zero _),fun d k hd=>absurd hd.2.2 (Nat.not_lt_zero _)⟩
 | n+1,hM=>by
  have ih:=PA M n (by omega)
  rw [Nat.succ_mul]
  generalize n*(M+4)=H at *
  have he:∀d,Gd (n+1) d→(eI (evs n) d).1.lh≤H+(M+2):=fun d hd=>Nat.le_trans (SM ih hd) (by omega)
  have hh:LB n (H+(M+2)) ⟨eI (evs n),(evs n).b,(evs n).q⟩:=⟨fun d hd=>he d (hd.le (Nat.le_succ n)),(ih.weak (by omega)).b,(ih.weak (by omega)).q⟩
  exact⟨fun d hd=>by rw [evs];exact Nat.le_trans (he d hd) (by omega),fun l hl=>by rw [evs];exact SN hh he hl,fun d k hd=>by rw [evs];exact Nat.le_trans (SO hh hd k) (by omega)⟩
theorem JR {N H:Nat} {E:Ev} (h:LB N H E):∀(m:Nat) (d:D),d.msr<m→Gd N d→(jU E m d).1.lh≤H+1
 | 0,d,hm,_=>absurd hm (Nat.not_lt_zero _)
 | m+1,d,hm,hd=>by
  rw [jU]
  cases h1:dS d fB with
  | some l =>
   have:=OX h (fW hd h1).1
   simp [K.lh,lhs];exact this
  | none =>
   dsimp only
   cases h2:dS d dP with
   | none=>exact Nat.le_succ_of_le (h.e d hd)
   | some l =>
    obtain⟨hl,hs⟩:=fW hd h2
    match l,hl,hs with
    | [],_,_=>exact Nat.zero_le _
    | a::r,hl,hs =>
     refine uZ fun y hy=>?_
     obtain⟨x,hx,rfl⟩:=List.mem_map.1 hy
     exact JR h m x (by have:=nZ hx;omega) (hl.mem hx)
theorem QT {d:D} (ht:d.Two) (ho:d.Ok):(lI d).1.lh≤(d.msr+1)*(d.msr+5)+1 :=
 JR (PA (d.msr+1) _ (Nat.le_refl _)) _ d (Nat.lt_succ_self _) ⟨ht,ho,Nat.lt_succ_self _⟩
end Go.Proofs.YtaeioidifpebdaaGreatDoor
end
section
namespace Go.Proofs.YtaeioidifpebdaaGreatDoor
open Go Go.RowKit Go.Lib
set_option linter.unusedSimpArgs false
set_option linter.unusedVariables false
set_option maxRecDepth 100000
inductive Good (Q:D→Prop):(ByteArray→Prop)→K→Prop
 | const {A d}:Q d→Good Q A (dK d)
 | ref {A s}:A s→s≠e0→Good Q A (bH s)
 | prim {A s}:s≠e0→Good Q A (fD s)
 | set {A s x}:A s→s≠e0→Good Q A x→Good Q A (tG s x)
 | branch {A a b c}:Good Q A a→Good Q A b→Good Q A c→Good Q A (aG a b c)
 | seq {A l}:2≤l.length→l.length≤200000000→(∀x∈l,Good Q A x)→Good Q A (.mk 7 e0 e0 [] cK l)
 | call {A l}:1≤l.length→l.length≤41→(∀x∈l,Good Q A x)→Good Q A (iA l)
 | lam {A B:ByteArray→Prop} {ps rest b}:ps.Nodup→rest∉ps→(∀p∈ps,p≠e0)→ps.length+(if rest=e0 then 0 else 1)≤40→(∀s,B s→A s∨s∈ps∨s=rest)→Good Q B b→Good Q A (.mk 6 e0 rest ps cK [b])
 | none {A}:Good Q A jW
theorem Good.mono {Q:D→Prop} {A:ByteArray→Prop} {k:K} (h:Good Q A k):∀{B:ByteArray→Prop},(∀s,A s→B s)→Good Q B k:=by
 induction h with
 | const h=>exact fun _=>.const h
 | ref h h0=>exact fun hb=>.ref (hb _ h) h0
 | prim h0=>exact fun _=>.prim h0
 | set h h0 _ ih=>exact fun hb=>.set (hb _ h) h0 (ih hb)
 | branch _ _ _ i1 i2 i3=>exact fun hb=>.branch (i1 hb) (i2 hb) (i3 hb)
 | seq h1 h2 _ ih=>exact fun hb=>.seq h1 h2 fun x hx=>ih x hx hb
 | call h1 h2 _ ih=>exact fun hb=>.call h1 h2 fun x hx=>ih x hx hb
 | lam h1 h2 h3 h4 h5 h6 _=>exact fun hb=>.lam h1 h2 h3 h4 (fun s hs=>(h5 s hs).imp (hb s) id) h6
 | none=>exact fun _=>.none
theorem K.Oks.ofMem:∀{l:List K},(∀x∈l,x.Ok)→K.Oks l
 | [],_=>trivial
 | x::l,h=>⟨h x (by simp),K.Oks.ofMem fun y hy=>h y (by simp [hy])⟩
theorem Good.ok {Q:D→Prop} (hQ:∀d,Q d→d.Ok) {A:ByteArray→Prop} {k:K} (h:Good Q A k):k.Ok:=by
 induction h with
 | const h=>exact⟨by decide,by simp,hQ _ h,by simp,trivial⟩
 | ref h h0=>exact⟨by decide,by simp,gR,by simp,trivial⟩
 | prim h0=>exact⟨by decide,by simp,gR,by simp,trivial⟩
 | set h h0 _ ih=>exact⟨by decide,by simp,gR,by simp,ih,trivial⟩
 | branch _ _ _ i1 i2 i3=>exact⟨by decide,by simp,gR,by simp,i1,i2,i3,trivial⟩
 | seq h1 h2 _ ih=>exact⟨by decide,by simp,gR,by omega,K.Oks.ofMem ih⟩
 | call h1 h2 _ ih=>exact⟨by decide,by simp,gR,by omega,K.Oks.ofMem ih⟩
 | lam h1 h2 h3 h4 h5 h6 ih=>exact⟨by decide,by omega,gR,by simp,ih,trivial⟩
 | none=>exact⟨by decide,by simp,gR,by simp,trivial⟩
section
variable {Q:D→Prop} {A:ByteArray→Prop}
theorem kO {l:List Nat} (h:gT l=0):∀x∈l,x=0:=by
 have key:∀(l:List Nat) (a:Nat),l.foldl max a=0→a=0∧∀x∈l,x=0:=by
  intro l
  induction l with
  | nil=>exact fun a h=>⟨h,by simp⟩
  | cons y l ih =>
   intro a h
   obtain⟨h1,h2⟩:=ih _ h
   exact⟨by omega,fun x hx=>(List.mem_cons.1 hx).elim (fun e=>by omega) (h2 x)⟩
 exact (key l 0 h).2
theorem kP {l:List K} (h0:(cQ l).2=0) (hne:1≤l.length) (hl:∀x∈l,Good Q A x):Good Q A (cQ l).1:=by
 unfold cQ at h0 ⊢
 by_cases h:41<l.length
 ·rw [if_pos h] at h0;cases h0
 ·rw [if_neg h];exact .call hne (by omega) hl
theorem uC {ps:List ByteArray} {b:K} {B:ByteArray→Prop} (h0:(eH ps e0 b).2=0) (hn:ps.Nodup) (hne:∀p∈ps,p≠e0) (hB:∀s,B s→A s∨s∈ps) (h:Good Q B b):Good Q A (eH ps e0 b).1:=by
 unfold eH at h0 ⊢
 by_cases hc:40<ps.length+(if (e0:ByteArray)=e0 then 0 else 1)
 ·rw [if_pos hc] at h0;cases h0
 ·rw [if_neg hc]
  exact .lam hn (fun hm=>hne _ hm rfl) hne (by omega) (fun s hs=>(hB s hs).imp id .inl) h
theorem qO {l:List K} (hne:l≠[]) (hlen:l.length≤200000000) (hl:∀x∈l,Good Q A x):Good Q A (fQ l):=by
 match l,hne with
 | [x],_=>exact hl x (by simp)
 | x::y::l,_=>exact .seq (by simp) hlen hl
end
def Cov (P:D→Prop) (A:ByteArray→Prop):Prop:=∀d,P d→d.k=6→A d.t∧d.t≠e0
structure Pc (Q P:D→Prop):Prop where
 kid:∀d x,P d→x∈d.l→P x
 vec:∀d,P d→d.k=8→P (aX d.l)
 q:∀d,P d→Q d
 kd:∀k,k=1∨k=2∨k=9→Q (jO k)
 nil:Q cK
 sym:Q (dD xZ)∧Q (dD eP)∧Q (dD iQ)
structure GE (Q P:D→Prop) (n:Nat) (ev:Ev):Prop where
 e:∀d,Gd n d→P d→∀A,Cov P A→(ev.e d).2=0→Good Q A (ev.e d).1
 b:∀l,Gds n l→(∀d∈l,P d)→∀A,Cov P A→(ev.b l).2=0→Good Q A (ev.b l).1
 q:∀d k,Gd n d→P d→∀A,Cov P A→(ev.q d k).2=0→Good Q A (ev.q d k).1
section
variable {Q P:D→Prop} {A:ByteArray→Prop} {n:Nat} {ev:Ev}
theorem nG (hP:Pc Q P):∀(d:D),P d→∀x∈items d,P x
 | .mk k c neg mag t l,hd,x,hx=>by
  unfold items at hx
  split at hx
  ·match l,hd,hx with
   | [],_,hx=>simp [iU] at hx
   | [_],_,hx=>simp [iU] at hx
   | [a,b],hd,hx =>
    simp only [iU,List.mem_cons] at hx
    rcases hx with rfl|hx
    ·exact hP.kid _ _ hd (by simp [D.l])
    ·exact nG hP b (hP.kid _ _ hd (by simp [D.l])) x hx
   | _::_::_::_,_,hx=>simp [iU] at hx
  ·simp at hx
theorem qP (hP:Pc Q P) {d:D} (hd:P d):∀x∈(aL d).1,P x:=by
 unfold aL
 split
 ·exact nG hP d hd
 ·simp
theorem lD (hA:Cov P A) {d:D} (hd:P d) (h0:(bD d).2=0):A (bD d).1∧(bD d).1≠e0:=by
 unfold bD at h0 ⊢
 by_cases h:d.k=6∧mP d.t=false
 ·rw [if_pos h];exact hA d hd h.1
 ·rw [if_neg h] at h0;cases h0
theorem jI (hE:GE Q P n ev) (hA:Cov P A) {l:List D} (hl:Gds n l) (hp:∀d∈l,P d) (h0:(aM ev.e l).2=0):∀x∈(aM ev.e l).1,Good Q A x:=by
 intro x hx
 obtain⟨d,hd,rfl⟩:=List.mem_map.1 hx
 exact hE.e d (hl.mem hd) (hp d hd) A hA (kO h0 _ (List.mem_map_of_mem hd))
theorem gM (hE:GE Q P n ev) (hA:Cov P A) {l:List D} (hn:n≤100000000) (hl:Gds n l) (hp:∀d∈l,P d) (h0:(eL ev.e l).2=0):Good Q A (eL ev.e l).1:=by
 have:=hl.len
 unfold eL at h0 ⊢
 by_cases h:l=[]
 ·rw [if_pos h] at h0;cases h0
 ·rw [if_neg h] at h0 ⊢
  exact qO (by simpa [aM] using h) (by simp [aM];omega) (jI hE hA hl hp h0)
theorem oG {l:List ByteArray} (h:unl l=0):l.Nodup:=by
 refine Classical.byContradiction fun hn=>?_
 rw [JL hn] at h;cases h
theorem DB (hP:Pc Q P) (hA:Cov P A) {f:D} (hf:P f) (h0:(dF f).2.2=0):(dF f).1.Nodup∧(dF f).2.1∉(dF f).1∧(∀p∈(dF f).1,p≠e0):=by
 have hz:∀x∈items f,(bD x).2=0→(bD x).1≠e0:=fun x hx h=>(lD hA (nG hP f hf x hx) h).2
 unfold dF at h0 ⊢
 dsimp only at h0 ⊢
 by_cases hk:(oA f).k=0
 ·rw [if_pos hk] at h0 ⊢
  dsimp only at h0 ⊢
  have h1:=kO (by omega:gT ((items f).map fun x=>(bD x).2)=0)
  have hne:∀p∈(items f).map fun x=>(bD x).1,p≠e0:=fun p hp=>by
   obtain⟨x,hx,rfl⟩:=List.mem_map.1 hp
   exact hz x hx (h1 _ (List.mem_map_of_mem (f:=fun x=>(bD x).2) hx))
  exact⟨oG (by omega),fun hm=>hne _ hm rfl,hne⟩
 ·rw [if_neg hk] at h0 ⊢
  dsimp only at h0 ⊢
  have h1:=kO (by omega:gT ((items f).map fun x=>(bD x).2)=0)
  have hne:∀p∈(items f).map fun x=>(bD x).1,p≠e0:=fun p hp=>by
   obtain⟨x,hx,rfl⟩:=List.mem_map.1 hp
   exact hz x hx (h1 _ (List.mem_map_of_mem (f:=fun x=>(bD x).2) hx))
  have hu:=oG (l:=(items f).map (fun x=>(bD x).1)++[(bD (oA f)).1]) (by omega)
  rw [List.nodup_append] at hu
  exact⟨hu.1,fun hm=>hu.2.2 _ hm _ (by simp) rfl,hne⟩
theorem LV {ps:List ByteArray} {rest:ByteArray} {b:K} (h0:(eH ps rest b).2=0) (hn:ps.Nodup) (hr:rest∉ps) (hne:∀p∈ps,p≠e0) (h:Good Q A b):Good Q A (eH ps rest b).1:=by
 unfold eH at h0 ⊢
 by_cases hc:40<ps.length+(if rest=e0 then 0 else 1)
 ·rw [if_pos hc] at h0;cases h0
 ·rw [if_neg hc]
  exact .lam hn hr hne (by omega) (fun s hs=>.inl hs) h
theorem rS (hP:Pc Q P) (hE:GE Q P n ev) (hA:Cov P A) {f:D} (hf:P f) {b:List D} (hb:Gds n b) (hp:∀d∈b,P d) (h0:(dH ev f b).2=0):Good Q A (dH ev f b).1:=by
 unfold dH at h0 ⊢
 dsimp only at h0 ⊢
 obtain⟨h1,h2,h3⟩:=DB hP hA hf (by omega)
 exact LV (by omega) h1 h2 h3 (hE.b b hb hp A hA (by omega))
theorem uD {names:List ByteArray} {values:List K} {body:K} {B:ByteArray→Prop} (h0:(jP names values body).2=0) (hne:∀p∈names,p≠e0) (hlen:names.length≤100000000) (hB:∀s,B s→A s∨s∈names) (hv:∀x∈values,Good Q B x) (hb:Good Q B body):Good Q A (jP names values body).1:=by
 unfold jP at h0 ⊢
 dsimp only at h0 ⊢
 have hu:=oG (by omega:unl names=0)
 refine kP (by omega) (by simp) fun x hx=>?_
 rcases List.mem_cons.1 hx with rfl|hx
 ·refine uC (B:=fun s=>A s∨s∈names) (by omega) hu hne (fun s hs=>hs) (qO (by simp) (by simp [List.length_zip];omega) fun y hy=>?_)
  rcases List.mem_append.1 hy with hy|hy
  ·obtain⟨p,hp,rfl⟩:=List.mem_map.1 hy
   have:=List.of_mem_zip hp
   exact .set (.inr this.1) (hne _ this.1) ((hv _ this.2).mono hB)
  ·rw [List.mem_singleton.1 hy];exact hb.mono hB
 ·obtain⟨_,_,rfl⟩:=List.mem_map.1 hx
  exact .none
theorem pF (hE:GE Q P n ev) (hA:Cov P A) {names:List ByteArray} {body:K} {values:List D} {B:ByteArray→Prop} (hu:names.Nodup) (hne:∀p∈names,p≠e0) (hB:∀s,B s→A s∨s∈names) (hb:Good Q B body) (hv:Gds n values) (hp:∀d∈values,P d) (h0:(dX ev names body values).2=0):Good Q A (dX ev names body values).1:=by
 unfold dX at h0 ⊢
 dsimp only at h0 ⊢
 refine kP (by omega) (by simp) fun x hx=>?_
 rcases List.mem_cons.1 hx with rfl|hx
 ·exact uC (by omega) hu hne hB hb
 ·exact jI hE hA hv hp (by omega) x hx
theorem nH (hE:GE Q P n ev) (hA:Cov P A) {d:D} {body:K} {B:ByteArray→Prop} (hB:∀s,B s→A s∨s=bA) (hb:Good Q B body) (hd:Gd n d) (hp:P d) (h0:(dL ev d body).2=0):Good Q A (dL ev d body).1 :=
 pF hE hA (by simp) (by simp;decide) (fun s hs=>(hB s hs).imp id (by simp)) hb (Gds.one hd) (by simpa using hp) h0
end
end Go.Proofs.YtaeioidifpebdaaGreatDoor
end
section
namespace Go.Proofs.YtaeioidifpebdaaGreatDoor
open Go Go.RowKit Go.Lib
set_option linter.unusedSimpArgs false
set_option linter.unusedVariables false
set_option linter.unusedSectionVars false
set_option maxRecDepth 100000
section
variable {Q P:D→Prop} {A:ByteArray→Prop} {n:Nat} {ev:Ev}
theorem JS (hP:Pc Q P) {b:D} (hb:P b) {p:D × D} (h:fX b=some p):P p.1∧P p.2:=by
 unfold fX at h
 split at h
 ·split at h
  ·rename_i x y hi
   cases h
   exact⟨nG hP b hb _ (by rw [hi];simp),nG hP b hb _ (by rw [hi];simp)⟩
  ·cases h
 ·cases h
theorem rE (hP:Pc Q P) (hA:Cov P A) {d:D} (hd:P d) (h0:(aK d).2.2=0):(∀p∈(aK d).1,p≠e0)∧∀x∈(aK d).2.1,P x:=by
 have hl:=qP hP hd
 unfold aK at h0 ⊢
 dsimp only at h0 ⊢
 generalize (aL d).1=l at hl h0 ⊢
 have h1:=kO (Nat.eq_zero_of_le_zero (h0▸Nat.le_max_right _ _))
 refine⟨fun s hs=>?_,fun x hx=>?_⟩
 ·obtain⟨b,hb,hq⟩:=List.mem_filterMap.1 hs
  obtain⟨p,hp,rfl⟩:=Option.map_eq_some_iff.1 hq
  have:=h1 _ (List.mem_map_of_mem hb)
  rw [hp] at this
  exact (lD hA (JS hP (hl b hb) hp).1 this).2
 ·obtain⟨b,hb,hq⟩:=List.mem_filterMap.1 hx
  obtain⟨p,hp,rfl⟩:=Option.map_eq_some_iff.1 hq
  exact (JS hP (hl b hb) hp).2
variable (hP:Pc Q P) (hE:GE Q P n ev) (hA:Cov P A) (hn:n≤100000000)
include hP hE hA hn
theorem IR {l:List D} (hl:Gds n l) (hp:∀d∈l,P d) (h0:(iW ev l).2=0):Good Q A (iW ev l).1:=by
 match l,hl,hp,h0 with
 | [],_,_,h0=>cases h0
 | [_],_,_,h0=>cases h0
 | a::b::r,hl,hp,h0 =>
  unfold iW at h0 ⊢
  dsimp only at h0 ⊢
  have hw:=lD hA (hp a (by simp)) (by omega)
  obtain⟨g1,g2⟩:=rE hP hA (hp b (by simp)) (by omega)
  have hu:=oG (by omega:unl (aK b).1=0)
  have hbf:=eR hl.tail.head
  refine kP (by omega) (by simp) fun x hx=>?_
  rcases List.mem_cons.1 hx with rfl|hx
  ·refine uD (B:=fun s=>A s∨s=(bD a).1) (by omega) (by simpa using hw.2) (by simp) (fun s hs=>hs.imp id (by simp)) (fun y hy=>?_) (.ref (.inr rfl) hw.2)
   rw [List.mem_singleton.1 hy]
   exact uC (B:=A) (by omega) hu g1 (fun s hs=>.inl (.inl hs)) (hE.b r hl.tail.tail (fun d hd=>hp d (by simp [hd])) A hA (by omega))
  ·exact jI hE hA hbf.1 g2 (by omega) x hx
theorem PB {l:List D} (hl:Gds n l) (hp:∀d∈l,P d) (h0:(tJ ev l).2=0):Good Q A (tJ ev l).1:=by
 match l,hl,hp,h0 with
 | [],_,_,h0=>cases h0
 | a::r,hl,hp,h0 =>
  by_cases hk:a.k=6
  ·rw [show tJ ev (a::r)=iW ev (a::r) from if_pos hk] at h0 ⊢
   exact IR hP hE hA hn hl hp h0
  ·rw [show tJ ev (a::r)=((dX ev (aK a).1 (ev.b r).1 (aK a).2.1).1,max (max (max (aK a).2.2 (ev.b r).2) (unl (aK a).1)) (dX ev (aK a).1 (ev.b r).1 (aK a).2.1).2) from if_neg hk] at h0 ⊢
   dsimp only at h0 ⊢
   obtain⟨g1,g2⟩:=rE hP hA (hp a (by simp)) (by omega)
   exact pF hE hA (oG (by omega)) g1 (fun s hs=>.inl hs) (hE.b r hl.tail (fun d hd=>hp d (by simp [hd])) A hA (by omega)) (eR hl.head).1 g2 (by omega)
theorem BE:∀(l:List (ByteArray × D)) (s:Rs),(∀p∈l,p.1≠e0∧Gd n p.2∧P p.2)→(s.2=0→Good Q A s.1)→(lB ev l s).2=0→Good Q A (lB ev l s).1
 | [],s,_,hs,h0=>hs h0
 | p::l,s,hl,hs,h0=>by
  change (lA ev p (lB ev l s)).2=0 at h0
  change Good Q A (lA ev p (lB ev l s)).1
  unfold lA at h0 ⊢
  dsimp only at h0 ⊢
  have h1:=hl p (by simp)
  exact pF hE hA (by simp) (by simpa using h1.1) (fun s hs=>.inl hs) (BE l s (fun q hq=>hl q (by simp [hq])) hs (by omega)) (Gds.one h1.2.1) (by simpa using h1.2.2) (by omega)
theorem LW {l:List D} (hl:Gds n l) (hp:∀d∈l,P d) (h0:(gZ ev l).2=0):Good Q A (gZ ev l).1:=by
 match l,hl,hp,h0 with
 | [],_,_,h0=>cases h0
 | a::r,hl,hp,h0 =>
  unfold gZ at h0 ⊢
  dsimp only at h0 ⊢
  have hle:∀(l:List (ByteArray × D)) (s:Rs),(lB ev l s).2=0→s.2=0:=by
   intro l
   induction l with
   | nil=>exact fun s h=>h
   | cons p l ih =>
    intro s h
    change (lA ev p (lB ev l s)).2=0 at h
    unfold lA at h
    dsimp only at h
    exact ih s (by omega)
  have hz:=hle _ _ h0
  dsimp only at hz
  obtain⟨g1,g2⟩:=rE hP hA (hp a (by simp)) (by omega)
  have hbf:=eR hl.head
  refine BE hP hE hA hn _ _ (fun p hp'=>?_) (fun hs=>?_) h0
  ·have:=List.of_mem_zip hp'
   exact⟨g1 _ this.1,hbf.1.mem this.2,g2 _ this.2⟩
  ·exact pF hE hA (by simp) (by simp) (fun s hs=>.inl hs) (hE.b r hl.tail (fun d hd=>hp d (by simp [hd])) A hA (by omega)) ⟨trivial,trivial,by have:=hl.2.2;simp only [cH];omega⟩ (by simp) (by omega)
theorem FL {l:List D} (hl:Gds n l) (hp:∀d∈l,P d) (h0:(iR ev l).2=0):Good Q A (iR ev l).1:=by
 match l,hl,hp,h0 with
 | [],_,_,h0=>cases h0
 | a::r,hl,hp,h0 =>
  unfold iR at h0 ⊢
  dsimp only at h0 ⊢
  obtain⟨g1,g2⟩:=rE hP hA (hp a (by simp)) (by omega)
  have hbf:=eR hl.head
  exact uD (B:=A) (by omega) g1 (by omega) (fun s hs=>.inl hs) (jI hE hA hbf.1 g2 (by omega)) (hE.b r hl.tail (fun d hd=>hp d (by simp [hd])) A hA (by omega))
end
section
variable {Q P:D→Prop} {A:ByteArray→Prop} {n:Nat} {ev:Ev}
variable (hP:Pc Q P) (hE:GE Q P n ev) (hA:Cov P A) (hn:n≤100000000)
include hP hE hA hn
theorem BF {d:D} (hd:P d):∀x∈eV d,P x:=by rw [←uV];exact qP hP hd
theorem pG:Good Q A bQ:=.const (hP.kd 9 (by simp))
theorem mN {k:Int} (h:k=1∨k=2):Good Q A (iG k):=.const (hP.kd k (by omega))
theorem BG:∀{l:List D},Gds n l→(∀d∈l,P d)→(iB ev l).2=0→Good Q A (iB ev l).1
 | [],_,_,_=>pG hP hE hA hn
 | a::r,hl,hp,h0=>by
  have hi:=jG hl.head
  have hpi:=BF hP hE hA hn (hp a (by simp))
  have hr:=fun h=>BG hl.tail (fun d hd=>hp d (by simp [hd])) h
  have tr:Good Q (fun s=>A s∨s=bA) (bH bA):=.ref (.inr rfl) (by decide)
  rw [pB] at h0 ⊢
  generalize eV a=it at hi hpi h0 ⊢
  match it,hi,hpi,h0 with
  | [],_,_,h0=>cases h0
  | c::cs,hi,hpi,h0 =>
   dsimp only at h0 ⊢
   have hcs:∀x∈cs,P x:=fun x hx=>hpi x (by simp [hx])
   by_cases he:iO c gY=true
   ·rw [if_pos he] at h0 ⊢
    by_cases hr0:r=[]
    ·rw [if_pos hr0] at h0 ⊢
     exact gM hE hA hn hi.tail hcs h0
    ·rw [if_neg hr0] at h0;cases h0
   ·rw [if_neg he] at h0 ⊢
    match cs,hi,hcs,hpi,h0 with
    | [],hi,hcs,hpi,h0 =>
     dsimp only at h0 ⊢
     exact nH hE hA (B:=fun s=>A s∨s=bA) (fun s hs=>hs) (.branch tr tr ((hr (by omega)).mono fun s hs=>.inl hs)) hi.head (hpi c (by simp)) (by omega)
    | [f],hi,hcs,hpi,h0 =>
     dsimp only at h0 ⊢
     by_cases hf:iO f mI=true
     ·rw [if_pos hf] at h0;cases h0
     ·rw [if_neg hf] at h0 ⊢
      dsimp only at h0 ⊢
      exact .branch (hE.e c hi.head (hpi c (by simp)) A hA (by omega)) (gM hE hA hn hi.tail hcs (by omega)) (hr (by omega))
    | [f,g],hi,hcs,hpi,h0 =>
     dsimp only at h0 ⊢
     by_cases hf:iO f mI=true
     ·rw [if_pos hf] at h0 ⊢
      dsimp only at h0 ⊢
      refine nH hE hA (B:=fun s=>A s∨s=bA) (fun s hs=>hs) (.branch tr (kP (by omega) (by simp) fun x hx=>?_) ((hr (by omega)).mono fun s hs=>.inl hs)) hi.head (hpi c (by simp)) (by omega)
      simp only [List.mem_cons,List.not_mem_nil,or_false] at hx
      rcases hx with rfl|rfl
      ·exact (hE.e g hi.tail.tail.head (hpi g (by simp)) A hA (by omega)).mono fun s hs=>.inl hs
      ·exact tr
     ·rw [if_neg hf] at h0 ⊢
      dsimp only at h0 ⊢
      exact .branch (hE.e c hi.head (hpi c (by simp)) A hA (by omega)) (gM hE hA hn hi.tail hcs (by omega)) (hr (by omega))
    | f::g::x::xs,hi,hcs,hpi,h0 =>
     dsimp only at h0 ⊢
     by_cases hf:iO f mI=true
     ·rw [if_pos hf] at h0;cases h0
     ·rw [if_neg hf] at h0 ⊢
      dsimp only at h0 ⊢
      exact .branch (hE.e c hi.head (hpi c (by simp)) A hA (by omega)) (gM hE hA hn hi.tail hcs (by omega)) (hr (by omega))
theorem zA (ht:A bA):∀{l:List D},(∀d∈l,P d)→Good Q A (kI l)
 | [],_=>mN hP hE hA hn (.inr rfl)
 | d::l,hp=>by
  refine .branch (.call (by simp) (by simp) fun x hx=>?_) (mN hP hE hA hn (.inl rfl)) (zA ht fun x hx=>hp x (by simp [hx]))
  simp only [List.mem_cons,List.not_mem_nil,or_false] at hx
  rcases hx with rfl|rfl|rfl
  ·exact .prim (by decide)
  ·exact .ref ht (by decide)
  ·exact .const (hP.q d (hp d (by simp)))
end
theorem mz {a b:Nat} (h:max a b=0):a=0∧b=0:=⟨by omega,by omega⟩
section
variable {Q P:D→Prop} {A:ByteArray→Prop} {n:Nat} {ev:Ev}
variable (hP:Pc Q P) (hE:GE Q P n ev) (hA:Cov P A) (hn:n≤100000000)
include hP hE hA hn
theorem vX:∀{l:List D},Gds n l→(∀d∈l,P d)→(eU ev l).2=0→Good Q (fun s=>A s∨s=bA) (eU ev l).1
 | [],_,_,_=>(pG hP hE hA hn).mono fun s hs=>.inl hs
 | a::r,hl,hp,h0=>by
  have hi:=jG hl.head
  have hpi:=BF hP hE hA hn (hp a (by simp))
  have hr:=fun h=>vX hl.tail (fun d hd=>hp d (by simp [hd])) h
  rw [lU] at h0 ⊢
  generalize eV a=it at hi hpi h0 ⊢
  match it,hi,hpi,h0 with
  | [],_,_,h0=>cases h0
  | [_],_,_,h0=>cases h0
  | c::f::fs,hi,hpi,h0 =>
   dsimp only at h0 ⊢
   have hcs:∀x∈f::fs,P x:=fun x hx=>hpi x (by simp at hx ⊢;exact .inr hx)
   by_cases he:iO c gY=true
   ·rw [if_pos he] at h0 ⊢
    by_cases hr0:r=[]
    ·rw [if_pos hr0] at h0 ⊢
     exact (gM hE hA hn hi.tail hcs h0).mono fun s hs=>.inl hs
    ·rw [if_neg hr0] at h0;cases h0
   ·rw [if_neg he] at h0 ⊢
    dsimp only at h0 ⊢
    have hA':Cov P (fun s=>A s∨s=bA):=fun d h1 h2=>⟨.inl (hA d h1 h2).1,(hA d h1 h2).2⟩
    exact .branch (zA hP hE hA' hn (.inr rfl) (qP hP (hpi c (by simp)))) ((gM hE hA hn hi.tail hcs (by omega)).mono fun s hs=>.inl hs) (hr (by omega))
theorem LX {l:List D} (hl:Gds n l) (hp:∀d∈l,P d) (h0:(AP ev l).2=0):Good Q A (AP ev l).1:=by
 match l,hl,hp,h0 with
 | [],_,_,h0=>cases h0
 | a::r,hl,hp,h0 =>
  unfold AP at h0 ⊢
  dsimp only at h0 ⊢
  exact nH hE hA (B:=fun s=>A s∨s=bA) (fun s hs=>hs) (vX hP hE hA hn hl.tail (fun d hd=>hp d (by simp [hd])) (by omega)) hl.head (hp a (by simp)) (by omega)
theorem sL (b:Bool):∀{l:List D},Gds n l→(∀d∈l,P d)→(dE ev b l).2=0→Good Q A (dE ev b l).1
 | [],_,_,_=>by
  unfold dE
  cases b
  ·exact mN hP hE hA hn (.inr rfl)
  ·exact mN hP hE hA hn (.inl rfl)
 | [d],hl,hp,h0=>hE.e d hl.head (hp d (by simp)) A hA h0
 | d::e::r,hl,hp,h0=>by
  have hr:=fun h=>sL b hl.tail (fun x hx=>hp x (List.mem_cons_of_mem _ hx)) h
  have tr:Good Q (fun s=>A s∨s=bA) (bH bA):=.ref (.inr rfl) (by decide)
  rw [show dE ev b (d::e::r)=if b=true then (aG (ev.e d).1 (dE ev b (e::r)).1 (iG 2),max (dE ev b (e::r)).2 (ev.e d).2) else ((dL ev d (aG (bH bA) (bH bA) (dE ev b (e::r)).1)).1,max (dE ev b (e::r)).2 (dL ev d (aG (bH bA) (bH bA) (dE ev b (e::r)).1)).2) from rfl] at h0 ⊢
  cases b with
  | true =>
   rw [if_pos rfl] at h0 ⊢
   dsimp only at h0 ⊢
   exact .branch (hE.e d hl.head (hp d (by simp)) A hA (by omega)) (hr (by omega)) (mN hP hE hA hn (.inr rfl))
  | false =>
   rw [if_neg (by decide)] at h0 ⊢
   dsimp only at h0 ⊢
   exact nH hE hA (B:=fun s=>A s∨s=bA) (fun s hs=>hs) (.branch tr tr ((hr (by omega)).mono fun s hs=>.inl hs)) hl.head (hp d (by simp)) (by omega)
theorem SP {d:D} {t:D × D × D} (hd:P d) (h:lC d=some t):P t.1∧P t.2.1∧P t.2.2:=by
 have hi:=nG hP d hd
 obtain⟨-,⟨h1,h2⟩|h1⟩:=sJ h
 ·rw [h1] at hi
  rw [h2]
  exact⟨hi _ (by simp),hi _ (by simp),hi _ (by simp)⟩
 ·rw [h1] at hi
  exact⟨hi _ (by simp),hi _ (by simp),hi _ (by simp)⟩
theorem UA {l:List D} (hl:∀d∈l,P d):(∀d∈tI l,P d)∧(∀d∈tS l,P d)∧(tE l=0→∀p∈tN l,p≠e0):=by
 have key:∀t∈tT l,P t.1∧P t.2.1∧P t.2.2:=fun t ht=>by
  obtain⟨d,hd,hq⟩:=List.mem_filterMap.1 ht
  exact SP hP hE hA hn (hl d hd) hq
 refine⟨fun d hd=>?_,fun d hd=>?_,fun h0 p hp=>?_⟩
 ·obtain⟨t,ht,rfl⟩:=List.mem_map.1 hd;exact (key t ht).2.1
 ·obtain⟨t,ht,rfl⟩:=List.mem_map.1 hd;exact (key t ht).2.2
 ·obtain⟨t,ht,rfl⟩:=List.mem_map.1 hp
  exact (lD hA (key t ht).1 (kO h0 _ (List.mem_map_of_mem (f:=fun t=>(bD t.1).2) ht))).2
theorem IU {l:List D} (hl:Gds n l) (hp:∀d∈l,P d) (h0:(nM ev l).2=0):Good Q A (nM ev l).1:=by
 match l,hl,hp,h0 with
 | [],_,_,h0=>cases h0
 | [_],_,_,h0=>cases h0
 | a::b::r,hl,hp,h0 =>
  have g1:=(tZ (fO hl.head)).1
  have g2:=fO hl.tail.head
  have hlen:=(fO hl.head).len
  have hrl:=hl.tail.tail.len
  obtain⟨p1,p2,p3⟩:=UA hP hE hA hn (qP hP (hp a (by simp)))
  have p4:=qP hP (hp b (by simp))
  rw [rC] at h0 ⊢
  by_cases hall:(aL a).1.all (fun d=>(lC d).isSome)=true
  case neg=>rw [if_neg hall] at h0;cases h0
  rw [if_pos hall] at h0 ⊢
  generalize tI (aL a).1=I at g1 p1 h0 ⊢
  generalize tS (aL a).1=S at g1 p2 h0 ⊢
  generalize tN (aL a).1=N at p3 h0 ⊢
  generalize (aL b).1=B at g2 p4 h0 ⊢
  cases B with
  | nil=>exact absurd (show (2:Nat)=0 from h0) (by decide)
  | cons e es =>
   unfold qJ at h0 ⊢
   dsimp only at h0 ⊢
   obtain⟨h1,zc⟩:=mz h0
   obtain⟨h2,zv⟩:=mz h1
   obtain⟨h3,zx⟩:=mz h2
   obtain⟨h4,zf⟩:=mz h3
   obtain⟨h5,za⟩:=mz h4
   obtain⟨h6,zn⟩:=mz h5
   obtain⟨h7,zb⟩:=mz h6
   obtain⟨h8,zl⟩:=mz h7
   obtain⟨ze,zt⟩:=mz h8
   obtain⟨h9,zu⟩:=mz ze
   obtain⟨h10,-⟩:=mz h9
   obtain⟨-,zT⟩:=mz h10
   clear h0 h1 h2 h3 h4 h5 h6 h7 h8 ze h9 h10
   have hA':Cov P (fun s=>A s∨s=dR):=fun d h1 h2=>⟨.inl (hA d h1 h2).1,(hA d h1 h2).2⟩
   refine kP zc (by simp) fun x hx=>?_
   rcases List.mem_cons.1 hx with rfl|hx
   ·refine uD (B:=fun s=>A s∨s=dR) zx (by simp;decide) (by simp) (fun s hs=>hs.imp id (by simp)) (fun y hy=>?_) (.ref (.inr rfl) (by decide))
    rw [List.mem_singleton.1 hy]
    refine uC (B:=fun s=>A s∨s=dR) zf (oG zu) (p3 zT) (fun s hs=>.inl hs) (.branch (hE.e e g2.head (p4 e (by simp)) _ hA' zt) ?_ (qO (by simp) (by simp [aM];omega) fun z hz=>?_))
    ·by_cases hes:es=[]
     ·rw [if_pos hes];exact pG hP hE hA' hn
     ·rw [if_neg hes] at zl ⊢
      exact gM hE hA' hn g2.tail (fun d hd=>p4 d (by simp [hd])) zl
    ·rcases List.mem_append.1 hz with hz|hz
     ·exact jI hE hA' hl.tail.tail (fun d hd=>hp d (by simp [hd])) zb z hz
     ·rw [List.mem_singleton.1 hz]
      refine kP za (by simp) fun u hu=>?_
      rcases List.mem_cons.1 hu with rfl|hu
      ·exact .ref (.inr rfl) (by decide)
      ·exact jI hE hA' g1.2 p2 zn u hu
   ·exact jI hE hA g1.1 p1 zv x hx
end
section
variable {Q P:D→Prop} {A:ByteArray→Prop} {n:Nat} {ev:Ev}
variable (hP:Pc Q P) (hE:GE Q P n ev) (hA:Cov P A) (hn:n≤100000000)
include hP hE hA hn
theorem pH {a d:K} (ha:Good Q A a) (hd:Good Q A d):Good Q A (rP a d):=by
 refine .call (by simp) (by simp) fun x hx=>?_
 simp only [List.mem_cons,List.not_mem_nil,or_false] at hx
 rcases hx with rfl|rfl|rfl
 ·exact .prim (by decide)
 ·exact ha
 ·exact hd
theorem qQ {s:ByteArray} {x:K} (hs:Q (dD s)) (hx:Good Q A x):Good Q A (lS s x) :=
 pH hP hE hA hn (.const hs) (pH hP hE hA hn hx (.const hP.nil))
theorem uF {d:D} (ht:d.Two) (hd:P d) {s:ByteArray} {x:List D} (h:dS d s=some x):∀y∈x,P y:=by
 unfold dS at h
 split at h
 ·rename_i hk
  split at h
  ·cases h
   have hl:=ht.pair hk.1
   exact nG hP _ (hP.kid d _ hd (by rw [hl];simp))
  ·cases h
 ·cases h
theorem IV {d:D} (ht:d.Two) (hd:P d) {s:ByteArray} {y:D} (h:pQ d s=some y):P y:=by
 unfold pQ at h
 split at h
 ·rename_i x hx
  cases h
  exact uF hP hE hA hn ht hd hx _ (by simp)
 ·cases h
theorem IW {d:D} (hd:Gd (n+1) d) (hp:P d) (k:Nat) (h0:(nN ev d k).2=0):Good Q A (nN ev d k).1:=by
 unfold nN at h0 ⊢
 cases h1:pQ d xZ with
 | some y =>
  have hy:=(lV hd h1).1
  have py:=IV hP hE hA hn hd.1 hp h1
  rw [h1] at h0
  dsimp only at h0 ⊢
  by_cases hk:k=1
  ·rw [if_pos hk] at h0 ⊢;exact hE.e y hy py A hA h0
  ·rw [if_neg hk] at h0 ⊢;exact qQ hP hE hA hn hP.sym.1 (hE.q y _ hy py A hA h0)
 | none =>
  rw [h1] at h0
  dsimp only at h0 ⊢
  cases h2:pQ d eP with
  | some y =>
   have hy:=(lV hd h2).1
   have py:=IV hP hE hA hn hd.1 hp h2
   rw [h2] at h0
   dsimp only at h0 ⊢
   exact qQ hP hE hA hn hP.sym.2.1 (hE.q y _ hy py A hA h0)
  | none =>
   rw [h2] at h0
   dsimp only at h0 ⊢
   by_cases h8:d.k=8
   ·have hv:=hd.vec h8
    have:=hd.2.2
    rw [if_pos h8] at h0 ⊢
    dsimp only at h0 ⊢
    refine .call (by simp) (by simp) fun x hx=>?_
    simp only [List.mem_cons,List.not_mem_nil,or_false] at hx
    rcases hx with rfl|rfl
    ·exact .prim (by decide)
    ·exact hE.q _ _ ⟨hv.1.1,hv.1.2.1,by omega⟩ (hP.vec d hp h8) A hA h0
   ·rw [if_neg h8] at h0 ⊢
    by_cases h7:d.k=7
    ·obtain⟨hl,hf,hs,hm⟩:=hd.pair h7
     have:=hd.2.2
     have p1:=gD d.fst
     have p2:=gD d.snd
     have hf':Gd n d.fst:=⟨hf.1,hf.2.1,by omega⟩
     have hs':Gd n d.snd:=⟨hs.1,hs.2.1,by omega⟩
     have pf:P d.fst:=hP.kid d _ hp (by rw [hl];simp)
     have ps:P d.snd:=hP.kid d _ hp (by rw [hl];simp)
     rw [if_pos h7] at h0 ⊢
     cases h3:pQ d.fst iQ with
     | some y =>
      have hy:=(lV hf h3).1
      have py:=IV hP hE hA hn hf.1 pf h3
      rw [h3] at h0
      dsimp only at h0 ⊢
      by_cases hk:k=1
      ·rw [if_pos hk] at h0 ⊢
       dsimp only at h0 ⊢
       refine .call (by simp) (by simp) fun x hx=>?_
       simp only [List.mem_cons,List.not_mem_nil,or_false] at hx
       rcases hx with rfl|rfl|rfl
       ·exact .prim (by decide)
       ·exact hE.e y hy py A hA (by omega)
       ·exact hE.q _ _ hs' ps A hA (by omega)
      ·rw [if_neg hk] at h0 ⊢
       dsimp only at h0 ⊢
       exact pH hP hE hA hn (qQ hP hE hA hn hP.sym.2.2 (hE.q y _ hy py A hA (by omega))) (hE.q _ _ hs' ps A hA (by omega))
     | none =>
      rw [h3] at h0
      dsimp only at h0 ⊢
      exact pH hP hE hA hn (hE.q _ _ hf' pf A hA (by omega)) (hE.q _ _ hs' ps A hA (by omega))
    ·rw [if_neg h7] at h0 ⊢
     exact .const (hP.q d hp)
theorem DC (w:ByteArray) {l:List D} (hl:Gds n l) (hp:∀d∈l,P d) (h0:(bI ev w l).2=0):Good Q A (bI ev w l).1:=by
 unfold bI at h0 ⊢
 repeat' (split at h0<;>rename_i hc<;>first|rw [if_pos hc]|rw [if_neg hc])
 ·exact PB hP hE hA hn hl hp h0
 ·exact LW hP hE hA hn hl hp h0
 ·exact FL hP hE hA hn hl hp h0
 ·exact BG hP hE hA hn hl hp h0
 ·exact IU hP hE hA hn hl hp h0
 ·exact sL hP hE hA hn true hl hp h0
 ·exact sL hP hE hA hn false hl hp h0
 ·cases h0
theorem FM {l:List D} (hp:∀d∈l,P d) {i:Nat} (hi:i<l.length):P (l.getD i cK):=by
 have:l.getD i cK=l[i]:=by simp [List.getD,hi]
 rw [this];exact hp _ (List.getElem_mem hi)
end
section
variable {Q P:D→Prop} {A:ByteArray→Prop} {n:Nat} {ev:Ev}
variable (hP:Pc Q P) (hE:GE Q P n ev) (hA:Cov P A) (hn:n≤100000000)
include hP hE hA hn
theorem uG {l:List D} (hl:Gds n l) (hp:∀d∈l,P d) {i:Nat} (hi:i<l.length) (h0:(ev.e (l.getD i cK)).2=0):Good Q A (ev.e (l.getD i cK)).1 :=
 hE.e _ (CX hl hi) (FM hP hE hA hn hp hi) A hA h0
theorem oH {l:List D} (hl:Gds n l) (hp:∀d∈l,P d) (h0:(aM ev.e l).2=0) {i:Nat} (hi:i<l.length):Good Q A (ev.e (l.getD i cK)).1:=by
 refine uG hP hE hA hn hl hp hi (kO h0 _ (List.mem_map_of_mem (f:=fun d=>(ev.e d).2) ?_))
 rw [show l.getD i cK=l[i] by simp [List.getD,hi]]
 exact List.getElem_mem hi
theorem LY (w:ByteArray) {l:List D} (hl:Gds n l) (hp:∀d∈l,P d) (h0:(cW ev w l).2=0):Good Q A (cW ev w l).1:=by
 have hd:∀d∈l.drop 1,P d:=fun d h=>hp d (List.mem_of_mem_drop h)
 have nt:Good Q A bQ:=.const (hP.kd 9 (by simp))
 unfold cW at h0 ⊢
 repeat' (split at h0<;>rename_i hc<;>first|rw [if_pos hc]|rw [if_neg hc])
 ·exact .const (hP.q _ (FM hP hE hA hn hp (by omega)))
 ·exact hE.q _ _ (CX hl (by omega)) (FM hP hE hA hn hp (by omega)) A hA h0
 ·exact rS hP hE hA (FM hP hE hA hn hp (by omega)) (hl.drop 1) hd h0
 ·obtain⟨h1,h2⟩:=mz h0
  have:=lD hA (FM hP hE hA hn hp (i:=0) (by omega)) h1
  exact .set this.1 this.2 (uG hP hE hA hn hl hp (by omega) h2)
 ·exact .branch (oH hP hE hA hn hl hp h0 (by omega)) (oH hP hE hA hn hl hp h0 (by omega)) nt
 ·exact .branch (oH hP hE hA hn hl hp h0 (by omega)) (oH hP hE hA hn hl hp h0 (by omega)) (oH hP hE hA hn hl hp h0 (by omega))
 ·exact gM hE hA hn hl hp h0
 ·exact LX hP hE hA hn hl hp h0
 ·obtain⟨h1,h2⟩:=mz h0
  exact .branch (uG hP hE hA hn hl hp (by omega) h1) (gM hE hA hn (hl.drop 1) hd h2) nt
 ·obtain⟨h1,h2⟩:=mz h0
  exact .branch (uG hP hE hA hn hl hp (by omega) h1) nt (gM hE hA hn (hl.drop 1) hd h2)
 ·exact DC hP hE hA hn w hl hp h0
theorem vA {d:D} (hd:Gd (n+1) d) (hp:P d) (h0:(eI ev d).2=0):Good Q A (eI ev d).1:=by
 unfold eI at h0 ⊢
 by_cases k0:d.k=0
 ·rw [if_pos k0] at h0;cases h0
 rw [if_neg k0] at h0 ⊢
 by_cases k6:d.k=6
 ·rw [if_pos k6] at h0 ⊢
  have:=lD hA hp h0
  exact .ref this.1 this.2
 rw [if_neg k6] at h0 ⊢
 by_cases h7:d.k=7
 ·rw [if_pos h7] at h0 ⊢
  by_cases he:fP d=0
  ·rw [if_pos he] at h0 ⊢
   have hgi:Gds n (items d):=by
    have:=yA h7
    have:=hd.2.2
    exact⟨(jN d hd.1 hd.2.1).1,(jN d hd.1 hd.2.1).2,by omega⟩
   have hpi:=nG hP d hp
   generalize items d=it at hgi hpi h0 ⊢
   match it,hgi,hpi,h0 with
   | [],_,_,h0=>cases h0
   | a::r,hgi,hpi,h0 =>
    dsimp only at h0 ⊢
    by_cases hk:a.k=6∧mP a.t=true
    ·rw [if_pos hk] at h0 ⊢
     exact LY hP hE hA hn a.t hgi.tail (fun d hd=>hpi d (by simp [hd])) h0
    ·rw [if_neg hk] at h0 ⊢
     obtain⟨h1,h2⟩:=mz h0
     exact kP h2 (by simp [aM]) (jI hE hA hgi hpi h1)
  ·rw [if_neg he] at h0;cases h0
 ·rw [if_neg h7]
  exact .const (hP.q d hp)
theorem FN {l:List D} (hl:Gds n l) (hp:∀d∈l,P d) (h0:(fC ev l).2.2=0):(A (fC ev l).1∧(fC ev l).1≠e0)∧Good Q A (fC ev l).2.1:=by
 match l,hl,hp,h0 with
 | [],_,_,h0=>cases h0
 | [_],_,_,h0=>cases h0
 | a::b::r,hl,hp,h0 =>
  have pa:P a:=hp a (by simp)
  rw [BD] at h0 ⊢
  by_cases h7:a.k=7
  ·rw [if_pos h7] at h0 ⊢
   obtain⟨h1,h2⟩:=mz h0
   have hl2:=hl.head.1.pair h7
   exact⟨lD hA (hP.kid a _ pa (by rw [hl2];simp)) h1,rS hP hE hA (hP.kid a _ pa (by rw [hl2];simp)) hl.tail (fun d hd=>hp d (by simp only [List.mem_cons] at hd ⊢;exact .inr hd)) h2⟩
  ·rw [if_neg h7] at h0 ⊢
   obtain⟨h1,h2⟩:=mz h0
   have h1:(bD a).2=0:=by split at h1<;>omega
   exact⟨lD hA pa h1,hE.e b hl.tail.head (hp b (by simp)) A hA h2⟩
theorem PC:∀(m:Nat) {k:Nat} {l:List D},Gds k l→(∀d∈l,P d)→∀d∈tH m l,P d
 | 0,_,_,_,hp=>hp
 | m+1,k,l,hl,hp=>by
  intro d hd
  rw [tH] at hd
  obtain⟨x,hx,hd⟩:=List.mem_flatMap.1 hd
  cases ho:dS x dP with
  | none=>rw [ho] at hd;rw [List.mem_singleton.1 hd];exact hp x hx
  | some y =>
   rw [ho] at hd
   exact PC m (fW (hl.mem hx) ho).1 (uF hP hE hA hn (hl.mem hx).1 (hp x hx) ho) d hd
theorem BH (he:∀d,Gd (n+1) d→P d→(ev.e d).2=0→Good Q A (ev.e d).1):∀(l:List D) (s:Bs),Gds (n+1) l→(∀d∈l,P d) →
  (s.err=0→(∀p∈s.names,A p∧p≠e0)∧(∀x∈s.values,Good Q A x)∧∀x∈s.rest,Good Q A x)→(l.foldl (cZ ev) s).err=0 →
  (∀p∈(l.foldl (cZ ev) s).names,A p∧p≠e0)∧(∀x∈(l.foldl (cZ ev) s).values,Good Q A x)∧∀x∈(l.foldl (cZ ev) s).rest,Good Q A x
 | [],s,_,_,hs,h0=>hs h0
 | d::l,s,hl,hp,hs,h0=>by
  rw [List.foldl_cons] at h0 ⊢
  refine BH he l _ hl.tail (fun x hx=>hp x (by simp [hx])) ?_ h0
  have pd:=hp d (by simp)
  unfold cZ
  cases ho:dS d fB with
  | none =>
   intro h
   obtain⟨h1,h2⟩:=mz h
   obtain⟨g1,g2,g3⟩:=hs h1
   refine⟨g1,g2,fun x hx=>?_⟩
   rcases List.mem_append.1 hx with hx|hx
   ·exact g3 x hx
   ·rw [List.mem_singleton.1 hx];exact he d hl.head pd h2
  | some x =>
   intro h
   dsimp only at h
   have h12:s.err=0∧(fC ev x).2.2=0:=by
    split at h
    ·exact mz h
    ·exact mz (mz h).1
   obtain⟨q1,q2⟩:=fW hl.head ho
   have hx:Gds n x:=⟨q1.1,q1.2.1,by have:=hl.head.2.2;omega⟩
   obtain⟨g1,g2,g3⟩:=hs h12.1
   obtain⟨w1,w2⟩:=FN hP hE hA hn hx (uF hP hE hA hn hl.head.1 pd ho) h12.2
   refine⟨fun p hp=>?_,fun y hy=>?_,g3⟩
   ·rcases List.mem_append.1 hp with hp|hp
    ·exact g1 p hp
    ·rw [List.mem_singleton.1 hp];exact w1
   ·rcases List.mem_append.1 hy with hy|hy
    ·exact g2 y hy
    ·rw [List.mem_singleton.1 hy];exact w2
theorem LZ (he:∀d,Gd (n+1) d→P d→(ev.e d).2=0→Good Q A (ev.e d).1) {l:List D} (hl:Gds (n+1) l) (hp:∀d∈l,P d) (h0:(uQ ev l).2=0):Good Q A (uQ ev l).1:=by
 have hs:=(CJ hl).1
 have hlen:=EZ ev (spl l)
 have hsl:=hs.len
 unfold uQ nL at h0 ⊢
 have key:=BH hP hE hA hn he (spl l) ⟨[],[],[],0⟩ hs (PC hP hE hA hn _ hl hp) (fun _=>⟨by simp,by simp,by simp⟩)
 change (kZ ev (spl l)).err=0→(∀p∈(kZ ev (spl l)).names,A p∧p≠e0)∧(∀x∈(kZ ev (spl l)).values,Good Q A x)∧∀x∈(kZ ev (spl l)).rest,Good Q A x at key
 generalize kZ ev (spl l)=s at key h0 hlen ⊢
 by_cases h1:s.rest=[]
 ·rw [if_pos h1] at h0;exact absurd (mz h0).2 (by decide)
 rw [if_neg h1] at h0 ⊢
 by_cases h2:s.names=[]
 ·rw [if_pos h2] at h0 ⊢
  exact qO h1 (by omega) (key h0).2.2
 ·rw [if_neg h2] at h0 ⊢
  obtain⟨q1,q2⟩:=mz h0
  obtain⟨g1,g2,g3⟩:=key q1
  exact uD (B:=A) q2 (fun p hp=>(g1 p hp).2) (by omega) (fun s hs=>.inl hs) g2 (qO h1 (by omega) g3)
end
section
variable {Q P:D→Prop}
theorem FO (hP:Pc Q P):∀n,n≤100000000→GE Q P n (evs n)
 | 0,_=>⟨fun d hd=>absurd hd.2.2 (Nat.not_lt_zero _),fun d hd=>absurd hd.2.2 (Nat.not_lt_zero _),fun d k hd=>absurd hd.2.2 (Nat.not_lt_zero _)⟩
 | n+1,h=>by
  have ih:=FO hP n (by omega)
  have hh:GE Q P n ⟨eI (evs n),(evs n).b,(evs n).q⟩:=⟨fun d hd hp A hA h0=>vA hP ih hA (by omega) (hd.le (Nat.le_succ n)) hp h0,ih.b,ih.q⟩
  exact⟨fun d hd hp A hA h0=>by rw [evs] at h0 ⊢;exact vA hP ih hA (by omega) hd hp h0,
   fun l hl hp A hA h0=>by rw [evs] at h0 ⊢;exact LZ hP hh hA (by omega) (fun d hd hp h0=>vA hP ih hA (by omega) hd hp h0) hl hp h0,
   fun d k hd hp A hA h0=>by rw [evs] at h0 ⊢;exact IW hP hh hA (by omega) hd hp k h0⟩
inductive TopG (Q:D→Prop) (A:ByteArray→Prop):K→Prop
 | good {k}:Good Q A k→TopG Q A k
 | dfn {s x}:A s→s≠e0→Good Q A x→TopG Q A (.mk 4 s e0 [] cK [x])
 | seq {l}:2≤l.length→l.length≤200000000→(∀x∈l,TopG Q A x)→TopG Q A (.mk 7 e0 e0 [] cK l)
theorem TopG.ok (hQ:∀d,Q d→d.Ok) {A:ByteArray→Prop} {k:K} (h:TopG Q A k):k.Ok:=by
 induction h with
 | good h=>exact h.ok hQ
 | dfn h h0 hx=>exact⟨by decide,by simp,gR,by simp,hx.ok hQ,trivial⟩
 | seq h1 h2 _ ih=>exact⟨by decide,by simp,gR,by omega,K.Oks.ofMem ih⟩
theorem FP (hP:Pc Q P) {A:ByteArray→Prop} {n:Nat} {E:Ev} (hE:GE Q P n E) (hA:Cov P A) (hn:n≤100000000):∀(m:Nat) (d:D),d.msr<m→Gd n d→P d→(jU E m d).2=0→TopG Q A (jU E m d).1
 | 0,d,h,_,_,_=>absurd h (Nat.not_lt_zero _)
 | m+1,d,h,hd,hp,h0=>by
  rw [jU] at h0 ⊢
  cases h1:dS d fB with
  | some l =>
   rw [h1] at h0
   have hl:=fW hd h1
   obtain⟨w1,w2⟩:=FN hP hE hA hn hl.1 (uF hP hE hA hn hd.1 hp h1) h0
   exact .dfn w1.1 w1.2 w2
  | none =>
   rw [h1] at h0
   dsimp only at h0 ⊢
   cases h2:dS d dP with
   | none=>rw [h2] at h0;exact .good (hE.e d hd hp A hA h0)
   | some l =>
    rw [h2] at h0
    obtain⟨hl,hm⟩:=fW hd h2
    have pl:=uF hP hE hA hn hd.1 hp h2
    match l,hl,hm,pl,h0 with
    | [],_,_,_,_=>exact .good (.const (hP.kd 9 (by simp)))
    | a::r,hl,hm,pl,h0 =>
     dsimp only at h0 ⊢
     have hk:∀x∈a::r,TopG Q A (jU E m x).1:=fun x hx =>
      FP hP hE hA hn m x (by have:=nZ hx;omega) (hl.mem hx) (pl x hx) (kO h0 _ (List.mem_map_of_mem (f:=fun x=>(jU E m x).2) hx))
     have hlen:=hl.len
     match r,hk,hlen with
     | [],hk,_=>exact hk a (by simp)
     | b::r,hk,hlen =>
      refine .seq (by simp) (by simp at hlen ⊢;omega) fun y hy=>?_
      have hy:y∈(a::b::r).map fun x=>(jU E m x).1:=hy
      obtain⟨x,hx,rfl⟩:=List.mem_map.1 hy
      exact hk x hx
theorem MA (hP:Pc Q P) {A:ByteArray→Prop} (hA:Cov P A) {d:D} (hn:d.msr<100000000) (ht:d.Two) (ho:d.Ok) (hp:P d) (h0:(lI d).2=0):TopG Q A (lI d).1 :=
 FP hP (FO hP _ (by omega)) hA (by omega) _ d (Nat.lt_succ_self _) ⟨ht,ho,Nat.lt_succ_self _⟩ hp h0
end
end Go.Proofs.YtaeioidifpebdaaGreatDoor
end
section
namespace Go.Proofs.YtaeioidifpebdaaGreatDoor
open Go Go.RowKit Go.Lib
set_option linter.unusedSimpArgs false
set_option linter.unusedVariables false
set_option maxRecDepth 100000
mutual
def D.syms:D→List ByteArray
 | .mk k _ _ _ t l=>(if k=6 then [t] else [])++eT l
def eT:List D→List ByteArray
 | []=>[]
 | d::l=>d.syms++eT l
end
theorem D.syms_eq (d:D):d.syms=(if d.k=6 then [d.t] else [])++eT d.l:=by cases d;rw [D.syms];rfl
theorem vB:∀a b:List D,eT (a++b)=eT a++eT b
 | [],b=>rfl
 | d::a,b=>by rw [List.cons_append,eT,eT,vB a b,List.append_assoc]
theorem BI {d:D} {s:ByteArray}:∀{l:List D},d∈l→s∈d.syms→s∈eT l
 | x::l,h,hs=>by
  rw [eT]
  rcases List.mem_cons.1 h with rfl|h
  ·exact List.mem_append_left _ hs
  ·exact List.mem_append_right _ (BI h hs)
theorem PD {d x:D} (h:x∈d.l) {s:ByteArray} (hs:s∈x.syms):s∈d.syms:=by
 rw [D.syms_eq];exact List.mem_append_right _ (BI h hs)
mutual
theorem zB:∀d:D,d.syms.length≤d.msr
 | .mk k c neg mag t l=>by
  have h:=BJ l
  rw [D.syms,D.msr,List.length_append]
  split<;>split<;>simp<;>omega
theorem BJ:∀l:List D,(eT l).length≤cH l
 | []=>Nat.le_refl _
 | d::l=>by
  have h1:=zB d
  have h2:=BJ l
  rw [eT,cH,List.length_append];omega
end
theorem vY:∀l:List D,(aX l).syms=eT l
 | []=>rfl
 | d::l=>by
  have:=vY l
  rw [show aX (d::l)=.mk 7 0 false [] e0 [d,aX l] from rfl,D.syms,eT,eT,eT,this,eT]
  simp
theorem zC:∀(d:D),d.Plain→∀s∈d.syms,s≠e0
 | .mk k c neg mag t l,h,s,hs=>by
  rw [D.Plain] at h
  rw [D.syms] at hs
  rcases List.mem_append.1 hs with hs|hs
  ·split at hs
   ·rename_i hk
    rw [List.mem_singleton.1 hs]
    intro e
    have:=h.2.2.2.2.1 hk
    rw [e] at this
    exact absurd this (by decide)
   ·simp at hs
  ·have key:∀d∈l,∀s∈d.syms,s≠e0:=fun d hd=>by
    obtain⟨i,hi,rfl⟩:=List.mem_iff_getElem.1 hd
    exact zC l[i] ((Plains.iff l).1 h.2.2.2.2.2.2.2.2 i hi)
   have:∀(m:List D),(∀d∈m,d∈l)→∀s∈eT m,s≠e0:=fun m=>by
    induction m with
    | nil=>intro _ s hs;simp [eT] at hs
    | cons x m ih =>
     intro hm s hs
     rw [eT] at hs
     rcases List.mem_append.1 hs with hs|hs
     ·exact key x (hm x (by simp)) s hs
     ·exact ih (fun y hy=>hm y (by simp [hy])) s hs
   exact this l (fun _ h=>h) s hs
termination_by d=>SizeOf.sizeOf d
decreasing_by
 all_goals simp_wf
 all_goals (have:=List.sizeOf_lt_of_mem hd;omega)
def TN (L:List ByteArray) (d:D):Prop:=d.Ok∧∀s∈d.syms,s∈L∧s≠e0
theorem D.Ok.kid {d x:D} (h:d.Ok) (hx:x∈d.l):x.Ok:=h.l.mem hx
theorem QU (L:List ByteArray):Pc D.Ok (TN L) where
 kid d x h hx:=⟨h.1.kid hx,fun s hs=>h.2 s (PD hx hs)⟩
 vec d h _:=⟨iM h.1.l,fun s hs=>h.2 s (by rw [vY] at hs;rw [D.syms_eq];exact List.mem_append_right _ hs)⟩
 q d h:=h.1
 kd k h:=CA (by omega)
 nil:=gR
 sym:=⟨BZ (by decide),BZ (by decide),BZ (by decide)⟩
theorem PE (L:List ByteArray):Cov (TN L) (·∈L):=fun d h hk=>h.2 d.t (by rw [D.syms_eq,if_pos hk];simp)
mutual
def K.Cl:K→List ByteArray→Bool→Prop
 | .mk k name rest params d l,free,top=>if k=6 then params.Nodup∧rest∉params∧params.length≤40∧l.length=1∧Cls l (free++params++[rest]) false else
  ((k=2∨k=3)→name∈free)∧(k=4→top=true∧name∈free)∧Cls l free (top&&decide (k=7))
def Cls:List K→List ByteArray→Bool→Prop
 | [],_,_=>True
 | x::l,free,top=>x.Cl free top∧Cls l free top
end
theorem Cls.ofMem {free:List ByteArray} {top:Bool}:∀{l:List K},(∀x∈l,x.Cl free top)→Cls l free top
 | [],_=>trivial
 | x::l,h=>⟨h x (by simp),Cls.ofMem fun y hy=>h y (by simp [hy])⟩
theorem Cls.get {free:List ByteArray} {top:Bool}:∀{l:List K},Cls l free top→∀i (h:i<l.length),l[i].Cl free top
 | x::l,h,0,_=>h.1
 | x::l,h,i+1,hi=>Cls.get h.2 i (by simpa using hi)
theorem K.Cl_eq (x:K) (free:List ByteArray) (top:Bool):x.Cl free top↔if x.k=6 then x.params.Nodup∧x.rest∉x.params∧x.params.length≤40∧x.l.length=1∧Cls x.l (free++x.params++[x.rest]) false else
  ((x.k=2∨x.k=3)→x.name∈free)∧(x.k=4→top=true∧x.name∈free)∧Cls x.l free (top&&decide (x.k=7)):=by cases x;rw [K.Cl];rfl
theorem Good.cl {Q:D→Prop} {A:ByteArray→Prop} {k:K} (h:Good Q A k):∀{free:List ByteArray} {top:Bool},(∀s,A s→s∈free)→k.Cl free top:=by
 induction h with
 | const h=>intro free top hf;simp [dK,K.Cl,Cls]
 | ref h h0=>intro free top hf;simp [bH,K.Cl,Cls];exact hf _ h
 | prim h0=>intro free top hf;simp [fD,K.Cl,Cls]
 | set h h0 _ ih=>intro free top hf;simp [tG,K.Cl,Cls];exact⟨hf _ h,ih hf⟩
 | branch _ _ _ i1 i2 i3=>intro free top hf;simp [aG,K.Cl,Cls];exact⟨i1 hf,i2 hf,i3 hf⟩
 | seq h1 h2 _ ih=>intro free top hf;simp [K.Cl];exact Cls.ofMem fun x hx=>ih x hx hf
 | call h1 h2 _ ih=>intro free top hf;simp [iA,K.Cl];exact Cls.ofMem fun x hx=>ih x hx hf
 | lam h1 h2 h3 h4 h5 h6 ih =>
  intro free top hf
  rw [K.Cl,if_pos rfl]
  refine⟨h1,h2,by omega,rfl,ih fun s hs=>?_,trivial⟩
  rcases h5 s hs with h|h|h
  ·simp [hf s h]
  ·simp [h]
  ·simp [h]
 | none=>intro free top hf;simp [jW,K.Cl,Cls]
theorem TopG.cl {Q:D→Prop} {A:ByteArray→Prop} {k:K} (h:TopG Q A k) {free:List ByteArray} (hf:∀s,A s→s∈free):k.Cl free true:=by
 induction h with
 | good h=>exact h.cl hf
 | dfn h h0 hx=>simp [K.Cl,Cls];exact⟨hf _ h,hx.cl hf⟩
 | seq h1 h2 _ ih=>simp [K.Cl];exact Cls.ofMem ih
theorem FQ {d:D} (hm:d.msr<100000000) (hp:d.Plain) (ho:d.Ok) (h0:(lI d).2=0):(lI d).1.Cl d.syms true∧(lI d).1.Ok:=by
 have h:=MA (QU d.syms) (PE d.syms) hm hp.two ho ⟨ho,fun s hs=>⟨hs,zC d hp s hs⟩⟩ h0
 exact⟨h.cl fun _ h=>h,h.ok fun _ h=>h⟩
end Go.Proofs.YtaeioidifpebdaaGreatDoor
end
section
namespace Go.Proofs.YtaeioidifpebdaaGreatDoor
open Go Go.RowKit Go.Lib
set_option linter.unusedSimpArgs false
set_option linter.unusedVariables false
set_option maxHeartbeats 4000000
set_option maxRecDepth 100000
noncomputable def MB (l:List ByteArray) (s:ByteArray):Bool:=l.any fun x=>eqB x s
theorem DD {l:List ByteArray} {s:ByteArray} (h:s∈l):MB l s=true:=List.any_eq_true.2 ⟨s,h,bK rfl⟩
theorem SQ {l:List ByteArray} {s:ByteArray} (h:s∉l):MB l s=false:=by
 unfold MB
 rw [List.any_eq_false]
 intro x hx e
 rw [sM.1 e] at hx
 exact h hx
def UB (l:List ByteArray) (s:ByteArray) (n:Nat) (st:St):Prop:=∃i:Nat,n=l.length-i∧i≤l.length∧MB (l.take i) s=false ∧
 st=⟨[(5,.one (.v (.int .i64 i))),(0,.one (.sl 1 (cD l))),(1,.one (.v (.string s)))],[]⟩
theorem uH (l:List ByteArray) (s:ByteArray) (hlen:l.length≤1000000000000000):Pure Tryz.prog 42 [.one (.sl 1 (cD l)),.one (.v (.string s))] (.one (.v (.bool (MB l s)))):=by
 have hl:=bT l
 refine fi Tryz.func42 Tryz.ntmps42 Tryz.results42 ?_
 repeat (first|(apply fw;(with_reducible constructor)<;>rfl)|(apply WpA.cd;constructor)|((first|with_reducible refine WpA.go _ rfl fun Y y=>?_|apply RunTo.id);simp only [zb,seval,w42,hl];refine fz y ?_;clear y Y))
 refine WpA.loop (UB l s) l.length (st0:=⟨[(5,.one (.v (.int .i64 (0:Nat)))),(0,.one (.sl 1 (cD l))),(1,.one (.v (.string s)))],[]⟩) (Le.sub (by simp [Sub,find])) ⟨0,rfl,Nat.zero_le _,rfl,rfl⟩ ?_
 intro n' st hI
 obtain⟨i,rfl,hi,hb,rfl⟩:=hI
 have hw2:IntKind.i64.wrap ((i:Int)+1)=((i+1:Nat):Int):=by rw [dU (by omega) (by omega)];omega
 by_cases hlt:i<l.length
 ·have hd1:decide ((i:Int)<(l.length:Int))=true:=by simp;omega
  have hget:=kW hlt
  by_cases he:l[i]=s
  ·have hee:=bK he
   rw [DD (by rw [←he];exact List.getElem_mem hlt)]
   repeat (first|(apply fw;(with_reducible constructor)<;>rfl)|(apply WpA.cd;constructor)|((first|with_reducible refine WpA.go _ rfl fun Y y=>?_|apply RunTo.id);simp only [zb,seval,w42,hd1,hget,hl,bZ,hee];refine fz y ?_;clear y Y))
   refine ye (by simp only [zb,seval,w42];rfl) (by simp only [zv];rfl) ?_
   rfl
  ·have hee:=aA he
   repeat (first|(apply fw;(with_reducible constructor)<;>rfl)|(apply WpA.cd;constructor)|((first|with_reducible refine WpA.go _ rfl fun Y y=>?_|apply RunTo.id);simp only [zb,seval,w42,hd1,hget,hl,bZ,hee,hw2];refine fz y ?_;clear y Y))
   refine⟨l.length-(i+1),_,by omega,Le.sub (by simp [Sub,find]),i+1,rfl,hlt,?_,rfl⟩
   unfold MB at hb ⊢
   rw [List.take_succ_eq_append_getElem hlt,List.any_append,hb]
   simp [hee]
 ·have hd0:decide ((i:Int)<(l.length:Int))=false:=by simp;omega
  have hii:i=l.length:=by omega
  subst hii
  rw [List.take_length] at hb
  rw [hb]
  repeat (first|(apply fw;(with_reducible constructor)<;>rfl)|(apply WpA.cd;constructor)|((first|with_reducible refine WpA.go _ rfl fun Y y=>?_|apply RunTo.id);simp only [zb,seval,w42,hd0,hl];refine fz y ?_;clear y Y))
  repeat (first|(apply fw;(with_reducible constructor)<;>rfl)|(apply WpA.cd;constructor)|((first|with_reducible refine WpA.go _ rfl fun Y y=>?_|apply RunTo.id);simp only [zb,seval,w42,hd0,hl];refine fz y ?_;clear y Y))
  refine ye (by simp only [zb,seval,w42];rfl) (by simp only [zv];rfl) ?_
  rfl
theorem zD {l:List D} {i:Nat} (h:i<l.length):eT (l.take (i+1))=eT (l.take i)++l[i].syms:=by
 rw [List.take_succ_eq_append_getElem h,vB,eT,eT,List.append_nil]
theorem PF {l:List D} {i:Nat} (h:i<l.length):(eT (l.take i)).length+l[i].syms.length≤(eT l).length:=by
 have h1:=congrArg List.length (vB (l.take (i+1)) (l.drop (i+1)))
 rw [List.take_append_drop,zD h,List.length_append,List.length_append] at h1
 omega
def dOb (d:D):Ob:=⟨28,6,[[.v (.int .i64 d.k),.v (.int .i32 d.c),.v (.bool d.neg),.sl 1 (d.mag.map fun n=>[.v (.int .u32 n)]),.v (.string d.t),.sl 6 (d.l.map D.cc)]]⟩
def SyR (S:List (Option Ob)) (c:C) (l:List ByteArray) (r:A) (S':List (Option Ob)):Prop:=∃c',r=.one c'∧At 9 1 S' c' (cD l)∧(∀j n,c'=.ms j n→(∃m,c=.ms j m)∨S.length≤j)∧S.length≤S'.length∧∀(j:Nat) (o:Option Ob),S[j]?=some o→(∀n,c≠.ms j n)→S'[j]?=some o
def SyI (S:List (Option Ob)) (c:C) (l0:List ByteArray) (d:D) (n:Nat) (st:St):Prop:=∃(i:Nat) (S':List (Option Ob)) (cO:C),n=d.l.length-i∧i≤d.l.length∧SyR S c (l0++eT (d.l.take i)) (.one cO) S'∧S'[S.length]?=some (some (dOb d)) ∧
 st=⟨[(5,.one (.v (.int .i64 i))),(1,.one cO),(2,.one (.ptr S.length 1 0 0))],S'⟩
theorem DE:∀(m:Nat) (d:D),d.ht≤m→d.Ok→∀(l:List ByteArray) (c:C) (S:List (Option Ob)),At 9 1 S c (cD l)→l.length+d.syms.length≤1000000000→Fn Tryz.prog 19 [.agg d.cc,.one c] S (SyR S c (l++d.syms)):=by
 intro m
 induction m with
 | zero=>intro d h;exact absurd h (by cases d;rw [D.ht];omega)
 | succ m ih =>
  intro d hh hok l c S hA hlen
  have hll:d.l.length≤100000000000000:=by cases d;have:=hok.2.2.2.2.1.2;simp only [D.l];omega
  have hse:=D.syms_eq d
  have key:∀(l0:List ByteArray) (S0:List (Option Ob)) (c0:C),l++d.syms=l0++eT d.l→SyR S c l0 (.one c0) S0→S0[S.length]?=some (some (dOb d))→SyI S c l0 d d.l.length ⟨[(5,.one (.v (.int .i64 (0:Nat)))),(1,.one c0),(2,.one (.ptr S.length 1 0 0))],S0⟩:=fun l0 S0 c0 he hR h0=>⟨0,S0,c0,rfl,Nat.zero_le _,by rw [List.take_zero,eT,List.append_nil];exact hR,h0,rfl⟩
  have base:SyR S c l (.one c) (S++[some (dOb d)]):=⟨c,rfl,hA.app _,fun j n e=>.inl ⟨n,e⟩,by simp,fun j o h _=>cJ h⟩
  rw [D.cc_eq d]
  refine Fn.introT Tryz.func19 rfl Tryz.ntmps19 Tryz.results19 (by simp only [List.length_cons,List.length_nil];decide) ?_
  by_cases hk:d.k=6
  case' pos =>
   have h6:(d.k == 6)=true:=by simp [hk]
   rw [if_pos hk] at hse
   repeat (first|(apply fw;(with_reducible constructor)<;>rfl)|(apply WpA.cd;constructor)|((first|with_reducible refine WpA.go _ rfl fun Y y=>?_|apply RunTo.id);simp only [zb,seval,w19,h6,kcc,aF];refine fz y ?_;clear y Y))
   refine WpA.region ?_
   (try simp only [St.put]);(refine WpL.op rfl (aB (P:=Tryz.prog) rfl) (aE (by simp only [zb,seval,w19,kcc,aF];rfl) (by first|(simp;done)|omega|(simp;omega))) ?_);simp only [St.put];(refine WpL.op rfl (aB (P:=Tryz.prog) rfl) (aE (by simp only [zb,seval,w19,kcc,aF];rfl) (by first|(simp;done)|omega|(simp;omega))) ?_);simp only [St.put];(refine WpL.op rfl (aB (P:=Tryz.prog) rfl) (aE (by simp only [zb,seval,w19,kcc,aF];rfl) (by first|(simp;done)|omega|(simp;omega))) ?_);simp only [St.put];(refine WpL.op rfl (aB (P:=Tryz.prog) rfl) (aE (by simp only [zb,seval,w19,kcc,aF];rfl) (by first|(simp;done)|omega|(simp;omega))) ?_);simp only [St.put]
   obtain⟨S8,j,hA8,hj8,hl8,hfr8,hpl8,hop8⟩:=eO (P:=Tryz.prog) (T:=22) (by_:=16) bW cA cC (by omega) (S:=S++[some (dOb d),some ⟨9,1,[[.v (.string d.t)]]⟩]) (hA.app _) (q:=S.length+1) (new:=[[.v (.string d.t)]]) (oC _ _ _ _) (by simp) (fun n e=>by have:=hA.lt e;omega) (by rw [bT];simp;omega) (by rw [bT];simp;omega)
   simp only [List.length_cons,List.length_nil,Nat.zero_add] at hop8 hA8
   refine WpL.aop rfl (hop8 _ _ _ rfl rfl) ?_
   simp only [St.put]
   rw [←jF] at hA8
   rw [List.length_append] at hl8
   have h08:=hfr8 S.length _ (iP _ _ _) fun n e=>by have:=hA.lt e;omega
   have he:l++d.syms=(l++[d.t])++eT d.l:=by rw [hse];simp
   have hlen2:(l++[d.t]).length+(eT d.l).length≤1000000000:=by
    have h3:=congrArg List.length hse
    simp only [List.length_append,List.length_cons,List.length_nil] at h3 ⊢;omega
   generalize hl0:l++[d.t]=l0 at *
   have ini:=key l0 S8 (.ms j ((cD l).length+1)) he ⟨_,rfl,hA8,fun k n e=>by
    have h1:=(C.ms.inj e).1
    subst h1
    rcases hpl8 with q|q
    ·exact .inl ⟨_,q⟩
    ·rw [List.length_append] at q;exact .inr (by omega),by omega,fun k o h hn=>hfr8 k o (cJ h) hn⟩ h08
   (refine WpL.go _ rfl fun Y y=>?_);repeat (first|(apply fw;(with_reducible constructor)<;>rfl)|(apply WpA.cd;constructor)|((first|with_reducible refine WpA.go _ rfl fun Y y=>?_|apply RunTo.id);simp only [zb,seval,w19];refine fz y ?_;clear y Y))
   refine WpA.loop (SyI S c l0 d) d.l.length (Le.sub (by simp [Sub,find])) ini ?_
   clear ini hA8 hj8 hl8 hfr8 hpl8 hop8 h08 hl0
  case' neg =>
   have h6:(d.k == 6)=false:=by simp [hk]
   rw [if_neg hk,List.nil_append] at hse
   have he:l++d.syms=l++eT d.l:=by rw [hse]
   have hlen2:l.length+(eT d.l).length≤1000000000:=by rw [←hse];omega
   have ini:=key l (S++[some (dOb d)]) c he base (iP _ _ _)
   generalize hl0:l=l0 at ini he hlen2
   repeat (first|(apply fw;(with_reducible constructor)<;>rfl)|(apply WpA.cd;constructor)|((first|with_reducible refine WpA.go _ rfl fun Y y=>?_|apply RunTo.id);simp only [zb,seval,w19,h6,kcc,aF];refine fz y ?_;clear y Y))
   refine WpA.loop (SyI S c l0 d) d.l.length (Le.sub (by simp [Sub,find])) ini ?_
   clear ini hl0
  all_goals
   rw [he]
   clear key base
   intro n' st hI
   obtain⟨i,S',cO,rfl,hi,⟨c',hc',hA',hpl',hl',hfr'⟩,h0',rfl⟩:=hI
   cases hc'
   have hw2:IntKind.i64.wrap ((i:Int)+1)=((i+1:Nat):Int):=by rw [dU (by omega) (by omega)];omega
   have hbx:=h0'
   simp only [dOb] at hbx
   by_cases hlt:i<d.l.length
   ·have hd1:decide ((i:Int)<(d.l.length:Int))=true:=by simp;omega
    have hget:=xU hlt
    have htl:=PF hlt
    repeat (first|(apply fw;(with_reducible constructor)<;>rfl)|(apply WpA.cd;constructor)|((first|with_reducible refine WpA.go _ rfl fun Y y=>?_|apply RunTo.id);simp only [zb,seval,w19,hd1,hget,kcc,hbx];refine fz y ?_;clear y Y))
    refine WpL.handAll rfl (aB (P:=Tryz.prog) rfl) rfl rfl (by kernel_rfl) (ALes.refl _) (ih d.l[i] (by have:=D.ht_lt hlt;omega) (hok.kid (List.getElem_mem hlt)) _ cO S' hA' (by rw [List.length_append];omega)) ?_
    rintro _ S5 ⟨c5,rfl,hA5,hpl5,hl5,hfr5⟩
    (refine WpL.go _ rfl fun Y y=>?_);repeat (first|(apply fw;(with_reducible constructor)<;>rfl)|(apply WpA.cd;constructor)|((first|with_reducible refine WpA.go _ rfl fun Y y=>?_|apply RunTo.id);simp only [zb,seval,w19,hw2];refine fz y ?_;clear y Y))
    rw [List.append_assoc,←zD hlt] at hA5
    refine⟨d.l.length-(i+1),_,by omega,Le.sub (by simp [Sub,find]),i+1,S5,c5,rfl,hlt,⟨c5,rfl,hA5,fun k n e=>?_,by omega,fun k o h hn=>?_⟩,hfr5 _ _ h0' (hA'.apart h0' (by show (28:Nat)≠_;decide)),rfl⟩
    ·rcases hpl5 k n e with ⟨m,q⟩|q
     ·exact hpl' k m q
     ·exact .inr (by omega)
    ·refine hfr5 k o (hfr' k o h hn) fun n e=>?_
     rcases hpl' k n e with ⟨m,q⟩|q
     ·exact hn m q
     ·have:=(List.getElem?_eq_some_iff.1 h).1;omega
   ·have hd0:decide ((i:Int)<(d.l.length:Int))=false:=by simp;omega
    have hii:i=d.l.length:=by omega
    subst hii
    rw [List.take_length] at hA'
    repeat (first|(apply fw;(with_reducible constructor)<;>rfl)|(apply WpA.cd;constructor)|((first|with_reducible refine WpA.go _ rfl fun Y y=>?_|apply RunTo.id);simp only [zb,seval,w19,hd0,kcc,hbx];refine fz y ?_;clear y Y))
    repeat (first|(apply fw;(with_reducible constructor)<;>rfl)|(apply WpA.cd;constructor)|((first|with_reducible refine WpA.go _ rfl fun Y y=>?_|apply RunTo.id);simp only [zb,seval,w19,hd0,kcc,hbx];refine fz y ?_;clear y Y))
    exact⟨.inl rfl,_,_,_,_,(by simp only [zb,seval];rfl),by simp,Le.refl _ _,cO,rfl,hA',hpl',hl',hfr'⟩
theorem DF (d:D) (hok:d.Ok) (hlen:d.syms.length≤1000000000):Pure Tryz.prog 19 [.agg d.cc,.one (.v (.slice none 0 0))] (.one (.sl 1 (cD d.syms))) :=
 Fn.frozen (by rfl) (DE d.ht d (Nat.le_refl _) hok [] _ [] (At.nil _ _ _) (by simpa using hlen)) fun r s ⟨c',hr,hA,_⟩=>by
  subst hr
  rw [List.nil_append] at hA
  show FzD s _ c' (.sl 1 (cD d.syms))
  rcases hA with ⟨h1,rfl⟩|⟨_,j,rfl,hj⟩
  ·rw [h1];exact FzD.nil 1
  ·exact FzD.ms rfl hj rfl rfl (fun e he=>by obtain⟨x,_,rfl⟩:=List.mem_map.1 he;rfl) rfl (fun c hc=>by obtain⟨e,he,hc⟩:=List.mem_flatten.1 hc;exact jA _ e he c hc) fun k a b h1 h2=>by rw [h1] at h2;cases h2;exact FzD.same _
def cCs (x:K):List C:=[.v (.int .i64 x.k),.v (.string x.name),.v (.string x.rest),.sl 1 (cD x.params),.v (.int .i64 x.d.k),.v (.int .i32 x.d.c),.v (.bool x.d.neg),.sl 1 (x.d.mag.map fun n=>[.v (.int .u32 n)]),.v (.string x.d.t),.sl 6 (x.d.l.map D.cc),.sl 11 (x.l.map K.cc)]
theorem PG (x:K):∀c∈cCs x,C.shut c=true:=by simp [cCs,C.shut]
def CpI (x:K) (free:List ByteArray) (n:Nat) (st:St):Prop:=∃(i:Nat) (S:List (Option Ob)) (cI:C),n=x.params.length-i∧i≤x.params.length∧Au 9 1 S cI (cD (free++x.params.take i)) ∧
 st=⟨[(8,.one (.v (.int .i64 i))),(7,.one cI),(3,.one (.pf (cCs x)))],S⟩
def CkI (x:K) (free:List ByteArray) (top:Bool) (n:Nat) (st:St):Prop:=∃i:Nat,n=x.l.length-i∧i≤x.l.length ∧
 st=⟨[(9,.one (.v (.int .i64 i))),(1,.one (.sl 1 (cD free))),(2,.one (.v (.bool top))),(3,.one (.pf (cCs x)))],[none]⟩
theorem PH {l:List ByteArray} (h:l.Nodup) {i:Nat} (hi:i<l.length):l[i]∉l.take i:=fun he=>by
 have:=h.sublist (List.take_sublist (i+1) l)
 rw [List.take_succ_eq_append_getElem hi,List.nodup_append] at this
 exact this.2.2 _ he _ (by simp) rfl
theorem K.lh_eq (x:K):x.lh=lhs x.l+if x.k=6 then 1 else 0:=by cases x;rw [K.lh];rfl
theorem FR:∀(m:Nat) (x:K),x.ht≤m→x.Ok→∀(free:List ByteArray) (top:Bool),x.Cl free top→free.length+41*x.lh≤1000000000→Pure Tryz.prog 18 [.agg x.cc,.one (.sl 1 (cD free)),.one (.v (.bool top))] (.one (.v (.bool true))):=by
 intro m
 induction m with
 | zero=>intro x h;exact absurd h (by have:=x.ht_pos;omega)
 | succ m ih =>
  intro x hh hok free top hcl hlen
  rw [K.Cl_eq] at hcl
  rw [K.lh_eq] at hlen
  have hsl:=bT x.params
  have hfl:=bT free
  have hxl:=hok.len
  have hshx:=PG x
  simp only [cCs] at hshx
  rw [K.cc_eq]
  by_cases k6:x.k=6
  ·rw [if_pos k6] at hcl hlen
   obtain⟨hnd,hnr,hp40,hl1,hks⟩:=hcl
   have e2:(x.k == 2)=false:=by simp [k6]
   have e3:(x.k == 3)=false:=by simp [k6]
   have e4:(x.k == 4)=false:=by simp [k6]
   have e6:(x.k == 6)=true:=by simp [k6]
   refine fi Tryz.func18 Tryz.ntmps18 Tryz.results18 ?_
   (refine WpA.seq ?_);(refine WpA.region ?_);(refine WpL.go _ rfl fun Y y=>?_);simp only [zb,seval,w18];(refine RunTo.fn y (by first|(simp;done)|omega|(simp;omega)) ?_);clear y Y;(refine WpL.nil ?_);(refine qU ?_)
   refine WpA.frzP 3 0 rfl rfl hshx ?_
   simp only [zz]
   repeat (first|(apply fw;(with_reducible constructor)<;>rfl)|(apply WpA.cd;constructor)|((first|with_reducible refine WpA.go _ rfl fun Y y=>?_|apply RunTo.id);simp only [zb,seval,w18,e2,e3,e4,e6,hfl];refine fz y ?_;clear y Y))
   refine WpA.loop (CpI x free) x.params.length (st0:=⟨[(8,.one (.v (.int .i64 (0:Nat)))),(7,.one (.ms 1 (cD free).length)),(3,.one (.pf (cCs x)))],[none,some ⟨9,1,cD free⟩]⟩) (Le.sub (by simp [Sub,find,cCs,hfl])) ⟨0,[none,some ⟨9,1,cD free⟩],.ms 1 (cD free).length,rfl,Nat.zero_le _,.inr ⟨1,by simp,by simp⟩,rfl⟩ ?_
   intro n' st hI
   obtain⟨i,S,cI,rfl,hi,hA,rfl⟩:=hI
   have hw2:IntKind.i64.wrap ((i:Int)+1)=((i+1:Nat):Int):=by rw [dU (by omega) (by omega)];omega
   simp only [cCs]
   by_cases hlt:i<x.params.length
   ·have hd1:decide ((i:Int)<(x.params.length:Int))=true:=by simp;omega
    have hget:=kW hlt
    have htk:List.take i (cD x.params)=cD (x.params.take i):=by simp [cD]
    have hh1:=uH (x.params.take i) x.params[i] (by simp;omega)
    rw [SQ (PH hnd hlt)] at hh1
    have hre:=aA fun e:x.params[i]=x.rest=>hnr (by rw [←e];exact List.getElem_mem hlt)
    repeat (first|(apply fw;(with_reducible constructor)<;>rfl)|(apply WpA.cd;constructor)|((first|with_reducible refine WpA.go _ rfl fun Y y=>?_|apply RunTo.id);simp only [zb,seval,w18,hd1,hsl];refine fz y ?_;clear y Y))
    (refine WpA.draw0 19 _ _ _ rfl rfl rfl (by kernel_rfl) (by kernel_rfl) (by kernel_rfl) fun K8 hK8=>?_);simp only [zz] at hK8 ⊢;(refine Draw0.go fun K7 k=>?_);simp only [zb,seval,w18,hget,Int.toNat_natCast,Int.toNat_zero,List.drop_zero,htk,hsl,bZ,hre];(refine qz (k _ _ ?_));clear k K7;(try ((refine Draw0.nil (hK8 _ ?_));clear hK8 K8;(refine WpL.go _ rfl fun Y y=>?_);repeat (first|(apply fw;(with_reducible constructor)<;>rfl)|(apply WpA.cd;constructor)|((first|with_reducible refine WpA.go _ rfl fun Y y=>?_|apply RunTo.id);simp only [zb,seval,w18,hget,Int.toNat_natCast,Int.toNat_zero,List.drop_zero,htk,hsl,bZ,hre];refine fz y ?_;clear y Y))))
    refine Draw0.step (oz (hh1)) ?_
    (refine Draw0.go fun K7 k=>?_);simp only [zb,seval,w18,hget,Int.toNat_natCast,Int.toNat_zero,List.drop_zero,htk,hsl,bZ,hre];(refine qz (k _ _ ?_));clear k K7;(try ((refine Draw0.nil (hK8 _ ?_));clear hK8 K8;(refine WpL.go _ rfl fun Y y=>?_);repeat (first|(apply fw;(with_reducible constructor)<;>rfl)|(apply WpA.cd;constructor)|((first|with_reducible refine WpA.go _ rfl fun Y y=>?_|apply RunTo.id);simp only [zb,seval,w18,hget,Int.toNat_natCast,Int.toNat_zero,List.drop_zero,htk,hsl,bZ,hre];refine fz y ?_;clear y Y))))
    refine WpA.region ?_
    (try simp only [St.put]);(refine WpL.op rfl (aB (P:=Tryz.prog) rfl) (aE (by simp only [zb,seval,w18,hget];rfl) (by first|(simp;done)|omega|(simp;omega))) ?_);simp only [St.put];(refine WpL.op rfl (aB (P:=Tryz.prog) rfl) (aE (by simp only [zb,seval,w18,hget];rfl) (by first|(simp;done)|omega|(simp;omega))) ?_);simp only [St.put];(refine WpL.op rfl (aB (P:=Tryz.prog) rfl) (aE (by simp only [zb,seval,w18,hget];rfl) (by first|(simp;done)|omega|(simp;omega))) ?_);simp only [St.put];(refine WpL.op rfl (aB (P:=Tryz.prog) rfl) (aE (by simp only [zb,seval,w18,hget];rfl) (by first|(simp;done)|omega|(simp;omega))) ?_);simp only [St.put];(refine WpL.op rfl (aB (P:=Tryz.prog) rfl) (aE (by simp only [zb,seval,w18,hget];rfl) (by first|(simp;done)|omega|(simp;omega))) ?_);simp only [St.put];(refine WpL.op rfl (aB (P:=Tryz.prog) rfl) (aE (by simp only [zb,seval,w18,hget];rfl) (by first|(simp;done)|omega|(simp;omega))) ?_);simp only [St.put];(refine WpL.op rfl (aB (P:=Tryz.prog) rfl) (aE (by simp only [zb,seval,w18,hget];rfl) (by first|(simp;done)|omega|(simp;omega))) ?_);simp only [St.put]
    obtain⟨S8,j,hA8,hj8,hl8,hfr8,hpl8,hop8⟩:=yM (P:=Tryz.prog) (T:=22) (by_:=16) bW cA cC (by omega) (S:=S++[some ⟨9,1,[[.v (.string x.params[i])]]⟩]) (hA.stay fun j h=>cJ h) (q:=S.length) (new:=[[.v (.string x.params[i])]]) (iP _ _ _) (by simp) (fun n e=>by have:=hA.lt e;omega) (by rw [bT];simp;omega) (by rw [bT];simp;omega)
    simp only [List.length_cons,List.length_nil,Nat.zero_add] at hop8 hA8
    refine WpL.aop rfl (hop8 _ _ _ rfl rfl) ?_
    simp only [St.put]
    rw [←jF,List.append_assoc,←List.take_succ_eq_append_getElem hlt] at hA8
    (refine WpL.go _ rfl fun Y y=>?_);repeat (first|(apply fw;(with_reducible constructor)<;>rfl)|(apply WpA.cd;constructor)|((first|with_reducible refine WpA.go _ rfl fun Y y=>?_|apply RunTo.id);simp only [zb,seval,w18,hw2];refine fz y ?_;clear y Y))
    exact⟨x.params.length-(i+1),_,by omega,Le.sub (by simp [Sub,find,cCs]),i+1,S8,_,rfl,hlt,hA8.au,rfl⟩
   ·have hd0:decide ((i:Int)<(x.params.length:Int))=false:=by simp;omega
    have hii:i=x.params.length:=by omega
    subst hii
    rw [List.take_length] at hA
    obtain⟨x0,hx0⟩:=List.length_eq_one_iff.1 hl1
    rw [hx0] at hks hlen
    simp only [lhs] at hlen
    have hm0:x0∈x.l:=by rw [hx0];simp
    have hc:=ih x0 (by have h1:=K.ht_mem hm0;have:x.ht=K.hts x.l+1:=(by cases x;rw [K.ht];rfl);omega) (by have:=hok.kids;rw [hx0] at this;exact this.1) _ false hks.1 (by simp;omega)
    rw [hx0]
    simp only [List.map_cons,List.map_nil]
    repeat (first|(apply fw;(with_reducible constructor)<;>rfl)|(apply WpA.cd;constructor)|((first|with_reducible refine WpA.go _ rfl fun Y y=>?_|apply RunTo.id);simp only [zb,seval,w18,hd0,hsl];refine fz y ?_;clear y Y))
    obtain⟨T6,hl6,hk6,hop6⟩:=OpS.appFrz (P:=Tryz.prog) (T:=22) (by_:=16) bW cA cC (by omega) hA (new:=[[.v (.string x.rest)]]) (by simp) (by simp) (jA _) (by simp [C.shut]) (by rw [bT];simp;omega) (by rw [bT];simp;omega)
    rw [←jF,List.append_assoc] at hop6
    rw [List.append_assoc] at hc
    have hle:∀s∈[S,T6],LeS [] s:=fun s _=>LeS.of (SLe.nil s)
    skip
    refine WpA.draw1 16 [13] [] [S,T6] _ _ _ _ rfl rfl rfl (by kernel_rfl) (by kernel_rfl) (by kernel_rfl) (by kernel_rfl) rfl rfl rfl rfl (by decide) fun K8 hK8=>?_
    simp only [zz] at hK8 ⊢
    (refine Draw1.go fun K7 hK7=>?_);simp only [zb,seval,w18,kcc];(refine RunQ.mk (by first|(simp;done)|omega|(simp;omega)) (hK7 _ _ (by rfl) ?_));clear hK7 K7;(simp only [zz,Nat.reduceAdd,Nat.reduceSub]);(try ((refine Draw1.nil hle (hK8 _ ?_));clear hK8 K8;(refine WpL.go _ rfl fun Y y=>?_);repeat (first|(apply fw;(with_reducible constructor)<;>rfl)|(apply WpA.cd;constructor)|((first|with_reducible refine WpA.go _ rfl fun Y y=>?_|apply RunTo.id);simp only [zb,seval,w18,kcc];refine fz y ?_;clear y Y))))
    refine Draw1.step (by rfl) (fun s9 _=>OpS.frozen (n:=1) (wd:=1) (ty:=9) (rows:=[[.v (.string x.rest)]]) (OpS.eff [(82,_)] rfl (by rfl) ⟨rfl,trivial⟩ (by simp only [zb,seval,w18,kcc];rfl) (by simp)) rfl (by simp [ksh])) ?_;simp only [bS]
    refine Draw1.eff (x:=.one (.sl 1 (cD (free++(x.params++[x.rest]))))) 0 rfl rfl rfl ?_ ?_
    ·have:=fun {nt ds d ty pos aft g e t1 t2}=>hop6 [] (nt:=nt) (ds:=ds) (d:=d) (ty:=ty) (pos:=pos) (aft:=aft) (g:=g) (e:=e) (t1:=t1) (t2:=t2)
     simp only [List.append_nil] at this
     exact this rfl (by rfl) rfl rfl (by decide)
    simp only [bS]
    (refine Draw1.go fun K7 hK7=>?_);simp only [zb,seval,w18,kcc];(refine RunQ.mk (by first|(simp;done)|omega|(simp;omega)) (hK7 _ _ (by rfl) ?_));clear hK7 K7;(simp only [zz,Nat.reduceAdd,Nat.reduceSub]);(try ((refine Draw1.nil hle (hK8 _ ?_));clear hK8 K8;(refine WpL.go _ rfl fun Y y=>?_);repeat (first|(apply fw;(with_reducible constructor)<;>rfl)|(apply WpA.cd;constructor)|((first|with_reducible refine WpA.go _ rfl fun Y y=>?_|apply RunTo.id);simp only [zb,seval,w18,kcc];refine fz y ?_;clear y Y))))
    refine Draw1.step (by rfl) (fun s9 _=>oz (hc)) ?_
    (refine Draw1.go fun K7 hK7=>?_);simp only [zb,seval,w18,kcc];(refine RunQ.mk (by first|(simp;done)|omega|(simp;omega)) (hK7 _ _ (by rfl) ?_));clear hK7 K7;(simp only [zz,Nat.reduceAdd,Nat.reduceSub]);(try ((refine Draw1.nil hle (hK8 _ ?_));clear hK8 K8;(refine WpL.go _ rfl fun Y y=>?_);repeat (first|(apply fw;(with_reducible constructor)<;>rfl)|(apply WpA.cd;constructor)|((first|with_reducible refine WpA.go _ rfl fun Y y=>?_|apply RunTo.id);simp only [zb,seval,w18,kcc];refine fz y ?_;clear y Y))))
    skip
    refine ye (by simp only [zb,seval,w18,kcc];rfl) (by simp only [zv,kcc];rfl) ?_
    rfl
  ·rw [if_neg k6] at hcl hlen
   obtain⟨hc23,hc4,hks⟩:=hcl
   have e6:(x.k == 6)=false:=by simp [k6]
   have ini:∀st,Le ⟨108,0⟩ st ⟨[(9,.one (.v (.int .i64 (0:Nat)))),(1,.one (.sl 1 (cD free))),(2,.one (.v (.bool top))),(3,.one (.pf (cCs x)))],[none]⟩→∃st',Le ⟨108,0⟩ st st'∧CkI x free top x.l.length st':=fun st h=>⟨_,h,0,rfl,Nat.zero_le _,rfl⟩
   have kinds:x.k=2∨x.k=3∨x.k=4∨(x.k≠2∧x.k≠3∧x.k≠4):=by omega
   rcases kinds with k2|k3|k4|⟨k2,k3,k4⟩
   case' inl =>
    have e2:(x.k == 2)=true:=by simp [k2]
    have hh1:=uH free x.name (by omega)
    rw [DD (hc23 (.inl k2))] at hh1
    refine fi Tryz.func18 Tryz.ntmps18 Tryz.results18 ?_
    (refine WpA.seq ?_);(refine WpA.region ?_);(refine WpL.go _ rfl fun Y y=>?_);simp only [zb,seval,w18];(refine RunTo.fn y (by first|(simp;done)|omega|(simp;omega)) ?_);clear y Y;(refine WpL.nil ?_);(refine qU ?_)
    refine WpA.frzP 3 0 rfl rfl hshx ?_
    simp only [zz]
    repeat (first|(apply fw;(with_reducible constructor)<;>rfl)|(apply WpA.cd;constructor)|((first|with_reducible refine WpA.go _ rfl fun Y y=>?_|(refine ca ?_;apply Exists.intro;constructor;assumption;refine⟨by first|rfl|simp [eN,ksh],fun Y y=>?_⟩)|apply RunTo.id);simp only [zb,seval,w18,e2];refine fz y ?_;clear y Y))
    refine WpA.loop (CkI x free top) x.l.length (Le.sub (by simp [Sub,find,cCs])) ⟨0,rfl,Nat.zero_le _,rfl⟩ ?_
    clear hh1 e2
   case' inr.inl =>
    have e2:(x.k == 2)=false:=by simp [k3]
    have e3:(x.k == 3)=true:=by simp [k3]
    have hh1:=uH free x.name (by omega)
    rw [DD (hc23 (.inr k3))] at hh1
    refine fi Tryz.func18 Tryz.ntmps18 Tryz.results18 ?_
    (refine WpA.seq ?_);(refine WpA.region ?_);(refine WpL.go _ rfl fun Y y=>?_);simp only [zb,seval,w18];(refine RunTo.fn y (by first|(simp;done)|omega|(simp;omega)) ?_);clear y Y;(refine WpL.nil ?_);(refine qU ?_)
    refine WpA.frzP 3 0 rfl rfl hshx ?_
    simp only [zz]
    repeat (first|(apply fw;(with_reducible constructor)<;>rfl)|(apply WpA.cd;constructor)|((first|with_reducible refine WpA.go _ rfl fun Y y=>?_|(refine ca ?_;apply Exists.intro;constructor;assumption;refine⟨by first|rfl|simp [eN,ksh],fun Y y=>?_⟩)|apply RunTo.id);simp only [zb,seval,w18,e2,e3];refine fz y ?_;clear y Y))
    refine WpA.loop (CkI x free top) x.l.length (Le.sub (by simp [Sub,find,cCs])) ⟨0,rfl,Nat.zero_le _,rfl⟩ ?_
    clear hh1 e2 e3
   case' inr.inr.inl =>
    have e2:(x.k == 2)=false:=by simp [k4]
    have e3:(x.k == 3)=false:=by simp [k4]
    have e4:(x.k == 4)=true:=by simp [k4]
    have hh1:=uH free x.name (by omega)
    rw [DD (hc4 k4).2] at hh1
    have ht:=(hc4 k4).1
    refine fi Tryz.func18 Tryz.ntmps18 Tryz.results18 ?_
    (refine WpA.seq ?_);(refine WpA.region ?_);(refine WpL.go _ rfl fun Y y=>?_);simp only [zb,seval,w18];(refine RunTo.fn y (by first|(simp;done)|omega|(simp;omega)) ?_);clear y Y;(refine WpL.nil ?_);(refine qU ?_)
    refine WpA.frzP 3 0 rfl rfl hshx ?_
    simp only [zz]
    repeat (first|(apply fw;(with_reducible constructor)<;>rfl)|(apply WpA.cd;constructor)|((first|with_reducible refine WpA.go _ rfl fun Y y=>?_|(refine ca ?_;apply Exists.intro;constructor;assumption;refine⟨by first|rfl|simp [eN,ksh],fun Y y=>?_⟩)|apply RunTo.id);simp only [zb,seval,w18,e2,e3,e4,ht];refine fz y ?_;clear y Y))
    refine WpA.loop (CkI x free top) x.l.length (Le.sub (by simp [Sub,find,cCs,ht])) ⟨0,rfl,Nat.zero_le _,rfl⟩ ?_
    clear hh1 e2 e3 e4 ht
   case' inr.inr.inr =>
    have e2:(x.k == 2)=false:=by simp [k2]
    have e3:(x.k == 3)=false:=by simp [k3]
    have e4:(x.k == 4)=false:=by simp [k4]
    refine fi Tryz.func18 Tryz.ntmps18 Tryz.results18 ?_
    (refine WpA.seq ?_);(refine WpA.region ?_);(refine WpL.go _ rfl fun Y y=>?_);simp only [zb,seval,w18];(refine RunTo.fn y (by first|(simp;done)|omega|(simp;omega)) ?_);clear y Y;(refine WpL.nil ?_);(refine qU ?_)
    refine WpA.frzP 3 0 rfl rfl hshx ?_
    simp only [zz]
    repeat (first|(apply fw;(with_reducible constructor)<;>rfl)|(apply WpA.cd;constructor)|((first|with_reducible refine WpA.go _ rfl fun Y y=>?_|apply RunTo.id);simp only [zb,seval,w18,e2,e3,e4,e6];refine fz y ?_;clear y Y))
    refine WpA.loop (CkI x free top) x.l.length (Le.sub (by simp [Sub,find,cCs])) ⟨0,rfl,Nat.zero_le _,rfl⟩ ?_
    clear e2 e3 e4
   all_goals
    clear hc23 hc4 ini
    intro n' st hI
    obtain⟨i,rfl,hi,rfl⟩:=hI
    have hw2:IntKind.i64.wrap ((i:Int)+1)=((i+1:Nat):Int):=by rw [dU (by omega) (by omega)];omega
    by_cases hlt:i<x.l.length
    ·have hd1:decide ((i:Int)<(x.l.length:Int))=true:=by simp;omega
     have hget:=PV hlt
     have hlm:=JO (List.getElem_mem hlt)
     have hc:=ih x.l[i] (by have:=K.ht_lt hlt;omega) (hok.get i hlt) free _ (hks.get i hlt) (by omega)
     have e7:(x.k == 7)=decide (x.k=7):=rfl
     simp only [cCs]
     cases top
     case' true=>simp only [Bool.true_and] at hc
     case' false=>simp only [Bool.false_and] at hc
     all_goals
      repeat (first|(apply fw;(with_reducible constructor)<;>rfl)|(apply WpA.cd;constructor)|((first|with_reducible refine WpA.go _ rfl fun Y y=>?_|apply RunTo.id);simp only [zb,seval,w18,hd1];refine fz y ?_;clear y Y))
      (refine WpA.draw0 13 _ _ _ rfl rfl rfl (by kernel_rfl) (by kernel_rfl) (by kernel_rfl) fun K8 hK8=>?_);simp only [zz] at hK8 ⊢;(refine Draw0.go fun K7 k=>?_);simp only [zb,seval,w18,hget,kcc,e7];(refine qz (k _ _ ?_));clear k K7;(try ((refine Draw0.nil (hK8 _ ?_));clear hK8 K8;(refine WpL.go _ rfl fun Y y=>?_);repeat (first|(apply fw;(with_reducible constructor)<;>rfl)|(apply WpA.cd;constructor)|((first|with_reducible refine WpA.go _ rfl fun Y y=>?_|apply RunTo.id);simp only [zb,seval,w18,hget,kcc,e7];refine fz y ?_;clear y Y))))
      refine Draw0.step (oz (hc)) ?_
      (refine Draw0.go fun K7 k=>?_);simp only [zb,seval,w18,hget,kcc,hw2];(refine qz (k _ _ ?_));clear k K7;(try ((refine Draw0.nil (hK8 _ ?_));clear hK8 K8;(refine WpL.go _ rfl fun Y y=>?_);repeat (first|(apply fw;(with_reducible constructor)<;>rfl)|(apply WpA.cd;constructor)|((first|with_reducible refine WpA.go _ rfl fun Y y=>?_|apply RunTo.id);simp only [zb,seval,w18,hget,kcc,hw2];refine fz y ?_;clear y Y))))
      exact⟨x.l.length-(i+1),_,by omega,Le.sub (by simp [Sub,find,cCs]),i+1,rfl,hlt,rfl⟩
    ·have hd0:decide ((i:Int)<(x.l.length:Int))=false:=by simp;omega
     simp only [cCs]
     repeat (first|(apply fw;(with_reducible constructor)<;>rfl)|(apply WpA.cd;constructor)|((first|with_reducible refine WpA.go _ rfl fun Y y=>?_|apply RunTo.id);simp only [zb,seval,w18,hd0];refine fz y ?_;clear y Y))
     repeat (first|(apply fw;(with_reducible constructor)<;>rfl)|(apply WpA.cd;constructor)|((first|with_reducible refine WpA.go _ rfl fun Y y=>?_|apply RunTo.id);simp only [zb,seval,w18,hd0];refine fz y ?_;clear y Y))
     refine ye (by simp only [zb,seval,w18];rfl) (by simp only [zv];rfl) ?_
     rfl
theorem IX {d:D} (hok:d.Ok) (hm:d.msr+1≤2400) (h0:(qK d).2=0):(qK d).1.Ok∧(qK d).1.Cl d.syms true∧d.syms.length+41*(qK d).1.lh≤1000000000:=by
 unfold qK at h0 ⊢
 split at h0
 ·rename_i hb
  have hp:d.Plain:=dN.1 (Bool.and_eq_true_iff.1 hb).1
  have h2:(lI d).2=0:=by
   generalize (lI d).2=n at h0
   match n,h0 with
   | 0,_=>rfl
   | 1,h0=>cases h0
   | n+2,h0=>cases h0
  rw [if_pos hb,if_pos h2]
  obtain⟨h3,h4⟩:=FQ (by omega) hp hok h2
  have h5:=QT hp.two hok
  have h6:=zB d
  have h7:(d.msr+1)*(d.msr+5)≤2400*2405:=Nat.mul_le_mul (by omega) (by omega)
  exact⟨h4,h3,by dsimp only;omega⟩
 ·cases h0
theorem zE (d:D) (hok:d.Ok):Pure Tryz.prog 4 [.agg d.cc] (.one (.v (.bool true))):=by
 have h1:=CW d hok
 by_cases q1:d.weigh p18 800<0
 ·rw [decide_eq_true q1] at h1
  refine fi Tryz.func4 Tryz.ntmps4 Tryz.results4 ?_
  have zq0:=sK
  repeat (first|(apply fw;(with_reducible constructor)<;>rfl)|(apply WpA.cd;constructor)|((first|with_reducible refine WpA.go _ rfl fun Y y=>?_|(refine ca ?_;apply Exists.intro;constructor;assumption;refine⟨by first|rfl|simp [eN,ksh],fun Y y=>?_⟩)|apply RunTo.id);simp only [zb,seval,w4,kcc];refine fz y ?_;clear y Y))
  refine ye (by simp only [zb,seval,w4];rfl) (by simp only [zv];rfl) ?_
  rfl
 rw [decide_eq_false q1] at h1
 obtain⟨hc,hm⟩:=QR q1
 have h2:=CU d hok (by omega) (by omega)
 simp only [onA] at h2
 have hsl:=zB d
 have h3:=DF d hok (by omega)
 have hcl:=IX hok hm
 generalize qK d=r at *
 obtain⟨c,e⟩:=r
 dsimp only at *
 refine fi Tryz.func4 Tryz.ntmps4 Tryz.results4 ?_
 repeat (first|(apply fw;(with_reducible constructor)<;>rfl)|(apply WpA.cd;constructor)|((first|with_reducible refine WpA.go _ rfl fun Y y=>?_|(refine ca ?_;apply Exists.intro;constructor;assumption;refine⟨by first|rfl|simp [eN,ksh],fun Y y=>?_⟩)|apply RunTo.id);simp only [zb,seval,w4,kcc];refine fz y ?_;clear y Y))
 refine WpA.frzP 3 1 rfl rfl (K.cc_shut _) ?_
 simp only [zz]
 refine WpA.frzP 1 0 rfl rfl (D.cc_shut _) ?_
 simp only [zz]
 by_cases he:e=0
 ·subst he
  obtain⟨g1,g2,g3⟩:=hcl rfl
  have h4:=FR c.ht c (Nat.le_refl _) g1 d.syms true g2 g3
  (refine WpA.draw0 11 _ _ _ rfl rfl rfl (by kernel_rfl) (by kernel_rfl) (by kernel_rfl) fun K8 hK8=>?_);simp only [zz] at hK8 ⊢;(refine Draw0.go fun K7 k=>?_);simp only [zb,seval,w4,kcc];(refine qz (k _ _ ?_));clear k K7;(try ((refine Draw0.nil (hK8 _ ?_));clear hK8 K8;(refine WpL.go _ rfl fun Y y=>?_);repeat (first|(apply fw;(with_reducible constructor)<;>rfl)|(apply WpA.cd;constructor)|((first|with_reducible refine WpA.go _ rfl fun Y y=>?_|apply RunTo.id);simp only [zb,seval,w4,kcc];refine fz y ?_;clear y Y))))
  refine Draw0.step (oz (h3)) ?_
  (refine Draw0.go fun K7 k=>?_);simp only [zb,seval,w4,kcc];(refine qz (k _ _ ?_));clear k K7;(try ((refine Draw0.nil (hK8 _ ?_));clear hK8 K8;(refine WpL.go _ rfl fun Y y=>?_);repeat (first|(apply fw;(with_reducible constructor)<;>rfl)|(apply WpA.cd;constructor)|((first|with_reducible refine WpA.go _ rfl fun Y y=>?_|apply RunTo.id);simp only [zb,seval,w4,kcc];refine fz y ?_;clear y Y))))
  refine Draw0.step (oz (h4)) ?_
  (refine Draw0.go fun K7 k=>?_);simp only [zb,seval,w4,kcc];(refine qz (k _ _ ?_));clear k K7;(try ((refine Draw0.nil (hK8 _ ?_));clear hK8 K8;(refine WpL.go _ rfl fun Y y=>?_);repeat (first|(apply fw;(with_reducible constructor)<;>rfl)|(apply WpA.cd;constructor)|((first|with_reducible refine WpA.go _ rfl fun Y y=>?_|apply RunTo.id);simp only [zb,seval,w4,kcc];refine fz y ?_;clear y Y))))
  refine Draw0.step (oz (sK)) ?_
  (refine Draw0.go fun K7 k=>?_);simp only [zb,seval,w4,kcc];(refine qz (k _ _ ?_));clear k K7;(try ((refine Draw0.nil (hK8 _ ?_));clear hK8 K8;(refine WpL.go _ rfl fun Y y=>?_);repeat (first|(apply fw;(with_reducible constructor)<;>rfl)|(apply WpA.cd;constructor)|((first|with_reducible refine WpA.go _ rfl fun Y y=>?_|apply RunTo.id);simp only [zb,seval,w4,kcc];refine fz y ?_;clear y Y))))
  refine ye (by simp only [zb,seval,w4];rfl) (by simp only [zv];rfl) ?_
  rfl
 ·have hne:(e != 0)=true:=by simp [he]
  (refine WpA.draw0 11 _ _ _ rfl rfl rfl (by kernel_rfl) (by kernel_rfl) (by kernel_rfl) fun K8 hK8=>?_);simp only [zz] at hK8 ⊢;(refine Draw0.go fun K7 k=>?_);simp only [zb,seval,w4,kcc,hne];(refine qz (k _ _ ?_));clear k K7;(try ((refine Draw0.nil (hK8 _ ?_));clear hK8 K8;(refine WpL.go _ rfl fun Y y=>?_);repeat (first|(apply fw;(with_reducible constructor)<;>rfl)|(apply WpA.cd;constructor)|((first|with_reducible refine WpA.go _ rfl fun Y y=>?_|apply RunTo.id);simp only [zb,seval,w4,kcc,hne];refine fz y ?_;clear y Y))))
  refine Draw0.step (oz (sK)) ?_
  (refine Draw0.go fun K7 k=>?_);simp only [zb,seval,w4,kcc];(refine qz (k _ _ ?_));clear k K7;(try ((refine Draw0.nil (hK8 _ ?_));clear hK8 K8;(refine WpL.go _ rfl fun Y y=>?_);repeat (first|(apply fw;(with_reducible constructor)<;>rfl)|(apply WpA.cd;constructor)|((first|with_reducible refine WpA.go _ rfl fun Y y=>?_|apply RunTo.id);simp only [zb,seval,w4,kcc];refine fz y ?_;clear y Y))))
  refine ye (by simp only [zb,seval,w4];rfl) (by simp only [zv];rfl) ?_
  rfl
end Go.Proofs.YtaeioidifpebdaaGreatDoor
end
