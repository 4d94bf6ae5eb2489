/-
 Laid together: Meas18, Stb18, Good18, Gooe18, Goof18, Goog18, Gooh18, Lam18, Gooi18, Gooj18, Sym18, Fix18, Par18.
-/
import Derived.Test.YtaeioidifpebdaaGreatDoorG6
import Derived.Test.YtaeioidifpebdaaGreatDoorG5
import Derived.Test.YtaeioidifpebdaaGreatDoorG9
import Derived.Test.YtaeioidifpebdaaGreatDoorGA
section
namespace Go.Proofs.YtaeioidifpebdaaGreatDoor
open Go Go.RowKit Go.Lib
set_option linter.unusedSimpArgs false
set_option linter.unusedVariables false
set_option maxHeartbeats 4000000
set_option maxRecDepth 100000
def p18:Nat × Nat × Nat × Nat:=(300,100,1000,1000)
theorem OQ (d:D) (left:Int):d.weigh p18 left=if 300<d.t.size∨100<d.mag.length then -1 else dN p18 d.l (left-1):=by
 rw [D.weigh_eq]
 show (if 300<d.t.size∨100<d.mag.length then (-1:Int) else dN p18 d.l (left-1-(d.t.size / 1000:Nat)-(d.mag.length / 1000:Nat)))=_
 by_cases h:300<d.t.size∨100<d.mag.length
 ·rw [if_pos h,if_pos h]
 ·rw [if_neg h,if_neg h,Nat.div_eq_of_lt (by omega),Nat.div_eq_of_lt (by omega)]
  simp
mutual
theorem SF:∀(d:D) (left:Int),-1≤left→-2≤d.weigh p18 left∧d.weigh p18 left≤max left (-1)
 | .mk k c neg mag t l,left,h=>by
  rw [OQ]
  by_cases hc:300<(D.mk k c neg mag t l).t.size∨100<(D.mk k c neg mag t l).mag.length
  ·rw [if_pos hc];omega
  ·rw [if_neg hc]
   have:=CX l (left-1) (by omega)
   show -2≤dN p18 l (left-1)∧dN p18 l (left-1)≤max left (-1)
   omega
theorem CX:∀(l:List D) (left:Int),-2≤left→-2≤dN p18 l left∧dN p18 l left≤max left (-1)
 | [],left,h=>by simp only [dN];omega
 | d::l,left,h=>by
  rw [dN]
  by_cases hc:left<0
  ·rw [if_pos hc];omega
  ·rw [if_neg hc]
   have h1:=SF d left (by omega)
   have h2:=CX l (d.weigh p18 left) (by omega)
   omega
end
def TM (d:D) (left:Int) (n:Nat) (st:St):Prop:=∃i:Nat,n=d.l.length-i∧i≤d.l.length ∧
 st=⟨[(5,.one (.v (.int .i64 i))),(1,.one (.v (.int .i64 (dN p18 (d.l.take i) (left-1))))),(2,.one (.ptr 0 1 0 0))],[some ⟨28,6,[[.v (.int .i64 d.k),.v (.int .i32 d.c),.v (.bool d.neg),.sl 1 (d.mag.map fun n=>[.v (.int .u32 n)]),.v (.string d.t),.sl 6 (d.l.map D.cc)]]⟩]⟩
theorem OS:∀n (d:D),d.ht≤n→d.Ok→∀left:Int,-1≤left→left≤1000000000→Pure Tryz.prog 38 [.agg d.cc,.one (.v (.int .i64 left))] (.one (.v (.int .i64 (d.weigh p18 left)))):=by
 intro n
 induction n with
 | zero=>intro d h;exact absurd h (by cases d;rw [D.ht];omega)
 | succ n ih =>
  intro d hh hok left h0 h1
  have hws:IntKind.i64.wrap (left-1)=left-1:=eH (by omega) (by omega)
  have hlen:d.l.length≤100000000000000:=by cases d;have:=hok.2.2.2.2.1.2;simp only [D.l];omega
  rw [OQ]
  have hts:decide ((300:Int)<(d.t.size:Int))=decide (300<d.t.size):=by apply decide_eq_decide.2;omega
  have hms:decide ((100:Int)<(d.mag.length:Int))=decide (100<d.mag.length):=by apply decide_eq_decide.2;omega
  rw [D.cc_eq]
  by_cases ht:300<d.t.size
  ·rw [if_pos (.inl ht)]
   refine fi Tryz.func38 Tryz.ntmps38 Tryz.results38 ?_
   repeat (first|(apply fw;(with_reducible constructor)<;>rfl)|(apply WpA.cd;constructor)|((first|with_reducible refine WpA.go _ rfl fun Y y=>?_|apply RunTo.id);simp only [zb,seval,w38,hws,hts,ht];refine fz y ?_;clear y Y))
   refine ye (by simp only [zb,seval,w38];rfl) (by simp only [zv];rfl) ?_
   rfl
  by_cases hm:100<d.mag.length
  ·rw [if_pos (.inr hm)]
   refine fi Tryz.func38 Tryz.ntmps38 Tryz.results38 ?_
   repeat (first|(apply fw;(with_reducible constructor)<;>rfl)|(apply WpA.cd;constructor)|((first|with_reducible refine WpA.go _ rfl fun Y y=>?_|apply RunTo.id);simp only [zb,seval,w38,hws,hts,ht,hms,hm];refine fz y ?_;clear y Y))
   refine ye (by simp only [zb,seval,w38];rfl) (by simp only [zv];rfl) ?_
   rfl
  rw [if_neg (by omega)]
  refine fi Tryz.func38 Tryz.ntmps38 Tryz.results38 ?_
  repeat (first|(apply fw;(with_reducible constructor)<;>rfl)|(apply WpA.cd;constructor)|((first|with_reducible refine WpA.go _ rfl fun Y y=>?_|apply RunTo.id);simp only [zb,seval,w38,hws,hts,ht,hms,hm];refine fz y ?_;clear y Y))
  refine WpA.loop (TM d left) d.l.length ?_ ⟨0,rfl,Nat.zero_le _,rfl⟩ ?_
  ·exact Le.drop 1 (Nat.zero_le _) rfl (by simp [Sub,find,dN]) rfl (by simp [ObBd,C.bd])
  intro n' st hst
  obtain⟨i,rfl,hi,rfl⟩:=hst
  have hw2:IntKind.i64.wrap ((i:Int)+1)=((i+1:Nat):Int):=by rw [eH (by omega) (by omega)];omega
  have hbd:=CX (d.l.take i) (left-1) (by omega)
  generalize hv:dN p18 (d.l.take i) (left-1)=v at *
  by_cases hlt:i<d.l.length
  ·have hd1:decide ((i:Int)<(d.l.length:Int))=true:=by simp;omega
   by_cases hn:v<0
   ·have hge:decide ((0:Int)≤v)=false:=by simp;omega
    have hst:=DK p18 d.l (left-1) i (by rw [hv];exact hn)
    repeat (first|(apply fw;(with_reducible constructor)<;>rfl)|(apply WpA.cd;constructor)|((first|with_reducible refine WpA.go _ rfl fun Y y=>?_|apply RunTo.id);simp only [zb,seval,w38,hd1,hge];refine fz y ?_;clear y Y))
    repeat (first|(apply fw;(with_reducible constructor)<;>rfl)|(apply WpA.cd;constructor)|((first|with_reducible refine WpA.go _ rfl fun Y y=>?_|apply RunTo.id);simp only [zb,seval,w38,hd1,hge];refine fz y ?_;clear y Y))
    refine ye (by simp only [zb,seval,w38];rfl) (by simp only [zv];rfl) ?_
    rw [hst,hv]
   ·have hge:decide ((0:Int)≤v)=true:=by simp;omega
    have hget:=zZ hlt
    have hc:=ih d.l[i] (by have:=D.ht_lt hlt;omega) (by cases d;exact hok.2.2.2.2.2.get i hlt) v (by omega) (by omega)
    have hsu:=DJ p18 d.l (left-1) i hlt (by rw [hv];exact hn)
    rw [D.cc_eq] at hget hc
    repeat (first|(apply fw;(with_reducible constructor)<;>rfl)|(apply WpA.cd;constructor)|((first|with_reducible refine WpA.go _ rfl fun Y y=>?_|apply RunTo.id);simp only [zb,seval,w38,hd1,hge,hget];refine fz y ?_;clear y Y))
    refine cz (hc) ?_
    (refine WpL.go _ rfl fun Y y=>?_);repeat (first|(apply fw;(with_reducible constructor)<;>rfl)|(apply WpA.cd;constructor)|((first|with_reducible refine WpA.go _ rfl fun Y y=>?_|apply RunTo.id);simp only [zb,seval,w38,hw2];refine fz y ?_;clear y Y))
    refine⟨d.l.length-(i+1),_,by omega,?_,i+1,rfl,hlt,rfl⟩
    rw [hsu,hv]
    exact Le.drop 1 (Nat.zero_le _) rfl (by simp [Sub,find]) rfl (by simp [ObBd,C.bd])
  ·have hd0:decide ((i:Int)<(d.l.length:Int))=false:=by simp;omega
   have hii:i=d.l.length:=by omega
   subst hii
   repeat (first|(apply fw;(with_reducible constructor)<;>rfl)|(apply WpA.cd;constructor)|((first|with_reducible refine WpA.go _ rfl fun Y y=>?_|apply RunTo.id);simp only [zb,seval,w38,hd0];refine fz y ?_;clear y Y))
   repeat (first|(apply fw;(with_reducible constructor)<;>rfl)|(apply WpA.cd;constructor)|((first|with_reducible refine WpA.go _ rfl fun Y y=>?_|apply RunTo.id);simp only [zb,seval,w38,hd0];refine fz y ?_;clear y Y))
   refine ye (by simp only [zb,seval,w38];rfl) (by simp only [zv];rfl) ?_
   rw [List.take_length] at hv
   rw [hv]
theorem OT (d:D) (hok:d.Ok) (left:Int) (h0 : -1≤left) (h1:left≤1000000000):Pure Tryz.prog 38 [.agg d.cc,.one (.v (.int .i64 left))] (.one (.v (.int .i64 (d.weigh p18 left)))):=OS d.ht d (Nat.le_refl _) hok left h0 h1
theorem pR (d:D) (hok:d.Ok):Pure Tryz.prog 16 [.agg d.cc] (.one (.v (.bool (decide (d.weigh p18 800<0))))):=by
 have h:=OT d hok 800 (by decide) (by decide)
 refine fi Tryz.func16 Tryz.ntmps16 Tryz.results16 ?_
 repeat (first|(apply fw;(with_reducible constructor)<;>rfl)|(apply WpA.cd;constructor)|((first|with_reducible refine WpA.go _ rfl fun Y y=>?_|apply RunTo.id);simp only [zb,seval,bF,kcc];refine fz y ?_;clear y Y))
 refine cz (h) ?_
 (refine WpL.go _ rfl fun Y y=>?_);repeat (first|(apply fw;(with_reducible constructor)<;>rfl)|(apply WpA.cd;constructor)|((first|with_reducible refine WpA.go _ rfl fun Y y=>?_|apply RunTo.id);simp only [zb,seval,bF,kcc];refine fz y ?_;clear y Y))
 refine ye (by simp only [zb,seval,bF,kcc];rfl) (by simp only [zv,kcc];rfl) ?_
 rfl
mutual
theorem BG:∀d:D,d.msr+1≤3*d.count
 | .mk k c neg mag t l=>by
  have h:=BH l
  rw [D.msr,D.count]
  split<;>omega
theorem BH:∀l:List D,bZ l+l.length≤3*gL l
 | []=>by simp [bZ,gL]
 | d::l=>by
  have h1:=BG d
  have h2:=BH l
  rw [bZ,gL,List.length_cons];omega
end
theorem CY {d:D} (h:¬d.weigh p18 800<0):d.count≤800∧d.msr+1≤2400:=by
 have h1:=vP p18 d 800 (by omega)
 have h2:=BG d
 omega
theorem K.Oks.take:∀{l:List K},K.Oks l→∀k,K.Oks (l.take k)
 | _,_,0=>by rw [List.take_zero];trivial
 | [],_,k+1=>trivial
 | c::l,h,k+1=>⟨h.1,K.Oks.take h.2 k⟩
end Go.Proofs.YtaeioidifpebdaaGreatDoor
end
section
namespace Go.Proofs.YtaeioidifpebdaaGreatDoor
open Go Go.RowKit Go.Lib
set_option linter.unusedSimpArgs false
set_option linter.unusedVariables false
set_option maxRecDepth 100000
structure Agr (n:Nat) (ev ev':Ev):Prop where
 e:∀d,Gd n d→ev.e d=ev'.e d
 b:∀l,Gds n l→ev.b l=ev'.b l
 q:∀d k,Gd n d→ev.q d k=ev'.q d k
theorem Gds.one {n:Nat} {d:D} (hd:Gd n d):Gds n [d]:=⟨⟨hd.1,trivial⟩,⟨hd.2.1,trivial⟩,by have:=hd.2.2;simp only [bZ];omega⟩
theorem CZ {n:Nat} {l:List D} (hl:Gds n l) {i:Nat} (hi:i<l.length):Gd n (l.getD i cA):=by
 have:l.getD i cA=l[i]:=by simp [List.getD,hi]
 rw [this];exact hl.mem (List.getElem_mem hi)
section
variable {n:Nat} {ev ev':Ev} (h:Agr n ev ev')
include h
theorem lV {l:List D} (hl:Gds n l):aL ev.e l=aL ev'.e l:=by
 unfold aL
 rw [List.map_congr_left fun d hd=>by rw [h.e d (hl.mem hd)],List.map_congr_left (g:=fun d=>(ev'.e d).2) fun d hd=>by rw [h.e d (hl.mem hd)]]
theorem rA {l:List D} (hl:Gds n l):eN ev.e l=eN ev'.e l:=by unfold eN;rw [lV h hl]
theorem OU (f:D) {b:List D} (hb:Gds n b):cQ ev f b=cQ ev' f b:=by unfold cQ;rw [h.b b hb]
theorem SG:∀{l:List D},Gds n l→fA ev l=fA ev' l
 | [],_=>rfl
 | [_],_=>rfl
 | a::b::r,hl=>by
  simp only [fA,OU h a.snd hl.tail,h.e b hl.tail.head]
theorem DA (names:List ByteArray) (body:K) {v:List D} (hv:Gds n v):eI ev names body v=eI ev' names body v:=by unfold eI;rw [lV h hv]
theorem DB {d:D} (hd:Gd n d) (b:K):dL ev d b=dL ev' d b:=DA h _ _ (Gds.one hd)
theorem SH:∀{l:List D},Gds n l→jB ev l=jB ev' l
 | [],_=>rfl
 | [_],_=>rfl
 | a::b::r,hl=>by
  simp only [jB,lV h (eU hl.tail.head).1,h.b r hl.tail.tail]
theorem SI:∀{l:List D},Gds n l→sT ev l=sT ev' l
 | [],_=>rfl
 | a::r,hl=>by
  have ha:=fun ns b=>DA h ns b (eU hl.head).1
  simp only [sT,SH h hl,ha,h.b r hl.tail]
theorem JP:∀{l:List (ByteArray × D)} (s:Rs),(∀p∈l,Gd n p.2)→jS ev l s=jS ev' l s
 | [],s,_=>rfl
 | p::l,s,hl=>by
  show iB ev p (jS ev l s)=iB ev' p (jS ev' l s)
  rw [JP s fun q hq=>hl q (by simp [hq])]
  unfold iB
  rw [DA h _ _ (Gds.one (hl p (by simp)))]
theorem SJ:∀{l:List D},Gds n l→gP ev l=gP ev' l
 | [],_=>rfl
 | a::r,hl=>by
  have ha:=fun ns b=>DA h ns b (v:=[]) ⟨trivial,trivial,by have:=hl.2.2;simp only [bZ];omega⟩
  simp only [gP,ha,h.b r hl.tail]
  exact JP h _ fun p hp=>(eU hl.head).1.mem (List.of_mem_zip hp).2
theorem SK:∀{l:List D},Gds n l→hF ev l=hF ev' l
 | [],_=>rfl
 | a::r,hl=>by
  simp only [hF,lV h (eU hl.head).1,h.b r hl.tail]
theorem OV:∀{l:List D},Gds n l→iC ev l=iC ev' l
 | [],_=>rfl
 | a::r,hl=>by
  have hr:=OV hl.tail
  have hi:=jJ hl.head
  rw [mX,mX]
  generalize eW a=it at hi ⊢
  match it,hi with
  | [],_=>rfl
  | [c],hi=>simp only [hr,DB h hi.head,rA h hi.tail]
  | [c,f],hi=>simp only [hr,h.e c hi.head,rA h hi.tail]
  | [c,f,g],hi=>simp only [hr,h.e c hi.head,h.e g hi.tail.tail.head,rA h hi.tail,DB h hi.head]
  | c::f::g::x::xs,hi=>simp only [hr,h.e c hi.head,rA h hi.tail]
theorem OW:∀{l:List D},Gds n l→eS ev l=eS ev' l
 | [],_=>rfl
 | a::r,hl=>by
  have hr:=OW hl.tail
  have hi:=jJ hl.head
  rw [jW,jW]
  generalize eW a=it at hi ⊢
  match it,hi with
  | [],_=>rfl
  | [c],_=>rfl
  | c::f::fs,hi=>simp only [hr,rA h hi.tail]
theorem IP (b:Bool):∀{l:List D},Gds n l→dE ev b l=dE ev' b l
 | [],_=>rfl
 | [d],hl=>h.e d hl.head
 | d::e::r,hl=>by
  have hr:=IP b hl.tail
  have lg:∀ev:Ev,dE ev b (d::e::r)=if b=true then (aE (ev.e d).1 (dE ev b (e::r)).1 (kJ 2),max (dE ev b (e::r)).2 (ev.e d).2) else ((dL ev d (aE (bL aZ) (bL aZ) (dE ev b (e::r)).1)).1,max (dE ev b (e::r)).2 (dL ev d (aE (bL aZ) (bL aZ) (dE ev b (e::r)).1)).2):=fun ev=>rfl
  rw [lg,lg,hr,h.e d hl.head,DB h hl.head]
theorem SL:∀{l:List D},Gds n l→mN ev l=mN ev' l
 | [],_=>rfl
 | [_],_=>rfl
 | a::b::r,hl=>by
  have g1:=(uQ (fQ hl.head)).1
  have g2:=fQ hl.tail.head
  rw [oL,oL]
  generalize tI (aN a).1=I at g1 ⊢
  generalize tS (aN a).1=S at g1 ⊢
  generalize (aN b).1=B at g2 ⊢
  congr 1
  match B,g2 with
  | [],_=>rfl
  | e::es,g2 =>
   unfold qZ
   simp only [h.e e g2.head,rA h g2.tail,lV h hl.tail.tail,lV h g1.1,lV h g1.2]
theorem SM (w:ByteArray) {l:List D} (hl:Gds n l):bA ev w l=bA ev' w l:=by
 unfold bA
 rw [SI h hl,SJ h hl,SK h hl,OV h hl,SL h hl,IP h true hl,IP h false hl]
theorem SN (w:ByteArray) {l:List D} (hl:Gds n l):bT ev w l=bT ev' w l:=by
 unfold bT
 rw [SM h w hl,rA h hl,lV h hl,rA h (hl.drop 1),OU h _ (hl.drop 1)]
 have g:∀i,i<l.length→ev.e (l.getD i cA)=ev'.e (l.getD i cA):=fun i hi=>h.e _ (CZ hl hi)
 have gq:0<l.length→ev.q (l.getD 0 cA) 1=ev'.q (l.getD 0 cA) 1:=fun hi=>h.q _ _ (CZ hl hi)
 have gc:wK ev l=wK ev' l:=by
  match l,hl with
  | [],_=>rfl
  | a::r,hl =>
   have ht:=fun b=>DB h hl.head b
   simp only [wK,OW h hl.tail,ht]
 rw [gc]
 refine ite_congr rfl (fun _=>rfl) fun _=>?_
 refine ite_congr rfl (fun q=>gq (by have:=q.2;omega)) fun _=>?_
 refine ite_congr rfl (fun _=>rfl) fun _=>?_
 refine ite_congr rfl (fun q=>by have:=q.2;rw [g 1 (by omega)]) fun _=>?_
 refine ite_congr rfl (fun q=>by have:=q.2;rw [g 0 (by omega),g 1 (by omega)]) fun _=>?_
 refine ite_congr rfl (fun q=>by have:=q.2;rw [g 0 (by omega),g 1 (by omega),g 2 (by omega)]) fun _=>?_
 refine ite_congr rfl (fun _=>rfl) fun _=>?_
 refine ite_congr rfl (fun _=>rfl) fun _=>?_
 refine ite_congr rfl (fun q=>by have:=q.2;rw [g 0 (by omega)]) fun _=>?_
 refine ite_congr rfl (fun q=>by have:=q.2;rw [g 0 (by omega)]) fun _=>?_
 rfl
theorem IQ {d:D} (hd:Gd (n+1) d):dM ev d=dM ev' d:=by
 unfold dM
 by_cases h7:d.k=7
 ·have hgi:Gds n (items d):=by
   have:=yO h7
   have:=hd.2.2
   exact⟨(jQ d hd.1 hd.2.1).1,(jQ d hd.1 hd.2.1).2,by omega⟩
  generalize items d=it at hgi ⊢
  match it,hgi with
  | [],_=>rfl
  | a::r,hgi=>simp only [SN h _ hgi.tail,lV h hgi]
 ·rw [if_neg h7,if_neg h7]
theorem OX (he:∀d,Gd (n+1) d→ev.e d=ev'.e d):∀{l:List D} (s:Bs),Gds (n+1) l→l.foldl (cE ev) s=l.foldl (cE ev') s
 | [],_,_=>rfl
 | d::l,s,hl=>by
  have h1:cE ev s d=cE ev' s d:=by
   unfold cE
   cases ho:dH d eR with
   | none=>simp only [he d hl.head]
   | some x =>
    obtain⟨g1,g2⟩:=iW hl.head ho
    have hx:Gds n x:=⟨g1.1,g1.2.1,by have:=hl.head.2.2;omega⟩
    simp only [SG h hx]
  rw [List.foldl_cons,List.foldl_cons,h1,OX he _ hl.tail]
theorem SO (he:∀d,Gd (n+1) d→ev.e d=ev'.e d) {l:List D} (hl:Gds (n+1) l):uF ev l=uF ev' l:=by
 unfold uF lG
 rw [OX h he _ (CR hl).1]
theorem SP {d:D} (hd:Gd (n+1) d) (k:Nat):mO ev d k=mO ev' d k:=by
 unfold mO
 cases h1:qE d yN with
 | some y =>
  have hy:=(lU hd h1).1
  simp only [h.e y hy,h.q y _ hy]
 | none =>
  cases h2:qE d eT with
  | some y =>
   have hy:=(lU hd h2).1
   simp only [h.q y _ hy]
  | none =>
   dsimp only
   by_cases h8:d.k=8
   ·have hv:=hd.vec h8
    have:=hd.2.2
    rw [if_pos h8,if_pos h8,h.q _ _ ⟨hv.1.1,hv.1.2.1,by omega⟩]
   ·rw [if_neg h8,if_neg h8]
    by_cases h7:d.k=7
    ·obtain⟨-,hf,hs,hm⟩:=hd.pair h7
     have:=hd.2.2
     have p1:=gG d.fst
     have p2:=gG d.snd
     have hf':Gd n d.fst:=⟨hf.1,hf.2.1,by omega⟩
     have hs':Gd n d.snd:=⟨hs.1,hs.2.1,by omega⟩
     rw [if_pos h7,if_pos h7,h.q _ _ hs',h.q _ _ hf']
     cases h3:qE d.fst iX with
     | some y =>
      have hy:=(lU hf h3).1
      simp only [h.e y hy,h.q y _ hy]
     | none=>rfl
    ·rw [if_neg h7,if_neg h7]
end
theorem xH:∀n m,n≤m→Agr n (evs n) (evs m)
 | 0,m,_=>⟨fun d hd=>absurd hd.2.2 (Nat.not_lt_zero _),fun d hd=>absurd hd.2.2 (Nat.not_lt_zero _),fun d k hd=>absurd hd.2.2 (Nat.not_lt_zero _)⟩
 | n+1,0,h=>absurd h (Nat.not_succ_le_zero _)
 | n+1,m+1,h=>by
  have ih:=xH n m (Nat.le_of_succ_le_succ h)
  have e1:∀d,Gd (n+1) d→dM (evs n) d=dM (evs m) d:=fun d hd=>IQ ih hd
  have hm:Agr n ⟨dM (evs n),(evs n).b,(evs n).q⟩ ⟨dM (evs m),(evs m).b,(evs m).q⟩:=⟨fun d hd=>e1 d (hd.le (Nat.le_succ n)),ih.b,ih.q⟩
  exact⟨fun d hd=>by rw [evs,evs];exact e1 d hd,fun l hl=>by rw [evs,evs];exact SO hm e1 hl,fun d k hd=>by rw [evs,evs];exact SP hm hd k⟩
noncomputable def exK (d:D):Rs:=(evs (d.msr+1)).e d
noncomputable def boK (l:List D):Rs:=(evs (bZ l+1)).b l
theorem QP {n:Nat} {d:D} (hd:Gd n d):(evs n).e d=exK d:=((xH (d.msr+1) n hd.2.2).e d ⟨hd.1,hd.2.1,Nat.lt_succ_self _⟩).symm
theorem TZ {n:Nat} {l:List D} (hl:Gds n l):(evs n).b l=boK l:=((xH (bZ l+1) n hl.2.2).b l ⟨hl.1,hl.2.1,Nat.lt_succ_self _⟩).symm
theorem SQ {n:Nat} {d:D} (hd:Gd (n+1) d):exK d=dM (evs n) d:=by rw [←QP hd,evs]
inductive Good (Q:D→Prop):(ByteArray→Prop)→K→Prop
 | const {A d}:Q d→Good Q A (dR d)
 | ref {A s}:A s→s≠e0→Good Q A (bL s)
 | prim {A s}:s≠e0→Good Q A (fS s)
 | set {A s x}:A s→s≠e0→Good Q A x→Good Q A (rY s x)
 | branch {A a b c}:Good Q A a→Good Q A b→Good Q A c→Good Q A (aE a b c)
 | seq {A l}:2≤l.length→l.length≤200000000→(∀x∈l,Good Q A x)→Good Q A (.mk 7 e0 e0 [] cA l)
 | call {A l}:1≤l.length→l.length≤41→(∀x∈l,Good Q A x)→Good Q A (gZ l)
 | lam {A B:ByteArray→Prop} {ps rest b}:ps.Nodup→rest∉ps→(∀p∈ps,p≠e0)→ps.length+(if rest=e0 then 0 else 1)≤40→(∀s,B s→A s∨s∈ps∨s=rest)→Good Q B b→Good Q A (.mk 6 e0 rest ps cA [b])
 | none {A}:Good Q A lJ
theorem Good.mono {Q:D→Prop} {A:ByteArray→Prop} {k:K} (h:Good Q A k):∀{B:ByteArray→Prop},(∀s,A s→B s)→Good Q B k:=by
 induction h with
 | const h=>exact fun _=>.const h
 | ref h h0=>exact fun hb=>.ref (hb _ h) h0
 | prim h0=>exact fun _=>.prim h0
 | set h h0 _ ih=>exact fun hb=>.set (hb _ h) h0 (ih hb)
 | branch _ _ _ i1 i2 i3=>exact fun hb=>.branch (i1 hb) (i2 hb) (i3 hb)
 | seq h1 h2 _ ih=>exact fun hb=>.seq h1 h2 fun x hx=>ih x hx hb
 | call h1 h2 _ ih=>exact fun hb=>.call h1 h2 fun x hx=>ih x hx hb
 | lam h1 h2 h3 h4 h5 h6 _=>exact fun hb=>.lam h1 h2 h3 h4 (fun s hs=>(h5 s hs).imp (hb s) id) h6
 | none=>exact fun _=>.none
theorem K.Oks.ofMem:∀{l:List K},(∀x∈l,x.Ok)→K.Oks l
 | [],_=>trivial
 | x::l,h=>⟨h x (by simp),K.Oks.ofMem fun y hy=>h y (by simp [hy])⟩
theorem Good.ok {Q:D→Prop} (hQ:∀d,Q d→d.Ok) {A:ByteArray→Prop} {k:K} (h:Good Q A k):k.Ok:=by
 induction h with
 | const h=>exact⟨by decide,by simp,hQ _ h,by simp,trivial⟩
 | ref h h0=>exact⟨by decide,by simp,fT,by simp,trivial⟩
 | prim h0=>exact⟨by decide,by simp,fT,by simp,trivial⟩
 | set h h0 _ ih=>exact⟨by decide,by simp,fT,by simp,ih,trivial⟩
 | branch _ _ _ i1 i2 i3=>exact⟨by decide,by simp,fT,by simp,i1,i2,i3,trivial⟩
 | seq h1 h2 _ ih=>exact⟨by decide,by simp,fT,by omega,K.Oks.ofMem ih⟩
 | call h1 h2 _ ih=>exact⟨by decide,by simp,fT,by omega,K.Oks.ofMem ih⟩
 | lam h1 h2 h3 h4 h5 h6 ih=>exact⟨by decide,by omega,fT,by simp,ih,trivial⟩
 | none=>exact⟨by decide,by simp,fT,by simp,trivial⟩
section
variable {Q:D→Prop} {A:ByteArray→Prop}
theorem jK {l:List Nat} (h:gH l=0):∀x∈l,x=0:=by
 have key:∀(l:List Nat) (a:Nat),l.foldl max a=0→a=0∧∀x∈l,x=0:=by
  intro l
  induction l with
  | nil=>exact fun a h=>⟨h,by simp⟩
  | cons y l ih =>
   intro a h
   obtain⟨h1,h2⟩:=ih _ h
   exact⟨by omega,fun x hx=>(List.mem_cons.1 hx).elim (fun e=>by omega) (h2 x)⟩
 exact (key l 0 h).2
theorem kQ {l:List K} (h0:(dA l).2=0) (hne:1≤l.length) (hl:∀x∈l,Good Q A x):Good Q A (dA l).1:=by
 unfold dA at h0 ⊢
 by_cases h:41<l.length
 ·rw [if_pos h] at h0;cases h0
 ·rw [if_neg h];exact .call hne (by omega) hl
theorem uS {ps:List ByteArray} {b:K} {B:ByteArray→Prop} (h0:(eM ps e0 b).2=0) (hn:ps.Nodup) (hne:∀p∈ps,p≠e0) (hB:∀s,B s→A s∨s∈ps) (h:Good Q B b):Good Q A (eM ps e0 b).1:=by
 unfold eM at h0 ⊢
 by_cases hc:40<ps.length+(if (e0:ByteArray)=e0 then 0 else 1)
 ·rw [if_pos hc] at h0;cases h0
 ·rw [if_neg hc]
  exact .lam hn (fun hm=>hne _ hm rfl) hne (by omega) (fun s hs=>(hB s hs).imp id .inl) h
theorem rB {l:List K} (hne:l≠[]) (hlen:l.length≤200000000) (hl:∀x∈l,Good Q A x):Good Q A (fZ l):=by
 match l,hne with
 | [x],_=>exact hl x (by simp)
 | x::y::l,_=>exact .seq (by simp) hlen hl
end
def Cov (P:D→Prop) (A:ByteArray→Prop):Prop:=∀d,P d→d.k=6→A d.t∧d.t≠e0
structure Pc (Q P:D→Prop):Prop where
 kid:∀d x,P d→x∈d.l→P x
 vec:∀d,P d→d.k=8→P (aK d.l)
 q:∀d,P d→Q d
 kd:∀k,k=1∨k=2∨k=9→Q (jR k)
 nil:Q cA
 sym:Q (bU yN)∧Q (bU eT)∧Q (bU iX)
structure GE (Q P:D→Prop) (n:Nat) (ev:Ev):Prop where
 e:∀d,Gd n d→P d→∀A,Cov P A→(ev.e d).2=0→Good Q A (ev.e d).1
 b:∀l,Gds n l→(∀d∈l,P d)→∀A,Cov P A→(ev.b l).2=0→Good Q A (ev.b l).1
 q:∀d k,Gd n d→P d→∀A,Cov P A→(ev.q d k).2=0→Good Q A (ev.q d k).1
section
variable {Q P:D→Prop} {A:ByteArray→Prop} {n:Nat} {ev:Ev}
theorem nN (hP:Pc Q P):∀(d:D),P d→∀x∈items d,P x
 | .mk k c neg mag t l,hd,x,hx=>by
  unfold items at hx
  split at hx
  ·match l,hd,hx with
   | [],_,hx=>simp [iZ] at hx
   | [_],_,hx=>simp [iZ] at hx
   | [a,b],hd,hx =>
    simp only [iZ,List.mem_cons] at hx
    rcases hx with rfl|hx
    ·exact hP.kid _ _ hd (by simp [D.l])
    ·exact nN hP b (hP.kid _ _ hd (by simp [D.l])) x hx
   | _::_::_::_,_,hx=>simp [iZ] at hx
  ·simp at hx
theorem rC (hP:Pc Q P) {d:D} (hd:P d):∀x∈(aN d).1,P x:=by
 unfold aN
 split
 ·exact nN hP d hd
 ·simp
theorem lB (hA:Cov P A) {d:D} (hd:P d) (h0:(bB d).2=0):A (bB d).1∧(bB d).1≠e0:=by
 unfold bB at h0 ⊢
 by_cases h:d.k=6∧nB d.t=false
 ·rw [if_pos h];exact hA d hd h.1
 ·rw [if_neg h] at h0;cases h0
theorem jL (hE:GE Q P n ev) (hA:Cov P A) {l:List D} (hl:Gds n l) (hp:∀d∈l,P d) (h0:(aL ev.e l).2=0):∀x∈(aL ev.e l).1,Good Q A x:=by
 intro x hx
 obtain⟨d,hd,rfl⟩:=List.mem_map.1 hx
 exact hE.e d (hl.mem hd) (hp d hd) A hA (jK h0 _ (List.mem_map_of_mem hd))
theorem gU (hE:GE Q P n ev) (hA:Cov P A) {l:List D} (hn:n≤100000000) (hl:Gds n l) (hp:∀d∈l,P d) (h0:(eN ev.e l).2=0):Good Q A (eN ev.e l).1:=by
 have:=hl.len
 unfold eN at h0 ⊢
 by_cases h:l=[]
 ·rw [if_pos h] at h0;cases h0
 ·rw [if_neg h] at h0 ⊢
  exact rB (by simpa [aL] using h) (by simp [aL];omega) (jL hE hA hl hp h0)
theorem oM {l:List ByteArray} (h:unl l=0):l.Nodup:=by
 refine Classical.byContradiction fun hn=>?_
 rw [JM hn] at h;cases h
theorem DC (hP:Pc Q P) (hA:Cov P A) {f:D} (hf:P f) (h0:(dB f).2.2=0):(dB f).1.Nodup∧(dB f).2.1∉(dB f).1∧(∀p∈(dB f).1,p≠e0):=by
 have hz:∀x∈items f,(bB x).2=0→(bB x).1≠e0:=fun x hx h=>(lB hA (nN hP f hf x hx) h).2
 unfold dB at h0 ⊢
 dsimp only at h0 ⊢
 by_cases hk:(oE f).k=0
 ·rw [if_pos hk] at h0 ⊢
  dsimp only at h0 ⊢
  have h1:=jK (by omega:gH ((items f).map fun x=>(bB x).2)=0)
  have hne:∀p∈(items f).map fun x=>(bB x).1,p≠e0:=fun p hp=>by
   obtain⟨x,hx,rfl⟩:=List.mem_map.1 hp
   exact hz x hx (h1 _ (List.mem_map_of_mem (f:=fun x=>(bB x).2) hx))
  exact⟨oM (by omega),fun hm=>hne _ hm rfl,hne⟩
 ·rw [if_neg hk] at h0 ⊢
  dsimp only at h0 ⊢
  have h1:=jK (by omega:gH ((items f).map fun x=>(bB x).2)=0)
  have hne:∀p∈(items f).map fun x=>(bB x).1,p≠e0:=fun p hp=>by
   obtain⟨x,hx,rfl⟩:=List.mem_map.1 hp
   exact hz x hx (h1 _ (List.mem_map_of_mem (f:=fun x=>(bB x).2) hx))
  have hu:=oM (l:=(items f).map (fun x=>(bB x).1)++[(bB (oE f)).1]) (by omega)
  rw [List.nodup_append] at hu
  exact⟨hu.1,fun hm=>hu.2.2 _ hm _ (by simp) rfl,hne⟩
theorem LW {ps:List ByteArray} {rest:ByteArray} {b:K} (h0:(eM ps rest b).2=0) (hn:ps.Nodup) (hr:rest∉ps) (hne:∀p∈ps,p≠e0) (h:Good Q A b):Good Q A (eM ps rest b).1:=by
 unfold eM at h0 ⊢
 by_cases hc:40<ps.length+(if rest=e0 then 0 else 1)
 ·rw [if_pos hc] at h0;cases h0
 ·rw [if_neg hc]
  exact .lam hn hr hne (by omega) (fun s hs=>.inl hs) h
theorem sH (hP:Pc Q P) (hE:GE Q P n ev) (hA:Cov P A) {f:D} (hf:P f) {b:List D} (hb:Gds n b) (hp:∀d∈b,P d) (h0:(cQ ev f b).2=0):Good Q A (cQ ev f b).1:=by
 unfold cQ at h0 ⊢
 dsimp only at h0 ⊢
 obtain⟨h1,h2,h3⟩:=DC hP hA hf (by omega)
 exact LW (by omega) h1 h2 h3 (hE.b b hb hp A hA (by omega))
theorem uT {names:List ByteArray} {values:List K} {body:K} {B:ByteArray→Prop} (h0:(kK names values body).2=0) (hne:∀p∈names,p≠e0) (hlen:names.length≤100000000) (hB:∀s,B s→A s∨s∈names) (hv:∀x∈values,Good Q B x) (hb:Good Q B body):Good Q A (kK names values body).1:=by
 unfold kK at h0 ⊢
 dsimp only at h0 ⊢
 have hu:=oM (by omega:unl names=0)
 refine kQ (by omega) (by simp) fun x hx=>?_
 rcases List.mem_cons.1 hx with rfl|hx
 ·refine uS (B:=fun s=>A s∨s∈names) (by omega) hu hne (fun s hs=>hs) (rB (by simp) (by simp [List.length_zip];omega) fun y hy=>?_)
  rcases List.mem_append.1 hy with hy|hy
  ·obtain⟨p,hp,rfl⟩:=List.mem_map.1 hy
   have:=List.of_mem_zip hp
   exact .set (.inr this.1) (hne _ this.1) ((hv _ this.2).mono hB)
  ·rw [List.mem_singleton.1 hy];exact hb.mono hB
 ·obtain⟨_,_,rfl⟩:=List.mem_map.1 hx
  exact .none
theorem pS (hE:GE Q P n ev) (hA:Cov P A) {names:List ByteArray} {body:K} {values:List D} {B:ByteArray→Prop} (hu:names.Nodup) (hne:∀p∈names,p≠e0) (hB:∀s,B s→A s∨s∈names) (hb:Good Q B body) (hv:Gds n values) (hp:∀d∈values,P d) (h0:(eI ev names body values).2=0):Good Q A (eI ev names body values).1:=by
 unfold eI at h0 ⊢
 dsimp only at h0 ⊢
 refine kQ (by omega) (by simp) fun x hx=>?_
 rcases List.mem_cons.1 hx with rfl|hx
 ·exact uS (by omega) hu hne hB hb
 ·exact jL hE hA hv hp (by omega) x hx
theorem nO (hE:GE Q P n ev) (hA:Cov P A) {d:D} {body:K} {B:ByteArray→Prop} (hB:∀s,B s→A s∨s=aZ) (hb:Good Q B body) (hd:Gd n d) (hp:P d) (h0:(dL ev d body).2=0):Good Q A (dL ev d body).1 :=
 pS hE hA (by simp) (by simp;decide) (fun s hs=>(hB s hs).imp id (by simp)) hb (Gds.one hd) (by simpa using hp) h0
end
end Go.Proofs.YtaeioidifpebdaaGreatDoor
end
section
namespace Go.Proofs.YtaeioidifpebdaaGreatDoor
open Go Go.RowKit Go.Lib
set_option linter.unusedSimpArgs false
set_option linter.unusedVariables false
set_option linter.unusedSectionVars false
set_option maxRecDepth 100000
section
variable {Q P:D→Prop} {A:ByteArray→Prop} {n:Nat} {ev:Ev}
theorem JQ (hP:Pc Q P) {b:D} (hb:P b) {p:D × D} (h:gC b=some p):P p.1∧P p.2:=by
 unfold gC at h
 split at h
 ·split at h
  ·rename_i x y hi
   cases h
   exact⟨nN hP b hb _ (by rw [hi];simp),nN hP b hb _ (by rw [hi];simp)⟩
  ·cases h
 ·cases h
theorem rS (hP:Pc Q P) (hA:Cov P A) {d:D} (hd:P d) (h0:(aM d).2.2=0):(∀p∈(aM d).1,p≠e0)∧∀x∈(aM d).2.1,P x:=by
 have hl:=rC hP hd
 unfold aM at h0 ⊢
 dsimp only at h0 ⊢
 generalize (aN d).1=l at hl h0 ⊢
 have h1:=jK (Nat.eq_zero_of_le_zero (h0▸Nat.le_max_right _ _))
 refine⟨fun s hs=>?_,fun x hx=>?_⟩
 ·obtain⟨b,hb,hq⟩:=List.mem_filterMap.1 hs
  obtain⟨p,hp,rfl⟩:=Option.map_eq_some_iff.1 hq
  have:=h1 _ (List.mem_map_of_mem hb)
  rw [hp] at this
  exact (lB hA (JQ hP (hl b hb) hp).1 this).2
 ·obtain⟨b,hb,hq⟩:=List.mem_filterMap.1 hx
  obtain⟨p,hp,rfl⟩:=Option.map_eq_some_iff.1 hq
  exact (JQ hP (hl b hb) hp).2
variable (hP:Pc Q P) (hE:GE Q P n ev) (hA:Cov P A) (hn:n≤100000000)
include hP hE hA hn
theorem IR {l:List D} (hl:Gds n l) (hp:∀d∈l,P d) (h0:(jB ev l).2=0):Good Q A (jB ev l).1:=by
 match l,hl,hp,h0 with
 | [],_,_,h0=>cases h0
 | [_],_,_,h0=>cases h0
 | a::b::r,hl,hp,h0 =>
  unfold jB at h0 ⊢
  dsimp only at h0 ⊢
  have hw:=lB hA (hp a (by simp)) (by omega)
  obtain⟨g1,g2⟩:=rS hP hA (hp b (by simp)) (by omega)
  have hu:=oM (by omega:unl (aM b).1=0)
  have hbf:=eU hl.tail.head
  refine kQ (by omega) (by simp) fun x hx=>?_
  rcases List.mem_cons.1 hx with rfl|hx
  ·refine uT (B:=fun s=>A s∨s=(bB a).1) (by omega) (by simpa using hw.2) (by simp) (fun s hs=>hs.imp id (by simp)) (fun y hy=>?_) (.ref (.inr rfl) hw.2)
   rw [List.mem_singleton.1 hy]
   exact uS (B:=A) (by omega) hu g1 (fun s hs=>.inl (.inl hs)) (hE.b r hl.tail.tail (fun d hd=>hp d (by simp [hd])) A hA (by omega))
  ·exact jL hE hA hbf.1 g2 (by omega) x hx
theorem OY {l:List D} (hl:Gds n l) (hp:∀d∈l,P d) (h0:(sT ev l).2=0):Good Q A (sT ev l).1:=by
 match l,hl,hp,h0 with
 | [],_,_,h0=>cases h0
 | a::r,hl,hp,h0 =>
  by_cases hk:a.k=6
  ·rw [show sT ev (a::r)=jB ev (a::r) from if_pos hk] at h0 ⊢
   exact IR hP hE hA hn hl hp h0
  ·rw [show sT ev (a::r)=((eI ev (aM a).1 (ev.b r).1 (aM a).2.1).1,max (max (max (aM a).2.2 (ev.b r).2) (unl (aM a).1)) (eI ev (aM a).1 (ev.b r).1 (aM a).2.1).2) from if_neg hk] at h0 ⊢
   dsimp only at h0 ⊢
   obtain⟨g1,g2⟩:=rS hP hA (hp a (by simp)) (by omega)
   exact pS hE hA (oM (by omega)) g1 (fun s hs=>.inl hs) (hE.b r hl.tail (fun d hd=>hp d (by simp [hd])) A hA (by omega)) (eU hl.head).1 g2 (by omega)
theorem BI:∀(l:List (ByteArray × D)) (s:Rs),(∀p∈l,p.1≠e0∧Gd n p.2∧P p.2)→(s.2=0→Good Q A s.1)→(jS ev l s).2=0→Good Q A (jS ev l s).1
 | [],s,_,hs,h0=>hs h0
 | p::l,s,hl,hs,h0=>by
  change (iB ev p (jS ev l s)).2=0 at h0
  change Good Q A (iB ev p (jS ev l s)).1
  unfold iB at h0 ⊢
  dsimp only at h0 ⊢
  have h1:=hl p (by simp)
  exact pS hE hA (by simp) (by simpa using h1.1) (fun s hs=>.inl hs) (BI l s (fun q hq=>hl q (by simp [hq])) hs (by omega)) (Gds.one h1.2.1) (by simpa using h1.2.2) (by omega)
theorem LX {l:List D} (hl:Gds n l) (hp:∀d∈l,P d) (h0:(gP ev l).2=0):Good Q A (gP ev l).1:=by
 match l,hl,hp,h0 with
 | [],_,_,h0=>cases h0
 | a::r,hl,hp,h0 =>
  unfold gP at h0 ⊢
  dsimp only at h0 ⊢
  have hle:∀(l:List (ByteArray × D)) (s:Rs),(jS ev l s).2=0→s.2=0:=by
   intro l
   induction l with
   | nil=>exact fun s h=>h
   | cons p l ih =>
    intro s h
    change (iB ev p (jS ev l s)).2=0 at h
    unfold iB at h
    dsimp only at h
    exact ih s (by omega)
  have hz:=hle _ _ h0
  dsimp only at hz
  obtain⟨g1,g2⟩:=rS hP hA (hp a (by simp)) (by omega)
  have hbf:=eU hl.head
  refine BI hP hE hA hn _ _ (fun p hp'=>?_) (fun hs=>?_) h0
  ·have:=List.of_mem_zip hp'
   exact⟨g1 _ this.1,hbf.1.mem this.2,g2 _ this.2⟩
  ·exact pS hE hA (by simp) (by simp) (fun s hs=>.inl hs) (hE.b r hl.tail (fun d hd=>hp d (by simp [hd])) A hA (by omega)) ⟨trivial,trivial,by have:=hl.2.2;simp only [bZ];omega⟩ (by simp) (by omega)
theorem FO {l:List D} (hl:Gds n l) (hp:∀d∈l,P d) (h0:(hF ev l).2=0):Good Q A (hF ev l).1:=by
 match l,hl,hp,h0 with
 | [],_,_,h0=>cases h0
 | a::r,hl,hp,h0 =>
  unfold hF at h0 ⊢
  dsimp only at h0 ⊢
  obtain⟨g1,g2⟩:=rS hP hA (hp a (by simp)) (by omega)
  have hbf:=eU hl.head
  exact uT (B:=A) (by omega) g1 (by omega) (fun s hs=>.inl hs) (jL hE hA hbf.1 g2 (by omega)) (hE.b r hl.tail (fun d hd=>hp d (by simp [hd])) A hA (by omega))
end
section
variable {Q P:D→Prop} {A:ByteArray→Prop} {n:Nat} {ev:Ev}
variable (hP:Pc Q P) (hE:GE Q P n ev) (hA:Cov P A) (hn:n≤100000000)
include hP hE hA hn
theorem BJ {d:D} (hd:P d):∀x∈eW d,P x:=by rw [←vJ];exact rC hP hd
theorem pT:Good Q A bI:=.const (hP.kd 9 (by simp))
theorem mY {k:Int} (h:k=1∨k=2):Good Q A (kJ k):=.const (hP.kd k (by omega))
theorem BK:∀{l:List D},Gds n l→(∀d∈l,P d)→(iC ev l).2=0→Good Q A (iC ev l).1
 | [],_,_,_=>pT hP hE hA hn
 | a::r,hl,hp,h0=>by
  have hi:=jJ hl.head
  have hpi:=BJ hP hE hA hn (hp a (by simp))
  have hr:=fun h=>BK hl.tail (fun d hd=>hp d (by simp [hd])) h
  have tr:Good Q (fun s=>A s∨s=aZ) (bL aZ):=.ref (.inr rfl) (by decide)
  rw [mX] at h0 ⊢
  generalize eW a=it at hi hpi h0 ⊢
  match it,hi,hpi,h0 with
  | [],_,_,h0=>cases h0
  | c::cs,hi,hpi,h0 =>
   dsimp only at h0 ⊢
   have hcs:∀x∈cs,P x:=fun x hx=>hpi x (by simp [hx])
   by_cases he:iP c iA=true
   ·rw [if_pos he] at h0 ⊢
    by_cases hr0:r=[]
    ·rw [if_pos hr0] at h0 ⊢
     exact gU hE hA hn hi.tail hcs h0
    ·rw [if_neg hr0] at h0;cases h0
   ·rw [if_neg he] at h0 ⊢
    match cs,hi,hcs,hpi,h0 with
    | [],hi,hcs,hpi,h0 =>
     dsimp only at h0 ⊢
     exact nO hE hA (B:=fun s=>A s∨s=aZ) (fun s hs=>hs) (.branch tr tr ((hr (by omega)).mono fun s hs=>.inl hs)) hi.head (hpi c (by simp)) (by omega)
    | [f],hi,hcs,hpi,h0 =>
     dsimp only at h0 ⊢
     by_cases hf:iP f mL=true
     ·rw [if_pos hf] at h0;cases h0
     ·rw [if_neg hf] at h0 ⊢
      dsimp only at h0 ⊢
      exact .branch (hE.e c hi.head (hpi c (by simp)) A hA (by omega)) (gU hE hA hn hi.tail hcs (by omega)) (hr (by omega))
    | [f,g],hi,hcs,hpi,h0 =>
     dsimp only at h0 ⊢
     by_cases hf:iP f mL=true
     ·rw [if_pos hf] at h0 ⊢
      dsimp only at h0 ⊢
      refine nO hE hA (B:=fun s=>A s∨s=aZ) (fun s hs=>hs) (.branch tr (kQ (by omega) (by simp) fun x hx=>?_) ((hr (by omega)).mono fun s hs=>.inl hs)) hi.head (hpi c (by simp)) (by omega)
      simp only [List.mem_cons,List.not_mem_nil,or_false] at hx
      rcases hx with rfl|rfl
      ·exact (hE.e g hi.tail.tail.head (hpi g (by simp)) A hA (by omega)).mono fun s hs=>.inl hs
      ·exact tr
     ·rw [if_neg hf] at h0 ⊢
      dsimp only at h0 ⊢
      exact .branch (hE.e c hi.head (hpi c (by simp)) A hA (by omega)) (gU hE hA hn hi.tail hcs (by omega)) (hr (by omega))
    | f::g::x::xs,hi,hcs,hpi,h0 =>
     dsimp only at h0 ⊢
     by_cases hf:iP f mL=true
     ·rw [if_pos hf] at h0;cases h0
     ·rw [if_neg hf] at h0 ⊢
      dsimp only at h0 ⊢
      exact .branch (hE.e c hi.head (hpi c (by simp)) A hA (by omega)) (gU hE hA hn hi.tail hcs (by omega)) (hr (by omega))
theorem zK (ht:A aZ):∀{l:List D},(∀d∈l,P d)→Good Q A (nS l)
 | [],_=>mY hP hE hA hn (.inr rfl)
 | d::l,hp=>by
  refine .branch (.call (by simp) (by simp) fun x hx=>?_) (mY hP hE hA hn (.inl rfl)) (zK ht fun x hx=>hp x (by simp [hx]))
  simp only [List.mem_cons,List.not_mem_nil,or_false] at hx
  rcases hx with rfl|rfl|rfl
  ·exact .prim (by decide)
  ·exact .ref ht (by decide)
  ·exact .const (hP.q d (hp d (by simp)))
end
theorem mz {a b:Nat} (h:max a b=0):a=0∧b=0:=⟨by omega,by omega⟩
section
variable {Q P:D→Prop} {A:ByteArray→Prop} {n:Nat} {ev:Ev}
variable (hP:Pc Q P) (hE:GE Q P n ev) (hA:Cov P A) (hn:n≤100000000)
include hP hE hA hn
theorem wO:∀{l:List D},Gds n l→(∀d∈l,P d)→(eS ev l).2=0→Good Q (fun s=>A s∨s=aZ) (eS ev l).1
 | [],_,_,_=>(pT hP hE hA hn).mono fun s hs=>.inl hs
 | a::r,hl,hp,h0=>by
  have hi:=jJ hl.head
  have hpi:=BJ hP hE hA hn (hp a (by simp))
  have hr:=fun h=>wO hl.tail (fun d hd=>hp d (by simp [hd])) h
  rw [jW] at h0 ⊢
  generalize eW a=it at hi hpi h0 ⊢
  match it,hi,hpi,h0 with
  | [],_,_,h0=>cases h0
  | [_],_,_,h0=>cases h0
  | c::f::fs,hi,hpi,h0 =>
   dsimp only at h0 ⊢
   have hcs:∀x∈f::fs,P x:=fun x hx=>hpi x (by simp at hx ⊢;exact .inr hx)
   by_cases he:iP c iA=true
   ·rw [if_pos he] at h0 ⊢
    by_cases hr0:r=[]
    ·rw [if_pos hr0] at h0 ⊢
     exact (gU hE hA hn hi.tail hcs h0).mono fun s hs=>.inl hs
    ·rw [if_neg hr0] at h0;cases h0
   ·rw [if_neg he] at h0 ⊢
    dsimp only at h0 ⊢
    have hA':Cov P (fun s=>A s∨s=aZ):=fun d h1 h2=>⟨.inl (hA d h1 h2).1,(hA d h1 h2).2⟩
    exact .branch (zK hP hE hA' hn (.inr rfl) (rC hP (hpi c (by simp)))) ((gU hE hA hn hi.tail hcs (by omega)).mono fun s hs=>.inl hs) (hr (by omega))
theorem LY {l:List D} (hl:Gds n l) (hp:∀d∈l,P d) (h0:(wK ev l).2=0):Good Q A (wK ev l).1:=by
 match l,hl,hp,h0 with
 | [],_,_,h0=>cases h0
 | a::r,hl,hp,h0 =>
  unfold wK at h0 ⊢
  dsimp only at h0 ⊢
  exact nO hE hA (B:=fun s=>A s∨s=aZ) (fun s hs=>hs) (wO hP hE hA hn hl.tail (fun d hd=>hp d (by simp [hd])) (by omega)) hl.head (hp a (by simp)) (by omega)
theorem sZ (b:Bool):∀{l:List D},Gds n l→(∀d∈l,P d)→(dE ev b l).2=0→Good Q A (dE ev b l).1
 | [],_,_,_=>by
  unfold dE
  cases b
  ·exact mY hP hE hA hn (.inr rfl)
  ·exact mY hP hE hA hn (.inl rfl)
 | [d],hl,hp,h0=>hE.e d hl.head (hp d (by simp)) A hA h0
 | d::e::r,hl,hp,h0=>by
  have hr:=fun h=>sZ b hl.tail (fun x hx=>hp x (List.mem_cons_of_mem _ hx)) h
  have tr:Good Q (fun s=>A s∨s=aZ) (bL aZ):=.ref (.inr rfl) (by decide)
  rw [show dE ev b (d::e::r)=if b=true then (aE (ev.e d).1 (dE ev b (e::r)).1 (kJ 2),max (dE ev b (e::r)).2 (ev.e d).2) else ((dL ev d (aE (bL aZ) (bL aZ) (dE ev b (e::r)).1)).1,max (dE ev b (e::r)).2 (dL ev d (aE (bL aZ) (bL aZ) (dE ev b (e::r)).1)).2) from rfl] at h0 ⊢
  cases b with
  | true =>
   rw [if_pos rfl] at h0 ⊢
   dsimp only at h0 ⊢
   exact .branch (hE.e d hl.head (hp d (by simp)) A hA (by omega)) (hr (by omega)) (mY hP hE hA hn (.inr rfl))
  | false =>
   rw [if_neg (by decide)] at h0 ⊢
   dsimp only at h0 ⊢
   exact nO hE hA (B:=fun s=>A s∨s=aZ) (fun s hs=>hs) (.branch tr tr ((hr (by omega)).mono fun s hs=>.inl hs)) hl.head (hp d (by simp)) (by omega)
theorem SR {d:D} {t:D × D × D} (hd:P d) (h:kY d=some t):P t.1∧P t.2.1∧P t.2.2:=by
 have hi:=nN hP d hd
 obtain⟨-,⟨h1,h2⟩|h1⟩:=sX h
 ·rw [h1] at hi
  rw [h2]
  exact⟨hi _ (by simp),hi _ (by simp),hi _ (by simp)⟩
 ·rw [h1] at hi
  exact⟨hi _ (by simp),hi _ (by simp),hi _ (by simp)⟩
theorem UA {l:List D} (hl:∀d∈l,P d):(∀d∈tI l,P d)∧(∀d∈tS l,P d)∧(tE l=0→∀p∈tN l,p≠e0):=by
 have key:∀t∈tT l,P t.1∧P t.2.1∧P t.2.2:=fun t ht=>by
  obtain⟨d,hd,hq⟩:=List.mem_filterMap.1 ht
  exact SR hP hE hA hn (hl d hd) hq
 refine⟨fun d hd=>?_,fun d hd=>?_,fun h0 p hp=>?_⟩
 ·obtain⟨t,ht,rfl⟩:=List.mem_map.1 hd;exact (key t ht).2.1
 ·obtain⟨t,ht,rfl⟩:=List.mem_map.1 hd;exact (key t ht).2.2
 ·obtain⟨t,ht,rfl⟩:=List.mem_map.1 hp
  exact (lB hA (key t ht).1 (jK h0 _ (List.mem_map_of_mem (f:=fun t=>(bB t.1).2) ht))).2
theorem IU {l:List D} (hl:Gds n l) (hp:∀d∈l,P d) (h0:(mN ev l).2=0):Good Q A (mN ev l).1:=by
 match l,hl,hp,h0 with
 | [],_,_,h0=>cases h0
 | [_],_,_,h0=>cases h0
 | a::b::r,hl,hp,h0 =>
  have g1:=(uQ (fQ hl.head)).1
  have g2:=fQ hl.tail.head
  have hlen:=(fQ hl.head).len
  have hrl:=hl.tail.tail.len
  obtain⟨p1,p2,p3⟩:=UA hP hE hA hn (rC hP (hp a (by simp)))
  have p4:=rC hP (hp b (by simp))
  rw [oL] at h0 ⊢
  by_cases hall:(aN a).1.all (fun d=>(kY d).isSome)=true
  case neg=>rw [if_neg hall] at h0;cases h0
  rw [if_pos hall] at h0 ⊢
  generalize tI (aN a).1=I at g1 p1 h0 ⊢
  generalize tS (aN a).1=S at g1 p2 h0 ⊢
  generalize tN (aN a).1=N at p3 h0 ⊢
  generalize (aN b).1=B at g2 p4 h0 ⊢
  cases B with
  | nil=>exact absurd (show (2:Nat)=0 from h0) (by decide)
  | cons e es =>
   unfold qZ at h0 ⊢
   dsimp only at h0 ⊢
   obtain⟨h1,zc⟩:=mz h0
   obtain⟨h2,zv⟩:=mz h1
   obtain⟨h3,zx⟩:=mz h2
   obtain⟨h4,zf⟩:=mz h3
   obtain⟨h5,za⟩:=mz h4
   obtain⟨h6,zn⟩:=mz h5
   obtain⟨h7,zb⟩:=mz h6
   obtain⟨h8,zl⟩:=mz h7
   obtain⟨ze,zt⟩:=mz h8
   obtain⟨h9,zu⟩:=mz ze
   obtain⟨h10,-⟩:=mz h9
   obtain⟨-,zT⟩:=mz h10
   clear h0 h1 h2 h3 h4 h5 h6 h7 h8 ze h9 h10
   have hA':Cov P (fun s=>A s∨s=dT):=fun d h1 h2=>⟨.inl (hA d h1 h2).1,(hA d h1 h2).2⟩
   refine kQ zc (by simp) fun x hx=>?_
   rcases List.mem_cons.1 hx with rfl|hx
   ·refine uT (B:=fun s=>A s∨s=dT) zx (by simp;decide) (by simp) (fun s hs=>hs.imp id (by simp)) (fun y hy=>?_) (.ref (.inr rfl) (by decide))
    rw [List.mem_singleton.1 hy]
    refine uS (B:=fun s=>A s∨s=dT) zf (oM zu) (p3 zT) (fun s hs=>.inl hs) (.branch (hE.e e g2.head (p4 e (by simp)) _ hA' zt) ?_ (rB (by simp) (by simp [aL];omega) fun z hz=>?_))
    ·by_cases hes:es=[]
     ·rw [if_pos hes];exact pT hP hE hA' hn
     ·rw [if_neg hes] at zl ⊢
      exact gU hE hA' hn g2.tail (fun d hd=>p4 d (by simp [hd])) zl
    ·rcases List.mem_append.1 hz with hz|hz
     ·exact jL hE hA' hl.tail.tail (fun d hd=>hp d (by simp [hd])) zb z hz
     ·rw [List.mem_singleton.1 hz]
      refine kQ za (by simp) fun u hu=>?_
      rcases List.mem_cons.1 hu with rfl|hu
      ·exact .ref (.inr rfl) (by decide)
      ·exact jL hE hA' g1.2 p2 zn u hu
   ·exact jL hE hA g1.1 p1 zv x hx
end
end Go.Proofs.YtaeioidifpebdaaGreatDoor
end
section
namespace Go.Proofs.YtaeioidifpebdaaGreatDoor
open Go Go.RowKit Go.Lib
set_option linter.unusedSimpArgs false
set_option linter.unusedVariables false
set_option linter.unusedSectionVars false
set_option maxRecDepth 100000
set_option maxHeartbeats 1000000
mutual
def K.lh:K→Nat
 | .mk k _ _ _ _ l=>lhs l+if k=6 then 1 else 0
def lhs:List K→Nat
 | []=>0
 | x::l=>max x.lh (lhs l)
end
theorem LZ (ev:Ev) (a b:D) (r:List D):fA ev (a::b::r)=if a.k=7 then ((bB a.fst).1,(cQ ev a.snd (b::r)).1,max (bB a.fst).2 (cQ ev a.snd (b::r)).2)
  else ((bB a).1,(ev.e b).1,max (if r=[] then (bB a).2 else max (bB a).2 2) (ev.e b).2):=rfl
structure LB (N H:Nat) (ev:Ev):Prop where
 e:∀d,Gd N d→(ev.e d).1.lh≤H
 b:∀l,Gds N l→(ev.b l).1.lh≤H
 q:∀d k,Gd N d→(ev.q d k).1.lh≤H
section
variable {N H:Nat} {ev:Ev} (h:LB N H ev)
include h
end
end Go.Proofs.YtaeioidifpebdaaGreatDoor
end
section
namespace Go.Proofs.YtaeioidifpebdaaGreatDoor
open Go Go.RowKit Go.Lib
set_option linter.unusedSimpArgs false
set_option linter.unusedVariables false
set_option linter.unusedSectionVars false
set_option maxRecDepth 100000
section
variable {Q P:D→Prop} {A:ByteArray→Prop} {n:Nat} {ev:Ev}
variable (hP:Pc Q P) (hE:GE Q P n ev) (hA:Cov P A) (hn:n≤100000000)
include hP hE hA hn
theorem pU {a d:K} (ha:Good Q A a) (hd:Good Q A d):Good Q A (wJ a d):=by
 refine .call (by simp) (by simp) fun x hx=>?_
 simp only [List.mem_cons,List.not_mem_nil,or_false] at hx
 rcases hx with rfl|rfl|rfl
 ·exact .prim (by decide)
 ·exact ha
 ·exact hd
theorem rD {s:ByteArray} {x:K} (hs:Q (bU s)) (hx:Good Q A x):Good Q A (pI s x) :=
 pU hP hE hA hn (.const hs) (pU hP hE hA hn hx (.const hP.nil))
theorem DD {d:D} (ht:d.Two) (hd:P d) {s:ByteArray} {x:List D} (h:dH d s=some x):∀y∈x,P y:=by
 unfold dH at h
 split at h
 ·rename_i hk
  split at h
  ·cases h
   have hl:=ht.pair hk.1
   exact nN hP _ (hP.kid d _ hd (by rw [hl];simp))
  ·cases h
 ·cases h
theorem IV {d:D} (ht:d.Two) (hd:P d) {s:ByteArray} {y:D} (h:qE d s=some y):P y:=by
 unfold qE at h
 split at h
 ·rename_i x hx
  cases h
  exact DD hP hE hA hn ht hd hx _ (by simp)
 ·cases h
theorem IW {d:D} (hd:Gd (n+1) d) (hp:P d) (k:Nat) (h0:(mO ev d k).2=0):Good Q A (mO ev d k).1:=by
 unfold mO at h0 ⊢
 cases h1:qE d yN with
 | some y =>
  have hy:=(lU hd h1).1
  have py:=IV hP hE hA hn hd.1 hp h1
  rw [h1] at h0
  dsimp only at h0 ⊢
  by_cases hk:k=1
  ·rw [if_pos hk] at h0 ⊢;exact hE.e y hy py A hA h0
  ·rw [if_neg hk] at h0 ⊢;exact rD hP hE hA hn hP.sym.1 (hE.q y _ hy py A hA h0)
 | none =>
  rw [h1] at h0
  dsimp only at h0 ⊢
  cases h2:qE d eT with
  | some y =>
   have hy:=(lU hd h2).1
   have py:=IV hP hE hA hn hd.1 hp h2
   rw [h2] at h0
   dsimp only at h0 ⊢
   exact rD hP hE hA hn hP.sym.2.1 (hE.q y _ hy py A hA h0)
  | none =>
   rw [h2] at h0
   dsimp only at h0 ⊢
   by_cases h8:d.k=8
   ·have hv:=hd.vec h8
    have:=hd.2.2
    rw [if_pos h8] at h0 ⊢
    dsimp only at h0 ⊢
    refine .call (by simp) (by simp) fun x hx=>?_
    simp only [List.mem_cons,List.not_mem_nil,or_false] at hx
    rcases hx with rfl|rfl
    ·exact .prim (by decide)
    ·exact hE.q _ _ ⟨hv.1.1,hv.1.2.1,by omega⟩ (hP.vec d hp h8) A hA h0
   ·rw [if_neg h8] at h0 ⊢
    by_cases h7:d.k=7
    ·obtain⟨hl,hf,hs,hm⟩:=hd.pair h7
     have:=hd.2.2
     have p1:=gG d.fst
     have p2:=gG d.snd
     have hf':Gd n d.fst:=⟨hf.1,hf.2.1,by omega⟩
     have hs':Gd n d.snd:=⟨hs.1,hs.2.1,by omega⟩
     have pf:P d.fst:=hP.kid d _ hp (by rw [hl];simp)
     have ps:P d.snd:=hP.kid d _ hp (by rw [hl];simp)
     rw [if_pos h7] at h0 ⊢
     cases h3:qE d.fst iX with
     | some y =>
      have hy:=(lU hf h3).1
      have py:=IV hP hE hA hn hf.1 pf h3
      rw [h3] at h0
      dsimp only at h0 ⊢
      by_cases hk:k=1
      ·rw [if_pos hk] at h0 ⊢
       dsimp only at h0 ⊢
       refine .call (by simp) (by simp) fun x hx=>?_
       simp only [List.mem_cons,List.not_mem_nil,or_false] at hx
       rcases hx with rfl|rfl|rfl
       ·exact .prim (by decide)
       ·exact hE.e y hy py A hA (by omega)
       ·exact hE.q _ _ hs' ps A hA (by omega)
      ·rw [if_neg hk] at h0 ⊢
       dsimp only at h0 ⊢
       exact pU hP hE hA hn (rD hP hE hA hn hP.sym.2.2 (hE.q y _ hy py A hA (by omega))) (hE.q _ _ hs' ps A hA (by omega))
     | none =>
      rw [h3] at h0
      dsimp only at h0 ⊢
      exact pU hP hE hA hn (hE.q _ _ hf' pf A hA (by omega)) (hE.q _ _ hs' ps A hA (by omega))
    ·rw [if_neg h7] at h0 ⊢
     exact .const (hP.q d hp)
theorem DE (w:ByteArray) {l:List D} (hl:Gds n l) (hp:∀d∈l,P d) (h0:(bA ev w l).2=0):Good Q A (bA ev w l).1:=by
 unfold bA at h0 ⊢
 repeat' (split at h0<;>rename_i hc<;>first|rw [if_pos hc]|rw [if_neg hc])
 ·exact OY hP hE hA hn hl hp h0
 ·exact LX hP hE hA hn hl hp h0
 ·exact FO hP hE hA hn hl hp h0
 ·exact BK hP hE hA hn hl hp h0
 ·exact IU hP hE hA hn hl hp h0
 ·exact sZ hP hE hA hn true hl hp h0
 ·exact sZ hP hE hA hn false hl hp h0
 ·cases h0
theorem FP {l:List D} (hp:∀d∈l,P d) {i:Nat} (hi:i<l.length):P (l.getD i cA):=by
 have:l.getD i cA=l[i]:=by simp [List.getD,hi]
 rw [this];exact hp _ (List.getElem_mem hi)
end
section
variable {Q P:D→Prop} {A:ByteArray→Prop} {n:Nat} {ev:Ev}
variable (hP:Pc Q P) (hE:GE Q P n ev) (hA:Cov P A) (hn:n≤100000000)
include hP hE hA hn
theorem uU {l:List D} (hl:Gds n l) (hp:∀d∈l,P d) {i:Nat} (hi:i<l.length) (h0:(ev.e (l.getD i cA)).2=0):Good Q A (ev.e (l.getD i cA)).1 :=
 hE.e _ (CZ hl hi) (FP hP hE hA hn hp hi) A hA h0
theorem oO {l:List D} (hl:Gds n l) (hp:∀d∈l,P d) (h0:(aL ev.e l).2=0) {i:Nat} (hi:i<l.length):Good Q A (ev.e (l.getD i cA)).1:=by
 refine uU hP hE hA hn hl hp hi (jK h0 _ (List.mem_map_of_mem (f:=fun d=>(ev.e d).2) ?_))
 rw [show l.getD i cA=l[i] by simp [List.getD,hi]]
 exact List.getElem_mem hi
theorem MA (w:ByteArray) {l:List D} (hl:Gds n l) (hp:∀d∈l,P d) (h0:(bT ev w l).2=0):Good Q A (bT ev w l).1:=by
 have hd:∀d∈l.drop 1,P d:=fun d h=>hp d (List.mem_of_mem_drop h)
 have nt:Good Q A bI:=.const (hP.kd 9 (by simp))
 unfold bT at h0 ⊢
 repeat' (split at h0<;>rename_i hc<;>first|rw [if_pos hc]|rw [if_neg hc])
 ·exact .const (hP.q _ (FP hP hE hA hn hp (by omega)))
 ·exact hE.q _ _ (CZ hl (by omega)) (FP hP hE hA hn hp (by omega)) A hA h0
 ·exact sH hP hE hA (FP hP hE hA hn hp (by omega)) (hl.drop 1) hd h0
 ·obtain⟨h1,h2⟩:=mz h0
  have:=lB hA (FP hP hE hA hn hp (i:=0) (by omega)) h1
  exact .set this.1 this.2 (uU hP hE hA hn hl hp (by omega) h2)
 ·exact .branch (oO hP hE hA hn hl hp h0 (by omega)) (oO hP hE hA hn hl hp h0 (by omega)) nt
 ·exact .branch (oO hP hE hA hn hl hp h0 (by omega)) (oO hP hE hA hn hl hp h0 (by omega)) (oO hP hE hA hn hl hp h0 (by omega))
 ·exact gU hE hA hn hl hp h0
 ·exact LY hP hE hA hn hl hp h0
 ·obtain⟨h1,h2⟩:=mz h0
  exact .branch (uU hP hE hA hn hl hp (by omega) h1) (gU hE hA hn (hl.drop 1) hd h2) nt
 ·obtain⟨h1,h2⟩:=mz h0
  exact .branch (uU hP hE hA hn hl hp (by omega) h1) nt (gU hE hA hn (hl.drop 1) hd h2)
 ·exact DE hP hE hA hn w hl hp h0
theorem vL {d:D} (hd:Gd (n+1) d) (hp:P d) (h0:(dM ev d).2=0):Good Q A (dM ev d).1:=by
 unfold dM at h0 ⊢
 by_cases k0:d.k=0
 ·rw [if_pos k0] at h0;cases h0
 rw [if_neg k0] at h0 ⊢
 by_cases k6:d.k=6
 ·rw [if_pos k6] at h0 ⊢
  have:=lB hA hp h0
  exact .ref this.1 this.2
 rw [if_neg k6] at h0 ⊢
 by_cases h7:d.k=7
 ·rw [if_pos h7] at h0 ⊢
  by_cases he:fE d=0
  ·rw [if_pos he] at h0 ⊢
   have hgi:Gds n (items d):=by
    have:=yO h7
    have:=hd.2.2
    exact⟨(jQ d hd.1 hd.2.1).1,(jQ d hd.1 hd.2.1).2,by omega⟩
   have hpi:=nN hP d hp
   generalize items d=it at hgi hpi h0 ⊢
   match it,hgi,hpi,h0 with
   | [],_,_,h0=>cases h0
   | a::r,hgi,hpi,h0 =>
    dsimp only at h0 ⊢
    by_cases hk:a.k=6∧nB a.t=true
    ·rw [if_pos hk] at h0 ⊢
     exact MA hP hE hA hn a.t hgi.tail (fun d hd=>hpi d (by simp [hd])) h0
    ·rw [if_neg hk] at h0 ⊢
     obtain⟨h1,h2⟩:=mz h0
     exact kQ h2 (by simp [aL]) (jL hE hA hgi hpi h1)
  ·rw [if_neg he] at h0;cases h0
 ·rw [if_neg h7]
  exact .const (hP.q d hp)
theorem OZ {l:List D} (hl:Gds n l) (hp:∀d∈l,P d) (h0:(fA ev l).2.2=0):(A (fA ev l).1∧(fA ev l).1≠e0)∧Good Q A (fA ev l).2.1:=by
 match l,hl,hp,h0 with
 | [],_,_,h0=>cases h0
 | [_],_,_,h0=>cases h0
 | a::b::r,hl,hp,h0 =>
  have pa:P a:=hp a (by simp)
  rw [LZ] at h0 ⊢
  by_cases h7:a.k=7
  ·rw [if_pos h7] at h0 ⊢
   obtain⟨h1,h2⟩:=mz h0
   have hl2:=hl.head.1.pair h7
   exact⟨lB hA (hP.kid a _ pa (by rw [hl2];simp)) h1,sH hP hE hA (hP.kid a _ pa (by rw [hl2];simp)) hl.tail (fun d hd=>hp d (by simp only [List.mem_cons] at hd ⊢;exact .inr hd)) h2⟩
  ·rw [if_neg h7] at h0 ⊢
   obtain⟨h1,h2⟩:=mz h0
   have h1:(bB a).2=0:=by split at h1<;>omega
   exact⟨lB hA pa h1,hE.e b hl.tail.head (hp b (by simp)) A hA h2⟩
theorem PA:∀(m:Nat) {k:Nat} {l:List D},Gds k l→(∀d∈l,P d)→∀d∈uD m l,P d
 | 0,_,_,_,hp=>hp
 | m+1,k,l,hl,hp=>by
  intro d hd
  rw [uD] at hd
  obtain⟨x,hx,hd⟩:=List.mem_flatMap.1 hd
  cases ho:dH x cM with
  | none=>rw [ho] at hd;rw [List.mem_singleton.1 hd];exact hp x hx
  | some y =>
   rw [ho] at hd
   exact PA m (iW (hl.mem hx) ho).1 (DD hP hE hA hn (hl.mem hx).1 (hp x hx) ho) d hd
theorem BL (he:∀d,Gd (n+1) d→P d→(ev.e d).2=0→Good Q A (ev.e d).1):∀(l:List D) (s:Bs),Gds (n+1) l→(∀d∈l,P d) →
  (s.err=0→(∀p∈s.names,A p∧p≠e0)∧(∀x∈s.values,Good Q A x)∧∀x∈s.rest,Good Q A x)→(l.foldl (cE ev) s).err=0 →
  (∀p∈(l.foldl (cE ev) s).names,A p∧p≠e0)∧(∀x∈(l.foldl (cE ev) s).values,Good Q A x)∧∀x∈(l.foldl (cE ev) s).rest,Good Q A x
 | [],s,_,_,hs,h0=>hs h0
 | d::l,s,hl,hp,hs,h0=>by
  rw [List.foldl_cons] at h0 ⊢
  refine BL he l _ hl.tail (fun x hx=>hp x (by simp [hx])) ?_ h0
  have pd:=hp d (by simp)
  unfold cE
  cases ho:dH d eR with
  | none =>
   intro h
   obtain⟨h1,h2⟩:=mz h
   obtain⟨g1,g2,g3⟩:=hs h1
   refine⟨g1,g2,fun x hx=>?_⟩
   rcases List.mem_append.1 hx with hx|hx
   ·exact g3 x hx
   ·rw [List.mem_singleton.1 hx];exact he d hl.head pd h2
  | some x =>
   intro h
   dsimp only at h
   have h12:s.err=0∧(fA ev x).2.2=0:=by
    split at h
    ·exact mz h
    ·exact mz (mz h).1
   obtain⟨q1,q2⟩:=iW hl.head ho
   have hx:Gds n x:=⟨q1.1,q1.2.1,by have:=hl.head.2.2;omega⟩
   obtain⟨g1,g2,g3⟩:=hs h12.1
   obtain⟨w1,w2⟩:=OZ hP hE hA hn hx (DD hP hE hA hn hl.head.1 pd ho) h12.2
   refine⟨fun p hp=>?_,fun y hy=>?_,g3⟩
   ·rcases List.mem_append.1 hp with hp|hp
    ·exact g1 p hp
    ·rw [List.mem_singleton.1 hp];exact w1
   ·rcases List.mem_append.1 hy with hy|hy
    ·exact g2 y hy
    ·rw [List.mem_singleton.1 hy];exact w2
theorem MB (he:∀d,Gd (n+1) d→P d→(ev.e d).2=0→Good Q A (ev.e d).1) {l:List D} (hl:Gds (n+1) l) (hp:∀d∈l,P d) (h0:(uF ev l).2=0):Good Q A (uF ev l).1:=by
 have hs:=(CR hl).1
 have hlen:=FG ev (spl l)
 have hsl:=hs.len
 unfold uF pH at h0 ⊢
 have key:=BL hP hE hA hn he (spl l) ⟨[],[],[],0⟩ hs (PA hP hE hA hn _ hl hp) (fun _=>⟨by simp,by simp,by simp⟩)
 change (lG ev (spl l)).err=0→(∀p∈(lG ev (spl l)).names,A p∧p≠e0)∧(∀x∈(lG ev (spl l)).values,Good Q A x)∧∀x∈(lG ev (spl l)).rest,Good Q A x at key
 generalize lG ev (spl l)=s at key h0 hlen ⊢
 by_cases h1:s.rest=[]
 ·rw [if_pos h1] at h0;exact absurd (mz h0).2 (by decide)
 rw [if_neg h1] at h0 ⊢
 by_cases h2:s.names=[]
 ·rw [if_pos h2] at h0 ⊢
  exact rB h1 (by omega) (key h0).2.2
 ·rw [if_neg h2] at h0 ⊢
  obtain⟨q1,q2⟩:=mz h0
  obtain⟨g1,g2,g3⟩:=key q1
  exact uT (B:=A) q2 (fun p hp=>(g1 p hp).2) (by omega) (fun s hs=>.inl hs) g2 (rB h1 (by omega) g3)
end
section
variable {Q P:D→Prop}
theorem FQ (hP:Pc Q P):∀n,n≤100000000→GE Q P n (evs n)
 | 0,_=>⟨fun d hd=>absurd hd.2.2 (Nat.not_lt_zero _),fun d hd=>absurd hd.2.2 (Nat.not_lt_zero _),fun d k hd=>absurd hd.2.2 (Nat.not_lt_zero _)⟩
 | n+1,h=>by
  have ih:=FQ hP n (by omega)
  have hh:GE Q P n ⟨dM (evs n),(evs n).b,(evs n).q⟩:=⟨fun d hd hp A hA h0=>vL hP ih hA (by omega) (hd.le (Nat.le_succ n)) hp h0,ih.b,ih.q⟩
  exact⟨fun d hd hp A hA h0=>by rw [evs] at h0 ⊢;exact vL hP ih hA (by omega) hd hp h0,
   fun l hl hp A hA h0=>by rw [evs] at h0 ⊢;exact MB hP hh hA (by omega) (fun d hd hp h0=>vL hP ih hA (by omega) hd hp h0) hl hp h0,
   fun d k hd hp A hA h0=>by rw [evs] at h0 ⊢;exact IW hP hh hA (by omega) hd hp k h0⟩
inductive TopG (Q:D→Prop) (A:ByteArray→Prop):K→Prop
 | good {k}:Good Q A k→TopG Q A k
 | dfn {s x}:A s→s≠e0→Good Q A x→TopG Q A (.mk 4 s e0 [] cA [x])
 | seq {l}:2≤l.length→l.length≤200000000→(∀x∈l,TopG Q A x)→TopG Q A (.mk 7 e0 e0 [] cA l)
theorem TopG.ok (hQ:∀d,Q d→d.Ok) {A:ByteArray→Prop} {k:K} (h:TopG Q A k):k.Ok:=by
 induction h with
 | good h=>exact h.ok hQ
 | dfn h h0 hx=>exact⟨by decide,by simp,fT,by simp,hx.ok hQ,trivial⟩
 | seq h1 h2 _ ih=>exact⟨by decide,by simp,fT,by omega,K.Oks.ofMem ih⟩
end
end Go.Proofs.YtaeioidifpebdaaGreatDoor
end
section
namespace Go.Proofs.YtaeioidifpebdaaGreatDoor
open Go Go.RowKit Go.Lib
set_option linter.unusedSimpArgs false
set_option linter.unusedVariables false
set_option maxRecDepth 100000
mutual
def D.syms:D→List ByteArray
 | .mk k _ _ _ t l=>(if k=6 then [t] else [])++oP l
def oP:List D→List ByteArray
 | []=>[]
 | d::l=>d.syms++oP l
end
theorem D.syms_eq (d:D):d.syms=(if d.k=6 then [d.t] else [])++oP d.l:=by cases d;rw [D.syms];rfl
theorem BM {d:D} {s:ByteArray}:∀{l:List D},d∈l→s∈d.syms→s∈oP l
 | x::l,h,hs=>by
  rw [oP]
  rcases List.mem_cons.1 h with rfl|h
  ·exact List.mem_append_left _ hs
  ·exact List.mem_append_right _ (BM h hs)
theorem PB {d x:D} (h:x∈d.l) {s:ByteArray} (hs:s∈x.syms):s∈d.syms:=by
 rw [D.syms_eq];exact List.mem_append_right _ (BM h hs)
theorem wP:∀l:List D,(aK l).syms=oP l
 | []=>rfl
 | d::l=>by
  have:=wP l
  rw [show aK (d::l)=.mk 7 0 false [] e0 [d,aK l] from rfl,D.syms,oP,oP,oP,this,oP]
  simp
theorem zL:∀(d:D),d.Plain→∀s∈d.syms,s≠e0
 | .mk k c neg mag t l,h,s,hs=>by
  rw [D.Plain] at h
  rw [D.syms] at hs
  rcases List.mem_append.1 hs with hs|hs
  ·split at hs
   ·rename_i hk
    rw [List.mem_singleton.1 hs]
    intro e
    have:=h.2.2.2.2.1 hk
    rw [e] at this
    exact absurd this (by decide)
   ·simp at hs
  ·have key:∀d∈l,∀s∈d.syms,s≠e0:=fun d hd=>by
    obtain⟨i,hi,rfl⟩:=List.mem_iff_getElem.1 hd
    exact zL l[i] ((Plains.iff l).1 h.2.2.2.2.2.2.2.2 i hi)
   have:∀(m:List D),(∀d∈m,d∈l)→∀s∈oP m,s≠e0:=fun m=>by
    induction m with
    | nil=>intro _ s hs;simp [oP] at hs
    | cons x m ih =>
     intro hm s hs
     rw [oP] at hs
     rcases List.mem_append.1 hs with hs|hs
     ·exact key x (hm x (by simp)) s hs
     ·exact ih (fun y hy=>hm y (by simp [hy])) s hs
   exact this l (fun _ h=>h) s hs
termination_by d=>SizeOf.sizeOf d
decreasing_by
 all_goals simp_wf
 all_goals (have:=List.sizeOf_lt_of_mem hd;omega)
def TN (L:List ByteArray) (d:D):Prop:=d.Ok∧∀s∈d.syms,s∈L∧s≠e0
theorem D.Ok.kid {d x:D} (h:d.Ok) (hx:x∈d.l):x.Ok:=h.l.mem hx
theorem QQ (L:List ByteArray):Pc D.Ok (TN L) where
 kid d x h hx:=⟨h.1.kid hx,fun s hs=>h.2 s (PB hx hs)⟩
 vec d h _:=⟨dK h.1.l,fun s hs=>h.2 s (by rw [wP] at hs;rw [D.syms_eq];exact List.mem_append_right _ hs)⟩
 q d h:=h.1
 kd k h:=CD (by omega)
 nil:=fT
 sym:=⟨pK (by decide),pK (by decide),pK (by decide)⟩
theorem PC (L:List ByteArray):Cov (TN L) (·∈L):=fun d h hk=>h.2 d.t (by rw [D.syms_eq,if_pos hk];simp)
mutual
def K.Cl:K→List ByteArray→Bool→Prop
 | .mk k name rest params d l,free,top=>if k=6 then params.Nodup∧rest∉params∧params.length≤40∧l.length=1∧Cls l (free++params++[rest]) false else
  ((k=2∨k=3)→name∈free)∧(k=4→top=true∧name∈free)∧Cls l free (top&&decide (k=7))
def Cls:List K→List ByteArray→Bool→Prop
 | [],_,_=>True
 | x::l,free,top=>x.Cl free top∧Cls l free top
end
theorem Cls.ofMem {free:List ByteArray} {top:Bool}:∀{l:List K},(∀x∈l,x.Cl free top)→Cls l free top
 | [],_=>trivial
 | x::l,h=>⟨h x (by simp),Cls.ofMem fun y hy=>h y (by simp [hy])⟩
theorem Cls.get {free:List ByteArray} {top:Bool}:∀{l:List K},Cls l free top→∀i (h:i<l.length),l[i].Cl free top
 | x::l,h,0,_=>h.1
 | x::l,h,i+1,hi=>Cls.get h.2 i (by simpa using hi)
theorem Good.cl {Q:D→Prop} {A:ByteArray→Prop} {k:K} (h:Good Q A k):∀{free:List ByteArray} {top:Bool},(∀s,A s→s∈free)→k.Cl free top:=by
 induction h with
 | const h=>intro free top hf;simp [dR,K.Cl,Cls]
 | ref h h0=>intro free top hf;simp [bL,K.Cl,Cls];exact hf _ h
 | prim h0=>intro free top hf;simp [fS,K.Cl,Cls]
 | set h h0 _ ih=>intro free top hf;simp [rY,K.Cl,Cls];exact⟨hf _ h,ih hf⟩
 | branch _ _ _ i1 i2 i3=>intro free top hf;simp [aE,K.Cl,Cls];exact⟨i1 hf,i2 hf,i3 hf⟩
 | seq h1 h2 _ ih=>intro free top hf;simp [K.Cl];exact Cls.ofMem fun x hx=>ih x hx hf
 | call h1 h2 _ ih=>intro free top hf;simp [gZ,K.Cl];exact Cls.ofMem fun x hx=>ih x hx hf
 | lam h1 h2 h3 h4 h5 h6 ih =>
  intro free top hf
  rw [K.Cl,if_pos rfl]
  refine⟨h1,h2,by omega,rfl,ih fun s hs=>?_,trivial⟩
  rcases h5 s hs with h|h|h
  ·simp [hf s h]
  ·simp [h]
  ·simp [h]
 | none=>intro free top hf;simp [lJ,K.Cl,Cls]
theorem TopG.cl {Q:D→Prop} {A:ByteArray→Prop} {k:K} (h:TopG Q A k) {free:List ByteArray} (hf:∀s,A s→s∈free):k.Cl free true:=by
 induction h with
 | good h=>exact h.cl hf
 | dfn h h0 hx=>simp [K.Cl,Cls];exact⟨hf _ h,hx.cl hf⟩
 | seq h1 h2 _ ih=>simp [K.Cl];exact Cls.ofMem ih
noncomputable def exV:Ev:=⟨exK,boK,fun d k=>(evs (d.msr+1)).q d k⟩
theorem JR (n:Nat):Agr n (evs n) exV:=⟨fun d hd=>QP hd,fun l hl=>TZ hl,fun d k hd=>((xH (d.msr+1) n hd.2.2).q d k ⟨hd.1,hd.2.1,Nat.lt_succ_self _⟩).symm⟩
theorem xI {d:D} (ht:d.Two) (ho:d.Ok):exK d=dM exV d:=by
 rw [SQ (n:=d.msr) ⟨ht,ho,Nat.lt_succ_self _⟩];exact IQ (JR _) ⟨ht,ho,Nat.lt_succ_self _⟩
theorem zM {d:D} (ht:d.Two) (ho:d.Ok) (h1:dH d eR=none) (h2:dH d cM=none):jT d=dM exV d:=by
 rw [rO h1 h2];exact IQ (JR _) ⟨ht,ho,Nat.lt_succ_self _⟩
theorem MC {d:D} (hk:d.k=7) (hl:d.l=[d.fst,d.snd]):fE d=fE d.snd:=by
 generalize d.fst=a at hl
 generalize hb:d.snd=b at hl
 obtain⟨k,c,neg,mag,t,l⟩:=d
 have hk:k=7:=hk
 have hl:l=[a,b]:=hl
 subst hk hl
 rw [fE];simp [yL]
theorem BN {d:D} {s:ByteArray} {l:List D} (ev:Ev) (ht:d.Two) (hs:s∈oD) (h:dH d s=some l):dM ev d=bT ev s l:=by
 unfold dH at h
 split at h
 ·rename_i hk
  split at h
  ·rename_i he
   cases h
   have hl:=ht.pair hk.1
   have hsy:=hk.2
   unfold iP at hsy
   rw [Bool.and_eq_true,decide_eq_true_eq] at hsy
   have h3:=tB.1 hsy.2
   obtain⟨h4,h5⟩:=sU hk.1 hl
   unfold dM
   rw [if_neg (by omega),if_neg (by omega),if_pos hk.1,if_pos (by rw [MC hk.1 hl];exact he),h4]
   dsimp only
   rw [if_pos ⟨hsy.1,by rw [h3];exact RR hs⟩,h3]
  ·cases h
 ·cases h
theorem DF (ev:Ev) (l:List D):bT ev eR l=(kz,2):=by
 unfold bT
 (iterate 6 rw [if_neg (by rintro ⟨h,-⟩;exact absurd h (by decide))]);rw [if_neg (by decide)];(iterate 3 rw [if_neg (by rintro ⟨h,-⟩;exact absurd h (by decide))])
 unfold bA
 (iterate 2 rw [if_neg (by decide)]);rw [if_neg (by rintro (h|h)<;>exact absurd h (by decide))];(iterate 4 rw [if_neg (by decide)])
theorem FR {n:Nat}:∀(m:Nat) (d:D),d.msr<m→Gd n d→(exK d).2=0→(kZ (evs n) m d).2=0
 | 0,d,h,_,_=>absurd h (Nat.not_lt_zero _)
 | m+1,d,h,hd,h0=>by
  rw [kZ]
  cases h1:dH d eR with
  | some l=>rw [xI hd.1 hd.2.1,BN exV hd.1 (by simp [oD]) h1,DF] at h0;cases h0
  | none =>
   dsimp only
   cases h2:dH d cM with
   | none=>rw [←QP hd] at h0;exact h0
   | some l =>
    rw [xI hd.1 hd.2.1,BN exV hd.1 (by simp [oD]) h2,EX] at h0
    obtain⟨hl,hm⟩:=iW hd h2
    match l,hl,hm,h0 with
    | [],_,_,h0=>cases h0
    | a::r,hl,hm,h0 =>
     dsimp only
     unfold eN at h0
     rw [if_neg (by simp)] at h0
     have hz:=jK h0
     have:∀(l:List Nat),(∀x∈l,x=0)→gH l=0:=fun l hl=>by
      have:∀(l:List Nat) (a:Nat),a=0→(∀x∈l,x=0)→l.foldl max a=0:=by
       intro l
       induction l with
       | nil=>exact fun a h _=>h
       | cons y l ih=>exact fun a h hl=>ih _ (by rw [h,hl y (by simp)];rfl) fun x hx=>hl x (by simp [hx])
      exact this l 0 rfl hl
     refine this _ fun x hx=>?_
     obtain⟨y,hy,rfl⟩:=List.mem_map.1 hx
     exact FR m y (by have:=qR hy;omega) (hl.mem hy) (hz _ (List.mem_map_of_mem (f:=fun d=>(exV.e d).2) hy))
theorem zN {d:D} (h0:(kP d).2=0):uB d=true∧(jT d).2=0∧kP d=((jT d).1,0):=by
 unfold kP at h0 ⊢
 split at h0
 ·rename_i hb
  have h2:(jT d).2=0:=by
   generalize (jT d).2=n at h0
   match n,h0 with
   | 0,_=>rfl
   | 1,h0=>cases h0
   | n+2,h0=>cases h0
  rw [if_pos hb,if_pos h2,h2]
  exact⟨hb,rfl,rfl⟩
 ·cases h0
theorem QR {d:D} (hb:uB d=true) (h2:(jT d).2=0):kP d=((jT d).1,0):=by
 unfold kP;rw [if_pos hb,if_pos h2,h2];rfl
theorem mZ {w s:ByteArray} (l:List D) (h:w≠s):dH (aK (bU w::l)) s=none:=by
 rw [gJ,oG,aA h];rfl
def sV:ByteArray:=⟨#[118]⟩
def pIf (x y z:D):D:=aK [bU sIf,x,y,z]
def DG (x:D):D:=aK [bU mI,bU sV,x]
def AG (x:D):D:=aK [bU cH,aK [],x]
def rE (x y z:D):D:=aK [AG x,y,z]
def rF (p:D):D:=aK [bU sIf,p,p]
def lW (p:D):D:=aK [bU cM,rF p,p]
theorem PD (x:D):(AG x).k≠6:=by show (7:Int)≠6;decide
theorem okI:(bU sIf).Ok:=pK (by decide)
theorem okS:(bU mI).Ok:=pK (by decide)
theorem okV:(bU sV).Ok:=pK (by decide)
theorem okL:(bU cH).Ok:=pK (by decide)
theorem okB:(bU cM).Ok:=pK (by decide)
theorem ST {x y z:D} (hx:x.Ok) (hy:y.Ok) (hz:z.Ok) (h0:(kP (pIf x y z)).2=0) :
  kP (pIf x y z)=(aE (exK x).1 (exK y).1 (exK z).1,0)∧((exK x).2=0∧(exK y).2=0∧(exK z).2=0)∧x.Plain∧y.Plain∧z.Plain:=by
 obtain⟨hb,h2,he⟩:=zN h0
 have hp:=(mP.1 hb).1
 have hok:(pIf x y z).Ok:=dK ⟨okI,hx,hy,hz,trivial⟩
 have ht:=zM hp.two hok (mZ _ (by decide)) (mZ _ (by decide))
 have ht2:jT (pIf x y z)=(aE (exK x).1 (exK y).1 (exK z).1,(aL exK [x,y,z]).2):=by
  rw [ht,pIf,jC _ (by simp [oD]),KW];rfl
 rw [ht2] at h2 he
 have h3:=jK h2
 obtain⟨-,p1,p2,p3,-⟩:=dX.1 hp
 exact⟨he,⟨h3 _ (by simp),h3 _ (by simp),h3 _ (by simp)⟩,p1,p2,p3⟩
theorem QS {x:D} (hx:x.Ok) (h0:(kP (DG x)).2=0):kP (DG x)=(rY sV (exK x).1,0):=by
 obtain⟨hb,h2,he⟩:=zN h0
 have hp:=(mP.1 hb).1
 have hok:(DG x).Ok:=dK ⟨okS,okV,hx,trivial⟩
 have ht:=zM hp.two hok (mZ _ (by decide)) (mZ _ (by decide))
 have ht2:(jT (DG x)).1=rY sV (exK x).1:=by
  rw [ht,DG,jC _ (by simp [oD]),KU,uG (RS (by simp only [oD,List.mem_cons,List.not_mem_nil,or_false];decide))];rfl
 rw [ht2] at he
 exact he
theorem PE {x y z:D} (hx:x.Ok) (hy:y.Ok) (hz:z.Ok) (h0:(kP (rE x y z)).2=0):∃b,kP (rE x y z)=(gZ [.mk 6 e0 e0 [] cA [b],(exK y).1,(exK z).1],0):=by
 obtain⟨hb,h2,he⟩:=zN h0
 have hp:=(mP.1 hb).1
 have hlk:(AG x).Ok:=dK ⟨okL,fT,hx,trivial⟩
 have hok:(rE x y z).Ok:=dK ⟨hlk,hy,hz,trivial⟩
 have hh:∀s,dH (rE x y z) s=none:=fun s=>by rw [rE,gJ,GV (PD x)];rfl
 have ht:=zM hp.two hok (hh _) (hh _)
 obtain⟨p0,p1,p2,-⟩:=dX.1 hp
 have hl:exK (AG x)=(.mk 6 e0 e0 [] cA [(boK [x]).1],max (max 0 (boK [x]).2) 0):=by
  rw [xI p0.two hlk,AG,jC _ (by simp [oD]),uH]
  unfold cQ
  rw [CE]
  dsimp only
  rw [pL [] (by simp)];rfl
 have ht2:(jT (rE x y z)).1=gZ [.mk 6 e0 e0 [] cA [(boK [x]).1],(exK y).1,(exK z).1]:=by
  rw [ht,rE,yU _ (.inl (PD x))]
  simp only [aL,List.map_cons,List.map_nil]
  rw [qS (by simp)]
  show gZ [(exK (AG x)).1,(exK y).1,(exK z).1]=_
  rw [hl]
 rw [ht2] at he
 exact⟨_,he⟩
theorem vM {p:D} (hp:p.Ok) (hpl:p.Plain) (hd:p.depth≤50) (h0:(exK p).2=0):∃q,kP (lW p)=(.mk 7 e0 e0 [] cA [aE (exK p).1 (exK p).1 bI,q],0):=by
 have hi:(rF p).Plain:=dX.2 ⟨(iJ _).2 (by decide),hpl,hpl,trivial⟩
 have ht:(lW p).Plain:=dX.2 ⟨(iJ _).2 (by decide),hi,hpl,trivial⟩
 have hm:uB (lW p)=true:=mP.2 ⟨ht,by simp [lW,rF,lA,ET,rN];omega⟩
 have oi:(rF p).Ok:=dK ⟨okI,hp,hp,trivial⟩
 have ot:(lW p).Ok:=dK ⟨okB,oi,hp,trivial⟩
 have gm:bZ [rF p,p]<(lW p).msr:=by
  rw [lW,fG];simp only [bZ,List.length_cons];omega
 simp only [bZ] at gm
 have gi:Gd ((lW p).msr+1) (rF p):=⟨hi.two,oi,by omega⟩
 have gp:Gd ((lW p).msr+1) p:=⟨hpl.two,hp,by omega⟩
 have hei:exK (rF p)=(aE (exK p).1 (exK p).1 bI,0):=by
  rw [xI hi.two oi,rF,jC _ (by simp [oD]),KV]
  show (aE (exK p).1 (exK p).1 bI,gH [(exK p).2,(exK p).2])=_
  rw [h0];rfl
 have t1:kZ (evs ((lW p).msr+1)) (lW p).msr (rF p)=exK (rF p):=by
  obtain⟨k,hk⟩:∃k,(lW p).msr=k+1:=⟨(lW p).msr-1,by omega⟩
  conv=>lhs;arg 2;rw [hk]
  rw [kZ,rF,mZ _ (by decide)]
  dsimp only
  rw [mZ _ (by decide)]
  exact QP gi
 have t2:=FR (lW p).msr p (by omega) gp h0
 have htop:jT (lW p)=(.mk 7 e0 e0 [] cA [aE (exK p).1 (exK p).1 bI,(kZ (evs ((lW p).msr+1)) (lW p).msr p).1],0):=by
  have e1:dH (lW p) eR=none:=mZ _ (by decide)
  have e2:dH (lW p) cM=some [rF p,p]:=by rw [lW,gJ,oG,bG rfl];rfl
  unfold jT
  rw [kZ,e1]
  dsimp only
  rw [e2]
  simp only [List.map_cons,List.map_nil,t1,hei,t2]
  rfl
 exact⟨_,by rw [QR hm (by rw [htop]),htop]⟩
theorem PF {x:D} (hx:x.Ok) (hp:x.Plain) (hm:x.msr+1≤100000000) (h0:(exK x).2=0):(exK x).1.Ok :=
 ((FQ (QQ x.syms) (x.msr+1) hm).e x ⟨hp.two,hx,Nat.lt_succ_self _⟩ ⟨hx,fun s hs=>⟨hs,zL x hp s hs⟩⟩ _ (PC _) h0).ok fun _ h=>h
end Go.Proofs.YtaeioidifpebdaaGreatDoor
end
