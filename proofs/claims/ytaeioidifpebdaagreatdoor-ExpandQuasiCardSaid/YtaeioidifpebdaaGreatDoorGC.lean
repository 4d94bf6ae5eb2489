/-
 Laid together: Meas18, Stb18, Good18, Gooe18, Goof18, Goog18, Gooh18, Lam18, Gooi18, Gooj18, Sym18, Fix18, Par18, Small, Lit18, Bod18.
-/
import Derived.Test.YtaeioidifpebdaaGreatDoorG6
import Derived.Test.YtaeioidifpebdaaGreatDoorG5
import Derived.Test.YtaeioidifpebdaaGreatDoorG9
import Derived.Test.YtaeioidifpebdaaGreatDoorGA
import Derived.Test.YtaeioidifpebdaaGreatDoorPlain2
section
namespace Go.Proofs.YtaeioidifpebdaaGreatDoor
open Go Go.RowKit Go.Lib
set_option linter.unusedSimpArgs false
set_option linter.unusedVariables false
set_option maxHeartbeats 4000000
set_option maxRecDepth 100000
def p18:Nat × Nat × Nat × Nat:=(300,100,1000,1000)
theorem LN (d:D) (left:Int):d.weigh p18 left=if 300<d.t.size∨100<d.mag.length then -1 else dM p18 d.l (left-1):=by
 rw [D.weigh_eq]
 show (if 300<d.t.size∨100<d.mag.length then (-1:Int) else dM p18 d.l (left-1-(d.t.size / 1000:Nat)-(d.mag.length / 1000:Nat)))=_
 by_cases h:300<d.t.size∨100<d.mag.length
 ·rw [if_pos h,if_pos h]
 ·rw [if_neg h,if_neg h,Nat.div_eq_of_lt (by omega),Nat.div_eq_of_lt (by omega)]
  simp
mutual
theorem WI:∀(d:D) (left:Int),-1≤left→-2≤d.weigh p18 left∧d.weigh p18 left≤max left (-1)
 | .mk k c neg mag t l,left,h=>by
  rw [LN]
  by_cases hc:300<(D.mk k c neg mag t l).t.size∨100<(D.mk k c neg mag t l).mag.length
  ·rw [if_pos hc];omega
  ·rw [if_neg hc]
   have:=FD l (left-1) (by omega)
   show -2≤dM p18 l (left-1)∧dM p18 l (left-1)≤max left (-1)
   omega
theorem FD:∀(l:List D) (left:Int),-2≤left→-2≤dM p18 l left∧dM p18 l left≤max left (-1)
 | [],left,h=>by simp only [dM];omega
 | d::l,left,h=>by
  rw [dM]
  by_cases hc:left<0
  ·rw [if_pos hc];omega
  ·rw [if_neg hc]
   have h1:=WI d left (by omega)
   have h2:=FD l (d.weigh p18 left) (by omega)
   omega
end
def XU (d:D) (left:Int) (n:Nat) (st:St):Prop:=∃i:Nat,n=d.l.length-i∧i≤d.l.length ∧
 st=⟨[(5,.one (.v (.int .i64 i))),(1,.one (.v (.int .i64 (dM p18 (d.l.take i) (left-1))))),(2,.one (.ptr 0 1 0 0))],[some ⟨28,6,[[.v (.int .i64 d.k),.v (.int .i32 d.c),.v (.bool d.neg),.sl 1 (d.mag.map fun n=>[.v (.int .u32 n)]),.v (.string d.t),.sl 6 (d.l.map D.cc)]]⟩]⟩
theorem SH:∀n (d:D),d.ht≤n→d.Ok→∀left:Int,-1≤left→left≤1000000000→Pure Tryz.prog 38 [.agg d.cc,.one (.v (.int .i64 left))] (.one (.v (.int .i64 (d.weigh p18 left)))):=by
 intro n
 induction n with
 | zero=>intro d h;exact absurd h (by cases d;rw [D.ht];omega)
 | succ n ih =>
  intro d hh hok left h0 h1
  have hws:IntKind.i64.wrap (left-1)=left-1:=dA (by omega) (by omega)
  have hlen:d.l.length≤100000000000000:=by cases d;have:=hok.2.2.2.2.1.2;simp only [D.l];omega
  rw [LN]
  have hts:decide ((300:Int)<(d.t.size:Int))=decide (300<d.t.size):=by apply decide_eq_decide.2;omega
  have hms:decide ((100:Int)<(d.mag.length:Int))=decide (100<d.mag.length):=by apply decide_eq_decide.2;omega
  rw [D.cc_eq]
  by_cases ht:300<d.t.size
  ·rw [if_pos (.inl ht)]
   refine fi Tryz.func38 Tryz.ntmps38 Tryz.results38 ?_
   repeat (first|(apply fw;focus ((with_reducible constructor)<;>constructor))|((first|with_reducible refine ga _ rfl fun Y y=>?_|apply ri);simp only [zb,seval,w38,hws,hts,ht];refine fz y ?_;clear y Y))
   refine ye (by simp only [zb,seval,w38];rfl) (by simp only [zv];rfl) ?_
   rfl
  by_cases hm:100<d.mag.length
  ·rw [if_pos (.inr hm)]
   refine fi Tryz.func38 Tryz.ntmps38 Tryz.results38 ?_
   repeat (first|(apply fw;focus ((with_reducible constructor)<;>constructor))|((first|with_reducible refine ga _ rfl fun Y y=>?_|apply ri);simp only [zb,seval,w38,hws,hts,ht,hms,hm];refine fz y ?_;clear y Y))
   refine ye (by simp only [zb,seval,w38];rfl) (by simp only [zv];rfl) ?_
   rfl
  rw [if_neg (by omega)]
  refine fi Tryz.func38 Tryz.ntmps38 Tryz.results38 ?_
  repeat (first|(apply fw;focus ((with_reducible constructor)<;>constructor))|((first|with_reducible refine ga _ rfl fun Y y=>?_|apply ri);simp only [zb,seval,w38,hws,hts,ht,hms,hm];refine fz y ?_;clear y Y))
  refine WpA.loop (XU d left) d.l.length ?_ ⟨0,rfl,Nat.zero_le _,rfl⟩ ?_
  ·exact Le.drop 1 (Nat.zero_le _) rfl (by simp [Sub,find,dM]) rfl (by simp [ObBd,C.bd])
  intro n' st hst
  obtain⟨i,rfl,hi,rfl⟩:=hst
  have hw2:IntKind.i64.wrap ((i:Int)+1)=((i+1:Nat):Int):=by rw [dA (by omega) (by omega)];omega
  have hbd:=FD (d.l.take i) (left-1) (by omega)
  generalize hv:dM p18 (d.l.take i) (left-1)=v at *
  by_cases hlt:i<d.l.length
  ·have hd1:decide ((i:Int)<(d.l.length:Int))=true:=by simp;omega
   by_cases hn:v<0
   ·have hge:decide ((0:Int)≤v)=false:=by simp;omega
    have hst:=FX p18 d.l (left-1) i (by rw [hv];exact hn)
    repeat (first|(apply fw;focus ((with_reducible constructor)<;>constructor))|((first|with_reducible refine ga _ rfl fun Y y=>?_|apply ri);simp only [zb,seval,w38,hd1,hge];refine fz y ?_;clear y Y))
    repeat (first|(apply fw;focus ((with_reducible constructor)<;>constructor))|((first|with_reducible refine ga _ rfl fun Y y=>?_|apply ri);simp only [zb,seval,w38,hd1,hge];refine fz y ?_;clear y Y))
    refine ye (by simp only [zb,seval,w38];rfl) (by simp only [zv];rfl) ?_
    rw [hst,hv]
   ·have hge:decide ((0:Int)≤v)=true:=by simp;omega
    have hget:=vF hlt
    have hc:=ih d.l[i] (by have:=D.ht_lt hlt;omega) (by cases d;exact hok.2.2.2.2.2.get i hlt) v (by omega) (by omega)
    have hsu:=FW p18 d.l (left-1) i hlt (by rw [hv];exact hn)
    rw [D.cc_eq] at hget hc
    repeat (first|(apply fw;focus ((with_reducible constructor)<;>constructor))|((first|with_reducible refine ga _ rfl fun Y y=>?_|(refine ca ?_;apply Exists.intro;constructor;assumption;intro Y y)|apply ri);simp only [zb,seval,w38,hd1,hge,hget,hw2];refine fz y ?_;clear y Y))
    refine⟨d.l.length-(i+1),_,by omega,?_,i+1,rfl,hlt,rfl⟩
    rw [hsu,hv]
    exact Le.drop 1 (Nat.zero_le _) rfl (by simp [Sub,find]) rfl (by simp [ObBd,C.bd])
  ·have hd0:decide ((i:Int)<(d.l.length:Int))=false:=by simp;omega
   have hii:i=d.l.length:=by omega
   subst hii
   repeat (first|(apply fw;focus ((with_reducible constructor)<;>constructor))|((first|with_reducible refine ga _ rfl fun Y y=>?_|apply ri);simp only [zb,seval,w38,hd0];refine fz y ?_;clear y Y))
   repeat (first|(apply fw;focus ((with_reducible constructor)<;>constructor))|((first|with_reducible refine ga _ rfl fun Y y=>?_|apply ri);simp only [zb,seval,w38,hd0];refine fz y ?_;clear y Y))
   refine ye (by simp only [zb,seval,w38];rfl) (by simp only [zv];rfl) ?_
   rw [List.take_length] at hv
   rw [hv]
theorem SI (d:D) (hok:d.Ok) (left:Int) (h0 : -1≤left) (h1:left≤1000000000):Pure Tryz.prog 38 [.agg d.cc,.one (.v (.int .i64 left))] (.one (.v (.int .i64 (d.weigh p18 left)))):=SH d.ht d (Nat.le_refl _) hok left h0 h1
theorem FE (d:D) (hok:d.Ok):Pure Tryz.prog 16 [.agg d.cc] (.one (.v (.bool (decide (d.weigh p18 800<0))))):=by
 have h:=SI d hok 800 (by decide) (by decide)
 refine fi Tryz.func16 Tryz.ntmps16 Tryz.results16 ?_
 repeat (first|(apply fw;focus ((with_reducible constructor)<;>constructor))|((first|with_reducible refine ga _ rfl fun Y y=>?_|(refine ca ?_;apply Exists.intro;constructor;assumption;intro Y y)|apply ri);simp only [zb,seval,aW,kcc];refine fz y ?_;clear y Y))
 refine ye (by simp only [zb,seval,aW,kcc];rfl) (by simp only [zv,kcc];rfl) ?_
 rfl
mutual
theorem wN:∀d:D,d.msr+1≤3*d.count
 | .mk k c neg mag t l=>by
  have h:=DF l
  rw [D.msr,D.count]
  split<;>omega
theorem DF:∀l:List D,cK l+l.length≤3*gV l
 | []=>by simp [cK,gV]
 | d::l=>by
  have h1:=wN d
  have h2:=DF l
  rw [cK,gV,List.length_cons];omega
end
theorem FF {d:D} (h:¬d.weigh p18 800<0):d.count≤800∧d.msr+1≤2400:=by
 have h1:=nP p18 d 800 (by omega)
 have h2:=wN d
 omega
theorem K.Oks.take:∀{l:List K},K.Oks l→∀k,K.Oks (l.take k)
 | _,_,0=>by rw [List.take_zero];trivial
 | [],_,k+1=>trivial
 | c::l,h,k+1=>⟨h.1,K.Oks.take h.2 k⟩
end Go.Proofs.YtaeioidifpebdaaGreatDoor
end
section
namespace Go.Proofs.YtaeioidifpebdaaGreatDoor
open Go Go.RowKit Go.Lib
set_option linter.unusedSimpArgs false
set_option linter.unusedVariables false
set_option maxRecDepth 100000
structure Agr (n:Nat) (ev ev':Ev):Prop where
 e:∀d,Gd n d→ev.e d=ev'.e d
 b:∀l,Gds n l→ev.b l=ev'.b l
 q:∀d k,Gd n d→ev.q d k=ev'.q d k
theorem Gds.one {n:Nat} {d:D} (hd:Gd n d):Gds n [d]:=⟨⟨hd.1,trivial⟩,⟨hd.2.1,trivial⟩,by have:=hd.2.2;simp only [cK];omega⟩
theorem SJ {n:Nat} {l:List D} (hl:Gds n l) {i:Nat} (hi:i<l.length):Gd n (l.getD i cH):=by
 have:l.getD i cH=l[i]:=by simp [List.getD,hi]
 rw [this];exact hl.mem (List.getElem_mem hi)
section
variable {n:Nat} {ev ev':Ev} (h:Agr n ev ev')
include h
theorem mF {l:List D} (hl:Gds n l):aZ ev.e l=aZ ev'.e l:=by
 unfold aZ
 rw [List.map_congr_left fun d hd=>by rw [h.e d (hl.mem hd)],List.map_congr_left (g:=fun d=>(ev'.e d).2) fun d hd=>by rw [h.e d (hl.mem hd)]]
theorem rU {l:List D} (hl:Gds n l):fL ev.e l=fL ev'.e l:=by unfold fL;rw [mF h hl]
theorem SK (f:D) {b:List D} (hb:Gds n b):eR ev f b=eR ev' f b:=by unfold eR;rw [h.b b hb]
theorem WJ:∀{l:List D},Gds n l→gF ev l=gF ev' l
 | [],_=>rfl
 | [_],_=>rfl
 | a::b::r,hl=>by
  simp only [gF,SK h a.snd hl.tail,h.e b hl.tail.head]
theorem FG (names:List ByteArray) (body:K) {v:List D} (hv:Gds n v):fT ev names body v=fT ev' names body v:=by unfold fT;rw [mF h hv]
theorem FH {d:D} (hd:Gd n d) (b:K):eI ev d b=eI ev' d b:=FG h _ _ (Gds.one hd)
theorem WK:∀{l:List D},Gds n l→mZ ev l=mZ ev' l
 | [],_=>rfl
 | [_],_=>rfl
 | a::b::r,hl=>by
  simp only [mZ,mF h (iL hl.tail.head).1,h.b r hl.tail.tail]
theorem WM:∀{l:List D},Gds n l→zY ev l=zY ev' l
 | [],_=>rfl
 | a::r,hl=>by
  have ha:=fun ns b=>FG h ns b (iL hl.head).1
  simp only [zY,WK h hl,ha,h.b r hl.tail]
theorem MX:∀{l:List (ByteArray × D)} (s:Rs),(∀p∈l,Gd n p.2)→oU ev l s=oU ev' l s
 | [],s,_=>rfl
 | p::l,s,hl=>by
  show oT ev p (oU ev l s)=oT ev' p (oU ev' l s)
  rw [MX s fun q hq=>hl q (by simp [hq])]
  unfold oT
  rw [FG h _ _ (Gds.one (hl p (by simp)))]
theorem WN:∀{l:List D},Gds n l→kF ev l=kF ev' l
 | [],_=>rfl
 | a::r,hl=>by
  have ha:=fun ns b=>FG h ns b (v:=[]) ⟨trivial,trivial,by have:=hl.2.2;simp only [cK];omega⟩
  simp only [kF,ha,h.b r hl.tail]
  exact MX h _ fun p hp=>(iL hl.head).1.mem (List.of_mem_zip hp).2
theorem WO:∀{l:List D},Gds n l→kG ev l=kG ev' l
 | [],_=>rfl
 | a::r,hl=>by
  simp only [kG,mF h (iL hl.head).1,h.b r hl.tail]
theorem SL:∀{l:List D},Gds n l→jG ev l=jG ev' l
 | [],_=>rfl
 | a::r,hl=>by
  have hr:=SL hl.tail
  have hi:=nY hl.head
  rw [qE,qE]
  generalize gJ a=it at hi ⊢
  match it,hi with
  | [],_=>rfl
  | [c],hi=>simp only [hr,FH h hi.head,rU h hi.tail]
  | [c,f],hi=>simp only [hr,h.e c hi.head,rU h hi.tail]
  | [c,f,g],hi=>simp only [hr,h.e c hi.head,h.e g hi.tail.tail.head,rU h hi.tail,FH h hi.head]
  | c::f::g::x::xs,hi=>simp only [hr,h.e c hi.head,rU h hi.tail]
theorem SM:∀{l:List D},Gds n l→fR ev l=fR ev' l
 | [],_=>rfl
 | a::r,hl=>by
  have hr:=SM hl.tail
  have hi:=nY hl.head
  rw [mE,mE]
  generalize gJ a=it at hi ⊢
  match it,hi with
  | [],_=>rfl
  | [c],_=>rfl
  | c::f::fs,hi=>simp only [hr,rU h hi.tail]
theorem LO (b:Bool):∀{l:List D},Gds n l→eS ev b l=eS ev' b l
 | [],_=>rfl
 | [d],hl=>h.e d hl.head
 | d::e::r,hl=>by
  have hr:=LO b hl.tail
  have lg:∀ev:Ev,eS ev b (d::e::r)=if b=true then (aI (ev.e d).1 (eS ev b (e::r)).1 (mX 2),max (eS ev b (e::r)).2 (ev.e d).2) else ((eI ev d (aI (bL bQ) (bL bQ) (eS ev b (e::r)).1)).1,max (eS ev b (e::r)).2 (eI ev d (aI (bL bQ) (bL bQ) (eS ev b (e::r)).1)).2):=fun ev=>rfl
  rw [lg,lg,hr,h.e d hl.head,FH h hl.head]
theorem WP:∀{l:List D},Gds n l→pZ ev l=pZ ev' l
 | [],_=>rfl
 | [_],_=>rfl
 | a::b::r,hl=>by
  have g1:=(yM (jM hl.head)).1
  have g2:=jM hl.tail.head
  rw [sP,sP]
  generalize tI (bF a).1=I at g1 ⊢
  generalize tS (bF a).1=S at g1 ⊢
  generalize (bF b).1=B at g2 ⊢
  congr 1
  match B,g2 with
  | [],_=>rfl
  | e::es,g2 =>
   unfold tD
   simp only [h.e e g2.head,rU h g2.tail,mF h hl.tail.tail,mF h g1.1,mF h g1.2]
theorem WQ (w:ByteArray) {l:List D} (hl:Gds n l):bK ev w l=bK ev' w l:=by
 unfold bK
 rw [WM h hl,WN h hl,WO h hl,SL h hl,WP h hl,LO h true hl,LO h false hl]
theorem WR (w:ByteArray) {l:List D} (hl:Gds n l):cQ ev w l=cQ ev' w l:=by
 unfold cQ
 rw [WQ h w hl,rU h hl,mF h hl,rU h (hl.drop 1),SK h _ (hl.drop 1)]
 have g:∀i,i<l.length→ev.e (l.getD i cH)=ev'.e (l.getD i cH):=fun i hi=>h.e _ (SJ hl hi)
 have gq:0<l.length→ev.q (l.getD 0 cH) 1=ev'.q (l.getD 0 cH) 1:=fun hi=>h.q _ _ (SJ hl hi)
 have gc:IA ev l=IA ev' l:=by
  match l,hl with
  | [],_=>rfl
  | a::r,hl =>
   have ht:=fun b=>FH h hl.head b
   simp only [IA,SM h hl.tail,ht]
 rw [gc]
 refine ite_congr rfl (fun _=>rfl) fun _=>?_
 refine ite_congr rfl (fun q=>gq (by have:=q.2;omega)) fun _=>?_
 refine ite_congr rfl (fun _=>rfl) fun _=>?_
 refine ite_congr rfl (fun q=>by have:=q.2;rw [g 1 (by omega)]) fun _=>?_
 refine ite_congr rfl (fun q=>by have:=q.2;rw [g 0 (by omega),g 1 (by omega)]) fun _=>?_
 refine ite_congr rfl (fun q=>by have:=q.2;rw [g 0 (by omega),g 1 (by omega),g 2 (by omega)]) fun _=>?_
 refine ite_congr rfl (fun _=>rfl) fun _=>?_
 refine ite_congr rfl (fun _=>rfl) fun _=>?_
 refine ite_congr rfl (fun q=>by have:=q.2;rw [g 0 (by omega)]) fun _=>?_
 refine ite_congr rfl (fun q=>by have:=q.2;rw [g 0 (by omega)]) fun _=>?_
 rfl
theorem LP {d:D} (hd:Gd (n+1) d):eB ev d=eB ev' d:=by
 unfold eB
 by_cases h7:d.k=7
 ·have hgi:Gds n (items d):=by
   have:=HW h7
   have:=hd.2.2
   exact⟨(mW d hd.1 hd.2.1).1,(mW d hd.1 hd.2.1).2,by omega⟩
  generalize items d=it at hgi ⊢
  match it,hgi with
  | [],_=>rfl
  | a::r,hgi=>simp only [WR h _ hgi.tail,mF h hgi]
 ·rw [if_neg h7,if_neg h7]
theorem SN (he:∀d,Gd (n+1) d→ev.e d=ev'.e d):∀{l:List D} (s:Bs),Gds (n+1) l→l.foldl (dP ev) s=l.foldl (dP ev') s
 | [],_,_=>rfl
 | d::l,s,hl=>by
  have h1:dP ev s d=dP ev' s d:=by
   unfold dP
   cases ho:eM d gG with
   | none=>simp only [he d hl.head]
   | some x =>
    obtain⟨g1,g2⟩:=nH hl.head ho
    have hx:Gds n x:=⟨g1.1,g1.2.1,by have:=hl.head.2.2;omega⟩
    simp only [WJ h hx]
  rw [List.foldl_cons,List.foldl_cons,h1,SN he _ hl.tail]
theorem WS (he:∀d,Gd (n+1) d→ev.e d=ev'.e d) {l:List D} (hl:Gds (n+1) l):zX ev l=zX ev' l:=by
 unfold zX oS
 rw [SN h he _ (MU hl).1]
theorem SP {d:D} (hd:Gd (n+1) d) (k:Nat):kI ev d k=kI ev' d k:=by
 unfold kI
 cases h1:lS d lF with
 | some y =>
  have hy:=(sN hd h1).1
  simp only [h.e y hy,h.q y _ hy]
 | none =>
  cases h2:lS d cE with
  | some y =>
   have hy:=(sN hd h2).1
   simp only [h.q y _ hy]
  | none =>
   dsimp only
   by_cases h8:d.k=8
   ·have hv:=hd.vec h8
    have:=hd.2.2
    rw [if_pos h8,if_pos h8,h.q _ _ ⟨hv.1.1,hv.1.2.1,by omega⟩]
   ·rw [if_neg h8,if_neg h8]
    by_cases h7:d.k=7
    ·obtain⟨-,hf,hs,hm⟩:=hd.pair h7
     have:=hd.2.2
     have p1:=gQ d.fst
     have p2:=gQ d.snd
     have hf':Gd n d.fst:=⟨hf.1,hf.2.1,by omega⟩
     have hs':Gd n d.snd:=⟨hs.1,hs.2.1,by omega⟩
     rw [if_pos h7,if_pos h7,h.q _ _ hs',h.q _ _ hf']
     cases h3:lS d.fst cW with
     | some y =>
      have hy:=(sN hf h3).1
      simp only [h.e y hy,h.q y _ hy]
     | none=>rfl
    ·rw [if_neg h7,if_neg h7]
end
theorem yN:∀n m,n≤m→Agr n (evs n) (evs m)
 | 0,m,_=>⟨fun d hd=>absurd hd.2.2 (Nat.not_lt_zero _),fun d hd=>absurd hd.2.2 (Nat.not_lt_zero _),fun d k hd=>absurd hd.2.2 (Nat.not_lt_zero _)⟩
 | n+1,0,h=>absurd h (Nat.not_succ_le_zero _)
 | n+1,m+1,h=>by
  have ih:=yN n m (Nat.le_of_succ_le_succ h)
  have e1:∀d,Gd (n+1) d→eB (evs n) d=eB (evs m) d:=fun d hd=>LP ih hd
  have hm:Agr n ⟨eB (evs n),(evs n).b,(evs n).q⟩ ⟨eB (evs m),(evs m).b,(evs m).q⟩:=⟨fun d hd=>e1 d (hd.le (Nat.le_succ n)),ih.b,ih.q⟩
  exact⟨fun d hd=>by rw [evs,evs];exact e1 d hd,fun l hl=>by rw [evs,evs];exact WS hm e1 hl,fun d k hd=>by rw [evs,evs];exact SP hm hd k⟩
noncomputable def exK (d:D):Rs:=(evs (d.msr+1)).e d
noncomputable def boK (l:List D):Rs:=(evs (cK l+1)).b l
theorem XV {n:Nat} {d:D} (hd:Gd n d):(evs n).e d=exK d:=((yN (d.msr+1) n hd.2.2).e d ⟨hd.1,hd.2.1,Nat.lt_succ_self _⟩).symm
theorem YL {n:Nat} {l:List D} (hl:Gds n l):(evs n).b l=boK l:=((yN (cK l+1) n hl.2.2).b l ⟨hl.1,hl.2.1,Nat.lt_succ_self _⟩).symm
theorem SR {n:Nat} {d:D} (hd:Gd (n+1) d):exK d=eB (evs n) d:=by rw [←XV hd,evs]
inductive Good (Q:D→Prop):(ByteArray→Prop)→K→Prop
 | const {A d}:Q d→Good Q A (bT d)
 | ref {A s}:A s→s≠e0→Good Q A (bL s)
 | prim {A s}:s≠e0→Good Q A (eL s)
 | set {A s x}:A s→s≠e0→Good Q A x→Good Q A (yA s x)
 | branch {A a b c}:Good Q A a→Good Q A b→Good Q A c→Good Q A (aI a b c)
 | seq {A l}:2≤l.length→l.length≤200000000→(∀x∈l,Good Q A x)→Good Q A (.mk 7 e0 e0 [] cH l)
 | call {A l}:1≤l.length→l.length≤41→(∀x∈l,Good Q A x)→Good Q A (fZ l)
 | lam {A B:ByteArray→Prop} {ps rest b}:ps.Nodup→rest∉ps→(∀p∈ps,p≠e0)→ps.length+(if rest=e0 then 0 else 1)≤40→(∀s,B s→A s∨s∈ps∨s=rest)→Good Q B b→Good Q A (.mk 6 e0 rest ps cH [b])
 | none {A}:Good Q A lV
theorem Good.mono {Q:D→Prop} {A:ByteArray→Prop} {k:K} (h:Good Q A k):∀{B:ByteArray→Prop},(∀s,A s→B s)→Good Q B k:=by
 induction h with
 | const h=>exact fun _=>.const h
 | ref h h0=>exact fun hb=>.ref (hb _ h) h0
 | prim h0=>exact fun _=>.prim h0
 | set h h0 _ ih=>exact fun hb=>.set (hb _ h) h0 (ih hb)
 | branch _ _ _ i1 i2 i3=>exact fun hb=>.branch (i1 hb) (i2 hb) (i3 hb)
 | seq h1 h2 _ ih=>exact fun hb=>.seq h1 h2 fun x hx=>ih x hx hb
 | call h1 h2 _ ih=>exact fun hb=>.call h1 h2 fun x hx=>ih x hx hb
 | lam h1 h2 h3 h4 h5 h6 _=>exact fun hb=>.lam h1 h2 h3 h4 (fun s hs=>(h5 s hs).imp (hb s) id) h6
 | none=>exact fun _=>.none
theorem K.Oks.ofMem:∀{l:List K},(∀x∈l,x.Ok)→K.Oks l
 | [],_=>trivial
 | x::l,h=>⟨h x (by simp),K.Oks.ofMem fun y hy=>h y (by simp [hy])⟩
theorem Good.ok {Q:D→Prop} (hQ:∀d,Q d→d.Ok) {A:ByteArray→Prop} {k:K} (h:Good Q A k):k.Ok:=by
 induction h with
 | const h=>exact⟨by decide,by simp,hQ _ h,by simp,trivial⟩
 | ref h h0=>exact⟨by decide,by simp,gH,by simp,trivial⟩
 | prim h0=>exact⟨by decide,by simp,gH,by simp,trivial⟩
 | set h h0 _ ih=>exact⟨by decide,by simp,gH,by simp,ih,trivial⟩
 | branch _ _ _ i1 i2 i3=>exact⟨by decide,by simp,gH,by simp,i1,i2,i3,trivial⟩
 | seq h1 h2 _ ih=>exact⟨by decide,by simp,gH,by omega,K.Oks.ofMem ih⟩
 | call h1 h2 _ ih=>exact⟨by decide,by simp,gH,by omega,K.Oks.ofMem ih⟩
 | lam h1 h2 h3 h4 h5 h6 ih=>exact⟨by decide,by omega,gH,by simp,ih,trivial⟩
 | none=>exact⟨by decide,by simp,gH,by simp,trivial⟩
section
variable {Q:D→Prop} {A:ByteArray→Prop}
end
def Cov (P:D→Prop) (A:ByteArray→Prop):Prop:=∀d,P d→d.k=6→A d.t∧d.t≠e0
structure Pc (Q P:D→Prop):Prop where
 kid:∀d x,P d→x∈d.l→P x
 vec:∀d,P d→d.k=8→P (aE d.l)
 q:∀d,P d→Q d
 kd:∀k,k=1∨k=2∨k=9→Q (jR k)
 nil:Q cH
 sym:Q (bJ lF)∧Q (bJ cE)∧Q (bJ cW)
structure GE (Q P:D→Prop) (n:Nat) (ev:Ev):Prop where
 e:∀d,Gd n d→P d→∀A,Cov P A→(ev.e d).2=0→Good Q A (ev.e d).1
 b:∀l,Gds n l→(∀d∈l,P d)→∀A,Cov P A→(ev.b l).2=0→Good Q A (ev.b l).1
 q:∀d k,Gd n d→P d→∀A,Cov P A→(ev.q d k).2=0→Good Q A (ev.q d k).1
section
variable {Q P:D→Prop} {A:ByteArray→Prop} {n:Nat} {ev:Ev}
end
end Go.Proofs.YtaeioidifpebdaaGreatDoor
end
section
namespace Go.Proofs.YtaeioidifpebdaaGreatDoor
open Go Go.RowKit Go.Lib
set_option linter.unusedSimpArgs false
set_option linter.unusedVariables false
set_option linter.unusedSectionVars false
set_option maxRecDepth 100000
section
variable {Q P:D→Prop} {A:ByteArray→Prop} {n:Nat} {ev:Ev}
variable (hP:Pc Q P) (hE:GE Q P n ev) (hA:Cov P A) (hn:n≤100000000)
include hP hE hA hn
end
section
variable {Q P:D→Prop} {A:ByteArray→Prop} {n:Nat} {ev:Ev}
variable (hP:Pc Q P) (hE:GE Q P n ev) (hA:Cov P A) (hn:n≤100000000)
include hP hE hA hn
end
section
variable {Q P:D→Prop} {A:ByteArray→Prop} {n:Nat} {ev:Ev}
variable (hP:Pc Q P) (hE:GE Q P n ev) (hA:Cov P A) (hn:n≤100000000)
include hP hE hA hn
end
end Go.Proofs.YtaeioidifpebdaaGreatDoor
end
section
namespace Go.Proofs.YtaeioidifpebdaaGreatDoor
open Go Go.RowKit Go.Lib
set_option linter.unusedSimpArgs false
set_option linter.unusedVariables false
set_option linter.unusedSectionVars false
set_option maxRecDepth 100000
set_option maxHeartbeats 1000000
mutual
def K.lh:K→Nat
 | .mk k _ _ _ _ l=>lhs l+if k=6 then 1 else 0
def lhs:List K→Nat
 | []=>0
 | x::l=>max x.lh (lhs l)
end
structure LB (N H:Nat) (ev:Ev):Prop where
 e:∀d,Gd N d→(ev.e d).1.lh≤H
 b:∀l,Gds N l→(ev.b l).1.lh≤H
 q:∀d k,Gd N d→(ev.q d k).1.lh≤H
section
variable {N H:Nat} {ev:Ev} (h:LB N H ev)
include h
end
end Go.Proofs.YtaeioidifpebdaaGreatDoor
end
section
namespace Go.Proofs.YtaeioidifpebdaaGreatDoor
open Go Go.RowKit Go.Lib
set_option linter.unusedSimpArgs false
set_option linter.unusedVariables false
set_option linter.unusedSectionVars false
set_option maxRecDepth 100000
section
variable {Q P:D→Prop} {A:ByteArray→Prop} {n:Nat} {ev:Ev}
variable (hP:Pc Q P) (hE:GE Q P n ev) (hA:Cov P A) (hn:n≤100000000)
include hP hE hA hn
end
section
variable {Q P:D→Prop} {A:ByteArray→Prop} {n:Nat} {ev:Ev}
variable (hP:Pc Q P) (hE:GE Q P n ev) (hA:Cov P A) (hn:n≤100000000)
include hP hE hA hn
end
section
variable {Q P:D→Prop}
inductive TopG (Q:D→Prop) (A:ByteArray→Prop):K→Prop
 | good {k}:Good Q A k→TopG Q A k
 | dfn {s x}:A s→s≠e0→Good Q A x→TopG Q A (.mk 4 s e0 [] cH [x])
 | seq {l}:2≤l.length→l.length≤200000000→(∀x∈l,TopG Q A x)→TopG Q A (.mk 7 e0 e0 [] cH l)
theorem TopG.ok (hQ:∀d,Q d→d.Ok) {A:ByteArray→Prop} {k:K} (h:TopG Q A k):k.Ok:=by
 induction h with
 | good h=>exact h.ok hQ
 | dfn h h0 hx=>exact⟨by decide,by simp,gH,by simp,hx.ok hQ,trivial⟩
 | seq h1 h2 _ ih=>exact⟨by decide,by simp,gH,by omega,K.Oks.ofMem ih⟩
end
end Go.Proofs.YtaeioidifpebdaaGreatDoor
end
section
namespace Go.Proofs.YtaeioidifpebdaaGreatDoor
open Go Go.RowKit Go.Lib
set_option linter.unusedSimpArgs false
set_option linter.unusedVariables false
set_option maxRecDepth 100000
theorem D.Ok.kid {d x:D} (h:d.Ok) (hx:x∈d.l):x.Ok:=h.l.mem hx
mutual
def K.Cl:K→List ByteArray→Bool→Prop
 | .mk k name rest params d l,free,top=>if k=6 then params.Nodup∧rest∉params∧params.length≤40∧l.length=1∧Cls l (free++params++[rest]) false else
  ((k=2∨k=3)→name∈free)∧(k=4→top=true∧name∈free)∧Cls l free (top&&decide (k=7))
def Cls:List K→List ByteArray→Bool→Prop
 | [],_,_=>True
 | x::l,free,top=>x.Cl free top∧Cls l free top
end
theorem Cls.ofMem {free:List ByteArray} {top:Bool}:∀{l:List K},(∀x∈l,x.Cl free top)→Cls l free top
 | [],_=>trivial
 | x::l,h=>⟨h x (by simp),Cls.ofMem fun y hy=>h y (by simp [hy])⟩
theorem Cls.get {free:List ByteArray} {top:Bool}:∀{l:List K},Cls l free top→∀i (h:i<l.length),l[i].Cl free top
 | x::l,h,0,_=>h.1
 | x::l,h,i+1,hi=>Cls.get h.2 i (by simpa using hi)
theorem Good.cl {Q:D→Prop} {A:ByteArray→Prop} {k:K} (h:Good Q A k):∀{free:List ByteArray} {top:Bool},(∀s,A s→s∈free)→k.Cl free top:=by
 induction h with
 | const h=>intro free top hf;simp [bT,K.Cl,Cls]
 | ref h h0=>intro free top hf;simp [bL,K.Cl,Cls];exact hf _ h
 | prim h0=>intro free top hf;simp [eL,K.Cl,Cls]
 | set h h0 _ ih=>intro free top hf;simp [yA,K.Cl,Cls];exact⟨hf _ h,ih hf⟩
 | branch _ _ _ i1 i2 i3=>intro free top hf;simp [aI,K.Cl,Cls];exact⟨i1 hf,i2 hf,i3 hf⟩
 | seq h1 h2 _ ih=>intro free top hf;simp [K.Cl];exact Cls.ofMem fun x hx=>ih x hx hf
 | call h1 h2 _ ih=>intro free top hf;simp [fZ,K.Cl];exact Cls.ofMem fun x hx=>ih x hx hf
 | lam h1 h2 h3 h4 h5 h6 ih =>
  intro free top hf
  rw [K.Cl,if_pos rfl]
  refine⟨h1,h2,by omega,rfl,ih fun s hs=>?_,trivial⟩
  rcases h5 s hs with h|h|h
  ·simp [hf s h]
  ·simp [h]
  ·simp [h]
 | none=>intro free top hf;simp [lV,K.Cl,Cls]
theorem TopG.cl {Q:D→Prop} {A:ByteArray→Prop} {k:K} (h:TopG Q A k) {free:List ByteArray} (hf:∀s,A s→s∈free):k.Cl free true:=by
 induction h with
 | good h=>exact h.cl hf
 | dfn h h0 hx=>simp [K.Cl,Cls];exact⟨hf _ h,hx.cl hf⟩
 | seq h1 h2 _ ih=>simp [K.Cl];exact Cls.ofMem ih
noncomputable def exV:Ev:=⟨exK,boK,fun d k=>(evs (d.msr+1)).q d k⟩
theorem yO (n:Nat):Agr n (evs n) exV:=⟨fun d hd=>XV hd,fun l hl=>YL hl,fun d k hd=>((yN (d.msr+1) n hd.2.2).q d k ⟨hd.1,hd.2.1,Nat.lt_succ_self _⟩).symm⟩
theorem UO {d:D} (ht:d.Two) (ho:d.Ok):exK d=eB exV d:=by
 rw [SR (n:=d.msr) ⟨ht,ho,Nat.lt_succ_self _⟩];exact LP (yO _) ⟨ht,ho,Nat.lt_succ_self _⟩
theorem ST {d:D} (ht:d.Two) (ho:d.Ok) (h1:eM d gG=none) (h2:eM d eE=none):oE d=eB exV d:=by
 rw [sK h1 h2];exact LP (yO _) ⟨ht,ho,Nat.lt_succ_self _⟩
theorem UP {d:D} (hb:oD d=true) (h2:(oE d).2=0):qW d=((oE d).1,0):=by
 unfold qW;rw [if_pos hb,if_pos h2,h2];rfl
theorem BA {w s:ByteArray} (l:List D) (h:w≠s):eM (aE (bJ w::l)) s=none:=by
 rw [iI,oW,aA h];rfl
end Go.Proofs.YtaeioidifpebdaaGreatDoor
end
section
namespace Go.Proofs.YtaeioidifpebdaaGreatDoor
open Go Go.RowKit
set_option linter.unusedSimpArgs false
set_option linter.unusedVariables false
def qH:Nat→D→Prop
 | 0,_=>True
 | n+1,d=>d.t.size≤3000∧d.mag.length≤3000∧d.l.length≤3000∧∀x∈d.l,qH n x
theorem JA:∀l:List D,l.length≤gV l
 | []=>by simp
 | d::l=>by
  have:=JA l
  have:=d.count_pos
  simp only [gV,List.length_cons];omega
end Go.Proofs.YtaeioidifpebdaaGreatDoor
end
section
namespace Go.Proofs.YtaeioidifpebdaaGreatDoor
open Go Go.RowKit Go.Lib
set_option linter.unusedSimpArgs false
set_option linter.unusedVariables false
set_option maxRecDepth 100000
theorem JB (p:Nat × Nat × Nat × Nat):∀(l:List D) (left:Int),left≤3000→0≤dM p l left→∀x∈l,∃q,q≤3000∧0≤x.weigh p q
 | [],left,h,h0,x,hx=>by cases hx
 | d::l,left,h,h0,x,hx=>by
  rw [dM] at h0
  split at h0
  ·omega
  ·have h2:0≤d.weigh p left:=by
    refine Int.not_lt.1 fun hn=>?_
    rw [pJ p l _ hn] at h0;omega
   have h3:=nP p d left h2
   rcases List.mem_cons.1 hx with rfl|hx
   ·exact⟨left,h,h2⟩
   ·exact JB p l _ (by omega) h0 x hx
theorem FI:∀(n:Nat) (d:D) (left:Int),left≤3000→0≤d.weigh p18 left→qH n d
 | 0,d,left,h,h0=>trivial
 | n+1,d,left,h,h0=>by
  have hc:=nP p18 d left h0
  have hl:=JA d.l
  have hce:=d.count_eq
  rw [LN] at h0 hc
  by_cases hb:300<d.t.size∨100<d.mag.length
  ·rw [if_pos hb] at h0;omega
  ·rw [if_neg hb] at h0 hc
   refine⟨by omega,by omega,by omega,fun x hx=>?_⟩
   obtain⟨q,hq,h1⟩:=JB p18 d.l _ (by omega) h0 x hx
   exact FI n x q hq h1
structure Lit (n:Nat) (d:D):Prop where
 ok:d.Ok
 pl:d.Plain
 dp:d.depth≤50+n
 ct:d.count+2≤802*5 ^ n
 sm:∀k,qH k d
theorem Lit.le {n m:Nat} {d:D} (h:Lit n d) (hm:n≤m):Lit m d :=
 ⟨h.ok,h.pl,Nat.le_trans h.dp (by omega),Nat.le_trans h.ct (Nat.mul_le_mul_left _ (Nat.pow_le_pow_right (by decide) hm)),h.sm⟩
theorem Lit.may {d:D} (h:Lit 6 d):oD d=true:=rN.2 ⟨h.pl,Nat.le_trans h.dp (by decide)⟩
theorem Lit.cnt {d:D} (h:Lit 6 d):d.count<1000000000:=by have:=h.ct;omega
theorem Lit.msr {d:D} (h:Lit 6 d):d.msr+1≤100000000:=by have:=h.ct;have:=wN d;omega
theorem MY {h:Nat}:∀{l:List D},(∀d∈l,d.depth≤h)→IC l≤h
 | [],_=>Nat.zero_le _
 | d::l,hl=>Nat.max_le.2 ⟨hl d (by simp),MY fun x hx=>hl x (by simp [hx])⟩
theorem MZ {c:Nat}:∀{l:List D},(∀d∈l,d.count≤c)→gV l≤l.length*c
 | [],_=>Nat.zero_le _
 | d::l,hl=>by
  have h1:=hl d (by simp)
  have h2:=MZ (l:=l) fun x hx=>hl x (by simp [hx])
  rw [gV,List.length_cons,Nat.succ_mul];omega
theorem uC:∀(k:Nat) (l:List D),(∀d∈l,∀k,qH k d)→qH k (aE l)
 | 0,_,_=>trivial
 | k+1,[],_=>⟨Nat.zero_le _,Nat.zero_le _,Nat.zero_le _,fun x hx=>by cases hx⟩
 | k+1,d::l,h=>⟨Nat.zero_le _,Nat.zero_le _,by show 2≤3000;decide,fun x hx=>by
   simp only [aE,D.l,List.mem_cons,List.not_mem_nil,or_false] at hx
   rcases hx with rfl|rfl
   ·exact h x (by simp) k
   ·exact uC k l fun y hy=>h y (by simp [hy])⟩
theorem Plains.of {l:List D} (h:∀d∈l,d.Plain):Plains l:=(Plains.iff l).2 fun i hi=>h _ (List.getElem_mem hi)
theorem Lit.list {n:Nat} {l:List D} (h:∀d∈l,Lit n d) (hl:l.length≤5):Lit (n+1) (aE l):=by
 have h1:=MY (h:=50+n) fun d hd=>(h d hd).dp
 have h4:0<5 ^ n:=Nat.pow_pos (by decide)
 have h2:=MZ (c:=802*5 ^ n-2) fun d hd=>by have:=(h d hd).ct;omega
 have h3:l.length*(802*5 ^ n-2)≤5*(802*5 ^ n-2):=Nat.mul_le_mul_right _ hl
 refine⟨jF (Oks.ofMem fun d hd=>(h d hd).ok),dY.2 (Plains.of fun d hd=>(h d hd).pl),?_,?_,fun k=>uC k l fun d hd=>(h d hd).sm⟩
 ·rw [lI];split<;>omega
 ·rw [lL,Nat.pow_succ];omega
theorem Lit.sym {s:ByteArray} (h:gN s 1=true) (hs:s.size≤3000):Lit 0 (bJ s) :=
 ⟨RB (by omega),(jS s).2 h,by rw [sI];decide,by rw [sJ];decide,fun k=>by
  cases k with
  | zero=>trivial
  | succ k=>exact⟨hs,Nat.zero_le _,Nat.zero_le _,fun x hx=>by cases hx⟩⟩
theorem Lit.kind {k:Int} (h:k=1∨k=2∨k=9):Lit 0 (jR k) :=
 ⟨EF (by omega),tX (by omega),by rw [tY (by omega)];decide,by rw [tZ];decide,fun k=>by
  cases k with
  | zero=>trivial
  | succ k=>exact⟨Nat.zero_le _,Nat.zero_le _,Nat.zero_le _,fun x hx=>by cases hx⟩⟩
theorem Lit.nil:Lit 0 (aE []):=⟨gH,qA,by rw [show aE []=cH from rfl,KH];decide,by show 1+2≤802;decide,fun k=>uC k [] (by simp)⟩
theorem Lit.of {d:D} (hok:d.Ok) (hw:¬d.weigh p18 800<0) (hd:d.depth≤50) (hp:d.Plain):Lit 0 d :=
 ⟨hok,hp,hd,by have:=(FF hw).1;omega,fun k=>FI k d 800 (by omega) (by omega)⟩
end Go.Proofs.YtaeioidifpebdaaGreatDoor
end
