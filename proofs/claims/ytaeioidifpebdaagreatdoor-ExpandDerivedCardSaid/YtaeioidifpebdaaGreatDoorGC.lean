/-
 Laid together: Meas18, Stb18, Good18, Gooe18, Goof18, Goog18, Gooh18, Lam18, Gooi18, Gooj18, Sym18, Fix18, Par18, Small, Lit18, Bod18.
-/
import Derived.Test.YtaeioidifpebdaaGreatDoorG6
import Derived.Test.YtaeioidifpebdaaGreatDoorG5
import Derived.Test.YtaeioidifpebdaaGreatDoorG9
import Derived.Test.YtaeioidifpebdaaGreatDoorGA
import Derived.Test.YtaeioidifpebdaaGreatDoorPlain2
section
namespace Go.Proofs.YtaeioidifpebdaaGreatDoor
open Go Go.RowKit Go.Lib
set_option linter.unusedSimpArgs false
set_option linter.unusedVariables false
set_option maxHeartbeats 4000000
set_option maxRecDepth 100000
def p18:Nat × Nat × Nat × Nat:=(300,100,1000,1000)
theorem NN (d:D) (left:Int):d.weigh p18 left=if 300<d.t.size∨100<d.mag.length then -1 else dN p18 d.l (left-1):=by
 rw [D.weigh_eq]
 show (if 300<d.t.size∨100<d.mag.length then (-1:Int) else dN p18 d.l (left-1-(d.t.size / 1000:Nat)-(d.mag.length / 1000:Nat)))=_
 by_cases h:300<d.t.size∨100<d.mag.length
 ·rw [if_pos h,if_pos h]
 ·rw [if_neg h,if_neg h,Nat.div_eq_of_lt (by omega),Nat.div_eq_of_lt (by omega)]
  simp
mutual
theorem YO:∀(d:D) (left:Int),-1≤left→-2≤d.weigh p18 left∧d.weigh p18 left≤max left (-1)
 | .mk k c neg mag t l,left,h=>by
  rw [NN]
  by_cases hc:300<(D.mk k c neg mag t l).t.size∨100<(D.mk k c neg mag t l).mag.length
  ·rw [if_pos hc];omega
  ·rw [if_neg hc]
   have:=GX l (left-1) (by omega)
   show -2≤dN p18 l (left-1)∧dN p18 l (left-1)≤max left (-1)
   omega
theorem GX:∀(l:List D) (left:Int),-2≤left→-2≤dN p18 l left∧dN p18 l left≤max left (-1)
 | [],left,h=>by simp only [dN];omega
 | d::l,left,h=>by
  rw [dN]
  by_cases hc:left<0
  ·rw [if_pos hc];omega
  ·rw [if_neg hc]
   have h1:=YO d left (by omega)
   have h2:=GX l (d.weigh p18 left) (by omega)
   omega
end
def aAC (d:D) (left:Int) (n:Nat) (st:St):Prop:=∃i:Nat,n=d.l.length-i∧i≤d.l.length ∧
 st=⟨[(5,.one (.v (.int .i64 i))),(1,.one (.v (.int .i64 (dN p18 (d.l.take i) (left-1))))),(2,.one (.ptr 0 1 0 0))],[some ⟨28,6,[[.v (.int .i64 d.k),.v (.int .i32 d.c),.v (.bool d.neg),.sl 1 (d.mag.map fun n=>[.v (.int .u32 n)]),.v (.string d.t),.sl 6 (d.l.map D.cc)]]⟩]⟩
theorem UJ:∀n (d:D),d.ht≤n→d.Ok→∀left:Int,-1≤left→left≤1000000000→Pure Tryz.prog 38 [.agg d.cc,.one (.v (.int .i64 left))] (.one (.v (.int .i64 (d.weigh p18 left)))):=by
 intro n
 induction n with
 | zero=>intro d h;exact absurd h (by cases d;rw [D.ht];omega)
 | succ n ih =>
  intro d hh hok left h0 h1
  have hws:IntKind.i64.wrap (left-1)=left-1:=dP (by omega) (by omega)
  have hlen:d.l.length≤100000000000000:=by cases d;have:=hok.2.2.2.2.1.2;simp only [D.l];omega
  rw [NN]
  have hts:decide ((300:Int)<(d.t.size:Int))=decide (300<d.t.size):=by apply decide_eq_decide.2;omega
  have hms:decide ((100:Int)<(d.mag.length:Int))=decide (100<d.mag.length):=by apply decide_eq_decide.2;omega
  rw [D.cc_eq]
  by_cases ht:300<d.t.size
  ·rw [if_pos (.inl ht)]
   refine fi Tryz.func38 Tryz.ntmps38 Tryz.results38 ?_
   repeat (first|(apply fw;focus ((with_reducible constructor)<;>constructor))|((first|with_reducible refine ga _ rfl fun Y y=>?_|apply ri);simp only [zb,seval,w38,hws,hts,ht];refine fz y ?_;clear y Y))
   refine ye (by simp only [zb,seval,w38];rfl) (by simp only [zv];rfl) ?_
   rfl
  by_cases hm:100<d.mag.length
  ·rw [if_pos (.inr hm)]
   refine fi Tryz.func38 Tryz.ntmps38 Tryz.results38 ?_
   repeat (first|(apply fw;focus ((with_reducible constructor)<;>constructor))|((first|with_reducible refine ga _ rfl fun Y y=>?_|apply ri);simp only [zb,seval,w38,hws,hts,ht,hms,hm];refine fz y ?_;clear y Y))
   refine ye (by simp only [zb,seval,w38];rfl) (by simp only [zv];rfl) ?_
   rfl
  rw [if_neg (by omega)]
  refine fi Tryz.func38 Tryz.ntmps38 Tryz.results38 ?_
  repeat (first|(apply fw;focus ((with_reducible constructor)<;>constructor))|((first|with_reducible refine ga _ rfl fun Y y=>?_|apply ri);simp only [zb,seval,w38,hws,hts,ht,hms,hm];refine fz y ?_;clear y Y))
  refine WpA.loop (aAC d left) d.l.length ?_ ⟨0,rfl,Nat.zero_le _,rfl⟩ ?_
  ·exact Le.drop 1 (Nat.zero_le _) rfl (by simp [Sub,find,dN]) rfl (by simp [ObBd,C.bd])
  intro n' st hst
  obtain⟨i,rfl,hi,rfl⟩:=hst
  have hw2:IntKind.i64.wrap ((i:Int)+1)=((i+1:Nat):Int):=by rw [dP (by omega) (by omega)];omega
  have hbd:=GX (d.l.take i) (left-1) (by omega)
  generalize hv:dN p18 (d.l.take i) (left-1)=v at *
  by_cases hlt:i<d.l.length
  ·have hd1:decide ((i:Int)<(d.l.length:Int))=true:=by simp;omega
   by_cases hn:v<0
   ·have hge:decide ((0:Int)≤v)=false:=by simp;omega
    have hst:=IOq p18 d.l (left-1) i (by rw [hv];exact hn)
    repeat (first|(apply fw;focus ((with_reducible constructor)<;>constructor))|((first|with_reducible refine ga _ rfl fun Y y=>?_|apply ri);simp only [zb,seval,w38,hd1,hge];refine fz y ?_;clear y Y))
    repeat (first|(apply fw;focus ((with_reducible constructor)<;>constructor))|((first|with_reducible refine ga _ rfl fun Y y=>?_|apply ri);simp only [zb,seval,w38,hd1,hge];refine fz y ?_;clear y Y))
    refine ye (by simp only [zb,seval,w38];rfl) (by simp only [zv];rfl) ?_
    rw [hst,hv]
   ·have hge:decide ((0:Int)≤v)=true:=by simp;omega
    have hget:=zQ hlt
    have hc:=ih d.l[i] (by have:=D.ht_lt hlt;omega) (by cases d;exact hok.2.2.2.2.2.get i hlt) v (by omega) (by omega)
    have hsu:=IM p18 d.l (left-1) i hlt (by rw [hv];exact hn)
    rw [D.cc_eq] at hget hc
    repeat (first|(apply fw;focus ((with_reducible constructor)<;>constructor))|((first|with_reducible refine ga _ rfl fun Y y=>?_|(refine ca ?_;apply Exists.intro;constructor;assumption;intro Y y)|apply ri);simp only [zb,seval,w38,hd1,hge,hget,hw2];refine fz y ?_;clear y Y))
    refine⟨d.l.length-(i+1),_,by omega,?_,i+1,rfl,hlt,rfl⟩
    rw [hsu,hv]
    exact Le.drop 1 (Nat.zero_le _) rfl (by simp [Sub,find]) rfl (by simp [ObBd,C.bd])
  ·have hd0:decide ((i:Int)<(d.l.length:Int))=false:=by simp;omega
   have hii:i=d.l.length:=by omega
   subst hii
   repeat (first|(apply fw;focus ((with_reducible constructor)<;>constructor))|((first|with_reducible refine ga _ rfl fun Y y=>?_|apply ri);simp only [zb,seval,w38,hd0];refine fz y ?_;clear y Y))
   repeat (first|(apply fw;focus ((with_reducible constructor)<;>constructor))|((first|with_reducible refine ga _ rfl fun Y y=>?_|apply ri);simp only [zb,seval,w38,hd0];refine fz y ?_;clear y Y))
   refine ye (by simp only [zb,seval,w38];rfl) (by simp only [zv];rfl) ?_
   rw [List.take_length] at hv
   rw [hv]
theorem UK (d:D) (hok:d.Ok) (left:Int) (h0 : -1≤left) (h1:left≤1000000000):Pure Tryz.prog 38 [.agg d.cc,.one (.v (.int .i64 left))] (.one (.v (.int .i64 (d.weigh p18 left)))):=UJ d.ht d (Nat.le_refl _) hok left h0 h1
theorem GY (d:D) (hok:d.Ok):Pure Tryz.prog 16 [.agg d.cc] (.one (.v (.bool (decide (d.weigh p18 800<0))))):=by
 have h:=UK d hok 800 (by decide) (by decide)
 refine fi Tryz.func16 Tryz.ntmps16 Tryz.results16 ?_
 repeat (first|(apply fw;focus ((with_reducible constructor)<;>constructor))|((first|with_reducible refine ga _ rfl fun Y y=>?_|(refine ca ?_;apply Exists.intro;constructor;assumption;intro Y y)|apply ri);simp only [zb,seval,bG,kcc];refine fz y ?_;clear y Y))
 refine ye (by simp only [zb,seval,bG,kcc];rfl) (by simp only [zv,kcc];rfl) ?_
 rfl
mutual
theorem yD:∀d:D,d.msr+1≤3*d.count
 | .mk k c neg mag t l=>by
  have h:=EV l
  rw [D.msr,D.count]
  split<;>omega
theorem EV:∀l:List D,cC l+l.length≤3*hO l
 | []=>by simp [cC,hO]
 | d::l=>by
  have h1:=yD d
  have h2:=EV l
  rw [cC,hO,List.length_cons];omega
end
theorem GZ {d:D} (h:¬d.weigh p18 800<0):d.count≤800∧d.msr+1≤2400:=by
 have h1:=oP p18 d 800 (by omega)
 have h2:=yD d
 omega
theorem K.Oks.take:∀{l:List K},K.Oks l→∀k,K.Oks (l.take k)
 | _,_,0=>by rw [List.take_zero];trivial
 | [],_,k+1=>trivial
 | c::l,h,k+1=>⟨h.1,K.Oks.take h.2 k⟩
end Go.Proofs.YtaeioidifpebdaaGreatDoor
end
section
namespace Go.Proofs.YtaeioidifpebdaaGreatDoor
open Go Go.RowKit Go.Lib
set_option linter.unusedSimpArgs false
set_option linter.unusedVariables false
set_option maxRecDepth 100000
structure Agr (n:Nat) (ev ev':Ev):Prop where
 e:∀d,Gd n d→ev.e d=ev'.e d
 b:∀l,Gds n l→ev.b l=ev'.b l
 q:∀d k,Gd n d→ev.q d k=ev'.q d k
theorem Gds.one {n:Nat} {d:D} (hd:Gd n d):Gds n [d]:=⟨⟨hd.1,trivial⟩,⟨hd.2.1,trivial⟩,by have:=hd.2.2;simp only [cC];omega⟩
theorem HG {n:Nat} {l:List D} (hl:Gds n l) {i:Nat} (hi:i<l.length):Gd n (l.getD i cJ):=by
 have:l.getD i cJ=l[i]:=by simp [List.getD,hi]
 rw [this];exact hl.mem (List.getElem_mem hi)
section
variable {n:Nat} {ev ev':Ev} (h:Agr n ev ev')
include h
theorem nH {l:List D} (hl:Gds n l):aL ev.e l=aL ev'.e l:=by
 unfold aL
 rw [List.map_congr_left fun d hd=>by rw [h.e d (hl.mem hd)],List.map_congr_left (g:=fun d=>(ev'.e d).2) fun d hd=>by rw [h.e d (hl.mem hd)]]
theorem sU {l:List D} (hl:Gds n l):eI ev.e l=eI ev'.e l:=by unfold eI;rw [nH h hl]
theorem UL (f:D) {b:List D} (hb:Gds n b):cY ev f b=cY ev' f b:=by unfold cY;rw [h.b b hb]
theorem UM:∀{l:List D},Gds n l→fF ev l=fF ev' l
 | [],_=>rfl
 | [_],_=>rfl
 | a::b::r,hl=>by
  simp only [fF,UL h a.snd hl.tail,h.e b hl.tail.head]
theorem HJ (names:List ByteArray) (body:K) {v:List D} (hv:Gds n v):dM ev names body v=dM ev' names body v:=by unfold dM;rw [nH h hv]
theorem HK {d:D} (hd:Gd n d) (b:K):dU ev d b=dU ev' d b:=HJ h _ _ (Gds.one hd)
theorem YP:∀{l:List D},Gds n l→jA ev l=jA ev' l
 | [],_=>rfl
 | [_],_=>rfl
 | a::b::r,hl=>by
  simp only [jA,nH h (fG hl.tail.head).1,h.b r hl.tail.tail]
theorem YQ:∀{l:List D},Gds n l→uH ev l=uH ev' l
 | [],_=>rfl
 | a::r,hl=>by
  have ha:=fun ns b=>HJ h ns b (fG hl.head).1
  simp only [uH,YP h hl,ha,h.b r hl.tail]
theorem PF:∀{l:List (ByteArray × D)} (s:Rs),(∀p∈l,Gd n p.2)→kC ev l s=kC ev' l s
 | [],s,_=>rfl
 | p::l,s,hl=>by
  show jB ev p (kC ev l s)=jB ev' p (kC ev' l s)
  rw [PF s fun q hq=>hl q (by simp [hq])]
  unfold jB
  rw [HJ h _ _ (Gds.one (hl p (by simp)))]
theorem YR:∀{l:List D},Gds n l→gE ev l=gE ev' l
 | [],_=>rfl
 | a::r,hl=>by
  have ha:=fun ns b=>HJ h ns b (v:=[]) ⟨trivial,trivial,by have:=hl.2.2;simp only [cC];omega⟩
  simp only [gE,ha,h.b r hl.tail]
  exact PF h _ fun p hp=>(fG hl.head).1.mem (List.of_mem_zip hp).2
theorem YS:∀{l:List D},Gds n l→gP ev l=gP ev' l
 | [],_=>rfl
 | a::r,hl=>by
  simp only [gP,nH h (fG hl.head).1,h.b r hl.tail]
theorem UN:∀{l:List D},Gds n l→iC ev l=iC ev' l
 | [],_=>rfl
 | a::r,hl=>by
  have hr:=UN hl.tail
  have hi:=kT hl.head
  rw [kK,kK]
  generalize eV a=it at hi ⊢
  match it,hi with
  | [],_=>rfl
  | [c],hi=>simp only [hr,HK h hi.head,sU h hi.tail]
  | [c,f],hi=>simp only [hr,h.e c hi.head,sU h hi.tail]
  | [c,f,g],hi=>simp only [hr,h.e c hi.head,h.e g hi.tail.tail.head,sU h hi.tail,HK h hi.head]
  | c::f::g::x::xs,hi=>simp only [hr,h.e c hi.head,sU h hi.tail]
theorem UO:∀{l:List D},Gds n l→fB ev l=fB ev' l
 | [],_=>rfl
 | a::r,hl=>by
  have hr:=UO hl.tail
  have hi:=kT hl.head
  rw [lF,lF]
  generalize eV a=it at hi ⊢
  match it,hi with
  | [],_=>rfl
  | [c],_=>rfl
  | c::f::fs,hi=>simp only [hr,sU h hi.tail]
theorem NO (b:Bool):∀{l:List D},Gds n l→dB ev b l=dB ev' b l
 | [],_=>rfl
 | [d],hl=>h.e d hl.head
 | d::e::r,hl=>by
  have hr:=NO b hl.tail
  have lg:∀ev:Ev,dB ev b (d::e::r)=if b=true then (aG (ev.e d).1 (dB ev b (e::r)).1 (kI 2),max (dB ev b (e::r)).2 (ev.e d).2) else ((dU ev d (aG (bP bK) (bP bK) (dB ev b (e::r)).1)).1,max (dB ev b (e::r)).2 (dU ev d (aG (bP bK) (bP bK) (dB ev b (e::r)).1)).2):=fun ev=>rfl
  rw [lg,lg,hr,h.e d hl.head,HK h hl.head]
theorem YT:∀{l:List D},Gds n l→nX ev l=nX ev' l
 | [],_=>rfl
 | [_],_=>rfl
 | a::b::r,hl=>by
  have g1:=(xG (gL hl.head)).1
  have g2:=gL hl.tail.head
  rw [pV,pV]
  generalize tI (aR a).1=I at g1 ⊢
  generalize tS (aR a).1=S at g1 ⊢
  generalize (aR b).1=B at g2 ⊢
  congr 1
  match B,g2 with
  | [],_=>rfl
  | e::es,g2 =>
   unfold sT
   simp only [h.e e g2.head,sU h g2.tail,nH h hl.tail.tail,nH h g1.1,nH h g1.2]
theorem YU (w:ByteArray) {l:List D} (hl:Gds n l):bF ev w l=bF ev' w l:=by
 unfold bF
 rw [YQ h hl,YR h hl,YS h hl,UN h hl,YT h hl,NO h true hl,NO h false hl]
theorem YV (w:ByteArray) {l:List D} (hl:Gds n l):bZ ev w l=bZ ev' w l:=by
 unfold bZ
 rw [YU h w hl,sU h hl,nH h hl,sU h (hl.drop 1),UL h _ (hl.drop 1)]
 have g:∀i,i<l.length→ev.e (l.getD i cJ)=ev'.e (l.getD i cJ):=fun i hi=>h.e _ (HG hl hi)
 have gq:0<l.length→ev.q (l.getD 0 cJ) 1=ev'.q (l.getD 0 cJ) 1:=fun hi=>h.q _ _ (HG hl hi)
 have gc:zA ev l=zA ev' l:=by
  match l,hl with
  | [],_=>rfl
  | a::r,hl =>
   have ht:=fun b=>HK h hl.head b
   simp only [zA,UO h hl.tail,ht]
 rw [gc]
 refine ite_congr rfl (fun _=>rfl) fun _=>?_
 refine ite_congr rfl (fun q=>gq (by have:=q.2;omega)) fun _=>?_
 refine ite_congr rfl (fun _=>rfl) fun _=>?_
 refine ite_congr rfl (fun q=>by have:=q.2;rw [g 1 (by omega)]) fun _=>?_
 refine ite_congr rfl (fun q=>by have:=q.2;rw [g 0 (by omega),g 1 (by omega)]) fun _=>?_
 refine ite_congr rfl (fun q=>by have:=q.2;rw [g 0 (by omega),g 1 (by omega),g 2 (by omega)]) fun _=>?_
 refine ite_congr rfl (fun _=>rfl) fun _=>?_
 refine ite_congr rfl (fun _=>rfl) fun _=>?_
 refine ite_congr rfl (fun q=>by have:=q.2;rw [g 0 (by omega)]) fun _=>?_
 refine ite_congr rfl (fun q=>by have:=q.2;rw [g 0 (by omega)]) fun _=>?_
 rfl
theorem NP {d:D} (hd:Gd (n+1) d):dV ev d=dV ev' d:=by
 unfold dV
 by_cases h7:d.k=7
 ·have hgi:Gds n (items d):=by
   have:=BR h7
   have:=hd.2.2
   exact⟨(lC d hd.1 hd.2.1).1,(lC d hd.1 hd.2.1).2,by omega⟩
  generalize items d=it at hgi ⊢
  match it,hgi with
  | [],_=>rfl
  | a::r,hgi=>simp only [YV h _ hgi.tail,nH h hgi]
 ·rw [if_neg h7,if_neg h7]
theorem UP (he:∀d,Gd (n+1) d→ev.e d=ev'.e d):∀{l:List D} (s:Bs),Gds (n+1) l→l.foldl (cW ev) s=l.foldl (cW ev') s
 | [],_,_=>rfl
 | d::l,s,hl=>by
  have h1:cW ev s d=cW ev' s d:=by
   unfold cW
   cases ho:dL d cA with
   | none=>simp only [he d hl.head]
   | some x =>
    obtain⟨g1,g2⟩:=iD hl.head ho
    have hx:Gds n x:=⟨g1.1,g1.2.1,by have:=hl.head.2.2;omega⟩
    simp only [UM h hx]
  rw [List.foldl_cons,List.foldl_cons,h1,UP he _ hl.tail]
theorem UQ (he:∀d,Gd (n+1) d→ev.e d=ev'.e d) {l:List D} (hl:Gds (n+1) l):vH ev l=vH ev' l:=by
 unfold vH mP
 rw [UP h he _ (GM hl).1]
theorem YW {d:D} (hd:Gd (n+1) d) (k:Nat):nY ev d k=nY ev' d k:=by
 unfold nY
 cases h1:rT d BQ with
 | some y =>
  have hy:=(nG hd h1).1
  simp only [h.e y hy,h.q y _ hy]
 | none =>
  cases h2:rT d fE with
  | some y =>
   have hy:=(nG hd h2).1
   simp only [h.q y _ hy]
  | none =>
   dsimp only
   by_cases h8:d.k=8
   ·have hv:=hd.vec h8
    have:=hd.2.2
    rw [if_pos h8,if_pos h8,h.q _ _ ⟨hv.1.1,hv.1.2.1,by omega⟩]
   ·rw [if_neg h8,if_neg h8]
    by_cases h7:d.k=7
    ·obtain⟨-,hf,hs,hm⟩:=hd.pair h7
     have:=hd.2.2
     have p1:=hF d.fst
     have p2:=hF d.snd
     have hf':Gd n d.fst:=⟨hf.1,hf.2.1,by omega⟩
     have hs':Gd n d.snd:=⟨hs.1,hs.2.1,by omega⟩
     rw [if_pos h7,if_pos h7,h.q _ _ hs',h.q _ _ hf']
     cases h3:rT d.fst kF with
     | some y =>
      have hy:=(nG hf h3).1
      simp only [h.e y hy,h.q y _ hy]
     | none=>rfl
    ·rw [if_neg h7,if_neg h7]
end
theorem AH:∀n m,n≤m→Agr n (evs n) (evs m)
 | 0,m,_=>⟨fun d hd=>absurd hd.2.2 (Nat.not_lt_zero _),fun d hd=>absurd hd.2.2 (Nat.not_lt_zero _),fun d k hd=>absurd hd.2.2 (Nat.not_lt_zero _)⟩
 | n+1,0,h=>absurd h (Nat.not_succ_le_zero _)
 | n+1,m+1,h=>by
  have ih:=AH n m (Nat.le_of_succ_le_succ h)
  have e1:∀d,Gd (n+1) d→dV (evs n) d=dV (evs m) d:=fun d hd=>NP ih hd
  have hm:Agr n ⟨dV (evs n),(evs n).b,(evs n).q⟩ ⟨dV (evs m),(evs m).b,(evs m).q⟩:=⟨fun d hd=>e1 d (hd.le (Nat.le_succ n)),ih.b,ih.q⟩
  exact⟨fun d hd=>by rw [evs,evs];exact e1 d hd,fun l hl=>by rw [evs,evs];exact UQ hm e1 hl,fun d k hd=>by rw [evs,evs];exact YW hm hd k⟩
noncomputable def exK (d:D):Rs:=(evs (d.msr+1)).e d
noncomputable def boK (l:List D):Rs:=(evs (cC l+1)).b l
theorem aAD {n:Nat} {d:D} (hd:Gd n d):(evs n).e d=exK d:=((AH (d.msr+1) n hd.2.2).e d ⟨hd.1,hd.2.1,Nat.lt_succ_self _⟩).symm
theorem aAQ {n:Nat} {l:List D} (hl:Gds n l):(evs n).b l=boK l:=((AH (cC l+1) n hl.2.2).b l ⟨hl.1,hl.2.1,Nat.lt_succ_self _⟩).symm
theorem UR {n:Nat} {d:D} (hd:Gd (n+1) d):exK d=dV (evs n) d:=by rw [←aAD hd,evs]
inductive Good (Q:D→Prop):(ByteArray→Prop)→K→Prop
 | const {A d}:Q d→Good Q A (dY d)
 | ref {A s}:A s→s≠e0→Good Q A (bP s)
 | prim {A s}:s≠e0→Good Q A (gM s)
 | set {A s x}:A s→s≠e0→Good Q A x→Good Q A (zR s x)
 | branch {A a b c}:Good Q A a→Good Q A b→Good Q A c→Good Q A (aG a b c)
 | seq {A l}:2≤l.length→l.length≤200000000→(∀x∈l,Good Q A x)→Good Q A (.mk 7 e0 e0 [] cJ l)
 | call {A l}:1≤l.length→l.length≤41→(∀x∈l,Good Q A x)→Good Q A (jZ l)
 | lam {A B:ByteArray→Prop} {ps rest b}:ps.Nodup→rest∉ps→(∀p∈ps,p≠e0)→ps.length+(if rest=e0 then 0 else 1)≤40→(∀s,B s→A s∨s∈ps∨s=rest)→Good Q B b→Good Q A (.mk 6 e0 rest ps cJ [b])
 | none {A}:Good Q A mT
theorem Good.mono {Q:D→Prop} {A:ByteArray→Prop} {k:K} (h:Good Q A k):∀{B:ByteArray→Prop},(∀s,A s→B s)→Good Q B k:=by
 induction h with
 | const h=>exact fun _=>.const h
 | ref h h0=>exact fun hb=>.ref (hb _ h) h0
 | prim h0=>exact fun _=>.prim h0
 | set h h0 _ ih=>exact fun hb=>.set (hb _ h) h0 (ih hb)
 | branch _ _ _ i1 i2 i3=>exact fun hb=>.branch (i1 hb) (i2 hb) (i3 hb)
 | seq h1 h2 _ ih=>exact fun hb=>.seq h1 h2 fun x hx=>ih x hx hb
 | call h1 h2 _ ih=>exact fun hb=>.call h1 h2 fun x hx=>ih x hx hb
 | lam h1 h2 h3 h4 h5 h6 _=>exact fun hb=>.lam h1 h2 h3 h4 (fun s hs=>(h5 s hs).imp (hb s) id) h6
 | none=>exact fun _=>.none
theorem K.Oks.ofMem:∀{l:List K},(∀x∈l,x.Ok)→K.Oks l
 | [],_=>trivial
 | x::l,h=>⟨h x (by simp),K.Oks.ofMem fun y hy=>h y (by simp [hy])⟩
theorem Good.ok {Q:D→Prop} (hQ:∀d,Q d→d.Ok) {A:ByteArray→Prop} {k:K} (h:Good Q A k):k.Ok:=by
 induction h with
 | const h=>exact⟨by decide,by simp,hQ _ h,by simp,trivial⟩
 | ref h h0=>exact⟨by decide,by simp,gO,by simp,trivial⟩
 | prim h0=>exact⟨by decide,by simp,gO,by simp,trivial⟩
 | set h h0 _ ih=>exact⟨by decide,by simp,gO,by simp,ih,trivial⟩
 | branch _ _ _ i1 i2 i3=>exact⟨by decide,by simp,gO,by simp,i1,i2,i3,trivial⟩
 | seq h1 h2 _ ih=>exact⟨by decide,by simp,gO,by omega,K.Oks.ofMem ih⟩
 | call h1 h2 _ ih=>exact⟨by decide,by simp,gO,by omega,K.Oks.ofMem ih⟩
 | lam h1 h2 h3 h4 h5 h6 ih=>exact⟨by decide,by omega,gO,by simp,ih,trivial⟩
 | none=>exact⟨by decide,by simp,gO,by simp,trivial⟩
section
variable {Q:D→Prop} {A:ByteArray→Prop}
theorem lW {l:List Nat} (h:gW l=0):∀x∈l,x=0:=by
 have key:∀(l:List Nat) (a:Nat),l.foldl max a=0→a=0∧∀x∈l,x=0:=by
  intro l
  induction l with
  | nil=>exact fun a h=>⟨h,by simp⟩
  | cons y l ih =>
   intro a h
   obtain⟨h1,h2⟩:=ih _ h
   exact⟨by omega,fun x hx=>(List.mem_cons.1 hx).elim (fun e=>by omega) (h2 x)⟩
 exact (key l 0 h).2
theorem lX {l:List K} (h0:(dA l).2=0) (hne:1≤l.length) (hl:∀x∈l,Good Q A x):Good Q A (dA l).1:=by
 unfold dA at h0 ⊢
 by_cases h:41<l.length
 ·rw [if_pos h] at h0;cases h0
 ·rw [if_neg h];exact .call hne (by omega) hl
theorem xI {ps:List ByteArray} {b:K} {B:ByteArray→Prop} (h0:(eU ps e0 b).2=0) (hn:ps.Nodup) (hne:∀p∈ps,p≠e0) (hB:∀s,B s→A s∨s∈ps) (h:Good Q B b):Good Q A (eU ps e0 b).1:=by
 unfold eU at h0 ⊢
 by_cases hc:40<ps.length+(if (e0:ByteArray)=e0 then 0 else 1)
 ·rw [if_pos hc] at h0;cases h0
 ·rw [if_neg hc]
  exact .lam hn (fun hm=>hne _ hm rfl) hne (by omega) (fun s hs=>(hB s hs).imp id .inl) h
theorem sV {l:List K} (hne:l≠[]) (hlen:l.length≤200000000) (hl:∀x∈l,Good Q A x):Good Q A (gV l):=by
 match l,hne with
 | [x],_=>exact hl x (by simp)
 | x::y::l,_=>exact .seq (by simp) hlen hl
end
def Cov (P:D→Prop) (A:ByteArray→Prop):Prop:=∀d,P d→d.k=6→A d.t∧d.t≠e0
structure Pc (Q P:D→Prop):Prop where
 kid:∀d x,P d→x∈d.l→P x
 vec:∀d,P d→d.k=8→P (aB d.l)
 q:∀d,P d→Q d
 kd:∀k,k=1∨k=2∨k=9→Q (eE k)
 nil:Q cJ
 sym:Q (aE BQ)∧Q (aE fE)∧Q (aE kF)
structure GE (Q P:D→Prop) (n:Nat) (ev:Ev):Prop where
 e:∀d,Gd n d→P d→∀A,Cov P A→(ev.e d).2=0→Good Q A (ev.e d).1
 b:∀l,Gds n l→(∀d∈l,P d)→∀A,Cov P A→(ev.b l).2=0→Good Q A (ev.b l).1
 q:∀d k,Gd n d→P d→∀A,Cov P A→(ev.q d k).2=0→Good Q A (ev.q d k).1
section
variable {Q P:D→Prop} {A:ByteArray→Prop} {n:Nat} {ev:Ev}
theorem pA (hP:Pc Q P):∀(d:D),P d→∀x∈items d,P x
 | .mk k c neg mag t l,hd,x,hx=>by
  unfold items at hx
  split at hx
  ·match l,hd,hx with
   | [],_,hx=>simp [kH] at hx
   | [_],_,hx=>simp [kH] at hx
   | [a,b],hd,hx =>
    simp only [kH,List.mem_cons] at hx
    rcases hx with rfl|hx
    ·exact hP.kid _ _ hd (by simp [D.l])
    ·exact pA hP b (hP.kid _ _ hd (by simp [D.l])) x hx
   | _::_::_::_,_,hx=>simp [kH] at hx
  ·simp at hx
theorem sW (hP:Pc Q P) {d:D} (hd:P d):∀x∈(aR d).1,P x:=by
 unfold aR
 split
 ·exact pA hP d hd
 ·simp
theorem mJ (hA:Cov P A) {d:D} (hd:P d) (h0:(bL d).2=0):A (bL d).1∧(bL d).1≠e0:=by
 unfold bL at h0 ⊢
 by_cases h:d.k=6∧iP d.t=false
 ·rw [if_pos h];exact hA d hd h.1
 ·rw [if_neg h] at h0;cases h0
theorem kV (hE:GE Q P n ev) (hA:Cov P A) {l:List D} (hl:Gds n l) (hp:∀d∈l,P d) (h0:(aL ev.e l).2=0):∀x∈(aL ev.e l).1,Good Q A x:=by
 intro x hx
 obtain⟨d,hd,rfl⟩:=List.mem_map.1 hx
 exact hE.e d (hl.mem hd) (hp d hd) A hA (lW h0 _ (List.mem_map_of_mem hd))
theorem iJ (hE:GE Q P n ev) (hA:Cov P A) {l:List D} (hn:n≤100000000) (hl:Gds n l) (hp:∀d∈l,P d) (h0:(eI ev.e l).2=0):Good Q A (eI ev.e l).1:=by
 have:=hl.len
 unfold eI at h0 ⊢
 by_cases h:l=[]
 ·rw [if_pos h] at h0;cases h0
 ·rw [if_neg h] at h0 ⊢
  exact sV (by simpa [aL] using h) (by simp [aL];omega) (kV hE hA hl hp h0)
theorem pW {l:List ByteArray} (h:unl l=0):l.Nodup:=by
 refine Classical.byContradiction fun hn=>?_
 rw [PC hn] at h;cases h
theorem HQ (hP:Pc Q P) (hA:Cov P A) {f:D} (hf:P f) (h0:(dR f).2.2=0):(dR f).1.Nodup∧(dR f).2.1∉(dR f).1∧(∀p∈(dR f).1,p≠e0):=by
 have hz:∀x∈items f,(bL x).2=0→(bL x).1≠e0:=fun x hx h=>(mJ hA (pA hP f hf x hx) h).2
 unfold dR at h0 ⊢
 dsimp only at h0 ⊢
 by_cases hk:(pO f).k=0
 ·rw [if_pos hk] at h0 ⊢
  dsimp only at h0 ⊢
  have h1:=lW (by omega:gW ((items f).map fun x=>(bL x).2)=0)
  have hne:∀p∈(items f).map fun x=>(bL x).1,p≠e0:=fun p hp=>by
   obtain⟨x,hx,rfl⟩:=List.mem_map.1 hp
   exact hz x hx (h1 _ (List.mem_map_of_mem (f:=fun x=>(bL x).2) hx))
  exact⟨pW (by omega),fun hm=>hne _ hm rfl,hne⟩
 ·rw [if_neg hk] at h0 ⊢
  dsimp only at h0 ⊢
  have h1:=lW (by omega:gW ((items f).map fun x=>(bL x).2)=0)
  have hne:∀p∈(items f).map fun x=>(bL x).1,p≠e0:=fun p hp=>by
   obtain⟨x,hx,rfl⟩:=List.mem_map.1 hp
   exact hz x hx (h1 _ (List.mem_map_of_mem (f:=fun x=>(bL x).2) hx))
  have hu:=pW (l:=(items f).map (fun x=>(bL x).1)++[(bL (pO f)).1]) (by omega)
  rw [List.nodup_append] at hu
  exact⟨hu.1,fun hm=>hu.2.2 _ hm _ (by simp) rfl,hne⟩
theorem RI {ps:List ByteArray} {rest:ByteArray} {b:K} (h0:(eU ps rest b).2=0) (hn:ps.Nodup) (hr:rest∉ps) (hne:∀p∈ps,p≠e0) (h:Good Q A b):Good Q A (eU ps rest b).1:=by
 unfold eU at h0 ⊢
 by_cases hc:40<ps.length+(if rest=e0 then 0 else 1)
 ·rw [if_pos hc] at h0;cases h0
 ·rw [if_neg hc]
  exact .lam hn hr hne (by omega) (fun s hs=>.inl hs) h
theorem uQ (hP:Pc Q P) (hE:GE Q P n ev) (hA:Cov P A) {f:D} (hf:P f) {b:List D} (hb:Gds n b) (hp:∀d∈b,P d) (h0:(cY ev f b).2=0):Good Q A (cY ev f b).1:=by
 unfold cY at h0 ⊢
 dsimp only at h0 ⊢
 obtain⟨h1,h2,h3⟩:=HQ hP hA hf (by omega)
 exact RI (by omega) h1 h2 h3 (hE.b b hb hp A hA (by omega))
theorem xJ {names:List ByteArray} {values:List K} {body:K} {B:ByteArray→Prop} (h0:(kB names values body).2=0) (hne:∀p∈names,p≠e0) (hlen:names.length≤100000000) (hB:∀s,B s→A s∨s∈names) (hv:∀x∈values,Good Q B x) (hb:Good Q B body):Good Q A (kB names values body).1:=by
 unfold kB at h0 ⊢
 dsimp only at h0 ⊢
 have hu:=pW (by omega:unl names=0)
 refine lX (by omega) (by simp) fun x hx=>?_
 rcases List.mem_cons.1 hx with rfl|hx
 ·refine xI (B:=fun s=>A s∨s∈names) (by omega) hu hne (fun s hs=>hs) (sV (by simp) (by simp [List.length_zip];omega) fun y hy=>?_)
  rcases List.mem_append.1 hy with hy|hy
  ·obtain⟨p,hp,rfl⟩:=List.mem_map.1 hy
   have:=List.of_mem_zip hp
   exact .set (.inr this.1) (hne _ this.1) ((hv _ this.2).mono hB)
  ·rw [List.mem_singleton.1 hy];exact hb.mono hB
 ·obtain⟨_,_,rfl⟩:=List.mem_map.1 hx
  exact .none
theorem rC (hE:GE Q P n ev) (hA:Cov P A) {names:List ByteArray} {body:K} {values:List D} {B:ByteArray→Prop} (hu:names.Nodup) (hne:∀p∈names,p≠e0) (hB:∀s,B s→A s∨s∈names) (hb:Good Q B body) (hv:Gds n values) (hp:∀d∈values,P d) (h0:(dM ev names body values).2=0):Good Q A (dM ev names body values).1:=by
 unfold dM at h0 ⊢
 dsimp only at h0 ⊢
 refine lX (by omega) (by simp) fun x hx=>?_
 rcases List.mem_cons.1 hx with rfl|hx
 ·exact xI (by omega) hu hne hB hb
 ·exact kV hE hA hv hp (by omega) x hx
theorem pB (hE:GE Q P n ev) (hA:Cov P A) {d:D} {body:K} {B:ByteArray→Prop} (hB:∀s,B s→A s∨s=bK) (hb:Good Q B body) (hd:Gd n d) (hp:P d) (h0:(dU ev d body).2=0):Good Q A (dU ev d body).1 :=
 rC hE hA (by simp) (by simp;decide) (fun s hs=>(hB s hs).imp id (by simp)) hb (Gds.one hd) (by simpa using hp) h0
end
end Go.Proofs.YtaeioidifpebdaaGreatDoor
end
section
namespace Go.Proofs.YtaeioidifpebdaaGreatDoor
open Go Go.RowKit Go.Lib
set_option linter.unusedSimpArgs false
set_option linter.unusedVariables false
set_option linter.unusedSectionVars false
set_option maxRecDepth 100000
section
variable {Q P:D→Prop} {A:ByteArray→Prop} {n:Nat} {ev:Ev}
theorem PG (hP:Pc Q P) {b:D} (hb:P b) {p:D × D} (h:gY b=some p):P p.1∧P p.2:=by
 unfold gY at h
 split at h
 ·split at h
  ·rename_i x y hi
   cases h
   exact⟨pA hP b hb _ (by rw [hi];simp),pA hP b hb _ (by rw [hi];simp)⟩
  ·cases h
 ·cases h
theorem uA (hP:Pc Q P) (hA:Cov P A) {d:D} (hd:P d) (h0:(aK d).2.2=0):(∀p∈(aK d).1,p≠e0)∧∀x∈(aK d).2.1,P x:=by
 have hl:=sW hP hd
 unfold aK at h0 ⊢
 dsimp only at h0 ⊢
 generalize (aR d).1=l at hl h0 ⊢
 have h1:=lW (Nat.eq_zero_of_le_zero (h0▸Nat.le_max_right _ _))
 refine⟨fun s hs=>?_,fun x hx=>?_⟩
 ·obtain⟨b,hb,hq⟩:=List.mem_filterMap.1 hs
  obtain⟨p,hp,rfl⟩:=Option.map_eq_some_iff.1 hq
  have:=h1 _ (List.mem_map_of_mem hb)
  rw [hp] at this
  exact (mJ hA (PG hP (hl b hb) hp).1 this).2
 ·obtain⟨b,hb,hq⟩:=List.mem_filterMap.1 hx
  obtain⟨p,hp,rfl⟩:=Option.map_eq_some_iff.1 hq
  exact (PG hP (hl b hb) hp).2
variable (hP:Pc Q P) (hE:GE Q P n ev) (hA:Cov P A) (hn:n≤100000000)
include hP hE hA hn
theorem NQ {l:List D} (hl:Gds n l) (hp:∀d∈l,P d) (h0:(jA ev l).2=0):Good Q A (jA ev l).1:=by
 match l,hl,hp,h0 with
 | [],_,_,h0=>cases h0
 | [_],_,_,h0=>cases h0
 | a::b::r,hl,hp,h0 =>
  unfold jA at h0 ⊢
  dsimp only at h0 ⊢
  have hw:=mJ hA (hp a (by simp)) (by omega)
  obtain⟨g1,g2⟩:=uA hP hA (hp b (by simp)) (by omega)
  have hu:=pW (by omega:unl (aK b).1=0)
  have hbf:=fG hl.tail.head
  refine lX (by omega) (by simp) fun x hx=>?_
  rcases List.mem_cons.1 hx with rfl|hx
  ·refine xJ (B:=fun s=>A s∨s=(bL a).1) (by omega) (by simpa using hw.2) (by simp) (fun s hs=>hs.imp id (by simp)) (fun y hy=>?_) (.ref (.inr rfl) hw.2)
   rw [List.mem_singleton.1 hy]
   exact xI (B:=A) (by omega) hu g1 (fun s hs=>.inl (.inl hs)) (hE.b r hl.tail.tail (fun d hd=>hp d (by simp [hd])) A hA (by omega))
  ·exact kV hE hA hbf.1 g2 (by omega) x hx
theorem US {l:List D} (hl:Gds n l) (hp:∀d∈l,P d) (h0:(uH ev l).2=0):Good Q A (uH ev l).1:=by
 match l,hl,hp,h0 with
 | [],_,_,h0=>cases h0
 | a::r,hl,hp,h0 =>
  by_cases hk:a.k=6
  ·rw [show uH ev (a::r)=jA ev (a::r) from if_pos hk] at h0 ⊢
   exact NQ hP hE hA hn hl hp h0
  ·rw [show uH ev (a::r)=((dM ev (aK a).1 (ev.b r).1 (aK a).2.1).1,max (max (max (aK a).2.2 (ev.b r).2) (unl (aK a).1)) (dM ev (aK a).1 (ev.b r).1 (aK a).2.1).2) from if_neg hk] at h0 ⊢
   dsimp only at h0 ⊢
   obtain⟨g1,g2⟩:=uA hP hA (hp a (by simp)) (by omega)
   exact rC hE hA (pW (by omega)) g1 (fun s hs=>.inl hs) (hE.b r hl.tail (fun d hd=>hp d (by simp [hd])) A hA (by omega)) (fG hl.head).1 g2 (by omega)
theorem EW:∀(l:List (ByteArray × D)) (s:Rs),(∀p∈l,p.1≠e0∧Gd n p.2∧P p.2)→(s.2=0→Good Q A s.1)→(kC ev l s).2=0→Good Q A (kC ev l s).1
 | [],s,_,hs,h0=>hs h0
 | p::l,s,hl,hs,h0=>by
  change (jB ev p (kC ev l s)).2=0 at h0
  change Good Q A (jB ev p (kC ev l s)).1
  unfold jB at h0 ⊢
  dsimp only at h0 ⊢
  have h1:=hl p (by simp)
  exact rC hE hA (by simp) (by simpa using h1.1) (fun s hs=>.inl hs) (EW l s (fun q hq=>hl q (by simp [hq])) hs (by omega)) (Gds.one h1.2.1) (by simpa using h1.2.2) (by omega)
theorem RJ {l:List D} (hl:Gds n l) (hp:∀d∈l,P d) (h0:(gE ev l).2=0):Good Q A (gE ev l).1:=by
 match l,hl,hp,h0 with
 | [],_,_,h0=>cases h0
 | a::r,hl,hp,h0 =>
  unfold gE at h0 ⊢
  dsimp only at h0 ⊢
  have hle:∀(l:List (ByteArray × D)) (s:Rs),(kC ev l s).2=0→s.2=0:=by
   intro l
   induction l with
   | nil=>exact fun s h=>h
   | cons p l ih =>
    intro s h
    change (jB ev p (kC ev l s)).2=0 at h
    unfold jB at h
    dsimp only at h
    exact ih s (by omega)
  have hz:=hle _ _ h0
  dsimp only at hz
  obtain⟨g1,g2⟩:=uA hP hA (hp a (by simp)) (by omega)
  have hbf:=fG hl.head
  refine EW hP hE hA hn _ _ (fun p hp'=>?_) (fun hs=>?_) h0
  ·have:=List.of_mem_zip hp'
   exact⟨g1 _ this.1,hbf.1.mem this.2,g2 _ this.2⟩
  ·exact rC hE hA (by simp) (by simp) (fun s hs=>.inl hs) (hE.b r hl.tail (fun d hd=>hp d (by simp [hd])) A hA (by omega)) ⟨trivial,trivial,by have:=hl.2.2;simp only [cC];omega⟩ (by simp) (by omega)
theorem KS {l:List D} (hl:Gds n l) (hp:∀d∈l,P d) (h0:(gP ev l).2=0):Good Q A (gP ev l).1:=by
 match l,hl,hp,h0 with
 | [],_,_,h0=>cases h0
 | a::r,hl,hp,h0 =>
  unfold gP at h0 ⊢
  dsimp only at h0 ⊢
  obtain⟨g1,g2⟩:=uA hP hA (hp a (by simp)) (by omega)
  have hbf:=fG hl.head
  exact xJ (B:=A) (by omega) g1 (by omega) (fun s hs=>.inl hs) (kV hE hA hbf.1 g2 (by omega)) (hE.b r hl.tail (fun d hd=>hp d (by simp [hd])) A hA (by omega))
end
section
variable {Q P:D→Prop} {A:ByteArray→Prop} {n:Nat} {ev:Ev}
variable (hP:Pc Q P) (hE:GE Q P n ev) (hA:Cov P A) (hn:n≤100000000)
include hP hE hA hn
theorem EX {d:D} (hd:P d):∀x∈eV d,P x:=by rw [←yA];exact sW hP hd
theorem rD:Good Q A bR:=.const (hP.kd 9 (by simp))
theorem oH {k:Int} (h:k=1∨k=2):Good Q A (kI k):=.const (hP.kd k (by omega))
theorem EY:∀{l:List D},Gds n l→(∀d∈l,P d)→(iC ev l).2=0→Good Q A (iC ev l).1
 | [],_,_,_=>rD hP hE hA hn
 | a::r,hl,hp,h0=>by
  have hi:=kT hl.head
  have hpi:=EX hP hE hA hn (hp a (by simp))
  have hr:=fun h=>EY hl.tail (fun d hd=>hp d (by simp [hd])) h
  have tr:Good Q (fun s=>A s∨s=bK) (bP bK):=.ref (.inr rfl) (by decide)
  rw [kK] at h0 ⊢
  generalize eV a=it at hi hpi h0 ⊢
  match it,hi,hpi,h0 with
  | [],_,_,h0=>cases h0
  | c::cs,hi,hpi,h0 =>
   dsimp only at h0 ⊢
   have hcs:∀x∈cs,P x:=fun x hx=>hpi x (by simp [hx])
   by_cases he:fL c dX=true
   ·rw [if_pos he] at h0 ⊢
    by_cases hr0:r=[]
    ·rw [if_pos hr0] at h0 ⊢
     exact iJ hE hA hn hi.tail hcs h0
    ·rw [if_neg hr0] at h0;cases h0
   ·rw [if_neg he] at h0 ⊢
    match cs,hi,hcs,hpi,h0 with
    | [],hi,hcs,hpi,h0 =>
     dsimp only at h0 ⊢
     exact pB hE hA (B:=fun s=>A s∨s=bK) (fun s hs=>hs) (.branch tr tr ((hr (by omega)).mono fun s hs=>.inl hs)) hi.head (hpi c (by simp)) (by omega)
    | [f],hi,hcs,hpi,h0 =>
     dsimp only at h0 ⊢
     by_cases hf:fL f gU=true
     ·rw [if_pos hf] at h0;cases h0
     ·rw [if_neg hf] at h0 ⊢
      dsimp only at h0 ⊢
      exact .branch (hE.e c hi.head (hpi c (by simp)) A hA (by omega)) (iJ hE hA hn hi.tail hcs (by omega)) (hr (by omega))
    | [f,g],hi,hcs,hpi,h0 =>
     dsimp only at h0 ⊢
     by_cases hf:fL f gU=true
     ·rw [if_pos hf] at h0 ⊢
      dsimp only at h0 ⊢
      refine pB hE hA (B:=fun s=>A s∨s=bK) (fun s hs=>hs) (.branch tr (lX (by omega) (by simp) fun x hx=>?_) ((hr (by omega)).mono fun s hs=>.inl hs)) hi.head (hpi c (by simp)) (by omega)
      simp only [List.mem_cons,List.not_mem_nil,or_false] at hx
      rcases hx with rfl|rfl
      ·exact (hE.e g hi.tail.tail.head (hpi g (by simp)) A hA (by omega)).mono fun s hs=>.inl hs
      ·exact tr
     ·rw [if_neg hf] at h0 ⊢
      dsimp only at h0 ⊢
      exact .branch (hE.e c hi.head (hpi c (by simp)) A hA (by omega)) (iJ hE hA hn hi.tail hcs (by omega)) (hr (by omega))
    | f::g::x::xs,hi,hcs,hpi,h0 =>
     dsimp only at h0 ⊢
     by_cases hf:fL f gU=true
     ·rw [if_pos hf] at h0;cases h0
     ·rw [if_neg hf] at h0 ⊢
      dsimp only at h0 ⊢
      exact .branch (hE.e c hi.head (hpi c (by simp)) A hA (by omega)) (iJ hE hA hn hi.tail hcs (by omega)) (hr (by omega))
theorem CR (ht:A bK):∀{l:List D},(∀d∈l,P d)→Good Q A (pF l)
 | [],_=>oH hP hE hA hn (.inr rfl)
 | d::l,hp=>by
  refine .branch (.call (by simp) (by simp) fun x hx=>?_) (oH hP hE hA hn (.inl rfl)) (CR ht fun x hx=>hp x (by simp [hx]))
  simp only [List.mem_cons,List.not_mem_nil,or_false] at hx
  rcases hx with rfl|rfl|rfl
  ·exact .prim (by decide)
  ·exact .ref ht (by decide)
  ·exact .const (hP.q d (hp d (by simp)))
end
theorem mz {a b:Nat} (h:max a b=0):a=0∧b=0:=⟨by omega,by omega⟩
section
variable {Q P:D→Prop} {A:ByteArray→Prop} {n:Nat} {ev:Ev}
variable (hP:Pc Q P) (hE:GE Q P n ev) (hA:Cov P A) (hn:n≤100000000)
include hP hE hA hn
theorem zE:∀{l:List D},Gds n l→(∀d∈l,P d)→(fB ev l).2=0→Good Q (fun s=>A s∨s=bK) (fB ev l).1
 | [],_,_,_=>(rD hP hE hA hn).mono fun s hs=>.inl hs
 | a::r,hl,hp,h0=>by
  have hi:=kT hl.head
  have hpi:=EX hP hE hA hn (hp a (by simp))
  have hr:=fun h=>zE hl.tail (fun d hd=>hp d (by simp [hd])) h
  rw [lF] at h0 ⊢
  generalize eV a=it at hi hpi h0 ⊢
  match it,hi,hpi,h0 with
  | [],_,_,h0=>cases h0
  | [_],_,_,h0=>cases h0
  | c::f::fs,hi,hpi,h0 =>
   dsimp only at h0 ⊢
   have hcs:∀x∈f::fs,P x:=fun x hx=>hpi x (by simp at hx ⊢;exact .inr hx)
   by_cases he:fL c dX=true
   ·rw [if_pos he] at h0 ⊢
    by_cases hr0:r=[]
    ·rw [if_pos hr0] at h0 ⊢
     exact (iJ hE hA hn hi.tail hcs h0).mono fun s hs=>.inl hs
    ·rw [if_neg hr0] at h0;cases h0
   ·rw [if_neg he] at h0 ⊢
    dsimp only at h0 ⊢
    have hA':Cov P (fun s=>A s∨s=bK):=fun d h1 h2=>⟨.inl (hA d h1 h2).1,(hA d h1 h2).2⟩
    exact .branch (CR hP hE hA' hn (.inr rfl) (sW hP (hpi c (by simp)))) ((iJ hE hA hn hi.tail hcs (by omega)).mono fun s hs=>.inl hs) (hr (by omega))
theorem RK {l:List D} (hl:Gds n l) (hp:∀d∈l,P d) (h0:(zA ev l).2=0):Good Q A (zA ev l).1:=by
 match l,hl,hp,h0 with
 | [],_,_,h0=>cases h0
 | a::r,hl,hp,h0 =>
  unfold zA at h0 ⊢
  dsimp only at h0 ⊢
  exact pB hE hA (B:=fun s=>A s∨s=bK) (fun s hs=>hs) (zE hP hE hA hn hl.tail (fun d hd=>hp d (by simp [hd])) (by omega)) hl.head (hp a (by simp)) (by omega)
theorem vO (b:Bool):∀{l:List D},Gds n l→(∀d∈l,P d)→(dB ev b l).2=0→Good Q A (dB ev b l).1
 | [],_,_,_=>by
  unfold dB
  cases b
  ·exact oH hP hE hA hn (.inr rfl)
  ·exact oH hP hE hA hn (.inl rfl)
 | [d],hl,hp,h0=>hE.e d hl.head (hp d (by simp)) A hA h0
 | d::e::r,hl,hp,h0=>by
  have hr:=fun h=>vO b hl.tail (fun x hx=>hp x (List.mem_cons_of_mem _ hx)) h
  have tr:Good Q (fun s=>A s∨s=bK) (bP bK):=.ref (.inr rfl) (by decide)
  rw [show dB ev b (d::e::r)=if b=true then (aG (ev.e d).1 (dB ev b (e::r)).1 (kI 2),max (dB ev b (e::r)).2 (ev.e d).2) else ((dU ev d (aG (bP bK) (bP bK) (dB ev b (e::r)).1)).1,max (dB ev b (e::r)).2 (dU ev d (aG (bP bK) (bP bK) (dB ev b (e::r)).1)).2) from rfl] at h0 ⊢
  cases b with
  | true =>
   rw [if_pos rfl] at h0 ⊢
   dsimp only at h0 ⊢
   exact .branch (hE.e d hl.head (hp d (by simp)) A hA (by omega)) (hr (by omega)) (oH hP hE hA hn (.inr rfl))
  | false =>
   rw [if_neg (by decide)] at h0 ⊢
   dsimp only at h0 ⊢
   exact pB hE hA (B:=fun s=>A s∨s=bK) (fun s hs=>hs) (.branch tr tr ((hr (by omega)).mono fun s hs=>.inl hs)) hl.head (hp d (by simp)) (by omega)
theorem YX {d:D} {t:D × D × D} (hd:P d) (h:mG d=some t):P t.1∧P t.2.1∧P t.2.2:=by
 have hi:=pA hP d hd
 obtain⟨-,⟨h1,h2⟩|h1⟩:=vN h
 ·rw [h1] at hi
  rw [h2]
  exact⟨hi _ (by simp),hi _ (by simp),hi _ (by simp)⟩
 ·rw [h1] at hi
  exact⟨hi _ (by simp),hi _ (by simp),hi _ (by simp)⟩
theorem aAR {l:List D} (hl:∀d∈l,P d):(∀d∈tI l,P d)∧(∀d∈tS l,P d)∧(tE l=0→∀p∈tN l,p≠e0):=by
 have key:∀t∈tT l,P t.1∧P t.2.1∧P t.2.2:=fun t ht=>by
  obtain⟨d,hd,hq⟩:=List.mem_filterMap.1 ht
  exact YX hP hE hA hn (hl d hd) hq
 refine⟨fun d hd=>?_,fun d hd=>?_,fun h0 p hp=>?_⟩
 ·obtain⟨t,ht,rfl⟩:=List.mem_map.1 hd;exact (key t ht).2.1
 ·obtain⟨t,ht,rfl⟩:=List.mem_map.1 hd;exact (key t ht).2.2
 ·obtain⟨t,ht,rfl⟩:=List.mem_map.1 hp
  exact (mJ hA (key t ht).1 (lW h0 _ (List.mem_map_of_mem (f:=fun t=>(bL t.1).2) ht))).2
theorem NR {l:List D} (hl:Gds n l) (hp:∀d∈l,P d) (h0:(nX ev l).2=0):Good Q A (nX ev l).1:=by
 match l,hl,hp,h0 with
 | [],_,_,h0=>cases h0
 | [_],_,_,h0=>cases h0
 | a::b::r,hl,hp,h0 =>
  have g1:=(xG (gL hl.head)).1
  have g2:=gL hl.tail.head
  have hlen:=(gL hl.head).len
  have hrl:=hl.tail.tail.len
  obtain⟨p1,p2,p3⟩:=aAR hP hE hA hn (sW hP (hp a (by simp)))
  have p4:=sW hP (hp b (by simp))
  rw [pV] at h0 ⊢
  by_cases hall:(aR a).1.all (fun d=>(mG d).isSome)=true
  case neg=>rw [if_neg hall] at h0;cases h0
  rw [if_pos hall] at h0 ⊢
  generalize tI (aR a).1=I at g1 p1 h0 ⊢
  generalize tS (aR a).1=S at g1 p2 h0 ⊢
  generalize tN (aR a).1=N at p3 h0 ⊢
  generalize (aR b).1=B at g2 p4 h0 ⊢
  cases B with
  | nil=>exact absurd (show (2:Nat)=0 from h0) (by decide)
  | cons e es =>
   unfold sT at h0 ⊢
   dsimp only at h0 ⊢
   obtain⟨h1,zc⟩:=mz h0
   obtain⟨h2,zv⟩:=mz h1
   obtain⟨h3,zx⟩:=mz h2
   obtain⟨h4,zf⟩:=mz h3
   obtain⟨h5,za⟩:=mz h4
   obtain⟨h6,zn⟩:=mz h5
   obtain⟨h7,zb⟩:=mz h6
   obtain⟨h8,zl⟩:=mz h7
   obtain⟨ze,zt⟩:=mz h8
   obtain⟨h9,zu⟩:=mz ze
   obtain⟨h10,-⟩:=mz h9
   obtain⟨-,zT⟩:=mz h10
   clear h0 h1 h2 h3 h4 h5 h6 h7 h8 ze h9 h10
   have hA':Cov P (fun s=>A s∨s=eD):=fun d h1 h2=>⟨.inl (hA d h1 h2).1,(hA d h1 h2).2⟩
   refine lX zc (by simp) fun x hx=>?_
   rcases List.mem_cons.1 hx with rfl|hx
   ·refine xJ (B:=fun s=>A s∨s=eD) zx (by simp;decide) (by simp) (fun s hs=>hs.imp id (by simp)) (fun y hy=>?_) (.ref (.inr rfl) (by decide))
    rw [List.mem_singleton.1 hy]
    refine xI (B:=fun s=>A s∨s=eD) zf (pW zu) (p3 zT) (fun s hs=>.inl hs) (.branch (hE.e e g2.head (p4 e (by simp)) _ hA' zt) ?_ (sV (by simp) (by simp [aL];omega) fun z hz=>?_))
    ·by_cases hes:es=[]
     ·rw [if_pos hes];exact rD hP hE hA' hn
     ·rw [if_neg hes] at zl ⊢
      exact iJ hE hA' hn g2.tail (fun d hd=>p4 d (by simp [hd])) zl
    ·rcases List.mem_append.1 hz with hz|hz
     ·exact kV hE hA' hl.tail.tail (fun d hd=>hp d (by simp [hd])) zb z hz
     ·rw [List.mem_singleton.1 hz]
      refine lX za (by simp) fun u hu=>?_
      rcases List.mem_cons.1 hu with rfl|hu
      ·exact .ref (.inr rfl) (by decide)
      ·exact kV hE hA' g1.2 p2 zn u hu
   ·exact kV hE hA g1.1 p1 zv x hx
end
end Go.Proofs.YtaeioidifpebdaaGreatDoor
end
section
namespace Go.Proofs.YtaeioidifpebdaaGreatDoor
open Go Go.RowKit Go.Lib
set_option linter.unusedSimpArgs false
set_option linter.unusedVariables false
set_option linter.unusedSectionVars false
set_option maxRecDepth 100000
set_option maxHeartbeats 1000000
mutual
def K.lh:K→Nat
 | .mk k _ _ _ _ l=>lhs l+if k=6 then 1 else 0
def lhs:List K→Nat
 | []=>0
 | x::l=>max x.lh (lhs l)
end
theorem yE (ev:Ev) (a b:D) (r:List D):fF ev (a::b::r)=if a.k=7 then ((bL a.fst).1,(cY ev a.snd (b::r)).1,max (bL a.fst).2 (cY ev a.snd (b::r)).2)
  else ((bL a).1,(ev.e b).1,max (if r=[] then (bL a).2 else max (bL a).2 2) (ev.e b).2):=rfl
theorem uB (ev:Ev) (a:D) (r:List D):uH ev (a::r)=if a.k=6 then jA ev (a::r) else ((dM ev (aK a).1 (ev.b r).1 (aK a).2.1).1,max (max (max (aK a).2.2 (ev.b r).2) (unl (aK a).1)) (dM ev (aK a).1 (ev.b r).1 (aK a).2.1).2):=rfl
structure LB (N H:Nat) (ev:Ev):Prop where
 e:∀d,Gd N d→(ev.e d).1.lh≤H
 b:∀l,Gds N l→(ev.b l).1.lh≤H
 q:∀d k,Gd N d→(ev.q d k).1.lh≤H
section
variable {N H:Nat} {ev:Ev} (h:LB N H ev)
include h
end
end Go.Proofs.YtaeioidifpebdaaGreatDoor
end
section
namespace Go.Proofs.YtaeioidifpebdaaGreatDoor
open Go Go.RowKit Go.Lib
set_option linter.unusedSimpArgs false
set_option linter.unusedVariables false
set_option linter.unusedSectionVars false
set_option maxRecDepth 100000
section
variable {Q P:D→Prop} {A:ByteArray→Prop} {n:Nat} {ev:Ev}
variable (hP:Pc Q P) (hE:GE Q P n ev) (hA:Cov P A) (hn:n≤100000000)
include hP hE hA hn
theorem rE {a d:K} (ha:Good Q A a) (hd:Good Q A d):Good Q A (yZ a d):=by
 refine .call (by simp) (by simp) fun x hx=>?_
 simp only [List.mem_cons,List.not_mem_nil,or_false] at hx
 rcases hx with rfl|rfl|rfl
 ·exact .prim (by decide)
 ·exact ha
 ·exact hd
theorem sX {s:ByteArray} {x:K} (hs:Q (aE s)) (hx:Good Q A x):Good Q A (qW s x) :=
 rE hP hE hA hn (.const hs) (rE hP hE hA hn hx (.const hP.nil))
theorem xK {d:D} (ht:d.Two) (hd:P d) {s:ByteArray} {x:List D} (h:dL d s=some x):∀y∈x,P y:=by
 unfold dL at h
 split at h
 ·rename_i hk
  split at h
  ·cases h
   have hl:=ht.pair hk.1
   exact pA hP _ (hP.kid d _ hd (by rw [hl];simp))
  ·cases h
 ·cases h
theorem NS {d:D} (ht:d.Two) (hd:P d) {s:ByteArray} {y:D} (h:rT d s=some y):P y:=by
 unfold rT at h
 split at h
 ·rename_i x hx
  cases h
  exact xK hP hE hA hn ht hd hx _ (by simp)
 ·cases h
theorem NT {d:D} (hd:Gd (n+1) d) (hp:P d) (k:Nat) (h0:(nY ev d k).2=0):Good Q A (nY ev d k).1:=by
 unfold nY at h0 ⊢
 cases h1:rT d BQ with
 | some y =>
  have hy:=(nG hd h1).1
  have py:=NS hP hE hA hn hd.1 hp h1
  rw [h1] at h0
  dsimp only at h0 ⊢
  by_cases hk:k=1
  ·rw [if_pos hk] at h0 ⊢;exact hE.e y hy py A hA h0
  ·rw [if_neg hk] at h0 ⊢;exact sX hP hE hA hn hP.sym.1 (hE.q y _ hy py A hA h0)
 | none =>
  rw [h1] at h0
  dsimp only at h0 ⊢
  cases h2:rT d fE with
  | some y =>
   have hy:=(nG hd h2).1
   have py:=NS hP hE hA hn hd.1 hp h2
   rw [h2] at h0
   dsimp only at h0 ⊢
   exact sX hP hE hA hn hP.sym.2.1 (hE.q y _ hy py A hA h0)
  | none =>
   rw [h2] at h0
   dsimp only at h0 ⊢
   by_cases h8:d.k=8
   ·have hv:=hd.vec h8
    have:=hd.2.2
    rw [if_pos h8] at h0 ⊢
    dsimp only at h0 ⊢
    refine .call (by simp) (by simp) fun x hx=>?_
    simp only [List.mem_cons,List.not_mem_nil,or_false] at hx
    rcases hx with rfl|rfl
    ·exact .prim (by decide)
    ·exact hE.q _ _ ⟨hv.1.1,hv.1.2.1,by omega⟩ (hP.vec d hp h8) A hA h0
   ·rw [if_neg h8] at h0 ⊢
    by_cases h7:d.k=7
    ·obtain⟨hl,hf,hs,hm⟩:=hd.pair h7
     have:=hd.2.2
     have p1:=hF d.fst
     have p2:=hF d.snd
     have hf':Gd n d.fst:=⟨hf.1,hf.2.1,by omega⟩
     have hs':Gd n d.snd:=⟨hs.1,hs.2.1,by omega⟩
     have pf:P d.fst:=hP.kid d _ hp (by rw [hl];simp)
     have ps:P d.snd:=hP.kid d _ hp (by rw [hl];simp)
     rw [if_pos h7] at h0 ⊢
     cases h3:rT d.fst kF with
     | some y =>
      have hy:=(nG hf h3).1
      have py:=NS hP hE hA hn hf.1 pf h3
      rw [h3] at h0
      dsimp only at h0 ⊢
      by_cases hk:k=1
      ·rw [if_pos hk] at h0 ⊢
       dsimp only at h0 ⊢
       refine .call (by simp) (by simp) fun x hx=>?_
       simp only [List.mem_cons,List.not_mem_nil,or_false] at hx
       rcases hx with rfl|rfl|rfl
       ·exact .prim (by decide)
       ·exact hE.e y hy py A hA (by omega)
       ·exact hE.q _ _ hs' ps A hA (by omega)
      ·rw [if_neg hk] at h0 ⊢
       dsimp only at h0 ⊢
       exact rE hP hE hA hn (sX hP hE hA hn hP.sym.2.2 (hE.q y _ hy py A hA (by omega))) (hE.q _ _ hs' ps A hA (by omega))
     | none =>
      rw [h3] at h0
      dsimp only at h0 ⊢
      exact rE hP hE hA hn (hE.q _ _ hf' pf A hA (by omega)) (hE.q _ _ hs' ps A hA (by omega))
    ·rw [if_neg h7] at h0 ⊢
     exact .const (hP.q d hp)
theorem HS (w:ByteArray) {l:List D} (hl:Gds n l) (hp:∀d∈l,P d) (h0:(bF ev w l).2=0):Good Q A (bF ev w l).1:=by
 unfold bF at h0 ⊢
 repeat' (split at h0<;>rename_i hc<;>first|rw [if_pos hc]|rw [if_neg hc])
 ·exact US hP hE hA hn hl hp h0
 ·exact RJ hP hE hA hn hl hp h0
 ·exact KS hP hE hA hn hl hp h0
 ·exact EY hP hE hA hn hl hp h0
 ·exact NR hP hE hA hn hl hp h0
 ·exact vO hP hE hA hn true hl hp h0
 ·exact vO hP hE hA hn false hl hp h0
 ·cases h0
theorem KT {l:List D} (hp:∀d∈l,P d) {i:Nat} (hi:i<l.length):P (l.getD i cJ):=by
 have:l.getD i cJ=l[i]:=by simp [List.getD,hi]
 rw [this];exact hp _ (List.getElem_mem hi)
end
section
variable {Q P:D→Prop} {A:ByteArray→Prop} {n:Nat} {ev:Ev}
variable (hP:Pc Q P) (hE:GE Q P n ev) (hA:Cov P A) (hn:n≤100000000)
include hP hE hA hn
theorem xL {l:List D} (hl:Gds n l) (hp:∀d∈l,P d) {i:Nat} (hi:i<l.length) (h0:(ev.e (l.getD i cJ)).2=0):Good Q A (ev.e (l.getD i cJ)).1 :=
 hE.e _ (HG hl hi) (KT hP hE hA hn hp hi) A hA h0
theorem pX {l:List D} (hl:Gds n l) (hp:∀d∈l,P d) (h0:(aL ev.e l).2=0) {i:Nat} (hi:i<l.length):Good Q A (ev.e (l.getD i cJ)).1:=by
 refine xL hP hE hA hn hl hp hi (lW h0 _ (List.mem_map_of_mem (f:=fun d=>(ev.e d).2) ?_))
 rw [show l.getD i cJ=l[i] by simp [List.getD,hi]]
 exact List.getElem_mem hi
theorem RL (w:ByteArray) {l:List D} (hl:Gds n l) (hp:∀d∈l,P d) (h0:(bZ ev w l).2=0):Good Q A (bZ ev w l).1:=by
 have hd:∀d∈l.drop 1,P d:=fun d h=>hp d (List.mem_of_mem_drop h)
 have nt:Good Q A bR:=.const (hP.kd 9 (by simp))
 unfold bZ at h0 ⊢
 repeat' (split at h0<;>rename_i hc<;>first|rw [if_pos hc]|rw [if_neg hc])
 ·exact .const (hP.q _ (KT hP hE hA hn hp (by omega)))
 ·exact hE.q _ _ (HG hl (by omega)) (KT hP hE hA hn hp (by omega)) A hA h0
 ·exact uQ hP hE hA (KT hP hE hA hn hp (by omega)) (hl.drop 1) hd h0
 ·obtain⟨h1,h2⟩:=mz h0
  have:=mJ hA (KT hP hE hA hn hp (i:=0) (by omega)) h1
  exact .set this.1 this.2 (xL hP hE hA hn hl hp (by omega) h2)
 ·exact .branch (pX hP hE hA hn hl hp h0 (by omega)) (pX hP hE hA hn hl hp h0 (by omega)) nt
 ·exact .branch (pX hP hE hA hn hl hp h0 (by omega)) (pX hP hE hA hn hl hp h0 (by omega)) (pX hP hE hA hn hl hp h0 (by omega))
 ·exact iJ hE hA hn hl hp h0
 ·exact RK hP hE hA hn hl hp h0
 ·obtain⟨h1,h2⟩:=mz h0
  exact .branch (xL hP hE hA hn hl hp (by omega) h1) (iJ hE hA hn (hl.drop 1) hd h2) nt
 ·obtain⟨h1,h2⟩:=mz h0
  exact .branch (xL hP hE hA hn hl hp (by omega) h1) nt (iJ hE hA hn (hl.drop 1) hd h2)
 ·exact HS hP hE hA hn w hl hp h0
theorem yF {d:D} (hd:Gd (n+1) d) (hp:P d) (h0:(dV ev d).2=0):Good Q A (dV ev d).1:=by
 unfold dV at h0 ⊢
 by_cases k0:d.k=0
 ·rw [if_pos k0] at h0;cases h0
 rw [if_neg k0] at h0 ⊢
 by_cases k6:d.k=6
 ·rw [if_pos k6] at h0 ⊢
  have:=mJ hA hp h0
  exact .ref this.1 this.2
 rw [if_neg k6] at h0 ⊢
 by_cases h7:d.k=7
 ·rw [if_pos h7] at h0 ⊢
  by_cases he:gN d=0
  ·rw [if_pos he] at h0 ⊢
   have hgi:Gds n (items d):=by
    have:=BR h7
    have:=hd.2.2
    exact⟨(lC d hd.1 hd.2.1).1,(lC d hd.1 hd.2.1).2,by omega⟩
   have hpi:=pA hP d hp
   generalize items d=it at hgi hpi h0 ⊢
   match it,hgi,hpi,h0 with
   | [],_,_,h0=>cases h0
   | a::r,hgi,hpi,h0 =>
    dsimp only at h0 ⊢
    by_cases hk:a.k=6∧iP a.t=true
    ·rw [if_pos hk] at h0 ⊢
     exact RL hP hE hA hn a.t hgi.tail (fun d hd=>hpi d (by simp [hd])) h0
    ·rw [if_neg hk] at h0 ⊢
     obtain⟨h1,h2⟩:=mz h0
     exact lX h2 (by simp [aL]) (kV hE hA hgi hpi h1)
  ·rw [if_neg he] at h0;cases h0
 ·rw [if_neg h7]
  exact .const (hP.q d hp)
theorem KU {l:List D} (hl:Gds n l) (hp:∀d∈l,P d) (h0:(fF ev l).2.2=0):(A (fF ev l).1∧(fF ev l).1≠e0)∧Good Q A (fF ev l).2.1:=by
 match l,hl,hp,h0 with
 | [],_,_,h0=>cases h0
 | [_],_,_,h0=>cases h0
 | a::b::r,hl,hp,h0 =>
  have pa:P a:=hp a (by simp)
  rw [yE] at h0 ⊢
  by_cases h7:a.k=7
  ·rw [if_pos h7] at h0 ⊢
   obtain⟨h1,h2⟩:=mz h0
   have hl2:=hl.head.1.pair h7
   exact⟨mJ hA (hP.kid a _ pa (by rw [hl2];simp)) h1,uQ hP hE hA (hP.kid a _ pa (by rw [hl2];simp)) hl.tail (fun d hd=>hp d (by simp only [List.mem_cons] at hd ⊢;exact .inr hd)) h2⟩
  ·rw [if_neg h7] at h0 ⊢
   obtain⟨h1,h2⟩:=mz h0
   have h1:(bL a).2=0:=by split at h1<;>omega
   exact⟨mJ hA pa h1,hE.e b hl.tail.head (hp b (by simp)) A hA h2⟩
theorem UT:∀(m:Nat) {k:Nat} {l:List D},Gds k l→(∀d∈l,P d)→∀d∈wU m l,P d
 | 0,_,_,_,hp=>hp
 | m+1,k,l,hl,hp=>by
  intro d hd
  rw [wU] at hd
  obtain⟨x,hx,hd⟩:=List.mem_flatMap.1 hd
  cases ho:dL x bS with
  | none=>rw [ho] at hd;rw [List.mem_singleton.1 hd];exact hp x hx
  | some y =>
   rw [ho] at hd
   exact UT m (iD (hl.mem hx) ho).1 (xK hP hE hA hn (hl.mem hx).1 (hp x hx) ho) d hd
theorem EZ (he:∀d,Gd (n+1) d→P d→(ev.e d).2=0→Good Q A (ev.e d).1):∀(l:List D) (s:Bs),Gds (n+1) l→(∀d∈l,P d) →
  (s.err=0→(∀p∈s.names,A p∧p≠e0)∧(∀x∈s.values,Good Q A x)∧∀x∈s.rest,Good Q A x)→(l.foldl (cW ev) s).err=0 →
  (∀p∈(l.foldl (cW ev) s).names,A p∧p≠e0)∧(∀x∈(l.foldl (cW ev) s).values,Good Q A x)∧∀x∈(l.foldl (cW ev) s).rest,Good Q A x
 | [],s,_,_,hs,h0=>hs h0
 | d::l,s,hl,hp,hs,h0=>by
  rw [List.foldl_cons] at h0 ⊢
  refine EZ he l _ hl.tail (fun x hx=>hp x (by simp [hx])) ?_ h0
  have pd:=hp d (by simp)
  unfold cW
  cases ho:dL d cA with
  | none =>
   intro h
   obtain⟨h1,h2⟩:=mz h
   obtain⟨g1,g2,g3⟩:=hs h1
   refine⟨g1,g2,fun x hx=>?_⟩
   rcases List.mem_append.1 hx with hx|hx
   ·exact g3 x hx
   ·rw [List.mem_singleton.1 hx];exact he d hl.head pd h2
  | some x =>
   intro h
   dsimp only at h
   have h12:s.err=0∧(fF ev x).2.2=0:=by
    split at h
    ·exact mz h
    ·exact mz (mz h).1
   obtain⟨q1,q2⟩:=iD hl.head ho
   have hx:Gds n x:=⟨q1.1,q1.2.1,by have:=hl.head.2.2;omega⟩
   obtain⟨g1,g2,g3⟩:=hs h12.1
   obtain⟨w1,w2⟩:=KU hP hE hA hn hx (xK hP hE hA hn hl.head.1 pd ho) h12.2
   refine⟨fun p hp=>?_,fun y hy=>?_,g3⟩
   ·rcases List.mem_append.1 hp with hp|hp
    ·exact g1 p hp
    ·rw [List.mem_singleton.1 hp];exact w1
   ·rcases List.mem_append.1 hy with hy|hy
    ·exact g2 y hy
    ·rw [List.mem_singleton.1 hy];exact w2
theorem RM (he:∀d,Gd (n+1) d→P d→(ev.e d).2=0→Good Q A (ev.e d).1) {l:List D} (hl:Gds (n+1) l) (hp:∀d∈l,P d) (h0:(vH ev l).2=0):Good Q A (vH ev l).1:=by
 have hs:=(GM hl).1
 have hlen:=KH ev (spl l)
 have hsl:=hs.len
 unfold vH qV at h0 ⊢
 have key:=EZ hP hE hA hn he (spl l) ⟨[],[],[],0⟩ hs (UT hP hE hA hn _ hl hp) (fun _=>⟨by simp,by simp,by simp⟩)
 change (mP ev (spl l)).err=0→(∀p∈(mP ev (spl l)).names,A p∧p≠e0)∧(∀x∈(mP ev (spl l)).values,Good Q A x)∧∀x∈(mP ev (spl l)).rest,Good Q A x at key
 generalize mP ev (spl l)=s at key h0 hlen ⊢
 by_cases h1:s.rest=[]
 ·rw [if_pos h1] at h0;exact absurd (mz h0).2 (by decide)
 rw [if_neg h1] at h0 ⊢
 by_cases h2:s.names=[]
 ·rw [if_pos h2] at h0 ⊢
  exact sV h1 (by omega) (key h0).2.2
 ·rw [if_neg h2] at h0 ⊢
  obtain⟨q1,q2⟩:=mz h0
  obtain⟨g1,g2,g3⟩:=key q1
  exact xJ (B:=A) q2 (fun p hp=>(g1 p hp).2) (by omega) (fun s hs=>.inl hs) g2 (sV h1 (by omega) g3)
end
section
variable {Q P:D→Prop}
theorem KV (hP:Pc Q P):∀n,n≤100000000→GE Q P n (evs n)
 | 0,_=>⟨fun d hd=>absurd hd.2.2 (Nat.not_lt_zero _),fun d hd=>absurd hd.2.2 (Nat.not_lt_zero _),fun d k hd=>absurd hd.2.2 (Nat.not_lt_zero _)⟩
 | n+1,h=>by
  have ih:=KV hP n (by omega)
  have hh:GE Q P n ⟨dV (evs n),(evs n).b,(evs n).q⟩:=⟨fun d hd hp A hA h0=>yF hP ih hA (by omega) (hd.le (Nat.le_succ n)) hp h0,ih.b,ih.q⟩
  exact⟨fun d hd hp A hA h0=>by rw [evs] at h0 ⊢;exact yF hP ih hA (by omega) hd hp h0,
   fun l hl hp A hA h0=>by rw [evs] at h0 ⊢;exact RM hP hh hA (by omega) (fun d hd hp h0=>yF hP ih hA (by omega) hd hp h0) hl hp h0,
   fun d k hd hp A hA h0=>by rw [evs] at h0 ⊢;exact NT hP hh hA (by omega) hd hp k h0⟩
inductive TopG (Q:D→Prop) (A:ByteArray→Prop):K→Prop
 | good {k}:Good Q A k→TopG Q A k
 | dfn {s x}:A s→s≠e0→Good Q A x→TopG Q A (.mk 4 s e0 [] cJ [x])
 | seq {l}:2≤l.length→l.length≤200000000→(∀x∈l,TopG Q A x)→TopG Q A (.mk 7 e0 e0 [] cJ l)
theorem TopG.ok (hQ:∀d,Q d→d.Ok) {A:ByteArray→Prop} {k:K} (h:TopG Q A k):k.Ok:=by
 induction h with
 | good h=>exact h.ok hQ
 | dfn h h0 hx=>exact⟨by decide,by simp,gO,by simp,hx.ok hQ,trivial⟩
 | seq h1 h2 _ ih=>exact⟨by decide,by simp,gO,by omega,K.Oks.ofMem ih⟩
theorem KW (hP:Pc Q P) {A:ByteArray→Prop} {n:Nat} {E:Ev} (hE:GE Q P n E) (hA:Cov P A) (hn:n≤100000000):∀(m:Nat) (d:D),d.msr<m→Gd n d→P d→(lR E m d).2=0→TopG Q A (lR E m d).1
 | 0,d,h,_,_,_=>absurd h (Nat.not_lt_zero _)
 | m+1,d,h,hd,hp,h0=>by
  rw [lR] at h0 ⊢
  cases h1:dL d cA with
  | some l =>
   rw [h1] at h0
   have hl:=iD hd h1
   obtain⟨w1,w2⟩:=KU hP hE hA hn hl.1 (xK hP hE hA hn hd.1 hp h1) h0
   exact .dfn w1.1 w1.2 w2
  | none =>
   rw [h1] at h0
   dsimp only at h0 ⊢
   cases h2:dL d bS with
   | none=>rw [h2] at h0;exact .good (hE.e d hd hp A hA h0)
   | some l =>
    rw [h2] at h0
    obtain⟨hl,hm⟩:=iD hd h2
    have pl:=xK hP hE hA hn hd.1 hp h2
    match l,hl,hm,pl,h0 with
    | [],_,_,_,_=>exact .good (.const (hP.kd 9 (by simp)))
    | a::r,hl,hm,pl,h0 =>
     dsimp only at h0 ⊢
     have hk:∀x∈a::r,TopG Q A (lR E m x).1:=fun x hx =>
      KW hP hE hA hn m x (by have:=sK hx;omega) (hl.mem hx) (pl x hx) (lW h0 _ (List.mem_map_of_mem (f:=fun x=>(lR E m x).2) hx))
     have hlen:=hl.len
     match r,hk,hlen with
     | [],hk,_=>exact hk a (by simp)
     | b::r,hk,hlen =>
      refine .seq (by simp) (by simp at hlen ⊢;omega) fun y hy=>?_
      have hy:y∈(a::b::r).map fun x=>(lR E m x).1:=hy
      obtain⟨x,hx,rfl⟩:=List.mem_map.1 hy
      exact hk x hx
theorem RN (hP:Pc Q P) {A:ByteArray→Prop} (hA:Cov P A) {d:D} (hn:d.msr<100000000) (ht:d.Two) (ho:d.Ok) (hp:P d) (h0:(fX d).2=0):TopG Q A (fX d).1 :=
 KW hP (KV hP _ (by omega)) hA (by omega) _ d (Nat.lt_succ_self _) ⟨ht,ho,Nat.lt_succ_self _⟩ hp h0
end
end Go.Proofs.YtaeioidifpebdaaGreatDoor
end
section
namespace Go.Proofs.YtaeioidifpebdaaGreatDoor
open Go Go.RowKit Go.Lib
set_option linter.unusedSimpArgs false
set_option linter.unusedVariables false
set_option maxRecDepth 100000
mutual
def D.syms:D→List ByteArray
 | .mk k _ _ _ t l=>(if k=6 then [t] else [])++pY l
def pY:List D→List ByteArray
 | []=>[]
 | d::l=>d.syms++pY l
end
theorem D.syms_eq (d:D):d.syms=(if d.k=6 then [d.t] else [])++pY d.l:=by cases d;rw [D.syms];rfl
theorem FA {d:D} {s:ByteArray}:∀{l:List D},d∈l→s∈d.syms→s∈pY l
 | x::l,h,hs=>by
  rw [pY]
  rcases List.mem_cons.1 h with rfl|h
  ·exact List.mem_append_left _ hs
  ·exact List.mem_append_right _ (FA h hs)
theorem UU {d x:D} (h:x∈d.l) {s:ByteArray} (hs:s∈x.syms):s∈d.syms:=by
 rw [D.syms_eq];exact List.mem_append_right _ (FA h hs)
theorem zF:∀l:List D,(aB l).syms=pY l
 | []=>rfl
 | d::l=>by
  have:=zF l
  rw [show aB (d::l)=.mk 7 0 false [] e0 [d,aB l] from rfl,D.syms,pY,pY,pY,this,pY]
  simp
theorem CS:∀(d:D),d.Plain→∀s∈d.syms,s≠e0
 | .mk k c neg mag t l,h,s,hs=>by
  rw [D.Plain] at h
  rw [D.syms] at hs
  rcases List.mem_append.1 hs with hs|hs
  ·split at hs
   ·rename_i hk
    rw [List.mem_singleton.1 hs]
    intro e
    have:=h.2.2.2.2.1 hk
    rw [e] at this
    exact absurd this (by decide)
   ·simp at hs
  ·have key:∀d∈l,∀s∈d.syms,s≠e0:=fun d hd=>by
    obtain⟨i,hi,rfl⟩:=List.mem_iff_getElem.1 hd
    exact CS l[i] ((Plains.iff l).1 h.2.2.2.2.2.2.2.2 i hi)
   have:∀(m:List D),(∀d∈m,d∈l)→∀s∈pY m,s≠e0:=fun m=>by
    induction m with
    | nil=>intro _ s hs;simp [pY] at hs
    | cons x m ih =>
     intro hm s hs
     rw [pY] at hs
     rcases List.mem_append.1 hs with hs|hs
     ·exact key x (hm x (by simp)) s hs
     ·exact ih (fun y hy=>hm y (by simp [hy])) s hs
   exact this l (fun _ h=>h) s hs
termination_by d=>SizeOf.sizeOf d
decreasing_by
 all_goals simp_wf
 all_goals (have:=List.sizeOf_lt_of_mem hd;omega)
def aAE (L:List ByteArray) (d:D):Prop:=d.Ok∧∀s∈d.syms,s∈L∧s≠e0
theorem D.Ok.kid {d x:D} (h:d.Ok) (hx:x∈d.l):x.Ok:=h.l.mem hx
theorem WS (L:List ByteArray):Pc D.Ok (aAE L) where
 kid d x h hx:=⟨h.1.kid hx,fun s hs=>h.2 s (UU hx hs)⟩
 vec d h _:=⟨iZ h.1.l,fun s hs=>h.2 s (by rw [zF] at hs;rw [D.syms_eq];exact List.mem_append_right _ hs)⟩
 q d h:=h.1
 kd k h:=AF (by omega)
 nil:=gO
 sym:=⟨vL (by decide),vL (by decide),vL (by decide)⟩
theorem UV (L:List ByteArray):Cov (aAE L) (·∈L):=fun d h hk=>h.2 d.t (by rw [D.syms_eq,if_pos hk];simp)
mutual
def K.Cl:K→List ByteArray→Bool→Prop
 | .mk k name rest params d l,free,top=>if k=6 then params.Nodup∧rest∉params∧params.length≤40∧l.length=1∧Cls l (free++params++[rest]) false else
  ((k=2∨k=3)→name∈free)∧(k=4→top=true∧name∈free)∧Cls l free (top&&decide (k=7))
def Cls:List K→List ByteArray→Bool→Prop
 | [],_,_=>True
 | x::l,free,top=>x.Cl free top∧Cls l free top
end
theorem Cls.ofMem {free:List ByteArray} {top:Bool}:∀{l:List K},(∀x∈l,x.Cl free top)→Cls l free top
 | [],_=>trivial
 | x::l,h=>⟨h x (by simp),Cls.ofMem fun y hy=>h y (by simp [hy])⟩
theorem Cls.get {free:List ByteArray} {top:Bool}:∀{l:List K},Cls l free top→∀i (h:i<l.length),l[i].Cl free top
 | x::l,h,0,_=>h.1
 | x::l,h,i+1,hi=>Cls.get h.2 i (by simpa using hi)
theorem Good.cl {Q:D→Prop} {A:ByteArray→Prop} {k:K} (h:Good Q A k):∀{free:List ByteArray} {top:Bool},(∀s,A s→s∈free)→k.Cl free top:=by
 induction h with
 | const h=>intro free top hf;simp [dY,K.Cl,Cls]
 | ref h h0=>intro free top hf;simp [bP,K.Cl,Cls];exact hf _ h
 | prim h0=>intro free top hf;simp [gM,K.Cl,Cls]
 | set h h0 _ ih=>intro free top hf;simp [zR,K.Cl,Cls];exact⟨hf _ h,ih hf⟩
 | branch _ _ _ i1 i2 i3=>intro free top hf;simp [aG,K.Cl,Cls];exact⟨i1 hf,i2 hf,i3 hf⟩
 | seq h1 h2 _ ih=>intro free top hf;simp [K.Cl];exact Cls.ofMem fun x hx=>ih x hx hf
 | call h1 h2 _ ih=>intro free top hf;simp [jZ,K.Cl];exact Cls.ofMem fun x hx=>ih x hx hf
 | lam h1 h2 h3 h4 h5 h6 ih =>
  intro free top hf
  rw [K.Cl,if_pos rfl]
  refine⟨h1,h2,by omega,rfl,ih fun s hs=>?_,trivial⟩
  rcases h5 s hs with h|h|h
  ·simp [hf s h]
  ·simp [h]
  ·simp [h]
 | none=>intro free top hf;simp [mT,K.Cl,Cls]
theorem TopG.cl {Q:D→Prop} {A:ByteArray→Prop} {k:K} (h:TopG Q A k) {free:List ByteArray} (hf:∀s,A s→s∈free):k.Cl free true:=by
 induction h with
 | good h=>exact h.cl hf
 | dfn h h0 hx=>simp [K.Cl,Cls];exact⟨hf _ h,hx.cl hf⟩
 | seq h1 h2 _ ih=>simp [K.Cl];exact Cls.ofMem ih
theorem KX {d:D} (hm:d.msr<100000000) (hp:d.Plain) (ho:d.Ok) (h0:(fX d).2=0):(fX d).1.Cl d.syms true∧(fX d).1.Ok:=by
 have h:=RN (WS d.syms) (UV d.syms) hm hp.two ho ⟨ho,fun s hs=>⟨hs,CS d hp s hs⟩⟩ h0
 exact⟨h.cl fun _ h=>h,h.ok fun _ h=>h⟩
noncomputable def exV:Ev:=⟨exK,boK,fun d k=>(evs (d.msr+1)).q d k⟩
theorem xM (n:Nat):Agr n (evs n) exV:=⟨fun d hd=>aAD hd,fun l hl=>aAQ hl,fun d k hd=>((AH (d.msr+1) n hd.2.2).q d k ⟨hd.1,hd.2.1,Nat.lt_succ_self _⟩).symm⟩
theorem HU {d:D} (ht:d.Two) (ho:d.Ok):exK d=dV exV d:=by
 rw [UR (n:=d.msr) ⟨ht,ho,Nat.lt_succ_self _⟩];exact NP (xM _) ⟨ht,ho,Nat.lt_succ_self _⟩
theorem WT {l:List D} (ht:Twos l) (ho:Oks l):boK l=vH exV l:=by
 have he:∀d,Gd (cC l+1) d→dV (evs (cC l)) d=exV.e d:=fun d hd=>(UR hd).symm
 have hg:Agr (cC l) ⟨dV (evs (cC l)),(evs (cC l)).b,(evs (cC l)).q⟩ exV:=⟨fun d hd=>he d (hd.le (Nat.le_succ _)),(xM _).b,(xM _).q⟩
 unfold boK;rw [evs]
 exact UQ hg he ⟨ht,ho,Nat.lt_succ_self _⟩
theorem KY {d:D} (ht:d.Two) (ho:d.Ok) (h1:dL d cA=none) (h2:dL d bS=none):fX d=dV exV d:=by
 rw [tU h1 h2];exact NP (xM _) ⟨ht,ho,Nat.lt_succ_self _⟩
theorem xN {w s:ByteArray} (l:List D) (h:w≠s):dL (aB (aE w::l)) s=none:=by
 rw [gJ,oB,aA h];rfl
theorem PH (s:ByteArray):(aE s).Two:=⟨fun h=>absurd h (by decide),trivial⟩
end Go.Proofs.YtaeioidifpebdaaGreatDoor
end
section
namespace Go.Proofs.YtaeioidifpebdaaGreatDoor
open Go Go.RowKit
set_option linter.unusedSimpArgs false
set_option linter.unusedVariables false
def rF:Nat→D→Prop
 | 0,_=>True
 | n+1,d=>d.t.size≤3000∧d.mag.length≤3000∧d.l.length≤3000∧∀x∈d.l,rF n x
theorem KZ:∀l:List D,l.length≤hO l
 | []=>by simp
 | d::l=>by
  have:=KZ l
  have:=d.count_pos
  simp only [hO,List.length_cons];omega
end Go.Proofs.YtaeioidifpebdaaGreatDoor
end
section
namespace Go.Proofs.YtaeioidifpebdaaGreatDoor
open Go Go.RowKit Go.Lib
set_option linter.unusedSimpArgs false
set_option linter.unusedVariables false
set_option maxRecDepth 100000
theorem LA (p:Nat × Nat × Nat × Nat):∀(l:List D) (left:Int),left≤3000→0≤dN p l left→∀x∈l,∃q,q≤3000∧0≤x.weigh p q
 | [],left,h,h0,x,hx=>by cases hx
 | d::l,left,h,h0,x,hx=>by
  rw [dN] at h0
  split at h0
  ·omega
  ·have h2:0≤d.weigh p left:=by
    refine Int.not_lt.1 fun hn=>?_
    rw [qG p l _ hn] at h0;omega
   have h3:=oP p d left h2
   rcases List.mem_cons.1 hx with rfl|hx
   ·exact⟨left,h,h2⟩
   ·exact LA p l _ (by omega) h0 x hx
theorem HW:∀(n:Nat) (d:D) (left:Int),left≤3000→0≤d.weigh p18 left→rF n d
 | 0,d,left,h,h0=>trivial
 | n+1,d,left,h,h0=>by
  have hc:=oP p18 d left h0
  have hl:=KZ d.l
  have hce:=d.count_eq
  rw [NN] at h0 hc
  by_cases hb:300<d.t.size∨100<d.mag.length
  ·rw [if_pos hb] at h0;omega
  ·rw [if_neg hb] at h0 hc
   refine⟨by omega,by omega,by omega,fun x hx=>?_⟩
   obtain⟨q,hq,h1⟩:=LA p18 d.l _ (by omega) h0 x hx
   exact HW n x q hq h1
structure Lit (n:Nat) (d:D):Prop where
 ok:d.Ok
 pl:d.Plain
 dp:d.depth≤50+n
 ct:d.count+2≤802*5 ^ n
 sm:∀k,rF k d
theorem Lit.le {n m:Nat} {d:D} (h:Lit n d) (hm:n≤m):Lit m d :=
 ⟨h.ok,h.pl,Nat.le_trans h.dp (by omega),Nat.le_trans h.ct (Nat.mul_le_mul_left _ (Nat.pow_le_pow_right (by decide) hm)),h.sm⟩
theorem Lit.may {d:D} (h:Lit 6 d):lP d=true:=oA.2 ⟨h.pl,Nat.le_trans h.dp (by decide)⟩
theorem Lit.cnt {d:D} (h:Lit 6 d):d.count<1000000000:=by have:=h.ct;omega
theorem Lit.msr {d:D} (h:Lit 6 d):d.msr+1≤100000000:=by have:=h.ct;have:=yD d;omega
theorem PI {h:Nat}:∀{l:List D},(∀d∈l,d.depth≤h)→JX l≤h
 | [],_=>Nat.zero_le _
 | d::l,hl=>Nat.max_le.2 ⟨hl d (by simp),PI fun x hx=>hl x (by simp [hx])⟩
theorem PJ {c:Nat}:∀{l:List D},(∀d∈l,d.count≤c)→hO l≤l.length*c
 | [],_=>Nat.zero_le _
 | d::l,hl=>by
  have h1:=hl d (by simp)
  have h2:=PJ (l:=l) fun x hx=>hl x (by simp [hx])
  rw [hO,List.length_cons,Nat.succ_mul];omega
theorem vP:∀(k:Nat) (l:List D),(∀d∈l,∀k,rF k d)→rF k (aB l)
 | 0,_,_=>trivial
 | k+1,[],_=>⟨Nat.zero_le _,Nat.zero_le _,Nat.zero_le _,fun x hx=>by cases hx⟩
 | k+1,d::l,h=>⟨Nat.zero_le _,Nat.zero_le _,by show 2≤3000;decide,fun x hx=>by
   simp only [aB,D.l,List.mem_cons,List.not_mem_nil,or_false] at hx
   rcases hx with rfl|rfl
   ·exact h x (by simp) k
   ·exact vP k l fun y hy=>h y (by simp [hy])⟩
theorem Plains.of {l:List D} (h:∀d∈l,d.Plain):Plains l:=(Plains.iff l).2 fun i hi=>h _ (List.getElem_mem hi)
theorem Lit.list {n:Nat} {l:List D} (h:∀d∈l,Lit n d) (hl:l.length≤5):Lit (n+1) (aB l):=by
 have h1:=PI (h:=50+n) fun d hd=>(h d hd).dp
 have h4:0<5 ^ n:=Nat.pow_pos (by decide)
 have h2:=PJ (c:=802*5 ^ n-2) fun d hd=>by have:=(h d hd).ct;omega
 have h3:l.length*(802*5 ^ n-2)≤5*(802*5 ^ n-2):=Nat.mul_le_mul_right _ hl
 refine⟨iZ (Oks.ofMem fun d hd=>(h d hd).ok),gF.2 (Plains.of fun d hd=>(h d hd).pl),?_,?_,fun k=>vP k l fun d hd=>(h d hd).sm⟩
 ·rw [mH];split<;>omega
 ·rw [mI,Nat.pow_succ];omega
theorem Lit.sym {s:ByteArray} (h:gX s 1=true) (hs:s.size≤3000):Lit 0 (aE s) :=
 ⟨vL (by omega),(jN s).2 h,by rw [tR];decide,by rw [pP];decide,fun k=>by
  cases k with
  | zero=>trivial
  | succ k=>exact⟨hs,Nat.zero_le _,Nat.zero_le _,fun x hx=>by cases hx⟩⟩
theorem Lit.kind {k:Int} (h:k=1∨k=2∨k=9):Lit 0 (eE k) :=
 ⟨AF (by omega),vI (by omega),by rw [vJ (by omega)];decide,by rw [vK];decide,fun k=>by
  cases k with
  | zero=>trivial
  | succ k=>exact⟨Nat.zero_le _,Nat.zero_le _,Nat.zero_le _,fun x hx=>by cases hx⟩⟩
theorem Lit.nil:Lit 0 (aB []):=⟨gO,BT,by rw [show aB []=cJ from rfl,ML];decide,by show 1+2≤802;decide,fun k=>vP k [] (by simp)⟩
theorem Lit.of {d:D} (hok:d.Ok) (hw:¬d.weigh p18 800<0) (hd:d.depth≤50) (hp:d.Plain):Lit 0 d :=
 ⟨hok,hp,hd,by have:=(GZ hw).1;omega,fun k=>HW k d 800 (by omega) (by omega)⟩
theorem WU {d:D} (hok:d.Ok) (hm:d.msr+1≤100000000):(pH d).1.Ok:=by
 have hz:kz.Ok:=⟨by decide,by simp,gO,by simp,trivial⟩
 unfold pH
 split
 ·rename_i hb
  dsimp only
  split
  ·rename_i h0
   exact (KX (by omega) (oA.1 hb).1 hok h0).2
  ·exact hz
 ·exact hz
theorem sY {a b:D} (ha:lP a=true) (hb:lP b=true) (h:fX a=fX b):pH a=pH b:=by
 unfold pH;rw [ha,hb,h]
theorem Tw1 {a:D} (h:a.Two):Twos [a]:=⟨h,trivial⟩
theorem Ok1 {a:D} (h:a.Ok):Oks [a]:=⟨h,trivial⟩
theorem IA (ev:Ev) (a:D) (r:List D):gP ev (a::r)=((kB (aK a).1 (aL ev.e (aK a).2.1).1 (ev.b r).1).1,max (max (max (aK a).2.2 (aL ev.e (aK a).2.1).2) (ev.b r).2) (kB (aK a).1 (aL ev.e (aK a).2.1).1 (ev.b r).1).2):=rfl
theorem UW {l:List D} (hl:l≠[]) (ht:Twos l) (ho:Oks l) (h:∀d∈l,dL d bS=none∧dL d cA=none):boK l=eI exK l:=by
 rw [WT ht ho,EM _ hl h];rfl
theorem PK {d:D} (ht:d.Two) (ho:d.Ok) (h:dL d bS=none∧dL d cA=none):boK [d]=exK d:=by
 rw [UW (by simp) (Tw1 ht) (Ok1 ho) (by simpa using h),wW]
end Go.Proofs.YtaeioidifpebdaaGreatDoor
end
