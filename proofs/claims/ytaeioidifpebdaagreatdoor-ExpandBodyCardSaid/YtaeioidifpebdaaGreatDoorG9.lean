/-
 Laid together: Wo18, Wp18, Wq18.
-/
import Derived.Test.YtaeioidifpebdaaGreatDoorG8
section
namespace Go.Proofs.YtaeioidifpebdaaGreatDoor
open Go Go.RowKit Go.Lib
set_option linter.unusedSimpArgs false
set_option linter.unusedVariables false
set_option maxHeartbeats 8000000
set_option maxRecDepth 100000
def tT (l:List D):List (D × D × D):=l.filterMap lZ
noncomputable def tN (l:List D):List ByteArray:=(tT l).map fun t=>(bJ t.1).1
noncomputable def tE (l:List D):Nat:=gQ ((tT l).map fun t=>(bJ t.1).2)
def tI (l:List D):List D:=(tT l).map fun t=>t.2.1
def tS (l:List D):List D:=(tT l).map fun t=>t.2.2
theorem GN {l:List D} {d:D} {t:D × D × D} (h:lZ d=some t):tT (l++[d])=tT l++[t]:=by simp [tT,h]
theorem XR (l:List D):(tT l).length≤l.length:=List.length_filterMap_le _ _
theorem WY (l:List D):tE l≤2:=oX fun x hx=>by
 obtain⟨d,_,rfl⟩:=List.mem_map.1 hx
 exact eO _
theorem vK {d:D} {t:D × D × D} (h:lZ d=some t):gE d=0∧(items d=[t.1,t.2.1]∧t.2.2=t.1∨items d=[t.1,t.2.1,t.2.2]):=by
 unfold lZ at h
 split at h
 ·rename_i he
  refine⟨he,?_⟩
  split at h
  ·rename_i hh;cases h;exact .inl ⟨hh,rfl⟩
  ·rename_i hh;cases h;exact .inr hh
  ·cases h
 ·cases h
theorem MP {d:D} (h:lZ d=none):gE d≠0∨(gE d=0∧((items d).length<2∨3<(items d).length)):=by
 unfold lZ at h
 split at h
 ·rename_i he
  refine .inr ⟨he,?_⟩
  match hh:items d with
  | []=>exact .inl (by simp)
  | [_]=>exact .inl (by simp)
  | [_,_]=>rw [hh] at h;simp at h
  | [_,_,_]=>rw [hh] at h;simp at h
  | _::_::_::_::_=>exact .inr (by simp)
 ·rename_i he;exact .inl he
theorem TR {n:Nat} {d:D} {t:D × D × D} (hd:Gd n d) (h:lZ d=some t):Gd n t.1∧Gd n t.2.1∧Gd n t.2.2∧t.2.1.msr≤d.msr∧t.2.2.msr≤d.msr:=by
 obtain⟨-,h2⟩:=vK h
 have hi:=hd.items
 have hm:=nJ d
 rcases h2 with ⟨h2,h3⟩|h2
 ·rw [h2] at hi hm
  simp only [bU] at hm
  rw [h3]
  exact⟨hi.head,hi.tail.head,hi.head,by omega,by omega⟩
 ·rw [h2] at hi hm
  simp only [bU] at hm
  exact⟨hi.head,hi.tail.head,hi.tail.tail.head,by omega,by omega⟩
theorem xD {n:Nat}:∀{l:List D},Gds n l→(Gds n (tI l)∧Gds n (tS l))∧bU (tI l)≤bU l∧bU (tS l)≤bU l
 | [],h=>⟨⟨h,h⟩,Nat.le_refl _,Nat.le_refl _⟩
 | d::l,h=>by
  obtain⟨⟨⟨a1,a2,-⟩,⟨b1,b2,-⟩⟩,m1,m2⟩:=xD h.tail
  have hn:=h.2.2
  unfold tI tS tT at *
  rw [List.filterMap_cons]
  rw [bU] at hn ⊢
  cases ht:lZ d with
  | none=>exact⟨⟨⟨a1,a2,by dsimp only;omega⟩,⟨b1,b2,by dsimp only;omega⟩⟩,by dsimp only;omega,by dsimp only;omega⟩
  | some t =>
   obtain⟨-,g1,g2,k1,k2⟩:=TR h.head ht
   simp only [List.map_cons,bU]
   exact⟨⟨⟨⟨g1.1,a1⟩,⟨g1.2.1,a2⟩,by simp only [bU];omega⟩,⟨⟨g2.1,b1⟩,⟨g2.2.1,b2⟩,by simp only [bU];omega⟩⟩,by omega,by omega⟩
structure LoS (l:List D) (S:List (Option Ob)) (cN cI cS:C):Prop where
 n:At 9 1 S cN (dR (tN l))
 i:At 28 6 S cI ((tI l).map D.cc)
 s:At 28 6 S cS ((tS l).map D.cc)
 box:S[0]?=some (some ⟨31,11,[[.v (.int .i64 0),.v (.string ⟨#[]⟩),.v (.string ⟨#[]⟩),.v (.slice none 0 0),.v (.int .i64 0),.v (.int .i32 0),.v (.bool false),.v (.slice none 0 0),.v (.string ⟨#[]⟩),.v (.slice none 0 0),.v (.slice none 0 0)]]⟩)
 is:∀j n m,cI=.ms j n→cS≠.ms j m
def LoI (q l:List D) (er:Nat) (n:Nat) (st:St):Prop:=∃(i:Nat) (S:List (Option Ob)) (cN cI cS:C),n=l.length-i∧i≤l.length∧(l.take i).all (fun d=>(lZ d).isSome)=true∧LoS (l.take i) S cN cI cS ∧
 st=⟨[(40,.one (.v (.int .i64 i))),(39,.one (.v (.int .i64 l.length))),(38,.one (.sl 6 (l.map D.cc))),(2,.one (.ptr 0 1 0 0)),(3,.one (.er 0)),(6,.one cN),(7,.one cI),(8,.one cS),(5,.one (.er (max er (tE (l.take i))))),(0,.one (.sl 6 (q.map D.cc)))],S⟩
noncomputable def sT (ev:Ev) (names:List ByteArray) (inits steps:List D) (err:Nat) (ends r:List D):Rs:=match ends with
 | []=>(kz,2)
 | e::es =>
  let test:=ev.e e
  let last:=if es=[] then (bT,0) else eT ev.e es
  let body:=aN ev.e r
  let next:=aN ev.e steps
  let again:=dF (bM dY::next.1)
  let f:=eS names e0 (aH test.1 last.1 (fQ (body.1++[again.1])))
  let x:=jG [dY] [f.1] (bM dY)
  let vs:=aN ev.e inits
  let c:=dF (x.1::vs.1)
  (c.1,max (max (max (max (max (max (max (max err test.2) last.2) body.2) next.2) again.2) f.2) x.2) vs.2 |> fun m=>max m c.2)
theorem pW (ev:Ev) (a b:D) (r:List D):nX ev (a::b::r)=if (aP a).1.all (fun d=>(lZ d).isSome) then sT ev (tN (aP a).1) (tI (aP a).1) (tS (aP a).1) (max (max (max (aP a).2 (tE (aP a).1)) (aP b).2) (unl (tN (aP a).1))) (aP b).1 r else (kz,2):=by
 unfold nX sT tN tI tS tE tT
 rfl
theorem TS {n:Nat} {ev:Ev} (hE:HE n ev) (names:List ByteArray) (inits steps:List D) (err:Nat) (ends r:List D) (he:err≤2):(sT ev names inits steps err ends r).2≤2:=by
 unfold sT
 split
 ·exact Nat.le_refl _
 ·rename_i e es
  dsimp only
  have w1:=hE.e2 e
  have w2:(if es=[] then ((bT,0):Rs) else eT ev.e es).2≤2:=by
   split
   ·exact Nat.zero_le _
   ·exact kP hE es
  have w3:=eI hE r
  have w4:=eI hE steps
  have w5:=fC (bM dY::(aN ev.e steps).1)
  generalize (if es=[] then ((bT,0):Rs) else eT ev.e es)=L at *
  have w6:=mO names e0 (aH (ev.e e).1 L.1 (fQ ((aN ev.e r).1++[(dF (bM dY::(aN ev.e steps).1)).1])))
  generalize eS names e0 (aH (ev.e e).1 L.1 (fQ ((aN ev.e r).1++[(dF (bM dY::(aN ev.e steps).1)).1])))=F at *
  have w7:=nD [dY] [F.1] (bM dY)
  have w8:=eI hE inits
  have w9:=fC ((jG [dY] [F.1] (bM dY)).1::(aN ev.e inits).1)
  omega
theorem QP {n:Nat} {ev:Ev} (hE:HE n ev) (l:List D):(nX ev l).2≤2:=by
 match l with
 | []=>exact Nat.le_refl _
 | [_]=>exact Nat.le_refl _
 | a::b::r =>
  rw [pW]
  split
  ·refine TS hE _ _ _ _ _ _ ?_
   have:=jA a
   have:=jA b
   have:=WY (aP a).1
   have:=lN (tN (aP a).1)
   omega
  ·exact Nat.le_refl _
noncomputable def EP (ev:Ev) (names:List ByteArray) (inits steps:List D) (tK lK:K) (err:Nat) (r:List D):Rs :=
  let body:=aN ev.e r
  let next:=aN ev.e steps
  let again:=dF (bM dY::next.1)
  let f:=eS names e0 (aH tK lK (fQ (body.1++[again.1])))
  let x:=jG [dY] [f.1] (bM dY)
  let vs:=aN ev.e inits
  let c:=dF (x.1::vs.1)
  (c.1,max (max (max (max (max (max err body.2) next.2) again.2) f.2) x.2) vs.2 |> fun m=>max m c.2)
theorem QQ (ev:Ev) (names:List ByteArray) (inits steps:List D) (err:Nat) (e:D) (r:List D):sT ev names inits steps err [e] r=EP ev names inits steps (ev.e e).1 bT (max err (ev.e e).2) r:=by
 unfold sT EP;simp
theorem MQ (ev:Ev) (names:List ByteArray) (inits steps:List D) (err:Nat) (e f:D) (fs r:List D):sT ev names inits steps err (e::f::fs) r=EP ev names inits steps (ev.e e).1 (eT ev.e (f::fs)).1 (max (max err (ev.e e).2) (eT ev.e (f::fs)).2) r:=by
 unfold sT EP;simp
theorem MR {n:Nat} {ev:Ev} (hE:HE n ev) (l0:List D) (hl:Gds n l0):Pure Tryz.prog 134 [.one (.sl 6 (l0.map D.cc))] (rsA (nX ev l0)):=by
 have hbig:=hE.big
 have hw:Pure Tryz.prog 84 [.one (.v (.string ⟨#[100,111]⟩)),.one (.gv 1)] (.one (.er 2)):=dD _ 1
 by_cases h2:l0.length<2
 ·have hde:nX ev l0=(kz,2):=by
   match l0,h2 with
   | [],_=>rfl
   | [a],_=>rfl
  have hlt:decide ((l0.length:Int)<2)=true:=by simp;omega
  rw [hde]
  refine fi Tryz.func134 Tryz.ntmps134 Tryz.results134 ?_
  repeat (first|(apply fw;focus ((with_reducible constructor)<;>constructor))|((first|with_reducible refine ga _ rfl fun Y y=>?_|apply ri);simp only [zb,seval,aL,kcc,hlt];refine fz y ?_;clear y Y))
  refine cz (hw) ?_
  (refine WpL.go _ rfl fun Y y=>?_);repeat (first|(apply fw;focus ((with_reducible constructor)<;>constructor))|((first|with_reducible refine ga _ rfl fun Y y=>?_|apply ri);simp only [zb,seval,aL,kcc];refine fz y ?_;clear y Y))
  refine yl (by simp only [zb,seval,aL,kcc,rsA];rfl) (by simp only [zv,kcc,rsA];rfl) ((by simp only [rcc,rsA];exact ae)) rfl
 ·obtain⟨a,b,r,hlr⟩:∃a b r,a::b::r=l0:=by
   match l0,h2 with
   | [],h=>exact absurd (by simp) h
   | [a],h=>exact absurd (by simp) h
   | a::b::r,_=>exact⟨a,b,r,rfl⟩
  obtain⟨g0,gt,gd,gl,gn,g11,g00,g22⟩:=rA a (b::r) l0 hlr
  obtain⟨g1,gdd⟩:=VO a b r l0 hlr
  have hlt:decide ((l0.length:Int)<2)=false:=by simp;omega
  have hle2:(2:Int)≤(l0.length:Int):=by omega
  have ha:Gd n a:=hl.mem (by rw [←hlr];simp)
  have hb:Gd n b:=hl.mem (by rw [←hlr];simp)
  have hr:Gds n r:=(hlr▸hl:Gds n (a::b::r)).tail.tail
  have hia:=fX a ha.2.1 (by have:=ha.items.len;omega)
  have hib:=fX b hb.2.1 (by have:=hb.items.len;omega)
  have wa:=jA a
  have wb:=jA b
  have gA:=gC ha
  have gB:=gC hb
  have hq:(l0.map D.cc).length=l0.length:=List.length_map ..
  have wr0:IntKind.i64.wrap 0=0:=dN (by omega) (by omega)
  have wr1:IntKind.i64.wrap 1=1:=dN (by omega) (by omega)
  have wr2:IntKind.i64.wrap 2=2:=dN (by omega) (by omega)
  rw [←hlr,pW,hlr]
  generalize aP b=IB at *
  generalize (aP a).2=er at *
  generalize (aP a).1=l at *
  have hlen:=gA.len
  refine fi Tryz.func134 Tryz.ntmps134 Tryz.results134 ?_
  repeat (first|(apply fw;focus ((with_reducible constructor)<;>constructor))|((first|with_reducible refine ga _ rfl fun Y y=>?_|apply ri);simp only [zb,seval,aL,kcc,hlt,g0];refine fz y ?_;clear y Y))
  refine cz (hia) ?_
  (refine WpL.go _ rfl fun Y y=>?_);repeat (first|(apply fw;focus ((with_reducible constructor)<;>constructor))|((first|with_reducible refine ga _ rfl fun Y y=>?_|apply ri);simp only [zb,seval,aL,kcc];refine fz y ?_;clear y Y))
  refine WpA.loop (LoI l0 l er) l.length (st0:=⟨[(40,.one (.v (.int .i64 (0:Nat)))),(39,.one (.v (.int .i64 l.length))),(38,.one (.sl 6 (l.map D.cc))),(2,.one (.ptr 0 1 0 0)),(3,.one (.er 0)),(6,.one (.v (.slice none 0 0))),(7,.one (.v (.slice none 0 0))),(8,.one (.v (.slice none 0 0))),(5,.one (.er (max er (tE (l.take 0))))),(0,.one (.sl 6 (l0.map D.cc)))],[some ⟨31,11,[[.v (.int .i64 0),.v (.string ⟨#[]⟩),.v (.string ⟨#[]⟩),.v (.slice none 0 0),.v (.int .i64 0),.v (.int .i32 0),.v (.bool false),.v (.slice none 0 0),.v (.string ⟨#[]⟩),.v (.slice none 0 0),.v (.slice none 0 0)]]⟩]⟩) (Le.sub (by simp [Sub,find,tE,tT,gQ]))
   ⟨0,_,_,_,_,rfl,Nat.zero_le _,by simp,⟨At.nil _ _ _,At.nil _ _ _,At.nil _ _ _,rfl,(fun j n m e=>by cases e)⟩,rfl⟩ ?_
  intro n' st hI
  obtain⟨i,S,cN,cI,cS,rfl,hi,hall,hB,rfl⟩:=hI
  have hw2:IntKind.i64.wrap ((i:Int)+1)=((i+1:Nat):Int):=by rw [dN (by omega) (by omega)];omega
  have hte:=WY (l.take i)
  have htl:=XR (l.take i)
  rw [List.length_take,Nat.min_eq_left hi] at htl
  have hnl:(tN (l.take i)).length≤i:=by unfold tN;rw [List.length_map];exact htl
  have hil:(tI (l.take i)).length≤i:=by unfold tI;rw [List.length_map];exact htl
  have hsl:(tS (l.take i)).length≤i:=by unfold tS;rw [List.length_map];exact htl
  have hS0:=(List.getElem?_eq_some_iff.1 hB.box).1
  by_cases hlt2:i<l.length
  ·have hd1:decide ((i:Int)<(l.length:Int))=true:=by simp;omega
   have hget:=zQ hlt2
   have hbm:=gA.mem (List.getElem_mem hlt2)
   have him:=fX l[i] hbm.2.1 (by have:=hbm.items.len;omega)
   have htk:=List.take_succ_eq_append_getElem hlt2
   have hmem:l[i]∈l:=List.getElem_mem hlt2
   generalize hdd:l[i]=d at *
   cases htr:lZ d with
   | none =>
    have hfa:l.all (fun d=>(lZ d).isSome)=false:=List.all_eq_false.2 ⟨d,hmem,by simp [htr]⟩
    have h0':∀T,(S++T)[0]?=_:=fun T=>dB hB.box
    have hset:∀(T:List (Option Ob)) (a:Option Ob),((S++T).set 0 a)[0]?=some a:=fun T a=>List.getElem?_set_self (by simp;omega)
    rw [hfa]
    simp only [Bool.false_eq_true,if_false]
    rcases MP htr with he|⟨he,hln⟩
    ·rw [show aP d=([],2) from if_neg he] at him
     simp only [List.map_nil] at him
     repeat (first|(apply fw;focus ((with_reducible constructor)<;>constructor))|((first|with_reducible refine ga _ rfl fun Y y=>?_|apply ri);simp only [zb,seval,aL,hd1,hget,kcc,aK];refine fz y ?_;clear y Y))
     refine cz (him) ?_
     (refine WpL.go _ rfl fun Y y=>?_);repeat (first|(apply fw;focus ((with_reducible constructor)<;>constructor))|((first|with_reducible refine ga _ rfl fun Y y=>?_|apply ri);simp only [zb,seval,aL,kcc];refine fz y ?_;clear y Y))
     refine cz (hw) ?_
     (refine WpL.go _ rfl fun Y y=>?_);repeat (first|(apply fw;focus ((with_reducible constructor)<;>constructor))|((first|with_reducible refine ga _ rfl fun Y y=>?_|apply ri);simp only [zb,seval,aL,kcc,h0'];refine fz y ?_;clear y Y))
     refine yl (by simp only [zb,seval,aL,kcc,rsA,hset];rfl) (by simp only [zv,kcc,rsA,hset];rfl) ((by simp only [rcc,rsA];exact ae)) rfl
    ·rw [show aP d=(items d,0) from if_pos he] at him
     simp only at him
     by_cases hl2:(items d).length<2
     ·have hc2:decide (((items d).length:Int)<2)=true:=by simp;omega
      repeat (first|(apply fw;focus ((with_reducible constructor)<;>constructor))|((first|with_reducible refine ga _ rfl fun Y y=>?_|apply ri);simp only [zb,seval,aL,hd1,hget,kcc,aK];refine fz y ?_;clear y Y))
      refine cz (him) ?_
      (refine WpL.go _ rfl fun Y y=>?_);repeat (first|(apply fw;focus ((with_reducible constructor)<;>constructor))|((first|with_reducible refine ga _ rfl fun Y y=>?_|apply ri);simp only [zb,seval,aL,kcc,hc2];refine fz y ?_;clear y Y))
      refine cz (hw) ?_
      (refine WpL.go _ rfl fun Y y=>?_);repeat (first|(apply fw;focus ((with_reducible constructor)<;>constructor))|((first|with_reducible refine ga _ rfl fun Y y=>?_|apply ri);simp only [zb,seval,aL,kcc,h0'];refine fz y ?_;clear y Y))
      refine yl (by simp only [zb,seval,aL,kcc,rsA,hset];rfl) (by simp only [zv,kcc,rsA,hset];rfl) ((by simp only [rcc,rsA];exact ae)) rfl
     ·have hc2:decide (((items d).length:Int)<2)=false:=by simp;omega
      have hc3:decide ((3:Int)<((items d).length:Int))=true:=by simp;omega
      repeat (first|(apply fw;focus ((with_reducible constructor)<;>constructor))|((first|with_reducible refine ga _ rfl fun Y y=>?_|apply ri);simp only [zb,seval,aL,hd1,hget,kcc,aK];refine fz y ?_;clear y Y))
      refine cz (him) ?_
      (refine WpL.go _ rfl fun Y y=>?_);repeat (first|(apply fw;focus ((with_reducible constructor)<;>constructor))|((first|with_reducible refine ga _ rfl fun Y y=>?_|apply ri);simp only [zb,seval,aL,kcc,hc2,hc3];refine fz y ?_;clear y Y))
      refine cz (hw) ?_
      (refine WpL.go _ rfl fun Y y=>?_);repeat (first|(apply fw;focus ((with_reducible constructor)<;>constructor))|((first|with_reducible refine ga _ rfl fun Y y=>?_|apply ri);simp only [zb,seval,aL,kcc,h0'];refine fz y ?_;clear y Y))
      refine yl (by simp only [zb,seval,aL,kcc,rsA,hset];rfl) (by simp only [zv,kcc,rsA,hset];rfl) ((by simp only [rcc,rsA];exact ae)) rfl
   | some t =>
    obtain⟨v,x,y⟩:=t
    obtain⟨he,hxy⟩:=vK htr
    dsimp only at hxy
    have hv:=kO v
    have hbo:=aD (max er (tE (l.take i))) (bJ v).2 (by omega) (eO _)
    have hs:max (max er (tE (l.take i))) (bJ v).2=max er (tE (l.take (i+1))):=by rw [htk];unfold tE;rw [GN htr,List.map_append,List.map_cons,List.map_nil,nV,Nat.max_assoc]
    rw [hs] at hbo
    rw [show aP d=(items d,0) from if_pos he] at him
    simp only at him
    have hall2:(l.take (i+1)).all (fun d=>(lZ d).isSome)=true:=by rw [htk,List.all_append,hall];simp [htr]
    obtain⟨S8,c8,hA8,hl8,hfr8,hpl8,hop8⟩:=nK (P:=Tryz.prog) (T:=22) (by_:=16) dH dK dL (by omega) (S:=S++[some ⟨28,6,[d.cc]⟩]) (hB.n.app _) (new:=[[.v (.string (bJ v).1)]]) (by simp) (by rw [dQ];simp;omega) (by rw [dQ];simp;omega)
    have hI8:At 28 6 S8 cI ((tI (l.take i)).map D.cc):=hB.i.stay fun k hk _=>hfr8 k _ (dB hk) (hB.n.apart hk (by show (28:Nat)≠_;decide))
    have hS8:At 28 6 S8 cS ((tS (l.take i)).map D.cc):=hB.s.stay fun k hk _=>hfr8 k _ (dB hk) (hB.n.apart hk (by show (28:Nat)≠_;decide))
    have h08:=hfr8 0 _ (dB hB.box) (hB.n.apart hB.box (by show (31:Nat)≠_;decide))
    obtain⟨S9,c9,hA9,hl9,hfr9,hpl9,hop9⟩:=nK (P:=Tryz.prog) (T:=26) (by_:=88) aO bD bF (by omega) (S:=S8) hI8 (new:=[x.cc]) (by simp [kcc]) (by simp;omega) (by simp;omega)
    have hN9:At 9 1 S9 c8 _:=hA8.stay fun k hk _=>hfr9 k _ hk (hI8.apart hk (by show (9:Nat)≠_;decide))
    have hS9:At 28 6 S9 cS ((tS (l.take i)).map D.cc):=hS8.stay fun k hk e=>hfr9 k _ hk fun m e2=>hB.is k _ _ e2 e
    have h09:=hfr9 0 _ h08 (hI8.apart h08 (by show (31:Nat)≠_;decide))
    obtain⟨S10,c10,hA10,hl10,hfr10,hpl10,hop10⟩:=nK (P:=Tryz.prog) (T:=26) (by_:=88) aO bD bF (by omega) (S:=S9) hS9 (new:=[y.cc]) (by simp [kcc]) (by simp;omega) (by simp;omega)
    have hcIS:∀m,∀k q,c9=.ms k q→cS≠.ms k m:=fun m k q e e2=>by
     rcases hpl9 _ _ e with ⟨p,h⟩|h
     ·exact hB.is _ _ _ h e2
     ·have:=hB.s.lt e2;rw [List.length_append] at hl8;omega
    have hN10:At 9 1 S10 c8 _:=hN9.stay fun k hk _=>hfr10 k _ hk (hS9.apart hk (by show (9:Nat)≠_;decide))
    have hI10:At 28 6 S10 c9 _:=hA9.stay fun k hk e=>hfr10 k _ hk fun m=>hcIS m k _ e
    have h010:=hfr10 0 _ h09 (hS9.apart h09 (by show (31:Nat)≠_;decide))
    have hfin:LoS (l.take (i+1)) S10 c8 c9 c10:=by
     refine⟨?_,?_,?_,h010,fun k q m e e2=>?_⟩
     ·rw [htk];unfold tN;rw [GN htr,List.map_append,List.map_cons,List.map_nil,pT];exact hN10
     ·rw [htk];unfold tI;rw [GN htr,List.map_append,List.map_append];exact hI10
     ·rw [htk];unfold tS;rw [GN htr,List.map_append,List.map_append];exact hA10
     ·rcases hpl10 _ _ e2 with ⟨p,h⟩|h
      ·exact hcIS _ _ _ e h
      ·have:=hA9.lt e
       omega
        
    rcases hxy with ⟨hxy,hyv⟩|hxy
    ·subst hyv
     rw [hxy] at him
     simp only [List.map_cons,List.map_nil] at him
     repeat (first|(apply fw;focus ((with_reducible constructor)<;>constructor))|((first|with_reducible refine ga _ rfl fun Y y=>?_|apply ri);simp only [zb,seval,aL,hd1,hget,kcc,aK];refine fz y ?_;clear y Y))
     refine cz (him) ?_
     (refine WpL.go _ rfl fun Y y=>?_);repeat (first|(apply fw;focus ((with_reducible constructor)<;>constructor))|((first|with_reducible refine ga _ rfl fun Y y=>?_|apply ri);simp only [zb,seval,aL,kcc];refine fz y ?_;clear y Y))
     refine cz (hv) ?_
     (refine WpL.go _ rfl fun Y y=>?_);repeat (first|(apply fw;focus ((with_reducible constructor)<;>constructor))|((first|with_reducible refine ga _ rfl fun Y y=>?_|apply ri);simp only [zb,seval,aL,kcc];refine fz y ?_;clear y Y))
     refine cz (hbo) ?_
     (refine WpL.go _ rfl fun Y y=>?_);repeat (first|(apply fw;focus ((with_reducible constructor)<;>constructor))|((first|with_reducible refine ga _ rfl fun Y y=>?_|apply ri);simp only [zb,seval,aL,kcc];refine fz y ?_;clear y Y))
     skip
     refine WpA.draw1 20 [3,9,19] [] [_,S8,S9,S10] _ _ _ _ rfl rfl rfl (by kernel_rfl) (by kernel_rfl) (by kernel_rfl) (by kernel_rfl) rfl rfl rfl rfl (by decide) fun K8 hK8=>?_
     simp only [zz] at hK8 ⊢
     (refine Draw1.go fun K7 k=>?_);simp only [zb,seval,aL,kcc];(refine qz (k _ _ (by rfl) ?_));clear k K7;(simp only [zz,Nat.reduceAdd,Nat.reduceSub])
     refine Draw1.step (by rfl) (fun s9 _=>OpS.frozen (n:=1) (wd:=1) (ty:=9) (rows:=[[.v (.string (bJ y).1)]]) (OpS.eff [(75,_)] rfl (by rfl) ⟨rfl,trivial⟩ (by simp only [zb,seval,aL,kcc];rfl) (by simp)) rfl (by simp [ksh])) ?_;simp only [bP]
     refine Draw1.eff 0 rfl rfl rfl (OpS.effO [(74,_),(76,_)] rfl (by rfl) ⟨rfl,rfl,trivial⟩ (hop8 _ _ _ _ _ rfl rfl) rfl) ?_
     simp only [bP]
     (refine Draw1.go fun K7 k=>?_);simp only [zb,seval,aL,kcc];(refine qz (k _ _ (by rfl) ?_));clear k K7;(simp only [zz,Nat.reduceAdd,Nat.reduceSub])
     refine Draw1.step (by rfl) (fun s9 _=>OpS.frozen (n:=1) (wd:=6) (ty:=28) (rows:=[x.cc]) (OpS.eff [(81,_)] rfl (by rfl) ⟨rfl,trivial⟩ (by simp only [zb,seval,aL,kcc];rfl) (by simp)) rfl (by simp [ksh])) ?_;simp only [bP]
     refine Draw1.eff 1 rfl rfl rfl (OpS.effO [(78,_),(82,_)] rfl (by rfl) ⟨rfl,rfl,trivial⟩ (hop9 _ _ _ _ _ rfl rfl) rfl) ?_
     simp only [bP]
     (refine Draw1.go fun K7 k=>?_);simp only [zb,seval,aL,kcc,wr0,wr1,wr2,g00,g22];(refine qz (k _ _ (by rfl) ?_));clear k K7;(simp only [zz,Nat.reduceAdd,Nat.reduceSub])
     refine Draw1.step (by rfl) (fun s9 _=>OpS.frozen (n:=1) (wd:=6) (ty:=28) (rows:=[y.cc]) (OpS.eff [(91,_)] rfl (by rfl) ⟨rfl,trivial⟩ (by simp only [zb,seval,aL,kcc];rfl) (by simp)) rfl (by simp [ksh])) ?_;simp only [bP]
     refine Draw1.eff 2 rfl rfl rfl (OpS.effO [(84,_),(92,_)] rfl (by rfl) ⟨rfl,rfl,trivial⟩ (hop10 _ _ _ _ _ rfl rfl) rfl) ?_
     simp only [bP]
     (refine Draw1.go fun K7 k=>?_);simp only [zb,seval,aL,kcc,hw2];(refine qz (k _ _ (by rfl) ?_));clear k K7;(simp only [zz,Nat.reduceAdd,Nat.reduceSub]);(try ((refine nz (hK8 _ ?_));clear hK8 K8;(refine WpL.go _ rfl fun Y y=>?_);repeat (first|(apply fw;focus ((with_reducible constructor)<;>constructor))|((first|with_reducible refine ga _ rfl fun Y y=>?_|apply ri);simp only [zb,seval,aL,kcc,hw2];refine fz y ?_;clear y Y))))
     exact⟨l.length-(i+1),_,by omega,Le.sub (by simp [Sub,find]),i+1,S10,c8,c9,c10,rfl,hlt2,hall2,hfin,rfl⟩
    ·rw [hxy] at him
     simp only [List.map_cons,List.map_nil] at him
     repeat (first|(apply fw;focus ((with_reducible constructor)<;>constructor))|((first|with_reducible refine ga _ rfl fun Y y=>?_|apply ri);simp only [zb,seval,aL,hd1,hget,kcc,aK];refine fz y ?_;clear y Y))
     refine cz (him) ?_
     (refine WpL.go _ rfl fun Y y=>?_);repeat (first|(apply fw;focus ((with_reducible constructor)<;>constructor))|((first|with_reducible refine ga _ rfl fun Y y=>?_|apply ri);simp only [zb,seval,aL,kcc];refine fz y ?_;clear y Y))
     refine cz (hv) ?_
     (refine WpL.go _ rfl fun Y y=>?_);repeat (first|(apply fw;focus ((with_reducible constructor)<;>constructor))|((first|with_reducible refine ga _ rfl fun Y y=>?_|apply ri);simp only [zb,seval,aL,kcc];refine fz y ?_;clear y Y))
     refine cz (hbo) ?_
     (refine WpL.go _ rfl fun Y y=>?_);repeat (first|(apply fw;focus ((with_reducible constructor)<;>constructor))|((first|with_reducible refine ga _ rfl fun Y y=>?_|apply ri);simp only [zb,seval,aL,kcc];refine fz y ?_;clear y Y))
     skip
     refine WpA.draw1 20 [3,9,19] [] [_,S8,S9,S10] _ _ _ _ rfl rfl rfl (by kernel_rfl) (by kernel_rfl) (by kernel_rfl) (by kernel_rfl) rfl rfl rfl rfl (by decide) fun K8 hK8=>?_
     simp only [zz] at hK8 ⊢
     (refine Draw1.go fun K7 k=>?_);simp only [zb,seval,aL,kcc];(refine qz (k _ _ (by rfl) ?_));clear k K7;(simp only [zz,Nat.reduceAdd,Nat.reduceSub])
     refine Draw1.step (by rfl) (fun s9 _=>OpS.frozen (n:=1) (wd:=1) (ty:=9) (rows:=[[.v (.string (bJ v).1)]]) (OpS.eff [(75,_)] rfl (by rfl) ⟨rfl,trivial⟩ (by simp only [zb,seval,aL,kcc];rfl) (by simp)) rfl (by simp [ksh])) ?_;simp only [bP]
     refine Draw1.eff 0 rfl rfl rfl (OpS.effO [(74,_),(76,_)] rfl (by rfl) ⟨rfl,rfl,trivial⟩ (hop8 _ _ _ _ _ rfl rfl) rfl) ?_
     simp only [bP]
     (refine Draw1.go fun K7 k=>?_);simp only [zb,seval,aL,kcc];(refine qz (k _ _ (by rfl) ?_));clear k K7;(simp only [zz,Nat.reduceAdd,Nat.reduceSub])
     refine Draw1.step (by rfl) (fun s9 _=>OpS.frozen (n:=1) (wd:=6) (ty:=28) (rows:=[x.cc]) (OpS.eff [(81,_)] rfl (by rfl) ⟨rfl,trivial⟩ (by simp only [zb,seval,aL,kcc];rfl) (by simp)) rfl (by simp [ksh])) ?_;simp only [bP]
     refine Draw1.eff 1 rfl rfl rfl (OpS.effO [(78,_),(82,_)] rfl (by rfl) ⟨rfl,rfl,trivial⟩ (hop9 _ _ _ _ _ rfl rfl) rfl) ?_
     simp only [bP]
     (refine Draw1.go fun K7 k=>?_);simp only [zb,seval,aL,kcc,wr0,wr1,wr2,g00,g22];(refine qz (k _ _ (by rfl) ?_));clear k K7;(simp only [zz,Nat.reduceAdd,Nat.reduceSub])
     refine Draw1.step (by rfl) (fun s9 _=>OpS.frozen (n:=1) (wd:=6) (ty:=28) (rows:=[y.cc]) (OpS.eff [(91,_)] rfl (by rfl) ⟨rfl,trivial⟩ (by simp only [zb,seval,aL,kcc];rfl) (by simp)) rfl (by simp [ksh])) ?_;simp only [bP]
     refine Draw1.eff 2 rfl rfl rfl (OpS.effO [(84,_),(92,_)] rfl (by rfl) ⟨rfl,rfl,trivial⟩ (hop10 _ _ _ _ _ rfl rfl) rfl) ?_
     simp only [bP]
     (refine Draw1.go fun K7 k=>?_);simp only [zb,seval,aL,kcc,hw2];(refine qz (k _ _ (by rfl) ?_));clear k K7;(simp only [zz,Nat.reduceAdd,Nat.reduceSub]);(try ((refine nz (hK8 _ ?_));clear hK8 K8;(refine WpL.go _ rfl fun Y y=>?_);repeat (first|(apply fw;focus ((with_reducible constructor)<;>constructor))|((first|with_reducible refine ga _ rfl fun Y y=>?_|apply ri);simp only [zb,seval,aL,kcc,hw2];refine fz y ?_;clear y Y))))
     exact⟨l.length-(i+1),_,by omega,Le.sub (by simp [Sub,find]),i+1,S10,c8,c9,c10,rfl,hlt2,hall2,hfin,rfl⟩
  ·have hd0:decide ((i:Int)<(l.length:Int))=false:=by simp;omega
   have hii:i=l.length:=by omega
   subst hii
   rw [List.take_length] at hall hB hte htl hnl hil hsl ⊢
   have hrn:(dR (tN l)).length=(tN l).length:=dQ _
   have gI:=(xD gA).1.1
   have gS:=(xD gA).1.2
   have hIlen:=gI.len
   have hSlen:=gS.len
   rw [hall]
   simp only [if_true]
   repeat (first|(apply fw;focus ((with_reducible constructor)<;>constructor)))
   ((with_reducible refine ga _ rfl fun Y y=>?_);simp only [zb,seval,aL,hd0];(refine RunTo.fn y (by first|(simp;done)|omega|(simp;omega)) ?_);clear y Y);repeat (first|(apply fw;focus ((with_reducible constructor)<;>constructor)))
   refine WpA.frzAt 8 hB.s.au (GG _) rfl fun S1 hl1 ho1=>?_
   have hN1:At 9 1 S1 cN _:=hB.n.stay fun k hk _=>ho1 k _ hk (hB.s.apart hk (by show (9:Nat)≠_;decide))
   have hI1:At 28 6 S1 cI _:=hB.i.stay fun k hk e=>ho1 k _ hk fun m=>hB.is k _ m e
   have h01:=ho1 0 _ hB.box (hB.s.apart hB.box (by show (31:Nat)≠_;decide))
   refine WpA.frzAt 7 hI1.au (GG _) rfl fun S2 hl2 ho2=>?_
   have hN2:At 9 1 S2 cN _:=hN1.stay fun k hk _=>ho2 k _ hk (hI1.apart hk (by show (9:Nat)≠_;decide))
   have h02:=ho2 0 _ h01 (hI1.apart h01 (by show (31:Nat)≠_;decide))
   refine WpA.frzAt 6 hN2.au (nI _) rfl fun S3 hl3 ho3=>?_
   have h03:=ho3 0 _ h02 (hN2.apart h02 (by show (31:Nat)≠_;decide))
   have hS3:=(List.getElem?_eq_some_iff.1 h03).1
   clear hB hN1 hI1 hN2 ho1 ho2 ho3 h01 h02
   have hun:=kC (tN l) (by omega)
   have wu:=lN (tN l)
   have o1:=aD (max er (tE l)) IB.2 (by omega) wb
   have o2:=aD (max (max er (tE l)) IB.2) (unl (tN l)) (by omega) wu
   have hset0:∀(a:Option Ob),(S3.set 0 a)[0]?=some a:=fun a=>List.getElem?_set_self hS3
   generalize hns:tN l=ns at *
   generalize hins:tI l=ins at *
   generalize hsts:tS l=sts at *
   generalize hE1:max (max (max er (tE l)) IB.2) (unl ns)=E1 at *
   have wE1:E1≤2:=by omega
   repeat (first|(apply fw;focus ((with_reducible constructor)<;>constructor))|((first|with_reducible refine ga _ rfl fun Y y=>?_|apply ri);simp only [zb,seval,aL,kcc,g1];refine fz y ?_;clear y Y))
   refine cz (hib) ?_
   (refine WpL.go _ rfl fun Y y=>?_);repeat (first|(apply fw;focus ((with_reducible constructor)<;>constructor))|((first|with_reducible refine ga _ rfl fun Y y=>?_|apply ri);simp only [zb,seval,aL,kcc];refine fz y ?_;clear y Y))
   refine cz (o1) ?_
   (refine WpL.go _ rfl fun Y y=>?_);repeat (first|(apply fw;focus ((with_reducible constructor)<;>constructor))|((first|with_reducible refine ga _ rfl fun Y y=>?_|apply ri);simp only [zb,seval,aL,kcc];refine fz y ?_;clear y Y))
   refine cz (hun) ?_
   (refine WpL.go _ rfl fun Y y=>?_);repeat (first|(apply fw;focus ((with_reducible constructor)<;>constructor))|((first|with_reducible refine ga _ rfl fun Y y=>?_|apply ri);simp only [zb,seval,aL,kcc];refine fz y ?_;clear y Y))
   refine cz (o2) ?_
   clear hia hib o1 o2 hun
   generalize IB.1=ends at *
   match ends,gB with
   | [],gB =>
    (refine WpL.go _ rfl fun Y y=>?_);repeat (first|(apply fw;focus ((with_reducible constructor)<;>constructor))|((first|with_reducible refine ga _ rfl fun Y y=>?_|apply ri);simp only [zb,seval,aL,kcc];refine fz y ?_;clear y Y))
    refine cz (hw) ?_
    (refine WpL.go _ rfl fun Y y=>?_);repeat (first|(apply fw;focus ((with_reducible constructor)<;>constructor))|((first|with_reducible refine ga _ rfl fun Y y=>?_|apply ri);simp only [zb,seval,aL,kcc,h03];refine fz y ?_;clear y Y))
    refine yl (by simp only [zb,seval,aL,kcc,rsA,hset0];rfl) (by simp only [zv,kcc,rsA,hset0];rfl) ((by simp only [rcc,rsA,sT];exact ae)) rfl
   | e::es,gB =>
    obtain⟨q,hqr⟩:∃q,e::es=q:=⟨_,rfl⟩
    obtain⟨q0,qt,qd,ql,-⟩:=rA e es q hqr
    have hqz:((q.length:Int) == 0)=false:=by rw [ql];simp;omega
    have hq1:(1:Int)≤(q.length:Int):=by omega
    have hx:=hE.e e gB.head
    have we:=hE.e2 e
    have hno:=gT
    have hec:=kB hE sts gS
    have hei:=kB hE ins gI
    have hel:(aN ev.e sts).1.length=sts.length:=List.length_map ..
    have hel2:(aN ev.e ins).1.length=ins.length:=List.length_map ..
    have hrl:=pQ dY
    have heb:(aN ev.e r).1.length=r.length:=List.length_map ..
    have hrlen:=hr.len
    have wB:=eI hE r
    have wS:=eI hE sts
    have wI:=eI hE ins
    have bt:=aD E1 (ev.e e).2 wE1 we
    simp only [rsA] at hx
    simp only [rlA] at hec hei
        
    cases es with
    | nil =>
     have hg1:decide ((1:Int)<(q.length:Int))=false:=by rw [←hqr];rfl
     rw [QQ,hqr]
     (refine WpL.go _ rfl fun Y y=>?_);repeat (first|(apply fw;focus ((with_reducible constructor)<;>constructor))|((first|with_reducible refine ga _ rfl fun Y y=>?_|apply ri);simp only [zb,seval,aL,kcc,hqz,q0];refine fz y ?_;clear y Y))
     refine cz (hx) ?_
     (refine WpL.go _ rfl fun Y y=>?_);repeat (first|(apply fw;focus ((with_reducible constructor)<;>constructor))|((first|with_reducible refine ga _ rfl fun Y y=>?_|apply ri);simp only [zb,seval,aL,kcc,aK];refine fz y ?_;clear y Y))
     refine cz (bt) ?_
     generalize hE2:max E1 (ev.e e).2=E2 at *
     have wE2:E2≤2:=by omega
     (refine WpL.go _ rfl fun Y y=>?_);repeat (first|(apply fw;focus ((with_reducible constructor)<;>constructor))|((first|with_reducible refine ga _ rfl fun Y y=>?_|apply ri);simp only [zb,seval,aL,kcc,aK];refine fz y ?_;clear y Y))
     refine cz (hno) ?_
     generalize hLK:bT=LK at *
     (refine WpL.go _ rfl fun Y y=>?_);repeat (first|(apply fw;focus ((with_reducible constructor)<;>constructor))|((first|with_reducible refine ga _ rfl fun Y y=>?_|apply ri);simp only [zb,seval,aL,kcc,aK,hg1,gn,g22,gt,gdd];refine fz y ?_;clear y Y))
     refine WpL.frzP 16 S3.length rfl (by simp only [aK];rfl) (K.cc_shut _) ?_
     simp only [aK]
     refine WpL.frzP 17 (S3.length+1) rfl (by simp only [aK];rfl) (K.cc_shut _) ?_
     simp only [aK]
     refine WpL.handAll rfl (aB (P:=Tryz.prog) rfl) rfl rfl (by kernel_rfl) (ALes.refl _) (GM hE r hr _) ?_
     rintro _ S5 ⟨cB,rfl,hAB,hfrB,hlB,hkB⟩
     have h05:=hkB 0 _ (dB h03)
     have hcl:=fL (bM dY::(aN ev.e sts).1)
     have wA:=fC (bM dY::(aN ev.e sts).1)
     simp only [rsA,List.map_cons] at hcl
     unfold EP
     dsimp only
     generalize hBd:aN ev.e r=Bd at *
     generalize hSt:aN ev.e sts=St at *
     generalize hIn:aN ev.e ins=In at *
     generalize hAg:dF (bM dY::St.1)=Ag at *
     have hsq:=pS (Bd.1++[Ag.1])
     have hbr:=dV (ev.e e).1 LK (fQ (Bd.1++[Ag.1]))
     have hlm:=jZ ns ⟨#[]⟩ (aH (ev.e e).1 LK (fQ (Bd.1++[Ag.1]))) (by omega)
     have hlme:eS ns e0 (aH (ev.e e).1 LK (fQ (Bd.1++[Ag.1])))=eS ns ⟨#[]⟩ (aH (ev.e e).1 LK (fQ (Bd.1++[Ag.1]))):=rfl
     have wF:=mO ns ⟨#[]⟩ (aH (ev.e e).1 LK (fQ (Bd.1++[Ag.1])))
     rw [hlme]
     simp only [rsA] at hlm
     generalize eS ns ⟨#[]⟩ (aH (ev.e e).1 LK (fQ (Bd.1++[Ag.1])))=F at *
     have hrc:=iT [dY] [F.1] (bM dY) (by simp) rfl
     have wX:=nD [dY] [F.1] (bM dY)
     simp only [rsA,List.map_cons,List.map_nil,dR] at hrc
     generalize jG [dY] [F.1] (bM dY)=X at *
     have hcl2:=fL (X.1::In.1)
     have wC:=fC (X.1::In.1)
     simp only [rsA,List.map_cons] at hcl2
     generalize dF (X.1::In.1)=C0 at *
     have b1:=aD E2 Bd.2 (by omega) wB
     have b2:=aD (max E2 Bd.2) St.2 (by omega) wS
     have b3:=aD (max (max E2 Bd.2) St.2) Ag.2 (by omega) wA
     have b4:=aD (max (max (max E2 Bd.2) St.2) Ag.2) F.2 (by omega) wF
     have b5:=aD (max (max (max (max E2 Bd.2) St.2) Ag.2) F.2) X.2 (by omega) wX
     have b6:=aD (max (max (max (max (max E2 Bd.2) St.2) Ag.2) F.2) X.2) In.2 (by omega) wI
     have b7:=aD (max (max (max (max (max (max E2 Bd.2) St.2) Ag.2) F.2) X.2) In.2) C0.2 (by omega) wC
     (refine WpL.go _ rfl fun Y y=>?_);repeat (first|(apply fw;focus ((with_reducible constructor)<;>constructor))|((first|with_reducible refine ga _ rfl fun Y y=>?_|apply ri);simp only [zb,seval,aL,kcc,aK];refine fz y ?_;clear y Y))
     refine cz (b1) ?_
     (refine WpL.go _ rfl fun Y y=>?_);repeat (first|(apply fw;focus ((with_reducible constructor)<;>constructor))|((first|with_reducible refine ga _ rfl fun Y y=>?_|apply ri);simp only [zb,seval,aL,kcc,aK];refine fz y ?_;clear y Y))
     refine cz (hec) ?_
     (refine WpL.go _ rfl fun Y y=>?_);repeat (first|(apply fw;focus ((with_reducible constructor)<;>constructor))|((first|with_reducible refine ga _ rfl fun Y y=>?_|apply ri);simp only [zb,seval,aL,kcc,aK];refine fz y ?_;clear y Y))
     refine cz (b2) ?_
     (refine WpL.go _ rfl fun Y y=>?_);repeat (first|(apply fw;focus ((with_reducible constructor)<;>constructor))|((first|with_reducible refine ga _ rfl fun Y y=>?_|apply ri);simp only [zb,seval,aL,kcc,aK,hel];refine fz y ?_;clear y Y))
     refine cz (hrl) ?_
     (refine WpL.go _ rfl fun Y y=>?_);repeat (first|(apply fw;focus ((with_reducible constructor)<;>constructor))|((first|with_reducible refine ga _ rfl fun Y y=>?_|apply ri);simp only [zb,seval,aL,kcc,aK,hel];refine fz y ?_;clear y Y))
     (refine WpL.frz 158 (S5.length) (by rfl) (by first|rfl|(simp only [zz,aK,hel];rfl)|(simp only [zz,aK,hel])) (by first|rfl|(simp [aK,hel];done)|(simp [aK,hel];omega)) (by simp [ksh]) ?_);simp only [zz,aK,hel]
     refine cz (hcl) ?_
     (refine WpL.go _ rfl fun Y y=>?_);repeat (first|(apply fw;focus ((with_reducible constructor)<;>constructor))|((first|with_reducible refine ga _ rfl fun Y y=>?_|apply ri);simp only [zb,seval,aL,kcc,aK];refine fz y ?_;clear y Y))
     refine cz (b3) ?_
     (refine WpL.go _ rfl fun Y y=>?_);repeat (first|(apply fw;focus ((with_reducible constructor)<;>constructor))|((first|with_reducible refine ga _ rfl fun Y y=>?_|apply ri);simp only [zb,seval,aL,kcc,aK];refine fz y ?_;clear y Y))
     refine WpA.frzP 20 (S5.length+1) rfl (by simp only [aK];rfl) (K.cc_shut _) ?_
     simp only [aK]
     have h0T:(S5++[none,none])[0]?=_:=dB (T:=[none,none]) h05
     have hB0:∀m,cB≠.ms 0 m:=fun m e=>by have:=hfrB _ _ e;rw [List.length_append] at this;omega
     have hAT:At 31 11 (S5++[none,none]) cB (Bd.1.map K.cc):=hAB.app _
     generalize (S5++[none,none]:List (Option Ob))=T at *
     obtain⟨T6,hl6,hk6,hop6⟩:=OpS.appFrz (P:=Tryz.prog) (T:=29) (by_:=176) bQ bR bS (by omega) hAT.au (new:=[Ag.1.cc]) (by simp [kcc]) (by simp) (sQ _) (by simp [ksh]) (by simp [heb];omega) (by simp [heb];omega)
     have h06:=hk6 0 _ h0T hB0
     have hT6:=(List.getElem?_eq_some_iff.1 h06).1
     have h06':∀X,(T6++X)[0]?=_:=fun X=>dB h06
     have hset6:∀(X:List (Option Ob)) (a:Option Ob),((T6++X).set 0 a)[0]?=some a:=fun X a=>List.getElem?_set_self (by simp;omega)
     rw [show Bd.1.map K.cc++[Ag.1.cc]=(Bd.1++[Ag.1]).map K.cc by simp] at hop6
     have hle:∀s∈[T,T6,T++[some ⟨31,11,[[.v (.int .i64 0),.v (.string ⟨#[]⟩),.v (.string ⟨#[]⟩),.v (.slice none 0 0),.v (.int .i64 0),.v (.int .i32 0),.v (.bool false),.v (.slice none 0 0),.v (.string ⟨#[]⟩),.v (.slice none 0 0),.v (.slice none 0 0)]]⟩],T6++[some ⟨31,11,[[.v (.int .i64 0),.v (.string ⟨#[]⟩),.v (.string ⟨#[]⟩),.v (.slice none 0 0),.v (.int .i64 0),.v (.int .i32 0),.v (.bool false),.v (.slice none 0 0),.v (.string ⟨#[]⟩),.v (.slice none 0 0),.v (.slice none 0 0)]]⟩],T6++[some ⟨31,11,[F.1.cc]⟩]],LeS [] s:=fun s _=>LeS.of (SLe.nil s)
     skip
     skip
     refine WpA.draw2 15 [6,13,14] [] [[],[6],[13],[6,13],[6,13,14]] [T,T6,T++[some ⟨31,11,[[.v (.int .i64 0),.v (.string ⟨#[]⟩),.v (.string ⟨#[]⟩),.v (.slice none 0 0),.v (.int .i64 0),.v (.int .i32 0),.v (.bool false),.v (.slice none 0 0),.v (.string ⟨#[]⟩),.v (.slice none 0 0),.v (.slice none 0 0)]]⟩],T6++[some ⟨31,11,[[.v (.int .i64 0),.v (.string ⟨#[]⟩),.v (.string ⟨#[]⟩),.v (.slice none 0 0),.v (.int .i64 0),.v (.int .i32 0),.v (.bool false),.v (.slice none 0 0),.v (.string ⟨#[]⟩),.v (.slice none 0 0),.v (.slice none 0 0)]]⟩],T6++[some ⟨31,11,[F.1.cc]⟩]] 4 _ _ _ _ rfl rfl rfl (by kernel_rfl) (by kernel_rfl) (by kernel_rfl) (by kernel_rfl) rfl rfl rfl (by decide) fun K8 hK8=>?_
     simp only [zz] at hK8 ⊢
     (refine Draw2.go fun K7 hK7=>?_);simp only [zb,seval,aL,kcc];(refine RunQ.mk (by first|(simp;done)|omega|(simp;omega)) (hK7 _ _ (by rfl) ?_));clear hK7 K7;(simp only [zz,Nat.reduceAdd,Nat.reduceSub]);(try ((refine Draw2.nil (kL (hle)) (hK8 _ ?_));clear hK8 K8;(refine WpL.go _ rfl fun Y y=>?_);repeat (first|(apply fw;focus ((with_reducible constructor)<;>constructor))|((first|with_reducible refine ga _ rfl fun Y y=>?_|apply ri);simp only [zb,seval,aL,kcc];refine fz y ?_;clear y Y))))
     refine Draw2.step (by rfl) (fun s9 _=>OpS.frozen (n:=1) (wd:=11) (ty:=31) (rows:=[Ag.1.cc]) (OpS.eff [(170,_)] rfl (by rfl) ⟨rfl,trivial⟩ (by simp only [zb,seval,aL,kcc];rfl) (by simp)) rfl (by simp [ksh])) ?_;simp only [bP]
     refine Draw2.eff (x:=.one (.sl 11 ((Bd.1++[Ag.1]).map K.cc))) [(0,1),(2,3)] rfl rfl (by kernel_rfl) (fun t ht s s' h1 h2=>?_) ?_
     ·simp only [List.mem_cons,List.not_mem_nil,or_false] at ht
      rcases ht with rfl|rfl<;>(cases h1;cases h2)
      ·have:=fun {nt ds d ty pos aft g e t1 t2}=>hop6 [] (nt:=nt) (ds:=ds) (d:=d) (ty:=ty) (pos:=pos) (aft:=aft) (g:=g) (e:=e) (t1:=t1) (t2:=t2)
       simp only [List.append_nil] at this
       exact this rfl (by rfl) rfl rfl (by decide)
      ·exact hop6 _ rfl (by rfl) rfl rfl (by decide)
     simp only [bP]
     (refine Draw2.go fun K7 hK7=>?_);simp only [zb,seval,aL,kcc];(refine RunQ.mk (by first|(simp;done)|omega|(simp;omega)) (hK7 _ _ (by rfl) ?_));clear hK7 K7;(simp only [zz,Nat.reduceAdd,Nat.reduceSub]);(try ((refine Draw2.nil (kL (hle)) (hK8 _ ?_));clear hK8 K8;(refine WpL.go _ rfl fun Y y=>?_);repeat (first|(apply fw;focus ((with_reducible constructor)<;>constructor))|((first|with_reducible refine ga _ rfl fun Y y=>?_|apply ri);simp only [zb,seval,aL,kcc];refine fz y ?_;clear y Y))))
     refine Draw2.step (by rfl) (fun s9 _=>oz (hsq)) ?_
     (refine Draw2.go fun K7 hK7=>?_);simp only [zb,seval,aL,kcc];(refine RunQ.mk (by first|(simp;done)|omega|(simp;omega)) (hK7 _ _ (by rfl) ?_));clear hK7 K7;(simp only [zz,Nat.reduceAdd,Nat.reduceSub]);(try ((refine Draw2.nil (kL (hle)) (hK8 _ ?_));clear hK8 K8;(refine WpL.go _ rfl fun Y y=>?_);repeat (first|(apply fw;focus ((with_reducible constructor)<;>constructor))|((first|with_reducible refine ga _ rfl fun Y y=>?_|apply ri);simp only [zb,seval,aL,kcc];refine fz y ?_;clear y Y))))
     refine Draw2.step (by rfl) (fun s9 _=>oz (hbr)) ?_
     (refine Draw2.go fun K7 hK7=>?_);simp only [zb,seval,aL,kcc];(refine RunQ.mk (by first|(simp;done)|omega|(simp;omega)) (hK7 _ _ (by rfl) ?_));clear hK7 K7;(simp only [zz,Nat.reduceAdd,Nat.reduceSub]);(try ((refine Draw2.nil (kL (hle)) (hK8 _ ?_));clear hK8 K8;(refine WpL.go _ rfl fun Y y=>?_);repeat (first|(apply fw;focus ((with_reducible constructor)<;>constructor))|((first|with_reducible refine ga _ rfl fun Y y=>?_|apply ri);simp only [zb,seval,aL,kcc];refine fz y ?_;clear y Y))))
     refine Draw2.step (by rfl) (fun s9 _=>oz (hlm)) ?_
     (refine Draw2.go fun K7 hK7=>?_);simp only [zb,seval,aL,kcc];(refine RunQ.mk (by first|(simp;done)|omega|(simp;omega)) (hK7 _ _ (by rfl) ?_));clear hK7 K7;(simp only [zz,Nat.reduceAdd,Nat.reduceSub]);(try ((refine Draw2.nil (kL (hle)) (hK8 _ ?_));clear hK8 K8;(refine WpL.go _ rfl fun Y y=>?_);repeat (first|(apply fw;focus ((with_reducible constructor)<;>constructor))|((first|with_reducible refine ga _ rfl fun Y y=>?_|apply ri);simp only [zb,seval,aL,kcc];refine fz y ?_;clear y Y))))
     refine Draw2.eff (x:=.one (.ptr T6.length 1 0 0)) [(0,2),(1,3)] rfl rfl (by kernel_rfl) (fun t ht s s' h1 h2=>?_) ?_
     ·simp only [List.mem_cons,List.not_mem_nil,or_false] at ht
      rcases ht with rfl|rfl<;>(cases h1;cases h2)
      ·rw [hl6];exact OpS.eff [] rfl (by rfl) trivial (by first|(simp only [zb,seval,aL];done)|(simp only [zb,seval,aL];rfl)) trivial
      ·exact OpS.eff [] rfl (by rfl) trivial (by first|(simp only [zb,seval,aL];done)|(simp only [zb,seval,aL];rfl)) trivial
     simp only [bP]
     (refine Draw2.go fun K7 hK7=>?_);simp only [zb,seval,aL,kcc];(refine RunQ.mk (by first|(simp;done)|omega|(simp;omega)) (hK7 _ _ (by rfl) ?_));clear hK7 K7;(simp only [zz,Nat.reduceAdd,Nat.reduceSub]);(try ((refine Draw2.nil (kL (hle)) (hK8 _ ?_));clear hK8 K8;(refine WpL.go _ rfl fun Y y=>?_);repeat (first|(apply fw;focus ((with_reducible constructor)<;>constructor))|((first|with_reducible refine ga _ rfl fun Y y=>?_|apply ri);simp only [zb,seval,aL,kcc];refine fz y ?_;clear y Y))))
     refine Draw2.eff (x:=.any) [(3,4)] rfl rfl (by kernel_rfl) (fun t ht s s' h1 h2=>?_) ?_
     ·simp only [List.mem_cons,List.not_mem_nil,or_false] at ht
      subst ht
      cases h1;cases h2
      exact OpS.eff [(21,_),(176,_)] rfl (by rfl) ⟨rfl,rfl,trivial⟩ (by simp only [zb,seval,aL,kcc,aK];rfl) (by simp [kcc])
     simp only [bP]
     (refine Draw2.go fun K7 hK7=>?_);simp only [zb,seval,aL,kcc,aK];(refine RunQ.mk (by first|(simp;done)|omega|(simp;omega)) (hK7 _ _ (by rfl) ?_));clear hK7 K7;(simp only [zz,Nat.reduceAdd,Nat.reduceSub]);(try ((refine Draw2.nil (kL (hle)) (hK8 _ ?_));clear hK8 K8;(refine WpL.go _ rfl fun Y y=>?_);repeat (first|(apply fw;focus ((with_reducible constructor)<;>constructor))|((first|with_reducible refine ga _ rfl fun Y y=>?_|apply ri);simp only [zb,seval,aL,kcc,aK];refine fz y ?_;clear y Y))))
     skip
     skip
     refine cz (b4) ?_
     (refine WpL.go _ rfl fun Y y=>?_);repeat (first|(apply fw;focus ((with_reducible constructor)<;>constructor))|((first|with_reducible refine ga _ rfl fun Y y=>?_|apply ri);simp only [zb,seval,aL,kcc,aK];refine fz y ?_;clear y Y))
     refine WpA.frzP 21 T6.length rfl (by simp only [aK];rfl) (K.cc_shut _) ?_
     simp only [aK]
     have h07:=h06' [none]
     generalize (T6++[none]:List (Option Ob))=T7 at *
     have hT7:=(List.getElem?_eq_some_iff.1 h07).1
     have h07':∀X,(T7++X)[0]?=_:=fun X=>dB h07
     have hset7:∀(X:List (Option Ob)) (a:Option Ob),((T7++X).set 0 a)[0]?=some a:=fun X a=>List.getElem?_set_self (by simp;omega)
     (refine WpA.draw1c 10 [8,9] [_,?_,?_] _ _ _ _ rfl rfl rfl (by kernel_rfl) (by kernel_rfl) (by kernel_rfl) (by kernel_rfl) rfl rfl rfl rfl (by decide) fun K8 hK8=>?_);rotate_left 2;simp only [zz] at hK8 ⊢;(refine Draw1.go fun K7 k=>?_);simp only [zb,seval,aL,kcc,aK];(refine qz (k _ _ (by rfl) ?_));clear k K7;(simp only [zz,Nat.reduceAdd,Nat.reduceSub])
     refine Draw1.step (by rfl) (fun s9 _=>OpS.frozen (n:=1) (wd:=1) (ty:=9) (rows:=[[.v (.string dY)]]) (OpS.eff [] rfl (by rfl) trivial (by simp only [zb,seval,aL,kcc];rfl) (by simp)) rfl (by simp [ksh])) ?_;simp only [bP]
     (refine Draw1.go fun K7 k=>?_);simp only [zb,seval,aL,kcc,aK];(refine qz (k _ _ (by rfl) ?_));clear k K7;(simp only [zz,Nat.reduceAdd,Nat.reduceSub])
     refine Draw1.step (by rfl) (fun s9 _=>OpS.frozen (n:=1) (wd:=11) (ty:=31) (rows:=[F.1.cc]) (OpS.eff [(183,_)] rfl (by rfl) ⟨rfl,trivial⟩ (by simp only [zb,seval,aL,kcc];rfl) (by simp)) rfl (by simp [ksh])) ?_;simp only [bP]
     refine Draw1.step (by rfl) (fun s9 _=>oz (hrl)) ?_
     (refine Draw1.go fun K7 k=>?_);simp only [zb,seval,aL,kcc,aK];(refine qz (k _ _ (by rfl) ?_));clear k K7;(simp only [zz,Nat.reduceAdd,Nat.reduceSub])
     refine Draw1.step (by rfl) (fun s9 _=>oz (hrc)) ?_
     (refine Draw1.go fun K7 k=>?_);simp only [zb,seval,aL,kcc,aK];(refine qz (k _ _ (by rfl) ?_));clear k K7;(simp only [zz,Nat.reduceAdd,Nat.reduceSub])
     refine Draw1.eff 0 rfl rfl rfl (OpS.eff [] rfl (by rfl) trivial (by simp only [zb,seval,aL,kcc,aK];rfl) (by first|(simp;done)|omega|(simp;omega))) ?_;(try simp only [bP]);(try ((refine Draw1.go fun K7 k=>?_);simp only [zb,seval,aL,kcc,aK];(refine qz (k _ _ (by rfl) ?_));clear k K7;(simp only [zz,Nat.reduceAdd,Nat.reduceSub]);(try ((refine nz (hK8 _ ?_));clear hK8 K8;(refine WpL.go _ rfl fun Y y=>?_);repeat (first|(apply fw;focus ((with_reducible constructor)<;>constructor))|((first|with_reducible refine ga _ rfl fun Y y=>?_|apply ri);simp only [zb,seval,aL,kcc,aK];refine fz y ?_;clear y Y))))))
     refine Draw1.eff 1 rfl rfl rfl (OpS.eff [(22,_),(187,_)] rfl (by rfl) ⟨rfl,rfl,trivial⟩ (by simp only [zb,seval,aL,kcc,aK];rfl) (by first|(simp;done)|omega|(simp;omega))) ?_;(try simp only [bP]);(try ((refine Draw1.go fun K7 k=>?_);simp only [zb,seval,aL,kcc,aK];(refine qz (k _ _ (by rfl) ?_));clear k K7;(simp only [zz,Nat.reduceAdd,Nat.reduceSub]);(try ((refine nz (hK8 _ ?_));clear hK8 K8;(refine WpL.go _ rfl fun Y y=>?_);repeat (first|(apply fw;focus ((with_reducible constructor)<;>constructor))|((first|with_reducible refine ga _ rfl fun Y y=>?_|apply ri);simp only [zb,seval,aL,kcc,aK];refine fz y ?_;clear y Y))))))
     refine cz (b5) ?_
     (refine WpL.go _ rfl fun Y y=>?_);repeat (first|(apply fw;focus ((with_reducible constructor)<;>constructor))|((first|with_reducible refine ga _ rfl fun Y y=>?_|apply ri);simp only [zb,seval,aL,kcc,aK];refine fz y ?_;clear y Y))
     refine cz (hei) ?_
     (refine WpL.go _ rfl fun Y y=>?_);repeat (first|(apply fw;focus ((with_reducible constructor)<;>constructor))|((first|with_reducible refine ga _ rfl fun Y y=>?_|apply ri);simp only [zb,seval,aL,kcc,aK];refine fz y ?_;clear y Y))
     refine cz (b6) ?_
     (refine WpL.go _ rfl fun Y y=>?_);repeat (first|(apply fw;focus ((with_reducible constructor)<;>constructor))|((first|with_reducible refine ga _ rfl fun Y y=>?_|apply ri);simp only [zb,seval,aL,kcc,aK,hel2];refine fz y ?_;clear y Y))
     (refine WpL.frz 204 (T7.length+1) (by rfl) (by first|rfl|(simp only [zz,aK,hel2];rfl)|(simp only [zz,aK,hel2])) (by first|rfl|(simp [aK,hel2];done)|(simp [aK,hel2];omega)) (by simp [ksh]) ?_);simp only [zz,aK,hel2]
     refine cz (hcl2) ?_
     (refine WpL.go _ rfl fun Y y=>?_);repeat (first|(apply fw;focus ((with_reducible constructor)<;>constructor))|((first|with_reducible refine ga _ rfl fun Y y=>?_|apply ri);simp only [zb,seval,aL,kcc,aK];refine fz y ?_;clear y Y))
     (refine WpA.draw0 4 _ _ _ rfl rfl rfl (by kernel_rfl) (by kernel_rfl) (by kernel_rfl) fun K8 hK8=>?_);simp only [zz] at hK8 ⊢;(refine Draw0.go fun K7 k=>?_);simp only [zb,seval,aL,kcc,aK];(refine qz (k _ _ ?_));clear k K7
     refine Draw0.step (oz (b7)) ?_
     (refine Draw0.go fun K7 k=>?_);simp only [zb,seval,aL,kcc,aK,h07'];(refine qz (k _ _ ?_));clear k K7;(try ((refine Draw0.nil (hK8 _ ?_));clear hK8 K8;(refine WpL.go _ rfl fun Y y=>?_);repeat (first|(apply fw;focus ((with_reducible constructor)<;>constructor))|((first|with_reducible refine ga _ rfl fun Y y=>?_|apply ri);simp only [zb,seval,aL,kcc,aK,h07'];refine fz y ?_;clear y Y))))
     refine ye (by simp only [zb,seval,aL,kcc,hset7];rfl) (by simp only [zv,kcc,hset7];rfl) ?_
     rfl
    | cons f fs =>
     have hg1:decide ((1:Int)<(q.length:Int))=true:=by rw [←hqr];simp;omega
     have hsq0:=fZ hE (f::fs) gB.tail
     have wsq:=kP hE (f::fs)
     have bs:=aD (max E1 (ev.e e).2) (eT ev.e (f::fs)).2 (by omega) wsq
     simp only [rsA] at hsq0
     rw [MQ,hqr]
     (refine WpL.go _ rfl fun Y y=>?_);repeat (first|(apply fw;focus ((with_reducible constructor)<;>constructor))|((first|with_reducible refine ga _ rfl fun Y y=>?_|apply ri);simp only [zb,seval,aL,kcc,hqz,q0];refine fz y ?_;clear y Y))
     refine cz (hx) ?_
     (refine WpL.go _ rfl fun Y y=>?_);repeat (first|(apply fw;focus ((with_reducible constructor)<;>constructor))|((first|with_reducible refine ga _ rfl fun Y y=>?_|apply ri);simp only [zb,seval,aL,kcc,aK];refine fz y ?_;clear y Y))
     refine cz (bt) ?_
     (refine WpL.go _ rfl fun Y y=>?_);repeat (first|(apply fw;focus ((with_reducible constructor)<;>constructor))|((first|with_reducible refine ga _ rfl fun Y y=>?_|apply ri);simp only [zb,seval,aL,kcc,aK];refine fz y ?_;clear y Y))
     refine cz (hno) ?_
     (refine WpL.go _ rfl fun Y y=>?_);repeat (first|(apply fw;focus ((with_reducible constructor)<;>constructor))|((first|with_reducible refine ga _ rfl fun Y y=>?_|apply ri);simp only [zb,seval,aL,kcc,aK,hg1,gn,g11,qt,qd];refine fz y ?_;clear y Y))
     refine cz (hsq0) ?_
     (refine WpL.go _ rfl fun Y y=>?_);repeat (first|(apply fw;focus ((with_reducible constructor)<;>constructor))|((first|with_reducible refine ga _ rfl fun Y y=>?_|apply ri);simp only [zb,seval,aL,kcc,aK];refine fz y ?_;clear y Y))
     refine cz (bs) ?_
     generalize hE2:max (max E1 (ev.e e).2) (eT ev.e (f::fs)).2=E2 at *
     have wE2:E2≤2:=by omega
     generalize hLK:(eT ev.e (f::fs)).1=LK at *
     (refine WpL.go _ rfl fun Y y=>?_);repeat (first|(apply fw;focus ((with_reducible constructor)<;>constructor))|((first|with_reducible refine ga _ rfl fun Y y=>?_|apply ri);simp only [zb,seval,aL,kcc,aK,gn,g22,gt,gdd];refine fz y ?_;clear y Y))
     refine WpL.frzP 16 S3.length rfl (by simp only [aK];rfl) (K.cc_shut _) ?_
     simp only [aK]
     refine WpL.frzP 17 (S3.length+1) rfl (by simp only [aK];rfl) (K.cc_shut _) ?_
     simp only [aK]
     refine WpL.handAll rfl (aB (P:=Tryz.prog) rfl) rfl rfl (by kernel_rfl) (ALes.refl _) (GM hE r hr _) ?_
     rintro _ S5 ⟨cB,rfl,hAB,hfrB,hlB,hkB⟩
     have h05:=hkB 0 _ (dB h03)
     have hcl:=fL (bM dY::(aN ev.e sts).1)
     have wA:=fC (bM dY::(aN ev.e sts).1)
     simp only [rsA,List.map_cons] at hcl
     unfold EP
     dsimp only
     generalize hBd:aN ev.e r=Bd at *
     generalize hSt:aN ev.e sts=St at *
     generalize hIn:aN ev.e ins=In at *
     generalize hAg:dF (bM dY::St.1)=Ag at *
     have hsq:=pS (Bd.1++[Ag.1])
     have hbr:=dV (ev.e e).1 LK (fQ (Bd.1++[Ag.1]))
     have hlm:=jZ ns ⟨#[]⟩ (aH (ev.e e).1 LK (fQ (Bd.1++[Ag.1]))) (by omega)
     have hlme:eS ns e0 (aH (ev.e e).1 LK (fQ (Bd.1++[Ag.1])))=eS ns ⟨#[]⟩ (aH (ev.e e).1 LK (fQ (Bd.1++[Ag.1]))):=rfl
     have wF:=mO ns ⟨#[]⟩ (aH (ev.e e).1 LK (fQ (Bd.1++[Ag.1])))
     rw [hlme]
     simp only [rsA] at hlm
     generalize eS ns ⟨#[]⟩ (aH (ev.e e).1 LK (fQ (Bd.1++[Ag.1])))=F at *
     have hrc:=iT [dY] [F.1] (bM dY) (by simp) rfl
     have wX:=nD [dY] [F.1] (bM dY)
     simp only [rsA,List.map_cons,List.map_nil,dR] at hrc
     generalize jG [dY] [F.1] (bM dY)=X at *
     have hcl2:=fL (X.1::In.1)
     have wC:=fC (X.1::In.1)
     simp only [rsA,List.map_cons] at hcl2
     generalize dF (X.1::In.1)=C0 at *
     have b1:=aD E2 Bd.2 (by omega) wB
     have b2:=aD (max E2 Bd.2) St.2 (by omega) wS
     have b3:=aD (max (max E2 Bd.2) St.2) Ag.2 (by omega) wA
     have b4:=aD (max (max (max E2 Bd.2) St.2) Ag.2) F.2 (by omega) wF
     have b5:=aD (max (max (max (max E2 Bd.2) St.2) Ag.2) F.2) X.2 (by omega) wX
     have b6:=aD (max (max (max (max (max E2 Bd.2) St.2) Ag.2) F.2) X.2) In.2 (by omega) wI
     have b7:=aD (max (max (max (max (max (max E2 Bd.2) St.2) Ag.2) F.2) X.2) In.2) C0.2 (by omega) wC
     (refine WpL.go _ rfl fun Y y=>?_);repeat (first|(apply fw;focus ((with_reducible constructor)<;>constructor))|((first|with_reducible refine ga _ rfl fun Y y=>?_|apply ri);simp only [zb,seval,aL,kcc,aK];refine fz y ?_;clear y Y))
     refine cz (b1) ?_
     (refine WpL.go _ rfl fun Y y=>?_);repeat (first|(apply fw;focus ((with_reducible constructor)<;>constructor))|((first|with_reducible refine ga _ rfl fun Y y=>?_|apply ri);simp only [zb,seval,aL,kcc,aK];refine fz y ?_;clear y Y))
     refine cz (hec) ?_
     (refine WpL.go _ rfl fun Y y=>?_);repeat (first|(apply fw;focus ((with_reducible constructor)<;>constructor))|((first|with_reducible refine ga _ rfl fun Y y=>?_|apply ri);simp only [zb,seval,aL,kcc,aK];refine fz y ?_;clear y Y))
     refine cz (b2) ?_
     (refine WpL.go _ rfl fun Y y=>?_);repeat (first|(apply fw;focus ((with_reducible constructor)<;>constructor))|((first|with_reducible refine ga _ rfl fun Y y=>?_|apply ri);simp only [zb,seval,aL,kcc,aK,hel];refine fz y ?_;clear y Y))
     refine cz (hrl) ?_
     (refine WpL.go _ rfl fun Y y=>?_);repeat (first|(apply fw;focus ((with_reducible constructor)<;>constructor))|((first|with_reducible refine ga _ rfl fun Y y=>?_|apply ri);simp only [zb,seval,aL,kcc,aK,hel];refine fz y ?_;clear y Y))
     (refine WpL.frz 158 (S5.length) (by rfl) (by first|rfl|(simp only [zz,aK,hel];rfl)|(simp only [zz,aK,hel])) (by first|rfl|(simp [aK,hel];done)|(simp [aK,hel];omega)) (by simp [ksh]) ?_);simp only [zz,aK,hel]
     refine cz (hcl) ?_
     (refine WpL.go _ rfl fun Y y=>?_);repeat (first|(apply fw;focus ((with_reducible constructor)<;>constructor))|((first|with_reducible refine ga _ rfl fun Y y=>?_|apply ri);simp only [zb,seval,aL,kcc,aK];refine fz y ?_;clear y Y))
     refine cz (b3) ?_
     (refine WpL.go _ rfl fun Y y=>?_);repeat (first|(apply fw;focus ((with_reducible constructor)<;>constructor))|((first|with_reducible refine ga _ rfl fun Y y=>?_|apply ri);simp only [zb,seval,aL,kcc,aK];refine fz y ?_;clear y Y))
     refine WpA.frzP 20 (S5.length+1) rfl (by simp only [aK];rfl) (K.cc_shut _) ?_
     simp only [aK]
     have h0T:(S5++[none,none])[0]?=_:=dB (T:=[none,none]) h05
     have hB0:∀m,cB≠.ms 0 m:=fun m e=>by have:=hfrB _ _ e;rw [List.length_append] at this;omega
     have hAT:At 31 11 (S5++[none,none]) cB (Bd.1.map K.cc):=hAB.app _
     generalize (S5++[none,none]:List (Option Ob))=T at *
     obtain⟨T6,hl6,hk6,hop6⟩:=OpS.appFrz (P:=Tryz.prog) (T:=29) (by_:=176) bQ bR bS (by omega) hAT.au (new:=[Ag.1.cc]) (by simp [kcc]) (by simp) (sQ _) (by simp [ksh]) (by simp [heb];omega) (by simp [heb];omega)
     have h06:=hk6 0 _ h0T hB0
     have hT6:=(List.getElem?_eq_some_iff.1 h06).1
     have h06':∀X,(T6++X)[0]?=_:=fun X=>dB h06
     have hset6:∀(X:List (Option Ob)) (a:Option Ob),((T6++X).set 0 a)[0]?=some a:=fun X a=>List.getElem?_set_self (by simp;omega)
     rw [show Bd.1.map K.cc++[Ag.1.cc]=(Bd.1++[Ag.1]).map K.cc by simp] at hop6
     have hle:∀s∈[T,T6,T++[some ⟨31,11,[[.v (.int .i64 0),.v (.string ⟨#[]⟩),.v (.string ⟨#[]⟩),.v (.slice none 0 0),.v (.int .i64 0),.v (.int .i32 0),.v (.bool false),.v (.slice none 0 0),.v (.string ⟨#[]⟩),.v (.slice none 0 0),.v (.slice none 0 0)]]⟩],T6++[some ⟨31,11,[[.v (.int .i64 0),.v (.string ⟨#[]⟩),.v (.string ⟨#[]⟩),.v (.slice none 0 0),.v (.int .i64 0),.v (.int .i32 0),.v (.bool false),.v (.slice none 0 0),.v (.string ⟨#[]⟩),.v (.slice none 0 0),.v (.slice none 0 0)]]⟩],T6++[some ⟨31,11,[F.1.cc]⟩]],LeS [] s:=fun s _=>LeS.of (SLe.nil s)
     skip
     skip
     refine WpA.draw2 15 [6,13,14] [] [[],[6],[13],[6,13],[6,13,14]] [T,T6,T++[some ⟨31,11,[[.v (.int .i64 0),.v (.string ⟨#[]⟩),.v (.string ⟨#[]⟩),.v (.slice none 0 0),.v (.int .i64 0),.v (.int .i32 0),.v (.bool false),.v (.slice none 0 0),.v (.string ⟨#[]⟩),.v (.slice none 0 0),.v (.slice none 0 0)]]⟩],T6++[some ⟨31,11,[[.v (.int .i64 0),.v (.string ⟨#[]⟩),.v (.string ⟨#[]⟩),.v (.slice none 0 0),.v (.int .i64 0),.v (.int .i32 0),.v (.bool false),.v (.slice none 0 0),.v (.string ⟨#[]⟩),.v (.slice none 0 0),.v (.slice none 0 0)]]⟩],T6++[some ⟨31,11,[F.1.cc]⟩]] 4 _ _ _ _ rfl rfl rfl (by kernel_rfl) (by kernel_rfl) (by kernel_rfl) (by kernel_rfl) rfl rfl rfl (by decide) fun K8 hK8=>?_
     simp only [zz] at hK8 ⊢
     (refine Draw2.go fun K7 hK7=>?_);simp only [zb,seval,aL,kcc];(refine RunQ.mk (by first|(simp;done)|omega|(simp;omega)) (hK7 _ _ (by rfl) ?_));clear hK7 K7;(simp only [zz,Nat.reduceAdd,Nat.reduceSub]);(try ((refine Draw2.nil (kL (hle)) (hK8 _ ?_));clear hK8 K8;(refine WpL.go _ rfl fun Y y=>?_);repeat (first|(apply fw;focus ((with_reducible constructor)<;>constructor))|((first|with_reducible refine ga _ rfl fun Y y=>?_|apply ri);simp only [zb,seval,aL,kcc];refine fz y ?_;clear y Y))))
     refine Draw2.step (by rfl) (fun s9 _=>OpS.frozen (n:=1) (wd:=11) (ty:=31) (rows:=[Ag.1.cc]) (OpS.eff [(170,_)] rfl (by rfl) ⟨rfl,trivial⟩ (by simp only [zb,seval,aL,kcc];rfl) (by simp)) rfl (by simp [ksh])) ?_;simp only [bP]
     refine Draw2.eff (x:=.one (.sl 11 ((Bd.1++[Ag.1]).map K.cc))) [(0,1),(2,3)] rfl rfl (by kernel_rfl) (fun t ht s s' h1 h2=>?_) ?_
     ·simp only [List.mem_cons,List.not_mem_nil,or_false] at ht
      rcases ht with rfl|rfl<;>(cases h1;cases h2)
      ·have:=fun {nt ds d ty pos aft g e t1 t2}=>hop6 [] (nt:=nt) (ds:=ds) (d:=d) (ty:=ty) (pos:=pos) (aft:=aft) (g:=g) (e:=e) (t1:=t1) (t2:=t2)
       simp only [List.append_nil] at this
       exact this rfl (by rfl) rfl rfl (by decide)
      ·exact hop6 _ rfl (by rfl) rfl rfl (by decide)
     simp only [bP]
     (refine Draw2.go fun K7 hK7=>?_);simp only [zb,seval,aL,kcc];(refine RunQ.mk (by first|(simp;done)|omega|(simp;omega)) (hK7 _ _ (by rfl) ?_));clear hK7 K7;(simp only [zz,Nat.reduceAdd,Nat.reduceSub]);(try ((refine Draw2.nil (kL (hle)) (hK8 _ ?_));clear hK8 K8;(refine WpL.go _ rfl fun Y y=>?_);repeat (first|(apply fw;focus ((with_reducible constructor)<;>constructor))|((first|with_reducible refine ga _ rfl fun Y y=>?_|apply ri);simp only [zb,seval,aL,kcc];refine fz y ?_;clear y Y))))
     refine Draw2.step (by rfl) (fun s9 _=>oz (hsq)) ?_
     (refine Draw2.go fun K7 hK7=>?_);simp only [zb,seval,aL,kcc];(refine RunQ.mk (by first|(simp;done)|omega|(simp;omega)) (hK7 _ _ (by rfl) ?_));clear hK7 K7;(simp only [zz,Nat.reduceAdd,Nat.reduceSub]);(try ((refine Draw2.nil (kL (hle)) (hK8 _ ?_));clear hK8 K8;(refine WpL.go _ rfl fun Y y=>?_);repeat (first|(apply fw;focus ((with_reducible constructor)<;>constructor))|((first|with_reducible refine ga _ rfl fun Y y=>?_|apply ri);simp only [zb,seval,aL,kcc];refine fz y ?_;clear y Y))))
     refine Draw2.step (by rfl) (fun s9 _=>oz (hbr)) ?_
     (refine Draw2.go fun K7 hK7=>?_);simp only [zb,seval,aL,kcc];(refine RunQ.mk (by first|(simp;done)|omega|(simp;omega)) (hK7 _ _ (by rfl) ?_));clear hK7 K7;(simp only [zz,Nat.reduceAdd,Nat.reduceSub]);(try ((refine Draw2.nil (kL (hle)) (hK8 _ ?_));clear hK8 K8;(refine WpL.go _ rfl fun Y y=>?_);repeat (first|(apply fw;focus ((with_reducible constructor)<;>constructor))|((first|with_reducible refine ga _ rfl fun Y y=>?_|apply ri);simp only [zb,seval,aL,kcc];refine fz y ?_;clear y Y))))
     refine Draw2.step (by rfl) (fun s9 _=>oz (hlm)) ?_
     (refine Draw2.go fun K7 hK7=>?_);simp only [zb,seval,aL,kcc];(refine RunQ.mk (by first|(simp;done)|omega|(simp;omega)) (hK7 _ _ (by rfl) ?_));clear hK7 K7;(simp only [zz,Nat.reduceAdd,Nat.reduceSub]);(try ((refine Draw2.nil (kL (hle)) (hK8 _ ?_));clear hK8 K8;(refine WpL.go _ rfl fun Y y=>?_);repeat (first|(apply fw;focus ((with_reducible constructor)<;>constructor))|((first|with_reducible refine ga _ rfl fun Y y=>?_|apply ri);simp only [zb,seval,aL,kcc];refine fz y ?_;clear y Y))))
     refine Draw2.eff (x:=.one (.ptr T6.length 1 0 0)) [(0,2),(1,3)] rfl rfl (by kernel_rfl) (fun t ht s s' h1 h2=>?_) ?_
     ·simp only [List.mem_cons,List.not_mem_nil,or_false] at ht
      rcases ht with rfl|rfl<;>(cases h1;cases h2)
      ·rw [hl6];exact OpS.eff [] rfl (by rfl) trivial (by first|(simp only [zb,seval,aL];done)|(simp only [zb,seval,aL];rfl)) trivial
      ·exact OpS.eff [] rfl (by rfl) trivial (by first|(simp only [zb,seval,aL];done)|(simp only [zb,seval,aL];rfl)) trivial
     simp only [bP]
     (refine Draw2.go fun K7 hK7=>?_);simp only [zb,seval,aL,kcc];(refine RunQ.mk (by first|(simp;done)|omega|(simp;omega)) (hK7 _ _ (by rfl) ?_));clear hK7 K7;(simp only [zz,Nat.reduceAdd,Nat.reduceSub]);(try ((refine Draw2.nil (kL (hle)) (hK8 _ ?_));clear hK8 K8;(refine WpL.go _ rfl fun Y y=>?_);repeat (first|(apply fw;focus ((with_reducible constructor)<;>constructor))|((first|with_reducible refine ga _ rfl fun Y y=>?_|apply ri);simp only [zb,seval,aL,kcc];refine fz y ?_;clear y Y))))
     refine Draw2.eff (x:=.any) [(3,4)] rfl rfl (by kernel_rfl) (fun t ht s s' h1 h2=>?_) ?_
     ·simp only [List.mem_cons,List.not_mem_nil,or_false] at ht
      subst ht
      cases h1;cases h2
      exact OpS.eff [(21,_),(176,_)] rfl (by rfl) ⟨rfl,rfl,trivial⟩ (by simp only [zb,seval,aL,kcc,aK];rfl) (by simp [kcc])
     simp only [bP]
     (refine Draw2.go fun K7 hK7=>?_);simp only [zb,seval,aL,kcc,aK];(refine RunQ.mk (by first|(simp;done)|omega|(simp;omega)) (hK7 _ _ (by rfl) ?_));clear hK7 K7;(simp only [zz,Nat.reduceAdd,Nat.reduceSub]);(try ((refine Draw2.nil (kL (hle)) (hK8 _ ?_));clear hK8 K8;(refine WpL.go _ rfl fun Y y=>?_);repeat (first|(apply fw;focus ((with_reducible constructor)<;>constructor))|((first|with_reducible refine ga _ rfl fun Y y=>?_|apply ri);simp only [zb,seval,aL,kcc,aK];refine fz y ?_;clear y Y))))
     skip
     skip
     refine cz (b4) ?_
     (refine WpL.go _ rfl fun Y y=>?_);repeat (first|(apply fw;focus ((with_reducible constructor)<;>constructor))|((first|with_reducible refine ga _ rfl fun Y y=>?_|apply ri);simp only [zb,seval,aL,kcc,aK];refine fz y ?_;clear y Y))
     refine WpA.frzP 21 T6.length rfl (by simp only [aK];rfl) (K.cc_shut _) ?_
     simp only [aK]
     have h07:=h06' [none]
     generalize (T6++[none]:List (Option Ob))=T7 at *
     have hT7:=(List.getElem?_eq_some_iff.1 h07).1
     have h07':∀X,(T7++X)[0]?=_:=fun X=>dB h07
     have hset7:∀(X:List (Option Ob)) (a:Option Ob),((T7++X).set 0 a)[0]?=some a:=fun X a=>List.getElem?_set_self (by simp;omega)
     (refine WpA.draw1c 10 [8,9] [_,?_,?_] _ _ _ _ rfl rfl rfl (by kernel_rfl) (by kernel_rfl) (by kernel_rfl) (by kernel_rfl) rfl rfl rfl rfl (by decide) fun K8 hK8=>?_);rotate_left 2;simp only [zz] at hK8 ⊢;(refine Draw1.go fun K7 k=>?_);simp only [zb,seval,aL,kcc,aK];(refine qz (k _ _ (by rfl) ?_));clear k K7;(simp only [zz,Nat.reduceAdd,Nat.reduceSub])
     refine Draw1.step (by rfl) (fun s9 _=>OpS.frozen (n:=1) (wd:=1) (ty:=9) (rows:=[[.v (.string dY)]]) (OpS.eff [] rfl (by rfl) trivial (by simp only [zb,seval,aL,kcc];rfl) (by simp)) rfl (by simp [ksh])) ?_;simp only [bP]
     (refine Draw1.go fun K7 k=>?_);simp only [zb,seval,aL,kcc,aK];(refine qz (k _ _ (by rfl) ?_));clear k K7;(simp only [zz,Nat.reduceAdd,Nat.reduceSub])
     refine Draw1.step (by rfl) (fun s9 _=>OpS.frozen (n:=1) (wd:=11) (ty:=31) (rows:=[F.1.cc]) (OpS.eff [(183,_)] rfl (by rfl) ⟨rfl,trivial⟩ (by simp only [zb,seval,aL,kcc];rfl) (by simp)) rfl (by simp [ksh])) ?_;simp only [bP]
     refine Draw1.step (by rfl) (fun s9 _=>oz (hrl)) ?_
     (refine Draw1.go fun K7 k=>?_);simp only [zb,seval,aL,kcc,aK];(refine qz (k _ _ (by rfl) ?_));clear k K7;(simp only [zz,Nat.reduceAdd,Nat.reduceSub])
     refine Draw1.step (by rfl) (fun s9 _=>oz (hrc)) ?_
     (refine Draw1.go fun K7 k=>?_);simp only [zb,seval,aL,kcc,aK];(refine qz (k _ _ (by rfl) ?_));clear k K7;(simp only [zz,Nat.reduceAdd,Nat.reduceSub])
     refine Draw1.eff 0 rfl rfl rfl (OpS.eff [] rfl (by rfl) trivial (by simp only [zb,seval,aL,kcc,aK];rfl) (by first|(simp;done)|omega|(simp;omega))) ?_;(try simp only [bP]);(try ((refine Draw1.go fun K7 k=>?_);simp only [zb,seval,aL,kcc,aK];(refine qz (k _ _ (by rfl) ?_));clear k K7;(simp only [zz,Nat.reduceAdd,Nat.reduceSub]);(try ((refine nz (hK8 _ ?_));clear hK8 K8;(refine WpL.go _ rfl fun Y y=>?_);repeat (first|(apply fw;focus ((with_reducible constructor)<;>constructor))|((first|with_reducible refine ga _ rfl fun Y y=>?_|apply ri);simp only [zb,seval,aL,kcc,aK];refine fz y ?_;clear y Y))))))
     refine Draw1.eff 1 rfl rfl rfl (OpS.eff [(22,_),(187,_)] rfl (by rfl) ⟨rfl,rfl,trivial⟩ (by simp only [zb,seval,aL,kcc,aK];rfl) (by first|(simp;done)|omega|(simp;omega))) ?_;(try simp only [bP]);(try ((refine Draw1.go fun K7 k=>?_);simp only [zb,seval,aL,kcc,aK];(refine qz (k _ _ (by rfl) ?_));clear k K7;(simp only [zz,Nat.reduceAdd,Nat.reduceSub]);(try ((refine nz (hK8 _ ?_));clear hK8 K8;(refine WpL.go _ rfl fun Y y=>?_);repeat (first|(apply fw;focus ((with_reducible constructor)<;>constructor))|((first|with_reducible refine ga _ rfl fun Y y=>?_|apply ri);simp only [zb,seval,aL,kcc,aK];refine fz y ?_;clear y Y))))))
     refine cz (b5) ?_
     (refine WpL.go _ rfl fun Y y=>?_);repeat (first|(apply fw;focus ((with_reducible constructor)<;>constructor))|((first|with_reducible refine ga _ rfl fun Y y=>?_|apply ri);simp only [zb,seval,aL,kcc,aK];refine fz y ?_;clear y Y))
     refine cz (hei) ?_
     (refine WpL.go _ rfl fun Y y=>?_);repeat (first|(apply fw;focus ((with_reducible constructor)<;>constructor))|((first|with_reducible refine ga _ rfl fun Y y=>?_|apply ri);simp only [zb,seval,aL,kcc,aK];refine fz y ?_;clear y Y))
     refine cz (b6) ?_
     (refine WpL.go _ rfl fun Y y=>?_);repeat (first|(apply fw;focus ((with_reducible constructor)<;>constructor))|((first|with_reducible refine ga _ rfl fun Y y=>?_|apply ri);simp only [zb,seval,aL,kcc,aK,hel2];refine fz y ?_;clear y Y))
     (refine WpL.frz 204 (T7.length+1) (by rfl) (by first|rfl|(simp only [zz,aK,hel2];rfl)|(simp only [zz,aK,hel2])) (by first|rfl|(simp [aK,hel2];done)|(simp [aK,hel2];omega)) (by simp [ksh]) ?_);simp only [zz,aK,hel2]
     refine cz (hcl2) ?_
     (refine WpL.go _ rfl fun Y y=>?_);repeat (first|(apply fw;focus ((with_reducible constructor)<;>constructor))|((first|with_reducible refine ga _ rfl fun Y y=>?_|apply ri);simp only [zb,seval,aL,kcc,aK];refine fz y ?_;clear y Y))
     (refine WpA.draw0 4 _ _ _ rfl rfl rfl (by kernel_rfl) (by kernel_rfl) (by kernel_rfl) fun K8 hK8=>?_);simp only [zz] at hK8 ⊢;(refine Draw0.go fun K7 k=>?_);simp only [zb,seval,aL,kcc,aK];(refine qz (k _ _ ?_));clear k K7
     refine Draw0.step (oz (b7)) ?_
     (refine Draw0.go fun K7 k=>?_);simp only [zb,seval,aL,kcc,aK,h07'];(refine qz (k _ _ ?_));clear k K7;(try ((refine Draw0.nil (hK8 _ ?_));clear hK8 K8;(refine WpL.go _ rfl fun Y y=>?_);repeat (first|(apply fw;focus ((with_reducible constructor)<;>constructor))|((first|with_reducible refine ga _ rfl fun Y y=>?_|apply ri);simp only [zb,seval,aL,kcc,aK,h07'];refine fz y ?_;clear y Y))))
     refine ye (by simp only [zb,seval,aL,kcc,hset7];rfl) (by simp only [zv,kcc,hset7];rfl) ?_
     rfl
theorem xE (d:D):(aM d).2.2≤2:=by rw [CI];exact Nat.max_le.2 ⟨jA d,TL _⟩
theorem MS {n:Nat} {ev:Ev} (hE:HE n ev) (l:List D):(jR ev l).2≤2:=by
 match l with
 | []=>exact Nat.le_refl _
 | [_]=>exact Nat.le_refl _
 | a::b::r =>
  have hbe:=xE b
  have w1:=eO a
  have w2:=lN (aM b).1
  have w3:=hE.b2 r
  have w4:=mO (aM b).1 e0 (ev.b r).1
  have w5:=eI hE (aM b).2.1
  unfold jR;dsimp only
  have w6:=nD [(bJ a).1] [(eS (aM b).1 e0 (ev.b r).1).1] (bM (bJ a).1)
  have w7:=fC ((jG [(bJ a).1] [(eS (aM b).1 e0 (ev.b r).1).1] (bM (bJ a).1)).1::(aN ev.e (aM b).2.1).1)
  omega
theorem VQ {n:Nat} {ev:Ev} (hE:HE n ev) (l:List D):(vF ev l).2≤2:=by
 match l with
 | []=>exact Nat.le_refl _
 | a::r =>
  show (if a.k=6 then jR ev (a::r) else ((eL ev (aM a).1 (ev.b r).1 (aM a).2.1).1,max (max (max (aM a).2.2 (ev.b r).2) (unl (aM a).1)) (eL ev (aM a).1 (ev.b r).1 (aM a).2.1).2)).2≤2
  split
  ·exact MS hE _
  ·have hbe:=xE a
   have w1:=lN (aM a).1
   have w2:=hE.b2 r
   have w3:=lO ev hE (aM a).1 (ev.b r).1 (aM a).2.1
   dsimp only;omega
theorem KG {n:Nat} {ev:Ev} (hE:HE n ev) (l:List D):(gY ev l).2≤2:=by
 match l with
 | []=>exact Nat.le_refl _
 | a::r =>
  have hbe:=xE a
  have w2:=hE.b2 r
  have w3:=lO ev hE [] (ev.b r).1 []
  exact CK hE _ _ (by dsimp only;omega)
theorem MT {n:Nat} {ev:Ev} (hE:HE n ev) (l:List D):(gH ev l).2≤2:=by
 match l with
 | []=>exact Nat.le_refl _
 | a::r =>
  have hbe:=xE a
  have w2:=hE.b2 r
  have w3:=eI hE (aM a).2.1
  have w4:=nD (aM a).1 (aN ev.e (aM a).2.1).1 (ev.b r).1
  unfold gH;dsimp only;omega
theorem KH {n:Nat} {ev:Ev} (hE:HE n ev) (w:ByteArray) (l:List D):(bI ev w l).2≤2:=by
 unfold bI
 repeat' split
 ·exact VQ hE l
 ·exact KG hE l
 ·exact MT hE l
 ·exact CL hE l
 ·exact QP hE l
 ·exact tY hE _ l
 ·exact tY hE _ l
 ·exact Nat.le_refl _
theorem GO {n:Nat} {ev:Ev} (hE:HE n ev) (w:ByteArray) (l:List D) (hl:Gds n l):Pure Tryz.prog 113 [.one (.v (.string w)),.one (.sl 6 (l.map D.cc))] (rsA (bI ev w l)):=by
 by_cases ksLet:w=mL
 ·subst ksLet
  have hc:=TQ hE l hl
  rw [show bI ev mL l=vF ev l by unfold bI;(iterate 0 rw [if_neg (by decide)]);rw [if_pos (by decide)]]
  have q0:eqB mL ⟨#[108,101,116]⟩=true:=bB rfl
  have q1:eqB mL ⟨#[108,101,116,42]⟩=false:=aA (by decide)
  have q2:eqB mL ⟨#[108,101,116,114,101,99]⟩=false:=aA (by decide)
  have q3:eqB mL ⟨#[108,101,116,114,101,99,42]⟩=false:=aA (by decide)
  have q4:eqB mL ⟨#[99,111,110,100]⟩=false:=aA (by decide)
  have q5:eqB mL ⟨#[100,111]⟩=false:=aA (by decide)
  have q6:eqB mL ⟨#[97,110,100]⟩=false:=aA (by decide)
  have q7:eqB mL ⟨#[111,114]⟩=false:=aA (by decide)
  simp only [rsA] at hc ⊢
  refine fi Tryz.func113 Tryz.ntmps113 Tryz.results113 ?_
  repeat (first|(apply fw;focus ((with_reducible constructor)<;>constructor))|((first|with_reducible refine ga _ rfl fun Y y=>?_|(refine ca ?_;apply Exists.intro;constructor;assumption;intro Y y)|apply ri);simp only [zb,seval,rS,kcc,cK,q0,q1,q2,q3,q4,q5,q6,q7];refine fz y ?_;clear y Y))
  refine ye (by simp only [zb,seval,rS,kcc];rfl) (by simp only [zv,kcc];rfl) ?_
  rfl
 by_cases ksLetS:w=nS
 ·subst ksLetS
  have hc:=GK hE l hl
  rw [show bI ev nS l=gY ev l by unfold bI;(iterate 1 rw [if_neg (by decide)]);rw [if_pos (by decide)]]
  have q0:eqB nS ⟨#[108,101,116]⟩=false:=aA (by decide)
  have q1:eqB nS ⟨#[108,101,116,42]⟩=true:=bB rfl
  have q2:eqB nS ⟨#[108,101,116,114,101,99]⟩=false:=aA (by decide)
  have q3:eqB nS ⟨#[108,101,116,114,101,99,42]⟩=false:=aA (by decide)
  have q4:eqB nS ⟨#[99,111,110,100]⟩=false:=aA (by decide)
  have q5:eqB nS ⟨#[100,111]⟩=false:=aA (by decide)
  have q6:eqB nS ⟨#[97,110,100]⟩=false:=aA (by decide)
  have q7:eqB nS ⟨#[111,114]⟩=false:=aA (by decide)
  simp only [rsA] at hc ⊢
  refine fi Tryz.func113 Tryz.ntmps113 Tryz.results113 ?_
  repeat (first|(apply fw;focus ((with_reducible constructor)<;>constructor))|((first|with_reducible refine ga _ rfl fun Y y=>?_|(refine ca ?_;apply Exists.intro;constructor;assumption;intro Y y)|apply ri);simp only [zb,seval,rS,kcc,cK,q0,q1,q2,q3,q4,q5,q6,q7];refine fz y ?_;clear y Y))
  refine ye (by simp only [zb,seval,rS,kcc];rfl) (by simp only [zv,kcc];rfl) ?_
  rfl
 by_cases ksLetrec:w=gP
 ·subst ksLetrec
  have hc:=zC hE l hl
  rw [show bI ev gP l=gH ev l by unfold bI;(iterate 2 rw [if_neg (by decide)]);rw [if_pos (by decide)]]
  have q0:eqB gP ⟨#[108,101,116]⟩=false:=aA (by decide)
  have q1:eqB gP ⟨#[108,101,116,42]⟩=false:=aA (by decide)
  have q2:eqB gP ⟨#[108,101,116,114,101,99]⟩=true:=bB rfl
  have q3:eqB gP ⟨#[108,101,116,114,101,99,42]⟩=false:=aA (by decide)
  have q4:eqB gP ⟨#[99,111,110,100]⟩=false:=aA (by decide)
  have q5:eqB gP ⟨#[100,111]⟩=false:=aA (by decide)
  have q6:eqB gP ⟨#[97,110,100]⟩=false:=aA (by decide)
  have q7:eqB gP ⟨#[111,114]⟩=false:=aA (by decide)
  simp only [rsA] at hc ⊢
  refine fi Tryz.func113 Tryz.ntmps113 Tryz.results113 ?_
  repeat (first|(apply fw;focus ((with_reducible constructor)<;>constructor))|((first|with_reducible refine ga _ rfl fun Y y=>?_|(refine ca ?_;apply Exists.intro;constructor;assumption;intro Y y)|apply ri);simp only [zb,seval,rS,kcc,cK,q0,q1,q2,q3,q4,q5,q6,q7];refine fz y ?_;clear y Y))
  refine ye (by simp only [zb,seval,rS,kcc];rfl) (by simp only [zv,kcc];rfl) ?_
  rfl
 by_cases ksLetrecS:w=dU
 ·subst ksLetrecS
  have hc:=zC hE l hl
  rw [show bI ev dU l=gH ev l by unfold bI;(iterate 2 rw [if_neg (by decide)]);rw [if_pos (by decide)]]
  have q0:eqB dU ⟨#[108,101,116]⟩=false:=aA (by decide)
  have q1:eqB dU ⟨#[108,101,116,42]⟩=false:=aA (by decide)
  have q2:eqB dU ⟨#[108,101,116,114,101,99]⟩=false:=aA (by decide)
  have q3:eqB dU ⟨#[108,101,116,114,101,99,42]⟩=true:=bB rfl
  have q4:eqB dU ⟨#[99,111,110,100]⟩=false:=aA (by decide)
  have q5:eqB dU ⟨#[100,111]⟩=false:=aA (by decide)
  have q6:eqB dU ⟨#[97,110,100]⟩=false:=aA (by decide)
  have q7:eqB dU ⟨#[111,114]⟩=false:=aA (by decide)
  simp only [rsA] at hc ⊢
  refine fi Tryz.func113 Tryz.ntmps113 Tryz.results113 ?_
  repeat (first|(apply fw;focus ((with_reducible constructor)<;>constructor))|((first|with_reducible refine ga _ rfl fun Y y=>?_|(refine ca ?_;apply Exists.intro;constructor;assumption;intro Y y)|apply ri);simp only [zb,seval,rS,kcc,cK,q0,q1,q2,q3,q4,q5,q6,q7];refine fz y ?_;clear y Y))
  refine ye (by simp only [zb,seval,rS,kcc];rfl) (by simp only [zv,kcc];rfl) ?_
  rfl
 by_cases ksCond:w=nT
 ·subst ksCond
  have hc:=EO hE l hl
  rw [show bI ev nT l=iO ev l by unfold bI;(iterate 3 rw [if_neg (by decide)]);rw [if_pos (by decide)]]
  have q0:eqB nT ⟨#[108,101,116]⟩=false:=aA (by decide)
  have q1:eqB nT ⟨#[108,101,116,42]⟩=false:=aA (by decide)
  have q2:eqB nT ⟨#[108,101,116,114,101,99]⟩=false:=aA (by decide)
  have q3:eqB nT ⟨#[108,101,116,114,101,99,42]⟩=false:=aA (by decide)
  have q4:eqB nT ⟨#[99,111,110,100]⟩=true:=bB rfl
  have q5:eqB nT ⟨#[100,111]⟩=false:=aA (by decide)
  have q6:eqB nT ⟨#[97,110,100]⟩=false:=aA (by decide)
  have q7:eqB nT ⟨#[111,114]⟩=false:=aA (by decide)
  simp only [rsA] at hc ⊢
  refine fi Tryz.func113 Tryz.ntmps113 Tryz.results113 ?_
  repeat (first|(apply fw;focus ((with_reducible constructor)<;>constructor))|((first|with_reducible refine ga _ rfl fun Y y=>?_|(refine ca ?_;apply Exists.intro;constructor;assumption;intro Y y)|apply ri);simp only [zb,seval,rS,kcc,cK,q0,q1,q2,q3,q4,q5,q6,q7];refine fz y ?_;clear y Y))
  refine ye (by simp only [zb,seval,rS,kcc];rfl) (by simp only [zv,kcc];rfl) ?_
  rfl
 by_cases ksDo:w=sDo
 ·subst ksDo
  have hc:=MR hE l hl
  rw [show bI ev sDo l=nX ev l by unfold bI;(iterate 4 rw [if_neg (by decide)]);rw [if_pos (by decide)]]
  have q0:eqB sDo ⟨#[108,101,116]⟩=false:=aA (by decide)
  have q1:eqB sDo ⟨#[108,101,116,42]⟩=false:=aA (by decide)
  have q2:eqB sDo ⟨#[108,101,116,114,101,99]⟩=false:=aA (by decide)
  have q3:eqB sDo ⟨#[108,101,116,114,101,99,42]⟩=false:=aA (by decide)
  have q4:eqB sDo ⟨#[99,111,110,100]⟩=false:=aA (by decide)
  have q5:eqB sDo ⟨#[100,111]⟩=true:=bB rfl
  have q6:eqB sDo ⟨#[97,110,100]⟩=false:=aA (by decide)
  have q7:eqB sDo ⟨#[111,114]⟩=false:=aA (by decide)
  simp only [rsA] at hc ⊢
  refine fi Tryz.func113 Tryz.ntmps113 Tryz.results113 ?_
  repeat (first|(apply fw;focus ((with_reducible constructor)<;>constructor))|((first|with_reducible refine ga _ rfl fun Y y=>?_|(refine ca ?_;apply Exists.intro;constructor;assumption;intro Y y)|apply ri);simp only [zb,seval,rS,kcc,cK,q0,q1,q2,q3,q4,q5,q6,q7];refine fz y ?_;clear y Y))
  refine ye (by simp only [zb,seval,rS,kcc];rfl) (by simp only [zv,kcc];rfl) ?_
  rfl
 by_cases ksAnd:w=uG
 ·subst ksAnd
  have hc:=vJ hE true uG (bB rfl) (aA (by decide)) l hl
  rw [show bI ev uG l=dI ev true l by unfold bI;(iterate 5 rw [if_neg (by decide)]);rw [if_pos (by decide)]]
  have q0:eqB uG ⟨#[108,101,116]⟩=false:=aA (by decide)
  have q1:eqB uG ⟨#[108,101,116,42]⟩=false:=aA (by decide)
  have q2:eqB uG ⟨#[108,101,116,114,101,99]⟩=false:=aA (by decide)
  have q3:eqB uG ⟨#[108,101,116,114,101,99,42]⟩=false:=aA (by decide)
  have q4:eqB uG ⟨#[99,111,110,100]⟩=false:=aA (by decide)
  have q5:eqB uG ⟨#[100,111]⟩=false:=aA (by decide)
  have q6:eqB uG ⟨#[97,110,100]⟩=true:=bB rfl
  have q7:eqB uG ⟨#[111,114]⟩=false:=aA (by decide)
  simp only [rsA] at hc ⊢
  refine fi Tryz.func113 Tryz.ntmps113 Tryz.results113 ?_
  repeat (first|(apply fw;focus ((with_reducible constructor)<;>constructor))|((first|with_reducible refine ga _ rfl fun Y y=>?_|(refine ca ?_;apply Exists.intro;constructor;assumption;intro Y y)|apply ri);simp only [zb,seval,rS,kcc,cK,q0,q1,q2,q3,q4,q5,q6,q7];refine fz y ?_;clear y Y))
  refine ye (by simp only [zb,seval,rS,kcc];rfl) (by simp only [zv,kcc];rfl) ?_
  rfl
 by_cases ksOr:w=sOr
 ·subst ksOr
  have hc:=vJ hE false sOr (aA (by decide)) (bB rfl) l hl
  rw [show bI ev sOr l=dI ev false l by unfold bI;(iterate 6 rw [if_neg (by decide)]);rw [if_pos (by decide)]]
  have q0:eqB sOr ⟨#[108,101,116]⟩=false:=aA (by decide)
  have q1:eqB sOr ⟨#[108,101,116,42]⟩=false:=aA (by decide)
  have q2:eqB sOr ⟨#[108,101,116,114,101,99]⟩=false:=aA (by decide)
  have q3:eqB sOr ⟨#[108,101,116,114,101,99,42]⟩=false:=aA (by decide)
  have q4:eqB sOr ⟨#[99,111,110,100]⟩=false:=aA (by decide)
  have q5:eqB sOr ⟨#[100,111]⟩=false:=aA (by decide)
  have q6:eqB sOr ⟨#[97,110,100]⟩=false:=aA (by decide)
  have q7:eqB sOr ⟨#[111,114]⟩=true:=bB rfl
  simp only [rsA] at hc ⊢
  refine fi Tryz.func113 Tryz.ntmps113 Tryz.results113 ?_
  repeat (first|(apply fw;focus ((with_reducible constructor)<;>constructor))|((first|with_reducible refine ga _ rfl fun Y y=>?_|(refine ca ?_;apply Exists.intro;constructor;assumption;intro Y y)|apply ri);simp only [zb,seval,rS,kcc,cK,q0,q1,q2,q3,q4,q5,q6,q7];refine fz y ?_;clear y Y))
  refine ye (by simp only [zb,seval,rS,kcc];rfl) (by simp only [zv,kcc];rfl) ?_
  rfl
 have hw:Pure Tryz.prog 84 [.one (.v (.string w)),.one (.gv 1)] (.one (.er 2)):=dD _ 1
 have q0:eqB w ⟨#[108,101,116]⟩=false:=aA ksLet
 have q1:eqB w ⟨#[108,101,116,42]⟩=false:=aA ksLetS
 have q2:eqB w ⟨#[108,101,116,114,101,99]⟩=false:=aA ksLetrec
 have q3:eqB w ⟨#[108,101,116,114,101,99,42]⟩=false:=aA ksLetrecS
 have q4:eqB w ⟨#[99,111,110,100]⟩=false:=aA ksCond
 have q5:eqB w ⟨#[100,111]⟩=false:=aA ksDo
 have q6:eqB w ⟨#[97,110,100]⟩=false:=aA ksAnd
 have q7:eqB w ⟨#[111,114]⟩=false:=aA ksOr
 rw [show bI ev w l=(kz,2) by unfold bI;rw [if_neg ksLet,if_neg ksLetS,if_neg (by rintro (h|h);exact ksLetrec h;exact ksLetrecS h),if_neg ksCond,if_neg ksDo,if_neg ksAnd,if_neg ksOr]]
 refine fi Tryz.func113 Tryz.ntmps113 Tryz.results113 ?_
 repeat (first|(apply fw;focus ((with_reducible constructor)<;>constructor))|((first|with_reducible refine ga _ rfl fun Y y=>?_|(refine ca ?_;apply Exists.intro;constructor;assumption;intro Y y)|apply ri);simp only [zb,seval,rS,kcc,cK,q0,q1,q2,q3,q4,q5,q6,q7];refine fz y ?_;clear y Y))
 refine yl (by simp only [zb,seval,rS,kcc,rsA];rfl) (by simp only [zv,kcc,rsA];rfl) ((by simp only [rcc,rsA];exact ae)) rfl
theorem QR {n:Nat} {ev:Ev} (hE:HE n ev) (w:ByteArray) (l0:List D) (hl:Gds n l0):Pure Tryz.prog 89 [.one (.v (.string w)),.one (.sl 6 (l0.map D.cc))] (rsA (cW ev w l0)):=by
 have hde:=GO hE w l0 hl
 have hbig:=hE.big
 simp only [rsA] at hde
  
  
 by_cases ksQuote:w=iJ
 ·subst ksQuote
  have q0:eqB iJ ⟨#[113,117,111,116,101]⟩=true:=bB rfl
  have q1:eqB iJ ⟨#[113,117,97,115,105,113,117,111,116,101]⟩=false:=aA (by decide)
  have q2:eqB iJ ⟨#[108,97,109,98,100,97]⟩=false:=aA (by decide)
  have q3:eqB iJ ⟨#[115,101,116,33]⟩=false:=aA (by decide)
  have q4:eqB iJ ⟨#[105,102]⟩=false:=aA (by decide)
  have q5:eqB iJ ⟨#[98,101,103,105,110]⟩=false:=aA (by decide)
  have q6:eqB iJ ⟨#[99,97,115,101]⟩=false:=aA (by decide)
  have q7:eqB iJ ⟨#[119,104,101,110]⟩=false:=aA (by decide)
  have q8:eqB iJ ⟨#[117,110,108,101,115,115]⟩=false:=aA (by decide)
  by_cases hn:l0.length=1
  ·obtain⟨a,rfl⟩:∃a,l0=[a]:=by match l0,hn with|[a],_=>exact⟨a,rfl⟩
   have hc:=iR a (hl.head).2.1
   rw [show cW ev iJ [a]=(dW a,0) from rfl]
   simp only [List.map_cons,List.map_nil,rsA]
   refine fi Tryz.func89 Tryz.ntmps89 Tryz.results89 ?_
   repeat (first|(apply fw;focus ((with_reducible constructor)<;>constructor))|((first|with_reducible refine ga _ rfl fun Y y=>?_|(refine ca ?_;apply Exists.intro;constructor;assumption;intro Y y)|apply ri);simp only [zb,seval,w89,kcc,cK,q0,q1,q2,q3,q4,q5,q6,q7,q8];refine fz y ?_;clear y Y))
   refine ye (by simp only [zb,seval,w89,kcc];rfl) (by simp only [zv,kcc];rfl) ?_
   rfl
  ·have m1:((l0.length:Int) == 1)=false:=by simp;omega
   rw [show cW ev iJ l0=bI ev iJ l0 by unfold cW;(repeat rw [if_neg (by first|decide|assumption|(rintro ⟨h,-⟩;exact absurd h (by first|decide|assumption))|(rintro ⟨-,h⟩;omega))])]
   simp only [rsA]
   refine fi Tryz.func89 Tryz.ntmps89 Tryz.results89 ?_
   repeat (first|(apply fw;focus ((with_reducible constructor)<;>constructor))|((first|with_reducible refine ga _ rfl fun Y y=>?_|(refine ca ?_;apply Exists.intro;constructor;assumption;intro Y y)|apply ri);simp only [zb,seval,w89,kcc,cK,q0,q1,q2,q3,q4,q5,q6,q7,q8,m1];refine fz y ?_;clear y Y))
   refine ye (by simp only [zb,seval,w89,kcc];rfl) (by simp only [zv,kcc];rfl) ?_
   rfl
 by_cases ksQuasi:w=eZ
 ·subst ksQuasi
  have q0:eqB eZ ⟨#[113,117,111,116,101]⟩=false:=aA (by decide)
  have q1:eqB eZ ⟨#[113,117,97,115,105,113,117,111,116,101]⟩=true:=bB rfl
  have q2:eqB eZ ⟨#[108,97,109,98,100,97]⟩=false:=aA (by decide)
  have q3:eqB eZ ⟨#[115,101,116,33]⟩=false:=aA (by decide)
  have q4:eqB eZ ⟨#[105,102]⟩=false:=aA (by decide)
  have q5:eqB eZ ⟨#[98,101,103,105,110]⟩=false:=aA (by decide)
  have q6:eqB eZ ⟨#[99,97,115,101]⟩=false:=aA (by decide)
  have q7:eqB eZ ⟨#[119,104,101,110]⟩=false:=aA (by decide)
  have q8:eqB eZ ⟨#[117,110,108,101,115,115]⟩=false:=aA (by decide)
  by_cases hn:l0.length=1
  ·obtain⟨a,rfl⟩:∃a,l0=[a]:=by match l0,hn with|[a],_=>exact⟨a,rfl⟩
   have hc:Pure Tryz.prog 108 [.agg a.cc,.one (.v (.int .i64 1))] (rsA (ev.q a 1)):=hE.q a 1 hl.head (Nat.le_refl _) (by have:=hl.head.2.2;omega)
   rw [show cW ev eZ [a]=ev.q a 1 from rfl]
   simp only [List.map_cons,List.map_nil,rsA] at hc ⊢
   refine fi Tryz.func89 Tryz.ntmps89 Tryz.results89 ?_
   repeat (first|(apply fw;focus ((with_reducible constructor)<;>constructor))|((first|with_reducible refine ga _ rfl fun Y y=>?_|(refine ca ?_;apply Exists.intro;constructor;assumption;intro Y y)|apply ri);simp only [zb,seval,w89,kcc,cK,q0,q1,q2,q3,q4,q5,q6,q7,q8];refine fz y ?_;clear y Y))
   refine ye (by simp only [zb,seval,w89,kcc];rfl) (by simp only [zv,kcc];rfl) ?_
   rfl
  ·have m1:((l0.length:Int) == 1)=false:=by simp;omega
   rw [show cW ev eZ l0=bI ev eZ l0 by unfold cW;(repeat rw [if_neg (by first|decide|assumption|(rintro ⟨h,-⟩;exact absurd h (by first|decide|assumption))|(rintro ⟨-,h⟩;omega))])]
   simp only [rsA]
   refine fi Tryz.func89 Tryz.ntmps89 Tryz.results89 ?_
   repeat (first|(apply fw;focus ((with_reducible constructor)<;>constructor))|((first|with_reducible refine ga _ rfl fun Y y=>?_|(refine ca ?_;apply Exists.intro;constructor;assumption;intro Y y)|apply ri);simp only [zb,seval,w89,kcc,cK,q0,q1,q2,q3,q4,q5,q6,q7,q8,m1];refine fz y ?_;clear y Y))
   refine ye (by simp only [zb,seval,w89,kcc];rfl) (by simp only [zv,kcc];rfl) ?_
   rfl
 by_cases ksLambda:w=cJ
 ·subst ksLambda
  have q0:eqB cJ ⟨#[113,117,111,116,101]⟩=false:=aA (by decide)
  have q1:eqB cJ ⟨#[113,117,97,115,105,113,117,111,116,101]⟩=false:=aA (by decide)
  have q2:eqB cJ ⟨#[108,97,109,98,100,97]⟩=true:=bB rfl
  have q3:eqB cJ ⟨#[115,101,116,33]⟩=false:=aA (by decide)
  have q4:eqB cJ ⟨#[105,102]⟩=false:=aA (by decide)
  have q5:eqB cJ ⟨#[98,101,103,105,110]⟩=false:=aA (by decide)
  have q6:eqB cJ ⟨#[99,97,115,101]⟩=false:=aA (by decide)
  have q7:eqB cJ ⟨#[119,104,101,110]⟩=false:=aA (by decide)
  have q8:eqB cJ ⟨#[117,110,108,101,115,115]⟩=false:=aA (by decide)
  match l0,hl with
  | [],hl =>
   have g1:decide ((1:Int)≤((([]:List D).length:Nat):Int))=false:=by decide
   rw [show cW ev cJ []=bI ev cJ [] from rfl]
   simp only [rsA]
   simp only [List.map_nil] at hde ⊢
   refine fi Tryz.func89 Tryz.ntmps89 Tryz.results89 ?_
   repeat (first|(apply fw;focus ((with_reducible constructor)<;>constructor))|((first|with_reducible refine ga _ rfl fun Y y=>?_|(refine ca ?_;apply Exists.intro;constructor;assumption;intro Y y)|apply ri);simp only [zb,seval,w89,kcc,cK,q0,q1,q2,q3,q4,q5,q6,q7,q8];refine fz y ?_;clear y Y))
   refine ye (by simp only [zb,seval,w89,kcc];rfl) (by simp only [zv,kcc];rfl) ?_
   rfl
  | a::r,hl =>
   obtain⟨l,hlr⟩:∃l,a::r=l:=⟨_,rfl⟩
   obtain⟨c0,ct,cd,cl,cn,c11,c00,c22⟩:=rA a r l hlr
   have g1:decide ((1:Int)≤(l.length:Int))=true:=by simp;omega
   have hle1:(1:Int)≤(l.length:Int):=by omega
   have hc:=uO hE a r hl.head hl.tail
   rw [show cW ev cJ (a::r)=dA ev a r by unfold cW;(repeat rw [if_neg (by first|decide|(rintro ⟨h,-⟩;exact absurd h (by decide)))]);rw [if_pos ⟨rfl,by simp⟩];rfl,hlr]
   simp only [rsA] at hc ⊢
   refine fi Tryz.func89 Tryz.ntmps89 Tryz.results89 ?_
   repeat (first|(apply fw;focus ((with_reducible constructor)<;>constructor))|((first|with_reducible refine ga _ rfl fun Y y=>?_|apply ri);simp only [zb,seval,w89,kcc,cK,q0,q1,q2,q3,q4,q5,q6,q7,q8,g1];refine fz y ?_;clear y Y))
   (refine WpA.draw0 8 _ _ _ rfl rfl rfl (by kernel_rfl) (by kernel_rfl) (by kernel_rfl) fun K8 hK8=>?_);simp only [zz] at hK8 ⊢;(refine Draw0.go fun K7 k=>?_);simp only [zb,seval,w89,kcc,c0,ct,cd,cn,c11];(refine qz (k _ _ ?_));clear k K7
   refine Draw0.step (oz (hc)) ?_
   (refine Draw0.go fun K7 k=>?_);simp only [zb,seval,w89,kcc];(refine qz (k _ _ ?_));clear k K7;(try ((refine Draw0.nil (hK8 _ ?_));clear hK8 K8;(refine WpL.go _ rfl fun Y y=>?_);repeat (first|(apply fw;focus ((with_reducible constructor)<;>constructor))|((first|with_reducible refine ga _ rfl fun Y y=>?_|apply ri);simp only [zb,seval,w89,kcc];refine fz y ?_;clear y Y))))
   refine ye (by simp only [zb,seval,w89,kcc];rfl) (by simp only [zv,kcc];rfl) ?_
   rfl
 by_cases ksSet:w=sJ
 ·subst ksSet
  have q0:eqB sJ ⟨#[113,117,111,116,101]⟩=false:=aA (by decide)
  have q1:eqB sJ ⟨#[113,117,97,115,105,113,117,111,116,101]⟩=false:=aA (by decide)
  have q2:eqB sJ ⟨#[108,97,109,98,100,97]⟩=false:=aA (by decide)
  have q3:eqB sJ ⟨#[115,101,116,33]⟩=true:=bB rfl
  have q4:eqB sJ ⟨#[105,102]⟩=false:=aA (by decide)
  have q5:eqB sJ ⟨#[98,101,103,105,110]⟩=false:=aA (by decide)
  have q6:eqB sJ ⟨#[99,97,115,101]⟩=false:=aA (by decide)
  have q7:eqB sJ ⟨#[119,104,101,110]⟩=false:=aA (by decide)
  have q8:eqB sJ ⟨#[117,110,108,101,115,115]⟩=false:=aA (by decide)
  by_cases hn:l0.length=2
  ·obtain⟨a,b,rfl⟩:∃a b,l0=[a,b]:=by match l0,hn with|[a,b],_=>exact⟨a,b,rfl⟩
   have hv:=kO a
   have hx:=hE.e b hl.tail.head
   have hb:=aD (bJ a).2 (ev.e b).2 (eO _) (hE.e2 _)
   rw [show cW ev sJ [a,b]=(zR (bJ a).1 (ev.e b).1,max (bJ a).2 (ev.e b).2) by unfold cW;(repeat rw [if_neg (by first|decide|(rintro ⟨h,-⟩;exact absurd h (by decide)))]);rw [if_pos ⟨rfl,rfl⟩];rfl]
   simp only [List.map_cons,List.map_nil,rsA] at hx ⊢
   refine fi Tryz.func89 Tryz.ntmps89 Tryz.results89 ?_
   repeat (first|(apply fw;focus ((with_reducible constructor)<;>constructor))|((first|with_reducible refine ga _ rfl fun Y y=>?_|(refine ca ?_;apply Exists.intro;constructor;assumption;intro Y y)|apply ri);simp only [zb,seval,w89,kcc,cK,q0,q1,q2,q3,q4,q5,q6,q7,q8];refine fz y ?_;clear y Y))
   (refine WpA.draw0 7 _ _ _ rfl rfl rfl (by kernel_rfl) (by kernel_rfl) (by kernel_rfl) fun K8 hK8=>?_);simp only [zz] at hK8 ⊢;(refine Draw0.go fun K7 k=>?_);simp only [zb,seval,w89,kcc];(refine qz (k _ _ ?_));clear k K7
   refine Draw0.step (OpS.frozen (n:=1) (wd:=11) (ty:=31) (rows:=[(ev.e b).1.cc]) (OpS.eff [(84,_)] rfl (by rfl) ⟨rfl,trivial⟩ (by simp only [zb,seval,w89,kcc];rfl) (by simp)) rfl (by simp [ksh])) ?_;simp only [bP]
   (refine Draw0.go fun K7 k=>?_);simp only [zb,seval,w89,kcc];(refine qz (k _ _ ?_));clear k K7
   refine Draw0.step (oz (hb)) ?_
   (refine Draw0.go fun K7 k=>?_);simp only [zb,seval,w89,kcc];(refine qz (k _ _ ?_));clear k K7;(try ((refine Draw0.nil (hK8 _ ?_));clear hK8 K8;(refine WpL.go _ rfl fun Y y=>?_);repeat (first|(apply fw;focus ((with_reducible constructor)<;>constructor))|((first|with_reducible refine ga _ rfl fun Y y=>?_|apply ri);simp only [zb,seval,w89,kcc];refine fz y ?_;clear y Y))))
   refine yl (by simp only [zb,seval,w89,kcc];rfl) (by simp only [zv,kcc];rfl) ((by simp only [rcc];exact ae)) rfl
  ·have m2:((l0.length:Int) == 2)=false:=by simp;omega
   rw [show cW ev sJ l0=bI ev sJ l0 by unfold cW;(repeat rw [if_neg (by first|decide|assumption|(rintro ⟨h,-⟩;exact absurd h (by first|decide|assumption))|(rintro ⟨-,h⟩;omega))])]
   simp only [rsA]
   refine fi Tryz.func89 Tryz.ntmps89 Tryz.results89 ?_
   repeat (first|(apply fw;focus ((with_reducible constructor)<;>constructor))|((first|with_reducible refine ga _ rfl fun Y y=>?_|(refine ca ?_;apply Exists.intro;constructor;assumption;intro Y y)|apply ri);simp only [zb,seval,w89,kcc,cK,q0,q1,q2,q3,q4,q5,q6,q7,q8,m2];refine fz y ?_;clear y Y))
   refine ye (by simp only [zb,seval,w89,kcc];rfl) (by simp only [zv,kcc];rfl) ?_
   rfl
 by_cases ksIf:w=sIf
 ·subst ksIf
  have q0:eqB sIf ⟨#[113,117,111,116,101]⟩=false:=aA (by decide)
  have q1:eqB sIf ⟨#[113,117,97,115,105,113,117,111,116,101]⟩=false:=aA (by decide)
  have q2:eqB sIf ⟨#[108,97,109,98,100,97]⟩=false:=aA (by decide)
  have q3:eqB sIf ⟨#[115,101,116,33]⟩=false:=aA (by decide)
  have q4:eqB sIf ⟨#[105,102]⟩=true:=bB rfl
  have q5:eqB sIf ⟨#[98,101,103,105,110]⟩=false:=aA (by decide)
  have q6:eqB sIf ⟨#[99,97,115,101]⟩=false:=aA (by decide)
  have q7:eqB sIf ⟨#[119,104,101,110]⟩=false:=aA (by decide)
  have q8:eqB sIf ⟨#[117,110,108,101,115,115]⟩=false:=aA (by decide)
  by_cases hn:l0.length=2
  ·obtain⟨a,b,rfl⟩:∃a b,l0=[a,b]:=by match l0,hn with|[a,b],_=>exact⟨a,b,rfl⟩
   have hno:=gT
   have hbr:=dV (ev.e a).1 (ev.e b).1 bT
   rw [show cW ev sIf [a,b]=(aH (ev.e a).1 (ev.e b).1 bT,(aN ev.e [a,b]).2) by unfold cW;(repeat rw [if_neg (by first|decide|(rintro ⟨h,-⟩;exact absurd h (by decide)))]);rw [if_pos ⟨rfl,rfl⟩];rfl]
   simp only [rsA]
   refine fi Tryz.func89 Tryz.ntmps89 Tryz.results89 ?_
   repeat (first|(apply fw;focus ((with_reducible constructor)<;>constructor))|((first|with_reducible refine ga _ rfl fun Y y=>?_|apply ri);simp only [zb,seval,w89,kcc,cK,q0,q1,q2,q3,q4,q5,q6,q7,q8];refine fz y ?_;clear y Y))
   refine WpL.handAll rfl (aB (P:=Tryz.prog) rfl) rfl rfl (by kernel_rfl) (ALes.refl _) (GM hE [a,b] hl _) ?_
   rintro _ S5 ⟨cB,rfl,hAB,hfrB,hlB,hkB⟩
   have h05:=hkB 0 _ rfl
   rw [show (aN ev.e [a,b]).1.map K.cc=[(ev.e a).1.cc,(ev.e b).1.cc] from rfl] at hAB
   have hB0:∀m,cB≠.ms 0 m:=fun m e=>by have:=hfrB _ _ e;simp at this
   (refine WpL.go _ rfl fun Y y=>?_);repeat (first|(apply fw;focus ((with_reducible constructor)<;>constructor))|((first|with_reducible refine ga _ rfl fun Y y=>?_|apply ri);simp only [zb,seval,w89,kcc];refine fz y ?_;clear y Y))
   refine cz (hno) ?_
   simp only [St.put]
   (try simp only [St.put]);(refine WpL.op rfl (aB (P:=Tryz.prog) rfl) (aI (by simp only [zb,seval,w89,kcc];rfl) (by first|(simp;done)|omega|(simp;omega))) ?_);simp only [St.put]
   obtain⟨S8,j,hA8,hj8,hl8,hfr8,hpl8,hop8⟩:=fK (P:=Tryz.prog) (T:=29) (by_:=176) bQ bR bS (by omega) (S:=S5++[some ⟨31,11,[bT.cc]⟩]) (hAB.app _) (q:=S5.length) (new:=[bT.cc]) (oG _ _ _) (by simp) (fun n e=>by have:=hAB.lt e;omega) (by simp) (by simp)
   simp only [List.length_cons,List.length_nil,Nat.zero_add] at hop8 hA8
   have h08:=hfr8 0 _ (dB h05) hB0
   have hof:∀m,C.ms j (1+1+1)≠.ms 0 m:=fun m e=>by
    have e1:=(C.ms.inj e).1
    rcases hpl8 with q|q
    ·exact hB0 _ (e1▸q)
    ·rw [List.length_append] at q;simp only [List.length_cons,List.length_nil] at q;omega
   refine WpL.aop rfl (hop8 _ _ _ rfl rfl) ?_
   simp only [St.put]
   (try simp only [St.put]);(refine WpL.op rfl (aB (P:=Tryz.prog) rfl) (aI (by simp only [zb,seval,w89];rfl) (by first|(simp;done)|omega|(simp;omega))) ?_);simp only [St.put]
   refine WpL.frzAt 11 hA8.au (by simp [ksh]) rfl fun S9 hl9 ho9=>?_
   have h09:=ho9 0 _ h08 hof
   have hS9:=(List.getElem?_eq_some_iff.1 h09).1
   have hset9:∀(a:Option Ob),(S9.set 0 a)[0]?=some a:=fun a=>List.getElem?_set_self hS9
   (refine WpL.go _ rfl fun Y y=>?_);repeat (first|(apply fw;focus ((with_reducible constructor)<;>constructor))|((first|with_reducible refine ga _ rfl fun Y y=>?_|apply ri);simp only [zb,seval,w89];refine fz y ?_;clear y Y))
   have hle:∀s∈[S9,S9.set 0 (some ⟨31,11,[(aH (ev.e a).1 (ev.e b).1 bT).cc]⟩)],LeS [] s:=fun s _=>LeS.of (SLe.nil s)
   skip
   refine WpA.draw1 12 [11] [] [S9,S9.set 0 (some ⟨31,11,[(aH (ev.e a).1 (ev.e b).1 bT).cc]⟩)] _ _ _ _ rfl rfl rfl (by kernel_rfl) (by kernel_rfl) (by kernel_rfl) (by kernel_rfl) rfl rfl rfl rfl (by decide) fun K8 hK8=>?_
   simp only [zz] at hK8 ⊢
   (refine Draw1.go fun K7 hK7=>?_);simp only [zb,seval,w89,kcc];(refine RunQ.mk (by first|(simp;done)|omega|(simp;omega)) (hK7 _ _ (by rfl) ?_));clear hK7 K7;(simp only [zz,Nat.reduceAdd,Nat.reduceSub]);(try ((refine Draw1.nil hle (hK8 _ ?_));clear hK8 K8;(refine WpL.go _ rfl fun Y y=>?_);repeat (first|(apply fw;focus ((with_reducible constructor)<;>constructor))|((first|with_reducible refine ga _ rfl fun Y y=>?_|apply ri);simp only [zb,seval,w89,kcc];refine fz y ?_;clear y Y))))
   refine Draw1.step (by rfl) (fun s9 _=>oz (hbr)) ?_
   (refine Draw1.go fun K7 hK7=>?_);simp only [zb,seval,w89,kcc];(refine RunQ.mk (by first|(simp;done)|omega|(simp;omega)) (hK7 _ _ (by rfl) ?_));clear hK7 K7;(simp only [zz,Nat.reduceAdd,Nat.reduceSub]);(try ((refine Draw1.nil hle (hK8 _ ?_));clear hK8 K8;(refine WpL.go _ rfl fun Y y=>?_);repeat (first|(apply fw;focus ((with_reducible constructor)<;>constructor))|((first|with_reducible refine ga _ rfl fun Y y=>?_|apply ri);simp only [zb,seval,w89,kcc];refine fz y ?_;clear y Y))))
   refine Draw1.eff 0 rfl rfl rfl (OpS.eff [(4,_),(121,_)] rfl (by rfl) ⟨rfl,rfl,trivial⟩ (by simp only [zb,seval,w89,kcc,h09];rfl) (by first|(simp;done)|omega|(simp;omega))) ?_;(try simp only [bP]);(try ((refine Draw1.go fun K7 hK7=>?_);simp only [zb,seval,w89,kcc,h09];(refine RunQ.mk (by first|(simp;done)|omega|(simp;omega)) (hK7 _ _ (by rfl) ?_));clear hK7 K7;(simp only [zz,Nat.reduceAdd,Nat.reduceSub]);(try ((refine Draw1.nil hle (hK8 _ ?_));clear hK8 K8;(refine WpL.go _ rfl fun Y y=>?_);repeat (first|(apply fw;focus ((with_reducible constructor)<;>constructor))|((first|with_reducible refine ga _ rfl fun Y y=>?_|apply ri);simp only [zb,seval,w89,kcc,h09];refine fz y ?_;clear y Y))))))
   skip
   refine ye (by simp only [zb,seval,w89,kcc,hset9];rfl) (by simp only [zv,kcc,hset9];rfl) ?_
   rfl
  by_cases hn3:l0.length=3
  ·obtain⟨a,b,c,rfl⟩:∃a b c,l0=[a,b,c]:=by match l0,hn3 with|[a,b,c],_=>exact⟨a,b,c,rfl⟩
   have hec:=kB hE [a,b,c] hl
   have hbr:=dV (ev.e a).1 (ev.e b).1 (ev.e c).1
   rw [show cW ev sIf [a,b,c]=(aH (ev.e a).1 (ev.e b).1 (ev.e c).1,(aN ev.e [a,b,c]).2) by unfold cW;(iterate 5 rw [if_neg (by first|decide|(rintro ⟨h,-⟩;exact absurd h (by decide))|(rintro ⟨-,h⟩;simp at h))]);rw [if_pos ⟨rfl,rfl⟩];rfl]
   simp only [rlA] at hec
   rw [show (aN ev.e [a,b,c]).1.map K.cc=[(ev.e a).1.cc,(ev.e b).1.cc,(ev.e c).1.cc] from rfl] at hec
   simp only [rsA]
   refine fi Tryz.func89 Tryz.ntmps89 Tryz.results89 ?_
   repeat (first|(apply fw;focus ((with_reducible constructor)<;>constructor))|((first|with_reducible refine ga _ rfl fun Y y=>?_|(refine ca ?_;apply Exists.intro;constructor;assumption;intro Y y)|apply ri);simp only [zb,seval,w89,kcc,cK,q0,q1,q2,q3,q4,q5,q6,q7,q8];refine fz y ?_;clear y Y))
   have hle:∀s∈[[some ⟨31,11,[[.v (.int .i64 0),.v (.string ⟨#[]⟩),.v (.string ⟨#[]⟩),.v (.slice none 0 0),.v (.int .i64 0),.v (.int .i32 0),.v (.bool false),.v (.slice none 0 0),.v (.string ⟨#[]⟩),.v (.slice none 0 0),.v (.slice none 0 0)]]⟩],[some ⟨31,11,[(aH (ev.e a).1 (ev.e b).1 (ev.e c).1).cc]⟩]],LeS [] s:=fun s _=>LeS.of (SLe.nil s)
   skip
   refine WpA.draw1 12 [11] [] [[some ⟨31,11,[[.v (.int .i64 0),.v (.string ⟨#[]⟩),.v (.string ⟨#[]⟩),.v (.slice none 0 0),.v (.int .i64 0),.v (.int .i32 0),.v (.bool false),.v (.slice none 0 0),.v (.string ⟨#[]⟩),.v (.slice none 0 0),.v (.slice none 0 0)]]⟩],[some ⟨31,11,[(aH (ev.e a).1 (ev.e b).1 (ev.e c).1).cc]⟩]] _ _ _ _ rfl rfl rfl (by kernel_rfl) (by kernel_rfl) (by kernel_rfl) (by kernel_rfl) rfl rfl rfl rfl (by decide) fun K8 hK8=>?_
   simp only [zz] at hK8 ⊢
   (refine Draw1.go fun K7 hK7=>?_);simp only [zb,seval,w89,kcc];(refine RunQ.mk (by first|(simp;done)|omega|(simp;omega)) (hK7 _ _ (by rfl) ?_));clear hK7 K7;(simp only [zz,Nat.reduceAdd,Nat.reduceSub]);(try ((refine Draw1.nil hle (hK8 _ ?_));clear hK8 K8;(refine WpL.go _ rfl fun Y y=>?_);repeat (first|(apply fw;focus ((with_reducible constructor)<;>constructor))|((first|with_reducible refine ga _ rfl fun Y y=>?_|apply ri);simp only [zb,seval,w89,kcc];refine fz y ?_;clear y Y))))
   refine Draw1.step (by rfl) (fun s9 _=>oz (hbr)) ?_
   (refine Draw1.go fun K7 hK7=>?_);simp only [zb,seval,w89,kcc];(refine RunQ.mk (by first|(simp;done)|omega|(simp;omega)) (hK7 _ _ (by rfl) ?_));clear hK7 K7;(simp only [zz,Nat.reduceAdd,Nat.reduceSub]);(try ((refine Draw1.nil hle (hK8 _ ?_));clear hK8 K8;(refine WpL.go _ rfl fun Y y=>?_);repeat (first|(apply fw;focus ((with_reducible constructor)<;>constructor))|((first|with_reducible refine ga _ rfl fun Y y=>?_|apply ri);simp only [zb,seval,w89,kcc];refine fz y ?_;clear y Y))))
   refine Draw1.eff 0 rfl rfl rfl (OpS.eff [(4,_),(121,_)] rfl (by rfl) ⟨rfl,rfl,trivial⟩ (by simp only [zb,seval,w89,kcc];rfl) (by first|(simp;done)|omega|(simp;omega))) ?_;(try simp only [bP]);(try ((refine Draw1.go fun K7 hK7=>?_);simp only [zb,seval,w89,kcc];(refine RunQ.mk (by first|(simp;done)|omega|(simp;omega)) (hK7 _ _ (by rfl) ?_));clear hK7 K7;(simp only [zz,Nat.reduceAdd,Nat.reduceSub]);(try ((refine Draw1.nil hle (hK8 _ ?_));clear hK8 K8;(refine WpL.go _ rfl fun Y y=>?_);repeat (first|(apply fw;focus ((with_reducible constructor)<;>constructor))|((first|with_reducible refine ga _ rfl fun Y y=>?_|apply ri);simp only [zb,seval,w89,kcc];refine fz y ?_;clear y Y))))))
   skip
   refine ye (by simp only [zb,seval,w89,kcc];rfl) (by simp only [zv,kcc];rfl) ?_
   rfl
  ·have m2:((l0.length:Int) == 2)=false:=by simp;omega
   have m3:((l0.length:Int) == 3)=false:=by simp;omega
   rw [show cW ev sIf l0=bI ev sIf l0 by unfold cW;(repeat rw [if_neg (by first|decide|assumption|(rintro ⟨h,-⟩;exact absurd h (by first|decide|assumption))|(rintro ⟨-,h⟩;omega))])]
   simp only [rsA]
   refine fi Tryz.func89 Tryz.ntmps89 Tryz.results89 ?_
   repeat (first|(apply fw;focus ((with_reducible constructor)<;>constructor))|((first|with_reducible refine ga _ rfl fun Y y=>?_|(refine ca ?_;apply Exists.intro;constructor;assumption;intro Y y)|apply ri);simp only [zb,seval,w89,kcc,cK,q0,q1,q2,q3,q4,q5,q6,q7,q8,m2,m3];refine fz y ?_;clear y Y))
   refine ye (by simp only [zb,seval,w89,kcc];rfl) (by simp only [zv,kcc];rfl) ?_
   rfl
 by_cases ksBegin:w=bO
 ·subst ksBegin
  have q0:eqB bO ⟨#[113,117,111,116,101]⟩=false:=aA (by decide)
  have q1:eqB bO ⟨#[113,117,97,115,105,113,117,111,116,101]⟩=false:=aA (by decide)
  have q2:eqB bO ⟨#[108,97,109,98,100,97]⟩=false:=aA (by decide)
  have q3:eqB bO ⟨#[115,101,116,33]⟩=false:=aA (by decide)
  have q4:eqB bO ⟨#[105,102]⟩=false:=aA (by decide)
  have q5:eqB bO ⟨#[98,101,103,105,110]⟩=true:=bB rfl
  have q6:eqB bO ⟨#[99,97,115,101]⟩=false:=aA (by decide)
  have q7:eqB bO ⟨#[119,104,101,110]⟩=false:=aA (by decide)
  have q8:eqB bO ⟨#[117,110,108,101,115,115]⟩=false:=aA (by decide)
  have hc:=fZ hE l0 hl
  rw [show cW ev bO l0=eT ev.e l0 by unfold cW;(repeat rw [if_neg (by first|decide|(rintro ⟨h,-⟩;exact absurd h (by decide))|(rintro ⟨-,h⟩;omega))]);rw [if_pos (by first|exact⟨rfl,by omega⟩|rfl)]]
  simp only [rsA] at hc ⊢
  refine fi Tryz.func89 Tryz.ntmps89 Tryz.results89 ?_
  repeat (first|(apply fw;focus ((with_reducible constructor)<;>constructor))|((first|with_reducible refine ga _ rfl fun Y y=>?_|(refine ca ?_;apply Exists.intro;constructor;assumption;intro Y y)|apply ri);simp only [zb,seval,w89,kcc,cK,q0,q1,q2,q3,q4,q5,q6,q7,q8];refine fz y ?_;clear y Y))
  refine ye (by simp only [zb,seval,w89,kcc];rfl) (by simp only [zv,kcc];rfl) ?_
  rfl
 by_cases ksCase:w=lX
 ·subst ksCase
  have q0:eqB lX ⟨#[113,117,111,116,101]⟩=false:=aA (by decide)
  have q1:eqB lX ⟨#[113,117,97,115,105,113,117,111,116,101]⟩=false:=aA (by decide)
  have q2:eqB lX ⟨#[108,97,109,98,100,97]⟩=false:=aA (by decide)
  have q3:eqB lX ⟨#[115,101,116,33]⟩=false:=aA (by decide)
  have q4:eqB lX ⟨#[105,102]⟩=false:=aA (by decide)
  have q5:eqB lX ⟨#[98,101,103,105,110]⟩=false:=aA (by decide)
  have q6:eqB lX ⟨#[99,97,115,101]⟩=true:=bB rfl
  have q7:eqB lX ⟨#[119,104,101,110]⟩=false:=aA (by decide)
  have q8:eqB lX ⟨#[117,110,108,101,115,115]⟩=false:=aA (by decide)
  match l0,hl with
  | [],hl =>
   have g1:decide ((1:Int)≤((([]:List D).length:Nat):Int))=false:=by decide
   rw [show cW ev lX []=bI ev lX [] from rfl]
   simp only [rsA]
   simp only [List.map_nil] at hde ⊢
   refine fi Tryz.func89 Tryz.ntmps89 Tryz.results89 ?_
   repeat (first|(apply fw;focus ((with_reducible constructor)<;>constructor))|((first|with_reducible refine ga _ rfl fun Y y=>?_|(refine ca ?_;apply Exists.intro;constructor;assumption;intro Y y)|apply ri);simp only [zb,seval,w89,kcc,cK,q0,q1,q2,q3,q4,q5,q6,q7,q8];refine fz y ?_;clear y Y))
   refine ye (by simp only [zb,seval,w89,kcc];rfl) (by simp only [zv,kcc];rfl) ?_
   rfl
  | a::r,hl =>
   obtain⟨l,hlr⟩:∃l,a::r=l:=⟨_,rfl⟩
   obtain⟨c0,ct,cd,cl,cn,c11,c00,c22⟩:=rA a r l hlr
   have g1:decide ((1:Int)≤(l.length:Int))=true:=by simp;omega
   have hle1:(1:Int)≤(l.length:Int):=by omega
   have hch:=zD hE r hl.tail
   have wch:=rB hE r
   rw [show cW ev lX (a::r)=((dS ev a (eW ev r).1).1,max (eW ev r).2 (dS ev a (eW ev r).1).2) by unfold cW;(repeat rw [if_neg (by first|decide|(rintro ⟨h,-⟩;exact absurd h (by decide)))]);rw [if_pos ⟨rfl,by simp⟩];rfl,hlr]
   simp only [rsA] at hch ⊢
   generalize eW ev r=C0 at *
   have hte:=oY hE a C0.1 hl.head
   have wte:=iU hE a C0.1
   simp only [rsA] at hte
   generalize dS ev a C0.1=T0 at *
   have hb:=aD C0.2 T0.2 wch wte
   refine fi Tryz.func89 Tryz.ntmps89 Tryz.results89 ?_
   repeat (first|(apply fw;focus ((with_reducible constructor)<;>constructor))|((first|with_reducible refine ga _ rfl fun Y y=>?_|(refine ca ?_;apply Exists.intro;constructor;assumption;intro Y y)|apply ri);simp only [zb,seval,w89,kcc,cK,q0,q1,q2,q3,q4,q5,q6,q7,q8,g1,ct,cd,cn,c11];refine fz y ?_;clear y Y))
   (refine WpA.draw1c 10 [8,9] [_,?_,?_] _ _ _ _ rfl rfl rfl (by kernel_rfl) (by kernel_rfl) (by kernel_rfl) (by kernel_rfl) rfl rfl rfl rfl (by decide) fun K8 hK8=>?_);rotate_left 2;simp only [zz] at hK8 ⊢;(refine Draw1.go fun K7 k=>?_);simp only [zb,seval,w89,kcc,c0];(refine qz (k _ _ (by rfl) ?_));clear k K7;(simp only [zz,Nat.reduceAdd,Nat.reduceSub])
   refine Draw1.step (by rfl) (fun s9 _=>oz (hte)) ?_
   (refine Draw1.go fun K7 k=>?_);simp only [zb,seval,w89,kcc];(refine qz (k _ _ (by rfl) ?_));clear k K7;(simp only [zz,Nat.reduceAdd,Nat.reduceSub])
   refine Draw1.eff 0 rfl rfl rfl (OpS.eff [] rfl (by rfl) trivial (by simp only [zb,seval,w89,kcc];rfl) (by first|(simp;done)|omega|(simp;omega))) ?_;(try simp only [bP]);(try ((refine Draw1.go fun K7 k=>?_);simp only [zb,seval,w89,kcc];(refine qz (k _ _ (by rfl) ?_));clear k K7;(simp only [zz,Nat.reduceAdd,Nat.reduceSub]);(try ((refine nz (hK8 _ ?_));clear hK8 K8;(refine WpL.go _ rfl fun Y y=>?_);repeat (first|(apply fw;focus ((with_reducible constructor)<;>constructor))|((first|with_reducible refine ga _ rfl fun Y y=>?_|apply ri);simp only [zb,seval,w89,kcc];refine fz y ?_;clear y Y))))))
   refine Draw1.eff 1 rfl rfl rfl (OpS.eff [(15,_),(149,_)] rfl (by rfl) ⟨rfl,rfl,trivial⟩ (by simp only [zb,seval,w89,kcc];rfl) (by first|(simp;done)|omega|(simp;omega))) ?_;(try simp only [bP]);(try ((refine Draw1.go fun K7 k=>?_);simp only [zb,seval,w89,kcc];(refine qz (k _ _ (by rfl) ?_));clear k K7;(simp only [zz,Nat.reduceAdd,Nat.reduceSub]);(try ((refine nz (hK8 _ ?_));clear hK8 K8;(refine WpL.go _ rfl fun Y y=>?_);repeat (first|(apply fw;focus ((with_reducible constructor)<;>constructor))|((first|with_reducible refine ga _ rfl fun Y y=>?_|apply ri);simp only [zb,seval,w89,kcc];refine fz y ?_;clear y Y))))))
   (refine WpA.draw0 4 _ _ _ rfl rfl rfl (by kernel_rfl) (by kernel_rfl) (by kernel_rfl) fun K8 hK8=>?_);simp only [zz] at hK8 ⊢;(refine Draw0.go fun K7 k=>?_);simp only [zb,seval,w89,kcc];(refine qz (k _ _ ?_));clear k K7
   refine Draw0.step (oz (hb)) ?_
   (refine Draw0.go fun K7 k=>?_);simp only [zb,seval,w89,kcc];(refine qz (k _ _ ?_));clear k K7;(try ((refine Draw0.nil (hK8 _ ?_));clear hK8 K8;(refine WpL.go _ rfl fun Y y=>?_);repeat (first|(apply fw;focus ((with_reducible constructor)<;>constructor))|((first|with_reducible refine ga _ rfl fun Y y=>?_|apply ri);simp only [zb,seval,w89,kcc];refine fz y ?_;clear y Y))))
   refine ye (by simp only [zb,seval,w89,kcc];rfl) (by simp only [zv,kcc];rfl) ?_
   rfl
 by_cases ksWhen:w=lY
 ·subst ksWhen
  have q0:eqB lY ⟨#[113,117,111,116,101]⟩=false:=aA (by decide)
  have q1:eqB lY ⟨#[113,117,97,115,105,113,117,111,116,101]⟩=false:=aA (by decide)
  have q2:eqB lY ⟨#[108,97,109,98,100,97]⟩=false:=aA (by decide)
  have q3:eqB lY ⟨#[115,101,116,33]⟩=false:=aA (by decide)
  have q4:eqB lY ⟨#[105,102]⟩=false:=aA (by decide)
  have q5:eqB lY ⟨#[98,101,103,105,110]⟩=false:=aA (by decide)
  have q6:eqB lY ⟨#[99,97,115,101]⟩=false:=aA (by decide)
  have q7:eqB lY ⟨#[119,104,101,110]⟩=true:=bB rfl
  have q8:eqB lY ⟨#[117,110,108,101,115,115]⟩=false:=aA (by decide)
  by_cases hn:l0.length<2
  ·have g2:decide ((2:Int)≤(l0.length:Int))=false:=by simp;omega
   rw [show cW ev lY l0=bI ev lY l0 by unfold cW;(repeat rw [if_neg (by first|decide|assumption|(rintro ⟨h,-⟩;exact absurd h (by first|decide|assumption))|(rintro ⟨-,h⟩;omega))])]
   simp only [rsA]
   refine fi Tryz.func89 Tryz.ntmps89 Tryz.results89 ?_
   repeat (first|(apply fw;focus ((with_reducible constructor)<;>constructor))|((first|with_reducible refine ga _ rfl fun Y y=>?_|(refine ca ?_;apply Exists.intro;constructor;assumption;intro Y y)|apply ri);simp only [zb,seval,w89,kcc,cK,q0,q1,q2,q3,q4,q5,q6,q7,q8,g2];refine fz y ?_;clear y Y))
   refine ye (by simp only [zb,seval,w89,kcc];rfl) (by simp only [zv,kcc];rfl) ?_
   rfl
  ·obtain⟨a,r,hlr⟩:∃a r,a::r=l0:=by
    match l0,hn with
    | [],h=>exact absurd (by simp) h
    | a::r,_=>exact⟨a,r,rfl⟩
   obtain⟨c0,ct,cd,cl,cn,c11,c00,c22⟩:=rA a r l0 hlr
   have g2:decide ((2:Int)≤(l0.length:Int))=true:=by simp;omega
   have hle1:(1:Int)≤(l0.length:Int):=by omega
   have ha:Gd n a:=(hlr▸hl:Gds n (a::r)).head
   have hr:Gds n r:=(hlr▸hl:Gds n (a::r)).tail
   have hx:=hE.e a ha
   have hs:=fZ hE r hr
   have hb:=aD (ev.e a).2 (eT ev.e r).2 (hE.e2 _) (kP hE r)
   have hno:=gT
   rw [show cW ev lY l0=(aH (ev.e a).1 (eT ev.e r).1 bT,max (ev.e a).2 (eT ev.e r).2) by rw [←hlr];unfold cW;(repeat rw [if_neg (by first|decide|(rintro ⟨h,-⟩;exact absurd h (by decide)))]);rw [if_pos ⟨rfl,by rw [hlr];omega⟩];rfl]
   simp only [rsA] at hx hs ⊢
   generalize ev.e a=X at *
   generalize eT ev.e r=Y at *
   have hbr:=dV X.1 Y.1 bT
   refine fi Tryz.func89 Tryz.ntmps89 Tryz.results89 ?_
   repeat (first|(apply fw;focus ((with_reducible constructor)<;>constructor))|((first|with_reducible refine ga _ rfl fun Y y=>?_|(refine ca ?_;apply Exists.intro;constructor;assumption;intro Y y)|apply ri);simp only [zb,seval,w89,kcc,cK,q0,q1,q2,q3,q4,q5,q6,q7,q8,g2,c0,ct,cd,cn,c11];refine fz y ?_;clear y Y))
   refine WpA.frzP 17 1 rfl rfl (K.cc_shut _) ?_
   simp only [zz]
   refine WpA.frzP 19 2 rfl rfl (K.cc_shut _) ?_
   simp only [zz]
   have hle:∀s∈[[some ⟨31,11,[[.v (.int .i64 0),.v (.string ⟨#[]⟩),.v (.string ⟨#[]⟩),.v (.slice none 0 0),.v (.int .i64 0),.v (.int .i32 0),.v (.bool false),.v (.slice none 0 0),.v (.string ⟨#[]⟩),.v (.slice none 0 0),.v (.slice none 0 0)]]⟩,none,none],[some ⟨31,11,[(aH X.1 Y.1 bT).cc]⟩,none,none]],LeS [] s:=fun s _=>LeS.of (SLe.nil s)
   skip
   refine WpA.draw1 6 [5] [] [[some ⟨31,11,[[.v (.int .i64 0),.v (.string ⟨#[]⟩),.v (.string ⟨#[]⟩),.v (.slice none 0 0),.v (.int .i64 0),.v (.int .i32 0),.v (.bool false),.v (.slice none 0 0),.v (.string ⟨#[]⟩),.v (.slice none 0 0),.v (.slice none 0 0)]]⟩,none,none],[some ⟨31,11,[(aH X.1 Y.1 bT).cc]⟩,none,none]] _ _ _ _ rfl rfl rfl (by kernel_rfl) (by kernel_rfl) (by kernel_rfl) (by kernel_rfl) rfl rfl rfl rfl (by decide) fun K8 hK8=>?_
   simp only [zz] at hK8 ⊢
   (refine Draw1.go fun K7 hK7=>?_);simp only [zb,seval,w89,kcc];(refine RunQ.mk (by first|(simp;done)|omega|(simp;omega)) (hK7 _ _ (by rfl) ?_));clear hK7 K7;(simp only [zz,Nat.reduceAdd,Nat.reduceSub]);(try ((refine Draw1.nil hle (hK8 _ ?_));clear hK8 K8;(refine WpL.go _ rfl fun Y y=>?_);repeat (first|(apply fw;focus ((with_reducible constructor)<;>constructor))|((first|with_reducible refine ga _ rfl fun Y y=>?_|apply ri);simp only [zb,seval,w89,kcc];refine fz y ?_;clear y Y))))
   refine Draw1.step (by rfl) (fun s9 _=>oz (hno)) ?_
   (refine Draw1.go fun K7 hK7=>?_);simp only [zb,seval,w89,kcc];(refine RunQ.mk (by first|(simp;done)|omega|(simp;omega)) (hK7 _ _ (by rfl) ?_));clear hK7 K7;(simp only [zz,Nat.reduceAdd,Nat.reduceSub]);(try ((refine Draw1.nil hle (hK8 _ ?_));clear hK8 K8;(refine WpL.go _ rfl fun Y y=>?_);repeat (first|(apply fw;focus ((with_reducible constructor)<;>constructor))|((first|with_reducible refine ga _ rfl fun Y y=>?_|apply ri);simp only [zb,seval,w89,kcc];refine fz y ?_;clear y Y))))
   refine Draw1.step (by rfl) (fun s9 _=>oz (hbr)) ?_
   (refine Draw1.go fun K7 hK7=>?_);simp only [zb,seval,w89,kcc];(refine RunQ.mk (by first|(simp;done)|omega|(simp;omega)) (hK7 _ _ (by rfl) ?_));clear hK7 K7;(simp only [zz,Nat.reduceAdd,Nat.reduceSub]);(try ((refine Draw1.nil hle (hK8 _ ?_));clear hK8 K8;(refine WpL.go _ rfl fun Y y=>?_);repeat (first|(apply fw;focus ((with_reducible constructor)<;>constructor))|((first|with_reducible refine ga _ rfl fun Y y=>?_|apply ri);simp only [zb,seval,w89,kcc];refine fz y ?_;clear y Y))))
   refine Draw1.eff 0 rfl rfl rfl (OpS.eff [(4,_),(187,_)] rfl (by rfl) ⟨rfl,rfl,trivial⟩ (by simp only [zb,seval,w89,kcc];rfl) (by first|(simp;done)|omega|(simp;omega))) ?_;(try simp only [bP]);(try ((refine Draw1.go fun K7 hK7=>?_);simp only [zb,seval,w89,kcc];(refine RunQ.mk (by first|(simp;done)|omega|(simp;omega)) (hK7 _ _ (by rfl) ?_));clear hK7 K7;(simp only [zz,Nat.reduceAdd,Nat.reduceSub]);(try ((refine Draw1.nil hle (hK8 _ ?_));clear hK8 K8;(refine WpL.go _ rfl fun Y y=>?_);repeat (first|(apply fw;focus ((with_reducible constructor)<;>constructor))|((first|with_reducible refine ga _ rfl fun Y y=>?_|apply ri);simp only [zb,seval,w89,kcc];refine fz y ?_;clear y Y))))))
   skip
   refine ye (by simp only [zb,seval,w89,kcc];rfl) (by simp only [zv,kcc];rfl) ?_
   rfl
 by_cases ksUnless:w=fV
 ·subst ksUnless
  have q0:eqB fV ⟨#[113,117,111,116,101]⟩=false:=aA (by decide)
  have q1:eqB fV ⟨#[113,117,97,115,105,113,117,111,116,101]⟩=false:=aA (by decide)
  have q2:eqB fV ⟨#[108,97,109,98,100,97]⟩=false:=aA (by decide)
  have q3:eqB fV ⟨#[115,101,116,33]⟩=false:=aA (by decide)
  have q4:eqB fV ⟨#[105,102]⟩=false:=aA (by decide)
  have q5:eqB fV ⟨#[98,101,103,105,110]⟩=false:=aA (by decide)
  have q6:eqB fV ⟨#[99,97,115,101]⟩=false:=aA (by decide)
  have q7:eqB fV ⟨#[119,104,101,110]⟩=false:=aA (by decide)
  have q8:eqB fV ⟨#[117,110,108,101,115,115]⟩=true:=bB rfl
  by_cases hn:l0.length<2
  ·have g2:decide ((2:Int)≤(l0.length:Int))=false:=by simp;omega
   rw [show cW ev fV l0=bI ev fV l0 by unfold cW;(repeat rw [if_neg (by first|decide|assumption|(rintro ⟨h,-⟩;exact absurd h (by first|decide|assumption))|(rintro ⟨-,h⟩;omega))])]
   simp only [rsA]
   refine fi Tryz.func89 Tryz.ntmps89 Tryz.results89 ?_
   repeat (first|(apply fw;focus ((with_reducible constructor)<;>constructor))|((first|with_reducible refine ga _ rfl fun Y y=>?_|(refine ca ?_;apply Exists.intro;constructor;assumption;intro Y y)|apply ri);simp only [zb,seval,w89,kcc,cK,q0,q1,q2,q3,q4,q5,q6,q7,q8,g2];refine fz y ?_;clear y Y))
   refine ye (by simp only [zb,seval,w89,kcc];rfl) (by simp only [zv,kcc];rfl) ?_
   rfl
  ·obtain⟨a,r,hlr⟩:∃a r,a::r=l0:=by
    match l0,hn with
    | [],h=>exact absurd (by simp) h
    | a::r,_=>exact⟨a,r,rfl⟩
   obtain⟨c0,ct,cd,cl,cn,c11,c00,c22⟩:=rA a r l0 hlr
   have g2:decide ((2:Int)≤(l0.length:Int))=true:=by simp;omega
   have hle1:(1:Int)≤(l0.length:Int):=by omega
   have ha:Gd n a:=(hlr▸hl:Gds n (a::r)).head
   have hr:Gds n r:=(hlr▸hl:Gds n (a::r)).tail
   have hx:=hE.e a ha
   have hs:=fZ hE r hr
   have hb:=aD (ev.e a).2 (eT ev.e r).2 (hE.e2 _) (kP hE r)
   have hno:=gT
   rw [show cW ev fV l0=(aH (ev.e a).1 bT (eT ev.e r).1,max (ev.e a).2 (eT ev.e r).2) by rw [←hlr];unfold cW;(repeat rw [if_neg (by first|decide|(rintro ⟨h,-⟩;exact absurd h (by decide)))]);rw [if_pos ⟨rfl,by rw [hlr];omega⟩];rfl]
   simp only [rsA] at hx hs ⊢
   generalize ev.e a=X at *
   generalize eT ev.e r=Y at *
   have hbr:=dV X.1 bT Y.1
   refine fi Tryz.func89 Tryz.ntmps89 Tryz.results89 ?_
   repeat (first|(apply fw;focus ((with_reducible constructor)<;>constructor))|((first|with_reducible refine ga _ rfl fun Y y=>?_|(refine ca ?_;apply Exists.intro;constructor;assumption;intro Y y)|apply ri);simp only [zb,seval,w89,kcc,cK,q0,q1,q2,q3,q4,q5,q6,q7,q8,g2,c0,ct,cd,cn,c11];refine fz y ?_;clear y Y))
   refine WpA.frzP 17 1 rfl rfl (K.cc_shut _) ?_
   simp only [zz]
   refine WpA.frzP 19 2 rfl rfl (K.cc_shut _) ?_
   simp only [zz]
   have hle:∀s∈[[some ⟨31,11,[[.v (.int .i64 0),.v (.string ⟨#[]⟩),.v (.string ⟨#[]⟩),.v (.slice none 0 0),.v (.int .i64 0),.v (.int .i32 0),.v (.bool false),.v (.slice none 0 0),.v (.string ⟨#[]⟩),.v (.slice none 0 0),.v (.slice none 0 0)]]⟩,none,none],[some ⟨31,11,[(aH X.1 bT Y.1).cc]⟩,none,none]],LeS [] s:=fun s _=>LeS.of (SLe.nil s)
   skip
   refine WpA.draw1 6 [5] [] [[some ⟨31,11,[[.v (.int .i64 0),.v (.string ⟨#[]⟩),.v (.string ⟨#[]⟩),.v (.slice none 0 0),.v (.int .i64 0),.v (.int .i32 0),.v (.bool false),.v (.slice none 0 0),.v (.string ⟨#[]⟩),.v (.slice none 0 0),.v (.slice none 0 0)]]⟩,none,none],[some ⟨31,11,[(aH X.1 bT Y.1).cc]⟩,none,none]] _ _ _ _ rfl rfl rfl (by kernel_rfl) (by kernel_rfl) (by kernel_rfl) (by kernel_rfl) rfl rfl rfl rfl (by decide) fun K8 hK8=>?_
   simp only [zz] at hK8 ⊢
   (refine Draw1.go fun K7 hK7=>?_);simp only [zb,seval,w89,kcc];(refine RunQ.mk (by first|(simp;done)|omega|(simp;omega)) (hK7 _ _ (by rfl) ?_));clear hK7 K7;(simp only [zz,Nat.reduceAdd,Nat.reduceSub]);(try ((refine Draw1.nil hle (hK8 _ ?_));clear hK8 K8;(refine WpL.go _ rfl fun Y y=>?_);repeat (first|(apply fw;focus ((with_reducible constructor)<;>constructor))|((first|with_reducible refine ga _ rfl fun Y y=>?_|apply ri);simp only [zb,seval,w89,kcc];refine fz y ?_;clear y Y))))
   refine Draw1.step (by rfl) (fun s9 _=>oz (hno)) ?_
   (refine Draw1.go fun K7 hK7=>?_);simp only [zb,seval,w89,kcc];(refine RunQ.mk (by first|(simp;done)|omega|(simp;omega)) (hK7 _ _ (by rfl) ?_));clear hK7 K7;(simp only [zz,Nat.reduceAdd,Nat.reduceSub]);(try ((refine Draw1.nil hle (hK8 _ ?_));clear hK8 K8;(refine WpL.go _ rfl fun Y y=>?_);repeat (first|(apply fw;focus ((with_reducible constructor)<;>constructor))|((first|with_reducible refine ga _ rfl fun Y y=>?_|apply ri);simp only [zb,seval,w89,kcc];refine fz y ?_;clear y Y))))
   refine Draw1.step (by rfl) (fun s9 _=>oz (hbr)) ?_
   (refine Draw1.go fun K7 hK7=>?_);simp only [zb,seval,w89,kcc];(refine RunQ.mk (by first|(simp;done)|omega|(simp;omega)) (hK7 _ _ (by rfl) ?_));clear hK7 K7;(simp only [zz,Nat.reduceAdd,Nat.reduceSub]);(try ((refine Draw1.nil hle (hK8 _ ?_));clear hK8 K8;(refine WpL.go _ rfl fun Y y=>?_);repeat (first|(apply fw;focus ((with_reducible constructor)<;>constructor))|((first|with_reducible refine ga _ rfl fun Y y=>?_|apply ri);simp only [zb,seval,w89,kcc];refine fz y ?_;clear y Y))))
   refine Draw1.eff 0 rfl rfl rfl (OpS.eff [(4,_),(192,_)] rfl (by rfl) ⟨rfl,rfl,trivial⟩ (by simp only [zb,seval,w89,kcc];rfl) (by first|(simp;done)|omega|(simp;omega))) ?_;(try simp only [bP]);(try ((refine Draw1.go fun K7 hK7=>?_);simp only [zb,seval,w89,kcc];(refine RunQ.mk (by first|(simp;done)|omega|(simp;omega)) (hK7 _ _ (by rfl) ?_));clear hK7 K7;(simp only [zz,Nat.reduceAdd,Nat.reduceSub]);(try ((refine Draw1.nil hle (hK8 _ ?_));clear hK8 K8;(refine WpL.go _ rfl fun Y y=>?_);repeat (first|(apply fw;focus ((with_reducible constructor)<;>constructor))|((first|with_reducible refine ga _ rfl fun Y y=>?_|apply ri);simp only [zb,seval,w89,kcc];refine fz y ?_;clear y Y))))))
   skip
   refine ye (by simp only [zb,seval,w89,kcc];rfl) (by simp only [zv,kcc];rfl) ?_
   rfl
 have q0:eqB w ⟨#[113,117,111,116,101]⟩=false:=aA ksQuote
 have q1:eqB w ⟨#[113,117,97,115,105,113,117,111,116,101]⟩=false:=aA ksQuasi
 have q2:eqB w ⟨#[108,97,109,98,100,97]⟩=false:=aA ksLambda
 have q3:eqB w ⟨#[115,101,116,33]⟩=false:=aA ksSet
 have q4:eqB w ⟨#[105,102]⟩=false:=aA ksIf
 have q5:eqB w ⟨#[98,101,103,105,110]⟩=false:=aA ksBegin
 have q6:eqB w ⟨#[99,97,115,101]⟩=false:=aA ksCase
 have q7:eqB w ⟨#[119,104,101,110]⟩=false:=aA ksWhen
 have q8:eqB w ⟨#[117,110,108,101,115,115]⟩=false:=aA ksUnless
 rw [show cW ev w l0=bI ev w l0 by unfold cW;(repeat rw [if_neg (by first|decide|assumption|(rintro ⟨h,-⟩;exact absurd h (by first|decide|assumption))|(rintro ⟨-,h⟩;omega))])]
 simp only [rsA]
 refine fi Tryz.func89 Tryz.ntmps89 Tryz.results89 ?_
 repeat (first|(apply fw;focus ((with_reducible constructor)<;>constructor))|((first|with_reducible refine ga _ rfl fun Y y=>?_|(refine ca ?_;apply Exists.intro;constructor;assumption;intro Y y)|apply ri);simp only [zb,seval,w89,kcc,cK,q0,q1,q2,q3,q4,q5,q6,q7,q8,kcc];refine fz y ?_;clear y Y))
 refine ye (by simp only [zb,seval,w89,kcc];rfl) (by simp only [zv,kcc];rfl) ?_
 rfl
theorem TT {n:Nat} {ev:Ev} (hE:HE n ev) (w:ByteArray) (l:List D):(cW ev w l).2≤2:=by
 unfold cW
 repeat' split
 ·exact Nat.zero_le _
 ·exact hE.q2 _ _
 ·exact sR hE _ _
 ·exact Nat.max_le.2 ⟨eO _,hE.e2 _⟩
 ·exact eI hE l
 ·exact eI hE l
 ·exact kP hE l
 ·match l with
  | []=>exact Nat.le_refl _
  | a::r =>
   have w1:=rB hE r
   have w2:=iU hE a (eW ev r).1
   unfold zA;dsimp only;omega
 ·exact Nat.max_le.2 ⟨hE.e2 _,kP hE _⟩
 ·exact Nat.max_le.2 ⟨hE.e2 _,kP hE _⟩
 ·exact KH hE w l
end Go.Proofs.YtaeioidifpebdaaGreatDoor
end
section
namespace Go.Proofs.YtaeioidifpebdaaGreatDoor
open Go Go.RowKit Go.Lib
set_option linter.unusedSimpArgs false
set_option linter.unusedVariables false
set_option maxHeartbeats 4000000
set_option maxRecDepth 100000
theorem TU {n:Nat} {ev:Ev} (hE:HE n ev) (d:D):(dT ev d).2≤2:=by
 unfold dT
 repeat' split
 ·exact Nat.le_refl _
 ·exact eO d
 ·exact Nat.le_refl _
 ·exact TT hE _ _
 ·exact Nat.max_le.2 ⟨eI hE _,fC _⟩
 ·exact Nat.le_refl _
 ·exact Nat.zero_le _
theorem QS {n:Nat} {ev:Ev} (hE:HE n ev) (d:D) (hd:Gd (n+1) d):Pure Tryz.prog 57 [.agg d.cc] (rsA (dT ev d)):=by
 have hbig:=hE.big
 have hw:Pure Tryz.prog 84 [.one (.v (.string ⟨#[101,109,112,116,121,32,108,105,115,116]⟩)),.one (.gv 1)] (.one (.er 2)):=dD _ 1
 have hv:=kO d
 have hit:=fX d hd.2.1 (by have:=hd.items.len;omega)
 have hcn:=iR d hd.2.1
 rw [D.cc_eq d] at hv hit hcn ⊢
 by_cases h0:d.k=0
 ·have q0:(d.k == 0)=true:=by simp [h0]
  rw [show dT ev d=(kz,2) from if_pos h0]
  refine fi Tryz.func57 Tryz.ntmps57 Tryz.results57 ?_
  repeat (first|(apply fw;focus ((with_reducible constructor)<;>constructor))|((first|with_reducible refine ga _ rfl fun Y y=>?_|(refine ca ?_;apply Exists.intro;constructor;assumption;intro Y y)|apply ri);simp only [zb,seval,w57,kcc,q0];refine fz y ?_;clear y Y))
  refine yl (by simp only [zb,seval,w57,kcc,rsA];rfl) (by simp only [zv,kcc,rsA];rfl) ((by simp only [rcc,rsA];exact ae)) rfl
 have q0:(d.k == 0)=false:=by simp [h0]
 by_cases h6:d.k=6
 ·have q6:(d.k == 6)=true:=by simp [h6]
  have hrf:=pQ (bJ d).1
  rw [show dT ev d=(bM (bJ d).1,(bJ d).2) by unfold dT;rw [if_neg h0,if_pos h6]]
  refine fi Tryz.func57 Tryz.ntmps57 Tryz.results57 ?_
  repeat (first|(apply fw;focus ((with_reducible constructor)<;>constructor))|((first|with_reducible refine ga _ rfl fun Y y=>?_|(refine ca ?_;apply Exists.intro;constructor;assumption;intro Y y)|apply ri);simp only [zb,seval,w57,kcc,q0,q6];refine fz y ?_;clear y Y))
  refine ye (by simp only [zb,seval,w57,kcc];rfl) (by simp only [zv,kcc];rfl) ?_
  rfl
 have q6:(d.k == 6)=false:=by simp [h6]
 by_cases h7:d.k=7
 ·have q7:(d.k == 7)=true:=by simp [h7]
  obtain⟨hl,hf,hs,hm⟩:=hd.pair h7
  have hip:=(CG h7 hl).1
  by_cases he:gE d=0
  ·have hit':=hit
   rw [show aP d=(items d,0) from if_pos he] at hit'
   have hgi:Gds n (items d):=by
    have:=BS h7
    have:=hd.2.2
    exact⟨(kM d hd.1 hd.2.1).1,(kM d hd.1 hd.2.1).2,by omega⟩
   rw [show dT ev d=(match items d with
    | []=>(kz,2)
    | a::r=>if a.k=6∧mM a.t=true then cW ev a.t r else
     let x:=dF (aN ev.e (a::r)).1
     (x.1,max (aN ev.e (a::r)).2 x.2)) by unfold dT;rw [if_neg h0,if_neg h6,if_pos h7,if_pos he];rfl]
   rw [hip] at hgi hit' ⊢
   generalize d.fst=a at *
   generalize items d.snd=r at *
   dsimp only
   obtain⟨l,hlr⟩:∃l,a::r=l:=⟨_,rfl⟩
   obtain⟨g0,gt,gd,gl,gn,g11,g00,g22⟩:=rA a r l hlr
   have hgt:decide ((0:Int)<(l.length:Int))=true:=by simp;omega
   have hle1:(1:Int)≤(l.length:Int):=by omega
   have hky:=sP a.t
   have hec:=kB hE (a::r) hgi
   have hcl:=fL (aN ev.e (a::r)).1
   have hb:=aD (aN ev.e (a::r)).2 (dF (aN ev.e (a::r)).1).2 (eI hE _) (fC _)
   simp only [rlA] at hec
   simp only [rsA] at hcl
   have g0':=g0
   rw [D.cc_eq a] at g0'
   by_cases ha:a.k=6
   ·have qa:(a.k == 6)=true:=by simp [ha]
    cases hk:mM a.t with
    | true =>
     have hfm:=QR hE a.t r hgi.tail
     rw [hk] at hky
     rw [if_pos ⟨ha,rfl⟩]
     simp only [rsA] at hfm ⊢
     rw [hlr] at hit'
     refine fi Tryz.func57 Tryz.ntmps57 Tryz.results57 ?_
     repeat (first|(apply fw;focus ((with_reducible constructor)<;>constructor))|((first|with_reducible refine ga _ rfl fun Y y=>?_|(refine ca ?_;apply Exists.intro;constructor;assumption;intro Y y)|apply ri);simp only [zb,seval,w57,kcc,q0,q6,q7,g0',qa];refine fz y ?_;clear y Y))
     (refine WpA.draw0 9 _ _ _ rfl rfl rfl (by kernel_rfl) (by kernel_rfl) (by kernel_rfl) fun K8 hK8=>?_);simp only [zz] at hK8 ⊢;(refine Draw0.go fun K7 k=>?_);simp only [zb,seval,w57,kcc,g0',gt,gd,gn,g11,hle1];(refine qz (k _ _ ?_));clear k K7
     refine Draw0.step (oz (hfm)) ?_
     (refine Draw0.go fun K7 k=>?_);simp only [zb,seval,w57,kcc];(refine qz (k _ _ ?_));clear k K7;(try ((refine Draw0.nil (hK8 _ ?_));clear hK8 K8;(refine WpL.go _ rfl fun Y y=>?_);repeat (first|(apply fw;focus ((with_reducible constructor)<;>constructor))|((first|with_reducible refine ga _ rfl fun Y y=>?_|apply ri);simp only [zb,seval,w57,kcc];refine fz y ?_;clear y Y))))
     refine ye (by simp only [zb,seval,w57,kcc];rfl) (by simp only [zv,kcc];rfl) ?_
     rfl
    | false =>
     rw [hk] at hky
     rw [if_neg (by simp)]
     simp only [rsA]
     rw [hlr] at hit' hec hcl hb ⊢
     refine fi Tryz.func57 Tryz.ntmps57 Tryz.results57 ?_
     repeat (first|(apply fw;focus ((with_reducible constructor)<;>constructor))|((first|with_reducible refine ga _ rfl fun Y y=>?_|(refine ca ?_;apply Exists.intro;constructor;assumption;intro Y y)|apply ri);simp only [zb,seval,w57,kcc,q0,q6,q7,g0',qa];refine fz y ?_;clear y Y))
     (refine WpA.draw0 4 _ _ _ rfl rfl rfl (by kernel_rfl) (by kernel_rfl) (by kernel_rfl) fun K8 hK8=>?_);simp only [zz] at hK8 ⊢;(refine Draw0.go fun K7 k=>?_);simp only [zb,seval,w57,kcc];(refine qz (k _ _ ?_));clear k K7
     refine Draw0.step (oz (hb)) ?_
     (refine Draw0.go fun K7 k=>?_);simp only [zb,seval,w57,kcc];(refine qz (k _ _ ?_));clear k K7;(try ((refine Draw0.nil (hK8 _ ?_));clear hK8 K8;(refine WpL.go _ rfl fun Y y=>?_);repeat (first|(apply fw;focus ((with_reducible constructor)<;>constructor))|((first|with_reducible refine ga _ rfl fun Y y=>?_|apply ri);simp only [zb,seval,w57,kcc];refine fz y ?_;clear y Y))))
     refine ye (by simp only [zb,seval,w57,kcc];rfl) (by simp only [zv,kcc];rfl) ?_
     rfl
   ·have qa:(a.k == 6)=false:=by simp [ha]
    rw [if_neg (fun h=>ha h.1)]
    simp only [rsA]
    rw [hlr] at hit' hec hcl hb ⊢
    refine fi Tryz.func57 Tryz.ntmps57 Tryz.results57 ?_
    repeat (first|(apply fw;focus ((with_reducible constructor)<;>constructor))|((first|with_reducible refine ga _ rfl fun Y y=>?_|(refine ca ?_;apply Exists.intro;constructor;assumption;intro Y y)|apply ri);simp only [zb,seval,w57,kcc,q0,q6,q7,g0',qa];refine fz y ?_;clear y Y))
    (refine WpA.draw0 4 _ _ _ rfl rfl rfl (by kernel_rfl) (by kernel_rfl) (by kernel_rfl) fun K8 hK8=>?_);simp only [zz] at hK8 ⊢;(refine Draw0.go fun K7 k=>?_);simp only [zb,seval,w57,kcc];(refine qz (k _ _ ?_));clear k K7
    refine Draw0.step (oz (hb)) ?_
    (refine Draw0.go fun K7 k=>?_);simp only [zb,seval,w57,kcc];(refine qz (k _ _ ?_));clear k K7;(try ((refine Draw0.nil (hK8 _ ?_));clear hK8 K8;(refine WpL.go _ rfl fun Y y=>?_);repeat (first|(apply fw;focus ((with_reducible constructor)<;>constructor))|((first|with_reducible refine ga _ rfl fun Y y=>?_|apply ri);simp only [zb,seval,w57,kcc];refine fz y ?_;clear y Y))))
    refine ye (by simp only [zb,seval,w57,kcc];rfl) (by simp only [zv,kcc];rfl) ?_
    rfl
  ·rw [show aP d=([],2) from if_neg he] at hit
   rw [show dT ev d=(kz,2) by unfold dT;rw [if_neg h0,if_neg h6,if_pos h7,if_neg he]]
   refine fi Tryz.func57 Tryz.ntmps57 Tryz.results57 ?_
   repeat (first|(apply fw;focus ((with_reducible constructor)<;>constructor))|((first|with_reducible refine ga _ rfl fun Y y=>?_|(refine ca ?_;apply Exists.intro;constructor;assumption;intro Y y)|apply ri);simp only [zb,seval,w57,kcc,q0,q6,q7];refine fz y ?_;clear y Y))
   refine yl (by simp only [zb,seval,w57,kcc,rsA];rfl) (by simp only [zv,kcc,rsA];rfl) ((by simp only [rcc,rsA];exact ae)) rfl
 ·have q7:(d.k == 7)=false:=by simp [h7]
  rw [show dT ev d=(dW d,0) by unfold dT;rw [if_neg h0,if_neg h6,if_neg h7]]
  simp only [rsA]
  refine fi Tryz.func57 Tryz.ntmps57 Tryz.results57 ?_
  repeat (first|(apply fw;focus ((with_reducible constructor)<;>constructor))|((first|with_reducible refine ga _ rfl fun Y y=>?_|(refine ca ?_;apply Exists.intro;constructor;assumption;intro Y y)|apply ri);simp only [zb,seval,w57,kcc,q0,q6,q7];refine fz y ?_;clear y Y))
  refine ye (by simp only [zb,seval,w57,kcc];rfl) (by simp only [zv,kcc];rfl) ?_
  rfl
theorem MU:∀n:Nat,n≤100000000→HE n (evs n)
 | 0,_=>⟨fun d h=>absurd h.2.2 (Nat.not_lt_zero _),fun l h=>absurd h.2.2 (Nat.not_lt_zero _),fun d k h=>absurd h.2.2 (Nat.not_lt_zero _),fun d=>Nat.zero_le _,fun l=>Nat.zero_le _,fun d k=>Nat.zero_le _,Nat.zero_le _⟩
 | n+1,hn=>by
  have h:=MU n (by omega)
  have e1:∀d,Gd (n+1) d→Pure Tryz.prog 57 [.agg d.cc] (rsA (dT (evs n) d)):=fun d hd=>QS h d hd
  have e2:∀d,(dT (evs n) d).2≤2:=TU h
  have hm:HE n ⟨dT (evs n),(evs n).b,(evs n).q⟩:=⟨fun d hd=>e1 d (hd.le (by omega)),h.b,h.q,e2,h.b2,h.q2,h.big⟩
  exact⟨e1,fun l hl=>KE hm e1 hn l hl,fun d k hd h1 hk=>MO hm d k hd h1 hk,e2,fun l=>VP hm l,fun d k=>QO hm d k,hn⟩
end Go.Proofs.YtaeioidifpebdaaGreatDoor
end
