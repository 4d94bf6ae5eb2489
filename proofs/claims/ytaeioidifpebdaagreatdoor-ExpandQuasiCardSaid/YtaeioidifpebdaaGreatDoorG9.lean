/-
 Laid together: Wo18, Wp18, Wq18.
-/
import Derived.Test.YtaeioidifpebdaaGreatDoorG8
section
namespace Go.Proofs.YtaeioidifpebdaaGreatDoor
open Go Go.RowKit Go.Lib
set_option linter.unusedSimpArgs false
set_option linter.unusedVariables false
set_option maxHeartbeats 8000000
set_option maxRecDepth 100000
def tT (l:List D):List (D × D × D):=l.filterMap nA
noncomputable def tN (l:List D):List ByteArray:=(tT l).map fun t=>(bR t.1).1
noncomputable def tE (l:List D):Nat:=iX ((tT l).map fun t=>(bR t.1).2)
def tI (l:List D):List D:=(tT l).map fun t=>t.2.1
def tS (l:List D):List D:=(tT l).map fun t=>t.2.2
theorem EU {l:List D} {d:D} {t:D × D × D} (h:nA d=some t):tT (l++[d])=tT l++[t]:=by simp [tT,h]
theorem WD (l:List D):(tT l).length≤l.length:=List.length_filterMap_le _ _
theorem VK (l:List D):tE l≤2:=nV fun x hx=>by
 obtain⟨d,_,rfl⟩:=List.mem_map.1 hx
 exact eU _
theorem AY {d:D} {t:D × D × D} (h:nA d=some t):fS d=0∧(items d=[t.1,t.2.1]∧t.2.2=t.1∨items d=[t.1,t.2.1,t.2.2]):=by
 unfold nA at h
 split at h
 ·rename_i he
  refine⟨he,?_⟩
  split at h
  ·rename_i hh;cases h;exact .inl ⟨hh,rfl⟩
  ·rename_i hh;cases h;exact .inr hh
  ·cases h
 ·cases h
theorem KV {d:D} (h:nA d=none):fS d≠0∨(fS d=0∧((items d).length<2∨3<(items d).length)):=by
 unfold nA at h
 split at h
 ·rename_i he
  refine .inr ⟨he,?_⟩
  match hh:items d with
  | []=>exact .inl (by simp)
  | [_]=>exact .inl (by simp)
  | [_,_]=>rw [hh] at h;simp at h
  | [_,_,_]=>rw [hh] at h;simp at h
  | _::_::_::_::_=>exact .inr (by simp)
 ·rename_i he;exact .inl he
theorem SB {n:Nat} {d:D} {t:D × D × D} (hd:Gd n d) (h:nA d=some t):Gd n t.1∧Gd n t.2.1∧Gd n t.2.2∧t.2.1.msr≤d.msr∧t.2.2.msr≤d.msr:=by
 obtain⟨-,h2⟩:=AY h
 have hi:=hd.items
 have hm:=mI d
 rcases h2 with ⟨h2,h3⟩|h2
 ·rw [h2] at hi hm
  simp only [cK] at hm
  rw [h3]
  exact⟨hi.head,hi.tail.head,hi.head,by omega,by omega⟩
 ·rw [h2] at hi hm
  simp only [cK] at hm
  exact⟨hi.head,hi.tail.head,hi.tail.tail.head,by omega,by omega⟩
theorem yM {n:Nat}:∀{l:List D},Gds n l→(Gds n (tI l)∧Gds n (tS l))∧cK (tI l)≤cK l∧cK (tS l)≤cK l
 | [],h=>⟨⟨h,h⟩,Nat.le_refl _,Nat.le_refl _⟩
 | d::l,h=>by
  obtain⟨⟨⟨a1,a2,-⟩,⟨b1,b2,-⟩⟩,m1,m2⟩:=yM h.tail
  have hn:=h.2.2
  unfold tI tS tT at *
  rw [List.filterMap_cons]
  rw [cK] at hn ⊢
  cases ht:nA d with
  | none=>exact⟨⟨⟨a1,a2,by dsimp only;omega⟩,⟨b1,b2,by dsimp only;omega⟩⟩,by dsimp only;omega,by dsimp only;omega⟩
  | some t =>
   obtain⟨-,g1,g2,k1,k2⟩:=SB h.head ht
   simp only [List.map_cons,cK]
   exact⟨⟨⟨⟨g1.1,a1⟩,⟨g1.2.1,a2⟩,by simp only [cK];omega⟩,⟨⟨g2.1,b1⟩,⟨g2.2.1,b2⟩,by simp only [cK];omega⟩⟩,by omega,by omega⟩
structure LoS (l:List D) (S:List (Option Ob)) (cN cI cS:C):Prop where
 n:At 9 1 S cN (dQ (tN l))
 i:At 28 6 S cI ((tI l).map D.cc)
 s:At 28 6 S cS ((tS l).map D.cc)
 box:S[0]?=some (some ⟨31,11,[[.v (.int .i64 0),.v (.string ⟨#[]⟩),.v (.string ⟨#[]⟩),.v (.slice none 0 0),.v (.int .i64 0),.v (.int .i32 0),.v (.bool false),.v (.slice none 0 0),.v (.string ⟨#[]⟩),.v (.slice none 0 0),.v (.slice none 0 0)]]⟩)
 is:∀j n m,cI=.ms j n→cS≠.ms j m
def LoI (q l:List D) (er:Nat) (n:Nat) (st:St):Prop:=∃(i:Nat) (S:List (Option Ob)) (cN cI cS:C),n=l.length-i∧i≤l.length∧(l.take i).all (fun d=>(nA d).isSome)=true∧LoS (l.take i) S cN cI cS ∧
 st=⟨[(40,.one (.v (.int .i64 i))),(39,.one (.v (.int .i64 l.length))),(38,.one (.sl 6 (l.map D.cc))),(2,.one (.ptr 0 1 0 0)),(3,.one (.er 0)),(6,.one cN),(7,.one cI),(8,.one cS),(5,.one (.er (max er (tE (l.take i))))),(0,.one (.sl 6 (q.map D.cc)))],S⟩
noncomputable def tD (ev:Ev) (names:List ByteArray) (inits steps:List D) (err:Nat) (ends r:List D):Rs:=match ends with
 | []=>(kz,2)
 | e::es =>
  let test:=ev.e e
  let last:=if es=[] then (bU,0) else fL ev.e es
  let body:=aZ ev.e r
  let next:=aZ ev.e steps
  let again:=dL (bL eK::next.1)
  let f:=fQ names e0 (aI test.1 last.1 (gR (body.1++[again.1])))
  let x:=mC [eK] [f.1] (bL eK)
  let vs:=aZ ev.e inits
  let c:=dL (x.1::vs.1)
  (c.1,max (max (max (max (max (max (max (max err test.2) last.2) body.2) next.2) again.2) f.2) x.2) vs.2 |> fun m=>max m c.2)
theorem sP (ev:Ev) (a b:D) (r:List D):pZ ev (a::b::r)=if (bF a).1.all (fun d=>(nA d).isSome) then tD ev (tN (bF a).1) (tI (bF a).1) (tS (bF a).1) (max (max (max (bF a).2 (tE (bF a).1)) (bF b).2) (unl (tN (bF a).1))) (bF b).1 r else (kz,2):=by
 unfold pZ tD tN tI tS tE tT
 rfl
theorem SC {n:Nat} {ev:Ev} (hE:HE n ev) (names:List ByteArray) (inits steps:List D) (err:Nat) (ends r:List D) (he:err≤2):(tD ev names inits steps err ends r).2≤2:=by
 unfold tD
 split
 ·exact Nat.le_refl _
 ·rename_i e es
  dsimp only
  have w1:=hE.e2 e
  have w2:(if es=[] then ((bU,0):Rs) else fL ev.e es).2≤2:=by
   split
   ·exact Nat.zero_le _
   ·exact kK hE es
  have w3:=eN hE r
  have w4:=eN hE steps
  have w5:=fD (bL eK::(aZ ev.e steps).1)
  generalize (if es=[] then ((bU,0):Rs) else fL ev.e es)=L at *
  have w6:=lT names e0 (aI (ev.e e).1 L.1 (gR ((aZ ev.e r).1++[(dL (bL eK::(aZ ev.e steps).1)).1])))
  generalize fQ names e0 (aI (ev.e e).1 L.1 (gR ((aZ ev.e r).1++[(dL (bL eK::(aZ ev.e steps).1)).1])))=F at *
  have w7:=mD [eK] [F.1] (bL eK)
  have w8:=eN hE inits
  have w9:=fD ((mC [eK] [F.1] (bL eK)).1::(aZ ev.e inits).1)
  omega
theorem OW {n:Nat} {ev:Ev} (hE:HE n ev) (l:List D):(pZ ev l).2≤2:=by
 match l with
 | []=>exact Nat.le_refl _
 | [_]=>exact Nat.le_refl _
 | a::b::r =>
  rw [sP]
  split
  ·refine SC hE _ _ _ _ _ _ ?_
   have:=iR a
   have:=iR b
   have:=VK (bF a).1
   have:=kW (tN (bF a).1)
   omega
  ·exact Nat.le_refl _
noncomputable def DD (ev:Ev) (names:List ByteArray) (inits steps:List D) (tK lK:K) (err:Nat) (r:List D):Rs :=
  let body:=aZ ev.e r
  let next:=aZ ev.e steps
  let again:=dL (bL eK::next.1)
  let f:=fQ names e0 (aI tK lK (gR (body.1++[again.1])))
  let x:=mC [eK] [f.1] (bL eK)
  let vs:=aZ ev.e inits
  let c:=dL (x.1::vs.1)
  (c.1,max (max (max (max (max (max err body.2) next.2) again.2) f.2) x.2) vs.2 |> fun m=>max m c.2)
theorem OX (ev:Ev) (names:List ByteArray) (inits steps:List D) (err:Nat) (e:D) (r:List D):tD ev names inits steps err [e] r=DD ev names inits steps (ev.e e).1 bU (max err (ev.e e).2) r:=by
 unfold tD DD;simp
theorem KW (ev:Ev) (names:List ByteArray) (inits steps:List D) (err:Nat) (e f:D) (fs r:List D):tD ev names inits steps err (e::f::fs) r=DD ev names inits steps (ev.e e).1 (fL ev.e (f::fs)).1 (max (max err (ev.e e).2) (fL ev.e (f::fs)).2) r:=by
 unfold tD DD;simp
theorem KX {n:Nat} {ev:Ev} (hE:HE n ev) (l0:List D) (hl:Gds n l0):Pure Tryz.prog 134 [.one (.sl 6 (l0.map D.cc))] (rsA (pZ ev l0)):=by
 have hbig:=hE.big
 have hw:Pure Tryz.prog 84 [.one (.v (.string ⟨#[100,111]⟩)),.one (.gv 1)] (.one (.er 2)):=dD _ 1
 by_cases h2:l0.length<2
 ·have hde:pZ ev l0=(kz,2):=by
   match l0,h2 with
   | [],_=>rfl
   | [a],_=>rfl
  have hlt:decide ((l0.length:Int)<2)=true:=by simp;omega
  rw [hde]
  refine fi Tryz.func134 Tryz.ntmps134 Tryz.results134 ?_
  repeat (first|(apply fw;focus ((with_reducible constructor)<;>constructor))|((first|with_reducible refine ga _ rfl fun Y y=>?_|apply ri);simp only [zb,seval,aL,kcc,hlt];refine fz y ?_;clear y Y))
  refine cz (hw) ?_
  (refine WpL.go _ rfl fun Y y=>?_);repeat (first|(apply fw;focus ((with_reducible constructor)<;>constructor))|((first|with_reducible refine ga _ rfl fun Y y=>?_|apply ri);simp only [zb,seval,aL,kcc];refine fz y ?_;clear y Y))
  refine yl (by simp only [zb,seval,aL,kcc,rsA];rfl) (by simp only [zv,kcc,rsA];rfl) ((by simp only [rcc,rsA];exact ae)) rfl
 ·obtain⟨a,b,r,hlr⟩:∃a b r,a::b::r=l0:=by
   match l0,h2 with
   | [],h=>exact absurd (by simp) h
   | [a],h=>exact absurd (by simp) h
   | a::b::r,_=>exact⟨a,b,r,rfl⟩
  obtain⟨g0,gt,gd,gl,gn,g11,g00,g22⟩:=qD a (b::r) l0 hlr
  obtain⟨g1,gdd⟩:=UB a b r l0 hlr
  have hlt:decide ((l0.length:Int)<2)=false:=by simp;omega
  have hle2:(2:Int)≤(l0.length:Int):=by omega
  have ha:Gd n a:=hl.mem (by rw [←hlr];simp)
  have hb:Gd n b:=hl.mem (by rw [←hlr];simp)
  have hr:Gds n r:=(hlr▸hl:Gds n (a::b::r)).tail.tail
  have hia:=gC a ha.2.1 (by have:=ha.items.len;omega)
  have hib:=gC b hb.2.1 (by have:=hb.items.len;omega)
  have wa:=iR a
  have wb:=iR b
  have gA:=jM ha
  have gB:=jM hb
  have hq:(l0.map D.cc).length=l0.length:=List.length_map ..
  have wr0:IntKind.i64.wrap 0=0:=dA (by omega) (by omega)
  have wr1:IntKind.i64.wrap 1=1:=dA (by omega) (by omega)
  have wr2:IntKind.i64.wrap 2=2:=dA (by omega) (by omega)
  rw [←hlr,sP,hlr]
  generalize bF b=IB at *
  generalize (bF a).2=er at *
  generalize (bF a).1=l at *
  have hlen:=gA.len
  refine fi Tryz.func134 Tryz.ntmps134 Tryz.results134 ?_
  repeat (first|(apply fw;focus ((with_reducible constructor)<;>constructor))|((first|with_reducible refine ga _ rfl fun Y y=>?_|apply ri);simp only [zb,seval,aL,kcc,hlt,g0];refine fz y ?_;clear y Y))
  refine cz (hia) ?_
  (refine WpL.go _ rfl fun Y y=>?_);repeat (first|(apply fw;focus ((with_reducible constructor)<;>constructor))|((first|with_reducible refine ga _ rfl fun Y y=>?_|apply ri);simp only [zb,seval,aL,kcc];refine fz y ?_;clear y Y))
  refine WpA.loop (LoI l0 l er) l.length (st0:=⟨[(40,.one (.v (.int .i64 (0:Nat)))),(39,.one (.v (.int .i64 l.length))),(38,.one (.sl 6 (l.map D.cc))),(2,.one (.ptr 0 1 0 0)),(3,.one (.er 0)),(6,.one (.v (.slice none 0 0))),(7,.one (.v (.slice none 0 0))),(8,.one (.v (.slice none 0 0))),(5,.one (.er (max er (tE (l.take 0))))),(0,.one (.sl 6 (l0.map D.cc)))],[some ⟨31,11,[[.v (.int .i64 0),.v (.string ⟨#[]⟩),.v (.string ⟨#[]⟩),.v (.slice none 0 0),.v (.int .i64 0),.v (.int .i32 0),.v (.bool false),.v (.slice none 0 0),.v (.string ⟨#[]⟩),.v (.slice none 0 0),.v (.slice none 0 0)]]⟩]⟩) (Le.sub (by simp [Sub,find,tE,tT,iX]))
   ⟨0,_,_,_,_,rfl,Nat.zero_le _,by simp,⟨At.nil _ _ _,At.nil _ _ _,At.nil _ _ _,rfl,(fun j n m e=>by cases e)⟩,rfl⟩ ?_
  intro n' st hI
  obtain⟨i,S,cN,cI,cS,rfl,hi,hall,hB,rfl⟩:=hI
  have hw2:IntKind.i64.wrap ((i:Int)+1)=((i+1:Nat):Int):=by rw [dA (by omega) (by omega)];omega
  have hte:=VK (l.take i)
  have htl:=WD (l.take i)
  rw [List.length_take,Nat.min_eq_left hi] at htl
  have hnl:(tN (l.take i)).length≤i:=by unfold tN;rw [List.length_map];exact htl
  have hil:(tI (l.take i)).length≤i:=by unfold tI;rw [List.length_map];exact htl
  have hsl:(tS (l.take i)).length≤i:=by unfold tS;rw [List.length_map];exact htl
  have hS0:=(List.getElem?_eq_some_iff.1 hB.box).1
  by_cases hlt2:i<l.length
  ·have hd1:decide ((i:Int)<(l.length:Int))=true:=by simp;omega
   have hget:=vF hlt2
   have hbm:=gA.mem (List.getElem_mem hlt2)
   have him:=gC l[i] hbm.2.1 (by have:=hbm.items.len;omega)
   have htk:=List.take_succ_eq_append_getElem hlt2
   have hmem:l[i]∈l:=List.getElem_mem hlt2
   generalize hdd:l[i]=d at *
   cases htr:nA d with
   | none =>
    have hfa:l.all (fun d=>(nA d).isSome)=false:=List.all_eq_false.2 ⟨d,hmem,by simp [htr]⟩
    have h0':∀T,(S++T)[0]?=_:=fun T=>dB hB.box
    have hset:∀(T:List (Option Ob)) (a:Option Ob),((S++T).set 0 a)[0]?=some a:=fun T a=>List.getElem?_set_self (by simp;omega)
    rw [hfa]
    simp only [Bool.false_eq_true,if_false]
    rcases KV htr with he|⟨he,hln⟩
    ·rw [show bF d=([],2) from if_neg he] at him
     simp only [List.map_nil] at him
     repeat (first|(apply fw;focus ((with_reducible constructor)<;>constructor))|((first|with_reducible refine ga _ rfl fun Y y=>?_|apply ri);simp only [zb,seval,aL,hd1,hget,kcc,aK];refine fz y ?_;clear y Y))
     refine cz (him) ?_
     (refine WpL.go _ rfl fun Y y=>?_);repeat (first|(apply fw;focus ((with_reducible constructor)<;>constructor))|((first|with_reducible refine ga _ rfl fun Y y=>?_|apply ri);simp only [zb,seval,aL,kcc];refine fz y ?_;clear y Y))
     refine cz (hw) ?_
     (refine WpL.go _ rfl fun Y y=>?_);repeat (first|(apply fw;focus ((with_reducible constructor)<;>constructor))|((first|with_reducible refine ga _ rfl fun Y y=>?_|apply ri);simp only [zb,seval,aL,kcc,h0'];refine fz y ?_;clear y Y))
     refine yl (by simp only [zb,seval,aL,kcc,rsA,hset];rfl) (by simp only [zv,kcc,rsA,hset];rfl) ((by simp only [rcc,rsA];exact ae)) rfl
    ·rw [show bF d=(items d,0) from if_pos he] at him
     simp only at him
     by_cases hl2:(items d).length<2
     ·have hc2:decide (((items d).length:Int)<2)=true:=by simp;omega
      repeat (first|(apply fw;focus ((with_reducible constructor)<;>constructor))|((first|with_reducible refine ga _ rfl fun Y y=>?_|apply ri);simp only [zb,seval,aL,hd1,hget,kcc,aK];refine fz y ?_;clear y Y))
      refine cz (him) ?_
      (refine WpL.go _ rfl fun Y y=>?_);repeat (first|(apply fw;focus ((with_reducible constructor)<;>constructor))|((first|with_reducible refine ga _ rfl fun Y y=>?_|apply ri);simp only [zb,seval,aL,kcc,hc2];refine fz y ?_;clear y Y))
      refine cz (hw) ?_
      (refine WpL.go _ rfl fun Y y=>?_);repeat (first|(apply fw;focus ((with_reducible constructor)<;>constructor))|((first|with_reducible refine ga _ rfl fun Y y=>?_|apply ri);simp only [zb,seval,aL,kcc,h0'];refine fz y ?_;clear y Y))
      refine yl (by simp only [zb,seval,aL,kcc,rsA,hset];rfl) (by simp only [zv,kcc,rsA,hset];rfl) ((by simp only [rcc,rsA];exact ae)) rfl
     ·have hc2:decide (((items d).length:Int)<2)=false:=by simp;omega
      have hc3:decide ((3:Int)<((items d).length:Int))=true:=by simp;omega
      repeat (first|(apply fw;focus ((with_reducible constructor)<;>constructor))|((first|with_reducible refine ga _ rfl fun Y y=>?_|apply ri);simp only [zb,seval,aL,hd1,hget,kcc,aK];refine fz y ?_;clear y Y))
      refine cz (him) ?_
      (refine WpL.go _ rfl fun Y y=>?_);repeat (first|(apply fw;focus ((with_reducible constructor)<;>constructor))|((first|with_reducible refine ga _ rfl fun Y y=>?_|apply ri);simp only [zb,seval,aL,kcc,hc2,hc3];refine fz y ?_;clear y Y))
      refine cz (hw) ?_
      (refine WpL.go _ rfl fun Y y=>?_);repeat (first|(apply fw;focus ((with_reducible constructor)<;>constructor))|((first|with_reducible refine ga _ rfl fun Y y=>?_|apply ri);simp only [zb,seval,aL,kcc,h0'];refine fz y ?_;clear y Y))
      refine yl (by simp only [zb,seval,aL,kcc,rsA,hset];rfl) (by simp only [zv,kcc,rsA,hset];rfl) ((by simp only [rcc,rsA];exact ae)) rfl
   | some t =>
    obtain⟨v,x,y⟩:=t
    obtain⟨he,hxy⟩:=AY htr
    dsimp only at hxy
    have hv:=kJ v
    have hbo:=aD (max er (tE (l.take i))) (bR v).2 (by omega) (eU _)
    have hs:max (max er (tE (l.take i))) (bR v).2=max er (tE (l.take (i+1))):=by rw [htk];unfold tE;rw [EU htr,List.map_append,List.map_cons,List.map_nil,mY,Nat.max_assoc]
    rw [hs] at hbo
    rw [show bF d=(items d,0) from if_pos he] at him
    simp only at him
    have hall2:(l.take (i+1)).all (fun d=>(nA d).isSome)=true:=by rw [htk,List.all_append,hall];simp [htr]
    obtain⟨S8,c8,hA8,hl8,hfr8,hpl8,hop8⟩:=mJ (P:=Tryz.prog) (T:=22) (by_:=16) dH dJ dK (by omega) (S:=S++[some ⟨28,6,[d.cc]⟩]) (hB.n.app _) (new:=[[.v (.string (bR v).1)]]) (by simp) (by rw [dR];simp;omega) (by rw [dR];simp;omega)
    have hI8:At 28 6 S8 cI ((tI (l.take i)).map D.cc):=hB.i.stay fun k hk _=>hfr8 k _ (dB hk) (hB.n.apart hk (by show (28:Nat)≠_;decide))
    have hS8:At 28 6 S8 cS ((tS (l.take i)).map D.cc):=hB.s.stay fun k hk _=>hfr8 k _ (dB hk) (hB.n.apart hk (by show (28:Nat)≠_;decide))
    have h08:=hfr8 0 _ (dB hB.box) (hB.n.apart hB.box (by show (31:Nat)≠_;decide))
    obtain⟨S9,c9,hA9,hl9,hfr9,hpl9,hop9⟩:=mJ (P:=Tryz.prog) (T:=26) (by_:=88) aM bA bB (by omega) (S:=S8) hI8 (new:=[x.cc]) (by simp [kcc]) (by simp;omega) (by simp;omega)
    have hN9:At 9 1 S9 c8 _:=hA8.stay fun k hk _=>hfr9 k _ hk (hI8.apart hk (by show (9:Nat)≠_;decide))
    have hS9:At 28 6 S9 cS ((tS (l.take i)).map D.cc):=hS8.stay fun k hk e=>hfr9 k _ hk fun m e2=>hB.is k _ _ e2 e
    have h09:=hfr9 0 _ h08 (hI8.apart h08 (by show (31:Nat)≠_;decide))
    obtain⟨S10,c10,hA10,hl10,hfr10,hpl10,hop10⟩:=mJ (P:=Tryz.prog) (T:=26) (by_:=88) aM bA bB (by omega) (S:=S9) hS9 (new:=[y.cc]) (by simp [kcc]) (by simp;omega) (by simp;omega)
    have hcIS:∀m,∀k q,c9=.ms k q→cS≠.ms k m:=fun m k q e e2=>by
     rcases hpl9 _ _ e with ⟨p,h⟩|h
     ·exact hB.is _ _ _ h e2
     ·have:=hB.s.lt e2;rw [List.length_append] at hl8;omega
    have hN10:At 9 1 S10 c8 _:=hN9.stay fun k hk _=>hfr10 k _ hk (hS9.apart hk (by show (9:Nat)≠_;decide))
    have hI10:At 28 6 S10 c9 _:=hA9.stay fun k hk e=>hfr10 k _ hk fun m=>hcIS m k _ e
    have h010:=hfr10 0 _ h09 (hS9.apart h09 (by show (31:Nat)≠_;decide))
    have hfin:LoS (l.take (i+1)) S10 c8 c9 c10:=by
     refine⟨?_,?_,?_,h010,fun k q m e e2=>?_⟩
     ·rw [htk];unfold tN;rw [EU htr,List.map_append,List.map_cons,List.map_nil,pB];exact hN10
     ·rw [htk];unfold tI;rw [EU htr,List.map_append,List.map_append];exact hI10
     ·rw [htk];unfold tS;rw [EU htr,List.map_append,List.map_append];exact hA10
     ·rcases hpl10 _ _ e2 with ⟨p,h⟩|h
      ·exact hcIS _ _ _ e h
      ·have:=hA9.lt e
       omega
        
    rcases hxy with ⟨hxy,hyv⟩|hxy
    ·subst hyv
     rw [hxy] at him
     simp only [List.map_cons,List.map_nil] at him
     repeat (first|(apply fw;focus ((with_reducible constructor)<;>constructor))|((first|with_reducible refine ga _ rfl fun Y y=>?_|apply ri);simp only [zb,seval,aL,hd1,hget,kcc,aK];refine fz y ?_;clear y Y))
     refine cz (him) ?_
     (refine WpL.go _ rfl fun Y y=>?_);repeat (first|(apply fw;focus ((with_reducible constructor)<;>constructor))|((first|with_reducible refine ga _ rfl fun Y y=>?_|apply ri);simp only [zb,seval,aL,kcc];refine fz y ?_;clear y Y))
     refine cz (hv) ?_
     (refine WpL.go _ rfl fun Y y=>?_);repeat (first|(apply fw;focus ((with_reducible constructor)<;>constructor))|((first|with_reducible refine ga _ rfl fun Y y=>?_|apply ri);simp only [zb,seval,aL,kcc];refine fz y ?_;clear y Y))
     refine cz (hbo) ?_
     (refine WpL.go _ rfl fun Y y=>?_);repeat (first|(apply fw;focus ((with_reducible constructor)<;>constructor))|((first|with_reducible refine ga _ rfl fun Y y=>?_|apply ri);simp only [zb,seval,aL,kcc];refine fz y ?_;clear y Y))
     skip
     refine WpA.draw1 20 [3,9,19] [] [_,S8,S9,S10] _ _ _ _ rfl rfl rfl (by kernel_rfl) (by kernel_rfl) (by kernel_rfl) (by kernel_rfl) rfl rfl rfl rfl (by decide) fun K8 hK8=>?_
     simp only [zz] at hK8 ⊢
     (refine Draw1.go fun K7 k=>?_);simp only [zb,seval,aL,kcc];(refine qz (k _ _ (by rfl) ?_));clear k K7;(simp only [zz,Nat.reduceAdd,Nat.reduceSub])
     refine Draw1.step (by rfl) (fun s9 _=>OpS.frozen (n:=1) (wd:=1) (ty:=9) (rows:=[[.v (.string (bR y).1)]]) (OpS.eff [(75,_)] rfl (by rfl) ⟨rfl,trivial⟩ (by simp only [zb,seval,aL,kcc];rfl) (by simp)) rfl (by simp [ksh])) ?_;simp only [bH]
     refine Draw1.eff 0 rfl rfl rfl (OpS.effO [(74,_),(76,_)] rfl (by rfl) ⟨rfl,rfl,trivial⟩ (hop8 _ _ _ _ _ rfl rfl) rfl) ?_
     simp only [bH]
     (refine Draw1.go fun K7 k=>?_);simp only [zb,seval,aL,kcc];(refine qz (k _ _ (by rfl) ?_));clear k K7;(simp only [zz,Nat.reduceAdd,Nat.reduceSub])
     refine Draw1.step (by rfl) (fun s9 _=>OpS.frozen (n:=1) (wd:=6) (ty:=28) (rows:=[x.cc]) (OpS.eff [(81,_)] rfl (by rfl) ⟨rfl,trivial⟩ (by simp only [zb,seval,aL,kcc];rfl) (by simp)) rfl (by simp [ksh])) ?_;simp only [bH]
     refine Draw1.eff 1 rfl rfl rfl (OpS.effO [(78,_),(82,_)] rfl (by rfl) ⟨rfl,rfl,trivial⟩ (hop9 _ _ _ _ _ rfl rfl) rfl) ?_
     simp only [bH]
     (refine Draw1.go fun K7 k=>?_);simp only [zb,seval,aL,kcc,wr0,wr1,wr2,g00,g22];(refine qz (k _ _ (by rfl) ?_));clear k K7;(simp only [zz,Nat.reduceAdd,Nat.reduceSub])
     refine Draw1.step (by rfl) (fun s9 _=>OpS.frozen (n:=1) (wd:=6) (ty:=28) (rows:=[y.cc]) (OpS.eff [(91,_)] rfl (by rfl) ⟨rfl,trivial⟩ (by simp only [zb,seval,aL,kcc];rfl) (by simp)) rfl (by simp [ksh])) ?_;simp only [bH]
     refine Draw1.eff 2 rfl rfl rfl (OpS.effO [(84,_),(92,_)] rfl (by rfl) ⟨rfl,rfl,trivial⟩ (hop10 _ _ _ _ _ rfl rfl) rfl) ?_
     simp only [bH]
     (refine Draw1.go fun K7 k=>?_);simp only [zb,seval,aL,kcc,hw2];(refine qz (k _ _ (by rfl) ?_));clear k K7;(simp only [zz,Nat.reduceAdd,Nat.reduceSub]);(try ((refine nz (hK8 _ ?_));clear hK8 K8;(refine WpL.go _ rfl fun Y y=>?_);repeat (first|(apply fw;focus ((with_reducible constructor)<;>constructor))|((first|with_reducible refine ga _ rfl fun Y y=>?_|apply ri);simp only [zb,seval,aL,kcc,hw2];refine fz y ?_;clear y Y))))
     exact⟨l.length-(i+1),_,by omega,Le.sub (by simp [Sub,find]),i+1,S10,c8,c9,c10,rfl,hlt2,hall2,hfin,rfl⟩
    ·rw [hxy] at him
     simp only [List.map_cons,List.map_nil] at him
     repeat (first|(apply fw;focus ((with_reducible constructor)<;>constructor))|((first|with_reducible refine ga _ rfl fun Y y=>?_|apply ri);simp only [zb,seval,aL,hd1,hget,kcc,aK];refine fz y ?_;clear y Y))
     refine cz (him) ?_
     (refine WpL.go _ rfl fun Y y=>?_);repeat (first|(apply fw;focus ((with_reducible constructor)<;>constructor))|((first|with_reducible refine ga _ rfl fun Y y=>?_|apply ri);simp only [zb,seval,aL,kcc];refine fz y ?_;clear y Y))
     refine cz (hv) ?_
     (refine WpL.go _ rfl fun Y y=>?_);repeat (first|(apply fw;focus ((with_reducible constructor)<;>constructor))|((first|with_reducible refine ga _ rfl fun Y y=>?_|apply ri);simp only [zb,seval,aL,kcc];refine fz y ?_;clear y Y))
     refine cz (hbo) ?_
     (refine WpL.go _ rfl fun Y y=>?_);repeat (first|(apply fw;focus ((with_reducible constructor)<;>constructor))|((first|with_reducible refine ga _ rfl fun Y y=>?_|apply ri);simp only [zb,seval,aL,kcc];refine fz y ?_;clear y Y))
     skip
     refine WpA.draw1 20 [3,9,19] [] [_,S8,S9,S10] _ _ _ _ rfl rfl rfl (by kernel_rfl) (by kernel_rfl) (by kernel_rfl) (by kernel_rfl) rfl rfl rfl rfl (by decide) fun K8 hK8=>?_
     simp only [zz] at hK8 ⊢
     (refine Draw1.go fun K7 k=>?_);simp only [zb,seval,aL,kcc];(refine qz (k _ _ (by rfl) ?_));clear k K7;(simp only [zz,Nat.reduceAdd,Nat.reduceSub])
     refine Draw1.step (by rfl) (fun s9 _=>OpS.frozen (n:=1) (wd:=1) (ty:=9) (rows:=[[.v (.string (bR v).1)]]) (OpS.eff [(75,_)] rfl (by rfl) ⟨rfl,trivial⟩ (by simp only [zb,seval,aL,kcc];rfl) (by simp)) rfl (by simp [ksh])) ?_;simp only [bH]
     refine Draw1.eff 0 rfl rfl rfl (OpS.effO [(74,_),(76,_)] rfl (by rfl) ⟨rfl,rfl,trivial⟩ (hop8 _ _ _ _ _ rfl rfl) rfl) ?_
     simp only [bH]
     (refine Draw1.go fun K7 k=>?_);simp only [zb,seval,aL,kcc];(refine qz (k _ _ (by rfl) ?_));clear k K7;(simp only [zz,Nat.reduceAdd,Nat.reduceSub])
     refine Draw1.step (by rfl) (fun s9 _=>OpS.frozen (n:=1) (wd:=6) (ty:=28) (rows:=[x.cc]) (OpS.eff [(81,_)] rfl (by rfl) ⟨rfl,trivial⟩ (by simp only [zb,seval,aL,kcc];rfl) (by simp)) rfl (by simp [ksh])) ?_;simp only [bH]
     refine Draw1.eff 1 rfl rfl rfl (OpS.effO [(78,_),(82,_)] rfl (by rfl) ⟨rfl,rfl,trivial⟩ (hop9 _ _ _ _ _ rfl rfl) rfl) ?_
     simp only [bH]
     (refine Draw1.go fun K7 k=>?_);simp only [zb,seval,aL,kcc,wr0,wr1,wr2,g00,g22];(refine qz (k _ _ (by rfl) ?_));clear k K7;(simp only [zz,Nat.reduceAdd,Nat.reduceSub])
     refine Draw1.step (by rfl) (fun s9 _=>OpS.frozen (n:=1) (wd:=6) (ty:=28) (rows:=[y.cc]) (OpS.eff [(91,_)] rfl (by rfl) ⟨rfl,trivial⟩ (by simp only [zb,seval,aL,kcc];rfl) (by simp)) rfl (by simp [ksh])) ?_;simp only [bH]
     refine Draw1.eff 2 rfl rfl rfl (OpS.effO [(84,_),(92,_)] rfl (by rfl) ⟨rfl,rfl,trivial⟩ (hop10 _ _ _ _ _ rfl rfl) rfl) ?_
     simp only [bH]
     (refine Draw1.go fun K7 k=>?_);simp only [zb,seval,aL,kcc,hw2];(refine qz (k _ _ (by rfl) ?_));clear k K7;(simp only [zz,Nat.reduceAdd,Nat.reduceSub]);(try ((refine nz (hK8 _ ?_));clear hK8 K8;(refine WpL.go _ rfl fun Y y=>?_);repeat (first|(apply fw;focus ((with_reducible constructor)<;>constructor))|((first|with_reducible refine ga _ rfl fun Y y=>?_|apply ri);simp only [zb,seval,aL,kcc,hw2];refine fz y ?_;clear y Y))))
     exact⟨l.length-(i+1),_,by omega,Le.sub (by simp [Sub,find]),i+1,S10,c8,c9,c10,rfl,hlt2,hall2,hfin,rfl⟩
  ·have hd0:decide ((i:Int)<(l.length:Int))=false:=by simp;omega
   have hii:i=l.length:=by omega
   subst hii
   rw [List.take_length] at hall hB hte htl hnl hil hsl ⊢
   have hrn:(dQ (tN l)).length=(tN l).length:=dR _
   have gI:=(yM gA).1.1
   have gS:=(yM gA).1.2
   have hIlen:=gI.len
   have hSlen:=gS.len
   rw [hall]
   simp only [if_true]
   repeat (first|(apply fw;focus ((with_reducible constructor)<;>constructor)))
   ((with_reducible refine ga _ rfl fun Y y=>?_);simp only [zb,seval,aL,hd0];(refine RunTo.fn y (by first|(simp;done)|omega|(simp;omega)) ?_);clear y Y);repeat (first|(apply fw;focus ((with_reducible constructor)<;>constructor)))
   refine WpA.frzAt 8 hB.s.au (EO _) rfl fun S1 hl1 ho1=>?_
   have hN1:At 9 1 S1 cN _:=hB.n.stay fun k hk _=>ho1 k _ hk (hB.s.apart hk (by show (9:Nat)≠_;decide))
   have hI1:At 28 6 S1 cI _:=hB.i.stay fun k hk e=>ho1 k _ hk fun m=>hB.is k _ m e
   have h01:=ho1 0 _ hB.box (hB.s.apart hB.box (by show (31:Nat)≠_;decide))
   refine WpA.frzAt 7 hI1.au (EO _) rfl fun S2 hl2 ho2=>?_
   have hN2:At 9 1 S2 cN _:=hN1.stay fun k hk _=>ho2 k _ hk (hI1.apart hk (by show (9:Nat)≠_;decide))
   have h02:=ho2 0 _ h01 (hI1.apart h01 (by show (31:Nat)≠_;decide))
   refine WpA.frzAt 6 hN2.au (mH _) rfl fun S3 hl3 ho3=>?_
   have h03:=ho3 0 _ h02 (hN2.apart h02 (by show (31:Nat)≠_;decide))
   have hS3:=(List.getElem?_eq_some_iff.1 h03).1
   clear hB hN1 hI1 hN2 ho1 ho2 ho3 h01 h02
   have hun:=jV (tN l) (by omega)
   have wu:=kW (tN l)
   have o1:=aD (max er (tE l)) IB.2 (by omega) wb
   have o2:=aD (max (max er (tE l)) IB.2) (unl (tN l)) (by omega) wu
   have hset0:∀(a:Option Ob),(S3.set 0 a)[0]?=some a:=fun a=>List.getElem?_set_self hS3
   generalize hns:tN l=ns at *
   generalize hins:tI l=ins at *
   generalize hsts:tS l=sts at *
   generalize hE1:max (max (max er (tE l)) IB.2) (unl ns)=E1 at *
   have wE1:E1≤2:=by omega
   repeat (first|(apply fw;focus ((with_reducible constructor)<;>constructor))|((first|with_reducible refine ga _ rfl fun Y y=>?_|apply ri);simp only [zb,seval,aL,kcc,g1];refine fz y ?_;clear y Y))
   refine cz (hib) ?_
   (refine WpL.go _ rfl fun Y y=>?_);repeat (first|(apply fw;focus ((with_reducible constructor)<;>constructor))|((first|with_reducible refine ga _ rfl fun Y y=>?_|apply ri);simp only [zb,seval,aL,kcc];refine fz y ?_;clear y Y))
   refine cz (o1) ?_
   (refine WpL.go _ rfl fun Y y=>?_);repeat (first|(apply fw;focus ((with_reducible constructor)<;>constructor))|((first|with_reducible refine ga _ rfl fun Y y=>?_|apply ri);simp only [zb,seval,aL,kcc];refine fz y ?_;clear y Y))
   refine cz (hun) ?_
   (refine WpL.go _ rfl fun Y y=>?_);repeat (first|(apply fw;focus ((with_reducible constructor)<;>constructor))|((first|with_reducible refine ga _ rfl fun Y y=>?_|apply ri);simp only [zb,seval,aL,kcc];refine fz y ?_;clear y Y))
   refine cz (o2) ?_
   clear hia hib o1 o2 hun
   generalize IB.1=ends at *
   match ends,gB with
   | [],gB =>
    (refine WpL.go _ rfl fun Y y=>?_);repeat (first|(apply fw;focus ((with_reducible constructor)<;>constructor))|((first|with_reducible refine ga _ rfl fun Y y=>?_|apply ri);simp only [zb,seval,aL,kcc];refine fz y ?_;clear y Y))
    refine cz (hw) ?_
    (refine WpL.go _ rfl fun Y y=>?_);repeat (first|(apply fw;focus ((with_reducible constructor)<;>constructor))|((first|with_reducible refine ga _ rfl fun Y y=>?_|apply ri);simp only [zb,seval,aL,kcc,h03];refine fz y ?_;clear y Y))
    refine yl (by simp only [zb,seval,aL,kcc,rsA,hset0];rfl) (by simp only [zv,kcc,rsA,hset0];rfl) ((by simp only [rcc,rsA,tD];exact ae)) rfl
   | e::es,gB =>
    obtain⟨q,hqr⟩:∃q,e::es=q:=⟨_,rfl⟩
    obtain⟨q0,qt,qd,ql,-⟩:=qD e es q hqr
    have hqz:((q.length:Int) == 0)=false:=by rw [ql];simp;omega
    have hq1:(1:Int)≤(q.length:Int):=by omega
    have hx:=hE.e e gB.head
    have we:=hE.e2 e
    have hno:=gT
    have hec:=jU hE sts gS
    have hei:=jU hE ins gI
    have hel:(aZ ev.e sts).1.length=sts.length:=List.length_map ..
    have hel2:(aZ ev.e ins).1.length=ins.length:=List.length_map ..
    have hrl:=oX eK
    have heb:(aZ ev.e r).1.length=r.length:=List.length_map ..
    have hrlen:=hr.len
    have wB:=eN hE r
    have wS:=eN hE sts
    have wI:=eN hE ins
    have bt:=aD E1 (ev.e e).2 wE1 we
    simp only [rsA] at hx
    simp only [rlA] at hec hei
        
    cases es with
    | nil =>
     have hg1:decide ((1:Int)<(q.length:Int))=false:=by rw [←hqr];rfl
     rw [OX,hqr]
     (refine WpL.go _ rfl fun Y y=>?_);repeat (first|(apply fw;focus ((with_reducible constructor)<;>constructor))|((first|with_reducible refine ga _ rfl fun Y y=>?_|apply ri);simp only [zb,seval,aL,kcc,hqz,q0];refine fz y ?_;clear y Y))
     refine cz (hx) ?_
     (refine WpL.go _ rfl fun Y y=>?_);repeat (first|(apply fw;focus ((with_reducible constructor)<;>constructor))|((first|with_reducible refine ga _ rfl fun Y y=>?_|apply ri);simp only [zb,seval,aL,kcc,aK];refine fz y ?_;clear y Y))
     refine cz (bt) ?_
     generalize hE2:max E1 (ev.e e).2=E2 at *
     have wE2:E2≤2:=by omega
     (refine WpL.go _ rfl fun Y y=>?_);repeat (first|(apply fw;focus ((with_reducible constructor)<;>constructor))|((first|with_reducible refine ga _ rfl fun Y y=>?_|apply ri);simp only [zb,seval,aL,kcc,aK];refine fz y ?_;clear y Y))
     refine cz (hno) ?_
     generalize hLK:bU=LK at *
     (refine WpL.go _ rfl fun Y y=>?_);repeat (first|(apply fw;focus ((with_reducible constructor)<;>constructor))|((first|with_reducible refine ga _ rfl fun Y y=>?_|apply ri);simp only [zb,seval,aL,kcc,aK,hg1,gn,g22,gt,gdd];refine fz y ?_;clear y Y))
     refine WpL.frzP 16 S3.length rfl (by simp only [aK];rfl) (K.cc_shut _) ?_
     simp only [aK]
     refine WpL.frzP 17 (S3.length+1) rfl (by simp only [aK];rfl) (K.cc_shut _) ?_
     simp only [aK]
     refine WpL.handAll rfl (aB (P:=Tryz.prog) rfl) rfl rfl (by kernel_rfl) (ALes.refl _) (ET hE r hr _) ?_
     rintro _ S5 ⟨cB,rfl,hAB,hfrB,hlB,hkB⟩
     have h05:=hkB 0 _ (dB h03)
     have hcl:=fM (bL eK::(aZ ev.e sts).1)
     have wA:=fD (bL eK::(aZ ev.e sts).1)
     simp only [rsA,List.map_cons] at hcl
     unfold DD
     dsimp only
     generalize hBd:aZ ev.e r=Bd at *
     generalize hSt:aZ ev.e sts=St at *
     generalize hIn:aZ ev.e ins=In at *
     generalize hAg:dL (bL eK::St.1)=Ag at *
     have hsq:=oZ (Bd.1++[Ag.1])
     have hbr:=dZ (ev.e e).1 LK (gR (Bd.1++[Ag.1]))
     have hlm:=jT ns ⟨#[]⟩ (aI (ev.e e).1 LK (gR (Bd.1++[Ag.1]))) (by omega)
     have hlme:fQ ns e0 (aI (ev.e e).1 LK (gR (Bd.1++[Ag.1])))=fQ ns ⟨#[]⟩ (aI (ev.e e).1 LK (gR (Bd.1++[Ag.1]))):=rfl
     have wF:=lT ns ⟨#[]⟩ (aI (ev.e e).1 LK (gR (Bd.1++[Ag.1])))
     rw [hlme]
     simp only [rsA] at hlm
     generalize fQ ns ⟨#[]⟩ (aI (ev.e e).1 LK (gR (Bd.1++[Ag.1])))=F at *
     have hrc:=iK [eK] [F.1] (bL eK) (by simp) rfl
     have wX:=mD [eK] [F.1] (bL eK)
     simp only [rsA,List.map_cons,List.map_nil,dQ] at hrc
     generalize mC [eK] [F.1] (bL eK)=X at *
     have hcl2:=fM (X.1::In.1)
     have wC:=fD (X.1::In.1)
     simp only [rsA,List.map_cons] at hcl2
     generalize dL (X.1::In.1)=C0 at *
     have b1:=aD E2 Bd.2 (by omega) wB
     have b2:=aD (max E2 Bd.2) St.2 (by omega) wS
     have b3:=aD (max (max E2 Bd.2) St.2) Ag.2 (by omega) wA
     have b4:=aD (max (max (max E2 Bd.2) St.2) Ag.2) F.2 (by omega) wF
     have b5:=aD (max (max (max (max E2 Bd.2) St.2) Ag.2) F.2) X.2 (by omega) wX
     have b6:=aD (max (max (max (max (max E2 Bd.2) St.2) Ag.2) F.2) X.2) In.2 (by omega) wI
     have b7:=aD (max (max (max (max (max (max E2 Bd.2) St.2) Ag.2) F.2) X.2) In.2) C0.2 (by omega) wC
     (refine WpL.go _ rfl fun Y y=>?_);repeat (first|(apply fw;focus ((with_reducible constructor)<;>constructor))|((first|with_reducible refine ga _ rfl fun Y y=>?_|apply ri);simp only [zb,seval,aL,kcc,aK];refine fz y ?_;clear y Y))
     refine cz (b1) ?_
     (refine WpL.go _ rfl fun Y y=>?_);repeat (first|(apply fw;focus ((with_reducible constructor)<;>constructor))|((first|with_reducible refine ga _ rfl fun Y y=>?_|apply ri);simp only [zb,seval,aL,kcc,aK];refine fz y ?_;clear y Y))
     refine cz (hec) ?_
     (refine WpL.go _ rfl fun Y y=>?_);repeat (first|(apply fw;focus ((with_reducible constructor)<;>constructor))|((first|with_reducible refine ga _ rfl fun Y y=>?_|apply ri);simp only [zb,seval,aL,kcc,aK];refine fz y ?_;clear y Y))
     refine cz (b2) ?_
     (refine WpL.go _ rfl fun Y y=>?_);repeat (first|(apply fw;focus ((with_reducible constructor)<;>constructor))|((first|with_reducible refine ga _ rfl fun Y y=>?_|apply ri);simp only [zb,seval,aL,kcc,aK,hel];refine fz y ?_;clear y Y))
     refine cz (hrl) ?_
     (refine WpL.go _ rfl fun Y y=>?_);repeat (first|(apply fw;focus ((with_reducible constructor)<;>constructor))|((first|with_reducible refine ga _ rfl fun Y y=>?_|apply ri);simp only [zb,seval,aL,kcc,aK,hel];refine fz y ?_;clear y Y))
     (refine WpL.frz 158 (S5.length) (by rfl) (by first|rfl|(simp only [zz,aK,hel];rfl)|(simp only [zz,aK,hel])) (by first|rfl|(simp [aK,hel];done)|(simp [aK,hel];omega)) (by simp [ksh]) ?_);simp only [zz,aK,hel]
     refine cz (hcl) ?_
     (refine WpL.go _ rfl fun Y y=>?_);repeat (first|(apply fw;focus ((with_reducible constructor)<;>constructor))|((first|with_reducible refine ga _ rfl fun Y y=>?_|apply ri);simp only [zb,seval,aL,kcc,aK];refine fz y ?_;clear y Y))
     refine cz (b3) ?_
     (refine WpL.go _ rfl fun Y y=>?_);repeat (first|(apply fw;focus ((with_reducible constructor)<;>constructor))|((first|with_reducible refine ga _ rfl fun Y y=>?_|apply ri);simp only [zb,seval,aL,kcc,aK];refine fz y ?_;clear y Y))
     refine WpA.frzP 20 (S5.length+1) rfl (by simp only [aK];rfl) (K.cc_shut _) ?_
     simp only [aK]
     have h0T:(S5++[none,none])[0]?=_:=dB (T:=[none,none]) h05
     have hB0:∀m,cB≠.ms 0 m:=fun m e=>by have:=hfrB _ _ e;rw [List.length_append] at this;omega
     have hAT:At 31 11 (S5++[none,none]) cB (Bd.1.map K.cc):=hAB.app _
     generalize (S5++[none,none]:List (Option Ob))=T at *
     obtain⟨T6,hl6,hk6,hop6⟩:=OpS.appFrz (P:=Tryz.prog) (T:=29) (by_:=176) bM bO bP (by omega) hAT.au (new:=[Ag.1.cc]) (by simp [kcc]) (by simp) (rQ _) (by simp [ksh]) (by simp [heb];omega) (by simp [heb];omega)
     have h06:=hk6 0 _ h0T hB0
     have hT6:=(List.getElem?_eq_some_iff.1 h06).1
     have h06':∀X,(T6++X)[0]?=_:=fun X=>dB h06
     have hset6:∀(X:List (Option Ob)) (a:Option Ob),((T6++X).set 0 a)[0]?=some a:=fun X a=>List.getElem?_set_self (by simp;omega)
     rw [show Bd.1.map K.cc++[Ag.1.cc]=(Bd.1++[Ag.1]).map K.cc by simp] at hop6
     have hle:∀s∈[T,T6,T++[some ⟨31,11,[[.v (.int .i64 0),.v (.string ⟨#[]⟩),.v (.string ⟨#[]⟩),.v (.slice none 0 0),.v (.int .i64 0),.v (.int .i32 0),.v (.bool false),.v (.slice none 0 0),.v (.string ⟨#[]⟩),.v (.slice none 0 0),.v (.slice none 0 0)]]⟩],T6++[some ⟨31,11,[[.v (.int .i64 0),.v (.string ⟨#[]⟩),.v (.string ⟨#[]⟩),.v (.slice none 0 0),.v (.int .i64 0),.v (.int .i32 0),.v (.bool false),.v (.slice none 0 0),.v (.string ⟨#[]⟩),.v (.slice none 0 0),.v (.slice none 0 0)]]⟩],T6++[some ⟨31,11,[F.1.cc]⟩]],LeS [] s:=fun s _=>LeS.of (SLe.nil s)
     skip
     skip
     refine WpA.draw2 15 [6,13,14] [] [[],[6],[13],[6,13],[6,13,14]] [T,T6,T++[some ⟨31,11,[[.v (.int .i64 0),.v (.string ⟨#[]⟩),.v (.string ⟨#[]⟩),.v (.slice none 0 0),.v (.int .i64 0),.v (.int .i32 0),.v (.bool false),.v (.slice none 0 0),.v (.string ⟨#[]⟩),.v (.slice none 0 0),.v (.slice none 0 0)]]⟩],T6++[some ⟨31,11,[[.v (.int .i64 0),.v (.string ⟨#[]⟩),.v (.string ⟨#[]⟩),.v (.slice none 0 0),.v (.int .i64 0),.v (.int .i32 0),.v (.bool false),.v (.slice none 0 0),.v (.string ⟨#[]⟩),.v (.slice none 0 0),.v (.slice none 0 0)]]⟩],T6++[some ⟨31,11,[F.1.cc]⟩]] 4 _ _ _ _ rfl rfl rfl (by kernel_rfl) (by kernel_rfl) (by kernel_rfl) (by kernel_rfl) rfl rfl rfl (by decide) fun K8 hK8=>?_
     simp only [zz] at hK8 ⊢
     (refine Draw2.go fun K7 hK7=>?_);simp only [zb,seval,aL,kcc];(refine RunQ.mk (by first|(simp;done)|omega|(simp;omega)) (hK7 _ _ (by rfl) ?_));clear hK7 K7;(simp only [zz,Nat.reduceAdd,Nat.reduceSub]);(try ((refine Draw2.nil (kE (hle)) (hK8 _ ?_));clear hK8 K8;(refine WpL.go _ rfl fun Y y=>?_);repeat (first|(apply fw;focus ((with_reducible constructor)<;>constructor))|((first|with_reducible refine ga _ rfl fun Y y=>?_|apply ri);simp only [zb,seval,aL,kcc];refine fz y ?_;clear y Y))))
     refine Draw2.step (by rfl) (fun s9 _=>OpS.frozen (n:=1) (wd:=11) (ty:=31) (rows:=[Ag.1.cc]) (OpS.eff [(170,_)] rfl (by rfl) ⟨rfl,trivial⟩ (by simp only [zb,seval,aL,kcc];rfl) (by simp)) rfl (by simp [ksh])) ?_;simp only [bH]
     refine Draw2.eff (x:=.one (.sl 11 ((Bd.1++[Ag.1]).map K.cc))) [(0,1),(2,3)] rfl rfl (by kernel_rfl) (fun t ht s s' h1 h2=>?_) ?_
     ·simp only [List.mem_cons,List.not_mem_nil,or_false] at ht
      rcases ht with rfl|rfl<;>(cases h1;cases h2)
      ·have:=fun {nt ds d ty pos aft g e t1 t2}=>hop6 [] (nt:=nt) (ds:=ds) (d:=d) (ty:=ty) (pos:=pos) (aft:=aft) (g:=g) (e:=e) (t1:=t1) (t2:=t2)
       simp only [List.append_nil] at this
       exact this rfl (by rfl) rfl rfl (by decide)
      ·exact hop6 _ rfl (by rfl) rfl rfl (by decide)
     simp only [bH]
     (refine Draw2.go fun K7 hK7=>?_);simp only [zb,seval,aL,kcc];(refine RunQ.mk (by first|(simp;done)|omega|(simp;omega)) (hK7 _ _ (by rfl) ?_));clear hK7 K7;(simp only [zz,Nat.reduceAdd,Nat.reduceSub]);(try ((refine Draw2.nil (kE (hle)) (hK8 _ ?_));clear hK8 K8;(refine WpL.go _ rfl fun Y y=>?_);repeat (first|(apply fw;focus ((with_reducible constructor)<;>constructor))|((first|with_reducible refine ga _ rfl fun Y y=>?_|apply ri);simp only [zb,seval,aL,kcc];refine fz y ?_;clear y Y))))
     refine Draw2.step (by rfl) (fun s9 _=>oz (hsq)) ?_
     (refine Draw2.go fun K7 hK7=>?_);simp only [zb,seval,aL,kcc];(refine RunQ.mk (by first|(simp;done)|omega|(simp;omega)) (hK7 _ _ (by rfl) ?_));clear hK7 K7;(simp only [zz,Nat.reduceAdd,Nat.reduceSub]);(try ((refine Draw2.nil (kE (hle)) (hK8 _ ?_));clear hK8 K8;(refine WpL.go _ rfl fun Y y=>?_);repeat (first|(apply fw;focus ((with_reducible constructor)<;>constructor))|((first|with_reducible refine ga _ rfl fun Y y=>?_|apply ri);simp only [zb,seval,aL,kcc];refine fz y ?_;clear y Y))))
     refine Draw2.step (by rfl) (fun s9 _=>oz (hbr)) ?_
     (refine Draw2.go fun K7 hK7=>?_);simp only [zb,seval,aL,kcc];(refine RunQ.mk (by first|(simp;done)|omega|(simp;omega)) (hK7 _ _ (by rfl) ?_));clear hK7 K7;(simp only [zz,Nat.reduceAdd,Nat.reduceSub]);(try ((refine Draw2.nil (kE (hle)) (hK8 _ ?_));clear hK8 K8;(refine WpL.go _ rfl fun Y y=>?_);repeat (first|(apply fw;focus ((with_reducible constructor)<;>constructor))|((first|with_reducible refine ga _ rfl fun Y y=>?_|apply ri);simp only [zb,seval,aL,kcc];refine fz y ?_;clear y Y))))
     refine Draw2.step (by rfl) (fun s9 _=>oz (hlm)) ?_
     (refine Draw2.go fun K7 hK7=>?_);simp only [zb,seval,aL,kcc];(refine RunQ.mk (by first|(simp;done)|omega|(simp;omega)) (hK7 _ _ (by rfl) ?_));clear hK7 K7;(simp only [zz,Nat.reduceAdd,Nat.reduceSub]);(try ((refine Draw2.nil (kE (hle)) (hK8 _ ?_));clear hK8 K8;(refine WpL.go _ rfl fun Y y=>?_);repeat (first|(apply fw;focus ((with_reducible constructor)<;>constructor))|((first|with_reducible refine ga _ rfl fun Y y=>?_|apply ri);simp only [zb,seval,aL,kcc];refine fz y ?_;clear y Y))))
     refine Draw2.eff (x:=.one (.ptr T6.length 1 0 0)) [(0,2),(1,3)] rfl rfl (by kernel_rfl) (fun t ht s s' h1 h2=>?_) ?_
     ·simp only [List.mem_cons,List.not_mem_nil,or_false] at ht
      rcases ht with rfl|rfl<;>(cases h1;cases h2)
      ·rw [hl6];exact OpS.eff [] rfl (by rfl) trivial (by first|(simp only [zb,seval,aL];done)|(simp only [zb,seval,aL];rfl)) trivial
      ·exact OpS.eff [] rfl (by rfl) trivial (by first|(simp only [zb,seval,aL];done)|(simp only [zb,seval,aL];rfl)) trivial
     simp only [bH]
     (refine Draw2.go fun K7 hK7=>?_);simp only [zb,seval,aL,kcc];(refine RunQ.mk (by first|(simp;done)|omega|(simp;omega)) (hK7 _ _ (by rfl) ?_));clear hK7 K7;(simp only [zz,Nat.reduceAdd,Nat.reduceSub]);(try ((refine Draw2.nil (kE (hle)) (hK8 _ ?_));clear hK8 K8;(refine WpL.go _ rfl fun Y y=>?_);repeat (first|(apply fw;focus ((with_reducible constructor)<;>constructor))|((first|with_reducible refine ga _ rfl fun Y y=>?_|apply ri);simp only [zb,seval,aL,kcc];refine fz y ?_;clear y Y))))
     refine Draw2.eff (x:=.any) [(3,4)] rfl rfl (by kernel_rfl) (fun t ht s s' h1 h2=>?_) ?_
     ·simp only [List.mem_cons,List.not_mem_nil,or_false] at ht
      subst ht
      cases h1;cases h2
      exact OpS.eff [(21,_),(176,_)] rfl (by rfl) ⟨rfl,rfl,trivial⟩ (by simp only [zb,seval,aL,kcc,aK];rfl) (by simp [kcc])
     simp only [bH]
     (refine Draw2.go fun K7 hK7=>?_);simp only [zb,seval,aL,kcc,aK];(refine RunQ.mk (by first|(simp;done)|omega|(simp;omega)) (hK7 _ _ (by rfl) ?_));clear hK7 K7;(simp only [zz,Nat.reduceAdd,Nat.reduceSub]);(try ((refine Draw2.nil (kE (hle)) (hK8 _ ?_));clear hK8 K8;(refine WpL.go _ rfl fun Y y=>?_);repeat (first|(apply fw;focus ((with_reducible constructor)<;>constructor))|((first|with_reducible refine ga _ rfl fun Y y=>?_|apply ri);simp only [zb,seval,aL,kcc,aK];refine fz y ?_;clear y Y))))
     skip
     skip
     refine cz (b4) ?_
     (refine WpL.go _ rfl fun Y y=>?_);repeat (first|(apply fw;focus ((with_reducible constructor)<;>constructor))|((first|with_reducible refine ga _ rfl fun Y y=>?_|apply ri);simp only [zb,seval,aL,kcc,aK];refine fz y ?_;clear y Y))
     refine WpA.frzP 21 T6.length rfl (by simp only [aK];rfl) (K.cc_shut _) ?_
     simp only [aK]
     have h07:=h06' [none]
     generalize (T6++[none]:List (Option Ob))=T7 at *
     have hT7:=(List.getElem?_eq_some_iff.1 h07).1
     have h07':∀X,(T7++X)[0]?=_:=fun X=>dB h07
     have hset7:∀(X:List (Option Ob)) (a:Option Ob),((T7++X).set 0 a)[0]?=some a:=fun X a=>List.getElem?_set_self (by simp;omega)
     (refine WpA.draw1c 10 [8,9] [_,?_,?_] _ _ _ _ rfl rfl rfl (by kernel_rfl) (by kernel_rfl) (by kernel_rfl) (by kernel_rfl) rfl rfl rfl rfl (by decide) fun K8 hK8=>?_);rotate_left 2;simp only [zz] at hK8 ⊢;(refine Draw1.go fun K7 k=>?_);simp only [zb,seval,aL,kcc,aK];(refine qz (k _ _ (by rfl) ?_));clear k K7;(simp only [zz,Nat.reduceAdd,Nat.reduceSub])
     refine Draw1.step (by rfl) (fun s9 _=>OpS.frozen (n:=1) (wd:=1) (ty:=9) (rows:=[[.v (.string eK)]]) (OpS.eff [] rfl (by rfl) trivial (by simp only [zb,seval,aL,kcc];rfl) (by simp)) rfl (by simp [ksh])) ?_;simp only [bH]
     (refine Draw1.go fun K7 k=>?_);simp only [zb,seval,aL,kcc,aK];(refine qz (k _ _ (by rfl) ?_));clear k K7;(simp only [zz,Nat.reduceAdd,Nat.reduceSub])
     refine Draw1.step (by rfl) (fun s9 _=>OpS.frozen (n:=1) (wd:=11) (ty:=31) (rows:=[F.1.cc]) (OpS.eff [(183,_)] rfl (by rfl) ⟨rfl,trivial⟩ (by simp only [zb,seval,aL,kcc];rfl) (by simp)) rfl (by simp [ksh])) ?_;simp only [bH]
     refine Draw1.step (by rfl) (fun s9 _=>oz (hrl)) ?_
     (refine Draw1.go fun K7 k=>?_);simp only [zb,seval,aL,kcc,aK];(refine qz (k _ _ (by rfl) ?_));clear k K7;(simp only [zz,Nat.reduceAdd,Nat.reduceSub])
     refine Draw1.step (by rfl) (fun s9 _=>oz (hrc)) ?_
     (refine Draw1.go fun K7 k=>?_);simp only [zb,seval,aL,kcc,aK];(refine qz (k _ _ (by rfl) ?_));clear k K7;(simp only [zz,Nat.reduceAdd,Nat.reduceSub])
     refine Draw1.eff 0 rfl rfl rfl (OpS.eff [] rfl (by rfl) trivial (by simp only [zb,seval,aL,kcc,aK];rfl) (by first|(simp;done)|omega|(simp;omega))) ?_;(try simp only [bH]);(try ((refine Draw1.go fun K7 k=>?_);simp only [zb,seval,aL,kcc,aK];(refine qz (k _ _ (by rfl) ?_));clear k K7;(simp only [zz,Nat.reduceAdd,Nat.reduceSub]);(try ((refine nz (hK8 _ ?_));clear hK8 K8;(refine WpL.go _ rfl fun Y y=>?_);repeat (first|(apply fw;focus ((with_reducible constructor)<;>constructor))|((first|with_reducible refine ga _ rfl fun Y y=>?_|apply ri);simp only [zb,seval,aL,kcc,aK];refine fz y ?_;clear y Y))))))
     refine Draw1.eff 1 rfl rfl rfl (OpS.eff [(22,_),(187,_)] rfl (by rfl) ⟨rfl,rfl,trivial⟩ (by simp only [zb,seval,aL,kcc,aK];rfl) (by first|(simp;done)|omega|(simp;omega))) ?_;(try simp only [bH]);(try ((refine Draw1.go fun K7 k=>?_);simp only [zb,seval,aL,kcc,aK];(refine qz (k _ _ (by rfl) ?_));clear k K7;(simp only [zz,Nat.reduceAdd,Nat.reduceSub]);(try ((refine nz (hK8 _ ?_));clear hK8 K8;(refine WpL.go _ rfl fun Y y=>?_);repeat (first|(apply fw;focus ((with_reducible constructor)<;>constructor))|((first|with_reducible refine ga _ rfl fun Y y=>?_|apply ri);simp only [zb,seval,aL,kcc,aK];refine fz y ?_;clear y Y))))))
     refine cz (b5) ?_
     (refine WpL.go _ rfl fun Y y=>?_);repeat (first|(apply fw;focus ((with_reducible constructor)<;>constructor))|((first|with_reducible refine ga _ rfl fun Y y=>?_|apply ri);simp only [zb,seval,aL,kcc,aK];refine fz y ?_;clear y Y))
     refine cz (hei) ?_
     (refine WpL.go _ rfl fun Y y=>?_);repeat (first|(apply fw;focus ((with_reducible constructor)<;>constructor))|((first|with_reducible refine ga _ rfl fun Y y=>?_|apply ri);simp only [zb,seval,aL,kcc,aK];refine fz y ?_;clear y Y))
     refine cz (b6) ?_
     (refine WpL.go _ rfl fun Y y=>?_);repeat (first|(apply fw;focus ((with_reducible constructor)<;>constructor))|((first|with_reducible refine ga _ rfl fun Y y=>?_|apply ri);simp only [zb,seval,aL,kcc,aK,hel2];refine fz y ?_;clear y Y))
     (refine WpL.frz 204 (T7.length+1) (by rfl) (by first|rfl|(simp only [zz,aK,hel2];rfl)|(simp only [zz,aK,hel2])) (by first|rfl|(simp [aK,hel2];done)|(simp [aK,hel2];omega)) (by simp [ksh]) ?_);simp only [zz,aK,hel2]
     refine cz (hcl2) ?_
     (refine WpL.go _ rfl fun Y y=>?_);repeat (first|(apply fw;focus ((with_reducible constructor)<;>constructor))|((first|with_reducible refine ga _ rfl fun Y y=>?_|apply ri);simp only [zb,seval,aL,kcc,aK];refine fz y ?_;clear y Y))
     (refine WpA.draw0 4 _ _ _ rfl rfl rfl (by kernel_rfl) (by kernel_rfl) (by kernel_rfl) fun K8 hK8=>?_);simp only [zz] at hK8 ⊢;(refine Draw0.go fun K7 k=>?_);simp only [zb,seval,aL,kcc,aK];(refine qz (k _ _ ?_));clear k K7
     refine Draw0.step (oz (b7)) ?_
     (refine Draw0.go fun K7 k=>?_);simp only [zb,seval,aL,kcc,aK,h07'];(refine qz (k _ _ ?_));clear k K7;(try ((refine Draw0.nil (hK8 _ ?_));clear hK8 K8;(refine WpL.go _ rfl fun Y y=>?_);repeat (first|(apply fw;focus ((with_reducible constructor)<;>constructor))|((first|with_reducible refine ga _ rfl fun Y y=>?_|apply ri);simp only [zb,seval,aL,kcc,aK,h07'];refine fz y ?_;clear y Y))))
     refine ye (by simp only [zb,seval,aL,kcc,hset7];rfl) (by simp only [zv,kcc,hset7];rfl) ?_
     rfl
    | cons f fs =>
     have hg1:decide ((1:Int)<(q.length:Int))=true:=by rw [←hqr];simp;omega
     have hsq0:=gE hE (f::fs) gB.tail
     have wsq:=kK hE (f::fs)
     have bs:=aD (max E1 (ev.e e).2) (fL ev.e (f::fs)).2 (by omega) wsq
     simp only [rsA] at hsq0
     rw [KW,hqr]
     (refine WpL.go _ rfl fun Y y=>?_);repeat (first|(apply fw;focus ((with_reducible constructor)<;>constructor))|((first|with_reducible refine ga _ rfl fun Y y=>?_|apply ri);simp only [zb,seval,aL,kcc,hqz,q0];refine fz y ?_;clear y Y))
     refine cz (hx) ?_
     (refine WpL.go _ rfl fun Y y=>?_);repeat (first|(apply fw;focus ((with_reducible constructor)<;>constructor))|((first|with_reducible refine ga _ rfl fun Y y=>?_|apply ri);simp only [zb,seval,aL,kcc,aK];refine fz y ?_;clear y Y))
     refine cz (bt) ?_
     (refine WpL.go _ rfl fun Y y=>?_);repeat (first|(apply fw;focus ((with_reducible constructor)<;>constructor))|((first|with_reducible refine ga _ rfl fun Y y=>?_|apply ri);simp only [zb,seval,aL,kcc,aK];refine fz y ?_;clear y Y))
     refine cz (hno) ?_
     (refine WpL.go _ rfl fun Y y=>?_);repeat (first|(apply fw;focus ((with_reducible constructor)<;>constructor))|((first|with_reducible refine ga _ rfl fun Y y=>?_|apply ri);simp only [zb,seval,aL,kcc,aK,hg1,gn,g11,qt,qd];refine fz y ?_;clear y Y))
     refine cz (hsq0) ?_
     (refine WpL.go _ rfl fun Y y=>?_);repeat (first|(apply fw;focus ((with_reducible constructor)<;>constructor))|((first|with_reducible refine ga _ rfl fun Y y=>?_|apply ri);simp only [zb,seval,aL,kcc,aK];refine fz y ?_;clear y Y))
     refine cz (bs) ?_
     generalize hE2:max (max E1 (ev.e e).2) (fL ev.e (f::fs)).2=E2 at *
     have wE2:E2≤2:=by omega
     generalize hLK:(fL ev.e (f::fs)).1=LK at *
     (refine WpL.go _ rfl fun Y y=>?_);repeat (first|(apply fw;focus ((with_reducible constructor)<;>constructor))|((first|with_reducible refine ga _ rfl fun Y y=>?_|apply ri);simp only [zb,seval,aL,kcc,aK,gn,g22,gt,gdd];refine fz y ?_;clear y Y))
     refine WpL.frzP 16 S3.length rfl (by simp only [aK];rfl) (K.cc_shut _) ?_
     simp only [aK]
     refine WpL.frzP 17 (S3.length+1) rfl (by simp only [aK];rfl) (K.cc_shut _) ?_
     simp only [aK]
     refine WpL.handAll rfl (aB (P:=Tryz.prog) rfl) rfl rfl (by kernel_rfl) (ALes.refl _) (ET hE r hr _) ?_
     rintro _ S5 ⟨cB,rfl,hAB,hfrB,hlB,hkB⟩
     have h05:=hkB 0 _ (dB h03)
     have hcl:=fM (bL eK::(aZ ev.e sts).1)
     have wA:=fD (bL eK::(aZ ev.e sts).1)
     simp only [rsA,List.map_cons] at hcl
     unfold DD
     dsimp only
     generalize hBd:aZ ev.e r=Bd at *
     generalize hSt:aZ ev.e sts=St at *
     generalize hIn:aZ ev.e ins=In at *
     generalize hAg:dL (bL eK::St.1)=Ag at *
     have hsq:=oZ (Bd.1++[Ag.1])
     have hbr:=dZ (ev.e e).1 LK (gR (Bd.1++[Ag.1]))
     have hlm:=jT ns ⟨#[]⟩ (aI (ev.e e).1 LK (gR (Bd.1++[Ag.1]))) (by omega)
     have hlme:fQ ns e0 (aI (ev.e e).1 LK (gR (Bd.1++[Ag.1])))=fQ ns ⟨#[]⟩ (aI (ev.e e).1 LK (gR (Bd.1++[Ag.1]))):=rfl
     have wF:=lT ns ⟨#[]⟩ (aI (ev.e e).1 LK (gR (Bd.1++[Ag.1])))
     rw [hlme]
     simp only [rsA] at hlm
     generalize fQ ns ⟨#[]⟩ (aI (ev.e e).1 LK (gR (Bd.1++[Ag.1])))=F at *
     have hrc:=iK [eK] [F.1] (bL eK) (by simp) rfl
     have wX:=mD [eK] [F.1] (bL eK)
     simp only [rsA,List.map_cons,List.map_nil,dQ] at hrc
     generalize mC [eK] [F.1] (bL eK)=X at *
     have hcl2:=fM (X.1::In.1)
     have wC:=fD (X.1::In.1)
     simp only [rsA,List.map_cons] at hcl2
     generalize dL (X.1::In.1)=C0 at *
     have b1:=aD E2 Bd.2 (by omega) wB
     have b2:=aD (max E2 Bd.2) St.2 (by omega) wS
     have b3:=aD (max (max E2 Bd.2) St.2) Ag.2 (by omega) wA
     have b4:=aD (max (max (max E2 Bd.2) St.2) Ag.2) F.2 (by omega) wF
     have b5:=aD (max (max (max (max E2 Bd.2) St.2) Ag.2) F.2) X.2 (by omega) wX
     have b6:=aD (max (max (max (max (max E2 Bd.2) St.2) Ag.2) F.2) X.2) In.2 (by omega) wI
     have b7:=aD (max (max (max (max (max (max E2 Bd.2) St.2) Ag.2) F.2) X.2) In.2) C0.2 (by omega) wC
     (refine WpL.go _ rfl fun Y y=>?_);repeat (first|(apply fw;focus ((with_reducible constructor)<;>constructor))|((first|with_reducible refine ga _ rfl fun Y y=>?_|apply ri);simp only [zb,seval,aL,kcc,aK];refine fz y ?_;clear y Y))
     refine cz (b1) ?_
     (refine WpL.go _ rfl fun Y y=>?_);repeat (first|(apply fw;focus ((with_reducible constructor)<;>constructor))|((first|with_reducible refine ga _ rfl fun Y y=>?_|apply ri);simp only [zb,seval,aL,kcc,aK];refine fz y ?_;clear y Y))
     refine cz (hec) ?_
     (refine WpL.go _ rfl fun Y y=>?_);repeat (first|(apply fw;focus ((with_reducible constructor)<;>constructor))|((first|with_reducible refine ga _ rfl fun Y y=>?_|apply ri);simp only [zb,seval,aL,kcc,aK];refine fz y ?_;clear y Y))
     refine cz (b2) ?_
     (refine WpL.go _ rfl fun Y y=>?_);repeat (first|(apply fw;focus ((with_reducible constructor)<;>constructor))|((first|with_reducible refine ga _ rfl fun Y y=>?_|apply ri);simp only [zb,seval,aL,kcc,aK,hel];refine fz y ?_;clear y Y))
     refine cz (hrl) ?_
     (refine WpL.go _ rfl fun Y y=>?_);repeat (first|(apply fw;focus ((with_reducible constructor)<;>constructor))|((first|with_reducible refine ga _ rfl fun Y y=>?_|apply ri);simp only [zb,seval,aL,kcc,aK,hel];refine fz y ?_;clear y Y))
     (refine WpL.frz 158 (S5.length) (by rfl) (by first|rfl|(simp only [zz,aK,hel];rfl)|(simp only [zz,aK,hel])) (by first|rfl|(simp [aK,hel];done)|(simp [aK,hel];omega)) (by simp [ksh]) ?_);simp only [zz,aK,hel]
     refine cz (hcl) ?_
     (refine WpL.go _ rfl fun Y y=>?_);repeat (first|(apply fw;focus ((with_reducible constructor)<;>constructor))|((first|with_reducible refine ga _ rfl fun Y y=>?_|apply ri);simp only [zb,seval,aL,kcc,aK];refine fz y ?_;clear y Y))
     refine cz (b3) ?_
     (refine WpL.go _ rfl fun Y y=>?_);repeat (first|(apply fw;focus ((with_reducible constructor)<;>constructor))|((first|with_reducible refine ga _ rfl fun Y y=>?_|apply ri);simp only [zb,seval,aL,kcc,aK];refine fz y ?_;clear y Y))
     refine WpA.frzP 20 (S5.length+1) rfl (by simp only [aK];rfl) (K.cc_shut _) ?_
     simp only [aK]
     have h0T:(S5++[none,none])[0]?=_:=dB (T:=[none,none]) h05
     have hB0:∀m,cB≠.ms 0 m:=fun m e=>by have:=hfrB _ _ e;rw [List.length_append] at this;omega
     have hAT:At 31 11 (S5++[none,none]) cB (Bd.1.map K.cc):=hAB.app _
     generalize (S5++[none,none]:List (Option Ob))=T at *
     obtain⟨T6,hl6,hk6,hop6⟩:=OpS.appFrz (P:=Tryz.prog) (T:=29) (by_:=176) bM bO bP (by omega) hAT.au (new:=[Ag.1.cc]) (by simp [kcc]) (by simp) (rQ _) (by simp [ksh]) (by simp [heb];omega) (by simp [heb];omega)
     have h06:=hk6 0 _ h0T hB0
     have hT6:=(List.getElem?_eq_some_iff.1 h06).1
     have h06':∀X,(T6++X)[0]?=_:=fun X=>dB h06
     have hset6:∀(X:List (Option Ob)) (a:Option Ob),((T6++X).set 0 a)[0]?=some a:=fun X a=>List.getElem?_set_self (by simp;omega)
     rw [show Bd.1.map K.cc++[Ag.1.cc]=(Bd.1++[Ag.1]).map K.cc by simp] at hop6
     have hle:∀s∈[T,T6,T++[some ⟨31,11,[[.v (.int .i64 0),.v (.string ⟨#[]⟩),.v (.string ⟨#[]⟩),.v (.slice none 0 0),.v (.int .i64 0),.v (.int .i32 0),.v (.bool false),.v (.slice none 0 0),.v (.string ⟨#[]⟩),.v (.slice none 0 0),.v (.slice none 0 0)]]⟩],T6++[some ⟨31,11,[[.v (.int .i64 0),.v (.string ⟨#[]⟩),.v (.string ⟨#[]⟩),.v (.slice none 0 0),.v (.int .i64 0),.v (.int .i32 0),.v (.bool false),.v (.slice none 0 0),.v (.string ⟨#[]⟩),.v (.slice none 0 0),.v (.slice none 0 0)]]⟩],T6++[some ⟨31,11,[F.1.cc]⟩]],LeS [] s:=fun s _=>LeS.of (SLe.nil s)
     skip
     skip
     refine WpA.draw2 15 [6,13,14] [] [[],[6],[13],[6,13],[6,13,14]] [T,T6,T++[some ⟨31,11,[[.v (.int .i64 0),.v (.string ⟨#[]⟩),.v (.string ⟨#[]⟩),.v (.slice none 0 0),.v (.int .i64 0),.v (.int .i32 0),.v (.bool false),.v (.slice none 0 0),.v (.string ⟨#[]⟩),.v (.slice none 0 0),.v (.slice none 0 0)]]⟩],T6++[some ⟨31,11,[[.v (.int .i64 0),.v (.string ⟨#[]⟩),.v (.string ⟨#[]⟩),.v (.slice none 0 0),.v (.int .i64 0),.v (.int .i32 0),.v (.bool false),.v (.slice none 0 0),.v (.string ⟨#[]⟩),.v (.slice none 0 0),.v (.slice none 0 0)]]⟩],T6++[some ⟨31,11,[F.1.cc]⟩]] 4 _ _ _ _ rfl rfl rfl (by kernel_rfl) (by kernel_rfl) (by kernel_rfl) (by kernel_rfl) rfl rfl rfl (by decide) fun K8 hK8=>?_
     simp only [zz] at hK8 ⊢
     (refine Draw2.go fun K7 hK7=>?_);simp only [zb,seval,aL,kcc];(refine RunQ.mk (by first|(simp;done)|omega|(simp;omega)) (hK7 _ _ (by rfl) ?_));clear hK7 K7;(simp only [zz,Nat.reduceAdd,Nat.reduceSub]);(try ((refine Draw2.nil (kE (hle)) (hK8 _ ?_));clear hK8 K8;(refine WpL.go _ rfl fun Y y=>?_);repeat (first|(apply fw;focus ((with_reducible constructor)<;>constructor))|((first|with_reducible refine ga _ rfl fun Y y=>?_|apply ri);simp only [zb,seval,aL,kcc];refine fz y ?_;clear y Y))))
     refine Draw2.step (by rfl) (fun s9 _=>OpS.frozen (n:=1) (wd:=11) (ty:=31) (rows:=[Ag.1.cc]) (OpS.eff [(170,_)] rfl (by rfl) ⟨rfl,trivial⟩ (by simp only [zb,seval,aL,kcc];rfl) (by simp)) rfl (by simp [ksh])) ?_;simp only [bH]
     refine Draw2.eff (x:=.one (.sl 11 ((Bd.1++[Ag.1]).map K.cc))) [(0,1),(2,3)] rfl rfl (by kernel_rfl) (fun t ht s s' h1 h2=>?_) ?_
     ·simp only [List.mem_cons,List.not_mem_nil,or_false] at ht
      rcases ht with rfl|rfl<;>(cases h1;cases h2)
      ·have:=fun {nt ds d ty pos aft g e t1 t2}=>hop6 [] (nt:=nt) (ds:=ds) (d:=d) (ty:=ty) (pos:=pos) (aft:=aft) (g:=g) (e:=e) (t1:=t1) (t2:=t2)
       simp only [List.append_nil] at this
       exact this rfl (by rfl) rfl rfl (by decide)
      ·exact hop6 _ rfl (by rfl) rfl rfl (by decide)
     simp only [bH]
     (refine Draw2.go fun K7 hK7=>?_);simp only [zb,seval,aL,kcc];(refine RunQ.mk (by first|(simp;done)|omega|(simp;omega)) (hK7 _ _ (by rfl) ?_));clear hK7 K7;(simp only [zz,Nat.reduceAdd,Nat.reduceSub]);(try ((refine Draw2.nil (kE (hle)) (hK8 _ ?_));clear hK8 K8;(refine WpL.go _ rfl fun Y y=>?_);repeat (first|(apply fw;focus ((with_reducible constructor)<;>constructor))|((first|with_reducible refine ga _ rfl fun Y y=>?_|apply ri);simp only [zb,seval,aL,kcc];refine fz y ?_;clear y Y))))
     refine Draw2.step (by rfl) (fun s9 _=>oz (hsq)) ?_
     (refine Draw2.go fun K7 hK7=>?_);simp only [zb,seval,aL,kcc];(refine RunQ.mk (by first|(simp;done)|omega|(simp;omega)) (hK7 _ _ (by rfl) ?_));clear hK7 K7;(simp only [zz,Nat.reduceAdd,Nat.reduceSub]);(try ((refine Draw2.nil (kE (hle)) (hK8 _ ?_));clear hK8 K8;(refine WpL.go _ rfl fun Y y=>?_);repeat (first|(apply fw;focus ((with_reducible constructor)<;>constructor))|((first|with_reducible refine ga _ rfl fun Y y=>?_|apply ri);simp only [zb,seval,aL,kcc];refine fz y ?_;clear y Y))))
     refine Draw2.step (by rfl) (fun s9 _=>oz (hbr)) ?_
     (refine Draw2.go fun K7 hK7=>?_);simp only [zb,seval,aL,kcc];(refine RunQ.mk (by first|(simp;done)|omega|(simp;omega)) (hK7 _ _ (by rfl) ?_));clear hK7 K7;(simp only [zz,Nat.reduceAdd,Nat.reduceSub]);(try ((refine Draw2.nil (kE (hle)) (hK8 _ ?_));clear hK8 K8;(refine WpL.go _ rfl fun Y y=>?_);repeat (first|(apply fw;focus ((with_reducible constructor)<;>constructor))|((first|with_reducible refine ga _ rfl fun Y y=>?_|apply ri);simp only [zb,seval,aL,kcc];refine fz y ?_;clear y Y))))
     refine Draw2.step (by rfl) (fun s9 _=>oz (hlm)) ?_
     (refine Draw2.go fun K7 hK7=>?_);simp only [zb,seval,aL,kcc];(refine RunQ.mk (by first|(simp;done)|omega|(simp;omega)) (hK7 _ _ (by rfl) ?_));clear hK7 K7;(simp only [zz,Nat.reduceAdd,Nat.reduceSub]);(try ((refine Draw2.nil (kE (hle)) (hK8 _ ?_));clear hK8 K8;(refine WpL.go _ rfl fun Y y=>?_);repeat (first|(apply fw;focus ((with_reducible constructor)<;>constructor))|((first|with_reducible refine ga _ rfl fun Y y=>?_|apply ri);simp only [zb,seval,aL,kcc];refine fz y ?_;clear y Y))))
     refine Draw2.eff (x:=.one (.ptr T6.length 1 0 0)) [(0,2),(1,3)] rfl rfl (by kernel_rfl) (fun t ht s s' h1 h2=>?_) ?_
     ·simp only [List.mem_cons,List.not_mem_nil,or_false] at ht
      rcases ht with rfl|rfl<;>(cases h1;cases h2)
      ·rw [hl6];exact OpS.eff [] rfl (by rfl) trivial (by first|(simp only [zb,seval,aL];done)|(simp only [zb,seval,aL];rfl)) trivial
      ·exact OpS.eff [] rfl (by rfl) trivial (by first|(simp only [zb,seval,aL];done)|(simp only [zb,seval,aL];rfl)) trivial
     simp only [bH]
     (refine Draw2.go fun K7 hK7=>?_);simp only [zb,seval,aL,kcc];(refine RunQ.mk (by first|(simp;done)|omega|(simp;omega)) (hK7 _ _ (by rfl) ?_));clear hK7 K7;(simp only [zz,Nat.reduceAdd,Nat.reduceSub]);(try ((refine Draw2.nil (kE (hle)) (hK8 _ ?_));clear hK8 K8;(refine WpL.go _ rfl fun Y y=>?_);repeat (first|(apply fw;focus ((with_reducible constructor)<;>constructor))|((first|with_reducible refine ga _ rfl fun Y y=>?_|apply ri);simp only [zb,seval,aL,kcc];refine fz y ?_;clear y Y))))
     refine Draw2.eff (x:=.any) [(3,4)] rfl rfl (by kernel_rfl) (fun t ht s s' h1 h2=>?_) ?_
     ·simp only [List.mem_cons,List.not_mem_nil,or_false] at ht
      subst ht
      cases h1;cases h2
      exact OpS.eff [(21,_),(176,_)] rfl (by rfl) ⟨rfl,rfl,trivial⟩ (by simp only [zb,seval,aL,kcc,aK];rfl) (by simp [kcc])
     simp only [bH]
     (refine Draw2.go fun K7 hK7=>?_);simp only [zb,seval,aL,kcc,aK];(refine RunQ.mk (by first|(simp;done)|omega|(simp;omega)) (hK7 _ _ (by rfl) ?_));clear hK7 K7;(simp only [zz,Nat.reduceAdd,Nat.reduceSub]);(try ((refine Draw2.nil (kE (hle)) (hK8 _ ?_));clear hK8 K8;(refine WpL.go _ rfl fun Y y=>?_);repeat (first|(apply fw;focus ((with_reducible constructor)<;>constructor))|((first|with_reducible refine ga _ rfl fun Y y=>?_|apply ri);simp only [zb,seval,aL,kcc,aK];refine fz y ?_;clear y Y))))
     skip
     skip
     refine cz (b4) ?_
     (refine WpL.go _ rfl fun Y y=>?_);repeat (first|(apply fw;focus ((with_reducible constructor)<;>constructor))|((first|with_reducible refine ga _ rfl fun Y y=>?_|apply ri);simp only [zb,seval,aL,kcc,aK];refine fz y ?_;clear y Y))
     refine WpA.frzP 21 T6.length rfl (by simp only [aK];rfl) (K.cc_shut _) ?_
     simp only [aK]
     have h07:=h06' [none]
     generalize (T6++[none]:List (Option Ob))=T7 at *
     have hT7:=(List.getElem?_eq_some_iff.1 h07).1
     have h07':∀X,(T7++X)[0]?=_:=fun X=>dB h07
     have hset7:∀(X:List (Option Ob)) (a:Option Ob),((T7++X).set 0 a)[0]?=some a:=fun X a=>List.getElem?_set_self (by simp;omega)
     (refine WpA.draw1c 10 [8,9] [_,?_,?_] _ _ _ _ rfl rfl rfl (by kernel_rfl) (by kernel_rfl) (by kernel_rfl) (by kernel_rfl) rfl rfl rfl rfl (by decide) fun K8 hK8=>?_);rotate_left 2;simp only [zz] at hK8 ⊢;(refine Draw1.go fun K7 k=>?_);simp only [zb,seval,aL,kcc,aK];(refine qz (k _ _ (by rfl) ?_));clear k K7;(simp only [zz,Nat.reduceAdd,Nat.reduceSub])
     refine Draw1.step (by rfl) (fun s9 _=>OpS.frozen (n:=1) (wd:=1) (ty:=9) (rows:=[[.v (.string eK)]]) (OpS.eff [] rfl (by rfl) trivial (by simp only [zb,seval,aL,kcc];rfl) (by simp)) rfl (by simp [ksh])) ?_;simp only [bH]
     (refine Draw1.go fun K7 k=>?_);simp only [zb,seval,aL,kcc,aK];(refine qz (k _ _ (by rfl) ?_));clear k K7;(simp only [zz,Nat.reduceAdd,Nat.reduceSub])
     refine Draw1.step (by rfl) (fun s9 _=>OpS.frozen (n:=1) (wd:=11) (ty:=31) (rows:=[F.1.cc]) (OpS.eff [(183,_)] rfl (by rfl) ⟨rfl,trivial⟩ (by simp only [zb,seval,aL,kcc];rfl) (by simp)) rfl (by simp [ksh])) ?_;simp only [bH]
     refine Draw1.step (by rfl) (fun s9 _=>oz (hrl)) ?_
     (refine Draw1.go fun K7 k=>?_);simp only [zb,seval,aL,kcc,aK];(refine qz (k _ _ (by rfl) ?_));clear k K7;(simp only [zz,Nat.reduceAdd,Nat.reduceSub])
     refine Draw1.step (by rfl) (fun s9 _=>oz (hrc)) ?_
     (refine Draw1.go fun K7 k=>?_);simp only [zb,seval,aL,kcc,aK];(refine qz (k _ _ (by rfl) ?_));clear k K7;(simp only [zz,Nat.reduceAdd,Nat.reduceSub])
     refine Draw1.eff 0 rfl rfl rfl (OpS.eff [] rfl (by rfl) trivial (by simp only [zb,seval,aL,kcc,aK];rfl) (by first|(simp;done)|omega|(simp;omega))) ?_;(try simp only [bH]);(try ((refine Draw1.go fun K7 k=>?_);simp only [zb,seval,aL,kcc,aK];(refine qz (k _ _ (by rfl) ?_));clear k K7;(simp only [zz,Nat.reduceAdd,Nat.reduceSub]);(try ((refine nz (hK8 _ ?_));clear hK8 K8;(refine WpL.go _ rfl fun Y y=>?_);repeat (first|(apply fw;focus ((with_reducible constructor)<;>constructor))|((first|with_reducible refine ga _ rfl fun Y y=>?_|apply ri);simp only [zb,seval,aL,kcc,aK];refine fz y ?_;clear y Y))))))
     refine Draw1.eff 1 rfl rfl rfl (OpS.eff [(22,_),(187,_)] rfl (by rfl) ⟨rfl,rfl,trivial⟩ (by simp only [zb,seval,aL,kcc,aK];rfl) (by first|(simp;done)|omega|(simp;omega))) ?_;(try simp only [bH]);(try ((refine Draw1.go fun K7 k=>?_);simp only [zb,seval,aL,kcc,aK];(refine qz (k _ _ (by rfl) ?_));clear k K7;(simp only [zz,Nat.reduceAdd,Nat.reduceSub]);(try ((refine nz (hK8 _ ?_));clear hK8 K8;(refine WpL.go _ rfl fun Y y=>?_);repeat (first|(apply fw;focus ((with_reducible constructor)<;>constructor))|((first|with_reducible refine ga _ rfl fun Y y=>?_|apply ri);simp only [zb,seval,aL,kcc,aK];refine fz y ?_;clear y Y))))))
     refine cz (b5) ?_
     (refine WpL.go _ rfl fun Y y=>?_);repeat (first|(apply fw;focus ((with_reducible constructor)<;>constructor))|((first|with_reducible refine ga _ rfl fun Y y=>?_|apply ri);simp only [zb,seval,aL,kcc,aK];refine fz y ?_;clear y Y))
     refine cz (hei) ?_
     (refine WpL.go _ rfl fun Y y=>?_);repeat (first|(apply fw;focus ((with_reducible constructor)<;>constructor))|((first|with_reducible refine ga _ rfl fun Y y=>?_|apply ri);simp only [zb,seval,aL,kcc,aK];refine fz y ?_;clear y Y))
     refine cz (b6) ?_
     (refine WpL.go _ rfl fun Y y=>?_);repeat (first|(apply fw;focus ((with_reducible constructor)<;>constructor))|((first|with_reducible refine ga _ rfl fun Y y=>?_|apply ri);simp only [zb,seval,aL,kcc,aK,hel2];refine fz y ?_;clear y Y))
     (refine WpL.frz 204 (T7.length+1) (by rfl) (by first|rfl|(simp only [zz,aK,hel2];rfl)|(simp only [zz,aK,hel2])) (by first|rfl|(simp [aK,hel2];done)|(simp [aK,hel2];omega)) (by simp [ksh]) ?_);simp only [zz,aK,hel2]
     refine cz (hcl2) ?_
     (refine WpL.go _ rfl fun Y y=>?_);repeat (first|(apply fw;focus ((with_reducible constructor)<;>constructor))|((first|with_reducible refine ga _ rfl fun Y y=>?_|apply ri);simp only [zb,seval,aL,kcc,aK];refine fz y ?_;clear y Y))
     (refine WpA.draw0 4 _ _ _ rfl rfl rfl (by kernel_rfl) (by kernel_rfl) (by kernel_rfl) fun K8 hK8=>?_);simp only [zz] at hK8 ⊢;(refine Draw0.go fun K7 k=>?_);simp only [zb,seval,aL,kcc,aK];(refine qz (k _ _ ?_));clear k K7
     refine Draw0.step (oz (b7)) ?_
     (refine Draw0.go fun K7 k=>?_);simp only [zb,seval,aL,kcc,aK,h07'];(refine qz (k _ _ ?_));clear k K7;(try ((refine Draw0.nil (hK8 _ ?_));clear hK8 K8;(refine WpL.go _ rfl fun Y y=>?_);repeat (first|(apply fw;focus ((with_reducible constructor)<;>constructor))|((first|with_reducible refine ga _ rfl fun Y y=>?_|apply ri);simp only [zb,seval,aL,kcc,aK,h07'];refine fz y ?_;clear y Y))))
     refine ye (by simp only [zb,seval,aL,kcc,hset7];rfl) (by simp only [zv,kcc,hset7];rfl) ?_
     rfl
theorem vT (d:D):(bC d).2.2≤2:=by rw [AP];exact Nat.max_le.2 ⟨iR d,RU _⟩
theorem KY {n:Nat} {ev:Ev} (hE:HE n ev) (l:List D):(mZ ev l).2≤2:=by
 match l with
 | []=>exact Nat.le_refl _
 | [_]=>exact Nat.le_refl _
 | a::b::r =>
  have hbe:=vT b
  have w1:=eU a
  have w2:=kW (bC b).1
  have w3:=hE.b2 r
  have w4:=lT (bC b).1 e0 (ev.b r).1
  have w5:=eN hE (bC b).2.1
  unfold mZ;dsimp only
  have w6:=mD [(bR a).1] [(fQ (bC b).1 e0 (ev.b r).1).1] (bL (bR a).1)
  have w7:=fD ((mC [(bR a).1] [(fQ (bC b).1 e0 (ev.b r).1).1] (bL (bR a).1)).1::(aZ ev.e (bC b).2.1).1)
  omega
theorem UD {n:Nat} {ev:Ev} (hE:HE n ev) (l:List D):(zY ev l).2≤2:=by
 match l with
 | []=>exact Nat.le_refl _
 | a::r =>
  show (if a.k=6 then mZ ev (a::r) else ((fT ev (bC a).1 (ev.b r).1 (bC a).2.1).1,max (max (max (bC a).2.2 (ev.b r).2) (unl (bC a).1)) (fT ev (bC a).1 (ev.b r).1 (bC a).2.1).2)).2≤2
  split
  ·exact KY hE _
  ·have hbe:=vT a
   have w1:=kW (bC a).1
   have w2:=hE.b2 r
   have w3:=kX ev hE (bC a).1 (ev.b r).1 (bC a).2.1
   dsimp only;omega
theorem IR {n:Nat} {ev:Ev} (hE:HE n ev) (l:List D):(kF ev l).2≤2:=by
 match l with
 | []=>exact Nat.le_refl _
 | a::r =>
  have hbe:=vT a
  have w2:=hE.b2 r
  have w3:=kX ev hE [] (ev.b r).1 []
  exact AR hE _ _ (by dsimp only;omega)
theorem KZ {n:Nat} {ev:Ev} (hE:HE n ev) (l:List D):(kG ev l).2≤2:=by
 match l with
 | []=>exact Nat.le_refl _
 | a::r =>
  have hbe:=vT a
  have w2:=hE.b2 r
  have w3:=eN hE (bC a).2.1
  have w4:=mD (bC a).1 (aZ ev.e (bC a).2.1).1 (ev.b r).1
  unfold kG;dsimp only;omega
theorem IU {n:Nat} {ev:Ev} (hE:HE n ev) (w:ByteArray) (l:List D):(bK ev w l).2≤2:=by
 unfold bK
 repeat' split
 ·exact UD hE l
 ·exact IR hE l
 ·exact KZ hE l
 ·exact AU hE l
 ·exact OW hE l
 ·exact sO hE _ l
 ·exact sO hE _ l
 ·exact Nat.le_refl _
theorem EV {n:Nat} {ev:Ev} (hE:HE n ev) (w:ByteArray) (l:List D) (hl:Gds n l):Pure Tryz.prog 113 [.one (.v (.string w)),.one (.sl 6 (l.map D.cc))] (rsA (bK ev w l)):=by
 by_cases ksLet:w=lR
 ·subst ksLet
  have hc:=SA hE l hl
  rw [show bK ev lR l=zY ev l by unfold bK;(iterate 0 rw [if_neg (by decide)]);rw [if_pos (by decide)]]
  have q0:eqB lR ⟨#[108,101,116]⟩=true:=aY rfl
  have q1:eqB lR ⟨#[108,101,116,42]⟩=false:=aA (by decide)
  have q2:eqB lR ⟨#[108,101,116,114,101,99]⟩=false:=aA (by decide)
  have q3:eqB lR ⟨#[108,101,116,114,101,99,42]⟩=false:=aA (by decide)
  have q4:eqB lR ⟨#[99,111,110,100]⟩=false:=aA (by decide)
  have q5:eqB lR ⟨#[100,111]⟩=false:=aA (by decide)
  have q6:eqB lR ⟨#[97,110,100]⟩=false:=aA (by decide)
  have q7:eqB lR ⟨#[111,114]⟩=false:=aA (by decide)
  simp only [rsA] at hc ⊢
  refine fi Tryz.func113 Tryz.ntmps113 Tryz.results113 ?_
  repeat (first|(apply fw;focus ((with_reducible constructor)<;>constructor))|((first|with_reducible refine ga _ rfl fun Y y=>?_|(refine ca ?_;apply Exists.intro;constructor;assumption;intro Y y)|apply ri);simp only [zb,seval,qT,kcc,cF,q0,q1,q2,q3,q4,q5,q6,q7];refine fz y ?_;clear y Y))
  refine ye (by simp only [zb,seval,qT,kcc];rfl) (by simp only [zv,kcc];rfl) ?_
  rfl
 by_cases ksLetS:w=mT
 ·subst ksLetS
  have hc:=ES hE l hl
  rw [show bK ev mT l=kF ev l by unfold bK;(iterate 1 rw [if_neg (by decide)]);rw [if_pos (by decide)]]
  have q0:eqB mT ⟨#[108,101,116]⟩=false:=aA (by decide)
  have q1:eqB mT ⟨#[108,101,116,42]⟩=true:=aY rfl
  have q2:eqB mT ⟨#[108,101,116,114,101,99]⟩=false:=aA (by decide)
  have q3:eqB mT ⟨#[108,101,116,114,101,99,42]⟩=false:=aA (by decide)
  have q4:eqB mT ⟨#[99,111,110,100]⟩=false:=aA (by decide)
  have q5:eqB mT ⟨#[100,111]⟩=false:=aA (by decide)
  have q6:eqB mT ⟨#[97,110,100]⟩=false:=aA (by decide)
  have q7:eqB mT ⟨#[111,114]⟩=false:=aA (by decide)
  simp only [rsA] at hc ⊢
  refine fi Tryz.func113 Tryz.ntmps113 Tryz.results113 ?_
  repeat (first|(apply fw;focus ((with_reducible constructor)<;>constructor))|((first|with_reducible refine ga _ rfl fun Y y=>?_|(refine ca ?_;apply Exists.intro;constructor;assumption;intro Y y)|apply ri);simp only [zb,seval,qT,kcc,cF,q0,q1,q2,q3,q4,q5,q6,q7];refine fz y ?_;clear y Y))
  refine ye (by simp only [zb,seval,qT,kcc];rfl) (by simp only [zv,kcc];rfl) ?_
  rfl
 by_cases ksLetrec:w=gP
 ·subst ksLetrec
  have hc:=xM hE l hl
  rw [show bK ev gP l=kG ev l by unfold bK;(iterate 2 rw [if_neg (by decide)]);rw [if_pos (by decide)]]
  have q0:eqB gP ⟨#[108,101,116]⟩=false:=aA (by decide)
  have q1:eqB gP ⟨#[108,101,116,42]⟩=false:=aA (by decide)
  have q2:eqB gP ⟨#[108,101,116,114,101,99]⟩=true:=aY rfl
  have q3:eqB gP ⟨#[108,101,116,114,101,99,42]⟩=false:=aA (by decide)
  have q4:eqB gP ⟨#[99,111,110,100]⟩=false:=aA (by decide)
  have q5:eqB gP ⟨#[100,111]⟩=false:=aA (by decide)
  have q6:eqB gP ⟨#[97,110,100]⟩=false:=aA (by decide)
  have q7:eqB gP ⟨#[111,114]⟩=false:=aA (by decide)
  simp only [rsA] at hc ⊢
  refine fi Tryz.func113 Tryz.ntmps113 Tryz.results113 ?_
  repeat (first|(apply fw;focus ((with_reducible constructor)<;>constructor))|((first|with_reducible refine ga _ rfl fun Y y=>?_|(refine ca ?_;apply Exists.intro;constructor;assumption;intro Y y)|apply ri);simp only [zb,seval,qT,kcc,cF,q0,q1,q2,q3,q4,q5,q6,q7];refine fz y ?_;clear y Y))
  refine ye (by simp only [zb,seval,qT,kcc];rfl) (by simp only [zv,kcc];rfl) ?_
  rfl
 by_cases ksLetrecS:w=fP
 ·subst ksLetrecS
  have hc:=xM hE l hl
  rw [show bK ev fP l=kG ev l by unfold bK;(iterate 2 rw [if_neg (by decide)]);rw [if_pos (by decide)]]
  have q0:eqB fP ⟨#[108,101,116]⟩=false:=aA (by decide)
  have q1:eqB fP ⟨#[108,101,116,42]⟩=false:=aA (by decide)
  have q2:eqB fP ⟨#[108,101,116,114,101,99]⟩=false:=aA (by decide)
  have q3:eqB fP ⟨#[108,101,116,114,101,99,42]⟩=true:=aY rfl
  have q4:eqB fP ⟨#[99,111,110,100]⟩=false:=aA (by decide)
  have q5:eqB fP ⟨#[100,111]⟩=false:=aA (by decide)
  have q6:eqB fP ⟨#[97,110,100]⟩=false:=aA (by decide)
  have q7:eqB fP ⟨#[111,114]⟩=false:=aA (by decide)
  simp only [rsA] at hc ⊢
  refine fi Tryz.func113 Tryz.ntmps113 Tryz.results113 ?_
  repeat (first|(apply fw;focus ((with_reducible constructor)<;>constructor))|((first|with_reducible refine ga _ rfl fun Y y=>?_|(refine ca ?_;apply Exists.intro;constructor;assumption;intro Y y)|apply ri);simp only [zb,seval,qT,kcc,cF,q0,q1,q2,q3,q4,q5,q6,q7];refine fz y ?_;clear y Y))
  refine ye (by simp only [zb,seval,qT,kcc];rfl) (by simp only [zv,kcc];rfl) ?_
  rfl
 by_cases ksCond:w=mV
 ·subst ksCond
  have hc:=DC hE l hl
  rw [show bK ev mV l=jG ev l by unfold bK;(iterate 3 rw [if_neg (by decide)]);rw [if_pos (by decide)]]
  have q0:eqB mV ⟨#[108,101,116]⟩=false:=aA (by decide)
  have q1:eqB mV ⟨#[108,101,116,42]⟩=false:=aA (by decide)
  have q2:eqB mV ⟨#[108,101,116,114,101,99]⟩=false:=aA (by decide)
  have q3:eqB mV ⟨#[108,101,116,114,101,99,42]⟩=false:=aA (by decide)
  have q4:eqB mV ⟨#[99,111,110,100]⟩=true:=aY rfl
  have q5:eqB mV ⟨#[100,111]⟩=false:=aA (by decide)
  have q6:eqB mV ⟨#[97,110,100]⟩=false:=aA (by decide)
  have q7:eqB mV ⟨#[111,114]⟩=false:=aA (by decide)
  simp only [rsA] at hc ⊢
  refine fi Tryz.func113 Tryz.ntmps113 Tryz.results113 ?_
  repeat (first|(apply fw;focus ((with_reducible constructor)<;>constructor))|((first|with_reducible refine ga _ rfl fun Y y=>?_|(refine ca ?_;apply Exists.intro;constructor;assumption;intro Y y)|apply ri);simp only [zb,seval,qT,kcc,cF,q0,q1,q2,q3,q4,q5,q6,q7];refine fz y ?_;clear y Y))
  refine ye (by simp only [zb,seval,qT,kcc];rfl) (by simp only [zv,kcc];rfl) ?_
  rfl
 by_cases ksDo:w=sDo
 ·subst ksDo
  have hc:=KX hE l hl
  rw [show bK ev sDo l=pZ ev l by unfold bK;(iterate 4 rw [if_neg (by decide)]);rw [if_pos (by decide)]]
  have q0:eqB sDo ⟨#[108,101,116]⟩=false:=aA (by decide)
  have q1:eqB sDo ⟨#[108,101,116,42]⟩=false:=aA (by decide)
  have q2:eqB sDo ⟨#[108,101,116,114,101,99]⟩=false:=aA (by decide)
  have q3:eqB sDo ⟨#[108,101,116,114,101,99,42]⟩=false:=aA (by decide)
  have q4:eqB sDo ⟨#[99,111,110,100]⟩=false:=aA (by decide)
  have q5:eqB sDo ⟨#[100,111]⟩=true:=aY rfl
  have q6:eqB sDo ⟨#[97,110,100]⟩=false:=aA (by decide)
  have q7:eqB sDo ⟨#[111,114]⟩=false:=aA (by decide)
  simp only [rsA] at hc ⊢
  refine fi Tryz.func113 Tryz.ntmps113 Tryz.results113 ?_
  repeat (first|(apply fw;focus ((with_reducible constructor)<;>constructor))|((first|with_reducible refine ga _ rfl fun Y y=>?_|(refine ca ?_;apply Exists.intro;constructor;assumption;intro Y y)|apply ri);simp only [zb,seval,qT,kcc,cF,q0,q1,q2,q3,q4,q5,q6,q7];refine fz y ?_;clear y Y))
  refine ye (by simp only [zb,seval,qT,kcc];rfl) (by simp only [zv,kcc];rfl) ?_
  rfl
 by_cases ksAnd:w=sU
 ·subst ksAnd
  have hc:=uB hE true sU (aY rfl) (aA (by decide)) l hl
  rw [show bK ev sU l=eS ev true l by unfold bK;(iterate 5 rw [if_neg (by decide)]);rw [if_pos (by decide)]]
  have q0:eqB sU ⟨#[108,101,116]⟩=false:=aA (by decide)
  have q1:eqB sU ⟨#[108,101,116,42]⟩=false:=aA (by decide)
  have q2:eqB sU ⟨#[108,101,116,114,101,99]⟩=false:=aA (by decide)
  have q3:eqB sU ⟨#[108,101,116,114,101,99,42]⟩=false:=aA (by decide)
  have q4:eqB sU ⟨#[99,111,110,100]⟩=false:=aA (by decide)
  have q5:eqB sU ⟨#[100,111]⟩=false:=aA (by decide)
  have q6:eqB sU ⟨#[97,110,100]⟩=true:=aY rfl
  have q7:eqB sU ⟨#[111,114]⟩=false:=aA (by decide)
  simp only [rsA] at hc ⊢
  refine fi Tryz.func113 Tryz.ntmps113 Tryz.results113 ?_
  repeat (first|(apply fw;focus ((with_reducible constructor)<;>constructor))|((first|with_reducible refine ga _ rfl fun Y y=>?_|(refine ca ?_;apply Exists.intro;constructor;assumption;intro Y y)|apply ri);simp only [zb,seval,qT,kcc,cF,q0,q1,q2,q3,q4,q5,q6,q7];refine fz y ?_;clear y Y))
  refine ye (by simp only [zb,seval,qT,kcc];rfl) (by simp only [zv,kcc];rfl) ?_
  rfl
 by_cases ksOr:w=sOr
 ·subst ksOr
  have hc:=uB hE false sOr (aA (by decide)) (aY rfl) l hl
  rw [show bK ev sOr l=eS ev false l by unfold bK;(iterate 6 rw [if_neg (by decide)]);rw [if_pos (by decide)]]
  have q0:eqB sOr ⟨#[108,101,116]⟩=false:=aA (by decide)
  have q1:eqB sOr ⟨#[108,101,116,42]⟩=false:=aA (by decide)
  have q2:eqB sOr ⟨#[108,101,116,114,101,99]⟩=false:=aA (by decide)
  have q3:eqB sOr ⟨#[108,101,116,114,101,99,42]⟩=false:=aA (by decide)
  have q4:eqB sOr ⟨#[99,111,110,100]⟩=false:=aA (by decide)
  have q5:eqB sOr ⟨#[100,111]⟩=false:=aA (by decide)
  have q6:eqB sOr ⟨#[97,110,100]⟩=false:=aA (by decide)
  have q7:eqB sOr ⟨#[111,114]⟩=true:=aY rfl
  simp only [rsA] at hc ⊢
  refine fi Tryz.func113 Tryz.ntmps113 Tryz.results113 ?_
  repeat (first|(apply fw;focus ((with_reducible constructor)<;>constructor))|((first|with_reducible refine ga _ rfl fun Y y=>?_|(refine ca ?_;apply Exists.intro;constructor;assumption;intro Y y)|apply ri);simp only [zb,seval,qT,kcc,cF,q0,q1,q2,q3,q4,q5,q6,q7];refine fz y ?_;clear y Y))
  refine ye (by simp only [zb,seval,qT,kcc];rfl) (by simp only [zv,kcc];rfl) ?_
  rfl
 have hw:Pure Tryz.prog 84 [.one (.v (.string w)),.one (.gv 1)] (.one (.er 2)):=dD _ 1
 have q0:eqB w ⟨#[108,101,116]⟩=false:=aA ksLet
 have q1:eqB w ⟨#[108,101,116,42]⟩=false:=aA ksLetS
 have q2:eqB w ⟨#[108,101,116,114,101,99]⟩=false:=aA ksLetrec
 have q3:eqB w ⟨#[108,101,116,114,101,99,42]⟩=false:=aA ksLetrecS
 have q4:eqB w ⟨#[99,111,110,100]⟩=false:=aA ksCond
 have q5:eqB w ⟨#[100,111]⟩=false:=aA ksDo
 have q6:eqB w ⟨#[97,110,100]⟩=false:=aA ksAnd
 have q7:eqB w ⟨#[111,114]⟩=false:=aA ksOr
 rw [show bK ev w l=(kz,2) by unfold bK;rw [if_neg ksLet,if_neg ksLetS,if_neg (by rintro (h|h);exact ksLetrec h;exact ksLetrecS h),if_neg ksCond,if_neg ksDo,if_neg ksAnd,if_neg ksOr]]
 refine fi Tryz.func113 Tryz.ntmps113 Tryz.results113 ?_
 repeat (first|(apply fw;focus ((with_reducible constructor)<;>constructor))|((first|with_reducible refine ga _ rfl fun Y y=>?_|(refine ca ?_;apply Exists.intro;constructor;assumption;intro Y y)|apply ri);simp only [zb,seval,qT,kcc,cF,q0,q1,q2,q3,q4,q5,q6,q7];refine fz y ?_;clear y Y))
 refine yl (by simp only [zb,seval,qT,kcc,rsA];rfl) (by simp only [zv,kcc,rsA];rfl) ((by simp only [rcc,rsA];exact ae)) rfl
theorem OY {n:Nat} {ev:Ev} (hE:HE n ev) (w:ByteArray) (l0:List D) (hl:Gds n l0):Pure Tryz.prog 89 [.one (.v (.string w)),.one (.sl 6 (l0.map D.cc))] (rsA (cQ ev w l0)):=by
 have hde:=EV hE w l0 hl
 have hbig:=hE.big
 simp only [rsA] at hde
  
  
 by_cases ksQuote:w=dN
 ·subst ksQuote
  have q0:eqB dN ⟨#[113,117,111,116,101]⟩=true:=aY rfl
  have q1:eqB dN ⟨#[113,117,97,115,105,113,117,111,116,101]⟩=false:=aA (by decide)
  have q2:eqB dN ⟨#[108,97,109,98,100,97]⟩=false:=aA (by decide)
  have q3:eqB dN ⟨#[115,101,116,33]⟩=false:=aA (by decide)
  have q4:eqB dN ⟨#[105,102]⟩=false:=aA (by decide)
  have q5:eqB dN ⟨#[98,101,103,105,110]⟩=false:=aA (by decide)
  have q6:eqB dN ⟨#[99,97,115,101]⟩=false:=aA (by decide)
  have q7:eqB dN ⟨#[119,104,101,110]⟩=false:=aA (by decide)
  have q8:eqB dN ⟨#[117,110,108,101,115,115]⟩=false:=aA (by decide)
  by_cases hn:l0.length=1
  ·obtain⟨a,rfl⟩:∃a,l0=[a]:=by match l0,hn with|[a],_=>exact⟨a,rfl⟩
   have hc:=iJ a (hl.head).2.1
   rw [show cQ ev dN [a]=(bT a,0) from rfl]
   simp only [List.map_cons,List.map_nil,rsA]
   refine fi Tryz.func89 Tryz.ntmps89 Tryz.results89 ?_
   repeat (first|(apply fw;focus ((with_reducible constructor)<;>constructor))|((first|with_reducible refine ga _ rfl fun Y y=>?_|(refine ca ?_;apply Exists.intro;constructor;assumption;intro Y y)|apply ri);simp only [zb,seval,w89,kcc,cF,q0,q1,q2,q3,q4,q5,q6,q7,q8];refine fz y ?_;clear y Y))
   refine ye (by simp only [zb,seval,w89,kcc];rfl) (by simp only [zv,kcc];rfl) ?_
   rfl
  ·have m1:((l0.length:Int) == 1)=false:=by simp;omega
   rw [show cQ ev dN l0=bK ev dN l0 by unfold cQ;(repeat rw [if_neg (by first|decide|assumption|(rintro ⟨h,-⟩;exact absurd h (by first|decide|assumption))|(rintro ⟨-,h⟩;omega))])]
   simp only [rsA]
   refine fi Tryz.func89 Tryz.ntmps89 Tryz.results89 ?_
   repeat (first|(apply fw;focus ((with_reducible constructor)<;>constructor))|((first|with_reducible refine ga _ rfl fun Y y=>?_|(refine ca ?_;apply Exists.intro;constructor;assumption;intro Y y)|apply ri);simp only [zb,seval,w89,kcc,cF,q0,q1,q2,q3,q4,q5,q6,q7,q8,m1];refine fz y ?_;clear y Y))
   refine ye (by simp only [zb,seval,w89,kcc];rfl) (by simp only [zv,kcc];rfl) ?_
   rfl
 by_cases ksQuasi:w=cE
 ·subst ksQuasi
  have q0:eqB cE ⟨#[113,117,111,116,101]⟩=false:=aA (by decide)
  have q1:eqB cE ⟨#[113,117,97,115,105,113,117,111,116,101]⟩=true:=aY rfl
  have q2:eqB cE ⟨#[108,97,109,98,100,97]⟩=false:=aA (by decide)
  have q3:eqB cE ⟨#[115,101,116,33]⟩=false:=aA (by decide)
  have q4:eqB cE ⟨#[105,102]⟩=false:=aA (by decide)
  have q5:eqB cE ⟨#[98,101,103,105,110]⟩=false:=aA (by decide)
  have q6:eqB cE ⟨#[99,97,115,101]⟩=false:=aA (by decide)
  have q7:eqB cE ⟨#[119,104,101,110]⟩=false:=aA (by decide)
  have q8:eqB cE ⟨#[117,110,108,101,115,115]⟩=false:=aA (by decide)
  by_cases hn:l0.length=1
  ·obtain⟨a,rfl⟩:∃a,l0=[a]:=by match l0,hn with|[a],_=>exact⟨a,rfl⟩
   have hc:Pure Tryz.prog 108 [.agg a.cc,.one (.v (.int .i64 1))] (rsA (ev.q a 1)):=hE.q a 1 hl.head (Nat.le_refl _) (by have:=hl.head.2.2;omega)
   rw [show cQ ev cE [a]=ev.q a 1 from rfl]
   simp only [List.map_cons,List.map_nil,rsA] at hc ⊢
   refine fi Tryz.func89 Tryz.ntmps89 Tryz.results89 ?_
   repeat (first|(apply fw;focus ((with_reducible constructor)<;>constructor))|((first|with_reducible refine ga _ rfl fun Y y=>?_|(refine ca ?_;apply Exists.intro;constructor;assumption;intro Y y)|apply ri);simp only [zb,seval,w89,kcc,cF,q0,q1,q2,q3,q4,q5,q6,q7,q8];refine fz y ?_;clear y Y))
   refine ye (by simp only [zb,seval,w89,kcc];rfl) (by simp only [zv,kcc];rfl) ?_
   rfl
  ·have m1:((l0.length:Int) == 1)=false:=by simp;omega
   rw [show cQ ev cE l0=bK ev cE l0 by unfold cQ;(repeat rw [if_neg (by first|decide|assumption|(rintro ⟨h,-⟩;exact absurd h (by first|decide|assumption))|(rintro ⟨-,h⟩;omega))])]
   simp only [rsA]
   refine fi Tryz.func89 Tryz.ntmps89 Tryz.results89 ?_
   repeat (first|(apply fw;focus ((with_reducible constructor)<;>constructor))|((first|with_reducible refine ga _ rfl fun Y y=>?_|(refine ca ?_;apply Exists.intro;constructor;assumption;intro Y y)|apply ri);simp only [zb,seval,w89,kcc,cF,q0,q1,q2,q3,q4,q5,q6,q7,q8,m1];refine fz y ?_;clear y Y))
   refine ye (by simp only [zb,seval,w89,kcc];rfl) (by simp only [zv,kcc];rfl) ?_
   rfl
 by_cases ksLambda:w=dS
 ·subst ksLambda
  have q0:eqB dS ⟨#[113,117,111,116,101]⟩=false:=aA (by decide)
  have q1:eqB dS ⟨#[113,117,97,115,105,113,117,111,116,101]⟩=false:=aA (by decide)
  have q2:eqB dS ⟨#[108,97,109,98,100,97]⟩=true:=aY rfl
  have q3:eqB dS ⟨#[115,101,116,33]⟩=false:=aA (by decide)
  have q4:eqB dS ⟨#[105,102]⟩=false:=aA (by decide)
  have q5:eqB dS ⟨#[98,101,103,105,110]⟩=false:=aA (by decide)
  have q6:eqB dS ⟨#[99,97,115,101]⟩=false:=aA (by decide)
  have q7:eqB dS ⟨#[119,104,101,110]⟩=false:=aA (by decide)
  have q8:eqB dS ⟨#[117,110,108,101,115,115]⟩=false:=aA (by decide)
  match l0,hl with
  | [],hl =>
   have g1:decide ((1:Int)≤((([]:List D).length:Nat):Int))=false:=by decide
   rw [show cQ ev dS []=bK ev dS [] from rfl]
   simp only [rsA]
   simp only [List.map_nil] at hde ⊢
   refine fi Tryz.func89 Tryz.ntmps89 Tryz.results89 ?_
   repeat (first|(apply fw;focus ((with_reducible constructor)<;>constructor))|((first|with_reducible refine ga _ rfl fun Y y=>?_|(refine ca ?_;apply Exists.intro;constructor;assumption;intro Y y)|apply ri);simp only [zb,seval,w89,kcc,cF,q0,q1,q2,q3,q4,q5,q6,q7,q8];refine fz y ?_;clear y Y))
   refine ye (by simp only [zb,seval,w89,kcc];rfl) (by simp only [zv,kcc];rfl) ?_
   rfl
  | a::r,hl =>
   obtain⟨l,hlr⟩:∃l,a::r=l:=⟨_,rfl⟩
   obtain⟨c0,ct,cd,cl,cn,c11,c00,c22⟩:=qD a r l hlr
   have g1:decide ((1:Int)≤(l.length:Int))=true:=by simp;omega
   have hle1:(1:Int)≤(l.length:Int):=by omega
   have hc:=tC hE a r hl.head hl.tail
   rw [show cQ ev dS (a::r)=eR ev a r by unfold cQ;(repeat rw [if_neg (by first|decide|(rintro ⟨h,-⟩;exact absurd h (by decide)))]);rw [if_pos ⟨rfl,by simp⟩];rfl,hlr]
   simp only [rsA] at hc ⊢
   refine fi Tryz.func89 Tryz.ntmps89 Tryz.results89 ?_
   repeat (first|(apply fw;focus ((with_reducible constructor)<;>constructor))|((first|with_reducible refine ga _ rfl fun Y y=>?_|apply ri);simp only [zb,seval,w89,kcc,cF,q0,q1,q2,q3,q4,q5,q6,q7,q8,g1];refine fz y ?_;clear y Y))
   (refine WpA.draw0 8 _ _ _ rfl rfl rfl (by kernel_rfl) (by kernel_rfl) (by kernel_rfl) fun K8 hK8=>?_);simp only [zz] at hK8 ⊢;(refine Draw0.go fun K7 k=>?_);simp only [zb,seval,w89,kcc,c0,ct,cd,cn,c11];(refine qz (k _ _ ?_));clear k K7
   refine Draw0.step (oz (hc)) ?_
   (refine Draw0.go fun K7 k=>?_);simp only [zb,seval,w89,kcc];(refine qz (k _ _ ?_));clear k K7;(try ((refine Draw0.nil (hK8 _ ?_));clear hK8 K8;(refine WpL.go _ rfl fun Y y=>?_);repeat (first|(apply fw;focus ((with_reducible constructor)<;>constructor))|((first|with_reducible refine ga _ rfl fun Y y=>?_|apply ri);simp only [zb,seval,w89,kcc];refine fz y ?_;clear y Y))))
   refine ye (by simp only [zb,seval,w89,kcc];rfl) (by simp only [zv,kcc];rfl) ?_
   rfl
 by_cases ksSet:w=rK
 ·subst ksSet
  have q0:eqB rK ⟨#[113,117,111,116,101]⟩=false:=aA (by decide)
  have q1:eqB rK ⟨#[113,117,97,115,105,113,117,111,116,101]⟩=false:=aA (by decide)
  have q2:eqB rK ⟨#[108,97,109,98,100,97]⟩=false:=aA (by decide)
  have q3:eqB rK ⟨#[115,101,116,33]⟩=true:=aY rfl
  have q4:eqB rK ⟨#[105,102]⟩=false:=aA (by decide)
  have q5:eqB rK ⟨#[98,101,103,105,110]⟩=false:=aA (by decide)
  have q6:eqB rK ⟨#[99,97,115,101]⟩=false:=aA (by decide)
  have q7:eqB rK ⟨#[119,104,101,110]⟩=false:=aA (by decide)
  have q8:eqB rK ⟨#[117,110,108,101,115,115]⟩=false:=aA (by decide)
  by_cases hn:l0.length=2
  ·obtain⟨a,b,rfl⟩:∃a b,l0=[a,b]:=by match l0,hn with|[a,b],_=>exact⟨a,b,rfl⟩
   have hv:=kJ a
   have hx:=hE.e b hl.tail.head
   have hb:=aD (bR a).2 (ev.e b).2 (eU _) (hE.e2 _)
   rw [show cQ ev rK [a,b]=(yA (bR a).1 (ev.e b).1,max (bR a).2 (ev.e b).2) by unfold cQ;(repeat rw [if_neg (by first|decide|(rintro ⟨h,-⟩;exact absurd h (by decide)))]);rw [if_pos ⟨rfl,rfl⟩];rfl]
   simp only [List.map_cons,List.map_nil,rsA] at hx ⊢
   refine fi Tryz.func89 Tryz.ntmps89 Tryz.results89 ?_
   repeat (first|(apply fw;focus ((with_reducible constructor)<;>constructor))|((first|with_reducible refine ga _ rfl fun Y y=>?_|(refine ca ?_;apply Exists.intro;constructor;assumption;intro Y y)|apply ri);simp only [zb,seval,w89,kcc,cF,q0,q1,q2,q3,q4,q5,q6,q7,q8];refine fz y ?_;clear y Y))
   (refine WpA.draw0 7 _ _ _ rfl rfl rfl (by kernel_rfl) (by kernel_rfl) (by kernel_rfl) fun K8 hK8=>?_);simp only [zz] at hK8 ⊢;(refine Draw0.go fun K7 k=>?_);simp only [zb,seval,w89,kcc];(refine qz (k _ _ ?_));clear k K7
   refine Draw0.step (OpS.frozen (n:=1) (wd:=11) (ty:=31) (rows:=[(ev.e b).1.cc]) (OpS.eff [(84,_)] rfl (by rfl) ⟨rfl,trivial⟩ (by simp only [zb,seval,w89,kcc];rfl) (by simp)) rfl (by simp [ksh])) ?_;simp only [bH]
   (refine Draw0.go fun K7 k=>?_);simp only [zb,seval,w89,kcc];(refine qz (k _ _ ?_));clear k K7
   refine Draw0.step (oz (hb)) ?_
   (refine Draw0.go fun K7 k=>?_);simp only [zb,seval,w89,kcc];(refine qz (k _ _ ?_));clear k K7;(try ((refine Draw0.nil (hK8 _ ?_));clear hK8 K8;(refine WpL.go _ rfl fun Y y=>?_);repeat (first|(apply fw;focus ((with_reducible constructor)<;>constructor))|((first|with_reducible refine ga _ rfl fun Y y=>?_|apply ri);simp only [zb,seval,w89,kcc];refine fz y ?_;clear y Y))))
   refine yl (by simp only [zb,seval,w89,kcc];rfl) (by simp only [zv,kcc];rfl) ((by simp only [rcc];exact ae)) rfl
  ·have m2:((l0.length:Int) == 2)=false:=by simp;omega
   rw [show cQ ev rK l0=bK ev rK l0 by unfold cQ;(repeat rw [if_neg (by first|decide|assumption|(rintro ⟨h,-⟩;exact absurd h (by first|decide|assumption))|(rintro ⟨-,h⟩;omega))])]
   simp only [rsA]
   refine fi Tryz.func89 Tryz.ntmps89 Tryz.results89 ?_
   repeat (first|(apply fw;focus ((with_reducible constructor)<;>constructor))|((first|with_reducible refine ga _ rfl fun Y y=>?_|(refine ca ?_;apply Exists.intro;constructor;assumption;intro Y y)|apply ri);simp only [zb,seval,w89,kcc,cF,q0,q1,q2,q3,q4,q5,q6,q7,q8,m2];refine fz y ?_;clear y Y))
   refine ye (by simp only [zb,seval,w89,kcc];rfl) (by simp only [zv,kcc];rfl) ?_
   rfl
 by_cases ksIf:w=sIf
 ·subst ksIf
  have q0:eqB sIf ⟨#[113,117,111,116,101]⟩=false:=aA (by decide)
  have q1:eqB sIf ⟨#[113,117,97,115,105,113,117,111,116,101]⟩=false:=aA (by decide)
  have q2:eqB sIf ⟨#[108,97,109,98,100,97]⟩=false:=aA (by decide)
  have q3:eqB sIf ⟨#[115,101,116,33]⟩=false:=aA (by decide)
  have q4:eqB sIf ⟨#[105,102]⟩=true:=aY rfl
  have q5:eqB sIf ⟨#[98,101,103,105,110]⟩=false:=aA (by decide)
  have q6:eqB sIf ⟨#[99,97,115,101]⟩=false:=aA (by decide)
  have q7:eqB sIf ⟨#[119,104,101,110]⟩=false:=aA (by decide)
  have q8:eqB sIf ⟨#[117,110,108,101,115,115]⟩=false:=aA (by decide)
  by_cases hn:l0.length=2
  ·obtain⟨a,b,rfl⟩:∃a b,l0=[a,b]:=by match l0,hn with|[a,b],_=>exact⟨a,b,rfl⟩
   have hno:=gT
   have hbr:=dZ (ev.e a).1 (ev.e b).1 bU
   rw [show cQ ev sIf [a,b]=(aI (ev.e a).1 (ev.e b).1 bU,(aZ ev.e [a,b]).2) by unfold cQ;(repeat rw [if_neg (by first|decide|(rintro ⟨h,-⟩;exact absurd h (by decide)))]);rw [if_pos ⟨rfl,rfl⟩];rfl]
   simp only [rsA]
   refine fi Tryz.func89 Tryz.ntmps89 Tryz.results89 ?_
   repeat (first|(apply fw;focus ((with_reducible constructor)<;>constructor))|((first|with_reducible refine ga _ rfl fun Y y=>?_|apply ri);simp only [zb,seval,w89,kcc,cF,q0,q1,q2,q3,q4,q5,q6,q7,q8];refine fz y ?_;clear y Y))
   refine WpL.handAll rfl (aB (P:=Tryz.prog) rfl) rfl rfl (by kernel_rfl) (ALes.refl _) (ET hE [a,b] hl _) ?_
   rintro _ S5 ⟨cB,rfl,hAB,hfrB,hlB,hkB⟩
   have h05:=hkB 0 _ rfl
   rw [show (aZ ev.e [a,b]).1.map K.cc=[(ev.e a).1.cc,(ev.e b).1.cc] from rfl] at hAB
   have hB0:∀m,cB≠.ms 0 m:=fun m e=>by have:=hfrB _ _ e;simp at this
   (refine WpL.go _ rfl fun Y y=>?_);repeat (first|(apply fw;focus ((with_reducible constructor)<;>constructor))|((first|with_reducible refine ga _ rfl fun Y y=>?_|apply ri);simp only [zb,seval,w89,kcc];refine fz y ?_;clear y Y))
   refine cz (hno) ?_
   simp only [St.put]
   (try simp only [St.put]);(refine WpL.op rfl (aB (P:=Tryz.prog) rfl) (aH (by simp only [zb,seval,w89,kcc];rfl) (by first|(simp;done)|omega|(simp;omega))) ?_);simp only [St.put]
   obtain⟨S8,j,hA8,hj8,hl8,hfr8,hpl8,hop8⟩:=fK (P:=Tryz.prog) (T:=29) (by_:=176) bM bO bP (by omega) (S:=S5++[some ⟨31,11,[bU.cc]⟩]) (hAB.app _) (q:=S5.length) (new:=[bU.cc]) (nF _ _ _) (by simp) (fun n e=>by have:=hAB.lt e;omega) (by simp) (by simp)
   simp only [List.length_cons,List.length_nil,Nat.zero_add] at hop8 hA8
   have h08:=hfr8 0 _ (dB h05) hB0
   have hof:∀m,C.ms j (1+1+1)≠.ms 0 m:=fun m e=>by
    have e1:=(C.ms.inj e).1
    rcases hpl8 with q|q
    ·exact hB0 _ (e1▸q)
    ·rw [List.length_append] at q;simp only [List.length_cons,List.length_nil] at q;omega
   refine WpL.aop rfl (hop8 _ _ _ rfl rfl) ?_
   simp only [St.put]
   (try simp only [St.put]);(refine WpL.op rfl (aB (P:=Tryz.prog) rfl) (aH (by simp only [zb,seval,w89];rfl) (by first|(simp;done)|omega|(simp;omega))) ?_);simp only [St.put]
   refine WpL.frzAt 11 hA8.au (by simp [ksh]) rfl fun S9 hl9 ho9=>?_
   have h09:=ho9 0 _ h08 hof
   have hS9:=(List.getElem?_eq_some_iff.1 h09).1
   have hset9:∀(a:Option Ob),(S9.set 0 a)[0]?=some a:=fun a=>List.getElem?_set_self hS9
   (refine WpL.go _ rfl fun Y y=>?_);repeat (first|(apply fw;focus ((with_reducible constructor)<;>constructor))|((first|with_reducible refine ga _ rfl fun Y y=>?_|apply ri);simp only [zb,seval,w89];refine fz y ?_;clear y Y))
   have hle:∀s∈[S9,S9.set 0 (some ⟨31,11,[(aI (ev.e a).1 (ev.e b).1 bU).cc]⟩)],LeS [] s:=fun s _=>LeS.of (SLe.nil s)
   skip
   refine WpA.draw1 12 [11] [] [S9,S9.set 0 (some ⟨31,11,[(aI (ev.e a).1 (ev.e b).1 bU).cc]⟩)] _ _ _ _ rfl rfl rfl (by kernel_rfl) (by kernel_rfl) (by kernel_rfl) (by kernel_rfl) rfl rfl rfl rfl (by decide) fun K8 hK8=>?_
   simp only [zz] at hK8 ⊢
   (refine Draw1.go fun K7 hK7=>?_);simp only [zb,seval,w89,kcc];(refine RunQ.mk (by first|(simp;done)|omega|(simp;omega)) (hK7 _ _ (by rfl) ?_));clear hK7 K7;(simp only [zz,Nat.reduceAdd,Nat.reduceSub]);(try ((refine Draw1.nil hle (hK8 _ ?_));clear hK8 K8;(refine WpL.go _ rfl fun Y y=>?_);repeat (first|(apply fw;focus ((with_reducible constructor)<;>constructor))|((first|with_reducible refine ga _ rfl fun Y y=>?_|apply ri);simp only [zb,seval,w89,kcc];refine fz y ?_;clear y Y))))
   refine Draw1.step (by rfl) (fun s9 _=>oz (hbr)) ?_
   (refine Draw1.go fun K7 hK7=>?_);simp only [zb,seval,w89,kcc];(refine RunQ.mk (by first|(simp;done)|omega|(simp;omega)) (hK7 _ _ (by rfl) ?_));clear hK7 K7;(simp only [zz,Nat.reduceAdd,Nat.reduceSub]);(try ((refine Draw1.nil hle (hK8 _ ?_));clear hK8 K8;(refine WpL.go _ rfl fun Y y=>?_);repeat (first|(apply fw;focus ((with_reducible constructor)<;>constructor))|((first|with_reducible refine ga _ rfl fun Y y=>?_|apply ri);simp only [zb,seval,w89,kcc];refine fz y ?_;clear y Y))))
   refine Draw1.eff 0 rfl rfl rfl (OpS.eff [(4,_),(121,_)] rfl (by rfl) ⟨rfl,rfl,trivial⟩ (by simp only [zb,seval,w89,kcc,h09];rfl) (by first|(simp;done)|omega|(simp;omega))) ?_;(try simp only [bH]);(try ((refine Draw1.go fun K7 hK7=>?_);simp only [zb,seval,w89,kcc,h09];(refine RunQ.mk (by first|(simp;done)|omega|(simp;omega)) (hK7 _ _ (by rfl) ?_));clear hK7 K7;(simp only [zz,Nat.reduceAdd,Nat.reduceSub]);(try ((refine Draw1.nil hle (hK8 _ ?_));clear hK8 K8;(refine WpL.go _ rfl fun Y y=>?_);repeat (first|(apply fw;focus ((with_reducible constructor)<;>constructor))|((first|with_reducible refine ga _ rfl fun Y y=>?_|apply ri);simp only [zb,seval,w89,kcc,h09];refine fz y ?_;clear y Y))))))
   skip
   refine ye (by simp only [zb,seval,w89,kcc,hset9];rfl) (by simp only [zv,kcc,hset9];rfl) ?_
   rfl
  by_cases hn3:l0.length=3
  ·obtain⟨a,b,c,rfl⟩:∃a b c,l0=[a,b,c]:=by match l0,hn3 with|[a,b,c],_=>exact⟨a,b,c,rfl⟩
   have hec:=jU hE [a,b,c] hl
   have hbr:=dZ (ev.e a).1 (ev.e b).1 (ev.e c).1
   rw [show cQ ev sIf [a,b,c]=(aI (ev.e a).1 (ev.e b).1 (ev.e c).1,(aZ ev.e [a,b,c]).2) by unfold cQ;(iterate 5 rw [if_neg (by first|decide|(rintro ⟨h,-⟩;exact absurd h (by decide))|(rintro ⟨-,h⟩;simp at h))]);rw [if_pos ⟨rfl,rfl⟩];rfl]
   simp only [rlA] at hec
   rw [show (aZ ev.e [a,b,c]).1.map K.cc=[(ev.e a).1.cc,(ev.e b).1.cc,(ev.e c).1.cc] from rfl] at hec
   simp only [rsA]
   refine fi Tryz.func89 Tryz.ntmps89 Tryz.results89 ?_
   repeat (first|(apply fw;focus ((with_reducible constructor)<;>constructor))|((first|with_reducible refine ga _ rfl fun Y y=>?_|(refine ca ?_;apply Exists.intro;constructor;assumption;intro Y y)|apply ri);simp only [zb,seval,w89,kcc,cF,q0,q1,q2,q3,q4,q5,q6,q7,q8];refine fz y ?_;clear y Y))
   have hle:∀s∈[[some ⟨31,11,[[.v (.int .i64 0),.v (.string ⟨#[]⟩),.v (.string ⟨#[]⟩),.v (.slice none 0 0),.v (.int .i64 0),.v (.int .i32 0),.v (.bool false),.v (.slice none 0 0),.v (.string ⟨#[]⟩),.v (.slice none 0 0),.v (.slice none 0 0)]]⟩],[some ⟨31,11,[(aI (ev.e a).1 (ev.e b).1 (ev.e c).1).cc]⟩]],LeS [] s:=fun s _=>LeS.of (SLe.nil s)
   skip
   refine WpA.draw1 12 [11] [] [[some ⟨31,11,[[.v (.int .i64 0),.v (.string ⟨#[]⟩),.v (.string ⟨#[]⟩),.v (.slice none 0 0),.v (.int .i64 0),.v (.int .i32 0),.v (.bool false),.v (.slice none 0 0),.v (.string ⟨#[]⟩),.v (.slice none 0 0),.v (.slice none 0 0)]]⟩],[some ⟨31,11,[(aI (ev.e a).1 (ev.e b).1 (ev.e c).1).cc]⟩]] _ _ _ _ rfl rfl rfl (by kernel_rfl) (by kernel_rfl) (by kernel_rfl) (by kernel_rfl) rfl rfl rfl rfl (by decide) fun K8 hK8=>?_
   simp only [zz] at hK8 ⊢
   (refine Draw1.go fun K7 hK7=>?_);simp only [zb,seval,w89,kcc];(refine RunQ.mk (by first|(simp;done)|omega|(simp;omega)) (hK7 _ _ (by rfl) ?_));clear hK7 K7;(simp only [zz,Nat.reduceAdd,Nat.reduceSub]);(try ((refine Draw1.nil hle (hK8 _ ?_));clear hK8 K8;(refine WpL.go _ rfl fun Y y=>?_);repeat (first|(apply fw;focus ((with_reducible constructor)<;>constructor))|((first|with_reducible refine ga _ rfl fun Y y=>?_|apply ri);simp only [zb,seval,w89,kcc];refine fz y ?_;clear y Y))))
   refine Draw1.step (by rfl) (fun s9 _=>oz (hbr)) ?_
   (refine Draw1.go fun K7 hK7=>?_);simp only [zb,seval,w89,kcc];(refine RunQ.mk (by first|(simp;done)|omega|(simp;omega)) (hK7 _ _ (by rfl) ?_));clear hK7 K7;(simp only [zz,Nat.reduceAdd,Nat.reduceSub]);(try ((refine Draw1.nil hle (hK8 _ ?_));clear hK8 K8;(refine WpL.go _ rfl fun Y y=>?_);repeat (first|(apply fw;focus ((with_reducible constructor)<;>constructor))|((first|with_reducible refine ga _ rfl fun Y y=>?_|apply ri);simp only [zb,seval,w89,kcc];refine fz y ?_;clear y Y))))
   refine Draw1.eff 0 rfl rfl rfl (OpS.eff [(4,_),(121,_)] rfl (by rfl) ⟨rfl,rfl,trivial⟩ (by simp only [zb,seval,w89,kcc];rfl) (by first|(simp;done)|omega|(simp;omega))) ?_;(try simp only [bH]);(try ((refine Draw1.go fun K7 hK7=>?_);simp only [zb,seval,w89,kcc];(refine RunQ.mk (by first|(simp;done)|omega|(simp;omega)) (hK7 _ _ (by rfl) ?_));clear hK7 K7;(simp only [zz,Nat.reduceAdd,Nat.reduceSub]);(try ((refine Draw1.nil hle (hK8 _ ?_));clear hK8 K8;(refine WpL.go _ rfl fun Y y=>?_);repeat (first|(apply fw;focus ((with_reducible constructor)<;>constructor))|((first|with_reducible refine ga _ rfl fun Y y=>?_|apply ri);simp only [zb,seval,w89,kcc];refine fz y ?_;clear y Y))))))
   skip
   refine ye (by simp only [zb,seval,w89,kcc];rfl) (by simp only [zv,kcc];rfl) ?_
   rfl
  ·have m2:((l0.length:Int) == 2)=false:=by simp;omega
   have m3:((l0.length:Int) == 3)=false:=by simp;omega
   rw [show cQ ev sIf l0=bK ev sIf l0 by unfold cQ;(repeat rw [if_neg (by first|decide|assumption|(rintro ⟨h,-⟩;exact absurd h (by first|decide|assumption))|(rintro ⟨-,h⟩;omega))])]
   simp only [rsA]
   refine fi Tryz.func89 Tryz.ntmps89 Tryz.results89 ?_
   repeat (first|(apply fw;focus ((with_reducible constructor)<;>constructor))|((first|with_reducible refine ga _ rfl fun Y y=>?_|(refine ca ?_;apply Exists.intro;constructor;assumption;intro Y y)|apply ri);simp only [zb,seval,w89,kcc,cF,q0,q1,q2,q3,q4,q5,q6,q7,q8,m2,m3];refine fz y ?_;clear y Y))
   refine ye (by simp only [zb,seval,w89,kcc];rfl) (by simp only [zv,kcc];rfl) ?_
   rfl
 by_cases ksBegin:w=eE
 ·subst ksBegin
  have q0:eqB eE ⟨#[113,117,111,116,101]⟩=false:=aA (by decide)
  have q1:eqB eE ⟨#[113,117,97,115,105,113,117,111,116,101]⟩=false:=aA (by decide)
  have q2:eqB eE ⟨#[108,97,109,98,100,97]⟩=false:=aA (by decide)
  have q3:eqB eE ⟨#[115,101,116,33]⟩=false:=aA (by decide)
  have q4:eqB eE ⟨#[105,102]⟩=false:=aA (by decide)
  have q5:eqB eE ⟨#[98,101,103,105,110]⟩=true:=aY rfl
  have q6:eqB eE ⟨#[99,97,115,101]⟩=false:=aA (by decide)
  have q7:eqB eE ⟨#[119,104,101,110]⟩=false:=aA (by decide)
  have q8:eqB eE ⟨#[117,110,108,101,115,115]⟩=false:=aA (by decide)
  have hc:=gE hE l0 hl
  rw [show cQ ev eE l0=fL ev.e l0 by unfold cQ;(repeat rw [if_neg (by first|decide|(rintro ⟨h,-⟩;exact absurd h (by decide))|(rintro ⟨-,h⟩;omega))]);rw [if_pos (by first|exact⟨rfl,by omega⟩|rfl)]]
  simp only [rsA] at hc ⊢
  refine fi Tryz.func89 Tryz.ntmps89 Tryz.results89 ?_
  repeat (first|(apply fw;focus ((with_reducible constructor)<;>constructor))|((first|with_reducible refine ga _ rfl fun Y y=>?_|(refine ca ?_;apply Exists.intro;constructor;assumption;intro Y y)|apply ri);simp only [zb,seval,w89,kcc,cF,q0,q1,q2,q3,q4,q5,q6,q7,q8];refine fz y ?_;clear y Y))
  refine ye (by simp only [zb,seval,w89,kcc];rfl) (by simp only [zv,kcc];rfl) ?_
  rfl
 by_cases ksCase:w=lG
 ·subst ksCase
  have q0:eqB lG ⟨#[113,117,111,116,101]⟩=false:=aA (by decide)
  have q1:eqB lG ⟨#[113,117,97,115,105,113,117,111,116,101]⟩=false:=aA (by decide)
  have q2:eqB lG ⟨#[108,97,109,98,100,97]⟩=false:=aA (by decide)
  have q3:eqB lG ⟨#[115,101,116,33]⟩=false:=aA (by decide)
  have q4:eqB lG ⟨#[105,102]⟩=false:=aA (by decide)
  have q5:eqB lG ⟨#[98,101,103,105,110]⟩=false:=aA (by decide)
  have q6:eqB lG ⟨#[99,97,115,101]⟩=true:=aY rfl
  have q7:eqB lG ⟨#[119,104,101,110]⟩=false:=aA (by decide)
  have q8:eqB lG ⟨#[117,110,108,101,115,115]⟩=false:=aA (by decide)
  match l0,hl with
  | [],hl =>
   have g1:decide ((1:Int)≤((([]:List D).length:Nat):Int))=false:=by decide
   rw [show cQ ev lG []=bK ev lG [] from rfl]
   simp only [rsA]
   simp only [List.map_nil] at hde ⊢
   refine fi Tryz.func89 Tryz.ntmps89 Tryz.results89 ?_
   repeat (first|(apply fw;focus ((with_reducible constructor)<;>constructor))|((first|with_reducible refine ga _ rfl fun Y y=>?_|(refine ca ?_;apply Exists.intro;constructor;assumption;intro Y y)|apply ri);simp only [zb,seval,w89,kcc,cF,q0,q1,q2,q3,q4,q5,q6,q7,q8];refine fz y ?_;clear y Y))
   refine ye (by simp only [zb,seval,w89,kcc];rfl) (by simp only [zv,kcc];rfl) ?_
   rfl
  | a::r,hl =>
   obtain⟨l,hlr⟩:∃l,a::r=l:=⟨_,rfl⟩
   obtain⟨c0,ct,cd,cl,cn,c11,c00,c22⟩:=qD a r l hlr
   have g1:decide ((1:Int)≤(l.length:Int))=true:=by simp;omega
   have hle1:(1:Int)≤(l.length:Int):=by omega
   have hch:=xN hE r hl.tail
   have wch:=qF hE r
   rw [show cQ ev lG (a::r)=((eI ev a (fR ev r).1).1,max (fR ev r).2 (eI ev a (fR ev r).1).2) by unfold cQ;(repeat rw [if_neg (by first|decide|(rintro ⟨h,-⟩;exact absurd h (by decide)))]);rw [if_pos ⟨rfl,by simp⟩];rfl,hlr]
   simp only [rsA] at hch ⊢
   generalize fR ev r=C0 at *
   have hte:=nX hE a C0.1 hl.head
   have wte:=iM hE a C0.1
   simp only [rsA] at hte
   generalize eI ev a C0.1=T0 at *
   have hb:=aD C0.2 T0.2 wch wte
   refine fi Tryz.func89 Tryz.ntmps89 Tryz.results89 ?_
   repeat (first|(apply fw;focus ((with_reducible constructor)<;>constructor))|((first|with_reducible refine ga _ rfl fun Y y=>?_|(refine ca ?_;apply Exists.intro;constructor;assumption;intro Y y)|apply ri);simp only [zb,seval,w89,kcc,cF,q0,q1,q2,q3,q4,q5,q6,q7,q8,g1,ct,cd,cn,c11];refine fz y ?_;clear y Y))
   (refine WpA.draw1c 10 [8,9] [_,?_,?_] _ _ _ _ rfl rfl rfl (by kernel_rfl) (by kernel_rfl) (by kernel_rfl) (by kernel_rfl) rfl rfl rfl rfl (by decide) fun K8 hK8=>?_);rotate_left 2;simp only [zz] at hK8 ⊢;(refine Draw1.go fun K7 k=>?_);simp only [zb,seval,w89,kcc,c0];(refine qz (k _ _ (by rfl) ?_));clear k K7;(simp only [zz,Nat.reduceAdd,Nat.reduceSub])
   refine Draw1.step (by rfl) (fun s9 _=>oz (hte)) ?_
   (refine Draw1.go fun K7 k=>?_);simp only [zb,seval,w89,kcc];(refine qz (k _ _ (by rfl) ?_));clear k K7;(simp only [zz,Nat.reduceAdd,Nat.reduceSub])
   refine Draw1.eff 0 rfl rfl rfl (OpS.eff [] rfl (by rfl) trivial (by simp only [zb,seval,w89,kcc];rfl) (by first|(simp;done)|omega|(simp;omega))) ?_;(try simp only [bH]);(try ((refine Draw1.go fun K7 k=>?_);simp only [zb,seval,w89,kcc];(refine qz (k _ _ (by rfl) ?_));clear k K7;(simp only [zz,Nat.reduceAdd,Nat.reduceSub]);(try ((refine nz (hK8 _ ?_));clear hK8 K8;(refine WpL.go _ rfl fun Y y=>?_);repeat (first|(apply fw;focus ((with_reducible constructor)<;>constructor))|((first|with_reducible refine ga _ rfl fun Y y=>?_|apply ri);simp only [zb,seval,w89,kcc];refine fz y ?_;clear y Y))))))
   refine Draw1.eff 1 rfl rfl rfl (OpS.eff [(15,_),(149,_)] rfl (by rfl) ⟨rfl,rfl,trivial⟩ (by simp only [zb,seval,w89,kcc];rfl) (by first|(simp;done)|omega|(simp;omega))) ?_;(try simp only [bH]);(try ((refine Draw1.go fun K7 k=>?_);simp only [zb,seval,w89,kcc];(refine qz (k _ _ (by rfl) ?_));clear k K7;(simp only [zz,Nat.reduceAdd,Nat.reduceSub]);(try ((refine nz (hK8 _ ?_));clear hK8 K8;(refine WpL.go _ rfl fun Y y=>?_);repeat (first|(apply fw;focus ((with_reducible constructor)<;>constructor))|((first|with_reducible refine ga _ rfl fun Y y=>?_|apply ri);simp only [zb,seval,w89,kcc];refine fz y ?_;clear y Y))))))
   (refine WpA.draw0 4 _ _ _ rfl rfl rfl (by kernel_rfl) (by kernel_rfl) (by kernel_rfl) fun K8 hK8=>?_);simp only [zz] at hK8 ⊢;(refine Draw0.go fun K7 k=>?_);simp only [zb,seval,w89,kcc];(refine qz (k _ _ ?_));clear k K7
   refine Draw0.step (oz (hb)) ?_
   (refine Draw0.go fun K7 k=>?_);simp only [zb,seval,w89,kcc];(refine qz (k _ _ ?_));clear k K7;(try ((refine Draw0.nil (hK8 _ ?_));clear hK8 K8;(refine WpL.go _ rfl fun Y y=>?_);repeat (first|(apply fw;focus ((with_reducible constructor)<;>constructor))|((first|with_reducible refine ga _ rfl fun Y y=>?_|apply ri);simp only [zb,seval,w89,kcc];refine fz y ?_;clear y Y))))
   refine ye (by simp only [zb,seval,w89,kcc];rfl) (by simp only [zv,kcc];rfl) ?_
   rfl
 by_cases ksWhen:w=lH
 ·subst ksWhen
  have q0:eqB lH ⟨#[113,117,111,116,101]⟩=false:=aA (by decide)
  have q1:eqB lH ⟨#[113,117,97,115,105,113,117,111,116,101]⟩=false:=aA (by decide)
  have q2:eqB lH ⟨#[108,97,109,98,100,97]⟩=false:=aA (by decide)
  have q3:eqB lH ⟨#[115,101,116,33]⟩=false:=aA (by decide)
  have q4:eqB lH ⟨#[105,102]⟩=false:=aA (by decide)
  have q5:eqB lH ⟨#[98,101,103,105,110]⟩=false:=aA (by decide)
  have q6:eqB lH ⟨#[99,97,115,101]⟩=false:=aA (by decide)
  have q7:eqB lH ⟨#[119,104,101,110]⟩=true:=aY rfl
  have q8:eqB lH ⟨#[117,110,108,101,115,115]⟩=false:=aA (by decide)
  by_cases hn:l0.length<2
  ·have g2:decide ((2:Int)≤(l0.length:Int))=false:=by simp;omega
   rw [show cQ ev lH l0=bK ev lH l0 by unfold cQ;(repeat rw [if_neg (by first|decide|assumption|(rintro ⟨h,-⟩;exact absurd h (by first|decide|assumption))|(rintro ⟨-,h⟩;omega))])]
   simp only [rsA]
   refine fi Tryz.func89 Tryz.ntmps89 Tryz.results89 ?_
   repeat (first|(apply fw;focus ((with_reducible constructor)<;>constructor))|((first|with_reducible refine ga _ rfl fun Y y=>?_|(refine ca ?_;apply Exists.intro;constructor;assumption;intro Y y)|apply ri);simp only [zb,seval,w89,kcc,cF,q0,q1,q2,q3,q4,q5,q6,q7,q8,g2];refine fz y ?_;clear y Y))
   refine ye (by simp only [zb,seval,w89,kcc];rfl) (by simp only [zv,kcc];rfl) ?_
   rfl
  ·obtain⟨a,r,hlr⟩:∃a r,a::r=l0:=by
    match l0,hn with
    | [],h=>exact absurd (by simp) h
    | a::r,_=>exact⟨a,r,rfl⟩
   obtain⟨c0,ct,cd,cl,cn,c11,c00,c22⟩:=qD a r l0 hlr
   have g2:decide ((2:Int)≤(l0.length:Int))=true:=by simp;omega
   have hle1:(1:Int)≤(l0.length:Int):=by omega
   have ha:Gd n a:=(hlr▸hl:Gds n (a::r)).head
   have hr:Gds n r:=(hlr▸hl:Gds n (a::r)).tail
   have hx:=hE.e a ha
   have hs:=gE hE r hr
   have hb:=aD (ev.e a).2 (fL ev.e r).2 (hE.e2 _) (kK hE r)
   have hno:=gT
   rw [show cQ ev lH l0=(aI (ev.e a).1 (fL ev.e r).1 bU,max (ev.e a).2 (fL ev.e r).2) by rw [←hlr];unfold cQ;(repeat rw [if_neg (by first|decide|(rintro ⟨h,-⟩;exact absurd h (by decide)))]);rw [if_pos ⟨rfl,by rw [hlr];omega⟩];rfl]
   simp only [rsA] at hx hs ⊢
   generalize ev.e a=X at *
   generalize fL ev.e r=Y at *
   have hbr:=dZ X.1 Y.1 bU
   refine fi Tryz.func89 Tryz.ntmps89 Tryz.results89 ?_
   repeat (first|(apply fw;focus ((with_reducible constructor)<;>constructor))|((first|with_reducible refine ga _ rfl fun Y y=>?_|(refine ca ?_;apply Exists.intro;constructor;assumption;intro Y y)|apply ri);simp only [zb,seval,w89,kcc,cF,q0,q1,q2,q3,q4,q5,q6,q7,q8,g2,c0,ct,cd,cn,c11];refine fz y ?_;clear y Y))
   refine WpA.frzP 17 1 rfl rfl (K.cc_shut _) ?_
   simp only [zz]
   refine WpA.frzP 19 2 rfl rfl (K.cc_shut _) ?_
   simp only [zz]
   have hle:∀s∈[[some ⟨31,11,[[.v (.int .i64 0),.v (.string ⟨#[]⟩),.v (.string ⟨#[]⟩),.v (.slice none 0 0),.v (.int .i64 0),.v (.int .i32 0),.v (.bool false),.v (.slice none 0 0),.v (.string ⟨#[]⟩),.v (.slice none 0 0),.v (.slice none 0 0)]]⟩,none,none],[some ⟨31,11,[(aI X.1 Y.1 bU).cc]⟩,none,none]],LeS [] s:=fun s _=>LeS.of (SLe.nil s)
   skip
   refine WpA.draw1 6 [5] [] [[some ⟨31,11,[[.v (.int .i64 0),.v (.string ⟨#[]⟩),.v (.string ⟨#[]⟩),.v (.slice none 0 0),.v (.int .i64 0),.v (.int .i32 0),.v (.bool false),.v (.slice none 0 0),.v (.string ⟨#[]⟩),.v (.slice none 0 0),.v (.slice none 0 0)]]⟩,none,none],[some ⟨31,11,[(aI X.1 Y.1 bU).cc]⟩,none,none]] _ _ _ _ rfl rfl rfl (by kernel_rfl) (by kernel_rfl) (by kernel_rfl) (by kernel_rfl) rfl rfl rfl rfl (by decide) fun K8 hK8=>?_
   simp only [zz] at hK8 ⊢
   (refine Draw1.go fun K7 hK7=>?_);simp only [zb,seval,w89,kcc];(refine RunQ.mk (by first|(simp;done)|omega|(simp;omega)) (hK7 _ _ (by rfl) ?_));clear hK7 K7;(simp only [zz,Nat.reduceAdd,Nat.reduceSub]);(try ((refine Draw1.nil hle (hK8 _ ?_));clear hK8 K8;(refine WpL.go _ rfl fun Y y=>?_);repeat (first|(apply fw;focus ((with_reducible constructor)<;>constructor))|((first|with_reducible refine ga _ rfl fun Y y=>?_|apply ri);simp only [zb,seval,w89,kcc];refine fz y ?_;clear y Y))))
   refine Draw1.step (by rfl) (fun s9 _=>oz (hno)) ?_
   (refine Draw1.go fun K7 hK7=>?_);simp only [zb,seval,w89,kcc];(refine RunQ.mk (by first|(simp;done)|omega|(simp;omega)) (hK7 _ _ (by rfl) ?_));clear hK7 K7;(simp only [zz,Nat.reduceAdd,Nat.reduceSub]);(try ((refine Draw1.nil hle (hK8 _ ?_));clear hK8 K8;(refine WpL.go _ rfl fun Y y=>?_);repeat (first|(apply fw;focus ((with_reducible constructor)<;>constructor))|((first|with_reducible refine ga _ rfl fun Y y=>?_|apply ri);simp only [zb,seval,w89,kcc];refine fz y ?_;clear y Y))))
   refine Draw1.step (by rfl) (fun s9 _=>oz (hbr)) ?_
   (refine Draw1.go fun K7 hK7=>?_);simp only [zb,seval,w89,kcc];(refine RunQ.mk (by first|(simp;done)|omega|(simp;omega)) (hK7 _ _ (by rfl) ?_));clear hK7 K7;(simp only [zz,Nat.reduceAdd,Nat.reduceSub]);(try ((refine Draw1.nil hle (hK8 _ ?_));clear hK8 K8;(refine WpL.go _ rfl fun Y y=>?_);repeat (first|(apply fw;focus ((with_reducible constructor)<;>constructor))|((first|with_reducible refine ga _ rfl fun Y y=>?_|apply ri);simp only [zb,seval,w89,kcc];refine fz y ?_;clear y Y))))
   refine Draw1.eff 0 rfl rfl rfl (OpS.eff [(4,_),(187,_)] rfl (by rfl) ⟨rfl,rfl,trivial⟩ (by simp only [zb,seval,w89,kcc];rfl) (by first|(simp;done)|omega|(simp;omega))) ?_;(try simp only [bH]);(try ((refine Draw1.go fun K7 hK7=>?_);simp only [zb,seval,w89,kcc];(refine RunQ.mk (by first|(simp;done)|omega|(simp;omega)) (hK7 _ _ (by rfl) ?_));clear hK7 K7;(simp only [zz,Nat.reduceAdd,Nat.reduceSub]);(try ((refine Draw1.nil hle (hK8 _ ?_));clear hK8 K8;(refine WpL.go _ rfl fun Y y=>?_);repeat (first|(apply fw;focus ((with_reducible constructor)<;>constructor))|((first|with_reducible refine ga _ rfl fun Y y=>?_|apply ri);simp only [zb,seval,w89,kcc];refine fz y ?_;clear y Y))))))
   skip
   refine ye (by simp only [zb,seval,w89,kcc];rfl) (by simp only [zv,kcc];rfl) ?_
   rfl
 by_cases ksUnless:w=fY
 ·subst ksUnless
  have q0:eqB fY ⟨#[113,117,111,116,101]⟩=false:=aA (by decide)
  have q1:eqB fY ⟨#[113,117,97,115,105,113,117,111,116,101]⟩=false:=aA (by decide)
  have q2:eqB fY ⟨#[108,97,109,98,100,97]⟩=false:=aA (by decide)
  have q3:eqB fY ⟨#[115,101,116,33]⟩=false:=aA (by decide)
  have q4:eqB fY ⟨#[105,102]⟩=false:=aA (by decide)
  have q5:eqB fY ⟨#[98,101,103,105,110]⟩=false:=aA (by decide)
  have q6:eqB fY ⟨#[99,97,115,101]⟩=false:=aA (by decide)
  have q7:eqB fY ⟨#[119,104,101,110]⟩=false:=aA (by decide)
  have q8:eqB fY ⟨#[117,110,108,101,115,115]⟩=true:=aY rfl
  by_cases hn:l0.length<2
  ·have g2:decide ((2:Int)≤(l0.length:Int))=false:=by simp;omega
   rw [show cQ ev fY l0=bK ev fY l0 by unfold cQ;(repeat rw [if_neg (by first|decide|assumption|(rintro ⟨h,-⟩;exact absurd h (by first|decide|assumption))|(rintro ⟨-,h⟩;omega))])]
   simp only [rsA]
   refine fi Tryz.func89 Tryz.ntmps89 Tryz.results89 ?_
   repeat (first|(apply fw;focus ((with_reducible constructor)<;>constructor))|((first|with_reducible refine ga _ rfl fun Y y=>?_|(refine ca ?_;apply Exists.intro;constructor;assumption;intro Y y)|apply ri);simp only [zb,seval,w89,kcc,cF,q0,q1,q2,q3,q4,q5,q6,q7,q8,g2];refine fz y ?_;clear y Y))
   refine ye (by simp only [zb,seval,w89,kcc];rfl) (by simp only [zv,kcc];rfl) ?_
   rfl
  ·obtain⟨a,r,hlr⟩:∃a r,a::r=l0:=by
    match l0,hn with
    | [],h=>exact absurd (by simp) h
    | a::r,_=>exact⟨a,r,rfl⟩
   obtain⟨c0,ct,cd,cl,cn,c11,c00,c22⟩:=qD a r l0 hlr
   have g2:decide ((2:Int)≤(l0.length:Int))=true:=by simp;omega
   have hle1:(1:Int)≤(l0.length:Int):=by omega
   have ha:Gd n a:=(hlr▸hl:Gds n (a::r)).head
   have hr:Gds n r:=(hlr▸hl:Gds n (a::r)).tail
   have hx:=hE.e a ha
   have hs:=gE hE r hr
   have hb:=aD (ev.e a).2 (fL ev.e r).2 (hE.e2 _) (kK hE r)
   have hno:=gT
   rw [show cQ ev fY l0=(aI (ev.e a).1 bU (fL ev.e r).1,max (ev.e a).2 (fL ev.e r).2) by rw [←hlr];unfold cQ;(repeat rw [if_neg (by first|decide|(rintro ⟨h,-⟩;exact absurd h (by decide)))]);rw [if_pos ⟨rfl,by rw [hlr];omega⟩];rfl]
   simp only [rsA] at hx hs ⊢
   generalize ev.e a=X at *
   generalize fL ev.e r=Y at *
   have hbr:=dZ X.1 bU Y.1
   refine fi Tryz.func89 Tryz.ntmps89 Tryz.results89 ?_
   repeat (first|(apply fw;focus ((with_reducible constructor)<;>constructor))|((first|with_reducible refine ga _ rfl fun Y y=>?_|(refine ca ?_;apply Exists.intro;constructor;assumption;intro Y y)|apply ri);simp only [zb,seval,w89,kcc,cF,q0,q1,q2,q3,q4,q5,q6,q7,q8,g2,c0,ct,cd,cn,c11];refine fz y ?_;clear y Y))
   refine WpA.frzP 17 1 rfl rfl (K.cc_shut _) ?_
   simp only [zz]
   refine WpA.frzP 19 2 rfl rfl (K.cc_shut _) ?_
   simp only [zz]
   have hle:∀s∈[[some ⟨31,11,[[.v (.int .i64 0),.v (.string ⟨#[]⟩),.v (.string ⟨#[]⟩),.v (.slice none 0 0),.v (.int .i64 0),.v (.int .i32 0),.v (.bool false),.v (.slice none 0 0),.v (.string ⟨#[]⟩),.v (.slice none 0 0),.v (.slice none 0 0)]]⟩,none,none],[some ⟨31,11,[(aI X.1 bU Y.1).cc]⟩,none,none]],LeS [] s:=fun s _=>LeS.of (SLe.nil s)
   skip
   refine WpA.draw1 6 [5] [] [[some ⟨31,11,[[.v (.int .i64 0),.v (.string ⟨#[]⟩),.v (.string ⟨#[]⟩),.v (.slice none 0 0),.v (.int .i64 0),.v (.int .i32 0),.v (.bool false),.v (.slice none 0 0),.v (.string ⟨#[]⟩),.v (.slice none 0 0),.v (.slice none 0 0)]]⟩,none,none],[some ⟨31,11,[(aI X.1 bU Y.1).cc]⟩,none,none]] _ _ _ _ rfl rfl rfl (by kernel_rfl) (by kernel_rfl) (by kernel_rfl) (by kernel_rfl) rfl rfl rfl rfl (by decide) fun K8 hK8=>?_
   simp only [zz] at hK8 ⊢
   (refine Draw1.go fun K7 hK7=>?_);simp only [zb,seval,w89,kcc];(refine RunQ.mk (by first|(simp;done)|omega|(simp;omega)) (hK7 _ _ (by rfl) ?_));clear hK7 K7;(simp only [zz,Nat.reduceAdd,Nat.reduceSub]);(try ((refine Draw1.nil hle (hK8 _ ?_));clear hK8 K8;(refine WpL.go _ rfl fun Y y=>?_);repeat (first|(apply fw;focus ((with_reducible constructor)<;>constructor))|((first|with_reducible refine ga _ rfl fun Y y=>?_|apply ri);simp only [zb,seval,w89,kcc];refine fz y ?_;clear y Y))))
   refine Draw1.step (by rfl) (fun s9 _=>oz (hno)) ?_
   (refine Draw1.go fun K7 hK7=>?_);simp only [zb,seval,w89,kcc];(refine RunQ.mk (by first|(simp;done)|omega|(simp;omega)) (hK7 _ _ (by rfl) ?_));clear hK7 K7;(simp only [zz,Nat.reduceAdd,Nat.reduceSub]);(try ((refine Draw1.nil hle (hK8 _ ?_));clear hK8 K8;(refine WpL.go _ rfl fun Y y=>?_);repeat (first|(apply fw;focus ((with_reducible constructor)<;>constructor))|((first|with_reducible refine ga _ rfl fun Y y=>?_|apply ri);simp only [zb,seval,w89,kcc];refine fz y ?_;clear y Y))))
   refine Draw1.step (by rfl) (fun s9 _=>oz (hbr)) ?_
   (refine Draw1.go fun K7 hK7=>?_);simp only [zb,seval,w89,kcc];(refine RunQ.mk (by first|(simp;done)|omega|(simp;omega)) (hK7 _ _ (by rfl) ?_));clear hK7 K7;(simp only [zz,Nat.reduceAdd,Nat.reduceSub]);(try ((refine Draw1.nil hle (hK8 _ ?_));clear hK8 K8;(refine WpL.go _ rfl fun Y y=>?_);repeat (first|(apply fw;focus ((with_reducible constructor)<;>constructor))|((first|with_reducible refine ga _ rfl fun Y y=>?_|apply ri);simp only [zb,seval,w89,kcc];refine fz y ?_;clear y Y))))
   refine Draw1.eff 0 rfl rfl rfl (OpS.eff [(4,_),(192,_)] rfl (by rfl) ⟨rfl,rfl,trivial⟩ (by simp only [zb,seval,w89,kcc];rfl) (by first|(simp;done)|omega|(simp;omega))) ?_;(try simp only [bH]);(try ((refine Draw1.go fun K7 hK7=>?_);simp only [zb,seval,w89,kcc];(refine RunQ.mk (by first|(simp;done)|omega|(simp;omega)) (hK7 _ _ (by rfl) ?_));clear hK7 K7;(simp only [zz,Nat.reduceAdd,Nat.reduceSub]);(try ((refine Draw1.nil hle (hK8 _ ?_));clear hK8 K8;(refine WpL.go _ rfl fun Y y=>?_);repeat (first|(apply fw;focus ((with_reducible constructor)<;>constructor))|((first|with_reducible refine ga _ rfl fun Y y=>?_|apply ri);simp only [zb,seval,w89,kcc];refine fz y ?_;clear y Y))))))
   skip
   refine ye (by simp only [zb,seval,w89,kcc];rfl) (by simp only [zv,kcc];rfl) ?_
   rfl
 have q0:eqB w ⟨#[113,117,111,116,101]⟩=false:=aA ksQuote
 have q1:eqB w ⟨#[113,117,97,115,105,113,117,111,116,101]⟩=false:=aA ksQuasi
 have q2:eqB w ⟨#[108,97,109,98,100,97]⟩=false:=aA ksLambda
 have q3:eqB w ⟨#[115,101,116,33]⟩=false:=aA ksSet
 have q4:eqB w ⟨#[105,102]⟩=false:=aA ksIf
 have q5:eqB w ⟨#[98,101,103,105,110]⟩=false:=aA ksBegin
 have q6:eqB w ⟨#[99,97,115,101]⟩=false:=aA ksCase
 have q7:eqB w ⟨#[119,104,101,110]⟩=false:=aA ksWhen
 have q8:eqB w ⟨#[117,110,108,101,115,115]⟩=false:=aA ksUnless
 rw [show cQ ev w l0=bK ev w l0 by unfold cQ;(repeat rw [if_neg (by first|decide|assumption|(rintro ⟨h,-⟩;exact absurd h (by first|decide|assumption))|(rintro ⟨-,h⟩;omega))])]
 simp only [rsA]
 refine fi Tryz.func89 Tryz.ntmps89 Tryz.results89 ?_
 repeat (first|(apply fw;focus ((with_reducible constructor)<;>constructor))|((first|with_reducible refine ga _ rfl fun Y y=>?_|(refine ca ?_;apply Exists.intro;constructor;assumption;intro Y y)|apply ri);simp only [zb,seval,w89,kcc,cF,q0,q1,q2,q3,q4,q5,q6,q7,q8,kcc];refine fz y ?_;clear y Y))
 refine ye (by simp only [zb,seval,w89,kcc];rfl) (by simp only [zv,kcc];rfl) ?_
 rfl
theorem SD {n:Nat} {ev:Ev} (hE:HE n ev) (w:ByteArray) (l:List D):(cQ ev w l).2≤2:=by
 unfold cQ
 repeat' split
 ·exact Nat.zero_le _
 ·exact hE.q2 _ _
 ·exact rS hE _ _
 ·exact Nat.max_le.2 ⟨eU _,hE.e2 _⟩
 ·exact eN hE l
 ·exact eN hE l
 ·exact kK hE l
 ·match l with
  | []=>exact Nat.le_refl _
  | a::r =>
   have w1:=qF hE r
   have w2:=iM hE a (fR ev r).1
   unfold IA;dsimp only;omega
 ·exact Nat.max_le.2 ⟨hE.e2 _,kK hE _⟩
 ·exact Nat.max_le.2 ⟨hE.e2 _,kK hE _⟩
 ·exact IU hE w l
end Go.Proofs.YtaeioidifpebdaaGreatDoor
end
section
namespace Go.Proofs.YtaeioidifpebdaaGreatDoor
open Go Go.RowKit Go.Lib
set_option linter.unusedSimpArgs false
set_option linter.unusedVariables false
set_option maxHeartbeats 4000000
set_option maxRecDepth 100000
theorem SE {n:Nat} {ev:Ev} (hE:HE n ev) (d:D):(eB ev d).2≤2:=by
 unfold eB
 repeat' split
 ·exact Nat.le_refl _
 ·exact eU d
 ·exact Nat.le_refl _
 ·exact SD hE _ _
 ·exact Nat.max_le.2 ⟨eN hE _,fD _⟩
 ·exact Nat.le_refl _
 ·exact Nat.zero_le _
theorem OZ {n:Nat} {ev:Ev} (hE:HE n ev) (d:D) (hd:Gd (n+1) d):Pure Tryz.prog 57 [.agg d.cc] (rsA (eB ev d)):=by
 have hbig:=hE.big
 have hw:Pure Tryz.prog 84 [.one (.v (.string ⟨#[101,109,112,116,121,32,108,105,115,116]⟩)),.one (.gv 1)] (.one (.er 2)):=dD _ 1
 have hv:=kJ d
 have hit:=gC d hd.2.1 (by have:=hd.items.len;omega)
 have hcn:=iJ d hd.2.1
 rw [D.cc_eq d] at hv hit hcn ⊢
 by_cases h0:d.k=0
 ·have q0:(d.k == 0)=true:=by simp [h0]
  rw [show eB ev d=(kz,2) from if_pos h0]
  refine fi Tryz.func57 Tryz.ntmps57 Tryz.results57 ?_
  repeat (first|(apply fw;focus ((with_reducible constructor)<;>constructor))|((first|with_reducible refine ga _ rfl fun Y y=>?_|(refine ca ?_;apply Exists.intro;constructor;assumption;intro Y y)|apply ri);simp only [zb,seval,w57,kcc,q0];refine fz y ?_;clear y Y))
  refine yl (by simp only [zb,seval,w57,kcc,rsA];rfl) (by simp only [zv,kcc,rsA];rfl) ((by simp only [rcc,rsA];exact ae)) rfl
 have q0:(d.k == 0)=false:=by simp [h0]
 by_cases h6:d.k=6
 ·have q6:(d.k == 6)=true:=by simp [h6]
  have hrf:=oX (bR d).1
  rw [show eB ev d=(bL (bR d).1,(bR d).2) by unfold eB;rw [if_neg h0,if_pos h6]]
  refine fi Tryz.func57 Tryz.ntmps57 Tryz.results57 ?_
  repeat (first|(apply fw;focus ((with_reducible constructor)<;>constructor))|((first|with_reducible refine ga _ rfl fun Y y=>?_|(refine ca ?_;apply Exists.intro;constructor;assumption;intro Y y)|apply ri);simp only [zb,seval,w57,kcc,q0,q6];refine fz y ?_;clear y Y))
  refine ye (by simp only [zb,seval,w57,kcc];rfl) (by simp only [zv,kcc];rfl) ?_
  rfl
 have q6:(d.k == 6)=false:=by simp [h6]
 by_cases h7:d.k=7
 ·have q7:(d.k == 7)=true:=by simp [h7]
  obtain⟨hl,hf,hs,hm⟩:=hd.pair h7
  have hip:=(AM h7 hl).1
  by_cases he:fS d=0
  ·have hit':=hit
   rw [show bF d=(items d,0) from if_pos he] at hit'
   have hgi:Gds n (items d):=by
    have:=HW h7
    have:=hd.2.2
    exact⟨(mW d hd.1 hd.2.1).1,(mW d hd.1 hd.2.1).2,by omega⟩
   rw [show eB ev d=(match items d with
    | []=>(kz,2)
    | a::r=>if a.k=6∧oQ a.t=true then cQ ev a.t r else
     let x:=dL (aZ ev.e (a::r)).1
     (x.1,max (aZ ev.e (a::r)).2 x.2)) by unfold eB;rw [if_neg h0,if_neg h6,if_pos h7,if_pos he];rfl]
   rw [hip] at hgi hit' ⊢
   generalize d.fst=a at *
   generalize items d.snd=r at *
   dsimp only
   obtain⟨l,hlr⟩:∃l,a::r=l:=⟨_,rfl⟩
   obtain⟨g0,gt,gd,gl,gn,g11,g00,g22⟩:=qD a r l hlr
   have hgt:decide ((0:Int)<(l.length:Int))=true:=by simp;omega
   have hle1:(1:Int)≤(l.length:Int):=by omega
   have hky:=vO a.t
   have hec:=jU hE (a::r) hgi
   have hcl:=fM (aZ ev.e (a::r)).1
   have hb:=aD (aZ ev.e (a::r)).2 (dL (aZ ev.e (a::r)).1).2 (eN hE _) (fD _)
   simp only [rlA] at hec
   simp only [rsA] at hcl
   have g0':=g0
   rw [D.cc_eq a] at g0'
   by_cases ha:a.k=6
   ·have qa:(a.k == 6)=true:=by simp [ha]
    cases hk:oQ a.t with
    | true =>
     have hfm:=OY hE a.t r hgi.tail
     rw [hk] at hky
     rw [if_pos ⟨ha,rfl⟩]
     simp only [rsA] at hfm ⊢
     rw [hlr] at hit'
     refine fi Tryz.func57 Tryz.ntmps57 Tryz.results57 ?_
     repeat (first|(apply fw;focus ((with_reducible constructor)<;>constructor))|((first|with_reducible refine ga _ rfl fun Y y=>?_|(refine ca ?_;apply Exists.intro;constructor;assumption;intro Y y)|apply ri);simp only [zb,seval,w57,kcc,q0,q6,q7,g0',qa];refine fz y ?_;clear y Y))
     (refine WpA.draw0 9 _ _ _ rfl rfl rfl (by kernel_rfl) (by kernel_rfl) (by kernel_rfl) fun K8 hK8=>?_);simp only [zz] at hK8 ⊢;(refine Draw0.go fun K7 k=>?_);simp only [zb,seval,w57,kcc,g0',gt,gd,gn,g11,hle1];(refine qz (k _ _ ?_));clear k K7
     refine Draw0.step (oz (hfm)) ?_
     (refine Draw0.go fun K7 k=>?_);simp only [zb,seval,w57,kcc];(refine qz (k _ _ ?_));clear k K7;(try ((refine Draw0.nil (hK8 _ ?_));clear hK8 K8;(refine WpL.go _ rfl fun Y y=>?_);repeat (first|(apply fw;focus ((with_reducible constructor)<;>constructor))|((first|with_reducible refine ga _ rfl fun Y y=>?_|apply ri);simp only [zb,seval,w57,kcc];refine fz y ?_;clear y Y))))
     refine ye (by simp only [zb,seval,w57,kcc];rfl) (by simp only [zv,kcc];rfl) ?_
     rfl
    | false =>
     rw [hk] at hky
     rw [if_neg (by simp)]
     simp only [rsA]
     rw [hlr] at hit' hec hcl hb ⊢
     refine fi Tryz.func57 Tryz.ntmps57 Tryz.results57 ?_
     repeat (first|(apply fw;focus ((with_reducible constructor)<;>constructor))|((first|with_reducible refine ga _ rfl fun Y y=>?_|(refine ca ?_;apply Exists.intro;constructor;assumption;intro Y y)|apply ri);simp only [zb,seval,w57,kcc,q0,q6,q7,g0',qa];refine fz y ?_;clear y Y))
     (refine WpA.draw0 4 _ _ _ rfl rfl rfl (by kernel_rfl) (by kernel_rfl) (by kernel_rfl) fun K8 hK8=>?_);simp only [zz] at hK8 ⊢;(refine Draw0.go fun K7 k=>?_);simp only [zb,seval,w57,kcc];(refine qz (k _ _ ?_));clear k K7
     refine Draw0.step (oz (hb)) ?_
     (refine Draw0.go fun K7 k=>?_);simp only [zb,seval,w57,kcc];(refine qz (k _ _ ?_));clear k K7;(try ((refine Draw0.nil (hK8 _ ?_));clear hK8 K8;(refine WpL.go _ rfl fun Y y=>?_);repeat (first|(apply fw;focus ((with_reducible constructor)<;>constructor))|((first|with_reducible refine ga _ rfl fun Y y=>?_|apply ri);simp only [zb,seval,w57,kcc];refine fz y ?_;clear y Y))))
     refine ye (by simp only [zb,seval,w57,kcc];rfl) (by simp only [zv,kcc];rfl) ?_
     rfl
   ·have qa:(a.k == 6)=false:=by simp [ha]
    rw [if_neg (fun h=>ha h.1)]
    simp only [rsA]
    rw [hlr] at hit' hec hcl hb ⊢
    refine fi Tryz.func57 Tryz.ntmps57 Tryz.results57 ?_
    repeat (first|(apply fw;focus ((with_reducible constructor)<;>constructor))|((first|with_reducible refine ga _ rfl fun Y y=>?_|(refine ca ?_;apply Exists.intro;constructor;assumption;intro Y y)|apply ri);simp only [zb,seval,w57,kcc,q0,q6,q7,g0',qa];refine fz y ?_;clear y Y))
    (refine WpA.draw0 4 _ _ _ rfl rfl rfl (by kernel_rfl) (by kernel_rfl) (by kernel_rfl) fun K8 hK8=>?_);simp only [zz] at hK8 ⊢;(refine Draw0.go fun K7 k=>?_);simp only [zb,seval,w57,kcc];(refine qz (k _ _ ?_));clear k K7
    refine Draw0.step (oz (hb)) ?_
    (refine Draw0.go fun K7 k=>?_);simp only [zb,seval,w57,kcc];(refine qz (k _ _ ?_));clear k K7;(try ((refine Draw0.nil (hK8 _ ?_));clear hK8 K8;(refine WpL.go _ rfl fun Y y=>?_);repeat (first|(apply fw;focus ((with_reducible constructor)<;>constructor))|((first|with_reducible refine ga _ rfl fun Y y=>?_|apply ri);simp only [zb,seval,w57,kcc];refine fz y ?_;clear y Y))))
    refine ye (by simp only [zb,seval,w57,kcc];rfl) (by simp only [zv,kcc];rfl) ?_
    rfl
  ·rw [show bF d=([],2) from if_neg he] at hit
   rw [show eB ev d=(kz,2) by unfold eB;rw [if_neg h0,if_neg h6,if_pos h7,if_neg he]]
   refine fi Tryz.func57 Tryz.ntmps57 Tryz.results57 ?_
   repeat (first|(apply fw;focus ((with_reducible constructor)<;>constructor))|((first|with_reducible refine ga _ rfl fun Y y=>?_|(refine ca ?_;apply Exists.intro;constructor;assumption;intro Y y)|apply ri);simp only [zb,seval,w57,kcc,q0,q6,q7];refine fz y ?_;clear y Y))
   refine yl (by simp only [zb,seval,w57,kcc,rsA];rfl) (by simp only [zv,kcc,rsA];rfl) ((by simp only [rcc,rsA];exact ae)) rfl
 ·have q7:(d.k == 7)=false:=by simp [h7]
  rw [show eB ev d=(bT d,0) by unfold eB;rw [if_neg h0,if_neg h6,if_neg h7]]
  simp only [rsA]
  refine fi Tryz.func57 Tryz.ntmps57 Tryz.results57 ?_
  repeat (first|(apply fw;focus ((with_reducible constructor)<;>constructor))|((first|with_reducible refine ga _ rfl fun Y y=>?_|(refine ca ?_;apply Exists.intro;constructor;assumption;intro Y y)|apply ri);simp only [zb,seval,w57,kcc,q0,q6,q7];refine fz y ?_;clear y Y))
  refine ye (by simp only [zb,seval,w57,kcc];rfl) (by simp only [zv,kcc];rfl) ?_
  rfl
theorem LC:∀n:Nat,n≤100000000→HE n (evs n)
 | 0,_=>⟨fun d h=>absurd h.2.2 (Nat.not_lt_zero _),fun l h=>absurd h.2.2 (Nat.not_lt_zero _),fun d k h=>absurd h.2.2 (Nat.not_lt_zero _),fun d=>Nat.zero_le _,fun l=>Nat.zero_le _,fun d k=>Nat.zero_le _,Nat.zero_le _⟩
 | n+1,hn=>by
  have h:=LC n (by omega)
  have e1:∀d,Gd (n+1) d→Pure Tryz.prog 57 [.agg d.cc] (rsA (eB (evs n) d)):=fun d hd=>OZ h d hd
  have e2:∀d,(eB (evs n) d).2≤2:=SE h
  have hm:HE n ⟨eB (evs n),(evs n).b,(evs n).q⟩:=⟨fun d hd=>e1 d (hd.le (by omega)),h.b,h.q,e2,h.b2,h.q2,h.big⟩
  exact⟨e1,fun l hl=>IP hm e1 hn l hl,fun d k hd h1 hk=>KU hm d k hd h1 hk,e2,fun l=>UC hm l,fun d k=>OV hm d k,hn⟩
end Go.Proofs.YtaeioidifpebdaaGreatDoor
end
