/-
 Laid together: Wo18, Wp18, Wq18.
-/
import Derived.Test.YtaeioidifpebdaaGreatDoorG8
section
namespace Go.Proofs.YtaeioidifpebdaaGreatDoor
open Go Go.RowKit Go.Lib
set_option linter.unusedSimpArgs false
set_option linter.unusedVariables false
set_option maxHeartbeats 8000000
set_option maxRecDepth 100000
def tT (l:List D):List (D × D × D):=l.filterMap kY
noncomputable def tN (l:List D):List ByteArray:=(tT l).map fun t=>(bB t.1).1
noncomputable def tE (l:List D):Nat:=gH ((tT l).map fun t=>(bB t.1).2)
def tI (l:List D):List D:=(tT l).map fun t=>t.2.1
def tS (l:List D):List D:=(tT l).map fun t=>t.2.2
theorem CU {l:List D} {d:D} {t:D × D × D} (h:kY d=some t):tT (l++[d])=tT l++[t]:=by simp [tT,h]
theorem SA (l:List D):(tT l).length≤l.length:=List.length_filterMap_le _ _
theorem RF (l:List D):tE l≤2:=nL fun x hx=>by
 obtain⟨d,_,rfl⟩:=List.mem_map.1 hx
 exact eJ _
theorem sX {d:D} {t:D × D × D} (h:kY d=some t):fE d=0∧(items d=[t.1,t.2.1]∧t.2.2=t.1∨items d=[t.1,t.2.1,t.2.2]):=by
 unfold kY at h
 split at h
 ·rename_i he
  refine⟨he,?_⟩
  split at h
  ·rename_i hh;cases h;exact .inl ⟨hh,rfl⟩
  ·rename_i hh;cases h;exact .inr hh
  ·cases h
 ·cases h
theorem IE {d:D} (h:kY d=none):fE d≠0∨(fE d=0∧((items d).length<2∨3<(items d).length)):=by
 unfold kY at h
 split at h
 ·rename_i he
  refine .inr ⟨he,?_⟩
  match hh:items d with
  | []=>exact .inl (by simp)
  | [_]=>exact .inl (by simp)
  | [_,_]=>rw [hh] at h;simp at h
  | [_,_,_]=>rw [hh] at h;simp at h
  | _::_::_::_::_=>exact .inr (by simp)
 ·rename_i he;exact .inl he
theorem OJ {n:Nat} {d:D} {t:D × D × D} (hd:Gd n d) (h:kY d=some t):Gd n t.1∧Gd n t.2.1∧Gd n t.2.2∧t.2.1.msr≤d.msr∧t.2.2.msr≤d.msr:=by
 obtain⟨-,h2⟩:=sX h
 have hi:=hd.items
 have hm:=lZ d
 rcases h2 with ⟨h2,h3⟩|h2
 ·rw [h2] at hi hm
  simp only [bZ] at hm
  rw [h3]
  exact⟨hi.head,hi.tail.head,hi.head,by omega,by omega⟩
 ·rw [h2] at hi hm
  simp only [bZ] at hm
  exact⟨hi.head,hi.tail.head,hi.tail.tail.head,by omega,by omega⟩
theorem uQ {n:Nat}:∀{l:List D},Gds n l→(Gds n (tI l)∧Gds n (tS l))∧bZ (tI l)≤bZ l∧bZ (tS l)≤bZ l
 | [],h=>⟨⟨h,h⟩,Nat.le_refl _,Nat.le_refl _⟩
 | d::l,h=>by
  obtain⟨⟨⟨a1,a2,-⟩,⟨b1,b2,-⟩⟩,m1,m2⟩:=uQ h.tail
  have hn:=h.2.2
  unfold tI tS tT at *
  rw [List.filterMap_cons]
  rw [bZ] at hn ⊢
  cases ht:kY d with
  | none=>exact⟨⟨⟨a1,a2,by dsimp only;omega⟩,⟨b1,b2,by dsimp only;omega⟩⟩,by dsimp only;omega,by dsimp only;omega⟩
  | some t =>
   obtain⟨-,g1,g2,k1,k2⟩:=OJ h.head ht
   simp only [List.map_cons,bZ]
   exact⟨⟨⟨⟨g1.1,a1⟩,⟨g1.2.1,a2⟩,by simp only [bZ];omega⟩,⟨⟨g2.1,b1⟩,⟨g2.2.1,b2⟩,by simp only [bZ];omega⟩⟩,by omega,by omega⟩
structure LoS (l:List D) (S:List (Option Ob)) (cN cI cS:C):Prop where
 n:At 9 1 S cN (dI (tN l))
 i:At 28 6 S cI ((tI l).map D.cc)
 s:At 28 6 S cS ((tS l).map D.cc)
 box:S[0]?=some (some ⟨31,11,[[.v (.int .i64 0),.v (.string ⟨#[]⟩),.v (.string ⟨#[]⟩),.v (.slice none 0 0),.v (.int .i64 0),.v (.int .i32 0),.v (.bool false),.v (.slice none 0 0),.v (.string ⟨#[]⟩),.v (.slice none 0 0),.v (.slice none 0 0)]]⟩)
 is:∀j n m,cI=.ms j n→cS≠.ms j m
def LoI (q l:List D) (er:Nat) (n:Nat) (st:St):Prop:=∃(i:Nat) (S:List (Option Ob)) (cN cI cS:C),n=l.length-i∧i≤l.length∧(l.take i).all (fun d=>(kY d).isSome)=true∧LoS (l.take i) S cN cI cS ∧
 st=⟨[(40,.one (.v (.int .i64 i))),(39,.one (.v (.int .i64 l.length))),(38,.one (.sl 6 (l.map D.cc))),(2,.one (.ptr 0 1 0 0)),(3,.one (.er 0)),(6,.one cN),(7,.one cI),(8,.one cS),(5,.one (.er (max er (tE (l.take i))))),(0,.one (.sl 6 (q.map D.cc)))],S⟩
noncomputable def qZ (ev:Ev) (names:List ByteArray) (inits steps:List D) (err:Nat) (ends r:List D):Rs:=match ends with
 | []=>(kz,2)
 | e::es =>
  let test:=ev.e e
  let last:=if es=[] then (bI,0) else eN ev.e es
  let body:=aL ev.e r
  let next:=aL ev.e steps
  let again:=dA (bL dT::next.1)
  let f:=eM names e0 (aE test.1 last.1 (fZ (body.1++[again.1])))
  let x:=kK [dT] [f.1] (bL dT)
  let vs:=aL ev.e inits
  let c:=dA (x.1::vs.1)
  (c.1,max (max (max (max (max (max (max (max err test.2) last.2) body.2) next.2) again.2) f.2) x.2) vs.2 |> fun m=>max m c.2)
theorem oL (ev:Ev) (a b:D) (r:List D):mN ev (a::b::r)=if (aN a).1.all (fun d=>(kY d).isSome) then qZ ev (tN (aN a).1) (tI (aN a).1) (tS (aN a).1) (max (max (max (aN a).2 (tE (aN a).1)) (aN b).2) (unl (tN (aN a).1))) (aN b).1 r else (kz,2):=by
 unfold mN qZ tN tI tS tE tT
 rfl
theorem OK {n:Nat} {ev:Ev} (hE:HE n ev) (names:List ByteArray) (inits steps:List D) (err:Nat) (ends r:List D) (he:err≤2):(qZ ev names inits steps err ends r).2≤2:=by
 unfold qZ
 split
 ·exact Nat.le_refl _
 ·rename_i e es
  dsimp only
  have w1:=hE.e2 e
  have w2:(if es=[] then ((bI,0):Rs) else eN ev.e es).2≤2:=by
   split
   ·exact Nat.zero_le _
   ·exact jV hE es
  have w3:=eF hE r
  have w4:=eF hE steps
  have w5:=eV (bL dT::(aL ev.e steps).1)
  generalize (if es=[] then ((bI,0):Rs) else eN ev.e es)=L at *
  have w6:=lH names e0 (aE (ev.e e).1 L.1 (fZ ((aL ev.e r).1++[(dA (bL dT::(aL ev.e steps).1)).1])))
  generalize eM names e0 (aE (ev.e e).1 L.1 (fZ ((aL ev.e r).1++[(dA (bL dT::(aL ev.e steps).1)).1])))=F at *
  have w7:=lT [dT] [F.1] (bL dT)
  have w8:=eF hE inits
  have w9:=eV ((kK [dT] [F.1] (bL dT)).1::(aL ev.e inits).1)
  omega
theorem LQ {n:Nat} {ev:Ev} (hE:HE n ev) (l:List D):(mN ev l).2≤2:=by
 match l with
 | []=>exact Nat.le_refl _
 | [_]=>exact Nat.le_refl _
 | a::b::r =>
  rw [oL]
  split
  ·refine OK hE _ _ _ _ _ _ ?_
   have:=iK a
   have:=iK b
   have:=RF (aN a).1
   have:=kN (tN (aN a).1)
   omega
  ·exact Nat.le_refl _
noncomputable def BF (ev:Ev) (names:List ByteArray) (inits steps:List D) (tK lK:K) (err:Nat) (r:List D):Rs :=
  let body:=aL ev.e r
  let next:=aL ev.e steps
  let again:=dA (bL dT::next.1)
  let f:=eM names e0 (aE tK lK (fZ (body.1++[again.1])))
  let x:=kK [dT] [f.1] (bL dT)
  let vs:=aL ev.e inits
  let c:=dA (x.1::vs.1)
  (c.1,max (max (max (max (max (max err body.2) next.2) again.2) f.2) x.2) vs.2 |> fun m=>max m c.2)
theorem LR (ev:Ev) (names:List ByteArray) (inits steps:List D) (err:Nat) (e:D) (r:List D):qZ ev names inits steps err [e] r=BF ev names inits steps (ev.e e).1 bI (max err (ev.e e).2) r:=by
 unfold qZ BF;simp
theorem IG (ev:Ev) (names:List ByteArray) (inits steps:List D) (err:Nat) (e f:D) (fs r:List D):qZ ev names inits steps err (e::f::fs) r=BF ev names inits steps (ev.e e).1 (eN ev.e (f::fs)).1 (max (max err (ev.e e).2) (eN ev.e (f::fs)).2) r:=by
 unfold qZ BF;simp
theorem IH {n:Nat} {ev:Ev} (hE:HE n ev) (l0:List D) (hl:Gds n l0):Pure Tryz.prog 134 [.one (.sl 6 (l0.map D.cc))] (rsA (mN ev l0)):=by
 have hbig:=hE.big
 have hw:Pure Tryz.prog 84 [.one (.v (.string ⟨#[100,111]⟩)),.one (.gv 1)] (.one (.er 2)):=cY _ 1
 by_cases h2:l0.length<2
 ·have hde:mN ev l0=(kz,2):=by
   match l0,h2 with
   | [],_=>rfl
   | [a],_=>rfl
  have hlt:decide ((l0.length:Int)<2)=true:=by simp;omega
  rw [hde]
  refine fi Tryz.func134 Tryz.ntmps134 Tryz.results134 ?_
  repeat (first|(apply fw;(with_reducible constructor)<;>rfl)|(apply WpA.cd;constructor)|((first|with_reducible refine WpA.go _ rfl fun Y y=>?_|apply RunTo.id);simp only [zb,seval,aI,kcc,hlt];refine fz y ?_;clear y Y))
  refine cz (hw) ?_
  (refine WpL.go _ rfl fun Y y=>?_);repeat (first|(apply fw;(with_reducible constructor)<;>rfl)|(apply WpA.cd;constructor)|((first|with_reducible refine WpA.go _ rfl fun Y y=>?_|apply RunTo.id);simp only [zb,seval,aI,kcc];refine fz y ?_;clear y Y))
  refine⟨by simp,_,_,_,_,(by simp only [zb,seval,aI,kcc,rsA];rfl),(by simp),(by simp only [zv,kcc,rsA];rfl),(by simp [ksh]),_,(by simp only [rcc,rsA];exact ae),rfl⟩
 ·obtain⟨a,b,r,hlr⟩:∃a b r,a::b::r=l0:=by
   match l0,h2 with
   | [],h=>exact absurd (by simp) h
   | [a],h=>exact absurd (by simp) h
   | a::b::r,_=>exact⟨a,b,r,rfl⟩
  obtain⟨g0,gt,gd,gl,gn,g11,g00,g22⟩:=pO a (b::r) l0 hlr
  obtain⟨g1,gdd⟩:=QD a b r l0 hlr
  have hlt:decide ((l0.length:Int)<2)=false:=by simp;omega
  have hle2:(2:Int)≤(l0.length:Int):=by omega
  have ha:Gd n a:=hl.mem (by rw [←hlr];simp)
  have hb:Gd n b:=hl.mem (by rw [←hlr];simp)
  have hr:Gds n r:=(hlr▸hl:Gds n (a::b::r)).tail.tail
  have hia:=fM a ha.2.1 (by have:=ha.items.len;omega)
  have hib:=fM b hb.2.1 (by have:=hb.items.len;omega)
  have wa:=iK a
  have wb:=iK b
  have gA:=fQ ha
  have gB:=fQ hb
  have hq:(l0.map D.cc).length=l0.length:=List.length_map ..
  have wr0:IntKind.i64.wrap 0=0:=eH (by omega) (by omega)
  have wr1:IntKind.i64.wrap 1=1:=eH (by omega) (by omega)
  have wr2:IntKind.i64.wrap 2=2:=eH (by omega) (by omega)
  rw [←hlr,oL,hlr]
  generalize aN b=IB at *
  generalize (aN a).2=er at *
  generalize (aN a).1=l at *
  have hlen:=gA.len
  refine fi Tryz.func134 Tryz.ntmps134 Tryz.results134 ?_
  repeat (first|(apply fw;(with_reducible constructor)<;>rfl)|(apply WpA.cd;constructor)|((first|with_reducible refine WpA.go _ rfl fun Y y=>?_|apply RunTo.id);simp only [zb,seval,aI,kcc,hlt,g0];refine fz y ?_;clear y Y))
  refine cz (hia) ?_
  (refine WpL.go _ rfl fun Y y=>?_);repeat (first|(apply fw;(with_reducible constructor)<;>rfl)|(apply WpA.cd;constructor)|((first|with_reducible refine WpA.go _ rfl fun Y y=>?_|apply RunTo.id);simp only [zb,seval,aI,kcc];refine fz y ?_;clear y Y))
  refine WpA.loop (LoI l0 l er) l.length (st0:=⟨[(40,.one (.v (.int .i64 (0:Nat)))),(39,.one (.v (.int .i64 l.length))),(38,.one (.sl 6 (l.map D.cc))),(2,.one (.ptr 0 1 0 0)),(3,.one (.er 0)),(6,.one (.v (.slice none 0 0))),(7,.one (.v (.slice none 0 0))),(8,.one (.v (.slice none 0 0))),(5,.one (.er (max er (tE (l.take 0))))),(0,.one (.sl 6 (l0.map D.cc)))],[some ⟨31,11,[[.v (.int .i64 0),.v (.string ⟨#[]⟩),.v (.string ⟨#[]⟩),.v (.slice none 0 0),.v (.int .i64 0),.v (.int .i32 0),.v (.bool false),.v (.slice none 0 0),.v (.string ⟨#[]⟩),.v (.slice none 0 0),.v (.slice none 0 0)]]⟩]⟩) (Le.sub (by simp [Sub,find,tE,tT,gH]))
   ⟨0,_,_,_,_,rfl,Nat.zero_le _,by simp,⟨At.nil _ _ _,At.nil _ _ _,At.nil _ _ _,rfl,(fun j n m e=>by cases e)⟩,rfl⟩ ?_
  intro n' st hI
  obtain⟨i,S,cN,cI,cS,rfl,hi,hall,hB,rfl⟩:=hI
  have hw2:IntKind.i64.wrap ((i:Int)+1)=((i+1:Nat):Int):=by rw [eH (by omega) (by omega)];omega
  have hte:=RF (l.take i)
  have htl:=SA (l.take i)
  rw [List.length_take,Nat.min_eq_left hi] at htl
  have hnl:(tN (l.take i)).length≤i:=by unfold tN;rw [List.length_map];exact htl
  have hil:(tI (l.take i)).length≤i:=by unfold tI;rw [List.length_map];exact htl
  have hsl:(tS (l.take i)).length≤i:=by unfold tS;rw [List.length_map];exact htl
  have hS0:=(List.getElem?_eq_some_iff.1 hB.box).1
  by_cases hlt2:i<l.length
  ·have hd1:decide ((i:Int)<(l.length:Int))=true:=by simp;omega
   have hget:=zZ hlt2
   have hbm:=gA.mem (List.getElem_mem hlt2)
   have him:=fM l[i] hbm.2.1 (by have:=hbm.items.len;omega)
   have htk:=List.take_succ_eq_append_getElem hlt2
   have hmem:l[i]∈l:=List.getElem_mem hlt2
   generalize hdd:l[i]=d at *
   cases htr:kY d with
   | none =>
    have hfa:l.all (fun d=>(kY d).isSome)=false:=List.all_eq_false.2 ⟨d,hmem,by simp [htr]⟩
    have h0':∀T,(S++T)[0]?=_:=fun T=>cW hB.box
    have hset:∀(T:List (Option Ob)) (a:Option Ob),((S++T).set 0 a)[0]?=some a:=fun T a=>List.getElem?_set_self (by simp;omega)
    rw [hfa]
    simp only [Bool.false_eq_true,if_false]
    rcases IE htr with he|⟨he,hln⟩
    ·rw [show aN d=([],2) from if_neg he] at him
     simp only [List.map_nil] at him
     repeat (first|(apply fw;(with_reducible constructor)<;>rfl)|(apply WpA.cd;constructor)|((first|with_reducible refine WpA.go _ rfl fun Y y=>?_|apply RunTo.id);simp only [zb,seval,aI,hd1,hget,kcc,aF];refine fz y ?_;clear y Y))
     refine cz (him) ?_
     (refine WpL.go _ rfl fun Y y=>?_);repeat (first|(apply fw;(with_reducible constructor)<;>rfl)|(apply WpA.cd;constructor)|((first|with_reducible refine WpA.go _ rfl fun Y y=>?_|apply RunTo.id);simp only [zb,seval,aI,kcc];refine fz y ?_;clear y Y))
     refine cz (hw) ?_
     (refine WpL.go _ rfl fun Y y=>?_);repeat (first|(apply fw;(with_reducible constructor)<;>rfl)|(apply WpA.cd;constructor)|((first|with_reducible refine WpA.go _ rfl fun Y y=>?_|apply RunTo.id);simp only [zb,seval,aI,kcc,h0'];refine fz y ?_;clear y Y))
     refine⟨by simp,_,_,_,_,(by simp only [zb,seval,aI,kcc,rsA,hset];rfl),(by simp),(by simp only [zv,kcc,rsA,hset];rfl),(by simp [ksh]),_,(by simp only [rcc,rsA];exact ae),rfl⟩
    ·rw [show aN d=(items d,0) from if_pos he] at him
     simp only at him
     by_cases hl2:(items d).length<2
     ·have hc2:decide (((items d).length:Int)<2)=true:=by simp;omega
      repeat (first|(apply fw;(with_reducible constructor)<;>rfl)|(apply WpA.cd;constructor)|((first|with_reducible refine WpA.go _ rfl fun Y y=>?_|apply RunTo.id);simp only [zb,seval,aI,hd1,hget,kcc,aF];refine fz y ?_;clear y Y))
      refine cz (him) ?_
      (refine WpL.go _ rfl fun Y y=>?_);repeat (first|(apply fw;(with_reducible constructor)<;>rfl)|(apply WpA.cd;constructor)|((first|with_reducible refine WpA.go _ rfl fun Y y=>?_|apply RunTo.id);simp only [zb,seval,aI,kcc,hc2];refine fz y ?_;clear y Y))
      refine cz (hw) ?_
      (refine WpL.go _ rfl fun Y y=>?_);repeat (first|(apply fw;(with_reducible constructor)<;>rfl)|(apply WpA.cd;constructor)|((first|with_reducible refine WpA.go _ rfl fun Y y=>?_|apply RunTo.id);simp only [zb,seval,aI,kcc,h0'];refine fz y ?_;clear y Y))
      refine⟨by simp,_,_,_,_,(by simp only [zb,seval,aI,kcc,rsA,hset];rfl),(by simp),(by simp only [zv,kcc,rsA,hset];rfl),(by simp [ksh]),_,(by simp only [rcc,rsA];exact ae),rfl⟩
     ·have hc2:decide (((items d).length:Int)<2)=false:=by simp;omega
      have hc3:decide ((3:Int)<((items d).length:Int))=true:=by simp;omega
      repeat (first|(apply fw;(with_reducible constructor)<;>rfl)|(apply WpA.cd;constructor)|((first|with_reducible refine WpA.go _ rfl fun Y y=>?_|apply RunTo.id);simp only [zb,seval,aI,hd1,hget,kcc,aF];refine fz y ?_;clear y Y))
      refine cz (him) ?_
      (refine WpL.go _ rfl fun Y y=>?_);repeat (first|(apply fw;(with_reducible constructor)<;>rfl)|(apply WpA.cd;constructor)|((first|with_reducible refine WpA.go _ rfl fun Y y=>?_|apply RunTo.id);simp only [zb,seval,aI,kcc,hc2,hc3];refine fz y ?_;clear y Y))
      refine cz (hw) ?_
      (refine WpL.go _ rfl fun Y y=>?_);repeat (first|(apply fw;(with_reducible constructor)<;>rfl)|(apply WpA.cd;constructor)|((first|with_reducible refine WpA.go _ rfl fun Y y=>?_|apply RunTo.id);simp only [zb,seval,aI,kcc,h0'];refine fz y ?_;clear y Y))
      refine⟨by simp,_,_,_,_,(by simp only [zb,seval,aI,kcc,rsA,hset];rfl),(by simp),(by simp only [zv,kcc,rsA,hset];rfl),(by simp [ksh]),_,(by simp only [rcc,rsA];exact ae),rfl⟩
   | some t =>
    obtain⟨v,x,y⟩:=t
    obtain⟨he,hxy⟩:=sX htr
    dsimp only at hxy
    have hv:=jU v
    have hbo:=aD (max er (tE (l.take i))) (bB v).2 (by omega) (eJ _)
    have hs:max (max er (tE (l.take i))) (bB v).2=max er (tE (l.take (i+1))):=by rw [htk];unfold tE;rw [CU htr,List.map_append,List.map_cons,List.map_nil,mM,Nat.max_assoc]
    rw [hs] at hbo
    rw [show aN d=(items d,0) from if_pos he] at him
    simp only at him
    have hall2:(l.take (i+1)).all (fun d=>(kY d).isSome)=true:=by rw [htk,List.all_append,hall];simp [htr]
    obtain⟨S8,c8,hA8,hl8,hfr8,hpl8,hop8⟩:=mA (P:=Tryz.prog) (T:=22) (by_:=16) dC dF dG (by omega) (S:=S++[some ⟨28,6,[d.cc]⟩]) (hB.n.app _) (new:=[[.v (.string (bB v).1)]]) (by simp) (by rw [dJ];simp;omega) (by rw [dJ];simp;omega)
    have hI8:At 28 6 S8 cI ((tI (l.take i)).map D.cc):=hB.i.stay fun k hk _=>hfr8 k _ (cW hk) (hB.n.apart hk (by show (28:Nat)≠_;decide))
    have hS8:At 28 6 S8 cS ((tS (l.take i)).map D.cc):=hB.s.stay fun k hk _=>hfr8 k _ (cW hk) (hB.n.apart hk (by show (28:Nat)≠_;decide))
    have h08:=hfr8 0 _ (cW hB.box) (hB.n.apart hB.box (by show (31:Nat)≠_;decide))
    obtain⟨S9,c9,hA9,hl9,hfr9,hpl9,hop9⟩:=mA (P:=Tryz.prog) (T:=26) (by_:=88) aX bJ bK (by omega) (S:=S8) hI8 (new:=[x.cc]) (by simp [kcc]) (by simp;omega) (by simp;omega)
    have hN9:At 9 1 S9 c8 _:=hA8.stay fun k hk _=>hfr9 k _ hk (hI8.apart hk (by show (9:Nat)≠_;decide))
    have hS9:At 28 6 S9 cS ((tS (l.take i)).map D.cc):=hS8.stay fun k hk e=>hfr9 k _ hk fun m e2=>hB.is k _ _ e2 e
    have h09:=hfr9 0 _ h08 (hI8.apart h08 (by show (31:Nat)≠_;decide))
    obtain⟨S10,c10,hA10,hl10,hfr10,hpl10,hop10⟩:=mA (P:=Tryz.prog) (T:=26) (by_:=88) aX bJ bK (by omega) (S:=S9) hS9 (new:=[y.cc]) (by simp [kcc]) (by simp;omega) (by simp;omega)
    have hcIS:∀m,∀k q,c9=.ms k q→cS≠.ms k m:=fun m k q e e2=>by
     rcases hpl9 _ _ e with ⟨p,h⟩|h
     ·exact hB.is _ _ _ h e2
     ·have:=hB.s.lt e2;rw [List.length_append] at hl8;omega
    have hN10:At 9 1 S10 c8 _:=hN9.stay fun k hk _=>hfr10 k _ hk (hS9.apart hk (by show (9:Nat)≠_;decide))
    have hI10:At 28 6 S10 c9 _:=hA9.stay fun k hk e=>hfr10 k _ hk fun m=>hcIS m k _ e
    have h010:=hfr10 0 _ h09 (hS9.apart h09 (by show (31:Nat)≠_;decide))
    have hfin:LoS (l.take (i+1)) S10 c8 c9 c10:=by
     refine⟨?_,?_,?_,h010,fun k q m e e2=>?_⟩
     ·rw [htk];unfold tN;rw [CU htr,List.map_append,List.map_cons,List.map_nil,oK];exact hN10
     ·rw [htk];unfold tI;rw [CU htr,List.map_append,List.map_append];exact hI10
     ·rw [htk];unfold tS;rw [CU htr,List.map_append,List.map_append];exact hA10
     ·rcases hpl10 _ _ e2 with ⟨p,h⟩|h
      ·exact hcIS _ _ _ e h
      ·have:=hA9.lt e
       omega
        
    rcases hxy with ⟨hxy,hyv⟩|hxy
    ·subst hyv
     rw [hxy] at him
     simp only [List.map_cons,List.map_nil] at him
     repeat (first|(apply fw;(with_reducible constructor)<;>rfl)|(apply WpA.cd;constructor)|((first|with_reducible refine WpA.go _ rfl fun Y y=>?_|apply RunTo.id);simp only [zb,seval,aI,hd1,hget,kcc,aF];refine fz y ?_;clear y Y))
     refine cz (him) ?_
     (refine WpL.go _ rfl fun Y y=>?_);repeat (first|(apply fw;(with_reducible constructor)<;>rfl)|(apply WpA.cd;constructor)|((first|with_reducible refine WpA.go _ rfl fun Y y=>?_|apply RunTo.id);simp only [zb,seval,aI,kcc];refine fz y ?_;clear y Y))
     refine cz (hv) ?_
     (refine WpL.go _ rfl fun Y y=>?_);repeat (first|(apply fw;(with_reducible constructor)<;>rfl)|(apply WpA.cd;constructor)|((first|with_reducible refine WpA.go _ rfl fun Y y=>?_|apply RunTo.id);simp only [zb,seval,aI,kcc];refine fz y ?_;clear y Y))
     refine cz (hbo) ?_
     (refine WpL.go _ rfl fun Y y=>?_);repeat (first|(apply fw;(with_reducible constructor)<;>rfl)|(apply WpA.cd;constructor)|((first|with_reducible refine WpA.go _ rfl fun Y y=>?_|apply RunTo.id);simp only [zb,seval,aI,kcc];refine fz y ?_;clear y Y))
     skip
     refine WpA.draw1 20 [3,9,19] [] [_,S8,S9,S10] _ _ _ _ rfl rfl rfl (by kernel_rfl) (by kernel_rfl) (by kernel_rfl) (by kernel_rfl) rfl rfl rfl rfl (by decide) fun K8 hK8=>?_
     simp only [zz] at hK8 ⊢
     (refine Draw1.go fun K7 k=>?_);simp only [zb,seval,aI,kcc];(refine qz (k _ _ (by rfl) ?_));clear k K7;(simp only [zz,Nat.reduceAdd,Nat.reduceSub]);(try ((refine nz (hK8 _ ?_));clear hK8 K8;(refine WpL.go _ rfl fun Y y=>?_);repeat (first|(apply fw;(with_reducible constructor)<;>rfl)|(apply WpA.cd;constructor)|((first|with_reducible refine WpA.go _ rfl fun Y y=>?_|apply RunTo.id);simp only [zb,seval,aI,kcc];refine fz y ?_;clear y Y))))
     refine Draw1.step (by rfl) (fun s9 _=>OpS.frozen (n:=1) (wd:=1) (ty:=9) (rows:=[[.v (.string (bB y).1)]]) (OpS.eff [(75,_)] rfl (by rfl) ⟨rfl,trivial⟩ (by simp only [zb,seval,aI,kcc];rfl) (by simp)) rfl (by simp [ksh])) ?_;simp only [bM]
     refine Draw1.eff 0 rfl rfl rfl (OpS.effO [(74,_),(76,_)] rfl (by rfl) ⟨rfl,rfl,trivial⟩ (hop8 _ _ _ _ _ rfl rfl) rfl) ?_
     simp only [bM]
     (refine Draw1.go fun K7 k=>?_);simp only [zb,seval,aI,kcc];(refine qz (k _ _ (by rfl) ?_));clear k K7;(simp only [zz,Nat.reduceAdd,Nat.reduceSub]);(try ((refine nz (hK8 _ ?_));clear hK8 K8;(refine WpL.go _ rfl fun Y y=>?_);repeat (first|(apply fw;(with_reducible constructor)<;>rfl)|(apply WpA.cd;constructor)|((first|with_reducible refine WpA.go _ rfl fun Y y=>?_|apply RunTo.id);simp only [zb,seval,aI,kcc];refine fz y ?_;clear y Y))))
     refine Draw1.step (by rfl) (fun s9 _=>OpS.frozen (n:=1) (wd:=6) (ty:=28) (rows:=[x.cc]) (OpS.eff [(81,_)] rfl (by rfl) ⟨rfl,trivial⟩ (by simp only [zb,seval,aI,kcc];rfl) (by simp)) rfl (by simp [ksh])) ?_;simp only [bM]
     refine Draw1.eff 1 rfl rfl rfl (OpS.effO [(78,_),(82,_)] rfl (by rfl) ⟨rfl,rfl,trivial⟩ (hop9 _ _ _ _ _ rfl rfl) rfl) ?_
     simp only [bM]
     (refine Draw1.go fun K7 k=>?_);simp only [zb,seval,aI,kcc,wr0,wr1,wr2,g00,g22];(refine qz (k _ _ (by rfl) ?_));clear k K7;(simp only [zz,Nat.reduceAdd,Nat.reduceSub]);(try ((refine nz (hK8 _ ?_));clear hK8 K8;(refine WpL.go _ rfl fun Y y=>?_);repeat (first|(apply fw;(with_reducible constructor)<;>rfl)|(apply WpA.cd;constructor)|((first|with_reducible refine WpA.go _ rfl fun Y y=>?_|apply RunTo.id);simp only [zb,seval,aI,kcc,wr0,wr1,wr2,g00,g22];refine fz y ?_;clear y Y))))
     refine Draw1.step (by rfl) (fun s9 _=>OpS.frozen (n:=1) (wd:=6) (ty:=28) (rows:=[y.cc]) (OpS.eff [(91,_)] rfl (by rfl) ⟨rfl,trivial⟩ (by simp only [zb,seval,aI,kcc];rfl) (by simp)) rfl (by simp [ksh])) ?_;simp only [bM]
     refine Draw1.eff 2 rfl rfl rfl (OpS.effO [(84,_),(92,_)] rfl (by rfl) ⟨rfl,rfl,trivial⟩ (hop10 _ _ _ _ _ rfl rfl) rfl) ?_
     simp only [bM]
     (refine Draw1.go fun K7 k=>?_);simp only [zb,seval,aI,kcc,hw2];(refine qz (k _ _ (by rfl) ?_));clear k K7;(simp only [zz,Nat.reduceAdd,Nat.reduceSub]);(try ((refine nz (hK8 _ ?_));clear hK8 K8;(refine WpL.go _ rfl fun Y y=>?_);repeat (first|(apply fw;(with_reducible constructor)<;>rfl)|(apply WpA.cd;constructor)|((first|with_reducible refine WpA.go _ rfl fun Y y=>?_|apply RunTo.id);simp only [zb,seval,aI,kcc,hw2];refine fz y ?_;clear y Y))))
     exact⟨l.length-(i+1),_,by omega,Le.sub (by simp [Sub,find]),i+1,S10,c8,c9,c10,rfl,hlt2,hall2,hfin,rfl⟩
    ·rw [hxy] at him
     simp only [List.map_cons,List.map_nil] at him
     repeat (first|(apply fw;(with_reducible constructor)<;>rfl)|(apply WpA.cd;constructor)|((first|with_reducible refine WpA.go _ rfl fun Y y=>?_|apply RunTo.id);simp only [zb,seval,aI,hd1,hget,kcc,aF];refine fz y ?_;clear y Y))
     refine cz (him) ?_
     (refine WpL.go _ rfl fun Y y=>?_);repeat (first|(apply fw;(with_reducible constructor)<;>rfl)|(apply WpA.cd;constructor)|((first|with_reducible refine WpA.go _ rfl fun Y y=>?_|apply RunTo.id);simp only [zb,seval,aI,kcc];refine fz y ?_;clear y Y))
     refine cz (hv) ?_
     (refine WpL.go _ rfl fun Y y=>?_);repeat (first|(apply fw;(with_reducible constructor)<;>rfl)|(apply WpA.cd;constructor)|((first|with_reducible refine WpA.go _ rfl fun Y y=>?_|apply RunTo.id);simp only [zb,seval,aI,kcc];refine fz y ?_;clear y Y))
     refine cz (hbo) ?_
     (refine WpL.go _ rfl fun Y y=>?_);repeat (first|(apply fw;(with_reducible constructor)<;>rfl)|(apply WpA.cd;constructor)|((first|with_reducible refine WpA.go _ rfl fun Y y=>?_|apply RunTo.id);simp only [zb,seval,aI,kcc];refine fz y ?_;clear y Y))
     skip
     refine WpA.draw1 20 [3,9,19] [] [_,S8,S9,S10] _ _ _ _ rfl rfl rfl (by kernel_rfl) (by kernel_rfl) (by kernel_rfl) (by kernel_rfl) rfl rfl rfl rfl (by decide) fun K8 hK8=>?_
     simp only [zz] at hK8 ⊢
     (refine Draw1.go fun K7 k=>?_);simp only [zb,seval,aI,kcc];(refine qz (k _ _ (by rfl) ?_));clear k K7;(simp only [zz,Nat.reduceAdd,Nat.reduceSub]);(try ((refine nz (hK8 _ ?_));clear hK8 K8;(refine WpL.go _ rfl fun Y y=>?_);repeat (first|(apply fw;(with_reducible constructor)<;>rfl)|(apply WpA.cd;constructor)|((first|with_reducible refine WpA.go _ rfl fun Y y=>?_|apply RunTo.id);simp only [zb,seval,aI,kcc];refine fz y ?_;clear y Y))))
     refine Draw1.step (by rfl) (fun s9 _=>OpS.frozen (n:=1) (wd:=1) (ty:=9) (rows:=[[.v (.string (bB v).1)]]) (OpS.eff [(75,_)] rfl (by rfl) ⟨rfl,trivial⟩ (by simp only [zb,seval,aI,kcc];rfl) (by simp)) rfl (by simp [ksh])) ?_;simp only [bM]
     refine Draw1.eff 0 rfl rfl rfl (OpS.effO [(74,_),(76,_)] rfl (by rfl) ⟨rfl,rfl,trivial⟩ (hop8 _ _ _ _ _ rfl rfl) rfl) ?_
     simp only [bM]
     (refine Draw1.go fun K7 k=>?_);simp only [zb,seval,aI,kcc];(refine qz (k _ _ (by rfl) ?_));clear k K7;(simp only [zz,Nat.reduceAdd,Nat.reduceSub]);(try ((refine nz (hK8 _ ?_));clear hK8 K8;(refine WpL.go _ rfl fun Y y=>?_);repeat (first|(apply fw;(with_reducible constructor)<;>rfl)|(apply WpA.cd;constructor)|((first|with_reducible refine WpA.go _ rfl fun Y y=>?_|apply RunTo.id);simp only [zb,seval,aI,kcc];refine fz y ?_;clear y Y))))
     refine Draw1.step (by rfl) (fun s9 _=>OpS.frozen (n:=1) (wd:=6) (ty:=28) (rows:=[x.cc]) (OpS.eff [(81,_)] rfl (by rfl) ⟨rfl,trivial⟩ (by simp only [zb,seval,aI,kcc];rfl) (by simp)) rfl (by simp [ksh])) ?_;simp only [bM]
     refine Draw1.eff 1 rfl rfl rfl (OpS.effO [(78,_),(82,_)] rfl (by rfl) ⟨rfl,rfl,trivial⟩ (hop9 _ _ _ _ _ rfl rfl) rfl) ?_
     simp only [bM]
     (refine Draw1.go fun K7 k=>?_);simp only [zb,seval,aI,kcc,wr0,wr1,wr2,g00,g22];(refine qz (k _ _ (by rfl) ?_));clear k K7;(simp only [zz,Nat.reduceAdd,Nat.reduceSub]);(try ((refine nz (hK8 _ ?_));clear hK8 K8;(refine WpL.go _ rfl fun Y y=>?_);repeat (first|(apply fw;(with_reducible constructor)<;>rfl)|(apply WpA.cd;constructor)|((first|with_reducible refine WpA.go _ rfl fun Y y=>?_|apply RunTo.id);simp only [zb,seval,aI,kcc,wr0,wr1,wr2,g00,g22];refine fz y ?_;clear y Y))))
     refine Draw1.step (by rfl) (fun s9 _=>OpS.frozen (n:=1) (wd:=6) (ty:=28) (rows:=[y.cc]) (OpS.eff [(91,_)] rfl (by rfl) ⟨rfl,trivial⟩ (by simp only [zb,seval,aI,kcc];rfl) (by simp)) rfl (by simp [ksh])) ?_;simp only [bM]
     refine Draw1.eff 2 rfl rfl rfl (OpS.effO [(84,_),(92,_)] rfl (by rfl) ⟨rfl,rfl,trivial⟩ (hop10 _ _ _ _ _ rfl rfl) rfl) ?_
     simp only [bM]
     (refine Draw1.go fun K7 k=>?_);simp only [zb,seval,aI,kcc,hw2];(refine qz (k _ _ (by rfl) ?_));clear k K7;(simp only [zz,Nat.reduceAdd,Nat.reduceSub]);(try ((refine nz (hK8 _ ?_));clear hK8 K8;(refine WpL.go _ rfl fun Y y=>?_);repeat (first|(apply fw;(with_reducible constructor)<;>rfl)|(apply WpA.cd;constructor)|((first|with_reducible refine WpA.go _ rfl fun Y y=>?_|apply RunTo.id);simp only [zb,seval,aI,kcc,hw2];refine fz y ?_;clear y Y))))
     exact⟨l.length-(i+1),_,by omega,Le.sub (by simp [Sub,find]),i+1,S10,c8,c9,c10,rfl,hlt2,hall2,hfin,rfl⟩
  ·have hd0:decide ((i:Int)<(l.length:Int))=false:=by simp;omega
   have hii:i=l.length:=by omega
   subst hii
   rw [List.take_length] at hall hB hte htl hnl hil hsl ⊢
   have hrn:(dI (tN l)).length=(tN l).length:=dJ _
   have gI:=(uQ gA).1.1
   have gS:=(uQ gA).1.2
   have hIlen:=gI.len
   have hSlen:=gS.len
   rw [hall]
   simp only [if_true]
   repeat (first|(apply fw;(with_reducible constructor)<;>rfl)|(apply WpA.cd;constructor))
   ((with_reducible refine WpA.go _ rfl fun Y y=>?_);simp only [zb,seval,aI,hd0];(refine RunTo.fn y (by first|(simp;done)|omega|(simp;omega)) ?_);clear y Y);repeat (first|(apply fw;(with_reducible constructor)<;>rfl)|(apply WpA.cd;constructor))
   refine WpA.frzAt 8 hB.s.au (CO _) rfl fun S1 hl1 ho1=>?_
   have hN1:At 9 1 S1 cN _:=hB.n.stay fun k hk _=>ho1 k _ hk (hB.s.apart hk (by show (9:Nat)≠_;decide))
   have hI1:At 28 6 S1 cI _:=hB.i.stay fun k hk e=>ho1 k _ hk fun m=>hB.is k _ m e
   have h01:=ho1 0 _ hB.box (hB.s.apart hB.box (by show (31:Nat)≠_;decide))
   refine WpA.frzAt 7 hI1.au (CO _) rfl fun S2 hl2 ho2=>?_
   have hN2:At 9 1 S2 cN _:=hN1.stay fun k hk _=>ho2 k _ hk (hI1.apart hk (by show (9:Nat)≠_;decide))
   have h02:=ho2 0 _ h01 (hI1.apart h01 (by show (31:Nat)≠_;decide))
   refine WpA.frzAt 6 hN2.au (lY _) rfl fun S3 hl3 ho3=>?_
   have h03:=ho3 0 _ h02 (hN2.apart h02 (by show (31:Nat)≠_;decide))
   have hS3:=(List.getElem?_eq_some_iff.1 h03).1
   clear hB hN1 hI1 hN2 ho1 ho2 ho3 h01 h02
   have hun:=jI (tN l) (by omega)
   have wu:=kN (tN l)
   have o1:=aD (max er (tE l)) IB.2 (by omega) wb
   have o2:=aD (max (max er (tE l)) IB.2) (unl (tN l)) (by omega) wu
   have hset0:∀(a:Option Ob),(S3.set 0 a)[0]?=some a:=fun a=>List.getElem?_set_self hS3
   generalize hns:tN l=ns at *
   generalize hins:tI l=ins at *
   generalize hsts:tS l=sts at *
   generalize hE1:max (max (max er (tE l)) IB.2) (unl ns)=E1 at *
   have wE1:E1≤2:=by omega
   repeat (first|(apply fw;(with_reducible constructor)<;>rfl)|(apply WpA.cd;constructor)|((first|with_reducible refine WpA.go _ rfl fun Y y=>?_|apply RunTo.id);simp only [zb,seval,aI,kcc,g1];refine fz y ?_;clear y Y))
   refine cz (hib) ?_
   (refine WpL.go _ rfl fun Y y=>?_);repeat (first|(apply fw;(with_reducible constructor)<;>rfl)|(apply WpA.cd;constructor)|((first|with_reducible refine WpA.go _ rfl fun Y y=>?_|apply RunTo.id);simp only [zb,seval,aI,kcc];refine fz y ?_;clear y Y))
   refine cz (o1) ?_
   (refine WpL.go _ rfl fun Y y=>?_);repeat (first|(apply fw;(with_reducible constructor)<;>rfl)|(apply WpA.cd;constructor)|((first|with_reducible refine WpA.go _ rfl fun Y y=>?_|apply RunTo.id);simp only [zb,seval,aI,kcc];refine fz y ?_;clear y Y))
   refine cz (hun) ?_
   (refine WpL.go _ rfl fun Y y=>?_);repeat (first|(apply fw;(with_reducible constructor)<;>rfl)|(apply WpA.cd;constructor)|((first|with_reducible refine WpA.go _ rfl fun Y y=>?_|apply RunTo.id);simp only [zb,seval,aI,kcc];refine fz y ?_;clear y Y))
   refine cz (o2) ?_
   clear hia hib o1 o2 hun
   generalize IB.1=ends at *
   match ends,gB with
   | [],gB =>
    (refine WpL.go _ rfl fun Y y=>?_);repeat (first|(apply fw;(with_reducible constructor)<;>rfl)|(apply WpA.cd;constructor)|((first|with_reducible refine WpA.go _ rfl fun Y y=>?_|apply RunTo.id);simp only [zb,seval,aI,kcc];refine fz y ?_;clear y Y))
    refine cz (hw) ?_
    (refine WpL.go _ rfl fun Y y=>?_);repeat (first|(apply fw;(with_reducible constructor)<;>rfl)|(apply WpA.cd;constructor)|((first|with_reducible refine WpA.go _ rfl fun Y y=>?_|apply RunTo.id);simp only [zb,seval,aI,kcc,h03];refine fz y ?_;clear y Y))
    refine⟨by simp,_,_,_,_,(by simp only [zb,seval,aI,kcc,rsA,hset0];rfl),(by simp),(by simp only [zv,kcc,rsA,hset0];rfl),(by simp [ksh]),_,(by simp only [rcc,rsA,qZ];exact ae),rfl⟩
   | e::es,gB =>
    obtain⟨q,hqr⟩:∃q,e::es=q:=⟨_,rfl⟩
    obtain⟨q0,qt,qd,ql,-⟩:=pO e es q hqr
    have hqz:((q.length:Int) == 0)=false:=by rw [ql];simp;omega
    have hq1:(1:Int)≤(q.length:Int):=by omega
    have hx:=hE.e e gB.head
    have we:=hE.e2 e
    have hno:=gK
    have hec:=jH hE sts gS
    have hei:=jH hE ins gI
    have hel:(aL ev.e sts).1.length=sts.length:=List.length_map ..
    have hel2:(aL ev.e ins).1.length=ins.length:=List.length_map ..
    have hrl:=oH dT
    have heb:(aL ev.e r).1.length=r.length:=List.length_map ..
    have hrlen:=hr.len
    have wB:=eF hE r
    have wS:=eF hE sts
    have wI:=eF hE ins
    have bt:=aD E1 (ev.e e).2 wE1 we
    simp only [rsA] at hx
    simp only [rlA] at hec hei
        
    cases es with
    | nil =>
     have hg1:decide ((1:Int)<(q.length:Int))=false:=by rw [←hqr];rfl
     rw [LR,hqr]
     (refine WpL.go _ rfl fun Y y=>?_);repeat (first|(apply fw;(with_reducible constructor)<;>rfl)|(apply WpA.cd;constructor)|((first|with_reducible refine WpA.go _ rfl fun Y y=>?_|apply RunTo.id);simp only [zb,seval,aI,kcc,hqz,q0];refine fz y ?_;clear y Y))
     refine cz (hx) ?_
     (refine WpL.go _ rfl fun Y y=>?_);repeat (first|(apply fw;(with_reducible constructor)<;>rfl)|(apply WpA.cd;constructor)|((first|with_reducible refine WpA.go _ rfl fun Y y=>?_|apply RunTo.id);simp only [zb,seval,aI,kcc,aF];refine fz y ?_;clear y Y))
     refine cz (bt) ?_
     generalize hE2:max E1 (ev.e e).2=E2 at *
     have wE2:E2≤2:=by omega
     (refine WpL.go _ rfl fun Y y=>?_);repeat (first|(apply fw;(with_reducible constructor)<;>rfl)|(apply WpA.cd;constructor)|((first|with_reducible refine WpA.go _ rfl fun Y y=>?_|apply RunTo.id);simp only [zb,seval,aI,kcc,aF];refine fz y ?_;clear y Y))
     refine cz (hno) ?_
     generalize hLK:bI=LK at *
     (refine WpL.go _ rfl fun Y y=>?_);repeat (first|(apply fw;(with_reducible constructor)<;>rfl)|(apply WpA.cd;constructor)|((first|with_reducible refine WpA.go _ rfl fun Y y=>?_|apply RunTo.id);simp only [zb,seval,aI,kcc,aF,hg1,gn,g22,gt,gdd];refine fz y ?_;clear y Y))
     refine WpL.frzP 16 S3.length rfl (by simp only [aF];rfl) (K.cc_shut _) ?_
     simp only [aF]
     refine WpL.frzP 17 (S3.length+1) rfl (by simp only [aF];rfl) (K.cc_shut _) ?_
     simp only [aF]
     refine WpL.handAll rfl (aB (P:=Tryz.prog) rfl) rfl rfl (by kernel_rfl) (ALes.refl _) (CT hE r hr _) ?_
     rintro _ S5 ⟨cB,rfl,hAB,hfrB,hlB,hkB⟩
     have h05:=hkB 0 _ (cW h03)
     have hcl:=fB (bL dT::(aL ev.e sts).1)
     have wA:=eV (bL dT::(aL ev.e sts).1)
     simp only [rsA,List.map_cons] at hcl
     unfold BF
     dsimp only
     generalize hBd:aL ev.e r=Bd at *
     generalize hSt:aL ev.e sts=St at *
     generalize hIn:aL ev.e ins=In at *
     generalize hAg:dA (bL dT::St.1)=Ag at *
     have hsq:=oJ (Bd.1++[Ag.1])
     have hbr:=dQ (ev.e e).1 LK (fZ (Bd.1++[Ag.1]))
     have hlm:=jG ns ⟨#[]⟩ (aE (ev.e e).1 LK (fZ (Bd.1++[Ag.1]))) (by omega)
     have hlme:eM ns e0 (aE (ev.e e).1 LK (fZ (Bd.1++[Ag.1])))=eM ns ⟨#[]⟩ (aE (ev.e e).1 LK (fZ (Bd.1++[Ag.1]))):=rfl
     have wF:=lH ns ⟨#[]⟩ (aE (ev.e e).1 LK (fZ (Bd.1++[Ag.1])))
     rw [hlme]
     simp only [rsA] at hlm
     generalize eM ns ⟨#[]⟩ (aE (ev.e e).1 LK (fZ (Bd.1++[Ag.1])))=F at *
     have hrc:=iH [dT] [F.1] (bL dT) (by simp) rfl
     have wX:=lT [dT] [F.1] (bL dT)
     simp only [rsA,List.map_cons,List.map_nil,dI] at hrc
     generalize kK [dT] [F.1] (bL dT)=X at *
     have hcl2:=fB (X.1::In.1)
     have wC:=eV (X.1::In.1)
     simp only [rsA,List.map_cons] at hcl2
     generalize dA (X.1::In.1)=C0 at *
     have b1:=aD E2 Bd.2 (by omega) wB
     have b2:=aD (max E2 Bd.2) St.2 (by omega) wS
     have b3:=aD (max (max E2 Bd.2) St.2) Ag.2 (by omega) wA
     have b4:=aD (max (max (max E2 Bd.2) St.2) Ag.2) F.2 (by omega) wF
     have b5:=aD (max (max (max (max E2 Bd.2) St.2) Ag.2) F.2) X.2 (by omega) wX
     have b6:=aD (max (max (max (max (max E2 Bd.2) St.2) Ag.2) F.2) X.2) In.2 (by omega) wI
     have b7:=aD (max (max (max (max (max (max E2 Bd.2) St.2) Ag.2) F.2) X.2) In.2) C0.2 (by omega) wC
     (refine WpL.go _ rfl fun Y y=>?_);repeat (first|(apply fw;(with_reducible constructor)<;>rfl)|(apply WpA.cd;constructor)|((first|with_reducible refine WpA.go _ rfl fun Y y=>?_|apply RunTo.id);simp only [zb,seval,aI,kcc,aF];refine fz y ?_;clear y Y))
     refine cz (b1) ?_
     (refine WpL.go _ rfl fun Y y=>?_);repeat (first|(apply fw;(with_reducible constructor)<;>rfl)|(apply WpA.cd;constructor)|((first|with_reducible refine WpA.go _ rfl fun Y y=>?_|apply RunTo.id);simp only [zb,seval,aI,kcc,aF];refine fz y ?_;clear y Y))
     refine cz (hec) ?_
     (refine WpL.go _ rfl fun Y y=>?_);repeat (first|(apply fw;(with_reducible constructor)<;>rfl)|(apply WpA.cd;constructor)|((first|with_reducible refine WpA.go _ rfl fun Y y=>?_|apply RunTo.id);simp only [zb,seval,aI,kcc,aF];refine fz y ?_;clear y Y))
     refine cz (b2) ?_
     (refine WpL.go _ rfl fun Y y=>?_);repeat (first|(apply fw;(with_reducible constructor)<;>rfl)|(apply WpA.cd;constructor)|((first|with_reducible refine WpA.go _ rfl fun Y y=>?_|apply RunTo.id);simp only [zb,seval,aI,kcc,aF,hel];refine fz y ?_;clear y Y))
     refine cz (hrl) ?_
     (refine WpL.go _ rfl fun Y y=>?_);repeat (first|(apply fw;(with_reducible constructor)<;>rfl)|(apply WpA.cd;constructor)|((first|with_reducible refine WpA.go _ rfl fun Y y=>?_|apply RunTo.id);simp only [zb,seval,aI,kcc,aF,hel];refine fz y ?_;clear y Y))
     (refine WpL.frz 158 (S5.length) (by rfl) (by first|rfl|(simp only [zz,aF,hel];rfl)|(simp only [zz,aF,hel])) (by first|rfl|(simp [aF,hel];done)|(simp [aF,hel];omega)) (by simp [ksh]) ?_);simp only [zz,aF,hel]
     refine cz (hcl) ?_
     (refine WpL.go _ rfl fun Y y=>?_);repeat (first|(apply fw;(with_reducible constructor)<;>rfl)|(apply WpA.cd;constructor)|((first|with_reducible refine WpA.go _ rfl fun Y y=>?_|apply RunTo.id);simp only [zb,seval,aI,kcc,aF];refine fz y ?_;clear y Y))
     refine cz (b3) ?_
     (refine WpL.go _ rfl fun Y y=>?_);repeat (first|(apply fw;(with_reducible constructor)<;>rfl)|(apply WpA.cd;constructor)|((first|with_reducible refine WpA.go _ rfl fun Y y=>?_|apply RunTo.id);simp only [zb,seval,aI,kcc,aF];refine fz y ?_;clear y Y))
     refine WpA.frzP 20 (S5.length+1) rfl (by simp only [aF];rfl) (K.cc_shut _) ?_
     simp only [aF]
     have h0T:(S5++[none,none])[0]?=_:=cW (T:=[none,none]) h05
     have hB0:∀m,cB≠.ms 0 m:=fun m e=>by have:=hfrB _ _ e;rw [List.length_append] at this;omega
     have hAT:At 31 11 (S5++[none,none]) cB (Bd.1.map K.cc):=hAB.app _
     generalize (S5++[none,none]:List (Option Ob))=T at *
     obtain⟨T6,hl6,hk6,hop6⟩:=OpS.appFrz (P:=Tryz.prog) (T:=29) (by_:=176) bP bQ bR (by omega) hAT.au (new:=[Ag.1.cc]) (by simp [kcc]) (by simp) (qV _) (by simp [ksh]) (by simp [heb];omega) (by simp [heb];omega)
     have h06:=hk6 0 _ h0T hB0
     have hT6:=(List.getElem?_eq_some_iff.1 h06).1
     have h06':∀X,(T6++X)[0]?=_:=fun X=>cW h06
     have hset6:∀(X:List (Option Ob)) (a:Option Ob),((T6++X).set 0 a)[0]?=some a:=fun X a=>List.getElem?_set_self (by simp;omega)
     rw [show Bd.1.map K.cc++[Ag.1.cc]=(Bd.1++[Ag.1]).map K.cc by simp] at hop6
     have hle:∀s∈[T,T6,T++[some ⟨31,11,[[.v (.int .i64 0),.v (.string ⟨#[]⟩),.v (.string ⟨#[]⟩),.v (.slice none 0 0),.v (.int .i64 0),.v (.int .i32 0),.v (.bool false),.v (.slice none 0 0),.v (.string ⟨#[]⟩),.v (.slice none 0 0),.v (.slice none 0 0)]]⟩],T6++[some ⟨31,11,[[.v (.int .i64 0),.v (.string ⟨#[]⟩),.v (.string ⟨#[]⟩),.v (.slice none 0 0),.v (.int .i64 0),.v (.int .i32 0),.v (.bool false),.v (.slice none 0 0),.v (.string ⟨#[]⟩),.v (.slice none 0 0),.v (.slice none 0 0)]]⟩],T6++[some ⟨31,11,[F.1.cc]⟩]],LeS [] s:=fun s _=>LeS.of (SLe.nil s)
     skip
     skip
     refine WpA.draw2 15 [6,13,14] [] [[],[6],[13],[6,13],[6,13,14]] [T,T6,T++[some ⟨31,11,[[.v (.int .i64 0),.v (.string ⟨#[]⟩),.v (.string ⟨#[]⟩),.v (.slice none 0 0),.v (.int .i64 0),.v (.int .i32 0),.v (.bool false),.v (.slice none 0 0),.v (.string ⟨#[]⟩),.v (.slice none 0 0),.v (.slice none 0 0)]]⟩],T6++[some ⟨31,11,[[.v (.int .i64 0),.v (.string ⟨#[]⟩),.v (.string ⟨#[]⟩),.v (.slice none 0 0),.v (.int .i64 0),.v (.int .i32 0),.v (.bool false),.v (.slice none 0 0),.v (.string ⟨#[]⟩),.v (.slice none 0 0),.v (.slice none 0 0)]]⟩],T6++[some ⟨31,11,[F.1.cc]⟩]] 4 _ _ _ _ rfl rfl rfl (by kernel_rfl) (by kernel_rfl) (by kernel_rfl) (by kernel_rfl) rfl rfl rfl (by decide) fun K8 hK8=>?_
     simp only [zz] at hK8 ⊢
     (refine Draw2.go fun K7 hK7=>?_);simp only [zb,seval,aI,kcc];(refine RunQ.mk (by first|(simp;done)|omega|(simp;omega)) (hK7 _ _ (by rfl) ?_));clear hK7 K7;(simp only [zz,Nat.reduceAdd,Nat.reduceSub]);(try ((refine Draw2.nil (jP (hle)) (hK8 _ ?_));clear hK8 K8;(refine WpL.go _ rfl fun Y y=>?_);repeat (first|(apply fw;(with_reducible constructor)<;>rfl)|(apply WpA.cd;constructor)|((first|with_reducible refine WpA.go _ rfl fun Y y=>?_|apply RunTo.id);simp only [zb,seval,aI,kcc];refine fz y ?_;clear y Y))))
     refine Draw2.step (by rfl) (fun s9 _=>OpS.frozen (n:=1) (wd:=11) (ty:=31) (rows:=[Ag.1.cc]) (OpS.eff [(170,_)] rfl (by rfl) ⟨rfl,trivial⟩ (by simp only [zb,seval,aI,kcc];rfl) (by simp)) rfl (by simp [ksh])) ?_;simp only [bM]
     refine Draw2.eff (x:=.one (.sl 11 ((Bd.1++[Ag.1]).map K.cc))) [(0,1),(2,3)] rfl rfl (by kernel_rfl) (fun t ht s s' h1 h2=>?_) ?_
     ·simp only [List.mem_cons,List.not_mem_nil,or_false] at ht
      rcases ht with rfl|rfl<;>(cases h1;cases h2)
      ·have:=fun {nt ds d ty pos aft g e t1 t2}=>hop6 [] (nt:=nt) (ds:=ds) (d:=d) (ty:=ty) (pos:=pos) (aft:=aft) (g:=g) (e:=e) (t1:=t1) (t2:=t2)
       simp only [List.append_nil] at this
       exact this rfl (by rfl) rfl rfl (by decide)
      ·exact hop6 _ rfl (by rfl) rfl rfl (by decide)
     simp only [bM]
     (refine Draw2.go fun K7 hK7=>?_);simp only [zb,seval,aI,kcc];(refine RunQ.mk (by first|(simp;done)|omega|(simp;omega)) (hK7 _ _ (by rfl) ?_));clear hK7 K7;(simp only [zz,Nat.reduceAdd,Nat.reduceSub]);(try ((refine Draw2.nil (jP (hle)) (hK8 _ ?_));clear hK8 K8;(refine WpL.go _ rfl fun Y y=>?_);repeat (first|(apply fw;(with_reducible constructor)<;>rfl)|(apply WpA.cd;constructor)|((first|with_reducible refine WpA.go _ rfl fun Y y=>?_|apply RunTo.id);simp only [zb,seval,aI,kcc];refine fz y ?_;clear y Y))))
     refine Draw2.step (by rfl) (fun s9 _=>oz (hsq)) ?_
     (refine Draw2.go fun K7 hK7=>?_);simp only [zb,seval,aI,kcc];(refine RunQ.mk (by first|(simp;done)|omega|(simp;omega)) (hK7 _ _ (by rfl) ?_));clear hK7 K7;(simp only [zz,Nat.reduceAdd,Nat.reduceSub]);(try ((refine Draw2.nil (jP (hle)) (hK8 _ ?_));clear hK8 K8;(refine WpL.go _ rfl fun Y y=>?_);repeat (first|(apply fw;(with_reducible constructor)<;>rfl)|(apply WpA.cd;constructor)|((first|with_reducible refine WpA.go _ rfl fun Y y=>?_|apply RunTo.id);simp only [zb,seval,aI,kcc];refine fz y ?_;clear y Y))))
     refine Draw2.step (by rfl) (fun s9 _=>oz (hbr)) ?_
     (refine Draw2.go fun K7 hK7=>?_);simp only [zb,seval,aI,kcc];(refine RunQ.mk (by first|(simp;done)|omega|(simp;omega)) (hK7 _ _ (by rfl) ?_));clear hK7 K7;(simp only [zz,Nat.reduceAdd,Nat.reduceSub]);(try ((refine Draw2.nil (jP (hle)) (hK8 _ ?_));clear hK8 K8;(refine WpL.go _ rfl fun Y y=>?_);repeat (first|(apply fw;(with_reducible constructor)<;>rfl)|(apply WpA.cd;constructor)|((first|with_reducible refine WpA.go _ rfl fun Y y=>?_|apply RunTo.id);simp only [zb,seval,aI,kcc];refine fz y ?_;clear y Y))))
     refine Draw2.step (by rfl) (fun s9 _=>oz (hlm)) ?_
     (refine Draw2.go fun K7 hK7=>?_);simp only [zb,seval,aI,kcc];(refine RunQ.mk (by first|(simp;done)|omega|(simp;omega)) (hK7 _ _ (by rfl) ?_));clear hK7 K7;(simp only [zz,Nat.reduceAdd,Nat.reduceSub]);(try ((refine Draw2.nil (jP (hle)) (hK8 _ ?_));clear hK8 K8;(refine WpL.go _ rfl fun Y y=>?_);repeat (first|(apply fw;(with_reducible constructor)<;>rfl)|(apply WpA.cd;constructor)|((first|with_reducible refine WpA.go _ rfl fun Y y=>?_|apply RunTo.id);simp only [zb,seval,aI,kcc];refine fz y ?_;clear y Y))))
     refine Draw2.eff (x:=.one (.ptr T6.length 1 0 0)) [(0,2),(1,3)] rfl rfl (by kernel_rfl) (fun t ht s s' h1 h2=>?_) ?_
     ·simp only [List.mem_cons,List.not_mem_nil,or_false] at ht
      rcases ht with rfl|rfl<;>(cases h1;cases h2)
      ·rw [hl6];exact OpS.eff [] rfl (by rfl) trivial (by first|(simp only [zb,seval,aI];done)|(simp only [zb,seval,aI];rfl)) trivial
      ·exact OpS.eff [] rfl (by rfl) trivial (by first|(simp only [zb,seval,aI];done)|(simp only [zb,seval,aI];rfl)) trivial
     simp only [bM]
     (refine Draw2.go fun K7 hK7=>?_);simp only [zb,seval,aI,kcc];(refine RunQ.mk (by first|(simp;done)|omega|(simp;omega)) (hK7 _ _ (by rfl) ?_));clear hK7 K7;(simp only [zz,Nat.reduceAdd,Nat.reduceSub]);(try ((refine Draw2.nil (jP (hle)) (hK8 _ ?_));clear hK8 K8;(refine WpL.go _ rfl fun Y y=>?_);repeat (first|(apply fw;(with_reducible constructor)<;>rfl)|(apply WpA.cd;constructor)|((first|with_reducible refine WpA.go _ rfl fun Y y=>?_|apply RunTo.id);simp only [zb,seval,aI,kcc];refine fz y ?_;clear y Y))))
     refine Draw2.eff (x:=.any) [(3,4)] rfl rfl (by kernel_rfl) (fun t ht s s' h1 h2=>?_) ?_
     ·simp only [List.mem_cons,List.not_mem_nil,or_false] at ht
      subst ht
      cases h1;cases h2
      exact OpS.eff [(21,_),(176,_)] rfl (by rfl) ⟨rfl,rfl,trivial⟩ (by simp only [zb,seval,aI,kcc,aF];rfl) (by simp [kcc])
     simp only [bM]
     (refine Draw2.go fun K7 hK7=>?_);simp only [zb,seval,aI,kcc,aF];(refine RunQ.mk (by first|(simp;done)|omega|(simp;omega)) (hK7 _ _ (by rfl) ?_));clear hK7 K7;(simp only [zz,Nat.reduceAdd,Nat.reduceSub]);(try ((refine Draw2.nil (jP (hle)) (hK8 _ ?_));clear hK8 K8;(refine WpL.go _ rfl fun Y y=>?_);repeat (first|(apply fw;(with_reducible constructor)<;>rfl)|(apply WpA.cd;constructor)|((first|with_reducible refine WpA.go _ rfl fun Y y=>?_|apply RunTo.id);simp only [zb,seval,aI,kcc,aF];refine fz y ?_;clear y Y))))
     skip
     skip
     refine cz (b4) ?_
     (refine WpL.go _ rfl fun Y y=>?_);repeat (first|(apply fw;(with_reducible constructor)<;>rfl)|(apply WpA.cd;constructor)|((first|with_reducible refine WpA.go _ rfl fun Y y=>?_|apply RunTo.id);simp only [zb,seval,aI,kcc,aF];refine fz y ?_;clear y Y))
     refine WpA.frzP 21 T6.length rfl (by simp only [aF];rfl) (K.cc_shut _) ?_
     simp only [aF]
     have h07:=h06' [none]
     generalize (T6++[none]:List (Option Ob))=T7 at *
     have hT7:=(List.getElem?_eq_some_iff.1 h07).1
     have h07':∀X,(T7++X)[0]?=_:=fun X=>cW h07
     have hset7:∀(X:List (Option Ob)) (a:Option Ob),((T7++X).set 0 a)[0]?=some a:=fun X a=>List.getElem?_set_self (by simp;omega)
     (refine WpA.draw1c 10 [8,9] [_,?_,?_] _ _ _ _ rfl rfl rfl (by kernel_rfl) (by kernel_rfl) (by kernel_rfl) (by kernel_rfl) rfl rfl rfl rfl (by decide) fun K8 hK8=>?_);rotate_left 2;simp only [zz] at hK8 ⊢;(refine Draw1.go fun K7 k=>?_);simp only [zb,seval,aI,kcc,aF];(refine qz (k _ _ (by rfl) ?_));clear k K7;(simp only [zz,Nat.reduceAdd,Nat.reduceSub]);(try ((refine nz (hK8 _ ?_));clear hK8 K8;(refine WpL.go _ rfl fun Y y=>?_);repeat (first|(apply fw;(with_reducible constructor)<;>rfl)|(apply WpA.cd;constructor)|((first|with_reducible refine WpA.go _ rfl fun Y y=>?_|apply RunTo.id);simp only [zb,seval,aI,kcc,aF];refine fz y ?_;clear y Y))))
     refine Draw1.step (by rfl) (fun s9 _=>OpS.frozen (n:=1) (wd:=1) (ty:=9) (rows:=[[.v (.string dT)]]) (OpS.eff [] rfl (by rfl) trivial (by simp only [zb,seval,aI,kcc];rfl) (by simp)) rfl (by simp [ksh])) ?_;simp only [bM]
     (refine Draw1.go fun K7 k=>?_);simp only [zb,seval,aI,kcc,aF];(refine qz (k _ _ (by rfl) ?_));clear k K7;(simp only [zz,Nat.reduceAdd,Nat.reduceSub]);(try ((refine nz (hK8 _ ?_));clear hK8 K8;(refine WpL.go _ rfl fun Y y=>?_);repeat (first|(apply fw;(with_reducible constructor)<;>rfl)|(apply WpA.cd;constructor)|((first|with_reducible refine WpA.go _ rfl fun Y y=>?_|apply RunTo.id);simp only [zb,seval,aI,kcc,aF];refine fz y ?_;clear y Y))))
     refine Draw1.step (by rfl) (fun s9 _=>OpS.frozen (n:=1) (wd:=11) (ty:=31) (rows:=[F.1.cc]) (OpS.eff [(183,_)] rfl (by rfl) ⟨rfl,trivial⟩ (by simp only [zb,seval,aI,kcc];rfl) (by simp)) rfl (by simp [ksh])) ?_;simp only [bM]
     refine Draw1.step (by rfl) (fun s9 _=>oz (hrl)) ?_
     (refine Draw1.go fun K7 k=>?_);simp only [zb,seval,aI,kcc,aF];(refine qz (k _ _ (by rfl) ?_));clear k K7;(simp only [zz,Nat.reduceAdd,Nat.reduceSub]);(try ((refine nz (hK8 _ ?_));clear hK8 K8;(refine WpL.go _ rfl fun Y y=>?_);repeat (first|(apply fw;(with_reducible constructor)<;>rfl)|(apply WpA.cd;constructor)|((first|with_reducible refine WpA.go _ rfl fun Y y=>?_|apply RunTo.id);simp only [zb,seval,aI,kcc,aF];refine fz y ?_;clear y Y))))
     refine Draw1.step (by rfl) (fun s9 _=>oz (hrc)) ?_
     (refine Draw1.go fun K7 k=>?_);simp only [zb,seval,aI,kcc,aF];(refine qz (k _ _ (by rfl) ?_));clear k K7;(simp only [zz,Nat.reduceAdd,Nat.reduceSub]);(try ((refine nz (hK8 _ ?_));clear hK8 K8;(refine WpL.go _ rfl fun Y y=>?_);repeat (first|(apply fw;(with_reducible constructor)<;>rfl)|(apply WpA.cd;constructor)|((first|with_reducible refine WpA.go _ rfl fun Y y=>?_|apply RunTo.id);simp only [zb,seval,aI,kcc,aF];refine fz y ?_;clear y Y))))
     refine Draw1.eff 0 rfl rfl rfl (OpS.eff [] rfl (by rfl) trivial (by simp only [zb,seval,aI,kcc,aF];rfl) (by first|(simp;done)|omega|(simp;omega))) ?_;(try simp only [bM]);(try ((refine Draw1.go fun K7 k=>?_);simp only [zb,seval,aI,kcc,aF];(refine qz (k _ _ (by rfl) ?_));clear k K7;(simp only [zz,Nat.reduceAdd,Nat.reduceSub]);(try ((refine nz (hK8 _ ?_));clear hK8 K8;(refine WpL.go _ rfl fun Y y=>?_);repeat (first|(apply fw;(with_reducible constructor)<;>rfl)|(apply WpA.cd;constructor)|((first|with_reducible refine WpA.go _ rfl fun Y y=>?_|apply RunTo.id);simp only [zb,seval,aI,kcc,aF];refine fz y ?_;clear y Y))))))
     refine Draw1.eff 1 rfl rfl rfl (OpS.eff [(22,_),(187,_)] rfl (by rfl) ⟨rfl,rfl,trivial⟩ (by simp only [zb,seval,aI,kcc,aF];rfl) (by first|(simp;done)|omega|(simp;omega))) ?_;(try simp only [bM]);(try ((refine Draw1.go fun K7 k=>?_);simp only [zb,seval,aI,kcc,aF];(refine qz (k _ _ (by rfl) ?_));clear k K7;(simp only [zz,Nat.reduceAdd,Nat.reduceSub]);(try ((refine nz (hK8 _ ?_));clear hK8 K8;(refine WpL.go _ rfl fun Y y=>?_);repeat (first|(apply fw;(with_reducible constructor)<;>rfl)|(apply WpA.cd;constructor)|((first|with_reducible refine WpA.go _ rfl fun Y y=>?_|apply RunTo.id);simp only [zb,seval,aI,kcc,aF];refine fz y ?_;clear y Y))))))
     refine cz (b5) ?_
     (refine WpL.go _ rfl fun Y y=>?_);repeat (first|(apply fw;(with_reducible constructor)<;>rfl)|(apply WpA.cd;constructor)|((first|with_reducible refine WpA.go _ rfl fun Y y=>?_|apply RunTo.id);simp only [zb,seval,aI,kcc,aF];refine fz y ?_;clear y Y))
     refine cz (hei) ?_
     (refine WpL.go _ rfl fun Y y=>?_);repeat (first|(apply fw;(with_reducible constructor)<;>rfl)|(apply WpA.cd;constructor)|((first|with_reducible refine WpA.go _ rfl fun Y y=>?_|apply RunTo.id);simp only [zb,seval,aI,kcc,aF];refine fz y ?_;clear y Y))
     refine cz (b6) ?_
     (refine WpL.go _ rfl fun Y y=>?_);repeat (first|(apply fw;(with_reducible constructor)<;>rfl)|(apply WpA.cd;constructor)|((first|with_reducible refine WpA.go _ rfl fun Y y=>?_|apply RunTo.id);simp only [zb,seval,aI,kcc,aF,hel2];refine fz y ?_;clear y Y))
     (refine WpL.frz 204 (T7.length+1) (by rfl) (by first|rfl|(simp only [zz,aF,hel2];rfl)|(simp only [zz,aF,hel2])) (by first|rfl|(simp [aF,hel2];done)|(simp [aF,hel2];omega)) (by simp [ksh]) ?_);simp only [zz,aF,hel2]
     refine cz (hcl2) ?_
     (refine WpL.go _ rfl fun Y y=>?_);repeat (first|(apply fw;(with_reducible constructor)<;>rfl)|(apply WpA.cd;constructor)|((first|with_reducible refine WpA.go _ rfl fun Y y=>?_|apply RunTo.id);simp only [zb,seval,aI,kcc,aF];refine fz y ?_;clear y Y))
     (refine WpA.draw0 4 _ _ _ rfl rfl rfl (by kernel_rfl) (by kernel_rfl) (by kernel_rfl) fun K8 hK8=>?_);simp only [zz] at hK8 ⊢;(refine Draw0.go fun K7 k=>?_);simp only [zb,seval,aI,kcc,aF];(refine qz (k _ _ ?_));clear k K7;(try ((refine Draw0.nil (hK8 _ ?_));clear hK8 K8;(refine WpL.go _ rfl fun Y y=>?_);repeat (first|(apply fw;(with_reducible constructor)<;>rfl)|(apply WpA.cd;constructor)|((first|with_reducible refine WpA.go _ rfl fun Y y=>?_|apply RunTo.id);simp only [zb,seval,aI,kcc,aF];refine fz y ?_;clear y Y))))
     refine Draw0.step (oz (b7)) ?_
     (refine Draw0.go fun K7 k=>?_);simp only [zb,seval,aI,kcc,aF,h07'];(refine qz (k _ _ ?_));clear k K7;(try ((refine Draw0.nil (hK8 _ ?_));clear hK8 K8;(refine WpL.go _ rfl fun Y y=>?_);repeat (first|(apply fw;(with_reducible constructor)<;>rfl)|(apply WpA.cd;constructor)|((first|with_reducible refine WpA.go _ rfl fun Y y=>?_|apply RunTo.id);simp only [zb,seval,aI,kcc,aF,h07'];refine fz y ?_;clear y Y))))
     refine ye (by simp only [zb,seval,aI,kcc,hset7];rfl) (by simp only [zv,kcc,hset7];rfl) ?_
     rfl
    | cons f fs =>
     have hg1:decide ((1:Int)<(q.length:Int))=true:=by rw [←hqr];simp;omega
     have hsq0:=fP hE (f::fs) gB.tail
     have wsq:=jV hE (f::fs)
     have bs:=aD (max E1 (ev.e e).2) (eN ev.e (f::fs)).2 (by omega) wsq
     simp only [rsA] at hsq0
     rw [IG,hqr]
     (refine WpL.go _ rfl fun Y y=>?_);repeat (first|(apply fw;(with_reducible constructor)<;>rfl)|(apply WpA.cd;constructor)|((first|with_reducible refine WpA.go _ rfl fun Y y=>?_|apply RunTo.id);simp only [zb,seval,aI,kcc,hqz,q0];refine fz y ?_;clear y Y))
     refine cz (hx) ?_
     (refine WpL.go _ rfl fun Y y=>?_);repeat (first|(apply fw;(with_reducible constructor)<;>rfl)|(apply WpA.cd;constructor)|((first|with_reducible refine WpA.go _ rfl fun Y y=>?_|apply RunTo.id);simp only [zb,seval,aI,kcc,aF];refine fz y ?_;clear y Y))
     refine cz (bt) ?_
     (refine WpL.go _ rfl fun Y y=>?_);repeat (first|(apply fw;(with_reducible constructor)<;>rfl)|(apply WpA.cd;constructor)|((first|with_reducible refine WpA.go _ rfl fun Y y=>?_|apply RunTo.id);simp only [zb,seval,aI,kcc,aF];refine fz y ?_;clear y Y))
     refine cz (hno) ?_
     (refine WpL.go _ rfl fun Y y=>?_);repeat (first|(apply fw;(with_reducible constructor)<;>rfl)|(apply WpA.cd;constructor)|((first|with_reducible refine WpA.go _ rfl fun Y y=>?_|apply RunTo.id);simp only [zb,seval,aI,kcc,aF,hg1,gn,g11,qt,qd];refine fz y ?_;clear y Y))
     refine cz (hsq0) ?_
     (refine WpL.go _ rfl fun Y y=>?_);repeat (first|(apply fw;(with_reducible constructor)<;>rfl)|(apply WpA.cd;constructor)|((first|with_reducible refine WpA.go _ rfl fun Y y=>?_|apply RunTo.id);simp only [zb,seval,aI,kcc,aF];refine fz y ?_;clear y Y))
     refine cz (bs) ?_
     generalize hE2:max (max E1 (ev.e e).2) (eN ev.e (f::fs)).2=E2 at *
     have wE2:E2≤2:=by omega
     generalize hLK:(eN ev.e (f::fs)).1=LK at *
     (refine WpL.go _ rfl fun Y y=>?_);repeat (first|(apply fw;(with_reducible constructor)<;>rfl)|(apply WpA.cd;constructor)|((first|with_reducible refine WpA.go _ rfl fun Y y=>?_|apply RunTo.id);simp only [zb,seval,aI,kcc,aF,gn,g22,gt,gdd];refine fz y ?_;clear y Y))
     refine WpL.frzP 16 S3.length rfl (by simp only [aF];rfl) (K.cc_shut _) ?_
     simp only [aF]
     refine WpL.frzP 17 (S3.length+1) rfl (by simp only [aF];rfl) (K.cc_shut _) ?_
     simp only [aF]
     refine WpL.handAll rfl (aB (P:=Tryz.prog) rfl) rfl rfl (by kernel_rfl) (ALes.refl _) (CT hE r hr _) ?_
     rintro _ S5 ⟨cB,rfl,hAB,hfrB,hlB,hkB⟩
     have h05:=hkB 0 _ (cW h03)
     have hcl:=fB (bL dT::(aL ev.e sts).1)
     have wA:=eV (bL dT::(aL ev.e sts).1)
     simp only [rsA,List.map_cons] at hcl
     unfold BF
     dsimp only
     generalize hBd:aL ev.e r=Bd at *
     generalize hSt:aL ev.e sts=St at *
     generalize hIn:aL ev.e ins=In at *
     generalize hAg:dA (bL dT::St.1)=Ag at *
     have hsq:=oJ (Bd.1++[Ag.1])
     have hbr:=dQ (ev.e e).1 LK (fZ (Bd.1++[Ag.1]))
     have hlm:=jG ns ⟨#[]⟩ (aE (ev.e e).1 LK (fZ (Bd.1++[Ag.1]))) (by omega)
     have hlme:eM ns e0 (aE (ev.e e).1 LK (fZ (Bd.1++[Ag.1])))=eM ns ⟨#[]⟩ (aE (ev.e e).1 LK (fZ (Bd.1++[Ag.1]))):=rfl
     have wF:=lH ns ⟨#[]⟩ (aE (ev.e e).1 LK (fZ (Bd.1++[Ag.1])))
     rw [hlme]
     simp only [rsA] at hlm
     generalize eM ns ⟨#[]⟩ (aE (ev.e e).1 LK (fZ (Bd.1++[Ag.1])))=F at *
     have hrc:=iH [dT] [F.1] (bL dT) (by simp) rfl
     have wX:=lT [dT] [F.1] (bL dT)
     simp only [rsA,List.map_cons,List.map_nil,dI] at hrc
     generalize kK [dT] [F.1] (bL dT)=X at *
     have hcl2:=fB (X.1::In.1)
     have wC:=eV (X.1::In.1)
     simp only [rsA,List.map_cons] at hcl2
     generalize dA (X.1::In.1)=C0 at *
     have b1:=aD E2 Bd.2 (by omega) wB
     have b2:=aD (max E2 Bd.2) St.2 (by omega) wS
     have b3:=aD (max (max E2 Bd.2) St.2) Ag.2 (by omega) wA
     have b4:=aD (max (max (max E2 Bd.2) St.2) Ag.2) F.2 (by omega) wF
     have b5:=aD (max (max (max (max E2 Bd.2) St.2) Ag.2) F.2) X.2 (by omega) wX
     have b6:=aD (max (max (max (max (max E2 Bd.2) St.2) Ag.2) F.2) X.2) In.2 (by omega) wI
     have b7:=aD (max (max (max (max (max (max E2 Bd.2) St.2) Ag.2) F.2) X.2) In.2) C0.2 (by omega) wC
     (refine WpL.go _ rfl fun Y y=>?_);repeat (first|(apply fw;(with_reducible constructor)<;>rfl)|(apply WpA.cd;constructor)|((first|with_reducible refine WpA.go _ rfl fun Y y=>?_|apply RunTo.id);simp only [zb,seval,aI,kcc,aF];refine fz y ?_;clear y Y))
     refine cz (b1) ?_
     (refine WpL.go _ rfl fun Y y=>?_);repeat (first|(apply fw;(with_reducible constructor)<;>rfl)|(apply WpA.cd;constructor)|((first|with_reducible refine WpA.go _ rfl fun Y y=>?_|apply RunTo.id);simp only [zb,seval,aI,kcc,aF];refine fz y ?_;clear y Y))
     refine cz (hec) ?_
     (refine WpL.go _ rfl fun Y y=>?_);repeat (first|(apply fw;(with_reducible constructor)<;>rfl)|(apply WpA.cd;constructor)|((first|with_reducible refine WpA.go _ rfl fun Y y=>?_|apply RunTo.id);simp only [zb,seval,aI,kcc,aF];refine fz y ?_;clear y Y))
     refine cz (b2) ?_
     (refine WpL.go _ rfl fun Y y=>?_);repeat (first|(apply fw;(with_reducible constructor)<;>rfl)|(apply WpA.cd;constructor)|((first|with_reducible refine WpA.go _ rfl fun Y y=>?_|apply RunTo.id);simp only [zb,seval,aI,kcc,aF,hel];refine fz y ?_;clear y Y))
     refine cz (hrl) ?_
     (refine WpL.go _ rfl fun Y y=>?_);repeat (first|(apply fw;(with_reducible constructor)<;>rfl)|(apply WpA.cd;constructor)|((first|with_reducible refine WpA.go _ rfl fun Y y=>?_|apply RunTo.id);simp only [zb,seval,aI,kcc,aF,hel];refine fz y ?_;clear y Y))
     (refine WpL.frz 158 (S5.length) (by rfl) (by first|rfl|(simp only [zz,aF,hel];rfl)|(simp only [zz,aF,hel])) (by first|rfl|(simp [aF,hel];done)|(simp [aF,hel];omega)) (by simp [ksh]) ?_);simp only [zz,aF,hel]
     refine cz (hcl) ?_
     (refine WpL.go _ rfl fun Y y=>?_);repeat (first|(apply fw;(with_reducible constructor)<;>rfl)|(apply WpA.cd;constructor)|((first|with_reducible refine WpA.go _ rfl fun Y y=>?_|apply RunTo.id);simp only [zb,seval,aI,kcc,aF];refine fz y ?_;clear y Y))
     refine cz (b3) ?_
     (refine WpL.go _ rfl fun Y y=>?_);repeat (first|(apply fw;(with_reducible constructor)<;>rfl)|(apply WpA.cd;constructor)|((first|with_reducible refine WpA.go _ rfl fun Y y=>?_|apply RunTo.id);simp only [zb,seval,aI,kcc,aF];refine fz y ?_;clear y Y))
     refine WpA.frzP 20 (S5.length+1) rfl (by simp only [aF];rfl) (K.cc_shut _) ?_
     simp only [aF]
     have h0T:(S5++[none,none])[0]?=_:=cW (T:=[none,none]) h05
     have hB0:∀m,cB≠.ms 0 m:=fun m e=>by have:=hfrB _ _ e;rw [List.length_append] at this;omega
     have hAT:At 31 11 (S5++[none,none]) cB (Bd.1.map K.cc):=hAB.app _
     generalize (S5++[none,none]:List (Option Ob))=T at *
     obtain⟨T6,hl6,hk6,hop6⟩:=OpS.appFrz (P:=Tryz.prog) (T:=29) (by_:=176) bP bQ bR (by omega) hAT.au (new:=[Ag.1.cc]) (by simp [kcc]) (by simp) (qV _) (by simp [ksh]) (by simp [heb];omega) (by simp [heb];omega)
     have h06:=hk6 0 _ h0T hB0
     have hT6:=(List.getElem?_eq_some_iff.1 h06).1
     have h06':∀X,(T6++X)[0]?=_:=fun X=>cW h06
     have hset6:∀(X:List (Option Ob)) (a:Option Ob),((T6++X).set 0 a)[0]?=some a:=fun X a=>List.getElem?_set_self (by simp;omega)
     rw [show Bd.1.map K.cc++[Ag.1.cc]=(Bd.1++[Ag.1]).map K.cc by simp] at hop6
     have hle:∀s∈[T,T6,T++[some ⟨31,11,[[.v (.int .i64 0),.v (.string ⟨#[]⟩),.v (.string ⟨#[]⟩),.v (.slice none 0 0),.v (.int .i64 0),.v (.int .i32 0),.v (.bool false),.v (.slice none 0 0),.v (.string ⟨#[]⟩),.v (.slice none 0 0),.v (.slice none 0 0)]]⟩],T6++[some ⟨31,11,[[.v (.int .i64 0),.v (.string ⟨#[]⟩),.v (.string ⟨#[]⟩),.v (.slice none 0 0),.v (.int .i64 0),.v (.int .i32 0),.v (.bool false),.v (.slice none 0 0),.v (.string ⟨#[]⟩),.v (.slice none 0 0),.v (.slice none 0 0)]]⟩],T6++[some ⟨31,11,[F.1.cc]⟩]],LeS [] s:=fun s _=>LeS.of (SLe.nil s)
     skip
     skip
     refine WpA.draw2 15 [6,13,14] [] [[],[6],[13],[6,13],[6,13,14]] [T,T6,T++[some ⟨31,11,[[.v (.int .i64 0),.v (.string ⟨#[]⟩),.v (.string ⟨#[]⟩),.v (.slice none 0 0),.v (.int .i64 0),.v (.int .i32 0),.v (.bool false),.v (.slice none 0 0),.v (.string ⟨#[]⟩),.v (.slice none 0 0),.v (.slice none 0 0)]]⟩],T6++[some ⟨31,11,[[.v (.int .i64 0),.v (.string ⟨#[]⟩),.v (.string ⟨#[]⟩),.v (.slice none 0 0),.v (.int .i64 0),.v (.int .i32 0),.v (.bool false),.v (.slice none 0 0),.v (.string ⟨#[]⟩),.v (.slice none 0 0),.v (.slice none 0 0)]]⟩],T6++[some ⟨31,11,[F.1.cc]⟩]] 4 _ _ _ _ rfl rfl rfl (by kernel_rfl) (by kernel_rfl) (by kernel_rfl) (by kernel_rfl) rfl rfl rfl (by decide) fun K8 hK8=>?_
     simp only [zz] at hK8 ⊢
     (refine Draw2.go fun K7 hK7=>?_);simp only [zb,seval,aI,kcc];(refine RunQ.mk (by first|(simp;done)|omega|(simp;omega)) (hK7 _ _ (by rfl) ?_));clear hK7 K7;(simp only [zz,Nat.reduceAdd,Nat.reduceSub]);(try ((refine Draw2.nil (jP (hle)) (hK8 _ ?_));clear hK8 K8;(refine WpL.go _ rfl fun Y y=>?_);repeat (first|(apply fw;(with_reducible constructor)<;>rfl)|(apply WpA.cd;constructor)|((first|with_reducible refine WpA.go _ rfl fun Y y=>?_|apply RunTo.id);simp only [zb,seval,aI,kcc];refine fz y ?_;clear y Y))))
     refine Draw2.step (by rfl) (fun s9 _=>OpS.frozen (n:=1) (wd:=11) (ty:=31) (rows:=[Ag.1.cc]) (OpS.eff [(170,_)] rfl (by rfl) ⟨rfl,trivial⟩ (by simp only [zb,seval,aI,kcc];rfl) (by simp)) rfl (by simp [ksh])) ?_;simp only [bM]
     refine Draw2.eff (x:=.one (.sl 11 ((Bd.1++[Ag.1]).map K.cc))) [(0,1),(2,3)] rfl rfl (by kernel_rfl) (fun t ht s s' h1 h2=>?_) ?_
     ·simp only [List.mem_cons,List.not_mem_nil,or_false] at ht
      rcases ht with rfl|rfl<;>(cases h1;cases h2)
      ·have:=fun {nt ds d ty pos aft g e t1 t2}=>hop6 [] (nt:=nt) (ds:=ds) (d:=d) (ty:=ty) (pos:=pos) (aft:=aft) (g:=g) (e:=e) (t1:=t1) (t2:=t2)
       simp only [List.append_nil] at this
       exact this rfl (by rfl) rfl rfl (by decide)
      ·exact hop6 _ rfl (by rfl) rfl rfl (by decide)
     simp only [bM]
     (refine Draw2.go fun K7 hK7=>?_);simp only [zb,seval,aI,kcc];(refine RunQ.mk (by first|(simp;done)|omega|(simp;omega)) (hK7 _ _ (by rfl) ?_));clear hK7 K7;(simp only [zz,Nat.reduceAdd,Nat.reduceSub]);(try ((refine Draw2.nil (jP (hle)) (hK8 _ ?_));clear hK8 K8;(refine WpL.go _ rfl fun Y y=>?_);repeat (first|(apply fw;(with_reducible constructor)<;>rfl)|(apply WpA.cd;constructor)|((first|with_reducible refine WpA.go _ rfl fun Y y=>?_|apply RunTo.id);simp only [zb,seval,aI,kcc];refine fz y ?_;clear y Y))))
     refine Draw2.step (by rfl) (fun s9 _=>oz (hsq)) ?_
     (refine Draw2.go fun K7 hK7=>?_);simp only [zb,seval,aI,kcc];(refine RunQ.mk (by first|(simp;done)|omega|(simp;omega)) (hK7 _ _ (by rfl) ?_));clear hK7 K7;(simp only [zz,Nat.reduceAdd,Nat.reduceSub]);(try ((refine Draw2.nil (jP (hle)) (hK8 _ ?_));clear hK8 K8;(refine WpL.go _ rfl fun Y y=>?_);repeat (first|(apply fw;(with_reducible constructor)<;>rfl)|(apply WpA.cd;constructor)|((first|with_reducible refine WpA.go _ rfl fun Y y=>?_|apply RunTo.id);simp only [zb,seval,aI,kcc];refine fz y ?_;clear y Y))))
     refine Draw2.step (by rfl) (fun s9 _=>oz (hbr)) ?_
     (refine Draw2.go fun K7 hK7=>?_);simp only [zb,seval,aI,kcc];(refine RunQ.mk (by first|(simp;done)|omega|(simp;omega)) (hK7 _ _ (by rfl) ?_));clear hK7 K7;(simp only [zz,Nat.reduceAdd,Nat.reduceSub]);(try ((refine Draw2.nil (jP (hle)) (hK8 _ ?_));clear hK8 K8;(refine WpL.go _ rfl fun Y y=>?_);repeat (first|(apply fw;(with_reducible constructor)<;>rfl)|(apply WpA.cd;constructor)|((first|with_reducible refine WpA.go _ rfl fun Y y=>?_|apply RunTo.id);simp only [zb,seval,aI,kcc];refine fz y ?_;clear y Y))))
     refine Draw2.step (by rfl) (fun s9 _=>oz (hlm)) ?_
     (refine Draw2.go fun K7 hK7=>?_);simp only [zb,seval,aI,kcc];(refine RunQ.mk (by first|(simp;done)|omega|(simp;omega)) (hK7 _ _ (by rfl) ?_));clear hK7 K7;(simp only [zz,Nat.reduceAdd,Nat.reduceSub]);(try ((refine Draw2.nil (jP (hle)) (hK8 _ ?_));clear hK8 K8;(refine WpL.go _ rfl fun Y y=>?_);repeat (first|(apply fw;(with_reducible constructor)<;>rfl)|(apply WpA.cd;constructor)|((first|with_reducible refine WpA.go _ rfl fun Y y=>?_|apply RunTo.id);simp only [zb,seval,aI,kcc];refine fz y ?_;clear y Y))))
     refine Draw2.eff (x:=.one (.ptr T6.length 1 0 0)) [(0,2),(1,3)] rfl rfl (by kernel_rfl) (fun t ht s s' h1 h2=>?_) ?_
     ·simp only [List.mem_cons,List.not_mem_nil,or_false] at ht
      rcases ht with rfl|rfl<;>(cases h1;cases h2)
      ·rw [hl6];exact OpS.eff [] rfl (by rfl) trivial (by first|(simp only [zb,seval,aI];done)|(simp only [zb,seval,aI];rfl)) trivial
      ·exact OpS.eff [] rfl (by rfl) trivial (by first|(simp only [zb,seval,aI];done)|(simp only [zb,seval,aI];rfl)) trivial
     simp only [bM]
     (refine Draw2.go fun K7 hK7=>?_);simp only [zb,seval,aI,kcc];(refine RunQ.mk (by first|(simp;done)|omega|(simp;omega)) (hK7 _ _ (by rfl) ?_));clear hK7 K7;(simp only [zz,Nat.reduceAdd,Nat.reduceSub]);(try ((refine Draw2.nil (jP (hle)) (hK8 _ ?_));clear hK8 K8;(refine WpL.go _ rfl fun Y y=>?_);repeat (first|(apply fw;(with_reducible constructor)<;>rfl)|(apply WpA.cd;constructor)|((first|with_reducible refine WpA.go _ rfl fun Y y=>?_|apply RunTo.id);simp only [zb,seval,aI,kcc];refine fz y ?_;clear y Y))))
     refine Draw2.eff (x:=.any) [(3,4)] rfl rfl (by kernel_rfl) (fun t ht s s' h1 h2=>?_) ?_
     ·simp only [List.mem_cons,List.not_mem_nil,or_false] at ht
      subst ht
      cases h1;cases h2
      exact OpS.eff [(21,_),(176,_)] rfl (by rfl) ⟨rfl,rfl,trivial⟩ (by simp only [zb,seval,aI,kcc,aF];rfl) (by simp [kcc])
     simp only [bM]
     (refine Draw2.go fun K7 hK7=>?_);simp only [zb,seval,aI,kcc,aF];(refine RunQ.mk (by first|(simp;done)|omega|(simp;omega)) (hK7 _ _ (by rfl) ?_));clear hK7 K7;(simp only [zz,Nat.reduceAdd,Nat.reduceSub]);(try ((refine Draw2.nil (jP (hle)) (hK8 _ ?_));clear hK8 K8;(refine WpL.go _ rfl fun Y y=>?_);repeat (first|(apply fw;(with_reducible constructor)<;>rfl)|(apply WpA.cd;constructor)|((first|with_reducible refine WpA.go _ rfl fun Y y=>?_|apply RunTo.id);simp only [zb,seval,aI,kcc,aF];refine fz y ?_;clear y Y))))
     skip
     skip
     refine cz (b4) ?_
     (refine WpL.go _ rfl fun Y y=>?_);repeat (first|(apply fw;(with_reducible constructor)<;>rfl)|(apply WpA.cd;constructor)|((first|with_reducible refine WpA.go _ rfl fun Y y=>?_|apply RunTo.id);simp only [zb,seval,aI,kcc,aF];refine fz y ?_;clear y Y))
     refine WpA.frzP 21 T6.length rfl (by simp only [aF];rfl) (K.cc_shut _) ?_
     simp only [aF]
     have h07:=h06' [none]
     generalize (T6++[none]:List (Option Ob))=T7 at *
     have hT7:=(List.getElem?_eq_some_iff.1 h07).1
     have h07':∀X,(T7++X)[0]?=_:=fun X=>cW h07
     have hset7:∀(X:List (Option Ob)) (a:Option Ob),((T7++X).set 0 a)[0]?=some a:=fun X a=>List.getElem?_set_self (by simp;omega)
     (refine WpA.draw1c 10 [8,9] [_,?_,?_] _ _ _ _ rfl rfl rfl (by kernel_rfl) (by kernel_rfl) (by kernel_rfl) (by kernel_rfl) rfl rfl rfl rfl (by decide) fun K8 hK8=>?_);rotate_left 2;simp only [zz] at hK8 ⊢;(refine Draw1.go fun K7 k=>?_);simp only [zb,seval,aI,kcc,aF];(refine qz (k _ _ (by rfl) ?_));clear k K7;(simp only [zz,Nat.reduceAdd,Nat.reduceSub]);(try ((refine nz (hK8 _ ?_));clear hK8 K8;(refine WpL.go _ rfl fun Y y=>?_);repeat (first|(apply fw;(with_reducible constructor)<;>rfl)|(apply WpA.cd;constructor)|((first|with_reducible refine WpA.go _ rfl fun Y y=>?_|apply RunTo.id);simp only [zb,seval,aI,kcc,aF];refine fz y ?_;clear y Y))))
     refine Draw1.step (by rfl) (fun s9 _=>OpS.frozen (n:=1) (wd:=1) (ty:=9) (rows:=[[.v (.string dT)]]) (OpS.eff [] rfl (by rfl) trivial (by simp only [zb,seval,aI,kcc];rfl) (by simp)) rfl (by simp [ksh])) ?_;simp only [bM]
     (refine Draw1.go fun K7 k=>?_);simp only [zb,seval,aI,kcc,aF];(refine qz (k _ _ (by rfl) ?_));clear k K7;(simp only [zz,Nat.reduceAdd,Nat.reduceSub]);(try ((refine nz (hK8 _ ?_));clear hK8 K8;(refine WpL.go _ rfl fun Y y=>?_);repeat (first|(apply fw;(with_reducible constructor)<;>rfl)|(apply WpA.cd;constructor)|((first|with_reducible refine WpA.go _ rfl fun Y y=>?_|apply RunTo.id);simp only [zb,seval,aI,kcc,aF];refine fz y ?_;clear y Y))))
     refine Draw1.step (by rfl) (fun s9 _=>OpS.frozen (n:=1) (wd:=11) (ty:=31) (rows:=[F.1.cc]) (OpS.eff [(183,_)] rfl (by rfl) ⟨rfl,trivial⟩ (by simp only [zb,seval,aI,kcc];rfl) (by simp)) rfl (by simp [ksh])) ?_;simp only [bM]
     refine Draw1.step (by rfl) (fun s9 _=>oz (hrl)) ?_
     (refine Draw1.go fun K7 k=>?_);simp only [zb,seval,aI,kcc,aF];(refine qz (k _ _ (by rfl) ?_));clear k K7;(simp only [zz,Nat.reduceAdd,Nat.reduceSub]);(try ((refine nz (hK8 _ ?_));clear hK8 K8;(refine WpL.go _ rfl fun Y y=>?_);repeat (first|(apply fw;(with_reducible constructor)<;>rfl)|(apply WpA.cd;constructor)|((first|with_reducible refine WpA.go _ rfl fun Y y=>?_|apply RunTo.id);simp only [zb,seval,aI,kcc,aF];refine fz y ?_;clear y Y))))
     refine Draw1.step (by rfl) (fun s9 _=>oz (hrc)) ?_
     (refine Draw1.go fun K7 k=>?_);simp only [zb,seval,aI,kcc,aF];(refine qz (k _ _ (by rfl) ?_));clear k K7;(simp only [zz,Nat.reduceAdd,Nat.reduceSub]);(try ((refine nz (hK8 _ ?_));clear hK8 K8;(refine WpL.go _ rfl fun Y y=>?_);repeat (first|(apply fw;(with_reducible constructor)<;>rfl)|(apply WpA.cd;constructor)|((first|with_reducible refine WpA.go _ rfl fun Y y=>?_|apply RunTo.id);simp only [zb,seval,aI,kcc,aF];refine fz y ?_;clear y Y))))
     refine Draw1.eff 0 rfl rfl rfl (OpS.eff [] rfl (by rfl) trivial (by simp only [zb,seval,aI,kcc,aF];rfl) (by first|(simp;done)|omega|(simp;omega))) ?_;(try simp only [bM]);(try ((refine Draw1.go fun K7 k=>?_);simp only [zb,seval,aI,kcc,aF];(refine qz (k _ _ (by rfl) ?_));clear k K7;(simp only [zz,Nat.reduceAdd,Nat.reduceSub]);(try ((refine nz (hK8 _ ?_));clear hK8 K8;(refine WpL.go _ rfl fun Y y=>?_);repeat (first|(apply fw;(with_reducible constructor)<;>rfl)|(apply WpA.cd;constructor)|((first|with_reducible refine WpA.go _ rfl fun Y y=>?_|apply RunTo.id);simp only [zb,seval,aI,kcc,aF];refine fz y ?_;clear y Y))))))
     refine Draw1.eff 1 rfl rfl rfl (OpS.eff [(22,_),(187,_)] rfl (by rfl) ⟨rfl,rfl,trivial⟩ (by simp only [zb,seval,aI,kcc,aF];rfl) (by first|(simp;done)|omega|(simp;omega))) ?_;(try simp only [bM]);(try ((refine Draw1.go fun K7 k=>?_);simp only [zb,seval,aI,kcc,aF];(refine qz (k _ _ (by rfl) ?_));clear k K7;(simp only [zz,Nat.reduceAdd,Nat.reduceSub]);(try ((refine nz (hK8 _ ?_));clear hK8 K8;(refine WpL.go _ rfl fun Y y=>?_);repeat (first|(apply fw;(with_reducible constructor)<;>rfl)|(apply WpA.cd;constructor)|((first|with_reducible refine WpA.go _ rfl fun Y y=>?_|apply RunTo.id);simp only [zb,seval,aI,kcc,aF];refine fz y ?_;clear y Y))))))
     refine cz (b5) ?_
     (refine WpL.go _ rfl fun Y y=>?_);repeat (first|(apply fw;(with_reducible constructor)<;>rfl)|(apply WpA.cd;constructor)|((first|with_reducible refine WpA.go _ rfl fun Y y=>?_|apply RunTo.id);simp only [zb,seval,aI,kcc,aF];refine fz y ?_;clear y Y))
     refine cz (hei) ?_
     (refine WpL.go _ rfl fun Y y=>?_);repeat (first|(apply fw;(with_reducible constructor)<;>rfl)|(apply WpA.cd;constructor)|((first|with_reducible refine WpA.go _ rfl fun Y y=>?_|apply RunTo.id);simp only [zb,seval,aI,kcc,aF];refine fz y ?_;clear y Y))
     refine cz (b6) ?_
     (refine WpL.go _ rfl fun Y y=>?_);repeat (first|(apply fw;(with_reducible constructor)<;>rfl)|(apply WpA.cd;constructor)|((first|with_reducible refine WpA.go _ rfl fun Y y=>?_|apply RunTo.id);simp only [zb,seval,aI,kcc,aF,hel2];refine fz y ?_;clear y Y))
     (refine WpL.frz 204 (T7.length+1) (by rfl) (by first|rfl|(simp only [zz,aF,hel2];rfl)|(simp only [zz,aF,hel2])) (by first|rfl|(simp [aF,hel2];done)|(simp [aF,hel2];omega)) (by simp [ksh]) ?_);simp only [zz,aF,hel2]
     refine cz (hcl2) ?_
     (refine WpL.go _ rfl fun Y y=>?_);repeat (first|(apply fw;(with_reducible constructor)<;>rfl)|(apply WpA.cd;constructor)|((first|with_reducible refine WpA.go _ rfl fun Y y=>?_|apply RunTo.id);simp only [zb,seval,aI,kcc,aF];refine fz y ?_;clear y Y))
     (refine WpA.draw0 4 _ _ _ rfl rfl rfl (by kernel_rfl) (by kernel_rfl) (by kernel_rfl) fun K8 hK8=>?_);simp only [zz] at hK8 ⊢;(refine Draw0.go fun K7 k=>?_);simp only [zb,seval,aI,kcc,aF];(refine qz (k _ _ ?_));clear k K7;(try ((refine Draw0.nil (hK8 _ ?_));clear hK8 K8;(refine WpL.go _ rfl fun Y y=>?_);repeat (first|(apply fw;(with_reducible constructor)<;>rfl)|(apply WpA.cd;constructor)|((first|with_reducible refine WpA.go _ rfl fun Y y=>?_|apply RunTo.id);simp only [zb,seval,aI,kcc,aF];refine fz y ?_;clear y Y))))
     refine Draw0.step (oz (b7)) ?_
     (refine Draw0.go fun K7 k=>?_);simp only [zb,seval,aI,kcc,aF,h07'];(refine qz (k _ _ ?_));clear k K7;(try ((refine Draw0.nil (hK8 _ ?_));clear hK8 K8;(refine WpL.go _ rfl fun Y y=>?_);repeat (first|(apply fw;(with_reducible constructor)<;>rfl)|(apply WpA.cd;constructor)|((first|with_reducible refine WpA.go _ rfl fun Y y=>?_|apply RunTo.id);simp only [zb,seval,aI,kcc,aF,h07'];refine fz y ?_;clear y Y))))
     refine ye (by simp only [zb,seval,aI,kcc,hset7];rfl) (by simp only [zv,kcc,hset7];rfl) ?_
     rfl
theorem uR (d:D):(aM d).2.2≤2:=by rw [zD];exact Nat.max_le.2 ⟨iK d,OD _⟩
theorem II {n:Nat} {ev:Ev} (hE:HE n ev) (l:List D):(jB ev l).2≤2:=by
 match l with
 | []=>exact Nat.le_refl _
 | [_]=>exact Nat.le_refl _
 | a::b::r =>
  have hbe:=uR b
  have w1:=eJ a
  have w2:=kN (aM b).1
  have w3:=hE.b2 r
  have w4:=lH (aM b).1 e0 (ev.b r).1
  have w5:=eF hE (aM b).2.1
  unfold jB;dsimp only
  have w6:=lT [(bB a).1] [(eM (aM b).1 e0 (ev.b r).1).1] (bL (bB a).1)
  have w7:=eV ((kK [(bB a).1] [(eM (aM b).1 e0 (ev.b r).1).1] (bL (bB a).1)).1::(aL ev.e (aM b).2.1).1)
  omega
theorem QF {n:Nat} {ev:Ev} (hE:HE n ev) (l:List D):(sT ev l).2≤2:=by
 match l with
 | []=>exact Nat.le_refl _
 | a::r =>
  show (if a.k=6 then jB ev (a::r) else ((eI ev (aM a).1 (ev.b r).1 (aM a).2.1).1,max (max (max (aM a).2.2 (ev.b r).2) (unl (aM a).1)) (eI ev (aM a).1 (ev.b r).1 (aM a).2.1).2)).2≤2
  split
  ·exact II hE _
  ·have hbe:=uR a
   have w1:=kN (aM a).1
   have w2:=hE.b2 r
   have w3:=kO ev hE (aM a).1 (ev.b r).1 (aM a).2.1
   dsimp only;omega
theorem FK {n:Nat} {ev:Ev} (hE:HE n ev) (l:List D):(gP ev l).2≤2:=by
 match l with
 | []=>exact Nat.le_refl _
 | a::r =>
  have hbe:=uR a
  have w2:=hE.b2 r
  have w3:=kO ev hE [] (ev.b r).1 []
  exact zF hE _ _ (by dsimp only;omega)
theorem IJ {n:Nat} {ev:Ev} (hE:HE n ev) (l:List D):(hF ev l).2≤2:=by
 match l with
 | []=>exact Nat.le_refl _
 | a::r =>
  have hbe:=uR a
  have w2:=hE.b2 r
  have w3:=eF hE (aM a).2.1
  have w4:=lT (aM a).1 (aL ev.e (aM a).2.1).1 (ev.b r).1
  unfold hF;dsimp only;omega
theorem FL {n:Nat} {ev:Ev} (hE:HE n ev) (w:ByteArray) (l:List D):(bA ev w l).2≤2:=by
 unfold bA
 repeat' split
 ·exact QF hE l
 ·exact FK hE l
 ·exact IJ hE l
 ·exact zG hE l
 ·exact LQ hE l
 ·exact rR hE _ l
 ·exact rR hE _ l
 ·exact Nat.le_refl _
theorem CV {n:Nat} {ev:Ev} (hE:HE n ev) (w:ByteArray) (l:List D) (hl:Gds n l):Pure Tryz.prog 113 [.one (.v (.string w)),.one (.sl 6 (l.map D.cc))] (rsA (bA ev w l)):=by
 by_cases ksLet:w=lF
 ·subst ksLet
  have hc:=OI hE l hl
  rw [show bA ev lF l=sT ev l by unfold bA;(iterate 0 rw [if_neg (by decide)]);rw [if_pos (by decide)]]
  have q0:eqB lF ⟨#[108,101,116]⟩=true:=bG rfl
  have q1:eqB lF ⟨#[108,101,116,42]⟩=false:=aA (by decide)
  have q2:eqB lF ⟨#[108,101,116,114,101,99]⟩=false:=aA (by decide)
  have q3:eqB lF ⟨#[108,101,116,114,101,99,42]⟩=false:=aA (by decide)
  have q4:eqB lF ⟨#[99,111,110,100]⟩=false:=aA (by decide)
  have q5:eqB lF ⟨#[100,111]⟩=false:=aA (by decide)
  have q6:eqB lF ⟨#[97,110,100]⟩=false:=aA (by decide)
  have q7:eqB lF ⟨#[111,114]⟩=false:=aA (by decide)
  simp only [rsA] at hc ⊢
  refine fi Tryz.func113 Tryz.ntmps113 Tryz.results113 ?_
  repeat (first|(apply fw;(with_reducible constructor)<;>rfl)|(apply WpA.cd;constructor)|((first|with_reducible refine WpA.go _ rfl fun Y y=>?_|apply RunTo.id);simp only [zb,seval,kD,kcc,cF,q0,q1,q2,q3,q4,q5,q6,q7];refine fz y ?_;clear y Y))
  refine cz (hc) ?_
  (refine WpL.go _ rfl fun Y y=>?_);repeat (first|(apply fw;(with_reducible constructor)<;>rfl)|(apply WpA.cd;constructor)|((first|with_reducible refine WpA.go _ rfl fun Y y=>?_|apply RunTo.id);simp only [zb,seval,kD,kcc];refine fz y ?_;clear y Y))
  refine ye (by simp only [zb,seval,kD,kcc];rfl) (by simp only [zv,kcc];rfl) ?_
  rfl
 by_cases ksLetS:w=mJ
 ·subst ksLetS
  have hc:=CS hE l hl
  rw [show bA ev mJ l=gP ev l by unfold bA;(iterate 1 rw [if_neg (by decide)]);rw [if_pos (by decide)]]
  have q0:eqB mJ ⟨#[108,101,116]⟩=false:=aA (by decide)
  have q1:eqB mJ ⟨#[108,101,116,42]⟩=true:=bG rfl
  have q2:eqB mJ ⟨#[108,101,116,114,101,99]⟩=false:=aA (by decide)
  have q3:eqB mJ ⟨#[108,101,116,114,101,99,42]⟩=false:=aA (by decide)
  have q4:eqB mJ ⟨#[99,111,110,100]⟩=false:=aA (by decide)
  have q5:eqB mJ ⟨#[100,111]⟩=false:=aA (by decide)
  have q6:eqB mJ ⟨#[97,110,100]⟩=false:=aA (by decide)
  have q7:eqB mJ ⟨#[111,114]⟩=false:=aA (by decide)
  simp only [rsA] at hc ⊢
  refine fi Tryz.func113 Tryz.ntmps113 Tryz.results113 ?_
  repeat (first|(apply fw;(with_reducible constructor)<;>rfl)|(apply WpA.cd;constructor)|((first|with_reducible refine WpA.go _ rfl fun Y y=>?_|apply RunTo.id);simp only [zb,seval,kD,kcc,cF,q0,q1,q2,q3,q4,q5,q6,q7];refine fz y ?_;clear y Y))
  refine cz (hc) ?_
  (refine WpL.go _ rfl fun Y y=>?_);repeat (first|(apply fw;(with_reducible constructor)<;>rfl)|(apply WpA.cd;constructor)|((first|with_reducible refine WpA.go _ rfl fun Y y=>?_|apply RunTo.id);simp only [zb,seval,kD,kcc];refine fz y ?_;clear y Y))
  refine ye (by simp only [zb,seval,kD,kcc];rfl) (by simp only [zv,kcc];rfl) ?_
  rfl
 by_cases ksLetrec:w=gF
 ·subst ksLetrec
  have hc:=wM hE l hl
  rw [show bA ev gF l=hF ev l by unfold bA;(iterate 2 rw [if_neg (by decide)]);rw [if_pos (by decide)]]
  have q0:eqB gF ⟨#[108,101,116]⟩=false:=aA (by decide)
  have q1:eqB gF ⟨#[108,101,116,42]⟩=false:=aA (by decide)
  have q2:eqB gF ⟨#[108,101,116,114,101,99]⟩=true:=bG rfl
  have q3:eqB gF ⟨#[108,101,116,114,101,99,42]⟩=false:=aA (by decide)
  have q4:eqB gF ⟨#[99,111,110,100]⟩=false:=aA (by decide)
  have q5:eqB gF ⟨#[100,111]⟩=false:=aA (by decide)
  have q6:eqB gF ⟨#[97,110,100]⟩=false:=aA (by decide)
  have q7:eqB gF ⟨#[111,114]⟩=false:=aA (by decide)
  simp only [rsA] at hc ⊢
  refine fi Tryz.func113 Tryz.ntmps113 Tryz.results113 ?_
  repeat (first|(apply fw;(with_reducible constructor)<;>rfl)|(apply WpA.cd;constructor)|((first|with_reducible refine WpA.go _ rfl fun Y y=>?_|apply RunTo.id);simp only [zb,seval,kD,kcc,cF,q0,q1,q2,q3,q4,q5,q6,q7];refine fz y ?_;clear y Y))
  refine cz (hc) ?_
  (refine WpL.go _ rfl fun Y y=>?_);repeat (first|(apply fw;(with_reducible constructor)<;>rfl)|(apply WpA.cd;constructor)|((first|with_reducible refine WpA.go _ rfl fun Y y=>?_|apply RunTo.id);simp only [zb,seval,kD,kcc];refine fz y ?_;clear y Y))
  refine ye (by simp only [zb,seval,kD,kcc];rfl) (by simp only [zv,kcc];rfl) ?_
  rfl
 by_cases ksLetrecS:w=fC
 ·subst ksLetrecS
  have hc:=wM hE l hl
  rw [show bA ev fC l=hF ev l by unfold bA;(iterate 2 rw [if_neg (by decide)]);rw [if_pos (by decide)]]
  have q0:eqB fC ⟨#[108,101,116]⟩=false:=aA (by decide)
  have q1:eqB fC ⟨#[108,101,116,42]⟩=false:=aA (by decide)
  have q2:eqB fC ⟨#[108,101,116,114,101,99]⟩=false:=aA (by decide)
  have q3:eqB fC ⟨#[108,101,116,114,101,99,42]⟩=true:=bG rfl
  have q4:eqB fC ⟨#[99,111,110,100]⟩=false:=aA (by decide)
  have q5:eqB fC ⟨#[100,111]⟩=false:=aA (by decide)
  have q6:eqB fC ⟨#[97,110,100]⟩=false:=aA (by decide)
  have q7:eqB fC ⟨#[111,114]⟩=false:=aA (by decide)
  simp only [rsA] at hc ⊢
  refine fi Tryz.func113 Tryz.ntmps113 Tryz.results113 ?_
  repeat (first|(apply fw;(with_reducible constructor)<;>rfl)|(apply WpA.cd;constructor)|((first|with_reducible refine WpA.go _ rfl fun Y y=>?_|apply RunTo.id);simp only [zb,seval,kD,kcc,cF,q0,q1,q2,q3,q4,q5,q6,q7];refine fz y ?_;clear y Y))
  refine cz (hc) ?_
  (refine WpL.go _ rfl fun Y y=>?_);repeat (first|(apply fw;(with_reducible constructor)<;>rfl)|(apply WpA.cd;constructor)|((first|with_reducible refine WpA.go _ rfl fun Y y=>?_|apply RunTo.id);simp only [zb,seval,kD,kcc];refine fz y ?_;clear y Y))
  refine ye (by simp only [zb,seval,kD,kcc];rfl) (by simp only [zv,kcc];rfl) ?_
  rfl
 by_cases ksCond:w=mK
 ·subst ksCond
  have hc:=BE hE l hl
  rw [show bA ev mK l=iC ev l by unfold bA;(iterate 3 rw [if_neg (by decide)]);rw [if_pos (by decide)]]
  have q0:eqB mK ⟨#[108,101,116]⟩=false:=aA (by decide)
  have q1:eqB mK ⟨#[108,101,116,42]⟩=false:=aA (by decide)
  have q2:eqB mK ⟨#[108,101,116,114,101,99]⟩=false:=aA (by decide)
  have q3:eqB mK ⟨#[108,101,116,114,101,99,42]⟩=false:=aA (by decide)
  have q4:eqB mK ⟨#[99,111,110,100]⟩=true:=bG rfl
  have q5:eqB mK ⟨#[100,111]⟩=false:=aA (by decide)
  have q6:eqB mK ⟨#[97,110,100]⟩=false:=aA (by decide)
  have q7:eqB mK ⟨#[111,114]⟩=false:=aA (by decide)
  simp only [rsA] at hc ⊢
  refine fi Tryz.func113 Tryz.ntmps113 Tryz.results113 ?_
  repeat (first|(apply fw;(with_reducible constructor)<;>rfl)|(apply WpA.cd;constructor)|((first|with_reducible refine WpA.go _ rfl fun Y y=>?_|apply RunTo.id);simp only [zb,seval,kD,kcc,cF,q0,q1,q2,q3,q4,q5,q6,q7];refine fz y ?_;clear y Y))
  refine cz (hc) ?_
  (refine WpL.go _ rfl fun Y y=>?_);repeat (first|(apply fw;(with_reducible constructor)<;>rfl)|(apply WpA.cd;constructor)|((first|with_reducible refine WpA.go _ rfl fun Y y=>?_|apply RunTo.id);simp only [zb,seval,kD,kcc];refine fz y ?_;clear y Y))
  refine ye (by simp only [zb,seval,kD,kcc];rfl) (by simp only [zv,kcc];rfl) ?_
  rfl
 by_cases ksDo:w=sDo
 ·subst ksDo
  have hc:=IH hE l hl
  rw [show bA ev sDo l=mN ev l by unfold bA;(iterate 4 rw [if_neg (by decide)]);rw [if_pos (by decide)]]
  have q0:eqB sDo ⟨#[108,101,116]⟩=false:=aA (by decide)
  have q1:eqB sDo ⟨#[108,101,116,42]⟩=false:=aA (by decide)
  have q2:eqB sDo ⟨#[108,101,116,114,101,99]⟩=false:=aA (by decide)
  have q3:eqB sDo ⟨#[108,101,116,114,101,99,42]⟩=false:=aA (by decide)
  have q4:eqB sDo ⟨#[99,111,110,100]⟩=false:=aA (by decide)
  have q5:eqB sDo ⟨#[100,111]⟩=true:=bG rfl
  have q6:eqB sDo ⟨#[97,110,100]⟩=false:=aA (by decide)
  have q7:eqB sDo ⟨#[111,114]⟩=false:=aA (by decide)
  simp only [rsA] at hc ⊢
  refine fi Tryz.func113 Tryz.ntmps113 Tryz.results113 ?_
  repeat (first|(apply fw;(with_reducible constructor)<;>rfl)|(apply WpA.cd;constructor)|((first|with_reducible refine WpA.go _ rfl fun Y y=>?_|apply RunTo.id);simp only [zb,seval,kD,kcc,cF,q0,q1,q2,q3,q4,q5,q6,q7];refine fz y ?_;clear y Y))
  refine cz (hc) ?_
  (refine WpL.go _ rfl fun Y y=>?_);repeat (first|(apply fw;(with_reducible constructor)<;>rfl)|(apply WpA.cd;constructor)|((first|with_reducible refine WpA.go _ rfl fun Y y=>?_|apply RunTo.id);simp only [zb,seval,kD,kcc];refine fz y ?_;clear y Y))
  refine ye (by simp only [zb,seval,kD,kcc];rfl) (by simp only [zv,kcc];rfl) ?_
  rfl
 by_cases ksAnd:w=rX
 ·subst ksAnd
  have hc:=sW hE true rX (bG rfl) (aA (by decide)) l hl
  rw [show bA ev rX l=dE ev true l by unfold bA;(iterate 5 rw [if_neg (by decide)]);rw [if_pos (by decide)]]
  have q0:eqB rX ⟨#[108,101,116]⟩=false:=aA (by decide)
  have q1:eqB rX ⟨#[108,101,116,42]⟩=false:=aA (by decide)
  have q2:eqB rX ⟨#[108,101,116,114,101,99]⟩=false:=aA (by decide)
  have q3:eqB rX ⟨#[108,101,116,114,101,99,42]⟩=false:=aA (by decide)
  have q4:eqB rX ⟨#[99,111,110,100]⟩=false:=aA (by decide)
  have q5:eqB rX ⟨#[100,111]⟩=false:=aA (by decide)
  have q6:eqB rX ⟨#[97,110,100]⟩=true:=bG rfl
  have q7:eqB rX ⟨#[111,114]⟩=false:=aA (by decide)
  simp only [rsA] at hc ⊢
  refine fi Tryz.func113 Tryz.ntmps113 Tryz.results113 ?_
  repeat (first|(apply fw;(with_reducible constructor)<;>rfl)|(apply WpA.cd;constructor)|((first|with_reducible refine WpA.go _ rfl fun Y y=>?_|apply RunTo.id);simp only [zb,seval,kD,kcc,cF,q0,q1,q2,q3,q4,q5,q6,q7];refine fz y ?_;clear y Y))
  refine cz (hc) ?_
  (refine WpL.go _ rfl fun Y y=>?_);repeat (first|(apply fw;(with_reducible constructor)<;>rfl)|(apply WpA.cd;constructor)|((first|with_reducible refine WpA.go _ rfl fun Y y=>?_|apply RunTo.id);simp only [zb,seval,kD,kcc];refine fz y ?_;clear y Y))
  refine ye (by simp only [zb,seval,kD,kcc];rfl) (by simp only [zv,kcc];rfl) ?_
  rfl
 by_cases ksOr:w=sOr
 ·subst ksOr
  have hc:=sW hE false sOr (aA (by decide)) (bG rfl) l hl
  rw [show bA ev sOr l=dE ev false l by unfold bA;(iterate 6 rw [if_neg (by decide)]);rw [if_pos (by decide)]]
  have q0:eqB sOr ⟨#[108,101,116]⟩=false:=aA (by decide)
  have q1:eqB sOr ⟨#[108,101,116,42]⟩=false:=aA (by decide)
  have q2:eqB sOr ⟨#[108,101,116,114,101,99]⟩=false:=aA (by decide)
  have q3:eqB sOr ⟨#[108,101,116,114,101,99,42]⟩=false:=aA (by decide)
  have q4:eqB sOr ⟨#[99,111,110,100]⟩=false:=aA (by decide)
  have q5:eqB sOr ⟨#[100,111]⟩=false:=aA (by decide)
  have q6:eqB sOr ⟨#[97,110,100]⟩=false:=aA (by decide)
  have q7:eqB sOr ⟨#[111,114]⟩=true:=bG rfl
  simp only [rsA] at hc ⊢
  refine fi Tryz.func113 Tryz.ntmps113 Tryz.results113 ?_
  repeat (first|(apply fw;(with_reducible constructor)<;>rfl)|(apply WpA.cd;constructor)|((first|with_reducible refine WpA.go _ rfl fun Y y=>?_|apply RunTo.id);simp only [zb,seval,kD,kcc,cF,q0,q1,q2,q3,q4,q5,q6,q7];refine fz y ?_;clear y Y))
  refine cz (hc) ?_
  (refine WpL.go _ rfl fun Y y=>?_);repeat (first|(apply fw;(with_reducible constructor)<;>rfl)|(apply WpA.cd;constructor)|((first|with_reducible refine WpA.go _ rfl fun Y y=>?_|apply RunTo.id);simp only [zb,seval,kD,kcc];refine fz y ?_;clear y Y))
  refine ye (by simp only [zb,seval,kD,kcc];rfl) (by simp only [zv,kcc];rfl) ?_
  rfl
 have hw:Pure Tryz.prog 84 [.one (.v (.string w)),.one (.gv 1)] (.one (.er 2)):=cY _ 1
 have q0:eqB w ⟨#[108,101,116]⟩=false:=aA ksLet
 have q1:eqB w ⟨#[108,101,116,42]⟩=false:=aA ksLetS
 have q2:eqB w ⟨#[108,101,116,114,101,99]⟩=false:=aA ksLetrec
 have q3:eqB w ⟨#[108,101,116,114,101,99,42]⟩=false:=aA ksLetrecS
 have q4:eqB w ⟨#[99,111,110,100]⟩=false:=aA ksCond
 have q5:eqB w ⟨#[100,111]⟩=false:=aA ksDo
 have q6:eqB w ⟨#[97,110,100]⟩=false:=aA ksAnd
 have q7:eqB w ⟨#[111,114]⟩=false:=aA ksOr
 rw [show bA ev w l=(kz,2) by unfold bA;rw [if_neg ksLet,if_neg ksLetS,if_neg (by rintro (h|h);exact ksLetrec h;exact ksLetrecS h),if_neg ksCond,if_neg ksDo,if_neg ksAnd,if_neg ksOr]]
 refine fi Tryz.func113 Tryz.ntmps113 Tryz.results113 ?_
 repeat (first|(apply fw;(with_reducible constructor)<;>rfl)|(apply WpA.cd;constructor)|((first|with_reducible refine WpA.go _ rfl fun Y y=>?_|apply RunTo.id);simp only [zb,seval,kD,kcc,cF,q0,q1,q2,q3,q4,q5,q6,q7];refine fz y ?_;clear y Y))
 refine cz (hw) ?_
 (refine WpL.go _ rfl fun Y y=>?_);repeat (first|(apply fw;(with_reducible constructor)<;>rfl)|(apply WpA.cd;constructor)|((first|with_reducible refine WpA.go _ rfl fun Y y=>?_|apply RunTo.id);simp only [zb,seval,kD,kcc];refine fz y ?_;clear y Y))
 refine⟨by simp,_,_,_,_,(by simp only [zb,seval,kD,kcc,rsA];rfl),(by simp),(by simp only [zv,kcc,rsA];rfl),(by simp [ksh]),_,(by simp only [rcc,rsA];exact ae),rfl⟩
theorem LS {n:Nat} {ev:Ev} (hE:HE n ev) (w:ByteArray) (l0:List D) (hl:Gds n l0):Pure Tryz.prog 89 [.one (.v (.string w)),.one (.sl 6 (l0.map D.cc))] (rsA (bT ev w l0)):=by
 have hde:=CV hE w l0 hl
 have hbig:=hE.big
 simp only [rsA] at hde
  
  
 by_cases ksQuote:w=hZ
 ·subst ksQuote
  have q0:eqB hZ ⟨#[113,117,111,116,101]⟩=true:=bG rfl
  have q1:eqB hZ ⟨#[113,117,97,115,105,113,117,111,116,101]⟩=false:=aA (by decide)
  have q2:eqB hZ ⟨#[108,97,109,98,100,97]⟩=false:=aA (by decide)
  have q3:eqB hZ ⟨#[115,101,116,33]⟩=false:=aA (by decide)
  have q4:eqB hZ ⟨#[105,102]⟩=false:=aA (by decide)
  have q5:eqB hZ ⟨#[98,101,103,105,110]⟩=false:=aA (by decide)
  have q6:eqB hZ ⟨#[99,97,115,101]⟩=false:=aA (by decide)
  have q7:eqB hZ ⟨#[119,104,101,110]⟩=false:=aA (by decide)
  have q8:eqB hZ ⟨#[117,110,108,101,115,115]⟩=false:=aA (by decide)
  by_cases hn:l0.length=1
  ·obtain⟨a,rfl⟩:∃a,l0=[a]:=by match l0,hn with|[a],_=>exact⟨a,rfl⟩
   have hc:=iG a (hl.head).2.1
   rw [show bT ev hZ [a]=(dR a,0) from rfl]
   simp only [List.map_cons,List.map_nil,rsA]
   refine fi Tryz.func89 Tryz.ntmps89 Tryz.results89 ?_
   repeat (first|(apply fw;(with_reducible constructor)<;>rfl)|(apply WpA.cd;constructor)|((first|with_reducible refine WpA.go _ rfl fun Y y=>?_|apply RunTo.id);simp only [zb,seval,w89,kcc,cF,q0,q1,q2,q3,q4,q5,q6,q7,q8];refine fz y ?_;clear y Y))
   refine cz (hc) ?_
   (refine WpL.go _ rfl fun Y y=>?_);repeat (first|(apply fw;(with_reducible constructor)<;>rfl)|(apply WpA.cd;constructor)|((first|with_reducible refine WpA.go _ rfl fun Y y=>?_|apply RunTo.id);simp only [zb,seval,w89,kcc];refine fz y ?_;clear y Y))
   refine ye (by simp only [zb,seval,w89,kcc];rfl) (by simp only [zv,kcc];rfl) ?_
   rfl
  ·have m1:((l0.length:Int) == 1)=false:=by simp;omega
   rw [show bT ev hZ l0=bA ev hZ l0 by unfold bT;(repeat rw [if_neg (by first|decide|assumption|(rintro ⟨h,-⟩;exact absurd h (by first|decide|assumption))|(rintro ⟨-,h⟩;omega))])]
   simp only [rsA]
   refine fi Tryz.func89 Tryz.ntmps89 Tryz.results89 ?_
   repeat (first|(apply fw;(with_reducible constructor)<;>rfl)|(apply WpA.cd;constructor)|((first|with_reducible refine WpA.go _ rfl fun Y y=>?_|apply RunTo.id);simp only [zb,seval,w89,kcc,cF,q0,q1,q2,q3,q4,q5,q6,q7,q8,m1];refine fz y ?_;clear y Y))
   refine cz (hde) ?_
   (refine WpL.go _ rfl fun Y y=>?_);repeat (first|(apply fw;(with_reducible constructor)<;>rfl)|(apply WpA.cd;constructor)|((first|with_reducible refine WpA.go _ rfl fun Y y=>?_|apply RunTo.id);simp only [zb,seval,w89,kcc];refine fz y ?_;clear y Y))
   refine ye (by simp only [zb,seval,w89,kcc];rfl) (by simp only [zv,kcc];rfl) ?_
   rfl
 by_cases ksQuasi:w=eT
 ·subst ksQuasi
  have q0:eqB eT ⟨#[113,117,111,116,101]⟩=false:=aA (by decide)
  have q1:eqB eT ⟨#[113,117,97,115,105,113,117,111,116,101]⟩=true:=bG rfl
  have q2:eqB eT ⟨#[108,97,109,98,100,97]⟩=false:=aA (by decide)
  have q3:eqB eT ⟨#[115,101,116,33]⟩=false:=aA (by decide)
  have q4:eqB eT ⟨#[105,102]⟩=false:=aA (by decide)
  have q5:eqB eT ⟨#[98,101,103,105,110]⟩=false:=aA (by decide)
  have q6:eqB eT ⟨#[99,97,115,101]⟩=false:=aA (by decide)
  have q7:eqB eT ⟨#[119,104,101,110]⟩=false:=aA (by decide)
  have q8:eqB eT ⟨#[117,110,108,101,115,115]⟩=false:=aA (by decide)
  by_cases hn:l0.length=1
  ·obtain⟨a,rfl⟩:∃a,l0=[a]:=by match l0,hn with|[a],_=>exact⟨a,rfl⟩
   have hc:Pure Tryz.prog 108 [.agg a.cc,.one (.v (.int .i64 1))] (rsA (ev.q a 1)):=hE.q a 1 hl.head (Nat.le_refl _) (by have:=hl.head.2.2;omega)
   rw [show bT ev eT [a]=ev.q a 1 from rfl]
   simp only [List.map_cons,List.map_nil,rsA] at hc ⊢
   refine fi Tryz.func89 Tryz.ntmps89 Tryz.results89 ?_
   repeat (first|(apply fw;(with_reducible constructor)<;>rfl)|(apply WpA.cd;constructor)|((first|with_reducible refine WpA.go _ rfl fun Y y=>?_|apply RunTo.id);simp only [zb,seval,w89,kcc,cF,q0,q1,q2,q3,q4,q5,q6,q7,q8];refine fz y ?_;clear y Y))
   refine cz (hc) ?_
   (refine WpL.go _ rfl fun Y y=>?_);repeat (first|(apply fw;(with_reducible constructor)<;>rfl)|(apply WpA.cd;constructor)|((first|with_reducible refine WpA.go _ rfl fun Y y=>?_|apply RunTo.id);simp only [zb,seval,w89,kcc];refine fz y ?_;clear y Y))
   refine ye (by simp only [zb,seval,w89,kcc];rfl) (by simp only [zv,kcc];rfl) ?_
   rfl
  ·have m1:((l0.length:Int) == 1)=false:=by simp;omega
   rw [show bT ev eT l0=bA ev eT l0 by unfold bT;(repeat rw [if_neg (by first|decide|assumption|(rintro ⟨h,-⟩;exact absurd h (by first|decide|assumption))|(rintro ⟨-,h⟩;omega))])]
   simp only [rsA]
   refine fi Tryz.func89 Tryz.ntmps89 Tryz.results89 ?_
   repeat (first|(apply fw;(with_reducible constructor)<;>rfl)|(apply WpA.cd;constructor)|((first|with_reducible refine WpA.go _ rfl fun Y y=>?_|apply RunTo.id);simp only [zb,seval,w89,kcc,cF,q0,q1,q2,q3,q4,q5,q6,q7,q8,m1];refine fz y ?_;clear y Y))
   refine cz (hde) ?_
   (refine WpL.go _ rfl fun Y y=>?_);repeat (first|(apply fw;(with_reducible constructor)<;>rfl)|(apply WpA.cd;constructor)|((first|with_reducible refine WpA.go _ rfl fun Y y=>?_|apply RunTo.id);simp only [zb,seval,w89,kcc];refine fz y ?_;clear y Y))
   refine ye (by simp only [zb,seval,w89,kcc];rfl) (by simp only [zv,kcc];rfl) ?_
   rfl
 by_cases ksLambda:w=cH
 ·subst ksLambda
  have q0:eqB cH ⟨#[113,117,111,116,101]⟩=false:=aA (by decide)
  have q1:eqB cH ⟨#[113,117,97,115,105,113,117,111,116,101]⟩=false:=aA (by decide)
  have q2:eqB cH ⟨#[108,97,109,98,100,97]⟩=true:=bG rfl
  have q3:eqB cH ⟨#[115,101,116,33]⟩=false:=aA (by decide)
  have q4:eqB cH ⟨#[105,102]⟩=false:=aA (by decide)
  have q5:eqB cH ⟨#[98,101,103,105,110]⟩=false:=aA (by decide)
  have q6:eqB cH ⟨#[99,97,115,101]⟩=false:=aA (by decide)
  have q7:eqB cH ⟨#[119,104,101,110]⟩=false:=aA (by decide)
  have q8:eqB cH ⟨#[117,110,108,101,115,115]⟩=false:=aA (by decide)
  match l0,hl with
  | [],hl =>
   have g1:decide ((1:Int)≤((([]:List D).length:Nat):Int))=false:=by decide
   rw [show bT ev cH []=bA ev cH [] from rfl]
   simp only [rsA]
   simp only [List.map_nil] at hde ⊢
   refine fi Tryz.func89 Tryz.ntmps89 Tryz.results89 ?_
   repeat (first|(apply fw;(with_reducible constructor)<;>rfl)|(apply WpA.cd;constructor)|((first|with_reducible refine WpA.go _ rfl fun Y y=>?_|apply RunTo.id);simp only [zb,seval,w89,kcc,cF,q0,q1,q2,q3,q4,q5,q6,q7,q8];refine fz y ?_;clear y Y))
   refine cz (hde) ?_
   (refine WpL.go _ rfl fun Y y=>?_);repeat (first|(apply fw;(with_reducible constructor)<;>rfl)|(apply WpA.cd;constructor)|((first|with_reducible refine WpA.go _ rfl fun Y y=>?_|apply RunTo.id);simp only [zb,seval,w89,kcc];refine fz y ?_;clear y Y))
   refine ye (by simp only [zb,seval,w89,kcc];rfl) (by simp only [zv,kcc];rfl) ?_
   rfl
  | a::r,hl =>
   obtain⟨l,hlr⟩:∃l,a::r=l:=⟨_,rfl⟩
   obtain⟨c0,ct,cd,cl,cn,c11,c00,c22⟩:=pO a r l hlr
   have g1:decide ((1:Int)≤(l.length:Int))=true:=by simp;omega
   have hle1:(1:Int)≤(l.length:Int):=by omega
   have hc:=sG hE a r hl.head hl.tail
   rw [show bT ev cH (a::r)=cQ ev a r by unfold bT;(repeat rw [if_neg (by first|decide|(rintro ⟨h,-⟩;exact absurd h (by decide)))]);rw [if_pos ⟨rfl,by simp⟩];rfl,hlr]
   simp only [rsA] at hc ⊢
   refine fi Tryz.func89 Tryz.ntmps89 Tryz.results89 ?_
   repeat (first|(apply fw;(with_reducible constructor)<;>rfl)|(apply WpA.cd;constructor)|((first|with_reducible refine WpA.go _ rfl fun Y y=>?_|apply RunTo.id);simp only [zb,seval,w89,kcc,cF,q0,q1,q2,q3,q4,q5,q6,q7,q8,g1];refine fz y ?_;clear y Y))
   (refine WpA.draw0 8 _ _ _ rfl rfl rfl (by kernel_rfl) (by kernel_rfl) (by kernel_rfl) fun K8 hK8=>?_);simp only [zz] at hK8 ⊢;(refine Draw0.go fun K7 k=>?_);simp only [zb,seval,w89,kcc,c0,ct,cd,cn,c11];(refine qz (k _ _ ?_));clear k K7;(try ((refine Draw0.nil (hK8 _ ?_));clear hK8 K8;(refine WpL.go _ rfl fun Y y=>?_);repeat (first|(apply fw;(with_reducible constructor)<;>rfl)|(apply WpA.cd;constructor)|((first|with_reducible refine WpA.go _ rfl fun Y y=>?_|apply RunTo.id);simp only [zb,seval,w89,kcc,c0,ct,cd,cn,c11];refine fz y ?_;clear y Y))))
   refine Draw0.step (oz (hc)) ?_
   (refine Draw0.go fun K7 k=>?_);simp only [zb,seval,w89,kcc];(refine qz (k _ _ ?_));clear k K7;(try ((refine Draw0.nil (hK8 _ ?_));clear hK8 K8;(refine WpL.go _ rfl fun Y y=>?_);repeat (first|(apply fw;(with_reducible constructor)<;>rfl)|(apply WpA.cd;constructor)|((first|with_reducible refine WpA.go _ rfl fun Y y=>?_|apply RunTo.id);simp only [zb,seval,w89,kcc];refine fz y ?_;clear y Y))))
   refine ye (by simp only [zb,seval,w89,kcc];rfl) (by simp only [zv,kcc];rfl) ?_
   rfl
 by_cases ksSet:w=mI
 ·subst ksSet
  have q0:eqB mI ⟨#[113,117,111,116,101]⟩=false:=aA (by decide)
  have q1:eqB mI ⟨#[113,117,97,115,105,113,117,111,116,101]⟩=false:=aA (by decide)
  have q2:eqB mI ⟨#[108,97,109,98,100,97]⟩=false:=aA (by decide)
  have q3:eqB mI ⟨#[115,101,116,33]⟩=true:=bG rfl
  have q4:eqB mI ⟨#[105,102]⟩=false:=aA (by decide)
  have q5:eqB mI ⟨#[98,101,103,105,110]⟩=false:=aA (by decide)
  have q6:eqB mI ⟨#[99,97,115,101]⟩=false:=aA (by decide)
  have q7:eqB mI ⟨#[119,104,101,110]⟩=false:=aA (by decide)
  have q8:eqB mI ⟨#[117,110,108,101,115,115]⟩=false:=aA (by decide)
  by_cases hn:l0.length=2
  ·obtain⟨a,b,rfl⟩:∃a b,l0=[a,b]:=by match l0,hn with|[a,b],_=>exact⟨a,b,rfl⟩
   have hv:=jU a
   have hx:=hE.e b hl.tail.head
   have hb:=aD (bB a).2 (ev.e b).2 (eJ _) (hE.e2 _)
   rw [show bT ev mI [a,b]=(rY (bB a).1 (ev.e b).1,max (bB a).2 (ev.e b).2) by unfold bT;(repeat rw [if_neg (by first|decide|(rintro ⟨h,-⟩;exact absurd h (by decide)))]);rw [if_pos ⟨rfl,rfl⟩];rfl]
   simp only [List.map_cons,List.map_nil,rsA] at hx ⊢
   refine fi Tryz.func89 Tryz.ntmps89 Tryz.results89 ?_
   repeat (first|(apply fw;(with_reducible constructor)<;>rfl)|(apply WpA.cd;constructor)|((first|with_reducible refine WpA.go _ rfl fun Y y=>?_|apply RunTo.id);simp only [zb,seval,w89,kcc,cF,q0,q1,q2,q3,q4,q5,q6,q7,q8];refine fz y ?_;clear y Y))
   refine cz (hv) ?_
   (refine WpL.go _ rfl fun Y y=>?_);repeat (first|(apply fw;(with_reducible constructor)<;>rfl)|(apply WpA.cd;constructor)|((first|with_reducible refine WpA.go _ rfl fun Y y=>?_|apply RunTo.id);simp only [zb,seval,w89,kcc];refine fz y ?_;clear y Y))
   refine cz (hx) ?_
   (refine WpL.go _ rfl fun Y y=>?_);repeat (first|(apply fw;(with_reducible constructor)<;>rfl)|(apply WpA.cd;constructor)|((first|with_reducible refine WpA.go _ rfl fun Y y=>?_|apply RunTo.id);simp only [zb,seval,w89,kcc];refine fz y ?_;clear y Y))
   (refine WpA.draw0 7 _ _ _ rfl rfl rfl (by kernel_rfl) (by kernel_rfl) (by kernel_rfl) fun K8 hK8=>?_);simp only [zz] at hK8 ⊢;(refine Draw0.go fun K7 k=>?_);simp only [zb,seval,w89,kcc];(refine qz (k _ _ ?_));clear k K7;(try ((refine Draw0.nil (hK8 _ ?_));clear hK8 K8;(refine WpL.go _ rfl fun Y y=>?_);repeat (first|(apply fw;(with_reducible constructor)<;>rfl)|(apply WpA.cd;constructor)|((first|with_reducible refine WpA.go _ rfl fun Y y=>?_|apply RunTo.id);simp only [zb,seval,w89,kcc];refine fz y ?_;clear y Y))))
   refine Draw0.step (OpS.frozen (n:=1) (wd:=11) (ty:=31) (rows:=[(ev.e b).1.cc]) (OpS.eff [(84,_)] rfl (by rfl) ⟨rfl,trivial⟩ (by simp only [zb,seval,w89,kcc];rfl) (by simp)) rfl (by simp [ksh])) ?_;simp only [bM]
   (refine Draw0.go fun K7 k=>?_);simp only [zb,seval,w89,kcc];(refine qz (k _ _ ?_));clear k K7;(try ((refine Draw0.nil (hK8 _ ?_));clear hK8 K8;(refine WpL.go _ rfl fun Y y=>?_);repeat (first|(apply fw;(with_reducible constructor)<;>rfl)|(apply WpA.cd;constructor)|((first|with_reducible refine WpA.go _ rfl fun Y y=>?_|apply RunTo.id);simp only [zb,seval,w89,kcc];refine fz y ?_;clear y Y))))
   refine Draw0.step (oz (hb)) ?_
   (refine Draw0.go fun K7 k=>?_);simp only [zb,seval,w89,kcc];(refine qz (k _ _ ?_));clear k K7;(try ((refine Draw0.nil (hK8 _ ?_));clear hK8 K8;(refine WpL.go _ rfl fun Y y=>?_);repeat (first|(apply fw;(with_reducible constructor)<;>rfl)|(apply WpA.cd;constructor)|((first|with_reducible refine WpA.go _ rfl fun Y y=>?_|apply RunTo.id);simp only [zb,seval,w89,kcc];refine fz y ?_;clear y Y))))
   refine⟨by simp,_,_,_,_,(by simp only [zb,seval,w89,kcc];rfl),(by simp),(by simp only [zv,kcc];rfl),(by simp [ksh]),_,(by simp only [rcc];exact ae),rfl⟩
  ·have m2:((l0.length:Int) == 2)=false:=by simp;omega
   rw [show bT ev mI l0=bA ev mI l0 by unfold bT;(repeat rw [if_neg (by first|decide|assumption|(rintro ⟨h,-⟩;exact absurd h (by first|decide|assumption))|(rintro ⟨-,h⟩;omega))])]
   simp only [rsA]
   refine fi Tryz.func89 Tryz.ntmps89 Tryz.results89 ?_
   repeat (first|(apply fw;(with_reducible constructor)<;>rfl)|(apply WpA.cd;constructor)|((first|with_reducible refine WpA.go _ rfl fun Y y=>?_|apply RunTo.id);simp only [zb,seval,w89,kcc,cF,q0,q1,q2,q3,q4,q5,q6,q7,q8,m2];refine fz y ?_;clear y Y))
   refine cz (hde) ?_
   (refine WpL.go _ rfl fun Y y=>?_);repeat (first|(apply fw;(with_reducible constructor)<;>rfl)|(apply WpA.cd;constructor)|((first|with_reducible refine WpA.go _ rfl fun Y y=>?_|apply RunTo.id);simp only [zb,seval,w89,kcc];refine fz y ?_;clear y Y))
   refine ye (by simp only [zb,seval,w89,kcc];rfl) (by simp only [zv,kcc];rfl) ?_
   rfl
 by_cases ksIf:w=sIf
 ·subst ksIf
  have q0:eqB sIf ⟨#[113,117,111,116,101]⟩=false:=aA (by decide)
  have q1:eqB sIf ⟨#[113,117,97,115,105,113,117,111,116,101]⟩=false:=aA (by decide)
  have q2:eqB sIf ⟨#[108,97,109,98,100,97]⟩=false:=aA (by decide)
  have q3:eqB sIf ⟨#[115,101,116,33]⟩=false:=aA (by decide)
  have q4:eqB sIf ⟨#[105,102]⟩=true:=bG rfl
  have q5:eqB sIf ⟨#[98,101,103,105,110]⟩=false:=aA (by decide)
  have q6:eqB sIf ⟨#[99,97,115,101]⟩=false:=aA (by decide)
  have q7:eqB sIf ⟨#[119,104,101,110]⟩=false:=aA (by decide)
  have q8:eqB sIf ⟨#[117,110,108,101,115,115]⟩=false:=aA (by decide)
  by_cases hn:l0.length=2
  ·obtain⟨a,b,rfl⟩:∃a b,l0=[a,b]:=by match l0,hn with|[a,b],_=>exact⟨a,b,rfl⟩
   have hno:=gK
   have hbr:=dQ (ev.e a).1 (ev.e b).1 bI
   rw [show bT ev sIf [a,b]=(aE (ev.e a).1 (ev.e b).1 bI,(aL ev.e [a,b]).2) by unfold bT;(repeat rw [if_neg (by first|decide|(rintro ⟨h,-⟩;exact absurd h (by decide)))]);rw [if_pos ⟨rfl,rfl⟩];rfl]
   simp only [rsA]
   refine fi Tryz.func89 Tryz.ntmps89 Tryz.results89 ?_
   repeat (first|(apply fw;(with_reducible constructor)<;>rfl)|(apply WpA.cd;constructor)|((first|with_reducible refine WpA.go _ rfl fun Y y=>?_|apply RunTo.id);simp only [zb,seval,w89,kcc,cF,q0,q1,q2,q3,q4,q5,q6,q7,q8];refine fz y ?_;clear y Y))
   refine WpL.handAll rfl (aB (P:=Tryz.prog) rfl) rfl rfl (by kernel_rfl) (ALes.refl _) (CT hE [a,b] hl _) ?_
   rintro _ S5 ⟨cB,rfl,hAB,hfrB,hlB,hkB⟩
   have h05:=hkB 0 _ rfl
   rw [show (aL ev.e [a,b]).1.map K.cc=[(ev.e a).1.cc,(ev.e b).1.cc] from rfl] at hAB
   have hB0:∀m,cB≠.ms 0 m:=fun m e=>by have:=hfrB _ _ e;simp at this
   (refine WpL.go _ rfl fun Y y=>?_);repeat (first|(apply fw;(with_reducible constructor)<;>rfl)|(apply WpA.cd;constructor)|((first|with_reducible refine WpA.go _ rfl fun Y y=>?_|apply RunTo.id);simp only [zb,seval,w89,kcc];refine fz y ?_;clear y Y))
   refine cz (hno) ?_
   simp only [St.put]
   (try simp only [St.put]);(refine WpL.op rfl (aB (P:=Tryz.prog) rfl) (aH (by simp only [zb,seval,w89,kcc];rfl) (by first|(simp;done)|omega|(simp;omega))) ?_);simp only [St.put]
   obtain⟨S8,j,hA8,hj8,hl8,hfr8,hpl8,hop8⟩:=eZ (P:=Tryz.prog) (T:=29) (by_:=176) bP bQ bR (by omega) (S:=S5++[some ⟨31,11,[bI.cc]⟩]) (hAB.app _) (q:=S5.length) (new:=[bI.cc]) (mV _ _ _) (by simp) (fun n e=>by have:=hAB.lt e;omega) (by simp) (by simp)
   simp only [List.length_cons,List.length_nil,Nat.zero_add] at hop8 hA8
   have h08:=hfr8 0 _ (cW h05) hB0
   have hof:∀m,C.ms j (1+1+1)≠.ms 0 m:=fun m e=>by
    have e1:=(C.ms.inj e).1
    rcases hpl8 with q|q
    ·exact hB0 _ (e1▸q)
    ·rw [List.length_append] at q;simp only [List.length_cons,List.length_nil] at q;omega
   refine WpL.aop rfl (hop8 _ _ _ rfl rfl) ?_
   simp only [St.put]
   (try simp only [St.put]);(refine WpL.op rfl (aB (P:=Tryz.prog) rfl) (aH (by simp only [zb,seval,w89];rfl) (by first|(simp;done)|omega|(simp;omega))) ?_);simp only [St.put]
   refine WpL.frzAt 11 hA8.au (by simp [ksh]) rfl fun S9 hl9 ho9=>?_
   have h09:=ho9 0 _ h08 hof
   have hS9:=(List.getElem?_eq_some_iff.1 h09).1
   have hset9:∀(a:Option Ob),(S9.set 0 a)[0]?=some a:=fun a=>List.getElem?_set_self hS9
   (refine WpL.go _ rfl fun Y y=>?_);repeat (first|(apply fw;(with_reducible constructor)<;>rfl)|(apply WpA.cd;constructor)|((first|with_reducible refine WpA.go _ rfl fun Y y=>?_|apply RunTo.id);simp only [zb,seval,w89];refine fz y ?_;clear y Y))
   have hle:∀s∈[S9,S9.set 0 (some ⟨31,11,[(aE (ev.e a).1 (ev.e b).1 bI).cc]⟩)],LeS [] s:=fun s _=>LeS.of (SLe.nil s)
   skip
   refine WpA.draw1 12 [11] [] [S9,S9.set 0 (some ⟨31,11,[(aE (ev.e a).1 (ev.e b).1 bI).cc]⟩)] _ _ _ _ rfl rfl rfl (by kernel_rfl) (by kernel_rfl) (by kernel_rfl) (by kernel_rfl) rfl rfl rfl rfl (by decide) fun K8 hK8=>?_
   simp only [zz] at hK8 ⊢
   (refine Draw1.go fun K7 hK7=>?_);simp only [zb,seval,w89,kcc];(refine RunQ.mk (by first|(simp;done)|omega|(simp;omega)) (hK7 _ _ (by rfl) ?_));clear hK7 K7;(simp only [zz,Nat.reduceAdd,Nat.reduceSub]);(try ((refine Draw1.nil hle (hK8 _ ?_));clear hK8 K8;(refine WpL.go _ rfl fun Y y=>?_);repeat (first|(apply fw;(with_reducible constructor)<;>rfl)|(apply WpA.cd;constructor)|((first|with_reducible refine WpA.go _ rfl fun Y y=>?_|apply RunTo.id);simp only [zb,seval,w89,kcc];refine fz y ?_;clear y Y))))
   refine Draw1.step (by rfl) (fun s9 _=>oz (hbr)) ?_
   (refine Draw1.go fun K7 hK7=>?_);simp only [zb,seval,w89,kcc];(refine RunQ.mk (by first|(simp;done)|omega|(simp;omega)) (hK7 _ _ (by rfl) ?_));clear hK7 K7;(simp only [zz,Nat.reduceAdd,Nat.reduceSub]);(try ((refine Draw1.nil hle (hK8 _ ?_));clear hK8 K8;(refine WpL.go _ rfl fun Y y=>?_);repeat (first|(apply fw;(with_reducible constructor)<;>rfl)|(apply WpA.cd;constructor)|((first|with_reducible refine WpA.go _ rfl fun Y y=>?_|apply RunTo.id);simp only [zb,seval,w89,kcc];refine fz y ?_;clear y Y))))
   refine Draw1.eff 0 rfl rfl rfl (OpS.eff [(4,_),(121,_)] rfl (by rfl) ⟨rfl,rfl,trivial⟩ (by simp only [zb,seval,w89,kcc,h09];rfl) (by first|(simp;done)|omega|(simp;omega))) ?_;(try simp only [bM]);(try ((refine Draw1.go fun K7 hK7=>?_);simp only [zb,seval,w89,kcc,h09];(refine RunQ.mk (by first|(simp;done)|omega|(simp;omega)) (hK7 _ _ (by rfl) ?_));clear hK7 K7;(simp only [zz,Nat.reduceAdd,Nat.reduceSub]);(try ((refine Draw1.nil hle (hK8 _ ?_));clear hK8 K8;(refine WpL.go _ rfl fun Y y=>?_);repeat (first|(apply fw;(with_reducible constructor)<;>rfl)|(apply WpA.cd;constructor)|((first|with_reducible refine WpA.go _ rfl fun Y y=>?_|apply RunTo.id);simp only [zb,seval,w89,kcc,h09];refine fz y ?_;clear y Y))))))
   skip
   refine ye (by simp only [zb,seval,w89,kcc,hset9];rfl) (by simp only [zv,kcc,hset9];rfl) ?_
   rfl
  by_cases hn3:l0.length=3
  ·obtain⟨a,b,c,rfl⟩:∃a b c,l0=[a,b,c]:=by match l0,hn3 with|[a,b,c],_=>exact⟨a,b,c,rfl⟩
   have hec:=jH hE [a,b,c] hl
   have hbr:=dQ (ev.e a).1 (ev.e b).1 (ev.e c).1
   rw [show bT ev sIf [a,b,c]=(aE (ev.e a).1 (ev.e b).1 (ev.e c).1,(aL ev.e [a,b,c]).2) by unfold bT;(iterate 5 rw [if_neg (by first|decide|(rintro ⟨h,-⟩;exact absurd h (by decide))|(rintro ⟨-,h⟩;simp at h))]);rw [if_pos ⟨rfl,rfl⟩];rfl]
   simp only [rlA] at hec
   rw [show (aL ev.e [a,b,c]).1.map K.cc=[(ev.e a).1.cc,(ev.e b).1.cc,(ev.e c).1.cc] from rfl] at hec
   simp only [rsA]
   refine fi Tryz.func89 Tryz.ntmps89 Tryz.results89 ?_
   repeat (first|(apply fw;(with_reducible constructor)<;>rfl)|(apply WpA.cd;constructor)|((first|with_reducible refine WpA.go _ rfl fun Y y=>?_|apply RunTo.id);simp only [zb,seval,w89,kcc,cF,q0,q1,q2,q3,q4,q5,q6,q7,q8];refine fz y ?_;clear y Y))
   refine cz (hec) ?_
   (refine WpL.go _ rfl fun Y y=>?_);repeat (first|(apply fw;(with_reducible constructor)<;>rfl)|(apply WpA.cd;constructor)|((first|with_reducible refine WpA.go _ rfl fun Y y=>?_|apply RunTo.id);simp only [zb,seval,w89,kcc];refine fz y ?_;clear y Y))
   have hle:∀s∈[[some ⟨31,11,[[.v (.int .i64 0),.v (.string ⟨#[]⟩),.v (.string ⟨#[]⟩),.v (.slice none 0 0),.v (.int .i64 0),.v (.int .i32 0),.v (.bool false),.v (.slice none 0 0),.v (.string ⟨#[]⟩),.v (.slice none 0 0),.v (.slice none 0 0)]]⟩],[some ⟨31,11,[(aE (ev.e a).1 (ev.e b).1 (ev.e c).1).cc]⟩]],LeS [] s:=fun s _=>LeS.of (SLe.nil s)
   skip
   refine WpA.draw1 12 [11] [] [[some ⟨31,11,[[.v (.int .i64 0),.v (.string ⟨#[]⟩),.v (.string ⟨#[]⟩),.v (.slice none 0 0),.v (.int .i64 0),.v (.int .i32 0),.v (.bool false),.v (.slice none 0 0),.v (.string ⟨#[]⟩),.v (.slice none 0 0),.v (.slice none 0 0)]]⟩],[some ⟨31,11,[(aE (ev.e a).1 (ev.e b).1 (ev.e c).1).cc]⟩]] _ _ _ _ rfl rfl rfl (by kernel_rfl) (by kernel_rfl) (by kernel_rfl) (by kernel_rfl) rfl rfl rfl rfl (by decide) fun K8 hK8=>?_
   simp only [zz] at hK8 ⊢
   (refine Draw1.go fun K7 hK7=>?_);simp only [zb,seval,w89,kcc];(refine RunQ.mk (by first|(simp;done)|omega|(simp;omega)) (hK7 _ _ (by rfl) ?_));clear hK7 K7;(simp only [zz,Nat.reduceAdd,Nat.reduceSub]);(try ((refine Draw1.nil hle (hK8 _ ?_));clear hK8 K8;(refine WpL.go _ rfl fun Y y=>?_);repeat (first|(apply fw;(with_reducible constructor)<;>rfl)|(apply WpA.cd;constructor)|((first|with_reducible refine WpA.go _ rfl fun Y y=>?_|apply RunTo.id);simp only [zb,seval,w89,kcc];refine fz y ?_;clear y Y))))
   refine Draw1.step (by rfl) (fun s9 _=>oz (hbr)) ?_
   (refine Draw1.go fun K7 hK7=>?_);simp only [zb,seval,w89,kcc];(refine RunQ.mk (by first|(simp;done)|omega|(simp;omega)) (hK7 _ _ (by rfl) ?_));clear hK7 K7;(simp only [zz,Nat.reduceAdd,Nat.reduceSub]);(try ((refine Draw1.nil hle (hK8 _ ?_));clear hK8 K8;(refine WpL.go _ rfl fun Y y=>?_);repeat (first|(apply fw;(with_reducible constructor)<;>rfl)|(apply WpA.cd;constructor)|((first|with_reducible refine WpA.go _ rfl fun Y y=>?_|apply RunTo.id);simp only [zb,seval,w89,kcc];refine fz y ?_;clear y Y))))
   refine Draw1.eff 0 rfl rfl rfl (OpS.eff [(4,_),(121,_)] rfl (by rfl) ⟨rfl,rfl,trivial⟩ (by simp only [zb,seval,w89,kcc];rfl) (by first|(simp;done)|omega|(simp;omega))) ?_;(try simp only [bM]);(try ((refine Draw1.go fun K7 hK7=>?_);simp only [zb,seval,w89,kcc];(refine RunQ.mk (by first|(simp;done)|omega|(simp;omega)) (hK7 _ _ (by rfl) ?_));clear hK7 K7;(simp only [zz,Nat.reduceAdd,Nat.reduceSub]);(try ((refine Draw1.nil hle (hK8 _ ?_));clear hK8 K8;(refine WpL.go _ rfl fun Y y=>?_);repeat (first|(apply fw;(with_reducible constructor)<;>rfl)|(apply WpA.cd;constructor)|((first|with_reducible refine WpA.go _ rfl fun Y y=>?_|apply RunTo.id);simp only [zb,seval,w89,kcc];refine fz y ?_;clear y Y))))))
   skip
   refine ye (by simp only [zb,seval,w89,kcc];rfl) (by simp only [zv,kcc];rfl) ?_
   rfl
  ·have m2:((l0.length:Int) == 2)=false:=by simp;omega
   have m3:((l0.length:Int) == 3)=false:=by simp;omega
   rw [show bT ev sIf l0=bA ev sIf l0 by unfold bT;(repeat rw [if_neg (by first|decide|assumption|(rintro ⟨h,-⟩;exact absurd h (by first|decide|assumption))|(rintro ⟨-,h⟩;omega))])]
   simp only [rsA]
   refine fi Tryz.func89 Tryz.ntmps89 Tryz.results89 ?_
   repeat (first|(apply fw;(with_reducible constructor)<;>rfl)|(apply WpA.cd;constructor)|((first|with_reducible refine WpA.go _ rfl fun Y y=>?_|apply RunTo.id);simp only [zb,seval,w89,kcc,cF,q0,q1,q2,q3,q4,q5,q6,q7,q8,m2,m3];refine fz y ?_;clear y Y))
   refine cz (hde) ?_
   (refine WpL.go _ rfl fun Y y=>?_);repeat (first|(apply fw;(with_reducible constructor)<;>rfl)|(apply WpA.cd;constructor)|((first|with_reducible refine WpA.go _ rfl fun Y y=>?_|apply RunTo.id);simp only [zb,seval,w89,kcc];refine fz y ?_;clear y Y))
   refine ye (by simp only [zb,seval,w89,kcc];rfl) (by simp only [zv,kcc];rfl) ?_
   rfl
 by_cases ksBegin:w=cM
 ·subst ksBegin
  have q0:eqB cM ⟨#[113,117,111,116,101]⟩=false:=aA (by decide)
  have q1:eqB cM ⟨#[113,117,97,115,105,113,117,111,116,101]⟩=false:=aA (by decide)
  have q2:eqB cM ⟨#[108,97,109,98,100,97]⟩=false:=aA (by decide)
  have q3:eqB cM ⟨#[115,101,116,33]⟩=false:=aA (by decide)
  have q4:eqB cM ⟨#[105,102]⟩=false:=aA (by decide)
  have q5:eqB cM ⟨#[98,101,103,105,110]⟩=true:=bG rfl
  have q6:eqB cM ⟨#[99,97,115,101]⟩=false:=aA (by decide)
  have q7:eqB cM ⟨#[119,104,101,110]⟩=false:=aA (by decide)
  have q8:eqB cM ⟨#[117,110,108,101,115,115]⟩=false:=aA (by decide)
  have hc:=fP hE l0 hl
  rw [show bT ev cM l0=eN ev.e l0 by unfold bT;(repeat rw [if_neg (by first|decide|(rintro ⟨h,-⟩;exact absurd h (by decide))|(rintro ⟨-,h⟩;omega))]);rw [if_pos (by first|exact⟨rfl,by omega⟩|rfl)]]
  simp only [rsA] at hc ⊢
  refine fi Tryz.func89 Tryz.ntmps89 Tryz.results89 ?_
  repeat (first|(apply fw;(with_reducible constructor)<;>rfl)|(apply WpA.cd;constructor)|((first|with_reducible refine WpA.go _ rfl fun Y y=>?_|apply RunTo.id);simp only [zb,seval,w89,kcc,cF,q0,q1,q2,q3,q4,q5,q6,q7,q8];refine fz y ?_;clear y Y))
  refine cz (hc) ?_
  (refine WpL.go _ rfl fun Y y=>?_);repeat (first|(apply fw;(with_reducible constructor)<;>rfl)|(apply WpA.cd;constructor)|((first|with_reducible refine WpA.go _ rfl fun Y y=>?_|apply RunTo.id);simp only [zb,seval,w89,kcc];refine fz y ?_;clear y Y))
  refine ye (by simp only [zb,seval,w89,kcc];rfl) (by simp only [zv,kcc];rfl) ?_
  rfl
 by_cases ksCase:w=kW
 ·subst ksCase
  have q0:eqB kW ⟨#[113,117,111,116,101]⟩=false:=aA (by decide)
  have q1:eqB kW ⟨#[113,117,97,115,105,113,117,111,116,101]⟩=false:=aA (by decide)
  have q2:eqB kW ⟨#[108,97,109,98,100,97]⟩=false:=aA (by decide)
  have q3:eqB kW ⟨#[115,101,116,33]⟩=false:=aA (by decide)
  have q4:eqB kW ⟨#[105,102]⟩=false:=aA (by decide)
  have q5:eqB kW ⟨#[98,101,103,105,110]⟩=false:=aA (by decide)
  have q6:eqB kW ⟨#[99,97,115,101]⟩=true:=bG rfl
  have q7:eqB kW ⟨#[119,104,101,110]⟩=false:=aA (by decide)
  have q8:eqB kW ⟨#[117,110,108,101,115,115]⟩=false:=aA (by decide)
  match l0,hl with
  | [],hl =>
   have g1:decide ((1:Int)≤((([]:List D).length:Nat):Int))=false:=by decide
   rw [show bT ev kW []=bA ev kW [] from rfl]
   simp only [rsA]
   simp only [List.map_nil] at hde ⊢
   refine fi Tryz.func89 Tryz.ntmps89 Tryz.results89 ?_
   repeat (first|(apply fw;(with_reducible constructor)<;>rfl)|(apply WpA.cd;constructor)|((first|with_reducible refine WpA.go _ rfl fun Y y=>?_|apply RunTo.id);simp only [zb,seval,w89,kcc,cF,q0,q1,q2,q3,q4,q5,q6,q7,q8];refine fz y ?_;clear y Y))
   refine cz (hde) ?_
   (refine WpL.go _ rfl fun Y y=>?_);repeat (first|(apply fw;(with_reducible constructor)<;>rfl)|(apply WpA.cd;constructor)|((first|with_reducible refine WpA.go _ rfl fun Y y=>?_|apply RunTo.id);simp only [zb,seval,w89,kcc];refine fz y ?_;clear y Y))
   refine ye (by simp only [zb,seval,w89,kcc];rfl) (by simp only [zv,kcc];rfl) ?_
   rfl
  | a::r,hl =>
   obtain⟨l,hlr⟩:∃l,a::r=l:=⟨_,rfl⟩
   obtain⟨c0,ct,cd,cl,cn,c11,c00,c22⟩:=pO a r l hlr
   have g1:decide ((1:Int)≤(l.length:Int))=true:=by simp;omega
   have hle1:(1:Int)≤(l.length:Int):=by omega
   have hch:=wN hE r hl.tail
   have wch:=pP hE r
   rw [show bT ev kW (a::r)=((dL ev a (eS ev r).1).1,max (eS ev r).2 (dL ev a (eS ev r).1).2) by unfold bT;(repeat rw [if_neg (by first|decide|(rintro ⟨h,-⟩;exact absurd h (by decide)))]);rw [if_pos ⟨rfl,by simp⟩];rfl,hlr]
   simp only [rsA] at hch ⊢
   generalize eS ev r=C0 at *
   have hte:=nM hE a C0.1 hl.head
   have wte:=iI hE a C0.1
   simp only [rsA] at hte
   generalize dL ev a C0.1=T0 at *
   have hb:=aD C0.2 T0.2 wch wte
   refine fi Tryz.func89 Tryz.ntmps89 Tryz.results89 ?_
   repeat (first|(apply fw;(with_reducible constructor)<;>rfl)|(apply WpA.cd;constructor)|((first|with_reducible refine WpA.go _ rfl fun Y y=>?_|apply RunTo.id);simp only [zb,seval,w89,kcc,cF,q0,q1,q2,q3,q4,q5,q6,q7,q8,g1,ct,cd,cn,c11];refine fz y ?_;clear y Y))
   refine cz (hch) ?_
   (refine WpL.go _ rfl fun Y y=>?_);repeat (first|(apply fw;(with_reducible constructor)<;>rfl)|(apply WpA.cd;constructor)|((first|with_reducible refine WpA.go _ rfl fun Y y=>?_|apply RunTo.id);simp only [zb,seval,w89,kcc];refine fz y ?_;clear y Y))
   (refine WpA.draw1c 10 [8,9] [_,?_,?_] _ _ _ _ rfl rfl rfl (by kernel_rfl) (by kernel_rfl) (by kernel_rfl) (by kernel_rfl) rfl rfl rfl rfl (by decide) fun K8 hK8=>?_);rotate_left 2;simp only [zz] at hK8 ⊢;(refine Draw1.go fun K7 k=>?_);simp only [zb,seval,w89,kcc,c0];(refine qz (k _ _ (by rfl) ?_));clear k K7;(simp only [zz,Nat.reduceAdd,Nat.reduceSub]);(try ((refine nz (hK8 _ ?_));clear hK8 K8;(refine WpL.go _ rfl fun Y y=>?_);repeat (first|(apply fw;(with_reducible constructor)<;>rfl)|(apply WpA.cd;constructor)|((first|with_reducible refine WpA.go _ rfl fun Y y=>?_|apply RunTo.id);simp only [zb,seval,w89,kcc,c0];refine fz y ?_;clear y Y))))
   refine Draw1.step (by rfl) (fun s9 _=>oz (hte)) ?_
   (refine Draw1.go fun K7 k=>?_);simp only [zb,seval,w89,kcc];(refine qz (k _ _ (by rfl) ?_));clear k K7;(simp only [zz,Nat.reduceAdd,Nat.reduceSub]);(try ((refine nz (hK8 _ ?_));clear hK8 K8;(refine WpL.go _ rfl fun Y y=>?_);repeat (first|(apply fw;(with_reducible constructor)<;>rfl)|(apply WpA.cd;constructor)|((first|with_reducible refine WpA.go _ rfl fun Y y=>?_|apply RunTo.id);simp only [zb,seval,w89,kcc];refine fz y ?_;clear y Y))))
   refine Draw1.eff 0 rfl rfl rfl (OpS.eff [] rfl (by rfl) trivial (by simp only [zb,seval,w89,kcc];rfl) (by first|(simp;done)|omega|(simp;omega))) ?_;(try simp only [bM]);(try ((refine Draw1.go fun K7 k=>?_);simp only [zb,seval,w89,kcc];(refine qz (k _ _ (by rfl) ?_));clear k K7;(simp only [zz,Nat.reduceAdd,Nat.reduceSub]);(try ((refine nz (hK8 _ ?_));clear hK8 K8;(refine WpL.go _ rfl fun Y y=>?_);repeat (first|(apply fw;(with_reducible constructor)<;>rfl)|(apply WpA.cd;constructor)|((first|with_reducible refine WpA.go _ rfl fun Y y=>?_|apply RunTo.id);simp only [zb,seval,w89,kcc];refine fz y ?_;clear y Y))))))
   refine Draw1.eff 1 rfl rfl rfl (OpS.eff [(15,_),(149,_)] rfl (by rfl) ⟨rfl,rfl,trivial⟩ (by simp only [zb,seval,w89,kcc];rfl) (by first|(simp;done)|omega|(simp;omega))) ?_;(try simp only [bM]);(try ((refine Draw1.go fun K7 k=>?_);simp only [zb,seval,w89,kcc];(refine qz (k _ _ (by rfl) ?_));clear k K7;(simp only [zz,Nat.reduceAdd,Nat.reduceSub]);(try ((refine nz (hK8 _ ?_));clear hK8 K8;(refine WpL.go _ rfl fun Y y=>?_);repeat (first|(apply fw;(with_reducible constructor)<;>rfl)|(apply WpA.cd;constructor)|((first|with_reducible refine WpA.go _ rfl fun Y y=>?_|apply RunTo.id);simp only [zb,seval,w89,kcc];refine fz y ?_;clear y Y))))))
   (refine WpA.draw0 4 _ _ _ rfl rfl rfl (by kernel_rfl) (by kernel_rfl) (by kernel_rfl) fun K8 hK8=>?_);simp only [zz] at hK8 ⊢;(refine Draw0.go fun K7 k=>?_);simp only [zb,seval,w89,kcc];(refine qz (k _ _ ?_));clear k K7;(try ((refine Draw0.nil (hK8 _ ?_));clear hK8 K8;(refine WpL.go _ rfl fun Y y=>?_);repeat (first|(apply fw;(with_reducible constructor)<;>rfl)|(apply WpA.cd;constructor)|((first|with_reducible refine WpA.go _ rfl fun Y y=>?_|apply RunTo.id);simp only [zb,seval,w89,kcc];refine fz y ?_;clear y Y))))
   refine Draw0.step (oz (hb)) ?_
   (refine Draw0.go fun K7 k=>?_);simp only [zb,seval,w89,kcc];(refine qz (k _ _ ?_));clear k K7;(try ((refine Draw0.nil (hK8 _ ?_));clear hK8 K8;(refine WpL.go _ rfl fun Y y=>?_);repeat (first|(apply fw;(with_reducible constructor)<;>rfl)|(apply WpA.cd;constructor)|((first|with_reducible refine WpA.go _ rfl fun Y y=>?_|apply RunTo.id);simp only [zb,seval,w89,kcc];refine fz y ?_;clear y Y))))
   refine ye (by simp only [zb,seval,w89,kcc];rfl) (by simp only [zv,kcc];rfl) ?_
   rfl
 by_cases ksWhen:w=kX
 ·subst ksWhen
  have q0:eqB kX ⟨#[113,117,111,116,101]⟩=false:=aA (by decide)
  have q1:eqB kX ⟨#[113,117,97,115,105,113,117,111,116,101]⟩=false:=aA (by decide)
  have q2:eqB kX ⟨#[108,97,109,98,100,97]⟩=false:=aA (by decide)
  have q3:eqB kX ⟨#[115,101,116,33]⟩=false:=aA (by decide)
  have q4:eqB kX ⟨#[105,102]⟩=false:=aA (by decide)
  have q5:eqB kX ⟨#[98,101,103,105,110]⟩=false:=aA (by decide)
  have q6:eqB kX ⟨#[99,97,115,101]⟩=false:=aA (by decide)
  have q7:eqB kX ⟨#[119,104,101,110]⟩=true:=bG rfl
  have q8:eqB kX ⟨#[117,110,108,101,115,115]⟩=false:=aA (by decide)
  by_cases hn:l0.length<2
  ·have g2:decide ((2:Int)≤(l0.length:Int))=false:=by simp;omega
   rw [show bT ev kX l0=bA ev kX l0 by unfold bT;(repeat rw [if_neg (by first|decide|assumption|(rintro ⟨h,-⟩;exact absurd h (by first|decide|assumption))|(rintro ⟨-,h⟩;omega))])]
   simp only [rsA]
   refine fi Tryz.func89 Tryz.ntmps89 Tryz.results89 ?_
   repeat (first|(apply fw;(with_reducible constructor)<;>rfl)|(apply WpA.cd;constructor)|((first|with_reducible refine WpA.go _ rfl fun Y y=>?_|apply RunTo.id);simp only [zb,seval,w89,kcc,cF,q0,q1,q2,q3,q4,q5,q6,q7,q8,g2];refine fz y ?_;clear y Y))
   refine cz (hde) ?_
   (refine WpL.go _ rfl fun Y y=>?_);repeat (first|(apply fw;(with_reducible constructor)<;>rfl)|(apply WpA.cd;constructor)|((first|with_reducible refine WpA.go _ rfl fun Y y=>?_|apply RunTo.id);simp only [zb,seval,w89,kcc];refine fz y ?_;clear y Y))
   refine ye (by simp only [zb,seval,w89,kcc];rfl) (by simp only [zv,kcc];rfl) ?_
   rfl
  ·obtain⟨a,r,hlr⟩:∃a r,a::r=l0:=by
    match l0,hn with
    | [],h=>exact absurd (by simp) h
    | a::r,_=>exact⟨a,r,rfl⟩
   obtain⟨c0,ct,cd,cl,cn,c11,c00,c22⟩:=pO a r l0 hlr
   have g2:decide ((2:Int)≤(l0.length:Int))=true:=by simp;omega
   have hle1:(1:Int)≤(l0.length:Int):=by omega
   have ha:Gd n a:=(hlr▸hl:Gds n (a::r)).head
   have hr:Gds n r:=(hlr▸hl:Gds n (a::r)).tail
   have hx:=hE.e a ha
   have hs:=fP hE r hr
   have hb:=aD (ev.e a).2 (eN ev.e r).2 (hE.e2 _) (jV hE r)
   have hno:=gK
   rw [show bT ev kX l0=(aE (ev.e a).1 (eN ev.e r).1 bI,max (ev.e a).2 (eN ev.e r).2) by rw [←hlr];unfold bT;(repeat rw [if_neg (by first|decide|(rintro ⟨h,-⟩;exact absurd h (by decide)))]);rw [if_pos ⟨rfl,by rw [hlr];omega⟩];rfl]
   simp only [rsA] at hx hs ⊢
   generalize ev.e a=X at *
   generalize eN ev.e r=Y at *
   have hbr:=dQ X.1 Y.1 bI
   refine fi Tryz.func89 Tryz.ntmps89 Tryz.results89 ?_
   repeat (first|(apply fw;(with_reducible constructor)<;>rfl)|(apply WpA.cd;constructor)|((first|with_reducible refine WpA.go _ rfl fun Y y=>?_|apply RunTo.id);simp only [zb,seval,w89,kcc,cF,q0,q1,q2,q3,q4,q5,q6,q7,q8,g2,c0];refine fz y ?_;clear y Y))
   refine cz (hx) ?_
   (refine WpL.go _ rfl fun Y y=>?_);repeat (first|(apply fw;(with_reducible constructor)<;>rfl)|(apply WpA.cd;constructor)|((first|with_reducible refine WpA.go _ rfl fun Y y=>?_|apply RunTo.id);simp only [zb,seval,w89,kcc,ct,cd,cn,c11];refine fz y ?_;clear y Y))
   refine cz (hs) ?_
   (refine WpL.go _ rfl fun Y y=>?_);repeat (first|(apply fw;(with_reducible constructor)<;>rfl)|(apply WpA.cd;constructor)|((first|with_reducible refine WpA.go _ rfl fun Y y=>?_|apply RunTo.id);simp only [zb,seval,w89,kcc];refine fz y ?_;clear y Y))
   refine cz (hb) ?_
   (refine WpL.go _ rfl fun Y y=>?_);repeat (first|(apply fw;(with_reducible constructor)<;>rfl)|(apply WpA.cd;constructor)|((first|with_reducible refine WpA.go _ rfl fun Y y=>?_|apply RunTo.id);simp only [zb,seval,w89,kcc,cF,q0,q1,q2,q3,q4,q5,q6,q7,q8];refine fz y ?_;clear y Y))
   refine WpA.frzP 17 1 rfl rfl (K.cc_shut _) ?_
   simp only [zz]
   refine WpA.frzP 19 2 rfl rfl (K.cc_shut _) ?_
   simp only [zz]
   have hle:∀s∈[[some ⟨31,11,[[.v (.int .i64 0),.v (.string ⟨#[]⟩),.v (.string ⟨#[]⟩),.v (.slice none 0 0),.v (.int .i64 0),.v (.int .i32 0),.v (.bool false),.v (.slice none 0 0),.v (.string ⟨#[]⟩),.v (.slice none 0 0),.v (.slice none 0 0)]]⟩,none,none],[some ⟨31,11,[(aE X.1 Y.1 bI).cc]⟩,none,none]],LeS [] s:=fun s _=>LeS.of (SLe.nil s)
   skip
   refine WpA.draw1 6 [5] [] [[some ⟨31,11,[[.v (.int .i64 0),.v (.string ⟨#[]⟩),.v (.string ⟨#[]⟩),.v (.slice none 0 0),.v (.int .i64 0),.v (.int .i32 0),.v (.bool false),.v (.slice none 0 0),.v (.string ⟨#[]⟩),.v (.slice none 0 0),.v (.slice none 0 0)]]⟩,none,none],[some ⟨31,11,[(aE X.1 Y.1 bI).cc]⟩,none,none]] _ _ _ _ rfl rfl rfl (by kernel_rfl) (by kernel_rfl) (by kernel_rfl) (by kernel_rfl) rfl rfl rfl rfl (by decide) fun K8 hK8=>?_
   simp only [zz] at hK8 ⊢
   (refine Draw1.go fun K7 hK7=>?_);simp only [zb,seval,w89,kcc];(refine RunQ.mk (by first|(simp;done)|omega|(simp;omega)) (hK7 _ _ (by rfl) ?_));clear hK7 K7;(simp only [zz,Nat.reduceAdd,Nat.reduceSub]);(try ((refine Draw1.nil hle (hK8 _ ?_));clear hK8 K8;(refine WpL.go _ rfl fun Y y=>?_);repeat (first|(apply fw;(with_reducible constructor)<;>rfl)|(apply WpA.cd;constructor)|((first|with_reducible refine WpA.go _ rfl fun Y y=>?_|apply RunTo.id);simp only [zb,seval,w89,kcc];refine fz y ?_;clear y Y))))
   refine Draw1.step (by rfl) (fun s9 _=>oz (hno)) ?_
   (refine Draw1.go fun K7 hK7=>?_);simp only [zb,seval,w89,kcc];(refine RunQ.mk (by first|(simp;done)|omega|(simp;omega)) (hK7 _ _ (by rfl) ?_));clear hK7 K7;(simp only [zz,Nat.reduceAdd,Nat.reduceSub]);(try ((refine Draw1.nil hle (hK8 _ ?_));clear hK8 K8;(refine WpL.go _ rfl fun Y y=>?_);repeat (first|(apply fw;(with_reducible constructor)<;>rfl)|(apply WpA.cd;constructor)|((first|with_reducible refine WpA.go _ rfl fun Y y=>?_|apply RunTo.id);simp only [zb,seval,w89,kcc];refine fz y ?_;clear y Y))))
   refine Draw1.step (by rfl) (fun s9 _=>oz (hbr)) ?_
   (refine Draw1.go fun K7 hK7=>?_);simp only [zb,seval,w89,kcc];(refine RunQ.mk (by first|(simp;done)|omega|(simp;omega)) (hK7 _ _ (by rfl) ?_));clear hK7 K7;(simp only [zz,Nat.reduceAdd,Nat.reduceSub]);(try ((refine Draw1.nil hle (hK8 _ ?_));clear hK8 K8;(refine WpL.go _ rfl fun Y y=>?_);repeat (first|(apply fw;(with_reducible constructor)<;>rfl)|(apply WpA.cd;constructor)|((first|with_reducible refine WpA.go _ rfl fun Y y=>?_|apply RunTo.id);simp only [zb,seval,w89,kcc];refine fz y ?_;clear y Y))))
   refine Draw1.eff 0 rfl rfl rfl (OpS.eff [(4,_),(187,_)] rfl (by rfl) ⟨rfl,rfl,trivial⟩ (by simp only [zb,seval,w89,kcc];rfl) (by first|(simp;done)|omega|(simp;omega))) ?_;(try simp only [bM]);(try ((refine Draw1.go fun K7 hK7=>?_);simp only [zb,seval,w89,kcc];(refine RunQ.mk (by first|(simp;done)|omega|(simp;omega)) (hK7 _ _ (by rfl) ?_));clear hK7 K7;(simp only [zz,Nat.reduceAdd,Nat.reduceSub]);(try ((refine Draw1.nil hle (hK8 _ ?_));clear hK8 K8;(refine WpL.go _ rfl fun Y y=>?_);repeat (first|(apply fw;(with_reducible constructor)<;>rfl)|(apply WpA.cd;constructor)|((first|with_reducible refine WpA.go _ rfl fun Y y=>?_|apply RunTo.id);simp only [zb,seval,w89,kcc];refine fz y ?_;clear y Y))))))
   skip
   refine ye (by simp only [zb,seval,w89,kcc];rfl) (by simp only [zv,kcc];rfl) ?_
   rfl
 by_cases ksUnless:w=fL
 ·subst ksUnless
  have q0:eqB fL ⟨#[113,117,111,116,101]⟩=false:=aA (by decide)
  have q1:eqB fL ⟨#[113,117,97,115,105,113,117,111,116,101]⟩=false:=aA (by decide)
  have q2:eqB fL ⟨#[108,97,109,98,100,97]⟩=false:=aA (by decide)
  have q3:eqB fL ⟨#[115,101,116,33]⟩=false:=aA (by decide)
  have q4:eqB fL ⟨#[105,102]⟩=false:=aA (by decide)
  have q5:eqB fL ⟨#[98,101,103,105,110]⟩=false:=aA (by decide)
  have q6:eqB fL ⟨#[99,97,115,101]⟩=false:=aA (by decide)
  have q7:eqB fL ⟨#[119,104,101,110]⟩=false:=aA (by decide)
  have q8:eqB fL ⟨#[117,110,108,101,115,115]⟩=true:=bG rfl
  by_cases hn:l0.length<2
  ·have g2:decide ((2:Int)≤(l0.length:Int))=false:=by simp;omega
   rw [show bT ev fL l0=bA ev fL l0 by unfold bT;(repeat rw [if_neg (by first|decide|assumption|(rintro ⟨h,-⟩;exact absurd h (by first|decide|assumption))|(rintro ⟨-,h⟩;omega))])]
   simp only [rsA]
   refine fi Tryz.func89 Tryz.ntmps89 Tryz.results89 ?_
   repeat (first|(apply fw;(with_reducible constructor)<;>rfl)|(apply WpA.cd;constructor)|((first|with_reducible refine WpA.go _ rfl fun Y y=>?_|apply RunTo.id);simp only [zb,seval,w89,kcc,cF,q0,q1,q2,q3,q4,q5,q6,q7,q8,g2];refine fz y ?_;clear y Y))
   refine cz (hde) ?_
   (refine WpL.go _ rfl fun Y y=>?_);repeat (first|(apply fw;(with_reducible constructor)<;>rfl)|(apply WpA.cd;constructor)|((first|with_reducible refine WpA.go _ rfl fun Y y=>?_|apply RunTo.id);simp only [zb,seval,w89,kcc];refine fz y ?_;clear y Y))
   refine ye (by simp only [zb,seval,w89,kcc];rfl) (by simp only [zv,kcc];rfl) ?_
   rfl
  ·obtain⟨a,r,hlr⟩:∃a r,a::r=l0:=by
    match l0,hn with
    | [],h=>exact absurd (by simp) h
    | a::r,_=>exact⟨a,r,rfl⟩
   obtain⟨c0,ct,cd,cl,cn,c11,c00,c22⟩:=pO a r l0 hlr
   have g2:decide ((2:Int)≤(l0.length:Int))=true:=by simp;omega
   have hle1:(1:Int)≤(l0.length:Int):=by omega
   have ha:Gd n a:=(hlr▸hl:Gds n (a::r)).head
   have hr:Gds n r:=(hlr▸hl:Gds n (a::r)).tail
   have hx:=hE.e a ha
   have hs:=fP hE r hr
   have hb:=aD (ev.e a).2 (eN ev.e r).2 (hE.e2 _) (jV hE r)
   have hno:=gK
   rw [show bT ev fL l0=(aE (ev.e a).1 bI (eN ev.e r).1,max (ev.e a).2 (eN ev.e r).2) by rw [←hlr];unfold bT;(repeat rw [if_neg (by first|decide|(rintro ⟨h,-⟩;exact absurd h (by decide)))]);rw [if_pos ⟨rfl,by rw [hlr];omega⟩];rfl]
   simp only [rsA] at hx hs ⊢
   generalize ev.e a=X at *
   generalize eN ev.e r=Y at *
   have hbr:=dQ X.1 bI Y.1
   refine fi Tryz.func89 Tryz.ntmps89 Tryz.results89 ?_
   repeat (first|(apply fw;(with_reducible constructor)<;>rfl)|(apply WpA.cd;constructor)|((first|with_reducible refine WpA.go _ rfl fun Y y=>?_|apply RunTo.id);simp only [zb,seval,w89,kcc,cF,q0,q1,q2,q3,q4,q5,q6,q7,q8,g2,c0];refine fz y ?_;clear y Y))
   refine cz (hx) ?_
   (refine WpL.go _ rfl fun Y y=>?_);repeat (first|(apply fw;(with_reducible constructor)<;>rfl)|(apply WpA.cd;constructor)|((first|with_reducible refine WpA.go _ rfl fun Y y=>?_|apply RunTo.id);simp only [zb,seval,w89,kcc,ct,cd,cn,c11];refine fz y ?_;clear y Y))
   refine cz (hs) ?_
   (refine WpL.go _ rfl fun Y y=>?_);repeat (first|(apply fw;(with_reducible constructor)<;>rfl)|(apply WpA.cd;constructor)|((first|with_reducible refine WpA.go _ rfl fun Y y=>?_|apply RunTo.id);simp only [zb,seval,w89,kcc];refine fz y ?_;clear y Y))
   refine cz (hb) ?_
   (refine WpL.go _ rfl fun Y y=>?_);repeat (first|(apply fw;(with_reducible constructor)<;>rfl)|(apply WpA.cd;constructor)|((first|with_reducible refine WpA.go _ rfl fun Y y=>?_|apply RunTo.id);simp only [zb,seval,w89,kcc,cF,q0,q1,q2,q3,q4,q5,q6,q7,q8];refine fz y ?_;clear y Y))
   refine WpA.frzP 17 1 rfl rfl (K.cc_shut _) ?_
   simp only [zz]
   refine WpA.frzP 19 2 rfl rfl (K.cc_shut _) ?_
   simp only [zz]
   have hle:∀s∈[[some ⟨31,11,[[.v (.int .i64 0),.v (.string ⟨#[]⟩),.v (.string ⟨#[]⟩),.v (.slice none 0 0),.v (.int .i64 0),.v (.int .i32 0),.v (.bool false),.v (.slice none 0 0),.v (.string ⟨#[]⟩),.v (.slice none 0 0),.v (.slice none 0 0)]]⟩,none,none],[some ⟨31,11,[(aE X.1 bI Y.1).cc]⟩,none,none]],LeS [] s:=fun s _=>LeS.of (SLe.nil s)
   skip
   refine WpA.draw1 6 [5] [] [[some ⟨31,11,[[.v (.int .i64 0),.v (.string ⟨#[]⟩),.v (.string ⟨#[]⟩),.v (.slice none 0 0),.v (.int .i64 0),.v (.int .i32 0),.v (.bool false),.v (.slice none 0 0),.v (.string ⟨#[]⟩),.v (.slice none 0 0),.v (.slice none 0 0)]]⟩,none,none],[some ⟨31,11,[(aE X.1 bI Y.1).cc]⟩,none,none]] _ _ _ _ rfl rfl rfl (by kernel_rfl) (by kernel_rfl) (by kernel_rfl) (by kernel_rfl) rfl rfl rfl rfl (by decide) fun K8 hK8=>?_
   simp only [zz] at hK8 ⊢
   (refine Draw1.go fun K7 hK7=>?_);simp only [zb,seval,w89,kcc];(refine RunQ.mk (by first|(simp;done)|omega|(simp;omega)) (hK7 _ _ (by rfl) ?_));clear hK7 K7;(simp only [zz,Nat.reduceAdd,Nat.reduceSub]);(try ((refine Draw1.nil hle (hK8 _ ?_));clear hK8 K8;(refine WpL.go _ rfl fun Y y=>?_);repeat (first|(apply fw;(with_reducible constructor)<;>rfl)|(apply WpA.cd;constructor)|((first|with_reducible refine WpA.go _ rfl fun Y y=>?_|apply RunTo.id);simp only [zb,seval,w89,kcc];refine fz y ?_;clear y Y))))
   refine Draw1.step (by rfl) (fun s9 _=>oz (hno)) ?_
   (refine Draw1.go fun K7 hK7=>?_);simp only [zb,seval,w89,kcc];(refine RunQ.mk (by first|(simp;done)|omega|(simp;omega)) (hK7 _ _ (by rfl) ?_));clear hK7 K7;(simp only [zz,Nat.reduceAdd,Nat.reduceSub]);(try ((refine Draw1.nil hle (hK8 _ ?_));clear hK8 K8;(refine WpL.go _ rfl fun Y y=>?_);repeat (first|(apply fw;(with_reducible constructor)<;>rfl)|(apply WpA.cd;constructor)|((first|with_reducible refine WpA.go _ rfl fun Y y=>?_|apply RunTo.id);simp only [zb,seval,w89,kcc];refine fz y ?_;clear y Y))))
   refine Draw1.step (by rfl) (fun s9 _=>oz (hbr)) ?_
   (refine Draw1.go fun K7 hK7=>?_);simp only [zb,seval,w89,kcc];(refine RunQ.mk (by first|(simp;done)|omega|(simp;omega)) (hK7 _ _ (by rfl) ?_));clear hK7 K7;(simp only [zz,Nat.reduceAdd,Nat.reduceSub]);(try ((refine Draw1.nil hle (hK8 _ ?_));clear hK8 K8;(refine WpL.go _ rfl fun Y y=>?_);repeat (first|(apply fw;(with_reducible constructor)<;>rfl)|(apply WpA.cd;constructor)|((first|with_reducible refine WpA.go _ rfl fun Y y=>?_|apply RunTo.id);simp only [zb,seval,w89,kcc];refine fz y ?_;clear y Y))))
   refine Draw1.eff 0 rfl rfl rfl (OpS.eff [(4,_),(192,_)] rfl (by rfl) ⟨rfl,rfl,trivial⟩ (by simp only [zb,seval,w89,kcc];rfl) (by first|(simp;done)|omega|(simp;omega))) ?_;(try simp only [bM]);(try ((refine Draw1.go fun K7 hK7=>?_);simp only [zb,seval,w89,kcc];(refine RunQ.mk (by first|(simp;done)|omega|(simp;omega)) (hK7 _ _ (by rfl) ?_));clear hK7 K7;(simp only [zz,Nat.reduceAdd,Nat.reduceSub]);(try ((refine Draw1.nil hle (hK8 _ ?_));clear hK8 K8;(refine WpL.go _ rfl fun Y y=>?_);repeat (first|(apply fw;(with_reducible constructor)<;>rfl)|(apply WpA.cd;constructor)|((first|with_reducible refine WpA.go _ rfl fun Y y=>?_|apply RunTo.id);simp only [zb,seval,w89,kcc];refine fz y ?_;clear y Y))))))
   skip
   refine ye (by simp only [zb,seval,w89,kcc];rfl) (by simp only [zv,kcc];rfl) ?_
   rfl
 have q0:eqB w ⟨#[113,117,111,116,101]⟩=false:=aA ksQuote
 have q1:eqB w ⟨#[113,117,97,115,105,113,117,111,116,101]⟩=false:=aA ksQuasi
 have q2:eqB w ⟨#[108,97,109,98,100,97]⟩=false:=aA ksLambda
 have q3:eqB w ⟨#[115,101,116,33]⟩=false:=aA ksSet
 have q4:eqB w ⟨#[105,102]⟩=false:=aA ksIf
 have q5:eqB w ⟨#[98,101,103,105,110]⟩=false:=aA ksBegin
 have q6:eqB w ⟨#[99,97,115,101]⟩=false:=aA ksCase
 have q7:eqB w ⟨#[119,104,101,110]⟩=false:=aA ksWhen
 have q8:eqB w ⟨#[117,110,108,101,115,115]⟩=false:=aA ksUnless
 rw [show bT ev w l0=bA ev w l0 by unfold bT;(repeat rw [if_neg (by first|decide|assumption|(rintro ⟨h,-⟩;exact absurd h (by first|decide|assumption))|(rintro ⟨-,h⟩;omega))])]
 simp only [rsA]
 refine fi Tryz.func89 Tryz.ntmps89 Tryz.results89 ?_
 repeat (first|(apply fw;(with_reducible constructor)<;>rfl)|(apply WpA.cd;constructor)|((first|with_reducible refine WpA.go _ rfl fun Y y=>?_|apply RunTo.id);simp only [zb,seval,w89,kcc,cF,q0,q1,q2,q3,q4,q5,q6,q7,q8,kcc];refine fz y ?_;clear y Y))
 refine cz (hde) ?_
 (refine WpL.go _ rfl fun Y y=>?_);repeat (first|(apply fw;(with_reducible constructor)<;>rfl)|(apply WpA.cd;constructor)|((first|with_reducible refine WpA.go _ rfl fun Y y=>?_|apply RunTo.id);simp only [zb,seval,w89,kcc];refine fz y ?_;clear y Y))
 refine ye (by simp only [zb,seval,w89,kcc];rfl) (by simp only [zv,kcc];rfl) ?_
 rfl
theorem OL {n:Nat} {ev:Ev} (hE:HE n ev) (w:ByteArray) (l:List D):(bT ev w l).2≤2:=by
 unfold bT
 repeat' split
 ·exact Nat.zero_le _
 ·exact hE.q2 _ _
 ·exact qX hE _ _
 ·exact Nat.max_le.2 ⟨eJ _,hE.e2 _⟩
 ·exact eF hE l
 ·exact eF hE l
 ·exact jV hE l
 ·match l with
  | []=>exact Nat.le_refl _
  | a::r =>
   have w1:=pP hE r
   have w2:=iI hE a (eS ev r).1
   unfold wK;dsimp only;omega
 ·exact Nat.max_le.2 ⟨hE.e2 _,jV hE _⟩
 ·exact Nat.max_le.2 ⟨hE.e2 _,jV hE _⟩
 ·exact FL hE w l
end Go.Proofs.YtaeioidifpebdaaGreatDoor
end
section
namespace Go.Proofs.YtaeioidifpebdaaGreatDoor
open Go Go.RowKit Go.Lib
set_option linter.unusedSimpArgs false
set_option linter.unusedVariables false
set_option maxHeartbeats 4000000
set_option maxRecDepth 100000
theorem OM {n:Nat} {ev:Ev} (hE:HE n ev) (d:D):(dM ev d).2≤2:=by
 unfold dM
 repeat' split
 ·exact Nat.le_refl _
 ·exact eJ d
 ·exact Nat.le_refl _
 ·exact OL hE _ _
 ·exact Nat.max_le.2 ⟨eF hE _,eV _⟩
 ·exact Nat.le_refl _
 ·exact Nat.zero_le _
theorem LT {n:Nat} {ev:Ev} (hE:HE n ev) (d:D) (hd:Gd (n+1) d):Pure Tryz.prog 57 [.agg d.cc] (rsA (dM ev d)):=by
 have hbig:=hE.big
 have hw:Pure Tryz.prog 84 [.one (.v (.string ⟨#[101,109,112,116,121,32,108,105,115,116]⟩)),.one (.gv 1)] (.one (.er 2)):=cY _ 1
 have hv:=jU d
 have hit:=fM d hd.2.1 (by have:=hd.items.len;omega)
 have hcn:=iG d hd.2.1
 rw [D.cc_eq d] at hv hit hcn ⊢
 by_cases h0:d.k=0
 ·have q0:(d.k == 0)=true:=by simp [h0]
  rw [show dM ev d=(kz,2) from if_pos h0]
  refine fi Tryz.func57 Tryz.ntmps57 Tryz.results57 ?_
  repeat (first|(apply fw;(with_reducible constructor)<;>rfl)|(apply WpA.cd;constructor)|((first|with_reducible refine WpA.go _ rfl fun Y y=>?_|apply RunTo.id);simp only [zb,seval,w57,kcc,q0];refine fz y ?_;clear y Y))
  refine cz (hw) ?_
  (refine WpL.go _ rfl fun Y y=>?_);repeat (first|(apply fw;(with_reducible constructor)<;>rfl)|(apply WpA.cd;constructor)|((first|with_reducible refine WpA.go _ rfl fun Y y=>?_|apply RunTo.id);simp only [zb,seval,w57,kcc];refine fz y ?_;clear y Y))
  refine⟨by simp,_,_,_,_,(by simp only [zb,seval,w57,kcc,rsA];rfl),(by simp),(by simp only [zv,kcc,rsA];rfl),(by simp [ksh]),_,(by simp only [rcc,rsA];exact ae),rfl⟩
 have q0:(d.k == 0)=false:=by simp [h0]
 by_cases h6:d.k=6
 ·have q6:(d.k == 6)=true:=by simp [h6]
  have hrf:=oH (bB d).1
  rw [show dM ev d=(bL (bB d).1,(bB d).2) by unfold dM;rw [if_neg h0,if_pos h6]]
  refine fi Tryz.func57 Tryz.ntmps57 Tryz.results57 ?_
  repeat (first|(apply fw;(with_reducible constructor)<;>rfl)|(apply WpA.cd;constructor)|((first|with_reducible refine WpA.go _ rfl fun Y y=>?_|apply RunTo.id);simp only [zb,seval,w57,kcc,q0,q6];refine fz y ?_;clear y Y))
  refine cz (hv) ?_
  (refine WpL.go _ rfl fun Y y=>?_);repeat (first|(apply fw;(with_reducible constructor)<;>rfl)|(apply WpA.cd;constructor)|((first|with_reducible refine WpA.go _ rfl fun Y y=>?_|apply RunTo.id);simp only [zb,seval,w57,kcc];refine fz y ?_;clear y Y))
  refine cz (hrf) ?_
  (refine WpL.go _ rfl fun Y y=>?_);repeat (first|(apply fw;(with_reducible constructor)<;>rfl)|(apply WpA.cd;constructor)|((first|with_reducible refine WpA.go _ rfl fun Y y=>?_|apply RunTo.id);simp only [zb,seval,w57,kcc];refine fz y ?_;clear y Y))
  refine ye (by simp only [zb,seval,w57,kcc];rfl) (by simp only [zv,kcc];rfl) ?_
  rfl
 have q6:(d.k == 6)=false:=by simp [h6]
 by_cases h7:d.k=7
 ·have q7:(d.k == 7)=true:=by simp [h7]
  obtain⟨hl,hf,hs,hm⟩:=hd.pair h7
  have hip:=(sU h7 hl).1
  by_cases he:fE d=0
  ·have hit':=hit
   rw [show aN d=(items d,0) from if_pos he] at hit'
   have hgi:Gds n (items d):=by
    have:=yO h7
    have:=hd.2.2
    exact⟨(jQ d hd.1 hd.2.1).1,(jQ d hd.1 hd.2.1).2,by omega⟩
   rw [show dM ev d=(match items d with
    | []=>(kz,2)
    | a::r=>if a.k=6∧nB a.t=true then bT ev a.t r else
     let x:=dA (aL ev.e (a::r)).1
     (x.1,max (aL ev.e (a::r)).2 x.2)) by unfold dM;rw [if_neg h0,if_neg h6,if_pos h7,if_pos he];rfl]
   rw [hip] at hgi hit' ⊢
   generalize d.fst=a at *
   generalize items d.snd=r at *
   dsimp only
   obtain⟨l,hlr⟩:∃l,a::r=l:=⟨_,rfl⟩
   obtain⟨g0,gt,gd,gl,gn,g11,g00,g22⟩:=pO a r l hlr
   have hgt:decide ((0:Int)<(l.length:Int))=true:=by simp;omega
   have hle1:(1:Int)≤(l.length:Int):=by omega
   have hky:=uL a.t
   have hec:=jH hE (a::r) hgi
   have hcl:=fB (aL ev.e (a::r)).1
   have hb:=aD (aL ev.e (a::r)).2 (dA (aL ev.e (a::r)).1).2 (eF hE _) (eV _)
   simp only [rlA] at hec
   simp only [rsA] at hcl
   have g0':=g0
   rw [D.cc_eq a] at g0'
   by_cases ha:a.k=6
   ·have qa:(a.k == 6)=true:=by simp [ha]
    cases hk:nB a.t with
    | true =>
     have hfm:=LS hE a.t r hgi.tail
     rw [hk] at hky
     rw [if_pos ⟨ha,rfl⟩]
     simp only [rsA] at hfm ⊢
     rw [hlr] at hit'
     refine fi Tryz.func57 Tryz.ntmps57 Tryz.results57 ?_
     repeat (first|(apply fw;(with_reducible constructor)<;>rfl)|(apply WpA.cd;constructor)|((first|with_reducible refine WpA.go _ rfl fun Y y=>?_|apply RunTo.id);simp only [zb,seval,w57,kcc,q0,q6,q7];refine fz y ?_;clear y Y))
     refine cz (hit') ?_
     (refine WpL.go _ rfl fun Y y=>?_);repeat (first|(apply fw;(with_reducible constructor)<;>rfl)|(apply WpA.cd;constructor)|((first|with_reducible refine WpA.go _ rfl fun Y y=>?_|apply RunTo.id);simp only [zb,seval,w57,kcc,g0',qa];refine fz y ?_;clear y Y))
     refine cz (hky) ?_
     (refine WpL.go _ rfl fun Y y=>?_);repeat (first|(apply fw;(with_reducible constructor)<;>rfl)|(apply WpA.cd;constructor)|((first|with_reducible refine WpA.go _ rfl fun Y y=>?_|apply RunTo.id);simp only [zb,seval,w57,kcc];refine fz y ?_;clear y Y))
     (refine WpA.draw0 9 _ _ _ rfl rfl rfl (by kernel_rfl) (by kernel_rfl) (by kernel_rfl) fun K8 hK8=>?_);simp only [zz] at hK8 ⊢;(refine Draw0.go fun K7 k=>?_);simp only [zb,seval,w57,kcc,g0',gt,gd,gn,g11,hle1];(refine qz (k _ _ ?_));clear k K7;(try ((refine Draw0.nil (hK8 _ ?_));clear hK8 K8;(refine WpL.go _ rfl fun Y y=>?_);repeat (first|(apply fw;(with_reducible constructor)<;>rfl)|(apply WpA.cd;constructor)|((first|with_reducible refine WpA.go _ rfl fun Y y=>?_|apply RunTo.id);simp only [zb,seval,w57,kcc,g0',gt,gd,gn,g11,hle1];refine fz y ?_;clear y Y))))
     refine Draw0.step (oz (hfm)) ?_
     (refine Draw0.go fun K7 k=>?_);simp only [zb,seval,w57,kcc];(refine qz (k _ _ ?_));clear k K7;(try ((refine Draw0.nil (hK8 _ ?_));clear hK8 K8;(refine WpL.go _ rfl fun Y y=>?_);repeat (first|(apply fw;(with_reducible constructor)<;>rfl)|(apply WpA.cd;constructor)|((first|with_reducible refine WpA.go _ rfl fun Y y=>?_|apply RunTo.id);simp only [zb,seval,w57,kcc];refine fz y ?_;clear y Y))))
     refine ye (by simp only [zb,seval,w57,kcc];rfl) (by simp only [zv,kcc];rfl) ?_
     rfl
    | false =>
     rw [hk] at hky
     rw [if_neg (by simp)]
     simp only [rsA]
     rw [hlr] at hit' hec hcl hb ⊢
     refine fi Tryz.func57 Tryz.ntmps57 Tryz.results57 ?_
     repeat (first|(apply fw;(with_reducible constructor)<;>rfl)|(apply WpA.cd;constructor)|((first|with_reducible refine WpA.go _ rfl fun Y y=>?_|apply RunTo.id);simp only [zb,seval,w57,kcc,q0,q6,q7];refine fz y ?_;clear y Y))
     refine cz (hit') ?_
     (refine WpL.go _ rfl fun Y y=>?_);repeat (first|(apply fw;(with_reducible constructor)<;>rfl)|(apply WpA.cd;constructor)|((first|with_reducible refine WpA.go _ rfl fun Y y=>?_|apply RunTo.id);simp only [zb,seval,w57,kcc,g0',qa];refine fz y ?_;clear y Y))
     refine cz (hky) ?_
     (refine WpL.go _ rfl fun Y y=>?_);repeat (first|(apply fw;(with_reducible constructor)<;>rfl)|(apply WpA.cd;constructor)|((first|with_reducible refine WpA.go _ rfl fun Y y=>?_|apply RunTo.id);simp only [zb,seval,w57,kcc];refine fz y ?_;clear y Y))
     refine cz (hec) ?_
     (refine WpL.go _ rfl fun Y y=>?_);repeat (first|(apply fw;(with_reducible constructor)<;>rfl)|(apply WpA.cd;constructor)|((first|with_reducible refine WpA.go _ rfl fun Y y=>?_|apply RunTo.id);simp only [zb,seval,w57,kcc];refine fz y ?_;clear y Y))
     refine cz (hcl) ?_
     (refine WpL.go _ rfl fun Y y=>?_);repeat (first|(apply fw;(with_reducible constructor)<;>rfl)|(apply WpA.cd;constructor)|((first|with_reducible refine WpA.go _ rfl fun Y y=>?_|apply RunTo.id);simp only [zb,seval,w57,kcc];refine fz y ?_;clear y Y))
     (refine WpA.draw0 4 _ _ _ rfl rfl rfl (by kernel_rfl) (by kernel_rfl) (by kernel_rfl) fun K8 hK8=>?_);simp only [zz] at hK8 ⊢;(refine Draw0.go fun K7 k=>?_);simp only [zb,seval,w57,kcc];(refine qz (k _ _ ?_));clear k K7;(try ((refine Draw0.nil (hK8 _ ?_));clear hK8 K8;(refine WpL.go _ rfl fun Y y=>?_);repeat (first|(apply fw;(with_reducible constructor)<;>rfl)|(apply WpA.cd;constructor)|((first|with_reducible refine WpA.go _ rfl fun Y y=>?_|apply RunTo.id);simp only [zb,seval,w57,kcc];refine fz y ?_;clear y Y))))
     refine Draw0.step (oz (hb)) ?_
     (refine Draw0.go fun K7 k=>?_);simp only [zb,seval,w57,kcc];(refine qz (k _ _ ?_));clear k K7;(try ((refine Draw0.nil (hK8 _ ?_));clear hK8 K8;(refine WpL.go _ rfl fun Y y=>?_);repeat (first|(apply fw;(with_reducible constructor)<;>rfl)|(apply WpA.cd;constructor)|((first|with_reducible refine WpA.go _ rfl fun Y y=>?_|apply RunTo.id);simp only [zb,seval,w57,kcc];refine fz y ?_;clear y Y))))
     refine ye (by simp only [zb,seval,w57,kcc];rfl) (by simp only [zv,kcc];rfl) ?_
     rfl
   ·have qa:(a.k == 6)=false:=by simp [ha]
    rw [if_neg (fun h=>ha h.1)]
    simp only [rsA]
    rw [hlr] at hit' hec hcl hb ⊢
    refine fi Tryz.func57 Tryz.ntmps57 Tryz.results57 ?_
    repeat (first|(apply fw;(with_reducible constructor)<;>rfl)|(apply WpA.cd;constructor)|((first|with_reducible refine WpA.go _ rfl fun Y y=>?_|apply RunTo.id);simp only [zb,seval,w57,kcc,q0,q6,q7];refine fz y ?_;clear y Y))
    refine cz (hit') ?_
    (refine WpL.go _ rfl fun Y y=>?_);repeat (first|(apply fw;(with_reducible constructor)<;>rfl)|(apply WpA.cd;constructor)|((first|with_reducible refine WpA.go _ rfl fun Y y=>?_|apply RunTo.id);simp only [zb,seval,w57,kcc,g0',qa];refine fz y ?_;clear y Y))
    refine cz (hec) ?_
    (refine WpL.go _ rfl fun Y y=>?_);repeat (first|(apply fw;(with_reducible constructor)<;>rfl)|(apply WpA.cd;constructor)|((first|with_reducible refine WpA.go _ rfl fun Y y=>?_|apply RunTo.id);simp only [zb,seval,w57,kcc];refine fz y ?_;clear y Y))
    refine cz (hcl) ?_
    (refine WpL.go _ rfl fun Y y=>?_);repeat (first|(apply fw;(with_reducible constructor)<;>rfl)|(apply WpA.cd;constructor)|((first|with_reducible refine WpA.go _ rfl fun Y y=>?_|apply RunTo.id);simp only [zb,seval,w57,kcc];refine fz y ?_;clear y Y))
    (refine WpA.draw0 4 _ _ _ rfl rfl rfl (by kernel_rfl) (by kernel_rfl) (by kernel_rfl) fun K8 hK8=>?_);simp only [zz] at hK8 ⊢;(refine Draw0.go fun K7 k=>?_);simp only [zb,seval,w57,kcc];(refine qz (k _ _ ?_));clear k K7;(try ((refine Draw0.nil (hK8 _ ?_));clear hK8 K8;(refine WpL.go _ rfl fun Y y=>?_);repeat (first|(apply fw;(with_reducible constructor)<;>rfl)|(apply WpA.cd;constructor)|((first|with_reducible refine WpA.go _ rfl fun Y y=>?_|apply RunTo.id);simp only [zb,seval,w57,kcc];refine fz y ?_;clear y Y))))
    refine Draw0.step (oz (hb)) ?_
    (refine Draw0.go fun K7 k=>?_);simp only [zb,seval,w57,kcc];(refine qz (k _ _ ?_));clear k K7;(try ((refine Draw0.nil (hK8 _ ?_));clear hK8 K8;(refine WpL.go _ rfl fun Y y=>?_);repeat (first|(apply fw;(with_reducible constructor)<;>rfl)|(apply WpA.cd;constructor)|((first|with_reducible refine WpA.go _ rfl fun Y y=>?_|apply RunTo.id);simp only [zb,seval,w57,kcc];refine fz y ?_;clear y Y))))
    refine ye (by simp only [zb,seval,w57,kcc];rfl) (by simp only [zv,kcc];rfl) ?_
    rfl
  ·rw [show aN d=([],2) from if_neg he] at hit
   rw [show dM ev d=(kz,2) by unfold dM;rw [if_neg h0,if_neg h6,if_pos h7,if_neg he]]
   refine fi Tryz.func57 Tryz.ntmps57 Tryz.results57 ?_
   repeat (first|(apply fw;(with_reducible constructor)<;>rfl)|(apply WpA.cd;constructor)|((first|with_reducible refine WpA.go _ rfl fun Y y=>?_|apply RunTo.id);simp only [zb,seval,w57,kcc,q0,q6,q7];refine fz y ?_;clear y Y))
   refine cz (hit) ?_
   (refine WpL.go _ rfl fun Y y=>?_);repeat (first|(apply fw;(with_reducible constructor)<;>rfl)|(apply WpA.cd;constructor)|((first|with_reducible refine WpA.go _ rfl fun Y y=>?_|apply RunTo.id);simp only [zb,seval,w57,kcc];refine fz y ?_;clear y Y))
   refine⟨by simp,_,_,_,_,(by simp only [zb,seval,w57,kcc,rsA];rfl),(by simp),(by simp only [zv,kcc,rsA];rfl),(by simp [ksh]),_,(by simp only [rcc,rsA];exact ae),rfl⟩
 ·have q7:(d.k == 7)=false:=by simp [h7]
  rw [show dM ev d=(dR d,0) by unfold dM;rw [if_neg h0,if_neg h6,if_neg h7]]
  simp only [rsA]
  refine fi Tryz.func57 Tryz.ntmps57 Tryz.results57 ?_
  repeat (first|(apply fw;(with_reducible constructor)<;>rfl)|(apply WpA.cd;constructor)|((first|with_reducible refine WpA.go _ rfl fun Y y=>?_|apply RunTo.id);simp only [zb,seval,w57,kcc,q0,q6,q7];refine fz y ?_;clear y Y))
  refine cz (hcn) ?_
  (refine WpL.go _ rfl fun Y y=>?_);repeat (first|(apply fw;(with_reducible constructor)<;>rfl)|(apply WpA.cd;constructor)|((first|with_reducible refine WpA.go _ rfl fun Y y=>?_|apply RunTo.id);simp only [zb,seval,w57,kcc];refine fz y ?_;clear y Y))
  refine ye (by simp only [zb,seval,w57,kcc];rfl) (by simp only [zv,kcc];rfl) ?_
  rfl
theorem IK:∀n:Nat,n≤100000000→HE n (evs n)
 | 0,_=>⟨fun d h=>absurd h.2.2 (Nat.not_lt_zero _),fun l h=>absurd h.2.2 (Nat.not_lt_zero _),fun d k h=>absurd h.2.2 (Nat.not_lt_zero _),fun d=>Nat.zero_le _,fun l=>Nat.zero_le _,fun d k=>Nat.zero_le _,Nat.zero_le _⟩
 | n+1,hn=>by
  have h:=IK n (by omega)
  have e1:∀d,Gd (n+1) d→Pure Tryz.prog 57 [.agg d.cc] (rsA (dM (evs n) d)):=fun d hd=>LT h d hd
  have e2:∀d,(dM (evs n) d).2≤2:=OM h
  have hm:HE n ⟨dM (evs n),(evs n).b,(evs n).q⟩:=⟨fun d hd=>e1 d (hd.le (by omega)),h.b,h.q,e2,h.b2,h.q2,h.big⟩
  exact⟨e1,fun l hl=>FI hm e1 hn l hl,fun d k hd h1 hk=>ID hm d k hd h1 hk,e2,fun l=>QE hm l,fun d k=>LP hm d k,hn⟩
end Go.Proofs.YtaeioidifpebdaaGreatDoor
end
