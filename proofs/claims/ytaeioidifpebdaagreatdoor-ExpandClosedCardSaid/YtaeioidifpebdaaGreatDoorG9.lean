/-
 Laid together: Wo18, Wp18, Wq18.
-/
import Derived.Test.YtaeioidifpebdaaGreatDoorG8
section
namespace Go.Proofs.YtaeioidifpebdaaGreatDoor
open Go Go.RowKit Go.Lib
set_option linter.unusedSimpArgs false
set_option linter.unusedVariables false
set_option maxHeartbeats 8000000
set_option maxRecDepth 100000
def tT (l:List D):List (D × D × D):=l.filterMap f5
noncomputable def tN (l:List D):List ByteArray:=(tT l).map fun t=>(aM t.1).1
noncomputable def tE (l:List D):Nat:=d6 ((tT l).map fun t=>(aM t.1).2)
def tI (l:List D):List D:=(tT l).map fun t=>t.2.1
def tS (l:List D):List D:=(tT l).map fun t=>t.2.2
theorem pQ {l:List D} {d:D} {t:D × D × D} (h:f5 d=some t):tT (l++[d])=tT l++[t]:=by simp [tT,h]
theorem xN (l:List D):(tT l).length≤l.length:=List.length_filterMap_le _ _
theorem xw (l:List D):tE l≤2:=ij fun x hx=>by
 obtain⟨d,_,rfl⟩:=List.mem_map.1 hx
 exact cF _
theorem kH {d:D} {t:D × D × D} (h:f5 d=some t):dz d=0∧(items d=[t.1,t.2.1]∧t.2.2=t.1∨items d=[t.1,t.2.1,t.2.2]):=by
 unfold f5 at h
 split at h
 ·rename_i he
  refine⟨he,?_⟩
  split at h
  ·rename_i hh;cases h;exact .inl ⟨hh,rfl⟩
  ·rename_i hh;cases h;exact .inr hh
  ·cases h
 ·cases h
theorem sj {d:D} (h:f5 d=none):dz d≠0∨(dz d=0∧((items d).length<2∨3<(items d).length)):=by
 unfold f5 at h
 split at h
 ·rename_i he
  refine .inr ⟨he,?_⟩
  match hh:items d with
  | []=>exact .inl (by simp)
  | [_]=>exact .inl (by simp)
  | [_,_]=>rw [hh] at h;simp at h
  | [_,_,_]=>rw [hh] at h;simp at h
  | _::_::_::_::_=>exact .inr (by simp)
 ·rename_i he;exact .inl he
theorem vG {n:Nat} {d:D} {t:D × D × D} (hd:Gd n d) (h:f5 d=some t):Gd n t.1∧Gd n t.2.1∧Gd n t.2.2∧t.2.1.msr≤d.msr∧t.2.2.msr≤d.msr:=by
 obtain⟨-,h2⟩:=kH h
 have hi:=hd.items
 have hm:=gE d
 rcases h2 with ⟨h2,h3⟩|h2
 ·rw [h2] at hi hm
  simp only [bx] at hm
  rw [h3]
  exact⟨hi.head,hi.tail.head,hi.head,by omega,by omega⟩
 ·rw [h2] at hi hm
  simp only [bx] at hm
  exact⟨hi.head,hi.tail.head,hi.tail.tail.head,by omega,by omega⟩
theorem lx {n:Nat}:∀{l:List D},Gds n l→(Gds n (tI l)∧Gds n (tS l))∧bx (tI l)≤bx l∧bx (tS l)≤bx l
 | [],h=>⟨⟨h,h⟩,Nat.le_refl _,Nat.le_refl _⟩
 | d::l,h=>by
  obtain⟨⟨⟨a1,a2,-⟩,⟨b1,b2,-⟩⟩,m1,m2⟩:=lx h.tail
  have hn:=h.2.2
  unfold tI tS tT at *
  rw [List.filterMap_cons]
  rw [bx] at hn ⊢
  cases ht:f5 d with
  | none=>exact⟨⟨⟨a1,a2,by dsimp only;omega⟩,⟨b1,b2,by dsimp only;omega⟩⟩,by dsimp only;omega,by dsimp only;omega⟩
  | some t =>
   obtain⟨-,g1,g2,k1,k2⟩:=vG h.head ht
   simp only [List.map_cons,bx]
   exact⟨⟨⟨⟨g1.1,a1⟩,⟨g1.2.1,a2⟩,by simp only [bx];omega⟩,⟨⟨g2.1,b1⟩,⟨g2.2.1,b2⟩,by simp only [bx];omega⟩⟩,by omega,by omega⟩
structure LoS (l:List D) (S:List (Option Ob)) (cN cI cS:C):Prop where
 n:At 9 1 S cN (bp (tN l))
 i:At 28 6 S cI ((tI l).map D.cc)
 s:At 28 6 S cS ((tS l).map D.cc)
 box:S[0]?=some (some ⟨31,11,[[.v (.int .i64 0),.v (.string ⟨#[]⟩),.v (.string ⟨#[]⟩),.v (.slice none 0 0),.v (.int .i64 0),.v (.int .i32 0),.v (.bool false),.v (.slice none 0 0),.v (.string ⟨#[]⟩),.v (.slice none 0 0),.v (.slice none 0 0)]]⟩)
 is:∀j n m,cI=.ms j n→cS≠.ms j m
def LoI (q l:List D) (er:Nat) (n:Nat) (st:St):Prop:=∃(i:Nat) (S:List (Option Ob)) (cN cI cS:C),n=l.length-i∧i≤l.length∧(l.take i).all (fun d=>(f5 d).isSome)=true∧LoS (l.take i) S cN cI cS ∧
 st=⟨[(40,.one (.v (.int .i64 i))),(39,.one (.v (.int .i64 l.length))),(38,.one (.sl 6 (l.map D.cc))),(2,.one (.ptr 0 1 0 0)),(3,.one (.er 0)),(6,.one cN),(7,.one cI),(8,.one cS),(5,.one (.er (max er (tE (l.take i))))),(0,.one (.sl 6 (q.map D.cc)))],S⟩
noncomputable def jL (ev:Ev) (names:List ByteArray) (inits steps:List D) (err:Nat) (ends r:List D):Rs:=match ends with
 | []=>(kz,2)
 | e::es =>
  let test:=ev.e e
  let last:=if es=[] then (aZ,0) else cH ev.e es
  let body:=aw ev.e r
  let next:=aw ev.e steps
  let again:=bC (aP b8::next.1)
  let f:=cD names e0 (ai test.1 last.1 (dA (body.1++[again.1])))
  let x:=fh [b8] [f.1] (aP b8)
  let vs:=aw ev.e inits
  let c:=bC (x.1::vs.1)
  (c.1,max (max (max (max (max (max (max (max err test.2) last.2) body.2) next.2) again.2) f.2) x.2) vs.2 |> fun m=>max m c.2)
theorem j7 (ev:Ev) (a b:D) (r:List D):iv ev (a::b::r)=if (av a).1.all (fun d=>(f5 d).isSome) then jL ev (tN (av a).1) (tI (av a).1) (tS (av a).1) (max (max (max (av a).2 (tE (av a).1)) (av b).2) (unl (tN (av a).1))) (av b).1 r else (kz,2):=by
 unfold iv jL tN tI tS tE tT
 rfl
theorem vH {n:Nat} {ev:Ev} (hE:HE n ev) (names:List ByteArray) (inits steps:List D) (err:Nat) (ends r:List D) (he:err≤2):(jL ev names inits steps err ends r).2≤2:=by
 unfold jL
 split
 ·exact Nat.le_refl _
 ·rename_i e es
  dsimp only
  have w1:=hE.e2 e
  have w2:(if es=[] then ((aZ,0):Rs) else cH ev.e es).2≤2:=by
   split
   ·exact Nat.zero_le _
   ·exact fk hE es
  have w3:=cA hE r
  have w4:=cA hE steps
  have w5:=cY (aP b8::(aw ev.e steps).1)
  generalize (if es=[] then ((aZ,0):Rs) else cH ev.e es)=L at *
  have w6:=gg names e0 (ai (ev.e e).1 L.1 (dA ((aw ev.e r).1++[(bC (aP b8::(aw ev.e steps).1)).1])))
  generalize cD names e0 (ai (ev.e e).1 L.1 (dA ((aw ev.e r).1++[(bC (aP b8::(aw ev.e steps).1)).1])))=F at *
  have w7:=gx [b8] [F.1] (aP b8)
  have w8:=cA hE inits
  have w9:=cY ((fh [b8] [F.1] (aP b8)).1::(aw ev.e inits).1)
  omega
theorem ug {n:Nat} {ev:Ev} (hE:HE n ev) (l:List D):(iv ev l).2≤2:=by
 match l with
 | []=>exact Nat.le_refl _
 | [_]=>exact Nat.le_refl _
 | a::b::r =>
  rw [j7]
  split
  ·refine vH hE _ _ _ _ _ _ ?_
   have:=ej a
   have:=ej b
   have:=xw (av a).1
   have:=fM (tN (av a).1)
   omega
  ·exact Nat.le_refl _
noncomputable def o0 (ev:Ev) (names:List ByteArray) (inits steps:List D) (tK lK:K) (err:Nat) (r:List D):Rs :=
  let body:=aw ev.e r
  let next:=aw ev.e steps
  let again:=bC (aP b8::next.1)
  let f:=cD names e0 (ai tK lK (dA (body.1++[again.1])))
  let x:=fh [b8] [f.1] (aP b8)
  let vs:=aw ev.e inits
  let c:=bC (x.1::vs.1)
  (c.1,max (max (max (max (max (max err body.2) next.2) again.2) f.2) x.2) vs.2 |> fun m=>max m c.2)
theorem uh (ev:Ev) (names:List ByteArray) (inits steps:List D) (err:Nat) (e:D) (r:List D):jL ev names inits steps err [e] r=o0 ev names inits steps (ev.e e).1 aZ (max err (ev.e e).2) r:=by
 unfold jL o0;simp
theorem sk (ev:Ev) (names:List ByteArray) (inits steps:List D) (err:Nat) (e f:D) (fs r:List D):jL ev names inits steps err (e::f::fs) r=o0 ev names inits steps (ev.e e).1 (cH ev.e (f::fs)).1 (max (max err (ev.e e).2) (cH ev.e (f::fs)).2) r:=by
 unfold jL o0;simp
theorem sm {n:Nat} {ev:Ev} (hE:HE n ev) (l0:List D) (hl:Gds n l0):Pure Tryz.prog 134 [.one (.sl 6 (l0.map D.cc))] (rsA (iv ev l0)):=by
 have hbig:=hE.big
 have hw:Pure Tryz.prog 84 [.one (.v (.string ⟨#[100,111]⟩)),.one (.gv 1)] (.one (.er 2)):=bH _ 1
 by_cases h2:l0.length<2
 ·have hde:iv ev l0=(kz,2):=by
   match l0,h2 with
   | [],_=>rfl
   | [a],_=>rfl
  have hlt:decide ((l0.length:Int)<2)=true:=by simp;omega
  rw [hde]
  refine fi Tryz.func134 Tryz.ntmps134 Tryz.results134 ?_
  repeat (first|(apply fw;(with_reducible constructor)<;>rfl)|(apply WpA.cd;constructor)|((first|with_reducible refine WpA.go _ rfl fun Y y=>?_|apply RunTo.id);simp only [zb,seval,ap,kcc,hlt];refine fz y ?_;clear y Y))
  refine cz (hw) ?_
  (refine WpL.go _ rfl fun Y y=>?_);repeat (first|(apply fw;(with_reducible constructor)<;>rfl)|(apply WpA.cd;constructor)|((first|with_reducible refine WpA.go _ rfl fun Y y=>?_|apply RunTo.id);simp only [zb,seval,ap,kcc];refine fz y ?_;clear y Y))
  refine⟨by simp,_,_,_,_,(by simp only [zb,seval,ap,kcc,rsA];rfl),(by simp),(by simp only [zv,kcc,rsA];rfl),(by simp [ksh]),_,(by simp only [rcc,rsA];exact ae),rfl⟩
 ·obtain⟨a,b,r,hlr⟩:∃a b r,a::b::r=l0:=by
   match l0,h2 with
   | [],h=>exact absurd (by simp) h
   | [a],h=>exact absurd (by simp) h
   | a::b::r,_=>exact⟨a,b,r,rfl⟩
  obtain⟨g0,gt,gd,gl,gn,g11,g00,g22⟩:=jc a (b::r) l0 hlr
  obtain⟨g1,gdd⟩:=wP a b r l0 hlr
  have hlt:decide ((l0.length:Int)<2)=false:=by simp;omega
  have hle2:(2:Int)≤(l0.length:Int):=by omega
  have ha:Gd n a:=hl.mem (by rw [←hlr];simp)
  have hb:Gd n b:=hl.mem (by rw [←hlr];simp)
  have hr:Gds n r:=(hlr▸hl:Gds n (a::b::r)).tail.tail
  have hia:=du a ha.2.1 (by have:=ha.items.len;omega)
  have hib:=du b hb.2.1 (by have:=hb.items.len;omega)
  have wa:=ej a
  have wb:=ej b
  have gA:=dy ha
  have gB:=dy hb
  have hq:(l0.map D.cc).length=l0.length:=List.length_map ..
  have wr0:IntKind.i64.wrap 0=0:=cf (by omega) (by omega)
  have wr1:IntKind.i64.wrap 1=1:=cf (by omega) (by omega)
  have wr2:IntKind.i64.wrap 2=2:=cf (by omega) (by omega)
  rw [←hlr,j7,hlr]
  generalize av b=IB at *
  generalize (av a).2=er at *
  generalize (av a).1=l at *
  have hlen:=gA.len
  refine fi Tryz.func134 Tryz.ntmps134 Tryz.results134 ?_
  repeat (first|(apply fw;(with_reducible constructor)<;>rfl)|(apply WpA.cd;constructor)|((first|with_reducible refine WpA.go _ rfl fun Y y=>?_|apply RunTo.id);simp only [zb,seval,ap,kcc,hlt,g0];refine fz y ?_;clear y Y))
  refine cz (hia) ?_
  (refine WpL.go _ rfl fun Y y=>?_);repeat (first|(apply fw;(with_reducible constructor)<;>rfl)|(apply WpA.cd;constructor)|((first|with_reducible refine WpA.go _ rfl fun Y y=>?_|apply RunTo.id);simp only [zb,seval,ap,kcc];refine fz y ?_;clear y Y))
  refine WpA.loop (LoI l0 l er) l.length (st0:=⟨[(40,.one (.v (.int .i64 (0:Nat)))),(39,.one (.v (.int .i64 l.length))),(38,.one (.sl 6 (l.map D.cc))),(2,.one (.ptr 0 1 0 0)),(3,.one (.er 0)),(6,.one (.v (.slice none 0 0))),(7,.one (.v (.slice none 0 0))),(8,.one (.v (.slice none 0 0))),(5,.one (.er (max er (tE (l.take 0))))),(0,.one (.sl 6 (l0.map D.cc)))],[some ⟨31,11,[[.v (.int .i64 0),.v (.string ⟨#[]⟩),.v (.string ⟨#[]⟩),.v (.slice none 0 0),.v (.int .i64 0),.v (.int .i32 0),.v (.bool false),.v (.slice none 0 0),.v (.string ⟨#[]⟩),.v (.slice none 0 0),.v (.slice none 0 0)]]⟩]⟩) (Le.sub (by simp [Sub,find,tE,tT,d6]))
   ⟨0,_,_,_,_,rfl,Nat.zero_le _,by simp,⟨At.nil _ _ _,At.nil _ _ _,At.nil _ _ _,rfl,(fun j n m e=>by cases e)⟩,rfl⟩ ?_
  intro n' st hI
  obtain⟨i,S,cN,cI,cS,rfl,hi,hall,hB,rfl⟩:=hI
  have hw2:IntKind.i64.wrap ((i:Int)+1)=((i+1:Nat):Int):=by rw [cf (by omega) (by omega)];omega
  have hte:=xw (l.take i)
  have htl:=xN (l.take i)
  rw [List.length_take,Nat.min_eq_left hi] at htl
  have hnl:(tN (l.take i)).length≤i:=by unfold tN;rw [List.length_map];exact htl
  have hil:(tI (l.take i)).length≤i:=by unfold tI;rw [List.length_map];exact htl
  have hsl:(tS (l.take i)).length≤i:=by unfold tS;rw [List.length_map];exact htl
  have hS0:=(List.getElem?_eq_some_iff.1 hB.box).1
  by_cases hlt2:i<l.length
  ·have hd1:decide ((i:Int)<(l.length:Int))=true:=by simp;omega
   have hget:=nq hlt2
   have hbm:=gA.mem (List.getElem_mem hlt2)
   have him:=du l[i] hbm.2.1 (by have:=hbm.items.len;omega)
   have htk:=List.take_succ_eq_append_getElem hlt2
   have hmem:l[i]∈l:=List.getElem_mem hlt2
   generalize hdd:l[i]=d at *
   cases htr:f5 d with
   | none =>
    have hfa:l.all (fun d=>(f5 d).isSome)=false:=List.all_eq_false.2 ⟨d,hmem,by simp [htr]⟩
    have h0':∀T,(S++T)[0]?=_:=fun T=>bz hB.box
    have hset:∀(T:List (Option Ob)) (a:Option Ob),((S++T).set 0 a)[0]?=some a:=fun T a=>List.getElem?_set_self (by simp;omega)
    rw [hfa]
    simp only [Bool.false_eq_true,if_false]
    rcases sj htr with he|⟨he,hln⟩
    ·rw [show av d=([],2) from if_neg he] at him
     simp only [List.map_nil] at him
     repeat (first|(apply fw;(with_reducible constructor)<;>rfl)|(apply WpA.cd;constructor)|((first|with_reducible refine WpA.go _ rfl fun Y y=>?_|apply RunTo.id);simp only [zb,seval,ap,hd1,hget,kcc,ah];refine fz y ?_;clear y Y))
     refine cz (him) ?_
     (refine WpL.go _ rfl fun Y y=>?_);repeat (first|(apply fw;(with_reducible constructor)<;>rfl)|(apply WpA.cd;constructor)|((first|with_reducible refine WpA.go _ rfl fun Y y=>?_|apply RunTo.id);simp only [zb,seval,ap,kcc];refine fz y ?_;clear y Y))
     refine cz (hw) ?_
     (refine WpL.go _ rfl fun Y y=>?_);repeat (first|(apply fw;(with_reducible constructor)<;>rfl)|(apply WpA.cd;constructor)|((first|with_reducible refine WpA.go _ rfl fun Y y=>?_|apply RunTo.id);simp only [zb,seval,ap,kcc,h0'];refine fz y ?_;clear y Y))
     refine⟨by simp,_,_,_,_,(by simp only [zb,seval,ap,kcc,rsA,hset];rfl),(by simp),(by simp only [zv,kcc,rsA,hset];rfl),(by simp [ksh]),_,(by simp only [rcc,rsA];exact ae),rfl⟩
    ·rw [show av d=(items d,0) from if_pos he] at him
     simp only at him
     by_cases hl2:(items d).length<2
     ·have hc2:decide (((items d).length:Int)<2)=true:=by simp;omega
      repeat (first|(apply fw;(with_reducible constructor)<;>rfl)|(apply WpA.cd;constructor)|((first|with_reducible refine WpA.go _ rfl fun Y y=>?_|apply RunTo.id);simp only [zb,seval,ap,hd1,hget,kcc,ah];refine fz y ?_;clear y Y))
      refine cz (him) ?_
      (refine WpL.go _ rfl fun Y y=>?_);repeat (first|(apply fw;(with_reducible constructor)<;>rfl)|(apply WpA.cd;constructor)|((first|with_reducible refine WpA.go _ rfl fun Y y=>?_|apply RunTo.id);simp only [zb,seval,ap,kcc,hc2];refine fz y ?_;clear y Y))
      refine cz (hw) ?_
      (refine WpL.go _ rfl fun Y y=>?_);repeat (first|(apply fw;(with_reducible constructor)<;>rfl)|(apply WpA.cd;constructor)|((first|with_reducible refine WpA.go _ rfl fun Y y=>?_|apply RunTo.id);simp only [zb,seval,ap,kcc,h0'];refine fz y ?_;clear y Y))
      refine⟨by simp,_,_,_,_,(by simp only [zb,seval,ap,kcc,rsA,hset];rfl),(by simp),(by simp only [zv,kcc,rsA,hset];rfl),(by simp [ksh]),_,(by simp only [rcc,rsA];exact ae),rfl⟩
     ·have hc2:decide (((items d).length:Int)<2)=false:=by simp;omega
      have hc3:decide ((3:Int)<((items d).length:Int))=true:=by simp;omega
      repeat (first|(apply fw;(with_reducible constructor)<;>rfl)|(apply WpA.cd;constructor)|((first|with_reducible refine WpA.go _ rfl fun Y y=>?_|apply RunTo.id);simp only [zb,seval,ap,hd1,hget,kcc,ah];refine fz y ?_;clear y Y))
      refine cz (him) ?_
      (refine WpL.go _ rfl fun Y y=>?_);repeat (first|(apply fw;(with_reducible constructor)<;>rfl)|(apply WpA.cd;constructor)|((first|with_reducible refine WpA.go _ rfl fun Y y=>?_|apply RunTo.id);simp only [zb,seval,ap,kcc,hc2,hc3];refine fz y ?_;clear y Y))
      refine cz (hw) ?_
      (refine WpL.go _ rfl fun Y y=>?_);repeat (first|(apply fw;(with_reducible constructor)<;>rfl)|(apply WpA.cd;constructor)|((first|with_reducible refine WpA.go _ rfl fun Y y=>?_|apply RunTo.id);simp only [zb,seval,ap,kcc,h0'];refine fz y ?_;clear y Y))
      refine⟨by simp,_,_,_,_,(by simp only [zb,seval,ap,kcc,rsA,hset];rfl),(by simp),(by simp only [zv,kcc,rsA,hset];rfl),(by simp [ksh]),_,(by simp only [rcc,rsA];exact ae),rfl⟩
   | some t =>
    obtain⟨v,x,y⟩:=t
    obtain⟨he,hxy⟩:=kH htr
    dsimp only at hxy
    have hv:=fj v
    have hbo:=af (max er (tE (l.take i))) (aM v).2 (by omega) (cF _)
    have hs:max (max er (tE (l.take i))) (aM v).2=max er (tE (l.take (i+1))):=by rw [htk];unfold tE;rw [pQ htr,List.map_append,List.map_cons,List.map_nil,gR,Nat.max_assoc]
    rw [hs] at hbo
    rw [show av d=(items d,0) from if_pos he] at him
    simp only at him
    have hall2:(l.take (i+1)).all (fun d=>(f5 d).isSome)=true:=by rw [htk,List.all_append,hall];simp [htr]
    obtain⟨S8,c8,hA8,hl8,hfr8,hpl8,hop8⟩:=gF (P:=Tryz.prog) (T:=22) (by_:=16) bi bk bo (by omega) (S:=S++[some ⟨28,6,[d.cc]⟩]) (hB.n.app _) (new:=[[.v (.string (aM v).1)]]) (by simp) (by rw [bg];simp;omega) (by rw [bg];simp;omega)
    have hI8:At 28 6 S8 cI ((tI (l.take i)).map D.cc):=hB.i.stay fun k hk _=>hfr8 k _ (bz hk) (hB.n.apart hk (by show (28:Nat)≠_;decide))
    have hS8:At 28 6 S8 cS ((tS (l.take i)).map D.cc):=hB.s.stay fun k hk _=>hfr8 k _ (bz hk) (hB.n.apart hk (by show (28:Nat)≠_;decide))
    have h08:=hfr8 0 _ (bz hB.box) (hB.n.apart hB.box (by show (31:Nat)≠_;decide))
    obtain⟨S9,c9,hA9,hl9,hfr9,hpl9,hop9⟩:=gF (P:=Tryz.prog) (T:=26) (by_:=88) aF aN aO (by omega) (S:=S8) hI8 (new:=[x.cc]) (by simp [kcc]) (by simp;omega) (by simp;omega)
    have hN9:At 9 1 S9 c8 _:=hA8.stay fun k hk _=>hfr9 k _ hk (hI8.apart hk (by show (9:Nat)≠_;decide))
    have hS9:At 28 6 S9 cS ((tS (l.take i)).map D.cc):=hS8.stay fun k hk e=>hfr9 k _ hk fun m e2=>hB.is k _ _ e2 e
    have h09:=hfr9 0 _ h08 (hI8.apart h08 (by show (31:Nat)≠_;decide))
    obtain⟨S10,c10,hA10,hl10,hfr10,hpl10,hop10⟩:=gF (P:=Tryz.prog) (T:=26) (by_:=88) aF aN aO (by omega) (S:=S9) hS9 (new:=[y.cc]) (by simp [kcc]) (by simp;omega) (by simp;omega)
    have hcIS:∀m,∀k q,c9=.ms k q→cS≠.ms k m:=fun m k q e e2=>by
     rcases hpl9 _ _ e with ⟨p,h⟩|h
     ·exact hB.is _ _ _ h e2
     ·have:=hB.s.lt e2;rw [List.length_append] at hl8;omega
    have hN10:At 9 1 S10 c8 _:=hN9.stay fun k hk _=>hfr10 k _ hk (hS9.apart hk (by show (9:Nat)≠_;decide))
    have hI10:At 28 6 S10 c9 _:=hA9.stay fun k hk e=>hfr10 k _ hk fun m=>hcIS m k _ e
    have h010:=hfr10 0 _ h09 (hS9.apart h09 (by show (31:Nat)≠_;decide))
    have hfin:LoS (l.take (i+1)) S10 c8 c9 c10:=by
     refine⟨?_,?_,?_,h010,fun k q m e e2=>?_⟩
     ·rw [htk];unfold tN;rw [pQ htr,List.map_append,List.map_cons,List.map_nil,eW];exact hN10
     ·rw [htk];unfold tI;rw [pQ htr,List.map_append,List.map_append];exact hI10
     ·rw [htk];unfold tS;rw [pQ htr,List.map_append,List.map_append];exact hA10
     ·rcases hpl10 _ _ e2 with ⟨p,h⟩|h
      ·exact hcIS _ _ _ e h
      ·have:=hA9.lt e
       omega
        
    rcases hxy with ⟨hxy,hyv⟩|hxy
    ·subst hyv
     rw [hxy] at him
     simp only [List.map_cons,List.map_nil] at him
     repeat (first|(apply fw;(with_reducible constructor)<;>rfl)|(apply WpA.cd;constructor)|((first|with_reducible refine WpA.go _ rfl fun Y y=>?_|apply RunTo.id);simp only [zb,seval,ap,hd1,hget,kcc,ah];refine fz y ?_;clear y Y))
     refine cz (him) ?_
     (refine WpL.go _ rfl fun Y y=>?_);repeat (first|(apply fw;(with_reducible constructor)<;>rfl)|(apply WpA.cd;constructor)|((first|with_reducible refine WpA.go _ rfl fun Y y=>?_|apply RunTo.id);simp only [zb,seval,ap,kcc];refine fz y ?_;clear y Y))
     refine cz (hv) ?_
     (refine WpL.go _ rfl fun Y y=>?_);repeat (first|(apply fw;(with_reducible constructor)<;>rfl)|(apply WpA.cd;constructor)|((first|with_reducible refine WpA.go _ rfl fun Y y=>?_|apply RunTo.id);simp only [zb,seval,ap,kcc];refine fz y ?_;clear y Y))
     refine cz (hbo) ?_
     (refine WpL.go _ rfl fun Y y=>?_);repeat (first|(apply fw;(with_reducible constructor)<;>rfl)|(apply WpA.cd;constructor)|((first|with_reducible refine WpA.go _ rfl fun Y y=>?_|apply RunTo.id);simp only [zb,seval,ap,kcc];refine fz y ?_;clear y Y))
     skip
     refine WpA.draw1 20 [3,9,19] [] [_,S8,S9,S10] _ _ _ _ rfl rfl rfl (by kernel_rfl) (by kernel_rfl) (by kernel_rfl) (by kernel_rfl) rfl rfl rfl rfl (by decide) fun K8 hK8=>?_
     simp only [zz] at hK8 ⊢
     (refine Draw1.go fun K7 k=>?_);simp only [zb,seval,ap,kcc];(refine qz (k _ _ (by rfl) ?_));clear k K7;(simp only [zz,Nat.reduceAdd,Nat.reduceSub]);(try ((refine nz (hK8 _ ?_));clear hK8 K8;(refine WpL.go _ rfl fun Y y=>?_);repeat (first|(apply fw;(with_reducible constructor)<;>rfl)|(apply WpA.cd;constructor)|((first|with_reducible refine WpA.go _ rfl fun Y y=>?_|apply RunTo.id);simp only [zb,seval,ap,kcc];refine fz y ?_;clear y Y))))
     refine Draw1.step (by rfl) (fun s9 _=>OpS.frozen (n:=1) (wd:=1) (ty:=9) (rows:=[[.v (.string (aM y).1)]]) (OpS.eff [(75,_)] rfl (by rfl) ⟨rfl,trivial⟩ (by simp only [zb,seval,ap,kcc];rfl) (by simp)) rfl (by simp [ksh])) ?_;simp only [bf]
     refine Draw1.eff 0 rfl rfl rfl (OpS.effO [(74,_),(76,_)] rfl (by rfl) ⟨rfl,rfl,trivial⟩ (hop8 _ _ _ _ _ rfl rfl) rfl) ?_
     simp only [bf]
     (refine Draw1.go fun K7 k=>?_);simp only [zb,seval,ap,kcc];(refine qz (k _ _ (by rfl) ?_));clear k K7;(simp only [zz,Nat.reduceAdd,Nat.reduceSub]);(try ((refine nz (hK8 _ ?_));clear hK8 K8;(refine WpL.go _ rfl fun Y y=>?_);repeat (first|(apply fw;(with_reducible constructor)<;>rfl)|(apply WpA.cd;constructor)|((first|with_reducible refine WpA.go _ rfl fun Y y=>?_|apply RunTo.id);simp only [zb,seval,ap,kcc];refine fz y ?_;clear y Y))))
     refine Draw1.step (by rfl) (fun s9 _=>OpS.frozen (n:=1) (wd:=6) (ty:=28) (rows:=[x.cc]) (OpS.eff [(81,_)] rfl (by rfl) ⟨rfl,trivial⟩ (by simp only [zb,seval,ap,kcc];rfl) (by simp)) rfl (by simp [ksh])) ?_;simp only [bf]
     refine Draw1.eff 1 rfl rfl rfl (OpS.effO [(78,_),(82,_)] rfl (by rfl) ⟨rfl,rfl,trivial⟩ (hop9 _ _ _ _ _ rfl rfl) rfl) ?_
     simp only [bf]
     (refine Draw1.go fun K7 k=>?_);simp only [zb,seval,ap,kcc,wr0,wr1,wr2,g00,g22];(refine qz (k _ _ (by rfl) ?_));clear k K7;(simp only [zz,Nat.reduceAdd,Nat.reduceSub]);(try ((refine nz (hK8 _ ?_));clear hK8 K8;(refine WpL.go _ rfl fun Y y=>?_);repeat (first|(apply fw;(with_reducible constructor)<;>rfl)|(apply WpA.cd;constructor)|((first|with_reducible refine WpA.go _ rfl fun Y y=>?_|apply RunTo.id);simp only [zb,seval,ap,kcc,wr0,wr1,wr2,g00,g22];refine fz y ?_;clear y Y))))
     refine Draw1.step (by rfl) (fun s9 _=>OpS.frozen (n:=1) (wd:=6) (ty:=28) (rows:=[y.cc]) (OpS.eff [(91,_)] rfl (by rfl) ⟨rfl,trivial⟩ (by simp only [zb,seval,ap,kcc];rfl) (by simp)) rfl (by simp [ksh])) ?_;simp only [bf]
     refine Draw1.eff 2 rfl rfl rfl (OpS.effO [(84,_),(92,_)] rfl (by rfl) ⟨rfl,rfl,trivial⟩ (hop10 _ _ _ _ _ rfl rfl) rfl) ?_
     simp only [bf]
     (refine Draw1.go fun K7 k=>?_);simp only [zb,seval,ap,kcc,hw2];(refine qz (k _ _ (by rfl) ?_));clear k K7;(simp only [zz,Nat.reduceAdd,Nat.reduceSub]);(try ((refine nz (hK8 _ ?_));clear hK8 K8;(refine WpL.go _ rfl fun Y y=>?_);repeat (first|(apply fw;(with_reducible constructor)<;>rfl)|(apply WpA.cd;constructor)|((first|with_reducible refine WpA.go _ rfl fun Y y=>?_|apply RunTo.id);simp only [zb,seval,ap,kcc,hw2];refine fz y ?_;clear y Y))))
     exact⟨l.length-(i+1),_,by omega,Le.sub (by simp [Sub,find]),i+1,S10,c8,c9,c10,rfl,hlt2,hall2,hfin,rfl⟩
    ·rw [hxy] at him
     simp only [List.map_cons,List.map_nil] at him
     repeat (first|(apply fw;(with_reducible constructor)<;>rfl)|(apply WpA.cd;constructor)|((first|with_reducible refine WpA.go _ rfl fun Y y=>?_|apply RunTo.id);simp only [zb,seval,ap,hd1,hget,kcc,ah];refine fz y ?_;clear y Y))
     refine cz (him) ?_
     (refine WpL.go _ rfl fun Y y=>?_);repeat (first|(apply fw;(with_reducible constructor)<;>rfl)|(apply WpA.cd;constructor)|((first|with_reducible refine WpA.go _ rfl fun Y y=>?_|apply RunTo.id);simp only [zb,seval,ap,kcc];refine fz y ?_;clear y Y))
     refine cz (hv) ?_
     (refine WpL.go _ rfl fun Y y=>?_);repeat (first|(apply fw;(with_reducible constructor)<;>rfl)|(apply WpA.cd;constructor)|((first|with_reducible refine WpA.go _ rfl fun Y y=>?_|apply RunTo.id);simp only [zb,seval,ap,kcc];refine fz y ?_;clear y Y))
     refine cz (hbo) ?_
     (refine WpL.go _ rfl fun Y y=>?_);repeat (first|(apply fw;(with_reducible constructor)<;>rfl)|(apply WpA.cd;constructor)|((first|with_reducible refine WpA.go _ rfl fun Y y=>?_|apply RunTo.id);simp only [zb,seval,ap,kcc];refine fz y ?_;clear y Y))
     skip
     refine WpA.draw1 20 [3,9,19] [] [_,S8,S9,S10] _ _ _ _ rfl rfl rfl (by kernel_rfl) (by kernel_rfl) (by kernel_rfl) (by kernel_rfl) rfl rfl rfl rfl (by decide) fun K8 hK8=>?_
     simp only [zz] at hK8 ⊢
     (refine Draw1.go fun K7 k=>?_);simp only [zb,seval,ap,kcc];(refine qz (k _ _ (by rfl) ?_));clear k K7;(simp only [zz,Nat.reduceAdd,Nat.reduceSub]);(try ((refine nz (hK8 _ ?_));clear hK8 K8;(refine WpL.go _ rfl fun Y y=>?_);repeat (first|(apply fw;(with_reducible constructor)<;>rfl)|(apply WpA.cd;constructor)|((first|with_reducible refine WpA.go _ rfl fun Y y=>?_|apply RunTo.id);simp only [zb,seval,ap,kcc];refine fz y ?_;clear y Y))))
     refine Draw1.step (by rfl) (fun s9 _=>OpS.frozen (n:=1) (wd:=1) (ty:=9) (rows:=[[.v (.string (aM v).1)]]) (OpS.eff [(75,_)] rfl (by rfl) ⟨rfl,trivial⟩ (by simp only [zb,seval,ap,kcc];rfl) (by simp)) rfl (by simp [ksh])) ?_;simp only [bf]
     refine Draw1.eff 0 rfl rfl rfl (OpS.effO [(74,_),(76,_)] rfl (by rfl) ⟨rfl,rfl,trivial⟩ (hop8 _ _ _ _ _ rfl rfl) rfl) ?_
     simp only [bf]
     (refine Draw1.go fun K7 k=>?_);simp only [zb,seval,ap,kcc];(refine qz (k _ _ (by rfl) ?_));clear k K7;(simp only [zz,Nat.reduceAdd,Nat.reduceSub]);(try ((refine nz (hK8 _ ?_));clear hK8 K8;(refine WpL.go _ rfl fun Y y=>?_);repeat (first|(apply fw;(with_reducible constructor)<;>rfl)|(apply WpA.cd;constructor)|((first|with_reducible refine WpA.go _ rfl fun Y y=>?_|apply RunTo.id);simp only [zb,seval,ap,kcc];refine fz y ?_;clear y Y))))
     refine Draw1.step (by rfl) (fun s9 _=>OpS.frozen (n:=1) (wd:=6) (ty:=28) (rows:=[x.cc]) (OpS.eff [(81,_)] rfl (by rfl) ⟨rfl,trivial⟩ (by simp only [zb,seval,ap,kcc];rfl) (by simp)) rfl (by simp [ksh])) ?_;simp only [bf]
     refine Draw1.eff 1 rfl rfl rfl (OpS.effO [(78,_),(82,_)] rfl (by rfl) ⟨rfl,rfl,trivial⟩ (hop9 _ _ _ _ _ rfl rfl) rfl) ?_
     simp only [bf]
     (refine Draw1.go fun K7 k=>?_);simp only [zb,seval,ap,kcc,wr0,wr1,wr2,g00,g22];(refine qz (k _ _ (by rfl) ?_));clear k K7;(simp only [zz,Nat.reduceAdd,Nat.reduceSub]);(try ((refine nz (hK8 _ ?_));clear hK8 K8;(refine WpL.go _ rfl fun Y y=>?_);repeat (first|(apply fw;(with_reducible constructor)<;>rfl)|(apply WpA.cd;constructor)|((first|with_reducible refine WpA.go _ rfl fun Y y=>?_|apply RunTo.id);simp only [zb,seval,ap,kcc,wr0,wr1,wr2,g00,g22];refine fz y ?_;clear y Y))))
     refine Draw1.step (by rfl) (fun s9 _=>OpS.frozen (n:=1) (wd:=6) (ty:=28) (rows:=[y.cc]) (OpS.eff [(91,_)] rfl (by rfl) ⟨rfl,trivial⟩ (by simp only [zb,seval,ap,kcc];rfl) (by simp)) rfl (by simp [ksh])) ?_;simp only [bf]
     refine Draw1.eff 2 rfl rfl rfl (OpS.effO [(84,_),(92,_)] rfl (by rfl) ⟨rfl,rfl,trivial⟩ (hop10 _ _ _ _ _ rfl rfl) rfl) ?_
     simp only [bf]
     (refine Draw1.go fun K7 k=>?_);simp only [zb,seval,ap,kcc,hw2];(refine qz (k _ _ (by rfl) ?_));clear k K7;(simp only [zz,Nat.reduceAdd,Nat.reduceSub]);(try ((refine nz (hK8 _ ?_));clear hK8 K8;(refine WpL.go _ rfl fun Y y=>?_);repeat (first|(apply fw;(with_reducible constructor)<;>rfl)|(apply WpA.cd;constructor)|((first|with_reducible refine WpA.go _ rfl fun Y y=>?_|apply RunTo.id);simp only [zb,seval,ap,kcc,hw2];refine fz y ?_;clear y Y))))
     exact⟨l.length-(i+1),_,by omega,Le.sub (by simp [Sub,find]),i+1,S10,c8,c9,c10,rfl,hlt2,hall2,hfin,rfl⟩
  ·have hd0:decide ((i:Int)<(l.length:Int))=false:=by simp;omega
   have hii:i=l.length:=by omega
   subst hii
   rw [List.take_length] at hall hB hte htl hnl hil hsl ⊢
   have hrn:(bp (tN l)).length=(tN l).length:=bg _
   have gI:=(lx gA).1.1
   have gS:=(lx gA).1.2
   have hIlen:=gI.len
   have hSlen:=gS.len
   rw [hall]
   simp only [if_true]
   repeat (first|(apply fw;(with_reducible constructor)<;>rfl)|(apply WpA.cd;constructor))
   ((with_reducible refine WpA.go _ rfl fun Y y=>?_);simp only [zb,seval,ap,hd0];(refine RunTo.fn y (by first|(simp;done)|omega|(simp;omega)) ?_);clear y Y);repeat (first|(apply fw;(with_reducible constructor)<;>rfl)|(apply WpA.cd;constructor))
   refine WpA.frzAt 8 hB.s.au (pK _) rfl fun S1 hl1 ho1=>?_
   have hN1:At 9 1 S1 cN _:=hB.n.stay fun k hk _=>ho1 k _ hk (hB.s.apart hk (by show (9:Nat)≠_;decide))
   have hI1:At 28 6 S1 cI _:=hB.i.stay fun k hk e=>ho1 k _ hk fun m=>hB.is k _ m e
   have h01:=ho1 0 _ hB.box (hB.s.apart hB.box (by show (31:Nat)≠_;decide))
   refine WpA.frzAt 7 hI1.au (pK _) rfl fun S2 hl2 ho2=>?_
   have hN2:At 9 1 S2 cN _:=hN1.stay fun k hk _=>ho2 k _ hk (hI1.apart hk (by show (9:Nat)≠_;decide))
   have h02:=ho2 0 _ h01 (hI1.apart h01 (by show (31:Nat)≠_;decide))
   refine WpA.frzAt 6 hN2.au (eR _) rfl fun S3 hl3 ho3=>?_
   have h03:=ho3 0 _ h02 (hN2.apart h02 (by show (31:Nat)≠_;decide))
   have hS3:=(List.getElem?_eq_some_iff.1 h03).1
   clear hB hN1 hI1 hN2 ho1 ho2 ho3 h01 h02
   have hun:=eV (tN l) (by omega)
   have wu:=fM (tN l)
   have o1:=af (max er (tE l)) IB.2 (by omega) wb
   have o2:=af (max (max er (tE l)) IB.2) (unl (tN l)) (by omega) wu
   have hset0:∀(a:Option Ob),(S3.set 0 a)[0]?=some a:=fun a=>List.getElem?_set_self hS3
   generalize hns:tN l=ns at *
   generalize hins:tI l=ins at *
   generalize hsts:tS l=sts at *
   generalize hE1:max (max (max er (tE l)) IB.2) (unl ns)=E1 at *
   have wE1:E1≤2:=by omega
   repeat (first|(apply fw;(with_reducible constructor)<;>rfl)|(apply WpA.cd;constructor)|((first|with_reducible refine WpA.go _ rfl fun Y y=>?_|apply RunTo.id);simp only [zb,seval,ap,kcc,g1];refine fz y ?_;clear y Y))
   refine cz (hib) ?_
   (refine WpL.go _ rfl fun Y y=>?_);repeat (first|(apply fw;(with_reducible constructor)<;>rfl)|(apply WpA.cd;constructor)|((first|with_reducible refine WpA.go _ rfl fun Y y=>?_|apply RunTo.id);simp only [zb,seval,ap,kcc];refine fz y ?_;clear y Y))
   refine cz (o1) ?_
   (refine WpL.go _ rfl fun Y y=>?_);repeat (first|(apply fw;(with_reducible constructor)<;>rfl)|(apply WpA.cd;constructor)|((first|with_reducible refine WpA.go _ rfl fun Y y=>?_|apply RunTo.id);simp only [zb,seval,ap,kcc];refine fz y ?_;clear y Y))
   refine cz (hun) ?_
   (refine WpL.go _ rfl fun Y y=>?_);repeat (first|(apply fw;(with_reducible constructor)<;>rfl)|(apply WpA.cd;constructor)|((first|with_reducible refine WpA.go _ rfl fun Y y=>?_|apply RunTo.id);simp only [zb,seval,ap,kcc];refine fz y ?_;clear y Y))
   refine cz (o2) ?_
   clear hia hib o1 o2 hun
   generalize IB.1=ends at *
   match ends,gB with
   | [],gB =>
    (refine WpL.go _ rfl fun Y y=>?_);repeat (first|(apply fw;(with_reducible constructor)<;>rfl)|(apply WpA.cd;constructor)|((first|with_reducible refine WpA.go _ rfl fun Y y=>?_|apply RunTo.id);simp only [zb,seval,ap,kcc];refine fz y ?_;clear y Y))
    refine cz (hw) ?_
    (refine WpL.go _ rfl fun Y y=>?_);repeat (first|(apply fw;(with_reducible constructor)<;>rfl)|(apply WpA.cd;constructor)|((first|with_reducible refine WpA.go _ rfl fun Y y=>?_|apply RunTo.id);simp only [zb,seval,ap,kcc,h03];refine fz y ?_;clear y Y))
    refine⟨by simp,_,_,_,_,(by simp only [zb,seval,ap,kcc,rsA,hset0];rfl),(by simp),(by simp only [zv,kcc,rsA,hset0];rfl),(by simp [ksh]),_,(by simp only [rcc,rsA,jL];exact ae),rfl⟩
   | e::es,gB =>
    obtain⟨q,hqr⟩:∃q,e::es=q:=⟨_,rfl⟩
    obtain⟨q0,qt,qd,ql,-⟩:=jc e es q hqr
    have hqz:((q.length:Int) == 0)=false:=by rw [ql];simp;omega
    have hq1:(1:Int)≤(q.length:Int):=by omega
    have hx:=hE.e e gB.head
    have we:=hE.e2 e
    have hno:=dM
    have hec:=eU hE sts gS
    have hei:=eU hE ins gI
    have hel:(aw ev.e sts).1.length=sts.length:=List.length_map ..
    have hel2:(aw ev.e ins).1.length=ins.length:=List.length_map ..
    have hrl:=iK b8
    have heb:(aw ev.e r).1.length=r.length:=List.length_map ..
    have hrlen:=hr.len
    have wB:=cA hE r
    have wS:=cA hE sts
    have wI:=cA hE ins
    have bt:=af E1 (ev.e e).2 wE1 we
    simp only [rsA] at hx
    simp only [rlA] at hec hei
        
    cases es with
    | nil =>
     have hg1:decide ((1:Int)<(q.length:Int))=false:=by rw [←hqr];rfl
     rw [uh,hqr]
     (refine WpL.go _ rfl fun Y y=>?_);repeat (first|(apply fw;(with_reducible constructor)<;>rfl)|(apply WpA.cd;constructor)|((first|with_reducible refine WpA.go _ rfl fun Y y=>?_|apply RunTo.id);simp only [zb,seval,ap,kcc,hqz,q0];refine fz y ?_;clear y Y))
     refine cz (hx) ?_
     (refine WpL.go _ rfl fun Y y=>?_);repeat (first|(apply fw;(with_reducible constructor)<;>rfl)|(apply WpA.cd;constructor)|((first|with_reducible refine WpA.go _ rfl fun Y y=>?_|apply RunTo.id);simp only [zb,seval,ap,kcc,ah];refine fz y ?_;clear y Y))
     refine cz (bt) ?_
     generalize hE2:max E1 (ev.e e).2=E2 at *
     have wE2:E2≤2:=by omega
     (refine WpL.go _ rfl fun Y y=>?_);repeat (first|(apply fw;(with_reducible constructor)<;>rfl)|(apply WpA.cd;constructor)|((first|with_reducible refine WpA.go _ rfl fun Y y=>?_|apply RunTo.id);simp only [zb,seval,ap,kcc,ah];refine fz y ?_;clear y Y))
     refine cz (hno) ?_
     generalize hLK:aZ=LK at *
     (refine WpL.go _ rfl fun Y y=>?_);repeat (first|(apply fw;(with_reducible constructor)<;>rfl)|(apply WpA.cd;constructor)|((first|with_reducible refine WpA.go _ rfl fun Y y=>?_|apply RunTo.id);simp only [zb,seval,ap,kcc,ah,hg1,gn,g22,gt,gdd];refine fz y ?_;clear y Y))
     refine WpL.frzP 16 S3.length rfl (by simp only [ah];rfl) (K.cc_shut _) ?_
     simp only [ah]
     refine WpL.frzP 17 (S3.length+1) rfl (by simp only [ah];rfl) (K.cc_shut _) ?_
     simp only [ah]
     refine WpL.handAll rfl (ab (P:=Tryz.prog) rfl) rfl rfl (by kernel_rfl) (ALes.refl _) (pP hE r hr _) ?_
     rintro _ S5 ⟨cB,rfl,hAB,hfrB,hlB,hkB⟩
     have h05:=hkB 0 _ (bz h03)
     have hcl:=dd (aP b8::(aw ev.e sts).1)
     have wA:=cY (aP b8::(aw ev.e sts).1)
     simp only [rsA,List.map_cons] at hcl
     unfold o0
     dsimp only
     generalize hBd:aw ev.e r=Bd at *
     generalize hSt:aw ev.e sts=St at *
     generalize hIn:aw ev.e ins=In at *
     generalize hAg:bC (aP b8::St.1)=Ag at *
     have hsq:=iO (Bd.1++[Ag.1])
     have hbr:=ce (ev.e e).1 LK (dA (Bd.1++[Ag.1]))
     have hlm:=eT ns ⟨#[]⟩ (ai (ev.e e).1 LK (dA (Bd.1++[Ag.1]))) (by omega)
     have hlme:cD ns e0 (ai (ev.e e).1 LK (dA (Bd.1++[Ag.1])))=cD ns ⟨#[]⟩ (ai (ev.e e).1 LK (dA (Bd.1++[Ag.1]))):=rfl
     have wF:=gg ns ⟨#[]⟩ (ai (ev.e e).1 LK (dA (Bd.1++[Ag.1])))
     rw [hlme]
     simp only [rsA] at hlm
     generalize cD ns ⟨#[]⟩ (ai (ev.e e).1 LK (dA (Bd.1++[Ag.1])))=F at *
     have hrc:=eh [b8] [F.1] (aP b8) (by simp) rfl
     have wX:=gx [b8] [F.1] (aP b8)
     simp only [rsA,List.map_cons,List.map_nil,bp] at hrc
     generalize fh [b8] [F.1] (aP b8)=X at *
     have hcl2:=dd (X.1::In.1)
     have wC:=cY (X.1::In.1)
     simp only [rsA,List.map_cons] at hcl2
     generalize bC (X.1::In.1)=C0 at *
     have b1:=af E2 Bd.2 (by omega) wB
     have b2:=af (max E2 Bd.2) St.2 (by omega) wS
     have b3:=af (max (max E2 Bd.2) St.2) Ag.2 (by omega) wA
     have b4:=af (max (max (max E2 Bd.2) St.2) Ag.2) F.2 (by omega) wF
     have b5:=af (max (max (max (max E2 Bd.2) St.2) Ag.2) F.2) X.2 (by omega) wX
     have b6:=af (max (max (max (max (max E2 Bd.2) St.2) Ag.2) F.2) X.2) In.2 (by omega) wI
     have b7:=af (max (max (max (max (max (max E2 Bd.2) St.2) Ag.2) F.2) X.2) In.2) C0.2 (by omega) wC
     (refine WpL.go _ rfl fun Y y=>?_);repeat (first|(apply fw;(with_reducible constructor)<;>rfl)|(apply WpA.cd;constructor)|((first|with_reducible refine WpA.go _ rfl fun Y y=>?_|apply RunTo.id);simp only [zb,seval,ap,kcc,ah];refine fz y ?_;clear y Y))
     refine cz (b1) ?_
     (refine WpL.go _ rfl fun Y y=>?_);repeat (first|(apply fw;(with_reducible constructor)<;>rfl)|(apply WpA.cd;constructor)|((first|with_reducible refine WpA.go _ rfl fun Y y=>?_|apply RunTo.id);simp only [zb,seval,ap,kcc,ah];refine fz y ?_;clear y Y))
     refine cz (hec) ?_
     (refine WpL.go _ rfl fun Y y=>?_);repeat (first|(apply fw;(with_reducible constructor)<;>rfl)|(apply WpA.cd;constructor)|((first|with_reducible refine WpA.go _ rfl fun Y y=>?_|apply RunTo.id);simp only [zb,seval,ap,kcc,ah];refine fz y ?_;clear y Y))
     refine cz (b2) ?_
     (refine WpL.go _ rfl fun Y y=>?_);repeat (first|(apply fw;(with_reducible constructor)<;>rfl)|(apply WpA.cd;constructor)|((first|with_reducible refine WpA.go _ rfl fun Y y=>?_|apply RunTo.id);simp only [zb,seval,ap,kcc,ah,hel];refine fz y ?_;clear y Y))
     refine cz (hrl) ?_
     (refine WpL.go _ rfl fun Y y=>?_);repeat (first|(apply fw;(with_reducible constructor)<;>rfl)|(apply WpA.cd;constructor)|((first|with_reducible refine WpA.go _ rfl fun Y y=>?_|apply RunTo.id);simp only [zb,seval,ap,kcc,ah,hel];refine fz y ?_;clear y Y))
     (refine WpL.frz 158 (S5.length) (by rfl) (by first|rfl|(simp only [zz,ah,hel];rfl)|(simp only [zz,ah,hel])) (by first|rfl|(simp [ah,hel];done)|(simp [ah,hel];omega)) (by simp [ksh]) ?_);simp only [zz,ah,hel]
     refine cz (hcl) ?_
     (refine WpL.go _ rfl fun Y y=>?_);repeat (first|(apply fw;(with_reducible constructor)<;>rfl)|(apply WpA.cd;constructor)|((first|with_reducible refine WpA.go _ rfl fun Y y=>?_|apply RunTo.id);simp only [zb,seval,ap,kcc,ah];refine fz y ?_;clear y Y))
     refine cz (b3) ?_
     (refine WpL.go _ rfl fun Y y=>?_);repeat (first|(apply fw;(with_reducible constructor)<;>rfl)|(apply WpA.cd;constructor)|((first|with_reducible refine WpA.go _ rfl fun Y y=>?_|apply RunTo.id);simp only [zb,seval,ap,kcc,ah];refine fz y ?_;clear y Y))
     refine WpA.frzP 20 (S5.length+1) rfl (by simp only [ah];rfl) (K.cc_shut _) ?_
     simp only [ah]
     have h0T:(S5++[none,none])[0]?=_:=bz (T:=[none,none]) h05
     have hB0:∀m,cB≠.ms 0 m:=fun m e=>by have:=hfrB _ _ e;rw [List.length_append] at this;omega
     have hAT:At 31 11 (S5++[none,none]) cB (Bd.1.map K.cc):=hAB.app _
     generalize (S5++[none,none]:List (Option Ob))=T at *
     obtain⟨T6,hl6,hk6,hop6⟩:=OpS.appFrz (P:=Tryz.prog) (T:=29) (by_:=176) aW aX aY (by omega) hAT.au (new:=[Ag.1.cc]) (by simp [kcc]) (by simp) (jH _) (by simp [ksh]) (by simp [heb];omega) (by simp [heb];omega)
     have h06:=hk6 0 _ h0T hB0
     have hT6:=(List.getElem?_eq_some_iff.1 h06).1
     have h06':∀X,(T6++X)[0]?=_:=fun X=>bz h06
     have hset6:∀(X:List (Option Ob)) (a:Option Ob),((T6++X).set 0 a)[0]?=some a:=fun X a=>List.getElem?_set_self (by simp;omega)
     rw [show Bd.1.map K.cc++[Ag.1.cc]=(Bd.1++[Ag.1]).map K.cc by simp] at hop6
     have hle:∀s∈[T,T6,T++[some ⟨31,11,[[.v (.int .i64 0),.v (.string ⟨#[]⟩),.v (.string ⟨#[]⟩),.v (.slice none 0 0),.v (.int .i64 0),.v (.int .i32 0),.v (.bool false),.v (.slice none 0 0),.v (.string ⟨#[]⟩),.v (.slice none 0 0),.v (.slice none 0 0)]]⟩],T6++[some ⟨31,11,[[.v (.int .i64 0),.v (.string ⟨#[]⟩),.v (.string ⟨#[]⟩),.v (.slice none 0 0),.v (.int .i64 0),.v (.int .i32 0),.v (.bool false),.v (.slice none 0 0),.v (.string ⟨#[]⟩),.v (.slice none 0 0),.v (.slice none 0 0)]]⟩],T6++[some ⟨31,11,[F.1.cc]⟩]],LeS [] s:=fun s _=>LeS.of (SLe.nil s)
     skip
     skip
     refine WpA.draw2 15 [6,13,14] [] [[],[6],[13],[6,13],[6,13,14]] [T,T6,T++[some ⟨31,11,[[.v (.int .i64 0),.v (.string ⟨#[]⟩),.v (.string ⟨#[]⟩),.v (.slice none 0 0),.v (.int .i64 0),.v (.int .i32 0),.v (.bool false),.v (.slice none 0 0),.v (.string ⟨#[]⟩),.v (.slice none 0 0),.v (.slice none 0 0)]]⟩],T6++[some ⟨31,11,[[.v (.int .i64 0),.v (.string ⟨#[]⟩),.v (.string ⟨#[]⟩),.v (.slice none 0 0),.v (.int .i64 0),.v (.int .i32 0),.v (.bool false),.v (.slice none 0 0),.v (.string ⟨#[]⟩),.v (.slice none 0 0),.v (.slice none 0 0)]]⟩],T6++[some ⟨31,11,[F.1.cc]⟩]] 4 _ _ _ _ rfl rfl rfl (by kernel_rfl) (by kernel_rfl) (by kernel_rfl) (by kernel_rfl) rfl rfl rfl (by decide) fun K8 hK8=>?_
     simp only [zz] at hK8 ⊢
     (refine Draw2.go fun K7 hK7=>?_);simp only [zb,seval,ap,kcc];(refine RunQ.mk (by first|(simp;done)|omega|(simp;omega)) (hK7 _ _ (by rfl) ?_));clear hK7 K7;(simp only [zz,Nat.reduceAdd,Nat.reduceSub]);(try ((refine Draw2.nil (fd (hle)) (hK8 _ ?_));clear hK8 K8;(refine WpL.go _ rfl fun Y y=>?_);repeat (first|(apply fw;(with_reducible constructor)<;>rfl)|(apply WpA.cd;constructor)|((first|with_reducible refine WpA.go _ rfl fun Y y=>?_|apply RunTo.id);simp only [zb,seval,ap,kcc];refine fz y ?_;clear y Y))))
     refine Draw2.step (by rfl) (fun s9 _=>OpS.frozen (n:=1) (wd:=11) (ty:=31) (rows:=[Ag.1.cc]) (OpS.eff [(170,_)] rfl (by rfl) ⟨rfl,trivial⟩ (by simp only [zb,seval,ap,kcc];rfl) (by simp)) rfl (by simp [ksh])) ?_;simp only [bf]
     refine Draw2.eff (x:=.one (.sl 11 ((Bd.1++[Ag.1]).map K.cc))) [(0,1),(2,3)] rfl rfl (by kernel_rfl) (fun t ht s s' h1 h2=>?_) ?_
     ·simp only [List.mem_cons,List.not_mem_nil,or_false] at ht
      rcases ht with rfl|rfl<;>(cases h1;cases h2)
      ·have:=fun {nt ds d ty pos aft g e t1 t2}=>hop6 [] (nt:=nt) (ds:=ds) (d:=d) (ty:=ty) (pos:=pos) (aft:=aft) (g:=g) (e:=e) (t1:=t1) (t2:=t2)
       simp only [List.append_nil] at this
       exact this rfl (by rfl) rfl rfl (by decide)
      ·exact hop6 _ rfl (by rfl) rfl rfl (by decide)
     simp only [bf]
     (refine Draw2.go fun K7 hK7=>?_);simp only [zb,seval,ap,kcc];(refine RunQ.mk (by first|(simp;done)|omega|(simp;omega)) (hK7 _ _ (by rfl) ?_));clear hK7 K7;(simp only [zz,Nat.reduceAdd,Nat.reduceSub]);(try ((refine Draw2.nil (fd (hle)) (hK8 _ ?_));clear hK8 K8;(refine WpL.go _ rfl fun Y y=>?_);repeat (first|(apply fw;(with_reducible constructor)<;>rfl)|(apply WpA.cd;constructor)|((first|with_reducible refine WpA.go _ rfl fun Y y=>?_|apply RunTo.id);simp only [zb,seval,ap,kcc];refine fz y ?_;clear y Y))))
     refine Draw2.step (by rfl) (fun s9 _=>oz (hsq)) ?_
     (refine Draw2.go fun K7 hK7=>?_);simp only [zb,seval,ap,kcc];(refine RunQ.mk (by first|(simp;done)|omega|(simp;omega)) (hK7 _ _ (by rfl) ?_));clear hK7 K7;(simp only [zz,Nat.reduceAdd,Nat.reduceSub]);(try ((refine Draw2.nil (fd (hle)) (hK8 _ ?_));clear hK8 K8;(refine WpL.go _ rfl fun Y y=>?_);repeat (first|(apply fw;(with_reducible constructor)<;>rfl)|(apply WpA.cd;constructor)|((first|with_reducible refine WpA.go _ rfl fun Y y=>?_|apply RunTo.id);simp only [zb,seval,ap,kcc];refine fz y ?_;clear y Y))))
     refine Draw2.step (by rfl) (fun s9 _=>oz (hbr)) ?_
     (refine Draw2.go fun K7 hK7=>?_);simp only [zb,seval,ap,kcc];(refine RunQ.mk (by first|(simp;done)|omega|(simp;omega)) (hK7 _ _ (by rfl) ?_));clear hK7 K7;(simp only [zz,Nat.reduceAdd,Nat.reduceSub]);(try ((refine Draw2.nil (fd (hle)) (hK8 _ ?_));clear hK8 K8;(refine WpL.go _ rfl fun Y y=>?_);repeat (first|(apply fw;(with_reducible constructor)<;>rfl)|(apply WpA.cd;constructor)|((first|with_reducible refine WpA.go _ rfl fun Y y=>?_|apply RunTo.id);simp only [zb,seval,ap,kcc];refine fz y ?_;clear y Y))))
     refine Draw2.step (by rfl) (fun s9 _=>oz (hlm)) ?_
     (refine Draw2.go fun K7 hK7=>?_);simp only [zb,seval,ap,kcc];(refine RunQ.mk (by first|(simp;done)|omega|(simp;omega)) (hK7 _ _ (by rfl) ?_));clear hK7 K7;(simp only [zz,Nat.reduceAdd,Nat.reduceSub]);(try ((refine Draw2.nil (fd (hle)) (hK8 _ ?_));clear hK8 K8;(refine WpL.go _ rfl fun Y y=>?_);repeat (first|(apply fw;(with_reducible constructor)<;>rfl)|(apply WpA.cd;constructor)|((first|with_reducible refine WpA.go _ rfl fun Y y=>?_|apply RunTo.id);simp only [zb,seval,ap,kcc];refine fz y ?_;clear y Y))))
     refine Draw2.eff (x:=.one (.ptr T6.length 1 0 0)) [(0,2),(1,3)] rfl rfl (by kernel_rfl) (fun t ht s s' h1 h2=>?_) ?_
     ·simp only [List.mem_cons,List.not_mem_nil,or_false] at ht
      rcases ht with rfl|rfl<;>(cases h1;cases h2)
      ·rw [hl6];exact OpS.eff [] rfl (by rfl) trivial (by first|(simp only [zb,seval,ap];done)|(simp only [zb,seval,ap];rfl)) trivial
      ·exact OpS.eff [] rfl (by rfl) trivial (by first|(simp only [zb,seval,ap];done)|(simp only [zb,seval,ap];rfl)) trivial
     simp only [bf]
     (refine Draw2.go fun K7 hK7=>?_);simp only [zb,seval,ap,kcc];(refine RunQ.mk (by first|(simp;done)|omega|(simp;omega)) (hK7 _ _ (by rfl) ?_));clear hK7 K7;(simp only [zz,Nat.reduceAdd,Nat.reduceSub]);(try ((refine Draw2.nil (fd (hle)) (hK8 _ ?_));clear hK8 K8;(refine WpL.go _ rfl fun Y y=>?_);repeat (first|(apply fw;(with_reducible constructor)<;>rfl)|(apply WpA.cd;constructor)|((first|with_reducible refine WpA.go _ rfl fun Y y=>?_|apply RunTo.id);simp only [zb,seval,ap,kcc];refine fz y ?_;clear y Y))))
     refine Draw2.eff (x:=.any) [(3,4)] rfl rfl (by kernel_rfl) (fun t ht s s' h1 h2=>?_) ?_
     ·simp only [List.mem_cons,List.not_mem_nil,or_false] at ht
      subst ht
      cases h1;cases h2
      exact OpS.eff [(21,_),(176,_)] rfl (by rfl) ⟨rfl,rfl,trivial⟩ (by simp only [zb,seval,ap,kcc,ah];rfl) (by simp [kcc])
     simp only [bf]
     (refine Draw2.go fun K7 hK7=>?_);simp only [zb,seval,ap,kcc,ah];(refine RunQ.mk (by first|(simp;done)|omega|(simp;omega)) (hK7 _ _ (by rfl) ?_));clear hK7 K7;(simp only [zz,Nat.reduceAdd,Nat.reduceSub]);(try ((refine Draw2.nil (fd (hle)) (hK8 _ ?_));clear hK8 K8;(refine WpL.go _ rfl fun Y y=>?_);repeat (first|(apply fw;(with_reducible constructor)<;>rfl)|(apply WpA.cd;constructor)|((first|with_reducible refine WpA.go _ rfl fun Y y=>?_|apply RunTo.id);simp only [zb,seval,ap,kcc,ah];refine fz y ?_;clear y Y))))
     skip
     skip
     refine cz (b4) ?_
     (refine WpL.go _ rfl fun Y y=>?_);repeat (first|(apply fw;(with_reducible constructor)<;>rfl)|(apply WpA.cd;constructor)|((first|with_reducible refine WpA.go _ rfl fun Y y=>?_|apply RunTo.id);simp only [zb,seval,ap,kcc,ah];refine fz y ?_;clear y Y))
     refine WpA.frzP 21 T6.length rfl (by simp only [ah];rfl) (K.cc_shut _) ?_
     simp only [ah]
     have h07:=h06' [none]
     generalize (T6++[none]:List (Option Ob))=T7 at *
     have hT7:=(List.getElem?_eq_some_iff.1 h07).1
     have h07':∀X,(T7++X)[0]?=_:=fun X=>bz h07
     have hset7:∀(X:List (Option Ob)) (a:Option Ob),((T7++X).set 0 a)[0]?=some a:=fun X a=>List.getElem?_set_self (by simp;omega)
     (refine WpA.draw1c 10 [8,9] [_,?_,?_] _ _ _ _ rfl rfl rfl (by kernel_rfl) (by kernel_rfl) (by kernel_rfl) (by kernel_rfl) rfl rfl rfl rfl (by decide) fun K8 hK8=>?_);rotate_left 2;simp only [zz] at hK8 ⊢;(refine Draw1.go fun K7 k=>?_);simp only [zb,seval,ap,kcc,ah];(refine qz (k _ _ (by rfl) ?_));clear k K7;(simp only [zz,Nat.reduceAdd,Nat.reduceSub]);(try ((refine nz (hK8 _ ?_));clear hK8 K8;(refine WpL.go _ rfl fun Y y=>?_);repeat (first|(apply fw;(with_reducible constructor)<;>rfl)|(apply WpA.cd;constructor)|((first|with_reducible refine WpA.go _ rfl fun Y y=>?_|apply RunTo.id);simp only [zb,seval,ap,kcc,ah];refine fz y ?_;clear y Y))))
     refine Draw1.step (by rfl) (fun s9 _=>OpS.frozen (n:=1) (wd:=1) (ty:=9) (rows:=[[.v (.string b8)]]) (OpS.eff [] rfl (by rfl) trivial (by simp only [zb,seval,ap,kcc];rfl) (by simp)) rfl (by simp [ksh])) ?_;simp only [bf]
     (refine Draw1.go fun K7 k=>?_);simp only [zb,seval,ap,kcc,ah];(refine qz (k _ _ (by rfl) ?_));clear k K7;(simp only [zz,Nat.reduceAdd,Nat.reduceSub]);(try ((refine nz (hK8 _ ?_));clear hK8 K8;(refine WpL.go _ rfl fun Y y=>?_);repeat (first|(apply fw;(with_reducible constructor)<;>rfl)|(apply WpA.cd;constructor)|((first|with_reducible refine WpA.go _ rfl fun Y y=>?_|apply RunTo.id);simp only [zb,seval,ap,kcc,ah];refine fz y ?_;clear y Y))))
     refine Draw1.step (by rfl) (fun s9 _=>OpS.frozen (n:=1) (wd:=11) (ty:=31) (rows:=[F.1.cc]) (OpS.eff [(183,_)] rfl (by rfl) ⟨rfl,trivial⟩ (by simp only [zb,seval,ap,kcc];rfl) (by simp)) rfl (by simp [ksh])) ?_;simp only [bf]
     refine Draw1.step (by rfl) (fun s9 _=>oz (hrl)) ?_
     (refine Draw1.go fun K7 k=>?_);simp only [zb,seval,ap,kcc,ah];(refine qz (k _ _ (by rfl) ?_));clear k K7;(simp only [zz,Nat.reduceAdd,Nat.reduceSub]);(try ((refine nz (hK8 _ ?_));clear hK8 K8;(refine WpL.go _ rfl fun Y y=>?_);repeat (first|(apply fw;(with_reducible constructor)<;>rfl)|(apply WpA.cd;constructor)|((first|with_reducible refine WpA.go _ rfl fun Y y=>?_|apply RunTo.id);simp only [zb,seval,ap,kcc,ah];refine fz y ?_;clear y Y))))
     refine Draw1.step (by rfl) (fun s9 _=>oz (hrc)) ?_
     (refine Draw1.go fun K7 k=>?_);simp only [zb,seval,ap,kcc,ah];(refine qz (k _ _ (by rfl) ?_));clear k K7;(simp only [zz,Nat.reduceAdd,Nat.reduceSub]);(try ((refine nz (hK8 _ ?_));clear hK8 K8;(refine WpL.go _ rfl fun Y y=>?_);repeat (first|(apply fw;(with_reducible constructor)<;>rfl)|(apply WpA.cd;constructor)|((first|with_reducible refine WpA.go _ rfl fun Y y=>?_|apply RunTo.id);simp only [zb,seval,ap,kcc,ah];refine fz y ?_;clear y Y))))
     refine Draw1.eff 0 rfl rfl rfl (OpS.eff [] rfl (by rfl) trivial (by simp only [zb,seval,ap,kcc,ah];rfl) (by first|(simp;done)|omega|(simp;omega))) ?_;(try simp only [bf]);(try ((refine Draw1.go fun K7 k=>?_);simp only [zb,seval,ap,kcc,ah];(refine qz (k _ _ (by rfl) ?_));clear k K7;(simp only [zz,Nat.reduceAdd,Nat.reduceSub]);(try ((refine nz (hK8 _ ?_));clear hK8 K8;(refine WpL.go _ rfl fun Y y=>?_);repeat (first|(apply fw;(with_reducible constructor)<;>rfl)|(apply WpA.cd;constructor)|((first|with_reducible refine WpA.go _ rfl fun Y y=>?_|apply RunTo.id);simp only [zb,seval,ap,kcc,ah];refine fz y ?_;clear y Y))))))
     refine Draw1.eff 1 rfl rfl rfl (OpS.eff [(22,_),(187,_)] rfl (by rfl) ⟨rfl,rfl,trivial⟩ (by simp only [zb,seval,ap,kcc,ah];rfl) (by first|(simp;done)|omega|(simp;omega))) ?_;(try simp only [bf]);(try ((refine Draw1.go fun K7 k=>?_);simp only [zb,seval,ap,kcc,ah];(refine qz (k _ _ (by rfl) ?_));clear k K7;(simp only [zz,Nat.reduceAdd,Nat.reduceSub]);(try ((refine nz (hK8 _ ?_));clear hK8 K8;(refine WpL.go _ rfl fun Y y=>?_);repeat (first|(apply fw;(with_reducible constructor)<;>rfl)|(apply WpA.cd;constructor)|((first|with_reducible refine WpA.go _ rfl fun Y y=>?_|apply RunTo.id);simp only [zb,seval,ap,kcc,ah];refine fz y ?_;clear y Y))))))
     refine cz (b5) ?_
     (refine WpL.go _ rfl fun Y y=>?_);repeat (first|(apply fw;(with_reducible constructor)<;>rfl)|(apply WpA.cd;constructor)|((first|with_reducible refine WpA.go _ rfl fun Y y=>?_|apply RunTo.id);simp only [zb,seval,ap,kcc,ah];refine fz y ?_;clear y Y))
     refine cz (hei) ?_
     (refine WpL.go _ rfl fun Y y=>?_);repeat (first|(apply fw;(with_reducible constructor)<;>rfl)|(apply WpA.cd;constructor)|((first|with_reducible refine WpA.go _ rfl fun Y y=>?_|apply RunTo.id);simp only [zb,seval,ap,kcc,ah];refine fz y ?_;clear y Y))
     refine cz (b6) ?_
     (refine WpL.go _ rfl fun Y y=>?_);repeat (first|(apply fw;(with_reducible constructor)<;>rfl)|(apply WpA.cd;constructor)|((first|with_reducible refine WpA.go _ rfl fun Y y=>?_|apply RunTo.id);simp only [zb,seval,ap,kcc,ah,hel2];refine fz y ?_;clear y Y))
     (refine WpL.frz 204 (T7.length+1) (by rfl) (by first|rfl|(simp only [zz,ah,hel2];rfl)|(simp only [zz,ah,hel2])) (by first|rfl|(simp [ah,hel2];done)|(simp [ah,hel2];omega)) (by simp [ksh]) ?_);simp only [zz,ah,hel2]
     refine cz (hcl2) ?_
     (refine WpL.go _ rfl fun Y y=>?_);repeat (first|(apply fw;(with_reducible constructor)<;>rfl)|(apply WpA.cd;constructor)|((first|with_reducible refine WpA.go _ rfl fun Y y=>?_|apply RunTo.id);simp only [zb,seval,ap,kcc,ah];refine fz y ?_;clear y Y))
     (refine WpA.draw0 4 _ _ _ rfl rfl rfl (by kernel_rfl) (by kernel_rfl) (by kernel_rfl) fun K8 hK8=>?_);simp only [zz] at hK8 ⊢;(refine Draw0.go fun K7 k=>?_);simp only [zb,seval,ap,kcc,ah];(refine qz (k _ _ ?_));clear k K7;(try ((refine Draw0.nil (hK8 _ ?_));clear hK8 K8;(refine WpL.go _ rfl fun Y y=>?_);repeat (first|(apply fw;(with_reducible constructor)<;>rfl)|(apply WpA.cd;constructor)|((first|with_reducible refine WpA.go _ rfl fun Y y=>?_|apply RunTo.id);simp only [zb,seval,ap,kcc,ah];refine fz y ?_;clear y Y))))
     refine Draw0.step (oz (b7)) ?_
     (refine Draw0.go fun K7 k=>?_);simp only [zb,seval,ap,kcc,ah,h07'];(refine qz (k _ _ ?_));clear k K7;(try ((refine Draw0.nil (hK8 _ ?_));clear hK8 K8;(refine WpL.go _ rfl fun Y y=>?_);repeat (first|(apply fw;(with_reducible constructor)<;>rfl)|(apply WpA.cd;constructor)|((first|with_reducible refine WpA.go _ rfl fun Y y=>?_|apply RunTo.id);simp only [zb,seval,ap,kcc,ah,h07'];refine fz y ?_;clear y Y))))
     refine ye (by simp only [zb,seval,ap,kcc,hset7];rfl) (by simp only [zv,kcc,hset7];rfl) ?_
     rfl
    | cons f fs =>
     have hg1:decide ((1:Int)<(q.length:Int))=true:=by rw [←hqr];simp;omega
     have hsq0:=dx hE (f::fs) gB.tail
     have wsq:=fk hE (f::fs)
     have bs:=af (max E1 (ev.e e).2) (cH ev.e (f::fs)).2 (by omega) wsq
     simp only [rsA] at hsq0
     rw [sk,hqr]
     (refine WpL.go _ rfl fun Y y=>?_);repeat (first|(apply fw;(with_reducible constructor)<;>rfl)|(apply WpA.cd;constructor)|((first|with_reducible refine WpA.go _ rfl fun Y y=>?_|apply RunTo.id);simp only [zb,seval,ap,kcc,hqz,q0];refine fz y ?_;clear y Y))
     refine cz (hx) ?_
     (refine WpL.go _ rfl fun Y y=>?_);repeat (first|(apply fw;(with_reducible constructor)<;>rfl)|(apply WpA.cd;constructor)|((first|with_reducible refine WpA.go _ rfl fun Y y=>?_|apply RunTo.id);simp only [zb,seval,ap,kcc,ah];refine fz y ?_;clear y Y))
     refine cz (bt) ?_
     (refine WpL.go _ rfl fun Y y=>?_);repeat (first|(apply fw;(with_reducible constructor)<;>rfl)|(apply WpA.cd;constructor)|((first|with_reducible refine WpA.go _ rfl fun Y y=>?_|apply RunTo.id);simp only [zb,seval,ap,kcc,ah];refine fz y ?_;clear y Y))
     refine cz (hno) ?_
     (refine WpL.go _ rfl fun Y y=>?_);repeat (first|(apply fw;(with_reducible constructor)<;>rfl)|(apply WpA.cd;constructor)|((first|with_reducible refine WpA.go _ rfl fun Y y=>?_|apply RunTo.id);simp only [zb,seval,ap,kcc,ah,hg1,gn,g11,qt,qd];refine fz y ?_;clear y Y))
     refine cz (hsq0) ?_
     (refine WpL.go _ rfl fun Y y=>?_);repeat (first|(apply fw;(with_reducible constructor)<;>rfl)|(apply WpA.cd;constructor)|((first|with_reducible refine WpA.go _ rfl fun Y y=>?_|apply RunTo.id);simp only [zb,seval,ap,kcc,ah];refine fz y ?_;clear y Y))
     refine cz (bs) ?_
     generalize hE2:max (max E1 (ev.e e).2) (cH ev.e (f::fs)).2=E2 at *
     have wE2:E2≤2:=by omega
     generalize hLK:(cH ev.e (f::fs)).1=LK at *
     (refine WpL.go _ rfl fun Y y=>?_);repeat (first|(apply fw;(with_reducible constructor)<;>rfl)|(apply WpA.cd;constructor)|((first|with_reducible refine WpA.go _ rfl fun Y y=>?_|apply RunTo.id);simp only [zb,seval,ap,kcc,ah,gn,g22,gt,gdd];refine fz y ?_;clear y Y))
     refine WpL.frzP 16 S3.length rfl (by simp only [ah];rfl) (K.cc_shut _) ?_
     simp only [ah]
     refine WpL.frzP 17 (S3.length+1) rfl (by simp only [ah];rfl) (K.cc_shut _) ?_
     simp only [ah]
     refine WpL.handAll rfl (ab (P:=Tryz.prog) rfl) rfl rfl (by kernel_rfl) (ALes.refl _) (pP hE r hr _) ?_
     rintro _ S5 ⟨cB,rfl,hAB,hfrB,hlB,hkB⟩
     have h05:=hkB 0 _ (bz h03)
     have hcl:=dd (aP b8::(aw ev.e sts).1)
     have wA:=cY (aP b8::(aw ev.e sts).1)
     simp only [rsA,List.map_cons] at hcl
     unfold o0
     dsimp only
     generalize hBd:aw ev.e r=Bd at *
     generalize hSt:aw ev.e sts=St at *
     generalize hIn:aw ev.e ins=In at *
     generalize hAg:bC (aP b8::St.1)=Ag at *
     have hsq:=iO (Bd.1++[Ag.1])
     have hbr:=ce (ev.e e).1 LK (dA (Bd.1++[Ag.1]))
     have hlm:=eT ns ⟨#[]⟩ (ai (ev.e e).1 LK (dA (Bd.1++[Ag.1]))) (by omega)
     have hlme:cD ns e0 (ai (ev.e e).1 LK (dA (Bd.1++[Ag.1])))=cD ns ⟨#[]⟩ (ai (ev.e e).1 LK (dA (Bd.1++[Ag.1]))):=rfl
     have wF:=gg ns ⟨#[]⟩ (ai (ev.e e).1 LK (dA (Bd.1++[Ag.1])))
     rw [hlme]
     simp only [rsA] at hlm
     generalize cD ns ⟨#[]⟩ (ai (ev.e e).1 LK (dA (Bd.1++[Ag.1])))=F at *
     have hrc:=eh [b8] [F.1] (aP b8) (by simp) rfl
     have wX:=gx [b8] [F.1] (aP b8)
     simp only [rsA,List.map_cons,List.map_nil,bp] at hrc
     generalize fh [b8] [F.1] (aP b8)=X at *
     have hcl2:=dd (X.1::In.1)
     have wC:=cY (X.1::In.1)
     simp only [rsA,List.map_cons] at hcl2
     generalize bC (X.1::In.1)=C0 at *
     have b1:=af E2 Bd.2 (by omega) wB
     have b2:=af (max E2 Bd.2) St.2 (by omega) wS
     have b3:=af (max (max E2 Bd.2) St.2) Ag.2 (by omega) wA
     have b4:=af (max (max (max E2 Bd.2) St.2) Ag.2) F.2 (by omega) wF
     have b5:=af (max (max (max (max E2 Bd.2) St.2) Ag.2) F.2) X.2 (by omega) wX
     have b6:=af (max (max (max (max (max E2 Bd.2) St.2) Ag.2) F.2) X.2) In.2 (by omega) wI
     have b7:=af (max (max (max (max (max (max E2 Bd.2) St.2) Ag.2) F.2) X.2) In.2) C0.2 (by omega) wC
     (refine WpL.go _ rfl fun Y y=>?_);repeat (first|(apply fw;(with_reducible constructor)<;>rfl)|(apply WpA.cd;constructor)|((first|with_reducible refine WpA.go _ rfl fun Y y=>?_|apply RunTo.id);simp only [zb,seval,ap,kcc,ah];refine fz y ?_;clear y Y))
     refine cz (b1) ?_
     (refine WpL.go _ rfl fun Y y=>?_);repeat (first|(apply fw;(with_reducible constructor)<;>rfl)|(apply WpA.cd;constructor)|((first|with_reducible refine WpA.go _ rfl fun Y y=>?_|apply RunTo.id);simp only [zb,seval,ap,kcc,ah];refine fz y ?_;clear y Y))
     refine cz (hec) ?_
     (refine WpL.go _ rfl fun Y y=>?_);repeat (first|(apply fw;(with_reducible constructor)<;>rfl)|(apply WpA.cd;constructor)|((first|with_reducible refine WpA.go _ rfl fun Y y=>?_|apply RunTo.id);simp only [zb,seval,ap,kcc,ah];refine fz y ?_;clear y Y))
     refine cz (b2) ?_
     (refine WpL.go _ rfl fun Y y=>?_);repeat (first|(apply fw;(with_reducible constructor)<;>rfl)|(apply WpA.cd;constructor)|((first|with_reducible refine WpA.go _ rfl fun Y y=>?_|apply RunTo.id);simp only [zb,seval,ap,kcc,ah,hel];refine fz y ?_;clear y Y))
     refine cz (hrl) ?_
     (refine WpL.go _ rfl fun Y y=>?_);repeat (first|(apply fw;(with_reducible constructor)<;>rfl)|(apply WpA.cd;constructor)|((first|with_reducible refine WpA.go _ rfl fun Y y=>?_|apply RunTo.id);simp only [zb,seval,ap,kcc,ah,hel];refine fz y ?_;clear y Y))
     (refine WpL.frz 158 (S5.length) (by rfl) (by first|rfl|(simp only [zz,ah,hel];rfl)|(simp only [zz,ah,hel])) (by first|rfl|(simp [ah,hel];done)|(simp [ah,hel];omega)) (by simp [ksh]) ?_);simp only [zz,ah,hel]
     refine cz (hcl) ?_
     (refine WpL.go _ rfl fun Y y=>?_);repeat (first|(apply fw;(with_reducible constructor)<;>rfl)|(apply WpA.cd;constructor)|((first|with_reducible refine WpA.go _ rfl fun Y y=>?_|apply RunTo.id);simp only [zb,seval,ap,kcc,ah];refine fz y ?_;clear y Y))
     refine cz (b3) ?_
     (refine WpL.go _ rfl fun Y y=>?_);repeat (first|(apply fw;(with_reducible constructor)<;>rfl)|(apply WpA.cd;constructor)|((first|with_reducible refine WpA.go _ rfl fun Y y=>?_|apply RunTo.id);simp only [zb,seval,ap,kcc,ah];refine fz y ?_;clear y Y))
     refine WpA.frzP 20 (S5.length+1) rfl (by simp only [ah];rfl) (K.cc_shut _) ?_
     simp only [ah]
     have h0T:(S5++[none,none])[0]?=_:=bz (T:=[none,none]) h05
     have hB0:∀m,cB≠.ms 0 m:=fun m e=>by have:=hfrB _ _ e;rw [List.length_append] at this;omega
     have hAT:At 31 11 (S5++[none,none]) cB (Bd.1.map K.cc):=hAB.app _
     generalize (S5++[none,none]:List (Option Ob))=T at *
     obtain⟨T6,hl6,hk6,hop6⟩:=OpS.appFrz (P:=Tryz.prog) (T:=29) (by_:=176) aW aX aY (by omega) hAT.au (new:=[Ag.1.cc]) (by simp [kcc]) (by simp) (jH _) (by simp [ksh]) (by simp [heb];omega) (by simp [heb];omega)
     have h06:=hk6 0 _ h0T hB0
     have hT6:=(List.getElem?_eq_some_iff.1 h06).1
     have h06':∀X,(T6++X)[0]?=_:=fun X=>bz h06
     have hset6:∀(X:List (Option Ob)) (a:Option Ob),((T6++X).set 0 a)[0]?=some a:=fun X a=>List.getElem?_set_self (by simp;omega)
     rw [show Bd.1.map K.cc++[Ag.1.cc]=(Bd.1++[Ag.1]).map K.cc by simp] at hop6
     have hle:∀s∈[T,T6,T++[some ⟨31,11,[[.v (.int .i64 0),.v (.string ⟨#[]⟩),.v (.string ⟨#[]⟩),.v (.slice none 0 0),.v (.int .i64 0),.v (.int .i32 0),.v (.bool false),.v (.slice none 0 0),.v (.string ⟨#[]⟩),.v (.slice none 0 0),.v (.slice none 0 0)]]⟩],T6++[some ⟨31,11,[[.v (.int .i64 0),.v (.string ⟨#[]⟩),.v (.string ⟨#[]⟩),.v (.slice none 0 0),.v (.int .i64 0),.v (.int .i32 0),.v (.bool false),.v (.slice none 0 0),.v (.string ⟨#[]⟩),.v (.slice none 0 0),.v (.slice none 0 0)]]⟩],T6++[some ⟨31,11,[F.1.cc]⟩]],LeS [] s:=fun s _=>LeS.of (SLe.nil s)
     skip
     skip
     refine WpA.draw2 15 [6,13,14] [] [[],[6],[13],[6,13],[6,13,14]] [T,T6,T++[some ⟨31,11,[[.v (.int .i64 0),.v (.string ⟨#[]⟩),.v (.string ⟨#[]⟩),.v (.slice none 0 0),.v (.int .i64 0),.v (.int .i32 0),.v (.bool false),.v (.slice none 0 0),.v (.string ⟨#[]⟩),.v (.slice none 0 0),.v (.slice none 0 0)]]⟩],T6++[some ⟨31,11,[[.v (.int .i64 0),.v (.string ⟨#[]⟩),.v (.string ⟨#[]⟩),.v (.slice none 0 0),.v (.int .i64 0),.v (.int .i32 0),.v (.bool false),.v (.slice none 0 0),.v (.string ⟨#[]⟩),.v (.slice none 0 0),.v (.slice none 0 0)]]⟩],T6++[some ⟨31,11,[F.1.cc]⟩]] 4 _ _ _ _ rfl rfl rfl (by kernel_rfl) (by kernel_rfl) (by kernel_rfl) (by kernel_rfl) rfl rfl rfl (by decide) fun K8 hK8=>?_
     simp only [zz] at hK8 ⊢
     (refine Draw2.go fun K7 hK7=>?_);simp only [zb,seval,ap,kcc];(refine RunQ.mk (by first|(simp;done)|omega|(simp;omega)) (hK7 _ _ (by rfl) ?_));clear hK7 K7;(simp only [zz,Nat.reduceAdd,Nat.reduceSub]);(try ((refine Draw2.nil (fd (hle)) (hK8 _ ?_));clear hK8 K8;(refine WpL.go _ rfl fun Y y=>?_);repeat (first|(apply fw;(with_reducible constructor)<;>rfl)|(apply WpA.cd;constructor)|((first|with_reducible refine WpA.go _ rfl fun Y y=>?_|apply RunTo.id);simp only [zb,seval,ap,kcc];refine fz y ?_;clear y Y))))
     refine Draw2.step (by rfl) (fun s9 _=>OpS.frozen (n:=1) (wd:=11) (ty:=31) (rows:=[Ag.1.cc]) (OpS.eff [(170,_)] rfl (by rfl) ⟨rfl,trivial⟩ (by simp only [zb,seval,ap,kcc];rfl) (by simp)) rfl (by simp [ksh])) ?_;simp only [bf]
     refine Draw2.eff (x:=.one (.sl 11 ((Bd.1++[Ag.1]).map K.cc))) [(0,1),(2,3)] rfl rfl (by kernel_rfl) (fun t ht s s' h1 h2=>?_) ?_
     ·simp only [List.mem_cons,List.not_mem_nil,or_false] at ht
      rcases ht with rfl|rfl<;>(cases h1;cases h2)
      ·have:=fun {nt ds d ty pos aft g e t1 t2}=>hop6 [] (nt:=nt) (ds:=ds) (d:=d) (ty:=ty) (pos:=pos) (aft:=aft) (g:=g) (e:=e) (t1:=t1) (t2:=t2)
       simp only [List.append_nil] at this
       exact this rfl (by rfl) rfl rfl (by decide)
      ·exact hop6 _ rfl (by rfl) rfl rfl (by decide)
     simp only [bf]
     (refine Draw2.go fun K7 hK7=>?_);simp only [zb,seval,ap,kcc];(refine RunQ.mk (by first|(simp;done)|omega|(simp;omega)) (hK7 _ _ (by rfl) ?_));clear hK7 K7;(simp only [zz,Nat.reduceAdd,Nat.reduceSub]);(try ((refine Draw2.nil (fd (hle)) (hK8 _ ?_));clear hK8 K8;(refine WpL.go _ rfl fun Y y=>?_);repeat (first|(apply fw;(with_reducible constructor)<;>rfl)|(apply WpA.cd;constructor)|((first|with_reducible refine WpA.go _ rfl fun Y y=>?_|apply RunTo.id);simp only [zb,seval,ap,kcc];refine fz y ?_;clear y Y))))
     refine Draw2.step (by rfl) (fun s9 _=>oz (hsq)) ?_
     (refine Draw2.go fun K7 hK7=>?_);simp only [zb,seval,ap,kcc];(refine RunQ.mk (by first|(simp;done)|omega|(simp;omega)) (hK7 _ _ (by rfl) ?_));clear hK7 K7;(simp only [zz,Nat.reduceAdd,Nat.reduceSub]);(try ((refine Draw2.nil (fd (hle)) (hK8 _ ?_));clear hK8 K8;(refine WpL.go _ rfl fun Y y=>?_);repeat (first|(apply fw;(with_reducible constructor)<;>rfl)|(apply WpA.cd;constructor)|((first|with_reducible refine WpA.go _ rfl fun Y y=>?_|apply RunTo.id);simp only [zb,seval,ap,kcc];refine fz y ?_;clear y Y))))
     refine Draw2.step (by rfl) (fun s9 _=>oz (hbr)) ?_
     (refine Draw2.go fun K7 hK7=>?_);simp only [zb,seval,ap,kcc];(refine RunQ.mk (by first|(simp;done)|omega|(simp;omega)) (hK7 _ _ (by rfl) ?_));clear hK7 K7;(simp only [zz,Nat.reduceAdd,Nat.reduceSub]);(try ((refine Draw2.nil (fd (hle)) (hK8 _ ?_));clear hK8 K8;(refine WpL.go _ rfl fun Y y=>?_);repeat (first|(apply fw;(with_reducible constructor)<;>rfl)|(apply WpA.cd;constructor)|((first|with_reducible refine WpA.go _ rfl fun Y y=>?_|apply RunTo.id);simp only [zb,seval,ap,kcc];refine fz y ?_;clear y Y))))
     refine Draw2.step (by rfl) (fun s9 _=>oz (hlm)) ?_
     (refine Draw2.go fun K7 hK7=>?_);simp only [zb,seval,ap,kcc];(refine RunQ.mk (by first|(simp;done)|omega|(simp;omega)) (hK7 _ _ (by rfl) ?_));clear hK7 K7;(simp only [zz,Nat.reduceAdd,Nat.reduceSub]);(try ((refine Draw2.nil (fd (hle)) (hK8 _ ?_));clear hK8 K8;(refine WpL.go _ rfl fun Y y=>?_);repeat (first|(apply fw;(with_reducible constructor)<;>rfl)|(apply WpA.cd;constructor)|((first|with_reducible refine WpA.go _ rfl fun Y y=>?_|apply RunTo.id);simp only [zb,seval,ap,kcc];refine fz y ?_;clear y Y))))
     refine Draw2.eff (x:=.one (.ptr T6.length 1 0 0)) [(0,2),(1,3)] rfl rfl (by kernel_rfl) (fun t ht s s' h1 h2=>?_) ?_
     ·simp only [List.mem_cons,List.not_mem_nil,or_false] at ht
      rcases ht with rfl|rfl<;>(cases h1;cases h2)
      ·rw [hl6];exact OpS.eff [] rfl (by rfl) trivial (by first|(simp only [zb,seval,ap];done)|(simp only [zb,seval,ap];rfl)) trivial
      ·exact OpS.eff [] rfl (by rfl) trivial (by first|(simp only [zb,seval,ap];done)|(simp only [zb,seval,ap];rfl)) trivial
     simp only [bf]
     (refine Draw2.go fun K7 hK7=>?_);simp only [zb,seval,ap,kcc];(refine RunQ.mk (by first|(simp;done)|omega|(simp;omega)) (hK7 _ _ (by rfl) ?_));clear hK7 K7;(simp only [zz,Nat.reduceAdd,Nat.reduceSub]);(try ((refine Draw2.nil (fd (hle)) (hK8 _ ?_));clear hK8 K8;(refine WpL.go _ rfl fun Y y=>?_);repeat (first|(apply fw;(with_reducible constructor)<;>rfl)|(apply WpA.cd;constructor)|((first|with_reducible refine WpA.go _ rfl fun Y y=>?_|apply RunTo.id);simp only [zb,seval,ap,kcc];refine fz y ?_;clear y Y))))
     refine Draw2.eff (x:=.any) [(3,4)] rfl rfl (by kernel_rfl) (fun t ht s s' h1 h2=>?_) ?_
     ·simp only [List.mem_cons,List.not_mem_nil,or_false] at ht
      subst ht
      cases h1;cases h2
      exact OpS.eff [(21,_),(176,_)] rfl (by rfl) ⟨rfl,rfl,trivial⟩ (by simp only [zb,seval,ap,kcc,ah];rfl) (by simp [kcc])
     simp only [bf]
     (refine Draw2.go fun K7 hK7=>?_);simp only [zb,seval,ap,kcc,ah];(refine RunQ.mk (by first|(simp;done)|omega|(simp;omega)) (hK7 _ _ (by rfl) ?_));clear hK7 K7;(simp only [zz,Nat.reduceAdd,Nat.reduceSub]);(try ((refine Draw2.nil (fd (hle)) (hK8 _ ?_));clear hK8 K8;(refine WpL.go _ rfl fun Y y=>?_);repeat (first|(apply fw;(with_reducible constructor)<;>rfl)|(apply WpA.cd;constructor)|((first|with_reducible refine WpA.go _ rfl fun Y y=>?_|apply RunTo.id);simp only [zb,seval,ap,kcc,ah];refine fz y ?_;clear y Y))))
     skip
     skip
     refine cz (b4) ?_
     (refine WpL.go _ rfl fun Y y=>?_);repeat (first|(apply fw;(with_reducible constructor)<;>rfl)|(apply WpA.cd;constructor)|((first|with_reducible refine WpA.go _ rfl fun Y y=>?_|apply RunTo.id);simp only [zb,seval,ap,kcc,ah];refine fz y ?_;clear y Y))
     refine WpA.frzP 21 T6.length rfl (by simp only [ah];rfl) (K.cc_shut _) ?_
     simp only [ah]
     have h07:=h06' [none]
     generalize (T6++[none]:List (Option Ob))=T7 at *
     have hT7:=(List.getElem?_eq_some_iff.1 h07).1
     have h07':∀X,(T7++X)[0]?=_:=fun X=>bz h07
     have hset7:∀(X:List (Option Ob)) (a:Option Ob),((T7++X).set 0 a)[0]?=some a:=fun X a=>List.getElem?_set_self (by simp;omega)
     (refine WpA.draw1c 10 [8,9] [_,?_,?_] _ _ _ _ rfl rfl rfl (by kernel_rfl) (by kernel_rfl) (by kernel_rfl) (by kernel_rfl) rfl rfl rfl rfl (by decide) fun K8 hK8=>?_);rotate_left 2;simp only [zz] at hK8 ⊢;(refine Draw1.go fun K7 k=>?_);simp only [zb,seval,ap,kcc,ah];(refine qz (k _ _ (by rfl) ?_));clear k K7;(simp only [zz,Nat.reduceAdd,Nat.reduceSub]);(try ((refine nz (hK8 _ ?_));clear hK8 K8;(refine WpL.go _ rfl fun Y y=>?_);repeat (first|(apply fw;(with_reducible constructor)<;>rfl)|(apply WpA.cd;constructor)|((first|with_reducible refine WpA.go _ rfl fun Y y=>?_|apply RunTo.id);simp only [zb,seval,ap,kcc,ah];refine fz y ?_;clear y Y))))
     refine Draw1.step (by rfl) (fun s9 _=>OpS.frozen (n:=1) (wd:=1) (ty:=9) (rows:=[[.v (.string b8)]]) (OpS.eff [] rfl (by rfl) trivial (by simp only [zb,seval,ap,kcc];rfl) (by simp)) rfl (by simp [ksh])) ?_;simp only [bf]
     (refine Draw1.go fun K7 k=>?_);simp only [zb,seval,ap,kcc,ah];(refine qz (k _ _ (by rfl) ?_));clear k K7;(simp only [zz,Nat.reduceAdd,Nat.reduceSub]);(try ((refine nz (hK8 _ ?_));clear hK8 K8;(refine WpL.go _ rfl fun Y y=>?_);repeat (first|(apply fw;(with_reducible constructor)<;>rfl)|(apply WpA.cd;constructor)|((first|with_reducible refine WpA.go _ rfl fun Y y=>?_|apply RunTo.id);simp only [zb,seval,ap,kcc,ah];refine fz y ?_;clear y Y))))
     refine Draw1.step (by rfl) (fun s9 _=>OpS.frozen (n:=1) (wd:=11) (ty:=31) (rows:=[F.1.cc]) (OpS.eff [(183,_)] rfl (by rfl) ⟨rfl,trivial⟩ (by simp only [zb,seval,ap,kcc];rfl) (by simp)) rfl (by simp [ksh])) ?_;simp only [bf]
     refine Draw1.step (by rfl) (fun s9 _=>oz (hrl)) ?_
     (refine Draw1.go fun K7 k=>?_);simp only [zb,seval,ap,kcc,ah];(refine qz (k _ _ (by rfl) ?_));clear k K7;(simp only [zz,Nat.reduceAdd,Nat.reduceSub]);(try ((refine nz (hK8 _ ?_));clear hK8 K8;(refine WpL.go _ rfl fun Y y=>?_);repeat (first|(apply fw;(with_reducible constructor)<;>rfl)|(apply WpA.cd;constructor)|((first|with_reducible refine WpA.go _ rfl fun Y y=>?_|apply RunTo.id);simp only [zb,seval,ap,kcc,ah];refine fz y ?_;clear y Y))))
     refine Draw1.step (by rfl) (fun s9 _=>oz (hrc)) ?_
     (refine Draw1.go fun K7 k=>?_);simp only [zb,seval,ap,kcc,ah];(refine qz (k _ _ (by rfl) ?_));clear k K7;(simp only [zz,Nat.reduceAdd,Nat.reduceSub]);(try ((refine nz (hK8 _ ?_));clear hK8 K8;(refine WpL.go _ rfl fun Y y=>?_);repeat (first|(apply fw;(with_reducible constructor)<;>rfl)|(apply WpA.cd;constructor)|((first|with_reducible refine WpA.go _ rfl fun Y y=>?_|apply RunTo.id);simp only [zb,seval,ap,kcc,ah];refine fz y ?_;clear y Y))))
     refine Draw1.eff 0 rfl rfl rfl (OpS.eff [] rfl (by rfl) trivial (by simp only [zb,seval,ap,kcc,ah];rfl) (by first|(simp;done)|omega|(simp;omega))) ?_;(try simp only [bf]);(try ((refine Draw1.go fun K7 k=>?_);simp only [zb,seval,ap,kcc,ah];(refine qz (k _ _ (by rfl) ?_));clear k K7;(simp only [zz,Nat.reduceAdd,Nat.reduceSub]);(try ((refine nz (hK8 _ ?_));clear hK8 K8;(refine WpL.go _ rfl fun Y y=>?_);repeat (first|(apply fw;(with_reducible constructor)<;>rfl)|(apply WpA.cd;constructor)|((first|with_reducible refine WpA.go _ rfl fun Y y=>?_|apply RunTo.id);simp only [zb,seval,ap,kcc,ah];refine fz y ?_;clear y Y))))))
     refine Draw1.eff 1 rfl rfl rfl (OpS.eff [(22,_),(187,_)] rfl (by rfl) ⟨rfl,rfl,trivial⟩ (by simp only [zb,seval,ap,kcc,ah];rfl) (by first|(simp;done)|omega|(simp;omega))) ?_;(try simp only [bf]);(try ((refine Draw1.go fun K7 k=>?_);simp only [zb,seval,ap,kcc,ah];(refine qz (k _ _ (by rfl) ?_));clear k K7;(simp only [zz,Nat.reduceAdd,Nat.reduceSub]);(try ((refine nz (hK8 _ ?_));clear hK8 K8;(refine WpL.go _ rfl fun Y y=>?_);repeat (first|(apply fw;(with_reducible constructor)<;>rfl)|(apply WpA.cd;constructor)|((first|with_reducible refine WpA.go _ rfl fun Y y=>?_|apply RunTo.id);simp only [zb,seval,ap,kcc,ah];refine fz y ?_;clear y Y))))))
     refine cz (b5) ?_
     (refine WpL.go _ rfl fun Y y=>?_);repeat (first|(apply fw;(with_reducible constructor)<;>rfl)|(apply WpA.cd;constructor)|((first|with_reducible refine WpA.go _ rfl fun Y y=>?_|apply RunTo.id);simp only [zb,seval,ap,kcc,ah];refine fz y ?_;clear y Y))
     refine cz (hei) ?_
     (refine WpL.go _ rfl fun Y y=>?_);repeat (first|(apply fw;(with_reducible constructor)<;>rfl)|(apply WpA.cd;constructor)|((first|with_reducible refine WpA.go _ rfl fun Y y=>?_|apply RunTo.id);simp only [zb,seval,ap,kcc,ah];refine fz y ?_;clear y Y))
     refine cz (b6) ?_
     (refine WpL.go _ rfl fun Y y=>?_);repeat (first|(apply fw;(with_reducible constructor)<;>rfl)|(apply WpA.cd;constructor)|((first|with_reducible refine WpA.go _ rfl fun Y y=>?_|apply RunTo.id);simp only [zb,seval,ap,kcc,ah,hel2];refine fz y ?_;clear y Y))
     (refine WpL.frz 204 (T7.length+1) (by rfl) (by first|rfl|(simp only [zz,ah,hel2];rfl)|(simp only [zz,ah,hel2])) (by first|rfl|(simp [ah,hel2];done)|(simp [ah,hel2];omega)) (by simp [ksh]) ?_);simp only [zz,ah,hel2]
     refine cz (hcl2) ?_
     (refine WpL.go _ rfl fun Y y=>?_);repeat (first|(apply fw;(with_reducible constructor)<;>rfl)|(apply WpA.cd;constructor)|((first|with_reducible refine WpA.go _ rfl fun Y y=>?_|apply RunTo.id);simp only [zb,seval,ap,kcc,ah];refine fz y ?_;clear y Y))
     (refine WpA.draw0 4 _ _ _ rfl rfl rfl (by kernel_rfl) (by kernel_rfl) (by kernel_rfl) fun K8 hK8=>?_);simp only [zz] at hK8 ⊢;(refine Draw0.go fun K7 k=>?_);simp only [zb,seval,ap,kcc,ah];(refine qz (k _ _ ?_));clear k K7;(try ((refine Draw0.nil (hK8 _ ?_));clear hK8 K8;(refine WpL.go _ rfl fun Y y=>?_);repeat (first|(apply fw;(with_reducible constructor)<;>rfl)|(apply WpA.cd;constructor)|((first|with_reducible refine WpA.go _ rfl fun Y y=>?_|apply RunTo.id);simp only [zb,seval,ap,kcc,ah];refine fz y ?_;clear y Y))))
     refine Draw0.step (oz (b7)) ?_
     (refine Draw0.go fun K7 k=>?_);simp only [zb,seval,ap,kcc,ah,h07'];(refine qz (k _ _ ?_));clear k K7;(try ((refine Draw0.nil (hK8 _ ?_));clear hK8 K8;(refine WpL.go _ rfl fun Y y=>?_);repeat (first|(apply fw;(with_reducible constructor)<;>rfl)|(apply WpA.cd;constructor)|((first|with_reducible refine WpA.go _ rfl fun Y y=>?_|apply RunTo.id);simp only [zb,seval,ap,kcc,ah,h07'];refine fz y ?_;clear y Y))))
     refine ye (by simp only [zb,seval,ap,kcc,hset7];rfl) (by simp only [zv,kcc,hset7];rfl) ?_
     rfl
theorem ly (d:D):(ar d).2.2≤2:=by rw [nQ];exact Nat.max_le.2 ⟨ej d,vA _⟩
theorem sn {n:Nat} {ev:Ev} (hE:HE n ev) (l:List D):(eM ev l).2≤2:=by
 match l with
 | []=>exact Nat.le_refl _
 | [_]=>exact Nat.le_refl _
 | a::b::r =>
  have hbe:=ly b
  have w1:=cF a
  have w2:=fM (ar b).1
  have w3:=hE.b2 r
  have w4:=gg (ar b).1 e0 (ev.b r).1
  have w5:=cA hE (ar b).2.1
  unfold eM;dsimp only
  have w6:=gx [(aM a).1] [(cD (ar b).1 e0 (ev.b r).1).1] (aP (aM a).1)
  have w7:=cY ((fh [(aM a).1] [(cD (ar b).1 e0 (ev.b r).1).1] (aP (aM a).1)).1::(aw ev.e (ar b).2.1).1)
  omega
theorem wR {n:Nat} {ev:Ev} (hE:HE n ev) (l:List D):(lf ev l).2≤2:=by
 match l with
 | []=>exact Nat.le_refl _
 | a::r =>
  show (if a.k=6 then eM ev (a::r) else ((ck ev (ar a).1 (ev.b r).1 (ar a).2.1).1,max (max (max (ar a).2.2 (ev.b r).2) (unl (ar a).1)) (ck ev (ar a).1 (ev.b r).1 (ar a).2.1).2)).2≤2
  split
  ·exact sn hE _
  ·have hbe:=ly a
   have w1:=fM (ar a).1
   have w2:=hE.b2 r
   have w3:=fN ev hE (ar a).1 (ev.b r).1 (ar a).2.1
   dsimp only;omega
theorem ri {n:Nat} {ev:Ev} (hE:HE n ev) (l:List D):(ec ev l).2≤2:=by
 match l with
 | []=>exact Nat.le_refl _
 | a::r =>
  have hbe:=ly a
  have w2:=hE.b2 r
  have w3:=fN ev hE [] (ev.b r).1 []
  exact nS hE _ _ (by dsimp only;omega)
theorem sq {n:Nat} {ev:Ev} (hE:HE n ev) (l:List D):(eI ev l).2≤2:=by
 match l with
 | []=>exact Nat.le_refl _
 | a::r =>
  have hbe:=ly a
  have w2:=hE.b2 r
  have w3:=cA hE (ar a).2.1
  have w4:=gx (ar a).1 (aw ev.e (ar a).2.1).1 (ev.b r).1
  unfold eI;dsimp only;omega
theorem rj {n:Nat} {ev:Ev} (hE:HE n ev) (w:ByteArray) (l:List D):(aQ ev w l).2≤2:=by
 unfold aQ
 repeat' split
 ·exact wR hE l
 ·exact ri hE l
 ·exact sq hE l
 ·exact nT hE l
 ·exact ug hE l
 ·exact j6 hE _ l
 ·exact j6 hE _ l
 ·exact Nat.le_refl _
theorem pR {n:Nat} {ev:Ev} (hE:HE n ev) (w:ByteArray) (l:List D) (hl:Gds n l):Pure Tryz.prog 113 [.one (.v (.string w)),.one (.sl 6 (l.map D.cc))] (rsA (aQ ev w l)):=by
 by_cases ksLet:w=ga
 ·subst ksLet
  have hc:=vF hE l hl
  rw [show aQ ev ga l=lf ev l by unfold aQ;(iterate 0 rw [if_neg (by decide)]);rw [if_pos (by decide)]]
  have q0:eqB ga ⟨#[108,101,116]⟩=true:=aU rfl
  have q1:eqB ga ⟨#[108,101,116,42]⟩=false:=aa (by decide)
  have q2:eqB ga ⟨#[108,101,116,114,101,99]⟩=false:=aa (by decide)
  have q3:eqB ga ⟨#[108,101,116,114,101,99,42]⟩=false:=aa (by decide)
  have q4:eqB ga ⟨#[99,111,110,100]⟩=false:=aa (by decide)
  have q5:eqB ga ⟨#[100,111]⟩=false:=aa (by decide)
  have q6:eqB ga ⟨#[97,110,100]⟩=false:=aa (by decide)
  have q7:eqB ga ⟨#[111,114]⟩=false:=aa (by decide)
  simp only [rsA] at hc ⊢
  refine fi Tryz.func113 Tryz.ntmps113 Tryz.results113 ?_
  repeat (first|(apply fw;(with_reducible constructor)<;>rfl)|(apply WpA.cd;constructor)|((first|with_reducible refine WpA.go _ rfl fun Y y=>?_|apply RunTo.id);simp only [zb,seval,fB,kcc,bj,q0,q1,q2,q3,q4,q5,q6,q7];refine fz y ?_;clear y Y))
  refine cz (hc) ?_
  (refine WpL.go _ rfl fun Y y=>?_);repeat (first|(apply fw;(with_reducible constructor)<;>rfl)|(apply WpA.cd;constructor)|((first|with_reducible refine WpA.go _ rfl fun Y y=>?_|apply RunTo.id);simp only [zb,seval,fB,kcc];refine fz y ?_;clear y Y))
  refine ye (by simp only [zb,seval,fB,kcc];rfl) (by simp only [zv,kcc];rfl) ?_
  rfl
 by_cases ksLetS:w=gO
 ·subst ksLetS
  have hc:=pO hE l hl
  rw [show aQ ev gO l=ec ev l by unfold aQ;(iterate 1 rw [if_neg (by decide)]);rw [if_pos (by decide)]]
  have q0:eqB gO ⟨#[108,101,116]⟩=false:=aa (by decide)
  have q1:eqB gO ⟨#[108,101,116,42]⟩=true:=aU rfl
  have q2:eqB gO ⟨#[108,101,116,114,101,99]⟩=false:=aa (by decide)
  have q3:eqB gO ⟨#[108,101,116,114,101,99,42]⟩=false:=aa (by decide)
  have q4:eqB gO ⟨#[99,111,110,100]⟩=false:=aa (by decide)
  have q5:eqB gO ⟨#[100,111]⟩=false:=aa (by decide)
  have q6:eqB gO ⟨#[97,110,100]⟩=false:=aa (by decide)
  have q7:eqB gO ⟨#[111,114]⟩=false:=aa (by decide)
  simp only [rsA] at hc ⊢
  refine fi Tryz.func113 Tryz.ntmps113 Tryz.results113 ?_
  repeat (first|(apply fw;(with_reducible constructor)<;>rfl)|(apply WpA.cd;constructor)|((first|with_reducible refine WpA.go _ rfl fun Y y=>?_|apply RunTo.id);simp only [zb,seval,fB,kcc,bj,q0,q1,q2,q3,q4,q5,q6,q7];refine fz y ?_;clear y Y))
  refine cz (hc) ?_
  (refine WpL.go _ rfl fun Y y=>?_);repeat (first|(apply fw;(with_reducible constructor)<;>rfl)|(apply WpA.cd;constructor)|((first|with_reducible refine WpA.go _ rfl fun Y y=>?_|apply RunTo.id);simp only [zb,seval,fB,kcc];refine fz y ?_;clear y Y))
  refine ye (by simp only [zb,seval,fB,kcc];rfl) (by simp only [zv,kcc];rfl) ?_
  rfl
 by_cases ksLetrec:w=dK
 ·subst ksLetrec
  have hc:=mt hE l hl
  rw [show aQ ev dK l=eI ev l by unfold aQ;(iterate 2 rw [if_neg (by decide)]);rw [if_pos (by decide)]]
  have q0:eqB dK ⟨#[108,101,116]⟩=false:=aa (by decide)
  have q1:eqB dK ⟨#[108,101,116,42]⟩=false:=aa (by decide)
  have q2:eqB dK ⟨#[108,101,116,114,101,99]⟩=true:=aU rfl
  have q3:eqB dK ⟨#[108,101,116,114,101,99,42]⟩=false:=aa (by decide)
  have q4:eqB dK ⟨#[99,111,110,100]⟩=false:=aa (by decide)
  have q5:eqB dK ⟨#[100,111]⟩=false:=aa (by decide)
  have q6:eqB dK ⟨#[97,110,100]⟩=false:=aa (by decide)
  have q7:eqB dK ⟨#[111,114]⟩=false:=aa (by decide)
  simp only [rsA] at hc ⊢
  refine fi Tryz.func113 Tryz.ntmps113 Tryz.results113 ?_
  repeat (first|(apply fw;(with_reducible constructor)<;>rfl)|(apply WpA.cd;constructor)|((first|with_reducible refine WpA.go _ rfl fun Y y=>?_|apply RunTo.id);simp only [zb,seval,fB,kcc,bj,q0,q1,q2,q3,q4,q5,q6,q7];refine fz y ?_;clear y Y))
  refine cz (hc) ?_
  (refine WpL.go _ rfl fun Y y=>?_);repeat (first|(apply fw;(with_reducible constructor)<;>rfl)|(apply WpA.cd;constructor)|((first|with_reducible refine WpA.go _ rfl fun Y y=>?_|apply RunTo.id);simp only [zb,seval,fB,kcc];refine fz y ?_;clear y Y))
  refine ye (by simp only [zb,seval,fB,kcc];rfl) (by simp only [zv,kcc];rfl) ?_
  rfl
 by_cases ksLetrecS:w=de
 ·subst ksLetrecS
  have hc:=mt hE l hl
  rw [show aQ ev de l=eI ev l by unfold aQ;(iterate 2 rw [if_neg (by decide)]);rw [if_pos (by decide)]]
  have q0:eqB de ⟨#[108,101,116]⟩=false:=aa (by decide)
  have q1:eqB de ⟨#[108,101,116,42]⟩=false:=aa (by decide)
  have q2:eqB de ⟨#[108,101,116,114,101,99]⟩=false:=aa (by decide)
  have q3:eqB de ⟨#[108,101,116,114,101,99,42]⟩=true:=aU rfl
  have q4:eqB de ⟨#[99,111,110,100]⟩=false:=aa (by decide)
  have q5:eqB de ⟨#[100,111]⟩=false:=aa (by decide)
  have q6:eqB de ⟨#[97,110,100]⟩=false:=aa (by decide)
  have q7:eqB de ⟨#[111,114]⟩=false:=aa (by decide)
  simp only [rsA] at hc ⊢
  refine fi Tryz.func113 Tryz.ntmps113 Tryz.results113 ?_
  repeat (first|(apply fw;(with_reducible constructor)<;>rfl)|(apply WpA.cd;constructor)|((first|with_reducible refine WpA.go _ rfl fun Y y=>?_|apply RunTo.id);simp only [zb,seval,fB,kcc,bj,q0,q1,q2,q3,q4,q5,q6,q7];refine fz y ?_;clear y Y))
  refine cz (hc) ?_
  (refine WpL.go _ rfl fun Y y=>?_);repeat (first|(apply fw;(with_reducible constructor)<;>rfl)|(apply WpA.cd;constructor)|((first|with_reducible refine WpA.go _ rfl fun Y y=>?_|apply RunTo.id);simp only [zb,seval,fB,kcc];refine fz y ?_;clear y Y))
  refine ye (by simp only [zb,seval,fB,kcc];rfl) (by simp only [zv,kcc];rfl) ?_
  rfl
 by_cases ksCond:w=gP
 ·subst ksCond
  have hc:=oZ hE l hl
  rw [show aQ ev gP l=eo ev l by unfold aQ;(iterate 3 rw [if_neg (by decide)]);rw [if_pos (by decide)]]
  have q0:eqB gP ⟨#[108,101,116]⟩=false:=aa (by decide)
  have q1:eqB gP ⟨#[108,101,116,42]⟩=false:=aa (by decide)
  have q2:eqB gP ⟨#[108,101,116,114,101,99]⟩=false:=aa (by decide)
  have q3:eqB gP ⟨#[108,101,116,114,101,99,42]⟩=false:=aa (by decide)
  have q4:eqB gP ⟨#[99,111,110,100]⟩=true:=aU rfl
  have q5:eqB gP ⟨#[100,111]⟩=false:=aa (by decide)
  have q6:eqB gP ⟨#[97,110,100]⟩=false:=aa (by decide)
  have q7:eqB gP ⟨#[111,114]⟩=false:=aa (by decide)
  simp only [rsA] at hc ⊢
  refine fi Tryz.func113 Tryz.ntmps113 Tryz.results113 ?_
  repeat (first|(apply fw;(with_reducible constructor)<;>rfl)|(apply WpA.cd;constructor)|((first|with_reducible refine WpA.go _ rfl fun Y y=>?_|apply RunTo.id);simp only [zb,seval,fB,kcc,bj,q0,q1,q2,q3,q4,q5,q6,q7];refine fz y ?_;clear y Y))
  refine cz (hc) ?_
  (refine WpL.go _ rfl fun Y y=>?_);repeat (first|(apply fw;(with_reducible constructor)<;>rfl)|(apply WpA.cd;constructor)|((first|with_reducible refine WpA.go _ rfl fun Y y=>?_|apply RunTo.id);simp only [zb,seval,fB,kcc];refine fz y ?_;clear y Y))
  refine ye (by simp only [zb,seval,fB,kcc];rfl) (by simp only [zv,kcc];rfl) ?_
  rfl
 by_cases ksDo:w=sDo
 ·subst ksDo
  have hc:=sm hE l hl
  rw [show aQ ev sDo l=iv ev l by unfold aQ;(iterate 4 rw [if_neg (by decide)]);rw [if_pos (by decide)]]
  have q0:eqB sDo ⟨#[108,101,116]⟩=false:=aa (by decide)
  have q1:eqB sDo ⟨#[108,101,116,42]⟩=false:=aa (by decide)
  have q2:eqB sDo ⟨#[108,101,116,114,101,99]⟩=false:=aa (by decide)
  have q3:eqB sDo ⟨#[108,101,116,114,101,99,42]⟩=false:=aa (by decide)
  have q4:eqB sDo ⟨#[99,111,110,100]⟩=false:=aa (by decide)
  have q5:eqB sDo ⟨#[100,111]⟩=true:=aU rfl
  have q6:eqB sDo ⟨#[97,110,100]⟩=false:=aa (by decide)
  have q7:eqB sDo ⟨#[111,114]⟩=false:=aa (by decide)
  simp only [rsA] at hc ⊢
  refine fi Tryz.func113 Tryz.ntmps113 Tryz.results113 ?_
  repeat (first|(apply fw;(with_reducible constructor)<;>rfl)|(apply WpA.cd;constructor)|((first|with_reducible refine WpA.go _ rfl fun Y y=>?_|apply RunTo.id);simp only [zb,seval,fB,kcc,bj,q0,q1,q2,q3,q4,q5,q6,q7];refine fz y ?_;clear y Y))
  refine cz (hc) ?_
  (refine WpL.go _ rfl fun Y y=>?_);repeat (first|(apply fw;(with_reducible constructor)<;>rfl)|(apply WpA.cd;constructor)|((first|with_reducible refine WpA.go _ rfl fun Y y=>?_|apply RunTo.id);simp only [zb,seval,fB,kcc];refine fz y ?_;clear y Y))
  refine ye (by simp only [zb,seval,fB,kcc];rfl) (by simp only [zv,kcc];rfl) ?_
  rfl
 by_cases ksAnd:w=kf
 ·subst ksAnd
  have hc:=kG hE true kf (aU rfl) (aa (by decide)) l hl
  rw [show aQ ev kf l=bL ev true l by unfold aQ;(iterate 5 rw [if_neg (by decide)]);rw [if_pos (by decide)]]
  have q0:eqB kf ⟨#[108,101,116]⟩=false:=aa (by decide)
  have q1:eqB kf ⟨#[108,101,116,42]⟩=false:=aa (by decide)
  have q2:eqB kf ⟨#[108,101,116,114,101,99]⟩=false:=aa (by decide)
  have q3:eqB kf ⟨#[108,101,116,114,101,99,42]⟩=false:=aa (by decide)
  have q4:eqB kf ⟨#[99,111,110,100]⟩=false:=aa (by decide)
  have q5:eqB kf ⟨#[100,111]⟩=false:=aa (by decide)
  have q6:eqB kf ⟨#[97,110,100]⟩=true:=aU rfl
  have q7:eqB kf ⟨#[111,114]⟩=false:=aa (by decide)
  simp only [rsA] at hc ⊢
  refine fi Tryz.func113 Tryz.ntmps113 Tryz.results113 ?_
  repeat (first|(apply fw;(with_reducible constructor)<;>rfl)|(apply WpA.cd;constructor)|((first|with_reducible refine WpA.go _ rfl fun Y y=>?_|apply RunTo.id);simp only [zb,seval,fB,kcc,bj,q0,q1,q2,q3,q4,q5,q6,q7];refine fz y ?_;clear y Y))
  refine cz (hc) ?_
  (refine WpL.go _ rfl fun Y y=>?_);repeat (first|(apply fw;(with_reducible constructor)<;>rfl)|(apply WpA.cd;constructor)|((first|with_reducible refine WpA.go _ rfl fun Y y=>?_|apply RunTo.id);simp only [zb,seval,fB,kcc];refine fz y ?_;clear y Y))
  refine ye (by simp only [zb,seval,fB,kcc];rfl) (by simp only [zv,kcc];rfl) ?_
  rfl
 by_cases ksOr:w=sOr
 ·subst ksOr
  have hc:=kG hE false sOr (aa (by decide)) (aU rfl) l hl
  rw [show aQ ev sOr l=bL ev false l by unfold aQ;(iterate 6 rw [if_neg (by decide)]);rw [if_pos (by decide)]]
  have q0:eqB sOr ⟨#[108,101,116]⟩=false:=aa (by decide)
  have q1:eqB sOr ⟨#[108,101,116,42]⟩=false:=aa (by decide)
  have q2:eqB sOr ⟨#[108,101,116,114,101,99]⟩=false:=aa (by decide)
  have q3:eqB sOr ⟨#[108,101,116,114,101,99,42]⟩=false:=aa (by decide)
  have q4:eqB sOr ⟨#[99,111,110,100]⟩=false:=aa (by decide)
  have q5:eqB sOr ⟨#[100,111]⟩=false:=aa (by decide)
  have q6:eqB sOr ⟨#[97,110,100]⟩=false:=aa (by decide)
  have q7:eqB sOr ⟨#[111,114]⟩=true:=aU rfl
  simp only [rsA] at hc ⊢
  refine fi Tryz.func113 Tryz.ntmps113 Tryz.results113 ?_
  repeat (first|(apply fw;(with_reducible constructor)<;>rfl)|(apply WpA.cd;constructor)|((first|with_reducible refine WpA.go _ rfl fun Y y=>?_|apply RunTo.id);simp only [zb,seval,fB,kcc,bj,q0,q1,q2,q3,q4,q5,q6,q7];refine fz y ?_;clear y Y))
  refine cz (hc) ?_
  (refine WpL.go _ rfl fun Y y=>?_);repeat (first|(apply fw;(with_reducible constructor)<;>rfl)|(apply WpA.cd;constructor)|((first|with_reducible refine WpA.go _ rfl fun Y y=>?_|apply RunTo.id);simp only [zb,seval,fB,kcc];refine fz y ?_;clear y Y))
  refine ye (by simp only [zb,seval,fB,kcc];rfl) (by simp only [zv,kcc];rfl) ?_
  rfl
 have hw:Pure Tryz.prog 84 [.one (.v (.string w)),.one (.gv 1)] (.one (.er 2)):=bH _ 1
 have q0:eqB w ⟨#[108,101,116]⟩=false:=aa ksLet
 have q1:eqB w ⟨#[108,101,116,42]⟩=false:=aa ksLetS
 have q2:eqB w ⟨#[108,101,116,114,101,99]⟩=false:=aa ksLetrec
 have q3:eqB w ⟨#[108,101,116,114,101,99,42]⟩=false:=aa ksLetrecS
 have q4:eqB w ⟨#[99,111,110,100]⟩=false:=aa ksCond
 have q5:eqB w ⟨#[100,111]⟩=false:=aa ksDo
 have q6:eqB w ⟨#[97,110,100]⟩=false:=aa ksAnd
 have q7:eqB w ⟨#[111,114]⟩=false:=aa ksOr
 rw [show aQ ev w l=(kz,2) by unfold aQ;rw [if_neg ksLet,if_neg ksLetS,if_neg (by rintro (h|h);exact ksLetrec h;exact ksLetrecS h),if_neg ksCond,if_neg ksDo,if_neg ksAnd,if_neg ksOr]]
 refine fi Tryz.func113 Tryz.ntmps113 Tryz.results113 ?_
 repeat (first|(apply fw;(with_reducible constructor)<;>rfl)|(apply WpA.cd;constructor)|((first|with_reducible refine WpA.go _ rfl fun Y y=>?_|apply RunTo.id);simp only [zb,seval,fB,kcc,bj,q0,q1,q2,q3,q4,q5,q6,q7];refine fz y ?_;clear y Y))
 refine cz (hw) ?_
 (refine WpL.go _ rfl fun Y y=>?_);repeat (first|(apply fw;(with_reducible constructor)<;>rfl)|(apply WpA.cd;constructor)|((first|with_reducible refine WpA.go _ rfl fun Y y=>?_|apply RunTo.id);simp only [zb,seval,fB,kcc];refine fz y ?_;clear y Y))
 refine⟨by simp,_,_,_,_,(by simp only [zb,seval,fB,kcc,rsA];rfl),(by simp),(by simp only [zv,kcc,rsA];rfl),(by simp [ksh]),_,(by simp only [rcc,rsA];exact ae),rfl⟩
theorem ui {n:Nat} {ev:Ev} (hE:HE n ev) (w:ByteArray) (l0:List D) (hl:Gds n l0):Pure Tryz.prog 89 [.one (.v (.string w)),.one (.sl 6 (l0.map D.cc))] (rsA (bD ev w l0)):=by
 have hde:=pR hE w l0 hl
 have hbig:=hE.big
 simp only [rsA] at hde
  
  
 by_cases ksQuote:w=ea
 ·subst ksQuote
  have q0:eqB ea ⟨#[113,117,111,116,101]⟩=true:=aU rfl
  have q1:eqB ea ⟨#[113,117,97,115,105,113,117,111,116,101]⟩=false:=aa (by decide)
  have q2:eqB ea ⟨#[108,97,109,98,100,97]⟩=false:=aa (by decide)
  have q3:eqB ea ⟨#[115,101,116,33]⟩=false:=aa (by decide)
  have q4:eqB ea ⟨#[105,102]⟩=false:=aa (by decide)
  have q5:eqB ea ⟨#[98,101,103,105,110]⟩=false:=aa (by decide)
  have q6:eqB ea ⟨#[99,97,115,101]⟩=false:=aa (by decide)
  have q7:eqB ea ⟨#[119,104,101,110]⟩=false:=aa (by decide)
  have q8:eqB ea ⟨#[117,110,108,101,115,115]⟩=false:=aa (by decide)
  by_cases hn:l0.length=1
  ·obtain⟨a,rfl⟩:∃a,l0=[a]:=by match l0,hn with|[a],_=>exact⟨a,rfl⟩
   have hc:=eg a (hl.head).2.1
   rw [show bD ev ea [a]=(bS a,0) from rfl]
   simp only [List.map_cons,List.map_nil,rsA]
   refine fi Tryz.func89 Tryz.ntmps89 Tryz.results89 ?_
   repeat (first|(apply fw;(with_reducible constructor)<;>rfl)|(apply WpA.cd;constructor)|((first|with_reducible refine WpA.go _ rfl fun Y y=>?_|apply RunTo.id);simp only [zb,seval,w89,kcc,bj,q0,q1,q2,q3,q4,q5,q6,q7,q8];refine fz y ?_;clear y Y))
   refine cz (hc) ?_
   (refine WpL.go _ rfl fun Y y=>?_);repeat (first|(apply fw;(with_reducible constructor)<;>rfl)|(apply WpA.cd;constructor)|((first|with_reducible refine WpA.go _ rfl fun Y y=>?_|apply RunTo.id);simp only [zb,seval,w89,kcc];refine fz y ?_;clear y Y))
   refine ye (by simp only [zb,seval,w89,kcc];rfl) (by simp only [zv,kcc];rfl) ?_
   rfl
  ·have m1:((l0.length:Int) == 1)=false:=by simp;omega
   rw [show bD ev ea l0=aQ ev ea l0 by unfold bD;(repeat rw [if_neg (by first|decide|assumption|(rintro ⟨h,-⟩;exact absurd h (by first|decide|assumption))|(rintro ⟨-,h⟩;omega))])]
   simp only [rsA]
   refine fi Tryz.func89 Tryz.ntmps89 Tryz.results89 ?_
   repeat (first|(apply fw;(with_reducible constructor)<;>rfl)|(apply WpA.cd;constructor)|((first|with_reducible refine WpA.go _ rfl fun Y y=>?_|apply RunTo.id);simp only [zb,seval,w89,kcc,bj,q0,q1,q2,q3,q4,q5,q6,q7,q8,m1];refine fz y ?_;clear y Y))
   refine cz (hde) ?_
   (refine WpL.go _ rfl fun Y y=>?_);repeat (first|(apply fw;(with_reducible constructor)<;>rfl)|(apply WpA.cd;constructor)|((first|with_reducible refine WpA.go _ rfl fun Y y=>?_|apply RunTo.id);simp only [zb,seval,w89,kcc];refine fz y ?_;clear y Y))
   refine ye (by simp only [zb,seval,w89,kcc];rfl) (by simp only [zv,kcc];rfl) ?_
   rfl
 by_cases ksQuasi:w=cQ
 ·subst ksQuasi
  have q0:eqB cQ ⟨#[113,117,111,116,101]⟩=false:=aa (by decide)
  have q1:eqB cQ ⟨#[113,117,97,115,105,113,117,111,116,101]⟩=true:=aU rfl
  have q2:eqB cQ ⟨#[108,97,109,98,100,97]⟩=false:=aa (by decide)
  have q3:eqB cQ ⟨#[115,101,116,33]⟩=false:=aa (by decide)
  have q4:eqB cQ ⟨#[105,102]⟩=false:=aa (by decide)
  have q5:eqB cQ ⟨#[98,101,103,105,110]⟩=false:=aa (by decide)
  have q6:eqB cQ ⟨#[99,97,115,101]⟩=false:=aa (by decide)
  have q7:eqB cQ ⟨#[119,104,101,110]⟩=false:=aa (by decide)
  have q8:eqB cQ ⟨#[117,110,108,101,115,115]⟩=false:=aa (by decide)
  by_cases hn:l0.length=1
  ·obtain⟨a,rfl⟩:∃a,l0=[a]:=by match l0,hn with|[a],_=>exact⟨a,rfl⟩
   have hc:Pure Tryz.prog 108 [.agg a.cc,.one (.v (.int .i64 1))] (rsA (ev.q a 1)):=hE.q a 1 hl.head (Nat.le_refl _) (by have:=hl.head.2.2;omega)
   rw [show bD ev cQ [a]=ev.q a 1 from rfl]
   simp only [List.map_cons,List.map_nil,rsA] at hc ⊢
   refine fi Tryz.func89 Tryz.ntmps89 Tryz.results89 ?_
   repeat (first|(apply fw;(with_reducible constructor)<;>rfl)|(apply WpA.cd;constructor)|((first|with_reducible refine WpA.go _ rfl fun Y y=>?_|apply RunTo.id);simp only [zb,seval,w89,kcc,bj,q0,q1,q2,q3,q4,q5,q6,q7,q8];refine fz y ?_;clear y Y))
   refine cz (hc) ?_
   (refine WpL.go _ rfl fun Y y=>?_);repeat (first|(apply fw;(with_reducible constructor)<;>rfl)|(apply WpA.cd;constructor)|((first|with_reducible refine WpA.go _ rfl fun Y y=>?_|apply RunTo.id);simp only [zb,seval,w89,kcc];refine fz y ?_;clear y Y))
   refine ye (by simp only [zb,seval,w89,kcc];rfl) (by simp only [zv,kcc];rfl) ?_
   rfl
  ·have m1:((l0.length:Int) == 1)=false:=by simp;omega
   rw [show bD ev cQ l0=aQ ev cQ l0 by unfold bD;(repeat rw [if_neg (by first|decide|assumption|(rintro ⟨h,-⟩;exact absurd h (by first|decide|assumption))|(rintro ⟨-,h⟩;omega))])]
   simp only [rsA]
   refine fi Tryz.func89 Tryz.ntmps89 Tryz.results89 ?_
   repeat (first|(apply fw;(with_reducible constructor)<;>rfl)|(apply WpA.cd;constructor)|((first|with_reducible refine WpA.go _ rfl fun Y y=>?_|apply RunTo.id);simp only [zb,seval,w89,kcc,bj,q0,q1,q2,q3,q4,q5,q6,q7,q8,m1];refine fz y ?_;clear y Y))
   refine cz (hde) ?_
   (refine WpL.go _ rfl fun Y y=>?_);repeat (first|(apply fw;(with_reducible constructor)<;>rfl)|(apply WpA.cd;constructor)|((first|with_reducible refine WpA.go _ rfl fun Y y=>?_|apply RunTo.id);simp only [zb,seval,w89,kcc];refine fz y ?_;clear y Y))
   refine ye (by simp only [zb,seval,w89,kcc];rfl) (by simp only [zv,kcc];rfl) ?_
   rfl
 by_cases ksLambda:w=bO
 ·subst ksLambda
  have q0:eqB bO ⟨#[113,117,111,116,101]⟩=false:=aa (by decide)
  have q1:eqB bO ⟨#[113,117,97,115,105,113,117,111,116,101]⟩=false:=aa (by decide)
  have q2:eqB bO ⟨#[108,97,109,98,100,97]⟩=true:=aU rfl
  have q3:eqB bO ⟨#[115,101,116,33]⟩=false:=aa (by decide)
  have q4:eqB bO ⟨#[105,102]⟩=false:=aa (by decide)
  have q5:eqB bO ⟨#[98,101,103,105,110]⟩=false:=aa (by decide)
  have q6:eqB bO ⟨#[99,97,115,101]⟩=false:=aa (by decide)
  have q7:eqB bO ⟨#[119,104,101,110]⟩=false:=aa (by decide)
  have q8:eqB bO ⟨#[117,110,108,101,115,115]⟩=false:=aa (by decide)
  match l0,hl with
  | [],hl =>
   have g1:decide ((1:Int)≤((([]:List D).length:Nat):Int))=false:=by decide
   rw [show bD ev bO []=aQ ev bO [] from rfl]
   simp only [rsA]
   simp only [List.map_nil] at hde ⊢
   refine fi Tryz.func89 Tryz.ntmps89 Tryz.results89 ?_
   repeat (first|(apply fw;(with_reducible constructor)<;>rfl)|(apply WpA.cd;constructor)|((first|with_reducible refine WpA.go _ rfl fun Y y=>?_|apply RunTo.id);simp only [zb,seval,w89,kcc,bj,q0,q1,q2,q3,q4,q5,q6,q7,q8];refine fz y ?_;clear y Y))
   refine cz (hde) ?_
   (refine WpL.go _ rfl fun Y y=>?_);repeat (first|(apply fw;(with_reducible constructor)<;>rfl)|(apply WpA.cd;constructor)|((first|with_reducible refine WpA.go _ rfl fun Y y=>?_|apply RunTo.id);simp only [zb,seval,w89,kcc];refine fz y ?_;clear y Y))
   refine ye (by simp only [zb,seval,w89,kcc];rfl) (by simp only [zv,kcc];rfl) ?_
   rfl
  | a::r,hl =>
   obtain⟨l,hlr⟩:∃l,a::r=l:=⟨_,rfl⟩
   obtain⟨c0,ct,cd,cl,cn,c11,c00,c22⟩:=jc a r l hlr
   have g1:decide ((1:Int)≤(l.length:Int))=true:=by simp;omega
   have hle1:(1:Int)≤(l.length:Int):=by omega
   have hc:=ko hE a r hl.head hl.tail
   rw [show bD ev bO (a::r)=bP ev a r by unfold bD;(repeat rw [if_neg (by first|decide|(rintro ⟨h,-⟩;exact absurd h (by decide)))]);rw [if_pos ⟨rfl,by simp⟩];rfl,hlr]
   simp only [rsA] at hc ⊢
   refine fi Tryz.func89 Tryz.ntmps89 Tryz.results89 ?_
   repeat (first|(apply fw;(with_reducible constructor)<;>rfl)|(apply WpA.cd;constructor)|((first|with_reducible refine WpA.go _ rfl fun Y y=>?_|apply RunTo.id);simp only [zb,seval,w89,kcc,bj,q0,q1,q2,q3,q4,q5,q6,q7,q8,g1];refine fz y ?_;clear y Y))
   (refine WpA.draw0 8 _ _ _ rfl rfl rfl (by kernel_rfl) (by kernel_rfl) (by kernel_rfl) fun K8 hK8=>?_);simp only [zz] at hK8 ⊢;(refine Draw0.go fun K7 k=>?_);simp only [zb,seval,w89,kcc,c0,ct,cd,cn,c11];(refine qz (k _ _ ?_));clear k K7;(try ((refine Draw0.nil (hK8 _ ?_));clear hK8 K8;(refine WpL.go _ rfl fun Y y=>?_);repeat (first|(apply fw;(with_reducible constructor)<;>rfl)|(apply WpA.cd;constructor)|((first|with_reducible refine WpA.go _ rfl fun Y y=>?_|apply RunTo.id);simp only [zb,seval,w89,kcc,c0,ct,cd,cn,c11];refine fz y ?_;clear y Y))))
   refine Draw0.step (oz (hc)) ?_
   (refine Draw0.go fun K7 k=>?_);simp only [zb,seval,w89,kcc];(refine qz (k _ _ ?_));clear k K7;(try ((refine Draw0.nil (hK8 _ ?_));clear hK8 K8;(refine WpL.go _ rfl fun Y y=>?_);repeat (first|(apply fw;(with_reducible constructor)<;>rfl)|(apply WpA.cd;constructor)|((first|with_reducible refine WpA.go _ rfl fun Y y=>?_|apply RunTo.id);simp only [zb,seval,w89,kcc];refine fz y ?_;clear y Y))))
   refine ye (by simp only [zb,seval,w89,kcc];rfl) (by simp only [zv,kcc];rfl) ?_
   rfl
 by_cases ksSet:w=jF
 ·subst ksSet
  have q0:eqB jF ⟨#[113,117,111,116,101]⟩=false:=aa (by decide)
  have q1:eqB jF ⟨#[113,117,97,115,105,113,117,111,116,101]⟩=false:=aa (by decide)
  have q2:eqB jF ⟨#[108,97,109,98,100,97]⟩=false:=aa (by decide)
  have q3:eqB jF ⟨#[115,101,116,33]⟩=true:=aU rfl
  have q4:eqB jF ⟨#[105,102]⟩=false:=aa (by decide)
  have q5:eqB jF ⟨#[98,101,103,105,110]⟩=false:=aa (by decide)
  have q6:eqB jF ⟨#[99,97,115,101]⟩=false:=aa (by decide)
  have q7:eqB jF ⟨#[119,104,101,110]⟩=false:=aa (by decide)
  have q8:eqB jF ⟨#[117,110,108,101,115,115]⟩=false:=aa (by decide)
  by_cases hn:l0.length=2
  ·obtain⟨a,b,rfl⟩:∃a b,l0=[a,b]:=by match l0,hn with|[a,b],_=>exact⟨a,b,rfl⟩
   have hv:=fj a
   have hx:=hE.e b hl.tail.head
   have hb:=af (aM a).2 (ev.e b).2 (cF _) (hE.e2 _)
   rw [show bD ev jF [a,b]=(lc (aM a).1 (ev.e b).1,max (aM a).2 (ev.e b).2) by unfold bD;(repeat rw [if_neg (by first|decide|(rintro ⟨h,-⟩;exact absurd h (by decide)))]);rw [if_pos ⟨rfl,rfl⟩];rfl]
   simp only [List.map_cons,List.map_nil,rsA] at hx ⊢
   refine fi Tryz.func89 Tryz.ntmps89 Tryz.results89 ?_
   repeat (first|(apply fw;(with_reducible constructor)<;>rfl)|(apply WpA.cd;constructor)|((first|with_reducible refine WpA.go _ rfl fun Y y=>?_|apply RunTo.id);simp only [zb,seval,w89,kcc,bj,q0,q1,q2,q3,q4,q5,q6,q7,q8];refine fz y ?_;clear y Y))
   refine cz (hv) ?_
   (refine WpL.go _ rfl fun Y y=>?_);repeat (first|(apply fw;(with_reducible constructor)<;>rfl)|(apply WpA.cd;constructor)|((first|with_reducible refine WpA.go _ rfl fun Y y=>?_|apply RunTo.id);simp only [zb,seval,w89,kcc];refine fz y ?_;clear y Y))
   refine cz (hx) ?_
   (refine WpL.go _ rfl fun Y y=>?_);repeat (first|(apply fw;(with_reducible constructor)<;>rfl)|(apply WpA.cd;constructor)|((first|with_reducible refine WpA.go _ rfl fun Y y=>?_|apply RunTo.id);simp only [zb,seval,w89,kcc];refine fz y ?_;clear y Y))
   (refine WpA.draw0 7 _ _ _ rfl rfl rfl (by kernel_rfl) (by kernel_rfl) (by kernel_rfl) fun K8 hK8=>?_);simp only [zz] at hK8 ⊢;(refine Draw0.go fun K7 k=>?_);simp only [zb,seval,w89,kcc];(refine qz (k _ _ ?_));clear k K7;(try ((refine Draw0.nil (hK8 _ ?_));clear hK8 K8;(refine WpL.go _ rfl fun Y y=>?_);repeat (first|(apply fw;(with_reducible constructor)<;>rfl)|(apply WpA.cd;constructor)|((first|with_reducible refine WpA.go _ rfl fun Y y=>?_|apply RunTo.id);simp only [zb,seval,w89,kcc];refine fz y ?_;clear y Y))))
   refine Draw0.step (OpS.frozen (n:=1) (wd:=11) (ty:=31) (rows:=[(ev.e b).1.cc]) (OpS.eff [(84,_)] rfl (by rfl) ⟨rfl,trivial⟩ (by simp only [zb,seval,w89,kcc];rfl) (by simp)) rfl (by simp [ksh])) ?_;simp only [bf]
   (refine Draw0.go fun K7 k=>?_);simp only [zb,seval,w89,kcc];(refine qz (k _ _ ?_));clear k K7;(try ((refine Draw0.nil (hK8 _ ?_));clear hK8 K8;(refine WpL.go _ rfl fun Y y=>?_);repeat (first|(apply fw;(with_reducible constructor)<;>rfl)|(apply WpA.cd;constructor)|((first|with_reducible refine WpA.go _ rfl fun Y y=>?_|apply RunTo.id);simp only [zb,seval,w89,kcc];refine fz y ?_;clear y Y))))
   refine Draw0.step (oz (hb)) ?_
   (refine Draw0.go fun K7 k=>?_);simp only [zb,seval,w89,kcc];(refine qz (k _ _ ?_));clear k K7;(try ((refine Draw0.nil (hK8 _ ?_));clear hK8 K8;(refine WpL.go _ rfl fun Y y=>?_);repeat (first|(apply fw;(with_reducible constructor)<;>rfl)|(apply WpA.cd;constructor)|((first|with_reducible refine WpA.go _ rfl fun Y y=>?_|apply RunTo.id);simp only [zb,seval,w89,kcc];refine fz y ?_;clear y Y))))
   refine⟨by simp,_,_,_,_,(by simp only [zb,seval,w89,kcc];rfl),(by simp),(by simp only [zv,kcc];rfl),(by simp [ksh]),_,(by simp only [rcc];exact ae),rfl⟩
  ·have m2:((l0.length:Int) == 2)=false:=by simp;omega
   rw [show bD ev jF l0=aQ ev jF l0 by unfold bD;(repeat rw [if_neg (by first|decide|assumption|(rintro ⟨h,-⟩;exact absurd h (by first|decide|assumption))|(rintro ⟨-,h⟩;omega))])]
   simp only [rsA]
   refine fi Tryz.func89 Tryz.ntmps89 Tryz.results89 ?_
   repeat (first|(apply fw;(with_reducible constructor)<;>rfl)|(apply WpA.cd;constructor)|((first|with_reducible refine WpA.go _ rfl fun Y y=>?_|apply RunTo.id);simp only [zb,seval,w89,kcc,bj,q0,q1,q2,q3,q4,q5,q6,q7,q8,m2];refine fz y ?_;clear y Y))
   refine cz (hde) ?_
   (refine WpL.go _ rfl fun Y y=>?_);repeat (first|(apply fw;(with_reducible constructor)<;>rfl)|(apply WpA.cd;constructor)|((first|with_reducible refine WpA.go _ rfl fun Y y=>?_|apply RunTo.id);simp only [zb,seval,w89,kcc];refine fz y ?_;clear y Y))
   refine ye (by simp only [zb,seval,w89,kcc];rfl) (by simp only [zv,kcc];rfl) ?_
   rfl
 by_cases ksIf:w=sIf
 ·subst ksIf
  have q0:eqB sIf ⟨#[113,117,111,116,101]⟩=false:=aa (by decide)
  have q1:eqB sIf ⟨#[113,117,97,115,105,113,117,111,116,101]⟩=false:=aa (by decide)
  have q2:eqB sIf ⟨#[108,97,109,98,100,97]⟩=false:=aa (by decide)
  have q3:eqB sIf ⟨#[115,101,116,33]⟩=false:=aa (by decide)
  have q4:eqB sIf ⟨#[105,102]⟩=true:=aU rfl
  have q5:eqB sIf ⟨#[98,101,103,105,110]⟩=false:=aa (by decide)
  have q6:eqB sIf ⟨#[99,97,115,101]⟩=false:=aa (by decide)
  have q7:eqB sIf ⟨#[119,104,101,110]⟩=false:=aa (by decide)
  have q8:eqB sIf ⟨#[117,110,108,101,115,115]⟩=false:=aa (by decide)
  by_cases hn:l0.length=2
  ·obtain⟨a,b,rfl⟩:∃a b,l0=[a,b]:=by match l0,hn with|[a,b],_=>exact⟨a,b,rfl⟩
   have hno:=dM
   have hbr:=ce (ev.e a).1 (ev.e b).1 aZ
   rw [show bD ev sIf [a,b]=(ai (ev.e a).1 (ev.e b).1 aZ,(aw ev.e [a,b]).2) by unfold bD;(repeat rw [if_neg (by first|decide|(rintro ⟨h,-⟩;exact absurd h (by decide)))]);rw [if_pos ⟨rfl,rfl⟩];rfl]
   simp only [rsA]
   refine fi Tryz.func89 Tryz.ntmps89 Tryz.results89 ?_
   repeat (first|(apply fw;(with_reducible constructor)<;>rfl)|(apply WpA.cd;constructor)|((first|with_reducible refine WpA.go _ rfl fun Y y=>?_|apply RunTo.id);simp only [zb,seval,w89,kcc,bj,q0,q1,q2,q3,q4,q5,q6,q7,q8];refine fz y ?_;clear y Y))
   refine WpL.handAll rfl (ab (P:=Tryz.prog) rfl) rfl rfl (by kernel_rfl) (ALes.refl _) (pP hE [a,b] hl _) ?_
   rintro _ S5 ⟨cB,rfl,hAB,hfrB,hlB,hkB⟩
   have h05:=hkB 0 _ rfl
   rw [show (aw ev.e [a,b]).1.map K.cc=[(ev.e a).1.cc,(ev.e b).1.cc] from rfl] at hAB
   have hB0:∀m,cB≠.ms 0 m:=fun m e=>by have:=hfrB _ _ e;simp at this
   (refine WpL.go _ rfl fun Y y=>?_);repeat (first|(apply fw;(with_reducible constructor)<;>rfl)|(apply WpA.cd;constructor)|((first|with_reducible refine WpA.go _ rfl fun Y y=>?_|apply RunTo.id);simp only [zb,seval,w89,kcc];refine fz y ?_;clear y Y))
   refine cz (hno) ?_
   simp only [St.put]
   (try simp only [St.put]);(refine WpL.op rfl (ab (P:=Tryz.prog) rfl) (ag (by simp only [zb,seval,w89,kcc];rfl) (by first|(simp;done)|omega|(simp;omega))) ?_);simp only [St.put]
   obtain⟨S8,j,hA8,hj8,hl8,hfr8,hpl8,hop8⟩:=cM (P:=Tryz.prog) (T:=29) (by_:=176) aW aX aY (by omega) (S:=S5++[some ⟨31,11,[aZ.cc]⟩]) (hAB.app _) (q:=S5.length) (new:=[aZ.cc]) (eG _ _ _) (by simp) (fun n e=>by have:=hAB.lt e;omega) (by simp) (by simp)
   simp only [List.length_cons,List.length_nil,Nat.zero_add] at hop8 hA8
   have h08:=hfr8 0 _ (bz h05) hB0
   have hof:∀m,C.ms j (1+1+1)≠.ms 0 m:=fun m e=>by
    have e1:=(C.ms.inj e).1
    rcases hpl8 with q|q
    ·exact hB0 _ (e1▸q)
    ·rw [List.length_append] at q;simp only [List.length_cons,List.length_nil] at q;omega
   refine WpL.aop rfl (hop8 _ _ _ rfl rfl) ?_
   simp only [St.put]
   (try simp only [St.put]);(refine WpL.op rfl (ab (P:=Tryz.prog) rfl) (ag (by simp only [zb,seval,w89];rfl) (by first|(simp;done)|omega|(simp;omega))) ?_);simp only [St.put]
   refine WpL.frzAt 11 hA8.au (by simp [ksh]) rfl fun S9 hl9 ho9=>?_
   have h09:=ho9 0 _ h08 hof
   have hS9:=(List.getElem?_eq_some_iff.1 h09).1
   have hset9:∀(a:Option Ob),(S9.set 0 a)[0]?=some a:=fun a=>List.getElem?_set_self hS9
   (refine WpL.go _ rfl fun Y y=>?_);repeat (first|(apply fw;(with_reducible constructor)<;>rfl)|(apply WpA.cd;constructor)|((first|with_reducible refine WpA.go _ rfl fun Y y=>?_|apply RunTo.id);simp only [zb,seval,w89];refine fz y ?_;clear y Y))
   have hle:∀s∈[S9,S9.set 0 (some ⟨31,11,[(ai (ev.e a).1 (ev.e b).1 aZ).cc]⟩)],LeS [] s:=fun s _=>LeS.of (SLe.nil s)
   skip
   refine WpA.draw1 12 [11] [] [S9,S9.set 0 (some ⟨31,11,[(ai (ev.e a).1 (ev.e b).1 aZ).cc]⟩)] _ _ _ _ rfl rfl rfl (by kernel_rfl) (by kernel_rfl) (by kernel_rfl) (by kernel_rfl) rfl rfl rfl rfl (by decide) fun K8 hK8=>?_
   simp only [zz] at hK8 ⊢
   (refine Draw1.go fun K7 hK7=>?_);simp only [zb,seval,w89,kcc];(refine RunQ.mk (by first|(simp;done)|omega|(simp;omega)) (hK7 _ _ (by rfl) ?_));clear hK7 K7;(simp only [zz,Nat.reduceAdd,Nat.reduceSub]);(try ((refine Draw1.nil hle (hK8 _ ?_));clear hK8 K8;(refine WpL.go _ rfl fun Y y=>?_);repeat (first|(apply fw;(with_reducible constructor)<;>rfl)|(apply WpA.cd;constructor)|((first|with_reducible refine WpA.go _ rfl fun Y y=>?_|apply RunTo.id);simp only [zb,seval,w89,kcc];refine fz y ?_;clear y Y))))
   refine Draw1.step (by rfl) (fun s9 _=>oz (hbr)) ?_
   (refine Draw1.go fun K7 hK7=>?_);simp only [zb,seval,w89,kcc];(refine RunQ.mk (by first|(simp;done)|omega|(simp;omega)) (hK7 _ _ (by rfl) ?_));clear hK7 K7;(simp only [zz,Nat.reduceAdd,Nat.reduceSub]);(try ((refine Draw1.nil hle (hK8 _ ?_));clear hK8 K8;(refine WpL.go _ rfl fun Y y=>?_);repeat (first|(apply fw;(with_reducible constructor)<;>rfl)|(apply WpA.cd;constructor)|((first|with_reducible refine WpA.go _ rfl fun Y y=>?_|apply RunTo.id);simp only [zb,seval,w89,kcc];refine fz y ?_;clear y Y))))
   refine Draw1.eff 0 rfl rfl rfl (OpS.eff [(4,_),(121,_)] rfl (by rfl) ⟨rfl,rfl,trivial⟩ (by simp only [zb,seval,w89,kcc,h09];rfl) (by first|(simp;done)|omega|(simp;omega))) ?_;(try simp only [bf]);(try ((refine Draw1.go fun K7 hK7=>?_);simp only [zb,seval,w89,kcc,h09];(refine RunQ.mk (by first|(simp;done)|omega|(simp;omega)) (hK7 _ _ (by rfl) ?_));clear hK7 K7;(simp only [zz,Nat.reduceAdd,Nat.reduceSub]);(try ((refine Draw1.nil hle (hK8 _ ?_));clear hK8 K8;(refine WpL.go _ rfl fun Y y=>?_);repeat (first|(apply fw;(with_reducible constructor)<;>rfl)|(apply WpA.cd;constructor)|((first|with_reducible refine WpA.go _ rfl fun Y y=>?_|apply RunTo.id);simp only [zb,seval,w89,kcc,h09];refine fz y ?_;clear y Y))))))
   skip
   refine ye (by simp only [zb,seval,w89,kcc,hset9];rfl) (by simp only [zv,kcc,hset9];rfl) ?_
   rfl
  by_cases hn3:l0.length=3
  ·obtain⟨a,b,c,rfl⟩:∃a b c,l0=[a,b,c]:=by match l0,hn3 with|[a,b,c],_=>exact⟨a,b,c,rfl⟩
   have hec:=eU hE [a,b,c] hl
   have hbr:=ce (ev.e a).1 (ev.e b).1 (ev.e c).1
   rw [show bD ev sIf [a,b,c]=(ai (ev.e a).1 (ev.e b).1 (ev.e c).1,(aw ev.e [a,b,c]).2) by unfold bD;(iterate 5 rw [if_neg (by first|decide|(rintro ⟨h,-⟩;exact absurd h (by decide))|(rintro ⟨-,h⟩;simp at h))]);rw [if_pos ⟨rfl,rfl⟩];rfl]
   simp only [rlA] at hec
   rw [show (aw ev.e [a,b,c]).1.map K.cc=[(ev.e a).1.cc,(ev.e b).1.cc,(ev.e c).1.cc] from rfl] at hec
   simp only [rsA]
   refine fi Tryz.func89 Tryz.ntmps89 Tryz.results89 ?_
   repeat (first|(apply fw;(with_reducible constructor)<;>rfl)|(apply WpA.cd;constructor)|((first|with_reducible refine WpA.go _ rfl fun Y y=>?_|apply RunTo.id);simp only [zb,seval,w89,kcc,bj,q0,q1,q2,q3,q4,q5,q6,q7,q8];refine fz y ?_;clear y Y))
   refine cz (hec) ?_
   (refine WpL.go _ rfl fun Y y=>?_);repeat (first|(apply fw;(with_reducible constructor)<;>rfl)|(apply WpA.cd;constructor)|((first|with_reducible refine WpA.go _ rfl fun Y y=>?_|apply RunTo.id);simp only [zb,seval,w89,kcc];refine fz y ?_;clear y Y))
   have hle:∀s∈[[some ⟨31,11,[[.v (.int .i64 0),.v (.string ⟨#[]⟩),.v (.string ⟨#[]⟩),.v (.slice none 0 0),.v (.int .i64 0),.v (.int .i32 0),.v (.bool false),.v (.slice none 0 0),.v (.string ⟨#[]⟩),.v (.slice none 0 0),.v (.slice none 0 0)]]⟩],[some ⟨31,11,[(ai (ev.e a).1 (ev.e b).1 (ev.e c).1).cc]⟩]],LeS [] s:=fun s _=>LeS.of (SLe.nil s)
   skip
   refine WpA.draw1 12 [11] [] [[some ⟨31,11,[[.v (.int .i64 0),.v (.string ⟨#[]⟩),.v (.string ⟨#[]⟩),.v (.slice none 0 0),.v (.int .i64 0),.v (.int .i32 0),.v (.bool false),.v (.slice none 0 0),.v (.string ⟨#[]⟩),.v (.slice none 0 0),.v (.slice none 0 0)]]⟩],[some ⟨31,11,[(ai (ev.e a).1 (ev.e b).1 (ev.e c).1).cc]⟩]] _ _ _ _ rfl rfl rfl (by kernel_rfl) (by kernel_rfl) (by kernel_rfl) (by kernel_rfl) rfl rfl rfl rfl (by decide) fun K8 hK8=>?_
   simp only [zz] at hK8 ⊢
   (refine Draw1.go fun K7 hK7=>?_);simp only [zb,seval,w89,kcc];(refine RunQ.mk (by first|(simp;done)|omega|(simp;omega)) (hK7 _ _ (by rfl) ?_));clear hK7 K7;(simp only [zz,Nat.reduceAdd,Nat.reduceSub]);(try ((refine Draw1.nil hle (hK8 _ ?_));clear hK8 K8;(refine WpL.go _ rfl fun Y y=>?_);repeat (first|(apply fw;(with_reducible constructor)<;>rfl)|(apply WpA.cd;constructor)|((first|with_reducible refine WpA.go _ rfl fun Y y=>?_|apply RunTo.id);simp only [zb,seval,w89,kcc];refine fz y ?_;clear y Y))))
   refine Draw1.step (by rfl) (fun s9 _=>oz (hbr)) ?_
   (refine Draw1.go fun K7 hK7=>?_);simp only [zb,seval,w89,kcc];(refine RunQ.mk (by first|(simp;done)|omega|(simp;omega)) (hK7 _ _ (by rfl) ?_));clear hK7 K7;(simp only [zz,Nat.reduceAdd,Nat.reduceSub]);(try ((refine Draw1.nil hle (hK8 _ ?_));clear hK8 K8;(refine WpL.go _ rfl fun Y y=>?_);repeat (first|(apply fw;(with_reducible constructor)<;>rfl)|(apply WpA.cd;constructor)|((first|with_reducible refine WpA.go _ rfl fun Y y=>?_|apply RunTo.id);simp only [zb,seval,w89,kcc];refine fz y ?_;clear y Y))))
   refine Draw1.eff 0 rfl rfl rfl (OpS.eff [(4,_),(121,_)] rfl (by rfl) ⟨rfl,rfl,trivial⟩ (by simp only [zb,seval,w89,kcc];rfl) (by first|(simp;done)|omega|(simp;omega))) ?_;(try simp only [bf]);(try ((refine Draw1.go fun K7 hK7=>?_);simp only [zb,seval,w89,kcc];(refine RunQ.mk (by first|(simp;done)|omega|(simp;omega)) (hK7 _ _ (by rfl) ?_));clear hK7 K7;(simp only [zz,Nat.reduceAdd,Nat.reduceSub]);(try ((refine Draw1.nil hle (hK8 _ ?_));clear hK8 K8;(refine WpL.go _ rfl fun Y y=>?_);repeat (first|(apply fw;(with_reducible constructor)<;>rfl)|(apply WpA.cd;constructor)|((first|with_reducible refine WpA.go _ rfl fun Y y=>?_|apply RunTo.id);simp only [zb,seval,w89,kcc];refine fz y ?_;clear y Y))))))
   skip
   refine ye (by simp only [zb,seval,w89,kcc];rfl) (by simp only [zv,kcc];rfl) ?_
   rfl
  ·have m2:((l0.length:Int) == 2)=false:=by simp;omega
   have m3:((l0.length:Int) == 3)=false:=by simp;omega
   rw [show bD ev sIf l0=aQ ev sIf l0 by unfold bD;(repeat rw [if_neg (by first|decide|assumption|(rintro ⟨h,-⟩;exact absurd h (by first|decide|assumption))|(rintro ⟨-,h⟩;omega))])]
   simp only [rsA]
   refine fi Tryz.func89 Tryz.ntmps89 Tryz.results89 ?_
   repeat (first|(apply fw;(with_reducible constructor)<;>rfl)|(apply WpA.cd;constructor)|((first|with_reducible refine WpA.go _ rfl fun Y y=>?_|apply RunTo.id);simp only [zb,seval,w89,kcc,bj,q0,q1,q2,q3,q4,q5,q6,q7,q8,m2,m3];refine fz y ?_;clear y Y))
   refine cz (hde) ?_
   (refine WpL.go _ rfl fun Y y=>?_);repeat (first|(apply fw;(with_reducible constructor)<;>rfl)|(apply WpA.cd;constructor)|((first|with_reducible refine WpA.go _ rfl fun Y y=>?_|apply RunTo.id);simp only [zb,seval,w89,kcc];refine fz y ?_;clear y Y))
   refine ye (by simp only [zb,seval,w89,kcc];rfl) (by simp only [zv,kcc];rfl) ?_
   rfl
 by_cases ksBegin:w=bW
 ·subst ksBegin
  have q0:eqB bW ⟨#[113,117,111,116,101]⟩=false:=aa (by decide)
  have q1:eqB bW ⟨#[113,117,97,115,105,113,117,111,116,101]⟩=false:=aa (by decide)
  have q2:eqB bW ⟨#[108,97,109,98,100,97]⟩=false:=aa (by decide)
  have q3:eqB bW ⟨#[115,101,116,33]⟩=false:=aa (by decide)
  have q4:eqB bW ⟨#[105,102]⟩=false:=aa (by decide)
  have q5:eqB bW ⟨#[98,101,103,105,110]⟩=true:=aU rfl
  have q6:eqB bW ⟨#[99,97,115,101]⟩=false:=aa (by decide)
  have q7:eqB bW ⟨#[119,104,101,110]⟩=false:=aa (by decide)
  have q8:eqB bW ⟨#[117,110,108,101,115,115]⟩=false:=aa (by decide)
  have hc:=dx hE l0 hl
  rw [show bD ev bW l0=cH ev.e l0 by unfold bD;(repeat rw [if_neg (by first|decide|(rintro ⟨h,-⟩;exact absurd h (by decide))|(rintro ⟨-,h⟩;omega))]);rw [if_pos (by first|exact⟨rfl,by omega⟩|rfl)]]
  simp only [rsA] at hc ⊢
  refine fi Tryz.func89 Tryz.ntmps89 Tryz.results89 ?_
  repeat (first|(apply fw;(with_reducible constructor)<;>rfl)|(apply WpA.cd;constructor)|((first|with_reducible refine WpA.go _ rfl fun Y y=>?_|apply RunTo.id);simp only [zb,seval,w89,kcc,bj,q0,q1,q2,q3,q4,q5,q6,q7,q8];refine fz y ?_;clear y Y))
  refine cz (hc) ?_
  (refine WpL.go _ rfl fun Y y=>?_);repeat (first|(apply fw;(with_reducible constructor)<;>rfl)|(apply WpA.cd;constructor)|((first|with_reducible refine WpA.go _ rfl fun Y y=>?_|apply RunTo.id);simp only [zb,seval,w89,kcc];refine fz y ?_;clear y Y))
  refine ye (by simp only [zb,seval,w89,kcc];rfl) (by simp only [zv,kcc];rfl) ?_
  rfl
 by_cases ksCase:w=fW
 ·subst ksCase
  have q0:eqB fW ⟨#[113,117,111,116,101]⟩=false:=aa (by decide)
  have q1:eqB fW ⟨#[113,117,97,115,105,113,117,111,116,101]⟩=false:=aa (by decide)
  have q2:eqB fW ⟨#[108,97,109,98,100,97]⟩=false:=aa (by decide)
  have q3:eqB fW ⟨#[115,101,116,33]⟩=false:=aa (by decide)
  have q4:eqB fW ⟨#[105,102]⟩=false:=aa (by decide)
  have q5:eqB fW ⟨#[98,101,103,105,110]⟩=false:=aa (by decide)
  have q6:eqB fW ⟨#[99,97,115,101]⟩=true:=aU rfl
  have q7:eqB fW ⟨#[119,104,101,110]⟩=false:=aa (by decide)
  have q8:eqB fW ⟨#[117,110,108,101,115,115]⟩=false:=aa (by decide)
  match l0,hl with
  | [],hl =>
   have g1:decide ((1:Int)≤((([]:List D).length:Nat):Int))=false:=by decide
   rw [show bD ev fW []=aQ ev fW [] from rfl]
   simp only [rsA]
   simp only [List.map_nil] at hde ⊢
   refine fi Tryz.func89 Tryz.ntmps89 Tryz.results89 ?_
   repeat (first|(apply fw;(with_reducible constructor)<;>rfl)|(apply WpA.cd;constructor)|((first|with_reducible refine WpA.go _ rfl fun Y y=>?_|apply RunTo.id);simp only [zb,seval,w89,kcc,bj,q0,q1,q2,q3,q4,q5,q6,q7,q8];refine fz y ?_;clear y Y))
   refine cz (hde) ?_
   (refine WpL.go _ rfl fun Y y=>?_);repeat (first|(apply fw;(with_reducible constructor)<;>rfl)|(apply WpA.cd;constructor)|((first|with_reducible refine WpA.go _ rfl fun Y y=>?_|apply RunTo.id);simp only [zb,seval,w89,kcc];refine fz y ?_;clear y Y))
   refine ye (by simp only [zb,seval,w89,kcc];rfl) (by simp only [zv,kcc];rfl) ?_
   rfl
  | a::r,hl =>
   obtain⟨l,hlr⟩:∃l,a::r=l:=⟨_,rfl⟩
   obtain⟨c0,ct,cd,cl,cn,c11,c00,c22⟩:=jc a r l hlr
   have g1:decide ((1:Int)≤(l.length:Int))=true:=by simp;omega
   have hle1:(1:Int)≤(l.length:Int):=by omega
   have hch:=mu hE r hl.tail
   have wch:=je hE r
   rw [show bD ev fW (a::r)=((bT ev a (c7 ev r).1).1,max (c7 ev r).2 (bT ev a (c7 ev r).1).2) by unfold bD;(repeat rw [if_neg (by first|decide|(rintro ⟨h,-⟩;exact absurd h (by decide)))]);rw [if_pos ⟨rfl,by simp⟩];rfl,hlr]
   simp only [rsA] at hch ⊢
   generalize c7 ev r=C0 at *
   have hte:=ik hE a C0.1 hl.head
   have wte:=ei hE a C0.1
   simp only [rsA] at hte
   generalize bT ev a C0.1=T0 at *
   have hb:=af C0.2 T0.2 wch wte
   refine fi Tryz.func89 Tryz.ntmps89 Tryz.results89 ?_
   repeat (first|(apply fw;(with_reducible constructor)<;>rfl)|(apply WpA.cd;constructor)|((first|with_reducible refine WpA.go _ rfl fun Y y=>?_|apply RunTo.id);simp only [zb,seval,w89,kcc,bj,q0,q1,q2,q3,q4,q5,q6,q7,q8,g1,ct,cd,cn,c11];refine fz y ?_;clear y Y))
   refine cz (hch) ?_
   (refine WpL.go _ rfl fun Y y=>?_);repeat (first|(apply fw;(with_reducible constructor)<;>rfl)|(apply WpA.cd;constructor)|((first|with_reducible refine WpA.go _ rfl fun Y y=>?_|apply RunTo.id);simp only [zb,seval,w89,kcc];refine fz y ?_;clear y Y))
   (refine WpA.draw1c 10 [8,9] [_,?_,?_] _ _ _ _ rfl rfl rfl (by kernel_rfl) (by kernel_rfl) (by kernel_rfl) (by kernel_rfl) rfl rfl rfl rfl (by decide) fun K8 hK8=>?_);rotate_left 2;simp only [zz] at hK8 ⊢;(refine Draw1.go fun K7 k=>?_);simp only [zb,seval,w89,kcc,c0];(refine qz (k _ _ (by rfl) ?_));clear k K7;(simp only [zz,Nat.reduceAdd,Nat.reduceSub]);(try ((refine nz (hK8 _ ?_));clear hK8 K8;(refine WpL.go _ rfl fun Y y=>?_);repeat (first|(apply fw;(with_reducible constructor)<;>rfl)|(apply WpA.cd;constructor)|((first|with_reducible refine WpA.go _ rfl fun Y y=>?_|apply RunTo.id);simp only [zb,seval,w89,kcc,c0];refine fz y ?_;clear y Y))))
   refine Draw1.step (by rfl) (fun s9 _=>oz (hte)) ?_
   (refine Draw1.go fun K7 k=>?_);simp only [zb,seval,w89,kcc];(refine qz (k _ _ (by rfl) ?_));clear k K7;(simp only [zz,Nat.reduceAdd,Nat.reduceSub]);(try ((refine nz (hK8 _ ?_));clear hK8 K8;(refine WpL.go _ rfl fun Y y=>?_);repeat (first|(apply fw;(with_reducible constructor)<;>rfl)|(apply WpA.cd;constructor)|((first|with_reducible refine WpA.go _ rfl fun Y y=>?_|apply RunTo.id);simp only [zb,seval,w89,kcc];refine fz y ?_;clear y Y))))
   refine Draw1.eff 0 rfl rfl rfl (OpS.eff [] rfl (by rfl) trivial (by simp only [zb,seval,w89,kcc];rfl) (by first|(simp;done)|omega|(simp;omega))) ?_;(try simp only [bf]);(try ((refine Draw1.go fun K7 k=>?_);simp only [zb,seval,w89,kcc];(refine qz (k _ _ (by rfl) ?_));clear k K7;(simp only [zz,Nat.reduceAdd,Nat.reduceSub]);(try ((refine nz (hK8 _ ?_));clear hK8 K8;(refine WpL.go _ rfl fun Y y=>?_);repeat (first|(apply fw;(with_reducible constructor)<;>rfl)|(apply WpA.cd;constructor)|((first|with_reducible refine WpA.go _ rfl fun Y y=>?_|apply RunTo.id);simp only [zb,seval,w89,kcc];refine fz y ?_;clear y Y))))))
   refine Draw1.eff 1 rfl rfl rfl (OpS.eff [(15,_),(149,_)] rfl (by rfl) ⟨rfl,rfl,trivial⟩ (by simp only [zb,seval,w89,kcc];rfl) (by first|(simp;done)|omega|(simp;omega))) ?_;(try simp only [bf]);(try ((refine Draw1.go fun K7 k=>?_);simp only [zb,seval,w89,kcc];(refine qz (k _ _ (by rfl) ?_));clear k K7;(simp only [zz,Nat.reduceAdd,Nat.reduceSub]);(try ((refine nz (hK8 _ ?_));clear hK8 K8;(refine WpL.go _ rfl fun Y y=>?_);repeat (first|(apply fw;(with_reducible constructor)<;>rfl)|(apply WpA.cd;constructor)|((first|with_reducible refine WpA.go _ rfl fun Y y=>?_|apply RunTo.id);simp only [zb,seval,w89,kcc];refine fz y ?_;clear y Y))))))
   (refine WpA.draw0 4 _ _ _ rfl rfl rfl (by kernel_rfl) (by kernel_rfl) (by kernel_rfl) fun K8 hK8=>?_);simp only [zz] at hK8 ⊢;(refine Draw0.go fun K7 k=>?_);simp only [zb,seval,w89,kcc];(refine qz (k _ _ ?_));clear k K7;(try ((refine Draw0.nil (hK8 _ ?_));clear hK8 K8;(refine WpL.go _ rfl fun Y y=>?_);repeat (first|(apply fw;(with_reducible constructor)<;>rfl)|(apply WpA.cd;constructor)|((first|with_reducible refine WpA.go _ rfl fun Y y=>?_|apply RunTo.id);simp only [zb,seval,w89,kcc];refine fz y ?_;clear y Y))))
   refine Draw0.step (oz (hb)) ?_
   (refine Draw0.go fun K7 k=>?_);simp only [zb,seval,w89,kcc];(refine qz (k _ _ ?_));clear k K7;(try ((refine Draw0.nil (hK8 _ ?_));clear hK8 K8;(refine WpL.go _ rfl fun Y y=>?_);repeat (first|(apply fw;(with_reducible constructor)<;>rfl)|(apply WpA.cd;constructor)|((first|with_reducible refine WpA.go _ rfl fun Y y=>?_|apply RunTo.id);simp only [zb,seval,w89,kcc];refine fz y ?_;clear y Y))))
   refine ye (by simp only [zb,seval,w89,kcc];rfl) (by simp only [zv,kcc];rfl) ?_
   rfl
 by_cases ksWhen:w=fX
 ·subst ksWhen
  have q0:eqB fX ⟨#[113,117,111,116,101]⟩=false:=aa (by decide)
  have q1:eqB fX ⟨#[113,117,97,115,105,113,117,111,116,101]⟩=false:=aa (by decide)
  have q2:eqB fX ⟨#[108,97,109,98,100,97]⟩=false:=aa (by decide)
  have q3:eqB fX ⟨#[115,101,116,33]⟩=false:=aa (by decide)
  have q4:eqB fX ⟨#[105,102]⟩=false:=aa (by decide)
  have q5:eqB fX ⟨#[98,101,103,105,110]⟩=false:=aa (by decide)
  have q6:eqB fX ⟨#[99,97,115,101]⟩=false:=aa (by decide)
  have q7:eqB fX ⟨#[119,104,101,110]⟩=true:=aU rfl
  have q8:eqB fX ⟨#[117,110,108,101,115,115]⟩=false:=aa (by decide)
  by_cases hn:l0.length<2
  ·have g2:decide ((2:Int)≤(l0.length:Int))=false:=by simp;omega
   rw [show bD ev fX l0=aQ ev fX l0 by unfold bD;(repeat rw [if_neg (by first|decide|assumption|(rintro ⟨h,-⟩;exact absurd h (by first|decide|assumption))|(rintro ⟨-,h⟩;omega))])]
   simp only [rsA]
   refine fi Tryz.func89 Tryz.ntmps89 Tryz.results89 ?_
   repeat (first|(apply fw;(with_reducible constructor)<;>rfl)|(apply WpA.cd;constructor)|((first|with_reducible refine WpA.go _ rfl fun Y y=>?_|apply RunTo.id);simp only [zb,seval,w89,kcc,bj,q0,q1,q2,q3,q4,q5,q6,q7,q8,g2];refine fz y ?_;clear y Y))
   refine cz (hde) ?_
   (refine WpL.go _ rfl fun Y y=>?_);repeat (first|(apply fw;(with_reducible constructor)<;>rfl)|(apply WpA.cd;constructor)|((first|with_reducible refine WpA.go _ rfl fun Y y=>?_|apply RunTo.id);simp only [zb,seval,w89,kcc];refine fz y ?_;clear y Y))
   refine ye (by simp only [zb,seval,w89,kcc];rfl) (by simp only [zv,kcc];rfl) ?_
   rfl
  ·obtain⟨a,r,hlr⟩:∃a r,a::r=l0:=by
    match l0,hn with
    | [],h=>exact absurd (by simp) h
    | a::r,_=>exact⟨a,r,rfl⟩
   obtain⟨c0,ct,cd,cl,cn,c11,c00,c22⟩:=jc a r l0 hlr
   have g2:decide ((2:Int)≤(l0.length:Int))=true:=by simp;omega
   have hle1:(1:Int)≤(l0.length:Int):=by omega
   have ha:Gd n a:=(hlr▸hl:Gds n (a::r)).head
   have hr:Gds n r:=(hlr▸hl:Gds n (a::r)).tail
   have hx:=hE.e a ha
   have hs:=dx hE r hr
   have hb:=af (ev.e a).2 (cH ev.e r).2 (hE.e2 _) (fk hE r)
   have hno:=dM
   rw [show bD ev fX l0=(ai (ev.e a).1 (cH ev.e r).1 aZ,max (ev.e a).2 (cH ev.e r).2) by rw [←hlr];unfold bD;(repeat rw [if_neg (by first|decide|(rintro ⟨h,-⟩;exact absurd h (by decide)))]);rw [if_pos ⟨rfl,by rw [hlr];omega⟩];rfl]
   simp only [rsA] at hx hs ⊢
   generalize ev.e a=X at *
   generalize cH ev.e r=Y at *
   have hbr:=ce X.1 Y.1 aZ
   refine fi Tryz.func89 Tryz.ntmps89 Tryz.results89 ?_
   repeat (first|(apply fw;(with_reducible constructor)<;>rfl)|(apply WpA.cd;constructor)|((first|with_reducible refine WpA.go _ rfl fun Y y=>?_|apply RunTo.id);simp only [zb,seval,w89,kcc,bj,q0,q1,q2,q3,q4,q5,q6,q7,q8,g2,c0];refine fz y ?_;clear y Y))
   refine cz (hx) ?_
   (refine WpL.go _ rfl fun Y y=>?_);repeat (first|(apply fw;(with_reducible constructor)<;>rfl)|(apply WpA.cd;constructor)|((first|with_reducible refine WpA.go _ rfl fun Y y=>?_|apply RunTo.id);simp only [zb,seval,w89,kcc,ct,cd,cn,c11];refine fz y ?_;clear y Y))
   refine cz (hs) ?_
   (refine WpL.go _ rfl fun Y y=>?_);repeat (first|(apply fw;(with_reducible constructor)<;>rfl)|(apply WpA.cd;constructor)|((first|with_reducible refine WpA.go _ rfl fun Y y=>?_|apply RunTo.id);simp only [zb,seval,w89,kcc];refine fz y ?_;clear y Y))
   refine cz (hb) ?_
   (refine WpL.go _ rfl fun Y y=>?_);repeat (first|(apply fw;(with_reducible constructor)<;>rfl)|(apply WpA.cd;constructor)|((first|with_reducible refine WpA.go _ rfl fun Y y=>?_|apply RunTo.id);simp only [zb,seval,w89,kcc,bj,q0,q1,q2,q3,q4,q5,q6,q7,q8];refine fz y ?_;clear y Y))
   refine WpA.frzP 17 1 rfl rfl (K.cc_shut _) ?_
   simp only [zz]
   refine WpA.frzP 19 2 rfl rfl (K.cc_shut _) ?_
   simp only [zz]
   have hle:∀s∈[[some ⟨31,11,[[.v (.int .i64 0),.v (.string ⟨#[]⟩),.v (.string ⟨#[]⟩),.v (.slice none 0 0),.v (.int .i64 0),.v (.int .i32 0),.v (.bool false),.v (.slice none 0 0),.v (.string ⟨#[]⟩),.v (.slice none 0 0),.v (.slice none 0 0)]]⟩,none,none],[some ⟨31,11,[(ai X.1 Y.1 aZ).cc]⟩,none,none]],LeS [] s:=fun s _=>LeS.of (SLe.nil s)
   skip
   refine WpA.draw1 6 [5] [] [[some ⟨31,11,[[.v (.int .i64 0),.v (.string ⟨#[]⟩),.v (.string ⟨#[]⟩),.v (.slice none 0 0),.v (.int .i64 0),.v (.int .i32 0),.v (.bool false),.v (.slice none 0 0),.v (.string ⟨#[]⟩),.v (.slice none 0 0),.v (.slice none 0 0)]]⟩,none,none],[some ⟨31,11,[(ai X.1 Y.1 aZ).cc]⟩,none,none]] _ _ _ _ rfl rfl rfl (by kernel_rfl) (by kernel_rfl) (by kernel_rfl) (by kernel_rfl) rfl rfl rfl rfl (by decide) fun K8 hK8=>?_
   simp only [zz] at hK8 ⊢
   (refine Draw1.go fun K7 hK7=>?_);simp only [zb,seval,w89,kcc];(refine RunQ.mk (by first|(simp;done)|omega|(simp;omega)) (hK7 _ _ (by rfl) ?_));clear hK7 K7;(simp only [zz,Nat.reduceAdd,Nat.reduceSub]);(try ((refine Draw1.nil hle (hK8 _ ?_));clear hK8 K8;(refine WpL.go _ rfl fun Y y=>?_);repeat (first|(apply fw;(with_reducible constructor)<;>rfl)|(apply WpA.cd;constructor)|((first|with_reducible refine WpA.go _ rfl fun Y y=>?_|apply RunTo.id);simp only [zb,seval,w89,kcc];refine fz y ?_;clear y Y))))
   refine Draw1.step (by rfl) (fun s9 _=>oz (hno)) ?_
   (refine Draw1.go fun K7 hK7=>?_);simp only [zb,seval,w89,kcc];(refine RunQ.mk (by first|(simp;done)|omega|(simp;omega)) (hK7 _ _ (by rfl) ?_));clear hK7 K7;(simp only [zz,Nat.reduceAdd,Nat.reduceSub]);(try ((refine Draw1.nil hle (hK8 _ ?_));clear hK8 K8;(refine WpL.go _ rfl fun Y y=>?_);repeat (first|(apply fw;(with_reducible constructor)<;>rfl)|(apply WpA.cd;constructor)|((first|with_reducible refine WpA.go _ rfl fun Y y=>?_|apply RunTo.id);simp only [zb,seval,w89,kcc];refine fz y ?_;clear y Y))))
   refine Draw1.step (by rfl) (fun s9 _=>oz (hbr)) ?_
   (refine Draw1.go fun K7 hK7=>?_);simp only [zb,seval,w89,kcc];(refine RunQ.mk (by first|(simp;done)|omega|(simp;omega)) (hK7 _ _ (by rfl) ?_));clear hK7 K7;(simp only [zz,Nat.reduceAdd,Nat.reduceSub]);(try ((refine Draw1.nil hle (hK8 _ ?_));clear hK8 K8;(refine WpL.go _ rfl fun Y y=>?_);repeat (first|(apply fw;(with_reducible constructor)<;>rfl)|(apply WpA.cd;constructor)|((first|with_reducible refine WpA.go _ rfl fun Y y=>?_|apply RunTo.id);simp only [zb,seval,w89,kcc];refine fz y ?_;clear y Y))))
   refine Draw1.eff 0 rfl rfl rfl (OpS.eff [(4,_),(187,_)] rfl (by rfl) ⟨rfl,rfl,trivial⟩ (by simp only [zb,seval,w89,kcc];rfl) (by first|(simp;done)|omega|(simp;omega))) ?_;(try simp only [bf]);(try ((refine Draw1.go fun K7 hK7=>?_);simp only [zb,seval,w89,kcc];(refine RunQ.mk (by first|(simp;done)|omega|(simp;omega)) (hK7 _ _ (by rfl) ?_));clear hK7 K7;(simp only [zz,Nat.reduceAdd,Nat.reduceSub]);(try ((refine Draw1.nil hle (hK8 _ ?_));clear hK8 K8;(refine WpL.go _ rfl fun Y y=>?_);repeat (first|(apply fw;(with_reducible constructor)<;>rfl)|(apply WpA.cd;constructor)|((first|with_reducible refine WpA.go _ rfl fun Y y=>?_|apply RunTo.id);simp only [zb,seval,w89,kcc];refine fz y ?_;clear y Y))))))
   skip
   refine ye (by simp only [zb,seval,w89,kcc];rfl) (by simp only [zv,kcc];rfl) ?_
   rfl
 by_cases ksUnless:w=dt
 ·subst ksUnless
  have q0:eqB dt ⟨#[113,117,111,116,101]⟩=false:=aa (by decide)
  have q1:eqB dt ⟨#[113,117,97,115,105,113,117,111,116,101]⟩=false:=aa (by decide)
  have q2:eqB dt ⟨#[108,97,109,98,100,97]⟩=false:=aa (by decide)
  have q3:eqB dt ⟨#[115,101,116,33]⟩=false:=aa (by decide)
  have q4:eqB dt ⟨#[105,102]⟩=false:=aa (by decide)
  have q5:eqB dt ⟨#[98,101,103,105,110]⟩=false:=aa (by decide)
  have q6:eqB dt ⟨#[99,97,115,101]⟩=false:=aa (by decide)
  have q7:eqB dt ⟨#[119,104,101,110]⟩=false:=aa (by decide)
  have q8:eqB dt ⟨#[117,110,108,101,115,115]⟩=true:=aU rfl
  by_cases hn:l0.length<2
  ·have g2:decide ((2:Int)≤(l0.length:Int))=false:=by simp;omega
   rw [show bD ev dt l0=aQ ev dt l0 by unfold bD;(repeat rw [if_neg (by first|decide|assumption|(rintro ⟨h,-⟩;exact absurd h (by first|decide|assumption))|(rintro ⟨-,h⟩;omega))])]
   simp only [rsA]
   refine fi Tryz.func89 Tryz.ntmps89 Tryz.results89 ?_
   repeat (first|(apply fw;(with_reducible constructor)<;>rfl)|(apply WpA.cd;constructor)|((first|with_reducible refine WpA.go _ rfl fun Y y=>?_|apply RunTo.id);simp only [zb,seval,w89,kcc,bj,q0,q1,q2,q3,q4,q5,q6,q7,q8,g2];refine fz y ?_;clear y Y))
   refine cz (hde) ?_
   (refine WpL.go _ rfl fun Y y=>?_);repeat (first|(apply fw;(with_reducible constructor)<;>rfl)|(apply WpA.cd;constructor)|((first|with_reducible refine WpA.go _ rfl fun Y y=>?_|apply RunTo.id);simp only [zb,seval,w89,kcc];refine fz y ?_;clear y Y))
   refine ye (by simp only [zb,seval,w89,kcc];rfl) (by simp only [zv,kcc];rfl) ?_
   rfl
  ·obtain⟨a,r,hlr⟩:∃a r,a::r=l0:=by
    match l0,hn with
    | [],h=>exact absurd (by simp) h
    | a::r,_=>exact⟨a,r,rfl⟩
   obtain⟨c0,ct,cd,cl,cn,c11,c00,c22⟩:=jc a r l0 hlr
   have g2:decide ((2:Int)≤(l0.length:Int))=true:=by simp;omega
   have hle1:(1:Int)≤(l0.length:Int):=by omega
   have ha:Gd n a:=(hlr▸hl:Gds n (a::r)).head
   have hr:Gds n r:=(hlr▸hl:Gds n (a::r)).tail
   have hx:=hE.e a ha
   have hs:=dx hE r hr
   have hb:=af (ev.e a).2 (cH ev.e r).2 (hE.e2 _) (fk hE r)
   have hno:=dM
   rw [show bD ev dt l0=(ai (ev.e a).1 aZ (cH ev.e r).1,max (ev.e a).2 (cH ev.e r).2) by rw [←hlr];unfold bD;(repeat rw [if_neg (by first|decide|(rintro ⟨h,-⟩;exact absurd h (by decide)))]);rw [if_pos ⟨rfl,by rw [hlr];omega⟩];rfl]
   simp only [rsA] at hx hs ⊢
   generalize ev.e a=X at *
   generalize cH ev.e r=Y at *
   have hbr:=ce X.1 aZ Y.1
   refine fi Tryz.func89 Tryz.ntmps89 Tryz.results89 ?_
   repeat (first|(apply fw;(with_reducible constructor)<;>rfl)|(apply WpA.cd;constructor)|((first|with_reducible refine WpA.go _ rfl fun Y y=>?_|apply RunTo.id);simp only [zb,seval,w89,kcc,bj,q0,q1,q2,q3,q4,q5,q6,q7,q8,g2,c0];refine fz y ?_;clear y Y))
   refine cz (hx) ?_
   (refine WpL.go _ rfl fun Y y=>?_);repeat (first|(apply fw;(with_reducible constructor)<;>rfl)|(apply WpA.cd;constructor)|((first|with_reducible refine WpA.go _ rfl fun Y y=>?_|apply RunTo.id);simp only [zb,seval,w89,kcc,ct,cd,cn,c11];refine fz y ?_;clear y Y))
   refine cz (hs) ?_
   (refine WpL.go _ rfl fun Y y=>?_);repeat (first|(apply fw;(with_reducible constructor)<;>rfl)|(apply WpA.cd;constructor)|((first|with_reducible refine WpA.go _ rfl fun Y y=>?_|apply RunTo.id);simp only [zb,seval,w89,kcc];refine fz y ?_;clear y Y))
   refine cz (hb) ?_
   (refine WpL.go _ rfl fun Y y=>?_);repeat (first|(apply fw;(with_reducible constructor)<;>rfl)|(apply WpA.cd;constructor)|((first|with_reducible refine WpA.go _ rfl fun Y y=>?_|apply RunTo.id);simp only [zb,seval,w89,kcc,bj,q0,q1,q2,q3,q4,q5,q6,q7,q8];refine fz y ?_;clear y Y))
   refine WpA.frzP 17 1 rfl rfl (K.cc_shut _) ?_
   simp only [zz]
   refine WpA.frzP 19 2 rfl rfl (K.cc_shut _) ?_
   simp only [zz]
   have hle:∀s∈[[some ⟨31,11,[[.v (.int .i64 0),.v (.string ⟨#[]⟩),.v (.string ⟨#[]⟩),.v (.slice none 0 0),.v (.int .i64 0),.v (.int .i32 0),.v (.bool false),.v (.slice none 0 0),.v (.string ⟨#[]⟩),.v (.slice none 0 0),.v (.slice none 0 0)]]⟩,none,none],[some ⟨31,11,[(ai X.1 aZ Y.1).cc]⟩,none,none]],LeS [] s:=fun s _=>LeS.of (SLe.nil s)
   skip
   refine WpA.draw1 6 [5] [] [[some ⟨31,11,[[.v (.int .i64 0),.v (.string ⟨#[]⟩),.v (.string ⟨#[]⟩),.v (.slice none 0 0),.v (.int .i64 0),.v (.int .i32 0),.v (.bool false),.v (.slice none 0 0),.v (.string ⟨#[]⟩),.v (.slice none 0 0),.v (.slice none 0 0)]]⟩,none,none],[some ⟨31,11,[(ai X.1 aZ Y.1).cc]⟩,none,none]] _ _ _ _ rfl rfl rfl (by kernel_rfl) (by kernel_rfl) (by kernel_rfl) (by kernel_rfl) rfl rfl rfl rfl (by decide) fun K8 hK8=>?_
   simp only [zz] at hK8 ⊢
   (refine Draw1.go fun K7 hK7=>?_);simp only [zb,seval,w89,kcc];(refine RunQ.mk (by first|(simp;done)|omega|(simp;omega)) (hK7 _ _ (by rfl) ?_));clear hK7 K7;(simp only [zz,Nat.reduceAdd,Nat.reduceSub]);(try ((refine Draw1.nil hle (hK8 _ ?_));clear hK8 K8;(refine WpL.go _ rfl fun Y y=>?_);repeat (first|(apply fw;(with_reducible constructor)<;>rfl)|(apply WpA.cd;constructor)|((first|with_reducible refine WpA.go _ rfl fun Y y=>?_|apply RunTo.id);simp only [zb,seval,w89,kcc];refine fz y ?_;clear y Y))))
   refine Draw1.step (by rfl) (fun s9 _=>oz (hno)) ?_
   (refine Draw1.go fun K7 hK7=>?_);simp only [zb,seval,w89,kcc];(refine RunQ.mk (by first|(simp;done)|omega|(simp;omega)) (hK7 _ _ (by rfl) ?_));clear hK7 K7;(simp only [zz,Nat.reduceAdd,Nat.reduceSub]);(try ((refine Draw1.nil hle (hK8 _ ?_));clear hK8 K8;(refine WpL.go _ rfl fun Y y=>?_);repeat (first|(apply fw;(with_reducible constructor)<;>rfl)|(apply WpA.cd;constructor)|((first|with_reducible refine WpA.go _ rfl fun Y y=>?_|apply RunTo.id);simp only [zb,seval,w89,kcc];refine fz y ?_;clear y Y))))
   refine Draw1.step (by rfl) (fun s9 _=>oz (hbr)) ?_
   (refine Draw1.go fun K7 hK7=>?_);simp only [zb,seval,w89,kcc];(refine RunQ.mk (by first|(simp;done)|omega|(simp;omega)) (hK7 _ _ (by rfl) ?_));clear hK7 K7;(simp only [zz,Nat.reduceAdd,Nat.reduceSub]);(try ((refine Draw1.nil hle (hK8 _ ?_));clear hK8 K8;(refine WpL.go _ rfl fun Y y=>?_);repeat (first|(apply fw;(with_reducible constructor)<;>rfl)|(apply WpA.cd;constructor)|((first|with_reducible refine WpA.go _ rfl fun Y y=>?_|apply RunTo.id);simp only [zb,seval,w89,kcc];refine fz y ?_;clear y Y))))
   refine Draw1.eff 0 rfl rfl rfl (OpS.eff [(4,_),(192,_)] rfl (by rfl) ⟨rfl,rfl,trivial⟩ (by simp only [zb,seval,w89,kcc];rfl) (by first|(simp;done)|omega|(simp;omega))) ?_;(try simp only [bf]);(try ((refine Draw1.go fun K7 hK7=>?_);simp only [zb,seval,w89,kcc];(refine RunQ.mk (by first|(simp;done)|omega|(simp;omega)) (hK7 _ _ (by rfl) ?_));clear hK7 K7;(simp only [zz,Nat.reduceAdd,Nat.reduceSub]);(try ((refine Draw1.nil hle (hK8 _ ?_));clear hK8 K8;(refine WpL.go _ rfl fun Y y=>?_);repeat (first|(apply fw;(with_reducible constructor)<;>rfl)|(apply WpA.cd;constructor)|((first|with_reducible refine WpA.go _ rfl fun Y y=>?_|apply RunTo.id);simp only [zb,seval,w89,kcc];refine fz y ?_;clear y Y))))))
   skip
   refine ye (by simp only [zb,seval,w89,kcc];rfl) (by simp only [zv,kcc];rfl) ?_
   rfl
 have q0:eqB w ⟨#[113,117,111,116,101]⟩=false:=aa ksQuote
 have q1:eqB w ⟨#[113,117,97,115,105,113,117,111,116,101]⟩=false:=aa ksQuasi
 have q2:eqB w ⟨#[108,97,109,98,100,97]⟩=false:=aa ksLambda
 have q3:eqB w ⟨#[115,101,116,33]⟩=false:=aa ksSet
 have q4:eqB w ⟨#[105,102]⟩=false:=aa ksIf
 have q5:eqB w ⟨#[98,101,103,105,110]⟩=false:=aa ksBegin
 have q6:eqB w ⟨#[99,97,115,101]⟩=false:=aa ksCase
 have q7:eqB w ⟨#[119,104,101,110]⟩=false:=aa ksWhen
 have q8:eqB w ⟨#[117,110,108,101,115,115]⟩=false:=aa ksUnless
 rw [show bD ev w l0=aQ ev w l0 by unfold bD;(repeat rw [if_neg (by first|decide|assumption|(rintro ⟨h,-⟩;exact absurd h (by first|decide|assumption))|(rintro ⟨-,h⟩;omega))])]
 simp only [rsA]
 refine fi Tryz.func89 Tryz.ntmps89 Tryz.results89 ?_
 repeat (first|(apply fw;(with_reducible constructor)<;>rfl)|(apply WpA.cd;constructor)|((first|with_reducible refine WpA.go _ rfl fun Y y=>?_|apply RunTo.id);simp only [zb,seval,w89,kcc,bj,q0,q1,q2,q3,q4,q5,q6,q7,q8,kcc];refine fz y ?_;clear y Y))
 refine cz (hde) ?_
 (refine WpL.go _ rfl fun Y y=>?_);repeat (first|(apply fw;(with_reducible constructor)<;>rfl)|(apply WpA.cd;constructor)|((first|with_reducible refine WpA.go _ rfl fun Y y=>?_|apply RunTo.id);simp only [zb,seval,w89,kcc];refine fz y ?_;clear y Y))
 refine ye (by simp only [zb,seval,w89,kcc];rfl) (by simp only [zv,kcc];rfl) ?_
 rfl
theorem vI {n:Nat} {ev:Ev} (hE:HE n ev) (w:ByteArray) (l:List D):(bD ev w l).2≤2:=by
 unfold bD
 repeat' split
 ·exact Nat.zero_le _
 ·exact hE.q2 _ _
 ·exact jJ hE _ _
 ·exact Nat.max_le.2 ⟨cF _,hE.e2 _⟩
 ·exact cA hE l
 ·exact cA hE l
 ·exact fk hE l
 ·match l with
  | []=>exact Nat.le_refl _
  | a::r =>
   have w1:=je hE r
   have w2:=ei hE a (c7 ev r).1
   unfold oS;dsimp only;omega
 ·exact Nat.max_le.2 ⟨hE.e2 _,fk hE _⟩
 ·exact Nat.max_le.2 ⟨hE.e2 _,fk hE _⟩
 ·exact rj hE w l
end Go.Proofs.YtaeioidifpebdaaGreatDoor
end
section
namespace Go.Proofs.YtaeioidifpebdaaGreatDoor
open Go Go.RowKit Go.Lib
set_option linter.unusedSimpArgs false
set_option linter.unusedVariables false
set_option maxHeartbeats 4000000
set_option maxRecDepth 100000
theorem vJ {n:Nat} {ev:Ev} (hE:HE n ev) (d:D):(cE ev d).2≤2:=by
 unfold cE
 repeat' split
 ·exact Nat.le_refl _
 ·exact cF d
 ·exact Nat.le_refl _
 ·exact vI hE _ _
 ·exact Nat.max_le.2 ⟨cA hE _,cY _⟩
 ·exact Nat.le_refl _
 ·exact Nat.zero_le _
theorem uj {n:Nat} {ev:Ev} (hE:HE n ev) (d:D) (hd:Gd (n+1) d):Pure Tryz.prog 57 [.agg d.cc] (rsA (cE ev d)):=by
 have hbig:=hE.big
 have hw:Pure Tryz.prog 84 [.one (.v (.string ⟨#[101,109,112,116,121,32,108,105,115,116]⟩)),.one (.gv 1)] (.one (.er 2)):=bH _ 1
 have hv:=fj d
 have hit:=du d hd.2.1 (by have:=hd.items.len;omega)
 have hcn:=eg d hd.2.1
 rw [D.cc_eq d] at hv hit hcn ⊢
 by_cases h0:d.k=0
 ·have q0:(d.k == 0)=true:=by simp [h0]
  rw [show cE ev d=(kz,2) from if_pos h0]
  refine fi Tryz.func57 Tryz.ntmps57 Tryz.results57 ?_
  repeat (first|(apply fw;(with_reducible constructor)<;>rfl)|(apply WpA.cd;constructor)|((first|with_reducible refine WpA.go _ rfl fun Y y=>?_|apply RunTo.id);simp only [zb,seval,w57,kcc,q0];refine fz y ?_;clear y Y))
  refine cz (hw) ?_
  (refine WpL.go _ rfl fun Y y=>?_);repeat (first|(apply fw;(with_reducible constructor)<;>rfl)|(apply WpA.cd;constructor)|((first|with_reducible refine WpA.go _ rfl fun Y y=>?_|apply RunTo.id);simp only [zb,seval,w57,kcc];refine fz y ?_;clear y Y))
  refine⟨by simp,_,_,_,_,(by simp only [zb,seval,w57,kcc,rsA];rfl),(by simp),(by simp only [zv,kcc,rsA];rfl),(by simp [ksh]),_,(by simp only [rcc,rsA];exact ae),rfl⟩
 have q0:(d.k == 0)=false:=by simp [h0]
 by_cases h6:d.k=6
 ·have q6:(d.k == 6)=true:=by simp [h6]
  have hrf:=iK (aM d).1
  rw [show cE ev d=(aP (aM d).1,(aM d).2) by unfold cE;rw [if_neg h0,if_pos h6]]
  refine fi Tryz.func57 Tryz.ntmps57 Tryz.results57 ?_
  repeat (first|(apply fw;(with_reducible constructor)<;>rfl)|(apply WpA.cd;constructor)|((first|with_reducible refine WpA.go _ rfl fun Y y=>?_|apply RunTo.id);simp only [zb,seval,w57,kcc,q0,q6];refine fz y ?_;clear y Y))
  refine cz (hv) ?_
  (refine WpL.go _ rfl fun Y y=>?_);repeat (first|(apply fw;(with_reducible constructor)<;>rfl)|(apply WpA.cd;constructor)|((first|with_reducible refine WpA.go _ rfl fun Y y=>?_|apply RunTo.id);simp only [zb,seval,w57,kcc];refine fz y ?_;clear y Y))
  refine cz (hrf) ?_
  (refine WpL.go _ rfl fun Y y=>?_);repeat (first|(apply fw;(with_reducible constructor)<;>rfl)|(apply WpA.cd;constructor)|((first|with_reducible refine WpA.go _ rfl fun Y y=>?_|apply RunTo.id);simp only [zb,seval,w57,kcc];refine fz y ?_;clear y Y))
  refine ye (by simp only [zb,seval,w57,kcc];rfl) (by simp only [zv,kcc];rfl) ?_
  rfl
 have q6:(d.k == 6)=false:=by simp [h6]
 by_cases h7:d.k=7
 ·have q7:(d.k == 7)=true:=by simp [h7]
  obtain⟨hl,hf,hs,hm⟩:=hd.pair h7
  have hip:=(nO h7 hl).1
  by_cases he:dz d=0
  ·have hit':=hit
   rw [show av d=(items d,0) from if_pos he] at hit'
   have hgi:Gds n (items d):=by
    have:=ny h7
    have:=hd.2.2
    exact⟨(ff d hd.1 hd.2.1).1,(ff d hd.1 hd.2.1).2,by omega⟩
   rw [show cE ev d=(match items d with
    | []=>(kz,2)
    | a::r=>if a.k=6∧gY a.t=true then bD ev a.t r else
     let x:=bC (aw ev.e (a::r)).1
     (x.1,max (aw ev.e (a::r)).2 x.2)) by unfold cE;rw [if_neg h0,if_neg h6,if_pos h7,if_pos he];rfl]
   rw [hip] at hgi hit' ⊢
   generalize d.fst=a at *
   generalize items d.snd=r at *
   dsimp only
   obtain⟨l,hlr⟩:∃l,a::r=l:=⟨_,rfl⟩
   obtain⟨g0,gt,gd,gl,gn,g11,g00,g22⟩:=jc a r l hlr
   have hgt:decide ((0:Int)<(l.length:Int))=true:=by simp;omega
   have hle1:(1:Int)≤(l.length:Int):=by omega
   have hky:=lr a.t
   have hec:=eU hE (a::r) hgi
   have hcl:=dd (aw ev.e (a::r)).1
   have hb:=af (aw ev.e (a::r)).2 (bC (aw ev.e (a::r)).1).2 (cA hE _) (cY _)
   simp only [rlA] at hec
   simp only [rsA] at hcl
   have g0':=g0
   rw [D.cc_eq a] at g0'
   by_cases ha:a.k=6
   ·have qa:(a.k == 6)=true:=by simp [ha]
    cases hk:gY a.t with
    | true =>
     have hfm:=ui hE a.t r hgi.tail
     rw [hk] at hky
     rw [if_pos ⟨ha,rfl⟩]
     simp only [rsA] at hfm ⊢
     rw [hlr] at hit'
     refine fi Tryz.func57 Tryz.ntmps57 Tryz.results57 ?_
     repeat (first|(apply fw;(with_reducible constructor)<;>rfl)|(apply WpA.cd;constructor)|((first|with_reducible refine WpA.go _ rfl fun Y y=>?_|apply RunTo.id);simp only [zb,seval,w57,kcc,q0,q6,q7];refine fz y ?_;clear y Y))
     refine cz (hit') ?_
     (refine WpL.go _ rfl fun Y y=>?_);repeat (first|(apply fw;(with_reducible constructor)<;>rfl)|(apply WpA.cd;constructor)|((first|with_reducible refine WpA.go _ rfl fun Y y=>?_|apply RunTo.id);simp only [zb,seval,w57,kcc,g0',qa];refine fz y ?_;clear y Y))
     refine cz (hky) ?_
     (refine WpL.go _ rfl fun Y y=>?_);repeat (first|(apply fw;(with_reducible constructor)<;>rfl)|(apply WpA.cd;constructor)|((first|with_reducible refine WpA.go _ rfl fun Y y=>?_|apply RunTo.id);simp only [zb,seval,w57,kcc];refine fz y ?_;clear y Y))
     (refine WpA.draw0 9 _ _ _ rfl rfl rfl (by kernel_rfl) (by kernel_rfl) (by kernel_rfl) fun K8 hK8=>?_);simp only [zz] at hK8 ⊢;(refine Draw0.go fun K7 k=>?_);simp only [zb,seval,w57,kcc,g0',gt,gd,gn,g11,hle1];(refine qz (k _ _ ?_));clear k K7;(try ((refine Draw0.nil (hK8 _ ?_));clear hK8 K8;(refine WpL.go _ rfl fun Y y=>?_);repeat (first|(apply fw;(with_reducible constructor)<;>rfl)|(apply WpA.cd;constructor)|((first|with_reducible refine WpA.go _ rfl fun Y y=>?_|apply RunTo.id);simp only [zb,seval,w57,kcc,g0',gt,gd,gn,g11,hle1];refine fz y ?_;clear y Y))))
     refine Draw0.step (oz (hfm)) ?_
     (refine Draw0.go fun K7 k=>?_);simp only [zb,seval,w57,kcc];(refine qz (k _ _ ?_));clear k K7;(try ((refine Draw0.nil (hK8 _ ?_));clear hK8 K8;(refine WpL.go _ rfl fun Y y=>?_);repeat (first|(apply fw;(with_reducible constructor)<;>rfl)|(apply WpA.cd;constructor)|((first|with_reducible refine WpA.go _ rfl fun Y y=>?_|apply RunTo.id);simp only [zb,seval,w57,kcc];refine fz y ?_;clear y Y))))
     refine ye (by simp only [zb,seval,w57,kcc];rfl) (by simp only [zv,kcc];rfl) ?_
     rfl
    | false =>
     rw [hk] at hky
     rw [if_neg (by simp)]
     simp only [rsA]
     rw [hlr] at hit' hec hcl hb ⊢
     refine fi Tryz.func57 Tryz.ntmps57 Tryz.results57 ?_
     repeat (first|(apply fw;(with_reducible constructor)<;>rfl)|(apply WpA.cd;constructor)|((first|with_reducible refine WpA.go _ rfl fun Y y=>?_|apply RunTo.id);simp only [zb,seval,w57,kcc,q0,q6,q7];refine fz y ?_;clear y Y))
     refine cz (hit') ?_
     (refine WpL.go _ rfl fun Y y=>?_);repeat (first|(apply fw;(with_reducible constructor)<;>rfl)|(apply WpA.cd;constructor)|((first|with_reducible refine WpA.go _ rfl fun Y y=>?_|apply RunTo.id);simp only [zb,seval,w57,kcc,g0',qa];refine fz y ?_;clear y Y))
     refine cz (hky) ?_
     (refine WpL.go _ rfl fun Y y=>?_);repeat (first|(apply fw;(with_reducible constructor)<;>rfl)|(apply WpA.cd;constructor)|((first|with_reducible refine WpA.go _ rfl fun Y y=>?_|apply RunTo.id);simp only [zb,seval,w57,kcc];refine fz y ?_;clear y Y))
     refine cz (hec) ?_
     (refine WpL.go _ rfl fun Y y=>?_);repeat (first|(apply fw;(with_reducible constructor)<;>rfl)|(apply WpA.cd;constructor)|((first|with_reducible refine WpA.go _ rfl fun Y y=>?_|apply RunTo.id);simp only [zb,seval,w57,kcc];refine fz y ?_;clear y Y))
     refine cz (hcl) ?_
     (refine WpL.go _ rfl fun Y y=>?_);repeat (first|(apply fw;(with_reducible constructor)<;>rfl)|(apply WpA.cd;constructor)|((first|with_reducible refine WpA.go _ rfl fun Y y=>?_|apply RunTo.id);simp only [zb,seval,w57,kcc];refine fz y ?_;clear y Y))
     (refine WpA.draw0 4 _ _ _ rfl rfl rfl (by kernel_rfl) (by kernel_rfl) (by kernel_rfl) fun K8 hK8=>?_);simp only [zz] at hK8 ⊢;(refine Draw0.go fun K7 k=>?_);simp only [zb,seval,w57,kcc];(refine qz (k _ _ ?_));clear k K7;(try ((refine Draw0.nil (hK8 _ ?_));clear hK8 K8;(refine WpL.go _ rfl fun Y y=>?_);repeat (first|(apply fw;(with_reducible constructor)<;>rfl)|(apply WpA.cd;constructor)|((first|with_reducible refine WpA.go _ rfl fun Y y=>?_|apply RunTo.id);simp only [zb,seval,w57,kcc];refine fz y ?_;clear y Y))))
     refine Draw0.step (oz (hb)) ?_
     (refine Draw0.go fun K7 k=>?_);simp only [zb,seval,w57,kcc];(refine qz (k _ _ ?_));clear k K7;(try ((refine Draw0.nil (hK8 _ ?_));clear hK8 K8;(refine WpL.go _ rfl fun Y y=>?_);repeat (first|(apply fw;(with_reducible constructor)<;>rfl)|(apply WpA.cd;constructor)|((first|with_reducible refine WpA.go _ rfl fun Y y=>?_|apply RunTo.id);simp only [zb,seval,w57,kcc];refine fz y ?_;clear y Y))))
     refine ye (by simp only [zb,seval,w57,kcc];rfl) (by simp only [zv,kcc];rfl) ?_
     rfl
   ·have qa:(a.k == 6)=false:=by simp [ha]
    rw [if_neg (fun h=>ha h.1)]
    simp only [rsA]
    rw [hlr] at hit' hec hcl hb ⊢
    refine fi Tryz.func57 Tryz.ntmps57 Tryz.results57 ?_
    repeat (first|(apply fw;(with_reducible constructor)<;>rfl)|(apply WpA.cd;constructor)|((first|with_reducible refine WpA.go _ rfl fun Y y=>?_|apply RunTo.id);simp only [zb,seval,w57,kcc,q0,q6,q7];refine fz y ?_;clear y Y))
    refine cz (hit') ?_
    (refine WpL.go _ rfl fun Y y=>?_);repeat (first|(apply fw;(with_reducible constructor)<;>rfl)|(apply WpA.cd;constructor)|((first|with_reducible refine WpA.go _ rfl fun Y y=>?_|apply RunTo.id);simp only [zb,seval,w57,kcc,g0',qa];refine fz y ?_;clear y Y))
    refine cz (hec) ?_
    (refine WpL.go _ rfl fun Y y=>?_);repeat (first|(apply fw;(with_reducible constructor)<;>rfl)|(apply WpA.cd;constructor)|((first|with_reducible refine WpA.go _ rfl fun Y y=>?_|apply RunTo.id);simp only [zb,seval,w57,kcc];refine fz y ?_;clear y Y))
    refine cz (hcl) ?_
    (refine WpL.go _ rfl fun Y y=>?_);repeat (first|(apply fw;(with_reducible constructor)<;>rfl)|(apply WpA.cd;constructor)|((first|with_reducible refine WpA.go _ rfl fun Y y=>?_|apply RunTo.id);simp only [zb,seval,w57,kcc];refine fz y ?_;clear y Y))
    (refine WpA.draw0 4 _ _ _ rfl rfl rfl (by kernel_rfl) (by kernel_rfl) (by kernel_rfl) fun K8 hK8=>?_);simp only [zz] at hK8 ⊢;(refine Draw0.go fun K7 k=>?_);simp only [zb,seval,w57,kcc];(refine qz (k _ _ ?_));clear k K7;(try ((refine Draw0.nil (hK8 _ ?_));clear hK8 K8;(refine WpL.go _ rfl fun Y y=>?_);repeat (first|(apply fw;(with_reducible constructor)<;>rfl)|(apply WpA.cd;constructor)|((first|with_reducible refine WpA.go _ rfl fun Y y=>?_|apply RunTo.id);simp only [zb,seval,w57,kcc];refine fz y ?_;clear y Y))))
    refine Draw0.step (oz (hb)) ?_
    (refine Draw0.go fun K7 k=>?_);simp only [zb,seval,w57,kcc];(refine qz (k _ _ ?_));clear k K7;(try ((refine Draw0.nil (hK8 _ ?_));clear hK8 K8;(refine WpL.go _ rfl fun Y y=>?_);repeat (first|(apply fw;(with_reducible constructor)<;>rfl)|(apply WpA.cd;constructor)|((first|with_reducible refine WpA.go _ rfl fun Y y=>?_|apply RunTo.id);simp only [zb,seval,w57,kcc];refine fz y ?_;clear y Y))))
    refine ye (by simp only [zb,seval,w57,kcc];rfl) (by simp only [zv,kcc];rfl) ?_
    rfl
  ·rw [show av d=([],2) from if_neg he] at hit
   rw [show cE ev d=(kz,2) by unfold cE;rw [if_neg h0,if_neg h6,if_pos h7,if_neg he]]
   refine fi Tryz.func57 Tryz.ntmps57 Tryz.results57 ?_
   repeat (first|(apply fw;(with_reducible constructor)<;>rfl)|(apply WpA.cd;constructor)|((first|with_reducible refine WpA.go _ rfl fun Y y=>?_|apply RunTo.id);simp only [zb,seval,w57,kcc,q0,q6,q7];refine fz y ?_;clear y Y))
   refine cz (hit) ?_
   (refine WpL.go _ rfl fun Y y=>?_);repeat (first|(apply fw;(with_reducible constructor)<;>rfl)|(apply WpA.cd;constructor)|((first|with_reducible refine WpA.go _ rfl fun Y y=>?_|apply RunTo.id);simp only [zb,seval,w57,kcc];refine fz y ?_;clear y Y))
   refine⟨by simp,_,_,_,_,(by simp only [zb,seval,w57,kcc,rsA];rfl),(by simp),(by simp only [zv,kcc,rsA];rfl),(by simp [ksh]),_,(by simp only [rcc,rsA];exact ae),rfl⟩
 ·have q7:(d.k == 7)=false:=by simp [h7]
  rw [show cE ev d=(bS d,0) by unfold cE;rw [if_neg h0,if_neg h6,if_neg h7]]
  simp only [rsA]
  refine fi Tryz.func57 Tryz.ntmps57 Tryz.results57 ?_
  repeat (first|(apply fw;(with_reducible constructor)<;>rfl)|(apply WpA.cd;constructor)|((first|with_reducible refine WpA.go _ rfl fun Y y=>?_|apply RunTo.id);simp only [zb,seval,w57,kcc,q0,q6,q7];refine fz y ?_;clear y Y))
  refine cz (hcn) ?_
  (refine WpL.go _ rfl fun Y y=>?_);repeat (first|(apply fw;(with_reducible constructor)<;>rfl)|(apply WpA.cd;constructor)|((first|with_reducible refine WpA.go _ rfl fun Y y=>?_|apply RunTo.id);simp only [zb,seval,w57,kcc];refine fz y ?_;clear y Y))
  refine ye (by simp only [zb,seval,w57,kcc];rfl) (by simp only [zv,kcc];rfl) ?_
  rfl
theorem sr:∀n:Nat,n≤100000000→HE n (evs n)
 | 0,_=>⟨fun d h=>absurd h.2.2 (Nat.not_lt_zero _),fun l h=>absurd h.2.2 (Nat.not_lt_zero _),fun d k h=>absurd h.2.2 (Nat.not_lt_zero _),fun d=>Nat.zero_le _,fun l=>Nat.zero_le _,fun d k=>Nat.zero_le _,Nat.zero_le _⟩
 | n+1,hn=>by
  have h:=sr n (by omega)
  have e1:∀d,Gd (n+1) d→Pure Tryz.prog 57 [.agg d.cc] (rsA (cE (evs n) d)):=fun d hd=>uj h d hd
  have e2:∀d,(cE (evs n) d).2≤2:=vJ h
  have hm:HE n ⟨cE (evs n),(evs n).b,(evs n).q⟩:=⟨fun d hd=>e1 d (hd.le (by omega)),h.b,h.q,e2,h.b2,h.q2,h.big⟩
  exact⟨e1,fun l hl=>rg hm e1 hn l hl,fun d k hd h1 hk=>si hm d k hd h1 hk,e2,fun l=>wQ hm l,fun d k=>uf hm d k,hn⟩
end Go.Proofs.YtaeioidifpebdaaGreatDoor
end
