/-
 Laid together: Stb18, Good18, Gooe18, Goof18, Goog18, Gooh18, Lam18, Gooi18, Gooj18, Sym18, Fix18, Siz18.
-/
import Derived.Test.YtaeioidifpebdaaGreatDoorG9
import Derived.Test.YtaeioidifpebdaaGreatDoorG5
import Derived.Test.YtaeioidifpebdaaGreatDoorGA
section
namespace Go.Proofs.YtaeioidifpebdaaGreatDoor
open Go Go.RowKit Go.Lib
set_option linter.unusedSimpArgs false
set_option linter.unusedVariables false
set_option maxRecDepth 100000
structure Agr (n:Nat) (ev ev':Ev):Prop where
 e:∀d,Gd n d→ev.e d=ev'.e d
 b:∀l,Gds n l→ev.b l=ev'.b l
 q:∀d k,Gd n d→ev.q d k=ev'.q d k
theorem Gds.one {n:Nat} {d:D} (hd:Gd n d):Gds n [d]:=⟨⟨hd.1,trivial⟩,⟨hd.2.1,trivial⟩,by have:=hd.2.2;simp only [aY];omega⟩
theorem FR {n:Nat} {l:List D} (hl:Gds n l) {i:Nat} (hi:i<l.length):Gd n (l.getD i bZ):=by
 have:l.getD i bZ=l[i]:=by simp [List.getD,hi]
 rw [this];exact hl.mem (List.getElem_mem hi)
section
variable {n:Nat} {ev ev':Ev} (h:Agr n ev ev')
include h
end
inductive Good (Q:D→Prop):(ByteArray→Prop)→K→Prop
 | const {A d}:Q d→Good Q A (eC d)
 | ref {A s}:A s→s≠e0→Good Q A (bJ s)
 | prim {A s}:s≠e0→Good Q A (fI s)
 | set {A s x}:A s→s≠e0→Good Q A x→Good Q A (pR s x)
 | branch {A a b c}:Good Q A a→Good Q A b→Good Q A c→Good Q A (aF a b c)
 | seq {A l}:2≤l.length→l.length≤200000000→(∀x∈l,Good Q A x)→Good Q A (.mk 7 e0 e0 [] bZ l)
 | call {A l}:1≤l.length→l.length≤41→(∀x∈l,Good Q A x)→Good Q A (jT l)
 | lam {A B:ByteArray→Prop} {ps rest b}:ps.Nodup→rest∉ps→(∀p∈ps,p≠e0)→ps.length+(if rest=e0 then 0 else 1)≤40→(∀s,B s→A s∨s∈ps∨s=rest)→Good Q B b→Good Q A (.mk 6 e0 rest ps bZ [b])
 | none {A}:Good Q A jH
theorem Good.mono {Q:D→Prop} {A:ByteArray→Prop} {k:K} (h:Good Q A k):∀{B:ByteArray→Prop},(∀s,A s→B s)→Good Q B k:=by
 induction h with
 | const h=>exact fun _=>.const h
 | ref h h0=>exact fun hb=>.ref (hb _ h) h0
 | prim h0=>exact fun _=>.prim h0
 | set h h0 _ ih=>exact fun hb=>.set (hb _ h) h0 (ih hb)
 | branch _ _ _ i1 i2 i3=>exact fun hb=>.branch (i1 hb) (i2 hb) (i3 hb)
 | seq h1 h2 _ ih=>exact fun hb=>.seq h1 h2 fun x hx=>ih x hx hb
 | call h1 h2 _ ih=>exact fun hb=>.call h1 h2 fun x hx=>ih x hx hb
 | lam h1 h2 h3 h4 h5 h6 _=>exact fun hb=>.lam h1 h2 h3 h4 (fun s hs=>(h5 s hs).imp (hb s) id) h6
 | none=>exact fun _=>.none
theorem K.Oks.ofMem:∀{l:List K},(∀x∈l,x.Ok)→K.Oks l
 | [],_=>trivial
 | x::l,h=>⟨h x (by simp),K.Oks.ofMem fun y hy=>h y (by simp [hy])⟩
theorem Good.ok {Q:D→Prop} (hQ:∀d,Q d→d.Ok) {A:ByteArray→Prop} {k:K} (h:Good Q A k):k.Ok:=by
 induction h with
 | const h=>exact⟨by decide,by simp,hQ _ h,by simp,trivial⟩
 | ref h h0=>exact⟨by decide,by simp,dW,by simp,trivial⟩
 | prim h0=>exact⟨by decide,by simp,dW,by simp,trivial⟩
 | set h h0 _ ih=>exact⟨by decide,by simp,dW,by simp,ih,trivial⟩
 | branch _ _ _ i1 i2 i3=>exact⟨by decide,by simp,dW,by simp,i1,i2,i3,trivial⟩
 | seq h1 h2 _ ih=>exact⟨by decide,by simp,dW,by omega,K.Oks.ofMem ih⟩
 | call h1 h2 _ ih=>exact⟨by decide,by simp,dW,by omega,K.Oks.ofMem ih⟩
 | lam h1 h2 h3 h4 h5 h6 ih=>exact⟨by decide,by omega,dW,by simp,ih,trivial⟩
 | none=>exact⟨by decide,by simp,dW,by simp,trivial⟩
section
variable {Q:D→Prop} {A:ByteArray→Prop}
theorem lC {l:List Nat} (h:jG l=0):∀x∈l,x=0:=by
 have key:∀(l:List Nat) (a:Nat),l.foldl max a=0→a=0∧∀x∈l,x=0:=by
  intro l
  induction l with
  | nil=>exact fun a h=>⟨h,by simp⟩
  | cons y l ih =>
   intro a h
   obtain⟨h1,h2⟩:=ih _ h
   exact⟨by omega,fun x hx=>(List.mem_cons.1 hx).elim (fun e=>by omega) (h2 x)⟩
 exact (key l 0 h).2
theorem lD {l:List K} (h0:(dB l).2=0) (hne:1≤l.length) (hl:∀x∈l,Good Q A x):Good Q A (dB l).1:=by
 unfold dB at h0 ⊢
 by_cases h:41<l.length
 ·rw [if_pos h] at h0;cases h0
 ·rw [if_neg h];exact .call hne (by omega) hl
theorem vS {ps:List ByteArray} {b:K} {B:ByteArray→Prop} (h0:(eE ps e0 b).2=0) (hn:ps.Nodup) (hne:∀p∈ps,p≠e0) (hB:∀s,B s→A s∨s∈ps) (h:Good Q B b):Good Q A (eE ps e0 b).1:=by
 unfold eE at h0 ⊢
 by_cases hc:40<ps.length+(if (e0:ByteArray)=e0 then 0 else 1)
 ·rw [if_pos hc] at h0;cases h0
 ·rw [if_neg hc]
  exact .lam hn (fun hm=>hne _ hm rfl) hne (by omega) (fun s hs=>(hB s hs).imp id .inl) h
theorem rQ {l:List K} (hne:l≠[]) (hlen:l.length≤200000000) (hl:∀x∈l,Good Q A x):Good Q A (fJ l):=by
 match l,hne with
 | [x],_=>exact hl x (by simp)
 | x::y::l,_=>exact .seq (by simp) hlen hl
end
def Cov (P:D→Prop) (A:ByteArray→Prop):Prop:=∀d,P d→d.k=6→A d.t∧d.t≠e0
structure Pc (Q P:D→Prop):Prop where
 kid:∀d x,P d→x∈d.l→P x
 vec:∀d,P d→d.k=8→P (fK d.l)
 q:∀d,P d→Q d
 kd:∀k,k=1∨k=2∨k=9→Q (nY k)
 nil:Q bZ
 sym:Q (rF AH)∧Q (rF eR)∧Q (rF jK)
structure GE (Q P:D→Prop) (n:Nat) (ev:Ev):Prop where
 e:∀d,Gd n d→P d→∀A,Cov P A→(ev.e d).2=0→Good Q A (ev.e d).1
 b:∀l,Gds n l→(∀d∈l,P d)→∀A,Cov P A→(ev.b l).2=0→Good Q A (ev.b l).1
 q:∀d k,Gd n d→P d→∀A,Cov P A→(ev.q d k).2=0→Good Q A (ev.q d k).1
section
variable {Q P:D→Prop} {A:ByteArray→Prop} {n:Nat} {ev:Ev}
theorem oC (hP:Pc Q P):∀(d:D),P d→∀x∈items d,P x
 | .mk k c neg mag t l,hd,x,hx=>by
  unfold items at hx
  split at hx
  ·match l,hd,hx with
   | [],_,hx=>simp [kG] at hx
   | [_],_,hx=>simp [kG] at hx
   | [a,b],hd,hx =>
    simp only [kG,List.mem_cons] at hx
    rcases hx with rfl|hx
    ·exact hP.kid _ _ hd (by simp [D.l])
    ·exact oC hP b (hP.kid _ _ hd (by simp [D.l])) x hx
   | _::_::_::_,_,hx=>simp [kG] at hx
  ·simp at hx
theorem rR (hP:Pc Q P) {d:D} (hd:P d):∀x∈(aJ d).1,P x:=by
 unfold aJ
 split
 ·exact oC hP d hd
 ·simp
theorem lU (hA:Cov P A) {d:D} (hd:P d) (h0:(bK d).2=0):A (bK d).1∧(bK d).1≠e0:=by
 unfold bK at h0 ⊢
 by_cases h:d.k=6∧BZ d.t=false
 ·rw [if_pos h];exact hA d hd h.1
 ·rw [if_neg h] at h0;cases h0
theorem jZ (hE:GE Q P n ev) (hA:Cov P A) {l:List D} (hl:Gds n l) (hp:∀d∈l,P d) (h0:(aZ ev.e l).2=0):∀x∈(aZ ev.e l).1,Good Q A x:=by
 intro x hx
 obtain⟨d,hd,rfl⟩:=List.mem_map.1 hx
 exact hE.e d (hl.mem hd) (hp d hd) A hA (lC h0 _ (List.mem_map_of_mem hd))
theorem iC (hE:GE Q P n ev) (hA:Cov P A) {l:List D} (hn:n≤100000000) (hl:Gds n l) (hp:∀d∈l,P d) (h0:(fD ev.e l).2=0):Good Q A (fD ev.e l).1:=by
 have:=hl.len
 unfold fD at h0 ⊢
 by_cases h:l=[]
 ·rw [if_pos h] at h0;cases h0
 ·rw [if_neg h] at h0 ⊢
  exact rQ (by simpa [aZ] using h) (by simp [aZ];omega) (jZ hE hA hl hp h0)
theorem pC {l:List ByteArray} (h:unl l=0):l.Nodup:=by
 refine Classical.byContradiction fun hn=>?_
 rw [NI hn] at h;cases h
theorem FS (hP:Pc Q P) (hA:Cov P A) {f:D} (hf:P f) (h0:(dK f).2.2=0):(dK f).1.Nodup∧(dK f).2.1∉(dK f).1∧(∀p∈(dK f).1,p≠e0):=by
 have hz:∀x∈items f,(bK x).2=0→(bK x).1≠e0:=fun x hx h=>(lU hA (oC hP f hf x hx) h).2
 unfold dK at h0 ⊢
 dsimp only at h0 ⊢
 by_cases hk:(tU f).k=0
 ·rw [if_pos hk] at h0 ⊢
  dsimp only at h0 ⊢
  have h1:=lC (by omega:jG ((items f).map fun x=>(bK x).2)=0)
  have hne:∀p∈(items f).map fun x=>(bK x).1,p≠e0:=fun p hp=>by
   obtain⟨x,hx,rfl⟩:=List.mem_map.1 hp
   exact hz x hx (h1 _ (List.mem_map_of_mem (f:=fun x=>(bK x).2) hx))
  exact⟨pC (by omega),fun hm=>hne _ hm rfl,hne⟩
 ·rw [if_neg hk] at h0 ⊢
  dsimp only at h0 ⊢
  have h1:=lC (by omega:jG ((items f).map fun x=>(bK x).2)=0)
  have hne:∀p∈(items f).map fun x=>(bK x).1,p≠e0:=fun p hp=>by
   obtain⟨x,hx,rfl⟩:=List.mem_map.1 hp
   exact hz x hx (h1 _ (List.mem_map_of_mem (f:=fun x=>(bK x).2) hx))
  have hu:=pC (l:=(items f).map (fun x=>(bK x).1)++[(bK (tU f)).1]) (by omega)
  rw [List.nodup_append] at hu
  exact⟨hu.1,fun hm=>hu.2.2 _ hm _ (by simp) rfl,hne⟩
theorem PY {ps:List ByteArray} {rest:ByteArray} {b:K} (h0:(eE ps rest b).2=0) (hn:ps.Nodup) (hr:rest∉ps) (hne:∀p∈ps,p≠e0) (h:Good Q A b):Good Q A (eE ps rest b).1:=by
 unfold eE at h0 ⊢
 by_cases hc:40<ps.length+(if rest=e0 then 0 else 1)
 ·rw [if_pos hc] at h0;cases h0
 ·rw [if_neg hc]
  exact .lam hn hr hne (by omega) (fun s hs=>.inl hs) h
theorem sY (hP:Pc Q P) (hE:GE Q P n ev) (hA:Cov P A) {f:D} (hf:P f) {b:List D} (hb:Gds n b) (hp:∀d∈b,P d) (h0:(dU ev f b).2=0):Good Q A (dU ev f b).1:=by
 unfold dU at h0 ⊢
 dsimp only at h0 ⊢
 obtain⟨h1,h2,h3⟩:=FS hP hA hf (by omega)
 exact PY (by omega) h1 h2 h3 (hE.b b hb hp A hA (by omega))
theorem vT {names:List ByteArray} {values:List K} {body:K} {B:ByteArray→Prop} (h0:(jI names values body).2=0) (hne:∀p∈names,p≠e0) (hlen:names.length≤100000000) (hB:∀s,B s→A s∨s∈names) (hv:∀x∈values,Good Q B x) (hb:Good Q B body):Good Q A (jI names values body).1:=by
 unfold jI at h0 ⊢
 dsimp only at h0 ⊢
 have hu:=pC (by omega:unl names=0)
 refine lD (by omega) (by simp) fun x hx=>?_
 rcases List.mem_cons.1 hx with rfl|hx
 ·refine vS (B:=fun s=>A s∨s∈names) (by omega) hu hne (fun s hs=>hs) (rQ (by simp) (by simp [List.length_zip];omega) fun y hy=>?_)
  rcases List.mem_append.1 hy with hy|hy
  ·obtain⟨p,hp,rfl⟩:=List.mem_map.1 hy
   have:=List.of_mem_zip hp
   exact .set (.inr this.1) (hne _ this.1) ((hv _ this.2).mono hB)
  ·rw [List.mem_singleton.1 hy];exact hb.mono hB
 ·obtain⟨_,_,rfl⟩:=List.mem_map.1 hx
  exact .none
theorem qB (hE:GE Q P n ev) (hA:Cov P A) {names:List ByteArray} {body:K} {values:List D} {B:ByteArray→Prop} (hu:names.Nodup) (hne:∀p∈names,p≠e0) (hB:∀s,B s→A s∨s∈names) (hb:Good Q B body) (hv:Gds n values) (hp:∀d∈values,P d) (h0:(eD ev names body values).2=0):Good Q A (eD ev names body values).1:=by
 unfold eD at h0 ⊢
 dsimp only at h0 ⊢
 refine lD (by omega) (by simp) fun x hx=>?_
 rcases List.mem_cons.1 hx with rfl|hx
 ·exact vS (by omega) hu hne hB hb
 ·exact jZ hE hA hv hp (by omega) x hx
theorem oD (hE:GE Q P n ev) (hA:Cov P A) {d:D} {body:K} {B:ByteArray→Prop} (hB:∀s,B s→A s∨s=bG) (hb:Good Q B body) (hd:Gd n d) (hp:P d) (h0:(dL ev d body).2=0):Good Q A (dL ev d body).1 :=
 qB hE hA (by simp) (by simp;decide) (fun s hs=>(hB s hs).imp id (by simp)) hb (Gds.one hd) (by simpa using hp) h0
end
end Go.Proofs.YtaeioidifpebdaaGreatDoor
end
section
namespace Go.Proofs.YtaeioidifpebdaaGreatDoor
open Go Go.RowKit Go.Lib
set_option linter.unusedSimpArgs false
set_option linter.unusedVariables false
set_option linter.unusedSectionVars false
set_option maxRecDepth 100000
section
variable {Q P:D→Prop} {A:ByteArray→Prop} {n:Nat} {ev:Ev}
theorem NK (hP:Pc Q P) {b:D} (hb:P b) {p:D × D} (h:gP b=some p):P p.1∧P p.2:=by
 unfold gP at h
 split at h
 ·split at h
  ·rename_i x y hi
   cases h
   exact⟨oC hP b hb _ (by rw [hi];simp),oC hP b hb _ (by rw [hi];simp)⟩
  ·cases h
 ·cases h
theorem sM (hP:Pc Q P) (hA:Cov P A) {d:D} (hd:P d) (h0:(aI d).2.2=0):(∀p∈(aI d).1,p≠e0)∧∀x∈(aI d).2.1,P x:=by
 have hl:=rR hP hd
 unfold aI at h0 ⊢
 dsimp only at h0 ⊢
 generalize (aJ d).1=l at hl h0 ⊢
 have h1:=lC (Nat.eq_zero_of_le_zero (h0▸Nat.le_max_right _ _))
 refine⟨fun s hs=>?_,fun x hx=>?_⟩
 ·obtain⟨b,hb,hq⟩:=List.mem_filterMap.1 hs
  obtain⟨p,hp,rfl⟩:=Option.map_eq_some_iff.1 hq
  have:=h1 _ (List.mem_map_of_mem hb)
  rw [hp] at this
  exact (lU hA (NK hP (hl b hb) hp).1 this).2
 ·obtain⟨b,hb,hq⟩:=List.mem_filterMap.1 hx
  obtain⟨p,hp,rfl⟩:=Option.map_eq_some_iff.1 hq
  exact (NK hP (hl b hb) hp).2
variable (hP:Pc Q P) (hE:GE Q P n ev) (hA:Cov P A) (hn:n≤100000000)
include hP hE hA hn
theorem MH {l:List D} (hl:Gds n l) (hp:∀d∈l,P d) (h0:(iM ev l).2=0):Good Q A (iM ev l).1:=by
 match l,hl,hp,h0 with
 | [],_,_,h0=>cases h0
 | [_],_,_,h0=>cases h0
 | a::b::r,hl,hp,h0 =>
  unfold iM at h0 ⊢
  dsimp only at h0 ⊢
  have hw:=lU hA (hp a (by simp)) (by omega)
  obtain⟨g1,g2⟩:=sM hP hA (hp b (by simp)) (by omega)
  have hu:=pC (by omega:unl (aI b).1=0)
  have hbf:=eS hl.tail.head
  refine lD (by omega) (by simp) fun x hx=>?_
  rcases List.mem_cons.1 hx with rfl|hx
  ·refine vT (B:=fun s=>A s∨s=(bK a).1) (by omega) (by simpa using hw.2) (by simp) (fun s hs=>hs.imp id (by simp)) (fun y hy=>?_) (.ref (.inr rfl) hw.2)
   rw [List.mem_singleton.1 hy]
   exact vS (B:=A) (by omega) hu g1 (fun s hs=>.inl (.inl hs)) (hE.b r hl.tail.tail (fun d hd=>hp d (by simp [hd])) A hA (by omega))
  ·exact jZ hE hA hbf.1 g2 (by omega) x hx
theorem SX {l:List D} (hl:Gds n l) (hp:∀d∈l,P d) (h0:(vD ev l).2=0):Good Q A (vD ev l).1:=by
 match l,hl,hp,h0 with
 | [],_,_,h0=>cases h0
 | a::r,hl,hp,h0 =>
  by_cases hk:a.k=6
  ·rw [show vD ev (a::r)=iM ev (a::r) from if_pos hk] at h0 ⊢
   exact MH hP hE hA hn hl hp h0
  ·rw [show vD ev (a::r)=((eD ev (aI a).1 (ev.b r).1 (aI a).2.1).1,max (max (max (aI a).2.2 (ev.b r).2) (unl (aI a).1)) (eD ev (aI a).1 (ev.b r).1 (aI a).2.1).2) from if_neg hk] at h0 ⊢
   dsimp only at h0 ⊢
   obtain⟨g1,g2⟩:=sM hP hA (hp a (by simp)) (by omega)
   exact qB hE hA (pC (by omega)) g1 (fun s hs=>.inl hs) (hE.b r hl.tail (fun d hd=>hp d (by simp [hd])) A hA (by omega)) (eS hl.head).1 g2 (by omega)
theorem DN:∀(l:List (ByteArray × D)) (s:Rs),(∀p∈l,p.1≠e0∧Gd n p.2∧P p.2)→(s.2=0→Good Q A s.1)→(kO ev l s).2=0→Good Q A (kO ev l s).1
 | [],s,_,hs,h0=>hs h0
 | p::l,s,hl,hs,h0=>by
  change (lT ev p (kO ev l s)).2=0 at h0
  change Good Q A (lT ev p (kO ev l s)).1
  unfold lT at h0 ⊢
  dsimp only at h0 ⊢
  have h1:=hl p (by simp)
  exact qB hE hA (by simp) (by simpa using h1.1) (fun s hs=>.inl hs) (DN l s (fun q hq=>hl q (by simp [hq])) hs (by omega)) (Gds.one h1.2.1) (by simpa using h1.2.2) (by omega)
theorem PZ {l:List D} (hl:Gds n l) (hp:∀d∈l,P d) (h0:(gY ev l).2=0):Good Q A (gY ev l).1:=by
 match l,hl,hp,h0 with
 | [],_,_,h0=>cases h0
 | a::r,hl,hp,h0 =>
  unfold gY at h0 ⊢
  dsimp only at h0 ⊢
  have hle:∀(l:List (ByteArray × D)) (s:Rs),(kO ev l s).2=0→s.2=0:=by
   intro l
   induction l with
   | nil=>exact fun s h=>h
   | cons p l ih =>
    intro s h
    change (lT ev p (kO ev l s)).2=0 at h
    unfold lT at h
    dsimp only at h
    exact ih s (by omega)
  have hz:=hle _ _ h0
  dsimp only at hz
  obtain⟨g1,g2⟩:=sM hP hA (hp a (by simp)) (by omega)
  have hbf:=eS hl.head
  refine DN hP hE hA hn _ _ (fun p hp'=>?_) (fun hs=>?_) h0
  ·have:=List.of_mem_zip hp'
   exact⟨g1 _ this.1,hbf.1.mem this.2,g2 _ this.2⟩
  ·exact qB hE hA (by simp) (by simp) (fun s hs=>.inl hs) (hE.b r hl.tail (fun d hd=>hp d (by simp [hd])) A hA (by omega)) ⟨trivial,trivial,by have:=hl.2.2;simp only [aY];omega⟩ (by simp) (by omega)
theorem JS {l:List D} (hl:Gds n l) (hp:∀d∈l,P d) (h0:(iT ev l).2=0):Good Q A (iT ev l).1:=by
 match l,hl,hp,h0 with
 | [],_,_,h0=>cases h0
 | a::r,hl,hp,h0 =>
  unfold iT at h0 ⊢
  dsimp only at h0 ⊢
  obtain⟨g1,g2⟩:=sM hP hA (hp a (by simp)) (by omega)
  have hbf:=eS hl.head
  exact vT (B:=A) (by omega) g1 (by omega) (fun s hs=>.inl hs) (jZ hE hA hbf.1 g2 (by omega)) (hE.b r hl.tail (fun d hd=>hp d (by simp [hd])) A hA (by omega))
end
section
variable {Q P:D→Prop} {A:ByteArray→Prop} {n:Nat} {ev:Ev}
variable (hP:Pc Q P) (hE:GE Q P n ev) (hA:Cov P A) (hn:n≤100000000)
include hP hE hA hn
theorem DP {d:D} (hd:P d):∀x∈eJ d,P x:=by rw [←sF];exact rR hP hd
theorem qC:Good Q A bS:=.const (hP.kd 9 (by simp))
theorem nL {k:Int} (h:k=1∨k=2):Good Q A (iL k):=.const (hP.kd k (by omega))
theorem DQ:∀{l:List D},Gds n l→(∀d∈l,P d)→(gZ ev l).2=0→Good Q A (gZ ev l).1
 | [],_,_,_=>qC hP hE hA hn
 | a::r,hl,hp,h0=>by
  have hi:=jY hl.head
  have hpi:=DP hP hE hA hn (hp a (by simp))
  have hr:=fun h=>DQ hl.tail (fun d hd=>hp d (by simp [hd])) h
  have tr:Good Q (fun s=>A s∨s=bG) (bJ bG):=.ref (.inr rfl) (by decide)
  rw [pY] at h0 ⊢
  generalize eJ a=it at hi hpi h0 ⊢
  match it,hi,hpi,h0 with
  | [],_,_,h0=>cases h0
  | c::cs,hi,hpi,h0 =>
   dsimp only at h0 ⊢
   have hcs:∀x∈cs,P x:=fun x hx=>hpi x (by simp [hx])
   by_cases he:nN c nD=true
   ·rw [if_pos he] at h0 ⊢
    by_cases hr0:r=[]
    ·rw [if_pos hr0] at h0 ⊢
     exact iC hE hA hn hi.tail hcs h0
    ·rw [if_neg hr0] at h0;cases h0
   ·rw [if_neg he] at h0 ⊢
    match cs,hi,hcs,hpi,h0 with
    | [],hi,hcs,hpi,h0 =>
     dsimp only at h0 ⊢
     exact oD hE hA (B:=fun s=>A s∨s=bG) (fun s hs=>hs) (.branch tr tr ((hr (by omega)).mono fun s hs=>.inl hs)) hi.head (hpi c (by simp)) (by omega)
    | [f],hi,hcs,hpi,h0 =>
     dsimp only at h0 ⊢
     by_cases hf:nN f nF=true
     ·rw [if_pos hf] at h0;cases h0
     ·rw [if_neg hf] at h0 ⊢
      dsimp only at h0 ⊢
      exact .branch (hE.e c hi.head (hpi c (by simp)) A hA (by omega)) (iC hE hA hn hi.tail hcs (by omega)) (hr (by omega))
    | [f,g],hi,hcs,hpi,h0 =>
     dsimp only at h0 ⊢
     by_cases hf:nN f nF=true
     ·rw [if_pos hf] at h0 ⊢
      dsimp only at h0 ⊢
      refine oD hE hA (B:=fun s=>A s∨s=bG) (fun s hs=>hs) (.branch tr (lD (by omega) (by simp) fun x hx=>?_) ((hr (by omega)).mono fun s hs=>.inl hs)) hi.head (hpi c (by simp)) (by omega)
      simp only [List.mem_cons,List.not_mem_nil,or_false] at hx
      rcases hx with rfl|rfl
      ·exact (hE.e g hi.tail.tail.head (hpi g (by simp)) A hA (by omega)).mono fun s hs=>.inl hs
      ·exact tr
     ·rw [if_neg hf] at h0 ⊢
      dsimp only at h0 ⊢
      exact .branch (hE.e c hi.head (hpi c (by simp)) A hA (by omega)) (iC hE hA hn hi.tail hcs (by omega)) (hr (by omega))
    | f::g::x::xs,hi,hcs,hpi,h0 =>
     dsimp only at h0 ⊢
     by_cases hf:nN f nF=true
     ·rw [if_pos hf] at h0;cases h0
     ·rw [if_neg hf] at h0 ⊢
      dsimp only at h0 ⊢
      exact .branch (hE.e c hi.head (hpi c (by simp)) A hA (by omega)) (iC hE hA hn hi.tail hcs (by omega)) (hr (by omega))
theorem BK (ht:A bG):∀{l:List D},(∀d∈l,P d)→Good Q A (kW l)
 | [],_=>nL hP hE hA hn (.inr rfl)
 | d::l,hp=>by
  refine .branch (.call (by simp) (by simp) fun x hx=>?_) (nL hP hE hA hn (.inl rfl)) (BK ht fun x hx=>hp x (by simp [hx]))
  simp only [List.mem_cons,List.not_mem_nil,or_false] at hx
  rcases hx with rfl|rfl|rfl
  ·exact .prim (by decide)
  ·exact .ref ht (by decide)
  ·exact .const (hP.q d (hp d (by simp)))
end
theorem mz {a b:Nat} (h:max a b=0):a=0∧b=0:=⟨by omega,by omega⟩
section
variable {Q P:D→Prop} {A:ByteArray→Prop} {n:Nat} {ev:Ev}
variable (hP:Pc Q P) (hE:GE Q P n ev) (hA:Cov P A) (hn:n≤100000000)
include hP hE hA hn
theorem xX:∀{l:List D},Gds n l→(∀d∈l,P d)→(eG ev l).2=0→Good Q (fun s=>A s∨s=bG) (eG ev l).1
 | [],_,_,_=>(qC hP hE hA hn).mono fun s hs=>.inl hs
 | a::r,hl,hp,h0=>by
  have hi:=jY hl.head
  have hpi:=DP hP hE hA hn (hp a (by simp))
  have hr:=fun h=>xX hl.tail (fun d hd=>hp d (by simp [hd])) h
  rw [mN] at h0 ⊢
  generalize eJ a=it at hi hpi h0 ⊢
  match it,hi,hpi,h0 with
  | [],_,_,h0=>cases h0
  | [_],_,_,h0=>cases h0
  | c::f::fs,hi,hpi,h0 =>
   dsimp only at h0 ⊢
   have hcs:∀x∈f::fs,P x:=fun x hx=>hpi x (by simp at hx ⊢;exact .inr hx)
   by_cases he:nN c nD=true
   ·rw [if_pos he] at h0 ⊢
    by_cases hr0:r=[]
    ·rw [if_pos hr0] at h0 ⊢
     exact (iC hE hA hn hi.tail hcs h0).mono fun s hs=>.inl hs
    ·rw [if_neg hr0] at h0;cases h0
   ·rw [if_neg he] at h0 ⊢
    dsimp only at h0 ⊢
    have hA':Cov P (fun s=>A s∨s=bG):=fun d h1 h2=>⟨.inl (hA d h1 h2).1,(hA d h1 h2).2⟩
    exact .branch (BK hP hE hA' hn (.inr rfl) (rR hP (hpi c (by simp)))) ((iC hE hA hn hi.tail hcs (by omega)).mono fun s hs=>.inl hs) (hr (by omega))
theorem QA {l:List D} (hl:Gds n l) (hp:∀d∈l,P d) (h0:(AL ev l).2=0):Good Q A (AL ev l).1:=by
 match l,hl,hp,h0 with
 | [],_,_,h0=>cases h0
 | a::r,hl,hp,h0 =>
  unfold AL at h0 ⊢
  dsimp only at h0 ⊢
  exact oD hE hA (B:=fun s=>A s∨s=bG) (fun s hs=>hs) (xX hP hE hA hn hl.tail (fun d hd=>hp d (by simp [hd])) (by omega)) hl.head (hp a (by simp)) (by omega)
theorem uA (b:Bool):∀{l:List D},Gds n l→(∀d∈l,P d)→(dA ev b l).2=0→Good Q A (dA ev b l).1
 | [],_,_,_=>by
  unfold dA
  cases b
  ·exact nL hP hE hA hn (.inr rfl)
  ·exact nL hP hE hA hn (.inl rfl)
 | [d],hl,hp,h0=>hE.e d hl.head (hp d (by simp)) A hA h0
 | d::e::r,hl,hp,h0=>by
  have hr:=fun h=>uA b hl.tail (fun x hx=>hp x (List.mem_cons_of_mem _ hx)) h
  have tr:Good Q (fun s=>A s∨s=bG) (bJ bG):=.ref (.inr rfl) (by decide)
  rw [show dA ev b (d::e::r)=if b=true then (aF (ev.e d).1 (dA ev b (e::r)).1 (iL 2),max (dA ev b (e::r)).2 (ev.e d).2) else ((dL ev d (aF (bJ bG) (bJ bG) (dA ev b (e::r)).1)).1,max (dA ev b (e::r)).2 (dL ev d (aF (bJ bG) (bJ bG) (dA ev b (e::r)).1)).2) from rfl] at h0 ⊢
  cases b with
  | true =>
   rw [if_pos rfl] at h0 ⊢
   dsimp only at h0 ⊢
   exact .branch (hE.e d hl.head (hp d (by simp)) A hA (by omega)) (hr (by omega)) (nL hP hE hA hn (.inr rfl))
  | false =>
   rw [if_neg (by decide)] at h0 ⊢
   dsimp only at h0 ⊢
   exact oD hE hA (B:=fun s=>A s∨s=bG) (fun s hs=>hs) (.branch tr tr ((hr (by omega)).mono fun s hs=>.inl hs)) hl.head (hp d (by simp)) (by omega)
theorem WQ {d:D} {t:D × D × D} (hd:P d) (h:kP d=some t):P t.1∧P t.2.1∧P t.2.2:=by
 have hi:=oC hP d hd
 obtain⟨-,⟨h1,h2⟩|h1⟩:=qA h
 ·rw [h1] at hi
  rw [h2]
  exact⟨hi _ (by simp),hi _ (by simp),hi _ (by simp)⟩
 ·rw [h1] at hi
  exact⟨hi _ (by simp),hi _ (by simp),hi _ (by simp)⟩
theorem YU {l:List D} (hl:∀d∈l,P d):(∀d∈tI l,P d)∧(∀d∈tS l,P d)∧(tE l=0→∀p∈tN l,p≠e0):=by
 have key:∀t∈tT l,P t.1∧P t.2.1∧P t.2.2:=fun t ht=>by
  obtain⟨d,hd,hq⟩:=List.mem_filterMap.1 ht
  exact WQ hP hE hA hn (hl d hd) hq
 refine⟨fun d hd=>?_,fun d hd=>?_,fun h0 p hp=>?_⟩
 ·obtain⟨t,ht,rfl⟩:=List.mem_map.1 hd;exact (key t ht).2.1
 ·obtain⟨t,ht,rfl⟩:=List.mem_map.1 hd;exact (key t ht).2.2
 ·obtain⟨t,ht,rfl⟩:=List.mem_map.1 hp
  exact (lU hA (key t ht).1 (lC h0 _ (List.mem_map_of_mem (f:=fun t=>(bK t.1).2) ht))).2
theorem MI {l:List D} (hl:Gds n l) (hp:∀d∈l,P d) (h0:(mA ev l).2=0):Good Q A (mA ev l).1:=by
 match l,hl,hp,h0 with
 | [],_,_,h0=>cases h0
 | [_],_,_,h0=>cases h0
 | a::b::r,hl,hp,h0 =>
  have g1:=(vQ (gC hl.head)).1
  have g2:=gC hl.tail.head
  have hlen:=(gC hl.head).len
  have hrl:=hl.tail.tail.len
  obtain⟨p1,p2,p3⟩:=YU hP hE hA hn (rR hP (hp a (by simp)))
  have p4:=rR hP (hp b (by simp))
  rw [sK] at h0 ⊢
  by_cases hall:(aJ a).1.all (fun d=>(kP d).isSome)=true
  case neg=>rw [if_neg hall] at h0;cases h0
  rw [if_pos hall] at h0 ⊢
  generalize tI (aJ a).1=I at g1 p1 h0 ⊢
  generalize tS (aJ a).1=S at g1 p2 h0 ⊢
  generalize tN (aJ a).1=N at p3 h0 ⊢
  generalize (aJ b).1=B at g2 p4 h0 ⊢
  cases B with
  | nil=>exact absurd (show (2:Nat)=0 from h0) (by decide)
  | cons e es =>
   unfold qL at h0 ⊢
   dsimp only at h0 ⊢
   obtain⟨h1,zc⟩:=mz h0
   obtain⟨h2,zv⟩:=mz h1
   obtain⟨h3,zx⟩:=mz h2
   obtain⟨h4,zf⟩:=mz h3
   obtain⟨h5,za⟩:=mz h4
   obtain⟨h6,zn⟩:=mz h5
   obtain⟨h7,zb⟩:=mz h6
   obtain⟨h8,zl⟩:=mz h7
   obtain⟨ze,zt⟩:=mz h8
   obtain⟨h9,zu⟩:=mz ze
   obtain⟨h10,-⟩:=mz h9
   obtain⟨-,zT⟩:=mz h10
   clear h0 h1 h2 h3 h4 h5 h6 h7 h8 ze h9 h10
   have hA':Cov P (fun s=>A s∨s=dE):=fun d h1 h2=>⟨.inl (hA d h1 h2).1,(hA d h1 h2).2⟩
   refine lD zc (by simp) fun x hx=>?_
   rcases List.mem_cons.1 hx with rfl|hx
   ·refine vT (B:=fun s=>A s∨s=dE) zx (by simp;decide) (by simp) (fun s hs=>hs.imp id (by simp)) (fun y hy=>?_) (.ref (.inr rfl) (by decide))
    rw [List.mem_singleton.1 hy]
    refine vS (B:=fun s=>A s∨s=dE) zf (pC zu) (p3 zT) (fun s hs=>.inl hs) (.branch (hE.e e g2.head (p4 e (by simp)) _ hA' zt) ?_ (rQ (by simp) (by simp [aZ];omega) fun z hz=>?_))
    ·by_cases hes:es=[]
     ·rw [if_pos hes];exact qC hP hE hA' hn
     ·rw [if_neg hes] at zl ⊢
      exact iC hE hA' hn g2.tail (fun d hd=>p4 d (by simp [hd])) zl
    ·rcases List.mem_append.1 hz with hz|hz
     ·exact jZ hE hA' hl.tail.tail (fun d hd=>hp d (by simp [hd])) zb z hz
     ·rw [List.mem_singleton.1 hz]
      refine lD za (by simp) fun u hu=>?_
      rcases List.mem_cons.1 hu with rfl|hu
      ·exact .ref (.inr rfl) (by decide)
      ·exact jZ hE hA' g1.2 p2 zn u hu
   ·exact jZ hE hA g1.1 p1 zv x hx
end
end Go.Proofs.YtaeioidifpebdaaGreatDoor
end
section
namespace Go.Proofs.YtaeioidifpebdaaGreatDoor
open Go Go.RowKit Go.Lib
set_option linter.unusedSimpArgs false
set_option linter.unusedVariables false
set_option linter.unusedSectionVars false
set_option maxRecDepth 100000
set_option maxHeartbeats 1000000
mutual
def K.lh:K→Nat
 | .mk k _ _ _ _ l=>lhs l+if k=6 then 1 else 0
def lhs:List K→Nat
 | []=>0
 | x::l=>max x.lh (lhs l)
end
theorem DR (ev:Ev) (a b:D) (r:List D):fE ev (a::b::r)=if a.k=7 then ((bK a.fst).1,(dU ev a.snd (b::r)).1,max (bK a.fst).2 (dU ev a.snd (b::r)).2)
  else ((bK a).1,(ev.e b).1,max (if r=[] then (bK a).2 else max (bK a).2 2) (ev.e b).2):=rfl
theorem QB (ev:Ev) (a:D) (r:List D):vD ev (a::r)=if a.k=6 then iM ev (a::r) else ((eD ev (aI a).1 (ev.b r).1 (aI a).2.1).1,max (max (max (aI a).2.2 (ev.b r).2) (unl (aI a).1)) (eD ev (aI a).1 (ev.b r).1 (aI a).2.1).2):=rfl
structure LB (N H:Nat) (ev:Ev):Prop where
 e:∀d,Gd N d→(ev.e d).1.lh≤H
 b:∀l,Gds N l→(ev.b l).1.lh≤H
 q:∀d k,Gd N d→(ev.q d k).1.lh≤H
section
variable {N H:Nat} {ev:Ev} (h:LB N H ev)
include h
end
end Go.Proofs.YtaeioidifpebdaaGreatDoor
end
section
namespace Go.Proofs.YtaeioidifpebdaaGreatDoor
open Go Go.RowKit Go.Lib
set_option linter.unusedSimpArgs false
set_option linter.unusedVariables false
set_option linter.unusedSectionVars false
set_option maxRecDepth 100000
section
variable {Q P:D→Prop} {A:ByteArray→Prop} {n:Nat} {ev:Ev}
variable (hP:Pc Q P) (hE:GE Q P n ev) (hA:Cov P A) (hn:n≤100000000)
include hP hE hA hn
theorem qD {a d:K} (ha:Good Q A a) (hd:Good Q A d):Good Q A (sV a d):=by
 refine .call (by simp) (by simp) fun x hx=>?_
 simp only [List.mem_cons,List.not_mem_nil,or_false] at hx
 rcases hx with rfl|rfl|rfl
 ·exact .prim (by decide)
 ·exact ha
 ·exact hd
theorem rS {s:ByteArray} {x:K} (hs:Q (rF s)) (hx:Good Q A x):Good Q A (mK s x) :=
 qD hP hE hA hn (.const hs) (qD hP hE hA hn hx (.const hP.nil))
theorem vU {d:D} (ht:d.Two) (hd:P d) {s:ByteArray} {x:List D} (h:fA d s=some x):∀y∈x,P y:=by
 unfold fA at h
 split at h
 ·rename_i hk
  split at h
  ·cases h
   have hl:=ht.pair hk.1
   exact oC hP _ (hP.kid d _ hd (by rw [hl];simp))
  ·cases h
 ·cases h
theorem MJ {d:D} (ht:d.Two) (hd:P d) {s:ByteArray} {y:D} (h:qP d s=some y):P y:=by
 unfold qP at h
 split at h
 ·rename_i x hx
  cases h
  exact vU hP hE hA hn ht hd hx _ (by simp)
 ·cases h
theorem MK {d:D} (hd:Gd (n+1) d) (hp:P d) (k:Nat) (h0:(oM ev d k).2=0):Good Q A (oM ev d k).1:=by
 unfold oM at h0 ⊢
 cases h1:qP d AH with
 | some y =>
  have hy:=(mO hd h1).1
  have py:=MJ hP hE hA hn hd.1 hp h1
  rw [h1] at h0
  dsimp only at h0 ⊢
  by_cases hk:k=1
  ·rw [if_pos hk] at h0 ⊢;exact hE.e y hy py A hA h0
  ·rw [if_neg hk] at h0 ⊢;exact rS hP hE hA hn hP.sym.1 (hE.q y _ hy py A hA h0)
 | none =>
  rw [h1] at h0
  dsimp only at h0 ⊢
  cases h2:qP d eR with
  | some y =>
   have hy:=(mO hd h2).1
   have py:=MJ hP hE hA hn hd.1 hp h2
   rw [h2] at h0
   dsimp only at h0 ⊢
   exact rS hP hE hA hn hP.sym.2.1 (hE.q y _ hy py A hA h0)
  | none =>
   rw [h2] at h0
   dsimp only at h0 ⊢
   by_cases h8:d.k=8
   ·have hv:=hd.vec h8
    have:=hd.2.2
    rw [if_pos h8] at h0 ⊢
    dsimp only at h0 ⊢
    refine .call (by simp) (by simp) fun x hx=>?_
    simp only [List.mem_cons,List.not_mem_nil,or_false] at hx
    rcases hx with rfl|rfl
    ·exact .prim (by decide)
    ·exact hE.q _ _ ⟨hv.1.1,hv.1.2.1,by omega⟩ (hP.vec d hp h8) A hA h0
   ·rw [if_neg h8] at h0 ⊢
    by_cases h7:d.k=7
    ·obtain⟨hl,hf,hs,hm⟩:=hd.pair h7
     have:=hd.2.2
     have p1:=eO d.fst
     have p2:=eO d.snd
     have hf':Gd n d.fst:=⟨hf.1,hf.2.1,by omega⟩
     have hs':Gd n d.snd:=⟨hs.1,hs.2.1,by omega⟩
     have pf:P d.fst:=hP.kid d _ hp (by rw [hl];simp)
     have ps:P d.snd:=hP.kid d _ hp (by rw [hl];simp)
     rw [if_pos h7] at h0 ⊢
     cases h3:qP d.fst jK with
     | some y =>
      have hy:=(mO hf h3).1
      have py:=MJ hP hE hA hn hf.1 pf h3
      rw [h3] at h0
      dsimp only at h0 ⊢
      by_cases hk:k=1
      ·rw [if_pos hk] at h0 ⊢
       dsimp only at h0 ⊢
       refine .call (by simp) (by simp) fun x hx=>?_
       simp only [List.mem_cons,List.not_mem_nil,or_false] at hx
       rcases hx with rfl|rfl|rfl
       ·exact .prim (by decide)
       ·exact hE.e y hy py A hA (by omega)
       ·exact hE.q _ _ hs' ps A hA (by omega)
      ·rw [if_neg hk] at h0 ⊢
       dsimp only at h0 ⊢
       exact qD hP hE hA hn (rS hP hE hA hn hP.sym.2.2 (hE.q y _ hy py A hA (by omega))) (hE.q _ _ hs' ps A hA (by omega))
     | none =>
      rw [h3] at h0
      dsimp only at h0 ⊢
      exact qD hP hE hA hn (hE.q _ _ hf' pf A hA (by omega)) (hE.q _ _ hs' ps A hA (by omega))
    ·rw [if_neg h7] at h0 ⊢
     exact .const (hP.q d hp)
theorem FT (w:ByteArray) {l:List D} (hl:Gds n l) (hp:∀d∈l,P d) (h0:(bU ev w l).2=0):Good Q A (bU ev w l).1:=by
 unfold bU at h0 ⊢
 repeat' (split at h0<;>rename_i hc<;>first|rw [if_pos hc]|rw [if_neg hc])
 ·exact SX hP hE hA hn hl hp h0
 ·exact PZ hP hE hA hn hl hp h0
 ·exact JS hP hE hA hn hl hp h0
 ·exact DQ hP hE hA hn hl hp h0
 ·exact MI hP hE hA hn hl hp h0
 ·exact uA hP hE hA hn true hl hp h0
 ·exact uA hP hE hA hn false hl hp h0
 ·cases h0
theorem JT {l:List D} (hp:∀d∈l,P d) {i:Nat} (hi:i<l.length):P (l.getD i bZ):=by
 have:l.getD i bZ=l[i]:=by simp [List.getD,hi]
 rw [this];exact hp _ (List.getElem_mem hi)
end
section
variable {Q P:D→Prop} {A:ByteArray→Prop} {n:Nat} {ev:Ev}
variable (hP:Pc Q P) (hE:GE Q P n ev) (hA:Cov P A) (hn:n≤100000000)
include hP hE hA hn
theorem vV {l:List D} (hl:Gds n l) (hp:∀d∈l,P d) {i:Nat} (hi:i<l.length) (h0:(ev.e (l.getD i bZ)).2=0):Good Q A (ev.e (l.getD i bZ)).1 :=
 hE.e _ (FR hl hi) (JT hP hE hA hn hp hi) A hA h0
theorem pD {l:List D} (hl:Gds n l) (hp:∀d∈l,P d) (h0:(aZ ev.e l).2=0) {i:Nat} (hi:i<l.length):Good Q A (ev.e (l.getD i bZ)).1:=by
 refine vV hP hE hA hn hl hp hi (lC h0 _ (List.mem_map_of_mem (f:=fun d=>(ev.e d).2) ?_))
 rw [show l.getD i bZ=l[i] by simp [List.getD,hi]]
 exact List.getElem_mem hi
theorem QC (w:ByteArray) {l:List D} (hl:Gds n l) (hp:∀d∈l,P d) (h0:(dM ev w l).2=0):Good Q A (dM ev w l).1:=by
 have hd:∀d∈l.drop 1,P d:=fun d h=>hp d (List.mem_of_mem_drop h)
 have nt:Good Q A bS:=.const (hP.kd 9 (by simp))
 unfold dM at h0 ⊢
 repeat' (split at h0<;>rename_i hc<;>first|rw [if_pos hc]|rw [if_neg hc])
 ·exact .const (hP.q _ (JT hP hE hA hn hp (by omega)))
 ·exact hE.q _ _ (FR hl (by omega)) (JT hP hE hA hn hp (by omega)) A hA h0
 ·exact sY hP hE hA (JT hP hE hA hn hp (by omega)) (hl.drop 1) hd h0
 ·obtain⟨h1,h2⟩:=mz h0
  have:=lU hA (JT hP hE hA hn hp (i:=0) (by omega)) h1
  exact .set this.1 this.2 (vV hP hE hA hn hl hp (by omega) h2)
 ·exact .branch (pD hP hE hA hn hl hp h0 (by omega)) (pD hP hE hA hn hl hp h0 (by omega)) nt
 ·exact .branch (pD hP hE hA hn hl hp h0 (by omega)) (pD hP hE hA hn hl hp h0 (by omega)) (pD hP hE hA hn hl hp h0 (by omega))
 ·exact iC hE hA hn hl hp h0
 ·exact QA hP hE hA hn hl hp h0
 ·obtain⟨h1,h2⟩:=mz h0
  exact .branch (vV hP hE hA hn hl hp (by omega) h1) (iC hE hA hn (hl.drop 1) hd h2) nt
 ·obtain⟨h1,h2⟩:=mz h0
  exact .branch (vV hP hE hA hn hl hp (by omega) h1) nt (iC hE hA hn (hl.drop 1) hd h2)
 ·exact FT hP hE hA hn w hl hp h0
theorem wW {d:D} (hd:Gd (n+1) d) (hp:P d) (h0:(gQ ev d).2=0):Good Q A (gQ ev d).1:=by
 unfold gQ at h0 ⊢
 by_cases k0:d.k=0
 ·rw [if_pos k0] at h0;cases h0
 rw [if_neg k0] at h0 ⊢
 by_cases k6:d.k=6
 ·rw [if_pos k6] at h0 ⊢
  have:=lU hA hp h0
  exact .ref this.1 this.2
 rw [if_neg k6] at h0 ⊢
 by_cases h7:d.k=7
 ·rw [if_pos h7] at h0 ⊢
  by_cases he:gW d=0
  ·rw [if_pos he] at h0 ⊢
   have hgi:Gds n (items d):=by
    have:=AJ h7
    have:=hd.2.2
    exact⟨(kH d hd.1 hd.2.1).1,(kH d hd.1 hd.2.1).2,by omega⟩
   have hpi:=oC hP d hp
   generalize items d=it at hgi hpi h0 ⊢
   match it,hgi,hpi,h0 with
   | [],_,_,h0=>cases h0
   | a::r,hgi,hpi,h0 =>
    dsimp only at h0 ⊢
    by_cases hk:a.k=6∧BZ a.t=true
    ·rw [if_pos hk] at h0 ⊢
     exact QC hP hE hA hn a.t hgi.tail (fun d hd=>hpi d (by simp [hd])) h0
    ·rw [if_neg hk] at h0 ⊢
     obtain⟨h1,h2⟩:=mz h0
     exact lD h2 (by simp [aZ]) (jZ hE hA hgi hpi h1)
  ·rw [if_neg he] at h0;cases h0
 ·rw [if_neg h7]
  exact .const (hP.q d hp)
theorem JU {l:List D} (hl:Gds n l) (hp:∀d∈l,P d) (h0:(fE ev l).2.2=0):(A (fE ev l).1∧(fE ev l).1≠e0)∧Good Q A (fE ev l).2.1:=by
 match l,hl,hp,h0 with
 | [],_,_,h0=>cases h0
 | [_],_,_,h0=>cases h0
 | a::b::r,hl,hp,h0 =>
  have pa:P a:=hp a (by simp)
  rw [DR] at h0 ⊢
  by_cases h7:a.k=7
  ·rw [if_pos h7] at h0 ⊢
   obtain⟨h1,h2⟩:=mz h0
   have hl2:=hl.head.1.pair h7
   exact⟨lU hA (hP.kid a _ pa (by rw [hl2];simp)) h1,sY hP hE hA (hP.kid a _ pa (by rw [hl2];simp)) hl.tail (fun d hd=>hp d (by simp only [List.mem_cons] at hd ⊢;exact .inr hd)) h2⟩
  ·rw [if_neg h7] at h0 ⊢
   obtain⟨h1,h2⟩:=mz h0
   have h1:(bK a).2=0:=by split at h1<;>omega
   exact⟨lU hA pa h1,hE.e b hl.tail.head (hp b (by simp)) A hA h2⟩
theorem SY:∀(m:Nat) {k:Nat} {l:List D},Gds k l→(∀d∈l,P d)→∀d∈yG m l,P d
 | 0,_,_,_,hp=>hp
 | m+1,k,l,hl,hp=>by
  intro d hd
  rw [yG] at hd
  obtain⟨x,hx,hd⟩:=List.mem_flatMap.1 hd
  cases ho:fA x eM with
  | none=>rw [ho] at hd;rw [List.mem_singleton.1 hd];exact hp x hx
  | some y =>
   rw [ho] at hd
   exact SY m (gM (hl.mem hx) ho).1 (vU hP hE hA hn (hl.mem hx).1 (hp x hx) ho) d hd
theorem DS (he:∀d,Gd (n+1) d→P d→(ev.e d).2=0→Good Q A (ev.e d).1):∀(l:List D) (s:Bs),Gds (n+1) l→(∀d∈l,P d) →
  (s.err=0→(∀p∈s.names,A p∧p≠e0)∧(∀x∈s.values,Good Q A x)∧∀x∈s.rest,Good Q A x)→(l.foldl (dF ev) s).err=0 →
  (∀p∈(l.foldl (dF ev) s).names,A p∧p≠e0)∧(∀x∈(l.foldl (dF ev) s).values,Good Q A x)∧∀x∈(l.foldl (dF ev) s).rest,Good Q A x
 | [],s,_,_,hs,h0=>hs h0
 | d::l,s,hl,hp,hs,h0=>by
  rw [List.foldl_cons] at h0 ⊢
  refine DS he l _ hl.tail (fun x hx=>hp x (by simp [hx])) ?_ h0
  have pd:=hp d (by simp)
  unfold dF
  cases ho:fA d iR with
  | none =>
   intro h
   obtain⟨h1,h2⟩:=mz h
   obtain⟨g1,g2,g3⟩:=hs h1
   refine⟨g1,g2,fun x hx=>?_⟩
   rcases List.mem_append.1 hx with hx|hx
   ·exact g3 x hx
   ·rw [List.mem_singleton.1 hx];exact he d hl.head pd h2
  | some x =>
   intro h
   dsimp only at h
   have h12:s.err=0∧(fE ev x).2.2=0:=by
    split at h
    ·exact mz h
    ·exact mz (mz h).1
   obtain⟨q1,q2⟩:=gM hl.head ho
   have hx:Gds n x:=⟨q1.1,q1.2.1,by have:=hl.head.2.2;omega⟩
   obtain⟨g1,g2,g3⟩:=hs h12.1
   obtain⟨w1,w2⟩:=JU hP hE hA hn hx (vU hP hE hA hn hl.head.1 pd ho) h12.2
   refine⟨fun p hp=>?_,fun y hy=>?_,g3⟩
   ·rcases List.mem_append.1 hp with hp|hp
    ·exact g1 p hp
    ·rw [List.mem_singleton.1 hp];exact w1
   ·rcases List.mem_append.1 hy with hy|hy
    ·exact g2 y hy
    ·rw [List.mem_singleton.1 hy];exact w2
theorem QD (he:∀d,Gd (n+1) d→P d→(ev.e d).2=0→Good Q A (ev.e d).1) {l:List D} (hl:Gds (n+1) l) (hp:∀d∈l,P d) (h0:(CA ev l).2=0):Good Q A (CA ev l).1:=by
 have hs:=(FL hl).1
 have hlen:=JL ev (spl l)
 have hsl:=hs.len
 unfold CA pS at h0 ⊢
 have key:=DS hP hE hA hn he (spl l) ⟨[],[],[],0⟩ hs (SY hP hE hA hn _ hl hp) (fun _=>⟨by simp,by simp,by simp⟩)
 change (jP ev (spl l)).err=0→(∀p∈(jP ev (spl l)).names,A p∧p≠e0)∧(∀x∈(jP ev (spl l)).values,Good Q A x)∧∀x∈(jP ev (spl l)).rest,Good Q A x at key
 generalize jP ev (spl l)=s at key h0 hlen ⊢
 by_cases h1:s.rest=[]
 ·rw [if_pos h1] at h0;exact absurd (mz h0).2 (by decide)
 rw [if_neg h1] at h0 ⊢
 by_cases h2:s.names=[]
 ·rw [if_pos h2] at h0 ⊢
  exact rQ h1 (by omega) (key h0).2.2
 ·rw [if_neg h2] at h0 ⊢
  obtain⟨q1,q2⟩:=mz h0
  obtain⟨g1,g2,g3⟩:=key q1
  exact vT (B:=A) q2 (fun p hp=>(g1 p hp).2) (by omega) (fun s hs=>.inl hs) g2 (rQ h1 (by omega) g3)
end
section
variable {Q P:D→Prop}
theorem JV (hP:Pc Q P):∀n,n≤100000000→GE Q P n (evs n)
 | 0,_=>⟨fun d hd=>absurd hd.2.2 (Nat.not_lt_zero _),fun d hd=>absurd hd.2.2 (Nat.not_lt_zero _),fun d k hd=>absurd hd.2.2 (Nat.not_lt_zero _)⟩
 | n+1,h=>by
  have ih:=JV hP n (by omega)
  have hh:GE Q P n ⟨gQ (evs n),(evs n).b,(evs n).q⟩:=⟨fun d hd hp A hA h0=>wW hP ih hA (by omega) (hd.le (Nat.le_succ n)) hp h0,ih.b,ih.q⟩
  exact⟨fun d hd hp A hA h0=>by rw [evs] at h0 ⊢;exact wW hP ih hA (by omega) hd hp h0,
   fun l hl hp A hA h0=>by rw [evs] at h0 ⊢;exact QD hP hh hA (by omega) (fun d hd hp h0=>wW hP ih hA (by omega) hd hp h0) hl hp h0,
   fun d k hd hp A hA h0=>by rw [evs] at h0 ⊢;exact MK hP hh hA (by omega) hd hp k h0⟩
inductive TopG (Q:D→Prop) (A:ByteArray→Prop):K→Prop
 | good {k}:Good Q A k→TopG Q A k
 | dfn {s x}:A s→s≠e0→Good Q A x→TopG Q A (.mk 4 s e0 [] bZ [x])
 | seq {l}:2≤l.length→l.length≤200000000→(∀x∈l,TopG Q A x)→TopG Q A (.mk 7 e0 e0 [] bZ l)
theorem TopG.ok (hQ:∀d,Q d→d.Ok) {A:ByteArray→Prop} {k:K} (h:TopG Q A k):k.Ok:=by
 induction h with
 | good h=>exact h.ok hQ
 | dfn h h0 hx=>exact⟨by decide,by simp,dW,by simp,hx.ok hQ,trivial⟩
 | seq h1 h2 _ ih=>exact⟨by decide,by simp,dW,by omega,K.Oks.ofMem ih⟩
theorem JW (hP:Pc Q P) {A:ByteArray→Prop} {n:Nat} {E:Ev} (hE:GE Q P n E) (hA:Cov P A) (hn:n≤100000000):∀(m:Nat) (d:D),d.msr<m→Gd n d→P d→(kI E m d).2=0→TopG Q A (kI E m d).1
 | 0,d,h,_,_,_=>absurd h (Nat.not_lt_zero _)
 | m+1,d,h,hd,hp,h0=>by
  rw [kI] at h0 ⊢
  cases h1:fA d iR with
  | some l =>
   rw [h1] at h0
   have hl:=gM hd h1
   obtain⟨w1,w2⟩:=JU hP hE hA hn hl.1 (vU hP hE hA hn hd.1 hp h1) h0
   exact .dfn w1.1 w1.2 w2
  | none =>
   rw [h1] at h0
   dsimp only at h0 ⊢
   cases h2:fA d eM with
   | none=>rw [h2] at h0;exact .good (hE.e d hd hp A hA h0)
   | some l =>
    rw [h2] at h0
    obtain⟨hl,hm⟩:=gM hd h2
    have pl:=vU hP hE hA hn hd.1 hp h2
    match l,hl,hm,pl,h0 with
    | [],_,_,_,_=>exact .good (.const (hP.kd 9 (by simp)))
    | a::r,hl,hm,pl,h0 =>
     dsimp only at h0 ⊢
     have hk:∀x∈a::r,TopG Q A (kI E m x).1:=fun x hx =>
      JW hP hE hA hn m x (by have:=lS hx;omega) (hl.mem hx) (pl x hx) (lC h0 _ (List.mem_map_of_mem (f:=fun x=>(kI E m x).2) hx))
     have hlen:=hl.len
     match r,hk,hlen with
     | [],hk,_=>exact hk a (by simp)
     | b::r,hk,hlen =>
      refine .seq (by simp) (by simp at hlen ⊢;omega) fun y hy=>?_
      have hy:y∈(a::b::r).map fun x=>(kI E m x).1:=hy
      obtain⟨x,hx,rfl⟩:=List.mem_map.1 hy
      exact hk x hx
theorem QE (hP:Pc Q P) {A:ByteArray→Prop} (hA:Cov P A) {d:D} (hn:d.msr<100000000) (ht:d.Two) (ho:d.Ok) (hp:P d) (h0:(pT d).2=0):TopG Q A (pT d).1 :=
 JW hP (JV hP _ (by omega)) hA (by omega) _ d (Nat.lt_succ_self _) ⟨ht,ho,Nat.lt_succ_self _⟩ hp h0
end
end Go.Proofs.YtaeioidifpebdaaGreatDoor
end
section
namespace Go.Proofs.YtaeioidifpebdaaGreatDoor
open Go Go.RowKit Go.Lib
set_option linter.unusedSimpArgs false
set_option linter.unusedVariables false
set_option maxRecDepth 100000
mutual
def D.syms:D→List ByteArray
 | .mk k _ _ _ t l=>(if k=6 then [t] else [])++DT l
def DT:List D→List ByteArray
 | []=>[]
 | d::l=>d.syms++DT l
end
theorem D.syms_eq (d:D):d.syms=(if d.k=6 then [d.t] else [])++DT d.l:=by cases d;rw [D.syms];rfl
theorem BL:∀(d:D),d.Plain→∀s∈d.syms,s≠e0
 | .mk k c neg mag t l,h,s,hs=>by
  rw [D.Plain] at h
  rw [D.syms] at hs
  rcases List.mem_append.1 hs with hs|hs
  ·split at hs
   ·rename_i hk
    rw [List.mem_singleton.1 hs]
    intro e
    have:=h.2.2.2.2.1 hk
    rw [e] at this
    exact absurd this (by decide)
   ·simp at hs
  ·have key:∀d∈l,∀s∈d.syms,s≠e0:=fun d hd=>by
    obtain⟨i,hi,rfl⟩:=List.mem_iff_getElem.1 hd
    exact BL l[i] ((Plains.iff l).1 h.2.2.2.2.2.2.2.2 i hi)
   have:∀(m:List D),(∀d∈m,d∈l)→∀s∈DT m,s≠e0:=fun m=>by
    induction m with
    | nil=>intro _ s hs;simp [DT] at hs
    | cons x m ih =>
     intro hm s hs
     rw [DT] at hs
     rcases List.mem_append.1 hs with hs|hs
     ·exact key x (hm x (by simp)) s hs
     ·exact ih (fun y hy=>hm y (by simp [hy])) s hs
   exact this l (fun _ h=>h) s hs
termination_by d=>SizeOf.sizeOf d
decreasing_by
 all_goals simp_wf
 all_goals (have:=List.sizeOf_lt_of_mem hd;omega)
theorem D.Ok.kid {d x:D} (h:d.Ok) (hx:x∈d.l):x.Ok:=h.l.mem hx
mutual
def K.Cl:K→List ByteArray→Bool→Prop
 | .mk k name rest params d l,free,top=>if k=6 then params.Nodup∧rest∉params∧params.length≤40∧l.length=1∧Cls l (free++params++[rest]) false else
  ((k=2∨k=3)→name∈free)∧(k=4→top=true∧name∈free)∧Cls l free (top&&decide (k=7))
def Cls:List K→List ByteArray→Bool→Prop
 | [],_,_=>True
 | x::l,free,top=>x.Cl free top∧Cls l free top
end
theorem Cls.ofMem {free:List ByteArray} {top:Bool}:∀{l:List K},(∀x∈l,x.Cl free top)→Cls l free top
 | [],_=>trivial
 | x::l,h=>⟨h x (by simp),Cls.ofMem fun y hy=>h y (by simp [hy])⟩
theorem Cls.get {free:List ByteArray} {top:Bool}:∀{l:List K},Cls l free top→∀i (h:i<l.length),l[i].Cl free top
 | x::l,h,0,_=>h.1
 | x::l,h,i+1,hi=>Cls.get h.2 i (by simpa using hi)
theorem Good.cl {Q:D→Prop} {A:ByteArray→Prop} {k:K} (h:Good Q A k):∀{free:List ByteArray} {top:Bool},(∀s,A s→s∈free)→k.Cl free top:=by
 induction h with
 | const h=>intro free top hf;simp [eC,K.Cl,Cls]
 | ref h h0=>intro free top hf;simp [bJ,K.Cl,Cls];exact hf _ h
 | prim h0=>intro free top hf;simp [fI,K.Cl,Cls]
 | set h h0 _ ih=>intro free top hf;simp [pR,K.Cl,Cls];exact⟨hf _ h,ih hf⟩
 | branch _ _ _ i1 i2 i3=>intro free top hf;simp [aF,K.Cl,Cls];exact⟨i1 hf,i2 hf,i3 hf⟩
 | seq h1 h2 _ ih=>intro free top hf;simp [K.Cl];exact Cls.ofMem fun x hx=>ih x hx hf
 | call h1 h2 _ ih=>intro free top hf;simp [jT,K.Cl];exact Cls.ofMem fun x hx=>ih x hx hf
 | lam h1 h2 h3 h4 h5 h6 ih =>
  intro free top hf
  rw [K.Cl,if_pos rfl]
  refine⟨h1,h2,by omega,rfl,ih fun s hs=>?_,trivial⟩
  rcases h5 s hs with h|h|h
  ·simp [hf s h]
  ·simp [h]
  ·simp [h]
 | none=>intro free top hf;simp [jH,K.Cl,Cls]
theorem TopG.cl {Q:D→Prop} {A:ByteArray→Prop} {k:K} (h:TopG Q A k) {free:List ByteArray} (hf:∀s,A s→s∈free):k.Cl free true:=by
 induction h with
 | good h=>exact h.cl hf
 | dfn h h0 hx=>simp [K.Cl,Cls];exact⟨hf _ h,hx.cl hf⟩
 | seq h1 h2 _ ih=>simp [K.Cl];exact Cls.ofMem ih
theorem SZ {d:D} (h0:(wV d).2=0):yF d=true∧(pT d).2=0∧wV d=((pT d).1,0):=by
 unfold wV at h0 ⊢
 split at h0
 ·rename_i hb
  have h2:(pT d).2=0:=by
   generalize (pT d).2=n at h0
   match n,h0 with
   | 0,_=>rfl
   | 1,h0=>cases h0
   | n+2,h0=>cases h0
  rw [if_pos hb,if_pos h2,h2]
  exact⟨hb,rfl,rfl⟩
 ·cases h0
end Go.Proofs.YtaeioidifpebdaaGreatDoor
end
section
namespace Go.Proofs.YtaeioidifpebdaaGreatDoor
open Go Go.RowKit Go.Lib
set_option linter.unusedSimpArgs false
set_option linter.unusedVariables false
set_option linter.unusedSectionVars false
set_option maxRecDepth 100000
set_option maxHeartbeats 1000000
mutual
def K.sz:K→Nat
 | .mk _ _ _ _ _ l=>szs l+1
def szs:List K→Nat
 | []=>0
 | x::l=>x.sz+szs l
end
theorem yW (a b:List K):szs (a++b)=szs a+szs b:=by
 induction a with
 | nil=>simp [szs]
 | cons x a ih=>rw [List.cons_append,szs,szs,ih,Nat.add_assoc]
theorem fP (a b c:K):(aF a b c).sz=a.sz+b.sz+c.sz+1:=by simp [aF,K.sz,szs];omega
theorem gN (d:D):(eC d).sz=1:=by simp [eC,K.sz,szs]
theorem TA (s:ByteArray) (x:K):(pR s x).sz=x.sz+1:=by simp [pR,K.sz,szs]
theorem rT (s:ByteArray):(bJ s).sz=1:=by simp [bJ,K.sz,szs]
theorem yX (s:ByteArray):(fI s).sz=1:=by simp [fI,K.sz,szs]
theorem gO:kz.sz=1:=by simp [kz,K.sz,szs]
theorem UZ:jH.sz=1:=by simp [jH,K.sz,szs]
theorem rU (l:List K):(jT l).sz=szs l+1:=by simp [jT,K.sz]
theorem qE (l:List K):(dB l).1.sz≤szs l+1:=by
 unfold dB;split
 ·rw [gO];omega
 ·rw [rU];exact Nat.le_refl _
theorem BM (l:List K):(fJ l).sz≤szs l+1:=by
 unfold fJ;split
 ·simp [szs]
 ·rw [K.sz];exact Nat.le_refl _
theorem BN (ps:List ByteArray) (r:ByteArray) (b:K):(eE ps r b).1.sz≤b.sz+1:=by
 unfold eE
 by_cases hc:40<ps.length+(if r=e0 then 0 else 1)
 ·rw [if_pos hc,gO];omega
 ·rw [if_neg hc];simp [K.sz,szs]
theorem JX:∀(names:List ByteArray) (values:List K),szs ((names.zip values).map fun p=>pR p.1 p.2)≤szs values+names.length
 | [],_=>by simp [szs]
 | _::_,[]=>by simp [szs]
 | n::ns,v::vs=>by
  have:=JX ns vs
  simp only [List.zip_cons_cons,List.map_cons,szs,TA,List.length_cons];omega
theorem DU:∀names:List ByteArray,szs (names.map fun _=>jH)=names.length
 | []=>rfl
 | n::ns=>by rw [List.map_cons,szs,UZ,DU ns,List.length_cons];omega
theorem FU (names:List ByteArray) (values:List K) (body:K):(jI names values body).1.sz≤szs values+body.sz+2*names.length+3:=by
 unfold jI
 dsimp only
 have h1:=BM ((names.zip values).map (fun p=>pR p.1 p.2)++[body])
 have h2:=BN names e0 (fJ ((names.zip values).map (fun p=>pR p.1 p.2)++[body]))
 have h3:=qE ((eE names e0 (fJ ((names.zip values).map (fun p=>pR p.1 p.2)++[body]))).1::names.map fun _=>jH)
 have h4:=JX names values
 rw [szs,DU] at h3
 rw [yW] at h1
 simp only [szs] at h1
 omega
theorem JY:∀l:List D,(kW l).sz≤6*l.length+1
 | []=>by simp [kW,iL,gN]
 | d::l=>by
  have:=JY l
  simp only [kW,fP,rU,szs,yX,rT,gN,iL,List.length_cons];omega
theorem YE (l:List D):aY (bV l)+3*(bN l).length≤aY l:=by
 induction l with
 | nil=>simp [bV,bN,aY]
 | cons b l ih =>
  unfold bV bN at *
  rw [List.filterMap_cons,List.filterMap_cons]
  cases hp:gP b with
  | none=>simp only [Option.map_none,aY];omega
  | some p =>
   simp only [Option.map_some,aY,List.length_cons]
   unfold gP at hp
   split at hp
   ·split at hp
    ·rename_i x y hh
     cases hp
     have h1:=iA b
     rw [hh] at h1
     simp only [aY,List.length_cons,List.length_nil] at h1
     have:=eO x
     dsimp only
     omega
    ·cases hp
   ·cases hp
theorem pE (d:D):aY (aJ d).1+(aJ d).1.length≤d.msr:=by
 unfold aJ;split
 ·exact iA d
 ·simp [aY]
theorem BO (d:D):aY (eJ d)+(eJ d).length≤d.msr:=by rw [←sF];exact pE d
theorem yY (d:D):aY (aI d).2.1+3*(aI d).1.length≤d.msr:=by
 rw [vM]
 have h1:=YE (aJ d).1
 have h2:=pE d
 dsimp only
 omega
theorem TB:∀l:List D,aY (tI l)+aY (tS l)≤aY l
 | []=>Nat.le_refl _
 | d::l=>by
  have ih:=TB l
  unfold tI tS tT at *
  rw [List.filterMap_cons,aY]
  cases hp:kP d with
  | none=>simp only;omega
  | some t =>
   simp only [List.map_cons,aY]
   obtain⟨-,h2⟩:=qA hp
   have hm:=iA d
   rcases h2 with ⟨h2,h3⟩|h2
   ·rw [h2] at hm
    simp only [aY] at hm
    rw [h3];omega
   ·rw [h2] at hm
    simp only [aY] at hm
    omega
structure SB (N:Nat) (ev:Ev):Prop where
 e:∀d,Gd N d→(ev.e d).1.sz≤24*d.msr
 b:∀l,Gds N l→(ev.b l).1.sz≤24*aY l+1
 q:∀d k,Gd N d→(ev.q d k).1.sz≤24*d.msr
section
variable {N:Nat} {ev:Ev} (h:SB N ev)
include h
theorem mP:∀{l:List D},Gds N l→szs (aZ ev.e l).1≤24*aY l
 | [],_=>Nat.zero_le _
 | d::l,hl=>by
  have h1:=h.e d hl.head
  have h2:=mP hl.tail
  show (ev.e d).1.sz+szs (aZ ev.e l).1≤24*(d.msr+aY l)
  omega
theorem vW {l:List D} (hl:Gds N l):(fD ev.e l).1.sz≤24*aY l+1:=by
 unfold fD;split
 ·rw [gO];omega
 ·have:=BM (aZ ev.e l).1
  have:=mP h hl
  dsimp only;omega
theorem TC (f:D) {b:List D} (hb:Gds N b):(dU ev f b).1.sz≤24*aY b+2:=by
 have h1:=BN (dK f).1 (dK f).2.1 (ev.b b).1
 have h2:=h.b b hb
 unfold dU;dsimp only;omega
theorem TD:∀{l:List D},Gds N l→(fE ev l).2.1.sz≤24*aY l+2
 | [],_=>by rw [fE,gO];omega
 | [_],_=>by rw [fE,gO];omega
 | a::b::r,hl=>by
  rw [DR];split
  ·have:=TC h a.snd hl.tail
   dsimp only
   rw [aY];omega
  ·have:=h.e b hl.tail.head
   dsimp only
   simp only [aY];omega
theorem FV (names:List ByteArray) (body:K) {v:List D} (hv:Gds N v):(eD ev names body v).1.sz≤body.sz+24*aY v+2:=by
 unfold eD
 have h1:=BN names e0 body
 have h2:=qE ((eE names e0 body).1::(aZ ev.e v).1)
 have h3:=mP h hv
 rw [szs] at h2
 dsimp only;omega
theorem FW {d:D} (hd:Gd N d) (b:K):(dL ev d b).1.sz≤b.sz+24*d.msr+2:=by
 have:=FV h [bG] b (Gds.one hd)
 simp only [aY] at this
 exact this
theorem WR:∀{l:List D},Gds N l→(iM ev l).1.sz≤24*aY l+12
 | [],_=>by rw [iM,gO];omega;all_goals simp
 | [_],_=>by rw [iM,gO];omega;all_goals simp
 | a::b::r,hl=>by
  unfold iM
  dsimp only
  have h1:=BN (aI b).1 e0 (ev.b r).1
  have h2:=h.b r hl.tail.tail
  have h3:=FU [(bK a).1] [(eE (aI b).1 e0 (ev.b r).1).1] (bJ (bK a).1)
  have h4:=mP h (eS hl.tail.head).1
  have h5:=yY b
  have h6:=qE ((jI [(bK a).1] [(eE (aI b).1 e0 (ev.b r).1).1] (bJ (bK a).1)).1::(aZ ev.e (aI b).2.1).1)
  simp only [szs,rT,List.length_cons,List.length_nil] at h3 h6
  simp only [aY];omega
theorem WS:∀{l:List D},Gds N l→(vD ev l).1.sz≤24*aY l+12
 | [],_=>by rw [vD,gO];omega
 | a::r,hl=>by
  rw [QB];split
  ·exact WR h hl
  ·have h1:=FV h (aI a).1 (ev.b r).1 (eS hl.head).1
   have h2:=h.b r hl.tail
   have h3:=yY a
   dsimp only
   rw [aY];omega
theorem NL:∀{l:List (ByteArray × D)} (s:Rs),(∀p∈l,Gd N p.2)→(kO ev l s).1.sz≤s.1.sz+24*aY (l.map (·.2))+2*l.length
 | [],s,hl=>by show s.1.sz≤_;omega
 | p::l,s,hl=>by
  show (eD ev [p.1] (kO ev l s).1 [p.2]).1.sz≤_
  have h1:=NL (l:=l) s (fun q hq=>hl q (by simp [hq]))
  have h2:=FV h [p.1] (kO ev l s).1 (Gds.one (hl p (by simp)))
  simp only [List.map_cons,aY,List.length_cons] at h2 ⊢
  omega
theorem WT:∀{l:List D},Gds N l→(gY ev l).1.sz≤24*aY l+12
 | [],_=>by rw [gY,gO];omega
 | a::r,hl=>by
  unfold gY
  dsimp only
  obtain⟨hb,hlen,-,-⟩:=eS hl.head
  have h1:=NL h (l:=(aI a).1.zip (aI a).2.1) ((eD ev [] (ev.b r).1 []).1,max (max (aI a).2.2 (ev.b r).2) (eD ev [] (ev.b r).1 []).2) fun p hp=>hb.mem (List.of_mem_zip hp).2
  have h2:=FV h [] (ev.b r).1 (v:=[]) ⟨trivial,trivial,by have:=hl.2.2;simp only [aY];omega⟩
  have h3:=h.b r hl.tail
  have h4:=yY a
  rw [List.map_snd_zip (by omega),List.length_zip] at h1
  simp only [aY] at h1 h2 ⊢
  omega
theorem WU:∀{l:List D},Gds N l→(iT ev l).1.sz≤24*aY l+12
 | [],_=>by rw [iT,gO];omega
 | a::r,hl=>by
  have h1:=FU (aI a).1 (aZ ev.e (aI a).2.1).1 (ev.b r).1
  have h2:=mP h (eS hl.head).1
  have h3:=h.b r hl.tail
  have h4:=yY a
  show (jI (aI a).1 (aZ ev.e (aI a).2.1).1 (ev.b r).1).1.sz≤_
  rw [aY];omega
theorem TE:∀{l:List D},Gds N l→(gZ ev l).1.sz≤24*aY l+2
 | [],_=>by rw [gZ,bS,gN];omega
 | a::r,hl=>by
  have hr:=TE hl.tail
  have hi:=jY hl.head
  have hz:=BO a
  rw [pY,aY]
  generalize eJ a=it at hi hz ⊢
  match it,hi,hz with
  | [],_,_=>dsimp only;rw [gO];omega
  | c::cs,hi,hz =>
   have hs:=vW h hi.tail
   rw [aY,List.length_cons] at hz
   dsimp only
   split
   ·split
    ·omega
    ·dsimp only;rw [gO];omega
   ·match cs,hi,hs,hz with
    | [],hi,_,hz =>
     have:=FW h hi.head (aF (bJ bG) (bJ bG) (gZ ev r).1)
     rw [fP,rT] at this
     dsimp only;omega
    | f::fs,hi,hs,hz =>
     dsimp only
     split
     ·match fs,hi,hz with
      | [g],hi,hz =>
       have h1:=FW h hi.head (aF (bJ bG) (dB [(ev.e g).1,bJ bG]).1 (gZ ev r).1)
       have h2:=qE [(ev.e g).1,bJ bG]
       have h3:=h.e g hi.tail.tail.head
       rw [fP,rT] at h1
       simp only [szs,rT] at h2
       simp only [aY] at hz
       dsimp only;omega
      | [],_,_=>dsimp only;rw [gO];omega
      | _::_::_,_,_=>dsimp only;rw [gO];omega
     ·have:=h.e c hi.head
      dsimp only
      rw [fP];omega
theorem TF:∀{l:List D},Gds N l→(eG ev l).1.sz≤24*aY l+2
 | [],_=>by rw [eG,bS,gN];omega
 | a::r,hl=>by
  have hr:=TF hl.tail
  have hi:=jY hl.head
  have hz:=BO a
  rw [mN,aY]
  generalize eJ a=it at hi hz ⊢
  match it,hi,hz with
  | [],_,_=>dsimp only;rw [gO];omega
  | [_],_,_=>dsimp only;rw [gO];omega
  | c::f::fs,hi,hz =>
   have hs:=vW h hi.tail
   have hc:=pE c
   have ho:=JY (aJ c).1
   rw [aY,List.length_cons] at hz
   dsimp only
   split
   ·split
    ·omega
    ·dsimp only;rw [gO];omega
   ·dsimp only;rw [fP];omega
theorem ML (b:Bool):∀{l:List D},Gds N l→(dA ev b l).1.sz≤24*aY l+6*l.length+2
 | [],_=>by rw [dA,iL,gN];omega
 | [d],hl=>by have:=h.e d hl.head;rw [dA];simp only [aY];omega;all_goals simp
 | d::e::r,hl=>by
  have hr:=ML b hl.tail
  have h1:=h.e d hl.head
  have lg:dA ev b (d::e::r)=if b=true then (aF (ev.e d).1 (dA ev b (e::r)).1 (iL 2),max (dA ev b (e::r)).2 (ev.e d).2) else ((dL ev d (aF (bJ bG) (bJ bG) (dA ev b (e::r)).1)).1,max (dA ev b (e::r)).2 (dL ev d (aF (bJ bG) (bJ bG) (dA ev b (e::r)).1)).2):=rfl
  rw [lg,List.length_cons,aY]
  split
  ·dsimp only;rw [fP,iL,gN];omega
  ·have:=FW h hl.head (aF (bJ bG) (bJ bG) (dA ev b (e::r)).1)
   rw [fP,rT] at this
   dsimp only;omega
theorem WV:∀{l:List D},Gds N l→(mA ev l).1.sz≤24*aY l+20
 | [],_=>by rw [mA,gO];omega;all_goals simp
 | [_],_=>by rw [mA,gO];omega;all_goals simp
 | a::b::r,hl=>by
  have g1:=(vQ (gC hl.head)).1
  have g2:=gC hl.tail.head
  have z1:=TB (aJ a).1
  have z2:=pE a
  have z3:=pE b
  rw [sK]
  generalize tI (aJ a).1=I at g1 z1 ⊢
  generalize tS (aJ a).1=S at g1 z1 ⊢
  generalize (aJ b).1=B at g2 z3 ⊢
  simp only [aY]
  split
  ·match B,g2,z3 with
   | [],_,_=>unfold qL;dsimp only;rw [gO];omega
   | e::es,g2,z3 =>
    unfold qL
    dsimp only
    have w1:=h.e e g2.head
    have w2:(if es=[] then ((bS,0):Rs) else fD ev.e es).1.sz≤24*aY es+1:=by
     split
     ·dsimp only;rw [bS,gN];omega
     ·exact vW h g2.tail
    generalize (if es=[] then ((bS,0):Rs) else fD ev.e es)=L at w2 ⊢
    have w3:=mP h hl.tail.tail
    have w4:=mP h g1.1
    have w5:=mP h g1.2
    have w6:=qE (bJ dE::(aZ ev.e S).1)
    have w7:=BM ((aZ ev.e r).1++[(dB (bJ dE::(aZ ev.e S).1)).1])
    have w8:=BN (tN (aJ a).1) e0 (aF (ev.e e).1 L.1 (fJ ((aZ ev.e r).1++[(dB (bJ dE::(aZ ev.e S).1)).1])))
    have w9:=FU [dE] [(eE (tN (aJ a).1) e0 (aF (ev.e e).1 L.1 (fJ ((aZ ev.e r).1++[(dB (bJ dE::(aZ ev.e S).1)).1])))).1] (bJ dE)
    have wA:=qE ((jI [dE] [(eE (tN (aJ a).1) e0 (aF (ev.e e).1 L.1 (fJ ((aZ ev.e r).1++[(dB (bJ dE::(aZ ev.e S).1)).1])))).1] (bJ dE)).1::(aZ ev.e I).1)
    rw [fP] at w8
    rw [yW] at w7
    simp only [szs,rT,List.length_cons,List.length_nil] at w6 w7 w9 wA
    simp only [aY] at z3
    omega
  ·dsimp only;rw [gO];omega
theorem WW (w:ByteArray) {l:List D} (hl:Gds N l):(bU ev w l).1.sz≤24*aY l+6*l.length+20:=by
 have h1:=WS h hl
 have h2:=WT h hl
 have h3:=WU h hl
 have h4:=TE h hl
 have h5:=WV h hl
 have h6:=ML h true hl
 have h7:=ML h false hl
 unfold bU
 repeat' split
 all_goals first|omega|(dsimp only;rw [gO];omega)
theorem MM {l:List D} (hl:Gds N l) {i:Nat} (hi:i<l.length):(ev.e (l.getD i bZ)).1.sz≤24*(l.getD i bZ).msr:=h.e _ (FR hl hi)
theorem WX (w:ByteArray) {l:List D} (hl:Gds N l):(dM ev w l).1.sz≤24*aY l+24*l.length+24:=by
 have h1:=WW h w hl
 have g3:=vW h hl
 have g4:=vW h (hl.drop 1)
 have g5:=TC h (l.getD 0 bZ) (hl.drop 1)
 have gd:1≤l.length→(l.getD 0 bZ).msr+aY (l.drop 1)=aY l:=fun hn=>by
  match l,hn with
  | a::r,_=>rfl
 have gm:aY (l.drop 1)≤aY l:=IQ (List.drop_sublist 1 l)
 have g6:(AL ev l).1.sz≤24*aY l+5:=by
  match l,hl with
  | [],_=>rw [AL,gO];omega
  | a::r,hl =>
   have q1:=FW h hl.head (eG ev r).1
   have q2:=TF h hl.tail
   show (dL ev a (eG ev r).1).1.sz≤_
   rw [aY];omega
 have gn:bS.sz=1:=gN _
 unfold dM
 split
 ·dsimp only;rw [gN];omega
 split
 ·rename_i hq
  have:=h.q (l.getD 0 bZ) 1 (FR hl (by omega))
  have:=gd (by omega)
  omega
 split
 ·omega
 split
 ·rename_i hq
  have:=MM h hl (i:=1) (by omega)
  have:(l.getD 1 bZ).msr≤aY l:=lS (by
   have:l.getD 1 bZ=l[1]:=by simp [List.getD,hq.2]
   rw [this];exact List.getElem_mem _)
  dsimp only;rw [TA];omega
 split
 ·rename_i hq
  obtain⟨a,b,rfl⟩:∃a b,l=[a,b]:=by match l,hq.2 with|[a,b],_=>exact⟨a,b,rfl⟩
  have:=h.e a hl.head
  have:=h.e b hl.tail.head
  dsimp only [List.getD_cons_zero,List.getD_cons_succ]
  rw [fP]
  simp only [aY];simp only [List.getD_cons_zero,List.getD_cons_succ];omega
 split
 ·rename_i hq
  obtain⟨a,b,c,rfl⟩:∃a b c,l=[a,b,c]:=by match l,hq.2 with|[a,b,c],_=>exact⟨a,b,c,rfl⟩
  have:=h.e a hl.head
  have:=h.e b hl.tail.head
  have:=h.e c hl.tail.tail.head
  dsimp only
  rw [fP]
  simp only [aY];simp only [List.getD_cons_zero,List.getD_cons_succ];omega
 split
 ·omega
 split
 ·omega
 split
 ·rename_i hq
  have:=MM h hl (i:=0) (by omega)
  have:=gd (by omega)
  dsimp only;rw [fP];omega
 split
 ·rename_i hq
  have:=MM h hl (i:=0) (by omega)
  have:=gd (by omega)
  dsimp only;rw [fP];omega
 omega
theorem WY {d:D} (hd:Gd (N+1) d):(gQ ev d).1.sz≤24*d.msr:=by
 have hp:=eO d
 unfold gQ
 split
 ·dsimp only;rw [gO];omega
 split
 ·dsimp only;rw [rT];omega
 split
 ·rename_i h7
  have hgi:Gds N (items d):=by
   have:=AJ h7
   have:=hd.2.2
   exact⟨(kH d hd.1 hd.2.1).1,(kH d hd.1 hd.2.1).2,by omega⟩
  have hm:=iA d
  generalize items d=it at hgi hm ⊢
  split
  ·match it,hgi,hm with
   | [],_,_=>dsimp only;rw [gO];omega
   | a::r,hgi,hm =>
    rw [aY,List.length_cons] at hm
    have:=eO a
    dsimp only
    split
    ·have:=WX h a.t hgi.tail
     omega
    ·have h1:=qE (aZ ev.e (a::r)).1
     have h2:=mP h hgi
     rw [aY] at h2
     dsimp only;omega
  ·dsimp only;rw [gO];omega
 ·dsimp only;rw [gN];omega
theorem NM (he:∀d,Gd (N+1) d→(ev.e d).1.sz≤24*d.msr):∀(l:List D) (s:Bs),Gds (N+1) l →
  szs (l.foldl (dF ev) s).values+szs (l.foldl (dF ev) s).rest+12*(l.foldl (dF ev) s).names.length≤szs s.values+szs s.rest+12*s.names.length+24*aY l
 | [],s,_=>by simp [aY]
 | d::l,s,hl=>by
  rw [List.foldl_cons]
  refine Nat.le_trans (NM he l _ hl.tail) ?_
  rw [aY]
  unfold dF
  cases ho:fA d iR with
  | none =>
   have:=he d hl.head
   dsimp only
   simp only [yW,szs];omega
  | some x =>
   obtain⟨q1,q2⟩:=gM hl.head ho
   have hx:Gds N x:=⟨q1.1,q1.2.1,by have:=hl.head.2.2;omega⟩
   have:=TD h hx
   dsimp only
   simp only [yW,szs,List.length_append,List.length_cons,List.length_nil];omega
theorem WZ (he:∀d,Gd (N+1) d→(ev.e d).1.sz≤24*d.msr) {l:List D} (hl:Gds (N+1) l):(CA ev l).1.sz≤24*aY l+1:=by
 obtain⟨g1,g2⟩:=FL hl
 have k:=NM h he (spl l) ⟨[],[],[],0⟩ g1
 change szs (jP ev (spl l)).values+szs (jP ev (spl l)).rest+12*(jP ev (spl l)).names.length≤_ at k
 simp only [szs,List.length_nil] at k
 have h1:=BM (jP ev (spl l)).rest
 have h2:=FU (jP ev (spl l)).names (jP ev (spl l)).values (fJ (jP ev (spl l)).rest)
 unfold CA pS
 split
 ·dsimp only;rw [gO];omega
 split
 ·dsimp only;omega
 ·rename_i hn
  have:1≤(jP ev (spl l)).names.length:=List.length_pos_iff.2 hn
  dsimp only;omega
theorem XA {d:D} (hd:Gd (N+1) d) (k:Nat):(oM ev d k).1.sz≤24*d.msr:=by
 have hp:=eO d
 have hc:∀a b:K,(sV a b).sz=a.sz+b.sz+2:=fun a b=>by simp [sV,rU,szs,yX];omega
 have hm:∀(s:ByteArray) (x:K),(mK s x).sz=x.sz+6:=fun s x=>by simp [mK,hc,gN];omega
 unfold oM
 cases h1:qP d AH with
 | some y =>
  obtain⟨hy,hz⟩:=mO hd h1
  have r1:=h.e y hy
  have r2:=h.q y (k-1) hy
  dsimp only
  split
  ·omega
  ·dsimp only;rw [hm];omega
 | none =>
  cases h2:qP d eR with
  | some y =>
   obtain⟨hy,hz⟩:=mO hd h2
   have r2:=h.q y (k+1) hy
   dsimp only
   rw [hm];omega
  | none =>
   dsimp only
   by_cases h8:d.k=8
   ·have hv:=hd.vec h8
    have:=hd.2.2
    rw [if_pos h8]
    have:=h.q (fK d.l) k ⟨hv.1.1,hv.1.2.1,by omega⟩
    simp only [rU,szs,yX];omega
   ·rw [if_neg h8]
    by_cases h7:d.k=7
    ·obtain⟨-,hf,hs,hm7⟩:=hd.pair h7
     have:=hd.2.2
     have p1:=eO d.fst
     have p2:=eO d.snd
     have hf':Gd N d.fst:=⟨hf.1,hf.2.1,by omega⟩
     have hs':Gd N d.snd:=⟨hs.1,hs.2.1,by omega⟩
     have r1:=h.q d.snd k hs'
     have r2:=h.q d.fst k hf'
     rw [if_pos h7]
     cases h3:qP d.fst jK with
     | some y =>
      obtain⟨hy,hz⟩:=mO hf h3
      have r3:=h.e y hy
      have r4:=h.q y (k-1) hy
      dsimp only
      split
      ·simp only [rU,szs,yX];omega
      ·dsimp only;rw [hc,hm];omega
     | none =>
      dsimp only
      rw [hc];omega
    ·rw [if_neg h7];dsimp only;rw [gN];omega
end
theorem TG:∀n,SB n (evs n)
 | 0=>⟨fun d hd=>absurd hd.2.2 (Nat.not_lt_zero _),fun d hd=>absurd hd.2.2 (Nat.not_lt_zero _),fun d k hd=>absurd hd.2.2 (Nat.not_lt_zero _)⟩
 | n+1=>by
  have ih:=TG n
  have he:∀d,Gd (n+1) d→(gQ (evs n) d).1.sz≤24*d.msr:=fun d hd=>WY ih hd
  have hh:SB n ⟨gQ (evs n),(evs n).b,(evs n).q⟩:=⟨fun d hd=>he d (hd.le (Nat.le_succ n)),ih.b,ih.q⟩
  exact⟨fun d hd=>by rw [evs];exact he d hd,fun l hl=>by rw [evs];exact WZ hh he hl,fun d k hd=>by rw [evs];exact XA hh hd k⟩
theorem NN {N:Nat} {E:Ev} (h:SB N E):∀(m:Nat) (d:D),d.msr<m→Gd N d→(kI E m d).1.sz≤24*d.msr
 | 0,d,hm,_=>absurd hm (Nat.not_lt_zero _)
 | m+1,d,hm,hd=>by
  have hp:=eO d
  rw [kI]
  cases h1:fA d iR with
  | some l =>
   obtain⟨hl,hs⟩:=gM hd h1
   have:=TD h hl
   simp only [K.sz,szs];omega
  | none =>
   dsimp only
   cases h2:fA d eM with
   | none=>exact h.e d hd
   | some l =>
    obtain⟨hl,hs⟩:=gM hd h2
    match l,hl,hs with
    | [],_,_=>dsimp only;rw [bS,gN];omega
    | a::r,hl,hs =>
     have key:∀l:List D,Gds N l→(∀x∈l,x.msr<m)→szs (l.map fun x=>(kI E m x).1)≤24*aY l:=by
      intro l
      induction l with
      | nil=>intro _ _;exact Nat.zero_le _
      | cons x l ih =>
       intro hg hlt
       have q1:=NN h m x (hlt x (by simp)) hg.head
       have q2:=ih hg.tail fun y hy=>hlt y (by simp [hy])
       rw [List.map_cons,szs,aY];omega
     have h3:=key (a::r) hl fun x hx=>by have:=lS hx;omega
     have h4:=BM ((a::r).map fun x=>(kI E m x).1)
     dsimp only;omega
theorem VA {d:D} (ht:d.Two) (ho:d.Ok):(pT d).1.sz≤24*d.msr:=NN (TG _) _ d (Nat.lt_succ_self _) ⟨ht,ho,Nat.lt_succ_self _⟩
end Go.Proofs.YtaeioidifpebdaaGreatDoor
end
