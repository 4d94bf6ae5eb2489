/-
 Laid together: Pass, Pass2, Pass3, Pass4, Pass5, Frz, Drw, Hand, Pts, App, DrwG, FrzL, FrzN, FrzD.
-/
import Derived.Test.YtaeioidifpebdaaGreatDoorG3
section
namespace Go.Proofs.YtaeioidifpebdaaGreatDoor
open Go Go.RowKit
set_option linter.unusedSimpArgs false
set_option linter.unusedVariables false
mutual
def C.ren (f:Nat→Nat):C→C
 | .any=>.any
 | .v x=>.v x
 | .sl wd es=>.sl wd es
 | .ms loc n=>.ms (f loc) n
 | .ptr loc n i off=>.ptr (f loc) n i off
 | .pf cs=>.pf cs
 | .gv g=>.gv g
 | .er n=>.er n
 | .fn g caps=>.fn g (C.rens f caps)
def C.rens (f:Nat→Nat):List C→List C
 | []=>[]
 | c::cs=>c.ren f::C.rens f cs
end
mutual
def A.ren (f:Nat→Nat):A→A
 | .any=>.any
 | .one c=>.one (c.ren f)
 | .agg cs=>.agg (C.rens f cs)
 | .tup l=>.tup (A.rens f l)
def A.rens (f:Nat→Nat):List A→List A
 | []=>[]
 | a::l=>a.ren f::A.rens f l
end
def Ob.ren (f:Nat→Nat) (ob:Ob):Ob:=⟨ob.ty,ob.wd,ob.es.map (C.rens f)⟩
theorem C.rens_len (f:Nat→Nat):∀cs:List C,(C.rens f cs).length=cs.length
 | []=>rfl
 | c::cs=>by simp [C.rens,C.rens_len f cs]
theorem C.rens_append (f:Nat→Nat):∀a b:List C,C.rens f (a++b)=C.rens f a++C.rens f b
 | [],b=>rfl
 | c::cs,b=>by simp [C.rens,C.rens_append f cs b]
theorem C.rens_flat (f:Nat→Nat):∀es:List (List C),(es.map (C.rens f)).flatten=C.rens f es.flatten
 | []=>rfl
 | e::es=>by simp [C.rens_append,C.rens_flat f es]
mutual
theorem Cc.ren {r:World} {m M:List Lo} {f:Nat→Nat} (h:∀i,m[i]?=M[f i]?):∀(c:C) (u:Value),Cc ⟨r,M⟩ (c.ren f) u↔Cc ⟨r,m⟩ c u
 | .any,u=>by simp only [C.ren,Cc]
 | .v x,u=>by simp only [C.ren,Cc]
 | .sl wd es,u=>by simp only [C.ren,Cc]
 | .ms loc n,u=>by simp only [C.ren,Cc,h]
 | .ptr loc n i off,u=>by simp only [C.ren,Cc,h]
 | .pf cs,u=>by simp only [C.ren,Cc]
 | .gv g,u=>by simp only [C.ren,Cc]
 | .er n,u=>by simp only [C.ren,Cc]
 | .fn g caps,u=>by simp only [C.ren,Cc,Ccs.ren h caps]
theorem Ccs.ren {r:World} {m M:List Lo} {f:Nat→Nat} (h:∀i,m[i]?=M[f i]?):∀(cs:List C) (us:List Value),Ccs ⟨r,M⟩ (C.rens f cs) us↔Ccs ⟨r,m⟩ cs us
 | [],us=>by simp only [C.rens,Ccs]
 | c::cs,us=>by simp only [C.rens,Ccs,Cc.ren h c,Ccs.ren h cs]
end
mutual
theorem Ca.ren {r:World} {m M:List Lo} {f:Nat→Nat} (h:∀i,m[i]?=M[f i]?):∀(a:A) (u:Value),Ca ⟨r,M⟩ (a.ren f) u↔Ca ⟨r,m⟩ a u
 | .any,u=>by simp only [A.ren,Ca]
 | .one c,u=>by simp only [A.ren,Ca,Cc.ren h c]
 | .agg cs,u=>by simp only [A.ren,Ca,Ccs.ren h cs]
 | .tup l,u=>by simp only [A.ren,Ca,Cas.ren h l]
theorem Cas.ren {r:World} {m M:List Lo} {f:Nat→Nat} (h:∀i,m[i]?=M[f i]?):∀(l:List A) (us:List Value),Cas ⟨r,M⟩ (A.rens f l) us↔Cas ⟨r,m⟩ l us
 | [],us=>by simp only [A.rens,Cas]
 | a::l,us=>by simp only [A.rens,Cas,Ca.ren h a,Cas.ren h l]
end
theorem ObOk.ren {r w:World} {m M:List Lo} {f:Nat→Nat} (h:∀i,m[i]?=M[f i]?) {l:Lo} {ob:Ob}:ObOk ⟨r,M⟩ w l (ob.ren f)↔ObOk ⟨r,m⟩ w l ob:=by
 constructor
 ·intro k
  exact⟨by simpa [Ob.ren] using k.n,k.wd,fun e he=>by simpa [C.rens_len,Ob.ren] using k.all (C.rens f e) (List.mem_map.2 ⟨e,he,rfl⟩),by simpa [Ob.ren] using k.le,k.max,by
   obtain⟨vs,rest,h1,h2,h3⟩:=k.mem
   refine⟨vs,rest,h1,h2,?_⟩
   simp only [Ob.ren,C.rens_flat] at h3
   exact (Ccs.ren h _ _).1 h3⟩
 ·intro k
  exact⟨by simpa [Ob.ren] using k.n,k.wd,fun e he=>by
    obtain⟨e',he',rfl⟩:=List.mem_map.1 he
    simpa [C.rens_len,Ob.ren] using k.all e' he',by simpa [Ob.ren] using k.le,k.max,by
   obtain⟨vs,rest,h1,h2,h3⟩:=k.mem
   refine⟨vs,rest,h1,h2,?_⟩
   simp only [Ob.ren,C.rens_flat]
   exact (Ccs.ren h _ _).2 h3⟩
def rn (ρ:List Nat) (N:Nat) (i:Nat):Nat:=ρ.getD i (N+(i-ρ.length))
def kS {α:Type} (S:List α):List Nat→List α→List α
 | j::ρ,x::s=>kS (S.set j x) ρ s
 | _,_=>S
def mix {α:Type} (ρ:List Nat) (S s:List α):List α:=kS S ρ s++s.drop ρ.length
theorem kT {α:Type}:∀(S:List α) (ρ:List Nat) (s:List α),(kS S ρ s).length=S.length
 | S,[],s=>by simp [kS]
 | S,j::ρ,[]=>by simp [kS]
 | S,j::ρ,x::s=>by simp [kS,kT]
theorem pU {α:Type}:∀(S:List α) (ρ:List Nat) (s:List α) (j:Nat),j∉ρ→(kS S ρ s)[j]?=S[j]?
 | S,[],s,j,h=>by simp [kS]
 | S,k::ρ,[],j,h=>by simp [kS]
 | S,k::ρ,x::s,j,h=>by
  simp only [List.mem_cons,not_or] at h
  rw [kS,pU _ ρ s j h.2,List.getElem?_set_ne (fun e=>h.1 e.symm)]
theorem CN {α:Type}:∀(S:List α) (ρ:List Nat) (s:List α) (i j:Nat),ρ.Nodup→ρ.length≤s.length→(∀k∈ρ,k<S.length)→ρ[i]?=some j→(kS S ρ s)[j]?=s[i]?
 | S,[],s,i,j,_,_,_,h=>by simp at h
 | S,k::ρ,[],i,j,_,hl,_,h=>by simp at hl
 | S,k::ρ,x::s,0,j,hn,hl,hb,h=>by
  simp only [List.getElem?_cons_zero,Option.some.injEq] at h
  subst h
  rw [kS,pU _ _ _ _ (List.nodup_cons.1 hn).1]
  simp [hb k (by simp)]
 | S,k::ρ,x::s,i+1,j,hn,hl,hb,h=>by
  rw [kS]
  simp only [List.getElem?_cons_succ] at h ⊢
  exact CN _ ρ s i j (List.nodup_cons.1 hn).2 (by simpa using hl) (fun q hq=>by simpa using hb q (by simp [hq])) h
theorem QO {α:Type} {S s:List α} {ρ:List Nat} (hn:ρ.Nodup) (hl:ρ.length≤s.length) (hb:∀k∈ρ,k<S.length) (i:Nat):(mix ρ S s)[rn ρ S.length i]?=s[i]?:=by
 unfold mix rn
 by_cases hi:i<ρ.length
 ·have e:ρ[i]?=some ρ[i]:=List.getElem?_eq_getElem hi
  rw [List.getD_eq_getElem?_getD,e,Option.getD_some,List.getElem?_append_left (by rw [kT];exact hb _ (List.getElem_mem hi))]
  exact CN S ρ s i _ hn hl hb e
 ·have e:ρ[i]?=none:=List.getElem?_eq_none (by omega)
  rw [List.getD_eq_getElem?_getD,e,Option.getD_none,List.getElem?_append_right (by rw [kT];omega),kT,List.getElem?_drop]
  congr 1;omega
theorem oM {α:Type} {S s:List α} {ρ:List Nat} {j:Nat} (hj:j<S.length) (hn:j∉ρ):(mix ρ S s)[j]?=S[j]?:=by
 unfold mix
 rw [List.getElem?_append_left (by rw [kT];exact hj),pU _ _ _ _ hn]
theorem NV {α:Type} {S s:List α} {ρ:List Nat} (hl:ρ.length≤s.length) {j:Nat} (hj:j<(mix ρ S s).length):(j<S.length∧j∉ρ)∨∃i,j=rn ρ S.length i:=by
 by_cases h:j<S.length
 ·by_cases h2:j∈ρ
  ·obtain⟨i,hi,rfl⟩:=List.mem_iff_getElem.1 h2
   exact .inr ⟨i,by simp [rn,hi]⟩
  ·exact .inl ⟨h,h2⟩
 ·refine .inr ⟨ρ.length+(j-S.length),?_⟩
  simp only [rn]
  rw [List.getD_eq_getElem?_getD,List.getElem?_eq_none (by omega),Option.getD_none]
  omega
structure Handed (S:List (Option Ob)) (ρ:List Nat) (s:List (Option Ob)):Prop where
 len:ρ.length=s.length
 nodup:ρ.Nodup
 lt:∀k∈ρ,k<S.length
 get:∀i,i<s.length→S[rn ρ S.length i]?=(s[i]?).map (Option.map (Ob.ren (rn ρ S.length)))
def pick (M:List Lo) (ρ:List Nat):List Lo:=ρ.map fun j=>M.getD j ⟨0,0,0,0⟩
def kD (H:Nat→Bool) (S:List (Option Ob)) (M:List Lo) (s:List (Option Ob)) (m:List Lo) (b:Nat):Bool:=H b||(bZ S M b&&!bZ s m b)
theorem pV {M:List Lo} {ρ:List Nat} (h:∀k∈ρ,k<M.length) (i:Nat):(pick M ρ)[i]?=M[rn ρ M.length i]?:=by
 unfold pick rn
 by_cases hi:i<ρ.length
 ·have hlt:=h _ (List.getElem_mem hi)
  simp [hi,hlt]
 ·rw [List.getElem?_eq_none (by simp;omega),List.getD_eq_getElem?_getD,List.getElem?_eq_none (l:=ρ) (by omega),Option.getD_none,List.getElem?_eq_none (by omega)]
section
variable {H:Nat→Bool} {w0:World} {S0:Nat→Bool} {m0:List Lo} {nt:Cf} {st:St} {M:List Lo} {a:Act} {w w':World} {ρ:List Nat} {s s':List (Option Ob)} {m':List Lo}
theorem Handed.at (hh:Handed st.s ρ s) (hl:st.s.length=M.length) {i:Nat} {ob:Ob} {l:Lo} (h1:s[i]?=some (some ob)) (h2:(pick M ρ)[i]?=some l):st.s[rn ρ st.s.length i]?=some (some (ob.ren (rn ρ st.s.length)))∧M[rn ρ st.s.length i]?=some l:=by
 refine⟨?_,?_⟩
 ·rw [hh.get i (List.getElem?_eq_some_iff.1 h1).1,h1];rfl
 ·rw [hl,←pV (by rw [←hl];exact hh.lt)];exact h2
theorem Handed.hid (hh:Handed st.s ρ s) (hl:st.s.length=M.length) {b:Nat} (hb:bZ s (pick M ρ) b=true):bZ st.s M b=true:=by
 obtain⟨i,ob,l,h1,h2,rfl⟩:=aN.1 hb
 obtain⟨h3,h4⟩:=hh.at hl h1 h2
 exact aN.2 ⟨_,_,l,h3,h4,rfl⟩
theorem QP (hn:ρ.Nodup) {N i j:Nat} (hi:i<ρ.length) (hj:j<ρ.length) (h:rn ρ N i=rn ρ N j):i=j:=by
 simp only [rn,List.getD_eq_getElem?_getD,List.getElem?_eq_getElem hi,List.getElem?_eq_getElem hj,Option.getD_some] at h
 have hp:=List.pairwise_iff_getElem.1 hn
 rcases Nat.lt_trichotomy i j with g|g|g
 ·exact absurd h (hp i j hi hj g)
 ·exact g
 ·exact absurd h.symm (hp j i hj hi g)
theorem Handed.vis (hh:Handed st.s ρ s) (hl:st.s.length=M.length) (w:World):Go.Proofs.YtaeioidifpebdaaGreatDoor.vis (kD H st.s M s (pick M ρ)) s (pick M ρ) w=Go.Proofs.YtaeioidifpebdaaGreatDoor.vis H st.s M w:=by
 unfold Go.Proofs.YtaeioidifpebdaaGreatDoor.vis
 congr 1
 funext b
 unfold kD
 have:=hh.hid hl (b:=b)
 cases h1:H b<;>cases h2:bZ st.s M b<;>cases h3:bZ s (pick M ρ) b<;>simp_all
theorem Handed.sto (hh:Handed st.s ρ s) (hs:StoOk H st.s M w):StoOk (kD H st.s M s (pick M ρ)) s (pick M ρ) w:=by
 have hl:=hs.len
 have hpl:(pick M ρ).length=s.length:=by rw [pick,List.length_map,hh.len]
 refine⟨hpl.symm,fun i ob l h1 h2=>?_,fun i j oi oj li lj h1 h2 h3 h4 hb=>?_,fun i ob l h1 h2=>?_,fun b hb=>?_,fun b hb=>?_,hs.gl⟩
 ·obtain⟨h3,h4⟩:=hh.at hl h1 h2
  have:=hs.ok _ _ _ h3 h4
  rw [hh.vis hl]
  exact (ObOk.ren (fun i=>by rw [hl];exact pV (by rw [←hl];exact hh.lt) i)).1 this
 ·obtain⟨a1,a2⟩:=hh.at hl h1 h3
  obtain⟨b1,b2⟩:=hh.at hl h2 h4
  exact QP hh.nodup (by rw [hh.len];exact (List.getElem?_eq_some_iff.1 h1).1) (by rw [hh.len];exact (List.getElem?_eq_some_iff.1 h2).1) (hs.uniq _ _ _ _ _ _ a1 b1 a2 b2 hb)
 ·obtain⟨h3,h4⟩:=hh.at hl h1 h2
  have e1:bZ s (pick M ρ) l.b=true:=aN.2 ⟨i,ob,l,h1,h2,rfl⟩
  simp [kD,hs.nh _ _ _ h3 h4,e1]
 ·simp only [kD,Bool.or_eq_true,Bool.and_eq_true] at hb
  rcases hb with hb|⟨hb,-⟩
  ·exact hs.hlt b hb
  ·exact hs.hid_lt hb
 ·obtain⟨g1,g2,g3⟩:=hs.gb b hb
  refine⟨by simp [kD,g1,g2],?_,g3⟩
  cases hc:bZ s (pick M ρ) b with
  | false=>rfl
  | true=>rw [hh.hid hl hc] at g2;cases g2
def QQ (S:List (Option Ob)) (M:List Lo) (ρ:List Nat) (b:Nat):Prop:=∃(j:Nat) (ob:Ob) (l:Lo),j∉ρ∧S[j]?=some (some ob)∧M[j]?=some l∧l.b=b
theorem Handed.other (hh:Handed st.s ρ s) (hs:StoOk H st.s M w) {b:Nat}:QQ st.s M ρ b↔(bZ st.s M b&&!bZ s (pick M ρ) b)=true:=by
 have hl:=hs.len
 constructor
 ·rintro ⟨j,ob,l,hj,h1,h2,rfl⟩
  have e1:bZ st.s M l.b=true:=aN.2 ⟨j,ob,l,h1,h2,rfl⟩
  have e2:bZ s (pick M ρ) l.b=false:=by
   cases hc:bZ s (pick M ρ) l.b with
   | false=>rfl
   | true =>
    obtain⟨i,ob',l',k1,k2,k3⟩:=aN.1 hc
    obtain⟨k4,k5⟩:=hh.at hl k1 k2
    have:=hs.uniq _ _ _ _ _ _ k4 h1 k5 h2 k3
    have hi:i<ρ.length:=by rw [hh.len];exact (List.getElem?_eq_some_iff.1 k1).1
    refine absurd ?_ hj
    rw [←this,rn,List.getD_eq_getElem?_getD,List.getElem?_eq_getElem hi]
    exact List.getElem_mem hi
  simp [e1,e2]
 ·intro h
  simp only [Bool.and_eq_true,Bool.not_eq_true'] at h
  obtain⟨j,ob,l,h1,h2,rfl⟩:=aN.1 h.1
  refine⟨j,ob,l,fun hj=>?_,h1,h2,rfl⟩
  obtain⟨i,hi,rfl⟩:=List.mem_iff_getElem.1 hj
  have e:rn ρ st.s.length i=ρ[i]:=by simp [rn,hi]
  have hg:=hh.get i (by rw [←hh.len];exact hi)
  rw [e,h1] at hg
  have hm:(pick M ρ)[i]?=some l:=by rw [pV (by rw [←hl];exact hh.lt),←hl,e];exact h2
  cases hsi:s[i]? with
  | none=>rw [hsi] at hg;cases hg
  | some o =>
   cases o with
   | none=>rw [hsi] at hg;simp at hg
   | some ob' =>
    have:=aN.2 ⟨i,ob',l,hsi,hm,rfl⟩
    rw [h.2] at this;cases this
end
section
variable {H:Nat→Bool} {w0:World} {S0:Nat→Bool} {m0:List Lo} {nt:Cf} {st:St} {M:List Lo} {a:Act} {w w':World} {ρ:List Nat} {s s':List (Option Ob)} {m':List Lo}
def back (S:List (Option Ob)) (ρ:List Nat) (s':List (Option Ob)):List (Option Ob):=mix ρ S (s'.map (Option.map (Ob.ren (rn ρ S.length))))
theorem Sim.back (h:Sim H w0 S0 m0 nt st M a w) (hh:Handed st.s ρ s) (h':StoOk (kD H st.s M s (pick M ρ)) s' m' w') (hfr:Fr (bZ s (pick M ρ)) w w') (hup:Up (pick M ρ) m')
  (hnew:∀(i:Nat) (ob:Ob) (l:Lo),s'[i]?=some (some ob)→m'[i]?=some l→bZ s (pick M ρ) l.b=true∨w.heap.size≤l.b) :
  Sim H w0 S0 m0 nt ⟨st.e,Go.Proofs.YtaeioidifpebdaaGreatDoor.back st.s ρ s'⟩ (mix ρ M m') a w'∧Goes st.s M w (Go.Proofs.YtaeioidifpebdaaGreatDoor.back st.s ρ s') (mix ρ M m') w'∧∀(r:A) (v:Value),Ca ⟨vis (kD H st.s M s (pick M ρ)) s' m' w',m'⟩ r v→Ca ⟨vis H (Go.Proofs.YtaeioidifpebdaaGreatDoor.back st.s ρ s') (mix ρ M m') w',mix ρ M m'⟩ (r.ren (rn ρ st.s.length)) v:=by
 have hs:=h.sto
 have hl:=hs.len
 have hltM:∀k∈ρ,k<M.length:=by rw [←hl];exact hh.lt
 have hpl:(pick M ρ).length=ρ.length:=by simp [pick]
 have hn:ρ.length≤m'.length:=by
  rcases Nat.eq_zero_or_pos ρ.length with h0|h0
  ·omega
  ·obtain⟨l',e,-⟩:=hup (ρ.length-1) _ (List.getElem?_eq_getElem (by omega))
   have:=(List.getElem?_eq_some_iff.1 e).1
   omega
 have hns:ρ.length≤s'.length:=by rw [h'.len];exact hn
 have hM:∀i,m'[i]?=(mix ρ M m')[rn ρ st.s.length i]?:=fun i=>by rw [hl];exact (QO hh.nodup hn hltM i).symm
 have hS:∀i,(Go.Proofs.YtaeioidifpebdaaGreatDoor.back st.s ρ s')[rn ρ st.s.length i]?=(s'[i]?).map (Option.map (Ob.ren (rn ρ st.s.length))):=fun i=>by
  unfold Go.Proofs.YtaeioidifpebdaaGreatDoor.back
  rw [QO hh.nodup (by simpa using hns) hh.lt i,List.getElem?_map]
 have cov:∀(j:Nat) (ob:Ob) (l:Lo),(Go.Proofs.YtaeioidifpebdaaGreatDoor.back st.s ρ s')[j]?=some (some ob)→(mix ρ M m')[j]?=some l→(j∉ρ∧st.s[j]?=some (some ob)∧M[j]?=some l)∨∃i ob',j=rn ρ st.s.length i∧s'[i]?=some (some ob')∧ob=ob'.ren (rn ρ st.s.length)∧m'[i]?=some l:=fun j ob l h1 h2=>by
  have hj:=(List.getElem?_eq_some_iff.1 h1).1
  rcases NV (S:=st.s) (s:=s'.map (Option.map (Ob.ren (rn ρ st.s.length)))) (ρ:=ρ) (by simpa using hns) hj with ⟨g1,g2⟩|⟨i,rfl⟩
  ·refine .inl ⟨g2,?_,?_⟩
   ·unfold Go.Proofs.YtaeioidifpebdaaGreatDoor.back at h1;rw [oM g1 g2] at h1;exact h1
   ·rw [oM (by rw [←hl];exact g1) g2] at h2;exact h2
  ·refine .inr ⟨i,?_⟩
   rw [hS] at h1
   rw [←hM] at h2
   cases hsi:s'[i]? with
   | none=>rw [hsi] at h1;cases h1
   | some o =>
    cases o with
    | none=>rw [hsi] at h1;simp at h1
    | some ob' =>
     rw [hsi] at h1
     simp only [Option.map_some,Option.some.injEq] at h1
     exact⟨ob',rfl,rfl,h1.symm,h2⟩
 have hot:∀b,QQ st.s M ρ b→kD H st.s M s (pick M ρ) b=true:=fun b hb=>by
  unfold kD;rw [(hh.other hs).1 hb];simp
 have hid':∀b,bZ (Go.Proofs.YtaeioidifpebdaaGreatDoor.back st.s ρ s') (mix ρ M m') b=true↔(bZ s' m' b=true∨QQ st.s M ρ b):=fun b=>by
  constructor
  ·intro hb
   obtain⟨j,ob,l,h1,h2,rfl⟩:=aN.1 hb
   rcases cov j ob l h1 h2 with ⟨g1,g2,g3⟩|⟨i,ob',rfl,g2,rfl,g4⟩
   ·exact .inr ⟨j,ob,l,g1,g2,g3,rfl⟩
   ·exact .inl (aN.2 ⟨i,ob',l,g2,g4,rfl⟩)
  ·rintro (hb|⟨j,ob,l,g1,g2,g3,rfl⟩)
   ·obtain⟨i,ob,l,h1,h2,rfl⟩:=aN.1 hb
    exact aN.2 ⟨rn ρ st.s.length i,ob.ren (rn ρ st.s.length),l,by rw [hS,h1];rfl,by rw [←hM];exact h2,rfl⟩
   ·have hj:=(List.getElem?_eq_some_iff.1 g2).1
    exact aN.2 ⟨j,ob,l,by unfold Go.Proofs.YtaeioidifpebdaaGreatDoor.back;rw [oM hj g1];exact g2,by rw [oM (by rw [←hl];exact hj) g1];exact g3,rfl⟩
 have hv:vis (kD H st.s M s (pick M ρ)) s' m' w'=vis H (Go.Proofs.YtaeioidifpebdaaGreatDoor.back st.s ρ s') (mix ρ M m') w':=by
  unfold vis
  congr 1
  funext b
  have h1:=hid' b
  have h2:=hh.other hs (b:=b)
  unfold kD
  cases e1:H b<;>cases e2:(bZ st.s M b&&!bZ s (pick M ρ) b)<;>cases e3:bZ s' m' b<;>cases e4:bZ (Go.Proofs.YtaeioidifpebdaaGreatDoor.back st.s ρ s') (mix ρ M m') b<;>simp_all
 have hg:Goes st.s M w (Go.Proofs.YtaeioidifpebdaaGreatDoor.back st.s ρ s') (mix ρ M m') w':=by
  refine⟨fun j l hj=>?_,hfr.os,hfr.tape,hfr.output,hfr.size,fun b hb hf=>⟨?_,hfr.block b hb ?_⟩⟩
  ·by_cases hjr:j∈ρ
   ·obtain⟨i,hi,rfl⟩:=List.mem_iff_getElem.1 hjr
    have e:rn ρ st.s.length i=ρ[i]:=by simp [rn,hi]
    obtain⟨l',k1,k2,k3⟩:=hup i l (by rw [pV hltM,←hl,e];exact hj)
    exact⟨l',by rw [←e,←hM];exact k1,k2,k3⟩
   ·exact⟨l,by rw [oM (List.getElem?_eq_some_iff.1 hj).1 hjr];exact hj,Nat.le_refl _,fun _=>rfl⟩
  ·cases hc:bZ (Go.Proofs.YtaeioidifpebdaaGreatDoor.back st.s ρ s') (mix ρ M m') b with
   | false=>rfl
   | true =>
    rcases (hid' b).1 hc with k|k
    ·obtain⟨i,ob,l,h1,h2,rfl⟩:=aN.1 k
     rcases hnew i ob l h1 h2 with k|k
     ·rw [hh.hid hl k] at hf;cases hf
     ·omega
    ·have:=(hh.other hs).1 k
     rw [hf] at this;simp at this
  ·cases hc:bZ s (pick M ρ) b with
   | false=>rfl
   | true=>rw [hh.hid hl hc] at hf;cases hf
 have hsto:StoOk H (Go.Proofs.YtaeioidifpebdaaGreatDoor.back st.s ρ s') (mix ρ M m') w':=by
  refine⟨?_,fun j ob l h1 h2=>?_,fun i j oi oj li lj h1 h2 h3 h4 hb=>?_,fun j ob l h1 h2=>?_,fun b hb=>Nat.lt_of_lt_of_le (hs.hlt b hb) hfr.size,fun b hb=>?_,h'.gl⟩
  ·unfold Go.Proofs.YtaeioidifpebdaaGreatDoor.back mix
   simp only [List.length_append,kT,List.length_drop,List.length_map,hl,h'.len]
  ·rcases cov j ob l h1 h2 with ⟨g1,g2,g3⟩|⟨i,ob',rfl,g2,rfl,g4⟩
   ·refine (hs.ok j ob l g2 g3).carry hg.keeps hg.up (hfr.block _ (hs.lt g2 g3) ?_)
    have:=(hh.other hs).1 ⟨j,ob,l,g1,g2,g3,rfl⟩
    simp only [Bool.and_eq_true,Bool.not_eq_true'] at this
    exact this.2
   ·rw [←hv]
    exact (ObOk.ren hM).2 (h'.ok i ob' l g2 g4)
  ·rcases cov i oi li h1 h3 with ⟨g1,g2,g3⟩|⟨i',oi',rfl,g2,rfl,g4⟩<;>rcases cov j oj lj h2 h4 with ⟨k1,k2,k3⟩|⟨j',oj',rfl,k2,rfl,k4⟩
   ·exact hs.uniq _ _ _ _ _ _ g2 k2 g3 k3 hb
   ·have e1:=h'.nh _ _ _ k2 k4
    rw [←hb,hot _ ⟨i,oi,li,g1,g2,g3,rfl⟩] at e1;cases e1
   ·have e1:=h'.nh _ _ _ g2 g4
    rw [hb,hot _ ⟨j,oj,lj,k1,k2,k3,rfl⟩] at e1;cases e1
   ·rw [h'.uniq _ _ _ _ _ _ g2 k2 g4 k4 hb]
  ·rcases cov j ob l h1 h2 with ⟨g1,g2,g3⟩|⟨i,ob',rfl,g2,rfl,g4⟩
   ·exact hs.nh _ _ _ g2 g3
   ·have:=h'.nh _ _ _ g2 g4
    simp only [kD,Bool.or_eq_false_iff] at this
    exact this.1
  ·obtain⟨k1,k2,k3⟩:=h'.gb b hb
   refine⟨?_,?_,k3⟩
   ·simp only [kD,Bool.or_eq_false_iff] at k1;exact k1.1
   ·cases hc:bZ (Go.Proofs.YtaeioidifpebdaaGreatDoor.back st.s ρ s') (mix ρ M m') b with
    | false=>rfl
    | true =>
     rcases (hid' b).1 hc with k|k
     ·rw [k2] at k;cases k
     ·rw [hot b k] at k1;cases k1
 refine⟨h.goes hg hsto fun j ob l h1 h2=>?_,hg,fun r v hr=>?_⟩
 ·rcases cov j ob l h1 h2 with ⟨g1,g2,g3⟩|⟨i,ob',rfl,g2,rfl,g4⟩
  ·exact h.own j ob l g2 g3
  ·rcases hnew i ob' l g2 g4 with k|k
   ·obtain⟨i0,ob0,l0,k1,k2,k3⟩:=aN.1 k
    obtain⟨k4,k5⟩:=hh.at hl k1 k2
    rw [←k3]
    exact h.own _ _ _ k4 k5
   ·exact .inr (Nat.le_trans h.fr.size k)
 ·rw [←hv]
  exact (Ca.ren hM r v).2 hr
end
section
variable {P:Program} {nt:Cf} {ops:Array Oper} {Q:St→Prop} {st:St} {rest:List Oper}
theorem WpL.hand {d:Option Tmp} {fo:Operand} {args:List Operand} {tys:Array TypeId} {ty:TypeId} {pos:String} {aft:Array Edge} {g:Option (Nat × Bool)} {f:FuncId} {caps:List C} {xs xs':List A} {s:List (Option Ob)} {ρ:List Nat} {R:A→List (Option Ob)→Prop} (hd:nL nt d=true)
  (hg:∀H w0 S0 m0 m a w,Sim H w0 S0 m0 nt st m a w→Region.wanted ⟨d,.call { callee:=.value fo,args:=args.toArray,argTypes:=tys },ty,pos,aft,g⟩ (yielded ops a.tmps)=true)
  (hf:rdA st.e fo=some (.one (.fn f caps))) (ha:kM st.e args=some xs) (hc:eC P f=true) (hx:xs++caps.map .one=A.rens (rn ρ st.s.length) xs') (hh:Handed st.s ρ s) (hfn:Fn P f xs' s R)
  (h:∀r s',R r s'→WpL P nt ops Q rest (St.put ⟨st.e,back st.s ρ s'⟩ d (r.ren (rn ρ st.s.length)))):WpL P nt ops Q (⟨d,.call { callee:=.value fo,args:=args.toArray,argTypes:=tys },ty,pos,aft,g⟩::rest) st:=fun H w0 S0 m0 m a w hs Q' hQ=>by
 obtain⟨vs,hrun,hv⟩:=zN (tys:=tys) (ty:=ty) hs hf ha hc
 unfold wpList
 rw [if_pos (hg H w0 S0 m0 m a w hs)]
 refine .inl ?_
 unfold Oper.wp
 rw [gZ,hrun]
 have hl:=hs.sto.len
 rw [hx] at hv
 have hv':=(Cas.ren (m:=pick m ρ) (fun i=>by rw [hl];exact pV (by rw [←hl];exact hh.lt) i) _ _).1 hv
 rw [←hh.vis hl] at hv'
 refine (hfn _ (pick m ρ) w vs (hh.sto hs.sto) hv').mono fun e w' ⟨v,m',r,s',he,hR,hso,hca,hfr,hup,hnew⟩=>?_
 subst he
 obtain⟨hsim,-,hval⟩:=hs.back hh hso hfr hup hnew
 exact h r s' hR H w0 S0 m0 _ _ w' (hsim.put hd (hval r v hca)) Q' hQ
end
theorem Handed.of {S s:List (Option Ob)} {ρ:List Nat} (hn:ρ.Nodup) (hg:ρ.map (S[·]?)=s.map fun o=>some (o.map (Ob.ren (rn ρ S.length)))):Handed S ρ s:=by
 have hl:ρ.length=s.length:=by simpa using congrArg List.length hg
 refine⟨hl,hn,fun k hk=>?_,fun i hi=>?_⟩
 ·have h1:S[k]?∈ρ.map (S[·]?):=List.mem_map.2 ⟨k,hk,rfl⟩
  rw [hg] at h1
  obtain⟨o,-,ho⟩:=List.mem_map.1 h1
  exact (List.getElem?_eq_some_iff.1 ho.symm).1
 ·have h1:=congrArg (fun l=>l[i]?) hg
  simp only [List.getElem?_map] at h1
  have hi':i<ρ.length:=by omega
  rw [List.getElem?_eq_getElem hi',List.getElem?_eq_getElem hi] at h1
  simp only [Option.map_some,Option.some.injEq] at h1
  rw [List.getElem?_eq_getElem hi,Option.map_some]
  rw [show rn ρ S.length i=ρ[i] by simp [rn,hi']]
  exact h1
def SubR (f:Nat→Nat) (e:List (Nat × A)):List (Nat × A)→Prop
 | []=>True
 | (i,x)::r=>find e i=some (x.ren f)∧SubR f e r
theorem SubR.find {f:Nat→Nat} {e:List (Nat × A)}:∀{e':List (Nat × A)} {i:Nat} {x:A},SubR f e e'→Go.Proofs.YtaeioidifpebdaaGreatDoor.find e' i=some x→Go.Proofs.YtaeioidifpebdaaGreatDoor.find e i=some (x.ren f)
 | [],i,x,_,h=>by simp [Go.Proofs.YtaeioidifpebdaaGreatDoor.find] at h
 | (j,y)::r,i,x,hs,h=>by
  simp only [SubR] at hs
  simp only [Go.Proofs.YtaeioidifpebdaaGreatDoor.find] at h
  split at h
  ·rename_i e;subst e;cases h;exact hs.1
  ·exact hs.2.find h
theorem Le.names {nt:Cf} {e e':List (Nat × A)} {S s:List (Option Ob)} (ρ:List Nat) (hh:Handed S ρ s) (h0:∀i,i<nt.n0→ρ[i]?=some i) (he:SubR (rn ρ S.length) e e'):Le nt ⟨e,S⟩ ⟨e',s⟩:=fun H w0 S0 m0 M a w h=>by
 have hs:=h.sto
 have hl:S.length=M.length:=hs.len
 have hltM:∀k∈ρ,k<M.length:=by rw [←hl];exact hh.lt
 have hp:∀i,(pick M ρ)[i]?=M[rn ρ S.length i]?:=fun i=>by rw [hl];exact pV hltM i
 have hat:∀{i:Nat} {ob:Ob} {l:Lo},s[i]?=some (some ob)→(pick M ρ)[i]?=some l→S[rn ρ S.length i]?=some (some (ob.ren (rn ρ S.length)))∧M[rn ρ S.length i]?=some l:=fun h1 h2=>hh.at (st:=⟨e,S⟩) hl h1 h2
 have hid:∀b,bZ s (pick M ρ) b=true→bZ S M b=true:=fun b hb=>hh.hid (st:=⟨e,S⟩) hl hb
 have hk:Keeps (vis H S M w) (vis H s (pick M ρ) w):=Keeps.only fun b hb _=>by
  simp only [Bool.and_eq_true,Bool.not_eq_true'] at hb ⊢
  refine⟨⟨hb.1,?_⟩,trivial⟩
  cases hc:bZ s (pick M ρ) b with
  | false=>rfl
  | true=>rw [hid b hc] at hb;cases hb.2
 refine⟨pick M ρ,fun i x hx=>?_,h.nts,h.df,⟨by simp [pick,hh.len],fun i ob l h1 h2=>?_,fun i j oi oj li lj h1 h2 h3 h4 hb=>?_,fun i ob l h1 h2=>?_,hs.hlt,fun b hb=>?_,hs.gl⟩,h.fr,fun i ob l h1 h2=>?_,fun i l hi=>?_,h.n0⟩
 ·obtain⟨u,hu,hc⟩:=h.env i _ (he.find hx)
  exact⟨u,hu,Ca.keep (X:=⟨vis H S M w,pick M ρ⟩) (X':=⟨vis H s (pick M ρ) w,pick M ρ⟩) hk (Up.refl _) ((Ca.ren hp x u).1 hc)⟩
 ·obtain⟨h3,h4⟩:=hat h1 h2
  exact ((ObOk.ren hp).1 (hs.ok _ _ _ h3 h4)).carry (X':=⟨vis H s (pick M ρ) w,pick M ρ⟩) hk (Up.refl _) rfl
 ·obtain⟨a1,a2⟩:=hat h1 h3
  obtain⟨b1,b2⟩:=hat h2 h4
  exact QP hh.nodup (by rw [hh.len];exact (List.getElem?_eq_some_iff.1 h1).1) (by rw [hh.len];exact (List.getElem?_eq_some_iff.1 h2).1) (hs.uniq _ _ _ _ _ _ a1 b1 a2 b2 hb)
 ·obtain⟨h3,h4⟩:=hat h1 h2
  exact hs.nh _ _ _ h3 h4
 ·obtain⟨g1,g2,g3⟩:=hs.gb b hb
  refine⟨g1,?_,g3⟩
  cases hc:bZ s (pick M ρ) b with
  | false=>rfl
  | true=>rw [hid b hc] at g2;cases g2
 ·obtain⟨h3,h4⟩:=hat h1 h2
  exact h.own _ _ _ h3 h4
 ·have hi0:i<nt.n0:=by rw [←h.n0];exact (List.getElem?_eq_some_iff.1 hi).1
  obtain⟨l',k1,k2,k3⟩:=h.up i l hi
  refine⟨l',?_,k2,k3⟩
  rw [hp,rn,List.getD_eq_getElem?_getD,h0 i hi0,Option.getD_some]
  exact k1
def FzC (S:List (Option Ob)) (z:Nat→Bool) (c c':C):Prop:=c'=c∨(∃loc ob,c=.ms loc ob.es.length∧z loc=true∧S[loc]?=some (some ob)∧c'=.sl ob.wd ob.es)∨(c=.v (.slice none 0 0)∧∃wd,c'=.sl wd [])∨c'=.any
theorem FzC.same (S:List (Option Ob)) (z:Nat→Bool) (c:C):FzC S z c c:=.inl rfl
theorem FzC.ms {S:List (Option Ob)} {z:Nat→Bool} {loc n wd:Nat} {ty:TypeId} {es:List (List C)} (hz:z loc=true) (hS:S[loc]?=some (some ⟨ty,wd,es⟩)) (hn:n=es.length):FzC S z (.ms loc n) (.sl wd es):=.inr (.inl ⟨loc,⟨ty,wd,es⟩,by rw [hn],hz,hS,rfl⟩)
theorem FzC.nil {S:List (Option Ob)} {z:Nat→Bool} {wd:Nat}:FzC S z (.v (.slice none 0 0)) (.sl wd []):=.inr (.inr (.inl ⟨rfl,wd,rfl⟩))
theorem FzC.any {S:List (Option Ob)} {z:Nat→Bool} {c:C}:FzC S z c .any:=.inr (.inr (.inr rfl))
def FzCs (S:List (Option Ob)) (z:Nat→Bool):List C→List C→Prop
 | [],[]=>True
 | c::l,d::k=>FzC S z c d∧FzCs S z l k
 | _,_=>False
def FzR (S:List (Option Ob)) (z:Nat→Bool):List (List C)→List (List C)→Prop
 | [],[]=>True
 | c::l,d::k=>FzCs S z c d∧FzR S z l k
 | _,_=>False
def FzA (S:List (Option Ob)) (z:Nat→Bool):A→A→Prop
 | .one c,.one d=>FzC S z c d
 | .agg l,.agg k=>FzCs S z l k
 | a,b=>b=a
def SubZ (S:List (Option Ob)) (z:Nat→Bool) (e:List (Nat × A)):List (Nat × A)→Prop
 | []=>True
 | (i,x)::r=>(∃y,find e i=some y∧FzA S z y x)∧SubZ S z e r
theorem FzCs.same (S:List (Option Ob)) (z:Nat→Bool):∀l:List C,FzCs S z l l
 | []=>trivial
 | c::l=>⟨.inl rfl,FzCs.same S z l⟩
theorem FzR.same (S:List (Option Ob)) (z:Nat→Bool):∀l:List (List C),FzR S z l l
 | []=>trivial
 | c::l=>⟨FzCs.same S z c,FzR.same S z l⟩
theorem FzA.same (S:List (Option Ob)) (z:Nat→Bool):∀x:A,FzA S z x x
 | .one c=>.inl rfl
 | .agg l=>FzCs.same S z l
 | .any=>rfl
 | .tup _=>rfl
theorem FzR.of {S:List (Option Ob)} {z:Nat→Bool}:∀{l k:List (List C)},l.length=k.length→(∀(i:Nat) (a b:List C),l[i]?=some a→k[i]?=some b→FzCs S z a b)→FzR S z l k
 | [],[],_,_=>trivial
 | [],_::_,h,_=>by simp at h
 | _::_,[],h,_=>by simp at h
 | a::l,b::k,h,g=>⟨g 0 a b rfl rfl,FzR.of (by simpa using h) fun i a b h1 h2=>g (i+1) a b (by simpa using h1) (by simpa using h2)⟩
theorem FzCs.len {S:List (Option Ob)} {z:Nat→Bool}:∀{l k:List C},FzCs S z l k→l.length=k.length
 | [],[],_=>rfl
 | [],_::_,h=>by simp [FzCs] at h
 | _::_,[],h=>by simp [FzCs] at h
 | a::l,b::k,h=>by simp only [FzCs] at h;simp [h.2.len]
theorem FzR.len {S:List (Option Ob)} {z:Nat→Bool}:∀{l k:List (List C)},FzR S z l k→l.length=k.length
 | [],[],_=>rfl
 | [],_::_,h=>by simp [FzR] at h
 | _::_,[],h=>by simp [FzR] at h
 | a::l,b::k,h=>by simp only [FzR] at h;simp [h.2.len]
theorem FzR.all {S:List (Option Ob)} {z:Nat→Bool} {wd:Nat}:∀{l k:List (List C)},FzR S z l k→(∀e∈l,e.length=wd)→∀e∈k,e.length=wd
 | [],[],_,_=>by simp
 | [],_::_,h,_=>by simp [FzR] at h
 | _::_,[],h,_=>by simp [FzR] at h
 | a::l,b::k,h,g=>by
  simp only [FzR] at h
  intro e he
  rcases List.mem_cons.1 he with rfl|he
  ·rw [←h.1.len];exact g a (by simp)
  ·exact h.2.all (fun e he=>g e (by simp [he])) e he
theorem FzR.flat {S:List (Option Ob)} {z:Nat→Bool}:∀{l k:List (List C)},FzR S z l k→FzCs S z l.flatten k.flatten
 | [],[],_=>trivial
 | [],_::_,h=>by simp [FzR] at h
 | _::_,[],h=>by simp [FzR] at h
 | a::l,b::k,h=>by
  simp only [FzR] at h
  rw [List.flatten_cons,List.flatten_cons]
  have:∀{a b x y:List C},FzCs S z a b→FzCs S z x y→FzCs S z (a++x) (b++y):=by
   intro a
   induction a with
   | nil=>intro b x y h1 h2;cases b with
    | nil=>exact h2
    | cons _ _=>simp [FzCs] at h1
   | cons c a ih=>intro b x y h1 h2;cases b with
    | nil=>simp [FzCs] at h1
    | cons d b=>simp only [FzCs,List.cons_append] at h1 ⊢;exact⟨h1.1,ih h1.2 h2⟩
  exact this h.1 h.2.flat
theorem SubZ.find {S:List (Option Ob)} {z:Nat→Bool} {e:List (Nat × A)}:∀{e':List (Nat × A)} {i:Nat} {x:A},SubZ S z e e'→Go.Proofs.YtaeioidifpebdaaGreatDoor.find e' i=some x→∃y,Go.Proofs.YtaeioidifpebdaaGreatDoor.find e i=some y∧FzA S z y x
 | [],i,x,_,h=>by simp [Go.Proofs.YtaeioidifpebdaaGreatDoor.find] at h
 | (j,y)::r,i,x,hs,h=>by
  simp only [SubZ] at hs
  simp only [Go.Proofs.YtaeioidifpebdaaGreatDoor.find] at h
  split at h
  ·rename_i e;subst e;cases h;exact hs.1
  ·exact hs.2.find h
section
variable {H:Nat→Bool} {S S':List (Option Ob)} {z:Nat→Bool} {m:List Lo} {w:World}
structure Frz (S S':List (Option Ob)) (z:Nat→Bool):Prop where
 len:S'.length=S.length
 shut:∀i ob,z i=true→S[i]?=some (some ob)→∀r∈ob.es,∀c∈r,C.shut c=true
 get:∀i b,S'[i]?=some (some b)→z i=false∧∃a,S[i]?=some (some a)∧a.ty=b.ty∧a.wd=b.wd∧FzR S z a.es b.es
theorem Frz.keeps (hf:Frz S S' z):Keeps (vis H S m w) (vis H S' m w):=Keeps.only fun b hb _=>by
 simp only [Bool.and_eq_true,Bool.not_eq_true'] at hb ⊢
 refine⟨⟨hb.1,?_⟩,trivial⟩
 cases hc:bZ S' m b with
 | false=>rfl
 | true =>
  obtain⟨i,ob,l,h1,h2,rfl⟩:=aN.1 hc
  obtain⟨-,a,h3,-⟩:=hf.get i ob h1
  rw [aN.2 ⟨i,a,l,h3,h2,rfl⟩] at hb;cases hb.2
theorem Frz.cell (hf:Frz S S' z) (hs:StoOk H S m w) {c c':C} {u:Value} (h:FzC S z c c') (hc:Cc ⟨vis H S m w,m⟩ c u):Cc ⟨vis H S' m w,m⟩ c' u:=by
 rcases h with rfl|⟨loc,ob,rfl,hz,ho,rfl⟩|⟨rfl,wd,rfl⟩|rfl
 ·exact Cc.keep (X:=⟨vis H S m w,m⟩) (X':=⟨vis H S' m w,m⟩) hf.keeps (Up.refl _) hc
 ·simp only [Cc] at hc
  obtain⟨-,l,hl,-,he⟩:=hc
  have hob:=hs.ok loc ob l ho hl
  have he:=he hob.n.symm
  obtain⟨a1,a2,a3,a4,a5,vs,rest,a6,a7,a8⟩:=hob
  have hH:=hs.nh loc ob l ho hl
  have hid:bZ S' m l.b=false:=by
   cases hc:bZ S' m l.b with
   | false=>rfl
   | true =>
    obtain⟨j,oj,lj,h1,h2,h3⟩:=aN.1 hc
    obtain⟨hzj,aj,h4,-⟩:=hf.get j oj h1
    obtain rfl:=hs.uniq j loc aj ob lj l h4 ho h2 hl h3
    rw [hz] at hzj;cases hzj
  have hcells:CellsAt (vis H S' m w) l.b 0 vs:=CellsAt.of fun j v hj=>by
   unfold vis
   rw [eX,if_pos (by simp [hH,hid]),cG a6]
   simp only [Nat.zero_add,List.getElem?_toArray]
   rw [List.getElem?_append_left (List.getElem?_eq_some_iff.1 hj).1];exact hj
  have h8:Ccs ⟨vis H S' m w,[]⟩ ob.es.flatten vs:=a8.shut hf.keeps (fun c hc=>by
   obtain⟨e,he,hce⟩:=List.mem_flatten.1 hc
   exact hf.shut loc ob hz ho e he c hce)
  simp only [Cc]
  refine⟨a3,.inr ⟨l.b,0,l.cap,he,a4,a5,Crow.of (X:=⟨vis H S' m w,[]⟩) a3 hcells h8⟩⟩
 ·simp only [Cc] at hc ⊢
  exact⟨by simp,.inl ⟨trivial,.inl hc.1⟩⟩
 ·have:=hc.one
  simp only [Cc];exact this
theorem Frz.cells (hf:Frz S S' z) (hs:StoOk H S m w):∀{c c':List C} {u:List Value},FzCs S z c c'→Ccs ⟨vis H S m w,m⟩ c u→Ccs ⟨vis H S' m w,m⟩ c' u
 | [],[],u,_,hc=>by simpa only [Ccs] using hc
 | [],_::_,u,h,_=>by simp [FzCs] at h
 | _::_,[],u,h,_=>by simp [FzCs] at h
 | c::l,d::k,us,h,hc=>by
  simp only [FzCs] at h
  simp only [Ccs] at hc ⊢
  obtain⟨u,r,e,h1,h2⟩:=hc
  exact⟨u,r,e,hf.cell hs h.1 h1,hf.cells hs h.2 h2⟩
theorem Frz.val (hf:Frz S S' z) (hs:StoOk H S m w) {x y:A} {u:Value} (h:FzA S z x y) (hc:Ca ⟨vis H S m w,m⟩ x u):Ca ⟨vis H S' m w,m⟩ y u:=by
 unfold FzA at h
 split at h
 ·simp only [Ca] at hc ⊢;exact hf.cell hs h hc
 ·simp only [Ca] at hc ⊢
  obtain⟨us,e,hc⟩:=hc
  exact⟨us,e,hf.cells hs h hc⟩
 ·subst h
  exact Ca.keep (X:=⟨vis H S m w,m⟩) (X':=⟨vis H S' m w,m⟩) hf.keeps (Up.refl _) hc
theorem Frz.sto (hf:Frz S S' z) (hs:StoOk H S m w):StoOk H S' m w:=by
 refine⟨by rw [hf.len];exact hs.len,fun i ob l h1 h2=>?_,fun i j oi oj li lj h1 h2 h3 h4 hb=>?_,fun i ob l h1 h2=>?_,hs.hlt,fun b hb=>?_,hs.gl⟩
 ·obtain⟨hz,a,h3,e1,e2,h4⟩:=hf.get i ob h1
  obtain⟨a1,a2,a3,a4,a5,vs,rest,a6,a7,a8⟩:=hs.ok i a l h3 h2
  refine⟨by rw [a1,h4.len],by rw [a2,e2],by rw [←e2];exact h4.all a3,by rw [←h4.len];exact a4,a5,vs,rest,by rw [←e1];exact a6,a7,hf.cells hs h4.flat a8⟩
 ·obtain⟨-,a,g1,-⟩:=hf.get i oi h1
  obtain⟨-,b,g2,-⟩:=hf.get j oj h2
  exact hs.uniq i j a b li lj g1 g2 h3 h4 hb
 ·obtain⟨-,a,g1,-⟩:=hf.get i ob h1
  exact hs.nh i a l g1 h2
 ·obtain⟨g1,g2,g3⟩:=hs.gb b hb
  refine⟨g1,?_,g3⟩
  cases hc:bZ S' m b with
  | false=>rfl
  | true =>
   obtain⟨i,ob,l,h1,h2,rfl⟩:=aN.1 hc
   obtain⟨-,a,h3,-⟩:=hf.get i ob h1
   rw [aN.2 ⟨i,a,l,h3,h2,rfl⟩] at g2;cases g2
end
theorem Le.freeze {nt:Cf} {e e':List (Nat × A)} {S S':List (Option Ob)} (z:Nat→Bool) (hf:Frz S S' z) (he:SubZ S z e e'):Le nt ⟨e,S⟩ ⟨e',S'⟩:=fun H w0 S0 m0 m a w h=>by
 refine⟨m,fun i x hx=>?_,h.nts,h.df,hf.sto h.sto,h.fr,fun i ob l h1 h2=>?_,h.up,h.n0⟩
 ·obtain⟨y,h1,h2⟩:=he.find hx
  obtain⟨u,hu,hc⟩:=h.env i y h1
  exact⟨u,hu,hf.val h.sto h2 hc⟩
 ·obtain⟨-,b,h3,-⟩:=hf.get i ob h1
  exact h.own i b l h3 h2
def Vw (s:List (Option Ob)) (xs xs':List A):Prop:=∀H m w vs,StoOk H s m w→Cas ⟨vis H s m w,m⟩ xs vs→Cas ⟨vis H [] [] w,[]⟩ xs' vs
theorem xH {P:Program} {f:FuncId} {xs xs':List A} {r:A} {H:Nat→Bool} {s:List (Option Ob)} {m:List Lo} {w:World} (hv:Vw s xs xs') (hfl:r.flat=true) (hfn:Pure P f xs' r) (hs:StoOk H s m w) (vs:List Value) (hvs:Cas ⟨vis H s m w,m⟩ xs vs) :
  Calls P f vs.toArray w fun e w'=>∃v,e=.returned v∧Fr (fun _=>false) w w'∧Ca ⟨vis H s m w',m⟩ r v:=by
 have h0:StoOk H [] [] w:=⟨rfl,by simp,by simp,by simp,hs.hlt,fun b hb=>⟨(hs.gb b hb).1,rfl,(hs.gb b hb).2.2⟩,hs.gl⟩
 refine (hfn _ [] w vs h0 (hv H m w vs hs hvs)).mono fun e w' ⟨v,m',r',s',he,⟨hr1,hr2⟩,hso,hca,hfr,_,_⟩=>?_
 subst hr1 hr2
 exact⟨v,he,⟨hfr.os,hfr.tape,hfr.output,hfr.size,fun b hb _=>hfr.block b hb rfl⟩,hca.flat hfl⟩
theorem CallA.lendV {P:Program} {nt:Cf} {st:St} {fo:Operand} {args:List Operand} {f:FuncId} {caps:List C} {xs xs':List A} {K:A→Prop} {r:A} (hf:rdA st.e fo=some (.one (.fn f caps))) (ha:kM st.e args=some xs) (hc:eC P f=true)
  (hv:Vw st.s (xs++caps.map .one) xs') (hfl:r.flat=true) (hfn:Pure P f xs' r) (hK:K r):CallA P nt fo args st K :=
 ⟨f,caps,xs,hf,ha,hc,fun H w0 S0 m0 m a w hs vs hvs=>(xH hv hfl hfn hs.sto vs hvs).mono fun e w' ⟨v,he,h1,h2⟩=>⟨v,r,he,hK,h1,h2⟩⟩
theorem OpS.lendV {P:Program} {nt:Cf} {ds:List (Option Tmp)} {e:List (Nat × A)} {s:List (Option Ob)} {d:Option Tmp} {ty:TypeId} {pos:String} {aft:Array Edge} {g:Option (Nat × Bool)} {fo:Operand} {args:List Operand} {tys:Array TypeId} {f:FuncId} {caps:List C} {xs xs':List A} {r:A} (hg:eP ds e g=some true) (hf:rdA e fo=some (.one (.fn f caps))) (ha:kM e args=some xs) (hc:eC P f=true)
  (hv:Vw s (xs++caps.map .one) xs') (hfl:r.flat=true) (hfn:Pure P f xs' r):OpS P nt ds ⟨d,.call { callee:=.value fo,args:=args.toArray,argTypes:=tys },ty,pos,aft,g⟩ e s r s :=
 OpS.call hg hf ha hc fun H w0 S0 m0 mm a w hs vs hvs=>xH hv hfl hfn hs.sto vs hvs
theorem Le.sub {nt:Cf} {e e':List (Nat × A)} {s:List (Option Ob)} (he:Sub e e'):Le nt ⟨e,s⟩ ⟨e',s⟩:=fun H w0 S0 m0 m a w h=>⟨m,fun i x hx=>h.env i x (he.find hx),h.nts,h.df,h.sto,h.fr,h.own,h.up,h.n0⟩
def YD (P:Program) (nt:Cf) (rs:List ResultVar) (R:A→List (Option Ob)→Prop):Exit→St→Prop:=fun e st=>(e=.ret∨e=.normal)∧∃q l r s',rH P st.s st.e rs=some (q,l)∧q∧Le ⟨1,nt.n0⟩ ⟨[(0,qS l)],st.s⟩ ⟨[(0,r)],s'⟩∧R r s'
theorem Fn.introT {P:Program} {f:FuncId} {fn:Func} {c:Code} {args:List A} {s:List (Option Ob)} {R:A→List (Option Ob)→Prop} {nt:Nat} {rs:List ResultVar} (hf:P.funcs[f]?=some fn) (hb:fn.body=some c) (hnt:fn.ntmps=nt) (hrs:fn.results=rs.toArray) (hn:args.length≤nt) (h:WpA P ⟨nt,s.length⟩ c (YD P ⟨nt,s.length⟩ rs R) ⟨oJ 0 args,s⟩) :
  Fn P f args s R:=by
 subst hnt
 intro H m w vs hs hv
 refine calls_of_wp hf hb ?_
 have hl:=hv.len
 have hsim:Sim H w (bZ s m) m ⟨fn.ntmps,s.length⟩ ⟨oJ 0 args,s⟩ m { tmps:=vs.toArray++Array.replicate (fn.ntmps-vs.toArray.size) undef,defers:=[] } w:=by
  refine⟨fun i x hx=>?_,by simp;omega,rfl,hs,Fr.refl _ _,fun i ob l h1 h2=>.inl (aN.2 ⟨i,ob,l,h1,h2,rfl⟩),Up.refl _,hs.len.symm⟩
  obtain⟨-,h2⟩:=tR args 0 i x hx
  obtain⟨u,hu,hc⟩:=hv.at h2
  refine⟨u,?_,hc⟩
  simp only [Nat.sub_zero] at hu
  rw [Array.getElem?_append_left (by simpa using (List.getElem?_eq_some_iff.1 hu).1)]
  simpa using hu
 refine wp_mono (h H w _ m m _ w hsim) fun e a' w' ⟨st1,m1,⟨he,q,l,r,s',hr,hq,hle,hR⟩,hs1⟩=>?_
 obtain⟨u,hu,hc⟩:=hs1.results (P:=P) (fn:=fn) (by rw [hrs];exact hr) hq
 obtain⟨m',hs'⟩:=hle H w (bZ s m) m m1 { tmps:=#[u],defers:=[] } w' ⟨fun i x hx=>(by
  simp only [find] at hx
  split at hx
  ·rename_i e;subst e;cases hx;exact⟨u,rfl,hc⟩
  ·cases hx),rfl,rfl,hs1.sto,hs1.fr,hs1.own,hs1.up,hs1.n0⟩
 obtain⟨u',hu',hc'⟩:=hs'.env 0 r (by simp [find])
 obtain rfl:u'=u:=by simpa using hu'.symm
 have hfin:∃v m' r s',Ending.returned u'=.returned v∧R r s'∧StoOk H s' m' w'∧Ca ⟨vis H s' m' w',m'⟩ r v∧Fr (bZ s m) w w'∧Up m m'∧∀(i:Nat) (ob:Ob) (l:Lo),s'[i]?=some (some ob)→m'[i]?=some l→bZ s m l.b=true∨w.heap.size≤l.b :=
  ⟨u',m',r,s',rfl,hR,hs'.sto,hc',hs'.fr,hs'.up,hs'.own⟩
 rcases he with rfl|rfl<;>exact⟨hs1.df,u',hu,hfin⟩
def SLe (c s:List (Option Ob)):Prop:=∀(i:Nat) (ob:Ob),c[i]?=some (some ob)→s[i]?=some (some ob)
section
variable {P:Program} {c s:List (Option Ob)} {ρ:Operand→Option A}
theorem CO (h:SLe c s) {x:C} {p:Prop} (hx:mO c x=some p):mO s x=some p:=by
 cases x with
 | ptr loc k i off =>
  simp only [mO] at hx ⊢
  split at hx
  ·rename_i ob ho;rw [h _ _ ho];exact hx
  ·cases hx
 | _=>exact hx
theorem NW (h:SLe c s) {t:TypeId} {x:C} {r:Prop × A} (hx:sW P c t x=some r):sW P s t x=some r:=by
 unfold sW at hx ⊢
 cases ht:tyI P t with
 | none=>rw [ht] at hx;cases hx
 | some bn =>
  rw [ht] at hx
  cases x with
  | ptr loc k i off =>
   simp only at hx ⊢
   split at hx
   ·rename_i ob ho;rw [h _ _ ho];exact hx
   ·cases hx
  | _=>exact hx
theorem KE (h:SLe c s) {sz:Nat} {n:Int} {x:C} {r:Prop × C} (hx:lO c x sz n=some r):lO s x sz n=some r:=by
 cases x with
 | ms loc k =>
  simp only [lO] at hx ⊢
  split at hx
  ·rename_i ob ho;rw [h _ _ ho];exact hx
  ·cases hx
 | _=>exact hx
theorem QR (h:SLe c s) {e:Bool} {x:C} {r:Prop × Int} (hx:rE c e x=some r):rE s e x=some r:=by
 unfold rE at hx ⊢
 split at hx
 ·exact hx
 ·exact hx
 ·exact hx
 ·exact hx
 ·cases hx
theorem QS (h:SLe c s) {op:Op} {r:Prop × A} (hx:qop P c ρ op=some r):qop P s ρ op=some r:=by
 cases op with
 | load t x =>
  simp only [qop] at hx ⊢
  split at hx
  ·exact NW h hx
  ·cases hx
 | nilCheck x =>
  simp only [qop] at hx ⊢
  split at hx
  ·split at hx
   ·rename_i p hp;simp only [CO h hp];exact hx
   ·cases hx
  ·cases hx
 | fieldAddr t x f =>
  simp only [qop] at hx ⊢
  split at hx
  ·rename_i c1 h1
   split at hx
   ·rename_i o ft h2
    split at hx
    ·rename_i p c' h3
     cases c1 with
     | ptr loc k i off =>
      simp only at hx
      split at hx
      ·rename_i ob ho;simp only [h3,h _ _ ho];exact hx
      ·cases hx
     | _=>simp only [h3];exact hx
    ·cases hx
   ·cases hx
  ·cases hx
 | indexAddr t x y =>
  simp only [qop] at hx ⊢
  split at hx
  ·split at hx
   ·split at hx
    ·split at hx
     ·rename_i p c' h4;simp only [KE h h4];exact hx
     ·cases hx
    ·cases hx
   ·cases hx
  ·cases hx
 | binOp o t x y z =>
  simp only [qop] at hx ⊢
  split at hx
  ·exact hx
  ·split at hx
   ·split at hx
    ·split at hx
     ·rename_i hp;simp only [CO h hp];exact hx
     ·cases hx
    ·cases hx
   ·cases hx
  ·cases hx
 | call cl =>
  simp only [qop] at hx ⊢
  split at hx
  ·split at hx
   ·split at hx
    ·split at hx
     ·split at hx
      ·rename_i hp;simp only [QR h hp];exact hx
      ·cases hx
     ·cases hx
    ·cases hx
   ·cases hx
  ·exact hx
  ·exact hx
  ·exact hx
 | _=>exact hx
end
theorem SLe.nil (s:List (Option Ob)):SLe [] s:=fun i ob h=>by simp at h
theorem SLe.refl (s:List (Option Ob)):SLe s s:=fun _ _ h=>h
theorem SLe.app (s t:List (Option Ob)):SLe s (s++t):=fun i ob h=>by rw [List.getElem?_append_left (List.getElem?_eq_some_iff.1 h).1];exact h
theorem SLe.none {c s:List (Option Ob)} {o:Option Ob} (h:SLe c s):SLe (Option.none::c) (o::s):=fun i ob hi=>by
 cases i with
 | zero=>simp at hi
 | succ i=>simpa using h i ob (by simpa using hi)
theorem SLe.same {c s:List (Option Ob)} {o:Option Ob} (h:SLe c s):SLe (o::c) (o::s):=fun i ob hi=>by
 cases i with
 | zero=>simpa using hi
 | succ i=>simpa using h i ob (by simpa using hi)
def LeS (c s:List (Option Ob)):Prop:=∃c',SLe c c'∧Frz s c' (fun _=>false)∧∀(i:Nat) (b:Ob),s[i]?=some (some b)→∃a,c'[i]?=some (some a)
theorem Frz.refl (s:List (Option Ob)):Frz s s (fun _=>false):=⟨rfl,fun i ob h=>by simp at h,fun i b hb=>⟨rfl,b,hb,rfl,rfl,FzR.same _ _ _⟩⟩
theorem LeS.of {c s:List (Option Ob)} (h:SLe c s):LeS c s:=⟨s,h,Frz.refl s,fun i b hb=>⟨b,hb⟩⟩
theorem LeS.any {c s:List (Option Ob)} {j:Nat} {a b:Ob} (h:SLe c (s.set j (some a))) (hj:s[j]?=some (some b)) (h1:b.ty=a.ty) (h2:b.wd=a.wd) (h3:FzR s (fun _=>false) b.es a.es):LeS c s:=by
 refine⟨_,h,⟨by simp,fun i ob h=>by simp at h,fun i x hx=>?_⟩,fun i x hx=>?_⟩
 ·by_cases hij:j=i
  ·subst hij
   rw [List.getElem?_set_self (List.getElem?_eq_some_iff.1 hj).1] at hx
   cases hx
   exact⟨rfl,b,hj,h1,h2,h3⟩
  ·rw [List.getElem?_set_ne hij] at hx
   exact⟨rfl,x,hx,rfl,rfl,FzR.same _ _ _⟩
 ·by_cases hij:j=i
  ·subst hij;exact⟨a,List.getElem?_set_self (List.getElem?_eq_some_iff.1 hj).1⟩
  ·exact⟨x,by rw [List.getElem?_set_ne hij];exact hx⟩
theorem Quiet.wk {P:Program} {op:Op} {ty:TypeId} {c s:List (Option Ob)} {ρA:Operand→Option A} {x:A} (hf:Frz s c (fun _=>false)) (hp:∀(i:Nat) (b:Ob),s[i]?=some (some b)→∃a,c[i]?=some (some a)) (h:Quiet P op ty c ρA x):Quiet P op ty s ρA x:=fun H m w ρ hs hρ=>by
 have hv:vis H c m w=vis H s m w:=by
  unfold vis
  congr 1
  funext b
  have:bZ c m b=bZ s m b:=by
   cases h1:bZ s m b with
   | true =>
    obtain⟨i,ob,l,h2,h3,h4⟩:=aN.1 h1
    obtain⟨a,ha⟩:=hp i ob h2
    exact aN.2 ⟨i,a,l,ha,h3,h4⟩
   | false =>
    cases h2:bZ c m b with
    | false=>rfl
    | true =>
     obtain⟨i,ob,l,h3,h4,h5⟩:=aN.1 h2
     obtain⟨-,a,ha,-⟩:=hf.get i ob h3
     rw [aN.2 ⟨i,a,l,ha,h4,h5⟩] at h1;cases h1
  rw [this]
 have:=h H m w ρ (hf.sto hs) (fun o ho y hy=>by rw [hv];exact hρ o ho y hy)
 rw [hv] at this
 exact this
theorem OpS.quietQ {P:Program} {nt:Cf} {ds:List (Option Tmp)} {d:Option Tmp} {op:Op} {ty:TypeId} {pos:String} {aft:Array Edge} {g:Option (Nat × Bool)} {e:List (Nat × A)} {s:List (Option Ob)} {x:A} (hg:eP ds e g=some true) (hq:Quiet P op ty s (rdA e) x):OpS P nt ds ⟨d,op,ty,pos,aft,g⟩ e s x s:=fun H w0 S0 m0 mm a w hs hk=>by
 rw [tU hk hg,if_pos rfl]
 obtain⟨u,hr,hc⟩:=hq H mm w a.eval hs.sto (fun o ho y hy=>yL hk ho hy)
 unfold OpTo
 rw [gZ,hr]
 exact⟨mm,hs,Goes.refl _ _ _,hc⟩
theorem OpS.less {P:Program} {nt:Cf} {ds:List (Option Tmp)} {d:Option Tmp} {op:Op} {ty:TypeId} {pos:String} {aft:Array Edge} {g:Option (Nat × Bool)} {e:List (Nat × A)} {c s:List (Option Ob)} {x:A} {p:Prop} (hs:LeS c s) (hg:eP ds e g=some true) (hq:qop P c (rdA e) op=some (p,x)) (hp:p):OpS P nt ds ⟨d,op,ty,pos,aft,g⟩ e s x s:=by
 obtain⟨c',h1,h2,h3⟩:=hs
 exact OpS.quietQ hg ((sC (QS h1 hq) hp).wk h2 h3)
section
variable {P:Program} {nt:Cf} {ds:List (Option Tmp)} {E:List Nat} {ss:List (List (Option Ob))} {c:List (Option Ob)} {K:List (Nat × A)→Prop} {i:Nat} {e:List (Nat × A)}
def Draw1 (P:Program) (nt:Cf) (ds:List (Option Tmp)) (c:List (Option Ob)) (E:List Nat) (ss:List (List (Option Ob))) (K:List (Nat × A)→Prop) (i:Nat) (e:List (Nat × A)) (l:List Oper):Prop:=E.Nodup→(∀s∈ss,LeS c s)∧DrawE P nt ds E ss K i e l
theorem Draw1.step {o:Oper} {l:List Oper} {x:A} (hi:E.contains i=false) (h:∀s,LeS c s→OpS P nt ds o e s x s) (hr:Draw1 P nt ds c E ss K (i+1) (bH e o.dst x) l):Draw1 P nt ds c E ss K i e (o::l):=fun hn =>
 have hi':i∉E:=by simpa using hi
 ⟨(hr hn).1,x,⟨fun q hq=>absurd (List.mem_of_getElem? hq) hi',fun _ s hs=>h s ((hr hn).1 s hs)⟩,(hr hn).2⟩
def vG (E:List Nat) (i j:Nat):Bool:=E.all fun k=>decide (k<i)||decide (j≤k)
theorem MO {i j:Nat} (h:vG E i j=true) (hij:i<j):E.contains i=false:=by
 simp only [vG,List.all_eq_true,Bool.or_eq_true,decide_eq_true_eq] at h
 cases hc:E.contains i with
 | false=>rfl
 | true=>have:=h i (by simpa using hc);omega
theorem oO:∀{l:List Oper} {e:List (Nat × A)} {p:Prop} {l':List Oper} {e':List (Nat × A)},lQ P ds c l e=(p,l',e')→l'.length≤l.length
 | [],e,p,l',e',h=>by simp only [lQ,Prod.mk.injEq] at h;obtain⟨-,rfl,-⟩:=h;simp
 | o::rest,e,p,l',e',h=>by
  simp only [lQ] at h
  split at h
  ·split at h
   ·generalize hrun:lQ P ds c rest _=rr at h
    obtain⟨q2,l2,e2⟩:=rr
    simp only [Prod.mk.injEq] at h
    obtain⟨-,rfl,-⟩:=h
    have:=oO hrun
    simp;omega
   ·simp only [Prod.mk.injEq] at h;obtain⟨-,rfl,-⟩:=h;simp
  ·have:=oO h;simp;omega
  ·simp only [Prod.mk.injEq] at h;obtain⟨-,rfl,-⟩:=h;simp
theorem Draw1.run:∀{l:List Oper} {e:List (Nat × A)} {p:Prop} {l':List Oper} {e':List (Nat × A)} {i:Nat},lQ P ds c l e=(p,l',e')→p→vG E i (i+(l.length-l'.length))=true→Draw1 P nt ds c E ss K (i+(l.length-l'.length)) e' l'→Draw1 P nt ds c E ss K i e l
 | [],e,p,l',e',i,h,hp,ho,hr=>by
  simp only [lQ,Prod.mk.injEq] at h
  obtain⟨-,rfl,rfl⟩:=h
  simpa using hr
 | o::rest,e,p,l',e',i,h,hp,ho,hr=>by
  obtain⟨d,op,ty,pos,aft,g⟩:=o
  simp only [lQ] at h
  have tail:∀{n:Nat},n≤rest.length→vG E i (i+(rest.length+1-n))=true→vG E (i+1) (i+1+(rest.length-n))=true∧E.contains i=false:=fun {n} hn h=>by
   refine⟨?_,MO h (by omega)⟩
   simp only [vG,List.all_eq_true,Bool.or_eq_true,decide_eq_true_eq] at h ⊢
   intro k hk
   have:=h k hk
   omega
  split at h
  ·rename_i hg
   split at h
   ·rename_i q x hq
    generalize hrun:lQ P ds c rest _=rr at h
    obtain⟨q2,l2,e2⟩:=rr
    simp only [Prod.mk.injEq] at h
    obtain⟨rfl,rfl,rfl⟩:=h
    have hle:=oO hrun
    simp only [List.length_cons] at ho hr
    obtain⟨h1,h2⟩:=tail hle ho
    refine Draw1.step h2 (fun s hs=>OpS.less hs hg hq hp.1) (Draw1.run hrun hp.2 h1 ?_)
    rw [show i+1+(rest.length-l2.length)=i+(rest.length+1-l2.length) by omega]
    exact hr
   ·simp only [Prod.mk.injEq] at h
    obtain⟨-,rfl,rfl⟩:=h
    simpa using hr
  ·rename_i hg
   have hle:=oO h
   simp only [List.length_cons] at ho hr
   obtain⟨h1,h2⟩:=tail hle ho
   refine Draw1.step h2 (fun s hs=>OpS.pass hg) (Draw1.run h hp h1 ?_)
   rw [show i+1+(rest.length-l'.length)=i+(rest.length+1-l'.length) by omega]
   exact hr
  ·simp only [Prod.mk.injEq] at h
   obtain⟨-,rfl,rfl⟩:=h
   simpa using hr
theorem Draw1.go {l:List Oper} (h:∀K':List Oper→List (Nat × A)→Prop,(∀l' e',vG E i (i+(l.length-l'.length))=true→Draw1 P nt ds c E ss K (i+(l.length-l'.length)) e' l'→K' l' e')→RunQ (lQ P ds c l e) K'):Draw1 P nt ds c E ss K i e l:=by
 have:=h (fun l' e'=>vG E i (i+(l.length-l'.length))=true∧Draw1 P nt ds c E ss K (i+(l.length-l'.length)) e' l') (fun _ _ h k=>⟨h,k⟩)
 exact Draw1.run rfl this.1 this.2.1 this.2.2
theorem Draw1.nil (hc:∀s∈ss,LeS c s) (h:K e):Draw1 P nt ds c E ss K i e []:=fun _=>⟨hc,h⟩
theorem Draw1.eff {o:Oper} {l:List Oper} {x:A} {s s':List (Option Ob)} (q:Nat) (hE:E[q]?=some i) (hs:ss[q]?=some s) (hs':ss[q+1]?=some s') (h:OpS P nt ds o e s x s') (hr:Draw1 P nt ds c E ss K (i+1) (bH e o.dst x) l):Draw1 P nt ds c E ss K i e (o::l):=fun hn=>by
 refine⟨(hr hn).1,x,⟨fun q' hq=>?_,fun hi=>absurd (List.mem_of_getElem? hE) hi⟩,(hr hn).2⟩
 obtain rfl:q'=q:=(List.getElem?_inj (List.getElem?_eq_some_iff.1 hq).1 hn).1 (hq.trans hE.symm)
 exact⟨s,s',hs,hs',h⟩
theorem WpA.draw1 {Q:Exit→St→Prop} {st:St} {id:Nat} {l:List Oper} (n:Nat) (E:List Nat) (c:List (Option Ob)) (ss:List (List (Option Ob))) (ds:List (Option Tmp)) (l1 l2:List Oper) (last:List (Option Ob)) (hds:l.map (·.dst)=ds) (h1:l.take n=l1) (h2:l.drop n=l2) (hm:P.follows .mixedOrders=true) (hB:uN l.toArray n nt.nt=true) (hT:lB l.toArray n=true) (hE:chE l.toArray E=true)
  (hEn:(E.all fun i=>decide (i<n))=true) (hss:ss.length=E.length+1) (h0:ss[0]?=some st.s) (hlast:ss[E.length]?=some last) (hN:E.Nodup)
  (h:∀K:List (Nat × A)→Prop,(∀e,WpL P nt l.toArray (Q .normal) l2 ⟨e,last⟩→K e)→Draw1 P nt ds c E ss K 0 st.e l1):WpA P nt (.region id l.toArray true) Q st:=by
 subst h1 h2
 exact WpA.drawE n E ss hds hm hB hT hE hEn hss h0 fun K hK=>h K (fun e he=>hK e fun s hs=>by rw [hlast] at hs;cases hs;exact he) hN |>.2
variable {d:Option Tmp} {op:Op} {ty:TypeId} {pos:String} {aft:Array Edge} {g:Option (Nat × Bool)} {s:List (Option Ob)}
theorem OpS.eff {x:A} {p:Prop} {s':List (Option Ob)} (e':List (Nat × A)) (hg:eP ds e g=some true) (he:(e'.all fun t=>decide (t.1<nt.nt)&&(looks ds op.operands.toList g).contains t.1)=true) (hf:Sub e e') (hq:aop P ⟨e',s⟩ op=some (p,x,⟨e',s'⟩)) (hp:p):OpS P nt ds ⟨d,op,ty,pos,aft,g⟩ e s x s':=fun H w0 S0 m0 mm a w hs hk=>by
 rw [tU hk hg,if_pos rfl]
 have hkey:∀{l:List (Nat × A)} {t:Nat} {y:A},find l t=some y→∃z∈l,z.1=t:=by
  intro l
  induction l with
  | nil=>intro t y h;simp [find] at h
  | cons z l ih =>
   obtain⟨j,x⟩:=z
   intro t y h
   simp only [find] at h
   split at h
   ·rename_i e;exact⟨(j,x),by simp,e.symm⟩
   ·obtain⟨z,hz,e⟩:=ih h;exact⟨z,by simp [hz],e⟩
 have hs2:Sim H w0 S0 m0 nt ⟨e',s⟩ mm a w:=by
  refine⟨fun t y hy=>?_,hs.nts,hs.df,hs.sto,hs.fr,hs.own,hs.up,hs.n0⟩
  obtain⟨z,hz,e1⟩:=hkey hy
  have h1:=List.all_eq_true.1 he z hz
  simp only [Bool.and_eq_true,decide_eq_true_eq,List.contains_iff_mem,e1] at h1
  have h2:=hk t h1.2 y (hf.find hy)
  have hlt:t<a.tmps.size:=by rw [hs.nts];exact h1.1
  refine⟨a.tmps[t],Array.getElem?_eq_getElem hlt,?_⟩
  have:a.eval (.tmp t)=a.tmps[t]:=by simp [Act.eval,Array.getElem?_eq_getElem hlt,hlt]
  rw [←this];exact h2
 obtain⟨u,w',m',hr,h1,h2,h3⟩:=aH (ty:=ty) (nt:=nt) hq hp H w0 S0 m0 mm a w hs2
 have h1':Sim H w0 S0 m0 nt ⟨[],s'⟩ m' a w':=⟨fun t y hy=>by simp [find] at hy,h1.nts,h1.df,h1.sto,h1.fr,h1.own,h1.up,h1.n0⟩
 unfold OpTo
 rw [gZ]
 rcases hr with hr|⟨hr,rfl⟩
 ·rw [hr];exact⟨m',h1',h2,h3⟩
 ·rw [hr];exact⟨m',h1',h2,h3⟩
theorem OpS.hand {fo:Operand} {args:List Operand} {tys:Array TypeId} {f:FuncId} {caps:List C} {xs xs':List A} {s1 s2:List (Option Ob)} {ρ:List Nat} {r:A} (hg:eP ds e g=some true) (hf:rdA e fo=some (.one (.fn f caps))) (ha:kM e args=some xs) (hc:eC P f=true)
  (hx:xs++caps.map .one=A.rens (rn ρ s.length) xs') (hh:Handed s ρ s1) (hfn:Fn P f xs' s1 fun x s=>x=r∧s=s2) :
  OpS P nt ds ⟨d,.call { callee:=.value fo,args:=args.toArray,argTypes:=tys },ty,pos,aft,g⟩ e s (r.ren (rn ρ s.length)) (back s ρ s2):=fun H w0 S0 m0 mm a w hs hk=>by
 rw [tU hk hg,if_pos rfl]
 have hrd:∀o∈fo::args,∀y,rdA e o=some y→Ca ⟨vis H s mm w,mm⟩ y (a.eval o):=fun o ho y hy=>yL hk (by simp [Op.operands,Call.operands];rcases List.mem_cons.1 ho with h|h;exact .inl h;exact .inr h) hy
 have h1:=hrd fo (by simp) _ hf
 simp only [Ca,Cc] at h1
 obtain⟨us,ef,hu⟩:=h1
 have hv:=(zR hrd (fun o ho=>by simp [ho]) ha).append (Cas.ones hu)
 have hrun:(execOp a.eval ⟨none,.call { callee:=.value fo,args:=args.toArray,argTypes:=tys },ty,"",#[],none⟩).run P w=.ok (.enter f (args.map a.eval++us).toArray) w:=by
  simp only [execOp,resolve,ef,Deferred.ofValue,Sem.run_bind,Sem.run_pure,Result.andThen_ok,invoke,List.map_toArray]
  have:((#[]:Array Value)++(args.map a.eval).toArray++us.toArray)=(args.map a.eval++us).toArray:=by simp
  rw [this,pR hc]
 unfold OpTo
 rw [gZ,hrun]
 have hl:=hs.sto.len
 simp only at hl
 rw [hx] at hv
 have hv':=(Cas.ren (m:=pick mm ρ) (fun i=>by rw [hl];exact pV (by rw [←hl];exact hh.lt) i) _ _).1 hv
 have e9:=Handed.vis (H:=H) (w:=w) (st:=⟨[],s⟩) hh hl
 simp only at e9
 rw [←e9] at hv'
 refine (hfn _ (pick mm ρ) w _ (hh.sto hs.sto) hv').mono fun e' w' ⟨v,m',r',s',he,⟨hR1,hR2⟩,hso,hca,hfr,hup,hnew⟩=>?_
 subst he hR1 hR2
 obtain⟨hsim,hgo,hval⟩:=hs.back hh hso hfr hup hnew
 exact⟨v,rfl,_,hsim,hgo,hval _ v hca⟩
end
section
variable {P:Program} {nt:Cf} {ops:Array Oper} {Q:St→Prop} {st:St} {rest:List Oper}
theorem Sim.all {H:Nat→Bool} {w0:World} {S0:Nat→Bool} {m0:List Lo} {m m':List Lo} {a:Act} {w w':World} {s':List (Option Ob)} (h:Sim H w0 S0 m0 nt st m a w) (hso:StoOk H s' m' w') (hfr:Fr (bZ st.s m) w w') (hup:Up m m') (hnew:∀(i:Nat) (ob:Ob) (l:Lo),s'[i]?=some (some ob)→m'[i]?=some l→bZ st.s m l.b=true∨w.heap.size≤l.b) :
  Sim H w0 S0 m0 nt ⟨st.e,s'⟩ m' a w'∧Goes st.s m w s' m' w':=by
 have hg:Goes st.s m w s' m' w':=⟨hup,hfr.os,hfr.tape,hfr.output,hfr.size,fun b hb hf=>⟨by
  cases hc:bZ s' m' b with
  | false=>rfl
  | true =>
   obtain⟨i,ob,l,h1,h2,rfl⟩:=aN.1 hc
   rcases hnew i ob l h1 h2 with k|k
   ·rw [k] at hf;cases hf
   ·omega,hfr.block b hb hf⟩⟩
 refine⟨h.goes hg hso fun i ob l h1 h2=>?_,hg⟩
 rcases hnew i ob l h1 h2 with k|k
 ·obtain⟨i0,ob0,l0,k1,k2,k3⟩:=aN.1 k
  rw [←k3]
  exact h.own _ _ _ k1 k2
 ·exact .inr (Nat.le_trans h.fr.size k)
theorem WpL.handAll {d:Option Tmp} {fo:Operand} {args:List Operand} {tys:Array TypeId} {ty:TypeId} {pos:String} {aft:Array Edge} {g:Option (Nat × Bool)} {f:FuncId} {caps:List C} {xs xs':List A} {R:A→List (Option Ob)→Prop} (hd:nL nt d=true)
  (hg:∀H w0 S0 m0 m a w,Sim H w0 S0 m0 nt st m a w→Region.wanted ⟨d,.call { callee:=.value fo,args:=args.toArray,argTypes:=tys },ty,pos,aft,g⟩ (yielded ops a.tmps)=true)
  (hf:rdA st.e fo=some (.one (.fn f caps))) (ha:kM st.e args=some xs) (hc:eC P f=true) (hx:ALes (xs++caps.map .one) xs') (hfn:Fn P f xs' st.s R)
  (h:∀r s',R r s'→WpL P nt ops Q rest (St.put ⟨st.e,s'⟩ d r)):WpL P nt ops Q (⟨d,.call { callee:=.value fo,args:=args.toArray,argTypes:=tys },ty,pos,aft,g⟩::rest) st:=fun H w0 S0 m0 m a w hs Q' hQ=>by
 obtain⟨vs,hrun,hv⟩:=zN (tys:=tys) (ty:=ty) hs hf ha hc
 unfold wpList
 rw [if_pos (hg H w0 S0 m0 m a w hs)]
 refine .inl ?_
 unfold Oper.wp
 rw [gZ,hrun]
 refine (hfn _ m w vs hs.sto (hx _ _ hv)).mono fun e w' ⟨v,m',r,s',he,hR,hso,hca,hfr,hup,hnew⟩=>?_
 subst he
 exact h r s' hR H w0 S0 m0 _ _ w' ((hs.all hso hfr hup hnew).1.put hd hca) Q' hQ
end
def At (t:TypeId) (wd:Nat) (S:List (Option Ob)) (c:C) (rows:List (List C)):Prop:=(rows=[]∧c=.v (.slice none 0 0))∨(rows≠[]∧∃j,c=.ms j rows.length∧S[j]?=some (some ⟨t,wd,rows⟩))
theorem At.nil (t:TypeId) (wd:Nat) (S:List (Option Ob)):At t wd S (.v (.slice none 0 0)) []:=.inl ⟨rfl,rfl⟩
theorem At.stay {t:TypeId} {wd:Nat} {S S':List (Option Ob)} {c:C} {rows:List (List C)} (h:At t wd S c rows) (hs:∀j,S[j]?=some (some ⟨t,wd,rows⟩)→c=.ms j rows.length→S'[j]?=some (some ⟨t,wd,rows⟩)):At t wd S' c rows:=by
 rcases h with h|⟨h1,j,h2,h3⟩
 ·exact .inl h
 ·exact .inr ⟨h1,j,h2,hs j h3 h2⟩
theorem dB {S T:List (Option Ob)} {j:Nat} {o:Option Ob} (h:S[j]?=some o):(S++T)[j]?=some o:=by rw [List.getElem?_append_left (List.getElem?_eq_some_iff.1 h).1];exact h
theorem At.app {t:TypeId} {wd:Nat} {S:List (Option Ob)} {c:C} {rows:List (List C)} (h:At t wd S c rows) (T:List (Option Ob)):At t wd (S++T) c rows:=h.stay fun j hj _=>dB hj
theorem At.set {t:TypeId} {wd:Nat} {S:List (Option Ob)} {c:C} {rows:List (List C)} (h:At t wd S c rows) {i:Nat} {o:Option Ob} (hi:∀ob,S[i]?=some (some ob)→ob.ty≠t):At t wd (S.set i o) c rows:=h.stay fun j hj _=>by
 rw [List.getElem?_set_ne (fun e=>by subst e;exact hi _ hj rfl)];exact hj
def pts (L:List (Nat × Ob)):List (Option Ob):=(List.range ((L.map (·.1)).foldr max 0+1)).map fun i=>(L.find? fun q=>q.1 == i).map (·.2)
theorem MP {L:List (Nat × Ob)} {i:Nat} {a:Ob} (h:(pts L)[i]?=some (some a)):(i,a)∈L:=by
 unfold pts at h
 rw [List.getElem?_map] at h
 by_cases hi:i<(L.map (·.1)).foldr max 0+1
 ·rw [List.getElem?_range hi] at h
  simp only [Option.map_some,Option.some.injEq,Option.map_eq_some_iff] at h
  obtain⟨q,h1,rfl⟩:=h
  have h2:=List.mem_of_find?_eq_some h1
  have h3:q.1=i:=by have:=List.find?_some h1;simpa using this
  subst h3
  exact h2
 ·rw [List.getElem?_eq_none (by simp;omega)] at h;cases h
theorem LeS.pts {L:List (Nat × Ob)} {s:List (Option Ob)} (h:∀q∈L,∃b,s[q.1]?=some (some b)∧b.ty=q.2.ty∧b.wd=q.2.wd∧FzR s (fun _=>false) b.es q.2.es):LeS (pts L) s:=by
 refine⟨(List.range s.length).map fun i=>match (Go.Proofs.YtaeioidifpebdaaGreatDoor.pts L)[i]? with|some (some a)=>some a|_=>(s[i]?).getD none,fun i a hi=>?_,⟨by simp,fun i ob hz=>(by cases hz),fun i b hb=>⟨rfl,?_⟩⟩,fun i b hb=>?_⟩
 ·obtain⟨b,hb,-⟩:=h _ (MP hi)
  have hlt:=(List.getElem?_eq_some_iff.1 hb).1
  rw [List.getElem?_map,List.getElem?_range hlt]
  simp only [Option.map_some,hi]
 ·rw [List.getElem?_map] at hb
  by_cases hlt:i<s.length
  ·rw [List.getElem?_range hlt] at hb
   simp only [Option.map_some,Option.some.injEq] at hb
   split at hb
   ·rename_i a ha
    cases hb
    obtain⟨c,h1,h2,h3,h4⟩:=h _ (MP ha)
    exact⟨c,h1,h2,h3,h4⟩
   ·have:s[i]?=some (some b):=by
     rw [List.getElem?_eq_getElem hlt] at hb ⊢
     simpa using hb
    exact⟨b,this,rfl,rfl,FzR.same _ _ _⟩
  ·rw [List.getElem?_eq_none (by simp;omega)] at hb;simp at hb
 ·have hlt:=(List.getElem?_eq_some_iff.1 hb).1
  rw [List.getElem?_map,List.getElem?_range hlt]
  simp only [Option.map_some,Option.some.injEq]
  split
  ·exact⟨_,rfl⟩
  ·exact⟨b,by rw [hb];rfl⟩
theorem FzR.one {S:List (Option Ob)} {z:Nat→Bool} {l k:List C} (h:FzCs S z l k):FzR S z [l] [k]:=⟨h,trivial⟩
theorem Frz.less {S:List (Option Ob)} {j:Nat} {a b:Ob} (hj:S[j]?=some (some b)) (h1:b.ty=a.ty) (h2:b.wd=a.wd) (h3:FzR S (fun _=>false) b.es a.es):Frz S (S.set j (some a)) (fun _=>false):=by
 refine⟨by simp,fun i ob h=>by simp at h,fun i x hx=>?_⟩
 by_cases hij:j=i
 ·subst hij
  rw [List.getElem?_set_self (List.getElem?_eq_some_iff.1 hj).1] at hx
  cases hx
  exact⟨rfl,b,hj,h1,h2,h3⟩
 ·rw [List.getElem?_set_ne hij] at hx
  exact⟨rfl,x,hx,rfl,rfl,FzR.same _ _ _⟩
theorem Frz.at {S:List (Option Ob)} {j:Nat} {b:Ob} (hj:S[j]?=some (some b)) (h:∀r∈b.es,∀c∈r,C.shut c=true):Frz S (S.set j none) (fun i=>i == j):=by
 refine⟨by simp,fun i ob hz ho=>?_,fun i x hx=>?_⟩
 ·simp only [beq_iff_eq] at hz
  subst hz
  rw [hj] at ho;cases ho
  exact h
 ·by_cases hij:j=i
  ·subst hij
   rw [List.getElem?_set_self (List.getElem?_eq_some_iff.1 hj).1] at hx
   cases hx
  ·rw [List.getElem?_set_ne hij] at hx
   exact⟨by simp;omega,x,hx,rfl,rfl,FzR.same _ _ _⟩
theorem Frz.into {S:List (Option Ob)} {j k:Nat} {b x y:Ob} (hj:S[j]?=some (some b)) (h:∀r∈b.es,∀c∈r,C.shut c=true) (hjk:j≠k) (hk:S[k]?=some (some x)) (h1:x.ty=y.ty) (h2:x.wd=y.wd) (h3:FzR S (fun i=>i == j) x.es y.es):Frz S ((S.set j none).set k (some y)) (fun i=>i == j):=by
 have hkl:=(List.getElem?_eq_some_iff.1 hk).1
 refine⟨by simp,fun i ob hz ho=>?_,fun i x' hx=>?_⟩
 ·simp only [beq_iff_eq] at hz
  subst hz
  rw [hj] at ho;cases ho
  exact h
 ·by_cases hik:k=i
  ·subst hik
   rw [List.getElem?_set_self (by simpa using hkl)] at hx
   cases hx
   exact⟨by simp;omega,x,hk,h1,h2,h3⟩
  ·rw [List.getElem?_set_ne hik] at hx
   by_cases hij:j=i
   ·subst hij
    rw [List.getElem?_set_self (List.getElem?_eq_some_iff.1 hj).1] at hx
    cases hx
   ·rw [List.getElem?_set_ne hij] at hx
    exact⟨by simp;omega,x',hx,rfl,rfl,FzR.same _ _ _⟩
theorem tr3 {α:Type} {p:Prop} {a:α} (h:p):some (p,a)=some (True,a):=by rw [eq_true h]
theorem fK {P:Program} {T t:TypeId} {wd by_:Nat} {zs:List Value} (hT:lN P T=some (t,wd)) (hby:sS P T=some by_) (hz:lC P t=some zs) (hwd:0<wd) {S:List (Option Ob)} {cX:C} {rows new:List (List C)} {q:Nat} (hA:At t wd S cX rows) (hq:S[q]?=some (some ⟨t,wd,new⟩)) (hne:new≠[]) (hqX:∀n,cX≠.ms q n)
  (hs1:(rows.length+new.length)*by_≤140737488355328) (hs2:rows.length+new.length≤140737488355328) :
  ∃S1 j,At t wd S1 (.ms j (rows.length+new.length)) (rows++new)∧S1[j]?=some (some ⟨t,wd,rows++new⟩)∧S.length≤S1.length∧(∀(i:Nat) (o:Option Ob),S[i]?=some o→(∀n,cX≠.ms i n)→S1[i]?=some o)∧(cX=.ms j rows.length∨S.length≤j) ∧
   ∀(e:List (Nat × A)) (x1 x2:Operand),rdA e x1=some (.one cX)→rdA e x2=some (.one (.ms q new.length))→aop P ⟨e,S⟩ (.call { callee:=.builtin .append,args:=#[x1,x2],argTypes:=#[T,T] })=some (True,.one (.ms j (rows.length+new.length)),⟨e,S1⟩):=by
 have hnl:0<new.length:=by cases new with|nil=>exact absurd rfl hne|cons a l=>simp
 rcases hA with ⟨rfl,rfl⟩|⟨hr,j,rfl,hj⟩
 ·refine⟨S++[some ⟨t,wd,new⟩],S.length,.inr ⟨by simpa using hne,S.length,by simp,by simp⟩,by simp,by simp,fun i o hi _=>dB hi,.inr (Nat.le_refl _),fun e x1 x2 h1 h2=>?_⟩
  simp only [List.length_nil,Nat.zero_add] at hs1 hs2
  simp only [aop,hT,hby,hz,h1,h2,sT,hq,List.length_nil,Nat.zero_add,List.nil_append]
  exact tr3 ⟨trivial,⟨by simp,by simp⟩,hnl,hs1,hs2⟩
 ·refine⟨S.set j (some ⟨t,wd,rows++new⟩),j,.inr ⟨by simp [hne],j,by simp,List.getElem?_set_self (List.getElem?_eq_some_iff.1 hj).1⟩,List.getElem?_set_self (List.getElem?_eq_some_iff.1 hj).1,by simp,fun i o hi hn=>?_,.inl rfl,fun e x1 x2 h1 h2=>?_⟩
  ·rw [List.getElem?_set_ne (fun e=>by subst e;exact hn _ rfl)];exact hi
  ·simp only [aop,hT,hby,hz,h1,h2,sT,hq,hj]
   exact tr3 ⟨trivial,⟨by simp,by simp⟩,by simp,by simp,by simp,hwd,hs1,hs2⟩
theorem OpS.aop {P:Program} {nt:Cf} {ds:List (Option Tmp)} {d:Option Tmp} {op:Op} {ty:TypeId} {pos:String} {aft:Array Edge} {g:Option (Nat × Bool)} {e:List (Nat × A)} {s s':List (Option Ob)} {x:A} (e':List (Nat × A)) (hg:eP ds e g=some true) (he:(e'.all fun t=>decide (t.1<nt.nt)&&(looks ds op.operands.toList g).contains t.1)=true) (hf:Sub e e') (hq:Go.Proofs.YtaeioidifpebdaaGreatDoor.aop P ⟨e',s⟩ op=some (True,x,⟨e',s'⟩)):OpS P nt ds ⟨d,op,ty,pos,aft,g⟩ e s x s' :=
 OpS.eff e' hg he hf hq trivial
theorem WpL.aop {P:Program} {nt:Cf} {ops:Array Oper} {Q:St→Prop} {rest:List Oper} {d:Option Tmp} {op:Op} {ty:TypeId} {pos:String} {aft:Array Edge} {e:List (Nat × A)} {s s':List (Option Ob)} {x:A} (hd:nL nt d=true) (hq:Go.Proofs.YtaeioidifpebdaaGreatDoor.aop P ⟨e,s⟩ op=some (True,x,⟨e,s'⟩)) (hr:WpL P nt ops Q rest (St.put ⟨e,s'⟩ d x)):WpL P nt ops Q (⟨d,op,ty,pos,aft,none⟩::rest) ⟨e,s⟩ :=
 WpL.op hd rC (aH hq trivial) hr
theorem At.len {t:TypeId} {wd:Nat} {S:List (Option Ob)} {c:C} {rows:List (List C)} (h:At t wd S c rows) (s:List (Option Ob)) (e:Bool):rE s e c=some (e=false,(rows.length:Int)):=by
 rcases h with ⟨rfl,rfl⟩|⟨hne,j,rfl,hj⟩
 ·rfl
 ·rfl
theorem At.freeze {t:TypeId} {wd:Nat} {S:List (Option Ob)} {c:C} {rows:List (List C)} (h:At t wd S c rows) (hs:∀r∈rows,∀c∈r,C.shut c=true):∃S' z,Frz S S' z∧FzC S z c (.sl wd rows)∧S'.length=S.length∧∀(i:Nat) (o:Option Ob),S[i]?=some o→(∀n,c≠.ms i n)→S'[i]?=some o:=by
 rcases h with ⟨rfl,rfl⟩|⟨hne,j,rfl,hj⟩
 ·exact⟨S,fun _=>false,Frz.refl S,FzC.nil,rfl,fun i o h _=>h⟩
 ·refine⟨S.set j none,fun i=>i == j,Frz.at hj hs,FzC.ms (by simp) hj rfl,by simp,fun i o h hn=>?_⟩
  rw [List.getElem?_set_ne (fun e=>by subst e;exact hn _ rfl)];exact h
structure GInv (H:Nat→Bool) (w0:World) (S0:Nat→Bool) (m0:List Lo) (nt:Cf) (l:List Oper) (n:Nat) (E:List Nat) (SS:List (List Nat × List (Option Ob))) (xs:List A) (e0:List (Nat × A)) (listed:Array Bool) (D:List Nat) (s:List (Option Ob)) (mm:List Lo) (a:Act) (w:World):Prop where
 head:HeadInv .any l.toArray n listed
 cnt:∀i∈E,(listed.getD i false=true↔i∈D)
 at_:(D,s)∈SS
 sim:Sim H w0 S0 m0 nt ⟨[],s⟩ mm a w
 old:∀t x,find e0 t=some x→(∀(i:Nat) (o:Oper),i<n→l[i]?=some o→listed.getD i false=true→o.dst≠some t)→∃u,a.tmps[t]?=some u∧Ca ⟨vis H s mm w,mm⟩ x u
 new:∀(i:Nat) (o:Oper) (d:Tmp) (x:A),i<n→l[i]?=some o→listed.getD i false=true→o.dst=some d→xs[i]?=some x→∃u,a.tmps[d]?=some u∧Ca ⟨vis H s mm w,mm⟩ x u
theorem GInv.next {H:Nat→Bool} {w0:World} {S0:Nat→Bool} {m0:List Lo} {nt:Cf} {l:List Oper} {n:Nat} {E:List Nat} {SS:List (List Nat × List (Option Ob))} {xs:List A} {e0:List (Nat × A)} {listed:Array Bool} {D D':List Nat} {s s':List (Option Ob)} {mm mm':List Lo} {a:Act} {w w':World}
  (h:GInv H w0 S0 m0 nt l n E SS xs e0 listed D s mm a w) (hl:PhiLook l.toArray n nt.nt) {i:Nat} {o:Oper} {x:A} (ho:l[i]?=some o) (him:i<n) (hr:i∈Region.ready .any l.toArray listed) (hx:xs[i]?=some x) {v:Value}
  (hs:Sim H w0 S0 m0 nt ⟨[],s'⟩ mm' a w') (hg:Goes s mm w s' mm' w') (hv:Ca ⟨vis H s' mm' w',mm'⟩ x v) (hat:(D',s')∈SS) (hcnt:∀k∈E,((listed.setIfInBounds i true).getD k false=true↔k∈D')) :
  GInv H w0 S0 m0 nt l n E SS xs e0 (listed.setIfInBounds i true) D' s' mm' (a.put o.dst v) w':=by
 have hoA:l.toArray[i]?=some o:=by simpa using ho
 have hlist:∀k,k≠i→(listed.setIfInBounds i true).getD k false=listed.getD k false:=fun k hk=>getD_set_ne false (Ne.symm hk)
 have hti:(listed.setIfInBounds i true).getD i false=true:=by
  have:i<listed.size:=by rw [h.head.size];simpa using (List.getElem?_eq_some_iff.1 ho).1
  simp [Array.getD_eq_getD_getElem?,this]
 have hfit:nL nt o.dst=true:=by
  cases hd:o.dst with
  | none=>rfl
  | some d=>simp only [nL,decide_eq_true_eq];exact hl.bound i o d him hoA hd
 have hput:=hs.put hfit (x:=.any) (u:=v) (by simp only [Ca])
 have hsim:Sim H w0 S0 m0 nt ⟨[],s'⟩ mm' (a.put o.dst v) w':=⟨fun t y hy=>by simp [find] at hy,hput.nts,hput.df,hs.sto,hs.fr,hs.own,hs.up,hs.n0⟩
 refine⟨h.head.set hr him,hcnt,hat,hsim,fun t y hy hno=>?_,fun k ok d y hk hok hlk hd hy=>?_⟩
 ·have hti':=hno i o him ho hti
  obtain⟨u,h1,h2⟩:=h.old t y hy fun k ok hk hok hlk=>by
   by_cases hki:k=i
   ·subst hki;rw [ho] at hok;cases hok;exact hti'
   ·exact hno k ok hk hok (by rw [hlist k hki];exact hlk)
  exact⟨u,by rw [gD hti'];exact h1,hg.ca h2⟩
 ·by_cases hki:k=i
  ·subst hki
   rw [ho] at hok;cases hok
   rw [hx] at hy;cases hy
   refine⟨v,?_,hv⟩
   rw [hd]
   exact kQ (by rw [h.sim.nts];exact hl.bound k o d him hoA hd)
  ·rw [hlist k hki] at hlk
   obtain⟨u,h1,h2⟩:=h.new k ok d y hk hok hlk hd hy
   exact⟨u,by rw [gD (hl.unlike i k o ok d him hk hki hoA (by simpa using hok) hd)];exact h1,hg.ca h2⟩
def QT (P:Program) (nt:Cf) (ds:List (Option Tmp)) (ops:Array Oper) (E:List Nat) (SS:List (List Nat × List (Option Ob))) (i:Nat) (e:List (Nat × A)) (o:Oper) (x:A):Prop :=
 (i∈E→∀D s,(D,s)∈SS→i∉D→(∀j∈E,Region.waitsFor .any ops i j=true→j∈D)→∃D' s',(D',s')∈SS∧(∀j∈E,j∈D'↔(j=i∨j∈D))∧OpS P nt ds o e s x s')∧(i∉E→∀D s,(D,s)∈SS→OpS P nt ds o e s x s)
theorem WpA.drawG0 {P:Program} {nt:Cf} {Q:Exit→St→Prop} {st:St} {id:Nat} {l:List Oper} (n:Nat) (E:List Nat) (SS:List (List Nat × List (Option Ob))) (xs:List A) (hm:P.follows .mixedOrders=true) (hB:uN l.toArray n nt.nt=true) (hT:lB l.toArray n=true)
  (h0:([],st.s)∈SS) (hxl:xs.length=n)
  (hop:∀(i:Nat) (o:Oper) (x:A),i<n→l[i]?=some o→xs[i]?=some x→QT P nt (l.map (·.dst)) l.toArray E SS i (oA st.e (((l.map (·.dst)).zip xs).take i)) o x)
  (hend:∀D s,(D,s)∈SS→(∀i∈E,i<n→i∈D)→WpL P nt l.toArray (Q .normal) (l.drop n) ⟨oA st.e (((l.map (·.dst)).zip xs).take n),s⟩):WpA P nt (.region id l.toArray true) Q st:=fun H w0 S0 m0 m a w hs=>by
 have hl:PhiLook l.toArray n nt.nt:=oH hB
 have hT':=hT
 simp only [lB,Bool.and_eq_true,Bool.or_eq_true,decide_eq_true_eq] at hT
 obtain⟨⟨t1,t2⟩,t3⟩:=hT
 have hml:n≤l.length:=by simpa using hl.le
 have hlA:PhiLook l.toArray n a.tmps.size:=by rw [hs.nts];exact hl
 have hzip:∀(i k:Nat) (t:Tmp) (y:A),(((l.map (·.dst)).zip xs).take i)[k]?=some (some t,y)→k<i∧∃o,l[k]?=some o∧o.dst=some t∧xs[k]?=some y:=fun i k t y hk=>by
  rw [List.getElem?_take] at hk
  split at hk
  ·rename_i hki
   rw [List.getElem?_zip_eq_some] at hk
   obtain⟨h1,h2⟩:=hk
   rw [List.getElem?_map,Option.map_eq_some_iff] at h1
   obtain⟨o,ho,hd⟩:=h1
   exact⟨hki,o,ho,hd,h2⟩
  ·cases hk
 have hzip':∀(i k:Nat) (o:Oper) (t:Tmp),k<i→k<n→l[k]?=some o→o.dst=some t→∃y,(((l.map (·.dst)).zip xs).take i)[k]?=some (some t,y):=fun i k o t hki hkn ho hd=>by
  have hkx:k<xs.length:=by omega
  refine⟨xs[k],?_⟩
  rw [List.getElem?_take,if_pos hki,List.getElem?_zip_eq_some]
  refine⟨?_,List.getElem?_eq_getElem hkx⟩
  rw [List.getElem?_map,ho];simp [hd]
 refine wp_region_any hm (yH _ _ _ _ ?_)
 have hno:∀i,(Array.replicate l.toArray.size false).getD i false=true→False:=fun i hi=>by rw [getD_replicate_false] at hi;cases hi
 have hdr:Fr (fun _=>false) w { w with drawn:=w.drawn+1 }:=⟨rfl,rfl,rfl,Nat.le_refl _,fun _ _ _=>rfl⟩
 obtain⟨hs1,hg1⟩:=hs.ext hdr
 have inv0:GInv H w0 S0 m0 nt l n E SS xs st.e (Array.replicate l.toArray.size false) [] st.s m a { w with drawn:=w.drawn+1 } :=
  ⟨⟨by simp,fun j oj _ hl=>(hno j hl).elim,fun t _ ht=>getD_in (by simpa using ht) (getD_replicate_false _ _)⟩,fun i _=>⟨fun h=>(hno i h).elim,fun h=>by cases h⟩,h0,⟨fun t y hy=>by simp [find] at hy,hs1.nts,hs1.df,hs1.sto,hs1.fr,hs1.own,hs1.up,hs1.n0⟩,fun t x hx _=>hs1.env t x hx,fun i o d x _ _ h _ _=>(hno i h).elim⟩
 refine GM (a0:=a) (I:=fun listed a' w'=>∃D s mm,GInv H w0 S0 m0 nt l n E SS xs st.e listed D s mm a' w') (g:=l.toArray.size-n) hlA (fun _ _ _ ⟨_,_,_,h⟩=>h.head) ?_ (fun hlt=>by rcases t1 with t1|t1;exact absurd t1 (by omega);exact t1) (fun a' w' ⟨D,s,mm,inv⟩=>?_) t3.symm _ _ _ _ ?_ ⟨_,_,_,inv0⟩
 ·intro listed a' w' ⟨D,s,mm,inv⟩ i him hr K hK
  obtain⟨hun,o,hoA,hall⟩:=mem_ready.1 hr
  have ho:l[i]?=some o:=by simpa using hoA
  have hunf:listed.getD i false=false:=getD_both hun
  obtain⟨x,hx⟩:∃x,xs[i]?=some x:=⟨_,List.getElem?_eq_getElem (by omega)⟩
  obtain⟨st1,st2⟩:=hop i o x him ho hx
  have hknow:∀t∈looks (l.map (·.dst)) o.op.operands.toList o.guard,∀y,find (oA st.e (((l.map (·.dst)).zip xs).take i)) t=some y→Ca ⟨vis H s mm w',mm⟩ y (a'.eval (.tmp t)):=fun t ht y hy=>by
   rw [←uP] at ht
   rcases mG hy with ⟨k,hk⟩|⟨h1,h2⟩
   ·obtain⟨hki,ok,hok,hd,hxk⟩:=hzip i k t y hk
    have hwait:=hl.early i k o ok t him hki hoA (by simpa using hok) hd ht
    obtain⟨o',ho',e,he,hb,hon⟩:=Region.waitsFor_spec hwait
    rw [hoA] at ho';cases ho'
    have hlk:=hall e he hb
    rw [hon] at hlk
    obtain⟨u,hu,hc⟩:=inv.new k ok t y (by omega) hok hlk hd hxk
    rw [jP hu];exact hc
   ·obtain⟨u,hu,hc⟩:=inv.old t y h1 fun k ok hk hok hlk hd=>by
     rcases Nat.lt_trichotomy k i with h|h|h
     ·obtain⟨z,hz⟩:=hzip' i k ok t h hk hok hd
      exact h2 k z hz
     ·subst h;rw [hunf] at hlk;cases hlk
     ·have hwait:=hl.late i k o ok t him hk h hoA (by simpa using hok) hd ht
      obtain⟨o',ho',e,he,hb,hon⟩:=Region.waitsFor_spec hwait
      have hoj' : o' = ok := by have : l.toArray[k]? = some ok := by simpa using hok
                                rw [this] at ho'; exact (Option.some.inj ho').symm
      subst hoj'
      have:=inv.head.closed k o' (by simpa using hok) hlk e he hb
      rw [hon,hunf] at this
      cases this
    rw [jP hu];exact hc
  have hfin:∀(D':List Nat) (s':List (Option Ob)),OpS P nt (l.map (·.dst)) o (oA st.e (((l.map (·.dst)).zip xs).take i)) s x s'→(D',s')∈SS→(∀k∈E,((listed.setIfInBounds i true).getD k false=true↔k∈D'))→wpOp P l.toArray (wV H w0 S0 m0 nt Q) i K a' w':=by
   intro D' s' hS hat hcnt
   have hgo:=hS H w0 S0 m0 mm a' w' inv.sim hknow
   refine MG (Ψ:=fun v w2=>∃mm',Sim H w0 S0 m0 nt ⟨[],s'⟩ mm' a' w2∧Goes s mm w' s' mm' w2∧Ca ⟨vis H s' mm' w2,mm'⟩ x v) hoA ?_ fun v w2 ⟨mm',h1,h2,h3⟩=>hK _ _ ⟨D',s',mm',inv.next hl ho him hr hx h1 h2 h3 hat hcnt⟩
   rw [sA]
   split
   ·rename_i hw;rw [if_pos hw] at hgo;exact hgo
   ·rename_i hw
    rw [if_neg hw] at hgo
    obtain⟨rfl,rfl⟩:=hgo
    exact⟨mm,inv.sim,Goes.refl _ _ _,by simp only [Ca];exact⟨[],rfl,by simp [Cas]⟩⟩
  have hset:∀k,(listed.setIfInBounds i true).getD k false=true↔k=i∨listed.getD k false=true:=fun k=>by
   by_cases hk:k=i
   ·subst hk
    have:k<listed.size:=by rw [inv.head.size];simpa using (List.getElem?_eq_some_iff.1 ho).1
    simp [Array.getD_eq_getD_getElem?,this]
   ·rw [getD_set_ne false (Ne.symm hk)];simp [hk]
  by_cases hiE:i∈E
  ·have hnD:i∉D:=fun h=>by have:=(inv.cnt i hiE).2 h;rw [hunf] at this;cases this
   obtain⟨D',s',g1,g2,hS⟩:=st1 hiE D s inv.at_ hnD (fun j hj hw=>by
    obtain⟨o',ho',e,he,hbb,hon⟩:=Region.waitsFor_spec hw
    rw [hoA] at ho';cases ho'
    have:=hall e he hbb
    rw [hon] at this
    exact (inv.cnt j hj).1 this)
   refine hfin D' s' hS g1 fun k hk=>?_
   rw [hset k,g2 k hk]
   constructor
   ·rintro (h|h)
    ·exact .inl h
    ·exact .inr ((inv.cnt k hk).1 h)
   ·rintro (h|h)
    ·exact .inl h
    ·exact .inr ((inv.cnt k hk).2 h)
  ·refine hfin D s (st2 hiE D s inv.at_) inv.at_ fun k hk=>?_
   rw [hset k]
   constructor
   ·rintro (rfl|h)
    ·exact absurd hk hiE
    ·exact (inv.cnt k hk).1 h
   ·exact fun h=>.inr ((inv.cnt k hk).2 h)
 ·have hall:∀i,i<n→(eH l.toArray.size n).getD i false=true:=fun i hi=>by
   have hi':i<l.length:=by omega
   simp [eH,hi',hi]
  refine yI _ _ _ _ ?_
  have hdl:(l.drop n).length=l.toArray.size-n:=by simp
  have hsim:Sim H w0 S0 m0 nt ⟨oA st.e (((l.map (·.dst)).zip xs).take n),s⟩ mm a' w':=by
   refine⟨fun t y hy=>?_,inv.sim.nts,inv.sim.df,inv.sim.sto,inv.sim.fr,inv.sim.own,inv.sim.up,inv.sim.n0⟩
   rcases mG hy with ⟨k,hk⟩|⟨h1,h2⟩
   ·obtain⟨hki,ok,hok,hd,hxk⟩:=hzip n k t y hk
    exact inv.new k ok t y hki hok (hall k hki) hd hxk
   ·exact inv.old t y h1 fun k ok hk hok _ hd=>by
     obtain⟨z,hz⟩:=hzip' n k ok t hk hk hok hd
     exact h2 k z hz
  have hwl:=hend D s inv.at_ (fun i hi hin=>(inv.cnt i hi).1 (hall i hin)) H w0 S0 m0 mm a' w' hsim (wV H w0 S0 m0 nt Q) (fun a2 w2 ⟨st2,m2,hq,hs2⟩=>⟨st2,m2,hq,hs2⟩)
  have:=wpAny_of_seq (md:=.any) (Q':=wV H w0 S0 m0 nt Q) (l.drop n) n (eH l.toArray.size n) a' w' (fun j=>by simp [List.getElem?_drop]) (by rw [hdl];exact t2) hwl
  rwa [hdl] at this
 ·simp [iG]
section
variable {P:Program} {nt:Cf} {ds:List (Option Tmp)} {ops:Array Oper} {E:List Nat} {SS:List (List Nat × List (Option Ob))}
def DrawG (P:Program) (nt:Cf) (ds:List (Option Tmp)) (ops:Array Oper) (E:List Nat) (SS:List (List Nat × List (Option Ob))) (K:List (Nat × A)→Prop):Nat→List (Nat × A)→List Oper→Prop
 | _,e,[]=>K e
 | i,e,o::l=>∃x,QT P nt ds ops E SS i e o x∧DrawG P nt ds ops E SS K (i+1) (bH e o.dst x) l
theorem DrawG.parts {K:List (Nat × A)→Prop} {e0:List (Nat × A)}:∀(l:List Oper) (i:Nat) (Γ:List (Option Tmp × A)),DrawG P nt ds ops E SS K i (oA e0 Γ) l →
  ∃xs:List A,xs.length=l.length∧(∀(k:Nat) (o:Oper) (x:A),l[k]?=some o→xs[k]?=some x→QT P nt ds ops E SS (i+k) (oA e0 (Γ++((l.map (·.dst)).zip xs).take k)) o x)∧K (oA e0 (Γ++(l.map (·.dst)).zip xs))
 | [],i,Γ,h=>⟨[],rfl,by simp,by simp only [DrawG] at h;simpa using h⟩
 | o::l,i,Γ,h=>by
  obtain⟨x,h1,h2⟩:=h
  rw [←sD] at h2
  obtain⟨xs,g1,g2,g3⟩:=DrawG.parts l (i+1) (Γ++[(o.dst,x)]) h2
  refine⟨x::xs,by simp [g1],fun k o' y hk hy=>?_,by simpa using g3⟩
  cases k with
  | zero=>simp at hk hy;subst hk hy;simpa using h1
  | succ k =>
   have:=g2 k o' y (by simpa using hk) (by simpa using hy)
   rw [show i+(k+1)=i+1+k by omega]
   simpa using this
theorem WpA.drawG {Q:Exit→St→Prop} {st:St} {id:Nat} {l:List Oper} (n:Nat) (E:List Nat) (SS:List (List Nat × List (Option Ob))) (hds:l.map (·.dst)=ds) (hm:P.follows .mixedOrders=true) (hB:uN l.toArray n nt.nt=true) (hT:lB l.toArray n=true)
  (h0:([],st.s)∈SS)
  (h:∀K:List (Nat × A)→Prop,(∀e,(∀D s,(D,s)∈SS→(∀i∈E,i<n→i∈D)→WpL P nt l.toArray (Q .normal) (l.drop n) ⟨e,s⟩)→K e)→DrawG P nt ds l.toArray E SS K 0 st.e (l.take n)):WpA P nt (.region id l.toArray true) Q st:=by
 subst hds
 have hml:n≤l.length:=by simpa using (oH hB).le
 obtain⟨xs,g1,g2,g3⟩:=DrawG.parts (e0:=st.e) (l.take n) 0 [] (h _ fun e he=>he)
 have hlen:xs.length=n:=by rw [g1,List.length_take];omega
 have hz:∀i,i≤n→(((l.take n).map (·.dst)).zip xs).take i=((l.map (·.dst)).zip xs).take i:=fun i hi=>by
  rw [List.map_take,jB _ _ _ (by omega)]
 refine WpA.drawG0 n E SS xs hm hB hT h0 hlen (fun i o x hi ho hx=>?_) (fun D s hs hD=>?_)
 ·have:=g2 i o x (by rw [List.getElem?_take,if_pos hi];exact ho) hx
  rw [Nat.zero_add,List.nil_append,hz i (by omega)] at this
  exact this
 ·have:=g3 D s hs hD
  rw [List.nil_append] at this
  have e:((l.take n).map (·.dst)).zip xs=((l.map (·.dst)).zip xs).take n:=by
   rw [List.map_take,jB _ _ _ (by omega),List.take_of_length_le (by rw [List.length_zip];omega)]
  rw [e] at this
  exact this
variable {c:List (Option Ob)} {K:List (Nat × A)→Prop} {i:Nat} {e:List (Nat × A)}
def Draw2 (P:Program) (nt:Cf) (ds:List (Option Tmp)) (ops:Array Oper) (c:List (Option Ob)) (E:List Nat) (SS:List (List Nat × List (Option Ob))) (K:List (Nat × A)→Prop) (i:Nat) (e:List (Nat × A)) (l:List Oper):Prop:=E.Nodup→(∀p∈SS,LeS c p.2)∧DrawG P nt ds ops E SS K i e l
theorem Draw2.step {o:Oper} {l:List Oper} {x:A} (hi:E.contains i=false) (h:∀s,LeS c s→OpS P nt ds o e s x s) (hr:Draw2 P nt ds ops c E SS K (i+1) (bH e o.dst x) l):Draw2 P nt ds ops c E SS K i e (o::l):=fun hn =>
 have hi':i∉E:=by simpa using hi
 ⟨(hr hn).1,x,⟨fun hi2=>absurd hi2 hi',fun _ D s hs=>h s ((hr hn).1 _ hs)⟩,(hr hn).2⟩
theorem Draw2.run:∀{l:List Oper} {e:List (Nat × A)} {p:Prop} {l':List Oper} {e':List (Nat × A)} {i:Nat},lQ P ds c l e=(p,l',e')→p→vG E i (i+(l.length-l'.length))=true→Draw2 P nt ds ops c E SS K (i+(l.length-l'.length)) e' l'→Draw2 P nt ds ops c E SS K i e l
 | [],e,p,l',e',i,h,hp,ho,hr=>by
  simp only [lQ,Prod.mk.injEq] at h
  obtain⟨-,rfl,rfl⟩:=h
  simpa using hr
 | o::rest,e,p,l',e',i,h,hp,ho,hr=>by
  obtain⟨d,op,ty,pos,aft,g⟩:=o
  simp only [lQ] at h
  have tail:∀{n:Nat},n≤rest.length→vG E i (i+(rest.length+1-n))=true→vG E (i+1) (i+1+(rest.length-n))=true∧E.contains i=false:=fun {n} hn h=>by
   refine⟨?_,MO h (by omega)⟩
   simp only [vG,List.all_eq_true,Bool.or_eq_true,decide_eq_true_eq] at h ⊢
   intro k hk
   have:=h k hk
   omega
  split at h
  ·rename_i hg
   split at h
   ·rename_i q x hq
    generalize hrun:lQ P ds c rest _=rr at h
    obtain⟨q2,l2,e2⟩:=rr
    simp only [Prod.mk.injEq] at h
    obtain⟨rfl,rfl,rfl⟩:=h
    have hle:=oO hrun
    simp only [List.length_cons] at ho hr
    obtain⟨h1,h2⟩:=tail hle ho
    refine Draw2.step h2 (fun s hs=>OpS.less hs hg hq hp.1) (Draw2.run hrun hp.2 h1 ?_)
    rw [show i+1+(rest.length-l2.length)=i+(rest.length+1-l2.length) by omega]
    exact hr
   ·simp only [Prod.mk.injEq] at h
    obtain⟨-,rfl,rfl⟩:=h
    simpa using hr
  ·rename_i hg
   have hle:=oO h
   simp only [List.length_cons] at ho hr
   obtain⟨h1,h2⟩:=tail hle ho
   refine Draw2.step h2 (fun s hs=>OpS.pass hg) (Draw2.run h hp h1 ?_)
   rw [show i+1+(rest.length-l'.length)=i+(rest.length+1-l'.length) by omega]
   exact hr
  ·simp only [Prod.mk.injEq] at h
   obtain⟨-,rfl,rfl⟩:=h
   simpa using hr
theorem Draw2.go {l:List Oper} (h:∀K':List Oper→List (Nat × A)→Prop,(∀l' e',vG E i (i+(l.length-l'.length))=true→Draw2 P nt ds ops c E SS K (i+(l.length-l'.length)) e' l'→K' l' e')→RunQ (lQ P ds c l e) K'):Draw2 P nt ds ops c E SS K i e l:=by
 have:=h (fun l' e'=>vG E i (i+(l.length-l'.length))=true∧Draw2 P nt ds ops c E SS K (i+(l.length-l'.length)) e' l') (fun _ _ h k=>⟨h,k⟩)
 exact Draw2.run rfl this.1 this.2.1 this.2.2
theorem Draw2.nil (hc:∀p∈SS,LeS c p.2) (h:K e):Draw2 P nt ds ops c E SS K i e []:=fun _=>⟨hc,h⟩
def trB (ops:Array Oper) (E:List Nat) (Ds:List (List Nat)) (i:Nat) (T:List (Nat × Nat)):Bool :=
 (List.range Ds.length).all fun k=>match Ds[k]? with
  | none=>false
  | some D=>D.contains i||(E.any fun j=>Region.waitsFor .any ops i j&&!D.contains j)||T.any fun t=>t.1 == k&&(match Ds[t.2]? with
   | none=>false
   | some D'=>E.all fun j=>D'.contains j == (j == i||D.contains j))
theorem MQ {α β:Type} {a:List α} {b:List β} {x:α} {y:β} (h:(x,y)∈a.zip b):∃k:Nat,a[k]?=some x∧b[k]?=some y:=by
 obtain⟨k,hk⟩:=List.mem_iff_getElem?.1 h
 rw [List.getElem?_zip_eq_some] at hk
 exact⟨k,hk.1,hk.2⟩
theorem kE {Ds:List (List Nat)} {ss:List (List (Option Ob))} (h:∀s∈ss,LeS c s):∀p∈Ds.zip ss,LeS c p.2:=fun p hp=>h _ (List.of_mem_zip hp).2
theorem Draw2.eff {Ds:List (List Nat)} {ss:List (List (Option Ob))} {o:Oper} {l:List Oper} {x:A} (T:List (Nat × Nat)) (hE:E.contains i=true) (hlen:Ds.length=ss.length) (hT:trB ops E Ds i T=true) (h:∀t∈T,∀s s',ss[t.1]?=some s→ss[t.2]?=some s'→OpS P nt ds o e s x s') (hr:Draw2 P nt ds ops c E (Ds.zip ss) K (i+1) (bH e o.dst x) l):Draw2 P nt ds ops c E (Ds.zip ss) K i e (o::l):=fun hn=>by
 have hE':i∈E:=by simpa using hE
 refine⟨(hr hn).1,x,⟨fun _ D s hDs hnD hw=>?_,fun hi=>absurd hE' hi⟩,(hr hn).2⟩
 obtain⟨k,h1,h2⟩:=MQ hDs
 have hk:=(List.getElem?_eq_some_iff.1 h1).1
 have h3:=List.all_eq_true.1 hT k (by simpa using hk)
 simp only [h1,Bool.or_eq_true,List.any_eq_true,Bool.and_eq_true,Bool.not_eq_true'] at h3
 rcases h3 with (h3|⟨j,hj,h4,h5⟩)|⟨t,ht,h4,h5⟩
 ·exact absurd (by simpa using h3) hnD
 ·have:=hw j hj h4
  rw [show D.contains j=true by simpa using this] at h5;cases h5
 ·have h6:t.1=k:=by simpa using h4
  subst h6
  split at h5
  ·cases h5
  ·rename_i D' hD'
   have hk2:=(List.getElem?_eq_some_iff.1 hD').1
   obtain⟨s',hs'⟩:∃s',ss[t.2]?=some s':=⟨_,List.getElem?_eq_getElem (by omega)⟩
   refine⟨D',s',List.mem_iff_getElem?.2 ⟨t.2,List.getElem?_zip_eq_some.2 ⟨hD',hs'⟩⟩,fun j hj=>?_,h t ht s s' h2 hs'⟩
   have:=List.all_eq_true.1 h5 j hj
   simp only [beq_iff_eq] at this
   have e1:(D'.contains j=true)↔j∈D':=by simp
   have e2:((j == i||D.contains j)=true)↔(j=i∨j∈D):=by simp
   rw [←e1,←e2,this]
def XI (n:Nat) (E:List Nat) (Ds:List (List Nat)) (q:Nat):Bool:=(List.range Ds.length).all fun k=>k == q||match Ds[k]? with
 | none=>false
 | some D=>E.any fun i=>decide (i<n)&&!D.contains i
theorem WpA.draw2 {Q:Exit→St→Prop} {st:St} {id:Nat} {l:List Oper} (n:Nat) (E:List Nat) (c:List (Option Ob)) (Ds:List (List Nat)) (ss:List (List (Option Ob))) (q:Nat) (ds:List (Option Tmp)) (l1 l2:List Oper) (last:List (Option Ob)) (hds:l.map (·.dst)=ds) (h1:l.take n=l1) (h2:l.drop n=l2) (hm:P.follows .mixedOrders=true) (hB:uN l.toArray n nt.nt=true) (hT:lB l.toArray n=true) (hE:XI n E Ds q=true)
  (hD0:Ds[0]?=some []) (h0:ss[0]?=some st.s) (hlast:ss[q]?=some last) (hN:E.Nodup)
  (h:∀K:List (Nat × A)→Prop,(∀e,WpL P nt l.toArray (Q .normal) l2 ⟨e,last⟩→K e)→Draw2 P nt ds l.toArray c E (Ds.zip ss) K 0 st.e l1):WpA P nt (.region id l.toArray true) Q st:=by
 subst h1 h2
 refine WpA.drawG n E (Ds.zip ss) hds hm hB hT (List.mem_iff_getElem?.2 ⟨0,List.getElem?_zip_eq_some.2 ⟨hD0,h0⟩⟩) fun K hK=>(h K (fun e he=>hK e fun D s hs hD=>?_) hN).2
 obtain⟨k,g1,g2⟩:=MQ hs
 have hk:=(List.getElem?_eq_some_iff.1 g1).1
 have g3:=List.all_eq_true.1 hE k (by simpa using hk)
 simp only [g1,Bool.or_eq_true,beq_iff_eq,List.any_eq_true,Bool.and_eq_true,decide_eq_true_eq,Bool.not_eq_true'] at g3
 rcases g3 with rfl|⟨i,hi,h4,h5⟩
 ·rw [hlast] at g2;cases g2;exact he
 ·have:=hD i hi h4
  rw [show D.contains i=true by simpa using this] at h5;cases h5
end
def FrzL (S0:List (Option Ob)) (z:Nat→Bool):Nat→List (Option Ob)→List (Option Ob)→Prop
 | _,[],[]=>True
 | k,o::s,none::s'=>(z k=true→∀ob,o=some ob→∀r∈ob.es,∀c∈r,C.shut c=true)∧FrzL S0 z (k+1) s s'
 | k,some a::s,some b::s'=>z k=false∧a.ty=b.ty∧a.wd=b.wd∧FzR S0 z a.es b.es∧FrzL S0 z (k+1) s s'
 | _,_,_=>False
theorem FrzL.len {S0:List (Option Ob)} {z:Nat→Bool}:∀{k:Nat} {s s':List (Option Ob)},FrzL S0 z k s s'→s'.length=s.length
 | _,[],[],_=>rfl
 | _,[],_::_,h=>by simp [FrzL] at h
 | _,none::s,some b::s',h=>by simp [FrzL] at h
 | _,_::_,[],h=>by simp [FrzL] at h
 | k,o::s,none::s',h=>by simp only [FrzL] at h;simp [FrzL.len h.2]
 | k,some a::s,some b::s',h=>by simp only [FrzL] at h;simp [FrzL.len h.2.2.2.2]
theorem FrzL.at {S0:List (Option Ob)} {z:Nat→Bool}:∀{k:Nat} {s s':List (Option Ob)},FrzL S0 z k s s'→∀i,(∀ob,z (k+i)=true→s[i]?=some (some ob)→∀r∈ob.es,∀c∈r,C.shut c=true)∧∀b,s'[i]?=some (some b)→z (k+i)=false∧∃a,s[i]?=some (some a)∧a.ty=b.ty∧a.wd=b.wd∧FzR S0 z a.es b.es
 | _,[],[],_,i=>by simp
 | _,[],_::_,h,_=>by simp [FrzL] at h
 | _,none::s,some b::s',h,_=>by simp [FrzL] at h
 | _,_::_,[],h,_=>by simp [FrzL] at h
 | k,o::s,none::s',h,i=>by
  simp only [FrzL] at h
  cases i with
  | zero=>exact⟨fun ob hz ho=>h.1 hz ob (by simpa using ho),fun b hb=>by simp at hb⟩
  | succ i =>
   have:=FrzL.at h.2 i
   rw [show k+(i+1)=k+1+i by omega]
   simpa using this
 | k,some a::s,some b::s',h,i=>by
  simp only [FrzL] at h
  cases i with
  | zero =>
   refine⟨fun ob hz ho=>?_,fun b' hb=>?_⟩
   ·rw [Nat.add_zero,h.1] at hz;cases hz
   ·simp at hb;subst hb
    exact⟨h.1,a,by simp,h.2.1,h.2.2.1,h.2.2.2.1⟩
  | succ i =>
   have:=FrzL.at h.2.2.2.2 i
   rw [show k+(i+1)=k+1+i by omega]
   simpa using this
theorem Frz.ofL {S S':List (Option Ob)} {z:Nat→Bool} (h:FrzL S z 0 S S'):Frz S S' z :=
 ⟨h.len,fun i ob hz ho=>(h.at i).1 ob (by rw [Nat.zero_add];exact hz) ho,fun i b hb=>by have:=(h.at i).2 b hb;rw [Nat.zero_add] at this;exact this⟩
mutual
theorem Cc.bd {X:Cx}:∀{c:C} {u:Value},Cc X c u→C.bd X.lk.length c=true
 | .any,u,h=>rfl
 | .v x,u,h=>rfl
 | .sl wd es,u,h=>rfl
 | .ms loc n,u,h=>by
  simp only [Cc] at h
  obtain⟨-,l,hl,-⟩:=h
  simp only [C.bd,decide_eq_true_eq]
  exact (List.getElem?_eq_some_iff.1 hl).1
 | .ptr loc n i off,u,h=>by
  simp only [Cc] at h
  obtain⟨-,l,hl,-⟩:=h
  simp only [C.bd,decide_eq_true_eq]
  exact (List.getElem?_eq_some_iff.1 hl).1
 | .pf cs,u,h=>rfl
 | .gv g,u,h=>rfl
 | .er n,u,h=>rfl
 | .fn f caps,u,h=>by
  simp only [Cc] at h
  obtain⟨vs,-,h1⟩:=h
  simp only [C.bd]
  exact Ccs.bd h1
theorem Ccs.bd {X:Cx}:∀{cs:List C} {us:List Value},Ccs X cs us→C.bds X.lk.length cs=true
 | [],us,h=>rfl
 | c::cs,us,h=>by
  simp only [Ccs] at h
  obtain⟨u,r,e,h1,h2⟩:=h
  simp only [C.bds,Bool.and_eq_true]
  exact⟨Cc.bd h1,Ccs.bd h2⟩
end
theorem MR {k:Nat}:∀{cs:List C},C.bds k cs=true→∀c∈cs,C.bd k c=true
 | c::cs,h,x,hx=>by
  simp only [C.bds,Bool.and_eq_true] at h
  rcases List.mem_cons.1 hx with rfl|hx
  ·exact h.1
  ·exact MR h.2 x hx
theorem StoOk.bd {H:Nat→Bool} {s:List (Option Ob)} {m:List Lo} {w:World} (hs:StoOk H s m w) {i:Nat} {ob:Ob} (h:s[i]?=some (some ob)):∀c∈ob.es.flatten,C.bd s.length c=true:=by
 have hi:=(List.getElem?_eq_some_iff.1 h).1
 obtain⟨l,hl⟩:∃l,m[i]?=some l:=⟨_,List.getElem?_eq_getElem (by rw [←hs.len];exact hi)⟩
 obtain⟨-,-,-,-,-,vs,rest,-,-,h8⟩:=hs.ok i ob l h hl
 have:=Ccs.bd h8
 rw [hs.len]
 exact MR this
theorem Sim.drop {H:Nat→Bool} {w0:World} {S0:Nat→Bool} {m0:List Lo} {nt:Cf} {s t:List (Option Ob)} {m:List Lo} {a:Act} {w:World} (h:Sim H w0 S0 m0 nt ⟨[],s++t⟩ m a w) (hk:nt.n0≤s.length) (hob:∀(i:Nat) (ob:Ob),s[i]?=some (some ob)→∀c∈ob.es.flatten,C.bd s.length c=true) :
  Sim H w0 S0 m0 nt ⟨[],s⟩ (m.take s.length) a w∧Keeps (vis H (s++t) m w) (vis H s (m.take s.length) w):=by
 have hup:∀(i:Nat) (ob:Ob),s[i]?=some (some ob)→i<s.length∧(s++t)[i]?=some (some ob):=fun i ob hi=>by
  have:=(List.getElem?_eq_some_iff.1 hi).1
  exact⟨this,by rw [List.getElem?_append_left this];exact hi⟩
 have hlm:∀(i:Nat) (l:Lo),(m.take s.length)[i]?=some l→m[i]?=some l:=fun i l hi=>by
  rw [List.getElem?_take] at hi
  split at hi
  ·exact hi
  ·cases hi
 have hsub:∀b,bZ (s++t) m b=false→bZ s (m.take s.length) b=false:=fun b hp=>by
  cases hc:bZ s (m.take s.length) b with
  | false=>rfl
  | true =>
   obtain⟨i,ob,l,h1,h2,h3⟩:=aN.1 hc
   rw [aN.2 ⟨i,ob,l,(hup i ob h1).2,hlm i l h2,h3⟩] at hp
   exact hp
 have hvis:Keeps (vis H (s++t) m w) (vis H s (m.take s.length) w):=Keeps.only fun b hp _=>by
  simp only [Bool.and_eq_true,Bool.not_eq_true'] at hp ⊢
  exact⟨⟨hp.1,hsub b hp.2⟩,trivial⟩
 have hlen:=h.sto.len
 simp only [List.length_append] at hlen
 refine⟨⟨fun i x hx=>by simp [find] at hx,h.nts,h.df,⟨by simp;omega,fun i ob l h1 h2=>?_,fun i j oi oj li lj h1 h2 h3 h4 e=>h.sto.uniq i j oi oj li lj (hup i oi h1).2 (hup j oj h2).2 (hlm i li h3) (hlm j lj h4) e,fun i ob l h1 h2=>h.sto.nh i ob l (hup i ob h1).2 (hlm i l h2),h.sto.hlt,fun b hb=>⟨(h.sto.gb b hb).1,hsub b (h.sto.gb b hb).2.1,(h.sto.gb b hb).2.2⟩,h.sto.gl⟩,h.fr,fun i ob l h1 h2=>h.own i ob l (hup i ob h1).2 (hlm i l h2),fun i l hl=>?_,h.n0⟩,hvis⟩
 ·obtain⟨a1,a2,a3,a4,a5,vs,rest,a6,a7,a8⟩:=h.sto.ok i ob l (hup i ob h1).2 (hlm i l h2)
  exact⟨a1,a2,a3,a4,a5,vs,rest,a6,a7,Ccs.takes hvis (KB (hob i ob h1)) a8⟩
 ·have hi:=(List.getElem?_eq_some_iff.1 hl).1
  rw [h.n0] at hi
  obtain⟨l',k1,k2,k3⟩:=h.up i l hl
  exact⟨l',by rw [List.getElem?_take,if_pos (by omega)];exact k1,k2,k3⟩
theorem OpTo.mono {P:Program} {o:Oper} {ρ:Operand→Value} {w:World} {Ψ Ψ':Value→World→Prop} (h:OpTo P o ρ w Ψ) (hm:∀v w',Ψ v w'→Ψ' v w'):OpTo P o ρ w Ψ':=by
 unfold OpTo at h ⊢
 revert h
 generalize (execOp ρ o).run P w=r
 intro h
 split at h
 ·exact hm _ _ h
 ·exact hm _ _ h
 all_goals first|exact h.mono fun e w' ⟨v,h1,h2⟩=>⟨v,h1,hm _ _ h2⟩|exact h
theorem OpS.frozen {P:Program} {nt:Cf} {ds:List (Option Tmp)} {o:Oper} {e:List (Nat × A)} {s:List (Option Ob)} {n wd:Nat} {ty:TypeId} {rows:List (List C)} (h:OpS P nt ds o e s (.one (.ms s.length n)) (s++[some ⟨ty,wd,rows⟩])) (hn:n=rows.length) (hsh:∀r∈rows,∀c∈r,C.shut c=true):OpS P nt ds o e s (.one (.sl wd rows)) s:=fun H w0 S0 m0 mm a w hs hk=>by
 have h1:=h H w0 S0 m0 mm a w hs hk
 split
 ·rename_i hw
  rw [if_pos hw] at h1
  refine h1.mono fun v w' ⟨mm',g1,g2,g3⟩=>?_
  have hj:(s++[some (⟨ty,wd,rows⟩:Ob)])[s.length]?=some (some ⟨ty,wd,rows⟩):=by simp
  have hf:=Frz.at hj hsh
  have e1:(s++[some (⟨ty,wd,rows⟩:Ob)]).set s.length none=s++[none]:=by simp
  rw [e1] at hf
  have hv:=hf.val (x:=.one (.ms s.length n)) (y:=.one (.sl wd rows)) g1.sto (FzC.ms (by simp) hj hn) g3
  have hs2:Sim H w0 S0 m0 nt ⟨[],s++[none]⟩ mm' a w':=⟨fun i x hx=>by simp [find] at hx,g1.nts,g1.df,hf.sto g1.sto,g1.fr,fun i ob l k1 k2=>by
   obtain⟨-,b,k3,-⟩:=hf.get i ob k1
   exact g1.own i b l k3 k2,g1.up,g1.n0⟩
  have hn0:nt.n0≤s.length:=by
   have hl:=hs.sto.len
   simp only at hl
   rw [hl,←hs.n0]
   refine Nat.le_of_not_lt fun hlt=>?_
   obtain⟨l',k1,-⟩:=hs.up mm.length (m0[mm.length]) (List.getElem?_eq_getElem hlt)
   have:=(List.getElem?_eq_some_iff.1 k1).1
   omega
  obtain⟨q1,q2⟩:=hs2.drop hn0 (fun i ob hi=>hs.sto.bd hi)
  refine⟨_,q1,⟨fun i l hl=>?_,g2.os,g2.tape,g2.output,g2.size,fun b hb hh=>?_⟩,?_⟩
  ·have hi:=(List.getElem?_eq_some_iff.1 hl).1
   have hlen:=hs.sto.len
   simp only at hlen
   obtain⟨l',k1,k2,k3⟩:=g2.up i l hl
   exact⟨l',by rw [List.getElem?_take,if_pos (by omega)];exact k1,k2,k3⟩
  ·obtain⟨k1,k2⟩:=g2.block b hb hh
   refine⟨?_,k2⟩
   cases hc:bZ s (mm'.take s.length) b with
   | false=>rfl
   | true =>
    obtain⟨i,ob,l,j1,j2,j3⟩:=aN.1 hc
    have hi:=(List.getElem?_eq_some_iff.1 j1).1
    rw [List.getElem?_take,if_pos hi] at j2
    rw [aN.2 ⟨i,ob,l,by rw [List.getElem?_append_left hi];exact j1,j2,j3⟩] at k1;cases k1
  ·exact Ca.take q2 (by rfl) hv
 ·rename_i hw
  rw [if_neg hw] at h1
  exact absurd h1.2 (by simp)
inductive FzD (S:List (Option Ob)) (z:Nat→Bool):C→C→Prop
 | same (c:C):FzD S z c c
 | nil (wd:Nat):FzD S z (.v (.slice none 0 0)) (.sl wd [])
 | ms {loc n wd:Nat} {ty:TypeId} {es es':List (List C)} (hz:z loc=true) (hS:S[loc]?=some (some ⟨ty,wd,es⟩)) (hn:n=es.length) (hl:es'.length=es.length) (hw:∀e∈es',e.length=wd) (hf:es'.flatten.length=es.flatten.length) (hsh:∀c∈es'.flatten,C.shut c=true)
   (h:∀(k:Nat) (a b:C),es.flatten[k]?=some a→es'.flatten[k]?=some b→FzD S z a b):FzD S z (.ms loc n) (.sl wd es')
 | ptr {loc wd:Nat} {ty:TypeId} {e:List C} (hz:z loc=true) (hS:S[loc]?=some (some ⟨ty,wd,[e]⟩)) (hsh:∀c∈e,C.shut c=true):FzD S z (.ptr loc 1 0 0) (.pf e)
def FzDs (S:List (Option Ob)) (z:Nat→Bool):List C→List C→Prop
 | [],[]=>True
 | c::l,d::k=>FzD S z c d∧FzDs S z l k
 | _,_=>False
theorem FzDs.same (S:List (Option Ob)) (z:Nat→Bool):∀l:List C,FzDs S z l l
 | []=>trivial
 | c::l=>⟨FzD.same c,FzDs.same S z l⟩
theorem FzDs.len {S:List (Option Ob)} {z:Nat→Bool}:∀{l k:List C},FzDs S z l k→k.length=l.length
 | [],[],_=>rfl
 | [],_::_,h=>by simp [FzDs] at h
 | _::_,[],h=>by simp [FzDs] at h
 | a::l,b::k,h=>by simp only [FzDs] at h;simp [h.2.len]
theorem FzDs.get {S:List (Option Ob)} {z:Nat→Bool}:∀{l k:List C},FzDs S z l k→∀(i:Nat) (a b:C),l[i]?=some a→k[i]?=some b→FzD S z a b
 | [],[],_,i,a,b,h1,_=>by simp at h1
 | [],_::_,h,_,_,_,_,_=>by simp [FzDs] at h
 | _::_,[],h,_,_,_,_,_=>by simp [FzDs] at h
 | c::l,d::k,h,0,a,b,h1,h2=>by simp only [FzDs] at h;simp at h1 h2;subst h1 h2;exact h.1
 | c::l,d::k,h,i+1,a,b,h1,h2=>by simp only [FzDs] at h;exact h.2.get i a b (by simpa using h1) (by simpa using h2)
theorem FzDs.app {S:List (Option Ob)} {z:Nat→Bool}:∀{l k l' k':List C},FzDs S z l k→FzDs S z l' k'→FzDs S z (l++l') (k++k')
 | [],[],_,_,_,h=>h
 | [],_::_,_,_,h,_=>by simp [FzDs] at h
 | _::_,[],_,_,h,_=>by simp [FzDs] at h
 | a::l,b::k,_,_,h,h'=>by simp only [FzDs,List.cons_append] at h ⊢;exact⟨h.1,h.2.app h'⟩
def AD (S:List (Option Ob)) (z:Nat→Bool):A→A→Prop
 | .one c,.one d=>FzD S z c d
 | .agg l,.agg k=>FzDs S z l k
 | a,b=>b=a
theorem AD.same (S:List (Option Ob)) (z:Nat→Bool):∀x:A,AD S z x x
 | .one c=>FzD.same c
 | .agg l=>FzDs.same S z l
 | .any=>rfl
 | .tup _=>rfl
def SubD (S:List (Option Ob)) (z:Nat→Bool) (e:List (Nat × A)):List (Nat × A)→Prop
 | []=>True
 | (i,x)::r=>(∃y,find e i=some y∧AD S z y x)∧SubD S z e r
theorem SubD.find {S:List (Option Ob)} {z:Nat→Bool} {e:List (Nat × A)}:∀{e':List (Nat × A)} {i:Nat} {x:A},SubD S z e e'→Go.Proofs.YtaeioidifpebdaaGreatDoor.find e' i=some x→∃y,Go.Proofs.YtaeioidifpebdaaGreatDoor.find e i=some y∧AD S z y x
 | [],i,x,_,h=>by simp [Go.Proofs.YtaeioidifpebdaaGreatDoor.find] at h
 | (j,y)::r,i,x,hs,h=>by
  simp only [SubD] at hs
  simp only [Go.Proofs.YtaeioidifpebdaaGreatDoor.find] at h
  split at h
  ·rename_i e;subst e;cases h;exact hs.1
  ·exact hs.2.find h
theorem Ccs.of {X:Cx}:∀{cs:List C} {us:List Value},us.length=cs.length→(∀(i:Nat) (c:C) (u:Value),cs[i]?=some c→us[i]?=some u→Cc X c u)→Ccs X cs us
 | [],[],_,_=>by simp only [Ccs]
 | [],_::_,h,_=>by simp at h
 | _::_,[],h,_=>by simp at h
 | c::cs,u::us,h,g=>by
  simp only [Ccs]
  exact⟨u,us,rfl,g 0 c u rfl rfl,Ccs.of (by simpa using h) fun i c u h1 h2=>g (i+1) c u (by simpa using h1) (by simpa using h2)⟩
structure FrzD (S S':List (Option Ob)) (z:Nat→Bool):Prop where
 len:S'.length=S.length
 get:∀i b,S'[i]?=some (some b)→z i=false∧S[i]?=some (some b)
section
variable {H:Nat→Bool} {S S':List (Option Ob)} {z:Nat→Bool} {m:List Lo} {w:World}
theorem FrzD.keeps (hf:FrzD S S' z):Keeps (vis H S m w) (vis H S' m w):=Keeps.only fun b hb _=>by
 simp only [Bool.and_eq_true,Bool.not_eq_true'] at hb ⊢
 refine⟨⟨hb.1,?_⟩,trivial⟩
 cases hc:bZ S' m b with
 | false=>rfl
 | true =>
  obtain⟨i,ob,l,h1,h2,rfl⟩:=aN.1 hc
  obtain⟨-,h3⟩:=hf.get i ob h1
  rw [aN.2 ⟨i,ob,l,h3,h2,rfl⟩] at hb;cases hb.2
theorem FrzD.cell (hf:FrzD S S' z) (hs:StoOk H S m w) {c c':C} (h:FzD S z c c'):∀{u:Value},Cc ⟨vis H S m w,m⟩ c u→Cc ⟨vis H S' m w,m⟩ c' u:=by
 induction h with
 | same c=>intro u hc;exact Cc.keep (X:=⟨vis H S m w,m⟩) (X':=⟨vis H S' m w,m⟩) hf.keeps (Up.refl _) hc
 | nil wd =>
  intro u hc
  simp only [Cc] at hc ⊢
  exact⟨by simp,.inl ⟨trivial,.inl hc.1⟩⟩
 | @ms loc n wd ty es es' hz hS hn hl hw hfl hsh h ih =>
  intro u hc
  simp only [Cc] at hc
  obtain⟨-,l,hl1,-,he⟩:=hc
  have hob:=hs.ok loc _ l hS hl1
  have he:=he (hn.trans hob.n.symm)
  obtain⟨a1,a2,a3,a4,a5,vs,rest,a6,a7,a8⟩:=hob
  have hH:=hs.nh loc _ l hS hl1
  have hid:bZ S' m l.b=false:=by
   cases hc:bZ S' m l.b with
   | false=>rfl
   | true =>
    obtain⟨j,oj,lj,h1,h2,h3⟩:=aN.1 hc
    obtain⟨hzj,h4⟩:=hf.get j oj h1
    obtain rfl:=hs.uniq j loc oj _ lj l h4 hS h2 hl1 h3
    rw [hz] at hzj;cases hzj
  have hcells:CellsAt (vis H S' m w) l.b 0 vs:=CellsAt.of fun j v hj=>by
   unfold vis
   rw [eX,if_pos (by simp [hH,hid]),cG a6]
   simp only [Nat.zero_add,List.getElem?_toArray]
   rw [List.getElem?_append_left (List.getElem?_eq_some_iff.1 hj).1];exact hj
  have h7:Ccs ⟨vis H S' m w,m⟩ es'.flatten vs:=Ccs.of (by rw [hfl];exact a8.len) fun i c u h1 h2=>by
   have hi:i<es.flatten.length:=by have:=(List.getElem?_eq_some_iff.1 h1).1;omega
   obtain⟨u',h3,h4⟩:=a8.at (List.getElem?_eq_getElem hi)
   obtain rfl:u'=u:=by rw [h3] at h2;exact Option.some.inj h2
   exact ih i _ c (List.getElem?_eq_getElem hi) h1 h4
  have h8:Ccs ⟨vis H S' m w,[]⟩ es'.flatten vs:=h7.shut (Keeps.refl _) hsh
  simp only [Cc]
  refine⟨hw,.inr ⟨l.b,0,l.cap,?_,by rw [hl];exact a4,a5,Crow.of (X:=⟨vis H S' m w,[]⟩) hw hcells h8⟩⟩
  rw [he,hn,hl]
 | @ptr loc wd ty e hz hS hsh =>
  intro u hc
  simp only [Cc] at hc
  obtain⟨-,l,hl1,-,he⟩:=hc
  have hob:=hs.ok loc _ l hS hl1
  have he:=he (by rw [hob.n];rfl)
  obtain⟨a1,a2,a3,a4,a5,vs,rest,a6,a7,a8⟩:=hob
  have hH:=hs.nh loc _ l hS hl1
  have hid:bZ S' m l.b=false:=by
   cases hc:bZ S' m l.b with
   | false=>rfl
   | true =>
    obtain⟨j,oj,lj,h1,h2,h3⟩:=aN.1 hc
    obtain⟨hzj,h4⟩:=hf.get j oj h1
    obtain rfl:=hs.uniq j loc oj _ lj l h4 hS h2 hl1 h3
    rw [hz] at hzj;cases hzj
  have hcells:CellsAt (vis H S' m w) l.b 0 vs:=CellsAt.of fun j v hj=>by
   unfold vis
   rw [eX,if_pos (by simp [hH,hid]),cG a6]
   simp only [Nat.zero_add,List.getElem?_toArray]
   rw [List.getElem?_append_left (List.getElem?_eq_some_iff.1 hj).1];exact hj
  have h8:Ccs ⟨vis H S' m w,[]⟩ e vs:=by
   have e1:([e]:List (List C)).flatten=e:=by simp
   rw [e1] at a8
   exact a8.shut hf.keeps hsh
  simp only [Cc]
  exact⟨l.b,0,vs,by rw [he];simp,hcells,h8⟩
theorem FrzD.cells (hf:FrzD S S' z) (hs:StoOk H S m w):∀{c c':List C} {u:List Value},FzDs S z c c'→Ccs ⟨vis H S m w,m⟩ c u→Ccs ⟨vis H S' m w,m⟩ c' u
 | [],[],u,_,hc=>by simpa only [Ccs] using hc
 | [],_::_,u,h,_=>by simp [FzDs] at h
 | _::_,[],u,h,_=>by simp [FzDs] at h
 | c::l,d::k,us,h,hc=>by
  simp only [FzDs] at h
  simp only [Ccs] at hc ⊢
  obtain⟨u,r,e,h1,h2⟩:=hc
  exact⟨u,r,e,hf.cell hs h.1 h1,hf.cells hs h.2 h2⟩
theorem FrzD.val (hf:FrzD S S' z) (hs:StoOk H S m w) {x y:A} {u:Value} (h:AD S z x y) (hc:Ca ⟨vis H S m w,m⟩ x u):Ca ⟨vis H S' m w,m⟩ y u:=by
 unfold AD at h
 split at h
 ·simp only [Ca] at hc ⊢;exact hf.cell hs h hc
 ·simp only [Ca] at hc ⊢
  obtain⟨us,e,hc⟩:=hc
  exact⟨us,e,hf.cells hs h hc⟩
 ·subst h
  exact Ca.keep (X:=⟨vis H S m w,m⟩) (X':=⟨vis H S' m w,m⟩) hf.keeps (Up.refl _) hc
theorem FrzD.sto (hf:FrzD S S' z) (hs:StoOk H S m w):StoOk H S' m w:=by
 refine⟨by rw [hf.len];exact hs.len,fun i ob l h1 h2=>?_,fun i j oi oj li lj h1 h2 h3 h4 hb=>?_,fun i ob l h1 h2=>?_,hs.hlt,fun b hb=>?_,hs.gl⟩
 ·obtain⟨hz,h3⟩:=hf.get i ob h1
  obtain⟨a1,a2,a3,a4,a5,vs,rest,a6,a7,a8⟩:=hs.ok i ob l h3 h2
  exact⟨a1,a2,a3,a4,a5,vs,rest,a6,a7,Ccs.keep (X:=⟨vis H S m w,m⟩) (X':=⟨vis H S' m w,m⟩) hf.keeps (Up.refl _) a8⟩
 ·exact hs.uniq i j oi oj li lj (hf.get i oi h1).2 (hf.get j oj h2).2 h3 h4 hb
 ·exact hs.nh i ob l (hf.get i ob h1).2 h2
 ·obtain⟨g1,g2,g3⟩:=hs.gb b hb
  refine⟨g1,?_,g3⟩
  cases hc:bZ S' m b with
  | false=>rfl
  | true =>
   obtain⟨i,ob,l,h1,h2,rfl⟩:=aN.1 hc
   rw [aN.2 ⟨i,ob,l,(hf.get i ob h1).2,h2,rfl⟩] at g2;cases g2
end
theorem FrzD.all (S:List (Option Ob)):FrzD S (S.map fun _=>none) (fun _=>true) :=
 ⟨by simp,fun i b h=>by simp at h⟩
theorem Fn.frozen {P:Program} {f:FuncId} {xs:List A} {R:A→List (Option Ob)→Prop} {r0:A} (hsh:r0.shut=true) (h:Fn P f xs [] R) (hr:∀r s,R r s→AD s (fun _=>true) r r0):Pure P f xs r0:=fun H m w vs hs hc=>by
 refine (h H m w vs hs hc).mono fun e w' ⟨v,m',r,s',he,hR,hso,hca,hfr,hup,hnew⟩=>?_
 have hf:=FrzD.all s'
 have h1:=hf.val hso (hr r s' hR) hca
 have h2:=Ca.keep (X:=⟨vis H (s'.map fun _=>none) m' w',[]⟩) (X':=⟨vis H [] [] w',[]⟩) (mA _ _ _ _) (Up.refl _) (Ca.shut hsh h1)
 refine⟨v,[],r0,[],he,⟨rfl,rfl⟩,⟨rfl,by simp,by simp,by simp,hso.hlt,fun b hb=>⟨(hso.gb b hb).1,rfl,(hso.gb b hb).2.2⟩,hso.gl⟩,h2,hfr,?_,by simp⟩
 have:=hs.len
 have h0:m=[]:=List.eq_nil_of_length_eq_zero this.symm
 rw [h0]
 exact Up.refl _
end Go.Proofs.YtaeioidifpebdaaGreatDoor
end
