/-
 Laid together: Wd18, We18, Wf18, Wg18, Wh18, Wi18, Wj18.
-/
import Derived.Test.YtaeioidifpebdaaGreatDoorG6
section
namespace Go.Proofs.YtaeioidifpebdaaGreatDoor
open Go Go.RowKit Go.Lib
set_option linter.unusedSimpArgs false
set_option linter.unusedVariables false
set_option maxHeartbeats 4000000
set_option maxRecDepth 100000
structure HE (n:Nat) (ev:Ev):Prop where
 e:∀d,Gd n d→Pure Tryz.prog 57 [.agg d.cc] (rsA (ev.e d))
 b:∀l,Gds n l→Pure Tryz.prog 106 [.one (.sl 6 (l.map D.cc))] (rsA (ev.b l))
 q:∀d k,Gd n d→1≤k→k+d.msr≤2000000000→Pure Tryz.prog 108 [.agg d.cc,.one (.v (.int .i64 (k:Nat)))] (rsA (ev.q d k))
 e2:∀d,(ev.e d).2≤2
 b2:∀l,(ev.b l).2≤2
 q2:∀d k,(ev.q d k).2≤2
 big:n≤100000000
theorem nV {l:List Nat} {k:Nat} (h:∀x∈l,x≤k):iX l≤k:=by
 unfold iX
 suffices ∀a,a≤k→l.foldl max a≤k from this 0 (Nat.zero_le _)
 induction l with
 | nil=>exact fun a h=>h
 | cons x l ih=>exact fun a ha=>ih (fun y hy=>h y (by simp [hy])) _ (Nat.max_le.2 ⟨ha,h x (by simp)⟩)
theorem hG {α β:Type} (f:α→β) {l:List α} {i:Nat} (h:i<l.length):(l.take (i+1)).map f=(l.take i).map f++[f l[i]]:=by
 rw [List.take_succ_eq_append_getElem h,List.map_append];rfl
theorem rQ (l:List K):∀e∈l.map K.cc,∀c∈e,C.shut c=true:=fun e he c hc=>by
 obtain⟨s,_,rfl⟩:=List.mem_map.1 he
 exact s.cc_shut c hc
theorem EO (l:List D):∀e∈l.map D.cc,∀c∈e,C.shut c=true:=fun e he c hc=>by
 obtain⟨s,_,rfl⟩:=List.mem_map.1 he
 exact s.cc_shut c hc
theorem eN {ev:Ev} {n:Nat} (h:HE n ev) (l:List D):(aZ ev.e l).2≤2:=nV fun x hx=>by
 obtain⟨d,_,rfl⟩:=List.mem_map.1 hx
 exact h.e2 d
def rlA (r:List K × Nat):A:=.tup [.one (.sl 11 (r.1.map K.cc)),.one (.er r.2)]
def XP (E:D→Rs) (l:List D) (n:Nat) (st:St):Prop:=∃(i:Nat) (S:List (Option Ob)) (cO:C),n=l.length-i∧i≤l.length∧At 31 11 S cO (((l.take i).map fun d=>(E d).1).map K.cc) ∧
 st=⟨[(12,.one (.v (.int .i64 i))),(11,.one (.v (.int .i64 l.length))),(10,.one (.sl 6 (l.map D.cc))),(4,.one cO),(5,.one (.er (iX ((l.take i).map fun d=>(E d).2))))],S⟩
theorem jU {n:Nat} {ev:Ev} (hE:HE n ev) (l:List D) (hl:Gds n l):Pure Tryz.prog 90 [.one (.sl 6 (l.map D.cc))] (rlA (aZ ev.e l)):=by
 have hlen:=hl.len
 have hbig:=hE.big
 have hml:(l.map D.cc).length=l.length:=List.length_map ..
 refine fi Tryz.func90 Tryz.ntmps90 Tryz.results90 ?_
 repeat (first|(apply fw;focus ((with_reducible constructor)<;>constructor))|((first|with_reducible refine ga _ rfl fun Y y=>?_|apply ri);simp only [zb,seval,w90,hml];refine fz y ?_;clear y Y))
 refine WpA.loop (XP ev.e l) l.length (st0:=⟨[(12,.one (.v (.int .i64 (0:Nat)))),(11,.one (.v (.int .i64 l.length))),(10,.one (.sl 6 (l.map D.cc))),(4,.one (.v (.slice none 0 0))),(5,.one (.er 0))],[]⟩) (Le.sub (by simp [Sub,find])) ⟨0,[],_,rfl,Nat.zero_le _,At.nil _ _ _,rfl⟩ ?_
 intro n' st hI
 obtain⟨i,S,cO,rfl,hi,hA,rfl⟩:=hI
 have hw2:IntKind.i64.wrap ((i:Int)+1)=((i+1:Nat):Int):=by rw [dA (by omega) (by omega)];omega
 by_cases hlt:i<l.length
 ·have hd1:decide ((i:Int)<(l.length:Int))=true:=by simp;omega
  have hget:=vF hlt
  have hc:=hE.e l[i] (hl.mem (List.getElem_mem hlt))
  have hb:=aD (iX ((l.take i).map fun d=>(ev.e d).2)) (ev.e l[i]).2 (nV fun x hx=>by
   obtain⟨d,_,rfl⟩:=List.mem_map.1 hx
   exact hE.e2 d) (hE.e2 _)
  simp only [rsA] at hc
  have hal:=hA.len
  repeat (first|(apply fw;focus ((with_reducible constructor)<;>constructor))|((first|with_reducible refine ga _ rfl fun Y y=>?_|(refine ca ?_;apply Exists.intro;constructor;assumption;intro Y y)|apply ri);simp only [zb,seval,w90,hd1,hget,kcc,aK];refine fz y ?_;clear y Y))
  refine WpA.region ?_
  (try simp only [St.put]);(refine WpL.op rfl (aB (P:=Tryz.prog) rfl) (aH (by simp only [zb,seval,w90,kcc,aK];rfl) (by first|(simp;done)|omega|(simp;omega))) ?_);simp only [St.put];(refine WpL.op rfl (aB (P:=Tryz.prog) rfl) (aH (by simp only [zb,seval,w90,kcc,aK];rfl) (by first|(simp;done)|omega|(simp;omega))) ?_);simp only [St.put];(refine WpL.op rfl (aB (P:=Tryz.prog) rfl) (aH (by simp only [zb,seval,w90,kcc,aK];rfl) (by first|(simp;done)|omega|(simp;omega))) ?_);simp only [St.put]
  obtain⟨S8,j,hA8,hj8,hl8,hfr8,hpl8,hop8⟩:=fK (P:=Tryz.prog) (T:=29) (by_:=176) bM bO bP (by omega) (S:=S++[some ⟨28,6,[l[i].cc]⟩,some ⟨31,11,[(ev.e l[i]).1.cc]⟩,some ⟨31,11,[(ev.e l[i]).1.cc]⟩]) (hA.app _) (q:=S.length+2) (new:=[(ev.e l[i]).1.cc]) (rP _ _ _ _ _) (by simp) (fun n e=>by have:=hA.lt e;omega) (by simp;omega) (by simp;omega)
  simp only [List.length_cons,List.length_nil,Nat.zero_add] at hop8 hA8
  refine WpL.aop rfl (hop8 _ _ _ rfl rfl) ?_
  simp only [St.put]
  have hs:max (iX ((l.take i).map fun d=>(ev.e d).2)) (ev.e l[i]).2=iX ((l.take (i+1)).map fun d=>(ev.e d).2):=by rw [hG _ hlt,mY]
  (refine WpL.go _ rfl fun Y y=>?_);repeat (first|(apply fw;focus ((with_reducible constructor)<;>constructor))|((first|with_reducible refine ga _ rfl fun Y y=>?_|apply ri);simp only [zb,seval,w90,hw2,hs];refine fz y ?_;clear y Y))
  refine⟨l.length-(i+1),_,by omega,Le.sub (by simp [Sub,find]),i+1,S8,.ms j ((((l.take i).map fun d=>(ev.e d).1).map K.cc).length+1),rfl,hlt,?_,rfl⟩
  rw [hG _ hlt,List.map_append];exact hA8
 ·have hd0:decide ((i:Int)<(l.length:Int))=false:=by simp;omega
  have hii:i=l.length:=by omega
  subst hii
  rw [List.take_length] at hA ⊢
  repeat (first|(apply fw;focus ((with_reducible constructor)<;>constructor))|((first|with_reducible refine ga _ rfl fun Y y=>?_|apply ri);simp only [zb,seval,w90,hd0];refine fz y ?_;clear y Y))
  repeat (first|(apply fw;focus ((with_reducible constructor)<;>constructor))|((first|with_reducible refine ga _ rfl fun Y y=>?_|apply ri);simp only [zb,seval,w90,hd0];refine fz y ?_;clear y Y))
  obtain⟨p1,c1,v1,w1,x1,-⟩:=hA.see (rQ _)
  refine yl (by simp only [zb,seval,w90,v1];rfl) (by simp only [zv,v1];rfl) (ALe.tup (ALes.cons x1 (ALes.refl _))) rfl (by simp [w1])
theorem RS (l:List ByteArray) (s:ByteArray):decide (0≤idx l s)=true↔s∈l:=by
 rw [decide_eq_true_iff]
 unfold idx
 cases h:IJ l s with
 | none =>
  unfold IJ at h
  rw [List.findIdx?_eq_none_iff] at h
  simp only [Int.reduceNeg,Int.reduceLE,false_iff]
  intro hs
  have:=h s hs
  rw [aY rfl] at this;cases this
 | some k =>
  unfold IJ at h
  obtain⟨hk,h1,-⟩:=List.findIdx?_eq_some_iff_getElem.1 h
  simp only [Int.natCast_nonneg,true_iff]
  rw [yE.1 h1];exact List.getElem_mem hk
theorem TT {l:List ByteArray} (h:l.Nodup):unl l=0:=by unfold unl;rw [if_pos];exact @decide_eq_true _ (Classical.propDecidable _) h
theorem TU {l:List ByteArray} (h:¬l.Nodup):unl l=2:=by unfold unl;rw [if_neg];exact fun e=>h (@of_decide_eq_true _ (Classical.propDecidable _) e)
theorem kW (l:List ByteArray):unl l≤2:=by unfold unl;split<;>simp
def YH (l:List ByteArray) (n:Nat) (st:St):Prop:=∃i:Nat,n=l.length-i∧i≤l.length∧(l.take i).Nodup ∧
 st=⟨[(7,.one (.v (.int .i64 i))),(6,.one (.v (.int .i64 l.length))),(5,.one (.sl 1 (dQ l))),(0,.one (.sl 1 (dQ l)))],[]⟩
theorem jV (l:List ByteArray) (hlen:l.length≤1000000000):Pure Tryz.prog 120 [.one (.sl 1 (dQ l))] (.one (.er (unl l))):=by
 have hl:=dR l
 have hw:Pure Tryz.prog 84 [.one (.v (.string ⟨#[118,97,114,105,97,98,108,101,115]⟩)),.one (.gv 1)] (.one (.er 2)):=dD _ 1
 refine fi Tryz.func120 Tryz.ntmps120 Tryz.results120 ?_
 repeat (first|(apply fw;focus ((with_reducible constructor)<;>constructor))|((first|with_reducible refine ga _ rfl fun Y y=>?_|apply ri);simp only [zb,seval,KD,hl];refine fz y ?_;clear y Y))
 refine WpA.loop (YH l) l.length (st0:=⟨[(7,.one (.v (.int .i64 (0:Nat)))),(6,.one (.v (.int .i64 l.length))),(5,.one (.sl 1 (dQ l))),(0,.one (.sl 1 (dQ l)))],[]⟩) (Le.sub (by simp [Sub,find])) ⟨0,rfl,Nat.zero_le _,by simp,rfl⟩ ?_
 intro n' st hI
 obtain⟨i,rfl,hi,hb,rfl⟩:=hI
 have hw2:IntKind.i64.wrap ((i:Int)+1)=((i+1:Nat):Int):=by rw [dA (by omega) (by omega)];omega
 by_cases hlt:i<l.length
 ·have hd1:decide ((i:Int)<(l.length:Int))=true:=by simp;omega
  have hget:=oP hlt
  have htk:List.take i (dQ l)=dQ (l.take i):=by simp [dQ]
  have hcn:=BW (l.take i) l[i] (by simp;omega)
  by_cases he:l[i]∈l.take i
  ·rw [(RS _ _).2 he] at hcn
   rw [TU (l:=l) fun hn=>by
    have:=hn.sublist (List.take_sublist (i+1) l)
    rw [List.take_succ_eq_append_getElem hlt,List.nodup_append] at this
    exact this.2.2 _ he _ (by simp) rfl]
   repeat (first|(apply fw;focus ((with_reducible constructor)<;>constructor))|((first|with_reducible refine ga _ rfl fun Y y=>?_|(refine ca ?_;apply Exists.intro;constructor;assumption;intro Y y)|apply ri);simp only [zb,seval,KD,hd1,hget,Int.toNat_natCast,Int.toNat_zero,List.drop_zero,htk,hl];refine fz y ?_;clear y Y))
   refine ye (by simp only [zb,seval,KD];rfl) (by simp only [zv];rfl) ?_
   rfl
  ·have hd:decide (0≤idx (l.take i) l[i])=false:=by
    cases hc:decide (0≤idx (l.take i) l[i]) with
    | false=>rfl
    | true=>exact absurd ((RS _ _).1 hc) he
   rw [hd] at hcn
   repeat (first|(apply fw;focus ((with_reducible constructor)<;>constructor))|((first|with_reducible refine ga _ rfl fun Y y=>?_|(refine ca ?_;apply Exists.intro;constructor;assumption;intro Y y)|apply ri);simp only [zb,seval,KD,hd1,hget,Int.toNat_natCast,Int.toNat_zero,List.drop_zero,htk,hl,hw2];refine fz y ?_;clear y Y))
   refine⟨l.length-(i+1),_,by omega,Le.sub (by simp [Sub,find]),i+1,rfl,hlt,?_,rfl⟩
   rw [List.take_succ_eq_append_getElem hlt,List.nodup_append]
   exact⟨hb,by simp,fun a ha b hb' e=>by simp at hb';subst hb';subst e;exact he ha⟩
 ·have hd0:decide ((i:Int)<(l.length:Int))=false:=by simp;omega
  have hii:i=l.length:=by omega
  subst hii
  rw [List.take_length] at hb
  rw [TT hb]
  repeat (first|(apply fw;focus ((with_reducible constructor)<;>constructor))|((first|with_reducible refine ga _ rfl fun Y y=>?_|apply ri);simp only [zb,seval,KD,hd0];refine fz y ?_;clear y Y))
  repeat (first|(apply fw;focus ((with_reducible constructor)<;>constructor))|((first|with_reducible refine ga _ rfl fun Y y=>?_|apply ri);simp only [zb,seval,KD,hd0];refine fz y ?_;clear y Y))
  refine ye (by simp only [zb,seval,KD];rfl) (by simp only [zv];rfl) ?_
  rfl
theorem VZ (l:List ByteArray) (S:List (Option Ob)) (hlen:l.length≤1000000000000):Fn Tryz.prog 98 [.one (.sl 1 (dQ l))] S (fun r S'=>∃c,r=.one c∧Au 9 1 S' c (dQ l)∧S.length≤S'.length∧∀(j:Nat) (o:Option Ob),S[j]?=some o→S'[j]?=some o):=by
 have hl:=dR l
 refine Fn.introT Tryz.func98 rfl Tryz.ntmps98 Tryz.results98 (by simp only [List.length_cons,List.length_nil];decide) ?_
 repeat (first|(apply fw;focus ((with_reducible constructor)<;>constructor))|((first|with_reducible refine ga _ rfl fun Y y=>?_|apply ri);simp only [zb,seval,w98];refine fz y ?_;clear y Y))
 refine WpL.nilSl rfl rfl Tryz.underlying22 fun b hb=>?_
 cases b with
 | true =>
  have:dQ l=[]:=by
   cases h:dQ l with
   | nil=>rfl
   | cons a r=>have:=hb (by simp [h]);cases this
  (refine WpL.go _ rfl fun Y y=>?_);repeat (first|(apply fw;focus ((with_reducible constructor)<;>constructor))|((first|with_reducible refine ga _ rfl fun Y y=>?_|apply ri);simp only [zb,seval,w98];refine fz y ?_;clear y Y))
  refine⟨.inl rfl,_,_,_,_,(by simp only [zb,seval];rfl),trivial,Le.refl _ _,_,rfl,.inl ⟨this,rfl⟩,Nat.le_refl _,fun _ _ h=>h⟩
 | false =>
  (refine WpL.go _ rfl fun Y y=>?_);repeat (first|(apply fw;focus ((with_reducible constructor)<;>constructor))|((first|with_reducible refine ga _ rfl fun Y y=>?_|apply ri);simp only [zb,seval,w98,hl,aK];refine fz y ?_;clear y Y))
  refine⟨.inl rfl,_,_,_,_,(by simp only [zb,seval];rfl),trivial,Le.refl _ _,.ms S.length l.length,?_,?_,?_,?_⟩
  ·simp [qS,hl]
  ·exact .inr ⟨S.length,by rw [hl],by simp⟩
  ·simp
  ·exact fun j o h=>dB h
theorem OQ {d:D} (h:d.k≠7):items d=[]∧qV d=d:=by
 obtain⟨k,c,neg,mag,t,l⟩:=d
 have h:k≠7:=h
 exact⟨by simp [items,h],by simp [qV,h]⟩
theorem AM {d:D} (h:d.k=7) (hl:d.l=[d.fst,d.snd]):items d=d.fst::items d.snd∧qV d=qV d.snd:=by
 obtain⟨k,c,neg,mag,t,l⟩:=d
 have h:k=7:=h
 subst h
 generalize hf:(D.mk 7 c neg mag t l).fst=a at hl
 generalize hg:(D.mk 7 c neg mag t l).snd=b at hl
 have hl:l=[a,b]:=hl
 subst hl
 exact⟨by rw [←hf,←hg];simp [items,mS,D.fst,D.snd,D.l],by rw [←hg];simp [qV,RA,D.snd,D.l]⟩
def fmA (r:List ByteArray × ByteArray × Nat):A:=.tup [.one (.sl 1 (dQ r.1)),.one (.v (.string r.2.1)),.one (.er r.2.2)]
noncomputable def iY (l:List D):List ByteArray:=l.map fun x=>(bR x).1
noncomputable def AO (l:List D):Nat:=iX (l.map fun x=>(bR x).2)
theorem vP (l:List D):AO l≤2:=nV fun x hx=>by
 obtain⟨d,_,rfl⟩:=List.mem_map.1 hx
 exact eU d
theorem pB (a:List ByteArray) (s:ByteArray):dQ (a++[s])=dQ a++[[.v (.string s)]]:=by simp [dQ]
theorem KS (a:List D) (d:D):iY (a++[d])=iY a++[(bR d).1]:=by simp [iY]
theorem RT (a:List D) (d:D):max (AO a) (bR d).2=AO (a++[d]):=by unfold AO;rw [List.map_append,List.map_cons,List.map_nil,mY]
def FmI (n0:Nat) (d:D) (n:Nat) (st:St):Prop:=∃(x:D) (pre:List D) (S:List (Option Ob)) (cP:C),n=x.msr∧Gd n0 x∧items d=pre++items x∧qV d=qV x∧pre.length+x.msr≤n0∧S[0]?=some (some ⟨28,6,[x.cc]⟩)∧At 9 1 S cP (dQ (iY pre)) ∧
 st=⟨[(1,.one (.ptr 0 1 0 0)),(2,.one cP),(3,.one (.v (.string ⟨#[]⟩))),(4,.one (.er (AO pre)))],S⟩
theorem EP {n:Nat} (d:D) (hd:Gd n d) (hn:n≤1000000000):Pure Tryz.prog 105 [.agg d.cc] (fmA (fC d)):=by
 have hvn:∀l,(iY l).length=l.length:=fun l=>by simp [iY]
 refine fi Tryz.func105 Tryz.ntmps105 Tryz.results105 ?_
 repeat (first|(apply fw;focus ((with_reducible constructor)<;>constructor))|((first|with_reducible refine ga _ rfl fun Y y=>?_|apply ri);simp only [zb,seval,pS,kcc];refine fz y ?_;clear y Y))
 refine WpA.loop (FmI n d) d.msr (st0:=⟨[(1,.one (.ptr 0 1 0 0)),(2,.one (.v (.slice none 0 0))),(3,.one (.v (.string ⟨#[]⟩))),(4,.one (.er 0))],[some ⟨28,6,[d.cc]⟩]⟩) (Le.sub (by simp [Sub,find])) ⟨d,[],_,_,rfl,hd,rfl,rfl,by have:=hd.2.2;simp;omega,rfl,At.nil _ _ _,rfl⟩ ?_
 intro n' st hI
 obtain⟨x,pre,S,cP,rfl,hx,hit,hen,hpl,h0,hA,rfl⟩:=hI
 have h0':=h0
 rw [D.cc_eq] at h0'
 have hlt0:=(List.getElem?_eq_some_iff.1 h0).1
 by_cases hk:x.k=7
 ·have h7:(x.k == 7)=true:=by simp [hk]
  obtain⟨hl,hf,hs,hm⟩:=hx.pair hk
  obtain⟨hi1,hi2⟩:=AM hk hl
  have hv:=kJ x.fst
  have hb:=aD (AO pre) (bR x.fst).2 (vP _) (eU _)
  rw [hl] at h0'
  repeat (first|(apply fw;focus ((with_reducible constructor)<;>constructor))|((first|with_reducible refine ga _ rfl fun Y y=>?_|(refine ca ?_;apply Exists.intro;constructor;assumption;intro Y y)|apply ri);simp only [zb,seval,pS,h0',h7,List.map_cons,List.map_nil,kcc,RT];refine fz y ?_;clear y Y))
  refine WpA.region ?_
  (try simp only [St.put]);(refine WpL.op rfl (aB (P:=Tryz.prog) rfl) (aH (by simp only [zb,seval,pS];rfl) (by first|(simp;done)|omega|(simp;omega))) ?_);simp only [St.put];(refine WpL.op rfl (aB (P:=Tryz.prog) rfl) (aH (by simp only [zb,seval,pS];rfl) (by first|(simp;done)|omega|(simp;omega))) ?_);simp only [St.put];(refine WpL.op rfl (aB (P:=Tryz.prog) rfl) (aH (by simp only [zb,seval,pS];rfl) (by first|(simp;done)|omega|(simp;omega))) ?_);simp only [St.put]
  obtain⟨S8,j,hA8,hj8,hl8,hfr8,hpl8,hop8⟩:=fK (P:=Tryz.prog) (T:=22) (by_:=16) dH dJ dK (by omega) (S:=S++[some ⟨9,1,[[.v (.string (bR x.fst).1)]]⟩]) (hA.app _) (q:=S.length) (new:=[[.v (.string (bR x.fst).1)]]) (nF _ _ _) (by simp) (fun n e=>by have:=hA.lt e;omega) (by rw [dR,hvn];simp;omega) (by rw [dR,hvn];simp;omega)
  simp only [List.length_cons,List.length_nil,Nat.zero_add] at hop8 hA8
  rw [←pB,←KS] at hA8
  have h08:=hfr8 0 _ (dB h0') (hA.apart h0' (by show (28:Nat)≠_;decide))
  refine WpL.aop rfl (hop8 _ _ _ rfl rfl) ?_
  simp only [St.put]
  (refine WpL.go _ rfl fun Y y=>?_);repeat (first|(apply fw;focus ((with_reducible constructor)<;>constructor))|((first|with_reducible refine ga _ rfl fun Y y=>?_|apply ri);simp only [zb,seval,pS,h08,kcc];refine fz y ?_;clear y Y))
  refine⟨x.snd.msr,_,by omega,Le.sub (by simp [Sub,find]),x.snd,pre++[x.fst],S8.set 0 (some ⟨28,6,[x.snd.cc]⟩),.ms j ((dQ (iY pre)).length+1),rfl,hs,by rw [hit,hi1];simp,by rw [hen,hi2],by simp;omega,List.getElem?_set_self (by simp at hl8;omega),hA8.stay fun k hk _=>?_,rfl⟩
  rw [List.getElem?_set_ne (fun e=>by subst e;rw [h08] at hk;cases hk)]
  exact hk
 ·have h7:(x.k == 7)=false:=by simp [hk]
  obtain⟨hi1,hi2⟩:=OQ hk
  rw [hi1,List.append_nil] at hit
  rw [hi2] at hen
  have hfm:fC d=if x.k=0 then (iY pre,e0,max (AO pre) (unl (iY pre))) else (iY pre,(bR x).1,max (max (AO pre) (bR x).2) (unl (iY pre++[(bR x).1]))):=by
   unfold fC;rw [hit,hen];rfl
  repeat (first|(apply fw;focus ((with_reducible constructor)<;>constructor)))
  ((with_reducible refine ga _ rfl fun Y y=>?_);simp only [zb,seval,pS,h0',h7,kcc];(refine RunTo.fn y (by first|(simp;done)|omega|(simp;omega)) ?_);clear y Y);repeat (first|(apply fw;focus ((with_reducible constructor)<;>constructor)))
  refine WpA.frzAt 2 hA.au (mH _) rfl fun S9 hl9 ho9=>?_
  have h09:=ho9 0 _ h0' (hA.apart h0' (by show (28:Nat)≠_;decide))
  repeat (first|(apply fw;focus ((with_reducible constructor)<;>constructor))|((first|with_reducible refine ga _ rfl fun Y y=>?_|apply ri);simp only [zb,seval,pS];refine fz y ?_;clear y Y))
  refine WpL.handAll rfl (aB (P:=Tryz.prog) rfl) rfl rfl (by kernel_rfl) (ALes.refl _) (VZ (iY pre) S9 (by rw [hvn];omega)) ?_
  rintro _ S10 ⟨cU,rfl,hU,hl10,ho10⟩
  have h10:=ho10 0 _ h09
  by_cases h00:x.k=0
  ·have hz:(x.k != 0)=false:=by simp [h00]
   have hun:=jV (iY pre) (by rw [hvn];omega)
   have hb:=aD (AO pre) (unl (iY pre)) (vP _) (kW _)
   rw [hfm,if_pos h00]
   (refine WpL.go _ rfl fun Y y=>?_);repeat (first|(apply fw;focus ((with_reducible constructor)<;>constructor))|((first|with_reducible refine ga _ rfl fun Y y=>?_|apply ri);simp only [zb,seval,pS,h10,hz,kcc];refine fz y ?_;clear y Y))
   refine WpL.frzAt 53 hU (mH _) rfl fun S11 _ _=>?_
   repeat (first|(apply fw;focus ((with_reducible constructor)<;>constructor))|((first|with_reducible refine ga _ rfl fun Y y=>?_|(refine ca ?_;apply Exists.intro;constructor;assumption;intro Y y)|apply ri);simp only [zb,seval,pS];refine fz y ?_;clear y Y))
   refine ye (by simp only [zb,seval,pS];rfl) (by simp only [zv];rfl) ?_
   rfl
  ·have hz:(x.k != 0)=true:=by simp [h00]
   rw [hfm,if_neg h00]
   have hv:=kJ x
   rw [D.cc_eq x] at hv
   have hb:=aD (AO pre) (bR x).2 (vP _) (eU _)
   have hun:=jV (iY pre++[(bR x).1]) (by have:=gQ x;rw [List.length_append,hvn];simp;omega)
   have hb2:=aD (max (AO pre) (bR x).2) (unl (iY pre++[(bR x).1])) (Nat.max_le.2 ⟨vP _,eU _⟩) (kW _)
   (refine WpL.go _ rfl fun Y y=>?_);repeat (first|(apply fw;focus ((with_reducible constructor)<;>constructor))|((first|with_reducible refine ga _ rfl fun Y y=>?_|apply ri);simp only [zb,seval,pS,h10,hz,kcc];refine fz y ?_;clear y Y))
   repeat (first|(apply fw;focus ((with_reducible constructor)<;>constructor))|((first|with_reducible refine ga _ rfl fun Y y=>?_|(refine ca ?_;apply Exists.intro;constructor;assumption;intro Y y)|apply ri);simp only [zb,seval,pS];refine fz y ?_;clear y Y))
   refine WpA.region ?_
   (try simp only [St.put]);(refine WpL.op rfl (aB (P:=Tryz.prog) rfl) (aH (by simp only [zb,seval,pS];rfl) (by first|(simp;done)|omega|(simp;omega))) ?_);simp only [St.put];(refine WpL.op rfl (aB (P:=Tryz.prog) rfl) (aH (by simp only [zb,seval,pS];rfl) (by first|(simp;done)|omega|(simp;omega))) ?_);simp only [St.put];(refine WpL.op rfl (aB (P:=Tryz.prog) rfl) (aH (by simp only [zb,seval,pS];rfl) (by first|(simp;done)|omega|(simp;omega))) ?_);simp only [St.put]
   obtain⟨S12,j,hA12,hj12,hl12,hfr12,hpl12,hop12⟩:=KP (P:=Tryz.prog) (T:=22) (by_:=16) dH dJ dK (by omega) (S:=S10++[some ⟨9,1,[[.v (.string (bR x).1)]]⟩]) (hU.stay fun j h=>dB h) (q:=S10.length) (new:=[[.v (.string (bR x).1)]]) (nF _ _ _) (by simp) (fun n e=>by have:=hU.lt e;omega) (by rw [dR,hvn];simp;omega) (by rw [dR,hvn];simp;omega)
   simp only [List.length_cons,List.length_nil,Nat.zero_add] at hop12 hA12
   rw [←pB] at hA12
   refine WpL.aop rfl (hop12 _ _ _ rfl rfl) ?_
   simp only [St.put]
   (refine WpL.go _ rfl fun Y y=>?_);repeat (first|(apply fw;focus ((with_reducible constructor)<;>constructor))|((first|with_reducible refine ga _ rfl fun Y y=>?_|apply ri);simp only [zb,seval,pS];refine fz y ?_;clear y Y))
   refine WpL.frzAt 53 hA12.au (mH _) rfl fun S13 _ _=>?_
   repeat (first|(apply fw;focus ((with_reducible constructor)<;>constructor))|((first|with_reducible refine ga _ rfl fun Y y=>?_|(refine ca ?_;apply Exists.intro;constructor;assumption;intro Y y)|apply ri);simp only [zb,seval,pS];refine fz y ?_;clear y Y))
   refine ye (by simp only [zb,seval,pS];rfl) (by simp only [zv];rfl) ?_
   rfl
noncomputable def bN (l:List D):List ByteArray:=l.filterMap fun b=>(iC b).map fun p=>(bR p.1).1
noncomputable def bV (l:List D):List D:=l.filterMap fun b=>(iC b).map (·.2)
noncomputable def bE (l:List D):Nat:=iX (l.map fun b=>match iC b with|some p=>(bR p.1).2|none=>2)
theorem AP (d:D):bC d=(bN (bF d).1,bV (bF d).1,max (bF d).2 (bE (bF d).1)):=rfl
theorem RU (l:List D):bE l≤2:=nV fun x hx=>by
 obtain⟨d,_,rfl⟩:=List.mem_map.1 hx
 cases iC d with
 | none=>exact Nat.le_refl _
 | some p=>exact eU _
theorem TV {l:List D} {b:D} {p:D × D} (h:iC b=some p):bN (l++[b])=bN l++[(bR p.1).1]:=by simp [bN,h]
theorem TW {l:List D} {b:D} {p:D × D} (h:iC b=some p):bV (l++[b])=bV l++[p.2]:=by simp [bV,h]
theorem TX {l:List D} {b:D} {p:D × D} (h:iC b=some p):bE (l++[b])=max (bE l) (bR p.1).2:=by unfold bE;rw [List.map_append,List.map_cons,List.map_nil,mY,h]
theorem TY {l:List D} {b:D} (h:iC b=none):bN (l++[b])=bN l:=by simp [bN,h]
theorem TZ {l:List D} {b:D} (h:iC b=none):bV (l++[b])=bV l:=by simp [bV,h]
theorem UA {l:List D} {b:D} (h:iC b=none):bE (l++[b])=max (bE l) 2:=by unfold bE;rw [List.map_append,List.map_cons,List.map_nil,mY,h]
theorem RV (l:List D):(bN l).length≤l.length:=List.length_filterMap_le _ _
theorem WA (l:List D):(bV l).length≤l.length:=List.length_filterMap_le _ _
def bdA (r:List ByteArray × List D × Nat):A:=.tup [.one (.sl 1 (dQ r.1)),.one (.sl 6 (r.2.1.map D.cc)),.one (.er r.2.2)]
def BdI (l:List D) (e:Nat) (n:Nat) (st:St):Prop:=∃(i:Nat) (S:List (Option Ob)) (cN cV:C),n=l.length-i∧i≤l.length∧At 9 1 S cN (dQ (bN (l.take i)))∧At 28 6 S cV ((bV (l.take i)).map D.cc) ∧
 st=⟨[(18,.one (.v (.int .i64 i))),(17,.one (.v (.int .i64 l.length))),(16,.one (.sl 6 (l.map D.cc))),(2,.one cN),(3,.one cV),(4,.one (.er (max e (bE (l.take i)))))],S⟩
theorem lA {n:Nat} (d:D) (hd:Gd n d) (hn:n≤100000000):Pure Tryz.prog 141 [.agg d.cc] (bdA (bC d)):=by
 have hit:=gC d hd.2.1 (by have:=hd.items.len;omega)
 have hw:Pure Tryz.prog 84 [.one (.v (.string ⟨#[98,105,110,100,105,110,103]⟩)),.one (.gv 1)] (.one (.er 2)):=dD _ 1
 have hlg:Gds n (bF d).1:=by
  unfold bF;split
  ·exact hd.items
  ·exact⟨trivial,trivial,by have:=hd.2.2;have:=gQ d;simp [cK];omega⟩
 have hel:=iR d
 rw [AP]
 generalize (bF d).2=er at hit hel ⊢
 generalize (bF d).1=l at hit hlg ⊢
 have hlen:=hlg.len
 have hml:(l.map D.cc).length=l.length:=List.length_map ..
 refine fi Tryz.func141 Tryz.ntmps141 Tryz.results141 ?_
 repeat (first|(apply fw;focus ((with_reducible constructor)<;>constructor))|((first|with_reducible refine ga _ rfl fun Y y=>?_|(refine ca ?_;apply Exists.intro;constructor;assumption;intro Y y)|apply ri);simp only [zb,seval,rI,kcc,hml];refine fz y ?_;clear y Y))
 refine WpA.loop (BdI l er) l.length (st0:=⟨[(18,.one (.v (.int .i64 (0:Nat)))),(17,.one (.v (.int .i64 l.length))),(16,.one (.sl 6 (l.map D.cc))),(2,.one (.v (.slice none 0 0))),(3,.one (.v (.slice none 0 0))),(4,.one (.er (max er (bE (l.take 0)))))],[]⟩) (Le.drop 0 (Nat.zero_le _) rfl (by simp [Sub,find,bE,iX]) rfl (by simp [ObBd])) ⟨0,[],_,_,rfl,Nat.zero_le _,At.nil _ _ _,At.nil _ _ _,rfl⟩ ?_
 intro n' st hI
 obtain⟨i,S,cN,cV,rfl,hi,hA,hB,rfl⟩:=hI
 have hw2:IntKind.i64.wrap ((i:Int)+1)=((i+1:Nat):Int):=by rw [dA (by omega) (by omega)];omega
 by_cases hlt:i<l.length
 ·have hd1:decide ((i:Int)<(l.length:Int))=true:=by simp;omega
  have hget:=vF hlt
  have hb:=hlg.mem (List.getElem_mem hlt)
  have hib:=gC l[i] hb.2.1 (by have:=hb.items.len;omega)
  have htk:=List.take_succ_eq_append_getElem hlt
  have hbl:=RU (l.take i)
  have hmx:max er (bE (l.take i))≤2:=Nat.max_le.2 ⟨hel,hbl⟩
  generalize l[i]=b at *
  have hnl:=RV (l.take i)
  have hvl:=WA (l.take i)
  rw [List.length_take,Nat.min_eq_left hi] at hnl hvl
  cases hp:iC b with
  | none =>
   have hb2:=aD (max er (bE (l.take i))) 2 hmx (Nat.le_refl _)
   have hs:max (max er (bE (l.take i))) 2=max er (bE (l.take (i+1))):=by rw [htk,UA hp,Nat.max_assoc]
   rw [hs] at hb2
   have fin:∀(T:List (Option Ob)),At 9 1 (S++T) cN (dQ (bN (l.take (i+1))))∧At 28 6 (S++T) cV ((bV (l.take (i+1))).map D.cc):=fun T=>by rw [htk,TY hp,TZ hp];exact⟨hA.app _,hB.app _⟩
   by_cases he:fS b=0
   ·rw [show bF b=(items b,0) from if_pos he] at hib
    simp only at hib
    have h2:(((items b).length:Int) != 2)=true:=by
     have:(items b).length≠2:=fun h=>by
      match hh:items b,h with
      | [x,y],_=>simp [iC,he,hh] at hp
     simp;omega
    repeat (first|(apply fw;focus ((with_reducible constructor)<;>constructor))|((first|with_reducible refine ga _ rfl fun Y y=>?_|(refine ca ?_;apply Exists.intro;constructor;assumption;intro Y y)|apply ri);simp only [zb,seval,rI,hd1,hget,kcc,aK,h2,b01,hw2];refine fz y ?_;clear y Y))
    exact⟨l.length-(i+1),_,by omega,Le.sub (by simp [Sub,find]),i+1,_,cN,cV,rfl,hlt,(fin _).1,(fin _).2,rfl⟩
   ·rw [show bF b=([],2) from if_neg he] at hib
    repeat (first|(apply fw;focus ((with_reducible constructor)<;>constructor))|((first|with_reducible refine ga _ rfl fun Y y=>?_|(refine ca ?_;apply Exists.intro;constructor;assumption;intro Y y)|apply ri);simp only [zb,seval,rI,hd1,hget,kcc,aK,hw2];refine fz y ?_;clear y Y))
    exact⟨l.length-(i+1),_,by omega,Le.sub (by simp [Sub,find]),i+1,_,cN,cV,rfl,hlt,(fin _).1,(fin _).2,rfl⟩
  | some p =>
   obtain⟨x,y⟩:=p
   have he:fS b=0:=by
    unfold iC at hp;split at hp
    ·assumption
    ·cases hp
   have hxy:items b=[x,y]:=by
    unfold iC at hp;rw [if_pos he] at hp
    split at hp
    ·rename_i hh;cases hp;exact hh
    ·cases hp
   rw [show bF b=(items b,0) from if_pos he,hxy] at hib
   simp only [List.map_cons,List.map_nil] at hib
   have hv:=kJ x
   have hb2:=aD (max er (bE (l.take i))) (bR x).2 hmx (eU _)
   have hs:max (max er (bE (l.take i))) (bR x).2=max er (bE (l.take (i+1))):=by rw [htk,TX hp,Nat.max_assoc]
   rw [hs] at hb2
   repeat (first|(apply fw;focus ((with_reducible constructor)<;>constructor))|((first|with_reducible refine ga _ rfl fun Y y=>?_|(refine ca ?_;apply Exists.intro;constructor;assumption;intro Y y)|apply ri);simp only [zb,seval,rI,hd1,hget,kcc,aK];refine fz y ?_;clear y Y))
   refine WpA.region ?_
   (try simp only [St.put]);(refine WpL.op rfl (aB (P:=Tryz.prog) rfl) (aH (by simp only [zb,seval,rI,aK];rfl) (by first|(simp;done)|omega|(simp;omega))) ?_);simp only [St.put];(refine WpL.op rfl (aB (P:=Tryz.prog) rfl) (aH (by simp only [zb,seval,rI,aK];rfl) (by first|(simp;done)|omega|(simp;omega))) ?_);simp only [St.put];(refine WpL.op rfl (aB (P:=Tryz.prog) rfl) (aH (by simp only [zb,seval,rI,aK];rfl) (by first|(simp;done)|omega|(simp;omega))) ?_);simp only [St.put]
   obtain⟨S8,j,hA8,hj8,hl8,hfr8,hpl8,hop8⟩:=fK (P:=Tryz.prog) (T:=22) (by_:=16) dH dJ dK (by omega) (S:=S++[some ⟨28,6,[b.cc]⟩,some ⟨9,1,[[.v (.string (bR x).1)]]⟩]) (hA.app _) (q:=S.length+1) (new:=[[.v (.string (bR x).1)]]) (rO _ _ _ _) (by simp) (fun n e=>by have:=hA.lt e;omega) (by rw [dR];simp;omega) (by rw [dR];simp;omega)
   simp only [List.length_cons,List.length_nil,Nat.zero_add] at hop8 hA8
   have hB8:At 28 6 S8 cV ((bV (l.take i)).map D.cc):=hB.stay fun k hk _=>hfr8 k _ (dB hk) (hA.apart hk (by show (28:Nat)≠_;decide))
   refine WpL.aop rfl (hop8 _ _ _ rfl rfl) ?_
   simp only [St.put]
   (refine WpL.go _ rfl fun Y y=>?_);repeat (first|(apply fw;focus ((with_reducible constructor)<;>constructor))|((first|with_reducible refine ga _ rfl fun Y y=>?_|apply ri);simp only [zb,seval,rI];refine fz y ?_;clear y Y))
   refine WpA.region ?_
   (try simp only [St.put]);(refine WpL.op rfl (aB (P:=Tryz.prog) rfl) (aH (by simp only [zb,seval,rI,kcc];rfl) (by first|(simp;done)|omega|(simp;omega))) ?_);simp only [St.put];(refine WpL.op rfl (aB (P:=Tryz.prog) rfl) (aH (by simp only [zb,seval,rI,kcc];rfl) (by first|(simp;done)|omega|(simp;omega))) ?_);simp only [St.put];(refine WpL.op rfl (aB (P:=Tryz.prog) rfl) (aH (by simp only [zb,seval,rI,kcc];rfl) (by first|(simp;done)|omega|(simp;omega))) ?_);simp only [St.put];(refine WpL.op rfl (aB (P:=Tryz.prog) rfl) (aH (by simp only [zb,seval,rI,kcc];rfl) (by first|(simp;done)|omega|(simp;omega))) ?_);simp only [St.put];(refine WpL.op rfl (aB (P:=Tryz.prog) rfl) (aH (by simp only [zb,seval,rI,kcc];rfl) (by first|(simp;done)|omega|(simp;omega))) ?_);simp only [St.put]
   obtain⟨S9,k,hB9,hk9,hl9,hfr9,hpl9,hop9⟩:=fK (P:=Tryz.prog) (T:=26) (by_:=88) aM bA bB (by omega) (S:=S8++[some ⟨28,6,[y.cc]⟩]) (hB8.app _) (q:=S8.length) (new:=[y.cc]) (nF _ _ _) (by simp) (fun n e=>by have:=hB8.lt e;omega) (by simp;omega) (by simp;omega)
   simp only [List.length_cons,List.length_nil,Nat.zero_add] at hop9 hB9
   have hA9:=hA8.stay (S':=S9) fun q hq _=>hfr9 q _ (dB hq) (hB8.apart hq (by show (9:Nat)≠_;decide))
   refine WpL.aop rfl (hop9 _ _ _ rfl rfl) ?_
   simp only [St.put]
   (refine WpL.go _ rfl fun Y y=>?_);repeat (first|(apply fw;focus ((with_reducible constructor)<;>constructor))|((first|with_reducible refine ga _ rfl fun Y y=>?_|apply ri);simp only [zb,seval,rI,hw2];refine fz y ?_;clear y Y))
   refine⟨l.length-(i+1),_,by omega,Le.sub (by simp [Sub,find]),i+1,S9,.ms j ((dQ (bN (l.take i))).length+1),.ms k (((bV (l.take i)).map D.cc).length+1),rfl,hlt,?_,?_,rfl⟩
   ·rw [htk,TV hp,pB];exact hA9
   ·rw [htk,TW hp,List.map_append];exact hB9
 ·have hd0:decide ((i:Int)<(l.length:Int))=false:=by simp;omega
  have hii:i=l.length:=by omega
  subst hii
  rw [List.take_length] at hA hB ⊢
  repeat (first|(apply fw;focus ((with_reducible constructor)<;>constructor))|((first|with_reducible refine ga _ rfl fun Y y=>?_|apply ri);simp only [zb,seval,rI,hd0];refine fz y ?_;clear y Y))
  repeat (first|(apply fw;focus ((with_reducible constructor)<;>constructor))|((first|with_reducible refine ga _ rfl fun Y y=>?_|apply ri);simp only [zb,seval,rI,hd0];refine fz y ?_;clear y Y))
  obtain⟨p1,c1,v1,w1,x1,-⟩:=hA.see (mH _)
  obtain⟨p2,c2,v2,w2,x2,-⟩:=hB.see (EO _)
  refine yl (by simp only [zb,seval,rI,v1,v2];rfl) (by simp only [zv,v1,v2];rfl) (ALe.tup (ALes.cons x1 (ALes.cons x2 (ALes.refl _)))) rfl (by simp [w1,w2])
theorem nH {n:Nat} {d:D} {s:ByteArray} {x:List D} (hd:Gd n d) (h:eM d s=some x):Gds n x∧cK x+1≤d.msr:=by
 unfold eM at h
 split at h
 ·rename_i hk
  split at h
  ·cases h
   obtain⟨hl,hf,hs,hm⟩:=hd.pair hk.1
   have h1:=mI d.snd
   have:=gQ d.fst
   exact⟨hs.items,by omega⟩
  ·cases h
 ·cases h
noncomputable def rR (n:Nat) (d:D):List D:=match eM d eE with|some x=>yB n x|none=>[d]
theorem wM (n:Nat) (l:List D):yB (n+1) l=l.flatMap (rR n):=rfl
theorem AQ {n0:Nat}:∀(n:Nat) (l:List D),Gds n0 l→Gds n0 (yB n l)∧cK (yB n l)≤cK l
 | 0,l,h=>⟨h,Nat.le_refl _⟩
 | n+1,l,h=>by
  rw [wM]
  have key:∀l:List D,Gds n0 l→(Twos (l.flatMap (rR n))∧Oks (l.flatMap (rR n)))∧cK (l.flatMap (rR n))≤cK l:=by
   intro l
   induction l with
   | nil=>intro h;exact⟨⟨trivial,trivial⟩,Nat.le_refl _⟩
   | cons d l ih =>
    intro h
    have h2:=ih h.tail
    have h1:Gds n0 (rR n d)∧cK (rR n d)≤d.msr:=by
     unfold rR
     cases hh:eM d eE with
     | none=>exact⟨⟨⟨h.1.1,trivial⟩,⟨h.2.1.1,trivial⟩,by have:=h.head.2.2;simp [cK];exact this⟩,by simp [cK]⟩
     | some x =>
      obtain⟨g1,g2⟩:=nH h.head hh
      obtain⟨k1,k2⟩:=AQ n x g1
      exact⟨k1,by show cK (yB n x)≤_;omega⟩
    rw [List.flatMap_cons,HU,cK]
    refine⟨⟨Twos.of fun x hx=>?_,Oks.ofMem fun x hx=>?_⟩,by omega⟩
    ·rcases List.mem_append.1 hx with hx|hx
     ·exact h1.1.1.mem hx
     ·exact h2.1.1.mem hx
    ·rcases List.mem_append.1 hx with hx|hx
     ·exact h1.1.2.1.mem hx
     ·exact h2.1.2.mem hx
  have:=key l h
  exact⟨⟨this.1.1,this.1.2,Nat.lt_of_le_of_lt this.2 h.2.2⟩,this.2⟩
def SpI (n1:Nat) (l:List D) (n:Nat) (st:St):Prop:=∃(i:Nat) (S:List (Option Ob)) (cO:C),n=l.length-i∧i≤l.length∧At 28 6 S cO (((l.take i).flatMap (rR n1)).map D.cc) ∧
 st=⟨[(10,.one (.v (.int .i64 i))),(9,.one (.v (.int .i64 l.length))),(8,.one (.sl 6 (l.map D.cc))),(3,.one cO)],S⟩
theorem vQ {n0:Nat} (hn0:n0≤100000000):∀(n:Nat) (l:List D),Gds n0 l→cK l≤n→Pure Tryz.prog 121 [.one (.sl 6 (l.map D.cc))] (.one (.sl 6 ((yB n l).map D.cc)))
 | 0,l,h,hm=>by
  have:l=[]:=by
   cases l with
   | nil=>rfl
   | cons d l=>rw [cK] at hm;have:=gQ d;omega
  subst this
  have hd0:decide ((0:Int)<((0:Nat):Int))=false:=by simp
  show Pure _ _ [.one (.sl 6 [])] (.one (.sl 6 []))
  refine fi Tryz.func121 Tryz.ntmps121 Tryz.results121 ?_
  repeat (first|(apply fw;focus ((with_reducible constructor)<;>constructor))|((first|with_reducible refine ga _ rfl fun Y y=>?_|apply ri);simp only [zb,seval,vD];refine fz y ?_;clear y Y))
  refine WpA.rounds 1 ?_
  refine CI ?_
  repeat (first|(apply fw;focus ((with_reducible constructor)<;>constructor))|((first|with_reducible refine ga _ rfl fun Y y=>?_|apply ri);simp only [zb,seval,vD,hd0];refine fz y ?_;clear y Y))
  refine yl (by simp only [zb,seval,vD];rfl) (by simp only [zv];rfl) ((by exact ae)) rfl
 | n1+1,l,h,hm=>by
  rw [wM]
  have hlen:=h.len
  have hml:(l.map D.cc).length=l.length:=List.length_map ..
  refine fi Tryz.func121 Tryz.ntmps121 Tryz.results121 ?_
  repeat (first|(apply fw;focus ((with_reducible constructor)<;>constructor))|((first|with_reducible refine ga _ rfl fun Y y=>?_|apply ri);simp only [zb,seval,vD,hml];refine fz y ?_;clear y Y))
  refine WpA.loop (SpI n1 l) l.length (st0:=⟨[(10,.one (.v (.int .i64 (0:Nat)))),(9,.one (.v (.int .i64 l.length))),(8,.one (.sl 6 (l.map D.cc))),(3,.one (.v (.slice none 0 0)))],[]⟩) (Le.sub (by simp [Sub,find])) ⟨0,[],_,rfl,Nat.zero_le _,At.nil _ _ _,rfl⟩ ?_
  intro n' st hI
  obtain⟨i,S,cO,rfl,hi,hA,rfl⟩:=hI
  have hw2:IntKind.i64.wrap ((i:Int)+1)=((i+1:Nat):Int):=by rw [dA (by omega) (by omega)];omega
  have hbnd:∀k≤l.length,((l.take k).flatMap (rR n1)).length<n0:=fun k _=>by
   have:=(AQ (n1+1) (l.take k) (h.take k)).1.len
   rw [wM] at this;exact this
  by_cases hlt:i<l.length
  ·have hd1:decide ((i:Int)<(l.length:Int))=true:=by simp;omega
   have hget:=vF hlt
   have hb:=h.mem (List.getElem_mem hlt)
   have hmb:=vJ (List.getElem_mem hlt)
   have htk:(l.take (i+1)).flatMap (rR n1)=(l.take i).flatMap (rR n1)++rR n1 l[i]:=by rw [List.take_succ_eq_append_getElem hlt,List.flatMap_append];simp
   have hb1:=hbnd (i+1) hlt
   rw [htk,List.length_append] at hb1
   have hhd:=oY n0 l[i] eE hb (by omega)
   generalize hbb:l[i]=b at *
   generalize hpre:(l.take i).flatMap (rR n1)=pre at *
   have hpl:(pre.map D.cc).length=pre.length:=List.length_map ..
   cases hh:eM b eE with
   | none =>
    have hsp:rR n1 b=[b]:=by simp [rR,hh]
    rw [hh] at hhd
    rw [hsp] at hb1 htk
    simp only [lW] at hhd
    simp only [List.length_cons,List.length_nil] at hb1
    repeat (first|(apply fw;focus ((with_reducible constructor)<;>constructor))|((first|with_reducible refine ga _ rfl fun Y y=>?_|(refine ca ?_;apply Exists.intro;constructor;assumption;intro Y y)|apply ri);simp only [zb,seval,vD,hd1,hget,kcc,aK];refine fz y ?_;clear y Y))
    refine WpA.region ?_
    (try simp only [St.put]);(refine WpL.op rfl (aB (P:=Tryz.prog) rfl) (aH (by simp only [zb,seval,vD,kcc,aK];rfl) (by first|(simp;done)|omega|(simp;omega))) ?_);simp only [St.put];(refine WpL.op rfl (aB (P:=Tryz.prog) rfl) (aH (by simp only [zb,seval,vD,kcc,aK];rfl) (by first|(simp;done)|omega|(simp;omega))) ?_);simp only [St.put];(refine WpL.op rfl (aB (P:=Tryz.prog) rfl) (aH (by simp only [zb,seval,vD,kcc,aK];rfl) (by first|(simp;done)|omega|(simp;omega))) ?_);simp only [St.put]
    obtain⟨S8,j,hA8,hj8,hl8,hfr8,hpl8,hop8⟩:=fK (P:=Tryz.prog) (T:=26) (by_:=88) aM bA bB (by omega) (S:=S++[some ⟨28,6,[b.cc]⟩,some ⟨28,6,[b.cc]⟩]) (hA.app _) (q:=S.length+1) (new:=[b.cc]) (rO _ _ _ _) (by simp) (fun n e=>by have:=hA.lt e;omega) (by simp;omega) (by simp;omega)
    simp only [List.length_cons,List.length_nil,Nat.zero_add] at hop8 hA8
    refine WpL.aop rfl (hop8 _ _ _ rfl rfl) ?_
    simp only [St.put]
    (refine WpL.go _ rfl fun Y y=>?_);repeat (first|(apply fw;focus ((with_reducible constructor)<;>constructor))|((first|with_reducible refine ga _ rfl fun Y y=>?_|apply ri);simp only [zb,seval,vD,hw2];refine fz y ?_;clear y Y))
    refine⟨l.length-(i+1),_,by omega,Le.sub (by simp [Sub,find]),i+1,S8,.ms j ((pre.map D.cc).length+1),rfl,hlt,?_,rfl⟩
    rw [htk,List.map_append];exact hA8
   | some x =>
    obtain⟨g1,g2⟩:=nH hb hh
    have ih:=vQ hn0 n1 x g1 (by omega)
    have hsp:rR n1 b=yB n1 x:=by simp [rR,hh]
    rw [hh] at hhd
    rw [hsp] at hb1 htk
    simp only [lW] at hhd
    obtain⟨S8,c8,hA8,hl8,hfr8,hpl8,hop8⟩:=mJ (P:=Tryz.prog) (T:=26) (by_:=88) aM bA bB (by omega) (S:=S++[some ⟨28,6,[b.cc]⟩]) (hA.app _) (new:=(yB n1 x).map D.cc) (fun e he=>by obtain⟨d,_,rfl⟩:=List.mem_map.1 he;exact D.cc_len d) (by simp;omega) (by simp;omega)
    repeat (first|(apply fw;focus ((with_reducible constructor)<;>constructor))|((first|with_reducible refine ga _ rfl fun Y y=>?_|(refine ca ?_;apply Exists.intro;constructor;assumption;intro Y y)|apply ri);simp only [zb,seval,vD,hd1,hget,kcc,aK];refine fz y ?_;clear y Y))
    refine cz (ih) ?_
    simp only [St.put]
    refine WpL.opA rfl (hop8 _ _ _ _ _ rfl rfl) ?_
    simp only [St.put]
    (refine WpL.go _ rfl fun Y y=>?_);repeat (first|(apply fw;focus ((with_reducible constructor)<;>constructor))|((first|with_reducible refine ga _ rfl fun Y y=>?_|apply ri);simp only [zb,seval,vD,hw2];refine fz y ?_;clear y Y))
    refine⟨l.length-(i+1),_,by omega,Le.sub (by simp [Sub,find]),i+1,S8,c8,rfl,hlt,?_,rfl⟩
    rw [htk,List.map_append];exact hA8
  ·have hd0:decide ((i:Int)<(l.length:Int))=false:=by simp;omega
   have hii:i=l.length:=by omega
   subst hii
   rw [List.take_length] at hA
   repeat (first|(apply fw;focus ((with_reducible constructor)<;>constructor))|((first|with_reducible refine ga _ rfl fun Y y=>?_|apply ri);simp only [zb,seval,vD,hd0];refine fz y ?_;clear y Y))
   repeat (first|(apply fw;focus ((with_reducible constructor)<;>constructor))|((first|with_reducible refine ga _ rfl fun Y y=>?_|apply ri);simp only [zb,seval,vD,hd0];refine fz y ?_;clear y Y))
   obtain⟨p1,c1,v1,w1,x1,-⟩:=hA.see (EO _)
   refine yl (by simp only [zb,seval,vD,v1];rfl) (by simp only [zv,v1];rfl) (x1) rfl (by simp [w1])
theorem ER {n0:Nat} (l:List D) (h:Gds n0 l) (hn0:n0≤100000000):Pure Tryz.prog 121 [.one (.sl 6 (l.map D.cc))] (.one (.sl 6 ((spl l).map D.cc))):=vQ hn0 _ l h (Nat.le_refl _)
theorem MU {n0:Nat} {l:List D} (h:Gds n0 l):Gds n0 (spl l)∧cK (spl l)≤cK l:=AQ _ _ h
theorem kK {n:Nat} {ev:Ev} (hE:HE n ev) (l:List D):(fL ev.e l).2≤2:=by
 unfold fL;split
 ·exact Nat.le_refl _
 ·exact eN hE l
theorem gE {n:Nat} {ev:Ev} (hE:HE n ev) (l:List D) (hl:Gds n l):Pure Tryz.prog 110 [.one (.sl 6 (l.map D.cc))] (rsA (fL ev.e l)):=by
 have hw:Pure Tryz.prog 84 [.one (.v (.string ⟨#[115,101,113,117,101,110,99,101]⟩)),.one (.gv 1)] (.one (.er 2)):=dD _ 1
 have hc:=jU hE l hl
 have hs:=oZ (aZ ev.e l).1
 by_cases h0:l=[]
 ·subst h0
  rw [show fL ev.e []=(kz,2) from if_pos rfl]
  simp only [List.map_nil]
  refine fi Tryz.func110 Tryz.ntmps110 Tryz.results110 ?_
  repeat (first|(apply fw;focus ((with_reducible constructor)<;>constructor))|((first|with_reducible refine ga _ rfl fun Y y=>?_|(refine ca ?_;apply Exists.intro;constructor;assumption;intro Y y)|apply ri);simp only [zb,seval,TP,kcc];refine fz y ?_;clear y Y))
  refine yl (by simp only [zb,seval,TP,kcc,rsA];rfl) (by simp only [zv,kcc,rsA];rfl) ((by simp only [rcc,rsA];exact ae)) rfl
 ·rw [show fL ev.e l=(gR (aZ ev.e l).1,(aZ ev.e l).2) from if_neg h0]
  have hz:((l.length:Int) == 0)=false:=by
   have:l.length≠0:=fun h=>h0 (List.length_eq_zero_iff.1 h)
   simp;exact h0
  simp only [rlA] at hc
  refine fi Tryz.func110 Tryz.ntmps110 Tryz.results110 ?_
  repeat (first|(apply fw;focus ((with_reducible constructor)<;>constructor))|((first|with_reducible refine ga _ rfl fun Y y=>?_|(refine ca ?_;apply Exists.intro;constructor;assumption;intro Y y)|apply ri);simp only [zb,seval,TP,kcc,hz];refine fz y ?_;clear y Y))
  refine ye (by simp only [zb,seval,TP,kcc];rfl) (by simp only [zv,kcc];rfl) ?_
  rfl
theorem RX (d:D):(fC d).2.2≤2:=by
 unfold fC
 dsimp only
 have h1:iX ((items d).map fun x=>(bR x).2)≤2:=vP _
 have h2:=eU (qV d)
 split
 ·exact Nat.max_le.2 ⟨h1,kW _⟩
 ·exact Nat.max_le.2 ⟨Nat.max_le.2 ⟨h1,h2⟩,kW _⟩
theorem WB (d:D):(fC d).1.length=(items d).length:=by
 unfold fC;dsimp only;split<;>simp
theorem lT (ps:List ByteArray) (r:ByteArray) (b:K):(fQ ps r b).2≤2:=by unfold fQ;repeat (first|split|simp)
theorem fD (l:List K):(dL l).2≤2:=by unfold dL;split<;>simp
theorem tC {n:Nat} {ev:Ev} (hE:HE n ev) (f:D) (body:List D) (hf:Gd n f) (hb:Gds n body):Pure Tryz.prog 86 [.agg f.cc,.one (.sl 6 (body.map D.cc))] (rsA (eR ev f body)):=by
 have hbig:=hE.big
 have h1:=EP f hf (by omega)
 have h2:=hE.b body hb
 have b1:=aD (fC f).2.2 (ev.b body).2 (RX f) (hE.b2 _)
 have h3:=jT (fC f).1 (fC f).2.1 (ev.b body).1 (by rw [WB];have:=hf.items.len;omega)
 have b2:=aD (max (fC f).2.2 (ev.b body).2) (fQ (fC f).1 (fC f).2.1 (ev.b body).1).2 (Nat.max_le.2 ⟨RX f,hE.b2 _⟩) (lT _ _ _)
 simp only [fmA,rsA] at h1 h2 h3
 refine fi Tryz.func86 Tryz.ntmps86 Tryz.results86 ?_
 repeat (first|(apply fw;focus ((with_reducible constructor)<;>constructor))|((first|with_reducible refine ga _ rfl fun Y y=>?_|(refine ca ?_;apply Exists.intro;constructor;assumption;intro Y y)|apply ri);simp only [zb,seval,w86,kcc];refine fz y ?_;clear y Y))
 (refine WpA.draw0 4 _ _ _ rfl rfl rfl (by kernel_rfl) (by kernel_rfl) (by kernel_rfl) fun K8 hK8=>?_);simp only [zz] at hK8 ⊢;(refine Draw0.go fun K7 k=>?_);simp only [zb,seval,w86,kcc];(refine qz (k _ _ ?_));clear k K7
 refine Draw0.step (oz (b2)) ?_
 (refine Draw0.go fun K7 k=>?_);simp only [zb,seval,w86,kcc];(refine qz (k _ _ ?_));clear k K7;(try ((refine Draw0.nil (hK8 _ ?_));clear hK8 K8;(refine WpL.go _ rfl fun Y y=>?_);repeat (first|(apply fw;focus ((with_reducible constructor)<;>constructor))|((first|with_reducible refine ga _ rfl fun Y y=>?_|apply ri);simp only [zb,seval,w86,kcc];refine fz y ?_;clear y Y))))
 refine ye (by simp only [zb,seval,w86,kcc];rfl) (by simp only [zv,kcc];rfl) ?_
 rfl
theorem qC {n:Nat} {ev:Ev} (hE:HE n ev) (names:List ByteArray) (body:K) (values:List D) (hn:names.length≤1000000000) (hv:Gds n values):Pure Tryz.prog 129 [.one (.sl 1 (dQ names)),.agg body.cc,.one (.sl 6 (values.map D.cc))] (rsA (fT ev names body values)):=by
 have hbig:=hE.big
 have hlen:=hv.len
 have h1:=jT names ⟨#[]⟩ body hn
 have h2:=jU hE values hv
 have b1:=aD (fQ names e0 body).2 (aZ ev.e values).2 (lT _ _ _) (eN hE _)
 have h3:=fM ((fQ names e0 body).1::(aZ ev.e values).1)
 have b2:=aD (max (fQ names e0 body).2 (aZ ev.e values).2) (dL ((fQ names e0 body).1::(aZ ev.e values).1)).2 (Nat.max_le.2 ⟨lT _ _ _,eN hE _⟩) (fD _)
 have hel:(aZ ev.e values).1.length=values.length:=List.length_map ..
 simp only [rlA,rsA,List.map_cons] at h1 h2 h3
 refine fi Tryz.func129 Tryz.ntmps129 Tryz.results129 ?_
 repeat (first|(apply fw;focus ((with_reducible constructor)<;>constructor))|((first|with_reducible refine ga _ rfl fun Y y=>?_|(refine ca ?_;apply Exists.intro;constructor;assumption;intro Y y)|apply ri);simp only [zb,seval,NT,kcc,hel];refine fz y ?_;clear y Y))
 (refine WpL.frz 31 (3) (by rfl) (by first|rfl|(simp only [zz,hel];rfl)|(simp only [zz,hel])) (by first|rfl|(simp [hel];done)|(simp [hel];omega)) (by simp [ksh]) ?_);simp only [zz,hel]
 refine cz (h3) ?_
 (refine WpL.go _ rfl fun Y y=>?_);repeat (first|(apply fw;focus ((with_reducible constructor)<;>constructor))|((first|with_reducible refine ga _ rfl fun Y y=>?_|apply ri);simp only [zb,seval,NT,kcc];refine fz y ?_;clear y Y))
 (refine WpA.draw0 4 _ _ _ rfl rfl rfl (by kernel_rfl) (by kernel_rfl) (by kernel_rfl) fun K8 hK8=>?_);simp only [zz] at hK8 ⊢;(refine Draw0.go fun K7 k=>?_);simp only [zb,seval,NT,kcc];(refine qz (k _ _ ?_));clear k K7
 refine Draw0.step (oz (b2)) ?_
 (refine Draw0.go fun K7 k=>?_);simp only [zb,seval,NT,kcc];(refine qz (k _ _ ?_));clear k K7;(try ((refine Draw0.nil (hK8 _ ?_));clear hK8 K8;(refine WpL.go _ rfl fun Y y=>?_);repeat (first|(apply fw;focus ((with_reducible constructor)<;>constructor))|((first|with_reducible refine ga _ rfl fun Y y=>?_|apply ri);simp only [zb,seval,NT,kcc];refine fz y ?_;clear y Y))))
 refine ye (by simp only [zb,seval,NT,kcc];rfl) (by simp only [zv,kcc];rfl) ?_
 rfl
theorem kX (ev:Ev) {n:Nat} (hE:HE n ev) (names:List ByteArray) (b:K) (v:List D):(fT ev names b v).2≤2:=by
 unfold fT;dsimp only
 exact Nat.max_le.2 ⟨Nat.max_le.2 ⟨lT _ _ _,eN hE _⟩,fD _⟩
theorem nX {n:Nat} {ev:Ev} (hE:HE n ev) (test:D) (body:K) (ht:Gd n test):Pure Tryz.prog 112 [.agg test.cc,.agg body.cc] (rsA (eI ev test body)):=by
 have h1:=qC hE [bQ] body [test] (by simp) ⟨⟨ht.1,trivial⟩,⟨ht.2.1,trivial⟩,by have:=ht.2.2;simp [cK];exact this⟩
 simp only [rsA,List.map_cons,List.map_nil,dQ] at h1
 refine fi Tryz.func112 Tryz.ntmps112 Tryz.results112 ?_
 repeat (first|(apply fw;focus ((with_reducible constructor)<;>constructor))|((first|with_reducible refine ga _ rfl fun Y y=>?_|apply ri);simp only [zb,seval,VT,kcc];refine fz y ?_;clear y Y))
 (refine WpL.frz 6 (3) (by rfl) (by first|rfl|(simp only [zz];rfl)|(simp only [zz])) (by first|rfl|(simp;done)|(simp;omega)) (by simp [ksh]) ?_);simp only [zz]
 (refine WpL.frz 9 (4) (by rfl) (by first|rfl|(simp only [zz];rfl)|(simp only [zz])) (by first|rfl|(simp;done)|(simp;omega)) (by simp [ksh]) ?_);simp only [zz]
 refine cz (h1) ?_
 (refine WpL.go _ rfl fun Y y=>?_);repeat (first|(apply fw;focus ((with_reducible constructor)<;>constructor))|((first|with_reducible refine ga _ rfl fun Y y=>?_|apply ri);simp only [zb,seval,VT,kcc];refine fz y ?_;clear y Y))
 refine ye (by simp only [zb,seval,VT,kcc];rfl) (by simp only [zv,kcc];rfl) ?_
 rfl
theorem qD (a:D) (r l:List D) (h:a::r=l):(l.map D.cc)[0]?=some a.cc∧List.take l.length (l.map D.cc)=l.map D.cc∧List.drop 1 (l.map D.cc)=r.map D.cc∧(l.length:Int)=(r.length:Int)+1∧(∀n:Nat,(n:Int).toNat=n)∧(1:Int).toNat=1∧(0:Int).toNat=0∧(2:Int).toNat=2:=by
 subst h
 exact⟨rfl,List.take_of_length_le (by simp),rfl,by simp,fun n=>Int.toNat_natCast n,rfl,rfl,rfl⟩
theorem UB (a b:D) (r l:List D) (h:a::b::r=l):(l.map D.cc)[1]?=some b.cc∧List.drop 2 (l.map D.cc)=r.map D.cc:=by
 subst h
 exact⟨rfl,rfl⟩
def oG (names:List ByteArray) (values:List K):List K:=(names.zip values).map fun p=>yA p.1 p.2
theorem OS {names:List ByteArray} {values:List K} {i:Nat} (h1:i<names.length) (h2:i<values.length):oG (names.take (i+1)) (values.take (i+1))=oG (names.take i) (values.take i)++[yA names[i] values[i]]:=by
 unfold oG
 rw [List.take_succ_eq_append_getElem h1,List.take_succ_eq_append_getElem h2,List.zip_append (by simp;omega)]
 simp
def RdI (names:List ByteArray) (f:K) (e:Nat) (n:Nat) (st:St):Prop:=∃(i:Nat) (S:List (Option Ob)) (cO:C),n=names.length-i∧i≤names.length∧At 31 11 S cO ((f::List.replicate i lV).map K.cc)∧S[1]?=some (some ⟨31,11,[[.v (.int .i64 0),.v (.string ⟨#[]⟩),.v (.string ⟨#[]⟩),.v (.slice none 0 0),.v (.int .i64 0),.v (.int .i32 0),.v (.bool false),.v (.slice none 0 0),.v (.string ⟨#[]⟩),.v (.slice none 0 0),.v (.slice none 0 0)]]⟩)∧(∀n,cO≠.ms 1 n) ∧
 st=⟨[(48,.one (.v (.int .i64 i))),(47,.one (.v (.int .i64 names.length))),(13,.one cO),(12,.one (.er e)),(6,.one (.ptr 1 1 0 0)),(7,.one (.er 0)),(0,.one (.sl 1 (dQ names)))],S⟩
theorem MV (names:List ByteArray) (values:List K) (body:K):mC names values body=((dL ((fQ names e0 (gR (oG names values++[body]))).1::List.replicate names.length lV)).1,max (max (unl names) (fQ names e0 (gR (oG names values++[body]))).2) (dL ((fQ names e0 (gR (oG names values++[body]))).1::List.replicate names.length lV)).2):=by
 unfold mC oG;dsimp only;rw [List.map_const']
theorem mD (names:List ByteArray) (values:List K) (body:K):(mC names values body).2≤2:=by
 rw [MV]
 exact Nat.max_le.2 ⟨Nat.max_le.2 ⟨kW _,lT _ _ _⟩,fD _⟩
theorem IM {α:Type} {S:List α} (T:List α) (a:α) (h:1<S.length):((S++T).set 1 a)[1]?=some a:=List.getElem?_set_self (by simp;omega)
def RcI (names:List ByteArray) (values:List K) (body:K) (n:Nat) (st:St):Prop:=∃(i:Nat) (S:List (Option Ob)) (cL:C),n=names.length-i∧i≤names.length∧At 31 11 S cL ((oG (names.take i) (values.take i)).map K.cc)∧S[0]?=some (some ⟨31,11,[body.cc]⟩)∧S[1]?=some (some ⟨31,11,[[.v (.int .i64 0),.v (.string ⟨#[]⟩),.v (.string ⟨#[]⟩),.v (.slice none 0 0),.v (.int .i64 0),.v (.int .i32 0),.v (.bool false),.v (.slice none 0 0),.v (.string ⟨#[]⟩),.v (.slice none 0 0),.v (.slice none 0 0)]]⟩)∧(∀n,cL≠.ms 0 n)∧(∀n,cL≠.ms 1 n) ∧
 st=⟨[(18,.one (.v (.int .i64 i))),(17,.one (.v (.int .i64 names.length))),(16,.one (.sl 1 (dQ names))),(8,.one cL),(5,.one (.ptr 0 1 0 0)),(6,.one (.ptr 1 1 0 0)),(7,.one (.er 0)),(0,.one (.sl 1 (dQ names))),(1,.one (.sl 11 (values.map K.cc)))],S⟩
theorem iK (names:List ByteArray) (values:List K) (body:K) (hlen:names.length≤1000000000) (hv:values.length=names.length):Pure Tryz.prog 122 [.one (.sl 1 (dQ names)),.one (.sl 11 (values.map K.cc)),.agg body.cc] (rsA (mC names values body)):=by
 have hl:=dR names
 refine fi Tryz.func122 Tryz.ntmps122 Tryz.results122 ?_
 repeat (first|(apply fw;focus ((with_reducible constructor)<;>constructor))|((first|with_reducible refine ga _ rfl fun Y y=>?_|apply ri);simp only [zb,seval,jD,kcc,hl];refine fz y ?_;clear y Y))
 refine WpA.loop (RcI names values body) names.length (st0:=⟨[(18,.one (.v (.int .i64 (0:Nat)))),(17,.one (.v (.int .i64 names.length))),(16,.one (.sl 1 (dQ names))),(8,.one (.v (.slice none 0 0))),(5,.one (.ptr 0 1 0 0)),(6,.one (.ptr 1 1 0 0)),(7,.one (.er 0)),(0,.one (.sl 1 (dQ names))),(1,.one (.sl 11 (values.map K.cc)))],[some ⟨31,11,[body.cc]⟩,some ⟨31,11,[[.v (.int .i64 0),.v (.string ⟨#[]⟩),.v (.string ⟨#[]⟩),.v (.slice none 0 0),.v (.int .i64 0),.v (.int .i32 0),.v (.bool false),.v (.slice none 0 0),.v (.string ⟨#[]⟩),.v (.slice none 0 0),.v (.slice none 0 0)]]⟩]⟩) (Le.sub (by simp [Sub,find])) ⟨0,_,_,rfl,Nat.zero_le _,At.nil _ _ _,rfl,rfl,(fun n e=>by cases e),(fun n e=>by cases e),rfl⟩ ?_
 intro n' st hI
 obtain⟨i,S,cL,rfl,hi,hA,h0,h1,hc0,hc1,rfl⟩:=hI
 have hw2:IntKind.i64.wrap ((i:Int)+1)=((i+1:Nat):Int):=by rw [dA (by omega) (by omega)];omega
 have hz:(oG (names.take i) (values.take i)).length=i:=by simp [oG];omega
 have hS:=(List.getElem?_eq_some_iff.1 h1).1
 by_cases hlt:i<names.length
 ·have hd1:decide ((i:Int)<(names.length:Int))=true:=by simp;omega
  have hget:=oP hlt
  have hv2:i<values.length:=by omega
  have hgv:=VW hv2
  repeat (first|(apply fw;focus ((with_reducible constructor)<;>constructor)))
  ((with_reducible refine ga _ rfl fun Y y=>?_);simp only [zb,seval,jD,hd1,hget];(refine RunTo.fn y (by first|(simp;done)|omega|(simp;omega)) ?_);clear y Y);repeat (first|(apply fw;focus ((with_reducible constructor)<;>constructor)))
  ((with_reducible refine ga _ rfl fun Y y=>?_);simp only [zb,seval,jD,hd1,hget];(refine RunTo.fn y (by first|(simp;done)|omega|(simp;omega)) ?_);clear y Y);repeat (first|(apply fw;focus ((with_reducible constructor)<;>constructor)))
  refine WpA.region ?_
  (try simp only [St.put]);(refine WpL.op rfl (aB (P:=Tryz.prog) rfl) (aH (by simp only [zb,seval,jD,hgv,kcc];rfl) (by first|(simp;done)|omega|(simp;omega))) ?_);simp only [St.put];(refine WpL.op rfl (aB (P:=Tryz.prog) rfl) (aH (by simp only [zb,seval,jD,hgv,kcc];rfl) (by first|(simp;done)|omega|(simp;omega))) ?_);simp only [St.put];(refine WpL.op rfl (aB (P:=Tryz.prog) rfl) (aH (by simp only [zb,seval,jD,hgv,kcc];rfl) (by first|(simp;done)|omega|(simp;omega))) ?_);simp only [St.put];(refine WpL.op rfl (aB (P:=Tryz.prog) rfl) (aH (by simp only [zb,seval,jD,hgv,kcc];rfl) (by first|(simp;done)|omega|(simp;omega))) ?_);simp only [St.put];(refine WpL.op rfl (aB (P:=Tryz.prog) rfl) (aH (by simp only [zb,seval,jD,hgv,kcc];rfl) (by first|(simp;done)|omega|(simp;omega))) ?_);simp only [St.put];(refine WpL.op rfl (aB (P:=Tryz.prog) rfl) (aH (by simp only [zb,seval,jD,hgv,kcc];rfl) (by first|(simp;done)|omega|(simp;omega))) ?_);simp only [St.put];(refine WpL.op rfl (aB (P:=Tryz.prog) rfl) (aH (by simp only [zb,seval,jD,hgv,kcc];rfl) (by first|(simp;done)|omega|(simp;omega))) ?_);simp only [St.put]
  (refine WpL.frz 29 (S.length) (by rfl) (by first|rfl|(simp only [zz,aK];rfl)|(simp only [zz,aK])) (by first|rfl|(simp [aK];done)|(simp [aK];omega)) (by simp [ksh]) ?_);simp only [zz,aK]
  (try simp only [St.put]);(refine WpL.op rfl (aB (P:=Tryz.prog) rfl) (aH (by simp only [zb,seval,jD];rfl) (by first|(simp;done)|omega|(simp;omega))) ?_);simp only [St.put]
  refine WpL.ale 30 (.agg (yA names[i] values[i]).cc) rfl (by simp only [rcc];exact ae) ?_
  (try simp only [St.put]);(refine WpL.op rfl (aB (P:=Tryz.prog) rfl) (aH (by simp only [zb,seval,jD,kcc,aK];rfl) (by first|(simp;done)|omega|(simp;omega))) ?_);simp only [St.put]
  obtain⟨S8,j,hA8,hj8,hl8,hfr8,hpl8,hop8⟩:=fK (P:=Tryz.prog) (T:=29) (by_:=176) bM bO bP (by omega) (S:=S++[none,some ⟨31,11,[(yA names[i] values[i]).cc]⟩]) (hA.app _) (q:=S.length+1) (new:=[(yA names[i] values[i]).cc]) (rO _ _ _ _) (by simp) (fun n e=>by have:=hA.lt e;omega) (by simp [hz];omega) (by simp [hz];omega)
  simp only [List.length_cons,List.length_nil,Nat.zero_add] at hop8 hA8
  refine WpL.aop rfl (hop8 _ _ _ rfl rfl) ?_
  simp only [St.put]
  (refine WpL.go _ rfl fun Y y=>?_);repeat (first|(apply fw;focus ((with_reducible constructor)<;>constructor))|((first|with_reducible refine ga _ rfl fun Y y=>?_|apply ri);simp only [zb,seval,jD,hw2];refine fz y ?_;clear y Y))
  have hoff:∀k,k<2→(∀n,cL≠.ms k n)→∀n,C.ms j (((oG (names.take i) (values.take i)).map K.cc).length+1)≠.ms k n:=fun k hk hc n e=>by
   cases e
   rcases hpl8 with q|q
   ·exact hc _ q
   ·simp at q;omega
  refine⟨names.length-(i+1),_,by omega,Le.sub (by simp [Sub,find]),i+1,S8,.ms j (((oG (names.take i) (values.take i)).map K.cc).length+1),rfl,hlt,?_,hfr8 0 _ (dB h0) hc0,hfr8 1 _ (dB h1) hc1,hoff 0 (by omega) hc0,hoff 1 (by omega) hc1,rfl⟩
  rw [OS hlt hv2,List.map_append];exact hA8
 ·have hd0:decide ((i:Int)<(names.length:Int))=false:=by simp;omega
  have hii:i=names.length:=by omega
  subst hii
  have e1:List.take names.length values=values:=List.take_of_length_le (by omega)
  rw [List.take_length,e1] at hA
  repeat (first|(apply fw;focus ((with_reducible constructor)<;>constructor)))
  ((with_reducible refine ga _ rfl fun Y y=>?_);simp only [zb,seval,jD,hd0];(refine RunTo.fn y (by first|(simp;done)|omega|(simp;omega)) ?_);clear y Y);repeat (first|(apply fw;focus ((with_reducible constructor)<;>constructor)))
  have hzl:(oG names values).length=names.length:=by simp [oG];omega
  have hsq:=oZ (oG names values++[body])
  have hlm:=jT names ⟨#[]⟩ (gR (oG names values++[body])) hlen
  rw [MV]
  simp only [rsA] at hlm ⊢
  refine WpA.region ?_
  (try simp only [St.put]);(refine WpL.op rfl (aB (P:=Tryz.prog) rfl) (aH (by simp only [zb,seval,jD,h0,kcc];rfl) (by first|(simp;done)|omega|(simp;omega))) ?_);simp only [St.put];(refine WpL.op rfl (aB (P:=Tryz.prog) rfl) (aH (by simp only [zb,seval,jD,h0,kcc];rfl) (by first|(simp;done)|omega|(simp;omega))) ?_);simp only [St.put];(refine WpL.op rfl (aB (P:=Tryz.prog) rfl) (aH (by simp only [zb,seval,jD,h0,kcc];rfl) (by first|(simp;done)|omega|(simp;omega))) ?_);simp only [St.put];(refine WpL.op rfl (aB (P:=Tryz.prog) rfl) (aH (by simp only [zb,seval,jD,h0,kcc];rfl) (by first|(simp;done)|omega|(simp;omega))) ?_);simp only [St.put]
  obtain⟨S8,j,hA8,hj8,hl8,hfr8,hpl8,hop8⟩:=fK (P:=Tryz.prog) (T:=29) (by_:=176) bM bO bP (by omega) (S:=S++[some ⟨31,11,[body.cc]⟩]) (hA.app _) (q:=S.length) (new:=[body.cc]) (nF _ _ _) (by simp) (fun n e=>by have:=hA.lt e;omega) (by simp [hzl];omega) (by simp [hzl];omega)
  simp only [List.length_cons,List.length_nil,Nat.zero_add] at hop8 hA8
  rw [show (oG names values).map K.cc++[body.cc]=(oG names values++[body]).map K.cc by simp] at hA8
  have h18:=hfr8 1 _ (dB h1) hc1
  have hof:∀n,C.ms j (((oG names values).map K.cc).length+1)≠.ms 1 n:=fun n e=>by
   cases e
   rcases hpl8 with q|q
   ·exact hc1 _ q
   ·rw [List.length_append] at q;simp only [List.length_cons,List.length_nil] at q;omega
  refine WpL.aop rfl (hop8 _ _ _ rfl rfl) ?_
  simp only [St.put]
  refine WpL.frzAt 39 hA8.au (rQ _) rfl fun S9 hl9 ho9=>?_
  have h19:=ho9 1 _ h18 hof
  have hS9:=(List.getElem?_eq_some_iff.1 h19).1
  repeat (first|(apply fw;focus ((with_reducible constructor)<;>constructor))|((first|with_reducible refine ga _ rfl fun Y y=>?_|(refine ca ?_;apply Exists.intro;constructor;assumption;intro Y y)|apply ri);simp only [zb,seval,jD,kcc,aK,hl];refine fz y ?_;clear y Y))
  generalize hfe:fQ names ⟨#[]⟩ (gR (oG names values++[body]))=fe at *
  have hfe':fQ names e0 (gR (oG names values++[body]))=fe:=hfe
  rw [hfe']
  have hfle:fe.2≤2:=hfe▸lT _ _ _
  refine WpA.loop (RdI names fe.1 fe.2) names.length (st0:=⟨[(48,.one (.v (.int .i64 (0:Nat)))),(47,.one (.v (.int .i64 names.length))),(13,.one (.ms (S9.length+1) 1)),(12,.one (.er fe.2)),(6,.one (.ptr 1 1 0 0)),(7,.one (.er 0)),(0,.one (.sl 1 (dQ names)))],S9++[some ⟨31,11,[fe.1.cc]⟩,some ⟨31,11,[fe.1.cc]⟩]⟩) (Le.sub (by simp [Sub,find])) ⟨0,_,_,rfl,Nat.zero_le _,.inr ⟨by simp,S9.length+1,rfl,rO _ _ _ _⟩,dB h19,(fun n e=>by have:=(C.ms.inj e).1;omega),rfl⟩ ?_
  clear hA hA8 hj8 hfr8 hpl8 hop8 h0 h1 hc0 hc1 h18 h19 hS9 ho9 hof
  intro n' st hI
  obtain⟨i,S,cO,rfl,hi,hA,h1,hc1,rfl⟩:=hI
  have hw2:IntKind.i64.wrap ((i:Int)+1)=((i+1:Nat):Int):=by rw [dA (by omega) (by omega)];omega
  have hS:=(List.getElem?_eq_some_iff.1 h1).1
  by_cases hlt:i<names.length
  ·have hd1:decide ((i:Int)<(names.length:Int))=true:=by simp;omega
   repeat (first|(apply fw;focus ((with_reducible constructor)<;>constructor)))
   ((with_reducible refine ga _ rfl fun Y y=>?_);simp only [zb,seval,jD,hd1];(refine RunTo.fn y (by first|(simp;done)|omega|(simp;omega)) ?_);clear y Y);repeat (first|(apply fw;focus ((with_reducible constructor)<;>constructor)))
   refine WpA.region ?_
   (try simp only [St.put]);(refine WpL.op rfl (aB (P:=Tryz.prog) rfl) (aH (by simp only [zb,seval,jD];rfl) (by first|(simp;done)|omega|(simp;omega))) ?_);simp only [St.put];(refine WpL.op rfl (aB (P:=Tryz.prog) rfl) (aH (by simp only [zb,seval,jD];rfl) (by first|(simp;done)|omega|(simp;omega))) ?_);simp only [St.put]
   refine WpL.ale 51 (.agg lV.cc) rfl (by simp only [rcc];exact ae) ?_
   (try simp only [St.put]);(refine WpL.op rfl (aB (P:=Tryz.prog) rfl) (aH (by simp only [zb,seval,jD,kcc,aK];rfl) (by first|(simp;done)|omega|(simp;omega))) ?_);simp only [St.put]
   obtain⟨S8,j,hA8,hj8,hl8,hfr8,hpl8,hop8⟩:=fK (P:=Tryz.prog) (T:=29) (by_:=176) bM bO bP (by omega) (S:=S++[some ⟨31,11,[lV.cc]⟩]) (hA.app _) (q:=S.length) (new:=[lV.cc]) (nF _ _ _) (by simp) (fun n e=>by have:=hA.lt e;omega) (by simp;omega) (by simp;omega)
   simp only [List.length_cons,List.length_nil,Nat.zero_add] at hop8 hA8
   rw [show (fe.1::List.replicate i lV).map K.cc++[lV.cc]=(fe.1::List.replicate (i+1) lV).map K.cc by rw [List.replicate_succ'];simp] at hA8
   refine WpL.aop rfl (hop8 _ _ _ rfl rfl) ?_
   simp only [St.put]
   (refine WpL.go _ rfl fun Y y=>?_);repeat (first|(apply fw;focus ((with_reducible constructor)<;>constructor))|((first|with_reducible refine ga _ rfl fun Y y=>?_|apply ri);simp only [zb,seval,jD,hw2];refine fz y ?_;clear y Y))
   refine⟨names.length-(i+1),_,by omega,Le.sub (by simp [Sub,find]),i+1,S8,_,rfl,hlt,hA8,hfr8 1 _ (dB h1) hc1,fun n e=>?_,rfl⟩
   cases e
   rcases hpl8 with q|q
   ·exact hc1 _ q
   ·rw [List.length_append] at q;simp only [List.length_cons,List.length_nil] at q;omega
  ·have hd0:decide ((i:Int)<(names.length:Int))=false:=by simp;omega
   have hii:i=names.length:=by omega
   subst hii
   have hcl:=fM (fe.1::List.replicate names.length lV)
   have hun:=jV names hlen
   have b1:=aD (unl names) fe.2 (kW _) hfle
   have b2:=aD (max (unl names) fe.2) (dL (fe.1::List.replicate names.length lV)).2 (Nat.max_le.2 ⟨kW _,hfle⟩) (fD _)
   simp only [rsA] at hcl
   repeat (first|(apply fw;focus ((with_reducible constructor)<;>constructor)))
   ((with_reducible refine ga _ rfl fun Y y=>?_);simp only [zb,seval,jD,hd0];(refine RunTo.fn y (by first|(simp;done)|omega|(simp;omega)) ?_);clear y Y);repeat (first|(apply fw;focus ((with_reducible constructor)<;>constructor)))
   refine WpA.frzAt 13 hA.au (rQ _) rfl fun S9 hl9 ho9=>?_
   have h19:=ho9 1 _ h1 hc1
   have h19':∀T,(S9++T)[1]?=_:=fun T=>dB h19
   repeat (first|(apply fw;focus ((with_reducible constructor)<;>constructor))|((first|with_reducible refine ga _ rfl fun Y y=>?_|(refine ca ?_;apply Exists.intro;constructor;assumption;intro Y y)|apply ri);simp only [zb,seval,jD,kcc,aK];refine fz y ?_;clear y Y))
   (refine WpA.draw0 7 _ _ _ rfl rfl rfl (by kernel_rfl) (by kernel_rfl) (by kernel_rfl) fun K8 hK8=>?_);simp only [zz] at hK8 ⊢;(refine Draw0.go fun K7 k=>?_);simp only [zb,seval,jD,kcc,aK];(refine qz (k _ _ ?_));clear k K7
   refine Draw0.step (oz (hun)) ?_
   (refine Draw0.go fun K7 k=>?_);simp only [zb,seval,jD,kcc,aK];(refine qz (k _ _ ?_));clear k K7
   refine Draw0.step (oz (b1)) ?_
   (refine Draw0.go fun K7 k=>?_);simp only [zb,seval,jD,kcc,aK];(refine qz (k _ _ ?_));clear k K7
   refine Draw0.step (oz (b2)) ?_
   (refine Draw0.go fun K7 k=>?_);simp only [zb,seval,jD,kcc,aK,h19'];(refine qz (k _ _ ?_));clear k K7;(try ((refine Draw0.nil (hK8 _ ?_));clear hK8 K8;(refine WpL.go _ rfl fun Y y=>?_);repeat (first|(apply fw;focus ((with_reducible constructor)<;>constructor))|((first|with_reducible refine ga _ rfl fun Y y=>?_|apply ri);simp only [zb,seval,jD,kcc,aK,h19'];refine fz y ?_;clear y Y))))
   refine ye (by simp only [zb,seval,jD,kcc,IM _ _ (show 1<S9.length by omega)];rfl) (by simp only [zv,kcc,IM _ _ (show 1<S9.length by omega)];rfl) ?_
   rfl
def dfA (r:ByteArray × K × Nat):A:=.tup [.one (.v (.string r.1)),.agg r.2.1.cc,.one (.er r.2.2)]
theorem rS {n:Nat} {ev:Ev} (hE:HE n ev) (f:D) (b:List D):(eR ev f b).2≤2:=by
 unfold eR;dsimp only
 exact Nat.max_le.2 ⟨Nat.max_le.2 ⟨RX f,hE.b2 _⟩,lT _ _ _⟩
theorem vR {n:Nat} {ev:Ev} (hE:HE n ev) (l:List D):(gF ev l).2.2≤2:=by
 unfold gF
 split
 ·exact Nat.le_refl _
 ·exact Nat.le_refl _
 ·split
  ·exact Nat.max_le.2 ⟨eU _,rS hE _ _⟩
  ·refine Nat.max_le.2 ⟨?_,hE.e2 _⟩
   split
   ·exact eU _
   ·exact Nat.max_le.2 ⟨eU _,Nat.le_refl _⟩
theorem qP {n:Nat} {ev:Ev} (hE:HE n ev) (l:List D) (hl:Gds n l):Pure Tryz.prog 56 [.one (.sl 6 (l.map D.cc))] (dfA (gF ev l)):=by
 have hbig:=hE.big
 have hlen:=hl.len
 have hw:Pure Tryz.prog 84 [.one (.v (.string ⟨#[100,101,102,105,110,101]⟩)),.one (.gv 1)] (.one (.er 2)):=dD _ 1
 by_cases h2:l.length<2
 ·have hde:gF ev l=(e0,kz,2):=by
   match l,h2 with
   | [],_=>rfl
   | [a],_=>rfl
  have hlt:decide ((l.length:Int)<2)=true:=by simp;omega
  rw [hde]
  refine fi Tryz.func56 Tryz.ntmps56 Tryz.results56 ?_
  repeat (first|(apply fw;focus ((with_reducible constructor)<;>constructor))|((first|with_reducible refine ga _ rfl fun Y y=>?_|(refine ca ?_;apply Exists.intro;constructor;assumption;intro Y y)|apply ri);simp only [zb,seval,w56,kcc,hlt];refine fz y ?_;clear y Y))
  refine yl (by simp only [zb,seval,w56,kcc,dfA];rfl) (by simp only [zv,kcc,dfA];rfl) ((by simp only [rcc,dfA];exact ae)) rfl
 ·obtain⟨a,b,r,hlr⟩:∃a b r,a::b::r=l:=by
   match l,h2 with
   | [],h=>exact absurd (by simp) h
   | [a],h=>exact absurd (by simp) h
   | a::b::r,_=>exact⟨a,b,r,rfl⟩
  obtain⟨g0,gt,gd,gl,gn,g11,g00,g22⟩:=qD a (b::r) l hlr
  obtain⟨g1,gdd⟩:=UB a b r l hlr
  have hlt:decide ((l.length:Int)<2)=false:=by simp;omega
  have ha:Gd n a:=hl.mem (by rw [←hlr];simp)
  have hb:Gd n b:=hl.mem (by rw [←hlr];simp)
  have htl:Gds n (b::r):=(hlr▸hl:Gds n (a::b::r)).tail
  by_cases hk:a.k=7
  ·have h7:(a.k == 7)=true:=by simp [hk]
   obtain⟨hp,hf,hs,hm⟩:=ha.pair hk
   have hde:gF ev l=((bR a.fst).1,(eR ev a.snd (b::r)).1,max (bR a.fst).2 (eR ev a.snd (b::r)).2):=by rw [←hlr];exact if_pos hk
   have hv:=kJ a.fst
   have hfu:=tC hE a.snd (b::r) hs htl
   have hbo:=aD (bR a.fst).2 (eR ev a.snd (b::r)).2 (eU _) (rS hE _ _)
   rw [D.cc_eq a,hp] at g0
   rw [hde]
   simp only [rsA] at hfu
   refine fi Tryz.func56 Tryz.ntmps56 Tryz.results56 ?_
   repeat (first|(apply fw;focus ((with_reducible constructor)<;>constructor))|((first|with_reducible refine ga _ rfl fun Y y=>?_|(refine ca ?_;apply Exists.intro;constructor;assumption;intro Y y)|apply ri);simp only [zb,seval,w56,kcc,hlt,g0,h7,List.map_cons,List.map_nil];refine fz y ?_;clear y Y))
   (refine WpA.draw1c 14 [12,13] [_,?_,?_] _ _ _ _ rfl rfl rfl (by kernel_rfl) (by kernel_rfl) (by kernel_rfl) (by kernel_rfl) rfl rfl rfl rfl (by decide) fun K8 hK8=>?_);rotate_left 2;simp only [zz] at hK8 ⊢;(refine Draw1.go fun K7 k=>?_);simp only [zb,seval,w56,kcc,g0,gt,gd,gn,g11,List.map_cons,List.map_nil];(refine qz (k _ _ (by rfl) ?_));clear k K7;(simp only [zz,Nat.reduceAdd,Nat.reduceSub])
   refine Draw1.step (by rfl) (fun s9 _=>oz (hfu)) ?_
   (refine Draw1.go fun K7 k=>?_);simp only [zb,seval,w56,kcc];(refine qz (k _ _ (by rfl) ?_));clear k K7;(simp only [zz,Nat.reduceAdd,Nat.reduceSub])
   refine Draw1.eff 0 rfl rfl rfl (OpS.eff [] rfl (by rfl) trivial (by simp only [zb,seval,w56,kcc];rfl) (by first|(simp;done)|omega|(simp;omega))) ?_;(try simp only [bH]);(try ((refine Draw1.go fun K7 k=>?_);simp only [zb,seval,w56,kcc];(refine qz (k _ _ (by rfl) ?_));clear k K7;(simp only [zz,Nat.reduceAdd,Nat.reduceSub]);(try ((refine nz (hK8 _ ?_));clear hK8 K8;(refine WpL.go _ rfl fun Y y=>?_);repeat (first|(apply fw;focus ((with_reducible constructor)<;>constructor))|((first|with_reducible refine ga _ rfl fun Y y=>?_|apply ri);simp only [zb,seval,w56,kcc];refine fz y ?_;clear y Y))))))
   refine Draw1.eff 1 rfl rfl rfl (OpS.eff [(7,_),(44,_)] rfl (by rfl) ⟨rfl,rfl,trivial⟩ (by simp only [zb,seval,w56,kcc];rfl) (by first|(simp;done)|omega|(simp;omega))) ?_;(try simp only [bH]);(try ((refine Draw1.go fun K7 k=>?_);simp only [zb,seval,w56,kcc];(refine qz (k _ _ (by rfl) ?_));clear k K7;(simp only [zz,Nat.reduceAdd,Nat.reduceSub]);(try ((refine nz (hK8 _ ?_));clear hK8 K8;(refine WpL.go _ rfl fun Y y=>?_);repeat (first|(apply fw;focus ((with_reducible constructor)<;>constructor))|((first|with_reducible refine ga _ rfl fun Y y=>?_|apply ri);simp only [zb,seval,w56,kcc];refine fz y ?_;clear y Y))))))
   (refine WpA.draw0 6 _ _ _ rfl rfl rfl (by kernel_rfl) (by kernel_rfl) (by kernel_rfl) fun K8 hK8=>?_);simp only [zz] at hK8 ⊢;(refine Draw0.go fun K7 k=>?_);simp only [zb,seval,w56,kcc];(refine qz (k _ _ ?_));clear k K7
   refine Draw0.step (oz (hbo)) ?_
   (refine Draw0.go fun K7 k=>?_);simp only [zb,seval,w56,kcc];(refine qz (k _ _ ?_));clear k K7;(try ((refine Draw0.nil (hK8 _ ?_));clear hK8 K8;(refine WpL.go _ rfl fun Y y=>?_);repeat (first|(apply fw;focus ((with_reducible constructor)<;>constructor))|((first|with_reducible refine ga _ rfl fun Y y=>?_|apply ri);simp only [zb,seval,w56,kcc];refine fz y ?_;clear y Y))))
   refine ye (by simp only [zb,seval,w56,kcc];rfl) (by simp only [zv,kcc];rfl) ?_
   rfl
  ·have h7:(a.k == 7)=false:=by simp [hk]
   have hde:gF ev l=((bR a).1,(ev.e b).1,max (if r=[] then (bR a).2 else max (bR a).2 2) (ev.e b).2):=by rw [←hlr];exact if_neg hk
   have hv:=kJ a
   have hx:=hE.e b hb
   rw [D.cc_eq a] at g0 hv
   rw [hde]
   simp only [rsA] at hx
   by_cases hr:r=[]
   ·have hn2:((l.length:Int) != 2)=false:=by rw [←hlr,hr];rfl
    have hbo:=aD (bR a).2 (ev.e b).2 (eU _) (hE.e2 _)
    rw [if_pos hr]
    refine fi Tryz.func56 Tryz.ntmps56 Tryz.results56 ?_
    repeat (first|(apply fw;focus ((with_reducible constructor)<;>constructor))|((first|with_reducible refine ga _ rfl fun Y y=>?_|(refine ca ?_;apply Exists.intro;constructor;assumption;intro Y y)|apply ri);simp only [zb,seval,w56,kcc,hlt,g0,h7,hn2,g1];refine fz y ?_;clear y Y))
    (refine WpA.draw0 6 _ _ _ rfl rfl rfl (by kernel_rfl) (by kernel_rfl) (by kernel_rfl) fun K8 hK8=>?_);simp only [zz] at hK8 ⊢;(refine Draw0.go fun K7 k=>?_);simp only [zb,seval,w56,kcc];(refine qz (k _ _ ?_));clear k K7
    refine Draw0.step (oz (hbo)) ?_
    (refine Draw0.go fun K7 k=>?_);simp only [zb,seval,w56,kcc];(refine qz (k _ _ ?_));clear k K7;(try ((refine Draw0.nil (hK8 _ ?_));clear hK8 K8;(refine WpL.go _ rfl fun Y y=>?_);repeat (first|(apply fw;focus ((with_reducible constructor)<;>constructor))|((first|with_reducible refine ga _ rfl fun Y y=>?_|apply ri);simp only [zb,seval,w56,kcc];refine fz y ?_;clear y Y))))
    refine ye (by simp only [zb,seval,w56,kcc];rfl) (by simp only [zv,kcc];rfl) ?_
    rfl
   ·have hn2:((l.length:Int) != 2)=true:=by
     have:r.length≠0:=fun h=>hr (List.length_eq_zero_iff.1 h)
     rw [←hlr];simp;omega
    have hb0:=aD (bR a).2 2 (eU _) (Nat.le_refl _)
    have hbo:=aD (max (bR a).2 2) (ev.e b).2 (Nat.max_le.2 ⟨eU _,Nat.le_refl _⟩) (hE.e2 _)
    rw [if_neg hr]
    refine fi Tryz.func56 Tryz.ntmps56 Tryz.results56 ?_
    repeat (first|(apply fw;focus ((with_reducible constructor)<;>constructor))|((first|with_reducible refine ga _ rfl fun Y y=>?_|(refine ca ?_;apply Exists.intro;constructor;assumption;intro Y y)|apply ri);simp only [zb,seval,w56,kcc,hlt,g0,h7,hn2,g1];refine fz y ?_;clear y Y))
    (refine WpA.draw0 6 _ _ _ rfl rfl rfl (by kernel_rfl) (by kernel_rfl) (by kernel_rfl) fun K8 hK8=>?_);simp only [zz] at hK8 ⊢;(refine Draw0.go fun K7 k=>?_);simp only [zb,seval,w56,kcc];(refine qz (k _ _ ?_));clear k K7
    refine Draw0.step (oz (hbo)) ?_
    (refine Draw0.go fun K7 k=>?_);simp only [zb,seval,w56,kcc];(refine qz (k _ _ ?_));clear k K7;(try ((refine Draw0.nil (hK8 _ ?_));clear hK8 K8;(refine WpL.go _ rfl fun Y y=>?_);repeat (first|(apply fw;focus ((with_reducible constructor)<;>constructor))|((first|with_reducible refine ga _ rfl fun Y y=>?_|apply ri);simp only [zb,seval,w56,kcc];refine fz y ?_;clear y Y))))
    refine ye (by simp only [zb,seval,w56,kcc];rfl) (by simp only [zv,kcc];rfl) ?_
    rfl
theorem OT (ev:Ev) {l:List D} {i:Nat} (h:i<l.length):oS ev (l.take (i+1))=dP ev (oS ev (l.take i)) l[i]:=by
 unfold oS
 rw [List.take_succ_eq_append_getElem h,List.foldl_append];rfl
theorem RY (ev:Ev) (l:List D):(oS ev l).names.length=(oS ev l).values.length∧(oS ev l).names.length+(oS ev l).rest.length=l.length:=by
 have key:∀(l:List D) (s:Bs),s.names.length=s.values.length→(l.foldl (dP ev) s).names.length=(l.foldl (dP ev) s).values.length∧(l.foldl (dP ev) s).names.length+(l.foldl (dP ev) s).rest.length=s.names.length+s.rest.length+l.length:=by
  intro l
  induction l with
  | nil=>intro s h;exact⟨h,rfl⟩
  | cons d l ih =>
   intro s h
   rw [List.foldl_cons]
   have h2:(dP ev s d).names.length=(dP ev s d).values.length∧(dP ev s d).names.length+(dP ev s d).rest.length=s.names.length+s.rest.length+1:=by
    unfold dP
    split
    ·exact⟨h,by simp;omega⟩
    ·exact⟨by simp [h],by simp;omega⟩
   obtain⟨g1,g2⟩:=ih _ h2.1
   exact⟨g1,by rw [g2,h2.2,List.length_cons];omega⟩
 have:=key l ⟨[],[],[],0⟩ rfl
 simpa [oS] using this
theorem IOq {n:Nat} {ev:Ev} (hE:HE n ev) (l:List D):(oS ev l).err≤2:=by
 have key:∀(l:List D) (s:Bs),s.err≤2→(l.foldl (dP ev) s).err≤2:=by
  intro l
  induction l with
  | nil=>intro s h;exact h
  | cons d l ih =>
   intro s h
   rw [List.foldl_cons]
   refine ih _ ?_
   unfold dP
   split
   ·exact Nat.max_le.2 ⟨h,hE.e2 _⟩
   ·dsimp only
    split
    ·exact Nat.max_le.2 ⟨h,vR hE _⟩
    ·exact Nat.max_le.2 ⟨Nat.max_le.2 ⟨h,vR hE _⟩,Nat.le_refl _⟩
 exact key l _ (Nat.zero_le _)
structure BodS (s:Bs) (S:List (Option Ob)) (cN cV cR:C):Prop where
 n:At 9 1 S cN (dQ s.names)
 v:At 31 11 S cV (s.values.map K.cc)
 r:At 31 11 S cR (s.rest.map K.cc)
 box:S[0]?=some (some ⟨31,11,[[.v (.int .i64 0),.v (.string ⟨#[]⟩),.v (.string ⟨#[]⟩),.v (.slice none 0 0),.v (.int .i64 0),.v (.int .i32 0),.v (.bool false),.v (.slice none 0 0),.v (.string ⟨#[]⟩),.v (.slice none 0 0),.v (.slice none 0 0)]]⟩)
 v0:∀n,cV≠.ms 0 n
 r0:∀n,cR≠.ms 0 n
 vr:∀j n m,cV=.ms j n→cR≠.ms j m
def YI (ev:Ev) (l:List D) (n:Nat) (st:St):Prop:=∃(i:Nat) (S:List (Option Ob)) (cN cV cR:C),n=l.length-i∧i≤l.length∧BodS (oS ev (l.take i)) S cN cV cR ∧
 st=⟨[(22,.one (.v (.int .i64 i))),(21,.one (.v (.int .i64 l.length))),(20,.one (.sl 6 (l.map D.cc))),(2,.one (.ptr 0 1 0 0)),(3,.one (.er 0)),(4,.one cN),(5,.one cV),(6,.one cR),(7,.one (.er (oS ev (l.take i)).err))],S⟩
theorem IP {n:Nat} {ev:Ev} (hE:HE n ev) (hEe:∀d,Gd (n+1) d→Pure Tryz.prog 57 [.agg d.cc] (rsA (ev.e d))) (hb1:n+1≤100000000) (l0:List D) (hl0:Gds (n+1) l0):Pure Tryz.prog 106 [.one (.sl 6 (l0.map D.cc))] (rsA (zX ev l0)):=by
 have hbig:=hE.big
 have hsp:=ER l0 hl0 hb1
 have hw:Pure Tryz.prog 84 [.one (.v (.string ⟨#[98,111,100,121]⟩)),.one (.gv 1)] (.one (.er 2)):=dD _ 1
 have hl:=(MU hl0).1
 unfold zX
 generalize spl l0=l at hsp hl ⊢
 have hlen:=hl.len
 refine fi Tryz.func106 Tryz.ntmps106 Tryz.results106 ?_
 repeat (first|(apply fw;focus ((with_reducible constructor)<;>constructor))|((first|with_reducible refine ga _ rfl fun Y y=>?_|(refine ca ?_;apply Exists.intro;constructor;assumption;intro Y y)|apply ri);simp only [zb,seval,jY,kcc];refine fz y ?_;clear y Y))
 refine WpA.loop (YI ev l) l.length (st0:=⟨[(22,.one (.v (.int .i64 (0:Nat)))),(21,.one (.v (.int .i64 l.length))),(20,.one (.sl 6 (l.map D.cc))),(2,.one (.ptr 0 1 0 0)),(3,.one (.er 0)),(4,.one (.v (.slice none 0 0))),(5,.one (.v (.slice none 0 0))),(6,.one (.v (.slice none 0 0))),(7,.one (.er 0))],[some ⟨31,11,[[.v (.int .i64 0),.v (.string ⟨#[]⟩),.v (.string ⟨#[]⟩),.v (.slice none 0 0),.v (.int .i64 0),.v (.int .i32 0),.v (.bool false),.v (.slice none 0 0),.v (.string ⟨#[]⟩),.v (.slice none 0 0),.v (.slice none 0 0)]]⟩]⟩) (Le.sub (by simp [Sub,find]))
  ⟨0,_,_,_,_,rfl,Nat.zero_le _,⟨At.nil _ _ _,At.nil _ _ _,At.nil _ _ _,rfl,(fun n e=>by cases e),(fun n e=>by cases e),(fun j n m e=>by cases e)⟩,rfl⟩ ?_
 intro n' st hI
 obtain⟨i,S,cN,cV,cR,rfl,hi,hB,rfl⟩:=hI
 have hw2:IntKind.i64.wrap ((i:Int)+1)=((i+1:Nat):Int):=by rw [dA (by omega) (by omega)];omega
 obtain⟨hln,hlr⟩:=RY ev (l.take i)
 rw [List.length_take,Nat.min_eq_left hi] at hlr
 have hbe:=IOq hE (l.take i)
 have hS0:=(List.getElem?_eq_some_iff.1 hB.box).1
 by_cases hlt:i<l.length
 ·have hd1:decide ((i:Int)<(l.length:Int))=true:=by simp;omega
  have hget:=vF hlt
  have hb:=hl.mem (List.getElem_mem hlt)
  have hhd:=oY (n+1) l[i] gG hb (by omega)
  have htk:=OT ev hlt
  generalize hs0:oS ev (l.take i)=s0 at *
  generalize hdd:l[i]=d at *
  cases hh:eM d gG with
  | none =>
   have hx:=hEe d hb
   have hbo:=aD s0.err (ev.e d).2 hbe (hE.e2 _)
   have hst:dP ev s0 d=⟨s0.names,s0.values,s0.rest++[(ev.e d).1],max s0.err (ev.e d).2⟩:=by unfold dP;rw [hh]
   rw [hst] at htk
   rw [hh] at hhd
   simp only [lW] at hhd
   simp only [rsA] at hx
   repeat (first|(apply fw;focus ((with_reducible constructor)<;>constructor))|((first|with_reducible refine ga _ rfl fun Y y=>?_|(refine ca ?_;apply Exists.intro;constructor;assumption;intro Y y)|apply ri);simp only [zb,seval,jY,hd1,hget,kcc,aK];refine fz y ?_;clear y Y))
   refine WpA.region ?_
   (try simp only [St.put]);(refine WpL.op rfl (aB (P:=Tryz.prog) rfl) (aH (by simp only [zb,seval,jY,kcc,aK];rfl) (by first|(simp;done)|omega|(simp;omega))) ?_);simp only [St.put];(refine WpL.op rfl (aB (P:=Tryz.prog) rfl) (aH (by simp only [zb,seval,jY,kcc,aK];rfl) (by first|(simp;done)|omega|(simp;omega))) ?_);simp only [St.put];(refine WpL.op rfl (aB (P:=Tryz.prog) rfl) (aH (by simp only [zb,seval,jY,kcc,aK];rfl) (by first|(simp;done)|omega|(simp;omega))) ?_);simp only [St.put]
   obtain⟨S8,j,hA8,hj8,hl8,hfr8,hpl8,hop8⟩:=fK (P:=Tryz.prog) (T:=29) (by_:=176) bM bO bP (by omega) (S:=S++[some ⟨28,6,[d.cc]⟩,some ⟨31,11,[(ev.e d).1.cc]⟩,some ⟨31,11,[(ev.e d).1.cc]⟩]) (hB.r.app _) (q:=S.length+2) (new:=[(ev.e d).1.cc]) (rP _ _ _ _ _) (by simp) (fun n e=>by have:=hB.r.lt e;omega) (by simp;omega) (by simp;omega)
   simp only [List.length_cons,List.length_nil,Nat.zero_add] at hop8 hA8
   refine WpL.aop rfl (hop8 _ _ _ rfl rfl) ?_
   simp only [St.put]
   have hee:max s0.err (ev.e d).2=(oS ev (l.take (i+1))).err:=by rw [htk]
   (refine WpL.go _ rfl fun Y y=>?_);repeat (first|(apply fw;focus ((with_reducible constructor)<;>constructor))|((first|with_reducible refine ga _ rfl fun Y y=>?_|apply ri);simp only [zb,seval,jY,hw2,hee];refine fz y ?_;clear y Y))
   have hpl:cR=.ms j (s0.rest.map K.cc).length∨S.length≤j:=hpl8.imp id fun q=>by rw [List.length_append] at q;omega
   refine⟨l.length-(i+1),_,by omega,Le.sub (by simp [Sub,find]),i+1,S8,cN,cV,.ms j ((s0.rest.map K.cc).length+1),rfl,hlt,?_,rfl⟩
   rw [htk]
   refine⟨hB.n.stay fun k hk _=>hfr8 k _ (dB hk) (hB.r.apart hk (by show (9:Nat)≠_;decide)),hB.v.stay fun k hk e=>hfr8 k _ (dB hk) fun m=>hB.vr k _ m e,?_,hfr8 0 _ (dB hB.box) hB.r0,hB.v0,fun m e=>?_,fun k a m e e2=>?_⟩
   ·show At _ _ _ _ ((s0.rest++[(ev.e d).1]).map K.cc)
    rw [List.map_append];exact hA8
   ·have:=(C.ms.inj e).1
    rcases hpl with q|q
    ·exact hB.r0 _ (this▸q)
    ·omega
   ·have h1:=(C.ms.inj e2).1
    subst h1
    rcases hpl with q|q
    ·exact hB.vr _ _ _ e q
    ·have:=hB.v.lt e;omega
  | some x =>
   obtain⟨g1,g2⟩:=nH hb hh
   have hdf:=qP hE x ⟨g1.1,g1.2.1,by have:=hb.2.2;omega⟩
   have hbo:=aD s0.err (gF ev x).2.2 hbe (vR hE _)
   have hbo2:=aD (max s0.err (gF ev x).2.2) 2 (Nat.max_le.2 ⟨hbe,vR hE _⟩) (Nat.le_refl _)
   rw [hh] at hhd
   simp only [lW] at hhd
   simp only [dfA] at hdf
   have hrl:=hB.r.len
   have done:∀(S9:List (Option Ob)) (j k:Nat) (e9:Nat),dP ev s0 d=⟨s0.names++[(gF ev x).1],s0.values++[(gF ev x).2.1],s0.rest,e9⟩→At 9 1 S9 (.ms j ((dQ s0.names).length+1)) (dQ s0.names++[[.v (.string (gF ev x).1)]])→At 31 11 S9 (.ms k ((s0.values.map K.cc).length+1)) (s0.values.map K.cc++[(gF ev x).2.1.cc])→At 31 11 S9 cR (s0.rest.map K.cc)→S9[0]?=S[0]?→(cV=.ms k (s0.values.map K.cc).length∨S.length≤k)→BodS (oS ev (l.take (i+1))) S9 (.ms j ((dQ s0.names).length+1)) (.ms k ((s0.values.map K.cc).length+1)) cR:=fun S9 j k e9 hst hN hV hR h0 hk=>by
    rw [htk,hst]
    refine⟨by rw [pB];exact hN,?_,hR,h0.trans hB.box,fun m e=>?_,hB.r0,fun q a m e e2=>?_⟩
    ·show At _ _ _ _ ((s0.values++[(gF ev x).2.1]).map K.cc)
     rw [List.map_append];exact hV
    ·have:=(C.ms.inj e).1
     rcases hk with h|h
     ·exact hB.v0 _ (this▸h)
     ·omega
    ·have h1:=(C.ms.inj e).1
     subst h1
     rcases hk with h|h
     ·exact hB.vr _ _ _ h e2
     ·have:=hB.r.lt e2;omega
   obtain⟨S8,c8,hA8,hl8,hfr8,hpl8,hop8⟩:=mJ (P:=Tryz.prog) (T:=22) (by_:=16) dH dJ dK (by omega) (S:=S++[some ⟨28,6,[d.cc]⟩,none]) (hB.n.app _) (new:=[[.v (.string (gF ev x).1)]]) (by simp) (by rw [dR];simp;omega) (by rw [dR];simp;omega)
   have hV8:At 31 11 S8 cV (s0.values.map K.cc):=hB.v.stay fun k hk _=>hfr8 k _ (dB hk) (hB.n.apart hk (by show (31:Nat)≠_;decide))
   have hR8:At 31 11 S8 cR (s0.rest.map K.cc):=hB.r.stay fun k hk _=>hfr8 k _ (dB hk) (hB.n.apart hk (by show (31:Nat)≠_;decide))
   have h08:=hfr8 0 _ (dB hB.box) (hB.n.apart hB.box (by show (31:Nat)≠_;decide))
   obtain⟨S9,c9,hA9,hl9,hfr9,hpl9,hop9⟩:=mJ (P:=Tryz.prog) (T:=29) (by_:=176) bM bO bP (by omega) (S:=S8) hV8 (new:=[(gF ev x).2.1.cc]) (by simp [kcc]) (by simp;omega) (by simp;omega)
   have hN9:At 9 1 S9 c8 _:=hA8.stay fun k hk _=>hfr9 k _ hk (hV8.apart hk (by show (9:Nat)≠_;decide))
   have hR9:At 31 11 S9 cR (s0.rest.map K.cc):=hR8.stay fun k hk e=>hfr9 k _ hk fun m e2=>hB.vr k _ _ e2 e
   have h09:=hfr9 0 _ h08 hB.v0
   obtain⟨j8,rfl⟩:∃j8,c8=.ms j8 ((dQ s0.names).length+1):=by
    rcases hN9 with ⟨h,_⟩|⟨_,j8,h,_⟩
    ·simp at h
    ·exact⟨j8,by rw [h];simp⟩
   obtain⟨k9,rfl⟩:∃k9,c9=.ms k9 ((s0.values.map K.cc).length+1):=by
    rcases hA9 with ⟨h,_⟩|⟨_,k9,h,_⟩
    ·simp at h
    ·exact⟨k9,by rw [h];simp⟩
   have hk9:cV=.ms k9 (s0.values.map K.cc).length∨S.length≤k9:=by
    rcases hpl9 _ _ rfl with ⟨k,h⟩|h
    ·left
     rcases hB.v with ⟨_,h2⟩|⟨_,q,h2,_⟩
     ·rw [h2] at h;cases h
     ·rw [h2] at h ⊢
      have:=(C.ms.inj h).1
      rw [this]
    ·right
     rw [List.length_append] at hl8;omega
      
   by_cases hr:s0.rest=[]
   ·have hst:dP ev s0 d=⟨s0.names++[(gF ev x).1],s0.values++[(gF ev x).2.1],s0.rest,max s0.err (gF ev x).2.2⟩:=by unfold dP;rw [hh];dsimp only;rw [if_pos hr]
    have hee:max s0.err (gF ev x).2.2=(oS ev (l.take (i+1))).err:=by rw [htk,hst]
    have hg0:decide ((0:Int)<(s0.rest.length:Int))=false:=by rw [hr];rfl
    repeat (first|(apply fw;focus ((with_reducible constructor)<;>constructor))|((first|with_reducible refine ga _ rfl fun Y y=>?_|(refine ca ?_;apply Exists.intro;constructor;assumption;intro Y y)|apply ri);simp only [zb,seval,jY,hd1,hget,kcc,aK,↓hrl,hg0];refine fz y ?_;clear y Y))
    skip
    refine WpA.frzP 15 (S.length+1) rfl (by simp only [aK];rfl) (gF ev x).2.1.cc_shut ?_
    simp only [aK]
    refine WpA.draw1 8 [3,7] [] [_,S8,S9] _ _ _ _ rfl rfl rfl (by kernel_rfl) (by kernel_rfl) (by kernel_rfl) (by kernel_rfl) rfl rfl rfl rfl (by decide) fun K8 hK8=>?_
    simp only [zz] at hK8 ⊢
    (refine Draw1.go fun K7 k=>?_);simp only [zb,seval,jY,kcc];(refine qz (k _ _ (by rfl) ?_));clear k K7;(simp only [zz,Nat.reduceAdd,Nat.reduceSub])
    refine Draw1.step (by rfl) (fun s9 _=>OpS.frozen (n:=1) (wd:=1) (ty:=9) (rows:=[[.v (.string (gF ev x).1)]]) (OpS.eff [(62,_)] rfl (by rfl) ⟨rfl,trivial⟩ (by simp only [zb,seval,jY,kcc];rfl) (by simp)) rfl (by simp [ksh])) ?_;simp only [bH]
    refine Draw1.eff 0 rfl rfl rfl (OpS.effO [(61,_),(63,_)] rfl (by rfl) ⟨rfl,rfl,trivial⟩ (hop8 _ _ _ _ _ rfl rfl) rfl) ?_
    simp only [bH]
    (refine Draw1.go fun K7 k=>?_);simp only [zb,seval,jY,kcc];(refine qz (k _ _ (by rfl) ?_));clear k K7;(simp only [zz,Nat.reduceAdd,Nat.reduceSub])
    refine Draw1.step (by rfl) (fun s9 _=>OpS.frozen (n:=1) (wd:=11) (ty:=31) (rows:=[(gF ev x).2.1.cc]) (OpS.eff [(66,_)] rfl (by rfl) ⟨rfl,trivial⟩ (by simp only [zb,seval,jY,kcc];rfl) (by simp)) rfl (by simp [ksh])) ?_;simp only [bH]
    refine Draw1.eff 1 rfl rfl rfl (OpS.effO [(65,_),(67,_)] rfl (by rfl) ⟨rfl,rfl,trivial⟩ (hop9 _ _ _ _ _ rfl rfl) rfl) ?_
    simp only [bH]
    (refine Draw1.go fun K7 k=>?_);simp only [zb,seval,jY,kcc,hw2,hee];(refine qz (k _ _ (by rfl) ?_));clear k K7;(simp only [zz,Nat.reduceAdd,Nat.reduceSub]);(try ((refine nz (hK8 _ ?_));clear hK8 K8;(refine WpL.go _ rfl fun Y y=>?_);repeat (first|(apply fw;focus ((with_reducible constructor)<;>constructor))|((first|with_reducible refine ga _ rfl fun Y y=>?_|apply ri);simp only [zb,seval,jY,kcc,hw2,hee];refine fz y ?_;clear y Y))))
    exact⟨l.length-(i+1),_,by omega,Le.sub (by simp [Sub,find]),i+1,S9,.ms j8 ((dQ s0.names).length+1),.ms k9 ((s0.values.map K.cc).length+1),cR,rfl,hlt,done S9 j8 k9 _ hst hN9 hA9 hR9 (h09.trans hB.box.symm) hk9,rfl⟩
   ·have hst:dP ev s0 d=⟨s0.names++[(gF ev x).1],s0.values++[(gF ev x).2.1],s0.rest,max (max s0.err (gF ev x).2.2) 2⟩:=by unfold dP;rw [hh];dsimp only;rw [if_neg hr]
    have hee:max (max s0.err (gF ev x).2.2) 2=(oS ev (l.take (i+1))).err:=by rw [htk,hst]
    have hg0:decide ((0:Int)<(s0.rest.length:Int))=true:=by
     have:s0.rest.length≠0:=fun h=>hr (List.length_eq_zero_iff.1 h)
     simp;omega
    repeat (first|(apply fw;focus ((with_reducible constructor)<;>constructor))|((first|with_reducible refine ga _ rfl fun Y y=>?_|(refine ca ?_;apply Exists.intro;constructor;assumption;intro Y y)|apply ri);simp only [zb,seval,jY,hd1,hget,kcc,aK,↓hrl,hg0];refine fz y ?_;clear y Y))
    skip
    refine WpA.frzP 15 (S.length+1) rfl (by simp only [aK];rfl) (gF ev x).2.1.cc_shut ?_
    simp only [aK]
    refine WpA.draw1 8 [3,7] [] [_,S8,S9] _ _ _ _ rfl rfl rfl (by kernel_rfl) (by kernel_rfl) (by kernel_rfl) (by kernel_rfl) rfl rfl rfl rfl (by decide) fun K8 hK8=>?_
    simp only [zz] at hK8 ⊢
    (refine Draw1.go fun K7 k=>?_);simp only [zb,seval,jY,kcc];(refine qz (k _ _ (by rfl) ?_));clear k K7;(simp only [zz,Nat.reduceAdd,Nat.reduceSub])
    refine Draw1.step (by rfl) (fun s9 _=>OpS.frozen (n:=1) (wd:=1) (ty:=9) (rows:=[[.v (.string (gF ev x).1)]]) (OpS.eff [(62,_)] rfl (by rfl) ⟨rfl,trivial⟩ (by simp only [zb,seval,jY,kcc];rfl) (by simp)) rfl (by simp [ksh])) ?_;simp only [bH]
    refine Draw1.eff 0 rfl rfl rfl (OpS.effO [(61,_),(63,_)] rfl (by rfl) ⟨rfl,rfl,trivial⟩ (hop8 _ _ _ _ _ rfl rfl) rfl) ?_
    simp only [bH]
    (refine Draw1.go fun K7 k=>?_);simp only [zb,seval,jY,kcc];(refine qz (k _ _ (by rfl) ?_));clear k K7;(simp only [zz,Nat.reduceAdd,Nat.reduceSub])
    refine Draw1.step (by rfl) (fun s9 _=>OpS.frozen (n:=1) (wd:=11) (ty:=31) (rows:=[(gF ev x).2.1.cc]) (OpS.eff [(66,_)] rfl (by rfl) ⟨rfl,trivial⟩ (by simp only [zb,seval,jY,kcc];rfl) (by simp)) rfl (by simp [ksh])) ?_;simp only [bH]
    refine Draw1.eff 1 rfl rfl rfl (OpS.effO [(65,_),(67,_)] rfl (by rfl) ⟨rfl,rfl,trivial⟩ (hop9 _ _ _ _ _ rfl rfl) rfl) ?_
    simp only [bH]
    (refine Draw1.go fun K7 k=>?_);simp only [zb,seval,jY,kcc,hw2,hee];(refine qz (k _ _ (by rfl) ?_));clear k K7;(simp only [zz,Nat.reduceAdd,Nat.reduceSub]);(try ((refine nz (hK8 _ ?_));clear hK8 K8;(refine WpL.go _ rfl fun Y y=>?_);repeat (first|(apply fw;focus ((with_reducible constructor)<;>constructor))|((first|with_reducible refine ga _ rfl fun Y y=>?_|apply ri);simp only [zb,seval,jY,kcc,hw2,hee];refine fz y ?_;clear y Y))))
    exact⟨l.length-(i+1),_,by omega,Le.sub (by simp [Sub,find]),i+1,S9,.ms j8 ((dQ s0.names).length+1),.ms k9 ((s0.values.map K.cc).length+1),cR,rfl,hlt,done S9 j8 k9 _ hst hN9 hA9 hR9 (h09.trans hB.box.symm) hk9,rfl⟩
 ·have hd0:decide ((i:Int)<(l.length:Int))=false:=by simp;omega
  have hii:i=l.length:=by omega
  subst hii
  rw [List.take_length] at hB hln hlr hbe ⊢
  generalize oS ev l=s0 at *
  have hrn:(dQ s0.names).length=s0.names.length:=dR _
  repeat (first|(apply fw;focus ((with_reducible constructor)<;>constructor)))
  ((with_reducible refine ga _ rfl fun Y y=>?_);simp only [zb,seval,jY,hd0];(refine RunTo.fn y (by first|(simp;done)|omega|(simp;omega)) ?_);clear y Y);repeat (first|(apply fw;focus ((with_reducible constructor)<;>constructor)))
  refine WpA.frzAt 6 hB.r.au (rQ _) rfl fun S1 hl1 ho1=>?_
  have hN1:At 9 1 S1 cN _:=hB.n.stay fun k hk _=>ho1 k _ hk (hB.r.apart hk (by show (9:Nat)≠_;decide))
  have hV1:At 31 11 S1 cV _:=hB.v.stay fun k hk e=>ho1 k _ hk fun m=>hB.vr k _ m e
  have h01:=ho1 0 _ hB.box hB.r0
  refine WpA.frzAt 5 hV1.au (rQ _) rfl fun S2 hl2 ho2=>?_
  have hN2:At 9 1 S2 cN _:=hN1.stay fun k hk _=>ho2 k _ hk (hV1.apart hk (by show (9:Nat)≠_;decide))
  have h02:=ho2 0 _ h01 hB.v0
  refine WpA.frzAt 4 hN2.au (mH _) rfl fun S3 hl3 ho3=>?_
  have h03:=ho3 0 _ h02 (hN2.apart h02 (by show (31:Nat)≠_;decide))
  have hS3:=(List.getElem?_eq_some_iff.1 h03).1
  have h03':∀T,(S3++T)[0]?=_:=fun T=>dB h03
  have hset:∀(T:List (Option Ob)) (a:Option Ob),((S3++T).set 0 a)[0]?=some a:=fun T a=>List.getElem?_set_self (by simp;omega)
  have hset0:∀(a:Option Ob),(S3.set 0 a)[0]?=some a:=fun a=>List.getElem?_set_self hS3
  by_cases hr:s0.rest=[]
  ·have hz:((s0.rest.length:Int) == 0)=true:=by rw [hr];rfl
   have hbo:=aD s0.err 2 hbe (Nat.le_refl _)
   rw [show rM s0=(kz,max s0.err 2) from if_pos hr]
   repeat (first|(apply fw;focus ((with_reducible constructor)<;>constructor))|((first|with_reducible refine ga _ rfl fun Y y=>?_|(refine ca ?_;apply Exists.intro;constructor;assumption;intro Y y)|apply ri);simp only [zb,seval,jY,hz,kcc,h03];refine fz y ?_;clear y Y))
   refine yl (by simp only [zb,seval,jY,kcc,rsA,hset0];rfl) (by simp only [zv,kcc,rsA,hset0];rfl) ((by simp only [rcc,rsA];exact ae)) rfl
  ·have hz:((s0.rest.length:Int) == 0)=false:=by
    have:s0.rest.length≠0:=fun h=>hr (List.length_eq_zero_iff.1 h)
    simp;exact hr
   have hsq:=oZ s0.rest
   by_cases hnn:s0.names=[]
   ·have hz2:((s0.names.length:Int) == 0)=true:=by rw [hnn];rfl
    rw [show rM s0=(gR s0.rest,s0.err) by unfold rM;rw [if_neg hr,if_pos hnn]]
    repeat (first|(apply fw;focus ((with_reducible constructor)<;>constructor))|((first|with_reducible refine ga _ rfl fun Y y=>?_|(refine ca ?_;apply Exists.intro;constructor;assumption;intro Y y)|apply ri);simp only [zb,seval,jY,hz,hrn,hz2,kcc,h03];refine fz y ?_;clear y Y))
    refine ye (by simp only [zb,seval,jY,kcc,hset0];rfl) (by simp only [zv,kcc,hset0];rfl) ?_
    rfl
   ·have hz2:((s0.names.length:Int) == 0)=false:=by
     have:s0.names.length≠0:=fun h=>hnn (List.length_eq_zero_iff.1 h)
     simp;exact hnn
    have hrc:=iK s0.names s0.values (gR s0.rest) (by omega) hln.symm
    have hbo:=aD s0.err (mC s0.names s0.values (gR s0.rest)).2 hbe (mD _ _ _)
    rw [show rM s0=((mC s0.names s0.values (gR s0.rest)).1,max s0.err (mC s0.names s0.values (gR s0.rest)).2) by unfold rM;rw [if_neg hr,if_neg hnn]]
    simp only [rsA] at hrc
    repeat (first|(apply fw;focus ((with_reducible constructor)<;>constructor))|((first|with_reducible refine ga _ rfl fun Y y=>?_|(refine ca ?_;apply Exists.intro;constructor;assumption;intro Y y)|apply ri);simp only [zb,seval,jY,hz,hrn,hz2,kcc,aK];refine fz y ?_;clear y Y))
    (refine WpA.draw0 4 _ _ _ rfl rfl rfl (by kernel_rfl) (by kernel_rfl) (by kernel_rfl) fun K8 hK8=>?_);simp only [zz] at hK8 ⊢;(refine Draw0.go fun K7 k=>?_);simp only [zb,seval,jY,kcc,aK];(refine qz (k _ _ ?_));clear k K7
    refine Draw0.step (oz (hbo)) ?_
    (refine Draw0.go fun K7 k=>?_);simp only [zb,seval,jY,kcc,aK,h03'];(refine qz (k _ _ ?_));clear k K7;(try ((refine Draw0.nil (hK8 _ ?_));clear hK8 K8;(refine WpL.go _ rfl fun Y y=>?_);repeat (first|(apply fw;focus ((with_reducible constructor)<;>constructor))|((first|with_reducible refine ga _ rfl fun Y y=>?_|apply ri);simp only [zb,seval,jY,kcc,aK,h03'];refine fz y ?_;clear y Y))))
    refine ye (by simp only [zb,seval,jY,kcc,hset];rfl) (by simp only [zv,kcc,hset];rfl) ?_
    rfl
theorem UC {n:Nat} {ev:Ev} (hE:HE n ev) (l:List D):(zX ev l).2≤2:=by
 unfold zX rM
 have h:=IOq hE (spl l)
 split
 ·exact Nat.max_le.2 ⟨h,Nat.le_refl _⟩
 ·split
  ·exact h
  ·exact Nat.max_le.2 ⟨h,mD _ _ _⟩
end Go.Proofs.YtaeioidifpebdaaGreatDoor
end
