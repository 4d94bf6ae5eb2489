/-
 Laid together: Fun19, Bare19, Var19, Num19, Cd19, Cons19, Node19, NodeB, NodeC, NodeD, Emit19, PutA, Put19.
-/
import Derived.Test.YtaeioidifpebdaaGreatDoorG5
import Derived.Test.YtaeioidifpebdaaGreatDoorG4
import Derived.Test.YtaeioidifpebdaaGreatDoorG6
import Derived.Test.YtaeioidifpebdaaGreatDoorCopy
section
namespace Go.Proofs.YtaeioidifpebdaaGreatDoor
open Go Go.RowKit Go.Lib
set_option linter.unusedSimpArgs false
set_option linter.unusedVariables false
set_option maxHeartbeats 4000000
set_option maxRecDepth 100000
def IY {α:Type} (l:List α) (g:α→Bool):Int:=match l.findIdx? g with|some k=>k|none=>-1
theorem DA {α:Type} {l:List α} {g:α→Bool} {k:Nat} (h:k<l.length) (hk:g l[k]=true) (hb:∀j (h:j<l.length),j<k→g l[j]=false):IY l g=k:=by
 unfold IY
 rw [List.findIdx?_eq_some_iff_getElem.2 ⟨h,hk,fun j hj=>by rw [hb j (by omega) hj];simp⟩]
theorem DB {α:Type} {l:List α} {g:α→Bool} (hb:∀j (h:j<l.length),g l[j]=false):IY l g = -1:=by
 unfold IY
 rw [List.findIdx?_eq_none_iff.2 fun x hx=>by
  obtain⟨j,hj,rfl⟩:=List.mem_iff_getElem.1 hx
  exact hb j hj]
theorem IZ {α:Type} (l:List α) (g:α→Bool):decide (0≤IY l g)=l.any g:=by
 unfold IY
 cases h:l.findIdx? g with
 | none =>
  rw [List.findIdx?_eq_none_iff] at h
  have:l.any g=false:=by rw [List.any_eq_false];intro x hx;rw [h x hx];simp
  rw [this];rfl
 | some k =>
  obtain⟨hk,h1,-⟩:=List.findIdx?_eq_some_iff_getElem.1 h
  have:l.any g=true:=List.any_eq_true.2 ⟨_,List.getElem_mem hk,h1⟩
  rw [this];simp
def YN (f:FuncId) (tp:Bool) (l:List K) (g:K→Bool) (n:Nat) (st:St):Prop:=∃i:Nat,n=l.length-i∧i≤l.length∧(∀j (h:j<l.length),j<i→g l[j]=false) ∧
 st=⟨[(8,.one (.v (.int .i64 i))),(7,.one (.v (.int .i64 l.length))),(0,.one (.sl 11 (l.map K.cc))),(1,.one (.fn f []))],[]⟩
theorem EY (f:FuncId) (tp:Bool) (hcal:dH Tryz.prog f=true) (l:List K) (g:K→Bool) (hlen:l.length≤1000000000000000) (hf:∀x∈l,Pure Tryz.prog f (.agg x.cc::([]:List C).map .one) (.one (.v (.bool (g x))))):Pure Tryz.prog 67 [.one (.sl 11 (l.map K.cc)),.one (.fn f [])] (.one (.v (.int .i64 (IY l g)))):=by
 refine Fn.intro Tryz.func67 rfl Tryz.ntmps67 Tryz.results67 (by simp only [List.length_cons,List.length_nil];decide) ?_
 repeat (first|(apply fw;focus ((with_reducible constructor)<;>constructor))|((first|with_reducible refine ga _ rfl fun Y y=>?_|apply ri);simp only [zb,seval,w67];refine RunTo.fn y (by first|(simp;done)|omega|(simp;omega)) ?_;clear y Y))
 refine WpA.loop (YN f tp l g) l.length ?_ ⟨0,rfl,Nat.zero_le _,fun j _ h=>absurd h (Nat.not_lt_zero _),rfl⟩ ?_
 ·exact Le.sub (by simp [Sub,find])
 intro n' st hI
 obtain⟨i,rfl,hi,hb,rfl⟩:=hI
 have hw2:IntKind.i64.wrap ((i:Int)+1)=((i+1:Nat):Int):=by rw [dQ (by omega) (by omega)];omega
 by_cases hlt:i<l.length
 ·have hd1:decide ((i:Int)<(l.length:Int))=true:=by simp;omega
  have hget:=LC hlt
  have hc:=hf l[i] (List.getElem_mem _)
  rw [K.cc_eq] at hget hc
  repeat (first|(apply fw;focus ((with_reducible constructor)<;>constructor))|((first|with_reducible refine ga _ rfl fun Y y=>?_|apply ri);simp only [zb,seval,w67,hd1,hget];refine RunTo.fn y (by first|(simp;done)|omega|(simp;omega)) ?_;clear y Y))
  refine WpL.call rfl (aA (P:=Tryz.prog) rfl) (CallA.shut rfl rfl hcal (ALes.refl _) rfl hc ?_)
  cases hg:g l[i] with
  | true =>
   (refine WpL.go _ rfl fun Y y=>?_);repeat (first|(apply fw;focus ((with_reducible constructor)<;>constructor))|((first|with_reducible refine ga _ rfl fun Y y=>?_|apply ri);simp only [zb,seval,w67];refine RunTo.fn y (by first|(simp;done)|omega|(simp;omega)) ?_;clear y Y))
   refine⟨by simp,_,_,_,_,(by simp only [zb,seval,w67];rfl),(by simp),(by simp only [zv];rfl),(by simp [A.shut,C.shut]),_,ALe.refl _,?_⟩
   rw [DA hlt hg hb]
  | false =>
   (refine WpL.go _ rfl fun Y y=>?_);repeat (first|(apply fw;focus ((with_reducible constructor)<;>constructor))|((first|with_reducible refine ga _ rfl fun Y y=>?_|apply ri);simp only [zb,seval,w67,hw2];refine RunTo.fn y (by first|(simp;done)|omega|(simp;omega)) ?_;clear y Y))
   refine⟨l.length-(i+1),_,by omega,Le.sub (by simp [Sub,find]),i+1,rfl,hlt,fun j hj hji=>?_,rfl⟩
   rcases Nat.lt_succ_iff_lt_or_eq.1 hji with h|rfl
   ·exact hb j hj h
   ·exact hg
 ·have hd0:decide ((i:Int)<(l.length:Int))=false:=by simp;omega
  repeat (first|(apply fw;focus ((with_reducible constructor)<;>constructor))|((first|with_reducible refine ga _ rfl fun Y y=>?_|apply ri);simp only [zb,seval,w67,hd0];refine RunTo.fn y (by first|(simp;done)|omega|(simp;omega)) ?_;clear y Y))
  repeat (first|(apply fw;focus ((with_reducible constructor)<;>constructor))|((first|with_reducible refine ga _ rfl fun Y y=>?_|apply ri);simp only [zb,seval,w67,hd0];refine RunTo.fn y (by first|(simp;done)|omega|(simp;omega)) ?_;clear y Y))
  refine⟨by simp,_,_,_,_,(by simp only [zb,seval,w67];rfl),(by simp),(by simp only [zv];rfl),(by simp [A.shut,C.shut]),_,ALe.refl _,?_⟩
  rw [DB fun j hj=>hb j hj (by omega)]
theorem yH (f:FuncId) (tp:Bool) (hcal:dH Tryz.prog f=true) (l:List K) (g:K→Bool) (hlen:l.length≤1000000000000000) (hf:∀x∈l,Pure Tryz.prog f (.agg x.cc::([]:List C).map .one) (.one (.v (.bool (g x))))):Pure Tryz.prog 47 [.one (.sl 11 (l.map K.cc)),.one (.fn f [])] (.one (.v (.bool (l.any g)))):=by
 rw [←IZ]
 refine Fn.intro Tryz.func47 rfl Tryz.ntmps47 Tryz.results47 (by simp only [List.length_cons,List.length_nil];decide) ?_
 repeat (first|(apply fw;focus ((with_reducible constructor)<;>constructor))|((first|with_reducible refine ga _ rfl fun Y y=>?_|apply ri);simp only [zb,seval];refine RunTo.fn y (by first|(simp;done)|omega|(simp;omega)) ?_;clear y Y))
 refine WpL.call rfl (aA (P:=Tryz.prog) rfl) (CallA.lend rfl rfl (by kernel_rfl) (by simp only [zv];rfl) (by first|exact trivial|(simp;done)|(simp [C.shut];done)) rfl (EY f tp hcal l g hlen hf) ?_)
 (refine WpL.go _ rfl fun Y y=>?_);repeat (first|(apply fw;focus ((with_reducible constructor)<;>constructor))|((first|with_reducible refine ga _ rfl fun Y y=>?_|apply ri);simp only [zb,seval];refine RunTo.fn y (by first|(simp;done)|omega|(simp;omega)) ?_;clear y Y))
 refine⟨by simp,_,_,_,_,(by simp only [zb,seval];rfl),(by simp),(by simp only [zv];rfl),(by simp [A.shut,C.shut]),_,ALe.refl _,?_⟩
 rfl
def YO (f:FuncId) (tp:Bool) (l:List K) (g:K→Bool) (n:Nat) (st:St):Prop:=∃i:Nat,n=l.length-i∧i≤l.length∧(∀j (h:j<l.length),j<i→g l[j]=false) ∧
 st=⟨[(8,.one (.v (.int .i64 i))),(7,.one (.v (.int .i64 l.length))),(0,.one (.sl 11 (l.map K.cc))),(1,.one (.fn f [.pf [.v (.bool tp)]]))],[]⟩
theorem EZ (f:FuncId) (tp:Bool) (hcal:dH Tryz.prog f=true) (l:List K) (g:K→Bool) (hlen:l.length≤1000000000000000) (hf:∀x∈l,Pure Tryz.prog f (.agg x.cc::([.pf [.v (.bool tp)]]:List C).map .one) (.one (.v (.bool (g x))))):Pure Tryz.prog 67 [.one (.sl 11 (l.map K.cc)),.one (.fn f [.pf [.v (.bool tp)]])] (.one (.v (.int .i64 (IY l g)))):=by
 refine Fn.intro Tryz.func67 rfl Tryz.ntmps67 Tryz.results67 (by simp only [List.length_cons,List.length_nil];decide) ?_
 repeat (first|(apply fw;focus ((with_reducible constructor)<;>constructor))|((first|with_reducible refine ga _ rfl fun Y y=>?_|apply ri);simp only [zb,seval,w67];refine RunTo.fn y (by first|(simp;done)|omega|(simp;omega)) ?_;clear y Y))
 refine WpA.loop (YO f tp l g) l.length ?_ ⟨0,rfl,Nat.zero_le _,fun j _ h=>absurd h (Nat.not_lt_zero _),rfl⟩ ?_
 ·exact Le.sub (by simp [Sub,find])
 intro n' st hI
 obtain⟨i,rfl,hi,hb,rfl⟩:=hI
 have hw2:IntKind.i64.wrap ((i:Int)+1)=((i+1:Nat):Int):=by rw [dQ (by omega) (by omega)];omega
 by_cases hlt:i<l.length
 ·have hd1:decide ((i:Int)<(l.length:Int))=true:=by simp;omega
  have hget:=LC hlt
  have hc:=hf l[i] (List.getElem_mem _)
  rw [K.cc_eq] at hget hc
  repeat (first|(apply fw;focus ((with_reducible constructor)<;>constructor))|((first|with_reducible refine ga _ rfl fun Y y=>?_|apply ri);simp only [zb,seval,w67,hd1,hget];refine RunTo.fn y (by first|(simp;done)|omega|(simp;omega)) ?_;clear y Y))
  refine WpL.call rfl (aA (P:=Tryz.prog) rfl) (CallA.shut rfl rfl hcal (ALes.refl _) rfl hc ?_)
  cases hg:g l[i] with
  | true =>
   (refine WpL.go _ rfl fun Y y=>?_);repeat (first|(apply fw;focus ((with_reducible constructor)<;>constructor))|((first|with_reducible refine ga _ rfl fun Y y=>?_|apply ri);simp only [zb,seval,w67];refine RunTo.fn y (by first|(simp;done)|omega|(simp;omega)) ?_;clear y Y))
   refine⟨by simp,_,_,_,_,(by simp only [zb,seval,w67];rfl),(by simp),(by simp only [zv];rfl),(by simp [A.shut,C.shut]),_,ALe.refl _,?_⟩
   rw [DA hlt hg hb]
  | false =>
   (refine WpL.go _ rfl fun Y y=>?_);repeat (first|(apply fw;focus ((with_reducible constructor)<;>constructor))|((first|with_reducible refine ga _ rfl fun Y y=>?_|apply ri);simp only [zb,seval,w67,hw2];refine RunTo.fn y (by first|(simp;done)|omega|(simp;omega)) ?_;clear y Y))
   refine⟨l.length-(i+1),_,by omega,Le.sub (by simp [Sub,find]),i+1,rfl,hlt,fun j hj hji=>?_,rfl⟩
   rcases Nat.lt_succ_iff_lt_or_eq.1 hji with h|rfl
   ·exact hb j hj h
   ·exact hg
 ·have hd0:decide ((i:Int)<(l.length:Int))=false:=by simp;omega
  repeat (first|(apply fw;focus ((with_reducible constructor)<;>constructor))|((first|with_reducible refine ga _ rfl fun Y y=>?_|apply ri);simp only [zb,seval,w67,hd0];refine RunTo.fn y (by first|(simp;done)|omega|(simp;omega)) ?_;clear y Y))
  repeat (first|(apply fw;focus ((with_reducible constructor)<;>constructor))|((first|with_reducible refine ga _ rfl fun Y y=>?_|apply ri);simp only [zb,seval,w67,hd0];refine RunTo.fn y (by first|(simp;done)|omega|(simp;omega)) ?_;clear y Y))
  refine⟨by simp,_,_,_,_,(by simp only [zb,seval,w67];rfl),(by simp),(by simp only [zv];rfl),(by simp [A.shut,C.shut]),_,ALe.refl _,?_⟩
  rw [DB fun j hj=>hb j hj (by omega)]
theorem yI (f:FuncId) (tp:Bool) (hcal:dH Tryz.prog f=true) (l:List K) (g:K→Bool) (hlen:l.length≤1000000000000000) (hf:∀x∈l,Pure Tryz.prog f (.agg x.cc::([.pf [.v (.bool tp)]]:List C).map .one) (.one (.v (.bool (g x))))):Pure Tryz.prog 47 [.one (.sl 11 (l.map K.cc)),.one (.fn f [.pf [.v (.bool tp)]])] (.one (.v (.bool (l.any g)))):=by
 rw [←IZ]
 refine Fn.intro Tryz.func47 rfl Tryz.ntmps47 Tryz.results47 (by simp only [List.length_cons,List.length_nil];decide) ?_
 repeat (first|(apply fw;focus ((with_reducible constructor)<;>constructor))|((first|with_reducible refine ga _ rfl fun Y y=>?_|apply ri);simp only [zb,seval];refine RunTo.fn y (by first|(simp;done)|omega|(simp;omega)) ?_;clear y Y))
 refine WpL.call rfl (aA (P:=Tryz.prog) rfl) (CallA.lend rfl rfl (by kernel_rfl) (by simp only [zv];rfl) (by first|exact trivial|(simp;done)|(simp [C.shut];done)) rfl (EZ f tp hcal l g hlen hf) ?_)
 (refine WpL.go _ rfl fun Y y=>?_);repeat (first|(apply fw;focus ((with_reducible constructor)<;>constructor))|((first|with_reducible refine ga _ rfl fun Y y=>?_|apply ri);simp only [zb,seval];refine RunTo.fn y (by first|(simp;done)|omega|(simp;omega)) ?_;clear y Y))
 refine⟨by simp,_,_,_,_,(by simp only [zb,seval];rfl),(by simp),(by simp only [zv];rfl),(by simp [A.shut,C.shut]),_,ALe.refl _,?_⟩
 rfl
def jJ (c:K):Bool:=if c.k=1∨c.k=2∨c.k=9∨c.k=10 then decide (c.l.length=0) else if c.k=3∨c.k=4∨c.k=6 then decide (c.l.length=1) else if c.k=5 then decide (c.l.length=3) else if c.k=7 then decide (2≤c.l.length) else if c.k=8 then decide (1≤c.l.length)&&decide (c.l.length≤41) else false
theorem SC (n m:Nat):((n:Int) == (m:Int))=decide (n=m):=by
 by_cases h:n=m
 ·simp [h]
 ·simp [h];omega
theorem LM (c:K):Pure Tryz.prog 71 [.agg c.cc] (.one (.v (.bool (jJ c)))):=by
 obtain⟨k,name,rest,params,d,l⟩:=c
 rw [K.cc_eq]
 simp only [K.k,K.name,K.rest,K.params,K.d,K.l]
 have z0:((l.length:Int) == 0)=decide (l.length=0):=SC l.length 0
 have z1:((l.length:Int) == 1)=decide (l.length=1):=SC l.length 1
 have z3:((l.length:Int) == 3)=decide (l.length=3):=SC l.length 3
 have g2:decide ((2:Int)≤(l.length:Int))=decide (2≤l.length):=by apply decide_eq_decide.2;omega
 have g1:decide ((1:Int)≤(l.length:Int))=decide (1≤l.length):=by apply decide_eq_decide.2;omega
 have g41:decide ((l.length:Int)≤(41:Int))=decide (l.length≤41):=by apply decide_eq_decide.2;omega
 by_cases k1:k=1
 ·subst k1
  refine Fn.intro Tryz.func71 rfl Tryz.ntmps71 Tryz.results71 (by simp only [List.length_cons,List.length_nil];decide) ?_
  repeat (first|(apply fw;focus ((with_reducible constructor)<;>constructor))|((first|with_reducible refine ga _ rfl fun Y y=>?_|apply ri);simp only [zb,seval,w71,z0,z1,z3,g2];refine RunTo.fn y (by first|(simp;done)|omega|(simp;omega)) ?_;clear y Y))
  refine⟨by simp,_,_,_,_,(by simp only [zb,seval,w71];rfl),(by simp),(by simp only [zv];rfl),(by simp [A.shut,C.shut]),_,ALe.refl _,?_⟩
  simp [jJ,K.k,K.l]<;>exact decide_eq_decide.2 Iff.rfl
 by_cases k2:k=2
 ·subst k2
  refine Fn.intro Tryz.func71 rfl Tryz.ntmps71 Tryz.results71 (by simp only [List.length_cons,List.length_nil];decide) ?_
  repeat (first|(apply fw;focus ((with_reducible constructor)<;>constructor))|((first|with_reducible refine ga _ rfl fun Y y=>?_|apply ri);simp only [zb,seval,w71,z0,z1,z3,g2];refine RunTo.fn y (by first|(simp;done)|omega|(simp;omega)) ?_;clear y Y))
  refine⟨by simp,_,_,_,_,(by simp only [zb,seval,w71];rfl),(by simp),(by simp only [zv];rfl),(by simp [A.shut,C.shut]),_,ALe.refl _,?_⟩
  simp [jJ,K.k,K.l]<;>exact decide_eq_decide.2 Iff.rfl
 by_cases k9:k=9
 ·subst k9
  refine Fn.intro Tryz.func71 rfl Tryz.ntmps71 Tryz.results71 (by simp only [List.length_cons,List.length_nil];decide) ?_
  repeat (first|(apply fw;focus ((with_reducible constructor)<;>constructor))|((first|with_reducible refine ga _ rfl fun Y y=>?_|apply ri);simp only [zb,seval,w71,z0,z1,z3,g2];refine RunTo.fn y (by first|(simp;done)|omega|(simp;omega)) ?_;clear y Y))
  refine⟨by simp,_,_,_,_,(by simp only [zb,seval,w71];rfl),(by simp),(by simp only [zv];rfl),(by simp [A.shut,C.shut]),_,ALe.refl _,?_⟩
  simp [jJ,K.k,K.l]<;>exact decide_eq_decide.2 Iff.rfl
 by_cases k10:k=10
 ·subst k10
  refine Fn.intro Tryz.func71 rfl Tryz.ntmps71 Tryz.results71 (by simp only [List.length_cons,List.length_nil];decide) ?_
  repeat (first|(apply fw;focus ((with_reducible constructor)<;>constructor))|((first|with_reducible refine ga _ rfl fun Y y=>?_|apply ri);simp only [zb,seval,w71,z0,z1,z3,g2];refine RunTo.fn y (by first|(simp;done)|omega|(simp;omega)) ?_;clear y Y))
  refine⟨by simp,_,_,_,_,(by simp only [zb,seval,w71];rfl),(by simp),(by simp only [zv];rfl),(by simp [A.shut,C.shut]),_,ALe.refl _,?_⟩
  simp [jJ,K.k,K.l]<;>exact decide_eq_decide.2 Iff.rfl
 by_cases k3:k=3
 ·subst k3
  refine Fn.intro Tryz.func71 rfl Tryz.ntmps71 Tryz.results71 (by simp only [List.length_cons,List.length_nil];decide) ?_
  repeat (first|(apply fw;focus ((with_reducible constructor)<;>constructor))|((first|with_reducible refine ga _ rfl fun Y y=>?_|apply ri);simp only [zb,seval,w71,z0,z1,z3,g2];refine RunTo.fn y (by first|(simp;done)|omega|(simp;omega)) ?_;clear y Y))
  refine⟨by simp,_,_,_,_,(by simp only [zb,seval,w71];rfl),(by simp),(by simp only [zv];rfl),(by simp [A.shut,C.shut]),_,ALe.refl _,?_⟩
  simp [jJ,K.k,K.l]<;>exact decide_eq_decide.2 Iff.rfl
 by_cases k4:k=4
 ·subst k4
  refine Fn.intro Tryz.func71 rfl Tryz.ntmps71 Tryz.results71 (by simp only [List.length_cons,List.length_nil];decide) ?_
  repeat (first|(apply fw;focus ((with_reducible constructor)<;>constructor))|((first|with_reducible refine ga _ rfl fun Y y=>?_|apply ri);simp only [zb,seval,w71,z0,z1,z3,g2];refine RunTo.fn y (by first|(simp;done)|omega|(simp;omega)) ?_;clear y Y))
  refine⟨by simp,_,_,_,_,(by simp only [zb,seval,w71];rfl),(by simp),(by simp only [zv];rfl),(by simp [A.shut,C.shut]),_,ALe.refl _,?_⟩
  simp [jJ,K.k,K.l]<;>exact decide_eq_decide.2 Iff.rfl
 by_cases k6:k=6
 ·subst k6
  refine Fn.intro Tryz.func71 rfl Tryz.ntmps71 Tryz.results71 (by simp only [List.length_cons,List.length_nil];decide) ?_
  repeat (first|(apply fw;focus ((with_reducible constructor)<;>constructor))|((first|with_reducible refine ga _ rfl fun Y y=>?_|apply ri);simp only [zb,seval,w71,z0,z1,z3,g2];refine RunTo.fn y (by first|(simp;done)|omega|(simp;omega)) ?_;clear y Y))
  refine⟨by simp,_,_,_,_,(by simp only [zb,seval,w71];rfl),(by simp),(by simp only [zv];rfl),(by simp [A.shut,C.shut]),_,ALe.refl _,?_⟩
  simp [jJ,K.k,K.l]<;>exact decide_eq_decide.2 Iff.rfl
 by_cases k5:k=5
 ·subst k5
  refine Fn.intro Tryz.func71 rfl Tryz.ntmps71 Tryz.results71 (by simp only [List.length_cons,List.length_nil];decide) ?_
  repeat (first|(apply fw;focus ((with_reducible constructor)<;>constructor))|((first|with_reducible refine ga _ rfl fun Y y=>?_|apply ri);simp only [zb,seval,w71,z0,z1,z3,g2];refine RunTo.fn y (by first|(simp;done)|omega|(simp;omega)) ?_;clear y Y))
  refine⟨by simp,_,_,_,_,(by simp only [zb,seval,w71];rfl),(by simp),(by simp only [zv];rfl),(by simp [A.shut,C.shut]),_,ALe.refl _,?_⟩
  simp [jJ,K.k,K.l]<;>exact decide_eq_decide.2 Iff.rfl
 by_cases k7:k=7
 ·subst k7
  refine Fn.intro Tryz.func71 rfl Tryz.ntmps71 Tryz.results71 (by simp only [List.length_cons,List.length_nil];decide) ?_
  repeat (first|(apply fw;focus ((with_reducible constructor)<;>constructor))|((first|with_reducible refine ga _ rfl fun Y y=>?_|apply ri);simp only [zb,seval,w71,z0,z1,z3,g2];refine RunTo.fn y (by first|(simp;done)|omega|(simp;omega)) ?_;clear y Y))
  refine⟨by simp,_,_,_,_,(by simp only [zb,seval,w71];rfl),(by simp),(by simp only [zv];rfl),(by simp [A.shut,C.shut]),_,ALe.refl _,?_⟩
  simp [jJ,K.k,K.l]<;>exact decide_eq_decide.2 Iff.rfl
 by_cases k8:k=8
 ·subst k8
  have hc8:jJ (.mk 8 name rest params d l)=(decide (1≤l.length)&&decide (l.length≤41)):=rfl
  cases hl:decide (1≤l.length) with
  | true =>
   refine Fn.intro Tryz.func71 rfl Tryz.ntmps71 Tryz.results71 (by simp only [List.length_cons,List.length_nil];decide) ?_
   repeat (first|(apply fw;focus ((with_reducible constructor)<;>constructor))|((first|with_reducible refine ga _ rfl fun Y y=>?_|apply ri);simp only [zb,seval,w71,g1,hl,g41];refine RunTo.fn y (by first|(simp;done)|omega|(simp;omega)) ?_;clear y Y))
   refine⟨by simp,_,_,_,_,(by simp only [zb,seval,w71];rfl),(by simp),(by simp only [zv];rfl),(by simp [A.shut,C.shut]),_,ALe.refl _,?_⟩
   rw [hc8,hl];rfl
  | false =>
   refine Fn.intro Tryz.func71 rfl Tryz.ntmps71 Tryz.results71 (by simp only [List.length_cons,List.length_nil];decide) ?_
   repeat (first|(apply fw;focus ((with_reducible constructor)<;>constructor))|((first|with_reducible refine ga _ rfl fun Y y=>?_|apply ri);simp only [zb,seval,w71,g1,hl,g41];refine RunTo.fn y (by first|(simp;done)|omega|(simp;omega)) ?_;clear y Y))
   refine⟨by simp,_,_,_,_,(by simp only [zb,seval,w71];rfl),(by simp),(by simp only [zv];rfl),(by simp [A.shut,C.shut]),_,ALe.refl _,?_⟩
   rw [hc8,hl];rfl
 have b1:(k == 1)=false:=by simp [k1]
 have b2:(k == 2)=false:=by simp [k2]
 have b9:(k == 9)=false:=by simp [k9]
 have b10:(k == 10)=false:=by simp [k10]
 have b3:(k == 3)=false:=by simp [k3]
 have b4:(k == 4)=false:=by simp [k4]
 have b6:(k == 6)=false:=by simp [k6]
 have b5:(k == 5)=false:=by simp [k5]
 have b7:(k == 7)=false:=by simp [k7]
 have b8:(k == 8)=false:=by simp [k8]
 refine Fn.intro Tryz.func71 rfl Tryz.ntmps71 Tryz.results71 (by simp only [List.length_cons,List.length_nil];decide) ?_
 repeat (first|(apply fw;focus ((with_reducible constructor)<;>constructor))|((first|with_reducible refine ga _ rfl fun Y y=>?_|apply ri);simp only [zb,seval,w71,b1,b2,b9,b10,b3,b4,b6,b5,b7,b8];refine RunTo.fn y (by first|(simp;done)|omega|(simp;omega)) ?_;clear y Y))
 refine⟨by simp,_,_,_,_,(by simp only [zb,seval,w71];rfl),(by simp),(by simp only [zv];rfl),(by simp [A.shut,C.shut]),_,ALe.refl _,?_⟩
 simp [jJ,K.k,K.l,k1,k2,k3,k4,k5,k6,k7,k8,k9,k10]
def dZ:D:=.mk 0 0 false [] ⟨#[]⟩ []
def K.bare (c:K):K:=.mk c.k (if c.k=2∨c.k=3∨c.k=4∨c.k=10 then c.name else ⟨#[]⟩) (if c.k=6 then c.rest else ⟨#[]⟩) (if c.k=6 then c.params else []) (if c.k=1 then c.d else dZ) c.l
theorem PE (c:K):Pure Tryz.prog 72 [.agg c.cc] (.agg c.bare.cc):=by
 obtain⟨k,name,rest,params,d,l⟩:=c
 rw [K.cc_eq]
 simp only [K.k,K.name,K.rest,K.params,K.d,K.l]
 by_cases k1:k=1
 ·subst k1
  refine Fn.intro Tryz.func72 rfl Tryz.ntmps72 Tryz.results72 (by simp only [List.length_cons,List.length_nil];decide) ?_
  repeat (first|(apply fw;focus ((with_reducible constructor)<;>constructor))|((first|with_reducible refine ga _ rfl fun Y y=>?_|apply ri);simp only [zb,seval,w72];refine RunTo.fn y (by first|(simp;done)|omega|(simp;omega)) ?_;clear y Y))
  refine⟨by simp,_,_,_,_,(by simp only [zb,seval,w72];rfl),(by simp),(by simp only [zv];rfl),(by simp [A.shut,C.shut]),_,(by rw [K.cc_eq];exact ALe.agg (by repeat (first|exact CLes.refl _|refine CLes.nil ?_|refine CLes.cons ?_))),rfl⟩
 by_cases k2:k=2
 ·subst k2
  refine Fn.intro Tryz.func72 rfl Tryz.ntmps72 Tryz.results72 (by simp only [List.length_cons,List.length_nil];decide) ?_
  repeat (first|(apply fw;focus ((with_reducible constructor)<;>constructor))|((first|with_reducible refine ga _ rfl fun Y y=>?_|apply ri);simp only [zb,seval,w72];refine RunTo.fn y (by first|(simp;done)|omega|(simp;omega)) ?_;clear y Y))
  refine⟨by simp,_,_,_,_,(by simp only [zb,seval,w72];rfl),(by simp),(by simp only [zv];rfl),(by simp [A.shut,C.shut]),_,(by rw [K.cc_eq];exact ALe.agg (by repeat (first|exact CLes.refl _|refine CLes.nil ?_|refine CLes.cons ?_))),rfl⟩
 by_cases k3:k=3
 ·subst k3
  refine Fn.intro Tryz.func72 rfl Tryz.ntmps72 Tryz.results72 (by simp only [List.length_cons,List.length_nil];decide) ?_
  repeat (first|(apply fw;focus ((with_reducible constructor)<;>constructor))|((first|with_reducible refine ga _ rfl fun Y y=>?_|apply ri);simp only [zb,seval,w72];refine RunTo.fn y (by first|(simp;done)|omega|(simp;omega)) ?_;clear y Y))
  refine⟨by simp,_,_,_,_,(by simp only [zb,seval,w72];rfl),(by simp),(by simp only [zv];rfl),(by simp [A.shut,C.shut]),_,(by rw [K.cc_eq];exact ALe.agg (by repeat (first|exact CLes.refl _|refine CLes.nil ?_|refine CLes.cons ?_))),rfl⟩
 by_cases k4:k=4
 ·subst k4
  refine Fn.intro Tryz.func72 rfl Tryz.ntmps72 Tryz.results72 (by simp only [List.length_cons,List.length_nil];decide) ?_
  repeat (first|(apply fw;focus ((with_reducible constructor)<;>constructor))|((first|with_reducible refine ga _ rfl fun Y y=>?_|apply ri);simp only [zb,seval,w72];refine RunTo.fn y (by first|(simp;done)|omega|(simp;omega)) ?_;clear y Y))
  refine⟨by simp,_,_,_,_,(by simp only [zb,seval,w72];rfl),(by simp),(by simp only [zv];rfl),(by simp [A.shut,C.shut]),_,(by rw [K.cc_eq];exact ALe.agg (by repeat (first|exact CLes.refl _|refine CLes.nil ?_|refine CLes.cons ?_))),rfl⟩
 by_cases k10:k=10
 ·subst k10
  refine Fn.intro Tryz.func72 rfl Tryz.ntmps72 Tryz.results72 (by simp only [List.length_cons,List.length_nil];decide) ?_
  repeat (first|(apply fw;focus ((with_reducible constructor)<;>constructor))|((first|with_reducible refine ga _ rfl fun Y y=>?_|apply ri);simp only [zb,seval,w72];refine RunTo.fn y (by first|(simp;done)|omega|(simp;omega)) ?_;clear y Y))
  refine⟨by simp,_,_,_,_,(by simp only [zb,seval,w72];rfl),(by simp),(by simp only [zv];rfl),(by simp [A.shut,C.shut]),_,(by rw [K.cc_eq];exact ALe.agg (by repeat (first|exact CLes.refl _|refine CLes.nil ?_|refine CLes.cons ?_))),rfl⟩
 by_cases k6:k=6
 ·subst k6
  refine Fn.intro Tryz.func72 rfl Tryz.ntmps72 Tryz.results72 (by simp only [List.length_cons,List.length_nil];decide) ?_
  repeat (first|(apply fw;focus ((with_reducible constructor)<;>constructor))|((first|with_reducible refine ga _ rfl fun Y y=>?_|apply ri);simp only [zb,seval,w72];refine RunTo.fn y (by first|(simp;done)|omega|(simp;omega)) ?_;clear y Y))
  skip
  (refine WpA.draw1 8 [5,7] ([some ⟨31,11,[[.v (.int .i64 6),.v (.string name),.v (.string rest),.sl 1 (aW params),.v (.int .i64 d.k),.v (.int .i32 d.c),.v (.bool d.neg),.sl 1 (d.mag.map fun n=>[.v (.int .u32 n)]),.v (.string d.t),.sl 6 (d.l.map D.cc),.sl 11 (l.map K.cc)]]⟩]) [[some ⟨31,11,[[.v (.int .i64 6),.v (.string name),.v (.string rest),.sl 1 (aW params),.v (.int .i64 d.k),.v (.int .i32 d.c),.v (.bool d.neg),.sl 1 (d.mag.map fun n=>[.v (.int .u32 n)]),.v (.string d.t),.sl 6 (d.l.map D.cc),.sl 11 (l.map K.cc)]]⟩,some ⟨31,11,[[.v (.int .i64 0),.v (.string ⟨#[]⟩),.v (.string ⟨#[]⟩),.v (.slice none 0 0),.v (.int .i64 0),.v (.int .i32 0),.v (.bool false),.v (.slice none 0 0),.v (.string ⟨#[]⟩),.v (.slice none 0 0),.v (.slice none 0 0)]]⟩,some ⟨31,11,[[.v (.int .i64 6),.v (.string ⟨#[]⟩),.v (.string ⟨#[]⟩),.v (.slice none 0 0),.v (.int .i64 0),.v (.int .i32 0),.v (.bool false),.v (.slice none 0 0),.v (.string ⟨#[]⟩),.v (.slice none 0 0),.sl 11 (l.map K.cc)]]⟩],[some ⟨31,11,[[.v (.int .i64 6),.v (.string name),.v (.string rest),.sl 1 (aW params),.v (.int .i64 d.k),.v (.int .i32 d.c),.v (.bool d.neg),.sl 1 (d.mag.map fun n=>[.v (.int .u32 n)]),.v (.string d.t),.sl 6 (d.l.map D.cc),.sl 11 (l.map K.cc)]]⟩,some ⟨31,11,[[.v (.int .i64 0),.v (.string ⟨#[]⟩),.v (.string ⟨#[]⟩),.v (.slice none 0 0),.v (.int .i64 0),.v (.int .i32 0),.v (.bool false),.v (.slice none 0 0),.v (.string ⟨#[]⟩),.v (.slice none 0 0),.v (.slice none 0 0)]]⟩,some ⟨31,11,[[.v (.int .i64 6),.v (.string ⟨#[]⟩),.v (.string ⟨#[]⟩),.sl 1 (aW params),.v (.int .i64 0),.v (.int .i32 0),.v (.bool false),.v (.slice none 0 0),.v (.string ⟨#[]⟩),.v (.slice none 0 0),.sl 11 (l.map K.cc)]]⟩],[some ⟨31,11,[[.v (.int .i64 6),.v (.string name),.v (.string rest),.sl 1 (aW params),.v (.int .i64 d.k),.v (.int .i32 d.c),.v (.bool d.neg),.sl 1 (d.mag.map fun n=>[.v (.int .u32 n)]),.v (.string d.t),.sl 6 (d.l.map D.cc),.sl 11 (l.map K.cc)]]⟩,some ⟨31,11,[[.v (.int .i64 0),.v (.string ⟨#[]⟩),.v (.string ⟨#[]⟩),.v (.slice none 0 0),.v (.int .i64 0),.v (.int .i32 0),.v (.bool false),.v (.slice none 0 0),.v (.string ⟨#[]⟩),.v (.slice none 0 0),.v (.slice none 0 0)]]⟩,some ⟨31,11,[[.v (.int .i64 6),.v (.string ⟨#[]⟩),.v (.string rest),.sl 1 (aW params),.v (.int .i64 0),.v (.int .i32 0),.v (.bool false),.v (.slice none 0 0),.v (.string ⟨#[]⟩),.v (.slice none 0 0),.sl 11 (l.map K.cc)]]⟩]] _ _ _ _ rfl rfl rfl (by kernel_rfl) (by kernel_rfl) (by kernel_rfl) (by kernel_rfl) rfl rfl rfl rfl (by decide) fun K8 hK8=>?_)
  simp only [zz] at hK8 ⊢
  (refine Draw1.go fun K7 hK7=>?_);simp only [zb,seval,w72];(refine RunQ.mk (by first|(simp;done)|omega|(simp;omega)) (hK7 _ _ (by rfl) ?_));clear hK7 K7;(simp only [zz,Nat.reduceAdd,Nat.reduceSub]);(try ((refine Draw1.nil (by simp only [List.mem_cons,List.not_mem_nil,or_false,forall_eq_or_imp,forall_eq];refine⟨?_,?_,?_⟩<;>(refine LeS.of ?_)<;>(repeat (first|exact SLe.nil _|exact SLe.refl _|exact SLe.app _ _|refine SLe.same ?_|refine SLe.none ?_))) (hK8 _ ?_));clear hK8 K8;(refine WpL.go _ rfl fun Y y=>?_);repeat (first|(apply fw;focus ((with_reducible constructor)<;>constructor))|((first|with_reducible refine ga _ rfl fun Y y=>?_|apply ri);simp only [zb,seval,w72];refine RunTo.fn y (by first|(simp;done)|omega|(simp;omega)) ?_;clear y Y))))
  refine Draw1.stepA (x:=.one (.ptr 2 1 0 3)) (by rfl) (fun s9 hs9=>?_) ?_
  ·simp only [List.mem_cons,List.not_mem_nil,or_false] at hs9
   rcases hs9 with rfl|rfl|rfl
   all_goals exact OpS.quiet rfl (by simp only [qop,rdA,find,reduceIte,Nat.reduceEqDiff,iJ,mX,List.getElem?_cons_zero,List.getElem?_cons_succ];rfl) (by simp)
  simp only [bF]
  refine Draw1.eff 0 rfl rfl rfl (OpS.eff [(22,_),(19,_)] rfl (by rfl) ⟨rfl,rfl,trivial⟩ (by simp only [zb,seval,w72];rfl) (by first|(simp;done)|omega|(simp;omega))) ?_;(try simp only [bF]);(try ((refine Draw1.go fun K7 hK7=>?_);simp only [zb,seval,w72];(refine RunQ.mk (by first|(simp;done)|omega|(simp;omega)) (hK7 _ _ (by rfl) ?_));clear hK7 K7;(simp only [zz,Nat.reduceAdd,Nat.reduceSub]);(try ((refine Draw1.nil (by simp only [List.mem_cons,List.not_mem_nil,or_false,forall_eq_or_imp,forall_eq];refine⟨?_,?_,?_⟩<;>(refine LeS.of ?_)<;>(repeat (first|exact SLe.nil _|exact SLe.refl _|exact SLe.app _ _|refine SLe.same ?_|refine SLe.none ?_))) (hK8 _ ?_));clear hK8 K8;(refine WpL.go _ rfl fun Y y=>?_);repeat (first|(apply fw;focus ((with_reducible constructor)<;>constructor))|((first|with_reducible refine ga _ rfl fun Y y=>?_|apply ri);simp only [zb,seval,w72];refine RunTo.fn y (by first|(simp;done)|omega|(simp;omega)) ?_;clear y Y))))))
  refine Draw1.stepA (x:=.one (.ptr 2 1 0 2)) (by rfl) (fun s9 hs9=>?_) ?_
  ·simp only [List.mem_cons,List.not_mem_nil,or_false] at hs9
   rcases hs9 with rfl|rfl|rfl
   all_goals exact OpS.quiet rfl (by simp only [qop,rdA,find,reduceIte,Nat.reduceEqDiff,kC,mX,List.getElem?_cons_zero,List.getElem?_cons_succ];rfl) (by simp)
  simp only [bF]
  refine Draw1.eff 1 rfl rfl rfl (OpS.eff [(23,_),(21,_)] rfl (by rfl) ⟨rfl,rfl,trivial⟩ (by simp only [zb,seval,w72];rfl) (by first|(simp;done)|omega|(simp;omega))) ?_;(try simp only [bF]);(try ((refine Draw1.go fun K7 hK7=>?_);simp only [zb,seval,w72];(refine RunQ.mk (by first|(simp;done)|omega|(simp;omega)) (hK7 _ _ (by rfl) ?_));clear hK7 K7;(simp only [zz,Nat.reduceAdd,Nat.reduceSub]);(try ((refine Draw1.nil (by simp only [List.mem_cons,List.not_mem_nil,or_false,forall_eq_or_imp,forall_eq];refine⟨?_,?_,?_⟩<;>(refine LeS.of ?_)<;>(repeat (first|exact SLe.nil _|exact SLe.refl _|exact SLe.app _ _|refine SLe.same ?_|refine SLe.none ?_))) (hK8 _ ?_));clear hK8 K8;(refine WpL.go _ rfl fun Y y=>?_);repeat (first|(apply fw;focus ((with_reducible constructor)<;>constructor))|((first|with_reducible refine ga _ rfl fun Y y=>?_|apply ri);simp only [zb,seval,w72];refine RunTo.fn y (by first|(simp;done)|omega|(simp;omega)) ?_;clear y Y))))))
  refine⟨by simp,_,_,_,_,(by simp only [zb,seval,w72];rfl),(by simp),(by simp only [zv];rfl),(by simp [A.shut,C.shut]),_,(by rw [K.cc_eq];exact ALe.agg (by repeat (first|exact CLes.refl _|refine CLes.nil ?_|refine CLes.cons ?_))),rfl⟩
 have b1:(k == 1)=false:=by simp [k1]
 have b2:(k == 2)=false:=by simp [k2]
 have b3:(k == 3)=false:=by simp [k3]
 have b4:(k == 4)=false:=by simp [k4]
 have b6:(k == 6)=false:=by simp [k6]
 have b10:(k == 10)=false:=by simp [k10]
 have hbr:K.bare (.mk k name rest params d l)=.mk k ⟨#[]⟩ ⟨#[]⟩ [] dZ l:=by simp [K.bare,K.k,K.l,k1,k2,k3,k4,k6,k10]
 rw [hbr]
 refine Fn.intro Tryz.func72 rfl Tryz.ntmps72 Tryz.results72 (by simp only [List.length_cons,List.length_nil];decide) ?_
 repeat (first|(apply fw;focus ((with_reducible constructor)<;>constructor))|((first|with_reducible refine ga _ rfl fun Y y=>?_|apply ri);simp only [zb,seval,w72,b1,b2,b3,b4,b6,b10];refine RunTo.fn y (by first|(simp;done)|omega|(simp;omega)) ?_;clear y Y))
 refine⟨by simp,_,_,_,_,(by simp only [zb,seval,w72];rfl),(by simp),(by simp only [zv];rfl),(by simp [A.shut,C.shut]),_,(by rw [K.cc_eq];exact ALe.agg (by repeat (first|exact CLes.refl _|refine CLes.nil ?_|refine CLes.cons ?_))),rfl⟩
theorem SD (l:List ByteArray) (hlen:l.length≤1000000000000):Fn Tryz.prog 98 [.one (.sl 1 (aW l))] [] (fun r s=>(l=[]∧r=.one (.v (.slice none 0 0))∧s=[])∨(r=.one (.ms 0 l.length)∧s=[some ⟨9,1,aW l⟩])):=by
 have hl:=cE l
 refine Fn.introT Tryz.func98 rfl Tryz.ntmps98 Tryz.results98 (by simp only [List.length_cons,List.length_nil];decide) ?_
 repeat (first|(apply fw;focus ((with_reducible constructor)<;>constructor))|((first|with_reducible refine ga _ rfl fun Y y=>?_|apply ri);simp only [zb,seval,w98];refine RunTo.fn y (by first|(simp;done)|omega|(simp;omega)) ?_;clear y Y))
 refine WpL.nilSl rfl rfl Tryz.underlying22 fun b hb=>?_
 cases b with
 | true =>
  have:aW l=[]:=by
   cases h:aW l with
   | nil=>rfl
   | cons a r=>have:=hb (by simp [h]);cases this
  (refine WpL.go _ rfl fun Y y=>?_);repeat (first|(apply fw;focus ((with_reducible constructor)<;>constructor))|((first|with_reducible refine ga _ rfl fun Y y=>?_|apply ri);simp only [zb,seval,w98];refine RunTo.fn y (by first|(simp;done)|omega|(simp;omega)) ?_;clear y Y))
  refine⟨.inl rfl,_,_,_,_,(by simp only [zb,seval];rfl),trivial,Le.refl _ _,.inl ⟨?_,rfl,rfl⟩⟩
  simpa [aW] using this
 | false =>
  (refine WpL.go _ rfl fun Y y=>?_);repeat (first|(apply fw;focus ((with_reducible constructor)<;>constructor))|((first|with_reducible refine ga _ rfl fun Y y=>?_|apply ri);simp only [zb,seval,w98,hl];refine RunTo.fn y (by first|(simp;done)|omega|(simp;omega)) ?_;clear y Y))
  refine⟨.inl rfl,_,_,_,_,(by simp only [zb,seval];rfl),trivial,Le.refl _ _,.inr ⟨?_,?_⟩⟩
  ·simp [lY,hl]
  ·simp
noncomputable def nO (c:K):List ByteArray:=if c.rest=⟨#[]⟩ then c.params else c.params++[c.rest]
theorem JA (a b:List ByteArray):aW (a++b)=aW a++aW b:=by simp [aW]
theorem gR (f:Nat→Nat) (t:TypeId) (w:Nat) (l:List ByteArray):Ob.ren f ⟨t,w,aW l⟩=⟨t,w,aW l⟩:=by simp [Ob.ren,aW,C.rens,C.ren]
theorem JB (c:K) (hlen:c.params.length≤1000000000):Pure Tryz.prog 70 [.agg c.cc] (.one (.sl 1 (aW (nO c)))):=by
 obtain⟨k,name,rest,params,d,l⟩:=c
 rw [K.cc_eq]
 simp only [K.k,K.name,K.rest,K.params,K.d,K.l] at hlen ⊢
 have hl:=cE params
 by_cases hr:rest=⟨#[]⟩
 ·have hre:eqB rest ⟨#[]⟩=true:=aV hr
  have hal:nO (.mk k name rest params d l)=params:=if_pos hr
  rw [hal]
  refine Fn.intro Tryz.func70 rfl Tryz.ntmps70 Tryz.results70 (by simp only [List.length_cons,List.length_nil];decide) ?_
  repeat (first|(apply fw;focus ((with_reducible constructor)<;>constructor))|((first|with_reducible refine ga _ rfl fun Y y=>?_|apply ri);simp only [zb,seval,w70];refine RunTo.fn y (by first|(simp;done)|omega|(simp;omega)) ?_;clear y Y))
  refine WpL.hand (s:=[]) (ρ:=[]) rfl (aA (P:=Tryz.prog) rfl) rfl rfl (by kernel_rfl) rfl (Handed.of (by simp) rfl) (SD params (by omega)) ?_
  rintro _ _ (⟨h0,rfl,rfl⟩|⟨rfl,rfl⟩)
  ·subst h0
   simp only [back,mix,fH,List.map_nil,List.drop_nil,List.append_nil,A.ren,C.ren]
   (refine WpL.go _ rfl fun Y y=>?_);repeat (first|(apply fw;focus ((with_reducible constructor)<;>constructor))|((first|with_reducible refine ga _ rfl fun Y y=>?_|apply ri);simp only [zb,seval,w70,cA,hre];refine RunTo.fn y (by first|(simp;done)|omega|(simp;omega)) ?_;clear y Y))
   refine⟨by simp,_,_,_,_,(by simp only [zb,seval,w70];rfl),(by simp),(by simp only [zv];rfl),(by simp [A.shut,C.shut]),_,ALe.nil,rfl⟩
  ·simp only [back,mix,fH,List.map_cons,List.map_nil,List.length_nil,List.drop_zero,List.cons_append,List.nil_append,A.ren,C.ren,Option.map_some,List.length_cons,rn,List.getD_nil,Nat.zero_add,Nat.sub_zero,Nat.add_zero,gR]
   (refine WpL.go _ rfl fun Y y=>?_);repeat (first|(apply fw;focus ((with_reducible constructor)<;>constructor))|((first|with_reducible refine ga _ rfl fun Y y=>?_|apply ri);simp only [zb,seval,w70,cA,hre];refine RunTo.fn y (by first|(simp;done)|omega|(simp;omega)) ?_;clear y Y))
   refine⟨by simp,_,_,_,_,(by simp only [zb,seval,w70];rfl),(by simp),(by simp only [zv];rfl),(by simp [hl];exact fC params),_,ALe.refl _,?_⟩
   rfl
 ·have hre:eqB rest ⟨#[]⟩=false:=aB hr
  have hal:nO (.mk k name rest params d l)=params++[rest]:=if_neg hr
  rw [hal]
  refine Fn.intro Tryz.func70 rfl Tryz.ntmps70 Tryz.results70 (by simp only [List.length_cons,List.length_nil];decide) ?_
  repeat (first|(apply fw;focus ((with_reducible constructor)<;>constructor))|((first|with_reducible refine ga _ rfl fun Y y=>?_|apply ri);simp only [zb,seval,w70];refine RunTo.fn y (by first|(simp;done)|omega|(simp;omega)) ?_;clear y Y))
  refine WpL.hand (s:=[]) (ρ:=[]) rfl (aA (P:=Tryz.prog) rfl) rfl rfl (by kernel_rfl) rfl (Handed.of (by simp) rfl) (SD params (by omega)) ?_
  rintro _ _ (⟨h0,rfl,rfl⟩|⟨rfl,rfl⟩)
  ·subst h0
   simp only [back,mix,fH,List.map_nil,List.drop_nil,List.append_nil,A.ren,C.ren]
   (refine WpL.go _ rfl fun Y y=>?_);repeat (first|(apply fw;focus ((with_reducible constructor)<;>constructor))|((first|with_reducible refine ga _ rfl fun Y y=>?_|apply ri);simp only [zb,seval,w70,cA,hre];refine RunTo.fn y (by first|(simp;done)|omega|(simp;omega)) ?_;clear y Y))
   refine⟨by simp,_,_,_,_,(by simp only [zb,seval,w70];rfl),(by simp),(by simp only [zv];rfl),(by simp [C.shut]),_,ALe.refl _,?_⟩
   rfl
  ·simp only [back,mix,fH,List.map_cons,List.map_nil,List.length_nil,List.drop_zero,List.cons_append,List.nil_append,A.ren,C.ren,Option.map_some,List.length_cons,rn,List.getD_nil,Nat.zero_add,Nat.sub_zero,Nat.add_zero,gR]
   (refine WpL.go _ rfl fun Y y=>?_);repeat (first|(apply fw;focus ((with_reducible constructor)<;>constructor))|((first|with_reducible refine ga _ rfl fun Y y=>?_|apply ri);simp only [zb,seval,w70,cA,hre,hl];refine RunTo.fn y (by first|(simp;done)|omega|(simp;omega)) ?_;clear y Y))
   refine⟨by simp,_,_,_,_,(by simp only [zb,seval,w70];rfl),(by simp),(by simp only [zv];rfl),(by (refine⟨by simp [hl],fun e he=>?_⟩);exact (List.mem_append.1 he).elim (fC _ e) (fun h=>fC [rest] e h)),_,ALe.refl _,?_⟩
   rw [JA];rfl
theorem yV (l:List ByteArray) (s:ByteArray):0≤idx l s↔s∈l:=by
 unfold idx
 cases h:qQ l s with
 | none =>
  unfold qQ at h
  rw [List.findIdx?_eq_none_iff] at h
  simp only [Int.reduceNeg,Int.reduceLE,false_iff]
  intro hs
  have:=h s hs
  rw [aV rfl] at this;cases this
 | some k =>
  unfold qQ at h
  obtain⟨hk,h1,-⟩:=List.findIdx?_eq_some_iff_getElem.1 h
  simp only [Int.natCast_nonneg,true_iff]
  rw [yN.1 h1];exact List.getElem_mem hk
noncomputable def vI (p:Prop):Bool:=@decide p (Classical.propDecidable _)
theorem DC {p:Prop}:vI p=true↔p:=by unfold vI;exact @decide_eq_true_iff _ (Classical.propDecidable _)
theorem wP {p:Prop} (h:p):vI p=true:=DC.2 h
theorem wQ {p:Prop} (h:¬p):vI p=false:=by
 cases hc:vI p with
 | false=>rfl
 | true=>exact absurd (DC.1 hc) h
def rJ (l:List ByteArray):Prop:=l.length≤40∧⟨#[]⟩∉l∧l.Nodup
theorem DD (l:List ByteArray) (i:Nat):(aW l).take i=aW (l.take i):=by simp [aW]
theorem AV {l:List ByteArray} {i:Nat} (h:i<l.length):(l.take (i+1)).Nodup↔((l.take i).Nodup∧l[i]∉l.take i):=by
 rw [List.take_succ_eq_append_getElem h,List.nodup_append]
 simp only [List.nodup_cons,List.not_mem_nil,not_false_eq_true,List.nodup_nil,and_self,true_and,List.mem_cons,or_false]
 constructor
 ·rintro ⟨h1,h2⟩;exact⟨h1,fun hm=>h2 _ hm _ rfl rfl⟩
 ·rintro ⟨h1,h2⟩;exact⟨h1,fun a ha b hb e=>h2 (by rw [←hb,←e];exact ha)⟩
def VaI (l:List ByteArray) (n:Nat) (st:St):Prop:=∃i:Nat,n=l.length-i∧i≤l.length∧(l.take i).Nodup ∧
 st=⟨[(14,.one (.v (.int .i64 i))),(13,.one (.v (.int .i64 l.length))),(12,.one (.sl 1 (aW l))),(0,.one (.sl 1 (aW l)))],[]⟩
theorem AW (l:List ByteArray) (hlen:l.length≤1000000000000000):Pure Tryz.prog 73 [.one (.sl 1 (aW l))] (.one (.v (.bool (vI (rJ l))))):=by
 have hl:=cE l
 by_cases h40:40<l.length
 ·have hd:decide ((40:Int)<(l.length:Int))=true:=by simp;omega
  rw [wQ fun h=>by have:=h.1;omega]
  refine Fn.intro Tryz.func73 rfl Tryz.ntmps73 Tryz.results73 (by simp only [List.length_cons,List.length_nil];decide) ?_
  repeat (first|(apply fw;focus ((with_reducible constructor)<;>constructor))|((first|with_reducible refine ga _ rfl fun Y y=>?_|apply ri);simp only [zb,seval,w73,hl,hd];refine RunTo.fn y (by first|(simp;done)|omega|(simp;omega)) ?_;clear y Y))
  refine⟨by simp,_,_,_,_,(by simp only [zb,seval,w73];rfl),(by simp),(by simp only [zv];rfl),(by simp [A.shut,C.shut]),_,ALe.refl _,?_⟩
  rfl
 have hd:decide ((40:Int)<(l.length:Int))=false:=by simp;omega
 have hc:=oO l ⟨#[]⟩ (by omega)
 by_cases h0:(⟨#[]⟩:ByteArray)∈l
 ·have h0':decide (0≤idx l ⟨#[]⟩)=true:=decide_eq_true ((yV _ _).2 h0)
  rw [wQ fun h=>h.2.1 h0]
  refine Fn.intro Tryz.func73 rfl Tryz.ntmps73 Tryz.results73 (by simp only [List.length_cons,List.length_nil];decide) ?_
  repeat (first|(apply fw;focus ((with_reducible constructor)<;>constructor))|((first|with_reducible refine ga _ rfl fun Y y=>?_|apply ri);simp only [zb,seval,w73,hl,hd];refine RunTo.fn y (by first|(simp;done)|omega|(simp;omega)) ?_;clear y Y))
  refine WpL.call rfl (aA (P:=Tryz.prog) rfl) (CallA.shut rfl rfl (by kernel_rfl) (by first|exact ALes.refl _|((try simp only [rcc]);(repeat (first|exact ALes.refl _|refine ALes.cons ?_ ?_|exact ALe.refl _|exact ALe.nil|refine ALe.agg ?_|exact CLes.refl _|refine CLes.nil ?_|refine CLes.cons ?_)))) (by first|rfl|simp [dP,A.shut,C.shut]) (hc) ?_)
  (refine WpL.go _ rfl fun Y y=>?_);repeat (first|(apply fw;focus ((with_reducible constructor)<;>constructor))|((first|with_reducible refine ga _ rfl fun Y y=>?_|apply ri);simp only [zb,seval,w73,h0'];refine RunTo.fn y (by first|(simp;done)|omega|(simp;omega)) ?_;clear y Y))
  refine⟨by simp,_,_,_,_,(by simp only [zb,seval,w73];rfl),(by simp),(by simp only [zv];rfl),(by simp [A.shut,C.shut]),_,ALe.refl _,?_⟩
  rfl
 have h0':decide (0≤idx l ⟨#[]⟩)=false:=decide_eq_false fun h=>h0 ((yV _ _).1 h)
 refine Fn.intro Tryz.func73 rfl Tryz.ntmps73 Tryz.results73 (by simp only [List.length_cons,List.length_nil];decide) ?_
 repeat (first|(apply fw;focus ((with_reducible constructor)<;>constructor))|((first|with_reducible refine ga _ rfl fun Y y=>?_|apply ri);simp only [zb,seval,w73,hl,hd];refine RunTo.fn y (by first|(simp;done)|omega|(simp;omega)) ?_;clear y Y))
 refine WpL.call rfl (aA (P:=Tryz.prog) rfl) (CallA.shut rfl rfl (by kernel_rfl) (by first|exact ALes.refl _|((try simp only [rcc]);(repeat (first|exact ALes.refl _|refine ALes.cons ?_ ?_|exact ALe.refl _|exact ALe.nil|refine ALe.agg ?_|exact CLes.refl _|refine CLes.nil ?_|refine CLes.cons ?_)))) (by first|rfl|simp [dP,A.shut,C.shut]) (hc) ?_)
 (refine WpL.go _ rfl fun Y y=>?_);repeat (first|(apply fw;focus ((with_reducible constructor)<;>constructor))|((first|with_reducible refine ga _ rfl fun Y y=>?_|apply ri);simp only [zb,seval,w73,h0',hl];refine RunTo.fn y (by first|(simp;done)|omega|(simp;omega)) ?_;clear y Y))
 refine WpA.loop (VaI l) l.length ?_ ⟨0,rfl,Nat.zero_le _,by simp,rfl⟩ ?_
 ·exact Le.sub (by simp [Sub,find])
 intro n' st hI
 obtain⟨i,rfl,hi,hb,rfl⟩:=hI
 have hw2:IntKind.i64.wrap ((i:Int)+1)=((i+1:Nat):Int):=by rw [dQ (by omega) (by omega)];omega
 by_cases hlt:i<l.length
 ·have hd1:decide ((i:Int)<(l.length:Int))=true:=by simp;omega
  have hget:=nC hlt
  have hc2:=oO (l.take i) l[i] (by rw [List.length_take];omega)
  by_cases hm:l[i]∈l.take i
  ·have hm':decide (0≤idx (l.take i) l[i])=true:=decide_eq_true ((yV _ _).2 hm)
   rw [wQ fun h=>by
    have h9:=h.2.2
    have:=(AV hlt).1 ((List.take_sublist _ _).nodup h9)
    exact this.2 hm]
   repeat (first|(apply fw;focus ((with_reducible constructor)<;>constructor))|((first|with_reducible refine ga _ rfl fun Y y=>?_|apply ri);simp only [zb,seval,w73,hd1,hget,hl,DD,Int.toNat_zero];refine RunTo.fn y (by first|(simp;done)|omega|(simp;omega)) ?_;clear y Y))
   refine WpL.call rfl (aA (P:=Tryz.prog) rfl) (CallA.shut rfl rfl (by kernel_rfl) (by first|exact ALes.refl _|((try simp only [rcc]);(repeat (first|exact ALes.refl _|refine ALes.cons ?_ ?_|exact ALe.refl _|exact ALe.nil|refine ALe.agg ?_|exact CLes.refl _|refine CLes.nil ?_|refine CLes.cons ?_)))) (by first|rfl|simp [dP,A.shut,C.shut]) (hc2) ?_)
   (refine WpL.go _ rfl fun Y y=>?_);repeat (first|(apply fw;focus ((with_reducible constructor)<;>constructor))|((first|with_reducible refine ga _ rfl fun Y y=>?_|apply ri);simp only [zb,seval,w73,hm'];refine RunTo.fn y (by first|(simp;done)|omega|(simp;omega)) ?_;clear y Y))
   refine⟨by simp,_,_,_,_,(by simp only [zb,seval,w73];rfl),(by simp),(by simp only [zv];rfl),(by simp [A.shut,C.shut]),_,ALe.refl _,?_⟩
   rfl
  ·have hm':decide (0≤idx (l.take i) l[i])=false:=decide_eq_false fun h=>hm ((yV _ _).1 h)
   repeat (first|(apply fw;focus ((with_reducible constructor)<;>constructor))|((first|with_reducible refine ga _ rfl fun Y y=>?_|apply ri);simp only [zb,seval,w73,hd1,hget,hl,DD,Int.toNat_zero];refine RunTo.fn y (by first|(simp;done)|omega|(simp;omega)) ?_;clear y Y))
   refine WpL.call rfl (aA (P:=Tryz.prog) rfl) (CallA.shut rfl rfl (by kernel_rfl) (by first|exact ALes.refl _|((try simp only [rcc]);(repeat (first|exact ALes.refl _|refine ALes.cons ?_ ?_|exact ALe.refl _|exact ALe.nil|refine ALe.agg ?_|exact CLes.refl _|refine CLes.nil ?_|refine CLes.cons ?_)))) (by first|rfl|simp [dP,A.shut,C.shut]) (hc2) ?_)
   (refine WpL.go _ rfl fun Y y=>?_);repeat (first|(apply fw;focus ((with_reducible constructor)<;>constructor))|((first|with_reducible refine ga _ rfl fun Y y=>?_|apply ri);simp only [zb,seval,w73,hm',hw2];refine RunTo.fn y (by first|(simp;done)|omega|(simp;omega)) ?_;clear y Y))
   exact⟨l.length-(i+1),_,by omega,Le.sub (by simp [Sub,find]),i+1,rfl,hlt,(AV hlt).2 ⟨hb,hm⟩,rfl⟩
 ·have hd0:decide ((i:Int)<(l.length:Int))=false:=by simp;omega
  have hii:i=l.length:=by omega
  rw [wP ⟨by omega,h0,by rw [hii,List.take_length] at hb;exact hb⟩]
  repeat (first|(apply fw;focus ((with_reducible constructor)<;>constructor))|((first|with_reducible refine ga _ rfl fun Y y=>?_|apply ri);simp only [zb,seval,w73,hd0];refine RunTo.fn y (by first|(simp;done)|omega|(simp;omega)) ?_;clear y Y))
  repeat (first|(apply fw;focus ((with_reducible constructor)<;>constructor))|((first|with_reducible refine ga _ rfl fun Y y=>?_|apply ri);simp only [zb,seval,w73,hd0];refine RunTo.fn y (by first|(simp;done)|omega|(simp;omega)) ?_;clear y Y))
  refine⟨by simp,_,_,_,_,(by simp only [zb,seval,w73];rfl),(by simp),(by simp only [zv];rfl),(by simp [A.shut,C.shut]),_,ALe.refl _,?_⟩
  rfl
noncomputable def mB (l:List ByteArray) (s:ByteArray):List ByteArray:=match qQ l s with|some _=>l|none=>l++[s]
noncomputable def pA (l:List ByteArray) (s:ByteArray):Int:=match qQ l s with|some k=>k|none=>l.length
theorem NF (l:List ByteArray) (s:ByteArray):mB l s≠[]:=by
 unfold mB
 split
 ·rename_i k h
  unfold qQ at h
  have:=(List.findIdx?_eq_some_iff_getElem.1 h).1
  intro e;rw [e] at this;simp at this
 ·simp
theorem NG (s:ByteArray):Fn Tryz.prog 97 [.one (.v (.slice none 0 0)),.one (.v (.string s))] [] (fun r st=>r=.tup [.one (.ms 0 1),.one (.v (.int .i64 0))]∧st=[some ⟨9,1,aW [s]⟩]):=by
 have hix:=pU [] s (by simp)
 have h0:idx [] s = -1:=rfl
 rw [h0] at hix
 refine Fn.introT Tryz.func97 rfl Tryz.ntmps97 Tryz.results97 (by simp only [List.length_cons,List.length_nil];decide) ?_
 repeat (first|(apply fw;focus ((with_reducible constructor)<;>constructor))|((first|with_reducible refine ga _ rfl fun Y y=>?_|apply ri);simp only [zb,seval,w97];refine RunTo.fn y (by first|(simp;done)|omega|(simp;omega)) ?_;clear y Y))
 refine WpL.call rfl (aA (P:=Tryz.prog) rfl) (CallA.shut rfl rfl (by kernel_rfl) (show ALes [.one (.v (.slice none 0 0)),_] [.one (.sl 1 (aW [])),_] from ALes.cons ALe.nil (ALes.refl _)) rfl hix ?_)
 (refine WpL.go _ rfl fun Y y=>?_);repeat (first|(apply fw;focus ((with_reducible constructor)<;>constructor))|((first|with_reducible refine ga _ rfl fun Y y=>?_|apply ri);simp only [zb,seval,w97];refine RunTo.fn y (by first|(simp;done)|omega|(simp;omega)) ?_;clear y Y))
 refine⟨.inl rfl,_,_,_,_,(by simp only [zb,seval];rfl),by simp,?_,rfl,rfl⟩
 refine Le.names [1] (Handed.of (by simp) (by simp [Ob.ren,aW,C.rens,C.ren])) (by simp) ?_
 simp [SubR,find,A.ren,A.rens,C.ren,lY,rn]
theorem NH (l:List ByteArray) (s:ByteArray) (hne:l≠[]) (hlen:l.length≤1000000000):Fn Tryz.prog 97 [.one (.ms 0 l.length),.one (.v (.string s))] [some ⟨9,1,aW l⟩] (fun r st=>r=.tup [.one (.ms 0 (mB l s).length),.one (.v (.int .i64 (pA l s)))]∧st=[some ⟨9,1,aW (mB l s)⟩]):=by
 have hl:=cE l
 have hix:=pU l s (by omega)
 cases hp:qQ l s with
 | some k =>
  have hi:idx l s=k:=by unfold idx;rw [hp]
  have hk:decide ((k:Int)<0)=false:=by simp
  rw [hi] at hix
  rw [show mB l s=l by unfold mB;rw [hp],show pA l s=k by unfold pA;rw [hp]]
  refine Fn.introT Tryz.func97 rfl Tryz.ntmps97 Tryz.results97 (by simp only [List.length_cons,List.length_nil];decide) ?_
  repeat (first|(apply fw;focus ((with_reducible constructor)<;>constructor))|((first|with_reducible refine ga _ rfl fun Y y=>?_|apply ri);simp only [zb,seval,w97];refine RunTo.fn y (by first|(simp;done)|omega|(simp;omega)) ?_;clear y Y))
  refine WpL.call rfl (aA (P:=Tryz.prog) rfl) (CallA.lend rfl rfl (by kernel_rfl) (by simp only [fL,gD,cW,fY,List.cons_append,List.nil_append,List.map_nil,List.getElem?_cons_zero,List.getElem?_cons_succ];rfl) (by simp [hl];exact fC l) rfl hix ?_)
  (refine WpL.go _ rfl fun Y y=>?_);repeat (first|(apply fw;focus ((with_reducible constructor)<;>constructor))|((first|with_reducible refine ga _ rfl fun Y y=>?_|apply ri);simp only [zb,seval,w97,hk];refine RunTo.fn y (by first|(simp;done)|omega|(simp;omega)) ?_;clear y Y))
  refine⟨.inl rfl,_,_,_,_,(by simp only [zb,seval];rfl),by simp,Le.refl _ _,rfl,rfl⟩
 | none =>
  have hi:idx l s = -1:=by unfold idx;rw [hp]
  rw [hi] at hix
  rw [show mB l s=l++[s] by unfold mB;rw [hp],show pA l s=l.length by unfold pA;rw [hp]]
  refine Fn.introT Tryz.func97 rfl Tryz.ntmps97 Tryz.results97 (by simp only [List.length_cons,List.length_nil];decide) ?_
  repeat (first|(apply fw;focus ((with_reducible constructor)<;>constructor))|((first|with_reducible refine ga _ rfl fun Y y=>?_|apply ri);simp only [zb,seval,w97];refine RunTo.fn y (by first|(simp;done)|omega|(simp;omega)) ?_;clear y Y))
  refine WpL.call rfl (aA (P:=Tryz.prog) rfl) (CallA.lend rfl rfl (by kernel_rfl) (by simp only [fL,gD,cW,fY,List.cons_append,List.nil_append,List.map_nil,List.getElem?_cons_zero,List.getElem?_cons_succ];rfl) (by simp [hl];exact fC l) rfl hix ?_)
  (refine WpL.go _ rfl fun Y y=>?_);repeat (first|(apply fw;focus ((with_reducible constructor)<;>constructor))|((first|with_reducible refine ga _ rfl fun Y y=>?_|apply ri);simp only [zb,seval,w97,hl];refine RunTo.fn y (by first|(simp;done)|omega|(simp;omega)) ?_;clear y Y))
  refine⟨.inl rfl,_,_,_,_,(by simp only [zb,seval];rfl),by simp,Le.drop 1 (by simp) ?_ ?_ (by simp [CJ,A.bd,A.bds,C.bd]) ?_,rfl,rfl⟩
  ·rw [JA];rfl
  ·simp [Sub,find,lY]
  ·simp only [ObBd];exact⟨UG _ _,trivial⟩
theorem WpL.number {nt:Cf} {ops:Array Oper} {Q:St→Prop} {st:St} {rest:List Oper} {d:Option Tmp} {fo:Operand} {args:List Operand} {tys:Array TypeId} {ty:TypeId} {pos:String} {aft:Array Edge} {c:C} {l:List ByteArray} {s:ByteArray} (hlen:l.length≤1000000000) (hd:mH nt d=true)
  (hf:rdA st.e fo=some (.one (.fn 97 []))) (ha:iW st.e args=some [.one c,.one (.v (.string s))]) (hc:At 9 1 st.s c (aW l))
  (h:∀S' c',At 9 1 S' c' (aW (mB l s))→(∀(j:Nat) (o:Option Ob),st.s[j]?=some o→(∀n,c≠.ms j n)→S'[j]?=some o)→(∀(j n:Nat),c'=.ms j n→c=.ms j l.length∨st.s.length≤j)→WpL Tryz.prog nt ops Q rest (St.put ⟨st.e,S'⟩ d (.tup [.one c',.one (.v (.int .i64 (pA l s)))]))) :
  WpL Tryz.prog nt ops Q (⟨d,.call { callee:=.value fo,args:=args.toArray,argTypes:=tys },ty,pos,aft,none⟩::rest) st:=by
 rcases hc with ⟨h0,rfl⟩|⟨hne,j,rfl,hj⟩
 ·have hl0:l=[]:=by simpa [aW] using h0
  subst hl0
  refine WpL.hand (s:=[]) (ρ:=[]) hd (aA (P:=Tryz.prog) rfl) hf ha (by kernel_rfl) rfl (Handed.of (by simp) rfl) (NG s) ?_
  rintro _ _ ⟨rfl,rfl⟩
  have e1:back st.s [] [some ⟨9,1,aW [s]⟩]=st.s++[some ⟨9,1,aW [s]⟩]:=by
   simp only [back,mix,fH,List.map_cons,List.map_nil,List.length_nil,List.drop_zero,Option.map_some,gR]
  have e2:A.ren (rn [] st.s.length) (.tup [.one (.ms 0 1),.one (.v (.int .i64 0))])=.tup [.one (.ms st.s.length 1),.one (.v (.int .i64 0))]:=by
   simp [A.ren,A.rens,C.ren,rn]
  rw [e1,e2]
  have ea:mB [] s=[s]:=rfl
  have en:pA [] s=0:=rfl
  have:=h (st.s++[some ⟨9,1,aW [s]⟩]) (.ms st.s.length 1) (by rw [ea];exact .inr ⟨by simp [aW],st.s.length,rfl,by simp⟩) (fun j o hj _=>aM hj) (fun j n e=>by cases e;exact .inr (Nat.le_refl _))
  rw [en] at this
  exact this
 ·have hl0:l≠[]:=fun e=>hne (by rw [e];rfl)
  have hsl:=cE l
  have hh:Handed st.s [j] [some ⟨9,1,aW l⟩]:=Handed.of (by simp) (by simp [hj,gR])
  refine WpL.hand (s:=[some ⟨9,1,aW l⟩]) (ρ:=[j]) (xs':=[.one (.ms 0 l.length),.one (.v (.string s))]) hd (aA (P:=Tryz.prog) rfl) hf ha (by kernel_rfl) (by simp [A.rens,A.ren,C.ren,rn,hsl]) hh (NH l s hl0 hlen) ?_
  rintro _ _ ⟨rfl,rfl⟩
  have e1:back st.s [j] [some ⟨9,1,aW (mB l s)⟩]=st.s.set j (some ⟨9,1,aW (mB l s)⟩):=by
   simp [back,mix,fH,gR]
  have e2:∀m:Nat,A.ren (rn [j] st.s.length) (.tup [.one (.ms 0 m),.one (.v (.int .i64 (pA l s)))])=.tup [.one (.ms j m),.one (.v (.int .i64 (pA l s)))]:=fun m=>by
   simp [A.ren,A.rens,C.ren,rn]
  rw [e1,e2]
  refine h _ (.ms j (mB l s).length) (.inr ⟨fun e=>NF l s (by simpa [aW] using e),j,by rw [cE],List.getElem?_set_self (List.getElem?_eq_some_iff.1 hj).1⟩) (fun i o hi hn=>?_) (fun i n e=>by cases e;exact .inl (by rw [hsl]))
  rw [List.getElem?_set_ne (fun e=>by subst e;exact hn _ rfl)];exact hi
def scC (sc:List (List ByteArray)):List (List C):=sc.map fun l=>[.sl 1 (aW l)]
theorem sG (sc:List (List ByteArray)):(scC sc).length=sc.length:=by simp [scC]
theorem UJ {sc:List (List ByteArray)} {i:Nat} (h:i<sc.length):(scC sc)[i]?=some [.sl 1 (aW sc[i])]:=by simp [scC,h]
noncomputable def kY (s:ByteArray):List (List ByteArray)→Option (Nat × Nat)
 | []=>none
 | l::r=>match qQ l s with
  | some k=>some (0,k)
  | none=>match kY s r with
   | some (o,k)=>some (o+1,k)
   | none=>none
noncomputable def FA (sc:List (List ByteArray)) (s:ByteArray):A:=match kY s sc.reverse with
 | some (o,k)=>.tup [.one (.v (.int .i64 o)),.one (.v (.int .i64 k)),.one (.v (.bool true))]
 | none=>.tup [.one (.v (.int .i64 0)),.one (.v (.int .i64 0)),.one (.v (.bool false))]
def PlI (sc:List (List ByteArray)) (s:ByteArray) (n:Nat) (st:St):Prop:=n≤sc.length∧(∀o k,kY s (sc.take n).reverse=some (o,k)→kY s sc.reverse=some (o+(sc.length-n),k))∧(kY s (sc.take n).reverse=none→kY s sc.reverse=none) ∧
 st=⟨[(7,.one (.v (.int .i64 ((n:Int)-1)))),(0,.one (.sl 1 (scC sc))),(1,.one (.v (.string s)))],[]⟩
theorem LN (sc:List (List ByteArray)) (s:ByteArray) (hlen:sc.length≤1000000000) (hll:∀l∈sc,l.length≤1000000000):Pure Tryz.prog 116 [.one (.sl 1 (scC sc)),.one (.v (.string s))] (FA sc s):=by
 have hl:=sG sc
 have hw0:IntKind.i64.wrap ((sc.length:Int)-1)=(sc.length:Int)-1:=dQ (by omega) (by omega)
 refine Fn.intro Tryz.func116 rfl Tryz.ntmps116 Tryz.results116 (by simp only [List.length_cons,List.length_nil];decide) ?_
 repeat (first|(apply fw;focus ((with_reducible constructor)<;>constructor))|((first|with_reducible refine ga _ rfl fun Y y=>?_|apply ri);simp only [zb,seval,EM,hl,hw0];refine RunTo.fn y (by first|(simp;done)|omega|(simp;omega)) ?_;clear y Y))
 refine WpA.loop (PlI sc s) sc.length ?_ ⟨Nat.le_refl _,fun o k h=>by rw [List.take_length] at h;simpa using h,fun h=>by rw [List.take_length] at h;exact h,rfl⟩ ?_
 ·exact Le.sub (by simp [Sub,find])
 intro n st hI
 obtain⟨hn,hs1,hs2,rfl⟩:=hI
 rcases n with _|n
 ·have hz:((0:Nat):Int)-1 = -1:=rfl
  rw [hz]
  have hf:decide ((0:Int)≤-1)=false:=rfl
  have hpn:=hs2 rfl
  repeat (first|(apply fw;focus ((with_reducible constructor)<;>constructor))|((first|with_reducible refine ga _ rfl fun Y y=>?_|apply ri);simp only [zb,seval,EM,hf];refine RunTo.fn y (by first|(simp;done)|omega|(simp;omega)) ?_;clear y Y))
  repeat (first|(apply fw;focus ((with_reducible constructor)<;>constructor))|((first|with_reducible refine ga _ rfl fun Y y=>?_|apply ri);simp only [zb,seval,EM,hf];refine RunTo.fn y (by first|(simp;done)|omega|(simp;omega)) ?_;clear y Y))
  refine⟨by simp,_,_,_,_,(by simp only [zb,seval,EM];rfl),(by simp),(by simp only [zv];rfl),(by simp [A.shut,C.shut]),_,ALe.refl _,?_⟩
  rw [FA,hpn]
 have hge:((n+1:Nat):Int)-1=(n:Int):=by omega
 have hlt:n<sc.length:=by omega
 have hget:=UJ hlt
 have hg1:decide (0≤(n:Int))=true:=by simp
 have hw2:IntKind.i64.wrap ((n:Int)-1)=(n:Int)-1:=dQ (by omega) (by omega)
 have hix:=pU sc[n] s (by have:=hll sc[n] (List.getElem_mem _);omega)
 have htk:(sc.take (n+1)).reverse=sc[n]::(sc.take n).reverse:=by rw [List.take_succ_eq_append_getElem hlt];simp
 rw [htk] at hs1 hs2
 rw [hge]
 cases hp:qQ sc[n] s with
 | some k =>
  have hi:idx sc[n] s=k:=by unfold idx;rw [hp]
  have hk0:decide (0≤(k:Int))=true:=by simp
  rw [hi] at hix
  have hpl:=hs1 0 k (by simp [kY,hp])
  have hw3:IntKind.i64.wrap ((sc.length:Int)-1-n)=((sc.length-(n+1):Nat):Int):=by rw [dQ (by omega) (by omega)];omega
  repeat (first|(apply fw;focus ((with_reducible constructor)<;>constructor))|((first|with_reducible refine ga _ rfl fun Y y=>?_|apply ri);simp only [zb,seval,EM,hg1,hget];refine RunTo.fn y (by first|(simp;done)|omega|(simp;omega)) ?_;clear y Y))
  refine WpL.call rfl (aA (P:=Tryz.prog) rfl) (CallA.shut rfl rfl (by kernel_rfl) (by first|exact ALes.refl _|((try simp only [rcc]);(repeat (first|exact ALes.refl _|refine ALes.cons ?_ ?_|exact ALe.refl _|exact ALe.nil|refine ALe.agg ?_|exact CLes.refl _|refine CLes.nil ?_|refine CLes.cons ?_)))) (by first|rfl|simp [dP,A.shut,C.shut]) (hix) ?_)
  (refine WpL.go _ rfl fun Y y=>?_);repeat (first|(apply fw;focus ((with_reducible constructor)<;>constructor))|((first|with_reducible refine ga _ rfl fun Y y=>?_|apply ri);simp only [zb,seval,EM,hk0,hl,hw0,hw3];refine RunTo.fn y (by first|(simp;done)|omega|(simp;omega)) ?_;clear y Y))
  refine⟨by simp,_,_,_,_,(by simp only [zb,seval,EM];rfl),(by simp),(by simp only [zv];rfl),(by simp [A.shut,C.shut]),_,ALe.refl _,?_⟩
  rw [FA,hpl];simp
 | none =>
  have hi:idx sc[n] s = -1:=by unfold idx;rw [hp]
  have hk0:decide ((0:Int)≤-1)=false:=rfl
  rw [hi] at hix
  repeat (first|(apply fw;focus ((with_reducible constructor)<;>constructor))|((first|with_reducible refine ga _ rfl fun Y y=>?_|apply ri);simp only [zb,seval,EM,hg1,hget];refine RunTo.fn y (by first|(simp;done)|omega|(simp;omega)) ?_;clear y Y))
  refine WpL.call rfl (aA (P:=Tryz.prog) rfl) (CallA.shut rfl rfl (by kernel_rfl) (by first|exact ALes.refl _|((try simp only [rcc]);(repeat (first|exact ALes.refl _|refine ALes.cons ?_ ?_|exact ALe.refl _|exact ALe.nil|refine ALe.agg ?_|exact CLes.refl _|refine CLes.nil ?_|refine CLes.cons ?_)))) (by first|rfl|simp [dP,A.shut,C.shut]) (hix) ?_)
  (refine WpL.go _ rfl fun Y y=>?_);repeat (first|(apply fw;focus ((with_reducible constructor)<;>constructor))|((first|with_reducible refine ga _ rfl fun Y y=>?_|apply ri);simp only [zb,seval,EM,hk0,hw2];refine RunTo.fn y (by first|(simp;done)|omega|(simp;omega)) ?_;clear y Y))
  refine⟨n,_,by omega,Le.sub (by simp [Sub,find]),by omega,fun o k h=>?_,fun h=>?_,rfl⟩
  ·have:=hs1 (o+1) k (by simp [kY,hp,h])
   rw [this];simp;omega
  ·exact hs2 (by simp [kY,hp,h])
structure Nd where
 op:Int
 a:Int
 b:Int
 l:List Int
structure Cd where
 nodes:List Nd
 consts:List D
 globals:List ByteArray
 prims:List ByteArray
 tops:List Int
def mL (l:List Int):List (List C):=l.map fun i=>[.v (.int .i64 i)]
def Nd.row (n:Nd):List C:=[.v (.int .i64 n.op),.v (.int .i64 n.a),.v (.int .i64 n.b),.sl 1 (mL n.l)]
def CoderIn (p:Nat) (S:List (Option Ob)) (c:Cd) (cN cC cG cP cT:C):Prop:=S[p]?=some (some ⟨76,5,[[cN,cC,cG,cP,cT]]⟩)∧At 72 4 S cN (c.nodes.map Nd.row)∧At 28 6 S cC (c.consts.map D.cc)∧At 9 1 S cG (aW c.globals)∧At 9 1 S cP (aW c.prims)∧At 3 1 S cT (mL c.tops)∧(∀j n m,cG=.ms j n→cP≠.ms j m)
theorem At.ty {t:TypeId} {wd:Nat} {S:List (Option Ob)} {c:C} {rows:List (List C)} (h:At t wd S c rows) {j n:Nat} (e:c=.ms j n):S[j]?=some (some ⟨t,wd,rows⟩):=by
 rcases h with ⟨_,rfl⟩|⟨_,i,rfl,hi⟩
 ·cases e
 ·cases e;exact hi
theorem CoderIn.app {p:Nat} {S:List (Option Ob)} {c:Cd} {cN cC cG cP cT:C} (h:CoderIn p S c cN cC cG cP cT) (T:List (Option Ob)):CoderIn p (S++T) c cN cC cG cP cT :=
 ⟨aM h.1,h.2.1.app T,h.2.2.1.app T,h.2.2.2.1.app T,h.2.2.2.2.1.app T,h.2.2.2.2.2.1.app T,h.2.2.2.2.2.2⟩
def Frm (p:Nat) (ts:List TypeId) (S S':List (Option Ob)):Prop:=S.length≤S'.length∧∀(j:Nat) (ob:Ob),S[j]?=some (some ob)→j≠p→ob.ty∉ts→S'[j]?=some (some ob)
theorem Frm.trans {p:Nat} {ts:List TypeId} {S S' S'':List (Option Ob)} (h:Frm p ts S S') (k:Frm p ts S' S''):Frm p ts S S'':=⟨Nat.le_trans h.1 k.1,fun j ob h1 h2 h3=>k.2 j ob (h.2 j ob h1 h2 h3) h2 h3⟩
theorem Frm.mono {p:Nat} {ts ts':List TypeId} {S S':List (Option Ob)} (h:Frm p ts S S') (hs:∀t∈ts,t∈ts'):Frm p ts' S S':=⟨h.1,fun j ob h1 h2 h3=>h.2 j ob h1 h2 fun h=>h3 (hs _ h)⟩
noncomputable def qR (c:Cd) (sc:List (List ByteArray)) (s:ByteArray) (lo gl:Int):(Int × Int × Int) × Cd:=match kY s sc.reverse with
 | some (o,k)=>((lo,o,k),c)
 | none=>((gl,pA c.globals s,0),{ c with globals:=mB c.globals s })
theorem rK (p:Nat) (S:List (Option Ob)) (c:Cd) (sc:List (List ByteArray)) (s:ByteArray) (lo gl:Int) {cN cC cG cP cT:C} (hI:CoderIn p S c cN cC cG cP cT) (hlen:sc.length≤1000000000) (hll:∀l∈sc,l.length≤1000000000) (hg:c.globals.length≤1000000000) :
  Fn Tryz.prog 96 [.one (.ptr p 1 0 0),.one (.sl 1 (scC sc)),.one (.v (.string s)),.one (.v (.int .i64 lo)),.one (.v (.int .i64 gl))] S (fun r S'=>r=.agg [.v (.int .i64 (qR c sc s lo gl).1.1),.v (.int .i64 (qR c sc s lo gl).1.2.1),.v (.int .i64 (qR c sc s lo gl).1.2.2),.v (.slice none 0 0)]∧(∃cG',CoderIn p S' (qR c sc s lo gl).2 cN cC cG' cP cT)∧Frm p [9] S S'):=by
 have hpl:=LN sc s hlen hll
 have hset:∀a b:Option Ob,(S++[a]).set S.length b=S++[b]:=fun a b=>by simp
 have hgl:∀a:Option Ob,(S++[a])[S.length]?=some a:=fun a=>by simp
 unfold qR FA at *
 cases hp:kY s sc.reverse with
 | some ok =>
  obtain⟨o,k⟩:=ok
  rw [hp] at hpl
  simp only at hpl
  refine Fn.introT Tryz.func96 rfl Tryz.ntmps96 Tryz.results96 (by simp only [List.length_cons,List.length_nil];decide) ?_
  repeat (first|(apply fw;focus ((with_reducible constructor)<;>constructor))|((first|with_reducible refine ga _ rfl fun Y y=>?_|apply ri);simp only [zb,seval,w96,hset,hgl];refine RunTo.fn y (by first|(simp;done)|omega|(simp;omega)) ?_;clear y Y))
  refine WpL.call rfl (aA (P:=Tryz.prog) rfl) (CallA.shut rfl rfl (by kernel_rfl) (by first|exact ALes.refl _|((try simp only [rcc]);(repeat (first|exact ALes.refl _|refine ALes.cons ?_ ?_|exact ALe.refl _|exact ALe.nil|refine ALe.agg ?_|exact CLes.refl _|refine CLes.nil ?_|refine CLes.cons ?_)))) (by first|rfl|simp [dP,ksh]) (hpl) ?_)
  (refine WpL.go _ rfl fun Y y=>?_);repeat (first|(apply fw;focus ((with_reducible constructor)<;>constructor))|((first|with_reducible refine ga _ rfl fun Y y=>?_|apply ri);simp only [zb,seval,w96,hset,hgl];refine RunTo.fn y (by first|(simp;done)|omega|(simp;omega)) ?_;clear y Y))
  refine⟨.inl rfl,_,_,_,_,(by simp only [zb,seval,hgl,w96];rfl),by simp,Le.refl _ _,rfl,⟨cG,hI.app _⟩,by simp,fun j ob h _ _=>aM h⟩
 | none =>
  rw [hp] at hpl
  simp only at hpl
  refine Fn.introT Tryz.func96 rfl Tryz.ntmps96 Tryz.results96 (by simp only [List.length_cons,List.length_nil];decide) ?_
  repeat (first|(apply fw;focus ((with_reducible constructor)<;>constructor))|((first|with_reducible refine ga _ rfl fun Y y=>?_|apply ri);simp only [zb,seval,w96,hset,hgl];refine RunTo.fn y (by first|(simp;done)|omega|(simp;omega)) ?_;clear y Y))
  refine WpL.call rfl (aA (P:=Tryz.prog) rfl) (CallA.shut rfl rfl (by kernel_rfl) (by first|exact ALes.refl _|((try simp only [rcc]);(repeat (first|exact ALes.refl _|refine ALes.cons ?_ ?_|exact ALe.refl _|exact ALe.nil|refine ALe.agg ?_|exact CLes.refl _|refine CLes.nil ?_|refine CLes.cons ?_)))) (by first|rfl|simp [dP,ksh]) (hpl) ?_)
  have hp1:=hI.1
  have hp2:∀o,(S++[o])[p]?=some (some ⟨76,5,[[cN,cC,cG,cP,cT]]⟩):=fun o=>aM hI.1
  (refine WpL.go _ rfl fun Y y=>?_);repeat (first|(apply fw;focus ((with_reducible constructor)<;>constructor))|((first|with_reducible refine ga _ rfl fun Y y=>?_|apply ri);simp only [zb,seval,w96,hset,hgl,hp2];refine RunTo.fn y (by first|(simp;done)|omega|(simp;omega)) ?_;clear y Y))
  refine WpL.number (l:=c.globals) hg rfl rfl rfl (hI.2.2.2.1.app _) ?_
  intro S' c' hA hfr hpl2
  have hpS:p<S.length:=(List.getElem?_eq_some_iff.1 hI.1).1
  have hG:=hI.2.2.2.1
  have q1:S'[p]?=some (some ⟨76,5,[[cN,cC,cG,cP,cT]]⟩):=hfr p _ (aM hI.1) (hG.apart hI.1 (by show (76:Nat)≠_;decide))
  have q2:S'[S.length]?=some (some ⟨72,4,[[.v (.int .i64 0),.v (.int .i64 0),.v (.int .i64 0),.v (.slice none 0 0)]]⟩):=hfr S.length _ (hgl _) (fun n e=>absurd (hG.lt e) (by omega))
  have hS':S.length<S'.length:=(List.getElem?_eq_some_iff.1 q2).1
  have q3:∀o:Option Ob,(S'.set p o)[p]?=some o:=fun o=>List.getElem?_set_self (by omega)
  have q4:∀o:Option Ob,(S'.set p o)[S.length]?=some (some ⟨72,4,[[.v (.int .i64 0),.v (.int .i64 0),.v (.int .i64 0),.v (.slice none 0 0)]]⟩):=fun o=>by rw [List.getElem?_set_ne (by omega)];exact q2
  have q5:∀a b:Option Ob,((S'.set p a).set S.length b)[S.length]?=some b:=fun a b=>List.getElem?_set_self (by simpa using hS')
  (refine WpL.go _ rfl fun Y y=>?_);repeat (first|(apply fw;focus ((with_reducible constructor)<;>constructor))|((first|with_reducible refine ga _ rfl fun Y y=>?_|apply ri);simp only [zb,seval,w96,hset,hgl,hp2,q1,q2,q3,q4];refine RunTo.fn y (by first|(simp;done)|omega|(simp;omega)) ?_;clear y Y))
  refine⟨.inl rfl,_,_,_,_,(by simp only [zb,seval,q5,w96];rfl),by simp,Le.refl _ _,rfl,?_,?_⟩
  ·have stays:∀(j:Nat) (ob:Ob) (a b:Option Ob),S[j]?=some (some ob)→j≠p→(∀n,cG≠.ms j n)→((S'.set p a).set S.length b)[j]?=some (some ob):=fun j ob a b h1 h2 h3=>by
    have:=(List.getElem?_eq_some_iff.1 h1).1
    rw [List.getElem?_set_ne (by omega),List.getElem?_set_ne (fun e=>h2 e.symm)]
    exact hfr j _ (aM h1) h3
   have np:∀{j:Nat} {ob:Ob},S[j]?=some (some ob)→ob.ty≠76→j≠p:=fun h1 h2 e=>by subst e;rw [hI.1] at h1;cases h1;exact h2 rfl
   refine⟨c',?_,hI.2.1.stay fun j hj _=>stays j _ _ _ hj (np hj (by show (72:Nat)≠_;decide)) (hG.apart hj (by show (72:Nat)≠_;decide)),hI.2.2.1.stay fun j hj _=>stays j _ _ _ hj (np hj (by show (28:Nat)≠_;decide)) (hG.apart hj (by show (28:Nat)≠_;decide)),hA.stay fun j hj _=>?_,hI.2.2.2.2.1.stay fun j hj e=>stays j _ _ _ hj (np hj (by show (9:Nat)≠_;decide)) (fun n e'=>hI.2.2.2.2.2.2 j n _ e' e),hI.2.2.2.2.2.1.stay fun j hj _=>stays j _ _ _ hj (np hj (by show (3:Nat)≠_;decide)) (hG.apart hj (by show (3:Nat)≠_;decide)),?_⟩
   ·rw [List.getElem?_set_ne (by omega)];exact q3 _
   ·have n1:S.length≠j:=fun e=>by subst e;rw [q2] at hj;cases hj
    have n2:p≠j:=fun e=>by subst e;rw [q1] at hj;cases hj
    rw [List.getElem?_set_ne n1,List.getElem?_set_ne n2];exact hj
   ·intro j n m e e'
    rcases hpl2 j n e with h|h
    ·exact hI.2.2.2.2.2.2 j _ m h e'
    ·have:=hI.2.2.2.2.1.lt e'
     simp at h;omega
  ·refine⟨by simp;omega,fun j ob h1 h2 h3=>?_⟩
   have:=(List.getElem?_eq_some_iff.1 h1).1
   rw [List.getElem?_set_ne (by omega),List.getElem?_set_ne (fun e=>h2 e.symm)]
   exact hfr j _ (aM h1) (hG.apart h1 (fun e=>h3 (by simp [e])))
theorem xU (d:D) (hok:d.Ok):Pure Tryz.prog 104 [.agg d.cc] (.agg d.cc):=by
 refine nA fun w vs hg hv=>?_
 obtain⟨v,rfl,hv1⟩:=hv.one1
 exact (mV d w v hok hv1.isD).mono fun e w' ⟨v',he,hx,hr⟩=>⟨v',he,hx,(IsD.ca hr)⟩
theorem PF (d f:D) (hd:d.Ok) (hf:f.Ok):Pure Tryz.prog 95 [.agg d.cc,.agg f.cc] (.agg [.v (.int .i64 7),.v (.int .i32 0),.v (.bool false),.sl 1 [],.v (.string ⟨#[]⟩),.sl 6 [d.cc,f.cc]]):=by
 have h1:=xU d hd
 have h2:=xU f hf
 rw [D.cc_eq d,D.cc_eq f]
 rw [D.cc_eq] at h1 h2
 refine Fn.intro Tryz.func95 rfl Tryz.ntmps95 Tryz.results95 (by simp only [List.length_cons,List.length_nil];decide) ?_
 repeat (first|(apply fw;focus ((with_reducible constructor)<;>constructor))|((first|with_reducible refine ga _ rfl fun Y y=>?_|apply ri);simp only [zb,seval,w95];refine RunTo.fn y (by first|(simp;done)|omega|(simp;omega)) ?_;clear y Y))
 (refine WpA.draw1 6 [4] ([some ⟨28,6,[[.v (.int .i64 d.k),.v (.int .i32 d.c),.v (.bool d.neg),.sl 1 (d.mag.map fun n=>[.v (.int .u32 n)]),.v (.string d.t),.sl 6 (d.l.map D.cc)]]⟩,some ⟨28,6,[[.v (.int .i64 f.k),.v (.int .i32 f.c),.v (.bool f.neg),.sl 1 (f.mag.map fun n=>[.v (.int .u32 n)]),.v (.string f.t),.sl 6 (f.l.map D.cc)]]⟩]) [_,?_] _ _ _ _ rfl rfl rfl (by kernel_rfl) (by kernel_rfl) (by kernel_rfl) (by kernel_rfl) rfl rfl rfl rfl (by decide) fun K8 hK8=>?_);rotate_left 1;simp only [zz] at hK8 ⊢;(refine Draw1.go fun K7 hK7=>?_);simp only [zb,seval,w95];(refine RunQ.mk (by first|(simp;done)|omega|(simp;omega)) (hK7 _ _ (by rfl) ?_));clear hK7 K7;(simp only [zz,Nat.reduceAdd,Nat.reduceSub]);(try ((refine Draw1.nil (by simp only [List.mem_cons,List.not_mem_nil,or_false,forall_eq_or_imp,forall_eq];refine⟨?_,?_⟩<;>(refine LeS.of ?_)<;>(repeat (first|exact SLe.nil _|exact SLe.refl _|exact SLe.app _ _|refine SLe.same ?_|refine SLe.none ?_))) (hK8 _ ?_));clear hK8 K8;(refine WpL.go _ rfl fun Y y=>?_);repeat (first|(apply fw;focus ((with_reducible constructor)<;>constructor))|((first|with_reducible refine ga _ rfl fun Y y=>?_|apply ri);simp only [zb,seval,w95];refine RunTo.fn y (by first|(simp;done)|omega|(simp;omega)) ?_;clear y Y))))
 refine Draw1.step (by rfl) (fun s9 _=>OpS.shut rfl rfl rfl (by kernel_rfl) (by first|exact ALes.refl _|((try simp only [rcc]);(repeat (first|exact ALes.refl _|refine ALes.cons ?_ ?_|exact ALe.refl _|exact ALe.nil|refine ALe.agg ?_|exact CLes.refl _|refine CLes.nil ?_|refine CLes.cons ?_)))) (by first|rfl|simp [dP,A.shut,C.shut]) (h1)) ?_
 (refine Draw1.go fun K7 hK7=>?_);simp only [zb,seval,w95];(refine RunQ.mk (by first|(simp;done)|omega|(simp;omega)) (hK7 _ _ (by rfl) ?_));clear hK7 K7;(simp only [zz,Nat.reduceAdd,Nat.reduceSub]);(try ((refine Draw1.nil (by simp only [List.mem_cons,List.not_mem_nil,or_false,forall_eq_or_imp,forall_eq];refine⟨?_,?_⟩<;>(refine LeS.of ?_)<;>(repeat (first|exact SLe.nil _|exact SLe.refl _|exact SLe.app _ _|refine SLe.same ?_|refine SLe.none ?_))) (hK8 _ ?_));clear hK8 K8;(refine WpL.go _ rfl fun Y y=>?_);repeat (first|(apply fw;focus ((with_reducible constructor)<;>constructor))|((first|with_reducible refine ga _ rfl fun Y y=>?_|apply ri);simp only [zb,seval,w95];refine RunTo.fn y (by first|(simp;done)|omega|(simp;omega)) ?_;clear y Y))))
 refine Draw1.step (by rfl) (fun s9 _=>OpS.shut rfl rfl rfl (by kernel_rfl) (by first|exact ALes.refl _|((try simp only [rcc]);(repeat (first|exact ALes.refl _|refine ALes.cons ?_ ?_|exact ALe.refl _|exact ALe.nil|refine ALe.agg ?_|exact CLes.refl _|refine CLes.nil ?_|refine CLes.cons ?_)))) (by first|rfl|simp [dP,A.shut,C.shut]) (h2)) ?_
 (refine Draw1.go fun K7 hK7=>?_);simp only [zb,seval,w95];(refine RunQ.mk (by first|(simp;done)|omega|(simp;omega)) (hK7 _ _ (by rfl) ?_));clear hK7 K7;(simp only [zz,Nat.reduceAdd,Nat.reduceSub]);(try ((refine Draw1.nil (by simp only [List.mem_cons,List.not_mem_nil,or_false,forall_eq_or_imp,forall_eq];refine⟨?_,?_⟩<;>(refine LeS.of ?_)<;>(repeat (first|exact SLe.nil _|exact SLe.refl _|exact SLe.app _ _|refine SLe.same ?_|refine SLe.none ?_))) (hK8 _ ?_));clear hK8 K8;(refine WpL.go _ rfl fun Y y=>?_);repeat (first|(apply fw;focus ((with_reducible constructor)<;>constructor))|((first|with_reducible refine ga _ rfl fun Y y=>?_|apply ri);simp only [zb,seval,w95];refine RunTo.fn y (by first|(simp;done)|omega|(simp;omega)) ?_;clear y Y))))
 refine Draw1.eff 0 rfl rfl rfl (OpS.eff [(6,_),(8,_)] rfl (by rfl) ⟨rfl,rfl,trivial⟩ (by simp only [zb,seval,w95];rfl) (by first|(simp;done)|omega|(simp;omega))) ?_;(try simp only [bF]);(try ((refine Draw1.go fun K7 hK7=>?_);simp only [zb,seval,w95];(refine RunQ.mk (by first|(simp;done)|omega|(simp;omega)) (hK7 _ _ (by rfl) ?_));clear hK7 K7;(simp only [zz,Nat.reduceAdd,Nat.reduceSub]);(try ((refine Draw1.nil (by simp only [List.mem_cons,List.not_mem_nil,or_false,forall_eq_or_imp,forall_eq];refine⟨?_,?_⟩<;>(refine LeS.of ?_)<;>(repeat (first|exact SLe.nil _|exact SLe.refl _|exact SLe.app _ _|refine SLe.same ?_|refine SLe.none ?_))) (hK8 _ ?_));clear hK8 K8;(refine WpL.go _ rfl fun Y y=>?_);repeat (first|(apply fw;focus ((with_reducible constructor)<;>constructor))|((first|with_reducible refine ga _ rfl fun Y y=>?_|apply ri);simp only [zb,seval,w95];refine RunTo.fn y (by first|(simp;done)|omega|(simp;omega)) ?_;clear y Y))))))
 refine⟨by simp,_,_,_,_,(by simp only [zb,seval,w95];rfl),(by simp),(by simp only [zv];rfl),(by simp [C.shut]),_,ALe.agg (.cons (.cons (.cons (.nil (.refl _))))),rfl⟩
noncomputable def hJ (c:Cd) (x:K) (sc:List (List ByteArray)):(Int × Int × Int) × Cd :=
 if x.k=1 then ((1,c.consts.length,0),{ c with consts:=c.consts++[x.d] })
 else if x.k=2 then qR c sc x.name 2 3
 else if x.k=3 then qR c sc x.name 4 5
 else if x.k=4 then qR c [] x.name 0 6
 else if x.k=5 then ((7,0,0),c)
 else if x.k=6 then ((8,x.params.length,if x.rest=⟨#[]⟩ then 0 else 1),c)
 else if x.k=7 then ((9,0,0),c)
 else if x.k=8 then ((10,0,0),c)
 else if x.k=9 then ((11,0,0),c)
 else ((12,pA c.prims x.name,0),{ c with prims:=mB c.prims x.name })
def DE (t:Int × Int × Int):A:=.agg [.v (.int .i64 t.1),.v (.int .i64 t.2.1),.v (.int .i64 t.2.2),.v (.slice none 0 0)]
def rL (p:Nat) (S:List (Option Ob)) (cN cT:C) (t:(Int × Int × Int) × Cd) (r:A) (S':List (Option Ob)):Prop:=r=DE t.1∧(∃cC' cG' cP',CoderIn p S' t.2 cN cC' cG' cP' cT)∧Frm p [9,28] S S'
theorem CoderIn.put2 {p:Nat} {S':List (Option Ob)} {c:Cd} {cN cC cG cP cT:C} {n i:Nat} {a:Ob} {x:Option Ob} (h:CoderIn p S' c cN cC cG cP cT) (hn:∀j m,cN=.ms j m→j<n) (hi:n≤i) (hx:S'[i]?=some (some a)) (ha:a.ty=72):CoderIn p (S'.set i x) c cN cC cG cP cT:=by
 have hp:i≠p:=fun e=>by subst e;rw [h.1] at hx;cases hx;exact absurd ha (by show (76:Nat)≠_;decide)
 have hs:∀{t:TypeId},t≠72→∀ob,S'[i]?=some (some ob)→ob.ty≠t:=fun ht ob ho e=>by rw [hx] at ho;cases ho;exact ht (e.symm.trans ha)
 refine⟨by rw [List.getElem?_set_ne hp];exact h.1,h.2.1.stay fun j hj e=>?_,h.2.2.1.set (hs (by decide)),h.2.2.2.1.set (hs (by decide)),h.2.2.2.2.1.set (hs (by decide)),h.2.2.2.2.2.1.set (hs (by decide)),h.2.2.2.2.2.2⟩
 rw [List.getElem?_set_ne (by have:=hn j _ e;omega)];exact hj
section
variable (p:Nat) (S:List (Option Ob)) (c:Cd) (name rest:ByteArray) (params:List ByteArray) (d:D) (l:List K) (sc:List (List ByteArray)) {cN cC cG cP cT:C} (hI:CoderIn p S c cN cC cG cP cT)
include hI
theorem XQ:Fn Tryz.prog 68 [.one (.ptr p 1 0 0),.agg (K.mk 5 name rest params d l).cc,.one (.sl 1 (scC sc))] S (rL p S cN cT ((7,0,0),c)):=by
 rw [K.cc_eq]
 simp only [K.k,K.name,K.rest,K.params,K.d,K.l]
 refine Fn.introT Tryz.func68 rfl Tryz.ntmps68 Tryz.results68 (by simp only [List.length_cons,List.length_nil];decide) ?_
 repeat (first|(apply fw;focus ((with_reducible constructor)<;>constructor))|((first|with_reducible refine ga _ rfl fun Y y=>?_|apply ri);simp only [zb,seval,w68,List.length_append,bA,bW,bB,dS,cF];refine RunTo.fn y (by first|(simp;done)|omega|(simp;omega)) ?_;clear y Y))
 refine⟨.inl rfl,_,_,_,_,(by simp only [zb,seval,bW,w68];rfl),by simp,Le.refl _ _,rfl,⟨cC,cG,cP,hI.app _⟩,by simp,fun j ob h _ _=>aM h⟩
theorem XR:Fn Tryz.prog 68 [.one (.ptr p 1 0 0),.agg (K.mk 7 name rest params d l).cc,.one (.sl 1 (scC sc))] S (rL p S cN cT ((9,0,0),c)):=by
 rw [K.cc_eq]
 simp only [K.k,K.name,K.rest,K.params,K.d,K.l]
 refine Fn.introT Tryz.func68 rfl Tryz.ntmps68 Tryz.results68 (by simp only [List.length_cons,List.length_nil];decide) ?_
 repeat (first|(apply fw;focus ((with_reducible constructor)<;>constructor))|((first|with_reducible refine ga _ rfl fun Y y=>?_|apply ri);simp only [zb,seval,w68,List.length_append,bA,bW,bB,dS,cF];refine RunTo.fn y (by first|(simp;done)|omega|(simp;omega)) ?_;clear y Y))
 refine⟨.inl rfl,_,_,_,_,(by simp only [zb,seval,bW,w68];rfl),by simp,Le.refl _ _,rfl,⟨cC,cG,cP,hI.app _⟩,by simp,fun j ob h _ _=>aM h⟩
theorem XS:Fn Tryz.prog 68 [.one (.ptr p 1 0 0),.agg (K.mk 8 name rest params d l).cc,.one (.sl 1 (scC sc))] S (rL p S cN cT ((10,0,0),c)):=by
 rw [K.cc_eq]
 simp only [K.k,K.name,K.rest,K.params,K.d,K.l]
 refine Fn.introT Tryz.func68 rfl Tryz.ntmps68 Tryz.results68 (by simp only [List.length_cons,List.length_nil];decide) ?_
 repeat (first|(apply fw;focus ((with_reducible constructor)<;>constructor))|((first|with_reducible refine ga _ rfl fun Y y=>?_|apply ri);simp only [zb,seval,w68,List.length_append,bA,bW,bB,dS,cF];refine RunTo.fn y (by first|(simp;done)|omega|(simp;omega)) ?_;clear y Y))
 refine⟨.inl rfl,_,_,_,_,(by simp only [zb,seval,bW,w68];rfl),by simp,Le.refl _ _,rfl,⟨cC,cG,cP,hI.app _⟩,by simp,fun j ob h _ _=>aM h⟩
theorem XT:Fn Tryz.prog 68 [.one (.ptr p 1 0 0),.agg (K.mk 9 name rest params d l).cc,.one (.sl 1 (scC sc))] S (rL p S cN cT ((11,0,0),c)):=by
 rw [K.cc_eq]
 simp only [K.k,K.name,K.rest,K.params,K.d,K.l]
 refine Fn.introT Tryz.func68 rfl Tryz.ntmps68 Tryz.results68 (by simp only [List.length_cons,List.length_nil];decide) ?_
 repeat (first|(apply fw;focus ((with_reducible constructor)<;>constructor))|((first|with_reducible refine ga _ rfl fun Y y=>?_|apply ri);simp only [zb,seval,w68,List.length_append,bA,bW,bB,dS,cF];refine RunTo.fn y (by first|(simp;done)|omega|(simp;omega)) ?_;clear y Y))
 refine⟨.inl rfl,_,_,_,_,(by simp only [zb,seval,bW,w68];rfl),by simp,Le.refl _ _,rfl,⟨cC,cG,cP,hI.app _⟩,by simp,fun j ob h _ _=>aM h⟩
variable (hg:c.globals.length≤1000000000)
include hg
theorem XU:Fn Tryz.prog 68 [.one (.ptr p 1 0 0),.agg (K.mk 4 name rest params d l).cc,.one (.sl 1 (scC sc))] S (rL p S cN cT (qR c [] name 0 6)):=by
 rw [K.cc_eq]
 simp only [K.k,K.name,K.rest,K.params,K.d,K.l]
 have hv:=fun T=>rK p (S++T) c [] name 0 6 (hI.app T) (by first|exact hlen|simp) (by first|exact hll|simp) hg
 refine Fn.introT Tryz.func68 rfl Tryz.ntmps68 Tryz.results68 (by simp only [List.length_cons,List.length_nil];decide) ?_
 repeat (first|(apply fw;focus ((with_reducible constructor)<;>constructor))|((first|with_reducible refine ga _ rfl fun Y y=>?_|apply ri);simp only [zb,seval,w68,List.length_append,bA,bW,bB,dS,cF];refine RunTo.fn y (by first|(simp;done)|omega|(simp;omega)) ?_;clear y Y))
 refine WpL.handAll rfl (aA (P:=Tryz.prog) rfl) rfl rfl (by kernel_rfl) (ALes.cons (ALe.refl _) (ALes.cons ALe.nil (ALes.refl _))) (hv _) ?_
 rintro _ S' ⟨rfl,⟨cG',hI'⟩,hF⟩
 have hpS:p<S.length:=(List.getElem?_eq_some_iff.1 hI.1).1
 have q1:S'[S.length+1]?=some (some ⟨72,4,[[.v (.int .i64 0),.v (.int .i64 0),.v (.int .i64 0),.v (.slice none 0 0)]]⟩):=hF.2 _ _ (bW _ _ _ _) (by omega) (by show (72:Nat)∉_;decide)
 have q2:S'[S.length+2]?=some (some ⟨72,4,[[.v (.int .i64 0),.v (.int .i64 0),.v (.int .i64 0),.v (.slice none 0 0)]]⟩):=hF.2 _ _ (bB _ _ _ _ _) (by omega) (by show (72:Nat)∉_;decide)
 have hl2:=(List.getElem?_eq_some_iff.1 q2).1
 have r1:∀o:Option Ob,(S'.set (S.length+2) o)[S.length+1]?=some (some ⟨72,4,[[.v (.int .i64 0),.v (.int .i64 0),.v (.int .i64 0),.v (.slice none 0 0)]]⟩):=fun o=>by rw [List.getElem?_set_ne (by omega)];exact q1
 have r2:∀o:Option Ob,(S'.set (S.length+2) o)[S.length+2]?=some o:=fun o=>List.getElem?_set_self hl2
 have r3:∀o o':Option Ob,((S'.set (S.length+2) o).set (S.length+1) o')[S.length+1]?=some o':=fun o o'=>List.getElem?_set_self (by simp;omega)
 (refine WpL.go _ rfl fun Y y=>?_);repeat (first|(apply fw;focus ((with_reducible constructor)<;>constructor))|((first|with_reducible refine ga _ rfl fun Y y=>?_|apply ri);simp only [zb,seval,w68,q1,q2,r1,r2];refine RunTo.fn y (by first|(simp;done)|omega|(simp;omega)) ?_;clear y Y))
 refine⟨.inl rfl,_,_,_,_,(by simp only [zb,seval,r3,w68];rfl),by simp,Le.refl _ _,rfl,⟨cC,cG',cP,?_⟩,?_,fun j ob h1 h2 h3=>?_⟩
 ·have hn:∀j m,cN=.ms j m→j<S.length:=fun j m e=>hI.2.1.lt e
  exact (hI'.put2 hn (by omega) q2 rfl).put2 hn (by omega) (r1 _) rfl
 ·have:=hF.1;simp at this;simp;omega
 ·have hj:=(List.getElem?_eq_some_iff.1 h1).1
  rw [List.getElem?_set_ne (by omega),List.getElem?_set_ne (by omega)]
  exact hF.2 j ob (aM h1) h2 (fun h=>h3 (by simp at h;simp [h]))
variable (hlen:sc.length≤1000000000) (hll:∀l∈sc,l.length≤1000000000)
include hlen hll
theorem XV:Fn Tryz.prog 68 [.one (.ptr p 1 0 0),.agg (K.mk 2 name rest params d l).cc,.one (.sl 1 (scC sc))] S (rL p S cN cT (qR c sc name 2 3)):=by
 rw [K.cc_eq]
 simp only [K.k,K.name,K.rest,K.params,K.d,K.l]
 have hv:=fun T=>rK p (S++T) c sc name 2 3 (hI.app T) (by first|exact hlen|simp) (by first|exact hll|simp) hg
 refine Fn.introT Tryz.func68 rfl Tryz.ntmps68 Tryz.results68 (by simp only [List.length_cons,List.length_nil];decide) ?_
 repeat (first|(apply fw;focus ((with_reducible constructor)<;>constructor))|((first|with_reducible refine ga _ rfl fun Y y=>?_|apply ri);simp only [zb,seval,w68,List.length_append,bA,bW,bB,dS,cF];refine RunTo.fn y (by first|(simp;done)|omega|(simp;omega)) ?_;clear y Y))
 refine WpL.handAll rfl (aA (P:=Tryz.prog) rfl) rfl rfl (by kernel_rfl) (ALes.refl _) (hv _) ?_
 rintro _ S' ⟨rfl,⟨cG',hI'⟩,hF⟩
 have hpS:p<S.length:=(List.getElem?_eq_some_iff.1 hI.1).1
 have q1:S'[S.length+1]?=some (some ⟨72,4,[[.v (.int .i64 0),.v (.int .i64 0),.v (.int .i64 0),.v (.slice none 0 0)]]⟩):=hF.2 _ _ (bW _ _ _ _) (by omega) (by show (72:Nat)∉_;decide)
 have q2:S'[S.length+2]?=some (some ⟨72,4,[[.v (.int .i64 0),.v (.int .i64 0),.v (.int .i64 0),.v (.slice none 0 0)]]⟩):=hF.2 _ _ (bB _ _ _ _ _) (by omega) (by show (72:Nat)∉_;decide)
 have hl2:=(List.getElem?_eq_some_iff.1 q2).1
 have r1:∀o:Option Ob,(S'.set (S.length+2) o)[S.length+1]?=some (some ⟨72,4,[[.v (.int .i64 0),.v (.int .i64 0),.v (.int .i64 0),.v (.slice none 0 0)]]⟩):=fun o=>by rw [List.getElem?_set_ne (by omega)];exact q1
 have r2:∀o:Option Ob,(S'.set (S.length+2) o)[S.length+2]?=some o:=fun o=>List.getElem?_set_self hl2
 have r3:∀o o':Option Ob,((S'.set (S.length+2) o).set (S.length+1) o')[S.length+1]?=some o':=fun o o'=>List.getElem?_set_self (by simp;omega)
 (refine WpL.go _ rfl fun Y y=>?_);repeat (first|(apply fw;focus ((with_reducible constructor)<;>constructor))|((first|with_reducible refine ga _ rfl fun Y y=>?_|apply ri);simp only [zb,seval,w68,q1,q2,r1,r2];refine RunTo.fn y (by first|(simp;done)|omega|(simp;omega)) ?_;clear y Y))
 refine⟨.inl rfl,_,_,_,_,(by simp only [zb,seval,r3,w68];rfl),by simp,Le.refl _ _,rfl,⟨cC,cG',cP,?_⟩,?_,fun j ob h1 h2 h3=>?_⟩
 ·have hn:∀j m,cN=.ms j m→j<S.length:=fun j m e=>hI.2.1.lt e
  exact (hI'.put2 hn (by omega) q2 rfl).put2 hn (by omega) (r1 _) rfl
 ·have:=hF.1;simp at this;simp;omega
 ·have hj:=(List.getElem?_eq_some_iff.1 h1).1
  rw [List.getElem?_set_ne (by omega),List.getElem?_set_ne (by omega)]
  exact hF.2 j ob (aM h1) h2 (fun h=>h3 (by simp at h;simp [h]))
theorem XW:Fn Tryz.prog 68 [.one (.ptr p 1 0 0),.agg (K.mk 3 name rest params d l).cc,.one (.sl 1 (scC sc))] S (rL p S cN cT (qR c sc name 4 5)):=by
 rw [K.cc_eq]
 simp only [K.k,K.name,K.rest,K.params,K.d,K.l]
 have hv:=fun T=>rK p (S++T) c sc name 4 5 (hI.app T) (by first|exact hlen|simp) (by first|exact hll|simp) hg
 refine Fn.introT Tryz.func68 rfl Tryz.ntmps68 Tryz.results68 (by simp only [List.length_cons,List.length_nil];decide) ?_
 repeat (first|(apply fw;focus ((with_reducible constructor)<;>constructor))|((first|with_reducible refine ga _ rfl fun Y y=>?_|apply ri);simp only [zb,seval,w68,List.length_append,bA,bW,bB,dS,cF];refine RunTo.fn y (by first|(simp;done)|omega|(simp;omega)) ?_;clear y Y))
 refine WpL.handAll rfl (aA (P:=Tryz.prog) rfl) rfl rfl (by kernel_rfl) (ALes.refl _) (hv _) ?_
 rintro _ S' ⟨rfl,⟨cG',hI'⟩,hF⟩
 have hpS:p<S.length:=(List.getElem?_eq_some_iff.1 hI.1).1
 have q1:S'[S.length+1]?=some (some ⟨72,4,[[.v (.int .i64 0),.v (.int .i64 0),.v (.int .i64 0),.v (.slice none 0 0)]]⟩):=hF.2 _ _ (bW _ _ _ _) (by omega) (by show (72:Nat)∉_;decide)
 have q2:S'[S.length+2]?=some (some ⟨72,4,[[.v (.int .i64 0),.v (.int .i64 0),.v (.int .i64 0),.v (.slice none 0 0)]]⟩):=hF.2 _ _ (bB _ _ _ _ _) (by omega) (by show (72:Nat)∉_;decide)
 have hl2:=(List.getElem?_eq_some_iff.1 q2).1
 have r1:∀o:Option Ob,(S'.set (S.length+2) o)[S.length+1]?=some (some ⟨72,4,[[.v (.int .i64 0),.v (.int .i64 0),.v (.int .i64 0),.v (.slice none 0 0)]]⟩):=fun o=>by rw [List.getElem?_set_ne (by omega)];exact q1
 have r2:∀o:Option Ob,(S'.set (S.length+2) o)[S.length+2]?=some o:=fun o=>List.getElem?_set_self hl2
 have r3:∀o o':Option Ob,((S'.set (S.length+2) o).set (S.length+1) o')[S.length+1]?=some o':=fun o o'=>List.getElem?_set_self (by simp;omega)
 (refine WpL.go _ rfl fun Y y=>?_);repeat (first|(apply fw;focus ((with_reducible constructor)<;>constructor))|((first|with_reducible refine ga _ rfl fun Y y=>?_|apply ri);simp only [zb,seval,w68,q1,q2,r1,r2];refine RunTo.fn y (by first|(simp;done)|omega|(simp;omega)) ?_;clear y Y))
 refine⟨.inl rfl,_,_,_,_,(by simp only [zb,seval,r3,w68];rfl),by simp,Le.refl _ _,rfl,⟨cC,cG',cP,?_⟩,?_,fun j ob h1 h2 h3=>?_⟩
 ·have hn:∀j m,cN=.ms j m→j<S.length:=fun j m e=>hI.2.1.lt e
  exact (hI'.put2 hn (by omega) q2 rfl).put2 hn (by omega) (r1 _) rfl
 ·have:=hF.1;simp at this;simp;omega
 ·have hj:=(List.getElem?_eq_some_iff.1 h1).1
  rw [List.getElem?_set_ne (by omega),List.getElem?_set_ne (by omega)]
  exact hF.2 j ob (aM h1) h2 (fun h=>h3 (by simp at h;simp [h]))
end
theorem SLe.pre {T T':List (Option Ob)} (S:List (Option Ob)) (h:SLe T T'):SLe (S++T) (S++T'):=fun i ob hi=>by
 rw [List.getElem?_append] at hi ⊢
 by_cases hlt:i<S.length
 ·rw [if_pos hlt] at hi ⊢;exact hi
 ·rw [if_neg hlt] at hi ⊢;exact h _ _ hi
theorem kZ (S:List (Option Ob)) (bx rs:Option Ob) (t:TypeId) (a b c d:C):LeS (S++[bx,none,some ⟨t,4,[[.any,.any,.any,.any]]⟩]) (S++[bx,rs,some ⟨t,4,[[a,b,c,d]]⟩]):=by
 refine LeS.any (j:=S.length+2) (a:=⟨t,4,[[.any,.any,.any,.any]]⟩) (b:=⟨t,4,[[a,b,c,d]]⟩) ?_ (bB _ _ _ _ _) rfl rfl ⟨⟨FzC.any,FzC.any,FzC.any,FzC.any,trivial⟩,trivial⟩
 rw [cF]
 exact SLe.pre S (SLe.same (SLe.none (SLe.same (SLe.nil _))))
section
variable (p:Nat) (S:List (Option Ob)) (c:Cd) (name rest:ByteArray) (params:List ByteArray) (d:D) (l:List K) (sc:List (List ByteArray)) {cN cC cG cP cT:C} (hI:CoderIn p S c cN cC cG cP cT)
include hI
theorem XX:Fn Tryz.prog 68 [.one (.ptr p 1 0 0),.agg (K.mk 6 name rest params d l).cc,.one (.sl 1 (scC sc))] S (rL p S cN cT ((8,params.length,if rest=⟨#[]⟩ then 0 else 1),c)):=by
 rw [K.cc_eq]
 simp only [K.k,K.name,K.rest,K.params,K.d,K.l]
 have hl:=cE params
 by_cases hr:rest=⟨#[]⟩
 case' pos=>have hre:eqB rest ⟨#[]⟩=true:=aV hr
 case' pos=>rw [if_pos hr]
 case' neg=>have hre:eqB rest ⟨#[]⟩=false:=aB hr
 case' neg=>rw [if_neg hr]
 all_goals
  refine Fn.introT Tryz.func68 rfl Tryz.ntmps68 Tryz.results68 (by simp only [List.length_cons,List.length_nil];decide) ?_
  repeat (first|(apply fw;focus ((with_reducible constructor)<;>constructor))|((first|with_reducible refine ga _ rfl fun Y y=>?_|apply ri);simp only [zb,seval,w68,List.length_append,bA,bW,bB,dS,cF];refine RunTo.fn y (by first|(simp;done)|omega|(simp;omega)) ?_;clear y Y))
  skip
  (refine WpA.draw1 7 [4,6] (S++[some ⟨31,11,[[.v (.int .i64 6),.v (.string name),.v (.string rest),.sl 1 (aW params),.v (.int .i64 d.k),.v (.int .i32 d.c),.v (.bool d.neg),.sl 1 (d.mag.map fun n=>[.v (.int .u32 n)]),.v (.string d.t),.sl 6 (d.l.map D.cc),.sl 11 (l.map K.cc)]]⟩,none,some ⟨72,4,[[.any,.any,.any,.any]]⟩]) [_,?_,?_] _ _ _ _ rfl rfl rfl (by kernel_rfl) (by kernel_rfl) (by kernel_rfl) (by kernel_rfl) rfl rfl rfl rfl (by decide) fun K8 hK8=>?_);rotate_left 2;simp only [zz] at hK8 ⊢;(refine Draw1.go fun K7 hK7=>?_);simp only [zb,seval,w68,bA,bB,hl];(refine RunQ.mk (by first|(simp;done)|omega|(simp;omega)) (hK7 _ _ (by rfl) ?_));clear hK7 K7;(simp only [zz,Nat.reduceAdd,Nat.reduceSub]);(try ((refine Draw1.nil (by simp only [List.mem_cons,List.not_mem_nil,or_false,forall_eq_or_imp,forall_eq];exact⟨kZ _ _ _ _ _ _ _ _,kZ _ _ _ _ _ _ _ _,kZ _ _ _ _ _ _ _ _⟩) (hK8 _ ?_));clear hK8 K8;(refine WpL.go _ rfl fun Y y=>?_);repeat (first|(apply fw;focus ((with_reducible constructor)<;>constructor))|((first|with_reducible refine ga _ rfl fun Y y=>?_|apply ri);simp only [zb,seval,w68,bA,bB,hl];refine RunTo.fn y (by first|(simp;done)|omega|(simp;omega)) ?_;clear y Y))))
  refine Draw1.eff 0 rfl rfl rfl (OpS.eff [(68,_)] rfl (by rfl) ⟨rfl,trivial⟩ (by simp only [zb,seval,w68,bA,bB,cF];rfl) (by first|(simp;done)|omega|(simp;omega))) ?_;(try simp only [bF]);(try ((refine Draw1.go fun K7 hK7=>?_);simp only [zb,seval,w68,bA,bB,cF];(refine RunQ.mk (by first|(simp;done)|omega|(simp;omega)) (hK7 _ _ (by rfl) ?_));clear hK7 K7;(simp only [zz,Nat.reduceAdd,Nat.reduceSub]);(try ((refine Draw1.nil (by simp only [List.mem_cons,List.not_mem_nil,or_false,forall_eq_or_imp,forall_eq];exact⟨kZ _ _ _ _ _ _ _ _,kZ _ _ _ _ _ _ _ _,kZ _ _ _ _ _ _ _ _⟩) (hK8 _ ?_));clear hK8 K8;(refine WpL.go _ rfl fun Y y=>?_);repeat (first|(apply fw;focus ((with_reducible constructor)<;>constructor))|((first|with_reducible refine ga _ rfl fun Y y=>?_|apply ri);simp only [zb,seval,w68,bA,bB,cF];refine RunTo.fn y (by first|(simp;done)|omega|(simp;omega)) ?_;clear y Y))))))
  refine Draw1.eff 1 rfl rfl rfl (OpS.eff [(69,_),(67,_)] rfl (by rfl) ⟨rfl,rfl,trivial⟩ (by simp only [zb,seval,w68,cA,hre,bA,bW,bB,dS,cF];rfl) (by first|(simp;done)|omega|(simp;omega))) ?_;(try simp only [bF]);(try ((refine Draw1.go fun K7 hK7=>?_);simp only [zb,seval,w68,cA,hre,bA,bW,bB,dS,cF];(refine RunQ.mk (by first|(simp;done)|omega|(simp;omega)) (hK7 _ _ (by rfl) ?_));clear hK7 K7;(simp only [zz,Nat.reduceAdd,Nat.reduceSub]);(try ((refine Draw1.nil (by simp only [List.mem_cons,List.not_mem_nil,or_false,forall_eq_or_imp,forall_eq];exact⟨kZ _ _ _ _ _ _ _ _,kZ _ _ _ _ _ _ _ _,kZ _ _ _ _ _ _ _ _⟩) (hK8 _ ?_));clear hK8 K8;(refine WpL.go _ rfl fun Y y=>?_);repeat (first|(apply fw;focus ((with_reducible constructor)<;>constructor))|((first|with_reducible refine ga _ rfl fun Y y=>?_|apply ri);simp only [zb,seval,w68,cA,hre,bA,bW,bB,dS,cF];refine RunTo.fn y (by first|(simp;done)|omega|(simp;omega)) ?_;clear y Y))))))
  refine⟨.inl rfl,_,_,_,_,(by simp only [zb,seval,bW,w68];rfl),by simp,Le.refl _ _,rfl,⟨cC,cG,cP,hI.app _⟩,by simp,fun j ob h _ _=>aM h⟩
end
theorem PG {S:List (Option Ob)} {cP:C} {l:List ByteArray} {s:ByteArray} (hA:At 9 1 S cP (aW l)) (hlen:l.length≤1000000000):∃S1 cP',At 9 1 S1 cP' (aW (mB l s))∧S.length≤S1.length∧(∀(j:Nat) (o:Option Ob),S[j]?=some o→(∀n,cP≠.ms j n)→S1[j]?=some o)∧(∀(j n:Nat),cP'=.ms j n→cP=.ms j l.length∨S.length≤j) ∧
  ∀{nt:Cf} {ds:List (Option Tmp)} {d:Option Tmp} {ty:TypeId} {pos:String} {aft:Array Edge} {g:Option (Nat × Bool)} {e:List (Nat × A)} {x1 x2:Operand} {tys:Array TypeId},dY ds e g=some true→rdA e x1=some (.one cP)→rdA e x2=some (.one (.v (.string s))) →
   OpS Tryz.prog nt ds ⟨d,.call { callee:=.value (.func 97),args:=#[x1,x2],argTypes:=tys },ty,pos,aft,g⟩ e S (.tup [.one cP',.one (.v (.int .i64 (pA l s)))]) S1:=by
 rcases hA with ⟨h0,rfl⟩|⟨hne,j,rfl,hj⟩
 ·have hl0:l=[]:=by simpa [aW] using h0
  subst hl0
  have ea:mB [] s=[s]:=rfl
  have en:pA [] s=0:=rfl
  have e1:back S [] [some ⟨9,1,aW [s]⟩]=S++[some ⟨9,1,aW [s]⟩]:=by
   simp only [back,mix,fH,List.map_cons,List.map_nil,List.length_nil,List.drop_zero,Option.map_some,gR]
  have e2:A.ren (rn [] S.length) (.tup [.one (.ms 0 1),.one (.v (.int .i64 0))])=.tup [.one (.ms S.length 1),.one (.v (.int .i64 0))]:=by
   simp [A.ren,A.rens,C.ren,rn]
  refine⟨S++[some ⟨9,1,aW [s]⟩],.ms S.length 1,by rw [ea];exact .inr ⟨by simp [aW],S.length,rfl,by simp⟩,by simp,fun j o hj _=>aM hj,fun j n e=>by cases e;exact .inr (Nat.le_refl _),?_⟩
  intro nt ds d ty pos aft g e x1 x2 tys hg h1 h2
  have:=OpS.hand (P:=Tryz.prog) (nt:=nt) (d:=d) (ty:=ty) (pos:=pos) (aft:=aft) (tys:=tys) (s:=S) (s1:=[]) (ρ:=[]) (fo:=.func 97) (args:=[x1,x2]) (caps:=[]) (xs:=[.one (.v (.slice none 0 0)),.one (.v (.string s))]) hg rfl (by simp only [iW,h1,h2]) (by kernel_rfl) rfl (Handed.of (by simp) rfl) (NG s)
  rw [e1,e2] at this
  rw [en]
  exact this
 ·have hl0:l≠[]:=fun e=>hne (by rw [e];rfl)
  have hsl:=cE l
  have hh:Handed S [j] [some ⟨9,1,aW l⟩]:=Handed.of (by simp) (by simp [hj,gR])
  have e1:back S [j] [some ⟨9,1,aW (mB l s)⟩]=S.set j (some ⟨9,1,aW (mB l s)⟩):=by
   simp [back,mix,fH,gR]
  have e2:∀m:Nat,A.ren (rn [j] S.length) (.tup [.one (.ms 0 m),.one (.v (.int .i64 (pA l s)))])=.tup [.one (.ms j m),.one (.v (.int .i64 (pA l s)))]:=fun m=>by
   simp [A.ren,A.rens,C.ren,rn]
  refine⟨S.set j (some ⟨9,1,aW (mB l s)⟩),.ms j (mB l s).length,.inr ⟨fun e=>NF l s (by simpa [aW] using e),j,by rw [cE],List.getElem?_set_self (List.getElem?_eq_some_iff.1 hj).1⟩,by simp,fun i o hi hn=>?_,fun i n e=>by cases e;exact .inl (by rw [hsl]),?_⟩
  ·rw [List.getElem?_set_ne (fun e=>by subst e;exact hn _ rfl)];exact hi
  intro nt ds d ty pos aft g e x1 x2 tys hg h1 h2
  have:=OpS.hand (P:=Tryz.prog) (nt:=nt) (d:=d) (ty:=ty) (pos:=pos) (aft:=aft) (tys:=tys) (s:=S) (s1:=[some ⟨9,1,aW l⟩]) (ρ:=[j]) (fo:=.func 97) (args:=[x1,x2]) (caps:=[]) (xs:=[.one (.ms j l.length),.one (.v (.string s))]) (xs':=[.one (.ms 0 l.length),.one (.v (.string s))]) hg rfl (by simp only [iW,h1,h2,hsl]) (by kernel_rfl) (by simp [A.rens,A.ren,C.ren,rn,hsl]) hh (NH l s hl0 hlen)
  rw [e1,e2] at this
  exact this
theorem CoderIn.newP {p:Nat} {S S1:List (Option Ob)} {c:Cd} {cN cC cG cP cT cP':C} {P':List ByteArray} (hI:CoderIn p S c cN cC cG cP cT) (hA:At 9 1 S1 cP' (aW P')) (hl:S.length≤S1.length) (hfr:∀(j:Nat) (o:Option Ob),S[j]?=some o→(∀n,cP≠.ms j n)→S1[j]?=some o) (hpl:∀(j n:Nat),cP'=.ms j n→(∃m,cP=.ms j m)∨S.length≤j) :
  CoderIn p (S1.set p (some ⟨76,5,[[cN,cC,cG,cP',cT]]⟩)) { c with prims:=P' } cN cC cG cP' cT∧Frm p [9] S (S1.set p (some ⟨76,5,[[cN,cC,cG,cP',cT]]⟩)):=by
 have hpS:p<S.length:=(List.getElem?_eq_some_iff.1 hI.1).1
 have hP:=hI.2.2.2.2.1
 have g1:=hfr p _ hI.1 (hP.apart hI.1 (by show (76:Nat)≠_;decide))
 have stays:∀(j:Nat) (ob:Ob) (a:Option Ob),S[j]?=some (some ob)→j≠p→(∀n,cP≠.ms j n)→(S1.set p a)[j]?=some (some ob):=fun j ob a h1 h2 h3=>by
  rw [List.getElem?_set_ne (fun e=>h2 e.symm)]
  exact hfr j _ h1 h3
 have np:∀{j:Nat} {ob:Ob},S[j]?=some (some ob)→ob.ty≠76→j≠p:=fun h1 h2 e=>by subst e;rw [hI.1] at h1;cases h1;exact h2 rfl
 refine⟨⟨List.getElem?_set_self (by omega),hI.2.1.stay fun j hj _=>stays j _ _ hj (np hj (by show (72:Nat)≠_;decide)) (hP.apart hj (by show (72:Nat)≠_;decide)),hI.2.2.1.stay fun j hj _=>stays j _ _ hj (np hj (by show (28:Nat)≠_;decide)) (hP.apart hj (by show (28:Nat)≠_;decide)),hI.2.2.2.1.stay fun j hj e=>stays j _ _ hj (np hj (by show (9:Nat)≠_;decide)) (fun n e'=>hI.2.2.2.2.2.2 j _ n e e'),hA.stay fun j hj _=>?_,hI.2.2.2.2.2.1.stay fun j hj _=>stays j _ _ hj (np hj (by show (3:Nat)≠_;decide)) (hP.apart hj (by show (3:Nat)≠_;decide)),?_⟩,by simp;omega,fun j ob h1 h2 h3=>stays j _ _ h1 h2 (hP.apart h1 (fun e=>h3 (by simp [e])))⟩
 ·have n2:p≠j:=fun e=>by subst e;rw [g1] at hj;cases hj
  rw [List.getElem?_set_ne n2];exact hj
 ·intro j n m e e'
  rcases hpl j m e' with ⟨k,h⟩|h
  ·exact hI.2.2.2.2.2.2 j n k e h
  ·have:=hI.2.2.2.1.lt e
   omega
section
variable (p:Nat) (S:List (Option Ob)) (c:Cd) (name rest:ByteArray) (params:List ByteArray) (d:D) (l:List K) (sc:List (List ByteArray)) {cN cC cG cP cT:C} (hI:CoderIn p S c cN cC cG cP cT)
include hI
theorem WG (hp9:c.prims.length≤1000000000):Fn Tryz.prog 68 [.one (.ptr p 1 0 0),.agg (K.mk 10 name rest params d l).cc,.one (.sl 1 (scC sc))] S (rL p S cN cT ((12,pA c.prims name,0),{ c with prims:=mB c.prims name })):=by
 rw [K.cc_eq]
 simp only [K.k,K.name,K.rest,K.params,K.d,K.l]
 have hpS:p<S.length:=(List.getElem?_eq_some_iff.1 hI.1).1
 refine Fn.introT Tryz.func68 rfl Tryz.ntmps68 Tryz.results68 (by simp only [List.length_cons,List.length_nil];decide) ?_
 repeat (first|(apply fw;focus ((with_reducible constructor)<;>constructor))|((first|with_reducible refine ga _ rfl fun Y y=>?_|apply ri);simp only [zb,seval,w68,List.length_append,bA,bW,bB,dS,cF];refine RunTo.fn y (by first|(simp;done)|omega|(simp;omega)) ?_;clear y Y))
 obtain⟨T0,hT0⟩:∃T0:List (Option Ob),T0=S++[some ⟨31,11,[[.v (.int .i64 10),.v (.string name),.v (.string rest),.sl 1 (aW params),.v (.int .i64 d.k),.v (.int .i32 d.c),.v (.bool d.neg),.sl 1 (d.mag.map fun n=>[.v (.int .u32 n)]),.v (.string d.t),.sl 6 (d.l.map D.cc),.sl 11 (l.map K.cc)]]⟩,some ⟨72,4,[[.v (.int .i64 0),.v (.int .i64 0),.v (.int .i64 0),.v (.slice none 0 0)]]⟩,some ⟨72,4,[[.v (.int .i64 12),.v (.int .i64 0),.v (.int .i64 0),.v (.slice none 0 0)]]⟩]:=⟨_,rfl⟩
 rw [←hT0]
 have hI0:CoderIn p T0 c cN cC cG cP cT:=by rw [hT0];exact hI.app _
 have f2:T0[S.length]?=some (some ⟨31,11,[[.v (.int .i64 10),.v (.string name),.v (.string rest),.sl 1 (aW params),.v (.int .i64 d.k),.v (.int .i32 d.c),.v (.bool d.neg),.sl 1 (d.mag.map fun n=>[.v (.int .u32 n)]),.v (.string d.t),.sl 6 (d.l.map D.cc),.sl 11 (l.map K.cc)]]⟩):=by rw [hT0];exact bA _ _ _
 have f3:T0[S.length+1]?=some (some ⟨72,4,[[.v (.int .i64 0),.v (.int .i64 0),.v (.int .i64 0),.v (.slice none 0 0)]]⟩):=by rw [hT0];exact bW _ _ _ _
 have f4:T0[S.length+2]?=some (some ⟨72,4,[[.v (.int .i64 12),.v (.int .i64 0),.v (.int .i64 0),.v (.slice none 0 0)]]⟩):=by rw [hT0];exact bB _ _ _ _ _
 have hF0:∀(j:Nat) (ob:Ob),S[j]?=some (some ob)→T0[j]?=some (some ob):=fun j ob h=>by rw [hT0];exact aM h
 have hlT:T0.length=S.length+3:=by rw [hT0];simp
 have hnp:∀{j:Nat} {ob:Ob},T0[j]?=some (some ob)→ob.ty≠9→∀n,cP≠.ms j n:=fun hj ht=>hI0.2.2.2.2.1.apart hj ht
 obtain⟨S1,cP',hA1,hl1,hfr,hpl,hop⟩:=PG (s:=name) hI0.2.2.2.2.1 hp9
 have f1:=hI0.1
 have g1:=hfr _ _ f1 (hnp f1 (by show (76:Nat)≠_;decide))
 have g2:=hfr _ _ f2 (hnp f2 (by show (31:Nat)≠_;decide))
 have g3:=hfr _ _ f3 (hnp f3 (by show (72:Nat)≠_;decide))
 have g4:=hfr _ _ f4 (hnp f4 (by show (72:Nat)≠_;decide))
 obtain⟨X,hX⟩:∃X:Option Ob,X=some ⟨76,5,[[cN,cC,cG,cP',cT]]⟩:=⟨_,rfl⟩
 have k1:(S1.set p X)[p]?=some X:=List.getElem?_set_self (by omega)
 have k2:(S1.set p X)[S.length]?=_:=(List.getElem?_set_ne (by omega)).trans g2
 have k3:(S1.set p X)[S.length+1]?=_:=(List.getElem?_set_ne (by omega)).trans g3
 have k4:(S1.set p X)[S.length+2]?=_:=(List.getElem?_set_ne (by omega)).trans g4
 obtain⟨Y,hY⟩:∃Y:Option Ob,Y=some ⟨72,4,[[.v (.int .i64 12),.v (.int .i64 (pA c.prims name)),.v (.int .i64 0),.v (.slice none 0 0)]]⟩:=⟨_,rfl⟩
 have m1:((S1.set p X).set (S.length+2) Y)[p]?=some X:=by rw [List.getElem?_set_ne (by omega)];exact k1
 have m2:((S1.set p X).set (S.length+2) Y)[S.length]?=_:=(List.getElem?_set_ne (by omega)).trans k2
 have m3:((S1.set p X).set (S.length+2) Y)[S.length+1]?=_:=(List.getElem?_set_ne (by omega)).trans k3
 have m4:((S1.set p X).set (S.length+2) Y)[S.length+2]?=some Y:=List.getElem?_set_self (by simp;omega)
 obtain⟨c9,hc9⟩:∃c9:List (Option Ob),c9=pts [(p,⟨76,5,[[.any,.any,.any,.any,.any]]⟩),(S.length,⟨31,11,[[.v (.int .i64 10),.v (.string name),.v (.string rest),.sl 1 (aW params),.v (.int .i64 d.k),.v (.int .i32 d.c),.v (.bool d.neg),.sl 1 (d.mag.map fun n=>[.v (.int .u32 n)]),.v (.string d.t),.sl 6 (d.l.map D.cc),.sl 11 (l.map K.cc)]]⟩),(S.length+2,⟨72,4,[[.any,.any,.any,.any]]⟩)]:=⟨_,rfl⟩
 have q1:c9[p]?=some (some ⟨76,5,[[.any,.any,.any,.any,.any]]⟩):=by rw [hc9];exact lE (q:=(p,_)) (by simp)
 have q2:c9[S.length]?=some (some ⟨31,11,[[.v (.int .i64 10),.v (.string name),.v (.string rest),.sl 1 (aW params),.v (.int .i64 d.k),.v (.int .i32 d.c),.v (.bool d.neg),.sl 1 (d.mag.map fun n=>[.v (.int .u32 n)]),.v (.string d.t),.sl 6 (d.l.map D.cc),.sl 11 (l.map K.cc)]]⟩):=by rw [hc9];exact lE (q:=(S.length,_)) (by rw [List.find?_cons_of_neg (by simp;omega)];simp)
 have q4:c9[S.length+2]?=some (some ⟨72,4,[[.any,.any,.any,.any]]⟩):=by rw [hc9];exact lE (q:=(S.length+2,_)) (by rw [List.find?_cons_of_neg (by simp;omega),List.find?_cons_of_neg (by simp)];simp)
 have PH:∀(s:List (Option Ob)) (a b c d:C),FzR s (fun _=>false) [[a,b,c,d]] [[.any,.any,.any,.any]]:=fun s a b c d=>⟨⟨FzC.any,FzC.any,FzC.any,FzC.any,trivial⟩,trivial⟩
 have any5:∀(s:List (Option Ob)) (a b c d e:C),FzR s (fun _=>false) [[a,b,c,d,e]] [[.any,.any,.any,.any,.any]]:=fun s a b c d e=>⟨⟨FzC.any,FzC.any,FzC.any,FzC.any,FzC.any,trivial⟩,trivial⟩
 have hle:∀s∈[T0,T0,S1,S1.set p X,(S1.set p X).set (S.length+2) Y],LeS c9 s:=by
  rw [hc9]
  intro s hs
  refine LeS.pts ?_
  simp only [List.mem_cons,List.not_mem_nil,or_false,forall_eq_or_imp,forall_eq] at hs ⊢
  rcases hs with rfl|rfl|rfl|rfl|rfl
  ·exact⟨⟨_,f1,rfl,rfl,any5 _ _ _ _ _ _⟩,⟨_,f2,rfl,rfl,FzR.same _ _ _⟩,⟨_,f4,rfl,rfl,PH _ _ _ _ _⟩⟩
  ·exact⟨⟨_,f1,rfl,rfl,any5 _ _ _ _ _ _⟩,⟨_,f2,rfl,rfl,FzR.same _ _ _⟩,⟨_,f4,rfl,rfl,PH _ _ _ _ _⟩⟩
  ·exact⟨⟨_,g1,rfl,rfl,any5 _ _ _ _ _ _⟩,⟨_,g2,rfl,rfl,FzR.same _ _ _⟩,⟨_,g4,rfl,rfl,PH _ _ _ _ _⟩⟩
  ·exact⟨⟨_,k1.trans (congrArg some hX),rfl,rfl,any5 _ _ _ _ _ _⟩,⟨_,k2,rfl,rfl,FzR.same _ _ _⟩,⟨_,k4,rfl,rfl,PH _ _ _ _ _⟩⟩
  ·exact⟨⟨_,m1.trans (congrArg some hX),rfl,rfl,any5 _ _ _ _ _ _⟩,⟨_,m2,rfl,rfl,FzR.same _ _ _⟩,⟨_,m4.trans (congrArg some hY),rfl,rfl,PH _ _ _ _ _⟩⟩
 have hR:=hI0.newP hA1 hl1 hfr (fun j n e=>(hpl j n e).imp (fun h=>⟨_,h⟩) id)
 rw [←hX] at hR
 subst hX hY
 skip
 (refine WpA.draw1 18 [5,8,15,17] c9 [T0,T0,S1,S1.set p (some ⟨76,5,[[cN,cC,cG,cP',cT]]⟩),(S1.set p (some ⟨76,5,[[cN,cC,cG,cP',cT]]⟩)).set (S.length+2) (some ⟨72,4,[[.v (.int .i64 12),.v (.int .i64 (pA c.prims name)),.v (.int .i64 0),.v (.slice none 0 0)]]⟩)] _ _ _ _ rfl rfl rfl (by kernel_rfl) (by kernel_rfl) (by kernel_rfl) (by kernel_rfl) rfl rfl rfl rfl (by decide) fun K8 hK8=>?_)
 simp only [zz] at hK8 ⊢
 (refine Draw1.step (by rfl) (fun s9 h9=>OpS.less h9 rfl (by simp only [zb,seval,w68,q1];rfl) (by first|(simp;done)|omega|(simp;omega))) ?_;simp only [bF]);(refine Draw1.step (by rfl) (fun s9 h9=>OpS.less h9 rfl (by simp only [zb,seval,w68,q1];rfl) (by first|(simp;done)|omega|(simp;omega))) ?_;simp only [bF]);(refine Draw1.step (by rfl) (fun s9 h9=>OpS.less h9 rfl (by simp only [zb,seval,w68,q1];rfl) (by first|(simp;done)|omega|(simp;omega))) ?_;simp only [bF]);(refine Draw1.step (by rfl) (fun s9 h9=>OpS.less h9 rfl (by simp only [zb,seval,w68,q1];rfl) (by first|(simp;done)|omega|(simp;omega))) ?_;simp only [bF]);(refine Draw1.step (by rfl) (fun s9 h9=>OpS.less h9 rfl (by simp only [zb,seval,w68,q1];rfl) (by first|(simp;done)|omega|(simp;omega))) ?_;simp only [bF])
 refine Draw1.eff 0 rfl rfl rfl (OpS.eff [(91,_)] rfl (by rfl) ⟨rfl,trivial⟩ (by simp only [zb,seval,w68,f1,q1,q2,q4];rfl) (by first|(simp;done)|omega|(simp;omega))) ?_;(try simp only [bF]);(try ((refine Draw1.go fun K7 hK7=>?_);simp only [zb,seval,w68,f1,q1,q2,q4];(refine RunQ.mk (by first|(simp;done)|omega|(simp;omega)) (hK7 _ _ (by rfl) ?_));clear hK7 K7;(simp only [zz,Nat.reduceAdd,Nat.reduceSub]);(try ((refine Draw1.nil hle (hK8 _ ?_));clear hK8 K8;(refine WpL.go _ rfl fun Y y=>?_);repeat (first|(apply fw;focus ((with_reducible constructor)<;>constructor))|((first|with_reducible refine ga _ rfl fun Y y=>?_|apply ri);simp only [zb,seval,w68,f1,q1,q2,q4];refine RunTo.fn y (by first|(simp;done)|omega|(simp;omega)) ?_;clear y Y))))))
 refine Draw1.eff 1 rfl rfl rfl (hop rfl rfl rfl) ?_
 simp only [bF]
 (refine Draw1.go fun K7 hK7=>?_);simp only [zb,seval,w68,q1,q2,q4];(refine RunQ.mk (by first|(simp;done)|omega|(simp;omega)) (hK7 _ _ (by rfl) ?_));clear hK7 K7;(simp only [zz,Nat.reduceAdd,Nat.reduceSub]);(try ((refine Draw1.nil hle (hK8 _ ?_));clear hK8 K8;(refine WpL.go _ rfl fun Y y=>?_);repeat (first|(apply fw;focus ((with_reducible constructor)<;>constructor))|((first|with_reducible refine ga _ rfl fun Y y=>?_|apply ri);simp only [zb,seval,w68,q1,q2,q4];refine RunTo.fn y (by first|(simp;done)|omega|(simp;omega)) ?_;clear y Y))))
 refine Draw1.eff 2 rfl rfl rfl (OpS.eff [(100,_),(96,_)] rfl (by rfl) ⟨rfl,rfl,trivial⟩ (by simp only [zb,seval,w68,q1,q2,q4,g1];rfl) (by first|(simp;done)|omega|(simp;omega))) ?_;(try simp only [bF]);(try ((refine Draw1.go fun K7 hK7=>?_);simp only [zb,seval,w68,q1,q2,q4,g1];(refine RunQ.mk (by first|(simp;done)|omega|(simp;omega)) (hK7 _ _ (by rfl) ?_));clear hK7 K7;(simp only [zz,Nat.reduceAdd,Nat.reduceSub]);(try ((refine Draw1.nil hle (hK8 _ ?_));clear hK8 K8;(refine WpL.go _ rfl fun Y y=>?_);repeat (first|(apply fw;focus ((with_reducible constructor)<;>constructor))|((first|with_reducible refine ga _ rfl fun Y y=>?_|apply ri);simp only [zb,seval,w68,q1,q2,q4,g1];refine RunTo.fn y (by first|(simp;done)|omega|(simp;omega)) ?_;clear y Y))))))
 refine Draw1.eff 3 rfl rfl rfl (OpS.eff [(101,_),(97,_)] rfl (by rfl) ⟨rfl,rfl,trivial⟩ (by simp only [zb,seval,w68,q1,q2,q4,k4,m4];rfl) (by first|(simp;done)|omega|(simp;omega))) ?_;(try simp only [bF]);(try ((refine Draw1.go fun K7 hK7=>?_);simp only [zb,seval,w68,q1,q2,q4,k4,m4];(refine RunQ.mk (by first|(simp;done)|omega|(simp;omega)) (hK7 _ _ (by rfl) ?_));clear hK7 K7;(simp only [zz,Nat.reduceAdd,Nat.reduceSub]);(try ((refine Draw1.nil hle (hK8 _ ?_));clear hK8 K8;(refine WpL.go _ rfl fun Y y=>?_);repeat (first|(apply fw;focus ((with_reducible constructor)<;>constructor))|((first|with_reducible refine ga _ rfl fun Y y=>?_|apply ri);simp only [zb,seval,w68,q1,q2,q4,k4,m4];refine RunTo.fn y (by first|(simp;done)|omega|(simp;omega)) ?_;clear y Y))))))
 repeat (first|(apply fw;focus ((with_reducible constructor)<;>constructor))|((first|with_reducible refine ga _ rfl fun Y y=>?_|apply ri);simp only [zb,seval,w68,m3,m4];refine RunTo.fn y (by first|(simp;done)|omega|(simp;omega)) ?_;clear y Y))
 have hl9:S.length+1<((S1.set p (some ⟨76,5,[[cN,cC,cG,cP',cT]]⟩)).set (S.length+2) (some ⟨72,4,[[.v (.int .i64 12),.v (.int .i64 (pA c.prims name)),.v (.int .i64 0),.v (.slice none 0 0)]]⟩)).length:=by simp;omega
 refine⟨.inl rfl,_,_,_,_,(by simp only [zb,seval,List.getElem?_set_self hl9,w68];rfl),by simp,Le.refl _ _,rfl,⟨cC,cG,cP',?_⟩,?_,fun j ob h1 h2 h3=>?_⟩
 ·have hn:∀j m,cN=.ms j m→j<S.length:=fun j m e=>hI.2.1.lt e
  exact (hR.1.put2 hn (by omega) k4 rfl).put2 hn (by omega) m3 rfl
 ·simp;omega
 ·have hj:=(List.getElem?_eq_some_iff.1 h1).1
  rw [List.getElem?_set_ne (by omega),List.getElem?_set_ne (by omega)]
  exact hR.2.2 j ob (hF0 j ob h1) h2 (fun h=>h3 (by simp at h;simp [h]))
end
theorem VS:dZ.Ok:=by simp [dZ,D.Ok,Oks,show (ByteArray.mk #[]).size=0 from rfl]
theorem PH (s:List (Option Ob)) (z:Nat→Bool) (a b c d:C):FzR s z [[a,b,c,d]] [[.any,.any,.any,.any]]:=⟨⟨FzC.any,FzC.any,FzC.any,FzC.any,trivial⟩,trivial⟩
theorem CoderIn.newC {p:Nat} {S S1:List (Option Ob)} {c:Cd} {cN cC cG cP cT cC':C} {C':List D} (hI:CoderIn p S c cN cC cG cP cT) (hA:At 28 6 S1 cC' (C'.map D.cc)) (hl:S.length≤S1.length) (hfr:∀(j:Nat) (o:Option Ob),S[j]?=some o→(∀n,cC≠.ms j n)→S1[j]?=some o) :
  CoderIn p (S1.set p (some ⟨76,5,[[cN,cC',cG,cP,cT]]⟩)) { c with consts:=C' } cN cC' cG cP cT∧Frm p [28] S (S1.set p (some ⟨76,5,[[cN,cC',cG,cP,cT]]⟩)):=by
 have hpS:p<S.length:=(List.getElem?_eq_some_iff.1 hI.1).1
 have hP:=hI.2.2.1
 have g1:=hfr p _ hI.1 (hP.apart hI.1 (by show (76:Nat)≠_;decide))
 have stays:∀(j:Nat) (ob:Ob) (a:Option Ob),S[j]?=some (some ob)→j≠p→(∀n,cC≠.ms j n)→(S1.set p a)[j]?=some (some ob):=fun j ob a h1 h2 h3=>by
  rw [List.getElem?_set_ne (fun e=>h2 e.symm)]
  exact hfr j _ h1 h3
 have np:∀{j:Nat} {ob:Ob},S[j]?=some (some ob)→ob.ty≠76→j≠p:=fun h1 h2 e=>by subst e;rw [hI.1] at h1;cases h1;exact h2 rfl
 refine⟨⟨List.getElem?_set_self (by omega),hI.2.1.stay fun j hj _=>stays j _ _ hj (np hj (by show (72:Nat)≠_;decide)) (hP.apart hj (by show (72:Nat)≠_;decide)),hA.stay fun j hj _=>?_,hI.2.2.2.1.stay fun j hj e=>stays j _ _ hj (np hj (by show (9:Nat)≠_;decide)) (hP.apart hj (by show (9:Nat)≠_;decide)),hI.2.2.2.2.1.stay fun j hj e=>stays j _ _ hj (np hj (by show (9:Nat)≠_;decide)) (hP.apart hj (by show (9:Nat)≠_;decide)),hI.2.2.2.2.2.1.stay fun j hj _=>stays j _ _ hj (np hj (by show (3:Nat)≠_;decide)) (hP.apart hj (by show (3:Nat)≠_;decide)),hI.2.2.2.2.2.2⟩,by simp;omega,fun j ob h1 h2 h3=>stays j _ _ h1 h2 (hP.apart h1 (fun e=>h3 (by simp [e])))⟩
 have n2:p≠j:=fun e=>by subst e;rw [g1] at hj;cases hj
 rw [List.getElem?_set_ne n2];exact hj
section
variable (p:Nat) (S:List (Option Ob)) (c:Cd) (name rest:ByteArray) (params:List ByteArray) (d:D) (l:List K) (sc:List (List ByteArray)) {cN cC cG cP cT:C} (hI:CoderIn p S c cN cC cG cP cT)
include hI
theorem XY (hok:d.Ok) (hc9:c.consts.length≤1000000000):Fn Tryz.prog 68 [.one (.ptr p 1 0 0),.agg (K.mk 1 name rest params d l).cc,.one (.sl 1 (scC sc))] S (rL p S cN cT ((1,c.consts.length,0),{ c with consts:=c.consts++[d] })):=by
 rw [K.cc_eq]
 simp only [K.k,K.name,K.rest,K.params,K.d,K.l]
 have hpS:p<S.length:=(List.getElem?_eq_some_iff.1 hI.1).1
 have hpr:=PF d dZ hok VS
 rw [D.cc_eq d,D.cc_eq dZ] at hpr
 simp only [dZ,D.k,D.c,D.neg,D.mag,D.t,D.l,List.map_nil] at hpr
 have hpp:∀T,(S++T)[p]?=some (some ⟨76,5,[[cN,cC,cG,cP,cT]]⟩):=fun T=>aM hI.1
 have hC:=hI.2.2.1
 rcases hI.2.2.1 with ⟨h0,rfl⟩|⟨hne,j0,rfl,hj0⟩
 case' inl=>have hcn:c.consts.length=0:=by simpa using h0
 case' inl=>have hcn0:c.consts=[]:=List.eq_nil_of_length_eq_zero hcn
 case' inl=>have hcn':(c.consts.length:Int)=0:=by rw [hcn];rfl
 case' inr=>rw [List.length_map] at hI hC hpp
 ·refine Fn.introT Tryz.func68 rfl Tryz.ntmps68 Tryz.results68 (by simp only [List.length_cons,List.length_nil];decide) ?_
  repeat (first|(apply fw;focus ((with_reducible constructor)<;>constructor))|((first|with_reducible refine ga _ rfl fun Y y=>?_|apply ri);simp only [zb,seval,w68,List.length_append,bA,bW,bB,dS,cF];refine RunTo.fn y (by first|(simp;done)|omega|(simp;omega)) ?_;clear y Y))
  skip
  skip
  (refine WpA.draw1 10 [7,9] (S++[some ⟨31,11,[[.v (.int .i64 1),.v (.string name),.v (.string rest),.sl 1 (aW params),.v (.int .i64 d.k),.v (.int .i32 d.c),.v (.bool d.neg),.sl 1 (d.mag.map fun n=>[.v (.int .u32 n)]),.v (.string d.t),.sl 6 (d.l.map D.cc),.sl 11 (l.map K.cc)]]⟩,none,some ⟨72,4,[[.any,.any,.any,.any]]⟩]) [_,?_,?_] _ _ _ _ rfl rfl rfl (by kernel_rfl) (by kernel_rfl) (by kernel_rfl) (by kernel_rfl) rfl rfl rfl rfl (by decide) fun K8 hK8=>?_);rotate_left 2;simp only [zz] at hK8 ⊢;(refine Draw1.go fun K7 hK7=>?_);simp only [zb,seval,w68,bA,bB,hpp];(refine RunQ.mk (by first|(simp;done)|omega|(simp;omega)) (hK7 _ _ (by rfl) ?_));clear hK7 K7;(simp only [zz,Nat.reduceAdd,Nat.reduceSub]);(try ((refine Draw1.nil (by simp only [List.mem_cons,List.not_mem_nil,or_false,forall_eq_or_imp,forall_eq];exact⟨kZ _ _ _ _ _ _ _ _,kZ _ _ _ _ _ _ _ _,kZ _ _ _ _ _ _ _ _⟩) (hK8 _ ?_));clear hK8 K8;(refine WpL.go _ rfl fun Y y=>?_);repeat (first|(apply fw;focus ((with_reducible constructor)<;>constructor))|((first|with_reducible refine ga _ rfl fun Y y=>?_|apply ri);simp only [zb,seval,w68,bA,bB,hpp];refine RunTo.fn y (by first|(simp;done)|omega|(simp;omega)) ?_;clear y Y))))
  refine Draw1.eff 0 rfl rfl rfl (OpS.eff [(19,_)] rfl (by rfl) ⟨rfl,trivial⟩ (by simp only [zb,seval,w68,bA,bB,cF];rfl) (by first|(simp;done)|omega|(simp;omega))) ?_;(try simp only [bF]);(try ((refine Draw1.go fun K7 hK7=>?_);simp only [zb,seval,w68,bA,bB,cF];(refine RunQ.mk (by first|(simp;done)|omega|(simp;omega)) (hK7 _ _ (by rfl) ?_));clear hK7 K7;(simp only [zz,Nat.reduceAdd,Nat.reduceSub]);(try ((refine Draw1.nil (by simp only [List.mem_cons,List.not_mem_nil,or_false,forall_eq_or_imp,forall_eq];exact⟨kZ _ _ _ _ _ _ _ _,kZ _ _ _ _ _ _ _ _,kZ _ _ _ _ _ _ _ _⟩) (hK8 _ ?_));clear hK8 K8;(refine WpL.go _ rfl fun Y y=>?_);repeat (first|(apply fw;focus ((with_reducible constructor)<;>constructor))|((first|with_reducible refine ga _ rfl fun Y y=>?_|apply ri);simp only [zb,seval,w68,bA,bB,cF];refine RunTo.fn y (by first|(simp;done)|omega|(simp;omega)) ?_;clear y Y))))))
  refine Draw1.eff 1 rfl rfl rfl (OpS.eff [(20,_),(18,_)] rfl (by rfl) ⟨rfl,rfl,trivial⟩ (by simp only [zb,seval,w68,bA,bW,bB,dS,cF];rfl) (by first|(simp;done)|omega|(simp;omega))) ?_;(try simp only [bF]);(try ((refine Draw1.go fun K7 hK7=>?_);simp only [zb,seval,w68,bA,bW,bB,dS,cF];(refine RunQ.mk (by first|(simp;done)|omega|(simp;omega)) (hK7 _ _ (by rfl) ?_));clear hK7 K7;(simp only [zz,Nat.reduceAdd,Nat.reduceSub]);(try ((refine Draw1.nil (by simp only [List.mem_cons,List.not_mem_nil,or_false,forall_eq_or_imp,forall_eq];exact⟨kZ _ _ _ _ _ _ _ _,kZ _ _ _ _ _ _ _ _,kZ _ _ _ _ _ _ _ _⟩) (hK8 _ ?_));clear hK8 K8;(refine WpL.go _ rfl fun Y y=>?_);repeat (first|(apply fw;focus ((with_reducible constructor)<;>constructor))|((first|with_reducible refine ga _ rfl fun Y y=>?_|apply ri);simp only [zb,seval,w68,bA,bW,bB,dS,cF];refine RunTo.fn y (by first|(simp;done)|omega|(simp;omega)) ?_;clear y Y))))))
  obtain⟨T2,hT2⟩:∃T2:List (Option Ob),T2=S++[some ⟨31,11,[[.v (.int .i64 1),.v (.string name),.v (.string rest),.sl 1 (aW params),.v (.int .i64 d.k),.v (.int .i32 d.c),.v (.bool d.neg),.sl 1 (d.mag.map fun n=>[.v (.int .u32 n)]),.v (.string d.t),.sl 6 (d.l.map D.cc),.sl 11 (l.map K.cc)]]⟩,some ⟨72,4,[[.v (.int .i64 0),.v (.int .i64 0),.v (.int .i64 0),.v (.slice none 0 0)]]⟩,some ⟨72,4,[[.v (.int .i64 1),.v (.int .i64 ((c.consts.length:Int))),.v (.int .i64 0),.v (.slice none 0 0)]]⟩]:=⟨_,rfl⟩
  have hI2:CoderIn p T2 c cN (.ms j0 c.consts.length) cG cP cT:=by rw [hT2];exact hI.app _
  have hl2:T2.length=S.length+3:=by rw [hT2];simp
  have a2:T2[S.length]?=some (some ⟨31,11,[[.v (.int .i64 1),.v (.string name),.v (.string rest),.sl 1 (aW params),.v (.int .i64 d.k),.v (.int .i32 d.c),.v (.bool d.neg),.sl 1 (d.mag.map fun n=>[.v (.int .u32 n)]),.v (.string d.t),.sl 6 (d.l.map D.cc),.sl 11 (l.map K.cc)]]⟩):=by rw [hT2];exact bA _ _ _
  have a3:T2[S.length+1]?=some (some ⟨72,4,[[.v (.int .i64 0),.v (.int .i64 0),.v (.int .i64 0),.v (.slice none 0 0)]]⟩):=by rw [hT2];exact bW _ _ _ _
  have a4:T2[S.length+2]?=some (some ⟨72,4,[[.v (.int .i64 1),.v (.int .i64 ((c.consts.length:Int))),.v (.int .i64 0),.v (.slice none 0 0)]]⟩):=by rw [hT2];exact bB _ _ _ _ _
  have hF2:∀(j:Nat) (ob:Ob),S[j]?=some (some ob)→T2[j]?=some (some ob):=fun j ob h=>by rw [hT2];exact aM h
  rw [←hT2]
  have a1:=hI2.1
  obtain⟨T3,hT3⟩:∃T3:List (Option Ob),T3=T2++[some ⟨28,6,[[.v (.int .i64 0),.v (.int .i32 0),.v (.bool false),.v (.slice none 0 0),.v (.string ⟨#[]⟩),.v (.slice none 0 0)]]⟩]:=⟨_,rfl⟩
  have u3:∀{j:Nat} {o:Option Ob},T2[j]?=some o→T3[j]?=some o:=fun h=>by rw [hT3];exact aM h
  have b5:T3[T2.length]?=some (some ⟨28,6,[[.v (.int .i64 0),.v (.int .i32 0),.v (.bool false),.v (.slice none 0 0),.v (.string ⟨#[]⟩),.v (.slice none 0 0)]]⟩):=by rw [hT3];simp
  have hl3:T3.length=T2.length+1:=by rw [hT3];simp
  have hI3:CoderIn p T3 c cN (.ms j0 c.consts.length) cG cP cT:=by rw [hT3];exact hI2.app _
  have hnq:∀n,(.ms j0 c.consts.length:C)≠.ms T2.length n:=fun n e=>by have:=hI2.2.2.1.lt e;omega
  obtain⟨T4,j,hA4,hj4,hl4,hfr4,hpl4,hop⟩:=dJ (P:=Tryz.prog) (T:=26) (by_:=88) bD bQ bR (by omega) hI3.2.2.1 b5 (by simp) hnq (by simp;omega) (by simp;omega)
  simp only [List.length_map,List.length_cons,List.length_nil,Nat.zero_add] at hA4 hop hpl4
  have hap:∀{i:Nat} {ob:Ob},T3[i]?=some (some ob)→ob.ty≠28→∀n,(.ms j0 c.consts.length:C)≠.ms i n:=fun hj ht=>hI3.2.2.1.apart hj ht
  have d1:=hfr4 _ _ (u3 a1) (hap (u3 a1) (by show (76:Nat)≠_;decide))
  have d2:=hfr4 _ _ (u3 a2) (hap (u3 a2) (by show (31:Nat)≠_;decide))
  have d3:=hfr4 _ _ (u3 a3) (hap (u3 a3) (by show (72:Nat)≠_;decide))
  have d4:=hfr4 _ _ (u3 a4) (hap (u3 a4) (by show (72:Nat)≠_;decide))
  have hlj:j<T4.length:=(List.getElem?_eq_some_iff.1 hj4).1
  have hjn:∀{i:Nat} {ob:Ob},T4[i]?=some (some ob)→ob.ty≠28→j≠i:=fun hi ht e=>by subst e;rw [hj4] at hi;cases hi;exact ht rfl
  obtain⟨Y,hY⟩:∃Y:Option Ob,Y=some ⟨28,6,c.consts.map D.cc++[[.v (.int .i64 d.k),.v (.int .i32 d.c),.v (.bool d.neg),.sl 1 (d.mag.map fun n=>[.v (.int .u32 n)]),.v (.string d.t),.sl 6 (d.l.map D.cc)]]⟩:=⟨_,rfl⟩
  have e1:(T4.set j Y)[p]?=_:=(List.getElem?_set_ne (hjn d1 (by show (76:Nat)≠_;decide))).trans d1
  have e2:(T4.set j Y)[S.length]?=_:=(List.getElem?_set_ne (hjn d2 (by show (31:Nat)≠_;decide))).trans d2
  have e3:(T4.set j Y)[S.length+1]?=_:=(List.getElem?_set_ne (hjn d3 (by show (72:Nat)≠_;decide))).trans d3
  have e4:(T4.set j Y)[S.length+2]?=_:=(List.getElem?_set_ne (hjn d4 (by show (72:Nat)≠_;decide))).trans d4
  have hjp:j≠p:=hjn d1 (by show (76:Nat)≠_;decide)
  obtain⟨X,hX⟩:∃X:Option Ob,X=some ⟨76,5,[[cN,.ms j (c.consts.length+1),cG,cP,cT]]⟩:=⟨_,rfl⟩
  have hp4:p<T4.length:=by omega
  have x1:(T4.set p X)[p]?=some X:=List.getElem?_set_self hp4
  have x2:(T4.set p X)[S.length]?=_:=(List.getElem?_set_ne (by omega)).trans d2
  have x4:(T4.set p X)[j]?=_:=(List.getElem?_set_ne (Ne.symm hjp)).trans hj4
  have y1:((T4.set j Y).set p X)[p]?=some X:=List.getElem?_set_self (by simpa using hp4)
  have y2:((T4.set j Y).set p X)[S.length]?=_:=(List.getElem?_set_ne (by omega)).trans e2
  have y3:((T4.set j Y).set p X)[S.length+1]?=_:=(List.getElem?_set_ne (by omega)).trans e3
  have y4:((T4.set j Y).set p X)[S.length+2]?=_:=(List.getElem?_set_ne (by omega)).trans e4
  have hcomm:(T4.set p X).set j Y=(T4.set j Y).set p X:=List.set_comm _ _ (Ne.symm hjp)
  obtain⟨c9,hc9⟩:∃c9:List (Option Ob),c9=pts [(p,⟨76,5,[[.any,.any,.any,.any,.any]]⟩),(S.length,⟨31,11,[[.v (.int .i64 1),.v (.string name),.v (.string rest),.sl 1 (aW params),.v (.int .i64 d.k),.v (.int .i32 d.c),.v (.bool d.neg),.sl 1 (d.mag.map fun n=>[.v (.int .u32 n)]),.v (.string d.t),.sl 6 (d.l.map D.cc),.sl 11 (l.map K.cc)]]⟩)]:=⟨_,rfl⟩
  have q1:c9[p]?=some (some ⟨76,5,[[.any,.any,.any,.any,.any]]⟩):=by rw [hc9];exact lE (q:=(p,_)) (by simp)
  have q2:c9[S.length]?=some (some ⟨31,11,[[.v (.int .i64 1),.v (.string name),.v (.string rest),.sl 1 (aW params),.v (.int .i64 d.k),.v (.int .i32 d.c),.v (.bool d.neg),.sl 1 (d.mag.map fun n=>[.v (.int .u32 n)]),.v (.string d.t),.sl 6 (d.l.map D.cc),.sl 11 (l.map K.cc)]]⟩):=by rw [hc9];exact lE (q:=(S.length,_)) (by rw [List.find?_cons_of_neg (by simp;omega)];simp)
  have any5:∀(s:List (Option Ob)) (a b c d e:C),FzR s (fun _=>false) [[a,b,c,d,e]] [[.any,.any,.any,.any,.any]]:=fun s a b c d e=>⟨⟨FzC.any,FzC.any,FzC.any,FzC.any,FzC.any,trivial⟩,trivial⟩
  have hle:∀s∈[T2,T2,T3,T4,T4,T4.set p X,T4.set p X,T4.set j Y,(T4.set j Y).set p X,T3],LeS c9 s:=by
   rw [hc9]
   intro s hs
   refine LeS.pts ?_
   simp only [List.mem_cons,List.not_mem_nil,or_false,forall_eq_or_imp,forall_eq] at hs ⊢
   rcases hs with rfl|rfl|rfl|rfl|rfl|rfl|rfl|rfl|rfl|rfl
   ·exact⟨⟨_,a1,rfl,rfl,any5 _ _ _ _ _ _⟩,⟨_,a2,rfl,rfl,FzR.same _ _ _⟩⟩
   ·exact⟨⟨_,a1,rfl,rfl,any5 _ _ _ _ _ _⟩,⟨_,a2,rfl,rfl,FzR.same _ _ _⟩⟩
   ·exact⟨⟨_,u3 a1,rfl,rfl,any5 _ _ _ _ _ _⟩,⟨_,u3 a2,rfl,rfl,FzR.same _ _ _⟩⟩
   ·exact⟨⟨_,d1,rfl,rfl,any5 _ _ _ _ _ _⟩,⟨_,d2,rfl,rfl,FzR.same _ _ _⟩⟩
   ·exact⟨⟨_,d1,rfl,rfl,any5 _ _ _ _ _ _⟩,⟨_,d2,rfl,rfl,FzR.same _ _ _⟩⟩
   ·exact⟨⟨_,x1.trans (congrArg some hX),rfl,rfl,any5 _ _ _ _ _ _⟩,⟨_,x2,rfl,rfl,FzR.same _ _ _⟩⟩
   ·exact⟨⟨_,x1.trans (congrArg some hX),rfl,rfl,any5 _ _ _ _ _ _⟩,⟨_,x2,rfl,rfl,FzR.same _ _ _⟩⟩
   ·exact⟨⟨_,e1,rfl,rfl,any5 _ _ _ _ _ _⟩,⟨_,e2,rfl,rfl,FzR.same _ _ _⟩⟩
   ·exact⟨⟨_,y1.trans (congrArg some hX),rfl,rfl,any5 _ _ _ _ _ _⟩,⟨_,y2,rfl,rfl,FzR.same _ _ _⟩⟩
   ·exact⟨⟨_,u3 a1,rfl,rfl,any5 _ _ _ _ _ _⟩,⟨_,u3 a2,rfl,rfl,FzR.same _ _ _⟩⟩
  have hRA:At 28 6 (T4.set j Y) (.ms j (c.consts.length+1)) ((c.consts++[d]).map D.cc):=.inr ⟨by simp,j,by simp,by rw [List.getElem?_set_self hlj,hY,List.map_append,List.map_cons,List.map_nil,D.cc_eq d]⟩
  have hRf:∀(i:Nat) (o:Option Ob),T2[i]?=some o→(∀n,(.ms j0 c.consts.length:C)≠.ms i n)→(T4.set j Y)[i]?=some o:=fun i o hi hn=>by
   have:j≠i:=fun e=>by
    subst e
    rcases hpl4 with h|h
    ·exact hn _ h
    ·have:=(List.getElem?_eq_some_iff.1 hi).1;omega
   rw [List.getElem?_set_ne this]
   exact hfr4 i o (u3 hi) hn
  have hR:=hI2.newC hRA (by simp;omega) hRf
  have gL:∀x:List C,(c.consts.map D.cc++[x])[c.consts.length]?=some x:=fun x=>by simp 
  have sL:∀x y:List C,(c.consts.map D.cc++[x]).set c.consts.length y=c.consts.map D.cc++[y]:=fun x y=>by simp 
  have b1:=u3 a1
  subst hY hX hT3
  skip
  skip
  (refine WpA.draw2 21 [4,13,14,15,16,20] c9 [[],[4],[4,13],[4,13,14],[4,13,14,15],[4,13,14,20],[4,13,14,15,20],[4,13,14,15,16],[4,13,14,15,16,20],[13]] [T2,T2,T2++[some ⟨28,6,[[.v (.int .i64 0),.v (.int .i32 0),.v (.bool false),.v (.slice none 0 0),.v (.string ⟨#[]⟩),.v (.slice none 0 0)]]⟩],T4,T4,T4.set p (some ⟨76,5,[[cN,.ms j (c.consts.length+1),cG,cP,cT]]⟩),T4.set p (some ⟨76,5,[[cN,.ms j (c.consts.length+1),cG,cP,cT]]⟩),T4.set j (some ⟨28,6,c.consts.map D.cc++[[.v (.int .i64 d.k),.v (.int .i32 d.c),.v (.bool d.neg),.sl 1 (d.mag.map fun n=>[.v (.int .u32 n)]),.v (.string d.t),.sl 6 (d.l.map D.cc)]]⟩),(T4.set j (some ⟨28,6,c.consts.map D.cc++[[.v (.int .i64 d.k),.v (.int .i32 d.c),.v (.bool d.neg),.sl 1 (d.mag.map fun n=>[.v (.int .u32 n)]),.v (.string d.t),.sl 6 (d.l.map D.cc)]]⟩)).set p (some ⟨76,5,[[cN,.ms j (c.consts.length+1),cG,cP,cT]]⟩),T2++[some ⟨28,6,[[.v (.int .i64 0),.v (.int .i32 0),.v (.bool false),.v (.slice none 0 0),.v (.string ⟨#[]⟩),.v (.slice none 0 0)]]⟩]] 8 _ _ _ _ rfl rfl rfl (by kernel_rfl) (by kernel_rfl) (by kernel_rfl) (by kernel_rfl) rfl rfl rfl (by decide) fun K8 hK8=>?_)
  simp only [zz] at hK8 ⊢
  (refine Draw2.step (by rfl) (fun s9 h9=>OpS.less h9 rfl (by simp only [zb,seval,w68,q1];rfl) (by first|(simp;done)|omega|(simp;omega))) ?_;simp only [bF]);(refine Draw2.step (by rfl) (fun s9 h9=>OpS.less h9 rfl (by simp only [zb,seval,w68,q1];rfl) (by first|(simp;done)|omega|(simp;omega))) ?_;simp only [bF]);(refine Draw2.step (by rfl) (fun s9 h9=>OpS.less h9 rfl (by simp only [zb,seval,w68,q1];rfl) (by first|(simp;done)|omega|(simp;omega))) ?_;simp only [bF]);(refine Draw2.step (by rfl) (fun s9 h9=>OpS.less h9 rfl (by simp only [zb,seval,w68,q1];rfl) (by first|(simp;done)|omega|(simp;omega))) ?_;simp only [bF])
  refine Draw2.eff (x:=.one (.ms j0 c.consts.length)) [(0,1),(9,2)] rfl rfl (by kernel_rfl) (fun t ht s s' h1 h2=>?_) ?_
  ·simp only [List.mem_cons,List.not_mem_nil,or_false] at ht
   rcases ht with rfl|rfl<;>(cases h1;cases h2)
   ·exact OpS.eff [(24,_)] rfl (by rfl) ⟨rfl,trivial⟩ (by simp only [zb,seval,w68,a1];rfl) (by first|exact trivial|(simp;done)|(simp;omega)|(simp ;done))
   ·exact OpS.eff [(24,_)] rfl (by rfl) ⟨rfl,trivial⟩ (by simp only [zb,seval,w68,b1];rfl) (by first|exact trivial|(simp;done)|(simp;omega)|(simp ;done))
  simp only [bF]
  (refine Draw2.go fun K7 hK7=>?_);simp only [zb,seval,w68,q1,q2];(refine RunQ.mk (by first|(simp;done)|omega|(simp;omega)) (hK7 _ _ (by rfl) ?_));clear hK7 K7;(simp only [zz,Nat.reduceAdd,Nat.reduceSub]);(try ((refine Draw2.nil (fM (hle)) (hK8 _ ?_));clear hK8 K8;(refine WpL.go _ rfl fun Y y=>?_);repeat (first|(apply fw;focus ((with_reducible constructor)<;>constructor))|((first|with_reducible refine ga _ rfl fun Y y=>?_|apply ri);simp only [zb,seval,w68,q1,q2];refine RunTo.fn y (by first|(simp;done)|omega|(simp;omega)) ?_;clear y Y))))
  refine Draw2.step (by rfl) (fun s9 _=>OpS.shut rfl rfl rfl (by kernel_rfl) (ALes.cons (ALe.refl _) (ALes.cons (ALe.agg (CLes.cons (CLes.cons (CLes.cons (CLes.nil (CLes.cons (CLes.nil (CLes.refl _)))))))) (ALes.refl _))) (by first|rfl|(simp [dP,A.shut,C.shut];done)) hpr) ?_
  simp only [bF]
  (refine Draw2.go fun K7 hK7=>?_);simp only [zb,seval,w68,q1,q2];(refine RunQ.mk (by first|(simp;done)|omega|(simp;omega)) (hK7 _ _ (by rfl) ?_));clear hK7 K7;(simp only [zz,Nat.reduceAdd,Nat.reduceSub]);(try ((refine Draw2.nil (fM (hle)) (hK8 _ ?_));clear hK8 K8;(refine WpL.go _ rfl fun Y y=>?_);repeat (first|(apply fw;focus ((with_reducible constructor)<;>constructor))|((first|with_reducible refine ga _ rfl fun Y y=>?_|apply ri);simp only [zb,seval,w68,q1,q2];refine RunTo.fn y (by first|(simp;done)|omega|(simp;omega)) ?_;clear y Y))))
  refine Draw2.eff (x:=.one (.ms T2.length 1)) [(0,9),(1,2)] rfl rfl (by kernel_rfl) (fun t ht s s' h1 h2=>?_) ?_
  ·simp only [List.mem_cons,List.not_mem_nil,or_false] at ht
   rcases ht with rfl|rfl<;>(cases h1;cases h2)
   ·exact OpS.eff [] rfl (by rfl) trivial (by simp only [zb,seval,w68];rfl) (by simp)
   ·exact OpS.eff [] rfl (by rfl) trivial (by simp only [zb,seval,w68];rfl) (by simp)
  simp only [bF]
  refine Draw2.eff (x:=.one (.ms j (c.consts.length+1))) [(2,3)] rfl rfl (by kernel_rfl) (fun t ht s s' h1 h2=>?_) ?_
  ·simp only [List.mem_cons,List.not_mem_nil,or_false] at ht
   subst ht;cases h1;cases h2
   exact OpS.aop [(25,_),(34,_)] rfl (by rfl) ⟨rfl,rfl,trivial⟩ (hop _ _ _ rfl rfl)
  simp only [bF]
  refine Draw2.eff (x:=.one (.ptr j (c.consts.length+1) c.consts.length 0)) [(3,4),(5,6)] rfl rfl (by kernel_rfl) (fun t ht s s' h1 h2=>?_) ?_
  ·simp only [List.mem_cons,List.not_mem_nil,or_false] at ht
   rcases ht with rfl|rfl<;>(cases h1;cases h2)
   ·exact OpS.eff [(35,_),(33,_)] rfl (by rfl) ⟨rfl,rfl,trivial⟩ (by simp only [zb,seval,w68,hj4,List.length_append];rfl) (by first|exact trivial|(simp;done)|(simp;omega)|(simp ;done))
   ·exact OpS.eff [(35,_),(33,_)] rfl (by rfl) ⟨rfl,rfl,trivial⟩ (by simp only [zb,seval,w68,x4,List.length_append];rfl) (by first|exact trivial|(simp;done)|(simp;omega)|(simp ;done))
  simp only [bF]
  refine Draw2.eff (x:=.any) [(4,7),(6,8)] rfl rfl (by kernel_rfl) (fun t ht s s' h1 h2=>?_) ?_
  ·simp only [List.mem_cons,List.not_mem_nil,or_false] at ht
   rcases ht with rfl|rfl<;>(cases h1;cases h2)
   ·exact OpS.eff [(36,_),(32,_)] rfl (by rfl) ⟨rfl,rfl,trivial⟩ (by simp only [zb,seval,w68,hj4,gL,sL,List.length_append];rfl) (by first|exact trivial|(simp;done)|(simp;omega)|(simp ;done))
   ·rw [←hcomm];exact OpS.eff [(36,_),(32,_)] rfl (by rfl) ⟨rfl,rfl,trivial⟩ (by simp only [zb,seval,w68,x4,gL,sL,List.length_append];rfl) (by first|exact trivial|(simp;done)|(simp;omega)|(simp ;done))
  simp only [bF]
  (refine Draw2.go fun K7 hK7=>?_);simp only [zb,seval,w68,q1,q2];(refine RunQ.mk (by first|(simp;done)|omega|(simp;omega)) (hK7 _ _ (by rfl) ?_));clear hK7 K7;(simp only [zz,Nat.reduceAdd,Nat.reduceSub]);(try ((refine Draw2.nil (fM (hle)) (hK8 _ ?_));clear hK8 K8;(refine WpL.go _ rfl fun Y y=>?_);repeat (first|(apply fw;focus ((with_reducible constructor)<;>constructor))|((first|with_reducible refine ga _ rfl fun Y y=>?_|apply ri);simp only [zb,seval,w68,q1,q2];refine RunTo.fn y (by first|(simp;done)|omega|(simp;omega)) ?_;clear y Y))))
  refine Draw2.eff (x:=.any) [(3,5),(4,6),(7,8)] rfl rfl (by kernel_rfl) (fun t ht s s' h1 h2=>?_) ?_
  ·simp only [List.mem_cons,List.not_mem_nil,or_false] at ht
   rcases ht with rfl|rfl|rfl<;>(cases h1;cases h2)
   ·exact OpS.eff [(39,_),(35,_)] rfl (by rfl) ⟨rfl,rfl,trivial⟩ (by simp only [zb,seval,w68,d1];rfl) (by first|exact trivial|(simp;done)|(simp;omega)|(simp ;done))
   ·exact OpS.eff [(39,_),(35,_)] rfl (by rfl) ⟨rfl,rfl,trivial⟩ (by simp only [zb,seval,w68,d1];rfl) (by first|exact trivial|(simp;done)|(simp;omega)|(simp ;done))
   ·exact OpS.eff [(39,_),(35,_)] rfl (by rfl) ⟨rfl,rfl,trivial⟩ (by simp only [zb,seval,w68,e1];rfl) (by first|exact trivial|(simp;done)|(simp;omega)|(simp ;done))
  simp only [bF]
  refine Draw2.nil (fM hle) (hK8 _ ?_)
  clear hK8 K8
  repeat (first|(apply fw;focus ((with_reducible constructor)<;>constructor))|((first|with_reducible refine ga _ rfl fun Y y=>?_|apply ri);simp only [zb,seval,w68,y3,y4];refine RunTo.fn y (by first|(simp;done)|omega|(simp;omega)) ?_;clear y Y))
  obtain⟨S9,hS9⟩:∃S9,S9=(T4.set j (some ⟨28,6,c.consts.map D.cc++[[.v (.int .i64 d.k),.v (.int .i32 d.c),.v (.bool d.neg),.sl 1 (d.mag.map fun n=>[.v (.int .u32 n)]),.v (.string d.t),.sl 6 (d.l.map D.cc)]]⟩)).set p (some ⟨76,5,[[cN,.ms j (c.consts.length+1),cG,cP,cT]]⟩):=⟨_,rfl⟩
  rw [←hS9] at y1 y2 y3 y4 hR ⊢
  have hl9:S.length+1<S9.length:=(List.getElem?_eq_some_iff.1 y3).1
  refine⟨.inl rfl,_,_,_,_,(by simp only [zb,seval,List.getElem?_set_self hl9,w68];rfl),by simp,Le.refl _ _,?_,⟨.ms j (c.consts.length+1),cG,cP,?_⟩,?_,fun j ob h1 h2 h3=>?_⟩
  ·first|rfl|(simp [DE,hcn];rfl)|simp [DE,hcn,lY]
  ·have hn:∀j m,cN=.ms j m→j<S.length:=fun j m e=>hI.2.1.lt e
   exact hR.1.put2 hn (by omega) y3 rfl
  ·simp;omega
  ·have hj:=(List.getElem?_eq_some_iff.1 h1).1
   rw [List.getElem?_set_ne (by omega)]
   exact hR.2.2 j ob (hF2 j ob h1) h2 (fun h=>h3 (by simp at h;simp [h]))
 ·refine Fn.introT Tryz.func68 rfl Tryz.ntmps68 Tryz.results68 (by simp only [List.length_cons,List.length_nil];decide) ?_
  repeat (first|(apply fw;focus ((with_reducible constructor)<;>constructor))|((first|with_reducible refine ga _ rfl fun Y y=>?_|apply ri);simp only [zb,seval,w68,List.length_append,bA,bW,bB,dS,cF];refine RunTo.fn y (by first|(simp;done)|omega|(simp;omega)) ?_;clear y Y))
  skip
  skip
  (refine WpA.draw1 10 [7,9] (S++[some ⟨31,11,[[.v (.int .i64 1),.v (.string name),.v (.string rest),.sl 1 (aW params),.v (.int .i64 d.k),.v (.int .i32 d.c),.v (.bool d.neg),.sl 1 (d.mag.map fun n=>[.v (.int .u32 n)]),.v (.string d.t),.sl 6 (d.l.map D.cc),.sl 11 (l.map K.cc)]]⟩,none,some ⟨72,4,[[.any,.any,.any,.any]]⟩]) [_,?_,?_] _ _ _ _ rfl rfl rfl (by kernel_rfl) (by kernel_rfl) (by kernel_rfl) (by kernel_rfl) rfl rfl rfl rfl (by decide) fun K8 hK8=>?_);rotate_left 2;simp only [zz] at hK8 ⊢;(refine Draw1.go fun K7 hK7=>?_);simp only [zb,seval,w68,bA,bB,hpp];(refine RunQ.mk (by first|(simp;done)|omega|(simp;omega)) (hK7 _ _ (by rfl) ?_));clear hK7 K7;(simp only [zz,Nat.reduceAdd,Nat.reduceSub]);(try ((refine Draw1.nil (by simp only [List.mem_cons,List.not_mem_nil,or_false,forall_eq_or_imp,forall_eq];exact⟨kZ _ _ _ _ _ _ _ _,kZ _ _ _ _ _ _ _ _,kZ _ _ _ _ _ _ _ _⟩) (hK8 _ ?_));clear hK8 K8;(refine WpL.go _ rfl fun Y y=>?_);repeat (first|(apply fw;focus ((with_reducible constructor)<;>constructor))|((first|with_reducible refine ga _ rfl fun Y y=>?_|apply ri);simp only [zb,seval,w68,bA,bB,hpp];refine RunTo.fn y (by first|(simp;done)|omega|(simp;omega)) ?_;clear y Y))))
  refine Draw1.eff 0 rfl rfl rfl (OpS.eff [(19,_)] rfl (by rfl) ⟨rfl,trivial⟩ (by simp only [zb,seval,w68,bA,bB,cF];rfl) (by first|(simp;done)|omega|(simp;omega))) ?_;(try simp only [bF]);(try ((refine Draw1.go fun K7 hK7=>?_);simp only [zb,seval,w68,bA,bB,cF];(refine RunQ.mk (by first|(simp;done)|omega|(simp;omega)) (hK7 _ _ (by rfl) ?_));clear hK7 K7;(simp only [zz,Nat.reduceAdd,Nat.reduceSub]);(try ((refine Draw1.nil (by simp only [List.mem_cons,List.not_mem_nil,or_false,forall_eq_or_imp,forall_eq];exact⟨kZ _ _ _ _ _ _ _ _,kZ _ _ _ _ _ _ _ _,kZ _ _ _ _ _ _ _ _⟩) (hK8 _ ?_));clear hK8 K8;(refine WpL.go _ rfl fun Y y=>?_);repeat (first|(apply fw;focus ((with_reducible constructor)<;>constructor))|((first|with_reducible refine ga _ rfl fun Y y=>?_|apply ri);simp only [zb,seval,w68,bA,bB,cF];refine RunTo.fn y (by first|(simp;done)|omega|(simp;omega)) ?_;clear y Y))))))
  refine Draw1.eff 1 rfl rfl rfl (OpS.eff [(20,_),(18,_)] rfl (by rfl) ⟨rfl,rfl,trivial⟩ (by simp only [zb,seval,w68,bA,bW,bB,dS,cF];rfl) (by first|(simp;done)|omega|(simp;omega))) ?_;(try simp only [bF]);(try ((refine Draw1.go fun K7 hK7=>?_);simp only [zb,seval,w68,bA,bW,bB,dS,cF];(refine RunQ.mk (by first|(simp;done)|omega|(simp;omega)) (hK7 _ _ (by rfl) ?_));clear hK7 K7;(simp only [zz,Nat.reduceAdd,Nat.reduceSub]);(try ((refine Draw1.nil (by simp only [List.mem_cons,List.not_mem_nil,or_false,forall_eq_or_imp,forall_eq];exact⟨kZ _ _ _ _ _ _ _ _,kZ _ _ _ _ _ _ _ _,kZ _ _ _ _ _ _ _ _⟩) (hK8 _ ?_));clear hK8 K8;(refine WpL.go _ rfl fun Y y=>?_);repeat (first|(apply fw;focus ((with_reducible constructor)<;>constructor))|((first|with_reducible refine ga _ rfl fun Y y=>?_|apply ri);simp only [zb,seval,w68,bA,bW,bB,dS,cF];refine RunTo.fn y (by first|(simp;done)|omega|(simp;omega)) ?_;clear y Y))))))
  obtain⟨T2,hT2⟩:∃T2:List (Option Ob),T2=S++[some ⟨31,11,[[.v (.int .i64 1),.v (.string name),.v (.string rest),.sl 1 (aW params),.v (.int .i64 d.k),.v (.int .i32 d.c),.v (.bool d.neg),.sl 1 (d.mag.map fun n=>[.v (.int .u32 n)]),.v (.string d.t),.sl 6 (d.l.map D.cc),.sl 11 (l.map K.cc)]]⟩,some ⟨72,4,[[.v (.int .i64 0),.v (.int .i64 0),.v (.int .i64 0),.v (.slice none 0 0)]]⟩,some ⟨72,4,[[.v (.int .i64 1),.v (.int .i64 (0)),.v (.int .i64 0),.v (.slice none 0 0)]]⟩]:=⟨_,rfl⟩
  have hI2:CoderIn p T2 c cN (.v (.slice none 0 0)) cG cP cT:=by rw [hT2];exact hI.app _
  have hl2:T2.length=S.length+3:=by rw [hT2];simp
  have a2:T2[S.length]?=some (some ⟨31,11,[[.v (.int .i64 1),.v (.string name),.v (.string rest),.sl 1 (aW params),.v (.int .i64 d.k),.v (.int .i32 d.c),.v (.bool d.neg),.sl 1 (d.mag.map fun n=>[.v (.int .u32 n)]),.v (.string d.t),.sl 6 (d.l.map D.cc),.sl 11 (l.map K.cc)]]⟩):=by rw [hT2];exact bA _ _ _
  have a3:T2[S.length+1]?=some (some ⟨72,4,[[.v (.int .i64 0),.v (.int .i64 0),.v (.int .i64 0),.v (.slice none 0 0)]]⟩):=by rw [hT2];exact bW _ _ _ _
  have a4:T2[S.length+2]?=some (some ⟨72,4,[[.v (.int .i64 1),.v (.int .i64 (0)),.v (.int .i64 0),.v (.slice none 0 0)]]⟩):=by rw [hT2];exact bB _ _ _ _ _
  have hF2:∀(j:Nat) (ob:Ob),S[j]?=some (some ob)→T2[j]?=some (some ob):=fun j ob h=>by rw [hT2];exact aM h
  rw [←hT2]
  have a1:=hI2.1
  obtain⟨T3,hT3⟩:∃T3:List (Option Ob),T3=T2++[some ⟨28,6,[[.v (.int .i64 0),.v (.int .i32 0),.v (.bool false),.v (.slice none 0 0),.v (.string ⟨#[]⟩),.v (.slice none 0 0)]]⟩]:=⟨_,rfl⟩
  have u3:∀{j:Nat} {o:Option Ob},T2[j]?=some o→T3[j]?=some o:=fun h=>by rw [hT3];exact aM h
  have b5:T3[T2.length]?=some (some ⟨28,6,[[.v (.int .i64 0),.v (.int .i32 0),.v (.bool false),.v (.slice none 0 0),.v (.string ⟨#[]⟩),.v (.slice none 0 0)]]⟩):=by rw [hT3];simp
  have hl3:T3.length=T2.length+1:=by rw [hT3];simp
  have hI3:CoderIn p T3 c cN (.v (.slice none 0 0)) cG cP cT:=by rw [hT3];exact hI2.app _
  have hnq:∀n,(.v (.slice none 0 0):C)≠.ms T2.length n:=fun n e=>by have:=hI2.2.2.1.lt e;omega
  obtain⟨T4,j,hA4,hj4,hl4,hfr4,hpl4,hop⟩:=dJ (P:=Tryz.prog) (T:=26) (by_:=88) bD bQ bR (by omega) hI3.2.2.1 b5 (by simp) hnq (by simp;omega) (by simp;omega)
  simp only [List.length_map,List.length_cons,List.length_nil,Nat.zero_add] at hA4 hop hpl4
  have hap:∀{i:Nat} {ob:Ob},T3[i]?=some (some ob)→ob.ty≠28→∀n,(.v (.slice none 0 0):C)≠.ms i n:=fun hj ht=>hI3.2.2.1.apart hj ht
  have d1:=hfr4 _ _ (u3 a1) (hap (u3 a1) (by show (76:Nat)≠_;decide))
  have d2:=hfr4 _ _ (u3 a2) (hap (u3 a2) (by show (31:Nat)≠_;decide))
  have d3:=hfr4 _ _ (u3 a3) (hap (u3 a3) (by show (72:Nat)≠_;decide))
  have d4:=hfr4 _ _ (u3 a4) (hap (u3 a4) (by show (72:Nat)≠_;decide))
  have hlj:j<T4.length:=(List.getElem?_eq_some_iff.1 hj4).1
  have hjn:∀{i:Nat} {ob:Ob},T4[i]?=some (some ob)→ob.ty≠28→j≠i:=fun hi ht e=>by subst e;rw [hj4] at hi;cases hi;exact ht rfl
  obtain⟨Y,hY⟩:∃Y:Option Ob,Y=some ⟨28,6,c.consts.map D.cc++[[.v (.int .i64 d.k),.v (.int .i32 d.c),.v (.bool d.neg),.sl 1 (d.mag.map fun n=>[.v (.int .u32 n)]),.v (.string d.t),.sl 6 (d.l.map D.cc)]]⟩:=⟨_,rfl⟩
  have e1:(T4.set j Y)[p]?=_:=(List.getElem?_set_ne (hjn d1 (by show (76:Nat)≠_;decide))).trans d1
  have e2:(T4.set j Y)[S.length]?=_:=(List.getElem?_set_ne (hjn d2 (by show (31:Nat)≠_;decide))).trans d2
  have e3:(T4.set j Y)[S.length+1]?=_:=(List.getElem?_set_ne (hjn d3 (by show (72:Nat)≠_;decide))).trans d3
  have e4:(T4.set j Y)[S.length+2]?=_:=(List.getElem?_set_ne (hjn d4 (by show (72:Nat)≠_;decide))).trans d4
  have hjp:j≠p:=hjn d1 (by show (76:Nat)≠_;decide)
  obtain⟨X,hX⟩:∃X:Option Ob,X=some ⟨76,5,[[cN,.ms j (c.consts.length+1),cG,cP,cT]]⟩:=⟨_,rfl⟩
  have hp4:p<T4.length:=by omega
  have x1:(T4.set p X)[p]?=some X:=List.getElem?_set_self hp4
  have x2:(T4.set p X)[S.length]?=_:=(List.getElem?_set_ne (by omega)).trans d2
  have x4:(T4.set p X)[j]?=_:=(List.getElem?_set_ne (Ne.symm hjp)).trans hj4
  have y1:((T4.set j Y).set p X)[p]?=some X:=List.getElem?_set_self (by simpa using hp4)
  have y2:((T4.set j Y).set p X)[S.length]?=_:=(List.getElem?_set_ne (by omega)).trans e2
  have y3:((T4.set j Y).set p X)[S.length+1]?=_:=(List.getElem?_set_ne (by omega)).trans e3
  have y4:((T4.set j Y).set p X)[S.length+2]?=_:=(List.getElem?_set_ne (by omega)).trans e4
  have hcomm:(T4.set p X).set j Y=(T4.set j Y).set p X:=List.set_comm _ _ (Ne.symm hjp)
  obtain⟨c9,hc9⟩:∃c9:List (Option Ob),c9=pts [(p,⟨76,5,[[.any,.any,.any,.any,.any]]⟩),(S.length,⟨31,11,[[.v (.int .i64 1),.v (.string name),.v (.string rest),.sl 1 (aW params),.v (.int .i64 d.k),.v (.int .i32 d.c),.v (.bool d.neg),.sl 1 (d.mag.map fun n=>[.v (.int .u32 n)]),.v (.string d.t),.sl 6 (d.l.map D.cc),.sl 11 (l.map K.cc)]]⟩)]:=⟨_,rfl⟩
  have q1:c9[p]?=some (some ⟨76,5,[[.any,.any,.any,.any,.any]]⟩):=by rw [hc9];exact lE (q:=(p,_)) (by simp)
  have q2:c9[S.length]?=some (some ⟨31,11,[[.v (.int .i64 1),.v (.string name),.v (.string rest),.sl 1 (aW params),.v (.int .i64 d.k),.v (.int .i32 d.c),.v (.bool d.neg),.sl 1 (d.mag.map fun n=>[.v (.int .u32 n)]),.v (.string d.t),.sl 6 (d.l.map D.cc),.sl 11 (l.map K.cc)]]⟩):=by rw [hc9];exact lE (q:=(S.length,_)) (by rw [List.find?_cons_of_neg (by simp;omega)];simp)
  have any5:∀(s:List (Option Ob)) (a b c d e:C),FzR s (fun _=>false) [[a,b,c,d,e]] [[.any,.any,.any,.any,.any]]:=fun s a b c d e=>⟨⟨FzC.any,FzC.any,FzC.any,FzC.any,FzC.any,trivial⟩,trivial⟩
  have hle:∀s∈[T2,T2,T3,T4,T4,T4.set p X,T4.set p X,T4.set j Y,(T4.set j Y).set p X,T3],LeS c9 s:=by
   rw [hc9]
   intro s hs
   refine LeS.pts ?_
   simp only [List.mem_cons,List.not_mem_nil,or_false,forall_eq_or_imp,forall_eq] at hs ⊢
   rcases hs with rfl|rfl|rfl|rfl|rfl|rfl|rfl|rfl|rfl|rfl
   ·exact⟨⟨_,a1,rfl,rfl,any5 _ _ _ _ _ _⟩,⟨_,a2,rfl,rfl,FzR.same _ _ _⟩⟩
   ·exact⟨⟨_,a1,rfl,rfl,any5 _ _ _ _ _ _⟩,⟨_,a2,rfl,rfl,FzR.same _ _ _⟩⟩
   ·exact⟨⟨_,u3 a1,rfl,rfl,any5 _ _ _ _ _ _⟩,⟨_,u3 a2,rfl,rfl,FzR.same _ _ _⟩⟩
   ·exact⟨⟨_,d1,rfl,rfl,any5 _ _ _ _ _ _⟩,⟨_,d2,rfl,rfl,FzR.same _ _ _⟩⟩
   ·exact⟨⟨_,d1,rfl,rfl,any5 _ _ _ _ _ _⟩,⟨_,d2,rfl,rfl,FzR.same _ _ _⟩⟩
   ·exact⟨⟨_,x1.trans (congrArg some hX),rfl,rfl,any5 _ _ _ _ _ _⟩,⟨_,x2,rfl,rfl,FzR.same _ _ _⟩⟩
   ·exact⟨⟨_,x1.trans (congrArg some hX),rfl,rfl,any5 _ _ _ _ _ _⟩,⟨_,x2,rfl,rfl,FzR.same _ _ _⟩⟩
   ·exact⟨⟨_,e1,rfl,rfl,any5 _ _ _ _ _ _⟩,⟨_,e2,rfl,rfl,FzR.same _ _ _⟩⟩
   ·exact⟨⟨_,y1.trans (congrArg some hX),rfl,rfl,any5 _ _ _ _ _ _⟩,⟨_,y2,rfl,rfl,FzR.same _ _ _⟩⟩
   ·exact⟨⟨_,u3 a1,rfl,rfl,any5 _ _ _ _ _ _⟩,⟨_,u3 a2,rfl,rfl,FzR.same _ _ _⟩⟩
  have hRA:At 28 6 (T4.set j Y) (.ms j (c.consts.length+1)) ((c.consts++[d]).map D.cc):=.inr ⟨by simp,j,by simp,by rw [List.getElem?_set_self hlj,hY,List.map_append,List.map_cons,List.map_nil,D.cc_eq d]⟩
  have hRf:∀(i:Nat) (o:Option Ob),T2[i]?=some o→(∀n,(.v (.slice none 0 0):C)≠.ms i n)→(T4.set j Y)[i]?=some o:=fun i o hi hn=>by
   have:j≠i:=fun e=>by
    subst e
    rcases hpl4 with h|h
    ·exact hn _ h
    ·have:=(List.getElem?_eq_some_iff.1 hi).1;omega
   rw [List.getElem?_set_ne this]
   exact hfr4 i o (u3 hi) hn
  have hR:=hI2.newC hRA (by simp;omega) hRf
  have gL:∀x:List C,(c.consts.map D.cc++[x])[0]?=some x:=fun x=>by simp [hcn0]
  have sL:∀x y:List C,(c.consts.map D.cc++[x]).set 0 y=c.consts.map D.cc++[y]:=fun x y=>by simp [hcn0]
  have b1:=u3 a1
  subst hY hX hT3
  skip
  skip
  (refine WpA.draw2 21 [4,13,14,15,16,20] c9 [[],[4],[4,13],[4,13,14],[4,13,14,15],[4,13,14,20],[4,13,14,15,20],[4,13,14,15,16],[4,13,14,15,16,20],[13]] [T2,T2,T2++[some ⟨28,6,[[.v (.int .i64 0),.v (.int .i32 0),.v (.bool false),.v (.slice none 0 0),.v (.string ⟨#[]⟩),.v (.slice none 0 0)]]⟩],T4,T4,T4.set p (some ⟨76,5,[[cN,.ms j (c.consts.length+1),cG,cP,cT]]⟩),T4.set p (some ⟨76,5,[[cN,.ms j (c.consts.length+1),cG,cP,cT]]⟩),T4.set j (some ⟨28,6,c.consts.map D.cc++[[.v (.int .i64 d.k),.v (.int .i32 d.c),.v (.bool d.neg),.sl 1 (d.mag.map fun n=>[.v (.int .u32 n)]),.v (.string d.t),.sl 6 (d.l.map D.cc)]]⟩),(T4.set j (some ⟨28,6,c.consts.map D.cc++[[.v (.int .i64 d.k),.v (.int .i32 d.c),.v (.bool d.neg),.sl 1 (d.mag.map fun n=>[.v (.int .u32 n)]),.v (.string d.t),.sl 6 (d.l.map D.cc)]]⟩)).set p (some ⟨76,5,[[cN,.ms j (c.consts.length+1),cG,cP,cT]]⟩),T2++[some ⟨28,6,[[.v (.int .i64 0),.v (.int .i32 0),.v (.bool false),.v (.slice none 0 0),.v (.string ⟨#[]⟩),.v (.slice none 0 0)]]⟩]] 8 _ _ _ _ rfl rfl rfl (by kernel_rfl) (by kernel_rfl) (by kernel_rfl) (by kernel_rfl) rfl rfl rfl (by decide) fun K8 hK8=>?_)
  simp only [zz] at hK8 ⊢
  (refine Draw2.step (by rfl) (fun s9 h9=>OpS.less h9 rfl (by simp only [zb,seval,w68,q1];rfl) (by first|(simp;done)|omega|(simp;omega))) ?_;simp only [bF]);(refine Draw2.step (by rfl) (fun s9 h9=>OpS.less h9 rfl (by simp only [zb,seval,w68,q1];rfl) (by first|(simp;done)|omega|(simp;omega))) ?_;simp only [bF]);(refine Draw2.step (by rfl) (fun s9 h9=>OpS.less h9 rfl (by simp only [zb,seval,w68,q1];rfl) (by first|(simp;done)|omega|(simp;omega))) ?_;simp only [bF]);(refine Draw2.step (by rfl) (fun s9 h9=>OpS.less h9 rfl (by simp only [zb,seval,w68,q1];rfl) (by first|(simp;done)|omega|(simp;omega))) ?_;simp only [bF])
  refine Draw2.eff (x:=.one (.v (.slice none 0 0))) [(0,1),(9,2)] rfl rfl (by kernel_rfl) (fun t ht s s' h1 h2=>?_) ?_
  ·simp only [List.mem_cons,List.not_mem_nil,or_false] at ht
   rcases ht with rfl|rfl<;>(cases h1;cases h2)
   ·exact OpS.eff [(24,_)] rfl (by rfl) ⟨rfl,trivial⟩ (by simp only [zb,seval,w68,a1];rfl) (by first|exact trivial|(simp;done)|(simp;omega)|(simp [hcn0];done))
   ·exact OpS.eff [(24,_)] rfl (by rfl) ⟨rfl,trivial⟩ (by simp only [zb,seval,w68,b1];rfl) (by first|exact trivial|(simp;done)|(simp;omega)|(simp [hcn0];done))
  simp only [bF]
  (refine Draw2.go fun K7 hK7=>?_);simp only [zb,seval,w68,q1,q2];(refine RunQ.mk (by first|(simp;done)|omega|(simp;omega)) (hK7 _ _ (by rfl) ?_));clear hK7 K7;(simp only [zz,Nat.reduceAdd,Nat.reduceSub]);(try ((refine Draw2.nil (fM (hle)) (hK8 _ ?_));clear hK8 K8;(refine WpL.go _ rfl fun Y y=>?_);repeat (first|(apply fw;focus ((with_reducible constructor)<;>constructor))|((first|with_reducible refine ga _ rfl fun Y y=>?_|apply ri);simp only [zb,seval,w68,q1,q2];refine RunTo.fn y (by first|(simp;done)|omega|(simp;omega)) ?_;clear y Y))))
  refine Draw2.step (by rfl) (fun s9 _=>OpS.shut rfl rfl rfl (by kernel_rfl) (ALes.cons (ALe.refl _) (ALes.cons (ALe.agg (CLes.cons (CLes.cons (CLes.cons (CLes.nil (CLes.cons (CLes.nil (CLes.refl _)))))))) (ALes.refl _))) (by first|rfl|(simp [dP,A.shut,C.shut];done)) hpr) ?_
  simp only [bF]
  (refine Draw2.go fun K7 hK7=>?_);simp only [zb,seval,w68,q1,q2];(refine RunQ.mk (by first|(simp;done)|omega|(simp;omega)) (hK7 _ _ (by rfl) ?_));clear hK7 K7;(simp only [zz,Nat.reduceAdd,Nat.reduceSub]);(try ((refine Draw2.nil (fM (hle)) (hK8 _ ?_));clear hK8 K8;(refine WpL.go _ rfl fun Y y=>?_);repeat (first|(apply fw;focus ((with_reducible constructor)<;>constructor))|((first|with_reducible refine ga _ rfl fun Y y=>?_|apply ri);simp only [zb,seval,w68,q1,q2];refine RunTo.fn y (by first|(simp;done)|omega|(simp;omega)) ?_;clear y Y))))
  refine Draw2.eff (x:=.one (.ms T2.length 1)) [(0,9),(1,2)] rfl rfl (by kernel_rfl) (fun t ht s s' h1 h2=>?_) ?_
  ·simp only [List.mem_cons,List.not_mem_nil,or_false] at ht
   rcases ht with rfl|rfl<;>(cases h1;cases h2)
   ·exact OpS.eff [] rfl (by rfl) trivial (by simp only [zb,seval,w68];rfl) (by simp)
   ·exact OpS.eff [] rfl (by rfl) trivial (by simp only [zb,seval,w68];rfl) (by simp)
  simp only [bF]
  refine Draw2.eff (x:=.one (.ms j (c.consts.length+1))) [(2,3)] rfl rfl (by kernel_rfl) (fun t ht s s' h1 h2=>?_) ?_
  ·simp only [List.mem_cons,List.not_mem_nil,or_false] at ht
   subst ht;cases h1;cases h2
   exact OpS.aop [(25,_),(34,_)] rfl (by rfl) ⟨rfl,rfl,trivial⟩ (hop _ _ _ rfl rfl)
  simp only [bF]
  refine Draw2.eff (x:=.one (.ptr j (c.consts.length+1) 0 0)) [(3,4),(5,6)] rfl rfl (by kernel_rfl) (fun t ht s s' h1 h2=>?_) ?_
  ·simp only [List.mem_cons,List.not_mem_nil,or_false] at ht
   rcases ht with rfl|rfl<;>(cases h1;cases h2)
   ·exact OpS.eff [(35,_),(33,_)] rfl (by rfl) ⟨rfl,rfl,trivial⟩ (by simp only [zb,seval,w68,hj4,List.length_append];rfl) (by first|exact trivial|(simp;done)|(simp;omega)|(simp [hcn0];done))
   ·exact OpS.eff [(35,_),(33,_)] rfl (by rfl) ⟨rfl,rfl,trivial⟩ (by simp only [zb,seval,w68,x4,List.length_append];rfl) (by first|exact trivial|(simp;done)|(simp;omega)|(simp [hcn0];done))
  simp only [bF]
  refine Draw2.eff (x:=.any) [(4,7),(6,8)] rfl rfl (by kernel_rfl) (fun t ht s s' h1 h2=>?_) ?_
  ·simp only [List.mem_cons,List.not_mem_nil,or_false] at ht
   rcases ht with rfl|rfl<;>(cases h1;cases h2)
   ·exact OpS.eff [(36,_),(32,_)] rfl (by rfl) ⟨rfl,rfl,trivial⟩ (by simp only [zb,seval,w68,hj4,gL,sL,List.length_append];rfl) (by first|exact trivial|(simp;done)|(simp;omega)|(simp [hcn0];done))
   ·rw [←hcomm];exact OpS.eff [(36,_),(32,_)] rfl (by rfl) ⟨rfl,rfl,trivial⟩ (by simp only [zb,seval,w68,x4,gL,sL,List.length_append];rfl) (by first|exact trivial|(simp;done)|(simp;omega)|(simp [hcn0];done))
  simp only [bF]
  (refine Draw2.go fun K7 hK7=>?_);simp only [zb,seval,w68,q1,q2];(refine RunQ.mk (by first|(simp;done)|omega|(simp;omega)) (hK7 _ _ (by rfl) ?_));clear hK7 K7;(simp only [zz,Nat.reduceAdd,Nat.reduceSub]);(try ((refine Draw2.nil (fM (hle)) (hK8 _ ?_));clear hK8 K8;(refine WpL.go _ rfl fun Y y=>?_);repeat (first|(apply fw;focus ((with_reducible constructor)<;>constructor))|((first|with_reducible refine ga _ rfl fun Y y=>?_|apply ri);simp only [zb,seval,w68,q1,q2];refine RunTo.fn y (by first|(simp;done)|omega|(simp;omega)) ?_;clear y Y))))
  refine Draw2.eff (x:=.any) [(3,5),(4,6),(7,8)] rfl rfl (by kernel_rfl) (fun t ht s s' h1 h2=>?_) ?_
  ·simp only [List.mem_cons,List.not_mem_nil,or_false] at ht
   rcases ht with rfl|rfl|rfl<;>(cases h1;cases h2)
   ·exact OpS.eff [(39,_),(35,_)] rfl (by rfl) ⟨rfl,rfl,trivial⟩ (by simp only [zb,seval,w68,d1];rfl) (by first|exact trivial|(simp;done)|(simp;omega)|(simp [hcn0];done))
   ·exact OpS.eff [(39,_),(35,_)] rfl (by rfl) ⟨rfl,rfl,trivial⟩ (by simp only [zb,seval,w68,d1];rfl) (by first|exact trivial|(simp;done)|(simp;omega)|(simp [hcn0];done))
   ·exact OpS.eff [(39,_),(35,_)] rfl (by rfl) ⟨rfl,rfl,trivial⟩ (by simp only [zb,seval,w68,e1];rfl) (by first|exact trivial|(simp;done)|(simp;omega)|(simp [hcn0];done))
  simp only [bF]
  refine Draw2.nil (fM hle) (hK8 _ ?_)
  clear hK8 K8
  repeat (first|(apply fw;focus ((with_reducible constructor)<;>constructor))|((first|with_reducible refine ga _ rfl fun Y y=>?_|apply ri);simp only [zb,seval,w68,y3,y4];refine RunTo.fn y (by first|(simp;done)|omega|(simp;omega)) ?_;clear y Y))
  obtain⟨S9,hS9⟩:∃S9,S9=(T4.set j (some ⟨28,6,c.consts.map D.cc++[[.v (.int .i64 d.k),.v (.int .i32 d.c),.v (.bool d.neg),.sl 1 (d.mag.map fun n=>[.v (.int .u32 n)]),.v (.string d.t),.sl 6 (d.l.map D.cc)]]⟩)).set p (some ⟨76,5,[[cN,.ms j (c.consts.length+1),cG,cP,cT]]⟩):=⟨_,rfl⟩
  rw [←hS9] at y1 y2 y3 y4 hR ⊢
  have hl9:S.length+1<S9.length:=(List.getElem?_eq_some_iff.1 y3).1
  refine⟨.inl rfl,_,_,_,_,(by simp only [zb,seval,List.getElem?_set_self hl9,w68];rfl),by simp,Le.refl _ _,?_,⟨.ms j (c.consts.length+1),cG,cP,?_⟩,?_,fun j ob h1 h2 h3=>?_⟩
  ·first|rfl|(simp [DE,hcn];rfl)|simp [DE,hcn,lY]
  ·have hn:∀j m,cN=.ms j m→j<S.length:=fun j m e=>hI.2.1.lt e
   exact hR.1.put2 hn (by omega) y3 rfl
  ·simp;omega
  ·have hj:=(List.getElem?_eq_some_iff.1 h1).1
   rw [List.getElem?_set_ne (by omega)]
   exact hR.2.2 j ob (hF2 j ob h1) h2 (fun h=>h3 (by simp at h;simp [h]))
end
end Go.Proofs.YtaeioidifpebdaaGreatDoor
end
section
namespace Go.Proofs.YtaeioidifpebdaaGreatDoor
open Go Go.RowKit
set_option linter.unusedSimpArgs false
set_option linter.unusedVariables false
mutual
def K.size:K→Nat
 | .mk _ _ _ _ _ l=>K.sizes l+1
def K.sizes:List K→Nat
 | []=>0
 | c::l=>c.size+K.sizes l
end
theorem K.size_pos (c:K):0<c.size:=by cases c;rw [K.size];omega
theorem K.size_eq (c:K):c.size=K.sizes c.l+1:=by cases c;rw [K.size];rfl
theorem K.sizes_append:∀a b:List K,K.sizes (a++b)=K.sizes a+K.sizes b
 | [],b=>by simp [K.sizes]
 | c::a,b=>by simp [K.sizes,K.sizes_append a b];omega
theorem K.sizes_take {l:List K} {i:Nat} (h:i<l.length):K.sizes (l.take (i+1))=K.sizes (l.take i)+l[i].size:=by
 rw [List.take_succ_eq_append_getElem h,K.sizes_append];simp [K.sizes]
theorem K.sizes_take_le (l:List K) (i:Nat):K.sizes (l.take i)≤K.sizes l:=by
 conv=>rhs;rw [←List.take_append_drop i l,K.sizes_append]
 omega
theorem K.sizes_take_lt {l:List K} {i:Nat} (h:i<l.length):K.sizes (l.take i)+l[i].size≤K.sizes l:=by
 rw [←K.sizes_take h];exact K.sizes_take_le _ _
def ats:List K→Nat→List Int
 | [],_=>[]
 | x::l,n=>(n:Int)::ats l (n+x.size)
theorem AX:∀(a b:List K) (n:Nat),ats (a++b) n=ats a n++ats b (n+K.sizes a)
 | [],b,n=>by simp [ats,K.sizes]
 | x::a,b,n=>by simp [ats,K.sizes,AX a b,Nat.add_assoc]
theorem SE {l:List K} {i:Nat} (h:i<l.length) (n:Nat):ats (l.take (i+1)) n=ats (l.take i) n++[((n+K.sizes (l.take i):Nat):Int)]:=by
 rw [List.take_succ_eq_append_getElem h,AX];simp [ats]
theorem FB:∀(l:List K) (n:Nat),(ats l n).length=l.length
 | [],_=>rfl
 | x::l,n=>by simp [ats,FB l]
noncomputable def nK (x:K) (sc:List (List ByteArray)):List (List ByteArray):=if x.k=6 then sc++[nO x] else sc
mutual
noncomputable def yJ:K→Cd→List (List ByteArray)→Nat→List Nd × Cd
 | .mk k name rest params d l,c,sc,n =>
  let t:=hJ c (.mk k name rest params d l) sc
  let r:=eP l t.2 (nK (.mk k name rest params d l) sc) (n+1)
  (⟨t.1.1,t.1.2.1,t.1.2.2,ats l (n+1)⟩::r.1,r.2)
noncomputable def eP:List K→Cd→List (List ByteArray)→Nat→List Nd × Cd
 | [],c,_,_=>([],c)
 | x::l,c,sc,n =>
  let r:=yJ x c sc n
  let q:=eP l r.2 sc (n+x.size)
  (r.1++q.1,q.2)
end
theorem sH (x:K) (c:Cd) (sc:List (List ByteArray)) (n:Nat):yJ x c sc n=(⟨(hJ c x sc).1.1,(hJ c x sc).1.2.1,(hJ c x sc).1.2.2,ats x.l (n+1)⟩::(eP x.l (hJ c x sc).2 (nK x sc) (n+1)).1,(eP x.l (hJ c x sc).2 (nK x sc) (n+1)).2):=by
 cases x;rw [yJ];rfl
mutual
theorem JC:∀(x:K) (c:Cd) (sc:List (List ByteArray)) (n:Nat),(yJ x c sc n).1.length=x.size
 | .mk k name rest params d l,c,sc,n=>by rw [sH,K.size_eq];simp only [List.length_cons];rw [wR]
theorem wR:∀(l:List K) (c:Cd) (sc:List (List ByteArray)) (n:Nat),(eP l c sc n).1.length=K.sizes l
 | [],c,sc,n=>by rw [eP,K.sizes];rfl
 | x::l,c,sc,n=>by rw [eP,K.sizes];simp only [List.length_append];rw [JC,wR]
end
theorem vJ:∀(a b:List K) (c:Cd) (sc:List (List ByteArray)) (n:Nat),eP (a++b) c sc n=((eP a c sc n).1++(eP b (eP a c sc n).2 sc (n+K.sizes a)).1,(eP b (eP a c sc n).2 sc (n+K.sizes a)).2)
 | [],b,c,sc,n=>by rw [List.nil_append,eP,K.sizes];rfl
 | x::a,b,c,sc,n=>by
  rw [List.cons_append,eP,eP,K.sizes]
  simp only
  rw [vJ a b]
  simp only [List.append_assoc,Nat.add_assoc]
theorem PI (x:K) (c:Cd) (sc:List (List ByteArray)) (n:Nat):eP [x] c sc n=yJ x c sc n:=by
 rw [eP,eP];simp
def Cd.with (c:Cd) (N:List Nd) (T:List Int):Cd:={ c with nodes:=N,tops:=T }
theorem AY (c:Cd) (x:K) (sc:List (List ByteArray)) (N:List Nd) (T:List Int):hJ (c.with N T) x sc=((hJ c x sc).1,(hJ c x sc).2.with N T):=by
 have hv:∀s sc lo gl,qR (c.with N T) sc s lo gl=((qR c sc s lo gl).1,(qR c sc s lo gl).2.with N T):=fun s sc lo gl=>by
  unfold qR
  cases kY s sc.reverse with
  | none=>rfl
  | some ok=>rfl
 unfold hJ
 simp only [hv]
 repeat' split
 all_goals rfl
mutual
theorem DF:∀(x:K) (c:Cd) (sc:List (List ByteArray)) (n:Nat) (N:List Nd) (T:List Int),yJ x (c.with N T) sc n=((yJ x c sc n).1,(yJ x c sc n).2.with N T)
 | .mk k name rest params d l,c,sc,n,N,T=>by
  rw [sH,sH,AY]
  simp only
  rw [AZ]
theorem AZ:∀(l:List K) (c:Cd) (sc:List (List ByteArray)) (n:Nat) (N:List Nd) (T:List Int),eP l (c.with N T) sc n=((eP l c sc n).1,(eP l c sc n).2.with N T)
 | [],c,sc,n,N,T=>by rw [eP,eP]
 | x::l,c,sc,n,N,T=>by
  rw [eP,eP]
  simp only
  rw [DF x]
  simp only
  rw [AZ l]
end
theorem JD (c:Cd) (x:K) (sc:List (List ByteArray)):(hJ c x sc).2.nodes=c.nodes∧(hJ c x sc).2.tops=c.tops:=by
 have h:=AY c x sc c.nodes c.tops
 have e:c.with c.nodes c.tops=c:=rfl
 rw [e] at h
 have h2:=congrArg Prod.snd h
 simp only at h2
 rw [h2]
 exact⟨rfl,rfl⟩
noncomputable def tW (c:Cd) (x:K) (sc:List (List ByteArray)):Cd:=(yJ x c sc c.nodes.length).2.with (c.nodes++(yJ x c sc c.nodes.length).1) c.tops
noncomputable def iV (c:Cd) (x:K) (sc:List (List ByteArray)) (nd:Nd) (i:Nat):Cd:=(eP (x.l.take i) (hJ c x sc).2 (nK x sc) (c.nodes.length+1)).2.with (c.nodes++nd::(eP (x.l.take i) (hJ c x sc).2 (nK x sc) (c.nodes.length+1)).1) c.tops
theorem sI (c:Cd) (x:K) (sc:List (List ByteArray)) (nd:Nd) (i:Nat):(iV c x sc nd i).nodes.length=c.nodes.length+1+K.sizes (x.l.take i):=by
 simp only [iV,Cd.with,List.length_append,List.length_cons]
 rw [wR];omega
theorem LO (c:Cd) (x:K) (sc:List (List ByteArray)) (nd:Nd):iV c x sc nd 0=(hJ c x sc).2.with (c.nodes++[nd]) c.tops:=by
 simp only [iV,List.take_zero,eP]
theorem LP (c:Cd) (x:K) (sc:List (List ByteArray)) (nd:Nd) {i:Nat} (h:i<x.l.length):tW (iV c x sc nd i) x.l[i] (nK x sc)=iV c x sc nd (i+1):=by
 unfold tW
 rw [sI]
 conv=>rhs;unfold iV
 rw [List.take_succ_eq_append_getElem h,vJ,PI]
 unfold iV
 rw [DF]
 simp only [Cd.with,List.append_assoc,List.cons_append]
theorem PJ (c:Cd) (x:K) (sc:List (List ByteArray)) (nd:Nd):tW c x sc=(iV c x sc nd x.l.length).with ((iV c x sc nd x.l.length).nodes.set c.nodes.length ⟨(hJ c x sc).1.1,(hJ c x sc).1.2.1,(hJ c x sc).1.2.2,ats x.l (c.nodes.length+1)⟩) c.tops:=by
 unfold tW iV
 rw [sH,List.take_length]
 simp only [Cd.with]
 rw [List.set_append_right _ _ (Nat.le_refl _),Nat.sub_self,List.set_cons_zero]
theorem SF (c:Cd) (x:K) (sc:List (List ByteArray)):(tW c x sc).nodes.length=c.nodes.length+x.size:=by
 simp only [tW,Cd.with,List.length_append];rw [JC]
def Cd.most (c:Cd):Nat:=max c.consts.length (max c.globals.length c.prims.length)
theorem JE (l:List ByteArray) (s:ByteArray):(mB l s).length≤l.length+1:=by
 unfold mB;split<;>simp
theorem PK (c:Cd) (sc:List (List ByteArray)) (s:ByteArray) (lo gl:Int):(qR c sc s lo gl).2.most≤c.most+1:=by
 unfold qR
 split
 ·exact Nat.le_succ _
 ·have:=JE c.globals s
  simp only [Cd.most];omega
theorem tX (c:Cd) (x:K) (sc:List (List ByteArray)):(hJ c x sc).2.most≤c.most+1:=by
 have h1:=fun sc lo gl=>PK c sc x.name lo gl
 have h2:=JE c.prims x.name
 unfold hJ
 repeat' split
 all_goals first|exact h1 _ _ _|(simp only [Cd.most,List.length_append,List.length_cons,List.length_nil];omega)|exact Nat.le_succ _
mutual
theorem DG:∀(x:K) (c:Cd) (sc:List (List ByteArray)) (n:Nat),(yJ x c sc n).2.most≤c.most+x.size
 | .mk k name rest params d l,c,sc,n=>by
  rw [sH,K.size_eq]
  have h1:=tX c (.mk k name rest params d l) sc
  have h2:=tY l (hJ c (.mk k name rest params d l) sc).2 (nK (.mk k name rest params d l) sc) (n+1)
  show (eP l _ _ _).2.most≤c.most+(K.sizes l+1)
  omega
theorem tY:∀(l:List K) (c:Cd) (sc:List (List ByteArray)) (n:Nat),(eP l c sc n).2.most≤c.most+K.sizes l
 | [],c,sc,n=>by rw [eP,K.sizes];exact Nat.le_refl _
 | x::l,c,sc,n=>by
  rw [eP,K.sizes]
  have h1:=DG x c sc n
  have h2:=tY l (yJ x c sc n).2 sc (n+x.size)
  simp only
  omega
end
theorem DH (c:Cd) (N:List Nd) (T:List Int):(c.with N T).most=c.most:=rfl
theorem LQ (c:Cd) (x:K) (sc:List (List ByteArray)) (nd:Nd) (i:Nat):(iV c x sc nd i).most≤c.most+1+K.sizes (x.l.take i):=by
 unfold iV
 rw [DH]
 have h1:=tX c x sc
 have h2:=tY (x.l.take i) (hJ c x sc).2 (nK x sc) (c.nodes.length+1)
 omega
theorem PL (c:Cd) (x:K) (sc:List (List ByteArray)):(tW c x sc).most≤c.most+x.size:=by
 unfold tW
 rw [DH]
 exact DG _ _ _ _
mutual
def K.Pk:K→Prop
 | .mk k _ _ params d l=>(1≤k∧k≤10)∧params.length≤1000∧d.Ok∧l.length≤1000000000∧K.Pks l
def K.Pks:List K→Prop
 | []=>True
 | c::l=>c.Pk∧K.Pks l
end
theorem K.Pks.get:∀{l:List K},K.Pks l→∀i (h:i<l.length),l[i].Pk
 | c::l,h,0,_=>h.1
 | c::l,h,i+1,hi=>K.Pks.get (l:=l) h.2 i (by simpa using hi)
theorem K.Pk.get {c:K} (h:c.Pk) (i:Nat) (hi:i<c.l.length):c.l[i].Pk:=by cases c;exact h.2.2.2.2.get i hi
theorem K.Pk.kind {c:K} (h:c.Pk):1≤c.k∧c.k≤10:=by cases c;exact h.1
theorem K.Pk.par {c:K} (h:c.Pk):c.params.length≤1000:=by cases c;exact h.2.1
theorem K.Pk.d {c:K} (h:c.Pk):c.d.Ok:=by cases c;exact h.2.2.1
theorem K.Pk.len {c:K} (h:c.Pk):c.l.length≤1000000000:=by cases c;exact h.2.2.2.1
theorem SG (c:K):(nO c).length≤c.params.length+1:=by unfold nO;split<;>simp
end Go.Proofs.YtaeioidifpebdaaGreatDoor
end
section
namespace Go.Proofs.YtaeioidifpebdaaGreatDoor
open Go Go.RowKit Go.Lib
set_option linter.unusedSimpArgs false
set_option linter.unusedVariables false
set_option maxHeartbeats 4000000
set_option maxRecDepth 100000
theorem UK (p:Nat) (S:List (Option Ob)) (c:Cd) (x:K) (sc:List (List ByteArray)) {cN cC cG cP cT:C} (hI:CoderIn p S c cN cC cG cP cT) (hx:x.Pk) (hm:c.most≤1000000000) (hlen:sc.length≤1000000000) (hll:∀l∈sc,l.length≤1000000000):Fn Tryz.prog 68 [.one (.ptr p 1 0 0),.agg x.cc,.one (.sl 1 (scC sc))] S (rL p S cN cT (hJ c x sc)):=by
 have hk:=hx.kind
 have hd:=hx.d
 have h1:c.consts.length≤1000000000:=by unfold Cd.most at hm;omega
 have h2:c.globals.length≤1000000000:=by unfold Cd.most at hm;omega
 have h3:c.prims.length≤1000000000:=by unfold Cd.most at hm;omega
 obtain⟨k,name,rest,params,d,l⟩:=x
 simp only [K.k,K.d] at hk hd
 have:k=1∨k=2∨k=3∨k=4∨k=5∨k=6∨k=7∨k=8∨k=9∨k=10:=by omega
 rcases this with rfl|rfl|rfl|rfl|rfl|rfl|rfl|rfl|rfl|rfl
 ·exact XY p S c name rest params d l sc hI hd h1
 ·exact XV p S c name rest params d l sc hI h2 hlen hll
 ·exact XW p S c name rest params d l sc hI h2 hlen hll
 ·exact XU p S c name rest params d l sc hI h2
 ·exact XQ p S c name rest params d l sc hI
 ·exact XX p S c name rest params d l sc hI
 ·exact XR p S c name rest params d l sc hI
 ·exact XS p S c name rest params d l sc hI
 ·exact XT p S c name rest params d l sc hI
 ·exact WG p S c name rest params d l sc hI h3
theorem UL (a b:List (List ByteArray)):scC (a++b)=scC a++scC b:=by simp [scC]
theorem SH (l:List (List ByteArray)):∀e∈scC l,∀c∈e,C.shut c=true:=fun e he c hc=>by
 obtain⟨s,_,rfl⟩:=List.mem_map.1 he
 simp at hc;subst hc
 simp [C.shut]
theorem LR (f:Nat→Nat) (t:TypeId) (w:Nat) (l:List (List ByteArray)):Ob.ren f ⟨t,w,scC l⟩=⟨t,w,scC l⟩:=by simp [Ob.ren,scC,C.rens,C.ren]
theorem DI (l:List Int):∀e∈mL l,∀c∈e,C.shut c=true:=fun e he c hc=>by
 obtain⟨s,_,rfl⟩:=List.mem_map.1 he
 simp at hc;subst hc;rfl
theorem vK (l:List Int):(mL l).length=l.length:=by simp [mL]
theorem JF (a b:List Int):mL (a++b)=mL a++mL b:=by simp [mL]
def scX (sc:List (List ByteArray)):C:=if sc=[] then .v (.slice none 0 0) else .sl 1 (scC sc)
theorem WH (sc:List (List ByteArray)):ALe (.one (scX sc)) (.one (.sl 1 (scC sc))):=by
 unfold scX
 split
 ·rename_i h;subst h;exact ALe.nil
 ·exact ALe.refl _
theorem WpL.nilV {P:Program} {nt:Cf} {ops:Array Oper} {Q:St→Prop} {st:St} {rest:List Oper} {d:Option Tmp} {t ty t' e:TypeId} {x:Operand} {pos:String} {aft:Array Edge} (hd:mH nt d=true)
  (hx:rdA st.e x=some (.one (.v (.slice none 0 0)))) (ht:P.underlying t=some (.slice e)) (h:WpL P nt ops Q rest (st.put d (.one (.v (.bool true))))):WpL P nt ops Q (⟨d,.binOp .eql t x (.const (.slice none 0 0)) t',ty,pos,aft,none⟩::rest) st:=fun H w0 S0 m0 m a w hs Q' hQ=>by
 have h1:=hs.rd hx
 simp only [Ca,Cc] at h1
 have hu:=h1.1
 have hnext:=h H w0 S0 m0 m _ w (hs.put hd (caV rfl)) Q' hQ
 unfold wpList
 rw [if_pos (by rfl)]
 refine .inl ?_
 unfold Oper.wp
 have hrun:(execOp a.eval ⟨d,.binOp .eql t x (.const (.slice none 0 0)) t',ty,pos,aft,none⟩).run P w=.ok (.value (.bool true)) w:=by
  have e2:a.eval (.const (.slice none 0 0))=.slice none 0 0:=rfl
  simp only [execOp,hu,e2,Sem.run_bind,lL (P:=P) (w:=w) _ t x (.const (.slice none 0 0)) (.slice none 0 0) (.slice none 0 0) (by simp) (by simp),Result.andThen_ok,binOp,rI ht,Sem.run_pure,Option.isNone_none]
 rw [hrun]
 exact hnext
theorem SI:Fn Tryz.prog 69 [.one (.v (.slice none 0 0))] [] (fun r s=>r=.one (.v (.slice none 0 0))∧s=[]):=by
 refine Fn.introT Tryz.func69 rfl Tryz.ntmps69 Tryz.results69 (by simp only [List.length_cons,List.length_nil];decide) ?_
 repeat (first|(apply fw;focus ((with_reducible constructor)<;>constructor))|((first|with_reducible refine ga _ rfl fun Y y=>?_|apply ri);simp only [zb,seval,w69];refine RunTo.fn y (by first|(simp;done)|omega|(simp;omega)) ?_;clear y Y))
 refine WpL.nilV rfl rfl Tryz.underlying98 ?_
 (refine WpL.go _ rfl fun Y y=>?_);repeat (first|(apply fw;focus ((with_reducible constructor)<;>constructor))|((first|with_reducible refine ga _ rfl fun Y y=>?_|apply ri);simp only [zb,seval,w69];refine RunTo.fn y (by first|(simp;done)|omega|(simp;omega)) ?_;clear y Y))
 exact⟨.inl rfl,_,_,_,_,(by simp only [zb,seval];rfl),trivial,Le.refl _ _,rfl,rfl⟩
theorem UM (sc:List (List ByteArray)) (hne:sc≠[]) (hlen:sc.length≤1000000000):Fn Tryz.prog 69 [.one (.sl 1 (scC sc))] [] (fun r s=>r=.one (.ms 0 sc.length)∧s=[some ⟨22,1,scC sc⟩]):=by
 have hl:=sG sc
 refine Fn.introT Tryz.func69 rfl Tryz.ntmps69 Tryz.results69 (by simp only [List.length_cons,List.length_nil];decide) ?_
 repeat (first|(apply fw;focus ((with_reducible constructor)<;>constructor))|((first|with_reducible refine ga _ rfl fun Y y=>?_|apply ri);simp only [zb,seval,w69];refine RunTo.fn y (by first|(simp;done)|omega|(simp;omega)) ?_;clear y Y))
 refine WpL.nilSl rfl rfl Tryz.underlying98 fun b hb=>?_
 have hb':=hb (fun e=>hne (by simpa [scC] using e))
 subst hb'
 (refine WpL.go _ rfl fun Y y=>?_);repeat (first|(apply fw;focus ((with_reducible constructor)<;>constructor))|((first|with_reducible refine ga _ rfl fun Y y=>?_|apply ri);simp only [zb,seval,w69,hl];refine RunTo.fn y (by first|(simp;done)|omega|(simp;omega)) ?_;clear y Y))
 refine⟨.inl rfl,_,_,_,_,(by simp only [zb,seval];rfl),trivial,Le.refl _ _,?_,?_⟩
 ·simp [lY,hl]
 ·simp
theorem SJ (S:List (Option Ob)) (sc:List (List ByteArray)) (hlen:sc.length≤1000000000):∃S1 X',At 22 1 S1 X' (scC sc)∧S.length≤S1.length∧(∀(j:Nat) (o:Option Ob),S[j]?=some o→S1[j]?=some o)∧(∀j n,X'=.ms j n→S.length≤j) ∧
  ∀{nt:Cf} {ds:List (Option Tmp)} {d:Option Tmp} {ty:TypeId} {pos:String} {aft:Array Edge} {g:Option (Nat × Bool)} {e:List (Nat × A)} {x1:Operand} {tys:Array TypeId},dY ds e g=some true→rdA e x1=some (.one (scX sc)) →
   OpS Tryz.prog nt ds ⟨d,.call { callee:=.value (.func 69),args:=#[x1],argTypes:=tys },ty,pos,aft,g⟩ e S (.one X') S1:=by
 by_cases h:sc=[]
 ·subst h
  refine⟨S,.v (.slice none 0 0),At.nil _ _ _,Nat.le_refl _,fun _ _ h=>h,(fun j n e=>by cases e),?_⟩
  intro nt ds d ty pos aft g e x1 tys hg h1
  have:=OpS.hand (P:=Tryz.prog) (nt:=nt) (d:=d) (ty:=ty) (pos:=pos) (aft:=aft) (tys:=tys) (s:=S) (s1:=[]) (ρ:=[]) (fo:=.func 69) (args:=[x1]) (caps:=[]) (xs:=[.one (.v (.slice none 0 0))]) hg rfl (by simp only [iW,h1];rfl) (by kernel_rfl) rfl (Handed.of (by simp) rfl) SI
  have e1:back S [] []=S:=by simp [back,mix,fH]
  rw [e1] at this
  exact this
 ·refine⟨S++[some ⟨22,1,scC sc⟩],.ms S.length sc.length,.inr ⟨by simpa [scC] using h,S.length,by rw [sG],by simp⟩,by simp,fun j o h=>aM h,(fun j n e=>by cases e;exact Nat.le_refl _),?_⟩
  intro nt ds d ty pos aft g e x1 tys hg h1
  have hX:scX sc=.sl 1 (scC sc):=if_neg h
  rw [hX] at h1
  have:=OpS.hand (P:=Tryz.prog) (nt:=nt) (d:=d) (ty:=ty) (pos:=pos) (aft:=aft) (tys:=tys) (s:=S) (s1:=[]) (ρ:=[]) (fo:=.func 69) (args:=[x1]) (caps:=[]) (xs:=[.one (.sl 1 (scC sc))]) hg rfl (by simp only [iW,h1]) (by kernel_rfl) (by simp [A.rens,A.ren,C.ren]) (Handed.of (by simp) rfl) (UM sc h hlen)
  have e1:back S [] [some ⟨22,1,scC sc⟩]=S++[some ⟨22,1,scC sc⟩]:=by
   simp only [back,mix,fH,List.map_cons,List.map_nil,List.length_nil,List.drop_zero,Option.map_some,LR]
  have e2:A.ren (rn [] S.length) (.one (.ms 0 sc.length))=.one (.ms S.length sc.length):=by
   simp [A.ren,C.ren,rn]
  rw [e1,e2] at this
  exact this
theorem CoderIn.keep {p:Nat} {S S':List (Option Ob)} {c:Cd} {cN cC cG cP cT:C} (h:CoderIn p S c cN cC cG cP cT) (hs:∀(j:Nat) (ob:Ob),S[j]?=some (some ob)→(j=p∨(∃n,cN=.ms j n)∨(∃n,cC=.ms j n)∨(∃n,cG=.ms j n)∨(∃n,cP=.ms j n)∨(∃n,cT=.ms j n))→S'[j]?=some (some ob)):CoderIn p S' c cN cC cG cP cT :=
 ⟨hs p _ h.1 (.inl rfl),h.2.1.stay fun j hj e=>hs j _ hj (.inr (.inl ⟨_,e⟩)),h.2.2.1.stay fun j hj e=>hs j _ hj (.inr (.inr (.inl ⟨_,e⟩))),h.2.2.2.1.stay fun j hj e=>hs j _ hj (.inr (.inr (.inr (.inl ⟨_,e⟩)))),h.2.2.2.2.1.stay fun j hj e=>hs j _ hj (.inr (.inr (.inr (.inr (.inl ⟨_,e⟩))))),h.2.2.2.2.2.1.stay fun j hj e=>hs j _ hj (.inr (.inr (.inr (.inr (.inr ⟨_,e⟩))))),h.2.2.2.2.2.2⟩
theorem CoderIn.tys {p:Nat} {S:List (Option Ob)} {c:Cd} {cN cC cG cP cT:C} (h:CoderIn p S c cN cC cG cP cT) {j:Nat} {ob:Ob} (hj:S[j]?=some (some ob)) (hc:j=p∨(∃n,cN=.ms j n)∨(∃n,cC=.ms j n)∨(∃n,cG=.ms j n)∨(∃n,cP=.ms j n)∨(∃n,cT=.ms j n)):ob.ty=76∨ob.ty=72∨ob.ty=28∨ob.ty=9∨ob.ty=3:=by
 rcases hc with rfl|⟨n,e⟩|⟨n,e⟩|⟨n,e⟩|⟨n,e⟩|⟨n,e⟩
 ·have:=h.1;rw [hj] at this;cases this;exact .inl rfl
 ·have:=h.2.1.ty e;rw [hj] at this;cases this;exact .inr (.inl rfl)
 ·have:=h.2.2.1.ty e;rw [hj] at this;cases this;exact .inr (.inr (.inl rfl))
 ·have:=h.2.2.2.1.ty e;rw [hj] at this;cases this;exact .inr (.inr (.inr (.inl rfl)))
 ·have:=h.2.2.2.2.1.ty e;rw [hj] at this;cases this;exact .inr (.inr (.inr (.inl rfl)))
 ·have:=h.2.2.2.2.2.1.ty e;rw [hj] at this;cases this;exact .inr (.inr (.inr (.inr rfl)))
theorem CoderIn.newN {p:Nat} {S S1:List (Option Ob)} {c:Cd} {cN cC cG cP cT cN':C} {N':List Nd} (hI:CoderIn p S c cN cC cG cP cT) (hA:At 72 4 S1 cN' (N'.map Nd.row)) (hl:S.length≤S1.length) (hfr:∀(j:Nat) (o:Option Ob),S[j]?=some o→(∀n,cN≠.ms j n)→S1[j]?=some o) :
  CoderIn p (S1.set p (some ⟨76,5,[[cN',cC,cG,cP,cT]]⟩)) { c with nodes:=N' } cN' cC cG cP cT∧Frm p [72] S (S1.set p (some ⟨76,5,[[cN',cC,cG,cP,cT]]⟩)):=by
 have hpS:p<S.length:=(List.getElem?_eq_some_iff.1 hI.1).1
 have hP:=hI.2.1
 have g1:=hfr p _ hI.1 (hP.apart hI.1 (by show (76:Nat)≠_;decide))
 have stays:∀(j:Nat) (ob:Ob) (a:Option Ob),S[j]?=some (some ob)→j≠p→(∀n,cN≠.ms j n)→(S1.set p a)[j]?=some (some ob):=fun j ob a h1 h2 h3=>by
  rw [List.getElem?_set_ne (fun e=>h2 e.symm)]
  exact hfr j _ h1 h3
 have np:∀{j:Nat} {ob:Ob},S[j]?=some (some ob)→ob.ty≠76→j≠p:=fun h1 h2 e=>by subst e;rw [hI.1] at h1;cases h1;exact h2 rfl
 refine⟨⟨List.getElem?_set_self (by omega),hA.stay fun j hj _=>?_,hI.2.2.1.stay fun j hj _=>stays j _ _ hj (np hj (by show (28:Nat)≠_;decide)) (hP.apart hj (by show (28:Nat)≠_;decide)),hI.2.2.2.1.stay fun j hj e=>stays j _ _ hj (np hj (by show (9:Nat)≠_;decide)) (hP.apart hj (by show (9:Nat)≠_;decide)),hI.2.2.2.2.1.stay fun j hj e=>stays j _ _ hj (np hj (by show (9:Nat)≠_;decide)) (hP.apart hj (by show (9:Nat)≠_;decide)),hI.2.2.2.2.2.1.stay fun j hj _=>stays j _ _ hj (np hj (by show (3:Nat)≠_;decide)) (hP.apart hj (by show (3:Nat)≠_;decide)),hI.2.2.2.2.2.2⟩,by simp;omega,fun j ob h1 h2 h3=>stays j _ _ h1 h2 (hP.apart h1 (fun e=>h3 (by simp [e])))⟩
 have n2:p≠j:=fun e=>by subst e;rw [g1] at hj;cases hj
 rw [List.getElem?_set_ne n2];exact hj
def XZ (p:Nat) (S:List (Option Ob)) (c:Cd) (x:K) (sc:List (List ByteArray)) (cT:C) (r:A) (S':List (Option Ob)):Prop:=r=.one (.v (.int .i64 c.nodes.length))∧(∃cN' cC' cG' cP',CoderIn p S' (tW c x sc) cN' cC' cG' cP' cT)∧Frm p [9,28,72] S S'
def jQ (x:K):Ob:=⟨31,11,[[.v (.int .i64 x.k),.v (.string x.name),.v (.string x.rest),.sl 1 (aW x.params),.v (.int .i64 x.d.k),.v (.int .i32 x.d.c),.v (.bool x.d.neg),.sl 1 (x.d.mag.map fun n=>[.v (.int .u32 n)]),.v (.string x.d.t),.sl 6 (x.d.l.map D.cc),.sl 11 (x.l.map K.cc)]]⟩
theorem FzR.last {S:List (Option Ob)} {z:Nat→Bool} {a b:List C} (h:FzCs S z a b):∀l:List (List C),FzR S z (l++[a]) (l++[b])
 | []=>⟨h,trivial⟩
 | r::l=>⟨FzCs.same _ _ _,FzR.last h l⟩
def FC (n:Nat):Prop:=∀(x:K),x.ht≤n→x.Pk→∀(p:Nat) (S:List (Option Ob)) (c:Cd) (sc:List (List ByteArray)) (cN cC cG cP cT:C),CoderIn p S c cN cC cG cP cT→c.most+x.size≤1000000000→c.nodes.length+x.size≤1000000000→sc.length+x.ht≤1000000000→(∀l∈sc,l.length≤1000000000)→Fn Tryz.prog 49 [.one (.ptr p 1 0 0),.agg x.cc,.one (scX sc)] S (XZ p S c x sc cT)
def YP (p:Nat) (S:List (Option Ob)) (c:Cd) (x:K) (sc:List (List ByteArray)) (nd:Nd) (cT:C) (n:Nat) (st:St):Prop:=∃(i:Nat) (S':List (Option Ob)) (cN cC cG cP cL:C),n=x.l.length-i∧i≤x.l.length∧CoderIn p S' (iV c x sc nd i) cN cC cG cP cT∧At 3 1 S' cL (mL (ats (x.l.take i) (c.nodes.length+1)))∧(∀j k,cL=.ms j k→S.length≤j)∧S'[S.length]?=some (some (jQ x))∧Frm p [9,28,72] S S' ∧
 st=⟨[(46,.one (.v (.int .i64 i))),(45,.one (.v (.int .i64 x.l.length))),(44,.one (.sl 11 (x.l.map K.cc))),(9,.one cL),(0,.one (.ptr p 1 0 0)),(4,.one (.ptr S.length 1 0 0)),(2,.one (scX (nK x sc))),(7,.one (.v (.int .i64 c.nodes.length)))],S'⟩
theorem CoderIn.setN {p:Nat} {S:List (Option Ob)} {c:Cd} {cC cG cP cT:C} {jN m:Nat} {N':List Nd} (hI:CoderIn p S c (.ms jN m) cC cG cP cT) (hN:N'.length=c.nodes.length):CoderIn p (S.set jN (some ⟨72,4,N'.map Nd.row⟩)) { c with nodes:=N' } (.ms jN m) cC cG cP cT:=by
 have hty:=hI.2.1.ty (j:=jN) rfl
 have hp:jN≠p:=fun e=>by subst e;have:=hI.1;rw [hty] at this;cases this
 have hs:∀{t:TypeId},t≠72→∀ob,S[jN]?=some (some ob)→ob.ty≠t:=fun ht ob ho e=>by rw [hty] at ho;cases ho;exact ht e.symm
 refine⟨by rw [List.getElem?_set_ne hp];exact hI.1,?_,hI.2.2.1.set (hs (by decide)),hI.2.2.2.1.set (hs (by decide)),hI.2.2.2.2.1.set (hs (by decide)),hI.2.2.2.2.2.1.set (hs (by decide)),hI.2.2.2.2.2.2⟩
 rcases hI.2.1 with ⟨-,h⟩|⟨hne,j,h,hj⟩
 ·cases h
 ·simp only [List.length_map] at h
  cases h
  refine .inr ⟨fun e=>hne ?_,jN,by simp [hN],List.getElem?_set_self (List.getElem?_eq_some_iff.1 hty).1⟩
  have:N'=[]:=by simpa using e
  rw [this] at hN
  have:c.nodes=[]:=List.eq_nil_of_length_eq_zero hN.symm
  rw [this];rfl
theorem CoderIn.offL {p:Nat} {S:List (Option Ob)} {c:Cd} {cN cC cG cP cT cL:C} {rows:List (List C)} (h:CoderIn p S c cN cC cG cP cT) (hL:At 3 1 S cL rows) (hT:∀j n m,cT=.ms j n→cL≠.ms j m) {j:Nat} {ob:Ob} (hj:S[j]?=some (some ob)) (hc:j=p∨(∃n,cN=.ms j n)∨(∃n,cC=.ms j n)∨(∃n,cG=.ms j n)∨(∃n,cP=.ms j n)∨(∃n,cT=.ms j n)) (n:Nat):cL≠.ms j n:=fun e=>by
 have hl:=hL.ty e
 rcases hc with rfl|⟨n,e⟩|⟨n,e⟩|⟨n,e⟩|⟨n,e⟩|⟨n,e2⟩
 ·have:=h.1;rw [hl] at this;cases this
 ·have:=h.2.1.ty e;rw [hl] at this;cases this
 ·have:=h.2.2.1.ty e;rw [hl] at this;cases this
 ·have:=h.2.2.2.1.ty e;rw [hl] at this;cases this
 ·have:=h.2.2.2.2.1.ty e;rw [hl] at this;cases this
 ·exact hT j n _ e2 e
theorem SK (n:Nat) (ih:FC n):FC (n+1):=by
 intro x hh hx p S c sc cN cC cG cP cT hI hm hn hs hll
 have hsz:=x.size_pos
 have hXl:=WH sc
 have hnode:=fun T=>UK p (S++T) c x sc (hI.app T) hx (by omega) (by have:=x.ht_pos;omega) hll
 have hclone:=fun S=>SJ S sc (by have:=x.ht_pos;omega)
 have hall:=JB x (by have:=hx.par;omega)
 obtain⟨X,hX⟩:∃X,X=scX sc:=⟨_,rfl⟩
 rw [←hX] at hXl ⊢
 rw [←hX] at hclone
 have hNl:=hI.2.1.len
 rw [List.length_map] at hNl
 have hpS:p<S.length:=(List.getElem?_eq_some_iff.1 hI.1).1
 have hpp:∀T,(S++T)[p]?=some (some ⟨76,5,[[cN,cC,cG,cP,cT]]⟩):=fun T=>aM hI.1
 rw [K.cc_eq] at hnode hall ⊢
 refine Fn.introT Tryz.func49 rfl Tryz.ntmps49 Tryz.results49 (by simp only [List.length_cons,List.length_nil];decide) ?_
 repeat (first|(apply fw;focus ((with_reducible constructor)<;>constructor))|((first|with_reducible refine ga _ rfl fun Y y=>?_|apply ri);simp only [zb,seval,w49,bA,hpp,↓hNl];refine RunTo.fn y (by first|(simp;done)|omega|(simp;omega)) ?_;clear y Y))
 refine WpL.handAll rfl (aA (P:=Tryz.prog) rfl) rfl rfl (by kernel_rfl) (ALes.cons (ALe.refl _) (ALes.cons (ALe.refl _) (ALes.cons hXl (ALes.refl _)))) (hnode _) ?_
 rintro _ S1 ⟨rfl,⟨cC1,cG1,cP1,hI1⟩,hF1⟩
 obtain⟨hkN,hkT⟩:=JD c x sc
 have hnm:=tX c x sc
 generalize hnd:hJ c x sc=t at *
 obtain⟨⟨o,a,b⟩,c1⟩:=t
 simp only at hkN hkT hnm
 simp only [DE]
 have hl1:S.length<S1.length:=by have:=hF1.1;simp at this;omega
 have hc1:S1[S.length]?=some (some (jQ x)):=hF1.2 _ _ (bA _ _ _) (by omega) (by show (31:Nat)∉_;decide)
 have hgl:∀z:Option Ob,(S1++[z])[S1.length]?=some z:=fun z=>by simp
 have hset:∀z y:Option Ob,(S1++[z]).set S1.length y=S1++[y]:=fun z y=>by simp
 (refine WpL.go _ rfl fun Y y=>?_);repeat (first|(apply fw;focus ((with_reducible constructor)<;>constructor))|((first|with_reducible refine ga _ rfl fun Y y=>?_|apply ri);simp only [zb,seval,w49,hgl,hset];refine RunTo.fn y (by first|(simp;done)|omega|(simp;omega)) ?_;clear y Y))
 obtain⟨S2,hS2⟩:∃S2:List (Option Ob),S2=S1++[some ⟨72,4,[[.v (.int .i64 o),.v (.int .i64 a),.v (.int .i64 b),.v (.slice none 0 0)]]⟩]:=⟨_,rfl⟩
 have hI2:CoderIn p S2 c1 cN cC1 cG1 cP1 cT:=by rw [hS2];exact hI1.app _
 have hl2:S2.length=S1.length+1:=by rw [hS2];simp
 have a2:S2[S.length]?=some (some (jQ x)):=by rw [hS2];exact aM hc1
 have a3:S2[S1.length]?=some (some ⟨72,4,[[.v (.int .i64 o),.v (.int .i64 a),.v (.int .i64 b),.v (.slice none 0 0)]]⟩):=by rw [hS2];exact hgl _
 have hF2:Frm p [9,28] S S2:=by
  refine⟨by omega,fun j ob h1 h2 h3=>?_⟩
  rw [hS2]
  exact aM (hF1.2 j ob (aM h1) h2 h3)
 rw [←hS2]
 have a1:=hI2.1
 obtain⟨S3,hS3⟩:∃S3:List (Option Ob),S3=S2++[some ⟨72,4,[[.v (.int .i64 o),.v (.int .i64 a),.v (.int .i64 b),.v (.slice none 0 0)]]⟩]:=⟨_,rfl⟩
 have u3:∀{j:Nat} {z:Option Ob},S2[j]?=some z→S3[j]?=some z:=fun h=>by rw [hS3];exact aM h
 have hI3:CoderIn p S3 c1 cN cC1 cG1 cP1 cT:=by rw [hS3];exact hI2.app _
 have b3:S3[S2.length]?=some (some ⟨72,4,[[.v (.int .i64 o),.v (.int .i64 a),.v (.int .i64 b),.v (.slice none 0 0)]]⟩):=by rw [hS3];simp
 have hl3:S3.length=S2.length+1:=by rw [hS3];simp
 obtain⟨S4,j,hA4,hj4,hl4,hfr4,hpl4,hop⟩:=dJ (P:=Tryz.prog) (T:=52) (by_:=48) zZ AA AB (by omega) hI3.2.1 b3 (by simp) (fun n e=>by have:=hI2.2.1.lt e;omega) (by simp;rw [hkN];omega) (by simp;rw [hkN];omega)
 simp only [List.length_map,List.length_cons,List.length_nil,Nat.zero_add,hkN] at hA4 hop hpl4 hj4
 have hap:∀{i:Nat} {ob:Ob},S3[i]?=some (some ob)→ob.ty≠72→∀n,cN≠.ms i n:=fun hj ht=>hI3.2.1.apart hj ht
 have d1:=hfr4 _ _ (u3 a1) (hap (u3 a1) (by show (76:Nat)≠_;decide))
 have d2:=hfr4 _ _ (u3 a2) (hap (u3 a2) (by show (31:Nat)≠_;decide))
 have d3:=hfr4 _ _ (u3 a3) (fun n e=>by have:=hI1.2.1.lt e;omega)
 have hlj:j<S4.length:=(List.getElem?_eq_some_iff.1 hj4).1
 obtain⟨c9,hc9⟩:∃c9:List (Option Ob),c9=pts [(p,⟨76,5,[[cN,cC1,cG1,cP1,cT]]⟩),(S1.length,⟨72,4,[[.v (.int .i64 o),.v (.int .i64 a),.v (.int .i64 b),.v (.slice none 0 0)]]⟩)]:=⟨_,rfl⟩
 have q1:c9[p]?=some (some ⟨76,5,[[cN,cC1,cG1,cP1,cT]]⟩):=by rw [hc9];exact lE (q:=(p,_)) (by simp)
 have q2:c9[S1.length]?=some (some ⟨72,4,[[.v (.int .i64 o),.v (.int .i64 a),.v (.int .i64 b),.v (.slice none 0 0)]]⟩):=by rw [hc9];exact lE (q:=(S1.length,_)) (by rw [List.find?_cons_of_neg (by simp;omega)];simp)
 have hle:∀s∈[S2,S3,S4],LeS c9 s:=by
  rw [hc9]
  intro s hs
  refine LeS.pts ?_
  simp only [List.mem_cons,List.not_mem_nil,or_false,forall_eq_or_imp,forall_eq] at hs ⊢
  rcases hs with rfl|rfl|rfl
  ·exact⟨⟨_,a1,rfl,rfl,FzR.same _ _ _⟩,⟨_,a3,rfl,rfl,FzR.same _ _ _⟩⟩
  ·exact⟨⟨_,u3 a1,rfl,rfl,FzR.same _ _ _⟩,⟨_,u3 a3,rfl,rfl,FzR.same _ _ _⟩⟩
  ·exact⟨⟨_,d1,rfl,rfl,FzR.same _ _ _⟩,⟨_,d3,rfl,rfl,FzR.same _ _ _⟩⟩
 have hrow:(c1.nodes.map Nd.row)=c.nodes.map Nd.row:=by rw [hkN]
 subst hS3
 skip
 skip
 (refine WpA.draw1 12 [7,8] c9 [S2,S2++[some ⟨72,4,[[.v (.int .i64 o),.v (.int .i64 a),.v (.int .i64 b),.v (.slice none 0 0)]]⟩],S4] _ _ _ _ rfl rfl rfl (by kernel_rfl) (by kernel_rfl) (by kernel_rfl) (by kernel_rfl) rfl rfl rfl rfl (by decide) fun K8 hK8=>?_)
 simp only [zz] at hK8 ⊢
 (refine Draw1.go fun K7 hK7=>?_);simp only [zb,seval,w49,q1,q2];(refine RunQ.mk (by first|(simp;done)|omega|(simp;omega)) (hK7 _ _ (by rfl) ?_));clear hK7 K7;(simp only [zz,Nat.reduceAdd,Nat.reduceSub]);(try ((refine Draw1.nil hle (hK8 _ ?_));clear hK8 K8;(refine WpL.go _ rfl fun Y y=>?_);repeat (first|(apply fw;focus ((with_reducible constructor)<;>constructor))|((first|with_reducible refine ga _ rfl fun Y y=>?_|apply ri);simp only [zb,seval,w49,q1,q2];refine RunTo.fn y (by first|(simp;done)|omega|(simp;omega)) ?_;clear y Y))))
 refine Draw1.eff 0 rfl rfl rfl (OpS.eff [(28,_)] rfl (by rfl) ⟨rfl,trivial⟩ (by simp only [zb,seval,w49];rfl) (by first|(simp;done)|omega|(simp;omega))) ?_;(try simp only [bF]);(try ((refine Draw1.go fun K7 hK7=>?_);simp only [zb,seval,w49];(refine RunQ.mk (by first|(simp;done)|omega|(simp;omega)) (hK7 _ _ (by rfl) ?_));clear hK7 K7;(simp only [zz,Nat.reduceAdd,Nat.reduceSub]);(try ((refine Draw1.nil hle (hK8 _ ?_));clear hK8 K8;(refine WpL.go _ rfl fun Y y=>?_);repeat (first|(apply fw;focus ((with_reducible constructor)<;>constructor))|((first|with_reducible refine ga _ rfl fun Y y=>?_|apply ri);simp only [zb,seval,w49];refine RunTo.fn y (by first|(simp;done)|omega|(simp;omega)) ?_;clear y Y))))))
 refine Draw1.eff 1 rfl rfl rfl (OpS.aop [(27,_),(29,_)] rfl (by rfl) ⟨rfl,rfl,trivial⟩ (hop _ _ _ rfl rfl)) ?_
 simp only [bF]
 (refine Draw1.go fun K7 hK7=>?_);simp only [zb,seval,w49,q1,q2,d1];(refine RunQ.mk (by first|(simp;done)|omega|(simp;omega)) (hK7 _ _ (by rfl) ?_));clear hK7 K7;(simp only [zz,Nat.reduceAdd,Nat.reduceSub]);(try ((refine Draw1.nil hle (hK8 _ ?_));clear hK8 K8;(refine WpL.go _ rfl fun Y y=>?_);repeat (first|(apply fw;focus ((with_reducible constructor)<;>constructor))|((first|with_reducible refine ga _ rfl fun Y y=>?_|apply ri);simp only [zb,seval,w49,q1,q2,d1];refine RunTo.fn y (by first|(simp;done)|omega|(simp;omega)) ?_;clear y Y))))
 obtain⟨nd,hndd⟩:∃nd:Nd,nd=⟨o,a,b,[]⟩:=⟨_,rfl⟩
 have hrowN:(c.nodes++[nd]).map Nd.row=c.nodes.map Nd.row++[[.v (.int .i64 o),.v (.int .i64 a),.v (.int .i64 b),.sl 1 []]]:=by rw [hndd];simp [Nd.row,mL]
 have hjp:j≠p:=fun e=>by subst e;rw [hj4] at d1;cases d1
 have hjS:j≠S.length:=fun e=>by subst e;rw [hj4] at d2;cases d2
 obtain⟨S5,hS5⟩:∃S5:List (Option Ob),S5=(S4.set j (some ⟨72,4,(c.nodes++[nd]).map Nd.row⟩)).set p (some ⟨76,5,[[.ms j (c.nodes.length+1),cC1,cG1,cP1,cT]]⟩):=⟨_,rfl⟩
 have hA5:At 72 4 (S4.set j (some ⟨72,4,(c.nodes++[nd]).map Nd.row⟩)) (.ms j (c.nodes.length+1)) ((c.nodes++[nd]).map Nd.row):=.inr ⟨by simp,j,by simp,List.getElem?_set_self hlj⟩
 have hR5:=hI2.newN hA5 (by simp;omega) (fun i z hi hn=>by
  have:j≠i:=fun e=>by
   subst e
   rcases hpl4 with h|h
   ·exact hn _ h
   ·have:=(List.getElem?_eq_some_iff.1 hi).1;simp at h;omega
  rw [List.getElem?_set_ne this]
  exact hfr4 i z (u3 hi) hn)
 rw [←hS5] at hR5
 obtain⟨hI5,hF25⟩:=hR5
 have e2:S5[S.length]?=some (some (jQ x)):=hF25.2 _ _ a2 (by omega) (by show (31:Nat)∉_;decide)
 have hF5:Frm p [9,28,72] S S5:=(hF2.mono (fun t ht=>by simp at ht ⊢;rcases ht with h|h<;>simp [h])).trans (hF25.mono (fun t ht=>by simp at ht ⊢;simp [ht]))
 have hc2:({ c1 with nodes:=c.nodes++[nd] }:Cd)=iV c x sc nd 0:=by rw [LO,hnd];simp only [Cd.with,←hkT]
 rw [hc2] at hI5
 refine WpA.le (st':=⟨[(7,.one (.v (.int .i64 c.nodes.length))),(4,.one (.ptr S.length 1 0 0)),(0,.one (.ptr p 1 0 0)),(2,.one X)],S5⟩) ?_ ?_
 ·have hfz:(S4.set p (some ⟨76,5,[[.ms j (c.nodes.length+1),cC1,cG1,cP1,cT]]⟩)).set j (some ⟨72,4,(c.nodes++[nd]).map Nd.row⟩)=S5:=by rw [hS5];exact List.set_comm _ _ (Ne.symm hjp)
  rw [←hfz]
  refine Le.freeze (fun _=>false) (Frz.less ((List.getElem?_set_ne (Ne.symm hjp)).trans hj4) rfl rfl ?_) ?_
  ·rw [hrowN]
   exact FzR.last (by simp only [FzCs];exact⟨FzC.same _ _ _,FzC.same _ _ _,FzC.same _ _ _,FzC.nil,trivial⟩) _
  ·simp only [SubZ]
   exact⟨⟨_,rfl,FzA.same _ _ _⟩,⟨_,rfl,FzA.same _ _ _⟩,⟨_,rfl,FzA.same _ _ _⟩,⟨_,rfl,FzA.same _ _ _⟩,trivial⟩
 clear hS5 hA5 hF25 hc2 hrowN hop hle q1 q2 hc9 c9 d1 d2 d3 hap hfr4 hpl4 hj4 hlj hA4 b3 u3 hI3 hl3 hF2 a1 a2 a3 hl2 hI2 hS2 hset hgl hc1 hI1 hF1 hrow hjp hjS hnode hpp hNl
 have e2':=e2
 simp only [jQ] at e2
 have hS5l:S.length<S5.length:=(List.getElem?_eq_some_iff.1 e2').1
 by_cases hk:x.k=6
 case' pos =>
  have hkk:(x.k == 6)=true:=by simp [hk]
  have hsi:nK x sc=sc++[nO x]:=if_pos hk
  have hrw:scC sc++[[.sl 1 (aW (nO x))]]=scC (nK x sc):=by rw [hsi,UL];rfl
  obtain⟨T1,X1,hA1,hl1,hf1,hp1,hop1⟩:=hclone S5
  obtain⟨T3,hT3⟩:∃T3:List (Option Ob),T3=T1++[some ⟨22,1,[[.sl 1 (aW (nO x))]]⟩]:=⟨_,rfl⟩
  have u3:∀{j:Nat} {z:Option Ob},T1[j]?=some z→T3[j]?=some z:=fun h=>by rw [hT3];exact aM h
  have b3:T3[T1.length]?=some (some ⟨22,1,[[.sl 1 (aW (nO x))]]⟩):=by rw [hT3];simp
  have hA3:At 22 1 T3 X1 (scC sc):=by rw [hT3];exact hA1.app _
  have hl3:T3.length=T1.length+1:=by rw [hT3];simp
  obtain⟨T2,j2,hA2,hj2,hl2,hfr2,hpl2,hop2⟩:=dJ (P:=Tryz.prog) (T:=98) (by_:=24) tH tJ tL (by omega) hA3 b3 (by simp) (fun n e=>by have:=hA1.lt e;omega) (by rw [sG];simp;omega) (by rw [sG];simp;omega)
  rw [hrw] at hA2 hj2
  simp only [sG,List.length_cons,List.length_nil,Nat.zero_add] at hA2 hop2 hpl2
  have hX1:∀i,i<S5.length→∀n,X1≠.ms i n:=fun i hi n e=>by have:=hp1 _ _ e;omega
  have c1':=hf1 _ _ e2'
  have c2':=hfr2 _ _ (u3 c1') (hX1 _ hS5l)
  obtain⟨c9,hc9⟩:∃c9:List (Option Ob),c9=pts [(S.length,jQ x)]:=⟨_,rfl⟩
  have q1:c9[S.length]?=some (some (jQ x)):=by rw [hc9];exact lE (q:=(S.length,jQ x)) (by simp)
  have hle:∀s∈[S5,T1,T1,T3,T2],LeS c9 s:=by
   rw [hc9]
   intro s hs
   refine LeS.pts ?_
   simp only [List.mem_cons,List.not_mem_nil,or_false,forall_eq_or_imp,forall_eq] at hs ⊢
   rcases hs with rfl|rfl|rfl|rfl|rfl
   ·exact⟨_,e2',rfl,rfl,FzR.same _ _ _⟩
   ·exact⟨_,c1',rfl,rfl,FzR.same _ _ _⟩
   ·exact⟨_,c1',rfl,rfl,FzR.same _ _ _⟩
   ·exact⟨_,u3 c1',rfl,rfl,FzR.same _ _ _⟩
   ·exact⟨_,c2',rfl,rfl,FzR.same _ _ _⟩
  have c2:=c2'
  simp only [jQ] at q1 c2
  repeat (first|(apply fw;focus ((with_reducible constructor)<;>constructor))|((first|with_reducible refine ga _ rfl fun Y y=>?_|apply ri);simp only [zb,seval,w49,e2,hkk];refine RunTo.fn y (by first|(simp;done)|omega|(simp;omega)) ?_;clear y Y))
  skip
  skip
  (refine WpA.draw1 6 [1,3,4,5] c9 [S5,T1,T1,T3,T2] _ _ _ _ rfl rfl rfl (by kernel_rfl) (by kernel_rfl) (by kernel_rfl) (by kernel_rfl) rfl rfl rfl rfl (by decide) fun K8 hK8=>?_)
  simp only [zz] at hK8 ⊢
  (refine Draw1.go fun K7 hK7=>?_);simp only [zb,seval,w49,q1];(refine RunQ.mk (by first|(simp;done)|omega|(simp;omega)) (hK7 _ _ (by rfl) ?_));clear hK7 K7;(simp only [zz,Nat.reduceAdd,Nat.reduceSub]);(try ((refine Draw1.nil hle (hK8 _ ?_));clear hK8 K8;(refine WpL.go _ rfl fun Y y=>?_);repeat (first|(apply fw;focus ((with_reducible constructor)<;>constructor))|((first|with_reducible refine ga _ rfl fun Y y=>?_|apply ri);simp only [zb,seval,w49,q1];refine RunTo.fn y (by first|(simp;done)|omega|(simp;omega)) ?_;clear y Y))))
  refine Draw1.eff 0 rfl rfl rfl (hop1 rfl rfl) ?_
  simp only [bF]
  (refine Draw1.go fun K7 hK7=>?_);simp only [zb,seval,w49,q1];(refine RunQ.mk (by first|(simp;done)|omega|(simp;omega)) (hK7 _ _ (by rfl) ?_));clear hK7 K7;(simp only [zz,Nat.reduceAdd,Nat.reduceSub]);(try ((refine Draw1.nil hle (hK8 _ ?_));clear hK8 K8;(refine WpL.go _ rfl fun Y y=>?_);repeat (first|(apply fw;focus ((with_reducible constructor)<;>constructor))|((first|with_reducible refine ga _ rfl fun Y y=>?_|apply ri);simp only [zb,seval,w49,q1];refine RunTo.fn y (by first|(simp;done)|omega|(simp;omega)) ?_;clear y Y))))
  refine Draw1.eff 1 rfl rfl rfl (OpS.shut rfl rfl rfl (by kernel_rfl) (ALes.refl _) (by first|rfl|(simp [dP,A.shut,C.shut];done)) hall) ?_
  simp only [bF]
  refine Draw1.eff 2 rfl rfl rfl (OpS.eff [(40,_)] rfl (by rfl) ⟨rfl,trivial⟩ (by simp only [zb,seval,w49];rw [hT3]) (by simp)) ?_
  simp only [bF]
  refine Draw1.eff 3 rfl rfl rfl (OpS.aop [(38,_),(41,_)] rfl (by rfl) ⟨rfl,rfl,trivial⟩ (hop2 _ _ _ rfl rfl)) ?_
  simp only [bF]
  (refine Draw1.go fun K7 hK7=>?_);simp only [zb,seval,w49,c2];(refine RunQ.mk (by first|(simp;done)|omega|(simp;omega)) (hK7 _ _ (by rfl) ?_));clear hK7 K7;(simp only [zz,Nat.reduceAdd,Nat.reduceSub]);(try ((refine Draw1.nil hle (hK8 _ ?_));clear hK8 K8;(refine WpL.go _ rfl fun Y y=>?_);repeat (first|(apply fw;focus ((with_reducible constructor)<;>constructor))|((first|with_reducible refine ga _ rfl fun Y y=>?_|apply ri);simp only [zb,seval,w49,c2];refine RunTo.fn y (by first|(simp;done)|omega|(simp;omega)) ?_;clear y Y))))
  obtain⟨S6,z,hz1,hz2,hz3,hz4⟩:=hA2.freeze (SH _)
  have stays:∀(i:Nat) (o:Option Ob),S5[i]?=some o→S6[i]?=some o:=fun i o hi=>by
   have hi5:=(List.getElem?_eq_some_iff.1 hi).1
   refine hz4 i o (hfr2 i o (u3 (hf1 i o hi)) (hX1 i hi5)) fun n e=>?_
   cases e
   rcases hpl2 with h|h
   ·exact hX1 _ hi5 _ h
   ·omega
  have hI6:=hI5.keep (fun j ob hj _=>stays j _ hj)
  have e6:=stays _ _ e2'
  have hF6:Frm p [9,28,72] S S6:=hF5.trans ⟨by omega,fun j ob h1 _ _=>stays j _ h1⟩
  refine WpA.le (st':=⟨[(46,.one (.v (.int .i64 (0:Nat)))),(45,.one (.v (.int .i64 x.l.length))),(44,.one (.sl 11 (x.l.map K.cc))),(9,.one (.v (.slice none 0 0))),(0,.one (.ptr p 1 0 0)),(4,.one (.ptr S.length 1 0 0)),(2,.one (scX (nK x sc))),(7,.one (.v (.int .i64 c.nodes.length)))],S6⟩) ?_ ?_
  ·refine Le.freeze z hz1 ?_
   have hXs:scX (nK x sc)=.sl 1 (scC (nK x sc)):=by unfold scX;rw [if_neg (by rw [hsi];simp)]
   simp only [SubZ]
   refine⟨⟨_,rfl,FzA.same _ _ _⟩,⟨_,rfl,FzA.same _ _ _⟩,⟨_,rfl,FzA.same _ _ _⟩,⟨_,rfl,FzA.same _ _ _⟩,⟨_,rfl,FzA.same _ _ _⟩,⟨_,rfl,FzA.same _ _ _⟩,⟨_,rfl,?_⟩,⟨_,rfl,FzA.same _ _ _⟩,trivial⟩
   rw [hXs]
   simp only [FzA]
   exact hz2
  clear hop1 hop2 hle q1 hc9 c9 c1' c2' c2 hA1 hf1 hp1 hA3 b3 u3 hT3 hA2 hj2 hfr2 hpl2 hX1 hz1 hz2 hz4 stays
 case' neg =>
  have hkk:(x.k == 6)=false:=by simp [hk]
  have hsi:nK x sc=sc:=if_neg hk
  repeat (first|(apply fw;focus ((with_reducible constructor)<;>constructor))|((first|with_reducible refine ga _ rfl fun Y y=>?_|apply ri);simp only [zb,seval,w49,e2,hkk];refine RunTo.fn y (by first|(simp;done)|omega|(simp;omega)) ?_;clear y Y))
  obtain⟨S6,hS6⟩:∃S6,S6=S5:=⟨_,rfl⟩
  have hI6:CoderIn p S6 (iV c x sc nd 0) (.ms j (c.nodes.length+1)) cC1 cG1 cP1 cT:=by rw [hS6];exact hI5
  have e6:S6[S.length]?=some (some (jQ x)):=by rw [hS6];exact e2'
  have hF6:Frm p [9,28,72] S S6:=by rw [hS6];exact hF5
  refine WpA.le (st':=⟨[(46,.one (.v (.int .i64 (0:Nat)))),(45,.one (.v (.int .i64 x.l.length))),(44,.one (.sl 11 (x.l.map K.cc))),(9,.one (.v (.slice none 0 0))),(0,.one (.ptr p 1 0 0)),(4,.one (.ptr S.length 1 0 0)),(2,.one (scX (nK x sc))),(7,.one (.v (.int .i64 c.nodes.length)))],S6⟩) (by rw [hS6,hsi,←hX];exact Le.sub (by simp [Sub,find])) ?_
  clear hS6
 all_goals
  clear e2 e2' hI5 hF5 hclone hXl hall hkk hsi hS5l
  refine WpA.loop (YP p S c x sc nd cT) x.l.length (Le.refl _ _) ⟨0,S6,_,_,_,_,_,rfl,Nat.zero_le _,hI6,At.nil _ _ _,(fun j k e=>by cases e),e6,hF6,rfl⟩ ?_
  clear hI6 e6 hF6
  intro n' st hst
  obtain⟨i,S',cN',cC',cG',cP',cL,rfl,hi,hI',hL',hLS,hcr,hF',rfl⟩:=hst
  have hw2:IntKind.i64.wrap ((i:Int)+1)=((i+1:Nat):Int):=by rw [dQ (by have:=hx.len;omega) (by have:=hx.len;omega)];omega
  have hse:=x.size_eq
  by_cases hlt:i<x.l.length
  ·have hd1:decide ((i:Int)<(x.l.length:Int))=true:=by simp;omega
   have hget:=LC hlt
   have hgl:∀z:Option Ob,(S'++[z])[S'.length]?=some z:=fun z=>by simp
   have hset:∀z y:Option Ob,(S'++[z]).set S'.length y=S'++[y]:=fun z y=>by simp
   have hht:=K.ht_lt hlt
   have htl:=K.sizes_take_lt hlt
   have hsl:(nK x sc).length+x.l[i].ht≤1000000000:=by
    unfold nK
    split
    ·simp;omega
    ·omega
   have hsll:∀l∈nK x sc,l.length≤1000000000:=by
    by_cases h6:x.k=6
    ·rw [nK,if_pos h6]
     intro l hl
     rcases List.mem_append.1 hl with h|h
     ·exact hll l h
     ·obtain rfl:l=nO x:=by simpa using h
      have:=SG x;have:=hx.par;omega
    ·rw [nK,if_neg h6];exact hll
   have hput:=ih x.l[i] (by omega) (hx.get i hlt) p (S'++[some (jQ x.l[i])]) _ (nK x sc) _ _ _ _ _ (hI'.app _) (by have:=LQ c x sc nd i;omega) (by rw [sI];omega) hsl hsll
   rw [K.cc_eq] at hget hput
   simp only [jQ] at hput
   repeat (first|(apply fw;focus ((with_reducible constructor)<;>constructor))|((first|with_reducible refine ga _ rfl fun Y y=>?_|apply ri);simp only [zb,seval,w49,hd1,hget,hgl,hset];refine RunTo.fn y (by first|(simp;done)|omega|(simp;omega)) ?_;clear y Y))
   refine WpL.handAll rfl (aA (P:=Tryz.prog) rfl) rfl rfl (by kernel_rfl) (ALes.refl _) hput ?_
   rintro _ S7 ⟨rfl,⟨cN7,cC7,cG7,cP7,hI7⟩,hF7⟩
   rw [LP c x sc nd hlt] at hI7
   simp only [sI]
   have hL7:At 3 1 S7 cL (mL (ats (x.l.take i) (c.nodes.length+1))):=hL'.stay fun j hj e=>hF7.2 j _ (aM hj) (fun e2=>by subst e2;have:=hLS _ _ e;omega) (by show (3:Nat)∉_;decide)
   have hcr7:S7[S.length]?=some (some (jQ x)):=hF7.2 _ _ (aM hcr) (by omega) (by show (31:Nat)∉_;decide)
   have hl7:=hF7.1
   simp only [List.length_append,List.length_cons,List.length_nil] at hl7
   obtain⟨S8,jL,hA8,hj8,hl8,hfr8,hpl8,hop8⟩:=dJ (P:=Tryz.prog) (T:=53) (by_:=8) oI oJ oK (by omega) (S:=S7++[some ⟨3,1,[[.v (.int .i64 ((c.nodes.length+1+K.sizes (x.l.take i):Nat):Int))]]⟩]) (hL7.app _) (q:=S7.length) (new:=[[.v (.int .i64 ((c.nodes.length+1+K.sizes (x.l.take i):Nat):Int))]]) (by simp) (by simp) (fun n e=>by have:=hL7.lt e;omega) (by have:=hx.len;rw [vK,FB,List.length_take];simp;omega) (by have:=hx.len;rw [vK,FB,List.length_take];simp;omega)
   have hrL:mL (ats (x.l.take i) (c.nodes.length+1))++[[.v (.int .i64 ((c.nodes.length+1+K.sizes (x.l.take i):Nat):Int))]]=mL (ats (x.l.take (i+1)) (c.nodes.length+1)):=by rw [SE hlt,JF];rfl
   rw [hrL] at hA8
   simp only [List.length_cons,List.length_nil,Nat.zero_add] at hop8
   have hpS:∀{j:Nat},j<S.length→∀n,cL≠.ms j n:=fun hj n e=>by have:=hLS _ _ e;omega
   have hlx:=hx.len
   (try simp only [St.put]);(refine WpL.op rfl (aA (P:=Tryz.prog) rfl) (aE (by simp only [zb,seval,w49];rfl) (by first|(simp;done)|omega|(simp;omega))) ?_);simp only [St.put]
   refine WpL.aop rfl (hop8 _ _ _ rfl rfl) ?_
   simp only [St.put]
   (refine WpL.go _ rfl fun Y y=>?_);repeat (first|(apply fw;focus ((with_reducible constructor)<;>constructor))|((first|with_reducible refine ga _ rfl fun Y y=>?_|apply ri);simp only [zb,seval,w49,hw2];refine RunTo.fn y (by first|(simp;done)|omega|(simp;omega)) ?_;clear y Y))
   have hT7:∀j n m,cT=.ms j n→cL≠.ms j m:=fun j n m e e'=>by have h1:=hI.2.2.2.2.2.1.lt e;have h2:=hLS _ _ e';omega
   refine⟨x.l.length-(i+1),_,by omega,Le.sub (by simp [Sub,find]),i+1,S8,cN7,cC7,cG7,cP7,.ms jL ((mL (ats (x.l.take i) (c.nodes.length+1))).length+1),rfl,hlt,hI7.keep (fun j ob hj hc=>hfr8 j _ (aM hj) (hI7.offL hL7 hT7 hj hc)),hA8,fun j k e=>?_,hfr8 _ _ (aM hcr7) (fun n e=>by have:=hL7.ty e;rw [hcr7] at this;cases this),⟨?_,fun j ob h1 h2 h3=>?_⟩,rfl⟩
   ·cases e
    rcases hpl8 with h|h
    ·exact hLS _ _ h
    ·simp at h;have:=hF'.1;omega
   ·simp at hl8;have:=hF'.1;omega
   ·have hj:=(List.getElem?_eq_some_iff.1 h1).1
    exact hfr8 j _ (aM (hF7.2 j ob (aM (hF'.2 j ob h1 h2 h3)) h2 h3)) (hpS hj)
  ·have hd0:decide ((i:Int)<(x.l.length:Int))=false:=by simp;omega
   have hii:i=x.l.length:=by omega
   subst hii
   have hT7:∀j n m,cT=.ms j n→cL≠.ms j m:=fun j n m e e'=>by have h1:=hI.2.2.2.2.2.1.lt e;have h2:=hLS _ _ e';omega
   obtain⟨S8,z,hz1,hz2,hz3,hz4⟩:=hL'.freeze (DI _)
   have hI8:CoderIn p S8 (iV c x sc nd x.l.length) cN' cC' cG' cP' cT:=hI'.keep (fun j ob hj hc=>hz4 j _ hj (hI'.offL hL' hT7 hj hc))
   have hF8:Frm p [9,28,72] S S8:=⟨by have:=hF'.1;omega,fun j ob h1 h2 h3=>hz4 j _ (hF'.2 j ob h1 h2 h3) fun n e=>by have:=hLS _ _ e;have:=(List.getElem?_eq_some_iff.1 h1).1;omega⟩
   refine WpA.le (st':=⟨[(46,.one (.v (.int .i64 x.l.length))),(45,.one (.v (.int .i64 x.l.length))),(9,.one (.sl 1 (mL (ats x.l (c.nodes.length+1))))),(0,.one (.ptr p 1 0 0)),(7,.one (.v (.int .i64 c.nodes.length)))],S8⟩) ?_ ?_
   ·refine Le.freeze z hz1 ?_
    rw [List.take_length] at hz2
    simp only [SubZ]
    refine⟨⟨_,rfl,FzA.same _ _ _⟩,⟨_,rfl,FzA.same _ _ _⟩,⟨_,rfl,?_⟩,⟨_,rfl,FzA.same _ _ _⟩,⟨_,rfl,FzA.same _ _ _⟩,trivial⟩
    simp only [FzA]
    exact hz2
   clear hz1 hz2 hz4 hL' hI'
   have hNl:=sI c x sc nd x.l.length
   rw [List.take_length] at hNl
   rcases hI8.2.1 with ⟨h0,rfl⟩|⟨hne,jN,rfl,hjN⟩
   ·have:(iV c x sc nd x.l.length).nodes=[]:=by simpa using h0
    rw [this] at hNl;simp at hNl;omega
   rw [List.length_map] at hI8
   have hrn:((iV c x sc nd x.l.length).nodes.map Nd.row)[c.nodes.length]?=some [.v (.int .i64 o),.v (.int .i64 a),.v (.int .i64 b),.sl 1 []]:=by
    rw [List.getElem?_map,iV]
    simp [Cd.with,hndd,Nd.row,mL]
   have hp8:=hI8.1
   have hd2:decide ((x.l.length:Int)<(x.l.length:Int))=false:=by simp
   repeat (first|(apply fw;focus ((with_reducible constructor)<;>constructor))|((first|with_reducible refine ga _ rfl fun Y y=>?_|apply ri);simp only [zb,seval,w49,hd2,hp8,hjN,hrn,List.length_map];refine RunTo.fn y (by first|(simp;done)|omega|(simp;omega)) ?_;clear y Y))
   repeat (first|(apply fw;focus ((with_reducible constructor)<;>constructor))|((first|with_reducible refine ga _ rfl fun Y y=>?_|apply ri);simp only [zb,seval,w49,hd2,hp8,hjN,hrn,List.length_map];refine RunTo.fn y (by first|(simp;done)|omega|(simp;omega)) ?_;clear y Y))
   refine⟨.inl rfl,_,_,_,_,(by simp only [zb,seval];rfl),trivial,Le.refl _ _,rfl,⟨.ms jN (iV c x sc nd x.l.length).nodes.length,cC',cG',cP',?_⟩,?_,fun k ob h1 h2 h3=>?_⟩
   ·have h9:=hI8.setN (N':=(iV c x sc nd x.l.length).nodes.set c.nodes.length ⟨o,a,b,ats x.l (c.nodes.length+1)⟩) (by simp)
    rw [List.map_set] at h9
    rw [PJ c x sc nd,hnd]
    exact h9
   ·simp;exact hF8.1
   ·have h4:=hF8.2 k ob h1 h2 h3
    rw [List.getElem?_set_ne (fun e=>by subst e;rw [hjN] at h4;cases h4;exact h3 (by simp))]
    exact h4
theorem JG:∀n,FC n
 | 0=>fun x h=>absurd h (by have:=x.ht_pos;omega)
 | n+1=>SK n (JG n)
theorem WI (x:K) (hx:x.Pk) (p:Nat) (S:List (Option Ob)) (c:Cd) (sc:List (List ByteArray)) (cN cC cG cP cT:C) (hI:CoderIn p S c cN cC cG cP cT) (hm:c.most+x.size≤1000000000) (hn:c.nodes.length+x.size≤1000000000) (hs:sc.length+x.ht≤1000000000) (hl:∀l∈sc,l.length≤1000000000) :
  Fn Tryz.prog 49 [.one (.ptr p 1 0 0),.agg x.cc,.one (scX sc)] S (XZ p S c x sc cT):=JG x.ht x (Nat.le_refl _) hx p S c sc cN cC cG cP cT hI hm hn hs hl
end Go.Proofs.YtaeioidifpebdaaGreatDoor
end
