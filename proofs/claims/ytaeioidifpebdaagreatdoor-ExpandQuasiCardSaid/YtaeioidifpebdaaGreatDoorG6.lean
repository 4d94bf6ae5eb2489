/-
 Laid together: Wa18, Sh18, Fz18, Ls18, Sl318, Wb18, Wc18.
-/
import Derived.Test.YtaeioidifpebdaaGreatDoorG5
import Derived.Test.YtaeioidifpebdaaGreatDoorG4
section
namespace Go.Proofs.YtaeioidifpebdaaGreatDoor
open Go Go.RowKit Go.Lib
set_option linter.unusedSimpArgs false
set_option linter.unusedVariables false
set_option maxHeartbeats 4000000
set_option maxRecDepth 100000
theorem K.cc_take (k:K):k.cc.take 11=k.cc:=List.take_of_length_le (by rw [K.cc_len];exact Nat.le_refl _)
theorem D.cc_take (d:D):d.cc.take 6=d.cc:=List.take_of_length_le (by rw [D.cc_len];exact Nat.le_refl _)
theorem D.cc_shut (c:D):∀x∈c.cc,C.shut x=true:=by rw [D.cc_eq];simp [C.shut]
def b01 (n:Nat):Bool:=n == 0
theorem kcc:(∀k:K,k.cc.length=11)∧(∀(k:K) (r:List C),(k.cc++r).length=r.length+11)∧(∀(k:K),k.cc.take 11=k.cc)∧(∀(k:K) (r:List C),List.take 11 (k.cc++r)=k.cc)∧(∀(k:K) (r:List C),List.drop 11 (k.cc++r)=r) ∧
  (∀(k:K) (r:List C),List.take 22 (k.cc++r)=k.cc++List.take 11 r)∧(∀(k:K) (r:List C),List.drop 22 (k.cc++r)=List.drop 11 r)∧(∀(k:K) (r:List C),List.take 33 (k.cc++r)=k.cc++List.take 22 r)∧(∀(k:K) (r:List C),List.drop 33 (k.cc++r)=List.drop 22 r) ∧
  (∀a b c:List C,a++b++c=a++(b++c))∧(∀d:D,d.cc.length=6)∧(∀(d:D),d.cc.take 6=d.cc)∧(∀k:K,List.drop 11 k.cc=[])∧(∀d:D,List.drop 6 d.cc=[])∧(∀l:List C,l++[]=l)∧(∀(s:List (Option Ob)) (k:K),iA s k.cc=some (True,k.cc))∧(∀(s:List (Option Ob)) (d:D),iA s d.cc=some (True,d.cc)):=by
 have h:∀k:K,k.cc.length=11:=K.cc_len
 refine⟨h,fun k r=>by simp [h];omega,K.cc_take,fun k r=>?_,fun k r=>?_,fun k r=>?_,fun k r=>?_,fun k r=>?_,fun k r=>?_,List.append_assoc,D.cc_len,D.cc_take,fun k=>List.drop_of_length_le (by rw [h];exact Nat.le_refl _),fun d=>List.drop_of_length_le (by rw [D.cc_len];exact Nat.le_refl _),List.append_nil,fun s k=>?_,fun s d=>?_⟩
 all_goals first|(rw [K.cc_eq];simp [iA,cY];done)|(rw [D.cc_eq];simp [iA,cY];done)|rw [List.take_append,h,List.take_of_length_le (by rw [h];omega)]|rw [List.drop_append,h,List.drop_of_length_le (by rw [h];omega)]
 all_goals simp
theorem ksh:(∀k:K,(∀x∈k.cc,C.shut x=true)=True)∧(∀d:D,(∀x∈d.cc,C.shut x=true)=True)∧(∀x,C.shut (.v x)=true)∧(∀w e,C.shut (.sl w e)=true)∧(∀n,C.shut (.er n)=true)∧(∀n,C.shut (.gv n)=true)∧(∀k:K,A.shut (.agg k.cc)=true)∧(∀d:D,A.shut (.agg d.cc)=true)∧(∀c,A.shut (.one c)=c.shut)∧(∀l:List C,A.shut (.agg l)=l.all C.shut):=by
 refine⟨fun k=>eq_true k.cc_shut,fun d=>eq_true d.cc_shut,fun _=>rfl,fun _ _=>rfl,fun _=>rfl,fun _=>rfl,fun k=>?_,fun d=>?_,fun _=>rfl,fun _=>rfl⟩
 ·show (k.cc.all C.shut)=true
  rw [List.all_eq_true];exact k.cc_shut
 ·show (d.cc.all C.shut)=true
  rw [List.all_eq_true];exact d.cc_shut
theorem rcc:(∀a b c:K,(aI a b c).cc=[.v (.int .i64 5),.v (.string ⟨#[]⟩),.v (.string ⟨#[]⟩),.sl 1 [],.v (.int .i64 0),.v (.int .i32 0),.v (.bool false),.sl 1 [],.v (.string ⟨#[]⟩),.sl 6 [],.sl 11 [a.cc,b.cc,c.cc]]) ∧
  (∀s:ByteArray,(bL s).cc=[.v (.int .i64 2),.v (.string s),.v (.string ⟨#[]⟩),.sl 1 [],.v (.int .i64 0),.v (.int .i32 0),.v (.bool false),.sl 1 [],.v (.string ⟨#[]⟩),.sl 6 [],.sl 11 []]) ∧
  (∀s:ByteArray,(eL s).cc=[.v (.int .i64 10),.v (.string s),.v (.string ⟨#[]⟩),.sl 1 [],.v (.int .i64 0),.v (.int .i32 0),.v (.bool false),.sl 1 [],.v (.string ⟨#[]⟩),.sl 6 [],.sl 11 []]) ∧
  (∀l:List K,(fZ l).cc=[.v (.int .i64 8),.v (.string ⟨#[]⟩),.v (.string ⟨#[]⟩),.sl 1 [],.v (.int .i64 0),.v (.int .i32 0),.v (.bool false),.sl 1 [],.v (.string ⟨#[]⟩),.sl 6 [],.sl 11 (l.map K.cc)]) ∧
  (∀l:List K,(K.mk 7 e0 e0 [] cH l).cc=[.v (.int .i64 7),.v (.string ⟨#[]⟩),.v (.string ⟨#[]⟩),.sl 1 [],.v (.int .i64 0),.v (.int .i32 0),.v (.bool false),.sl 1 [],.v (.string ⟨#[]⟩),.sl 6 [],.sl 11 (l.map K.cc)]) ∧
  (∀(ps:List ByteArray) (r:ByteArray) (b:K),(K.mk 6 e0 r ps cH [b]).cc=[.v (.int .i64 6),.v (.string ⟨#[]⟩),.v (.string r),.sl 1 (dQ ps),.v (.int .i64 0),.v (.int .i32 0),.v (.bool false),.sl 1 [],.v (.string ⟨#[]⟩),.sl 6 [],.sl 11 [b.cc]]) ∧
  (∀(s:ByteArray) (x:K),(yA s x).cc=[.v (.int .i64 3),.v (.string s),.v (.string ⟨#[]⟩),.sl 1 [],.v (.int .i64 0),.v (.int .i32 0),.v (.bool false),.sl 1 [],.v (.string ⟨#[]⟩),.sl 6 [],.sl 11 [x.cc]]) ∧
  (∀(s:ByteArray) (x:K),(K.mk 4 s e0 [] cH [x]).cc=[.v (.int .i64 4),.v (.string s),.v (.string ⟨#[]⟩),.sl 1 [],.v (.int .i64 0),.v (.int .i32 0),.v (.bool false),.sl 1 [],.v (.string ⟨#[]⟩),.sl 6 [],.sl 11 [x.cc]]) ∧
  (lV.cc=[.v (.int .i64 9),.v (.string ⟨#[]⟩),.v (.string ⟨#[]⟩),.sl 1 [],.v (.int .i64 0),.v (.int .i32 0),.v (.bool false),.sl 1 [],.v (.string ⟨#[]⟩),.sl 6 [],.sl 11 []]) ∧
  (kz.cc=[.v (.int .i64 0),.v (.string ⟨#[]⟩),.v (.string ⟨#[]⟩),.sl 1 [],.v (.int .i64 0),.v (.int .i32 0),.v (.bool false),.sl 1 [],.v (.string ⟨#[]⟩),.sl 6 [],.sl 11 []]) ∧
  (∀d:D,(bT d).cc=[.v (.int .i64 1),.v (.string ⟨#[]⟩),.v (.string ⟨#[]⟩),.sl 1 [],.v (.int .i64 d.k),.v (.int .i32 d.c),.v (.bool d.neg),.sl 1 (d.mag.map fun n=>[.v (.int .u32 n)]),.v (.string d.t),.sl 6 (d.l.map D.cc),.sl 11 []]) ∧
  (∀k:Int,(jR k).cc=[.v (.int .i64 k),.v (.int .i32 0),.v (.bool false),.sl 1 [],.v (.string ⟨#[]⟩),.sl 6 []]) ∧
  (cH.cc=[.v (.int .i64 0),.v (.int .i32 0),.v (.bool false),.sl 1 [],.v (.string ⟨#[]⟩),.sl 6 []]):=by
 refine⟨?_,?_,?_,?_,?_,?_,?_,?_,?_,?_,?_,?_,?_⟩<;>intros<;>first|(rw [aI,K.cc];rfl)|(rw [bL,K.cc];rfl)|(rw [eL,K.cc];rfl)|(rw [fZ,K.cc];rfl)|(rw [yA,K.cc];rfl)|(rw [lV,K.cc];rfl)|(rw [kz,K.cc];rfl)|(rw [bT,K.cc];rfl)|(rw [jR,D.cc];rfl)|(rw [cH,D.cc];rfl)|(rw [K.cc];rfl)
theorem aD (a b:Nat) (ha:a≤2) (hb:b≤2):Pure Tryz.prog 59 [.one (.er a),.one (.er b)] (.one (.er (max a b))):=by
 have h1:Pure Tryz.prog 41 [.one (.er b),.one (.gv 1)] (.one (.v (.bool (decide (b=2))))):=EM b 1 hb (Nat.le_refl _)
 have h2:Pure Tryz.prog 41 [.one (.er a),.one (.gv 1)] (.one (.v (.bool (decide (a=2))))):=EM a 1 ha (Nat.le_refl _)
 have e0:∀n:Nat,(n+1 == 0)=false:=fun n=>rfl
 rcases a with _|a
 ·refine Fn.intro Tryz.func59 rfl Tryz.ntmps59 Tryz.results59 (by simp only [List.length_cons,List.length_nil];decide) ?_
  repeat (first|(apply fw;focus ((with_reducible constructor)<;>constructor))|((first|with_reducible refine ga _ rfl fun Y y=>?_|apply ri);simp only [zb,seval,w59];refine RunTo.fn y (by first|(simp;done)|omega|(simp;omega)) ?_;clear y Y))
  refine⟨by simp,_,_,_,_,(by simp only [zb,seval,w59];rfl),(by simp),(by simp only [zv];rfl),(by simp [ksh]),_,ALe.refl _,?_⟩
  simp
 rcases b with _|b
 ·refine Fn.intro Tryz.func59 rfl Tryz.ntmps59 Tryz.results59 (by simp only [List.length_cons,List.length_nil];decide) ?_
  repeat (first|(apply fw;focus ((with_reducible constructor)<;>constructor))|((first|with_reducible refine ga _ rfl fun Y y=>?_|apply ri);simp only [zb,seval,w59,e0];refine RunTo.fn y (by first|(simp;done)|omega|(simp;omega)) ?_;clear y Y))
  refine⟨by simp,_,_,_,_,(by simp only [zb,seval,w59];rfl),(by simp),(by simp only [zv];rfl),(by simp [ksh]),_,ALe.refl _,?_⟩
  simp
 by_cases hb1:b=1
 ·subst hb1
  by_cases ha1:a=1
  ·subst ha1
   refine Fn.intro Tryz.func59 rfl Tryz.ntmps59 Tryz.results59 (by simp only [List.length_cons,List.length_nil];decide) ?_
   repeat (first|(apply fw;focus ((with_reducible constructor)<;>constructor))|((first|with_reducible refine ga _ rfl fun Y y=>?_|apply ri);simp only [zb,seval,w59,e0];refine RunTo.fn y (by first|(simp;done)|omega|(simp;omega)) ?_;clear y Y))
   refine WpL.call rfl (aB (P:=Tryz.prog) rfl) (CallA.shut rfl rfl (by kernel_rfl) (by first|exact ALes.refl _|((try simp only [rcc]);(repeat (first|exact ALes.refl _|refine ALes.cons ?_ ?_|exact ALe.refl _|exact ALe.nil|refine ALe.agg ?_|exact CLes.refl _|refine CLes.nil ?_|refine CLes.cons ?_)))) (by first|rfl|simp [dF,ksh]) (h1) ?_)
   (refine WpL.go _ rfl fun Y y=>?_);repeat (first|(apply fw;focus ((with_reducible constructor)<;>constructor))|((first|with_reducible refine ga _ rfl fun Y y=>?_|apply ri);simp only [zb,seval,w59,e0];refine RunTo.fn y (by first|(simp;done)|omega|(simp;omega)) ?_;clear y Y))
   refine WpL.call rfl (aB (P:=Tryz.prog) rfl) (CallA.shut rfl rfl (by kernel_rfl) (by first|exact ALes.refl _|((try simp only [rcc]);(repeat (first|exact ALes.refl _|refine ALes.cons ?_ ?_|exact ALe.refl _|exact ALe.nil|refine ALe.agg ?_|exact CLes.refl _|refine CLes.nil ?_|refine CLes.cons ?_)))) (by first|rfl|simp [dF,ksh]) (h2) ?_)
   (refine WpL.go _ rfl fun Y y=>?_);repeat (first|(apply fw;focus ((with_reducible constructor)<;>constructor))|((first|with_reducible refine ga _ rfl fun Y y=>?_|apply ri);simp only [zb,seval,w59,e0];refine RunTo.fn y (by first|(simp;done)|omega|(simp;omega)) ?_;clear y Y))
   refine⟨by simp,_,_,_,_,(by simp only [zb,seval,w59];rfl),(by simp),(by simp only [zv];rfl),(by simp [ksh]),_,ALe.refl _,?_⟩
   rfl
  ·have ha0:a=0:=by omega
   subst ha0
   refine Fn.intro Tryz.func59 rfl Tryz.ntmps59 Tryz.results59 (by simp only [List.length_cons,List.length_nil];decide) ?_
   repeat (first|(apply fw;focus ((with_reducible constructor)<;>constructor))|((first|with_reducible refine ga _ rfl fun Y y=>?_|apply ri);simp only [zb,seval,w59,e0];refine RunTo.fn y (by first|(simp;done)|omega|(simp;omega)) ?_;clear y Y))
   refine WpL.call rfl (aB (P:=Tryz.prog) rfl) (CallA.shut rfl rfl (by kernel_rfl) (by first|exact ALes.refl _|((try simp only [rcc]);(repeat (first|exact ALes.refl _|refine ALes.cons ?_ ?_|exact ALe.refl _|exact ALe.nil|refine ALe.agg ?_|exact CLes.refl _|refine CLes.nil ?_|refine CLes.cons ?_)))) (by first|rfl|simp [dF,ksh]) (h1) ?_)
   (refine WpL.go _ rfl fun Y y=>?_);repeat (first|(apply fw;focus ((with_reducible constructor)<;>constructor))|((first|with_reducible refine ga _ rfl fun Y y=>?_|apply ri);simp only [zb,seval,w59,e0];refine RunTo.fn y (by first|(simp;done)|omega|(simp;omega)) ?_;clear y Y))
   refine WpL.call rfl (aB (P:=Tryz.prog) rfl) (CallA.shut rfl rfl (by kernel_rfl) (by first|exact ALes.refl _|((try simp only [rcc]);(repeat (first|exact ALes.refl _|refine ALes.cons ?_ ?_|exact ALe.refl _|exact ALe.nil|refine ALe.agg ?_|exact CLes.refl _|refine CLes.nil ?_|refine CLes.cons ?_)))) (by first|rfl|simp [dF,ksh]) (h2) ?_)
   (refine WpL.go _ rfl fun Y y=>?_);repeat (first|(apply fw;focus ((with_reducible constructor)<;>constructor))|((first|with_reducible refine ga _ rfl fun Y y=>?_|apply ri);simp only [zb,seval,w59,e0];refine RunTo.fn y (by first|(simp;done)|omega|(simp;omega)) ?_;clear y Y))
   refine⟨by simp,_,_,_,_,(by simp only [zb,seval,w59];rfl),(by simp),(by simp only [zv];rfl),(by simp [ksh]),_,ALe.refl _,?_⟩
   rfl
 ·have hb0:b=0:=by omega
  subst hb0
  refine Fn.intro Tryz.func59 rfl Tryz.ntmps59 Tryz.results59 (by simp only [List.length_cons,List.length_nil];decide) ?_
  repeat (first|(apply fw;focus ((with_reducible constructor)<;>constructor))|((first|with_reducible refine ga _ rfl fun Y y=>?_|apply ri);simp only [zb,seval,w59,e0];refine RunTo.fn y (by first|(simp;done)|omega|(simp;omega)) ?_;clear y Y))
  refine WpL.call rfl (aB (P:=Tryz.prog) rfl) (CallA.shut rfl rfl (by kernel_rfl) (by first|exact ALes.refl _|((try simp only [rcc]);(repeat (first|exact ALes.refl _|refine ALes.cons ?_ ?_|exact ALe.refl _|exact ALe.nil|refine ALe.agg ?_|exact CLes.refl _|refine CLes.nil ?_|refine CLes.cons ?_)))) (by first|rfl|simp [dF,ksh]) (h1) ?_)
  (refine WpL.go _ rfl fun Y y=>?_);repeat (first|(apply fw;focus ((with_reducible constructor)<;>constructor))|((first|with_reducible refine ga _ rfl fun Y y=>?_|apply ri);simp only [zb,seval,w59,e0];refine RunTo.fn y (by first|(simp;done)|omega|(simp;omega)) ?_;clear y Y))
  refine⟨by simp,_,_,_,_,(by simp only [zb,seval,w59];rfl),(by simp),(by simp only [zv];rfl),(by simp [ksh]),_,ALe.refl _,?_⟩
  have:a=0∨a=1:=by omega
  rcases this with rfl|rfl<;>rfl
theorem dZ (a b c:K):Pure Tryz.prog 109 [.agg a.cc,.agg b.cc,.agg c.cc] (.agg (aI a b c).cc):=by
 refine Fn.intro Tryz.func109 rfl Tryz.ntmps109 Tryz.results109 (by simp only [List.length_cons,List.length_nil];decide) ?_
 repeat (first|(apply fw;focus ((with_reducible constructor)<;>constructor))|((first|with_reducible refine ga _ rfl fun Y y=>?_|apply ri);simp only [zb,seval,XG,kcc];refine RunTo.fn y (by first|(simp;done)|omega|(simp;omega)) ?_;clear y Y))
 refine⟨by simp,_,_,_,_,(by simp only [zb,seval,XG,kcc];rfl),(by simp),(by simp only [zv,kcc];rfl),(by simp [ksh]),_,(by simp only [rcc];(first|exact ALe.refl _|exact ALe.nil|(refine ALe.agg ?_;(repeat (first|exact CLes.refl _|refine CLes.nil ?_|refine CLes.cons ?_)))|(refine ALe.tup ?_;(repeat (first|exact ALes.refl _|refine ALes.cons ?_ ?_|exact ALe.refl _|exact ALe.nil|refine ALe.agg ?_|exact CLes.refl _|refine CLes.nil ?_|refine CLes.cons ?_))))),rfl⟩
theorem oX (s:ByteArray):Pure Tryz.prog 87 [.one (.v (.string s))] (.agg (bL s).cc):=by
 refine Fn.intro Tryz.func87 rfl Tryz.ntmps87 Tryz.results87 (by simp only [List.length_cons,List.length_nil];decide) ?_
 repeat (first|(apply fw;focus ((with_reducible constructor)<;>constructor))|((first|with_reducible refine ga _ rfl fun Y y=>?_|apply ri);simp only [zb,seval,w87,kcc];refine RunTo.fn y (by first|(simp;done)|omega|(simp;omega)) ?_;clear y Y))
 refine⟨by simp,_,_,_,_,(by simp only [zb,seval,w87,kcc];rfl),(by simp),(by simp only [zv,kcc];rfl),(by simp [ksh]),_,(by simp only [rcc];(first|exact ALe.refl _|exact ALe.nil|(refine ALe.agg ?_;(repeat (first|exact CLes.refl _|refine CLes.nil ?_|refine CLes.cons ?_)))|(refine ALe.tup ?_;(repeat (first|exact ALes.refl _|refine ALes.cons ?_ ?_|exact ALe.refl _|exact ALe.nil|refine ALe.agg ?_|exact CLes.refl _|refine CLes.nil ?_|refine CLes.cons ?_))))),rfl⟩
theorem sM (s:ByteArray):Pure Tryz.prog 126 [.one (.v (.string s))] (.agg (eL s).cc):=by
 refine Fn.intro Tryz.func126 rfl Tryz.ntmps126 Tryz.results126 (by simp only [List.length_cons,List.length_nil];decide) ?_
 repeat (first|(apply fw;focus ((with_reducible constructor)<;>constructor))|((first|with_reducible refine ga _ rfl fun Y y=>?_|apply ri);simp only [zb,seval,XH,kcc];refine RunTo.fn y (by first|(simp;done)|omega|(simp;omega)) ?_;clear y Y))
 refine⟨by simp,_,_,_,_,(by simp only [zb,seval,XH,kcc];rfl),(by simp),(by simp only [zv,kcc];rfl),(by simp [ksh]),_,(by simp only [rcc];(first|exact ALe.refl _|exact ALe.nil|(refine ALe.agg ?_;(repeat (first|exact CLes.refl _|refine CLes.nil ?_|refine CLes.cons ?_)))|(refine ALe.tup ?_;(repeat (first|exact ALes.refl _|refine ALes.cons ?_ ?_|exact ALe.refl _|exact ALe.nil|refine ALe.agg ?_|exact CLes.refl _|refine CLes.nil ?_|refine CLes.cons ?_))))),rfl⟩
theorem BZ (d:D) (hd:d.Ok):Pure Tryz.prog 114 [.agg d.cc] (.agg d.cc):=by
 have hc:=OI d cH hd gH
 rw [D.cc_eq (HG d cH)] at hc
 simp only [HG,D.k,D.c,D.neg,D.mag,D.t,D.l,List.map_cons,List.map_nil] at hc
 refine Fn.intro Tryz.func114 rfl Tryz.ntmps114 Tryz.results114 (by simp only [List.length_cons,List.length_nil];decide) ?_
 repeat (first|(apply fw;focus ((with_reducible constructor)<;>constructor))|((first|with_reducible refine ga _ rfl fun Y y=>?_|apply ri);simp only [zb,seval,VU,kcc];refine RunTo.fn y (by first|(simp;done)|omega|(simp;omega)) ?_;clear y Y))
 refine WpL.call rfl (aB (P:=Tryz.prog) rfl) (CallA.shut rfl rfl (by kernel_rfl) (by first|exact ALes.refl _|((try simp only [rcc]);(repeat (first|exact ALes.refl _|refine ALes.cons ?_ ?_|exact ALe.refl _|exact ALe.nil|refine ALe.agg ?_|exact CLes.refl _|refine CLes.nil ?_|refine CLes.cons ?_)))) (by first|rfl|simp [dF,ksh,rcc]) (hc) ?_)
 (refine WpL.go _ rfl fun Y y=>?_);repeat (first|(apply fw;focus ((with_reducible constructor)<;>constructor))|((first|with_reducible refine ga _ rfl fun Y y=>?_|apply ri);simp only [zb,seval,VU,kcc];refine RunTo.fn y (by first|(simp;done)|omega|(simp;omega)) ?_;clear y Y))
 refine⟨by simp,_,_,_,_,(by simp only [zb,seval,VU,kcc];rfl),(by simp),(by simp only [zv,kcc];rfl),(by simp [ksh]),_,ALe.refl _,?_⟩
 rfl
theorem iJ (d:D) (hd:d.Ok):Pure Tryz.prog 92 [.agg d.cc] (.agg (bT d).cc):=by
 have hc:=BZ d hd
 rw [D.cc_eq d] at hc ⊢
 refine Fn.intro Tryz.func92 rfl Tryz.ntmps92 Tryz.results92 (by simp only [List.length_cons,List.length_nil];decide) ?_
 repeat (first|(apply fw;focus ((with_reducible constructor)<;>constructor))|((first|with_reducible refine ga _ rfl fun Y y=>?_|apply ri);simp only [zb,seval,w92,kcc];refine RunTo.fn y (by first|(simp;done)|omega|(simp;omega)) ?_;clear y Y))
 refine WpL.call rfl (aB (P:=Tryz.prog) rfl) (CallA.shut rfl rfl (by kernel_rfl) (by first|exact ALes.refl _|((try simp only [rcc]);(repeat (first|exact ALes.refl _|refine ALes.cons ?_ ?_|exact ALe.refl _|exact ALe.nil|refine ALe.agg ?_|exact CLes.refl _|refine CLes.nil ?_|refine CLes.cons ?_)))) (by first|rfl|simp [dF,ksh]) (hc) ?_)
 (refine WpL.go _ rfl fun Y y=>?_);repeat (first|(apply fw;focus ((with_reducible constructor)<;>constructor))|((first|with_reducible refine ga _ rfl fun Y y=>?_|apply ri);simp only [zb,seval,w92,kcc];refine RunTo.fn y (by first|(simp;done)|omega|(simp;omega)) ?_;clear y Y))
 refine⟨by simp,_,_,_,_,(by simp only [zb,seval,w92,kcc];rfl),(by simp),(by simp only [zv,kcc];rfl),(by simp [ksh]),_,(by simp only [rcc];(first|exact ALe.refl _|exact ALe.nil|(refine ALe.agg ?_;(repeat (first|exact CLes.refl _|refine CLes.nil ?_|refine CLes.cons ?_)))|(refine ALe.tup ?_;(repeat (first|exact ALes.refl _|refine ALes.cons ?_ ?_|exact ALe.refl _|exact ALe.nil|refine ALe.agg ?_|exact CLes.refl _|refine CLes.nil ?_|refine CLes.cons ?_))))),rfl⟩
end Go.Proofs.YtaeioidifpebdaaGreatDoor
end
section
namespace Go.Proofs.YtaeioidifpebdaaGreatDoor
open Go Go.RowKit Go.Lib
set_option linter.unusedSimpArgs false
set_option linter.unusedVariables false
theorem cz {nt:Cf} {l0 rest:List Oper} {Q:St→Prop} {st:St} {d:Option Tmp} {fo:Operand} {args:List Operand} {tys:Array TypeId} {ty:TypeId} {pos:String} {aft:Array Edge} {g:Option (Nat × Bool)} {f:FuncId} {caps:List C} {xs xs':List A} {r:A}
  (hfn:Pure Tryz.prog f xs' r) (hr:WpL Tryz.prog nt l0.toArray Q rest (st.put d r)) (hd:nL nt d=true:=by exact rfl) (hgd:eP (l0.map (·.dst)) st.e g=some true:=by exact rfl) (hf:rdA st.e fo=some (.one (.fn f caps)):=by exact rfl) (ha:kM st.e args=some xs:=by exact rfl) (hc:eC Tryz.prog f=true:=by kernel_rfl)
  (hv:ALes (xs++caps.map .one) xs':=by first|exact ALes.refl _|((try simp only [rcc]);(repeat (first|exact ALes.refl _|refine ALes.cons ?_ ?_|exact ALe.refl _|exact ALe.nil|refine ALe.agg ?_|exact CLes.refl _|refine CLes.nil ?_|refine CLes.cons ?_)))) (hsh:dF xs'=true:=by first|rfl|simp [dF,ksh]) :
  WpL Tryz.prog nt l0.toArray Q (⟨d,.call { callee:=.value fo,args:=args.toArray,argTypes:=tys },ty,pos,aft,g⟩::rest) st :=
 WpL.call hd (aB (P:=Tryz.prog) hgd) (CallA.shut hf ha hc hv hsh hfn hr)
theorem ca {nt:Cf} {l0 rest:List Oper} {Q:St→Prop} {st:St} {d:Option Tmp} {fo:Operand} {args:List Operand} {tys:Array TypeId} {ty:TypeId} {pos:String} {aft:Array Edge} {g:Option (Nat × Bool)} {f:FuncId} {caps:List C} {xs:List A} {ds:List (Option Tmp)}
  (h:∃r,Pure Tryz.prog f (xs++caps.map .one) r∧∀K:List Oper→St→Prop,(∀l' st',WpL Tryz.prog nt l0.toArray Q l' st'→K l' st')→RunTo (uV Tryz.prog nt ds rest (st.put d r)) K)
  (hds:l0.map (·.dst)=ds:=by exact rfl) (hd:nL nt d=true:=by exact rfl) (hgd:eP (l0.map (·.dst)) st.e g=some true:=by exact rfl) (hf:rdA st.e fo=some (.one (.fn f caps)):=by exact rfl) (ha:kM st.e args=some xs:=by exact rfl) (hc:eC Tryz.prog f=true:=by kernel_rfl) (h2:dF (xs++caps.map .one)=true:=by first|rfl|simp [dF,ksh]) :
  WpL Tryz.prog nt l0.toArray Q (⟨d,.call { callee:=.value fo,args:=args.toArray,argTypes:=tys },ty,pos,aft,g⟩::rest) st:=by
 obtain⟨r,h1,h3⟩:=h
 exact cz h1 (WpL.go ds hds h3) hd hgd hf ha hc (ALes.refl _) h2
theorem oz {nt:Cf} {ds:List (Option Tmp)} {e:List (Nat × A)} {s:List (Option Ob)} {d:Option Tmp} {fo:Operand} {args:List Operand} {tys:Array TypeId} {ty:TypeId} {pos:String} {aft:Array Edge} {g:Option (Nat × Bool)} {f:FuncId} {caps:List C} {xs xs':List A} {r:A}
  (hfn:Pure Tryz.prog f xs' r) (hgd:eP ds e g=some true:=by exact rfl) (hf:rdA e fo=some (.one (.fn f caps)):=by exact rfl) (ha:kM e args=some xs:=by exact rfl) (hc:eC Tryz.prog f=true:=by kernel_rfl)
  (hv:ALes (xs++caps.map .one) xs':=by first|exact ALes.refl _|((try simp only [rcc]);(repeat (first|exact ALes.refl _|refine ALes.cons ?_ ?_|exact ALe.refl _|exact ALe.nil|refine ALe.agg ?_|exact CLes.refl _|refine CLes.nil ?_|refine CLes.cons ?_)))) (hsh:dF xs'=true:=by first|rfl|simp [dF,ksh]) :
  OpS Tryz.prog nt ds ⟨d,.call { callee:=.value fo,args:=args.toArray,argTypes:=tys },ty,pos,aft,g⟩ e s r s:=OpS.shut hgd hf ha hc hv hsh hfn
theorem fz {P:Program} {nt:Cf} {ops:Array Oper} {Q:St→Prop} {p:Prop} {l:List Oper} {st:St} {K:List Oper→St→Prop} (hK:∀l' st',WpL P nt ops Q l' st'→K l' st') (h:WpL P nt ops Q l st) (hp:p:=by first|(simp;done)|omega|(simp;omega)):RunTo (p,l,st) K:=⟨hp,hK _ _ h⟩
theorem qz {p:Prop} {l:List Oper} {e:List (Nat × A)} {K:List Oper→List (Nat × A)→Prop} (h:K l e) (hp:p:=by first|(simp;done)|omega|(simp;omega)):RunQ (p,l,e) K:=⟨hp,h⟩
theorem nz {P:Program} {nt:Cf} {ds:List (Option Tmp)} {c:List (Option Ob)} {E:List Nat} {ss:List (List (Option Ob))} {K:List (Nat × A)→Prop} {i:Nat} {e:List (Nat × A)} (h:K e)
  (hc:∀s∈ss,LeS c s:=by simp only [List.mem_cons,List.not_mem_nil,or_false,forall_eq_or_imp,forall_eq];(repeat' with_reducible refine And.intro ?_ ?_)<;>(refine LeS.of ?_)<;>(repeat (first|exact SLe.nil _|exact SLe.refl _|exact SLe.app _ _|refine SLe.same ?_|refine SLe.none ?_))):Draw1 P nt ds c E ss K i e []:=Draw1.nil hc h
theorem fi {f:FuncId} {fn:Func} {c:Code} {args:List A} {R:A→Prop} {nt:Nat} {rs:List ResultVar} (hf:Tryz.prog.funcs[f]?=some fn) (hnt:fn.ntmps=nt) (hrs:fn.results=rs.toArray) (h:WpA Tryz.prog ⟨nt,0⟩ c (TK Tryz.prog rs R) ⟨oJ 0 args,[]⟩) (hb:fn.body=some c:=by exact rfl) (hn:args.length≤nt:=by simp only [List.length_cons,List.length_nil];decide) :
  Fn Tryz.prog f args [] fun r s=>R r∧s=[]:=Fn.intro hf hb hnt hrs hn h
theorem ye {P:Program} {rs:List ResultVar} {R:A→Prop} {st:St} {q p:Prop} {l:List A} {r:A} {e:Exit} (h1:rH P st.s st.e rs=some (q,l)) (h2:gW st.s (qS l)=some (p,r)) (h3:R r) (hq:q:=by simp) (hp:p:=by simp [ksh]) (he:e=.ret∨e=.normal:=by simp):TK P rs R e st:=⟨he,q,l,p,r,h1,hq,h2,hp,r,ALe.refl _,h3⟩
theorem yl {P:Program} {rs:List ResultVar} {R:A→Prop} {st:St} {q p:Prop} {l:List A} {r r':A} {e:Exit} (h1:rH P st.s st.e rs=some (q,l)) (h2:gW st.s (qS l)=some (p,r)) (h3:ALe r r') (h4:R r') (hp:p:=by simp [ksh]) (hq:q:=by simp) (he:e=.ret∨e=.normal:=by simp):TK P rs R e st:=⟨he,q,l,p,r,h1,hq,h2,hp,r',h3,h4⟩
theorem ae {a b:A} (h:ALe a b:=by first|exact ALe.refl _|exact ALe.nil|(refine ALe.agg ?_;(repeat (first|exact CLes.refl _|refine CLes.nil ?_|refine CLes.cons ?_)))|(refine ALe.tup ?_;(repeat (first|exact ALes.refl _|refine ALes.cons ?_ ?_|exact ALe.refl _|exact ALe.nil|refine ALe.agg ?_|exact CLes.refl _|refine CLes.nil ?_|refine CLes.cons ?_)))):ALe a b:=h
end Go.Proofs.YtaeioidifpebdaaGreatDoor
end
section
namespace Go.Proofs.YtaeioidifpebdaaGreatDoor
open Go Go.RowKit
set_option linter.unusedSimpArgs false
set_option linter.unusedVariables false
theorem Le.frz {nt:Cf} {e:List (Nat × A)} {s:List (Option Ob)} (t i:Nat) {n:Nat} {ob:Ob} (ht:find e t=some (.one (.ms i n))) (hi:s[i]?=some (some ob)) (hn:n=ob.es.length) (hsh:∀r∈ob.es,∀c∈r,C.shut c=true) :
  Le nt ⟨e,s⟩ ⟨(t,.one (.sl ob.wd ob.es))::e,s.set i none⟩:=fun H w0 S0 m0 m a w h=>by
 have hf:=Frz.at hi hsh
 refine⟨m,fun k x hx=>?_,h.nts,h.df,hf.sto h.sto,h.fr,fun i ob l h1 h2=>?_,h.up,h.n0⟩
 ·simp only [find] at hx
  split at hx
  ·rename_i hk
   cases hx
   obtain⟨u,hu,hc⟩:=h.env _ _ ht
   exact⟨u,hk▸hu,hf.val h.sto (show FzA s _ (.one (.ms i n)) (.one (.sl ob.wd ob.es)) from .inr (.inl ⟨i,ob,by rw [hn],by simp,hi,rfl⟩)) hc⟩
  ·obtain⟨u,hu,hc⟩:=h.env _ _ hx
   exact⟨u,hu,hf.val h.sto (FzA.same _ _ _) hc⟩
 ·obtain⟨-,b,h3,-⟩:=hf.get i ob h1
  exact h.own i b l h3 h2
section
variable {P:Program} {nt:Cf} {e:List (Nat × A)} {s:List (Option Ob)} (t i:Nat) {n:Nat} {ob:Ob}
theorem WpL.frz {ops:Array Oper} {Q:St→Prop} {l:List Oper} (ht:find e t=some (.one (.ms i n))) (hi:s[i]?=some (some ob)) (hn:n=ob.es.length) (hsh:∀r∈ob.es,∀c∈r,C.shut c=true)
  (h:WpL P nt ops Q l ⟨(t,.one (.sl ob.wd ob.es))::e,s.set i none⟩):WpL P nt ops Q l ⟨e,s⟩:=WpL.le (Le.frz t i ht hi hn hsh) h
theorem WpA.frz {Q:Exit→St→Prop} {c:Code} (ht:find e t=some (.one (.ms i n))) (hi:s[i]?=some (some ob)) (hn:n=ob.es.length) (hsh:∀r∈ob.es,∀c∈r,C.shut c=true)
  (h:WpA P nt c Q ⟨(t,.one (.sl ob.wd ob.es))::e,s.set i none⟩):WpA P nt c Q ⟨e,s⟩:=WpA.le (Le.frz t i ht hi hn hsh) h
end
theorem WpA.draw1c {P:Program} {nt:Cf} {Q:Exit→St→Prop} {st:St} {id:Nat} {l:List Oper} (n:Nat) (E:List Nat) (ss:List (List (Option Ob))) (ds:List (Option Tmp)) (l1 l2:List Oper) (last:List (Option Ob)) (hds:l.map (·.dst)=ds) (h1:l.take n=l1) (h2:l.drop n=l2) (hm:P.follows .mixedOrders=true) (hB:uN l.toArray n nt.nt=true) (hT:lB l.toArray n=true) (hE:chE l.toArray E=true)
  (hEn:(E.all fun i=>decide (i<n))=true) (hss:ss.length=E.length+1) (h0:ss[0]?=some st.s) (hlast:ss[E.length]?=some last) (hN:E.Nodup)
  (h:∀K:List (Nat × A)→Prop,(∀e,WpL P nt l.toArray (Q .normal) l2 ⟨e,last⟩→K e)→Draw1 P nt ds st.s E ss K 0 st.e l1):WpA P nt (.region id l.toArray true) Q st :=
 WpA.draw1 n E st.s ss ds l1 l2 last hds h1 h2 hm hB hT hE hEn hss h0 hlast hN h
theorem nF {α:Type} (S T:List α) (a:α):(S++a::T)[S.length]?=some a:=by simp
theorem rO {α:Type} (S T:List α) (a b:α):(S++a::b::T)[S.length+1]?=some b:=by simp
theorem rP {α:Type} (S T:List α) (a b c:α):(S++a::b::c::T)[S.length+2]?=some c:=by simp
theorem RM {α:Type} (S T:List α) (a b c d:α):(S++a::b::c::d::T)[S.length+3]?=some d:=by simp
theorem RN {α:Type} (S T:List α) (a b c d e:α):(S++a::b::c::d::e::T)[S.length+4]?=some e:=by simp
theorem RO {α:Type} (S T:List α) (a x:α):(S++a::T).set S.length x=S++x::T:=by simp
theorem RP {α:Type} (S T:List α) (a b x:α):(S++a::b::T).set (S.length+1) x=S++a::x::T:=by simp [List.set_append]
theorem RQ {α:Type} (S T:List α) (a b c x:α):(S++a::b::c::T).set (S.length+2) x=S++a::b::x::T:=by simp [List.set_append]
theorem RR {α:Type} (S T:List α) (a b c d x:α):(S++a::b::c::d::T).set (S.length+3) x=S++a::b::c::x::T:=by simp [List.set_append]
theorem YG {α:Type} (S T U:List α) (a:α):(S++a::T)++U=S++a::(T++U):=by simp
theorem aK:(∀{α:Type} (S T:List α) (a:α),(S++a::T)[S.length]?=some a)∧(∀{α:Type} (S T:List α) (a b:α),(S++a::b::T)[S.length+1]?=some b)∧(∀{α:Type} (S T:List α) (a b c:α),(S++a::b::c::T)[S.length+2]?=some c)∧(∀{α:Type} (S T:List α) (a b c d:α),(S++a::b::c::d::T)[S.length+3]?=some d) ∧
  (∀{α:Type} (S T:List α) (a b c d e:α),(S++a::b::c::d::e::T)[S.length+4]?=some e)∧(∀{α:Type} (S T:List α) (a x:α),(S++a::T).set S.length x=S++x::T)∧(∀{α:Type} (S T:List α) (a b x:α),(S++a::b::T).set (S.length+1) x=S++a::x::T)∧(∀{α:Type} (S T:List α) (a b c x:α),(S++a::b::c::T).set (S.length+2) x=S++a::b::x::T) ∧
  (∀{α:Type} (S T:List α) (a b c d x:α),(S++a::b::c::d::T).set (S.length+3) x=S++a::b::c::x::T)∧(∀{α:Type} (S T U:List α) (a:α),(S++a::T)++U=S++a::(T++U))∧(∀{α:Type} (S T:List α),(S++T).length=S.length+T.length)∧(∀{α:Type} (S:List α),S++[]=S) :=
 ⟨nF,rO,rP,RM,RN,RO,RP,RQ,RR,YG,fun _ _=>List.length_append,fun _=>List.append_nil _⟩
theorem At.lt {t:TypeId} {wd:Nat} {S:List (Option Ob)} {c:C} {rows:List (List C)} (h:At t wd S c rows) {j n:Nat} (e:c=.ms j n):j<S.length:=by
 rcases h with ⟨_,rfl⟩|⟨_,i,rfl,hi⟩
 ·cases e
 ·cases e;exact (List.getElem?_eq_some_iff.1 hi).1
theorem At.see {t:TypeId} {wd:Nat} {S:List (Option Ob)} {c:C} {rows:List (List C)} (h:At t wd S c rows) (hs:∀r∈rows,∀c∈r,C.shut c=true):∃p c',cY S c=some (p,c')∧p∧(ALe (.one c') (.one (.sl wd rows))∧∀l k,CLes l k→CLes (c'::l) (.sl wd rows::k)):=by
 rcases h with ⟨rfl,rfl⟩|⟨hne,j,rfl,hj⟩
 ·exact⟨True,.v (.slice none 0 0),rfl,trivial,ALe.nil,fun l k h=>CLes.nil h⟩
 ·exact⟨rows.length=rows.length∧∀e∈rows,∀c∈e,C.shut c=true,.sl wd rows,by simp only [cY,hj],⟨rfl,hs⟩,ALe.refl _,fun l k h=>CLes.cons h⟩
theorem At.apart {t:TypeId} {wd:Nat} {S:List (Option Ob)} {c:C} {rows:List (List C)} (h:At t wd S c rows) {j:Nat} {ob:Ob} (hj:S[j]?=some (some ob)) (ht:ob.ty≠t):∀n,c≠.ms j n:=by
 rcases h with ⟨_,rfl⟩|⟨_,i,rfl,hi⟩
 ·intro n e;cases e
 ·intro n e;cases e;rw [hi] at hj;cases hj;exact ht rfl
def Au (t:TypeId) (wd:Nat) (S:List (Option Ob)) (c:C) (rows:List (List C)):Prop:=(rows=[]∧c=.v (.slice none 0 0))∨∃j,c=.ms j rows.length∧S[j]?=some (some ⟨t,wd,rows⟩)
theorem At.au {t:TypeId} {wd:Nat} {S:List (Option Ob)} {c:C} {rows:List (List C)} (h:At t wd S c rows):Au t wd S c rows:=h.imp id fun ⟨_,h⟩=>h
theorem Au.lt {t:TypeId} {wd:Nat} {S:List (Option Ob)} {c:C} {rows:List (List C)} (h:Au t wd S c rows) {j n:Nat} (e:c=.ms j n):j<S.length:=by
 rcases h with ⟨_,rfl⟩|⟨i,rfl,hi⟩
 ·cases e
 ·cases e;exact (List.getElem?_eq_some_iff.1 hi).1
theorem Au.apart {t:TypeId} {wd:Nat} {S:List (Option Ob)} {c:C} {rows:List (List C)} (h:Au t wd S c rows) {j:Nat} {ob:Ob} (hj:S[j]?=some (some ob)) (ht:ob.ty≠t):∀n,c≠.ms j n:=by
 rcases h with ⟨_,rfl⟩|⟨i,rfl,hi⟩
 ·intro n e;cases e
 ·intro n e;cases e;rw [hi] at hj;cases hj;exact ht rfl
theorem Au.stay {t:TypeId} {wd:Nat} {S S':List (Option Ob)} {c:C} {rows:List (List C)} (h:Au t wd S c rows) (hs:∀(j:Nat),S[j]?=some (some ⟨t,wd,rows⟩)→S'[j]?=some (some ⟨t,wd,rows⟩)):Au t wd S' c rows:=by
 rcases h with h|⟨j,e,hj⟩
 ·exact .inl h
 ·exact .inr ⟨j,e,hs j hj⟩
theorem Au.freeze {t:TypeId} {wd:Nat} {S:List (Option Ob)} {c:C} {rows:List (List C)} (h:Au t wd S c rows) (hs:∀r∈rows,∀c∈r,C.shut c=true):∃S' z,Frz S S' z∧FzC S z c (.sl wd rows)∧S'.length=S.length∧∀(i:Nat) (o:Option Ob),S[i]?=some o→(∀n,c≠.ms i n)→S'[i]?=some o:=by
 rcases h with ⟨rfl,rfl⟩|⟨j,rfl,hj⟩
 ·exact⟨S,fun _=>false,Frz.refl S,FzC.nil,rfl,fun i o h _=>h⟩
 ·refine⟨S.set j none,fun i=>i == j,Frz.at hj hs,FzC.ms (by simp) hj rfl,by simp,fun i o h hn=>?_⟩
  rw [List.getElem?_set_ne (fun e=>by subst e;exact hn _ rfl)];exact h
theorem Le.frzAt {nt:Cf} {e:List (Nat × A)} {S:List (Option Ob)} (t0:Nat) {t wd:TypeId} {c:C} {rows:List (List C)} (hA:Au t wd S c rows) (hs:∀r∈rows,∀c∈r,C.shut c=true) (ht:find e t0=some (.one c)) :
  ∃S',Le nt ⟨e,S⟩ ⟨(t0,.one (.sl wd rows))::e,S'⟩∧S'.length=S.length∧∀(i:Nat) (o:Option Ob),S[i]?=some o→(∀n,c≠.ms i n)→S'[i]?=some o:=by
 obtain⟨S',z,hz,hc,hl,ho⟩:=hA.freeze hs
 refine⟨S',fun H w0 S0 m0 m a w h=>?_,hl,ho⟩
 refine⟨m,fun k x hx=>?_,h.nts,h.df,hz.sto h.sto,h.fr,fun i ob l h1 h2=>?_,h.up,h.n0⟩
 ·simp only [find] at hx
  split at hx
  ·rename_i hk
   cases hx
   obtain⟨u,hu,hcc⟩:=h.env _ _ ht
   exact⟨u,hk▸hu,hz.val h.sto (show FzA S z (.one c) (.one (.sl wd rows)) from hc) hcc⟩
  ·obtain⟨u,hu,hcc⟩:=h.env _ _ hx
   exact⟨u,hu,hz.val h.sto (FzA.same _ _ _) hcc⟩
 ·obtain⟨-,b,h3,-⟩:=hz.get i ob h1
  exact h.own i b l h3 h2
theorem WpL.frzAt {P:Program} {nt:Cf} {ops:Array Oper} {Q:St→Prop} {l:List Oper} {e:List (Nat × A)} {S:List (Option Ob)} (t0:Nat) {t wd:TypeId} {c:C} {rows:List (List C)} (hA:Au t wd S c rows) (hs:∀r∈rows,∀c∈r,C.shut c=true) (ht:find e t0=some (.one c))
  (h:∀S',S'.length=S.length→(∀(i:Nat) (o:Option Ob),S[i]?=some o→(∀n,c≠.ms i n)→S'[i]?=some o)→WpL P nt ops Q l ⟨(t0,.one (.sl wd rows))::e,S'⟩):WpL P nt ops Q l ⟨e,S⟩:=by
 obtain⟨S',h1,h2,h3⟩:=Le.frzAt (nt:=nt) t0 hA hs ht
 exact WpL.le h1 (h S' h2 h3)
theorem WpA.frzAt {P:Program} {nt:Cf} {Q:Exit→St→Prop} {l:Code} {e:List (Nat × A)} {S:List (Option Ob)} (t0:Nat) {t wd:TypeId} {c:C} {rows:List (List C)} (hA:Au t wd S c rows) (hs:∀r∈rows,∀c∈r,C.shut c=true) (ht:find e t0=some (.one c))
  (h:∀S',S'.length=S.length→(∀(i:Nat) (o:Option Ob),S[i]?=some o→(∀n,c≠.ms i n)→S'[i]?=some o)→WpA P nt l Q ⟨(t0,.one (.sl wd rows))::e,S'⟩):WpA P nt l Q ⟨e,S⟩:=by
 obtain⟨S',h1,h2,h3⟩:=Le.frzAt (nt:=nt) t0 hA hs ht
 exact WpA.le h1 (h S' h2 h3)
theorem KP {P:Program} {T t:TypeId} {wd by_:Nat} {zs:List Value} (hT:lN P T=some (t,wd)) (hby:sS P T=some by_) (hz:lC P t=some zs) (hwd:0<wd) {S:List (Option Ob)} {cX:C} {rows new:List (List C)} {q:Nat} (hA:Au t wd S cX rows) (hq:S[q]?=some (some ⟨t,wd,new⟩)) (hne:new≠[]) (hqX:∀n,cX≠.ms q n)
  (hs1:(rows.length+new.length)*by_≤140737488355328) (hs2:rows.length+new.length≤140737488355328) :
  ∃S1 j,At t wd S1 (.ms j (rows.length+new.length)) (rows++new)∧S1[j]?=some (some ⟨t,wd,rows++new⟩)∧S.length≤S1.length∧(∀(i:Nat) (o:Option Ob),S[i]?=some o→(∀n,cX≠.ms i n)→S1[i]?=some o)∧(cX=.ms j rows.length∨S.length≤j) ∧
   ∀(e:List (Nat × A)) (x1 x2:Operand),rdA e x1=some (.one cX)→rdA e x2=some (.one (.ms q new.length))→aop P ⟨e,S⟩ (.call { callee:=.builtin .append,args:=#[x1,x2],argTypes:=#[T,T] })=some (True,.one (.ms j (rows.length+new.length)),⟨e,S1⟩):=by
 rcases hA with h|⟨j,rfl,hj⟩
 ·exact fK hT hby hz hwd (.inl h) hq hne hqX hs1 hs2
 ·refine⟨S.set j (some ⟨t,wd,rows++new⟩),j,.inr ⟨by simp [hne],j,by simp,List.getElem?_set_self (List.getElem?_eq_some_iff.1 hj).1⟩,List.getElem?_set_self (List.getElem?_eq_some_iff.1 hj).1,by simp,fun i o hi hn=>?_,.inl rfl,fun e x1 x2 h1 h2=>?_⟩
  ·rw [List.getElem?_set_ne (fun e=>by subst e;exact hn _ rfl)];exact hi
  ·simp only [aop,hT,hby,hz,h1,h2,sT,hq,hj]
   exact tr3 ⟨trivial,⟨by simp,by simp⟩,by simp,by simp,by simp,hwd,hs1,hs2⟩
theorem kV {P:Program} {w:World} (t ty e:TypeId) (i:TypeInfo) (ht:P.underlying t=some (.slice e)) (hi:P.info? e=some i) (q:Option Addr) (cap:Nat):(Builtin.append_ #[t,t] ty #[.slice none 0 0,.slice q 0 cap]).run P w=.ok (.slice none 0 0) w:=by
 cases q<;>simp [Builtin.append_,run_underlying ht,sizeOf,typeInfo,hi,Builtin.lenOf,Builtin.firstCells,loadCells,loadCellsFrom]
theorem OpA.append_nil0 {P:Program} {nt:Cf} {st:St} {ty t et:TypeId} {sz wd:Nat} {x y:Operand} (ht:lN P t=some (et,sz)) (hx:rdA st.e x=some (.one (.v (.slice none 0 0)))) (hy:rdA st.e y=some (.one (.sl wd []))) :
  OpA P nt (.call { callee:=.builtin .append,args:=#[x,y],argTypes:=#[t,t] }) ty st (.one (.v (.slice none 0 0))) st:=fun H w0 S0 m0 m a w hs=>by
 obtain⟨hu,i,hi,hisz⟩:=pO ht
 have hcx:=hs.rd hx
 have hcy:=hs.rd hy
 simp only [Ca,Cc] at hcx hcy
 refine⟨.slice none 0 0,w,m,.inl (lD ?_),hs,Goes.refl _ _ _,caV rfl⟩
 rw [hcx.1]
 rcases hcy.2 with ⟨-,hn|⟨q,cap,hn,-⟩⟩|⟨b,o,cap,hn,-⟩
 ·rw [hn];exact kV t ty et i hu hi _ _
 ·rw [hn];exact kV t ty et i hu hi _ _
 ·rw [hn];exact kV t ty et i hu hi _ _
theorem mJ {P:Program} {T t:TypeId} {wd by_:Nat} {zs:List Value} (hT:lN P T=some (t,wd)) (hby:sS P T=some by_) (hz:lC P t=some zs) (hwd:0<wd) {S:List (Option Ob)} {cX:C} {rows new:List (List C)} (hA:At t wd S cX rows) (hall:∀e∈new,e.length=wd)
  (hs1:(rows.length+new.length)*by_≤140737488355328) (hs2:rows.length+new.length≤140737488355328) :
  ∃S1 c1,At t wd S1 c1 (rows++new)∧S.length≤S1.length∧(∀(i:Nat) (o:Option Ob),S[i]?=some o→(∀n,cX≠.ms i n)→S1[i]?=some o)∧(∀n j,c1=.ms j n→(∃k,cX=.ms j k)∨S.length≤j) ∧
   ∀(nt:Cf) (ty:TypeId) (e:List (Nat × A)) (x1 x2:Operand),rdA e x1=some (.one cX)→rdA e x2=some (.one (.sl wd new))→OpA P nt (.call { callee:=.builtin .append,args:=#[x1,x2],argTypes:=#[T,T] }) ty ⟨e,S⟩ (.one c1) ⟨e,S1⟩:=by
 rcases hA with ⟨rfl,rfl⟩|⟨hr,j,rfl,hj⟩
 ·simp only [List.length_nil,Nat.zero_add] at hs1 hs2
  by_cases hn:new=[]
  ·subst hn
   exact⟨S,_,At.nil _ _ _,Nat.le_refl _,fun i o h _=>h,fun n j e=>(by cases e),fun nt ty e x1 x2 h1 h2=>OpA.append_nil0 hT h1 h2⟩
  ·have hnl:0<new.length:=by cases new with|nil=>exact absurd rfl hn|cons a l=>simp
   exact⟨S++[some ⟨t,wd,new⟩],.ms S.length new.length,.inr ⟨by simpa using hn,S.length,by simp,by simp⟩,by simp,fun i o hi _=>dB hi,fun n j e=>(by cases e;exact .inr (Nat.le_refl _)),fun nt ty e x1 x2 h1 h2=>by
    have:=OpA.append_nil (P:=P) (nt:=nt) (ty:=ty) (st:=⟨e,S⟩) hT hby hz h1 h2 rfl rfl hnl hs1 hs2
    exact this⟩
 ·exact⟨S.set j (some ⟨t,wd,rows++new⟩),.ms j (rows++new).length,.inr ⟨by simp [hr],j,rfl,List.getElem?_set_self (List.getElem?_eq_some_iff.1 hj).1⟩,by simp,fun i o hi hn=>by rw [List.getElem?_set_ne (fun e=>by subst e;exact hn _ rfl)];exact hi,fun n j' e=>(by cases e;exact .inl ⟨_,rfl⟩),fun nt ty e x1 x2 h1 h2=>by
   have:=OpA.append (P:=P) (nt:=nt) (ty:=ty) (st:=⟨e,S⟩) hT hby hz h1 h2 rfl rfl hj rfl rfl rfl hwd hs1 hs2
   rw [←List.length_append] at this
   exact this⟩
theorem WpL.opA {P:Program} {nt:Cf} {ops:Array Oper} {Q:St→Prop} {rest:List Oper} {d:Option Tmp} {op:Op} {ty:TypeId} {pos:String} {aft:Array Edge} {st st':St} {x:A} (hd:nL nt d=true) (hq:OpA P nt op ty st x st') (hr:WpL P nt ops Q rest (st'.put d x)):WpL P nt ops Q (⟨d,op,ty,pos,aft,none⟩::rest) st :=
 WpL.op hd rC hq hr
theorem Le.ale {nt:Cf} {e:List (Nat × A)} {s:List (Option Ob)} (t:Nat) {a:A} (a':A) (ht:find e t=some a) (hle:ALe a a'):Le nt ⟨e,s⟩ ⟨(t,a')::e,s⟩:=fun H w0 S0 m0 m x w hs=>by
 refine⟨m,fun k y hy=>?_,hs.nts,hs.df,hs.sto,hs.fr,hs.own,hs.up,hs.n0⟩
 simp only [find] at hy
 split at hy
 ·rename_i hk
  cases hy
  obtain⟨u,hu,hc⟩:=hs.env _ _ ht
  exact⟨u,hk▸hu,hle _ _ hc⟩
 ·exact hs.env _ _ hy
theorem WpL.ale {P:Program} {nt:Cf} {ops:Array Oper} {Q:St→Prop} {l:List Oper} {e:List (Nat × A)} {s:List (Option Ob)} (t:Nat) {a:A} (a':A) (ht:find e t=some a) (hle:ALe a a') (h:WpL P nt ops Q l ⟨(t,a')::e,s⟩):WpL P nt ops Q l ⟨e,s⟩:=WpL.le (Le.ale t a' ht hle) h
theorem Le.frzP {nt:Cf} {e:List (Nat × A)} {s:List (Option Ob)} (t i:Nat) {ty:TypeId} {wd:Nat} {cs:List C} (ht:find e t=some (.one (.ptr i 1 0 0))) (hi:s[i]?=some (some ⟨ty,wd,[cs]⟩)) (hsh:∀c∈cs,C.shut c=true) :
  Le nt ⟨e,s⟩ ⟨(t,.one (.pf cs))::e,s.set i none⟩:=fun H w0 S0 m0 m a w h=>by
 have hf:FrzD s (s.set i none) (fun k=>k == i):=⟨by simp,fun k b hb=>by
  by_cases hki:i=k
  ·subst hki;rw [List.getElem?_set_self (List.getElem?_eq_some_iff.1 hi).1] at hb;cases hb
  ·rw [List.getElem?_set_ne hki] at hb
   exact⟨by simp;omega,hb⟩⟩
 refine⟨m,fun k x hx=>?_,h.nts,h.df,hf.sto h.sto,h.fr,fun i ob l h1 h2=>h.own i ob l (hf.get i ob h1).2 h2,h.up,h.n0⟩
 simp only [find] at hx
 split at hx
 ·rename_i hk
  cases hx
  obtain⟨u,hu,hc⟩:=h.env _ _ ht
  exact⟨u,hk▸hu,hf.val h.sto (show AD s _ (.one (.ptr i 1 0 0)) (.one (.pf cs)) from FzD.ptr (by simp) hi hsh) hc⟩
 ·obtain⟨u,hu,hc⟩:=h.env _ _ hx
  exact⟨u,hu,hf.val h.sto (AD.same _ _ _) hc⟩
theorem WpL.frzP {P:Program} {nt:Cf} {ops:Array Oper} {Q:St→Prop} {l:List Oper} {e:List (Nat × A)} {s:List (Option Ob)} (t i:Nat) {ty:TypeId} {wd:Nat} {cs:List C} (ht:find e t=some (.one (.ptr i 1 0 0))) (hi:s[i]?=some (some ⟨ty,wd,[cs]⟩)) (hsh:∀c∈cs,C.shut c=true)
  (h:WpL P nt ops Q l ⟨(t,.one (.pf cs))::e,s.set i none⟩):WpL P nt ops Q l ⟨e,s⟩:=WpL.le (Le.frzP t i ht hi hsh) h
theorem WpA.frzP {P:Program} {nt:Cf} {Q:Exit→St→Prop} {l:Code} {e:List (Nat × A)} {s:List (Option Ob)} (t i:Nat) {ty:TypeId} {wd:Nat} {cs:List C} (ht:find e t=some (.one (.ptr i 1 0 0))) (hi:s[i]?=some (some ⟨ty,wd,[cs]⟩)) (hsh:∀c∈cs,C.shut c=true)
  (h:WpA P nt l Q ⟨(t,.one (.pf cs))::e,s.set i none⟩):WpA P nt l Q ⟨e,s⟩:=WpA.le (Le.frzP t i ht hi hsh) h
section
variable {P:Program} {nt:Cf} {e:List (Nat × A)} {ds:List (Option Tmp)} {d:Option Tmp} {op:Op} {ty:TypeId} {pos:String} {aft:Array Edge} {g:Option (Nat × Bool)} {s:List (Option Ob)}
theorem OpS.effO {x:A} {s1 s':List (Option Ob)} (e':List (Nat × A)) (hg:eP ds e g=some true) (he:(e'.all fun t=>decide (t.1<nt.nt)&&(looks ds op.operands.toList g).contains t.1)=true) (hf:Sub e e') (hq:OpA P nt op ty ⟨e',s⟩ x ⟨e',s1⟩) (hs1:s1=s'):OpS P nt ds ⟨d,op,ty,pos,aft,g⟩ e s x s':=fun H w0 S0 m0 mm a w hs hk=>by
 subst hs1
 rw [tU hk hg,if_pos rfl]
 have hkey:∀{l:List (Nat × A)} {t:Nat} {y:A},find l t=some y→∃z∈l,z.1=t:=by
  intro l
  induction l with
  | nil=>intro t y h;simp [find] at h
  | cons z l ih =>
   obtain⟨j,x⟩:=z
   intro t y h
   simp only [find] at h
   split at h
   ·rename_i e;exact⟨(j,x),by simp,e.symm⟩
   ·obtain⟨z,hz,e⟩:=ih h;exact⟨z,by simp [hz],e⟩
 have hs2:Sim H w0 S0 m0 nt ⟨e',s⟩ mm a w:=by
  refine⟨fun t y hy=>?_,hs.nts,hs.df,hs.sto,hs.fr,hs.own,hs.up,hs.n0⟩
  obtain⟨z,hz,e1⟩:=hkey hy
  have h1:=List.all_eq_true.1 he z hz
  simp only [Bool.and_eq_true,decide_eq_true_eq,List.contains_iff_mem,e1] at h1
  have h2:=hk t h1.2 y (hf.find hy)
  have hlt:t<a.tmps.size:=by rw [hs.nts];exact h1.1
  refine⟨a.tmps[t],Array.getElem?_eq_getElem hlt,?_⟩
  have:a.eval (.tmp t)=a.tmps[t]:=by simp [Act.eval,Array.getElem?_eq_getElem hlt,hlt]
  rw [←this];exact h2
 obtain⟨u,w',m',hr,h1,h2,h3⟩:=hq H w0 S0 m0 mm a w hs2
 have h1':Sim H w0 S0 m0 nt ⟨[],s1⟩ m' a w':=⟨fun t y hy=>by simp [find] at hy,h1.nts,h1.df,h1.sto,h1.fr,h1.own,h1.up,h1.n0⟩
 unfold OpTo
 rw [gZ]
 rcases hr with hr|⟨hr,rfl⟩
 ·rw [hr];exact⟨m',h1',h2,h3⟩
 ·rw [hr];exact⟨m',h1',h2,h3⟩
end
theorem EN {P:Program} {ty:TypeId} {s:List (Option Ob)} {ρA:Operand→Option A} {t e:TypeId} {sz:Nat} {x lo hi mx:Operand} {wd:Nat} {es:List (List C)} {l h k:Int} (hx:ρA x=some (.one (.sl wd es))) (ht:lN P t=some (e,sz)) (hw:wd=sz)
  (hl:ρA lo=some (.one (.v (.int .i64 l)))) (hh:ρA hi=some (.one (.v (.int .i64 h)))) (hk:ρA mx=some (.one (.v (.int .i64 k)))) (h0:0≤l) (h1:l<h) (h2:h≤k) (h3:k≤es.length) :
  Quiet P (.slice t x (some lo) (some hi) (some mx)) ty s ρA (.one (.sl wd ((es.take h.toNat).drop l.toNat))):=by
 subst hw
 intro H m w ρ hs hρ
 have g1:=hρ x (by simp [Op.operands]) _ hx
 have gl:=hρ lo (by simp [Op.operands]) _ hl
 have gh:=hρ hi (by simp [Op.operands]) _ hh
 have gk:=hρ mx (by simp [Op.operands]) _ hk
 simp only [Ca,Cc] at g1 gl gh gk
 obtain⟨hu,i,hi',hisz⟩:=pO ht
 have hun:(underlying t).run P w=.ok (.slice e) w:=by simp [underlying,program,bind,Sem.bind,Sem.run,hu,pure]
 have hszr:(sizeOf e).run P w=.ok wd w:=by simp [sizeOf,typeInfo,program,Sem.run,hi',bind,Sem.bind,pure,hisz]
 have hlen:((es.take h.toNat).drop l.toNat).length=h.toNat-l.toNat:=by rw [List.length_drop,List.length_take];omega
 have hw1:=g1.1
 have hwd:∀e∈(es.take h.toNat).drop l.toNat,e.length=wd:=fun e he=>hw1 e (List.mem_of_mem_take (List.mem_of_mem_drop he))
 rcases g1 with ⟨-,⟨rfl,-⟩|⟨b,o,cap,eu,hc,hcm,hr⟩⟩
 ·simp at h3;omega
 have r1:=kR (P:=P) (w:=w) (k:=.i64) (n:=k) (y:=cap) (code:=.slice3Acap) (by omega) (by omega)
 have r2:=kR (P:=P) (w:=w) (k:=.i64) (n:=h) (y:=k.toNat) (code:=.slice3B) (by omega) (by omega)
 have r3:=kR (P:=P) (w:=w) (k:=.i64) (n:=l) (y:=h.toNat) (code:=.slice3C) (by omega) (by omega)
 have hb:(Instr.sliceBounds true es.length cap (some (.int .i64 l)) (some (.int .i64 h)) (some (.int .i64 k))).run P w=.ok (l.toNat,h.toNat,k.toNat) w:=by
  simp only [Instr.sliceBounds,Sem.run_bind,r1,r2,r3,Result.andThen_ok,Sem.run_pure,if_true,Option.isSome_some]
 refine⟨.slice (some ⟨b,o+l.toNat*wd,none⟩) (h.toNat-l.toNat) (k.toNat-l.toNat),?_,?_⟩
 ·simp only [execOp,Instr.sliceAt,eu,gl.1,gh.1,gk.1,Sem.run_bind,hun,Result.andThen_ok,Instr.slice,Option.map_some,hb,hszr,Sem.run_pure]
  rw [if_neg (by omega)]
  simp only [Option.map_some,mM]
 ·simp only [Ca,Cc]
  refine⟨hwd,.inr ⟨b,o+l.toNat*wd,k.toNat-l.toNat,by rw [hlen],by rw [hlen];omega,by omega,?_⟩⟩
  exact Crow.drop (hr.take h.toNat) (fun e he=>hw1 e (List.mem_of_mem_take he)) l.toNat (by rw [List.length_take];omega)
end Go.Proofs.YtaeioidifpebdaaGreatDoor
end
section
namespace Go.Proofs.YtaeioidifpebdaaGreatDoor
open Go Go.RowKit Go.Lib
set_option linter.unusedSimpArgs false
set_option linter.unusedVariables false
set_option maxHeartbeats 4000000
set_option maxRecDepth 100000
theorem vO (s:ByteArray):Pure Tryz.prog 12 [.one (.v (.string s))] (.one (.v (.bool (oQ s)))):=by
 refine fi Tryz.func12 Tryz.ntmps12 Tryz.results12 ?_
 repeat (first|(apply fw;focus ((with_reducible constructor)<;>constructor))|((first|with_reducible refine ga _ rfl fun Y y=>?_|apply ri);simp only [zb,seval,cF];refine fz y ?_;clear y Y))
 iterate 22
  refine WpA.cond rfl (fun hc=>?_) (fun hc=>?_)
  focus
   simp only [hc]
   repeat (first|(apply fw;focus ((with_reducible constructor)<;>constructor))|((first|with_reducible refine ga _ rfl fun Y y=>?_|apply ri);simp only [zb,seval,cF];refine fz y ?_;clear y Y))
   refine ye (by simp only [zb,seval];rfl) (by simp only [zv];rfl) ?_
   simp [oQ,vI,dN,cE,lF,cW,dS,gG,rK,sIf,eE,lR,mT,gP,fP,mV,lG,sU,sOr,lH,fY,sDo,jE,rL,hc]
  repeat (first|(apply fw;focus ((with_reducible constructor)<;>constructor))|((first|with_reducible refine ga _ rfl fun Y y=>?_|apply ri);simp only [zb,seval,cF];refine fz y ?_;clear y Y))
 refine ye (by simp only [zb,seval];rfl) (by simp only [zv];rfl) ?_
 simp [oQ,vI,dN,cE,lF,cW,dS,gG,rK,sIf,eE,lR,mT,gP,fP,mV,lG,sU,sOr,lH,fY,sDo,jE,rL, *]
theorem nU (d:D) (s:ByteArray):Pure Tryz.prog 82 [.agg d.cc,.one (.v (.string s))] (.one (.v (.bool (gY d s)))):=by
 rw [D.cc_eq]
 by_cases hk:d.k=6
 ·have h6:(d.k == 6)=true:=by simp [hk]
  refine fi Tryz.func82 Tryz.ntmps82 Tryz.results82 ?_
  repeat (first|(apply fw;focus ((with_reducible constructor)<;>constructor))|((first|with_reducible refine ga _ rfl fun Y y=>?_|apply ri);simp only [zb,seval,w82,cF,h6];refine fz y ?_;clear y Y))
  refine ye (by simp only [zb,seval,w82];rfl) (by simp only [zv];rfl) ?_
  simp [gY,hk]
 ·have h6:(d.k == 6)=false:=by simp [hk]
  refine fi Tryz.func82 Tryz.ntmps82 Tryz.results82 ?_
  repeat (first|(apply fw;focus ((with_reducible constructor)<;>constructor))|((first|with_reducible refine ga _ rfl fun Y y=>?_|apply ri);simp only [zb,seval,w82,cF,h6];refine fz y ?_;clear y Y))
  refine ye (by simp only [zb,seval,w82];rfl) (by simp only [zv];rfl) ?_
  simp [gY,hk]
theorem kJ (d:D):Pure Tryz.prog 85 [.agg d.cc] (.tup [.one (.v (.string (bR d).1)),.one (.er (bR d).2)]):=by
 have hw:Pure Tryz.prog 84 [.one (.v (.string ⟨#[118,97,114,105,97,98,108,101]⟩)),.one (.gv 1)] (.one (.er 2)):=dD _ 1
 have hky:=vO d.t
 rw [D.cc_eq]
 by_cases hk:d.k=6
 ·have h6:(d.k != 6)=false:=by simp [hk]
  cases hb:oQ d.t with
  | true =>
   rw [show bR d=(e0,2) from if_neg (by simp [hk,hb])]
   rw [hb] at hky
   refine fi Tryz.func85 Tryz.ntmps85 Tryz.results85 ?_
   repeat (first|(apply fw;focus ((with_reducible constructor)<;>constructor))|((first|with_reducible refine ga _ rfl fun Y y=>?_|(refine ca ?_;apply Exists.intro;constructor;assumption;intro Y y)|apply ri);simp only [zb,seval,w85,h6];refine fz y ?_;clear y Y))
   refine ye (by simp only [zb,seval,w85];rfl) (by simp only [zv];rfl) ?_
   rfl
  | false =>
   rw [show bR d=(d.t,0) from if_pos ⟨hk,hb⟩]
   rw [hb] at hky
   refine fi Tryz.func85 Tryz.ntmps85 Tryz.results85 ?_
   repeat (first|(apply fw;focus ((with_reducible constructor)<;>constructor))|((first|with_reducible refine ga _ rfl fun Y y=>?_|(refine ca ?_;apply Exists.intro;constructor;assumption;intro Y y)|apply ri);simp only [zb,seval,w85,h6];refine fz y ?_;clear y Y))
   refine ye (by simp only [zb,seval,w85];rfl) (by simp only [zv];rfl) ?_
   rfl
 ·have h6:(d.k != 6)=true:=by simp [hk]
  rw [show bR d=(e0,2) from if_neg (by simp [hk])]
  refine fi Tryz.func85 Tryz.ntmps85 Tryz.results85 ?_
  repeat (first|(apply fw;focus ((with_reducible constructor)<;>constructor))|((first|with_reducible refine ga _ rfl fun Y y=>?_|(refine ca ?_;apply Exists.intro;constructor;assumption;intro Y y)|apply ri);simp only [zb,seval,w85,h6];refine fz y ?_;clear y Y))
  refine ye (by simp only [zb,seval,w85];rfl) (by simp only [zv];rfl) ?_
  rfl
theorem eU (d:D):(bR d).2≤2:=by unfold bR;split<;>simp
theorem DB (d:D):(bF d).1=gJ d:=by unfold bF gJ;split<;>rfl
theorem iR (d:D):(bF d).2≤2:=by unfold bF;split<;>simp
theorem gC (d:D) (hok:d.Ok) (hlen:(items d).length≤1000000000):Pure Tryz.prog 88 [.agg d.cc] (.tup [.one (.sl 6 ((bF d).1.map D.cc)),.one (.er (bF d).2)]):=by
 have hw:Pure Tryz.prog 84 [.one (.v (.string ⟨#[108,105,115,116]⟩)),.one (.gv 1)] (.one (.er 2)):=dD _ 1
 have hi:=AG d hok hlen
 rw [DB]
 by_cases he:fS d=0
 ·rw [show (bF d).2=0 by simp [bF,he]]
  rw [show decide (fS d=0)=true from decide_eq_true he] at hi
  refine fi Tryz.func88 Tryz.ntmps88 Tryz.results88 ?_
  repeat (first|(apply fw;focus ((with_reducible constructor)<;>constructor))|((first|with_reducible refine ga _ rfl fun Y y=>?_|(refine ca ?_;apply Exists.intro;constructor;assumption;intro Y y)|apply ri);simp only [zb,seval,w88,kcc];refine fz y ?_;clear y Y))
  refine ye (by simp only [zb,seval,w88];rfl) (by simp only [zv];rfl) ?_
  rfl
 ·rw [show (bF d).2=2 by simp [bF,he],show gJ d=[] from if_neg he,List.map_nil]
  rw [show decide (fS d=0)=false from decide_eq_false he] at hi
  refine fi Tryz.func88 Tryz.ntmps88 Tryz.results88 ?_
  repeat (first|(apply fw;focus ((with_reducible constructor)<;>constructor))|((first|with_reducible refine ga _ rfl fun Y y=>?_|(refine ca ?_;apply Exists.intro;constructor;assumption;intro Y y)|apply ri);simp only [zb,seval,w88,kcc];refine fz y ?_;clear y Y))
  refine yl (by simp only [zb,seval,w88];rfl) (by simp only [zv];rfl) ((by exact ae)) rfl
noncomputable def lW (o:Option (List D)):A:=match o with|some l=>.tup [.one (.sl 6 (l.map D.cc)),.one (.v (.bool true))]|none=>.tup [.one (.sl 6 []),.one (.v (.bool false))]
theorem oY (n:Nat) (d:D) (s:ByteArray) (hd:Gd n d) (hn:n≤1000000000):Pure Tryz.prog 55 [.agg d.cc,.one (.v (.string s))] (lW (eM d s)):=by
 by_cases hk:d.k=7
 ·have h7:(d.k != 7)=false:=by simp [hk]
  obtain⟨hl,hf,hs,hm⟩:=hd.pair hk
  have hsy:=nU d.fst s
  have hit:=AG d.snd hs.2.1 (by have:=hs.items.len;omega)
  rw [D.cc_eq d,hl]
  cases hb:gY d.fst s with
  | true =>
   rw [hb] at hsy
   by_cases he:fS d.snd=0
   ·rw [show eM d s=some (items d.snd) by unfold eM;rw [if_pos ⟨hk,hb⟩,if_pos he]]
    rw [show gJ d.snd=items d.snd from if_pos he,show decide (fS d.snd=0)=true from decide_eq_true he] at hit
    simp only [lW]
    refine fi Tryz.func55 Tryz.ntmps55 Tryz.results55 ?_
    repeat (first|(apply fw;focus ((with_reducible constructor)<;>constructor))|((first|with_reducible refine ga _ rfl fun Y y=>?_|(refine ca ?_;apply Exists.intro;constructor;assumption;intro Y y)|apply ri);simp only [zb,seval,w55,h7,List.map_cons,List.map_nil,kcc];refine fz y ?_;clear y Y))
    refine ye (by simp only [zb,seval,w55];rfl) (by simp only [zv];rfl) ?_
    rfl
   ·rw [show eM d s=none by unfold eM;rw [if_pos ⟨hk,hb⟩,if_neg he]]
    rw [show gJ d.snd=[] from if_neg he,show decide (fS d.snd=0)=false from decide_eq_false he] at hit
    simp only [lW]
    refine fi Tryz.func55 Tryz.ntmps55 Tryz.results55 ?_
    repeat (first|(apply fw;focus ((with_reducible constructor)<;>constructor))|((first|with_reducible refine ga _ rfl fun Y y=>?_|(refine ca ?_;apply Exists.intro;constructor;assumption;intro Y y)|apply ri);simp only [zb,seval,w55,h7,List.map_cons,List.map_nil,kcc];refine fz y ?_;clear y Y))
    refine yl (by simp only [zb,seval,w55];rfl) (by simp only [zv];rfl) ((by exact ae)) rfl
  | false =>
   rw [hb] at hsy
   rw [show eM d s=none by unfold eM;rw [if_neg (by simp [hb])]]
   simp only [lW]
   refine fi Tryz.func55 Tryz.ntmps55 Tryz.results55 ?_
   repeat (first|(apply fw;focus ((with_reducible constructor)<;>constructor))|((first|with_reducible refine ga _ rfl fun Y y=>?_|(refine ca ?_;apply Exists.intro;constructor;assumption;intro Y y)|apply ri);simp only [zb,seval,w55,h7,List.map_cons,List.map_nil,kcc];refine fz y ?_;clear y Y))
   refine yl (by simp only [zb,seval,w55];rfl) (by simp only [zv];rfl) ((by exact ae)) rfl
 ·have h7:(d.k != 7)=true:=by simp [hk]
  rw [show eM d s=none by unfold eM;rw [if_neg (by simp [hk])]]
  rw [D.cc_eq d]
  simp only [lW]
  refine fi Tryz.func55 Tryz.ntmps55 Tryz.results55 ?_
  repeat (first|(apply fw;focus ((with_reducible constructor)<;>constructor))|((first|with_reducible refine ga _ rfl fun Y y=>?_|apply ri);simp only [zb,seval,w55,h7];refine fz y ?_;clear y Y))
  refine yl (by simp only [zb,seval,w55];rfl) (by simp only [zv];rfl) ((by exact ae)) rfl
def rsA (r:Rs):A:=.tup [.agg r.1.cc,.one (.er r.2)]
theorem AJ (l:List K):(l.map K.cc).length=l.length:=List.length_map ..
theorem gT:Pure Tryz.prog 58 [] (.agg bU.cc):=by
 have hc:=iJ (jR 9) ⟨by decide,by decide,by simp,by decide,by decide,trivial⟩
 refine fi Tryz.func58 Tryz.ntmps58 Tryz.results58 ?_
 repeat (first|(apply fw;focus ((with_reducible constructor)<;>constructor))|((first|with_reducible refine ga _ rfl fun Y y=>?_|apply ri);simp only [zb,seval,w58,kcc];refine fz y ?_;clear y Y))
 refine WpL.call rfl (aB (P:=Tryz.prog) rfl) (CallA.shut rfl rfl (by kernel_rfl) (by first|exact ALes.refl _|((try simp only [rcc]);(repeat (first|exact ALes.refl _|refine ALes.cons ?_ ?_|exact ALe.refl _|exact ALe.nil|refine ALe.agg ?_|exact CLes.refl _|refine CLes.nil ?_|refine CLes.cons ?_)))) (by first|rfl|simp [dF,ksh,rcc]) (hc) ?_)
 (refine WpL.go _ rfl fun Y y=>?_);repeat (first|(apply fw;focus ((with_reducible constructor)<;>constructor))|((first|with_reducible refine ga _ rfl fun Y y=>?_|apply ri);simp only [zb,seval,w58,kcc];refine fz y ?_;clear y Y))
 refine ye (by simp only [zb,seval,w58,kcc];rfl) (by simp only [zv,kcc];rfl) ?_
 rfl
theorem nG (k:Int) (hk:0≤k∧k≤10):Pure Tryz.prog 139 [.one (.v (.int .i64 k))] (.agg (mX k).cc):=by
 have hc:=iJ (jR k) ⟨by omega,by decide,by simp,by decide,by decide,trivial⟩
 refine fi Tryz.func139 Tryz.ntmps139 Tryz.results139 ?_
 repeat (first|(apply fw;focus ((with_reducible constructor)<;>constructor))|((first|with_reducible refine ga _ rfl fun Y y=>?_|apply ri);simp only [zb,seval,VV,kcc];refine fz y ?_;clear y Y))
 refine WpL.call rfl (aB (P:=Tryz.prog) rfl) (CallA.shut rfl rfl (by kernel_rfl) (by first|exact ALes.refl _|((try simp only [rcc]);(repeat (first|exact ALes.refl _|refine ALes.cons ?_ ?_|exact ALe.refl _|exact ALe.nil|refine ALe.agg ?_|exact CLes.refl _|refine CLes.nil ?_|refine CLes.cons ?_)))) (by first|rfl|simp [dF,ksh,rcc]) (hc) ?_)
 (refine WpL.go _ rfl fun Y y=>?_);repeat (first|(apply fw;focus ((with_reducible constructor)<;>constructor))|((first|with_reducible refine ga _ rfl fun Y y=>?_|apply ri);simp only [zb,seval,VV,kcc];refine fz y ?_;clear y Y))
 refine ye (by simp only [zb,seval,VV,kcc];rfl) (by simp only [zv,kcc];rfl) ?_
 rfl
theorem oZ (l:List K):Pure Tryz.prog 60 [.one (.sl 11 (l.map K.cc))] (.agg (gR l).cc):=by
 by_cases h1:l.length=1
 ·match l,h1 with
  | [x],_ =>
   simp only [List.map_cons,List.map_nil,gR]
   refine fi Tryz.func60 Tryz.ntmps60 Tryz.results60 ?_
   repeat (first|(apply fw;focus ((with_reducible constructor)<;>constructor))|((first|with_reducible refine ga _ rfl fun Y y=>?_|apply ri);simp only [zb,seval,w60,kcc];refine fz y ?_;clear y Y))
   refine ye (by simp only [zb,seval,w60,kcc];rfl) (by simp only [zv,kcc];rfl) ?_
   rfl
 ·have hs:gR l=.mk 7 e0 e0 [] cH l:=by
   match l,h1 with
   | [],_=>rfl
   | a::b::r,_=>rfl
  have hl:((l.length:Int) == 1)=false:=by simp;omega
  rw [hs]
  refine fi Tryz.func60 Tryz.ntmps60 Tryz.results60 ?_
  repeat (first|(apply fw;focus ((with_reducible constructor)<;>constructor))|((first|with_reducible refine ga _ rfl fun Y y=>?_|apply ri);simp only [zb,seval,w60,kcc,AJ,hl];refine fz y ?_;clear y Y))
  refine yl (by simp only [zb,seval,w60,kcc];rfl) (by simp only [zv,kcc];rfl) ((by simp only [rcc];exact ae)) rfl
theorem jT (ps:List ByteArray) (rest:ByteArray) (b:K) (hlen:ps.length≤1000000000):Pure Tryz.prog 107 [.one (.sl 1 (dQ ps)),.one (.v (.string rest)),.agg b.cc] (rsA (fQ ps rest b)):=by
 have hw:Pure Tryz.prog 84 [.one (.v (.string ⟨#[108,97,109,98,100,97]⟩)),.one (.gv 0)] (.one (.er 1)):=dD _ 0
 have hl:=dR ps
 have hw2:IntKind.i64.wrap ((ps.length:Int)+1)=(ps.length:Int)+1:=dA (by omega) (by omega)
 by_cases hr:rest=e0
 ·have hre:eqB rest ⟨#[]⟩=true:=aY hr
  have hne:(!eqB rest ⟨#[]⟩)=false:=by rw [hre];rfl
  by_cases hb:40<ps.length
  ·rw [show fQ ps rest b=(kz,1) by simp only [fQ,if_pos hr];exact if_pos (by omega)]
   have hgt:decide ((40:Int)<(ps.length:Int))=true:=by simp;omega
   refine fi Tryz.func107 Tryz.ntmps107 Tryz.results107 ?_
   repeat (first|(apply fw;focus ((with_reducible constructor)<;>constructor))|((first|with_reducible refine ga _ rfl fun Y y=>?_|(refine ca ?_;apply Exists.intro;constructor;assumption;intro Y y)|apply ri);simp only [zb,seval,GX,kcc,hl,cF,hre,hne,hgt,bne];refine fz y ?_;clear y Y))
   refine yl (by simp only [zb,seval,GX,kcc,rsA];rfl) (by simp only [zv,kcc,rsA];rfl) ((by simp only [rcc,rsA];exact ae)) rfl
  ·rw [show fQ ps rest b=(.mk 6 e0 rest ps cH [b],0) by simp only [fQ,if_pos hr];exact if_neg (by omega)]
   have hgt:decide ((40:Int)<(ps.length:Int))=false:=by simp;omega
   refine fi Tryz.func107 Tryz.ntmps107 Tryz.results107 ?_
   repeat (first|(apply fw;focus ((with_reducible constructor)<;>constructor))|((first|with_reducible refine ga _ rfl fun Y y=>?_|apply ri);simp only [zb,seval,GX,kcc,hl,cF,hre,hne,hgt,bne];refine fz y ?_;clear y Y))
   refine yl (by simp only [zb,seval,GX,kcc,rsA];rfl) (by simp only [zv,kcc,rsA];rfl) ((by simp only [rcc,rsA];exact ae)) rfl
 ·have hre:eqB rest ⟨#[]⟩=false:=aA hr
  have hne:(!eqB rest ⟨#[]⟩)=true:=by rw [hre];rfl
  by_cases hb:40<ps.length+1
  ·rw [show fQ ps rest b=(kz,1) by simp only [fQ,if_neg hr];exact if_pos (by omega)]
   have hgt:decide ((40:Int)<(ps.length:Int)+1)=true:=by simp;omega
   refine fi Tryz.func107 Tryz.ntmps107 Tryz.results107 ?_
   repeat (first|(apply fw;focus ((with_reducible constructor)<;>constructor))|((first|with_reducible refine ga _ rfl fun Y y=>?_|(refine ca ?_;apply Exists.intro;constructor;assumption;intro Y y)|apply ri);simp only [zb,seval,GX,kcc,hl,cF,hre,hne,hgt,hw2,bne];refine fz y ?_;clear y Y))
   refine yl (by simp only [zb,seval,GX,kcc,rsA];rfl) (by simp only [zv,kcc,rsA];rfl) ((by simp only [rcc,rsA];exact ae)) rfl
  ·rw [show fQ ps rest b=(.mk 6 e0 rest ps cH [b],0) by simp only [fQ,if_neg hr];exact if_neg (by omega)]
   have hgt:decide ((40:Int)<(ps.length:Int)+1)=false:=by simp;omega
   refine fi Tryz.func107 Tryz.ntmps107 Tryz.results107 ?_
   repeat (first|(apply fw;focus ((with_reducible constructor)<;>constructor))|((first|with_reducible refine ga _ rfl fun Y y=>?_|apply ri);simp only [zb,seval,GX,kcc,hl,cF,hre,hne,hgt,hw2,bne];refine fz y ?_;clear y Y))
   refine yl (by simp only [zb,seval,GX,kcc,rsA];rfl) (by simp only [zv,kcc,rsA];rfl) ((by simp only [rcc,rsA];exact ae)) rfl
theorem fM (l:List K):Pure Tryz.prog 91 [.one (.sl 11 (l.map K.cc))] (rsA (dL l)):=by
 have hw:Pure Tryz.prog 84 [.one (.v (.string ⟨#[99,97,108,108]⟩)),.one (.gv 0)] (.one (.er 1)):=dD _ 0
 by_cases hb:41<l.length
 ·rw [show dL l=(kz,1) from if_pos hb]
  have hgt:decide ((41:Int)<(l.length:Int))=true:=by simp;omega
  refine fi Tryz.func91 Tryz.ntmps91 Tryz.results91 ?_
  repeat (first|(apply fw;focus ((with_reducible constructor)<;>constructor))|((first|with_reducible refine ga _ rfl fun Y y=>?_|(refine ca ?_;apply Exists.intro;constructor;assumption;intro Y y)|apply ri);simp only [zb,seval,w91,kcc,AJ,hgt];refine fz y ?_;clear y Y))
  refine yl (by simp only [zb,seval,w91,kcc,rsA];rfl) (by simp only [zv,kcc,rsA];rfl) ((by simp only [rcc,rsA];exact ae)) rfl
 ·rw [show dL l=(fZ l,0) from if_neg hb]
  have hgt:decide ((41:Int)<(l.length:Int))=false:=by simp;omega
  refine fi Tryz.func91 Tryz.ntmps91 Tryz.results91 ?_
  repeat (first|(apply fw;focus ((with_reducible constructor)<;>constructor))|((first|with_reducible refine ga _ rfl fun Y y=>?_|apply ri);simp only [zb,seval,w91,kcc,AJ,hgt];refine fz y ?_;clear y Y))
  refine yl (by simp only [zb,seval,w91,kcc,rsA];rfl) (by simp only [zv,kcc,rsA];rfl) ((by simp only [rcc,rsA];exact ae)) rfl
theorem qB (a d:K):Pure Tryz.prog 127 [.agg a.cc,.agg d.cc] (.agg (kH a d).cc):=by
 have hp:=sM zV
 have hc:=fM [eL zV,a,d]
 rw [show dL [eL zV,a,d]=(fZ [eL zV,a,d],0) from rfl] at hc
 simp only [List.map_cons,List.map_nil,rsA] at hc
 refine fi Tryz.func127 Tryz.ntmps127 Tryz.results127 ?_
 repeat (first|(apply fw;focus ((with_reducible constructor)<;>constructor))|((first|with_reducible refine ga _ rfl fun Y y=>?_|apply ri);simp only [zb,seval,xY,kcc];refine fz y ?_;clear y Y))
 (refine WpA.draw1c 10 [8,9] [_,?_,?_] _ _ _ _ rfl rfl rfl (by kernel_rfl) (by kernel_rfl) (by kernel_rfl) (by kernel_rfl) rfl rfl rfl rfl (by decide) fun K8 hK8=>?_);rotate_left 2;simp only [zz] at hK8 ⊢;(refine Draw1.go fun K7 k=>?_);simp only [zb,seval,xY,kcc];(refine qz (k _ _ (by rfl) ?_));clear k K7;(simp only [zz,Nat.reduceAdd,Nat.reduceSub])
 refine Draw1.step (by rfl) (fun s9 _=>oz (hp)) ?_
 (refine Draw1.go fun K7 k=>?_);simp only [zb,seval,xY,kcc];(refine qz (k _ _ (by rfl) ?_));clear k K7;(simp only [zz,Nat.reduceAdd,Nat.reduceSub])
 refine Draw1.step (by rfl) (fun s9 _=>OpS.frozen (n:=3) (wd:=11) (ty:=31) (rows:=[(eL zV).cc,a.cc,d.cc]) (OpS.eff [(8,_),(9,_),(10,_)] rfl (by rfl) ⟨rfl,rfl,rfl,trivial⟩ (by simp only [zb,seval,xY,kcc];rfl) (by simp)) rfl (by simp [ksh])) ?_;simp only [bH]
 refine Draw1.step (by rfl) (fun s9 _=>oz (hc)) ?_
 (refine Draw1.go fun K7 k=>?_);simp only [zb,seval,xY,kcc];(refine qz (k _ _ (by rfl) ?_));clear k K7;(simp only [zz,Nat.reduceAdd,Nat.reduceSub])
 refine Draw1.eff 0 rfl rfl rfl (OpS.eff [] rfl (by rfl) trivial (by simp only [zb,seval,xY,kcc];rfl) (by first|(simp;done)|omega|(simp;omega))) ?_;(try simp only [bH]);(try ((refine Draw1.go fun K7 k=>?_);simp only [zb,seval,xY,kcc];(refine qz (k _ _ (by rfl) ?_));clear k K7;(simp only [zz,Nat.reduceAdd,Nat.reduceSub]);(try ((refine nz (hK8 _ ?_));clear hK8 K8;(refine WpL.go _ rfl fun Y y=>?_);repeat (first|(apply fw;focus ((with_reducible constructor)<;>constructor))|((first|with_reducible refine ga _ rfl fun Y y=>?_|apply ri);simp only [zb,seval,xY,kcc];refine fz y ?_;clear y Y))))))
 refine Draw1.eff 1 rfl rfl rfl (OpS.eff [(5,_),(13,_)] rfl (by rfl) ⟨rfl,rfl,trivial⟩ (by simp only [zb,seval,xY,kcc];rfl) (by first|(simp;done)|omega|(simp;omega))) ?_;(try simp only [bH]);(try ((refine Draw1.go fun K7 k=>?_);simp only [zb,seval,xY,kcc];(refine qz (k _ _ (by rfl) ?_));clear k K7;(simp only [zz,Nat.reduceAdd,Nat.reduceSub]);(try ((refine nz (hK8 _ ?_));clear hK8 K8;(refine WpL.go _ rfl fun Y y=>?_);repeat (first|(apply fw;focus ((with_reducible constructor)<;>constructor))|((first|with_reducible refine ga _ rfl fun Y y=>?_|apply ri);simp only [zb,seval,xY,kcc];refine fz y ?_;clear y Y))))))
 refine ye (by simp only [zb,seval,xY,kcc];rfl) (by simp only [zv,kcc];rfl) ?_
 rfl
end Go.Proofs.YtaeioidifpebdaaGreatDoor
end
