/-
 Laid together: Drv18, Alk18, LawBody, LawDerived.
-/
import Derived.Test.YtaeioidifpebdaaGreatDoorGC
import Derived.Test.YtaeioidifpebdaaGreatDoorGD
import Derived.Test.YtaeioidifpebdaaGreatDoorGA
section
namespace Go.Proofs.YtaeioidifpebdaaGreatDoor
open Go Go.RowKit Go.Lib
set_option linter.unusedSimpArgs false
set_option linter.unusedVariables false
set_option maxRecDepth 100000
def sB:ByteArray:=⟨#[98]⟩
theorem II:iP sB=false:=YC (by simp only [jM,List.mem_cons,List.not_mem_nil,or_false];decide)
theorem VC (s:ByteArray):(aE s).k≠7:=by show (6:Int)≠7;decide
theorem vE:exV.e=exK:=rfl
theorem vB:exV.b=boK:=rfl
theorem LM (E:D→Rs) (a:D):aL E [a]=([(E a).1],(E a).2):=by simp [aL,gW]
theorem XQ (E:D→Rs) (a b:D):aL E [a,b]=([(E a).1,(E b).1],max (E a).2 (E b).2):=by simp [aL,gW]
theorem PN (E:D→Rs) (a b c:D):aL E [a,b,c]=([(E a).1,(E b).1,(E c).1],max (max (E a).2 (E b).2) (E c).2):=by simp [aL,gW]
theorem rJ {n:Nat} {s:ByteArray} {r:List D} (h:Lit n (aB (aE s::r))) (hs:s∈jM):exK (aB (aE s::r))=bZ exV s r:=by
 rw [HU h.pl.two h.ok,oC _ hs]
theorem iE {n:Nat} {s:ByteArray} {r:List D} (h:Lit n (aB (aE s::r))) (hs:s∈jM) (h1:s≠cA) (h2:s≠bS):fX (aB (aE s::r))=bZ exV s r:=by
 rw [KY h.pl.two h.ok (xN _ h1) (xN _ h2),oC _ hs]
theorem LN {n:Nat} {a:D} {r:List D} (h:Lit n (aB (a::r))) (ha:a.k≠6):fX (aB (a::r))=((dA (aL exK (a::r)).1).1,max (aL exK (a::r)).2 (dA (aL exK (a::r)).1).2):=by
 rw [KY h.pl.two h.ok (by rw [gJ,GA ha];rfl) (by rw [gJ,GA ha];rfl),BV _ (.inl ha)];rfl
theorem DD {n:Nat} {l:List D} (h:Lit n (aB (aE cA::l))):fX (aB (aE cA::l))=(.mk 4 (fF exV l).1 e0 [] cJ [(fF exV l).2.1],(fF exV l).2.2):=by
 have hh:dL (aB (aE cA::l)) cA=some l:=by rw [gJ,oB,bH rfl];rfl
 have hg:=(iD (n:=(aB (aE cA::l)).msr+1) ⟨h.pl.two,h.ok,Nat.lt_succ_self _⟩ hh).1
 unfold fX
 rw [lR,hh]
 dsimp only
 rw [UM (xM _) hg]
theorem ZB {s:ByteArray} (hk:iP s=false) (hs:s.size≤3000):exK (aE s)=(bP s,0):=by
 rw [HU (PH s) (vL (by omega)),EJ _ hk]
theorem IJ {k:Int} (h:k=1∨k=2∨k=9):exK (eE k)=(dY (eE k),0):=by
 rw [HU (Lit.kind h).pl.two (Lit.kind h).ok,BW _ h]
theorem AJ {v:ByteArray} (hk:iP v=false) (b:List D):cY exV (aB [aE v]) b=(.mk 6 e0 e0 [v] cJ [(boK b).1],(boK b).2):=by
 unfold cY
 rw [wY hk]
 dsimp only
 rw [kJ [v] (by simp),vB]
 simp
theorem qC (ns:List ByteArray) (hn:ns.length≤40) (body:K) (l:List D) (hl:l.length≤40):dM exV ns body l=(jZ (.mk 6 e0 e0 ns cJ [body]::(aL exK l).1),(aL exK l).2):=by
 unfold dM
 dsimp only
 rw [kJ ns hn,jE (by simp [aL];omega),vE]
 simp
theorem RY:aK (aB [])=([],[],0):=by
 unfold aK
 rw [KB];rfl
theorem xO (l:List D):eV (aB l)=l:=by unfold eV;rw [lS,if_pos rfl,jD]
def fN (s:ByteArray) (x:D):D:=aB [aB [aE s,x]]
theorem WZ {v:ByteArray} {x y z:D} (hk:iP v=false) (hv:Lit 0 (aE v)) (hs:v.size≤3000) (hx:Lit 0 x) (hy:Lit 0 y) (hz:Lit 0 z) {n m:Nat} (h1:Lit n (aB [aE fH,fN v x,y,z])) (h2:Lit m (aB [aB [aE aQ,aB [aE v],y,z],x])) (h3:Lit m (aB [aE aQ,aB [aE v],y,z])) :
  fX (aB [aE fH,fN v x,y,z])=fX (aB [aB [aE aQ,aB [aE v],y,z],x]):=by
 rw [iE h1 (by simp [jM]) (by decide) (by decide),pQ,uB,if_neg (by show ¬(7:Int)=6;decide),fN,nL hk,qC [v] (by simp) _ _ (by simp),LM,tW,vB]
 rw [LN h2 (by show (7:Int)≠6;decide),XQ,rJ h3 (by simp [jM]),nD,AJ hk,jE (by simp)]
 simp
theorem VD {v:ByteArray} {x y z:D} (hk:iP v=false) (hv:Lit 0 (aE v)) (hs:v.size≤3000) (hx:Lit 0 x) (hy:Lit 0 y) (hz:Lit 0 z) {n m:Nat} (h1:Lit n (aB [aE jQ,fN v x,y])) (h2:Lit m (aB [aE fH,fN v x,aB [aE fH,aB [],y]])) (h3:Lit m (aB [aE fH,aB [],y])) :
  fX (aB [aE jQ,fN v x,y])=fX (aB [aE fH,fN v x,aB [aE fH,aB [],y]]):=by
 have e1:gE exV [fN v x,y]=kC exV ((aK (fN v x)).1.zip (aK (fN v x)).2.1) ((dM exV [] (boK [y]).1 []).1,max (max (aK (fN v x)).2.2 (boK [y]).2) (dM exV [] (boK [y]).1 []).2):=rfl
 have e2:∀s,kC exV [(v,x)] s=((dM exV [v] s.1 [x]).1,max s.2 (dM exV [v] s.1 [x]).2):=fun s=>rfl
 rw [iE h1 (by simp [jM]) (by decide) (by decide),MO,e1,fN,nL hk]
 dsimp only [List.zip_cons_cons,List.zip_nil_left]
 rw [e2,qC [v] (by simp) _ _ (by simp),qC [] (by simp) _ _ (by simp),LM]
 rw [show aB [aB [aE v,x]]=fN v x from rfl,iE h2 (by simp [jM]) (by decide) (by decide),pQ,uB,if_neg (by show ¬(7:Int)=6;decide),fN,nL hk,qC [v] (by simp) _ _ (by simp),LM,tW,vB]
 rw [PK h3.pl.two h3.ok ⟨xN _ (by decide),xN _ (by decide)⟩,rJ h3 (by simp [jM]),pQ,uB,if_neg (by show ¬(0:Int)=6;decide),RY,qC [] (by simp) _ _ (by simp),VV,vB]
 simp [aL,gW]
theorem XA {v:ByteArray} {x y z:D} (hk:iP v=false) (hv:Lit 0 (aE v)) (hs:v.size≤3000) (hx:Lit 0 x) (hy:Lit 0 y) (hz:Lit 0 z) {n m:Nat} (h1:Lit n (aB [aE nU,x,y])) (h2:Lit m (aB [aE sIf,x,y,eE 2])):fX (aB [aE nU,x,y])=fX (aB [aE sIf,x,y,eE 2]):=by
 have e1:dB exV true [x,y]=(aG (exK x).1 (exK y).1 (kI 2),max (exK y).2 (exK x).2):=rfl
 rw [iE h1 (by simp [jM]) (by decide) (by decide),QN,e1,iE h2 (by simp [jM]) (by decide) (by decide),tV,vE,PN,IJ (by simp)]
 simp [kI,Nat.max_comm]
theorem VE {v:ByteArray} {x y z:D} (hk:iP v=false) (hv:Lit 0 (aE v)) (hs:v.size≤3000) (hx:Lit 0 x) (hy:Lit 0 y) (hz:Lit 0 z) {n m:Nat} (h1:Lit n (aB [aE iR,x,y,z])) (h2:Lit m (aB [aE sIf,x,aB [aE bS,y,z],eE 9])) (h3:Lit m (aB [aE bS,y,z])):fX (aB [aE iR,x,y,z])=fX (aB [aE sIf,x,aB [aE bS,y,z],eE 9]):=by
 rw [iE h1 (by simp [jM]) (by decide) (by decide),MN,iE h2 (by simp [jM]) (by decide) (by decide),tV,vE,PN,IJ (by simp),rJ h3 (by simp [jM]),zB,vE]
 simp [bR]
theorem OE {v:ByteArray} {x y z:D} (hk:iP v=false) (hv:Lit 0 (aE v)) (hs:v.size≤3000) (hx:Lit 0 x) (hy:Lit 0 y) (hz:Lit 0 z) {n m:Nat} (h1:Lit n (aB [aE eB,x,y])) (h2:Lit m (aB [aE sIf,x,eE 9,y])):fX (aB [aE eB,x,y])=fX (aB [aE sIf,x,eE 9,y]):=by
 rw [iE h1 (by simp [jM]) (by decide) (by decide),GC,iE h2 (by simp [jM]) (by decide) (by decide),tV,vE,PN,IJ (by simp),wW]
 simp [bR]
theorem OG {v:ByteArray} {x y z:D} (hk:iP v=false) (hv:Lit 0 (aE v)) (hs:v.size≤3000) (hx:Lit 0 x) (hy:Lit 0 y) (hz:Lit 0 z) {n m:Nat} (h1:Lit n (aB [aE cA,aB [aE v,aE sB],y,z])) (h2:Lit m (aB [aE cA,aE v,aB [aE aQ,aB [aE sB],y,z]])) (h3:Lit m (aB [aE aQ,aB [aE sB],y,z])) :
  fX (aB [aE cA,aB [aE v,aE sB],y,z])=fX (aB [aE cA,aE v,aB [aE aQ,aB [aE sB],y,z]]):=by
 rw [DD h1,DD h2,yE,yE,if_pos (show (aB [aE v,aE sB]).k=7 from rfl),if_neg (show ¬(aE v).k=7 by show ¬(6:Int)=7;decide),vE,rJ h3 (by simp [jM]),nD,AJ II]
 rw [show (aB [aE v,aE sB]).fst=aE v from rfl,show (aB [aE v,aE sB]).snd=aB [aE sB] from rfl,AJ II,sL hk]
 simp
theorem VF {v:ByteArray} {x y z:D} (hk:iP v=false) (hv:Lit 0 (aE v)) (hs:v.size≤3000) (hx:Lit 0 x) (hy:Lit 0 y) (hz:Lit 0 z) {n m:Nat} (q1:fL x dX=false) (q2:fL y gU=false) (h1:Lit n (aB [aE iY,aB [x,y,z],aB [aE dX,z]])) (h2:Lit m (aB [aE sIf,x,aB [aE bS,y,z],z])) (h3:Lit m (aB [aE bS,y,z])) :
  fX (aB [aE iY,aB [x,y,z],aB [aE dX,z]])=fX (aB [aE sIf,x,aB [aE bS,y,z],z]):=by
 have e1:iC exV [aB [aE dX,z]]=exK z:=by
  rw [kK,xO]
  dsimp only
  rw [oB,bH rfl,if_pos rfl,if_pos rfl,vE,wW]
 rw [iE h1 (by simp [jM]) (by decide) (by decide),MP,kK,xO]
 dsimp only
 rw [q1,if_neg (by decide),q2,if_neg (by decide),e1,iE h2 (by simp [jM]) (by decide) (by decide),tV,vE,PN,rJ h3 (by simp [jM]),zB,vE]
 simp only [Prod.mk.injEq,true_and]
 omega
theorem RZ {v:ByteArray} {x y z:D} (hk:iP v=false) (hv:Lit 0 (aE v)) (hs:v.size≤3000) (hx:Lit 0 x) (hy:Lit 0 y) (hz:Lit 0 z) {n m:Nat} (h1:Lit n (aB [aE fH,aE v,fN sB x,y,z])) (h2:Lit m (aB [aB [aE dT,fN v (aB [aE aQ,aB [aE sB],y,z]),aE v],x])) (h3:Lit m (aB [aE dT,fN v (aB [aE aQ,aB [aE sB],y,z]),aE v])) (h4:Lit m (aB [aE aQ,aB [aE sB],y,z])) :
  fX (aB [aE fH,aE v,fN sB x,y,z])=fX (aB [aB [aE dT,fN v (aB [aE aQ,aB [aE sB],y,z]),aE v],x]):=by
 have e1:∀b r,jA exV [aE v,b,y,z]=(let bs:=aK b;let f:=eU bs.1 e0 (boK [y,z]).1;let x:=kB [(bL (aE v)).1] [f.1] (bP (bL (aE v)).1);let vs:=aL exK bs.2.1;let c:=dA (x.1::vs.1)
  (c.1,max (max (max (max (max (max (max (bL (aE v)).2 bs.2.2) (unl bs.1)) (boK [y,z]).2) f.2) x.2) vs.2) c.2)):=fun b (_:Unit)=>rfl
 have e2:∀f:K,(kB [v] [f] (bP v)).2=0:=fun f=>by
  unfold kB
  dsimp only
  rw [tW,kJ [v] (by simp),jE (by simp)];rfl
 rw [iE h1 (by simp [jM]) (by decide) (by decide),pQ,uB,if_pos (PB v),e1 _ (),fN,nL II]
 dsimp only
 rw [sL hk,kJ [sB] (by simp),LM,tW,jE (by simp),e2]
 rw [LN h2 (by show (7:Int)≠6;decide),XQ,rJ h3 (by simp [jM]),GD,IA,fN,nL hk,vE,LM,rJ h4 (by simp [jM]),nD,AJ II,vB,PK (PH v) hv.ok ⟨AG (VC v) _,AG (VC v) _⟩,ZB hk hs,jE (by simp),e2]
 simp
end Go.Proofs.YtaeioidifpebdaaGreatDoor
end
section
namespace Go.Proofs.YtaeioidifpebdaaGreatDoor
open Go Go.RowKit Go.Lib
set_option linter.unusedSimpArgs false
set_option linter.unusedVariables false
set_option maxHeartbeats 4000000
set_option maxRecDepth 100000
theorem jK {a b:D} (ha:Lit 6 a) (hb:Lit 6 b) (he:pH a=pH b):Pure Tryz.prog 24 [.agg a.cc,.agg b.cc] (.one (.v (.bool true))):=by
 have h1:=CQ a ha.ok ha.cnt ha.msr
 have h2:=CQ b hb.ok hb.cnt hb.msr
 have m1:=uD a ha.ok (ha.sm _) ha.cnt
 have m2:=uD b hb.ok (hb.sm _) hb.cnt
 have es:=CD (pH a).1 (pH a).1 (WU ha.ok ha.msr)
 rw [bH rfl] at es
 rw [ha.may] at m1
 rw [hb.may] at m2
 rw [←he] at h2
 simp only [onA] at h1 h2
 generalize pH a=r at *
 obtain⟨x,e⟩:=r
 dsimp only at *
 have hee:(e == e)=true:=by simp
 refine fi Tryz.func24 Tryz.ntmps24 Tryz.results24 ?_
 (refine WpA.seq ?_);(refine WpA.region ?_);(refine WpL.go _ rfl fun Y y=>?_);simp only [zb,seval,w24];(refine RunTo.fn y (by first|(simp;done)|omega|(simp;omega)) ?_);clear y Y;(refine WpL.nil ?_);(refine tH ?_)
 refine WpA.frzP 2 0 rfl rfl (D.cc_shut _) ?_
 simp only [zz]
 refine WpA.frzP 3 1 rfl rfl (D.cc_shut _) ?_
 simp only [zz]
 repeat (first|(apply fw;focus ((with_reducible constructor)<;>constructor))|((first|with_reducible refine ga _ rfl fun Y y=>?_|(refine ca ?_;apply Exists.intro;constructor;assumption;intro Y y)|apply ri);simp only [zb,seval,w24,kcc];refine fz y ?_;clear y Y))
 refine WpA.frzP 5 2 rfl rfl (K.cc_shut _) ?_
 simp only [zz]
 refine WpA.frzP 7 3 rfl rfl (K.cc_shut _) ?_
 simp only [zz]
 (refine WpA.draw0 15 _ _ _ rfl rfl rfl (by kernel_rfl) (by kernel_rfl) (by kernel_rfl) fun K8 hK8=>?_);simp only [zz] at hK8 ⊢;(refine Draw0.go fun K7 k=>?_);simp only [zb,seval,w24,kcc,hee];(refine qz (k _ _ ?_));clear k K7
 refine Draw0.step (oz (m1)) ?_
 (refine Draw0.go fun K7 k=>?_);simp only [zb,seval,w24,kcc,hee];(refine qz (k _ _ ?_));clear k K7
 refine Draw0.step (oz (m2)) ?_
 (refine Draw0.go fun K7 k=>?_);simp only [zb,seval,w24,kcc,hee];(refine qz (k _ _ ?_));clear k K7
 refine Draw0.step (oz (es)) ?_
 (refine Draw0.go fun K7 k=>?_);simp only [zb,seval,w24,kcc,hee];(refine qz (k _ _ ?_));clear k K7;(try ((refine Draw0.nil (hK8 _ ?_));clear hK8 K8;(refine WpL.go _ rfl fun Y y=>?_);repeat (first|(apply fw;focus ((with_reducible constructor)<;>constructor))|((first|with_reducible refine ga _ rfl fun Y y=>?_|apply ri);simp only [zb,seval,w24,kcc,hee];refine fz y ?_;clear y Y))))
 refine ye (by simp only [zb,seval,w24,kcc];rfl) (by simp only [zv,kcc];rfl) ?_
 rfl
theorem orT {b:Bool} {P:Prop} (h:P):b=true∨b=false∧P:=by cases b<;>simp [h]
theorem orF {b:Bool} {P:Prop} (h:P):b=false∨b=true∧P:=by cases b<;>simp [h]
theorem ZC {d:D} (hok:d.Ok):∃b:Bool,Pure Tryz.prog 16 [.agg d.cc] (.one (.v (.bool b)))∧(b=false→¬d.weigh p18 800<0):=⟨_,GY d hok,fun h=>by simpa using h⟩
theorem ZD {d:D} (hok:d.Ok) (hw:¬d.weigh p18 800<0):Pure Tryz.prog 20 [.agg d.cc] (.one (.v (.int .i64 d.depth))):=zJ d (by have:=(GZ hw).1;omega)
theorem ZE {d:D} (hok:d.Ok) (hw:¬d.weigh p18 800<0):Pure Tryz.prog 22 [.agg d.cc] (.one (.v (.bool (lP d)))):=uD d hok (HW _ d 800 (by omega) (by omega)) (by have:=(GZ hw).1;omega)
theorem ZF {d:D} (hok:d.Ok) (hw:¬d.weigh p18 800<0) (hd:¬50<d.depth) (hm:lP d=true):Lit 0 d:=Lit.of hok hw (by omega) (oA.1 hm).1
end Go.Proofs.YtaeioidifpebdaaGreatDoor
end
section
namespace Go.Proofs.YtaeioidifpebdaaGreatDoor
open Go Go.RowKit Go.Lib
set_option linter.unusedSimpArgs false
set_option linter.unusedVariables false
set_option maxHeartbeats 8000000
set_option maxRecDepth 100000
theorem LO (k:Int):(eE k).cc=[.v (.int .i64 k),.v (.int .i32 0),.v (.bool false),.sl 1 [],.v (.string ⟨#[]⟩),.sl 6 []]:=rcc.2.2.2.2.2.2.2.2.2.2.2.1 k
theorem LP (x y:D):((y.k == 6)=true∧eqB y.t ⟨#[61,62]⟩=true∧(fL y gU||fL x dX)=true)∨((y.k == 6)=true∧eqB y.t ⟨#[61,62]⟩=false∧(x.k == 6)=true∧eqB x.t ⟨#[101,108,115,101]⟩=(fL y gU||fL x dX))∨((y.k == 6)=true∧eqB y.t ⟨#[61,62]⟩=false∧(x.k == 6)=false∧(fL y gU||fL x dX)=false) ∨
  ((y.k == 6)=false∧(x.k == 6)=true∧eqB x.t ⟨#[101,108,115,101]⟩=(fL y gU||fL x dX))∨((y.k == 6)=false∧(x.k == 6)=false∧(fL y gU||fL x dX)=false):=by
 unfold fL gU dX
 have e:∀d:D,(d.k == 6)=decide (d.k=6):=fun d=>rfl
 rw [e,e]
 cases decide (y.k=6)<;>cases decide (x.k=6)<;>cases eqB y.t ⟨#[61,62]⟩<;>simp
theorem WpA.viaK {P:Program} {nt:Cf} {x y:Code} {Q Q':Exit→St→Prop} {st:St} (st':St) (hx:WpA P nt x (oT (fun s=>Le nt s st') Q) st) (hy:WpA P nt y Q' st'):WpA P nt x (oT (WpA P nt y Q') Q) st :=
 hx.mono fun e s h=>by
  cases e with
  | normal=>exact hy.le h
  | _=>exact h
theorem VG {v:ByteArray} {x y z:D} (hv:Lit 0 (aE v)) (hx:Lit 0 x) (hy:Lit 0 y) (hz:Lit 0 z):Lit 6 (aB [aE fH,fN v x,y,z])∧Lit 6 (aB [aB [aE aQ,aB [aE v],y,z],x])∧Lit 6 (aB [aE jQ,fN v x,y])∧Lit 6 (aB [aE fH,fN v x,aB [aE fH,aB [],y]])∧Lit 6 (aB [aE nU,x,y])∧Lit 6 (aB [aE sIf,x,y,eE 2])∧Lit 6 (aB [aE iR,x,y,z])∧Lit 6 (aB [aE sIf,x,aB [aE bS,y,z],eE 9])∧Lit 6 (aB [aE eB,x,y])∧Lit 6 (aB [aE sIf,x,eE 9,y])∧Lit 6 (aB [aE cA,aB [aE v,aE sB],y,z])∧Lit 6 (aB [aE cA,aE v,aB [aE aQ,aB [aE sB],y,z]])∧Lit 6 (aB [aE iY,aB [x,y,z],aB [aE dX,z]])∧Lit 6 (aB [aE sIf,x,aB [aE bS,y,z],z])∧Lit 6 (aB [aE fH,aE v,aB [aB [aE sB,x]],y,z])∧Lit 6 (aB [aB [aE dT,aB [aB [aE v,aB [aE aQ,aB [aE sB],y,z]]],aE v],x])∧Lit 6 (aB [aE aQ,aB [aE v],y,z])∧Lit 6 (aB [aE fH,aB [],y])∧Lit 6 (aB [aE bS,y,z])∧Lit 6 (aB [aE aQ,aB [aE sB],y,z])∧Lit 6 (aB [aE dT,aB [aB [aE v,aB [aE aQ,aB [aE sB],y,z]]],aE v]):=by
 have hB:Lit 2 (fN v x):=Lit.list (by simp only [List.mem_cons,List.not_mem_nil,or_false,forall_eq];exact Lit.list (by simp only [List.mem_cons,List.not_mem_nil,or_false,forall_eq_or_imp,forall_eq];exact⟨hv,hx⟩) (by simp)) (by simp)
 have q0:=fun n=>hv.le (Nat.zero_le n)
 have q1:=fun n=>hx.le (Nat.zero_le n)
 have q2:=fun n=>hy.le (Nat.zero_le n)
 have q3:=fun n=>hz.le (Nat.zero_le n)
 have q4:=fun n=>Lit.nil.le (Nat.zero_le n)
 have q5:=fun n=>(Lit.kind (k:=9) (by simp)).le (Nat.zero_le n)
 have q6:=fun n=>(Lit.kind (k:=2) (by simp)).le (Nat.zero_le n)
 repeat' first|apply And.intro|exact q0 _|exact q1 _|exact q2 _|exact q3 _|exact q4 _|exact q5 _|exact q6 _|exact hB.le (by decide)|exact (Lit.sym (by decide) (by decide)).le (Nat.zero_le _)|(refine Lit.list ?_ (by simp);simp only [List.mem_cons,List.not_mem_nil,or_false,forall_eq_or_imp,forall_eq])
theorem zU (v:ByteArray) (x y z:D) (hv:v.size≤140737488351232) (hx:x.Ok) (hy:y.Ok) (hz:z.Ok):Pure Tryz.prog 5 [.one (.v (.string v)),.agg x.cc,.agg y.cc,.agg z.cc] (.one (.v (.bool true))):=by
 have aw:=NM
 obtain⟨b1,h1,w1⟩:=ZC hx
 obtain⟨b2,h2,w2⟩:=ZC hy
 obtain⟨b3,h3,w3⟩:=ZC hz
 rcases orT (b:=b1) (orT (b:=b2) (orT (b:=b3) trivial)) with rfl|⟨rfl,rfl|⟨rfl,rfl|⟨rfl,-⟩⟩⟩
 iterate 3
  focus
   refine fi Tryz.func5 Tryz.ntmps5 Tryz.results5 ?_
   (refine WpA.seq ?_);(refine WpA.region ?_);(refine WpL.go _ rfl fun Y y=>?_);simp only [zb,seval,w5];(refine RunTo.fn y (by first|(simp;done)|omega|(simp;omega)) ?_);clear y Y;(refine WpL.nil ?_);(refine tH ?_)
   refine WpA.frzP 5 0 rfl rfl (D.cc_shut _) ?_
   simp only [zz]
   refine WpA.frzP 6 1 rfl rfl (D.cc_shut _) ?_
   simp only [zz]
   refine WpA.frzP 7 2 rfl rfl (D.cc_shut _) ?_
   simp only [zz]
   repeat (first|(apply fw;focus ((with_reducible constructor)<;>constructor))|((first|with_reducible refine ga _ rfl fun Y y=>?_|(refine ca ?_;apply Exists.intro;constructor;assumption;intro Y y)|apply ri);simp only [zb,seval,w5,kcc];refine fz y ?_;clear y Y))
   refine ye (by simp only [zb,seval,w5];rfl) (by simp only [zv];rfl) ?_
   rfl
 have w1:=w1 rfl
 have w2:=w2 rfl
 have w3:=w3 rfl
 have d1:=ZD hx w1
 have d2:=ZD hy w2
 have d3:=ZD hz w3
 have m1:=ZE hx w1
 have m2:=ZE hy w2
 have m3:=ZE hz w3
 have sv:=dW v
 have kk:=sO v
 obtain⟨b4,g4⟩:∃b,decide ((60:Int)<(v.size:Int))=b:=⟨_,rfl⟩
 obtain⟨b5,g5⟩:∃b,decide ((40:Int)<(x.depth:Int))=b:=⟨_,rfl⟩
 obtain⟨b6,g6⟩:∃b,decide ((40:Int)<(y.depth:Int))=b:=⟨_,rfl⟩
 obtain⟨b7,g7⟩:∃b,decide ((40:Int)<(z.depth:Int))=b:=⟨_,rfl⟩
 have m4:b4=false→Pure Tryz.prog 22 [.agg (aE v).cc] (.one (.v (.bool (lP (aE v))))):=fun e=>by
  subst e
  have:v.size≤60:=by simp at g4;omega
  exact uD (aE v) (vL hv) (by
   cases (aE v).ht with
   | zero=>trivial
   | succ k=>exact⟨by show v.size≤3000;omega,Nat.zero_le _,Nat.zero_le _,fun x hx=>by cases hx⟩) (by rw [pP];decide)
 have n1:lP x=true→b5=false→Lit 0 x:=fun h e=>ZF hx w1 (by subst e;simp at g5;omega) h
 have n2:lP y=true→b6=false→Lit 0 y:=fun h e=>ZF hy w2 (by subst e;simp at g6;omega) h
 have n3:lP z=true→b7=false→Lit 0 z:=fun h e=>ZF hz w3 (by subst e;simp at g7;omega) h
 have n4:lP (aE v)=true→b4=false→Lit 0 (aE v)∧v.size≤3000:=fun h e=>⟨Lit.sym ((jN v).1 (oA.1 h).1) (by subst e;simp at g4;omega),by subst e;simp at g4;omega⟩
 have n5:∀b,iP v=b→b=false→iP v=false:=fun b e e2=>by rw [e,e2]
 generalize lP x=c1 at *
 generalize lP y=c2 at *
 generalize lP z=c3 at *
 generalize lP (aE v)=c4 at *
 obtain⟨c5,hc5⟩:∃c5,iP v=c5:=⟨_,rfl⟩
 rw [hc5] at kk
 rcases orT (b:=b5) (orT (b:=b6) (orT (b:=b7) (orT (b:=b4) (orF (b:=c1) (orF (b:=c2) (orF (b:=c3) (orF (b:=c4) (orT (b:=c5) trivial)))))))) with rfl|⟨rfl,rfl|⟨rfl,rfl|⟨rfl,rfl|⟨rfl,rfl|⟨rfl,rfl|⟨rfl,rfl|⟨rfl,rfl|⟨rfl,rfl|⟨rfl,-⟩⟩⟩⟩⟩⟩⟩⟩⟩
 iterate 9
  focus
   try have m4:=m4 rfl
   refine fi Tryz.func5 Tryz.ntmps5 Tryz.results5 ?_
   (refine WpA.seq ?_);(refine WpA.region ?_);(refine WpL.go _ rfl fun Y y=>?_);simp only [zb,seval,w5];(refine RunTo.fn y (by first|(simp;done)|omega|(simp;omega)) ?_);clear y Y;(refine WpL.nil ?_);(refine tH ?_)
   refine WpA.frzP 5 0 rfl rfl (D.cc_shut _) ?_
   simp only [zz]
   refine WpA.frzP 6 1 rfl rfl (D.cc_shut _) ?_
   simp only [zz]
   refine WpA.frzP 7 2 rfl rfl (D.cc_shut _) ?_
   simp only [zz]
   repeat (first|(apply fw;focus ((with_reducible constructor)<;>constructor))|((first|with_reducible refine ga _ rfl fun Y y=>?_|(refine ca ?_;apply Exists.intro;constructor;assumption;intro Y y)|apply ri);simp only [zb,seval,w5,kcc,g4,g5,g6,g7];refine fz y ?_;clear y Y))
   refine ye (by simp only [zb,seval,w5];rfl) (by simp only [zv];rfl) ?_
   rfl
 have m4:=m4 rfl
 have hx:=n1 rfl rfl
 have hy:=n2 rfl rfl
 have hz:=n3 rfl rfl
 obtain⟨hv,hs⟩:=n4 rfl rfl
 have hk:iP v=false:=hc5
 obtain⟨u1,u2,u3,u4,u5,u6,u7,u8,u9,u10,u11,u12,u13,u14,u15,u16,u17,u18,u19,u20,u21⟩:=VG hv hx hy hz
 have S1:=dW fH
 have S2:=dW aQ
 have S3:=dW jQ
 have S4:=dW nU
 have S5:=dW sIf
 have S6:=dW iR
 have S7:=dW bS
 have S8:=dW eB
 have S9:=dW cA
 have S10:=dW sB
 have S11:=dW iY
 have S12:=dW dX
 have S13:=dW dT
 have L1:=aN [aE fH,fN v x,y,z] (by simp)
 have L2:=aN [aE v] (by simp)
 have L3:=aN [aE aQ,aB [aE v],y,z] (by simp)
 have L4:=aN [aB [aE aQ,aB [aE v],y,z],x] (by simp)
 have L5:=aN [aE jQ,fN v x,y] (by simp)
 have L6:=aN [] (by simp)
 have L7:=aN [aE fH,aB [],y] (by simp)
 have L8:=aN [aE fH,fN v x,aB [aE fH,aB [],y]] (by simp)
 have L9:=aN [aE nU,x,y] (by simp)
 have L10:=aN [aE sIf,x,y,eE 2] (by simp)
 have L11:=aN [aE iR,x,y,z] (by simp)
 have L12:=aN [aE bS,y,z] (by simp)
 have L13:=aN [aE sIf,x,aB [aE bS,y,z],eE 9] (by simp)
 have L14:=aN [aE eB,x,y] (by simp)
 have L15:=aN [aE sIf,x,eE 9,y] (by simp)
 have L16:=aN [aE v,aE sB] (by simp)
 have L17:=aN [aE cA,aB [aE v,aE sB],y,z] (by simp)
 have L18:=aN [aE sB] (by simp)
 have L19:=aN [aE aQ,aB [aE sB],y,z] (by simp)
 have L20:=aN [aE cA,aE v,aB [aE aQ,aB [aE sB],y,z]] (by simp)
 have L21:=aN [x,y,z] (by simp)
 have L22:=aN [aE dX,z] (by simp)
 have L23:=aN [aE iY,aB [x,y,z],aB [aE dX,z]] (by simp)
 have L24:=aN [aE sIf,x,aB [aE bS,y,z],z] (by simp)
 have L25:=aN [aE sB,x] (by simp)
 have L26:=aN [aB [aE sB,x]] (by simp)
 have L27:=aN [aE fH,aE v,aB [aB [aE sB,x]],y,z] (by simp)
 have L28:=aN [aE v,aB [aE aQ,aB [aE sB],y,z]] (by simp)
 have L29:=aN [aB [aE v,aB [aE aQ,aB [aE sB],y,z]]] (by simp)
 have L30:=aN [aE dT,aB [aB [aE v,aB [aE aQ,aB [aE sB],y,z]]],aE v] (by simp)
 have L31:=aN [aB [aE dT,aB [aB [aE v,aB [aE aQ,aB [aE sB],y,z]]],aE v],x] (by simp)
 have A1:=jK u1 u2 (sY u1.may u2.may (WZ hk hv hs hx hy hz u1 u2 u17))
 have A2:=jK u3 u4 (sY u3.may u4.may (VD hk hv hs hx hy hz u3 u4 u18))
 have A3:=jK u5 u6 (sY u5.may u6.may (XA hk hv hs hx hy hz u5 u6))
 have A4:=jK u7 u8 (sY u7.may u8.may (VE hk hv hs hx hy hz u7 u8 u19))
 have A5:=jK u9 u10 (sY u9.may u10.may (OE hk hv hs hx hy hz u9 u10))
 have A6:=jK u11 u12 (sY u11.may u12.may (OG hk hv hs hx hy hz u11 u12 u20))
 have A8:=jK u15 u16 (sY u15.may u16.may (RZ hk hv hs hx hy hz u15 u16 u21 u20))
 have A7:(fL y gU||fL x dX)=false→Pure Tryz.prog 24 [.agg (aB [aE iY,aB [x,y,z],aB [aE dX,z]]).cc,.agg (aB [aE sIf,x,aB [aE bS,y,z],z]).cc] (.one (.v (.bool true))):=fun e=>by
  obtain⟨q2,q1⟩:=Bool.or_eq_false_iff.1 e
  exact jK u13 u14 (sY u13.may u14.may (VF hk hv hs hx hy hz q1 q2 u13 u14 u19))
 have LX:=aN [aE v,x] (by simp)
 have LY:=aN [aB [aE v,x]] (by simp)
 simp only [List.map_cons,List.map_nil] at LX LY L1 L2 L3 L4 L5 L6 L7 L8 L9 L10 L11 L12 L13 L14 L15 L16 L17 L18 L19 L20 L21 L22 L23 L24 L25 L26 L27 L28 L29 L30 L31
 refine fi Tryz.func5 Tryz.ntmps5 Tryz.results5 ?_
 (refine WpA.seq ?_);(refine WpA.region ?_);(refine WpL.go _ rfl fun Y y=>?_);simp only [zb,seval,w5];(refine RunTo.fn y (by first|(simp;done)|omega|(simp;omega)) ?_);clear y Y;(refine WpL.nil ?_);(refine tH ?_)
 refine WpA.frzP 5 0 rfl rfl (D.cc_shut _) ?_
 simp only [zz]
 refine WpA.frzP 6 1 rfl rfl (D.cc_shut _) ?_
 simp only [zz]
 refine WpA.frzP 7 2 rfl rfl (D.cc_shut _) ?_
 simp only [zz]
 repeat (first|(apply fw;focus ((with_reducible constructor)<;>constructor))|((first|with_reducible refine ga _ rfl fun Y y=>?_|(refine ca ?_;apply Exists.intro;constructor;assumption;intro Y y)|apply ri);simp only [zb,seval,w5,kcc,dcc,g4,g5,g6,g7];refine fz y ?_;clear y Y))
 (refine WpL.frz 75 (6) (by rfl) (by first|rfl|(simp only [zz,kcc];rfl)|(simp only [zz,kcc])) (by first|rfl|(simp [kcc];done)|(simp [kcc];omega)) (by simp [ksh]) ?_);simp only [zz,kcc]
 refine cz (LX) ?_
 (refine WpL.go _ rfl fun Y y=>?_);repeat (first|(apply fw;focus ((with_reducible constructor)<;>constructor))|((first|with_reducible refine ga _ rfl fun Y y=>?_|apply ri);simp only [zb,seval,w5,kcc,dcc];refine fz y ?_;clear y Y))
 (refine WpL.frz 77 (7) (by rfl) (by first|rfl|(simp only [zz,kcc];rfl)|(simp only [zz,kcc])) (by first|rfl|(simp [kcc];done)|(simp [kcc];omega)) (by simp [ksh]) ?_);simp only [zz,kcc]
 refine cz (LY) ?_
 (refine WpL.go _ rfl fun Y y=>?_);repeat (first|(apply fw;focus ((with_reducible constructor)<;>constructor))|((first|with_reducible refine ga _ rfl fun Y y=>?_|apply ri);simp only [zb,seval,w5,kcc,dcc];refine fz y ?_;clear y Y))
 refine WpA.le (st':=⟨[(0,.one (.v (.string v))),(5,.one (.pf x.cc)),(6,.one (.pf y.cc)),(7,.one (.pf z.cc)),(9,.one (.ptr 3 1 0 0)),(10,.one (.ptr 4 1 0 0)),(11,.one (.ptr 5 1 0 0)),(12,.one (.ptr 8 1 0 0))],[none,none,none,some ⟨28,6,[(aE v).cc]⟩,some ⟨28,6,[(eE 9).cc]⟩,some ⟨28,6,[(eE 2).cc]⟩,none,none,some ⟨28,6,[(fN v x).cc]⟩]⟩) (Le.freeze (fun _=>false) (Frz.ofL ?_) ?_) ?_
 ·rw [LO,LO]
  simp only [FrzL,FzR,FzCs]
  repeat' first|exact FzC.same _ _ _|exact FzC.nil|exact FzCs.same _ _ _|exact rfl|exact trivial|refine And.intro ?_ ?_|(intro hz;exact absurd hz (by decide))
 ·simp only [SubZ]
  repeat' first|exact⟨_,rfl,FzA.same _ _ _⟩|exact trivial|refine And.intro ?_ ?_
 refine WpA.frzP 9 3 rfl rfl (D.cc_shut _) ?_
 simp only [zz]
 refine WpA.frzP 10 4 rfl rfl (D.cc_shut _) ?_
 simp only [zz]
 refine WpA.frzP 11 5 rfl rfl (D.cc_shut _) ?_
 simp only [zz]
 refine WpA.frzP 12 8 rfl rfl (D.cc_shut _) ?_
 simp only [zz]
 (refine WpA.draw0 36 _ _ _ rfl rfl rfl (by kernel_rfl) (by kernel_rfl) (by kernel_rfl) fun K8 hK8=>?_);simp only [zz] at hK8 ⊢;(refine Draw0.go fun K7 k=>?_);simp only [zb,seval,w5,kcc,dcc];(refine qz (k _ _ ?_));clear k K7
 refine Draw0.step (oz (S1)) ?_
 (refine Draw0.go fun K7 k=>?_);simp only [zb,seval,w5,kcc,dcc];(refine qz (k _ _ ?_));clear k K7
 refine Draw0.step (OpS.frozen (n:=4) (wd:=6) (ty:=28) (rows:=[(aE fH).cc,(fN v x).cc,y.cc,z.cc]) (OpS.eff [(79,_),(80,_),(81,_),(82,_)] rfl (by rfl) ⟨rfl,rfl,rfl,rfl,trivial⟩ (by simp only [zb,seval,w5,kcc,dcc];rfl) (by simp)) rfl (by simp [ksh])) ?_;simp only [bD]
 refine Draw0.step (oz (L1)) ?_
 (refine Draw0.go fun K7 k=>?_);simp only [zb,seval,w5,kcc,dcc];(refine qz (k _ _ ?_));clear k K7
 refine Draw0.step (oz (S2)) ?_
 (refine Draw0.go fun K7 k=>?_);simp only [zb,seval,w5,kcc,dcc];(refine qz (k _ _ ?_));clear k K7
 refine Draw0.step (OpS.frozen (n:=1) (wd:=6) (ty:=28) (rows:=[(aE v).cc]) (OpS.eff [(86,_)] rfl (by rfl) ⟨rfl,trivial⟩ (by simp only [zb,seval,w5,kcc,dcc];rfl) (by simp)) rfl (by simp [ksh])) ?_;simp only [bD]
 refine Draw0.step (oz (L2)) ?_
 (refine Draw0.go fun K7 k=>?_);simp only [zb,seval,w5,kcc,dcc];(refine qz (k _ _ ?_));clear k K7
 refine Draw0.step (OpS.frozen (n:=4) (wd:=6) (ty:=28) (rows:=[(aE aQ).cc,(aB [aE v]).cc,y.cc,z.cc]) (OpS.eff [(85,_),(88,_),(89,_),(90,_)] rfl (by rfl) ⟨rfl,rfl,rfl,rfl,trivial⟩ (by simp only [zb,seval,w5,kcc,dcc];rfl) (by simp)) rfl (by simp [ksh])) ?_;simp only [bD]
 refine Draw0.step (oz (L3)) ?_
 (refine Draw0.go fun K7 k=>?_);simp only [zb,seval,w5,kcc,dcc];(refine qz (k _ _ ?_));clear k K7
 refine Draw0.step (OpS.frozen (n:=2) (wd:=6) (ty:=28) (rows:=[(aB [aE aQ,aB [aE v],y,z]).cc,x.cc]) (OpS.eff [(92,_),(93,_)] rfl (by rfl) ⟨rfl,rfl,trivial⟩ (by simp only [zb,seval,w5,kcc,dcc];rfl) (by simp)) rfl (by simp [ksh])) ?_;simp only [bD]
 refine Draw0.step (oz (L4)) ?_
 (refine Draw0.go fun K7 k=>?_);simp only [zb,seval,w5,kcc,dcc];(refine qz (k _ _ ?_));clear k K7
 refine Draw0.step (oz (A1)) ?_
 (refine Draw0.go fun K7 k=>?_);simp only [zb,seval,w5,kcc,dcc];(refine qz (k _ _ ?_));clear k K7
 refine Draw0.step (oz (S3)) ?_
 (refine Draw0.go fun K7 k=>?_);simp only [zb,seval,w5,kcc,dcc];(refine qz (k _ _ ?_));clear k K7
 refine Draw0.step (OpS.frozen (n:=3) (wd:=6) (ty:=28) (rows:=[(aE jQ).cc,(fN v x).cc,y.cc]) (OpS.eff [(99,_),(100,_),(101,_)] rfl (by rfl) ⟨rfl,rfl,rfl,trivial⟩ (by simp only [zb,seval,w5,kcc,dcc];rfl) (by simp)) rfl (by simp [ksh])) ?_;simp only [bD]
 refine Draw0.step (oz (L5)) ?_
 (refine Draw0.go fun K7 k=>?_);simp only [zb,seval,w5,kcc,dcc];(refine qz (k _ _ ?_));clear k K7
 refine Draw0.step (oz (S1)) ?_
 (refine Draw0.go fun K7 k=>?_);simp only [zb,seval,w5,kcc,dcc];(refine qz (k _ _ ?_));clear k K7
 refine Draw0.step (oz (S1)) ?_
 (refine Draw0.go fun K7 k=>?_);simp only [zb,seval,w5,kcc,dcc];(refine qz (k _ _ ?_));clear k K7
 refine Draw0.step (oz (L6)) ?_
 (refine Draw0.go fun K7 k=>?_);simp only [zb,seval,w5,kcc,dcc];(refine qz (k _ _ ?_));clear k K7
 refine Draw0.step (OpS.frozen (n:=3) (wd:=6) (ty:=28) (rows:=[(aE fH).cc,(aB []).cc,y.cc]) (OpS.eff [(106,_),(107,_),(108,_)] rfl (by rfl) ⟨rfl,rfl,rfl,trivial⟩ (by simp only [zb,seval,w5,kcc,dcc];rfl) (by simp)) rfl (by simp [ksh])) ?_;simp only [bD]
 refine Draw0.step (oz (L7)) ?_
 (refine Draw0.go fun K7 k=>?_);simp only [zb,seval,w5,kcc,dcc];(refine qz (k _ _ ?_));clear k K7
 refine Draw0.step (OpS.frozen (n:=3) (wd:=6) (ty:=28) (rows:=[(aE fH).cc,(fN v x).cc,(aB [aE fH,aB [],y]).cc]) (OpS.eff [(104,_),(105,_),(110,_)] rfl (by rfl) ⟨rfl,rfl,rfl,trivial⟩ (by simp only [zb,seval,w5,kcc,dcc];rfl) (by simp)) rfl (by simp [ksh])) ?_;simp only [bD]
 refine Draw0.step (oz (L8)) ?_
 (refine Draw0.go fun K7 k=>?_);simp only [zb,seval,w5,kcc,dcc];(refine qz (k _ _ ?_));clear k K7
 refine Draw0.step (oz (A2)) ?_
 (refine Draw0.go fun K7 k=>?_);simp only [zb,seval,w5,kcc,dcc];(refine qz (k _ _ ?_));clear k K7;(try ((refine Draw0.nil (hK8 _ ?_));clear hK8 K8;(refine WpL.go _ rfl fun Y y=>?_);repeat (first|(apply fw;focus ((with_reducible constructor)<;>constructor))|((first|with_reducible refine ga _ rfl fun Y y=>?_|apply ri);simp only [zb,seval,w5,kcc,dcc];refine fz y ?_;clear y Y))))
 (refine WpA.draw0 47 _ _ _ rfl rfl rfl (by kernel_rfl) (by kernel_rfl) (by kernel_rfl) fun K8 hK8=>?_);simp only [zz] at hK8 ⊢;(refine Draw0.go fun K7 k=>?_);simp only [zb,seval,w5,kcc,dcc];(refine qz (k _ _ ?_));clear k K7
 refine Draw0.step (oz (S4)) ?_
 (refine Draw0.go fun K7 k=>?_);simp only [zb,seval,w5,kcc,dcc];(refine qz (k _ _ ?_));clear k K7
 refine Draw0.step (OpS.frozen (n:=3) (wd:=6) (ty:=28) (rows:=[(aE nU).cc,x.cc,y.cc]) (OpS.eff [(116,_),(117,_),(118,_)] rfl (by rfl) ⟨rfl,rfl,rfl,trivial⟩ (by simp only [zb,seval,w5,kcc,dcc];rfl) (by simp)) rfl (by simp [ksh])) ?_;simp only [bD]
 refine Draw0.step (oz (L9)) ?_
 (refine Draw0.go fun K7 k=>?_);simp only [zb,seval,w5,kcc,dcc];(refine qz (k _ _ ?_));clear k K7
 refine Draw0.step (oz (S5)) ?_
 (refine Draw0.go fun K7 k=>?_);simp only [zb,seval,w5,kcc,dcc];(refine qz (k _ _ ?_));clear k K7
 refine Draw0.step (OpS.frozen (n:=4) (wd:=6) (ty:=28) (rows:=[(aE sIf).cc,x.cc,y.cc,(eE 2).cc]) (OpS.eff [(121,_),(122,_),(123,_),(124,_)] rfl (by rfl) ⟨rfl,rfl,rfl,rfl,trivial⟩ (by simp only [zb,seval,w5,kcc,dcc];rfl) (by simp)) rfl (by simp [ksh])) ?_;simp only [bD]
 refine Draw0.step (oz (L10)) ?_
 (refine Draw0.go fun K7 k=>?_);simp only [zb,seval,w5,kcc,dcc];(refine qz (k _ _ ?_));clear k K7
 refine Draw0.step (oz (A3)) ?_
 (refine Draw0.go fun K7 k=>?_);simp only [zb,seval,w5,kcc,dcc];(refine qz (k _ _ ?_));clear k K7
 refine Draw0.step (oz (S6)) ?_
 (refine Draw0.go fun K7 k=>?_);simp only [zb,seval,w5,kcc,dcc];(refine qz (k _ _ ?_));clear k K7
 refine Draw0.step (OpS.frozen (n:=4) (wd:=6) (ty:=28) (rows:=[(aE iR).cc,x.cc,y.cc,z.cc]) (OpS.eff [(130,_),(131,_),(132,_),(133,_)] rfl (by rfl) ⟨rfl,rfl,rfl,rfl,trivial⟩ (by simp only [zb,seval,w5,kcc,dcc];rfl) (by simp)) rfl (by simp [ksh])) ?_;simp only [bD]
 refine Draw0.step (oz (L11)) ?_
 (refine Draw0.go fun K7 k=>?_);simp only [zb,seval,w5,kcc,dcc];(refine qz (k _ _ ?_));clear k K7
 refine Draw0.step (oz (S5)) ?_
 (refine Draw0.go fun K7 k=>?_);simp only [zb,seval,w5,kcc,dcc];(refine qz (k _ _ ?_));clear k K7
 refine Draw0.step (oz (S7)) ?_
 (refine Draw0.go fun K7 k=>?_);simp only [zb,seval,w5,kcc,dcc];(refine qz (k _ _ ?_));clear k K7
 refine Draw0.step (OpS.frozen (n:=3) (wd:=6) (ty:=28) (rows:=[(aE bS).cc,y.cc,z.cc]) (OpS.eff [(138,_),(139,_),(140,_)] rfl (by rfl) ⟨rfl,rfl,rfl,trivial⟩ (by simp only [zb,seval,w5,kcc,dcc];rfl) (by simp)) rfl (by simp [ksh])) ?_;simp only [bD]
 refine Draw0.step (oz (L12)) ?_
 (refine Draw0.go fun K7 k=>?_);simp only [zb,seval,w5,kcc,dcc];(refine qz (k _ _ ?_));clear k K7
 refine Draw0.step (OpS.frozen (n:=4) (wd:=6) (ty:=28) (rows:=[(aE sIf).cc,x.cc,(aB [aE bS,y,z]).cc,(eE 9).cc]) (OpS.eff [(136,_),(137,_),(142,_),(143,_)] rfl (by rfl) ⟨rfl,rfl,rfl,rfl,trivial⟩ (by simp only [zb,seval,w5,kcc,dcc];rfl) (by simp)) rfl (by simp [ksh])) ?_;simp only [bD]
 refine Draw0.step (oz (L13)) ?_
 (refine Draw0.go fun K7 k=>?_);simp only [zb,seval,w5,kcc,dcc];(refine qz (k _ _ ?_));clear k K7
 refine Draw0.step (oz (A4)) ?_
 (refine Draw0.go fun K7 k=>?_);simp only [zb,seval,w5,kcc,dcc];(refine qz (k _ _ ?_));clear k K7
 refine Draw0.step (oz (S8)) ?_
 (refine Draw0.go fun K7 k=>?_);simp only [zb,seval,w5,kcc,dcc];(refine qz (k _ _ ?_));clear k K7
 refine Draw0.step (OpS.frozen (n:=3) (wd:=6) (ty:=28) (rows:=[(aE eB).cc,x.cc,y.cc]) (OpS.eff [(150,_),(151,_),(152,_)] rfl (by rfl) ⟨rfl,rfl,rfl,trivial⟩ (by simp only [zb,seval,w5,kcc,dcc];rfl) (by simp)) rfl (by simp [ksh])) ?_;simp only [bD]
 refine Draw0.step (oz (L14)) ?_
 (refine Draw0.go fun K7 k=>?_);simp only [zb,seval,w5,kcc,dcc];(refine qz (k _ _ ?_));clear k K7
 refine Draw0.step (oz (S5)) ?_
 (refine Draw0.go fun K7 k=>?_);simp only [zb,seval,w5,kcc,dcc];(refine qz (k _ _ ?_));clear k K7
 refine Draw0.step (OpS.frozen (n:=4) (wd:=6) (ty:=28) (rows:=[(aE sIf).cc,x.cc,(eE 9).cc,y.cc]) (OpS.eff [(155,_),(156,_),(157,_),(158,_)] rfl (by rfl) ⟨rfl,rfl,rfl,rfl,trivial⟩ (by simp only [zb,seval,w5,kcc,dcc];rfl) (by simp)) rfl (by simp [ksh])) ?_;simp only [bD]
 refine Draw0.step (oz (L15)) ?_
 (refine Draw0.go fun K7 k=>?_);simp only [zb,seval,w5,kcc,dcc];(refine qz (k _ _ ?_));clear k K7
 refine Draw0.step (oz (A5)) ?_
 (refine Draw0.go fun K7 k=>?_);simp only [zb,seval,w5,kcc,dcc];(refine qz (k _ _ ?_));clear k K7;(try ((refine Draw0.nil (hK8 _ ?_));clear hK8 K8;(refine WpL.go _ rfl fun Y y=>?_);repeat (first|(apply fw;focus ((with_reducible constructor)<;>constructor))|((first|with_reducible refine ga _ rfl fun Y y=>?_|apply ri);simp only [zb,seval,w5,kcc,dcc];refine fz y ?_;clear y Y))))
 (refine WpA.draw0 22 _ _ _ rfl rfl rfl (by kernel_rfl) (by kernel_rfl) (by kernel_rfl) fun K8 hK8=>?_);simp only [zz] at hK8 ⊢;(refine Draw0.go fun K7 k=>?_);simp only [zb,seval,w5,kcc,dcc];(refine qz (k _ _ ?_));clear k K7
 refine Draw0.step (oz (S9)) ?_
 (refine Draw0.go fun K7 k=>?_);simp only [zb,seval,w5,kcc,dcc];(refine qz (k _ _ ?_));clear k K7
 refine Draw0.step (oz (S10)) ?_
 (refine Draw0.go fun K7 k=>?_);simp only [zb,seval,w5,kcc,dcc];(refine qz (k _ _ ?_));clear k K7
 refine Draw0.step (OpS.frozen (n:=2) (wd:=6) (ty:=28) (rows:=[(aE v).cc,(aE sB).cc]) (OpS.eff [(165,_),(166,_)] rfl (by rfl) ⟨rfl,rfl,trivial⟩ (by simp only [zb,seval,w5,kcc,dcc];rfl) (by simp)) rfl (by simp [ksh])) ?_;simp only [bD]
 refine Draw0.step (oz (L16)) ?_
 (refine Draw0.go fun K7 k=>?_);simp only [zb,seval,w5,kcc,dcc];(refine qz (k _ _ ?_));clear k K7
 refine Draw0.step (OpS.frozen (n:=4) (wd:=6) (ty:=28) (rows:=[(aE cA).cc,(aB [aE v,aE sB]).cc,y.cc,z.cc]) (OpS.eff [(164,_),(168,_),(169,_),(170,_)] rfl (by rfl) ⟨rfl,rfl,rfl,rfl,trivial⟩ (by simp only [zb,seval,w5,kcc,dcc];rfl) (by simp)) rfl (by simp [ksh])) ?_;simp only [bD]
 refine Draw0.step (oz (L17)) ?_
 (refine Draw0.go fun K7 k=>?_);simp only [zb,seval,w5,kcc,dcc];(refine qz (k _ _ ?_));clear k K7
 refine Draw0.step (oz (S9)) ?_
 (refine Draw0.go fun K7 k=>?_);simp only [zb,seval,w5,kcc,dcc];(refine qz (k _ _ ?_));clear k K7
 refine Draw0.step (oz (S2)) ?_
 (refine Draw0.go fun K7 k=>?_);simp only [zb,seval,w5,kcc,dcc];(refine qz (k _ _ ?_));clear k K7
 refine Draw0.step (oz (S10)) ?_
 (refine Draw0.go fun K7 k=>?_);simp only [zb,seval,w5,kcc,dcc];(refine qz (k _ _ ?_));clear k K7
 refine Draw0.step (OpS.frozen (n:=1) (wd:=6) (ty:=28) (rows:=[(aE sB).cc]) (OpS.eff [(176,_)] rfl (by rfl) ⟨rfl,trivial⟩ (by simp only [zb,seval,w5,kcc,dcc];rfl) (by simp)) rfl (by simp [ksh])) ?_;simp only [bD]
 refine Draw0.step (oz (L18)) ?_
 (refine Draw0.go fun K7 k=>?_);simp only [zb,seval,w5,kcc,dcc];(refine qz (k _ _ ?_));clear k K7
 refine Draw0.step (OpS.frozen (n:=4) (wd:=6) (ty:=28) (rows:=[(aE aQ).cc,(aB [aE sB]).cc,y.cc,z.cc]) (OpS.eff [(175,_),(178,_),(179,_),(180,_)] rfl (by rfl) ⟨rfl,rfl,rfl,rfl,trivial⟩ (by simp only [zb,seval,w5,kcc,dcc];rfl) (by simp)) rfl (by simp [ksh])) ?_;simp only [bD]
 refine Draw0.step (oz (L19)) ?_
 (refine Draw0.go fun K7 k=>?_);simp only [zb,seval,w5,kcc,dcc];(refine qz (k _ _ ?_));clear k K7
 refine Draw0.step (OpS.frozen (n:=3) (wd:=6) (ty:=28) (rows:=[(aE cA).cc,(aE v).cc,(aB [aE aQ,aB [aE sB],y,z]).cc]) (OpS.eff [(173,_),(174,_),(182,_)] rfl (by rfl) ⟨rfl,rfl,rfl,trivial⟩ (by simp only [zb,seval,w5,kcc,dcc];rfl) (by simp)) rfl (by simp [ksh])) ?_;simp only [bD]
 refine Draw0.step (oz (L20)) ?_
 (refine Draw0.go fun K7 k=>?_);simp only [zb,seval,w5,kcc,dcc];(refine qz (k _ _ ?_));clear k K7
 refine Draw0.step (oz (A6)) ?_
 (refine Draw0.go fun K7 k=>?_);simp only [zb,seval,w5,kcc,dcc];(refine qz (k _ _ ?_));clear k K7;(try ((refine Draw0.nil (hK8 _ ?_));clear hK8 K8;(refine WpL.go _ rfl fun Y y=>?_);repeat (first|(apply fw;focus ((with_reducible constructor)<;>constructor))|((first|with_reducible refine ga _ rfl fun Y y=>?_|apply ri);simp only [zb,seval,w5,kcc,dcc];refine fz y ?_;clear y Y))))
 have ac:=LP x y
 have cx:=D.cc_eq x
 have cy:=D.cc_eq y
 generalize hb:(fL y gU||fL x dX)=b at *
 refine WpA.viaK ⟨[(13,.one (.v (.bool b))),(5,.one (.pf x.cc)),(6,.one (.pf y.cc)),(7,.one (.pf z.cc)),(9,.one (.pf (aE v).cc)),(0,.one (.v (.string v)))],[]⟩ ?_ ?_
 ·rcases ac with ⟨f1,f2,f3⟩|⟨f1,f2,f3,f4⟩|⟨f1,f2,f3,f4⟩|⟨f1,f2,f3⟩|⟨f1,f2,f3⟩
  case' inl=>subst f3;((with_reducible refine ga _ rfl fun Y y=>?_);simp only [zb,seval,w5,kcc,cx,cy,cG,f1,f2];(refine RunTo.fn y (by first|(simp;done)|omega|(simp;omega)) ?_);clear y Y);repeat (first|(apply fw;focus ((with_reducible constructor)<;>constructor)))
  case' inr.inl=>((with_reducible refine ga _ rfl fun Y y=>?_);simp only [zb,seval,w5,kcc,cx,cy,cG,f1,f2,f3,f4];(refine RunTo.fn y (by first|(simp;done)|omega|(simp;omega)) ?_);clear y Y);repeat (first|(apply fw;focus ((with_reducible constructor)<;>constructor)))
  case' inr.inr.inl=>subst f4;((with_reducible refine ga _ rfl fun Y y=>?_);simp only [zb,seval,w5,kcc,cx,cy,cG,f1,f2,f3];(refine RunTo.fn y (by first|(simp;done)|omega|(simp;omega)) ?_);clear y Y);repeat (first|(apply fw;focus ((with_reducible constructor)<;>constructor)))
  case' inr.inr.inr.inl=>((with_reducible refine ga _ rfl fun Y y=>?_);simp only [zb,seval,w5,kcc,cx,cy,cG,f1,f2,f3];(refine RunTo.fn y (by first|(simp;done)|omega|(simp;omega)) ?_);clear y Y);repeat (first|(apply fw;focus ((with_reducible constructor)<;>constructor)))
  case' inr.inr.inr.inr=>subst f3;((with_reducible refine ga _ rfl fun Y y=>?_);simp only [zb,seval,w5,kcc,cx,cy,cG,f1,f2];(refine RunTo.fn y (by first|(simp;done)|omega|(simp;omega)) ?_);clear y Y);repeat (first|(apply fw;focus ((with_reducible constructor)<;>constructor)))
  all_goals exact Le.drop 0 (Nat.zero_le _) rfl (by simp [Sub,find,cx,cy]) rfl (by simp [ObBd])
 cases b
 case' true =>
  repeat (first|(apply fw;focus ((with_reducible constructor)<;>constructor)))
  (refine WpA.draw0 27 _ _ _ rfl rfl rfl (by kernel_rfl) (by kernel_rfl) (by kernel_rfl) fun K8 hK8=>?_);simp only [zz] at hK8 ⊢;(refine Draw0.go fun K7 k=>?_);simp only [zb,seval,w5,kcc,dcc];(refine qz (k _ _ ?_));clear k K7;(try ((refine Draw0.nil (hK8 _ ?_));clear hK8 K8;(refine WpL.go _ rfl fun Y y=>?_);repeat (first|(apply fw;focus ((with_reducible constructor)<;>constructor))|((first|with_reducible refine ga _ rfl fun Y y=>?_|apply ri);simp only [zb,seval,w5,kcc,dcc];refine fz y ?_;clear y Y))))
 case' false =>
  have A7:=A7 rfl
  repeat (first|(apply fw;focus ((with_reducible constructor)<;>constructor)))
  (refine WpA.draw0 27 _ _ _ rfl rfl rfl (by kernel_rfl) (by kernel_rfl) (by kernel_rfl) fun K8 hK8=>?_);simp only [zz] at hK8 ⊢;(refine Draw0.go fun K7 k=>?_);simp only [zb,seval,w5,kcc,dcc];(refine qz (k _ _ ?_));clear k K7
  refine Draw0.step (oz (S11)) ?_
  (refine Draw0.go fun K7 k=>?_);simp only [zb,seval,w5,kcc,dcc];(refine qz (k _ _ ?_));clear k K7
  refine Draw0.step (OpS.frozen (n:=3) (wd:=6) (ty:=28) (rows:=[x.cc,y.cc,z.cc]) (OpS.eff [(209,_),(210,_),(211,_)] rfl (by rfl) ⟨rfl,rfl,rfl,trivial⟩ (by simp only [zb,seval,w5,kcc,dcc];rfl) (by simp)) rfl (by simp [ksh])) ?_;simp only [bD]
  refine Draw0.step (oz (L21)) ?_
  (refine Draw0.go fun K7 k=>?_);simp only [zb,seval,w5,kcc,dcc];(refine qz (k _ _ ?_));clear k K7
  refine Draw0.step (oz (S12)) ?_
  (refine Draw0.go fun K7 k=>?_);simp only [zb,seval,w5,kcc,dcc];(refine qz (k _ _ ?_));clear k K7
  refine Draw0.step (OpS.frozen (n:=2) (wd:=6) (ty:=28) (rows:=[(aE dX).cc,z.cc]) (OpS.eff [(214,_),(215,_)] rfl (by rfl) ⟨rfl,rfl,trivial⟩ (by simp only [zb,seval,w5,kcc,dcc];rfl) (by simp)) rfl (by simp [ksh])) ?_;simp only [bD]
  refine Draw0.step (oz (L22)) ?_
  (refine Draw0.go fun K7 k=>?_);simp only [zb,seval,w5,kcc,dcc];(refine qz (k _ _ ?_));clear k K7
  refine Draw0.step (OpS.frozen (n:=3) (wd:=6) (ty:=28) (rows:=[(aE iY).cc,(aB [x,y,z]).cc,(aB [aE dX,z]).cc]) (OpS.eff [(208,_),(213,_),(217,_)] rfl (by rfl) ⟨rfl,rfl,rfl,trivial⟩ (by simp only [zb,seval,w5,kcc,dcc];rfl) (by simp)) rfl (by simp [ksh])) ?_;simp only [bD]
  refine Draw0.step (oz (L23)) ?_
  (refine Draw0.go fun K7 k=>?_);simp only [zb,seval,w5,kcc,dcc];(refine qz (k _ _ ?_));clear k K7
  refine Draw0.step (oz (S5)) ?_
  (refine Draw0.go fun K7 k=>?_);simp only [zb,seval,w5,kcc,dcc];(refine qz (k _ _ ?_));clear k K7
  refine Draw0.step (oz (S7)) ?_
  (refine Draw0.go fun K7 k=>?_);simp only [zb,seval,w5,kcc,dcc];(refine qz (k _ _ ?_));clear k K7
  refine Draw0.step (OpS.frozen (n:=3) (wd:=6) (ty:=28) (rows:=[(aE bS).cc,y.cc,z.cc]) (OpS.eff [(222,_),(223,_),(224,_)] rfl (by rfl) ⟨rfl,rfl,rfl,trivial⟩ (by simp only [zb,seval,w5,kcc,dcc];rfl) (by simp)) rfl (by simp [ksh])) ?_;simp only [bD]
  refine Draw0.step (oz (L12)) ?_
  (refine Draw0.go fun K7 k=>?_);simp only [zb,seval,w5,kcc,dcc];(refine qz (k _ _ ?_));clear k K7
  refine Draw0.step (OpS.frozen (n:=4) (wd:=6) (ty:=28) (rows:=[(aE sIf).cc,x.cc,(aB [aE bS,y,z]).cc,z.cc]) (OpS.eff [(220,_),(221,_),(226,_),(227,_)] rfl (by rfl) ⟨rfl,rfl,rfl,rfl,trivial⟩ (by simp only [zb,seval,w5,kcc,dcc];rfl) (by simp)) rfl (by simp [ksh])) ?_;simp only [bD]
  refine Draw0.step (oz (L24)) ?_
  (refine Draw0.go fun K7 k=>?_);simp only [zb,seval,w5,kcc,dcc];(refine qz (k _ _ ?_));clear k K7
  refine Draw0.step (oz (A7)) ?_
  (refine Draw0.go fun K7 k=>?_);simp only [zb,seval,w5,kcc,dcc];(refine qz (k _ _ ?_));clear k K7;(try ((refine Draw0.nil (hK8 _ ?_));clear hK8 K8;(refine WpL.go _ rfl fun Y y=>?_);repeat (first|(apply fw;focus ((with_reducible constructor)<;>constructor))|((first|with_reducible refine ga _ rfl fun Y y=>?_|apply ri);simp only [zb,seval,w5,kcc,dcc];refine fz y ?_;clear y Y))))
 all_goals
  (refine WpA.draw1c 14 [12,13] [_,?_,?_] _ _ _ _ rfl rfl rfl (by kernel_rfl) (by kernel_rfl) (by kernel_rfl) (by kernel_rfl) rfl rfl rfl rfl (by decide) fun K8 hK8=>?_);rotate_left 2;simp only [zz] at hK8 ⊢;(refine Draw1.go fun K7 k=>?_);simp only [zb,seval,w5,kcc,dcc];(refine qz (k _ _ (by rfl) ?_));clear k K7;(simp only [zz,Nat.reduceAdd,Nat.reduceSub])
  refine Draw1.step (by rfl) (fun s9 _=>oz (S1)) ?_
  (refine Draw1.go fun K7 k=>?_);simp only [zb,seval,w5,kcc,dcc];(refine qz (k _ _ (by rfl) ?_));clear k K7;(simp only [zz,Nat.reduceAdd,Nat.reduceSub])
  refine Draw1.step (by rfl) (fun s9 _=>oz (S10)) ?_
  (refine Draw1.go fun K7 k=>?_);simp only [zb,seval,w5,kcc,dcc];(refine qz (k _ _ (by rfl) ?_));clear k K7;(simp only [zz,Nat.reduceAdd,Nat.reduceSub])
  refine Draw1.step (by rfl) (fun s9 _=>OpS.frozen (n:=2) (wd:=6) (ty:=28) (rows:=[(aE sB).cc,x.cc]) (OpS.eff [(235,_),(236,_)] rfl (by rfl) ⟨rfl,rfl,trivial⟩ (by simp only [zb,seval,w5,kcc,dcc];rfl) (by simp)) rfl (by simp [ksh])) ?_;simp only [bD]
  refine Draw1.step (by rfl) (fun s9 _=>oz (L25)) ?_
  (refine Draw1.go fun K7 k=>?_);simp only [zb,seval,w5,kcc,dcc];(refine qz (k _ _ (by rfl) ?_));clear k K7;(simp only [zz,Nat.reduceAdd,Nat.reduceSub])
  refine Draw1.step (by rfl) (fun s9 _=>OpS.frozen (n:=1) (wd:=6) (ty:=28) (rows:=[(aB [aE sB,x]).cc]) (OpS.eff [(238,_)] rfl (by rfl) ⟨rfl,trivial⟩ (by simp only [zb,seval,w5,kcc,dcc];rfl) (by simp)) rfl (by simp [ksh])) ?_;simp only [bD]
  refine Draw1.step (by rfl) (fun s9 _=>oz (L26)) ?_
  (refine Draw1.go fun K7 k=>?_);simp only [zb,seval,w5,kcc,dcc];(refine qz (k _ _ (by rfl) ?_));clear k K7;(simp only [zz,Nat.reduceAdd,Nat.reduceSub])
  refine Draw1.step (by rfl) (fun s9 _=>OpS.frozen (n:=5) (wd:=6) (ty:=28) (rows:=[(aE fH).cc,(aE v).cc,(aB [aB [aE sB,x]]).cc,y.cc,z.cc]) (OpS.eff [(233,_),(234,_),(240,_),(241,_),(242,_)] rfl (by rfl) ⟨rfl,rfl,rfl,rfl,rfl,trivial⟩ (by simp only [zb,seval,w5,kcc,dcc];rfl) (by simp)) rfl (by simp [ksh])) ?_;simp only [bD]
  refine Draw1.step (by rfl) (fun s9 _=>oz (L27)) ?_
  (refine Draw1.go fun K7 k=>?_);simp only [zb,seval,w5,kcc,dcc];(refine qz (k _ _ (by rfl) ?_));clear k K7;(simp only [zz,Nat.reduceAdd,Nat.reduceSub])
  refine Draw1.eff 0 rfl rfl rfl (OpS.eff [] rfl (by rfl) trivial (by simp only [zb,seval,w5,kcc,dcc];rfl) (by first|(simp;done)|omega|(simp;omega))) ?_;(try simp only [bD]);(try ((refine Draw1.go fun K7 k=>?_);simp only [zb,seval,w5,kcc,dcc];(refine qz (k _ _ (by rfl) ?_));clear k K7;(simp only [zz,Nat.reduceAdd,Nat.reduceSub]);(try ((refine nz (hK8 _ ?_));clear hK8 K8;(refine WpL.go _ rfl fun Y y=>?_);repeat (first|(apply fw;focus ((with_reducible constructor)<;>constructor))|((first|with_reducible refine ga _ rfl fun Y y=>?_|apply ri);simp only [zb,seval,w5,kcc,dcc];refine fz y ?_;clear y Y))))))
  refine Draw1.eff 1 rfl rfl rfl (OpS.eff [(14,_),(244,_)] rfl (by rfl) ⟨rfl,rfl,trivial⟩ (by simp only [zb,seval,w5,kcc,dcc];rfl) (by first|(simp;done)|omega|(simp;omega))) ?_;(try simp only [bD]);(try ((refine Draw1.go fun K7 k=>?_);simp only [zb,seval,w5,kcc,dcc];(refine qz (k _ _ (by rfl) ?_));clear k K7;(simp only [zz,Nat.reduceAdd,Nat.reduceSub]);(try ((refine nz (hK8 _ ?_));clear hK8 K8;(refine WpL.go _ rfl fun Y y=>?_);repeat (first|(apply fw;focus ((with_reducible constructor)<;>constructor))|((first|with_reducible refine ga _ rfl fun Y y=>?_|apply ri);simp only [zb,seval,w5,kcc,dcc];refine fz y ?_;clear y Y))))))
  refine WpA.frzP 14 0 rfl rfl (D.cc_shut _) ?_
  simp only [zz]
  (refine WpA.draw0 25 _ _ _ rfl rfl rfl (by kernel_rfl) (by kernel_rfl) (by kernel_rfl) fun K8 hK8=>?_);simp only [zz] at hK8 ⊢;(refine Draw0.go fun K7 k=>?_);simp only [zb,seval,w5,kcc,dcc];(refine qz (k _ _ ?_));clear k K7
  refine Draw0.step (oz (S13)) ?_
  (refine Draw0.go fun K7 k=>?_);simp only [zb,seval,w5,kcc,dcc];(refine qz (k _ _ ?_));clear k K7
  refine Draw0.step (oz (S2)) ?_
  (refine Draw0.go fun K7 k=>?_);simp only [zb,seval,w5,kcc,dcc];(refine qz (k _ _ ?_));clear k K7
  refine Draw0.step (oz (S10)) ?_
  (refine Draw0.go fun K7 k=>?_);simp only [zb,seval,w5,kcc,dcc];(refine qz (k _ _ ?_));clear k K7
  refine Draw0.step (OpS.frozen (n:=1) (wd:=6) (ty:=28) (rows:=[(aE sB).cc]) (OpS.eff [(249,_)] rfl (by rfl) ⟨rfl,trivial⟩ (by simp only [zb,seval,w5,kcc,dcc];rfl) (by simp)) rfl (by simp [ksh])) ?_;simp only [bD]
  refine Draw0.step (oz (L18)) ?_
  (refine Draw0.go fun K7 k=>?_);simp only [zb,seval,w5,kcc,dcc];(refine qz (k _ _ ?_));clear k K7
  refine Draw0.step (OpS.frozen (n:=4) (wd:=6) (ty:=28) (rows:=[(aE aQ).cc,(aB [aE sB]).cc,y.cc,z.cc]) (OpS.eff [(248,_),(251,_),(252,_),(253,_)] rfl (by rfl) ⟨rfl,rfl,rfl,rfl,trivial⟩ (by simp only [zb,seval,w5,kcc,dcc];rfl) (by simp)) rfl (by simp [ksh])) ?_;simp only [bD]
  refine Draw0.step (oz (L19)) ?_
  (refine Draw0.go fun K7 k=>?_);simp only [zb,seval,w5,kcc,dcc];(refine qz (k _ _ ?_));clear k K7
  refine Draw0.step (OpS.frozen (n:=2) (wd:=6) (ty:=28) (rows:=[(aE v).cc,(aB [aE aQ,aB [aE sB],y,z]).cc]) (OpS.eff [(247,_),(255,_)] rfl (by rfl) ⟨rfl,rfl,trivial⟩ (by simp only [zb,seval,w5,kcc,dcc];rfl) (by simp)) rfl (by simp [ksh])) ?_;simp only [bD]
  refine Draw0.step (oz (L28)) ?_
  (refine Draw0.go fun K7 k=>?_);simp only [zb,seval,w5,kcc,dcc];(refine qz (k _ _ ?_));clear k K7
  refine Draw0.step (OpS.frozen (n:=1) (wd:=6) (ty:=28) (rows:=[(aB [aE v,aB [aE aQ,aB [aE sB],y,z]]).cc]) (OpS.eff [(257,_)] rfl (by rfl) ⟨rfl,trivial⟩ (by simp only [zb,seval,w5,kcc,dcc];rfl) (by simp)) rfl (by simp [ksh])) ?_;simp only [bD]
  refine Draw0.step (oz (L29)) ?_
  (refine Draw0.go fun K7 k=>?_);simp only [zb,seval,w5,kcc,dcc];(refine qz (k _ _ ?_));clear k K7
  refine Draw0.step (OpS.frozen (n:=3) (wd:=6) (ty:=28) (rows:=[(aE dT).cc,(aB [aB [aE v,aB [aE aQ,aB [aE sB],y,z]]]).cc,(aE v).cc]) (OpS.eff [(246,_),(259,_),(260,_)] rfl (by rfl) ⟨rfl,rfl,rfl,trivial⟩ (by simp only [zb,seval,w5,kcc,dcc];rfl) (by simp)) rfl (by simp [ksh])) ?_;simp only [bD]
  refine Draw0.step (oz (L30)) ?_
  (refine Draw0.go fun K7 k=>?_);simp only [zb,seval,w5,kcc,dcc];(refine qz (k _ _ ?_));clear k K7
  refine Draw0.step (OpS.frozen (n:=2) (wd:=6) (ty:=28) (rows:=[(aB [aE dT,aB [aB [aE v,aB [aE aQ,aB [aE sB],y,z]]],aE v]).cc,x.cc]) (OpS.eff [(262,_),(263,_)] rfl (by rfl) ⟨rfl,rfl,trivial⟩ (by simp only [zb,seval,w5,kcc,dcc];rfl) (by simp)) rfl (by simp [ksh])) ?_;simp only [bD]
  refine Draw0.step (oz (L31)) ?_
  (refine Draw0.go fun K7 k=>?_);simp only [zb,seval,w5,kcc,dcc];(refine qz (k _ _ ?_));clear k K7
  refine Draw0.step (oz (A8)) ?_
  (refine Draw0.go fun K7 k=>?_);simp only [zb,seval,w5,kcc,dcc];(refine qz (k _ _ ?_));clear k K7
  refine Draw0.step (oz (aw)) ?_
  (refine Draw0.go fun K7 k=>?_);simp only [zb,seval,w5,kcc,dcc];(refine qz (k _ _ ?_));clear k K7;(try ((refine Draw0.nil (hK8 _ ?_));clear hK8 K8;(refine WpL.go _ rfl fun Y y=>?_);repeat (first|(apply fw;focus ((with_reducible constructor)<;>constructor))|((first|with_reducible refine ga _ rfl fun Y y=>?_|apply ri);simp only [zb,seval,w5,kcc,dcc];refine fz y ?_;clear y Y))))
  refine ye (by simp only [zb,seval,w5];rfl) (by simp only [zv];rfl) ?_
  rfl
end Go.Proofs.YtaeioidifpebdaaGreatDoor
end
