/-
 Laid together: Wk18, Wl18, Wm18, Wn18, Ea18.
-/
import Derived.Test.YtaeioidifpebdaaGreatDoorG7
import Derived.Test.YtaeioidifpebdaaGreatDoorG6
section
namespace Go.Proofs.YtaeioidifpebdaaGreatDoor
open Go Go.RowKit Go.Lib
set_option linter.unusedSimpArgs false
set_option linter.unusedVariables false
set_option maxHeartbeats 4000000
set_option maxRecDepth 100000
theorem RZ:∀l:List D,cK (bV l)≤cK l
 | []=>Nat.le_refl _
 | b::l=>by
  have ih:=RZ l
  unfold bV at ih ⊢
  rw [List.filterMap_cons,cK]
  cases hp:iC b with
  | none=>simp only [Option.map_none];omega
  | some p =>
   simp only [Option.map_some,cK]
   have:p.2.msr≤b.msr:=by
    unfold iC at hp
    split at hp
    ·split at hp
     ·rename_i hh
      cases hp
      have:=mI b
      rw [hh] at this
      simp only [cK] at this
      dsimp only
      omega
     ·cases hp
    ·cases hp
   omega
theorem OU {n:Nat} {b:D} {p:D × D} (hb:Gd n b) (hp:iC b=some p):Gd n p.1∧Gd n p.2:=by
 unfold iC at hp
 split at hp
 ·split at hp
  ·rename_i hh
   cases hp
   have:=hb.items
   rw [hh] at this
   exact⟨this.head,this.tail.head⟩
  ·cases hp
 ·cases hp
theorem WC {n:Nat} {l:List D} (h:Gds n l):Gds n (bV l):=by
 have hm:∀x∈bV l,Gd n x:=fun x hx=>by
  obtain⟨b,hb,he⟩:=List.mem_filterMap.1 hx
  obtain⟨p,hp,rfl⟩:=Option.map_eq_some_iff.1 he
  exact (OU (h.mem hb) hp).2
 exact⟨Twos.of fun x hx=>(hm x hx).1,Oks.ofMem fun x hx=>(hm x hx).2.1,Nat.lt_of_le_of_lt (RZ l) h.2.2⟩
theorem jM {n:Nat} {d:D} (hd:Gd n d):Gds n (bF d).1:=by
 unfold bF;split
 ·exact hd.items
 ·exact⟨trivial,trivial,by have:=hd.2.2;have:=gQ d;simp [cK];omega⟩
theorem XQ (l:List D):(bN l).length=(bV l).length:=by
 unfold bN bV
 induction l with
 | nil=>rfl
 | cons b l ih =>
  rw [List.filterMap_cons,List.filterMap_cons]
  cases iC b with
  | none=>simpa using ih
  | some p=>simpa using ih
theorem iL {n:Nat} {d:D} (hd:Gd n d):Gds n (bC d).2.1∧(bC d).1.length=(bC d).2.1.length∧(bC d).1.length≤n∧(bC d).2.2≤2:=by
 rw [AP]
 have h1:=jM hd
 have h2:=h1.len
 have h3:=RV (bF d).1
 exact⟨WC h1,XQ _,by dsimp only;omega,Nat.max_le.2 ⟨iR d,RU _⟩⟩
theorem KT {n:Nat} {ev:Ev} (hE:HE n ev) (a:D) (r0:List D) (hl:Gds n (a::r0)):Pure Tryz.prog 140 [.one (.sl 6 ((a::r0).map D.cc))] (rsA (mZ ev (a::r0))):=by
 have hbig:=hE.big
 have hw:Pure Tryz.prog 84 [.one (.v (.string ⟨#[108,101,116]⟩)),.one (.gv 1)] (.one (.er 2)):=dD _ 1
 have hv:=kJ a
 match r0,hl with
 | [],hl =>
  rw [show mZ ev [a]=(kz,2) from rfl]
  obtain⟨l,hlr⟩:∃l,[a]=l:=⟨_,rfl⟩
  obtain⟨g0,gt,gd,gl,gn,g11,g00,g22⟩:=qD a [] l hlr
  have hlt:decide ((l.length:Int)<2)=true:=by rw [←hlr];rfl
  rw [hlr]
  refine fi Tryz.func140 Tryz.ntmps140 Tryz.results140 ?_
  repeat (first|(apply fw;focus ((with_reducible constructor)<;>constructor))|((first|with_reducible refine ga _ rfl fun Y y=>?_|(refine ca ?_;apply Exists.intro;constructor;assumption;intro Y y)|apply ri);simp only [zb,seval,nN,kcc,g0,hlt];refine fz y ?_;clear y Y))
  refine yl (by simp only [zb,seval,nN,kcc,rsA];rfl) (by simp only [zv,kcc,rsA];rfl) ((by simp only [rcc,rsA];exact ae)) rfl
 | b::r,hl =>
  obtain⟨l,hlr⟩:∃l,a::b::r=l:=⟨_,rfl⟩
  obtain⟨g0,gt,gd,gl,gn,g11,g00,g22⟩:=qD a (b::r) l hlr
  obtain⟨g1,gdd⟩:=UB a b r l hlr
  have hlt:decide ((l.length:Int)<2)=false:=by rw [←hlr];simp;omega
  have hle2:(2:Int)≤(l.length:Int):=by rw [←hlr];simp;omega
  have ha:=hl.head
  have hb:=hl.tail.head
  have hr:=hl.tail.tail
  obtain⟨hbv,hbl,hbn,hbe⟩:=iL hb
  have hbd:=lA b hb hbig
  have hun:=jV (bC b).1 (by omega)
  have hbo:=hE.b r hr
  have hlm:=jT (bC b).1 ⟨#[]⟩ (ev.b r).1 (by omega)
  have hrf:=oX (bR a).1
  have hec:=jU hE (bC b).2.1 hbv
  have heq:mZ ev (a::b::r)=((dL ((mC [(bR a).1] [(fQ (bC b).1 e0 (ev.b r).1).1] (bL (bR a).1)).1::(aZ ev.e (bC b).2.1).1)).1,max (max (max (max (max (max (max (bR a).2 (bC b).2.2) (unl (bC b).1)) (ev.b r).2) (fQ (bC b).1 e0 (ev.b r).1).2) (mC [(bR a).1] [(fQ (bC b).1 e0 (ev.b r).1).1] (bL (bR a).1)).2) (aZ ev.e (bC b).2.1).2) (dL ((mC [(bR a).1] [(fQ (bC b).1 e0 (ev.b r).1).1] (bL (bR a).1)).1::(aZ ev.e (bC b).2.1).1)).2):=rfl
  rw [heq,hlr]
  have hel:(aZ ev.e (bC b).2.1).1.length=(bC b).2.1.length:=List.length_map ..
  have hvl:=hbv.len
  have w1:=eU a
  have w2:=kW (bC b).1
  have w3:=hE.b2 r
  have w5:=eN hE (bC b).2.1
  simp only [bdA,rsA,rlA] at hbd hbo hlm hec
  generalize hbs:bC b=bs at *
  generalize hB:ev.b r=B at *
  have hlm':fQ bs.1 e0 B.1=fQ bs.1 ⟨#[]⟩ B.1:=rfl
  have w4:=lT bs.1 ⟨#[]⟩ B.1
  rw [hlm']
  generalize fQ bs.1 ⟨#[]⟩ B.1=F at *
  have hrc:=iK [(bR a).1] [F.1] (bL (bR a).1) (by simp) rfl
  have w6:=mD [(bR a).1] [F.1] (bL (bR a).1)
  simp only [rsA,List.map_cons,List.map_nil,dQ] at hrc
  generalize mC [(bR a).1] [F.1] (bL (bR a).1)=R at *
  generalize aZ ev.e bs.2.1=V at *
  have hcl:=fM (R.1::V.1)
  have w7:=fD (R.1::V.1)
  simp only [rsA,List.map_cons] at hcl
  generalize dL (R.1::V.1)=X at *
  have o1:=aD (bR a).2 bs.2.2 (by omega) (by omega)
  have o2:=aD (max (bR a).2 bs.2.2) (unl bs.1) (by omega) (by omega)
  have o3:=aD (max (max (bR a).2 bs.2.2) (unl bs.1)) B.2 (by omega) (by omega)
  have o4:=aD (max (max (max (bR a).2 bs.2.2) (unl bs.1)) B.2) F.2 (by omega) (by omega)
  have o5:=aD (max (max (max (max (bR a).2 bs.2.2) (unl bs.1)) B.2) F.2) R.2 (by omega) (by omega)
  have o6:=aD (max (max (max (max (max (bR a).2 bs.2.2) (unl bs.1)) B.2) F.2) R.2) V.2 (by omega) (by omega)
  have o7:=aD (max (max (max (max (max (max (bR a).2 bs.2.2) (unl bs.1)) B.2) F.2) R.2) V.2) X.2 (by omega) (by omega)
  refine fi Tryz.func140 Tryz.ntmps140 Tryz.results140 ?_
  repeat (first|(apply fw;focus ((with_reducible constructor)<;>constructor))|((first|with_reducible refine ga _ rfl fun Y y=>?_|(refine ca ?_;apply Exists.intro;constructor;assumption;intro Y y)|apply ri);simp only [zb,seval,nN,kcc,g0,hlt,g1,gn,g22,gt,gdd];refine fz y ?_;clear y Y))
  (refine WpA.draw1c 12 [10,11] [_,?_,?_] _ _ _ _ rfl rfl rfl (by kernel_rfl) (by kernel_rfl) (by kernel_rfl) (by kernel_rfl) rfl rfl rfl rfl (by decide) fun K8 hK8=>?_);rotate_left 2;simp only [zz] at hK8 ⊢;(refine Draw1.go fun K7 k=>?_);simp only [zb,seval,nN,kcc];(refine qz (k _ _ (by rfl) ?_));clear k K7;(simp only [zz,Nat.reduceAdd,Nat.reduceSub])
  refine Draw1.step (by rfl) (fun s9 _=>OpS.frozen (n:=1) (wd:=1) (ty:=9) (rows:=[[.v (.string (bR a).1)]]) (OpS.eff [(60,_)] rfl (by rfl) ⟨rfl,trivial⟩ (by simp only [zb,seval,nN,kcc];rfl) (by simp)) rfl (by simp [ksh])) ?_;simp only [bH]
  (refine Draw1.go fun K7 k=>?_);simp only [zb,seval,nN,kcc];(refine qz (k _ _ (by rfl) ?_));clear k K7;(simp only [zz,Nat.reduceAdd,Nat.reduceSub])
  refine Draw1.step (by rfl) (fun s9 _=>OpS.frozen (n:=1) (wd:=11) (ty:=31) (rows:=[F.1.cc]) (OpS.eff [(62,_)] rfl (by rfl) ⟨rfl,trivial⟩ (by simp only [zb,seval,nN,kcc];rfl) (by simp)) rfl (by simp [ksh])) ?_;simp only [bH]
  (refine Draw1.go fun K7 k=>?_);simp only [zb,seval,nN,kcc];(refine qz (k _ _ (by rfl) ?_));clear k K7;(simp only [zz,Nat.reduceAdd,Nat.reduceSub])
  refine Draw1.step (by rfl) (fun s9 _=>oz (hrf)) ?_
  (refine Draw1.go fun K7 k=>?_);simp only [zb,seval,nN,kcc];(refine qz (k _ _ (by rfl) ?_));clear k K7;(simp only [zz,Nat.reduceAdd,Nat.reduceSub])
  refine Draw1.step (by rfl) (fun s9 _=>oz (hrc)) ?_
  (refine Draw1.go fun K7 k=>?_);simp only [zb,seval,nN,kcc];(refine qz (k _ _ (by rfl) ?_));clear k K7;(simp only [zz,Nat.reduceAdd,Nat.reduceSub])
  refine Draw1.eff 0 rfl rfl rfl (OpS.eff [] rfl (by rfl) trivial (by simp only [zb,seval,nN,kcc];rfl) (by first|(simp;done)|omega|(simp;omega))) ?_;(try simp only [bH]);(try ((refine Draw1.go fun K7 k=>?_);simp only [zb,seval,nN,kcc];(refine qz (k _ _ (by rfl) ?_));clear k K7;(simp only [zz,Nat.reduceAdd,Nat.reduceSub]);(try ((refine nz (hK8 _ ?_));clear hK8 K8;(refine WpL.go _ rfl fun Y y=>?_);repeat (first|(apply fw;focus ((with_reducible constructor)<;>constructor))|((first|with_reducible refine ga _ rfl fun Y y=>?_|apply ri);simp only [zb,seval,nN,kcc];refine fz y ?_;clear y Y))))))
  refine Draw1.eff 1 rfl rfl rfl (OpS.eff [(11,_),(67,_)] rfl (by rfl) ⟨rfl,rfl,trivial⟩ (by simp only [zb,seval,nN,kcc];rfl) (by first|(simp;done)|omega|(simp;omega))) ?_;(try simp only [bH]);(try ((refine Draw1.go fun K7 k=>?_);simp only [zb,seval,nN,kcc];(refine qz (k _ _ (by rfl) ?_));clear k K7;(simp only [zz,Nat.reduceAdd,Nat.reduceSub]);(try ((refine nz (hK8 _ ?_));clear hK8 K8;(refine WpL.go _ rfl fun Y y=>?_);repeat (first|(apply fw;focus ((with_reducible constructor)<;>constructor))|((first|with_reducible refine ga _ rfl fun Y y=>?_|apply ri);simp only [zb,seval,nN,kcc];refine fz y ?_;clear y Y))))))
  repeat (first|(apply fw;focus ((with_reducible constructor)<;>constructor))|((first|with_reducible refine ga _ rfl fun Y y=>?_|(refine ca ?_;apply Exists.intro;constructor;assumption;intro Y y)|apply ri);simp only [zb,seval,nN,kcc,hel];refine fz y ?_;clear y Y))
  (refine WpL.frz 84 (4) (by rfl) (by first|rfl|(simp only [zz,hel];rfl)|(simp only [zz,hel])) (by first|rfl|(simp [hel];done)|(simp [hel];omega)) (by simp [ksh]) ?_);simp only [zz,hel]
  refine cz (hcl) ?_
  (refine WpL.go _ rfl fun Y y=>?_);repeat (first|(apply fw;focus ((with_reducible constructor)<;>constructor))|((first|with_reducible refine ga _ rfl fun Y y=>?_|apply ri);simp only [zb,seval,nN,kcc];refine fz y ?_;clear y Y))
  (refine WpA.draw0 4 _ _ _ rfl rfl rfl (by kernel_rfl) (by kernel_rfl) (by kernel_rfl) fun K8 hK8=>?_);simp only [zz] at hK8 ⊢;(refine Draw0.go fun K7 k=>?_);simp only [zb,seval,nN,kcc];(refine qz (k _ _ ?_));clear k K7
  refine Draw0.step (oz (o7)) ?_
  (refine Draw0.go fun K7 k=>?_);simp only [zb,seval,nN,kcc];(refine qz (k _ _ ?_));clear k K7;(try ((refine Draw0.nil (hK8 _ ?_));clear hK8 K8;(refine WpL.go _ rfl fun Y y=>?_);repeat (first|(apply fw;focus ((with_reducible constructor)<;>constructor))|((first|with_reducible refine ga _ rfl fun Y y=>?_|apply ri);simp only [zb,seval,nN,kcc];refine fz y ?_;clear y Y))))
  refine ye (by simp only [zb,seval,nN,kcc];rfl) (by simp only [zv,kcc];rfl) ?_
  rfl
theorem SA {n:Nat} {ev:Ev} (hE:HE n ev) (l0:List D) (hl:Gds n l0):Pure Tryz.prog 130 [.one (.sl 6 (l0.map D.cc))] (rsA (zY ev l0)):=by
 have hbig:=hE.big
 have hw:Pure Tryz.prog 84 [.one (.v (.string ⟨#[108,101,116]⟩)),.one (.gv 1)] (.one (.er 2)):=dD _ 1
 match l0,hl with
 | [],hl =>
  rw [show zY ev []=(kz,2) from rfl,List.map_nil]
  refine fi Tryz.func130 Tryz.ntmps130 Tryz.results130 ?_
  repeat (first|(apply fw;focus ((with_reducible constructor)<;>constructor))|((first|with_reducible refine ga _ rfl fun Y y=>?_|(refine ca ?_;apply Exists.intro;constructor;assumption;intro Y y)|apply ri);simp only [zb,seval,EA,kcc];refine fz y ?_;clear y Y))
  refine yl (by simp only [zb,seval,EA,kcc,rsA];rfl) (by simp only [zv,kcc,rsA];rfl) ((by simp only [rcc,rsA];exact ae)) rfl
 | a::r,hl =>
  have hnm:=KT hE a r hl
  obtain⟨l,hlr⟩:∃l,a::r=l:=⟨_,rfl⟩
  obtain⟨g0,gt,gd,gl,gn,g11,g00,g22⟩:=qD a r l hlr
  have hgt:decide ((0:Int)<(l.length:Int))=true:=by simp;omega
  have hle1:(1:Int)≤(l.length:Int):=by omega
  have ha:=hl.head
  have hr:=hl.tail
  have g0':=g0
  rw [D.cc_eq a] at g0'
  by_cases hk:a.k=6
  ·have h6:(a.k == 6)=true:=by simp [hk]
   rw [show zY ev (a::r)=mZ ev (a::r) from if_pos hk,hlr]
   rw [hlr] at hnm
   simp only [rsA] at hnm
   refine fi Tryz.func130 Tryz.ntmps130 Tryz.results130 ?_
   repeat (first|(apply fw;focus ((with_reducible constructor)<;>constructor))|((first|with_reducible refine ga _ rfl fun Y y=>?_|(refine ca ?_;apply Exists.intro;constructor;assumption;intro Y y)|apply ri);simp only [zb,seval,EA,kcc,g0',h6,hgt];refine fz y ?_;clear y Y))
   refine ye (by simp only [zb,seval,EA,kcc];rfl) (by simp only [zv,kcc];rfl) ?_
   rfl
  ·have h6:(a.k == 6)=false:=by simp [hk]
   have hz:((l.length:Int) == 0)=false:=by rw [gl];simp;omega
   obtain⟨hbv,hbl,hbn,hbe⟩:=iL ha
   have hbd:=lA a ha hbig
   rw [D.cc_eq a] at hbd
   have hun:=jV (bC a).1 (by omega)
   have hbo:=hE.b r hr
   have hap:=qC hE (bC a).1 (ev.b r).1 (bC a).2.1 (by omega) hbv
   have w1:=kW (bC a).1
   have w2:=hE.b2 r
   have w3:=kX ev hE (bC a).1 (ev.b r).1 (bC a).2.1
   rw [show zY ev (a::r)=((fT ev (bC a).1 (ev.b r).1 (bC a).2.1).1,max (max (max (bC a).2.2 (ev.b r).2) (unl (bC a).1)) (fT ev (bC a).1 (ev.b r).1 (bC a).2.1).2) from if_neg hk,hlr]
   simp only [bdA,rsA] at hbd hbo hap
   generalize bC a=bs at *
   generalize ev.b r=B at *
   generalize fT ev bs.1 B.1 bs.2.1=X at *
   have o1:=aD bs.2.2 B.2 (by omega) (by omega)
   have o2:=aD (max bs.2.2 B.2) (unl bs.1) (by omega) (by omega)
   have o3:=aD (max (max bs.2.2 B.2) (unl bs.1)) X.2 (by omega) (by omega)
   refine fi Tryz.func130 Tryz.ntmps130 Tryz.results130 ?_
   repeat (first|(apply fw;focus ((with_reducible constructor)<;>constructor))|((first|with_reducible refine ga _ rfl fun Y y=>?_|(refine ca ?_;apply Exists.intro;constructor;assumption;intro Y y)|apply ri);simp only [zb,seval,EA,kcc,g0',h6,hgt,hz,gn,g11,gt,gd];refine fz y ?_;clear y Y))
   (refine WpA.draw0 4 _ _ _ rfl rfl rfl (by kernel_rfl) (by kernel_rfl) (by kernel_rfl) fun K8 hK8=>?_);simp only [zz] at hK8 ⊢;(refine Draw0.go fun K7 k=>?_);simp only [zb,seval,EA,kcc];(refine qz (k _ _ ?_));clear k K7
   refine Draw0.step (oz (o3)) ?_
   (refine Draw0.go fun K7 k=>?_);simp only [zb,seval,EA,kcc];(refine qz (k _ _ ?_));clear k K7;(try ((refine Draw0.nil (hK8 _ ?_));clear hK8 K8;(refine WpL.go _ rfl fun Y y=>?_);repeat (first|(apply fw;focus ((with_reducible constructor)<;>constructor))|((first|with_reducible refine ga _ rfl fun Y y=>?_|apply ri);simp only [zb,seval,EA,kcc];refine fz y ?_;clear y Y))))
   refine ye (by simp only [zb,seval,EA,kcc];rfl) (by simp only [zv,kcc];rfl) ?_
   rfl
theorem xM {n:Nat} {ev:Ev} (hE:HE n ev) (l0:List D) (hl:Gds n l0):Pure Tryz.prog 132 [.one (.sl 6 (l0.map D.cc))] (rsA (kG ev l0)):=by
 have hbig:=hE.big
 have hw:Pure Tryz.prog 84 [.one (.v (.string ⟨#[108,101,116,114,101,99]⟩)),.one (.gv 1)] (.one (.er 2)):=dD _ 1
 match l0,hl with
 | [],hl =>
  rw [show kG ev []=(kz,2) from rfl,List.map_nil]
  refine fi Tryz.func132 Tryz.ntmps132 Tryz.results132 ?_
  repeat (first|(apply fw;focus ((with_reducible constructor)<;>constructor))|((first|with_reducible refine ga _ rfl fun Y y=>?_|(refine ca ?_;apply Exists.intro;constructor;assumption;intro Y y)|apply ri);simp only [zb,seval,xZ,kcc];refine fz y ?_;clear y Y))
  refine yl (by simp only [zb,seval,xZ,kcc,rsA];rfl) (by simp only [zv,kcc,rsA];rfl) ((by simp only [rcc,rsA];exact ae)) rfl
 | a::r,hl =>
  obtain⟨l,hlr⟩:∃l,a::r=l:=⟨_,rfl⟩
  obtain⟨g0,gt,gd,gl,gn,g11,g00,g22⟩:=qD a r l hlr
  have hle1:(1:Int)≤(l.length:Int):=by omega
  have ha:=hl.head
  have hr:=hl.tail
  have hz:((l.length:Int) == 0)=false:=by rw [gl];simp;omega
  obtain⟨hbv,hbl,hbn,hbe⟩:=iL ha
  have hbd:=lA a ha hbig
  have hec:=jU hE (bC a).2.1 hbv
  have hbo:=hE.b r hr
  have hel:(aZ ev.e (bC a).2.1).1.length=(bC a).1.length:=by rw [hbl];exact List.length_map ..
  have hrc:=iK (bC a).1 (aZ ev.e (bC a).2.1).1 (ev.b r).1 (by omega) hel
  have w2:=hE.b2 r
  have w3:=eN hE (bC a).2.1
  have w4:=mD (bC a).1 (aZ ev.e (bC a).2.1).1 (ev.b r).1
  have hsl:=dR (bC a).1
  rw [show kG ev (a::r)=((mC (bC a).1 (aZ ev.e (bC a).2.1).1 (ev.b r).1).1,max (max (max (bC a).2.2 (aZ ev.e (bC a).2.1).2) (ev.b r).2) (mC (bC a).1 (aZ ev.e (bC a).2.1).1 (ev.b r).1).2) from rfl,hlr]
  simp only [bdA,rlA,rsA] at hbd hbo hrc hec
  generalize bC a=bs at *
  generalize aZ ev.e bs.2.1=V at *
  generalize ev.b r=B at *
  generalize mC bs.1 V.1 B.1=X at *
  have o1:=aD bs.2.2 V.2 (by omega) (by omega)
  have o2:=aD (max bs.2.2 V.2) B.2 (by omega) (by omega)
  have o3:=aD (max (max bs.2.2 V.2) B.2) X.2 (by omega) (by omega)
  have hne:((V.1.length:Int) != (bs.1.length:Int))=false:=by rw [hel];simp
  cases hc:(max (max bs.2.2 V.2) B.2 == 0) with
  | true =>
   refine fi Tryz.func132 Tryz.ntmps132 Tryz.results132 ?_
   repeat (first|(apply fw;focus ((with_reducible constructor)<;>constructor))|((first|with_reducible refine ga _ rfl fun Y y=>?_|(refine ca ?_;apply Exists.intro;constructor;assumption;intro Y y)|apply ri);simp only [zb,seval,xZ,kcc,g0,hz,gn,g11,gt,gd,hc,hsl,hne];refine fz y ?_;clear y Y))
   (refine WpA.draw0 4 _ _ _ rfl rfl rfl (by kernel_rfl) (by kernel_rfl) (by kernel_rfl) fun K8 hK8=>?_);simp only [zz] at hK8 ⊢;(refine Draw0.go fun K7 k=>?_);simp only [zb,seval,xZ,kcc];(refine qz (k _ _ ?_));clear k K7
   refine Draw0.step (oz (o3)) ?_
   (refine Draw0.go fun K7 k=>?_);simp only [zb,seval,xZ,kcc];(refine qz (k _ _ ?_));clear k K7;(try ((refine Draw0.nil (hK8 _ ?_));clear hK8 K8;(refine WpL.go _ rfl fun Y y=>?_);repeat (first|(apply fw;focus ((with_reducible constructor)<;>constructor))|((first|with_reducible refine ga _ rfl fun Y y=>?_|apply ri);simp only [zb,seval,xZ,kcc];refine fz y ?_;clear y Y))))
   refine ye (by simp only [zb,seval,xZ,kcc];rfl) (by simp only [zv,kcc];rfl) ?_
   rfl
  | false =>
   refine fi Tryz.func132 Tryz.ntmps132 Tryz.results132 ?_
   repeat (first|(apply fw;focus ((with_reducible constructor)<;>constructor))|((first|with_reducible refine ga _ rfl fun Y y=>?_|(refine ca ?_;apply Exists.intro;constructor;assumption;intro Y y)|apply ri);simp only [zb,seval,xZ,kcc,g0,hz,gn,g11,gt,gd,hc,hsl,hne];refine fz y ?_;clear y Y))
   (refine WpA.draw0 4 _ _ _ rfl rfl rfl (by kernel_rfl) (by kernel_rfl) (by kernel_rfl) fun K8 hK8=>?_);simp only [zz] at hK8 ⊢;(refine Draw0.go fun K7 k=>?_);simp only [zb,seval,xZ,kcc];(refine qz (k _ _ ?_));clear k K7
   refine Draw0.step (oz (o3)) ?_
   (refine Draw0.go fun K7 k=>?_);simp only [zb,seval,xZ,kcc];(refine qz (k _ _ ?_));clear k K7;(try ((refine Draw0.nil (hK8 _ ?_));clear hK8 K8;(refine WpL.go _ rfl fun Y y=>?_);repeat (first|(apply fw;focus ((with_reducible constructor)<;>constructor))|((first|with_reducible refine ga _ rfl fun Y y=>?_|apply ri);simp only [zb,seval,xZ,kcc];refine fz y ?_;clear y Y))))
   refine ye (by simp only [zb,seval,xZ,kcc];rfl) (by simp only [zv,kcc];rfl) ?_
   rfl
theorem AR {n:Nat} {ev:Ev} (hE:HE n ev):∀(l:List (ByteArray × D)) (s:Rs),s.2≤2→(oU ev l s).2≤2
 | [],s,h=>h
 | p::l,s,h=>Nat.max_le.2 ⟨AR hE l s h,kX ev hE _ _ _⟩
def IQ (ev:Ev) (ns:List ByteArray) (vs:List D) (s0:Rs) (B:K) (k:Nat):St:=⟨[(12,.one (.v (.int .i64 ((k:Int)-1)))),(4,.one (.sl 1 (dQ ns))),(5,.one (.sl 6 (vs.map D.cc))),(6,.one (.er (oU ev ((ns.zip vs).drop k) s0).2)),(11,.one (.ptr 2 1 0 0)),(2,.one (.ptr 0 1 0 0)),(3,.one (.er 0))],[some ⟨31,11,[[.v (.int .i64 0),.v (.string ⟨#[]⟩),.v (.string ⟨#[]⟩),.v (.slice none 0 0),.v (.int .i64 0),.v (.int .i32 0),.v (.bool false),.v (.slice none 0 0),.v (.string ⟨#[]⟩),.v (.slice none 0 0),.v (.slice none 0 0)]]⟩,some ⟨31,11,[B.cc]⟩,some ⟨31,11,[(oU ev ((ns.zip vs).drop k) s0).1.cc]⟩]⟩
def YJ (ev:Ev) (ns:List ByteArray) (vs:List D) (s0:Rs) (B:K) (k:Nat) (st:St):Prop:=k≤ns.length∧st=IQ ev ns vs s0 B k
theorem ES {n:Nat} {ev:Ev} (hE:HE n ev) (l0:List D) (hl:Gds n l0):Pure Tryz.prog 131 [.one (.sl 6 (l0.map D.cc))] (rsA (kF ev l0)):=by
 have hbig:=hE.big
 have hw:Pure Tryz.prog 84 [.one (.v (.string ⟨#[108,101,116,42]⟩)),.one (.gv 1)] (.one (.er 2)):=dD _ 1
 match l0,hl with
 | [],hl =>
  rw [show kF ev []=(kz,2) from rfl,List.map_nil]
  refine fi Tryz.func131 Tryz.ntmps131 Tryz.results131 ?_
  repeat (first|(apply fw;focus ((with_reducible constructor)<;>constructor))|((first|with_reducible refine ga _ rfl fun Y y=>?_|apply ri);simp only [zb,seval,iW,kcc];refine fz y ?_;clear y Y))
  refine cz (hw) ?_
  (refine WpL.go _ rfl fun Y y=>?_);repeat (first|(apply fw;focus ((with_reducible constructor)<;>constructor))|((first|with_reducible refine ga _ rfl fun Y y=>?_|apply ri);simp only [zb,seval,iW,kcc];refine fz y ?_;clear y Y))
  refine yl (by simp only [zb,seval,iW,kcc,rsA];rfl) (by simp only [zv,kcc,rsA];rfl) ((by simp only [rcc,rsA];exact ae)) rfl
 | a::r,hl =>
  obtain⟨l,hlr⟩:∃l,a::r=l:=⟨_,rfl⟩
  obtain⟨g0,gt,gd,gl,gn,g11,g00,g22⟩:=qD a r l hlr
  have hle1:(1:Int)≤(l.length:Int):=by omega
  have ha:=hl.head
  have hr:=hl.tail
  have hz:((l.length:Int) == 0)=false:=by rw [gl];simp;omega
  obtain⟨hbv,hbl,hbn,hbe⟩:=iL ha
  have hbd:=lA a ha hbig
  have hbo:=hE.b r hr
  have hap:=qC hE [] (ev.b r).1 [] (by simp) ⟨trivial,trivial,by have:=hl.2.2;simp [cK];have:=gQ a;have:=ha.2.2;omega⟩
  have w2:=hE.b2 r
  have w3:=kX ev hE [] (ev.b r).1 []
  have hsl:=dR (bC a).1
  rw [show kF ev (a::r)=oU ev ((bC a).1.zip (bC a).2.1) ((fT ev [] (ev.b r).1 []).1,max (max (bC a).2.2 (ev.b r).2) (fT ev [] (ev.b r).1 []).2) from rfl,hlr]
  simp only [bdA,rlA,rsA,List.map_nil,dQ] at hbd hbo hap
  rw [show (List.map (fun s=>[C.v (.string s)]) (bC a).1)=dQ (bC a).1 from rfl] at hbd
  generalize bC a=bs at *
  generalize ev.b r=B at *
  generalize fT ev [] B.1 []=X at *
  have o1:=aD bs.2.2 B.2 (by omega) (by omega)
  have o2:=aD (max bs.2.2 B.2) X.2 (by omega) (by omega)
  by_cases hnn:bs.1=[]
  ·have hz2:((bs.1.length:Int) == 0)=true:=by rw [hnn];rfl
   rw [hnn]
   simp only [List.zip_nil_left,oU,List.foldr_nil]
   rw [hnn] at hsl hbd hz2
   refine fi Tryz.func131 Tryz.ntmps131 Tryz.results131 ?_
   repeat (first|(apply fw;focus ((with_reducible constructor)<;>constructor))|((first|with_reducible refine ga _ rfl fun Y y=>?_|apply ri);simp only [zb,seval,iW,kcc,g0,hz];refine fz y ?_;clear y Y))
   refine cz (hbd) ?_
   (refine WpL.go _ rfl fun Y y=>?_);repeat (first|(apply fw;focus ((with_reducible constructor)<;>constructor))|((first|with_reducible refine ga _ rfl fun Y y=>?_|apply ri);simp only [zb,seval,iW,gn,g11,gt,gd];refine fz y ?_;clear y Y))
   refine cz (hbo) ?_
   (refine WpL.go _ rfl fun Y y=>?_);repeat (first|(apply fw;focus ((with_reducible constructor)<;>constructor))|((first|with_reducible refine ga _ rfl fun Y y=>?_|apply ri);simp only [zb,seval,iW,kcc];refine fz y ?_;clear y Y))
   refine cz (o1) ?_
   (refine WpL.go _ rfl fun Y y=>?_);repeat (first|(apply fw;focus ((with_reducible constructor)<;>constructor))|((first|with_reducible refine ga _ rfl fun Y y=>?_|apply ri);simp only [zb,seval,iW,kcc,hsl,hz2];refine fz y ?_;clear y Y))
   refine cz (hap) ?_
   (refine WpL.go _ rfl fun Y y=>?_);repeat (first|(apply fw;focus ((with_reducible constructor)<;>constructor))|((first|with_reducible refine ga _ rfl fun Y y=>?_|apply ri);simp only [zb,seval,iW,kcc];refine fz y ?_;clear y Y))
   (refine WpA.draw0 4 _ _ _ rfl rfl rfl (by kernel_rfl) (by kernel_rfl) (by kernel_rfl) fun K8 hK8=>?_);simp only [zz] at hK8 ⊢;(refine Draw0.go fun K7 k=>?_);simp only [zb,seval,iW,kcc];(refine qz (k _ _ ?_));clear k K7
   refine Draw0.step (oz (o2)) ?_
   (refine Draw0.go fun K7 k=>?_);simp only [zb,seval,iW,kcc];(refine qz (k _ _ ?_));clear k K7;(try ((refine Draw0.nil (hK8 _ ?_));clear hK8 K8;(refine WpL.go _ rfl fun Y y=>?_);repeat (first|(apply fw;focus ((with_reducible constructor)<;>constructor))|((first|with_reducible refine ga _ rfl fun Y y=>?_|apply ri);simp only [zb,seval,iW,kcc];refine fz y ?_;clear y Y))))
   refine ye (by simp only [zb,seval,iW,kcc];rfl) (by simp only [zv,kcc];rfl) ?_
   rfl
  ·have hz2:((bs.1.length:Int) == 0)=false:=by
    have:bs.1.length≠0:=fun h=>hnn (List.length_eq_zero_iff.1 h)
    simp;exact hnn
   have hws:IntKind.i64.wrap ((bs.1.length:Int)-1)=(bs.1.length:Int)-1:=dA (by omega) (by omega)
   have hdl:(bs.1.zip bs.2.1).drop bs.1.length=[]:=List.drop_of_length_le (by simp;omega)
   generalize hs0:((X.1,max (max bs.2.2 B.2) X.2):Rs)=s0
   have hs1:X.1=s0.1:=by rw [←hs0]
   have hs2:max (max bs.2.2 B.2) X.2=s0.2:=by rw [←hs0]
   have hsle:s0.2≤2:=by rw [←hs2];omega
   refine fi Tryz.func131 Tryz.ntmps131 Tryz.results131 ?_
   repeat (first|(apply fw;focus ((with_reducible constructor)<;>constructor))|((first|with_reducible refine ga _ rfl fun Y y=>?_|apply ri);simp only [zb,seval,iW,kcc,g0,hz];refine fz y ?_;clear y Y))
   refine cz (hbd) ?_
   (refine WpL.go _ rfl fun Y y=>?_);repeat (first|(apply fw;focus ((with_reducible constructor)<;>constructor))|((first|with_reducible refine ga _ rfl fun Y y=>?_|apply ri);simp only [zb,seval,iW,gn,g11,gt,gd];refine fz y ?_;clear y Y))
   refine cz (hbo) ?_
   (refine WpL.go _ rfl fun Y y=>?_);repeat (first|(apply fw;focus ((with_reducible constructor)<;>constructor))|((first|with_reducible refine ga _ rfl fun Y y=>?_|apply ri);simp only [zb,seval,iW,kcc];refine fz y ?_;clear y Y))
   refine cz (o1) ?_
   (refine WpL.go _ rfl fun Y y=>?_);repeat (first|(apply fw;focus ((with_reducible constructor)<;>constructor))|((first|with_reducible refine ga _ rfl fun Y y=>?_|apply ri);simp only [zb,seval,iW,kcc,hsl,hz2];refine fz y ?_;clear y Y))
   refine cz (hap) ?_
   (refine WpL.go _ rfl fun Y y=>?_);repeat (first|(apply fw;focus ((with_reducible constructor)<;>constructor))|((first|with_reducible refine ga _ rfl fun Y y=>?_|apply ri);simp only [zb,seval,iW,kcc];refine fz y ?_;clear y Y))
   refine cz (o2) ?_
   (refine WpL.go _ rfl fun Y y=>?_);repeat (first|(apply fw;focus ((with_reducible constructor)<;>constructor))|((first|with_reducible refine ga _ rfl fun Y y=>?_|apply ri);simp only [zb,seval,iW,kcc,hsl,hws,hs1,hs2];refine fz y ?_;clear y Y))
   refine WpA.loop (YJ ev bs.1 bs.2.1 s0 B.1) bs.1.length (st0:=⟨[(12,.one (.v (.int .i64 ((bs.1.length:Int)-1)))),(4,.one (.sl 1 (dQ bs.1))),(5,.one (.sl 6 (bs.2.1.map D.cc))),(6,.one (.er s0.2)),(11,.one (.ptr 2 1 0 0)),(2,.one (.ptr 0 1 0 0)),(3,.one (.er 0))],_⟩) (Le.sub (by simp [Sub,find])) ⟨Nat.le_refl _,by unfold IQ;rw [hdl];rfl⟩ ?_
   clear hbd hap hbo o1 o2
   intro k st hI
   obtain⟨hk,rfl⟩:=hI
   unfold IQ
   cases k with
   | zero =>
    have hge:decide ((0:Int)≤(((0:Nat):Int)-1))=false:=by decide
    repeat (first|(apply fw;focus ((with_reducible constructor)<;>constructor))|((first|with_reducible refine ga _ rfl fun Y y=>?_|apply ri);simp only [zb,seval,iW,hge];refine fz y ?_;clear y Y))
    repeat (first|(apply fw;focus ((with_reducible constructor)<;>constructor))|((first|with_reducible refine ga _ rfl fun Y y=>?_|apply ri);simp only [zb,seval,iW,hge,kcc];refine fz y ?_;clear y Y))
    refine ye (by simp only [zb,seval,iW,kcc];rfl) (by simp only [zv,kcc];rfl) ?_
    rfl
   | succ j =>
    have hj:j<bs.1.length:=hk
    have hj2:j<bs.2.1.length:=by omega
    have hge:decide ((0:Int)≤(j:Int))=true:=by simp
    have hc1:(((j+1:Nat):Int)-1)=(j:Int):=by omega
    have hwa:IntKind.i64.wrap ((j:Int)+1)=(j:Int)+1:=dA (by omega) (by omega)
    have hws2:IntKind.i64.wrap ((j:Int)-1)=(j:Int)-1:=dA (by omega) (by omega)
    have hgn:=oP hj
    have hgv:=vF hj2
    have hdr:(bs.1.zip bs.2.1).drop j=(bs.1[j],bs.2.1[j])::(bs.1.zip bs.2.1).drop (j+1):=by
     rw [List.drop_eq_getElem_cons (by simp;omega)];simp
    have hst:oU ev ((bs.1.zip bs.2.1).drop j) s0=oT ev (bs.1[j],bs.2.1[j]) (oU ev ((bs.1.zip bs.2.1).drop (j+1)) s0):=by rw [hdr];rfl
    have hsx:=AR hE ((bs.1.zip bs.2.1).drop (j+1)) s0 hsle
    rw [hc1]
    generalize oU ev ((bs.1.zip bs.2.1).drop (j+1)) s0=Y at *
    have hap:=qC hE [bs.1[j]] Y.1 [bs.2.1[j]] (by simp) ⟨⟨hbv.1.mem (List.getElem_mem hj2),trivial⟩,⟨hbv.2.1.mem (List.getElem_mem hj2),trivial⟩,by have:=(hbv.mem (List.getElem_mem hj2)).2.2;simp [cK];exact this⟩
    have w4:=kX ev hE [bs.1[j]] Y.1 [bs.2.1[j]]
    simp only [oT] at hst
    simp only [rsA,List.map_cons,List.map_nil,dQ] at hap
    generalize fT ev [bs.1[j]] Y.1 [bs.2.1[j]]=Z at *
    have o3:=aD Y.2 Z.2 hsx w4
    repeat (first|(apply fw;focus ((with_reducible constructor)<;>constructor)))
    ((with_reducible refine ga _ rfl fun Y y=>?_);simp only [zb,seval,iW,hge];(refine RunTo.fn y (by first|(simp;done)|omega|(simp;omega)) ?_);clear y Y);repeat (first|(apply fw;focus ((with_reducible constructor)<;>constructor)))
    have hsl3:(List.take ((j:Int)+1).toNat (dQ bs.1)).drop (j:Int).toNat=[[.v (.string bs.1[j])]]:=by
     rw [show ((j:Int)+1).toNat=j+1 by omega,Int.toNat_natCast,dQ,←List.map_take,←List.map_drop,List.take_succ_eq_append_getElem hj,List.drop_append_of_le_length (by simp;omega),List.drop_of_length_le (by simp;omega)]
     rfl
    skip
    refine WpA.draw1 18 [7,17] [] [_,[some ⟨31,11,[[.v (.int .i64 0),.v (.string ⟨#[]⟩),.v (.string ⟨#[]⟩),.v (.slice none 0 0),.v (.int .i64 0),.v (.int .i32 0),.v (.bool false),.v (.slice none 0 0),.v (.string ⟨#[]⟩),.v (.slice none 0 0),.v (.slice none 0 0)]]⟩,some ⟨31,11,[B.1.cc]⟩,some ⟨31,11,[Y.1.cc]⟩],[some ⟨31,11,[[.v (.int .i64 0),.v (.string ⟨#[]⟩),.v (.string ⟨#[]⟩),.v (.slice none 0 0),.v (.int .i64 0),.v (.int .i32 0),.v (.bool false),.v (.slice none 0 0),.v (.string ⟨#[]⟩),.v (.slice none 0 0),.v (.slice none 0 0)]]⟩,some ⟨31,11,[B.1.cc]⟩,some ⟨31,11,[Z.1.cc]⟩]] _ _ _ _ rfl rfl rfl (by kernel_rfl) (by kernel_rfl) (by kernel_rfl) (by kernel_rfl) rfl rfl rfl rfl (by decide) fun K8 hK8=>?_
    simp only [zz] at hK8 ⊢
    (refine Draw1.go fun K7 k=>?_);simp only [zb,seval,iW,hwa];(refine qz (k _ _ (by rfl) ?_));clear k K7;(simp only [zz,Nat.reduceAdd,Nat.reduceSub]);(try ((refine nz (hK8 _ ?_));clear hK8 K8;(refine WpL.go _ rfl fun Y y=>?_);repeat (first|(apply fw;focus ((with_reducible constructor)<;>constructor))|((first|with_reducible refine ga _ rfl fun Y y=>?_|apply ri);simp only [zb,seval,iW,hwa];refine fz y ?_;clear y Y))))
    refine Draw1.step (x:=.one (.sl 1 [[.v (.string bs.1[j])]])) (by rfl) (fun s9 _=>OpS.quietQ rfl ?_) ?_
    ·rw [←hsl3]
     exact EN (l:=(j:Int)) (h:=(j:Int)+1) (k:=(j:Int)+1) rfl dH rfl rfl rfl rfl (by omega) (by omega) (by omega) (by rw [dR];omega)
    simp only [bH]
    refine Draw1.eff 0 rfl rfl rfl (OpS.quiet rfl (by simp only [zb,seval,iW,kcc];rfl) (by simp)) ?_
    simp only [bH]
    (refine Draw1.go fun K7 k=>?_);simp only [zb,seval,iW,hgv,kcc];(refine qz (k _ _ (by rfl) ?_));clear k K7;(simp only [zz,Nat.reduceAdd,Nat.reduceSub]);(try ((refine nz (hK8 _ ?_));clear hK8 K8;(refine WpL.go _ rfl fun Y y=>?_);repeat (first|(apply fw;focus ((with_reducible constructor)<;>constructor))|((first|with_reducible refine ga _ rfl fun Y y=>?_|apply ri);simp only [zb,seval,iW,hgv,kcc];refine fz y ?_;clear y Y))))
    refine Draw1.step (x:=.one (.sl 6 [(bs.2.1[j]).cc])) (by rfl) (fun s9 _=>?_) ?_
    ·refine OpS.frozen (n:=1) (wd:=6) (ty:=28) (rows:=[(bs.2.1[j]).cc]) ?_ rfl (by simp [ksh])
     refine OpS.eff [(75,.agg (bs.2.1[j]).cc)] rfl (by rfl) ⟨rfl,trivial⟩ (by simp only [zb,seval,iW,kcc];rfl) (by simp)
    simp only [bH]
    refine Draw1.step (by rfl) (fun s9 _=>oz (hap)) ?_
    (refine Draw1.go fun K7 k=>?_);simp only [zb,seval,iW,kcc];(refine qz (k _ _ (by rfl) ?_));clear k K7;(simp only [zz,Nat.reduceAdd,Nat.reduceSub])
    refine Draw1.eff 1 rfl rfl rfl (OpS.eff [(11,_),(78,_)] rfl (by rfl) ⟨rfl,rfl,trivial⟩ (by simp only [zb,seval,iW,kcc];rfl) (by first|(simp;done)|omega|(simp;omega))) ?_;(try simp only [bH]);(try ((refine Draw1.go fun K7 k=>?_);simp only [zb,seval,iW,kcc];(refine qz (k _ _ (by rfl) ?_));clear k K7;(simp only [zz,Nat.reduceAdd,Nat.reduceSub]);(try ((refine nz (hK8 _ ?_));clear hK8 K8;(refine WpL.go _ rfl fun Y y=>?_);repeat (first|(apply fw;focus ((with_reducible constructor)<;>constructor))|((first|with_reducible refine ga _ rfl fun Y y=>?_|apply ri);simp only [zb,seval,iW,kcc];refine fz y ?_;clear y Y))))))
    refine cz (o3) ?_
    (refine WpL.go _ rfl fun Y y=>?_);repeat (first|(apply fw;focus ((with_reducible constructor)<;>constructor))|((first|with_reducible refine ga _ rfl fun Y y=>?_|apply ri);simp only [zb,seval,iW,hws2];refine fz y ?_;clear y Y))
    refine⟨j,IQ ev bs.1 bs.2.1 s0 B.1 j,by omega,?_,by omega,rfl⟩
    unfold IQ
    rw [hst]
    exact Le.sub (by simp [Sub,find])
theorem iM {n:Nat} {ev:Ev} (hE:HE n ev) (d:D) (b:K):(eI ev d b).2≤2:=kX ev hE _ _ _
theorem qE (ev:Ev) (a:D) (r:List D):jG ev (a::r)=match gJ a with
  | []=>(kz,2)
  | c::cs=>if gY c jE then (if r=[] then fL ev.e cs else (kz,2)) else
   match cs with
   | []=>((eI ev c (aI (bL bQ) (bL bQ) (jG ev r).1)).1,max (jG ev r).2 (eI ev c (aI (bL bQ) (bL bQ) (jG ev r).1)).2)
   | f::fs=>if gY f rL then
     (match fs with
     | [g]=>((eI ev c (aI (bL bQ) (dL [(ev.e g).1,bL bQ]).1 (jG ev r).1)).1,max (max (max (jG ev r).2 (ev.e g).2) (dL [(ev.e g).1,bL bQ]).2) (eI ev c (aI (bL bQ) (dL [(ev.e g).1,bL bQ]).1 (jG ev r).1)).2)
     | _=>(kz,2))
    else (aI (ev.e c).1 (fL ev.e cs).1 (jG ev r).1,max (max (jG ev r).2 (ev.e c).2) (fL ev.e cs).2):=by
 rw [jG];rfl
theorem AU {n:Nat} {ev:Ev} (hE:HE n ev):∀l:List D,(jG ev l).2≤2
 | []=>Nat.zero_le _
 | a::r=>by
  have ih:=AU hE r
  rw [qE]
  split
  ·exact Nat.le_refl _
  ·rename_i c cs _
   have w1:=kK hE cs
   have w2:=hE.e2 c
   split
   ·split
    ·exact w1
    ·exact Nat.le_refl _
   ·split
    ·have:=iM hE c (aI (bL bQ) (bL bQ) (jG ev r).1)
     dsimp only;omega
    ·rename_i f fs
     split
     ·split
      ·rename_i g
       have w3:=hE.e2 g
       have w4:=fD [(ev.e g).1,bL bQ]
       have w5:=iM hE c (aI (bL bQ) (dL [(ev.e g).1,bL bQ]).1 (jG ev r).1)
       dsimp only;omega
      ·exact Nat.le_refl _
     ·dsimp only;omega
theorem nY {n:Nat} {d:D} (hd:Gd n d):Gds n (gJ d):=by rw [←DB];exact jM hd
theorem vS (d:D):(bF d=([],2)∧gJ d=[])∨(bF d=(gJ d,0)):=by
 unfold bF gJ
 split
 ·exact .inr rfl
 ·exact .inl ⟨rfl,rfl⟩
theorem DC {n:Nat} {ev:Ev} (hE:HE n ev):∀(l0:List D),Gds n l0→Pure Tryz.prog 133 [.one (.sl 6 (l0.map D.cc))] (rsA (jG ev l0))
 | [],hl=>by
  have hno:=gT
  rw [show jG ev []=(bU,0) from rfl,List.map_nil]
  refine fi Tryz.func133 Tryz.ntmps133 Tryz.results133 ?_
  repeat (first|(apply fw;focus ((with_reducible constructor)<;>constructor))|((first|with_reducible refine ga _ rfl fun Y y=>?_|(refine ca ?_;apply Exists.intro;constructor;assumption;intro Y y)|apply ri);simp only [zb,seval,eD,kcc];refine fz y ?_;clear y Y))
  refine ye (by simp only [zb,seval,eD,kcc];rfl) (by simp only [zv,kcc];rfl) ?_
  rfl
 | a::r,hl=>by
  have hbig:=hE.big
  have hw:Pure Tryz.prog 84 [.one (.v (.string ⟨#[99,111,110,100]⟩)),.one (.gv 1)] (.one (.er 2)):=dD _ 1
  have ih:=DC hE r hl.tail
  have ihe:=AU hE r
  obtain⟨l,hlr⟩:∃l,a::r=l:=⟨_,rfl⟩
  obtain⟨g0,gt,gd,gl,gn,g11,g00,g22⟩:=qD a r l hlr
  have hle1:(1:Int)≤(l.length:Int):=by omega
  have ha:=hl.head
  have hz:((l.length:Int) == 0)=false:=by rw [gl];simp;omega
  have hit:=gC a ha.2.1 (by have:=ha.items.len;omega)
  have hq:=nY ha
  rw [qE,hlr]
  rcases vS a with ⟨h1,h2⟩|h1
  ·rw [h1] at hit
   rw [h2]
   simp only [List.map_nil] at hit
   refine fi Tryz.func133 Tryz.ntmps133 Tryz.results133 ?_
   repeat (first|(apply fw;focus ((with_reducible constructor)<;>constructor))|((first|with_reducible refine ga _ rfl fun Y y=>?_|(refine ca ?_;apply Exists.intro;constructor;assumption;intro Y y)|apply ri);simp only [zb,seval,eD,kcc,g0,hz];refine fz y ?_;clear y Y))
   refine yl (by simp only [zb,seval,eD,kcc,rsA];rfl) (by simp only [zv,kcc,rsA];rfl) ((by simp only [rcc,rsA];exact ae)) rfl
  rw [h1] at hit
  generalize gJ a=q0 at *
  match q0,hq with
  | [],hq =>
   simp only [List.map_nil] at hit
   refine fi Tryz.func133 Tryz.ntmps133 Tryz.results133 ?_
   repeat (first|(apply fw;focus ((with_reducible constructor)<;>constructor))|((first|with_reducible refine ga _ rfl fun Y y=>?_|(refine ca ?_;apply Exists.intro;constructor;assumption;intro Y y)|apply ri);simp only [zb,seval,eD,kcc,g0,hz];refine fz y ?_;clear y Y))
   refine yl (by simp only [zb,seval,eD,kcc,rsA];rfl) (by simp only [zv,kcc,rsA];rfl) ((by simp only [rcc,rsA];exact ae)) rfl
  | c::cs,hq =>
   dsimp only
   dsimp only at hit
   obtain⟨q,hqr⟩:∃q,c::cs=q:=⟨_,rfl⟩
   obtain⟨q0,qt,qd,ql,-⟩:=qD c cs q hqr
   have hqz:((q.length:Int) == 0)=false:=by rw [ql];simp;omega
   have hq1:(1:Int)≤(q.length:Int):=by omega
   have hc:=hq.head
   have hcs:=hq.tail
   have hsy:Pure Tryz.prog 82 [.agg c.cc,.one (.v (.string ⟨#[101,108,115,101]⟩))] (.one (.v (.bool (gY c jE)))):=nU c jE
   rw [hqr] at hit
   cases hels:gY c jE with
   | true =>
    rw [hels] at hsy
    simp only [if_true]
    by_cases hr:r=[]
    ·have hg1:decide ((1:Int)<(l.length:Int))=false:=by rw [←hlr,hr];rfl
     have hsq:=gE hE cs hcs
     rw [if_pos hr]
     simp only [rsA] at hsq
     refine fi Tryz.func133 Tryz.ntmps133 Tryz.results133 ?_
     repeat (first|(apply fw;focus ((with_reducible constructor)<;>constructor))|((first|with_reducible refine ga _ rfl fun Y y=>?_|(refine ca ?_;apply Exists.intro;constructor;assumption;intro Y y)|apply ri);simp only [zb,seval,eD,kcc,g0,hz,hqz,q0,hg1,gn,g11,qt,qd];refine fz y ?_;clear y Y))
     refine ye (by simp only [zb,seval,eD,kcc];rfl) (by simp only [zv,kcc];rfl) ?_
     rfl
    ·have hg1:decide ((1:Int)<(l.length:Int))=true:=by
      have:r.length≠0:=fun h=>hr (List.length_eq_zero_iff.1 h)
      rw [gl];simp;omega
     rw [if_neg hr]
     refine fi Tryz.func133 Tryz.ntmps133 Tryz.results133 ?_
     repeat (first|(apply fw;focus ((with_reducible constructor)<;>constructor))|((first|with_reducible refine ga _ rfl fun Y y=>?_|(refine ca ?_;apply Exists.intro;constructor;assumption;intro Y y)|apply ri);simp only [zb,seval,eD,kcc,g0,hz,hqz,q0,hg1];refine fz y ?_;clear y Y))
     refine yl (by simp only [zb,seval,eD,kcc,rsA];rfl) (by simp only [zv,kcc,rsA];rfl) ((by simp only [rcc,rsA];exact ae)) rfl
   | false =>
    rw [hels] at hsy
    simp only [Bool.false_eq_true,if_false]
    simp only [rsA] at ih
    have hrt:=oX bQ
    generalize jG ev r=R at *
    match cs,hcs,hqr with
    | [],hcs,hqr =>
     have hq1':((q.length:Int) == 1)=true:=by rw [←hqr];rfl
     have hbr:=dZ (bL bQ) (bL bQ) R.1
     have hte:=nX hE c (aI (bL bQ) (bL bQ) R.1) hc
     have w1:=iM hE c (aI (bL bQ) (bL bQ) R.1)
     dsimp only
     simp only [rsA] at hte ⊢
     generalize eI ev c (aI (bL bQ) (bL bQ) R.1)=T at *
     have hbo:=aD R.2 T.2 ihe w1
     refine fi Tryz.func133 Tryz.ntmps133 Tryz.results133 ?_
     repeat (first|(apply fw;focus ((with_reducible constructor)<;>constructor))|((first|with_reducible refine ga _ rfl fun Y y=>?_|(refine ca ?_;apply Exists.intro;constructor;assumption;intro Y y)|apply ri);simp only [zb,seval,eD,kcc,g0,hz,hqz,q0,gn,g11,gt,gd,hq1'];refine fz y ?_;clear y Y))
     (refine WpA.draw1c 13 [11,12] [_,?_,?_] _ _ _ _ rfl rfl rfl (by kernel_rfl) (by kernel_rfl) (by kernel_rfl) (by kernel_rfl) rfl rfl rfl rfl (by decide) fun K8 hK8=>?_);rotate_left 2;simp only [zz] at hK8 ⊢;(refine Draw1.go fun K7 k=>?_);simp only [zb,seval,eD,kcc,q0];(refine qz (k _ _ (by rfl) ?_));clear k K7;(simp only [zz,Nat.reduceAdd,Nat.reduceSub])
     refine Draw1.step (by rfl) (fun s9 _=>oz (hrt)) ?_
     (refine Draw1.go fun K7 k=>?_);simp only [zb,seval,eD,kcc];(refine qz (k _ _ (by rfl) ?_));clear k K7;(simp only [zz,Nat.reduceAdd,Nat.reduceSub])
     refine Draw1.step (by rfl) (fun s9 _=>oz (hrt)) ?_
     (refine Draw1.go fun K7 k=>?_);simp only [zb,seval,eD,kcc];(refine qz (k _ _ (by rfl) ?_));clear k K7;(simp only [zz,Nat.reduceAdd,Nat.reduceSub])
     refine Draw1.step (by rfl) (fun s9 _=>oz (hbr)) ?_
     (refine Draw1.go fun K7 k=>?_);simp only [zb,seval,eD,kcc];(refine qz (k _ _ (by rfl) ?_));clear k K7;(simp only [zz,Nat.reduceAdd,Nat.reduceSub])
     refine Draw1.step (by rfl) (fun s9 _=>oz (hte)) ?_
     (refine Draw1.go fun K7 k=>?_);simp only [zb,seval,eD,kcc];(refine qz (k _ _ (by rfl) ?_));clear k K7;(simp only [zz,Nat.reduceAdd,Nat.reduceSub])
     refine Draw1.eff 0 rfl rfl rfl (OpS.eff [] rfl (by rfl) trivial (by simp only [zb,seval,eD,kcc];rfl) (by first|(simp;done)|omega|(simp;omega))) ?_;(try simp only [bH]);(try ((refine Draw1.go fun K7 k=>?_);simp only [zb,seval,eD,kcc];(refine qz (k _ _ (by rfl) ?_));clear k K7;(simp only [zz,Nat.reduceAdd,Nat.reduceSub]);(try ((refine nz (hK8 _ ?_));clear hK8 K8;(refine WpL.go _ rfl fun Y y=>?_);repeat (first|(apply fw;focus ((with_reducible constructor)<;>constructor))|((first|with_reducible refine ga _ rfl fun Y y=>?_|apply ri);simp only [zb,seval,eD,kcc];refine fz y ?_;clear y Y))))))
     refine Draw1.eff 1 rfl rfl rfl (OpS.eff [(7,_),(70,_)] rfl (by rfl) ⟨rfl,rfl,trivial⟩ (by simp only [zb,seval,eD,kcc];rfl) (by first|(simp;done)|omega|(simp;omega))) ?_;(try simp only [bH]);(try ((refine Draw1.go fun K7 k=>?_);simp only [zb,seval,eD,kcc];(refine qz (k _ _ (by rfl) ?_));clear k K7;(simp only [zz,Nat.reduceAdd,Nat.reduceSub]);(try ((refine nz (hK8 _ ?_));clear hK8 K8;(refine WpL.go _ rfl fun Y y=>?_);repeat (first|(apply fw;focus ((with_reducible constructor)<;>constructor))|((first|with_reducible refine ga _ rfl fun Y y=>?_|apply ri);simp only [zb,seval,eD,kcc];refine fz y ?_;clear y Y))))))
     (refine WpA.draw0 4 _ _ _ rfl rfl rfl (by kernel_rfl) (by kernel_rfl) (by kernel_rfl) fun K8 hK8=>?_);simp only [zz] at hK8 ⊢;(refine Draw0.go fun K7 k=>?_);simp only [zb,seval,eD,kcc];(refine qz (k _ _ ?_));clear k K7
     refine Draw0.step (oz (hbo)) ?_
     (refine Draw0.go fun K7 k=>?_);simp only [zb,seval,eD,kcc];(refine qz (k _ _ ?_));clear k K7;(try ((refine Draw0.nil (hK8 _ ?_));clear hK8 K8;(refine WpL.go _ rfl fun Y y=>?_);repeat (first|(apply fw;focus ((with_reducible constructor)<;>constructor))|((first|with_reducible refine ga _ rfl fun Y y=>?_|apply ri);simp only [zb,seval,eD,kcc];refine fz y ?_;clear y Y))))
     refine ye (by simp only [zb,seval,eD,kcc];rfl) (by simp only [zv,kcc];rfl) ?_
     rfl
    | f::fs,hcs,hqr =>
     obtain⟨q1,-⟩:=UB c f fs q hqr
     have hq1':((q.length:Int) == 1)=false:=by rw [←hqr];simp;omega
     have hsa:Pure Tryz.prog 82 [.agg f.cc,.one (.v (.string ⟨#[61,62]⟩))] (.one (.v (.bool (gY f rL)))):=nU f rL
     dsimp only
     cases har:gY f rL with
     | true =>
      rw [har] at hsa
      simp only [if_true]
      match fs,hcs,hqr with
      | [g],hcs,hqr =>
       have hq3:((q.length:Int) != 3)=false:=by rw [←hqr];rfl
       have q2:(q.map D.cc)[2]?=some g.cc:=by rw [←hqr];rfl
       have hg:Gd n g:=hcs.tail.head
       have hx:=hE.e g hg
       have w0:=hE.e2 g
       have hcl:=fM [(ev.e g).1,bL bQ]
       have w1:=fD [(ev.e g).1,bL bQ]
       dsimp only
       simp only [rsA,List.map_cons,List.map_nil] at hx hcl ⊢
       generalize hgg:ev.e g=G at *
       generalize dL [G.1,bL bQ]=Y at *
       have hbr:=dZ (bL bQ) Y.1 R.1
       have hte:=nX hE c (aI (bL bQ) Y.1 R.1) hc
       have w2:=iM hE c (aI (bL bQ) Y.1 R.1)
       simp only [rsA] at hte
       generalize eI ev c (aI (bL bQ) Y.1 R.1)=T at *
       have b1:=aD R.2 G.2 ihe w0
       have b2:=aD (max R.2 G.2) Y.2 (by omega) w1
       have b3:=aD (max (max R.2 G.2) Y.2) T.2 (by omega) w2
       refine fi Tryz.func133 Tryz.ntmps133 Tryz.results133 ?_
       repeat (first|(apply fw;focus ((with_reducible constructor)<;>constructor))|((first|with_reducible refine ga _ rfl fun Y y=>?_|(refine ca ?_;apply Exists.intro;constructor;assumption;intro Y y)|apply ri);simp only [zb,seval,eD,kcc,g0,hz,hqz,q0,gn,g11,gt,gd,hq1',q1,hq3,q2];refine fz y ?_;clear y Y))
       (refine WpA.draw1c 9 [7,8] [_,?_,?_] _ _ _ _ rfl rfl rfl (by kernel_rfl) (by kernel_rfl) (by kernel_rfl) (by kernel_rfl) rfl rfl rfl rfl (by decide) fun K8 hK8=>?_);rotate_left 2;simp only [zz] at hK8 ⊢;(refine Draw1.go fun K7 k=>?_);simp only [zb,seval,eD,kcc];(refine qz (k _ _ (by rfl) ?_));clear k K7;(simp only [zz,Nat.reduceAdd,Nat.reduceSub])
       refine Draw1.step (by rfl) (fun s9 _=>oz (hrt)) ?_
       (refine Draw1.go fun K7 k=>?_);simp only [zb,seval,eD,kcc];(refine qz (k _ _ (by rfl) ?_));clear k K7;(simp only [zz,Nat.reduceAdd,Nat.reduceSub])
       refine Draw1.step (by rfl) (fun s9 _=>OpS.frozen (n:=2) (wd:=11) (ty:=31) (rows:=[G.1.cc,(bL bQ).cc]) (OpS.eff [(97,_),(98,_)] rfl (by rfl) ⟨rfl,rfl,trivial⟩ (by simp only [zb,seval,eD,kcc];rfl) (by simp)) rfl (by simp [ksh])) ?_;simp only [bH]
       (refine Draw1.go fun K7 k=>?_);simp only [zb,seval,eD,kcc];(refine qz (k _ _ (by rfl) ?_));clear k K7;(simp only [zz,Nat.reduceAdd,Nat.reduceSub])
       refine Draw1.step (by rfl) (fun s9 _=>oz (hcl)) ?_
       (refine Draw1.go fun K7 k=>?_);simp only [zb,seval,eD,kcc];(refine qz (k _ _ (by rfl) ?_));clear k K7;(simp only [zz,Nat.reduceAdd,Nat.reduceSub])
       refine Draw1.eff 0 rfl rfl rfl (OpS.eff [] rfl (by rfl) trivial (by simp only [zb,seval,eD,kcc];rfl) (by first|(simp;done)|omega|(simp;omega))) ?_;(try simp only [bH]);(try ((refine Draw1.go fun K7 k=>?_);simp only [zb,seval,eD,kcc];(refine qz (k _ _ (by rfl) ?_));clear k K7;(simp only [zz,Nat.reduceAdd,Nat.reduceSub]);(try ((refine nz (hK8 _ ?_));clear hK8 K8;(refine WpL.go _ rfl fun Y y=>?_);repeat (first|(apply fw;focus ((with_reducible constructor)<;>constructor))|((first|with_reducible refine ga _ rfl fun Y y=>?_|apply ri);simp only [zb,seval,eD,kcc];refine fz y ?_;clear y Y))))))
       refine Draw1.eff 1 rfl rfl rfl (OpS.eff [(11,_),(101,_)] rfl (by rfl) ⟨rfl,rfl,trivial⟩ (by simp only [zb,seval,eD,kcc];rfl) (by first|(simp;done)|omega|(simp;omega))) ?_;(try simp only [bH]);(try ((refine Draw1.go fun K7 k=>?_);simp only [zb,seval,eD,kcc];(refine qz (k _ _ (by rfl) ?_));clear k K7;(simp only [zz,Nat.reduceAdd,Nat.reduceSub]);(try ((refine nz (hK8 _ ?_));clear hK8 K8;(refine WpL.go _ rfl fun Y y=>?_);repeat (first|(apply fw;focus ((with_reducible constructor)<;>constructor))|((first|with_reducible refine ga _ rfl fun Y y=>?_|apply ri);simp only [zb,seval,eD,kcc];refine fz y ?_;clear y Y))))))
       refine cz (b2) ?_
       (refine WpL.go _ rfl fun Y y=>?_);repeat (first|(apply fw;focus ((with_reducible constructor)<;>constructor))|((first|with_reducible refine ga _ rfl fun Y y=>?_|apply ri);simp only [zb,seval,eD,kcc];refine fz y ?_;clear y Y))
       (refine WpA.draw1c 13 [11,12] [_,?_,?_] _ _ _ _ rfl rfl rfl (by kernel_rfl) (by kernel_rfl) (by kernel_rfl) (by kernel_rfl) rfl rfl rfl rfl (by decide) fun K8 hK8=>?_);rotate_left 2;simp only [zz] at hK8 ⊢;(refine Draw1.go fun K7 k=>?_);simp only [zb,seval,eD,kcc,q0];(refine qz (k _ _ (by rfl) ?_));clear k K7;(simp only [zz,Nat.reduceAdd,Nat.reduceSub])
       refine Draw1.step (by rfl) (fun s9 _=>oz (hrt)) ?_
       (refine Draw1.go fun K7 k=>?_);simp only [zb,seval,eD,kcc];(refine qz (k _ _ (by rfl) ?_));clear k K7;(simp only [zz,Nat.reduceAdd,Nat.reduceSub])
       refine Draw1.step (by rfl) (fun s9 _=>oz (hbr)) ?_
       (refine Draw1.go fun K7 k=>?_);simp only [zb,seval,eD,kcc];(refine qz (k _ _ (by rfl) ?_));clear k K7;(simp only [zz,Nat.reduceAdd,Nat.reduceSub])
       refine Draw1.step (by rfl) (fun s9 _=>oz (hte)) ?_
       (refine Draw1.go fun K7 k=>?_);simp only [zb,seval,eD,kcc];(refine qz (k _ _ (by rfl) ?_));clear k K7;(simp only [zz,Nat.reduceAdd,Nat.reduceSub])
       refine Draw1.eff 0 rfl rfl rfl (OpS.eff [] rfl (by rfl) trivial (by simp only [zb,seval,eD,kcc];rfl) (by first|(simp;done)|omega|(simp;omega))) ?_;(try simp only [bH]);(try ((refine Draw1.go fun K7 k=>?_);simp only [zb,seval,eD,kcc];(refine qz (k _ _ (by rfl) ?_));clear k K7;(simp only [zz,Nat.reduceAdd,Nat.reduceSub]);(try ((refine nz (hK8 _ ?_));clear hK8 K8;(refine WpL.go _ rfl fun Y y=>?_);repeat (first|(apply fw;focus ((with_reducible constructor)<;>constructor))|((first|with_reducible refine ga _ rfl fun Y y=>?_|apply ri);simp only [zb,seval,eD,kcc];refine fz y ?_;clear y Y))))))
       refine Draw1.eff 1 rfl rfl rfl (OpS.eff [(12,_),(115,_)] rfl (by rfl) ⟨rfl,rfl,trivial⟩ (by simp only [zb,seval,eD,kcc];rfl) (by first|(simp;done)|omega|(simp;omega))) ?_;(try simp only [bH]);(try ((refine Draw1.go fun K7 k=>?_);simp only [zb,seval,eD,kcc];(refine qz (k _ _ (by rfl) ?_));clear k K7;(simp only [zz,Nat.reduceAdd,Nat.reduceSub]);(try ((refine nz (hK8 _ ?_));clear hK8 K8;(refine WpL.go _ rfl fun Y y=>?_);repeat (first|(apply fw;focus ((with_reducible constructor)<;>constructor))|((first|with_reducible refine ga _ rfl fun Y y=>?_|apply ri);simp only [zb,seval,eD,kcc];refine fz y ?_;clear y Y))))))
       (refine WpA.draw0 4 _ _ _ rfl rfl rfl (by kernel_rfl) (by kernel_rfl) (by kernel_rfl) fun K8 hK8=>?_);simp only [zz] at hK8 ⊢;(refine Draw0.go fun K7 k=>?_);simp only [zb,seval,eD,kcc];(refine qz (k _ _ ?_));clear k K7
       refine Draw0.step (oz (b3)) ?_
       (refine Draw0.go fun K7 k=>?_);simp only [zb,seval,eD,kcc];(refine qz (k _ _ ?_));clear k K7;(try ((refine Draw0.nil (hK8 _ ?_));clear hK8 K8;(refine WpL.go _ rfl fun Y y=>?_);repeat (first|(apply fw;focus ((with_reducible constructor)<;>constructor))|((first|with_reducible refine ga _ rfl fun Y y=>?_|apply ri);simp only [zb,seval,eD,kcc];refine fz y ?_;clear y Y))))
       refine ye (by simp only [zb,seval,eD,kcc];rfl) (by simp only [zv,kcc];rfl) ?_
       rfl
      | [],hcs,hqr =>
       have hq3:((q.length:Int) != 3)=true:=by rw [←hqr];rfl
       dsimp only
       refine fi Tryz.func133 Tryz.ntmps133 Tryz.results133 ?_
       repeat (first|(apply fw;focus ((with_reducible constructor)<;>constructor))|((first|with_reducible refine ga _ rfl fun Y y=>?_|(refine ca ?_;apply Exists.intro;constructor;assumption;intro Y y)|apply ri);simp only [zb,seval,eD,kcc,g0,hz,hqz,q0,gn,g11,gt,gd,hq1',q1,hq3];refine fz y ?_;clear y Y))
       refine yl (by simp only [zb,seval,eD,kcc,rsA];rfl) (by simp only [zv,kcc,rsA];rfl) ((by simp only [rcc,rsA];exact ae)) rfl
      | g::g'::gs,hcs,hqr =>
       have hq3:((q.length:Int) != 3)=true:=by rw [←hqr];simp;omega
       dsimp only
       refine fi Tryz.func133 Tryz.ntmps133 Tryz.results133 ?_
       repeat (first|(apply fw;focus ((with_reducible constructor)<;>constructor))|((first|with_reducible refine ga _ rfl fun Y y=>?_|(refine ca ?_;apply Exists.intro;constructor;assumption;intro Y y)|apply ri);simp only [zb,seval,eD,kcc,g0,hz,hqz,q0,gn,g11,gt,gd,hq1',q1,hq3];refine fz y ?_;clear y Y))
       refine yl (by simp only [zb,seval,eD,kcc,rsA];rfl) (by simp only [zv,kcc,rsA];rfl) ((by simp only [rcc,rsA];exact ae)) rfl
     | false =>
      rw [har] at hsa
      simp only [Bool.false_eq_true,if_false]
      have hx:=hE.e c hc
      have w0:=hE.e2 c
      have hsq:=gE hE (f::fs) hcs
      have w1:=kK hE (f::fs)
      simp only [rsA] at hx hsq ⊢
      generalize hgg:ev.e c=G at *
      generalize fL ev.e (f::fs)=Y at *
      have hbr:=dZ G.1 Y.1 R.1
      have b1:=aD R.2 G.2 ihe w0
      have b2:=aD (max R.2 G.2) Y.2 (by omega) w1
      refine fi Tryz.func133 Tryz.ntmps133 Tryz.results133 ?_
      repeat (first|(apply fw;focus ((with_reducible constructor)<;>constructor))|((first|with_reducible refine ga _ rfl fun Y y=>?_|(refine ca ?_;apply Exists.intro;constructor;assumption;intro Y y)|apply ri);simp only [zb,seval,eD,kcc,g0,hz,hqz,q0,gn,g11,gt,gd,hq1',q1,qt,qd];refine fz y ?_;clear y Y))
      refine ye (by simp only [zb,seval,eD,kcc];rfl) (by simp only [zv,kcc];rfl) ?_
      rfl
theorem AV {n:Nat} (hn:n≤100000000):∀(l0:List D),Gds n l0→Pure Tryz.prog 128 [.one (.sl 6 (l0.map D.cc))] (.agg (pY l0).cc)
 | [],hl=>by
  have htr:=nG 2 (by decide)
  rw [List.map_nil]
  refine fi Tryz.func128 Tryz.ntmps128 Tryz.results128 ?_
  repeat (first|(apply fw;focus ((with_reducible constructor)<;>constructor))|((first|with_reducible refine ga _ rfl fun Y y=>?_|(refine ca ?_;apply Exists.intro;constructor;assumption;intro Y y)|apply ri);simp only [zb,seval,oB,kcc];refine fz y ?_;clear y Y))
  refine ye (by simp only [zb,seval,oB,kcc];rfl) (by simp only [zv,kcc];rfl) ?_
  rfl
 | a::r,hl=>by
  have ih:=AV hn r hl.tail
  obtain⟨l,hlr⟩:∃l,a::r=l:=⟨_,rfl⟩
  obtain⟨g0,gt,gd,gl,gn,g11,g00,g22⟩:=qD a r l hlr
  have hle1:(1:Int)≤(l.length:Int):=by omega
  have ha:=hl.head
  have hz:((l.length:Int) == 0)=false:=by rw [gl];simp;omega
  have hpr:=sM EE
  have hrt:=oX bQ
  have hco:=iJ a ha.2.1
  have hcl:=fM [eL EE,bL bQ,bT a]
  rw [show dL [eL EE,bL bQ,bT a]=(fZ [eL EE,bL bQ,bT a],0) from rfl] at hcl
  have htr:=nG 1 (by decide)
  have hbr:=dZ (fZ [eL EE,bL bQ,bT a]) (mX 1) (pY r)
  simp only [rsA,List.map_cons,List.map_nil] at hcl
  rw [show pY (a::r)=aI (fZ [eL EE,bL bQ,bT a]) (mX 1) (pY r) from rfl,hlr]
  generalize fZ [eL EE,bL bQ,bT a]=X at *
  generalize pY r=R at *
  refine fi Tryz.func128 Tryz.ntmps128 Tryz.results128 ?_
  repeat (first|(apply fw;focus ((with_reducible constructor)<;>constructor))|((first|with_reducible refine ga _ rfl fun Y y=>?_|apply ri);simp only [zb,seval,oB,kcc,hz];refine fz y ?_;clear y Y))
  (refine WpA.draw1c 13 [11,12] [_,?_,?_] _ _ _ _ rfl rfl rfl (by kernel_rfl) (by kernel_rfl) (by kernel_rfl) (by kernel_rfl) rfl rfl rfl rfl (by decide) fun K8 hK8=>?_);rotate_left 2;simp only [zz] at hK8 ⊢;(refine Draw1.go fun K7 k=>?_);simp only [zb,seval,oB,kcc,g0];(refine qz (k _ _ (by rfl) ?_));clear k K7;(simp only [zz,Nat.reduceAdd,Nat.reduceSub])
  refine Draw1.step (by rfl) (fun s9 _=>oz (hpr)) ?_
  (refine Draw1.go fun K7 k=>?_);simp only [zb,seval,oB,kcc];(refine qz (k _ _ (by rfl) ?_));clear k K7;(simp only [zz,Nat.reduceAdd,Nat.reduceSub])
  refine Draw1.step (by rfl) (fun s9 _=>oz (hrt)) ?_
  (refine Draw1.go fun K7 k=>?_);simp only [zb,seval,oB,kcc,g0];(refine qz (k _ _ (by rfl) ?_));clear k K7;(simp only [zz,Nat.reduceAdd,Nat.reduceSub])
  refine Draw1.step (by rfl) (fun s9 _=>oz (hco)) ?_
  (refine Draw1.go fun K7 k=>?_);simp only [zb,seval,oB,kcc];(refine qz (k _ _ (by rfl) ?_));clear k K7;(simp only [zz,Nat.reduceAdd,Nat.reduceSub])
  refine Draw1.step (by rfl) (fun s9 _=>OpS.frozen (n:=3) (wd:=11) (ty:=31) (rows:=[(eL EE).cc,(bL bQ).cc,(bT a).cc]) (OpS.eff [(10,_),(11,_),(15,_)] rfl (by rfl) ⟨rfl,rfl,rfl,trivial⟩ (by simp only [zb,seval,oB,kcc];rfl) (by simp)) rfl (by simp [ksh])) ?_;simp only [bH]
  refine Draw1.step (by rfl) (fun s9 _=>oz (hcl)) ?_
  (refine Draw1.go fun K7 k=>?_);simp only [zb,seval,oB,kcc];(refine qz (k _ _ (by rfl) ?_));clear k K7;(simp only [zz,Nat.reduceAdd,Nat.reduceSub])
  refine Draw1.eff 0 rfl rfl rfl (OpS.eff [] rfl (by rfl) trivial (by simp only [zb,seval,oB,kcc];rfl) (by first|(simp;done)|omega|(simp;omega))) ?_;(try simp only [bH]);(try ((refine Draw1.go fun K7 k=>?_);simp only [zb,seval,oB,kcc];(refine qz (k _ _ (by rfl) ?_));clear k K7;(simp only [zz,Nat.reduceAdd,Nat.reduceSub]);(try ((refine nz (hK8 _ ?_));clear hK8 K8;(refine WpL.go _ rfl fun Y y=>?_);repeat (first|(apply fw;focus ((with_reducible constructor)<;>constructor))|((first|with_reducible refine ga _ rfl fun Y y=>?_|apply ri);simp only [zb,seval,oB,kcc];refine fz y ?_;clear y Y))))))
  refine Draw1.eff 1 rfl rfl rfl (OpS.eff [(3,_),(18,_)] rfl (by rfl) ⟨rfl,rfl,trivial⟩ (by simp only [zb,seval,oB,kcc];rfl) (by first|(simp;done)|omega|(simp;omega))) ?_;(try simp only [bH]);(try ((refine Draw1.go fun K7 k=>?_);simp only [zb,seval,oB,kcc];(refine qz (k _ _ (by rfl) ?_));clear k K7;(simp only [zz,Nat.reduceAdd,Nat.reduceSub]);(try ((refine nz (hK8 _ ?_));clear hK8 K8;(refine WpL.go _ rfl fun Y y=>?_);repeat (first|(apply fw;focus ((with_reducible constructor)<;>constructor))|((first|with_reducible refine ga _ rfl fun Y y=>?_|apply ri);simp only [zb,seval,oB,kcc];refine fz y ?_;clear y Y))))))
  (refine WpA.draw0 6 _ _ _ rfl rfl rfl (by kernel_rfl) (by kernel_rfl) (by kernel_rfl) fun K8 hK8=>?_);simp only [zz] at hK8 ⊢;(refine Draw0.go fun K7 k=>?_);simp only [zb,seval,oB,kcc,gn,g11,gt,gd];(refine qz (k _ _ ?_));clear k K7
  refine Draw0.step (oz (htr)) ?_
  (refine Draw0.go fun K7 k=>?_);simp only [zb,seval,oB,kcc,gn,g11,gt,gd];(refine qz (k _ _ ?_));clear k K7
  refine Draw0.step (oz (ih)) ?_
  (refine Draw0.go fun K7 k=>?_);simp only [zb,seval,oB,kcc];(refine qz (k _ _ ?_));clear k K7
  refine Draw0.step (oz (hbr)) ?_
  (refine Draw0.go fun K7 k=>?_);simp only [zb,seval,oB,kcc];(refine qz (k _ _ ?_));clear k K7;(try ((refine Draw0.nil (hK8 _ ?_));clear hK8 K8;(refine WpL.go _ rfl fun Y y=>?_);repeat (first|(apply fw;focus ((with_reducible constructor)<;>constructor))|((first|with_reducible refine ga _ rfl fun Y y=>?_|apply ri);simp only [zb,seval,oB,kcc];refine fz y ?_;clear y Y))))
  refine ye (by simp only [zb,seval,oB,kcc];rfl) (by simp only [zv,kcc];rfl) ?_
  rfl
theorem mE (ev:Ev) (a:D) (r:List D):fR ev (a::r)=match gJ a with
  | c::f::fs=>if gY c jE then (if r=[] then fL ev.e (f::fs) else (kz,2)) else
   (aI (pY (bF c).1) (fL ev.e (f::fs)).1 (fR ev r).1,max (max (bF c).2 (fL ev.e (f::fs)).2) (fR ev r).2)
  | _=>(kz,2):=by
 rw [fR];rfl
theorem qF {n:Nat} {ev:Ev} (hE:HE n ev):∀l:List D,(fR ev l).2≤2
 | []=>Nat.zero_le _
 | a::r=>by
  have ih:=qF hE r
  rw [mE]
  split
  ·rename_i c f fs _
   have w1:=kK hE (f::fs)
   have w2:=iR c
   split
   ·split
    ·exact w1
    ·exact Nat.le_refl _
   ·dsimp only;omega
  ·exact Nat.le_refl _
theorem xN {n:Nat} {ev:Ev} (hE:HE n ev):∀(l0:List D),Gds n l0→Pure Tryz.prog 111 [.one (.sl 6 (l0.map D.cc))] (rsA (fR ev l0))
 | [],hl=>by
  have hno:=gT
  rw [show fR ev []=(bU,0) from rfl,List.map_nil]
  refine fi Tryz.func111 Tryz.ntmps111 Tryz.results111 ?_
  repeat (first|(apply fw;focus ((with_reducible constructor)<;>constructor))|((first|with_reducible refine ga _ rfl fun Y y=>?_|(refine ca ?_;apply Exists.intro;constructor;assumption;intro Y y)|apply ri);simp only [zb,seval,pT,kcc];refine fz y ?_;clear y Y))
  refine ye (by simp only [zb,seval,pT,kcc];rfl) (by simp only [zv,kcc];rfl) ?_
  rfl
 | a::r,hl=>by
  have hbig:=hE.big
  have hw:Pure Tryz.prog 84 [.one (.v (.string ⟨#[99,97,115,101]⟩)),.one (.gv 1)] (.one (.er 2)):=dD _ 1
  have ih:=xN hE r hl.tail
  have ihe:=qF hE r
  obtain⟨l,hlr⟩:∃l,a::r=l:=⟨_,rfl⟩
  obtain⟨g0,gt,gd,gl,gn,g11,g00,g22⟩:=qD a r l hlr
  have hle1:(1:Int)≤(l.length:Int):=by omega
  have ha:=hl.head
  have hz:((l.length:Int) == 0)=false:=by rw [gl];simp;omega
  have hit:=gC a ha.2.1 (by have:=ha.items.len;omega)
  have hq:=nY ha
  rw [mE,hlr]
  rcases vS a with ⟨h1,h2⟩|h1
  ·rw [h1] at hit
   rw [h2]
   simp only [List.map_nil] at hit
   refine fi Tryz.func111 Tryz.ntmps111 Tryz.results111 ?_
   repeat (first|(apply fw;focus ((with_reducible constructor)<;>constructor))|((first|with_reducible refine ga _ rfl fun Y y=>?_|(refine ca ?_;apply Exists.intro;constructor;assumption;intro Y y)|apply ri);simp only [zb,seval,pT,kcc,g0,hz];refine fz y ?_;clear y Y))
   refine yl (by simp only [zb,seval,pT,kcc,rsA];rfl) (by simp only [zv,kcc,rsA];rfl) ((by simp only [rcc,rsA];exact ae)) rfl
  rw [h1] at hit
  generalize gJ a=q0 at *
  match q0,hq with
  | [],hq =>
   simp only [List.map_nil] at hit
   refine fi Tryz.func111 Tryz.ntmps111 Tryz.results111 ?_
   repeat (first|(apply fw;focus ((with_reducible constructor)<;>constructor))|((first|with_reducible refine ga _ rfl fun Y y=>?_|(refine ca ?_;apply Exists.intro;constructor;assumption;intro Y y)|apply ri);simp only [zb,seval,pT,kcc,g0,hz];refine fz y ?_;clear y Y))
   refine yl (by simp only [zb,seval,pT,kcc,rsA];rfl) (by simp only [zv,kcc,rsA];rfl) ((by simp only [rcc,rsA];exact ae)) rfl
  | [c],hq =>
   simp only [List.map_cons,List.map_nil] at hit
   refine fi Tryz.func111 Tryz.ntmps111 Tryz.results111 ?_
   repeat (first|(apply fw;focus ((with_reducible constructor)<;>constructor))|((first|with_reducible refine ga _ rfl fun Y y=>?_|(refine ca ?_;apply Exists.intro;constructor;assumption;intro Y y)|apply ri);simp only [zb,seval,pT,kcc,g0,hz];refine fz y ?_;clear y Y))
   refine yl (by simp only [zb,seval,pT,kcc,rsA];rfl) (by simp only [zv,kcc,rsA];rfl) ((by simp only [rcc,rsA];exact ae)) rfl
  | c::f::fs,hq =>
   dsimp only
   dsimp only at hit
   obtain⟨q,hqr⟩:∃q,c::f::fs=q:=⟨_,rfl⟩
   obtain⟨q0,qt,qd,ql,-⟩:=qD c (f::fs) q hqr
   have hqz:decide ((q.length:Int)<2)=false:=by rw [←hqr];simp;omega
   have hq1:(1:Int)≤(q.length:Int):=by omega
   have hc:=hq.head
   have hcs:=hq.tail
   have hsy:Pure Tryz.prog 82 [.agg c.cc,.one (.v (.string ⟨#[101,108,115,101]⟩))] (.one (.v (.bool (gY c jE)))):=nU c jE
   have hsq:=gE hE (f::fs) hcs
   have w1:=kK hE (f::fs)
   simp only [rsA] at hsq
   rw [hqr] at hit
   generalize fL ev.e (f::fs)=Y at *
   cases hels:gY c jE with
   | true =>
    rw [hels] at hsy
    simp only [if_true]
    by_cases hr:r=[]
    ·have hg1:decide ((1:Int)<(l.length:Int))=false:=by rw [←hlr,hr];rfl
     rw [if_pos hr]
     refine fi Tryz.func111 Tryz.ntmps111 Tryz.results111 ?_
     repeat (first|(apply fw;focus ((with_reducible constructor)<;>constructor))|((first|with_reducible refine ga _ rfl fun Y y=>?_|(refine ca ?_;apply Exists.intro;constructor;assumption;intro Y y)|apply ri);simp only [zb,seval,pT,kcc,g0,hz,hqz,q0,hg1,gn,g11,qt,qd];refine fz y ?_;clear y Y))
     refine ye (by simp only [zb,seval,pT,kcc];rfl) (by simp only [zv,kcc];rfl) ?_
     rfl
    ·have hg1:decide ((1:Int)<(l.length:Int))=true:=by
      have:r.length≠0:=fun h=>hr (List.length_eq_zero_iff.1 h)
      rw [gl];simp;omega
     rw [if_neg hr]
     refine fi Tryz.func111 Tryz.ntmps111 Tryz.results111 ?_
     repeat (first|(apply fw;focus ((with_reducible constructor)<;>constructor))|((first|with_reducible refine ga _ rfl fun Y y=>?_|(refine ca ?_;apply Exists.intro;constructor;assumption;intro Y y)|apply ri);simp only [zb,seval,pT,kcc,g0,hz,hqz,q0,hg1];refine fz y ?_;clear y Y))
     refine yl (by simp only [zb,seval,pT,kcc,rsA];rfl) (by simp only [zv,kcc,rsA];rfl) ((by simp only [rcc,rsA];exact ae)) rfl
   | false =>
    rw [hels] at hsy
    simp only [Bool.false_eq_true,if_false]
    have hci:=gC c hc.2.1 (by have:=hc.items.len;omega)
    have hoo:=AV hbig (bF c).1 (jM hc)
    have w2:=iR c
    simp only [rsA] at ih ⊢
    generalize fR ev r=R at *
    generalize bF c=I at *
    have hbr:=dZ (pY I.1) Y.1 R.1
    have b1:=aD I.2 Y.2 w2 w1
    have b2:=aD (max I.2 Y.2) R.2 (by omega) ihe
    refine fi Tryz.func111 Tryz.ntmps111 Tryz.results111 ?_
    repeat (first|(apply fw;focus ((with_reducible constructor)<;>constructor))|((first|with_reducible refine ga _ rfl fun Y y=>?_|(refine ca ?_;apply Exists.intro;constructor;assumption;intro Y y)|apply ri);simp only [zb,seval,pT,kcc,g0,hz,hqz,q0,gn,g11,qt,qd,gt,gd];refine fz y ?_;clear y Y))
    (refine WpA.draw0 8 _ _ _ rfl rfl rfl (by kernel_rfl) (by kernel_rfl) (by kernel_rfl) fun K8 hK8=>?_);simp only [zz] at hK8 ⊢;(refine Draw0.go fun K7 k=>?_);simp only [zb,seval,pT,kcc];(refine qz (k _ _ ?_));clear k K7
    refine Draw0.step (oz (hoo)) ?_
    (refine Draw0.go fun K7 k=>?_);simp only [zb,seval,pT,kcc];(refine qz (k _ _ ?_));clear k K7
    refine Draw0.step (oz (hbr)) ?_
    (refine Draw0.go fun K7 k=>?_);simp only [zb,seval,pT,kcc];(refine qz (k _ _ ?_));clear k K7
    refine Draw0.step (oz (b2)) ?_
    (refine Draw0.go fun K7 k=>?_);simp only [zb,seval,pT,kcc];(refine qz (k _ _ ?_));clear k K7;(try ((refine Draw0.nil (hK8 _ ?_));clear hK8 K8;(refine WpL.go _ rfl fun Y y=>?_);repeat (first|(apply fw;focus ((with_reducible constructor)<;>constructor))|((first|with_reducible refine ga _ rfl fun Y y=>?_|apply ri);simp only [zb,seval,pT,kcc];refine fz y ?_;clear y Y))))
    refine ye (by simp only [zb,seval,pT,kcc];rfl) (by simp only [zv,kcc];rfl) ?_
    rfl
def AW (o:Option D):A:=match o with|some y=>.tup [.agg y.cc,.one (.v (.bool true))]|none=>.tup [.agg cH.cc,.one (.v (.bool false))]
theorem AX (n:Nat) (d:D) (s:ByteArray) (hd:Gd n d) (hn:n≤1000000000):Pure Tryz.prog 123 [.agg d.cc,.one (.v (.string s))] (AW (lS d s)):=by
 have hh:=oY n d s hd hn
 unfold lS
 cases hc:eM d s with
 | none =>
  rw [hc] at hh
  simp only [lW,AW] at hh ⊢
  refine fi Tryz.func123 Tryz.ntmps123 Tryz.results123 ?_
  repeat (first|(apply fw;focus ((with_reducible constructor)<;>constructor))|((first|with_reducible refine ga _ rfl fun Y y=>?_|(refine ca ?_;apply Exists.intro;constructor;assumption;intro Y y)|apply ri);simp only [zb,seval,GY,kcc];refine fz y ?_;clear y Y))
  refine yl (by simp only [zb,seval,GY,kcc];rfl) (by simp only [zv,kcc];rfl) ((by simp only [rcc];exact ae)) rfl
 | some l =>
  rw [hc] at hh
  match l,hc with
  | [],_ =>
   simp only [lW,AW,List.map_nil] at hh ⊢
   refine fi Tryz.func123 Tryz.ntmps123 Tryz.results123 ?_
   repeat (first|(apply fw;focus ((with_reducible constructor)<;>constructor))|((first|with_reducible refine ga _ rfl fun Y y=>?_|(refine ca ?_;apply Exists.intro;constructor;assumption;intro Y y)|apply ri);simp only [zb,seval,GY,kcc];refine fz y ?_;clear y Y))
   refine yl (by simp only [zb,seval,GY,kcc];rfl) (by simp only [zv,kcc];rfl) ((by simp only [rcc];exact ae)) rfl
  | [x],_ =>
   simp only [lW,AW,List.map_cons,List.map_nil] at hh ⊢
   refine fi Tryz.func123 Tryz.ntmps123 Tryz.results123 ?_
   repeat (first|(apply fw;focus ((with_reducible constructor)<;>constructor))|((first|with_reducible refine ga _ rfl fun Y y=>?_|(refine ca ?_;apply Exists.intro;constructor;assumption;intro Y y)|apply ri);simp only [zb,seval,GY,kcc];refine fz y ?_;clear y Y))
   refine ye (by simp only [zb,seval,GY,kcc];rfl) (by simp only [zv,kcc];rfl) ?_
   rfl
  | x::y::r,_ =>
   have hne:(((r.length+1+1:Nat):Int) != 1)=true:=by simp;omega
   simp only [lW,AW,List.map_cons] at hh ⊢
   refine fi Tryz.func123 Tryz.ntmps123 Tryz.results123 ?_
   repeat (first|(apply fw;focus ((with_reducible constructor)<;>constructor))|((first|with_reducible refine ga _ rfl fun Y y=>?_|(refine ca ?_;apply Exists.intro;constructor;assumption;intro Y y)|apply ri);simp only [zb,seval,GY,kcc,hne];refine fz y ?_;clear y Y))
   refine yl (by simp only [zb,seval,GY,kcc];rfl) (by simp only [zv,kcc];rfl) ((by simp only [rcc];exact ae)) rfl
theorem sN {n:Nat} {d y:D} {s:ByteArray} (hd:Gd (n+1) d) (h:lS d s=some y):Gd n y∧y.msr+1≤d.msr:=by
 unfold lS at h
 split at h
 ·rename_i x hx
  cases h
  obtain⟨g1,g2⟩:=nH hd hx
  have hm:=hd.2.2
  simp only [cK] at g2
  exact⟨⟨g1.head.1,g1.head.2.1,by omega⟩,by omega⟩
 ·cases h
theorem rT (s:ByteArray) (x:K) (hs:s.size≤100):Pure Tryz.prog 124 [.one (.v (.string s)),.agg x.cc] (.agg (sH s x).cc):=by
 have h1:=RH s
 have h2:=iJ (bJ s) ⟨by decide,by decide,by simp,by show s.size≤140737488351232;omega,by decide,trivial⟩
 have h3:=iJ cH gH
 have h4:=qB x (bT cH)
 have h5:=qB (bT (bJ s)) (kH x (bT cH))
 unfold sH
 generalize kH x (bT cH)=Y at *
 refine fi Tryz.func124 Tryz.ntmps124 Tryz.results124 ?_
 repeat (first|(apply fw;focus ((with_reducible constructor)<;>constructor))|((first|with_reducible refine ga _ rfl fun Y y=>?_|apply ri);simp only [zb,seval,DZ,kcc];refine fz y ?_;clear y Y))
 (refine WpA.draw0 8 _ _ _ rfl rfl rfl (by kernel_rfl) (by kernel_rfl) (by kernel_rfl) fun K8 hK8=>?_);simp only [zz] at hK8 ⊢;(refine Draw0.go fun K7 k=>?_);simp only [zb,seval,DZ,kcc];(refine qz (k _ _ ?_));clear k K7
 refine Draw0.step (oz (h1)) ?_
 (refine Draw0.go fun K7 k=>?_);simp only [zb,seval,DZ,kcc];(refine qz (k _ _ ?_));clear k K7
 refine Draw0.step (oz (h2)) ?_
 (refine Draw0.go fun K7 k=>?_);simp only [zb,seval,DZ,kcc];(refine qz (k _ _ ?_));clear k K7
 refine Draw0.step (oz (h3)) ?_
 (refine Draw0.go fun K7 k=>?_);simp only [zb,seval,DZ,kcc];(refine qz (k _ _ ?_));clear k K7
 refine Draw0.step (oz (h4)) ?_
 (refine Draw0.go fun K7 k=>?_);simp only [zb,seval,DZ,kcc];(refine qz (k _ _ ?_));clear k K7
 refine Draw0.step (oz (h5)) ?_
 (refine Draw0.go fun K7 k=>?_);simp only [zb,seval,DZ,kcc];(refine qz (k _ _ ?_));clear k K7;(try ((refine Draw0.nil (hK8 _ ?_));clear hK8 K8;(refine WpL.go _ rfl fun Y y=>?_);repeat (first|(apply fw;focus ((with_reducible constructor)<;>constructor))|((first|with_reducible refine ga _ rfl fun Y y=>?_|apply ri);simp only [zb,seval,DZ,kcc];refine fz y ?_;clear y Y))))
 refine ye (by simp only [zb,seval,DZ,kcc];rfl) (by simp only [zv,kcc];rfl) ?_
 rfl
theorem sO {n:Nat} {ev:Ev} (hE:HE n ev) (b:Bool):∀l:List D,(eS ev b l).2≤2
 | []=>Nat.zero_le _
 | [d]=>hE.e2 d
 | d::x::r=>by
  have ih:=sO hE b (x::r)
  have w1:=hE.e2 d
  have w2:=iM hE d (aI (bL bQ) (bL bQ) (eS ev b (x::r)).1)
  rw [eS]
  ·dsimp only
   split<;>dsimp only<;>omega
  ·simp
theorem uB {n:Nat} {ev:Ev} (hE:HE n ev) (b:Bool) (w:ByteArray) (e1:eqB w ⟨#[97,110,100]⟩=b) (e2:eqB w ⟨#[111,114]⟩=!b):∀(l0:List D),Gds n l0→Pure Tryz.prog 135 [.one (.v (.string w)),.one (.sl 6 (l0.map D.cc))] (rsA (eS ev b l0))
 | [],hl=>by
  have h1:=nG 1 (by decide)
  have h2:=nG 2 (by decide)
  rw [show eS ev b []=(mX (if b then 1 else 2),0) from rfl,List.map_nil]
  cases b with
  | true =>
   refine fi Tryz.func135 Tryz.ntmps135 Tryz.results135 ?_
   repeat (first|(apply fw;focus ((with_reducible constructor)<;>constructor))|((first|with_reducible refine ga _ rfl fun Y y=>?_|(refine ca ?_;apply Exists.intro;constructor;assumption;intro Y y)|apply ri);simp only [zb,seval,kC,kcc,cF,e1];refine fz y ?_;clear y Y))
   refine ye (by simp only [zb,seval,kC,kcc];rfl) (by simp only [zv,kcc];rfl) ?_
   rfl
  | false =>
   refine fi Tryz.func135 Tryz.ntmps135 Tryz.results135 ?_
   repeat (first|(apply fw;focus ((with_reducible constructor)<;>constructor))|((first|with_reducible refine ga _ rfl fun Y y=>?_|(refine ca ?_;apply Exists.intro;constructor;assumption;intro Y y)|apply ri);simp only [zb,seval,kC,kcc,cF,e1];refine fz y ?_;clear y Y))
   refine ye (by simp only [zb,seval,kC,kcc];rfl) (by simp only [zv,kcc];rfl) ?_
   rfl
 | [a],hl=>by
  have hx:=hE.e a hl.head
  rw [show eS ev b [a]=ev.e a from rfl,List.map_cons,List.map_nil]
  simp only [rsA] at hx ⊢
  refine fi Tryz.func135 Tryz.ntmps135 Tryz.results135 ?_
  repeat (first|(apply fw;focus ((with_reducible constructor)<;>constructor))|((first|with_reducible refine ga _ rfl fun Y y=>?_|(refine ca ?_;apply Exists.intro;constructor;assumption;intro Y y)|apply ri);simp only [zb,seval,kC,kcc];refine fz y ?_;clear y Y))
  refine ye (by simp only [zb,seval,kC,kcc];rfl) (by simp only [zv,kcc];rfl) ?_
  rfl
 | a::x::r,hl=>by
  have ih:=uB hE b w e1 e2 (x::r) hl.tail
  have ihe:=sO hE b (x::r)
  obtain⟨l,hlr⟩:∃l,a::x::r=l:=⟨_,rfl⟩
  obtain⟨g0,gt,gd,gl,gn,g11,g00,g22⟩:=qD a (x::r) l hlr
  have hle1:(1:Int)≤(l.length:Int):=by omega
  have ha:=hl.head
  have hz:((l.length:Int) == 0)=false:=by rw [←hlr];simp;omega
  have hz1:((l.length:Int) == 1)=false:=by rw [←hlr];simp;omega
  simp only [rsA] at ih
  rw [show eS ev b (a::x::r)=(if b then (aI (ev.e a).1 (eS ev b (x::r)).1 (mX 2),max (eS ev b (x::r)).2 (ev.e a).2) else ((eI ev a (aI (bL bQ) (bL bQ) (eS ev b (x::r)).1)).1,max (eS ev b (x::r)).2 (eI ev a (aI (bL bQ) (bL bQ) (eS ev b (x::r)).1)).2)) by rw [eS];simp,hlr]
  generalize eS ev b (x::r)=R at *
  cases b with
  | true =>
   have hx:=hE.e a ha
   have w1:=hE.e2 a
   simp only [rsA] at hx
   simp only [if_true]
   generalize ev.e a=G at *
   have htr:=nG 2 (by decide)
   have hbr:=dZ G.1 R.1 (mX 2)
   have hbo:=aD R.2 G.2 ihe w1
   refine fi Tryz.func135 Tryz.ntmps135 Tryz.results135 ?_
   repeat (first|(apply fw;focus ((with_reducible constructor)<;>constructor))|((first|with_reducible refine ga _ rfl fun Y y=>?_|(refine ca ?_;apply Exists.intro;constructor;assumption;intro Y y)|apply ri);simp only [zb,seval,kC,kcc,hz,hz1,gn,g11,gt,gd,cF,e2,Bool.not_true,g0];refine fz y ?_;clear y Y))
   (refine WpA.draw0 7 _ _ _ rfl rfl rfl (by kernel_rfl) (by kernel_rfl) (by kernel_rfl) fun K8 hK8=>?_);simp only [zz] at hK8 ⊢;(refine Draw0.go fun K7 k=>?_);simp only [zb,seval,kC,kcc];(refine qz (k _ _ ?_));clear k K7
   refine Draw0.step (oz (htr)) ?_
   (refine Draw0.go fun K7 k=>?_);simp only [zb,seval,kC,kcc];(refine qz (k _ _ ?_));clear k K7
   refine Draw0.step (oz (hbr)) ?_
   (refine Draw0.go fun K7 k=>?_);simp only [zb,seval,kC,kcc];(refine qz (k _ _ ?_));clear k K7
   refine Draw0.step (oz (hbo)) ?_
   (refine Draw0.go fun K7 k=>?_);simp only [zb,seval,kC,kcc];(refine qz (k _ _ ?_));clear k K7;(try ((refine Draw0.nil (hK8 _ ?_));clear hK8 K8;(refine WpL.go _ rfl fun Y y=>?_);repeat (first|(apply fw;focus ((with_reducible constructor)<;>constructor))|((first|with_reducible refine ga _ rfl fun Y y=>?_|apply ri);simp only [zb,seval,kC,kcc];refine fz y ?_;clear y Y))))
   refine ye (by simp only [zb,seval,kC,kcc];rfl) (by simp only [zv,kcc];rfl) ?_
   rfl
  | false =>
   have hrt:=oX bQ
   have hbr:=dZ (bL bQ) (bL bQ) R.1
   have hte:=nX hE a (aI (bL bQ) (bL bQ) R.1) ha
   have w1:=iM hE a (aI (bL bQ) (bL bQ) R.1)
   simp only [rsA] at hte
   simp only [Bool.false_eq_true,if_false]
   generalize eI ev a (aI (bL bQ) (bL bQ) R.1)=T at *
   have hbo:=aD R.2 T.2 ihe w1
   refine fi Tryz.func135 Tryz.ntmps135 Tryz.results135 ?_
   repeat (first|(apply fw;focus ((with_reducible constructor)<;>constructor))|((first|with_reducible refine ga _ rfl fun Y y=>?_|(refine ca ?_;apply Exists.intro;constructor;assumption;intro Y y)|apply ri);simp only [zb,seval,kC,kcc,hz,hz1,gn,g11,gt,gd,cF,e2,Bool.not_false];refine fz y ?_;clear y Y))
   (refine WpA.draw1c 13 [11,12] [_,?_,?_] _ _ _ _ rfl rfl rfl (by kernel_rfl) (by kernel_rfl) (by kernel_rfl) (by kernel_rfl) rfl rfl rfl rfl (by decide) fun K8 hK8=>?_);rotate_left 2;simp only [zz] at hK8 ⊢;(refine Draw1.go fun K7 k=>?_);simp only [zb,seval,kC,kcc,g0];(refine qz (k _ _ (by rfl) ?_));clear k K7;(simp only [zz,Nat.reduceAdd,Nat.reduceSub])
   refine Draw1.step (by rfl) (fun s9 _=>oz (hrt)) ?_
   (refine Draw1.go fun K7 k=>?_);simp only [zb,seval,kC,kcc];(refine qz (k _ _ (by rfl) ?_));clear k K7;(simp only [zz,Nat.reduceAdd,Nat.reduceSub])
   refine Draw1.step (by rfl) (fun s9 _=>oz (hrt)) ?_
   (refine Draw1.go fun K7 k=>?_);simp only [zb,seval,kC,kcc];(refine qz (k _ _ (by rfl) ?_));clear k K7;(simp only [zz,Nat.reduceAdd,Nat.reduceSub])
   refine Draw1.step (by rfl) (fun s9 _=>oz (hbr)) ?_
   (refine Draw1.go fun K7 k=>?_);simp only [zb,seval,kC,kcc];(refine qz (k _ _ (by rfl) ?_));clear k K7;(simp only [zz,Nat.reduceAdd,Nat.reduceSub])
   refine Draw1.step (by rfl) (fun s9 _=>oz (hte)) ?_
   (refine Draw1.go fun K7 k=>?_);simp only [zb,seval,kC,kcc];(refine qz (k _ _ (by rfl) ?_));clear k K7;(simp only [zz,Nat.reduceAdd,Nat.reduceSub])
   refine Draw1.eff 0 rfl rfl rfl (OpS.eff [] rfl (by rfl) trivial (by simp only [zb,seval,kC,kcc];rfl) (by first|(simp;done)|omega|(simp;omega))) ?_;(try simp only [bH]);(try ((refine Draw1.go fun K7 k=>?_);simp only [zb,seval,kC,kcc];(refine qz (k _ _ (by rfl) ?_));clear k K7;(simp only [zz,Nat.reduceAdd,Nat.reduceSub]);(try ((refine nz (hK8 _ ?_));clear hK8 K8;(refine WpL.go _ rfl fun Y y=>?_);repeat (first|(apply fw;focus ((with_reducible constructor)<;>constructor))|((first|with_reducible refine ga _ rfl fun Y y=>?_|apply ri);simp only [zb,seval,kC,kcc];refine fz y ?_;clear y Y))))))
   refine Draw1.eff 1 rfl rfl rfl (OpS.eff [(8,_),(46,_)] rfl (by rfl) ⟨rfl,rfl,trivial⟩ (by simp only [zb,seval,kC,kcc];rfl) (by first|(simp;done)|omega|(simp;omega))) ?_;(try simp only [bH]);(try ((refine Draw1.go fun K7 k=>?_);simp only [zb,seval,kC,kcc];(refine qz (k _ _ (by rfl) ?_));clear k K7;(simp only [zz,Nat.reduceAdd,Nat.reduceSub]);(try ((refine nz (hK8 _ ?_));clear hK8 K8;(refine WpL.go _ rfl fun Y y=>?_);repeat (first|(apply fw;focus ((with_reducible constructor)<;>constructor))|((first|with_reducible refine ga _ rfl fun Y y=>?_|apply ri);simp only [zb,seval,kC,kcc];refine fz y ?_;clear y Y))))))
   (refine WpA.draw0 4 _ _ _ rfl rfl rfl (by kernel_rfl) (by kernel_rfl) (by kernel_rfl) fun K8 hK8=>?_);simp only [zz] at hK8 ⊢;(refine Draw0.go fun K7 k=>?_);simp only [zb,seval,kC,kcc];(refine qz (k _ _ ?_));clear k K7
   refine Draw0.step (oz (hbo)) ?_
   (refine Draw0.go fun K7 k=>?_);simp only [zb,seval,kC,kcc];(refine qz (k _ _ ?_));clear k K7;(try ((refine Draw0.nil (hK8 _ ?_));clear hK8 K8;(refine WpL.go _ rfl fun Y y=>?_);repeat (first|(apply fw;focus ((with_reducible constructor)<;>constructor))|((first|with_reducible refine ga _ rfl fun Y y=>?_|apply ri);simp only [zb,seval,kC,kcc];refine fz y ?_;clear y Y))))
   refine ye (by simp only [zb,seval,kC,kcc];rfl) (by simp only [zv,kcc];rfl) ?_
   rfl
theorem OV {n:Nat} {ev:Ev} (hE:HE n ev) (d:D) (k:Nat):(kI ev d k).2≤2:=by
 unfold kI
 split
 ·rename_i y _
  split
  ·exact hE.e2 y
  ·exact hE.q2 _ _
 ·split
  ·exact hE.q2 _ _
  ·split
   ·exact hE.q2 _ _
   ·split
    ·split
     ·rename_i y _
      have:=hE.e2 y
      have:=hE.q2 d.snd k
      split
      ·dsimp only;omega
      ·have:=hE.q2 y (k-1)
       dsimp only;omega
     ·have:=hE.q2 d.snd k
      have:=hE.q2 d.fst k
      dsimp only;omega
    ·exact Nat.zero_le _
theorem KU {n:Nat} {ev:Ev} (hE:HE n ev) (d:D) (k:Nat) (hd:Gd (n+1) d) (h1:1≤k) (hk:k+d.msr≤2000000000):Pure Tryz.prog 108 [.agg d.cc,.one (.v (.int .i64 (k:Nat)))] (rsA (kI ev d k)):=by
 have hbig:=hE.big
 have hpos:=gQ d
 have hwm:IntKind.i64.wrap ((k:Int)-1)=((k-1:Nat):Int):=by rw [dA (by omega) (by omega)];omega
 have hwp:IntKind.i64.wrap ((k:Int)+1)=((k+1:Nat):Int):=by rw [dA (by omega) (by omega)];omega
 have hu:=AX (n+1) d lF hd (by omega)
 have hq:=AX (n+1) d cE hd (by omega)
 unfold kI
 cases hou:lS d lF with
 | some y =>
  obtain⟨gy,my⟩:=sN hd hou
  rw [hou] at hu
  simp only [AW] at hu
  dsimp only
  by_cases hk1:k=1
  ·have hx:=hE.e y gy
   subst hk1
   simp only [rsA] at hx
   rw [if_pos rfl]
   refine fi Tryz.func108 Tryz.ntmps108 Tryz.results108 ?_
   repeat (first|(apply fw;focus ((with_reducible constructor)<;>constructor))|((first|with_reducible refine ga _ rfl fun Y y=>?_|(refine ca ?_;apply Exists.intro;constructor;assumption;intro Y y)|apply ri);simp only [zb,seval,fO,kcc];refine fz y ?_;clear y Y))
   refine ye (by simp only [zb,seval,fO,kcc];rfl) (by simp only [zv,kcc];rfl) ?_
   rfl
  ·have hk1':((k:Int) == 1)=false:=by simp;omega
   have hx:=hE.q y (k-1) gy (by omega) (by omega)
   simp only [rsA] at hx
   have hm:=rT lF (ev.q y (k-1)).1 (by decide)
   rw [if_neg hk1]
   refine fi Tryz.func108 Tryz.ntmps108 Tryz.results108 ?_
   repeat (first|(apply fw;focus ((with_reducible constructor)<;>constructor))|((first|with_reducible refine ga _ rfl fun Y y=>?_|(refine ca ?_;apply Exists.intro;constructor;assumption;intro Y y)|apply ri);simp only [zb,seval,fO,kcc,hk1',hwm];refine fz y ?_;clear y Y))
   refine ye (by simp only [zb,seval,fO,kcc];rfl) (by simp only [zv,kcc];rfl) ?_
   rfl
 | none =>
  rw [hou] at hu
  simp only [AW] at hu
  dsimp only
  cases hoq:lS d cE with
  | some y =>
   obtain⟨gy,my⟩:=sN hd hoq
   rw [hoq] at hq
   simp only [AW] at hq
   dsimp only
   have hx:=hE.q y (k+1) gy (by omega) (by omega)
   simp only [rsA] at hx
   have hm:=rT cE (ev.q y (k+1)).1 (by decide)
   refine fi Tryz.func108 Tryz.ntmps108 Tryz.results108 ?_
   repeat (first|(apply fw;focus ((with_reducible constructor)<;>constructor))|((first|with_reducible refine ga _ rfl fun Y y=>?_|(refine ca ?_;apply Exists.intro;constructor;assumption;intro Y y)|apply ri);simp only [zb,seval,fO,kcc,hwp];refine fz y ?_;clear y Y))
   refine ye (by simp only [zb,seval,fO,kcc];rfl) (by simp only [zv,kcc];rfl) ?_
   rfl
  | none =>
   rw [hoq] at hq
   simp only [AW] at hq
   dsimp only
   by_cases h8:d.k=8
   ·rw [if_pos h8]
    obtain⟨gv,mv⟩:=hd.vec h8
    have gv':Gd n (aE d.l):=⟨gv.1,gv.2.1,by have:=hd.2.2;omega⟩
    have hk8:(d.k == 8)=true:=by simp [h8]
    have hli:=OH d.l hd.2.1.l hd.2.1.lLen
    have hx:=hE.q (aE d.l) k gv' h1 (by omega)
    have w1:=hE.q2 (aE d.l) k
    simp only [rsA] at hx
    generalize ev.q (aE d.l) k=X at *
    have hpr:=sM zW
    have hcl:=fM [eL zW,X.1]
    rw [show dL [eL zW,X.1]=(fZ [eL zW,X.1],0) from rfl] at hcl
    simp only [rsA,List.map_cons,List.map_nil] at hcl
    have hbo:=aD X.2 0 w1 (Nat.zero_le _)
    rw [Nat.max_zero] at hbo
    rw [D.cc_eq d] at hu hq ⊢
    refine fi Tryz.func108 Tryz.ntmps108 Tryz.results108 ?_
    repeat (first|(apply fw;focus ((with_reducible constructor)<;>constructor))|((first|with_reducible refine ga _ rfl fun Y y=>?_|(refine ca ?_;apply Exists.intro;constructor;assumption;intro Y y)|apply ri);simp only [zb,seval,fO,kcc,hk8];refine fz y ?_;clear y Y))
    (refine WpA.draw1c 9 [7,8] [_,?_,?_] _ _ _ _ rfl rfl rfl (by kernel_rfl) (by kernel_rfl) (by kernel_rfl) (by kernel_rfl) rfl rfl rfl rfl (by decide) fun K8 hK8=>?_);rotate_left 2;simp only [zz] at hK8 ⊢;(refine Draw1.go fun K7 k=>?_);simp only [zb,seval,fO,kcc];(refine qz (k _ _ (by rfl) ?_));clear k K7;(simp only [zz,Nat.reduceAdd,Nat.reduceSub])
    refine Draw1.step (by rfl) (fun s9 _=>oz (hpr)) ?_
    (refine Draw1.go fun K7 k=>?_);simp only [zb,seval,fO,kcc];(refine qz (k _ _ (by rfl) ?_));clear k K7;(simp only [zz,Nat.reduceAdd,Nat.reduceSub])
    refine Draw1.step (by rfl) (fun s9 _=>OpS.frozen (n:=2) (wd:=11) (ty:=31) (rows:=[(eL zW).cc,X.1.cc]) (OpS.eff [(80,_),(81,_)] rfl (by rfl) ⟨rfl,rfl,trivial⟩ (by simp only [zb,seval,fO,kcc];rfl) (by simp)) rfl (by simp [ksh])) ?_;simp only [bH]
    refine Draw1.step (by rfl) (fun s9 _=>oz (hcl)) ?_
    (refine Draw1.go fun K7 k=>?_);simp only [zb,seval,fO,kcc];(refine qz (k _ _ (by rfl) ?_));clear k K7;(simp only [zz,Nat.reduceAdd,Nat.reduceSub])
    refine Draw1.eff 0 rfl rfl rfl (OpS.eff [] rfl (by rfl) trivial (by simp only [zb,seval,fO,kcc];rfl) (by first|(simp;done)|omega|(simp;omega))) ?_;(try simp only [bH]);(try ((refine Draw1.go fun K7 k=>?_);simp only [zb,seval,fO,kcc];(refine qz (k _ _ (by rfl) ?_));clear k K7;(simp only [zz,Nat.reduceAdd,Nat.reduceSub]);(try ((refine nz (hK8 _ ?_));clear hK8 K8;(refine WpL.go _ rfl fun Y y=>?_);repeat (first|(apply fw;focus ((with_reducible constructor)<;>constructor))|((first|with_reducible refine ga _ rfl fun Y y=>?_|apply ri);simp only [zb,seval,fO,kcc];refine fz y ?_;clear y Y))))))
    refine Draw1.eff 1 rfl rfl rfl (OpS.eff [(16,_),(84,_)] rfl (by rfl) ⟨rfl,rfl,trivial⟩ (by simp only [zb,seval,fO,kcc];rfl) (by first|(simp;done)|omega|(simp;omega))) ?_;(try simp only [bH]);(try ((refine Draw1.go fun K7 k=>?_);simp only [zb,seval,fO,kcc];(refine qz (k _ _ (by rfl) ?_));clear k K7;(simp only [zz,Nat.reduceAdd,Nat.reduceSub]);(try ((refine nz (hK8 _ ?_));clear hK8 K8;(refine WpL.go _ rfl fun Y y=>?_);repeat (first|(apply fw;focus ((with_reducible constructor)<;>constructor))|((first|with_reducible refine ga _ rfl fun Y y=>?_|apply ri);simp only [zb,seval,fO,kcc];refine fz y ?_;clear y Y))))))
    (refine WpA.draw0 4 _ _ _ rfl rfl rfl (by kernel_rfl) (by kernel_rfl) (by kernel_rfl) fun K8 hK8=>?_);simp only [zz] at hK8 ⊢;(refine Draw0.go fun K7 k=>?_);simp only [zb,seval,fO,kcc];(refine qz (k _ _ ?_));clear k K7
    refine Draw0.step (oz (hbo)) ?_
    (refine Draw0.go fun K7 k=>?_);simp only [zb,seval,fO,kcc];(refine qz (k _ _ ?_));clear k K7;(try ((refine Draw0.nil (hK8 _ ?_));clear hK8 K8;(refine WpL.go _ rfl fun Y y=>?_);repeat (first|(apply fw;focus ((with_reducible constructor)<;>constructor))|((first|with_reducible refine ga _ rfl fun Y y=>?_|apply ri);simp only [zb,seval,fO,kcc];refine fz y ?_;clear y Y))))
    refine ye (by simp only [zb,seval,fO,kcc];rfl) (by simp only [zv,kcc];rfl) ?_
    rfl
   ·rw [if_neg h8]
    have hk8:(d.k == 8)=false:=by simp [h8]
    by_cases h7:d.k=7
    ·rw [if_pos h7]
     have hk7:(d.k == 7)=true:=by simp [h7]
     obtain⟨hp,hf,hs,hm⟩:=hd.pair h7
     have hm9:=hd.2.2
     have p1:=gQ d.fst
     have p2:=gQ d.snd
     have gf:Gd n d.fst:=⟨hf.1,hf.2.1,by omega⟩
     have gs:Gd n d.snd:=⟨hs.1,hs.2.1,by omega⟩
     have hr:=hE.q d.snd k gs h1 (by omega)
     have w1:=hE.q2 d.snd k
     have hos:=AX (n+1) d.fst cW hf (by omega)
     simp only [rsA] at hr
     generalize ev.q d.snd k=R at *
     rw [D.cc_eq d,hp] at hu hq ⊢
     cases hso:lS d.fst cW with
     | some y =>
      obtain⟨gy,my⟩:=sN hf hso
      rw [hso] at hos
      simp only [AW] at hos
      dsimp only
      by_cases hk1:k=1
      ·subst hk1
       rw [if_pos rfl]
       have hx:=hE.e y gy
       have w2:=hE.e2 y
       simp only [rsA] at hx
       generalize ev.e y=X at *
       have hb0:=aD R.2 X.2 w1 w2
       have hpr:=sM jJ
       have hcl:=fM [eL jJ,X.1,R.1]
       rw [show dL [eL jJ,X.1,R.1]=(fZ [eL jJ,X.1,R.1],0) from rfl] at hcl
       simp only [rsA,List.map_cons,List.map_nil] at hcl
       have hbo:=aD (max R.2 X.2) 0 (by omega) (Nat.zero_le _)
       rw [Nat.max_zero] at hbo
       refine fi Tryz.func108 Tryz.ntmps108 Tryz.results108 ?_
       repeat (first|(apply fw;focus ((with_reducible constructor)<;>constructor))|((first|with_reducible refine ga _ rfl fun Y y=>?_|(refine ca ?_;apply Exists.intro;constructor;assumption;intro Y y)|apply ri);simp only [zb,seval,fO,kcc,hk8,hk7,List.map_cons,List.map_nil];refine fz y ?_;clear y Y))
       (refine WpA.draw1c 10 [8,9] [_,?_,?_] _ _ _ _ rfl rfl rfl (by kernel_rfl) (by kernel_rfl) (by kernel_rfl) (by kernel_rfl) rfl rfl rfl rfl (by decide) fun K8 hK8=>?_);rotate_left 2;simp only [zz] at hK8 ⊢;(refine Draw1.go fun K7 k=>?_);simp only [zb,seval,fO,kcc];(refine qz (k _ _ (by rfl) ?_));clear k K7;(simp only [zz,Nat.reduceAdd,Nat.reduceSub])
       refine Draw1.step (by rfl) (fun s9 _=>oz (hpr)) ?_
       (refine Draw1.go fun K7 k=>?_);simp only [zb,seval,fO,kcc];(refine qz (k _ _ (by rfl) ?_));clear k K7;(simp only [zz,Nat.reduceAdd,Nat.reduceSub])
       refine Draw1.step (by rfl) (fun s9 _=>OpS.frozen (n:=3) (wd:=11) (ty:=31) (rows:=[(eL jJ).cc,X.1.cc,R.1.cc]) (OpS.eff [(123,_),(124,_),(125,_)] rfl (by rfl) ⟨rfl,rfl,rfl,trivial⟩ (by simp only [zb,seval,fO,kcc];rfl) (by simp)) rfl (by simp [ksh])) ?_;simp only [bH]
       refine Draw1.step (by rfl) (fun s9 _=>oz (hcl)) ?_
       (refine Draw1.go fun K7 k=>?_);simp only [zb,seval,fO,kcc];(refine qz (k _ _ (by rfl) ?_));clear k K7;(simp only [zz,Nat.reduceAdd,Nat.reduceSub])
       refine Draw1.eff 0 rfl rfl rfl (OpS.eff [] rfl (by rfl) trivial (by simp only [zb,seval,fO,kcc];rfl) (by first|(simp;done)|omega|(simp;omega))) ?_;(try simp only [bH]);(try ((refine Draw1.go fun K7 k=>?_);simp only [zb,seval,fO,kcc];(refine qz (k _ _ (by rfl) ?_));clear k K7;(simp only [zz,Nat.reduceAdd,Nat.reduceSub]);(try ((refine nz (hK8 _ ?_));clear hK8 K8;(refine WpL.go _ rfl fun Y y=>?_);repeat (first|(apply fw;focus ((with_reducible constructor)<;>constructor))|((first|with_reducible refine ga _ rfl fun Y y=>?_|apply ri);simp only [zb,seval,fO,kcc];refine fz y ?_;clear y Y))))))
       refine Draw1.eff 1 rfl rfl rfl (OpS.eff [(24,_),(128,_)] rfl (by rfl) ⟨rfl,rfl,trivial⟩ (by simp only [zb,seval,fO,kcc];rfl) (by first|(simp;done)|omega|(simp;omega))) ?_;(try simp only [bH]);(try ((refine Draw1.go fun K7 k=>?_);simp only [zb,seval,fO,kcc];(refine qz (k _ _ (by rfl) ?_));clear k K7;(simp only [zz,Nat.reduceAdd,Nat.reduceSub]);(try ((refine nz (hK8 _ ?_));clear hK8 K8;(refine WpL.go _ rfl fun Y y=>?_);repeat (first|(apply fw;focus ((with_reducible constructor)<;>constructor))|((first|with_reducible refine ga _ rfl fun Y y=>?_|apply ri);simp only [zb,seval,fO,kcc];refine fz y ?_;clear y Y))))))
       (refine WpA.draw0 4 _ _ _ rfl rfl rfl (by kernel_rfl) (by kernel_rfl) (by kernel_rfl) fun K8 hK8=>?_);simp only [zz] at hK8 ⊢;(refine Draw0.go fun K7 k=>?_);simp only [zb,seval,fO,kcc];(refine qz (k _ _ ?_));clear k K7
       refine Draw0.step (oz (hbo)) ?_
       (refine Draw0.go fun K7 k=>?_);simp only [zb,seval,fO,kcc];(refine qz (k _ _ ?_));clear k K7;(try ((refine Draw0.nil (hK8 _ ?_));clear hK8 K8;(refine WpL.go _ rfl fun Y y=>?_);repeat (first|(apply fw;focus ((with_reducible constructor)<;>constructor))|((first|with_reducible refine ga _ rfl fun Y y=>?_|apply ri);simp only [zb,seval,fO,kcc];refine fz y ?_;clear y Y))))
       refine ye (by simp only [zb,seval,fO,kcc];rfl) (by simp only [zv,kcc];rfl) ?_
       rfl
      ·rw [if_neg hk1]
       have hk1':((k:Int) == 1)=false:=by simp;omega
       have hx:=hE.q y (k-1) gy (by omega) (by omega)
       have w2:=hE.q2 y (k-1)
       simp only [rsA] at hx
       generalize ev.q y (k-1)=X at *
       have hm:=rT cW X.1 (by decide)
       have hcn:=qB (sH cW X.1) R.1
       have hbo:=aD R.2 X.2 w1 w2
       refine fi Tryz.func108 Tryz.ntmps108 Tryz.results108 ?_
       repeat (first|(apply fw;focus ((with_reducible constructor)<;>constructor))|((first|with_reducible refine ga _ rfl fun Y y=>?_|(refine ca ?_;apply Exists.intro;constructor;assumption;intro Y y)|apply ri);simp only [zb,seval,fO,kcc,hk8,hk7,List.map_cons,List.map_nil,hk1',hwm];refine fz y ?_;clear y Y))
       (refine WpA.draw0 7 _ _ _ rfl rfl rfl (by kernel_rfl) (by kernel_rfl) (by kernel_rfl) fun K8 hK8=>?_);simp only [zz] at hK8 ⊢;(refine Draw0.go fun K7 k=>?_);simp only [zb,seval,fO,kcc];(refine qz (k _ _ ?_));clear k K7
       refine Draw0.step (oz (hm)) ?_
       (refine Draw0.go fun K7 k=>?_);simp only [zb,seval,fO,kcc];(refine qz (k _ _ ?_));clear k K7
       refine Draw0.step (oz (hcn)) ?_
       (refine Draw0.go fun K7 k=>?_);simp only [zb,seval,fO,kcc];(refine qz (k _ _ ?_));clear k K7
       refine Draw0.step (oz (hbo)) ?_
       (refine Draw0.go fun K7 k=>?_);simp only [zb,seval,fO,kcc];(refine qz (k _ _ ?_));clear k K7;(try ((refine Draw0.nil (hK8 _ ?_));clear hK8 K8;(refine WpL.go _ rfl fun Y y=>?_);repeat (first|(apply fw;focus ((with_reducible constructor)<;>constructor))|((first|with_reducible refine ga _ rfl fun Y y=>?_|apply ri);simp only [zb,seval,fO,kcc];refine fz y ?_;clear y Y))))
       refine ye (by simp only [zb,seval,fO,kcc];rfl) (by simp only [zv,kcc];rfl) ?_
       rfl
     | none =>
      rw [hso] at hos
      simp only [AW] at hos
      dsimp only
      have hx:=hE.q d.fst k gf h1 (by omega)
      have w2:=hE.q2 d.fst k
      simp only [rsA] at hx
      generalize ev.q d.fst k=X at *
      have hcn:=qB X.1 R.1
      have hbo:=aD R.2 X.2 w1 w2
      refine fi Tryz.func108 Tryz.ntmps108 Tryz.results108 ?_
      repeat (first|(apply fw;focus ((with_reducible constructor)<;>constructor))|((first|with_reducible refine ga _ rfl fun Y y=>?_|(refine ca ?_;apply Exists.intro;constructor;assumption;intro Y y)|apply ri);simp only [zb,seval,fO,kcc,hk8,hk7,List.map_cons,List.map_nil];refine fz y ?_;clear y Y))
      refine ye (by simp only [zb,seval,fO,kcc];rfl) (by simp only [zv,kcc];rfl) ?_
      rfl
    ·rw [if_neg h7]
     have hk7:(d.k == 7)=false:=by simp [h7]
     have hco:=iJ d hd.2.1
     rw [D.cc_eq d] at hu hq hco ⊢
     refine fi Tryz.func108 Tryz.ntmps108 Tryz.results108 ?_
     repeat (first|(apply fw;focus ((with_reducible constructor)<;>constructor))|((first|with_reducible refine ga _ rfl fun Y y=>?_|(refine ca ?_;apply Exists.intro;constructor;assumption;intro Y y)|apply ri);simp only [zb,seval,fO,kcc,hk8,hk7];refine fz y ?_;clear y Y))
     refine ye (by simp only [zb,seval,fO,kcc];rfl) (by simp only [zv,kcc];rfl) ?_
     rfl
theorem OpS.frzZ {P:Program} {nt:Cf} {ds:List (Option Tmp)} {o:Oper} {e:List (Nat × A)} {s s1 S':List (Option Ob)} {z:Nat→Bool} {c c':C} (hz:Frz s1 S' z) (hc:FzC s1 z c c') (h:OpS P nt ds o e s (.one c) s1):OpS P nt ds o e s (.one c') S':=fun H w0 S0 m0 mm a w hs hk=>by
 have h1:=h H w0 S0 m0 mm a w hs hk
 split
 ·rename_i hw
  rw [if_pos hw] at h1
  refine h1.mono fun v w' ⟨mm',g1,g2,g3⟩=>?_
  have hv:=hz.val (x:=.one c) (y:=.one c') g1.sto hc g3
  refine⟨mm',⟨fun i x hx=>by simp [find] at hx,g1.nts,g1.df,hz.sto g1.sto,g1.fr,fun i ob l k1 k2=>?_,g1.up,g1.n0⟩,⟨g2.up,g2.os,g2.tape,g2.output,g2.size,fun b hb hh=>?_⟩,hv⟩
  ·obtain⟨-,b,k3,-⟩:=hz.get i ob k1
   exact g1.own i b l k3 k2
  ·obtain⟨k1,k2⟩:=g2.block b hb hh
   refine⟨?_,k2⟩
   cases hcc:bZ S' mm' b with
   | false=>rfl
   | true =>
    obtain⟨i,ob,l,j1,j2,j3⟩:=aN.1 hcc
    obtain⟨-,q,k3,-⟩:=hz.get i ob j1
    rw [aN.2 ⟨i,q,l,k3,j2,j3⟩] at k1;cases k1
 ·rename_i hw
  rw [if_neg hw] at h1
  exact absurd h1.2 (by simp)
theorem OpS.appFrz {P:Program} {T t:TypeId} {wd by_:Nat} {zs:List Value} (hT:lN P T=some (t,wd)) (hby:sS P T=some by_) (hz:lC P t=some zs) (hwd:0<wd) {S:List (Option Ob)} {cX:C} {rows new:List (List C)} (hA:Au t wd S cX rows) (hall:∀e∈new,e.length=wd) (hne:new≠[])
  (hsr:∀r∈rows,∀c∈r,C.shut c=true) (hsn:∀r∈new,∀c∈r,C.shut c=true) (hs1:(rows.length+new.length)*by_≤140737488355328) (hs2:rows.length+new.length≤140737488355328) :
  ∃s2,s2.length=S.length∧(∀(i:Nat) (o:Option Ob),S[i]?=some o→(∀n,cX≠.ms i n)→s2[i]?=some o) ∧
   ∀(T0:List (Option Ob)) {nt:Cf} {ds:List (Option Tmp)} {d:Option Tmp} {ty:TypeId} {pos:String} {aft:Array Edge} {g:Option (Nat × Bool)} {e:List (Nat × A)} {t1 t2:Tmp} (hg:eP ds e g=some true)
    (he:([(t1,A.one cX),(t2,A.one (.sl wd new))].all fun t=>decide (t.1<nt.nt)&&(looks ds (Op.operands (.call { callee:=.builtin .append,args:=#[.tmp t1,.tmp t2],argTypes:=#[T,T] })).toList g).contains t.1)=true) (h1:find e t1=some (.one cX)) (h2:find e t2=some (.one (.sl wd new))) (hne12:t2≠t1),
    OpS P nt ds ⟨d,.call { callee:=.builtin .append,args:=#[.tmp t1,.tmp t2],argTypes:=#[T,T] },ty,pos,aft,g⟩ e (S++T0) (.one (.sl wd (rows++new))) (s2++T0):=by
 rcases hA with ⟨rfl,rfl⟩|⟨j,rfl,hj⟩
 ·simp only [List.length_nil,Nat.zero_add] at hs1 hs2
  refine⟨S,rfl,fun i o h _=>h,fun T0 {nt ds d ty pos aft g e t1 t2} hg he h1 h2 h12=>?_⟩
  have hnl:0<new.length:=by cases new with|nil=>exact absurd rfl hne|cons a l=>simp
  have f1:find [(t1,A.one (.v (.slice none 0 0))),(t2,A.one (.sl wd new))] t1=some (.one (.v (.slice none 0 0))):=by simp [find]
  have f2:find [(t1,A.one (.v (.slice none 0 0))),(t2,A.one (.sl wd new))] t2=some (.one (.sl wd new)):=by simp [find,h12]
  have hop:=OpA.append_nil (P:=P) (nt:=nt) (ty:=ty) (x:=.tmp t1) (y:=.tmp t2) (st:=⟨[(t1,A.one (.v (.slice none 0 0))),(t2,A.one (.sl wd new))],S++T0⟩) hT hby hz f1 f2 rfl rfl hnl hs1 hs2
  exact OpS.frozen (OpS.effO (pos:=pos) (aft:=aft) [(t1,.one (.v (.slice none 0 0))),(t2,.one (.sl wd new))] hg he ⟨h1,h2,trivial⟩ hop rfl) rfl hsn
 ·have hjl:=(List.getElem?_eq_some_iff.1 hj).1
  refine⟨S.set j none,by simp,fun i o hi hn=>by rw [List.getElem?_set_ne (fun e=>by subst e;exact hn _ rfl)];exact hi,fun T0 {nt ds d ty pos aft g e t1 t2} hg he h1 h2 h12=>?_⟩
  have f1:find [(t1,A.one (.ms j rows.length)),(t2,A.one (.sl wd new))] t1=some (.one (.ms j rows.length)):=by simp [find]
  have f2:find [(t1,A.one (.ms j rows.length)),(t2,A.one (.sl wd new))] t2=some (.one (.sl wd new)):=by simp [find,h12]
  have hop:=OpA.append (P:=P) (nt:=nt) (ty:=ty) (x:=.tmp t1) (y:=.tmp t2) (st:=⟨[(t1,A.one (.ms j rows.length)),(t2,A.one (.sl wd new))],S++T0⟩) hT hby hz f1 f2 rfl rfl (dB (T:=T0) hj) rfl rfl rfl hwd hs1 hs2
  have hj2:((S++T0).set j (some ⟨t,wd,rows++new⟩))[j]?=some (some ⟨t,wd,rows++new⟩):=List.getElem?_set_self (by simp;omega)
  have hfz:=Frz.at hj2 (fun r hr c hc=>(List.mem_append.1 hr).elim (fun h=>hsr r h c hc) (fun h=>hsn r h c hc))
  have e1:((S++T0).set j (some ⟨t,wd,rows++new⟩)).set j none=S.set j none++T0:=by rw [List.set_set,List.set_append_left _ _ hjl]
  rw [e1] at hfz
  exact OpS.frzZ hfz (FzC.ms (by simp) hj2 (by simp)) (OpS.effO (pos:=pos) (aft:=aft) [(t1,.one (.ms j rows.length)),(t2,.one (.sl wd new))] hg he ⟨h1,h2,trivial⟩ hop rfl)
def EaR (ev:Ev) (l:List D) (S:List (Option Ob)) (r:A) (S':List (Option Ob)):Prop:=∃c,r=.tup [.one c,.one (.er (aZ ev.e l).2)]∧At 31 11 S' c ((aZ ev.e l).1.map K.cc)∧(∀j n,c=.ms j n→S.length≤j)∧S.length≤S'.length∧∀(j:Nat) (o:Option Ob),S[j]?=some o→S'[j]?=some o
def EaI (S:List (Option Ob)) (E:D→Rs) (l:List D) (n:Nat) (st:St):Prop:=∃(i:Nat) (S':List (Option Ob)) (cO:C),n=l.length-i∧i≤l.length∧At 31 11 S' cO (((l.take i).map fun d=>(E d).1).map K.cc)∧(∀j n,cO=.ms j n→S.length≤j)∧S.length≤S'.length∧(∀(j:Nat) (o:Option Ob),S[j]?=some o→S'[j]?=some o) ∧
 st=⟨[(12,.one (.v (.int .i64 i))),(11,.one (.v (.int .i64 l.length))),(10,.one (.sl 6 (l.map D.cc))),(4,.one cO),(5,.one (.er (iX ((l.take i).map fun d=>(E d).2))))],S'⟩
theorem ET {n:Nat} {ev:Ev} (hE:HE n ev) (l:List D) (hl:Gds n l) (S:List (Option Ob)):Fn Tryz.prog 90 [.one (.sl 6 (l.map D.cc))] S (EaR ev l S):=by
 have hlen:=hl.len
 have hbig:=hE.big
 have hml:(l.map D.cc).length=l.length:=List.length_map ..
 refine Fn.introT Tryz.func90 rfl Tryz.ntmps90 Tryz.results90 (by simp only [List.length_cons,List.length_nil];decide) ?_
 repeat (first|(apply fw;focus ((with_reducible constructor)<;>constructor))|((first|with_reducible refine ga _ rfl fun Y y=>?_|apply ri);simp only [zb,seval,w90,hml];refine fz y ?_;clear y Y))
 refine WpA.loop (EaI S ev.e l) l.length (st0:=⟨[(12,.one (.v (.int .i64 (0:Nat)))),(11,.one (.v (.int .i64 l.length))),(10,.one (.sl 6 (l.map D.cc))),(4,.one (.v (.slice none 0 0))),(5,.one (.er 0))],S⟩) (Le.sub (by simp [Sub,find])) ⟨0,S,_,rfl,Nat.zero_le _,At.nil _ _ _,(fun j n e=>by cases e),Nat.le_refl _,(fun _ _ h=>h),rfl⟩ ?_
 intro n' st hI
 obtain⟨i,S',cO,rfl,hi,hA,hfr,hSl,hSk,rfl⟩:=hI
 have hw2:IntKind.i64.wrap ((i:Int)+1)=((i+1:Nat):Int):=by rw [dA (by omega) (by omega)];omega
 by_cases hlt:i<l.length
 ·have hd1:decide ((i:Int)<(l.length:Int))=true:=by simp;omega
  have hget:=vF hlt
  have hc:=hE.e l[i] (hl.mem (List.getElem_mem hlt))
  have hb:=aD (iX ((l.take i).map fun d=>(ev.e d).2)) (ev.e l[i]).2 (nV fun x hx=>by
   obtain⟨d,_,rfl⟩:=List.mem_map.1 hx
   exact hE.e2 d) (hE.e2 _)
  simp only [rsA] at hc
  repeat (first|(apply fw;focus ((with_reducible constructor)<;>constructor))|((first|with_reducible refine ga _ rfl fun Y y=>?_|(refine ca ?_;apply Exists.intro;constructor;assumption;intro Y y)|apply ri);simp only [zb,seval,w90,hd1,hget,kcc,aK];refine fz y ?_;clear y Y))
  refine WpA.region ?_
  (try simp only [St.put]);(refine WpL.op rfl (aB (P:=Tryz.prog) rfl) (aH (by simp only [zb,seval,w90,kcc,aK];rfl) (by first|(simp;done)|omega|(simp;omega))) ?_);simp only [St.put];(refine WpL.op rfl (aB (P:=Tryz.prog) rfl) (aH (by simp only [zb,seval,w90,kcc,aK];rfl) (by first|(simp;done)|omega|(simp;omega))) ?_);simp only [St.put];(refine WpL.op rfl (aB (P:=Tryz.prog) rfl) (aH (by simp only [zb,seval,w90,kcc,aK];rfl) (by first|(simp;done)|omega|(simp;omega))) ?_);simp only [St.put]
  obtain⟨S8,j,hA8,hj8,hl8,hfr8,hpl8,hop8⟩:=fK (P:=Tryz.prog) (T:=29) (by_:=176) bM bO bP (by omega) (S:=S'++[some ⟨28,6,[l[i].cc]⟩,some ⟨31,11,[(ev.e l[i]).1.cc]⟩,some ⟨31,11,[(ev.e l[i]).1.cc]⟩]) (hA.app _) (q:=S'.length+2) (new:=[(ev.e l[i]).1.cc]) (rP _ _ _ _ _) (by simp) (fun n e=>by have:=hA.lt e;omega) (by simp;omega) (by simp;omega)
  simp only [List.length_cons,List.length_nil,Nat.zero_add] at hop8 hA8
  refine WpL.aop rfl (hop8 _ _ _ rfl rfl) ?_
  simp only [St.put]
  have hs:max (iX ((l.take i).map fun d=>(ev.e d).2)) (ev.e l[i]).2=iX ((l.take (i+1)).map fun d=>(ev.e d).2):=by rw [hG _ hlt,mY]
  (refine WpL.go _ rfl fun Y y=>?_);repeat (first|(apply fw;focus ((with_reducible constructor)<;>constructor))|((first|with_reducible refine ga _ rfl fun Y y=>?_|apply ri);simp only [zb,seval,w90,hw2,hs];refine fz y ?_;clear y Y))
  rw [List.length_append] at hl8
  have hpl:cO=.ms j ((((l.take i).map fun d=>(ev.e d).1).map K.cc).length)∨S'.length≤j:=hpl8.imp id fun q=>by rw [List.length_append] at q;omega
  refine⟨l.length-(i+1),_,by omega,Le.sub (by simp [Sub,find]),i+1,S8,.ms j ((((l.take i).map fun d=>(ev.e d).1).map K.cc).length+1),rfl,hlt,?_,fun k m e=>?_,by omega,fun k o hk=>hfr8 k o (dB (hSk k o hk)) fun m e=>?_,rfl⟩
  ·rw [hG _ hlt,List.map_append];exact hA8
  ·have h1:=(C.ms.inj e).1
   subst h1
   rcases hpl with q|q
   ·exact hfr _ _ q
   ·omega
  ·have h1:=hfr _ _ e
   have h2:=(List.getElem?_eq_some_iff.1 hk).1
   omega
 ·have hd0:decide ((i:Int)<(l.length:Int))=false:=by simp;omega
  have hii:i=l.length:=by omega
  subst hii
  rw [List.take_length] at hA ⊢
  repeat (first|(apply fw;focus ((with_reducible constructor)<;>constructor))|((first|with_reducible refine ga _ rfl fun Y y=>?_|apply ri);simp only [zb,seval,w90,hd0];refine fz y ?_;clear y Y))
  repeat (first|(apply fw;focus ((with_reducible constructor)<;>constructor))|((first|with_reducible refine ga _ rfl fun Y y=>?_|apply ri);simp only [zb,seval,w90,hd0];refine fz y ?_;clear y Y))
  exact⟨.inl rfl,_,_,_,_,(by simp only [zb,seval];rfl),by simp,Le.refl _ _,cO,rfl,hA,hfr,hSl,hSk⟩
end Go.Proofs.YtaeioidifpebdaaGreatDoor
end
