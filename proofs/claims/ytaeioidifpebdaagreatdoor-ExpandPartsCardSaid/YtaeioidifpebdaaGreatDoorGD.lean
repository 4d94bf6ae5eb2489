/-
 Laid together: RDepth, LawParts18.
-/
import Derived.Test.YtaeioidifpebdaaGreatDoorDepth
import Derived.Test.YtaeioidifpebdaaGreatDoorGA
import Derived.Test.YtaeioidifpebdaaGreatDoorGC
section
namespace Go.Proofs.YtaeioidifpebdaaGreatDoor
open Go.RowKit
set_option linter.unusedSimpArgs false
set_option linter.unusedVariables false
def tA (n:Nat):Prop:=∀(d:D) (w:World) (v:Value),d.ht≤n→d.count<1000000000→IsD w d v →
  Calls Tryz.prog 20 #[v] w fun e w'=>e=.returned (.int .i64 d.depth)∧Ext w w'
set_option maxHeartbeats 2000000 in
theorem FS (n:Nat) (ih:tA n):tA (n+1):=by
 intro d w v hh hb h
 obtain⟨am,cm,al,cl,rfl,hm,hl,-,-,hc1,hc2⟩:=h.open
 unfold maxLen at hc2
 have hhl:∀i (hi:i<d.l.length),d.l[i].ht≤n:=fun i hi=>by have:=D.ht_lt hi;omega
 have HH:=Lib.hid hhl;clear hhl hh
 have he:=d.count_eq
 have hb':gL d.l<1000000000:=by omega
 have HD:=Lib.hid d.depth_eq
 have HE:=Lib.hid he
 clear he h
 go_enter Tryz.func20,Tryz.ntmps20
 go_wp2
 go_loopw [3,4,5] (fun s i _ wr=>∃(k:Nat) (hk:k≤d.l.length),i=.int .i64 k∧s=.int .i64 ((dto d k hk:Nat):Int)∧Ext (w.alloc (.cells #[.int .i64 d.k,.int .i32 d.c,.bool d.neg,.slice am d.mag.length cm,.string d.t,.slice al d.l.length cl] 28)) wr) (fun _ i _ _=>d.l.length-(intOf i).toNat)
 case atStart=>exact⟨0,Nat.zero_le _,rfl,rfl,Ext.refl _⟩
 case round =>
  obtain⟨k,hk,rfl,rfl,hxr⟩:=hrel
  have hx0:Ext w wr:=((Ext.refl _).alloc _).trans hxr
  have f0:wr.cell? ⟨w.heap.size,5,none⟩=some (.slice al d.l.length cl):=hxr.keeps _ _ (by go_simp)
  have f1:wr.cell? ⟨w.heap.size,0,none⟩=some (.int .i64 d.k):=hxr.keeps _ _ (by go_simp)
  by_cases hlt:k<d.l.length
  ·obtain⟨b,o,rfl,hcell⟩:=hl.get k hlt
   obtain⟨am',cm',al',cl',c0,c1,c2,c3,c4,c5,hm',hl'⟩:=hcell.keep hx0.keeps
   have hcnt:=tD d.l k hlt
   have hdl:=d.l[k].depth_le
   have hs:=oS d k hk
   have hs2:=Lib.hid (xK d k hlt)
   go_wp2_with fail
   refine (ih d.l[k] _ _ (HH.out k hlt) (by omega) (IsD.mk' hm' hl')).mono ?_
   rintro e w2 ⟨rfl,hx2⟩
   have g0:w2.cell? ⟨w.heap.size,5,none⟩=some (.slice (some ⟨b,o,none⟩) d.l.length cl):=hx2.keeps _ _ f0
   have g1:w2.cell? ⟨w.heap.size,0,none⟩=some (.int .i64 d.k):=hx2.keeps _ _ f1
   have g2:w2.cell? ⟨b,o+k*6,none⟩=some (.int .i64 d.l[k].k):=hx2.keeps _ _ c0
   have hx3:=hxr.trans hx2
   have HX2:=Lib.hid hx2;clear hx2
   by_cases h7:d.k=7
   case neg =>
    have e7:(d.k == 7)=false:=by simpa using h7
    have hdt:fI d k hlt=d.l[k].depth+1:=by unfold fI;rw [if_neg (fun h=>h7 h.1)]
    rw [hdt] at hs2
    clear h7 hdt
    go_wp2
    go_roundw
    case rel=>exact⟨k+1,hlt,by go_num,by rw [hs2.out];go_num,hx3⟩
    case measure=>simp [intOf];omega
   have e7:(d.k == 7)=true:=by simpa using h7
   by_cases hlast:k+1<d.l.length
   case pos =>
    have hdt:fI d k hlt=d.l[k].depth+1:=by unfold fI;rw [if_neg (fun h=>by omega)]
    rw [hdt] at hs2
    clear h7 hdt
    have ed:((k:Int) == (d.l.length:Int)-1)=false:=by rw [beq_eq_false_iff_ne];omega
    go_wp2
    go_roundw
    case rel=>exact⟨k+1,hlt,by go_num,by rw [hs2.out];go_num,hx3⟩
    case measure=>simp [intOf];omega
   have ed:((k:Int) == (d.l.length:Int)-1)=true:=by rw [beq_iff_eq];omega
   by_cases hp:d.l[k].k=7
   ·have e9:(d.l[k].k == 7)=true:=by simpa using hp
    have hdt:fI d k hlt=d.l[k].depth:=by unfold fI;rw [if_pos ⟨h7,by omega,hp⟩];rfl
    rw [hdt] at hs2
    clear h7 hdt hp hlast
    go_wp2
    go_roundw
    case rel=>exact⟨k+1,hlt,by go_num,by rw [hs2.out];go_num,hx3⟩
    case measure=>simp [intOf];omega
   ·have e9:(d.l[k].k == 7)=false:=by simpa using hp
    have hdt:fI d k hlt=d.l[k].depth+1:=by unfold fI;rw [if_neg (fun h=>hp h.2.2)]
    rw [hdt] at hs2
    clear h7 hdt hp hlast
    go_wp2
    go_roundw
    case rel=>exact⟨k+1,hlt,by go_num,by rw [hs2.out];go_num,hx3⟩
    case measure=>simp [intOf];omega
  ·have hfin:dto d k hk=dto d d.l.length (Nat.le_refl _):=uX d k hk (by omega)
   have HFIN:=Lib.hid hfin;clear hfin
   by_cases h8:d.k=8
   ·have e8:(d.k == 8)=true:=by simpa using h8
    have HD':=HD.out
    rw [if_pos h8,←HFIN.out] at HD'
    have HD2:=Lib.hid HD';clear HD' h8
    go_wp2
    all_goals go_ret
    all_goals exact⟨xE (by rw [HD2.out];omega),hx0⟩
   ·have e8:(d.k == 8)=false:=by simpa using h8
    have HD':=HD.out
    rw [if_neg h8,←HFIN.out] at HD'
    have HD2:=Lib.hid HD';clear HD' h8
    go_wp2
    all_goals go_ret
    all_goals exact⟨xE (by rw [HD2.out];omega),hx0⟩
theorem wQ:∀n,tA n
 | 0=>fun d _ _ h=>absurd h (by cases d;rw [D.ht];omega)
 | n+1=>FS n (wQ n)
theorem IX (d:D) (w:World) (v:Value) (hb:d.count<1000000000) (h:IsD w d v) :
  Calls Tryz.prog 20 #[v] w fun e w'=>e=.returned (.int .i64 d.depth)∧Ext w w':=wQ d.ht d w v (Nat.le_refl _) hb h
end Go.Proofs.YtaeioidifpebdaaGreatDoor
end
section
namespace Go.Proofs.YtaeioidifpebdaaGreatDoor
open Go Go.RowKit Go.Lib
set_option linter.unusedSimpArgs false
set_option linter.unusedVariables false
set_option maxHeartbeats 4000000
set_option maxRecDepth 100000
theorem vN (d:D) (hb:d.count<1000000000):Pure Tryz.prog 20 [.agg d.cc] (.one (.v (.int .i64 d.depth))):=by
 refine pD rfl fun w vs hg hv=>?_
 obtain⟨v,rfl,hv1⟩:=hv.one1
 exact IX d w v hb hv1.isD
def PaI (a b c:List C) (r:List (List C)) (n:Nat) (st:St):Prop:=∃i:Nat,n=3-i∧i≤3 ∧
 st=⟨[(14,.one (.v (.int .i64 i))),(13,.one (.sl 6 r)),(7,.one (.pf a)),(9,.one (.pf b)),(11,.one (.pf c))],[]⟩
theorem wZ (x y z:D) (hx:x.Ok) (hy:y.Ok) (hz:z.Ok):Pure Tryz.prog 7 [.agg x.cc,.agg y.cc,.agg z.cc] (.one (.v (.bool true))):=by
 have h1:=pR x hx
 have h2:=pR y hy
 have h3:=pR z hz
 by_cases q1:x.weigh p18 800<0
 ·rw [decide_eq_true q1] at h1
  refine fi Tryz.func7 Tryz.ntmps7 Tryz.results7 ?_
  (refine WpA.seq ?_);(refine WpA.region ?_);(refine WpL.go _ rfl fun Y y=>?_);simp only [zb,seval,w7];(refine RunTo.fn y (by first|(simp;done)|omega|(simp;omega)) ?_);clear y Y;(refine WpL.nil ?_);(refine nH ?_)
  refine WpA.frzP 3 0 rfl rfl (D.cc_shut _) ?_
  simp only [zz]
  refine WpA.frzP 4 1 rfl rfl (D.cc_shut _) ?_
  simp only [zz]
  refine WpA.frzP 5 2 rfl rfl (D.cc_shut _) ?_
  simp only [zz]
  repeat (first|(apply fw;(with_reducible constructor)<;>rfl)|(apply WpA.cd;constructor)|((first|with_reducible refine WpA.go _ rfl fun Y y=>?_|apply RunTo.id);simp only [zb,seval,w7,kcc];refine fz y ?_;clear y Y))
  refine cz (h1) ?_
  (refine WpL.go _ rfl fun Y y=>?_);repeat (first|(apply fw;(with_reducible constructor)<;>rfl)|(apply WpA.cd;constructor)|((first|with_reducible refine WpA.go _ rfl fun Y y=>?_|apply RunTo.id);simp only [zb,seval,w7,kcc];refine fz y ?_;clear y Y))
  refine cz (fR) ?_
  (refine WpL.go _ rfl fun Y y=>?_);repeat (first|(apply fw;(with_reducible constructor)<;>rfl)|(apply WpA.cd;constructor)|((first|with_reducible refine WpA.go _ rfl fun Y y=>?_|apply RunTo.id);simp only [zb,seval,w7,kcc];refine fz y ?_;clear y Y))
  refine ye (by simp only [zb,seval,w7];rfl) (by simp only [zv];rfl) ?_
  rfl
 rw [decide_eq_false q1] at h1
 by_cases q2:y.weigh p18 800<0
 ·rw [decide_eq_true q2] at h2
  refine fi Tryz.func7 Tryz.ntmps7 Tryz.results7 ?_
  (refine WpA.seq ?_);(refine WpA.region ?_);(refine WpL.go _ rfl fun Y y=>?_);simp only [zb,seval,w7];(refine RunTo.fn y (by first|(simp;done)|omega|(simp;omega)) ?_);clear y Y;(refine WpL.nil ?_);(refine nH ?_)
  refine WpA.frzP 3 0 rfl rfl (D.cc_shut _) ?_
  simp only [zz]
  refine WpA.frzP 4 1 rfl rfl (D.cc_shut _) ?_
  simp only [zz]
  refine WpA.frzP 5 2 rfl rfl (D.cc_shut _) ?_
  simp only [zz]
  repeat (first|(apply fw;(with_reducible constructor)<;>rfl)|(apply WpA.cd;constructor)|((first|with_reducible refine WpA.go _ rfl fun Y y=>?_|apply RunTo.id);simp only [zb,seval,w7,kcc];refine fz y ?_;clear y Y))
  refine cz (h1) ?_
  (refine WpL.go _ rfl fun Y y=>?_);repeat (first|(apply fw;(with_reducible constructor)<;>rfl)|(apply WpA.cd;constructor)|((first|with_reducible refine WpA.go _ rfl fun Y y=>?_|apply RunTo.id);simp only [zb,seval,w7,kcc];refine fz y ?_;clear y Y))
  refine cz (h2) ?_
  (refine WpL.go _ rfl fun Y y=>?_);repeat (first|(apply fw;(with_reducible constructor)<;>rfl)|(apply WpA.cd;constructor)|((first|with_reducible refine WpA.go _ rfl fun Y y=>?_|apply RunTo.id);simp only [zb,seval,w7,kcc];refine fz y ?_;clear y Y))
  refine cz (fR) ?_
  (refine WpL.go _ rfl fun Y y=>?_);repeat (first|(apply fw;(with_reducible constructor)<;>rfl)|(apply WpA.cd;constructor)|((first|with_reducible refine WpA.go _ rfl fun Y y=>?_|apply RunTo.id);simp only [zb,seval,w7,kcc];refine fz y ?_;clear y Y))
  refine ye (by simp only [zb,seval,w7];rfl) (by simp only [zv];rfl) ?_
  rfl
 rw [decide_eq_false q2] at h2
 by_cases q3:z.weigh p18 800<0
 ·rw [decide_eq_true q3] at h3
  refine fi Tryz.func7 Tryz.ntmps7 Tryz.results7 ?_
  (refine WpA.seq ?_);(refine WpA.region ?_);(refine WpL.go _ rfl fun Y y=>?_);simp only [zb,seval,w7];(refine RunTo.fn y (by first|(simp;done)|omega|(simp;omega)) ?_);clear y Y;(refine WpL.nil ?_);(refine nH ?_)
  refine WpA.frzP 3 0 rfl rfl (D.cc_shut _) ?_
  simp only [zz]
  refine WpA.frzP 4 1 rfl rfl (D.cc_shut _) ?_
  simp only [zz]
  refine WpA.frzP 5 2 rfl rfl (D.cc_shut _) ?_
  simp only [zz]
  repeat (first|(apply fw;(with_reducible constructor)<;>rfl)|(apply WpA.cd;constructor)|((first|with_reducible refine WpA.go _ rfl fun Y y=>?_|apply RunTo.id);simp only [zb,seval,w7,kcc];refine fz y ?_;clear y Y))
  refine cz (h1) ?_
  (refine WpL.go _ rfl fun Y y=>?_);repeat (first|(apply fw;(with_reducible constructor)<;>rfl)|(apply WpA.cd;constructor)|((first|with_reducible refine WpA.go _ rfl fun Y y=>?_|apply RunTo.id);simp only [zb,seval,w7,kcc];refine fz y ?_;clear y Y))
  refine cz (h2) ?_
  (refine WpL.go _ rfl fun Y y=>?_);repeat (first|(apply fw;(with_reducible constructor)<;>rfl)|(apply WpA.cd;constructor)|((first|with_reducible refine WpA.go _ rfl fun Y y=>?_|apply RunTo.id);simp only [zb,seval,w7,kcc];refine fz y ?_;clear y Y))
  refine cz (h3) ?_
  (refine WpL.go _ rfl fun Y y=>?_);repeat (first|(apply fw;(with_reducible constructor)<;>rfl)|(apply WpA.cd;constructor)|((first|with_reducible refine WpA.go _ rfl fun Y y=>?_|apply RunTo.id);simp only [zb,seval,w7,kcc];refine fz y ?_;clear y Y))
  refine cz (fR) ?_
  (refine WpL.go _ rfl fun Y y=>?_);repeat (first|(apply fw;(with_reducible constructor)<;>rfl)|(apply WpA.cd;constructor)|((first|with_reducible refine WpA.go _ rfl fun Y y=>?_|apply RunTo.id);simp only [zb,seval,w7,kcc];refine fz y ?_;clear y Y))
  refine ye (by simp only [zb,seval,w7];rfl) (by simp only [zv];rfl) ?_
  rfl
 rw [decide_eq_false q3] at h3
 obtain⟨vx,mx⟩:=CY q1
 obtain⟨vy,my⟩:=CY q2
 obtain⟨vz,mz⟩:=CY q3
 have d1:=vN x (by omega)
 have d2:=vN y (by omega)
 have d3:=vN z (by omega)
 by_cases p1:50<x.depth
 ·have g1:decide ((50:Int)<(x.depth:Int))=true:=by simp;omega
  refine fi Tryz.func7 Tryz.ntmps7 Tryz.results7 ?_
  (refine WpA.seq ?_);(refine WpA.region ?_);(refine WpL.go _ rfl fun Y y=>?_);simp only [zb,seval,w7];(refine RunTo.fn y (by first|(simp;done)|omega|(simp;omega)) ?_);clear y Y;(refine WpL.nil ?_);(refine nH ?_)
  refine WpA.frzP 3 0 rfl rfl (D.cc_shut _) ?_
  simp only [zz]
  refine WpA.frzP 4 1 rfl rfl (D.cc_shut _) ?_
  simp only [zz]
  refine WpA.frzP 5 2 rfl rfl (D.cc_shut _) ?_
  simp only [zz]
  repeat (first|(apply fw;(with_reducible constructor)<;>rfl)|(apply WpA.cd;constructor)|((first|with_reducible refine WpA.go _ rfl fun Y y=>?_|apply RunTo.id);simp only [zb,seval,w7,kcc];refine fz y ?_;clear y Y))
  refine cz (h1) ?_
  (refine WpL.go _ rfl fun Y y=>?_);repeat (first|(apply fw;(with_reducible constructor)<;>rfl)|(apply WpA.cd;constructor)|((first|with_reducible refine WpA.go _ rfl fun Y y=>?_|apply RunTo.id);simp only [zb,seval,w7,kcc];refine fz y ?_;clear y Y))
  refine cz (h2) ?_
  (refine WpL.go _ rfl fun Y y=>?_);repeat (first|(apply fw;(with_reducible constructor)<;>rfl)|(apply WpA.cd;constructor)|((first|with_reducible refine WpA.go _ rfl fun Y y=>?_|apply RunTo.id);simp only [zb,seval,w7,kcc];refine fz y ?_;clear y Y))
  refine cz (h3) ?_
  (refine WpL.go _ rfl fun Y y=>?_);repeat (first|(apply fw;(with_reducible constructor)<;>rfl)|(apply WpA.cd;constructor)|((first|with_reducible refine WpA.go _ rfl fun Y y=>?_|apply RunTo.id);simp only [zb,seval,w7,kcc];refine fz y ?_;clear y Y))
  refine cz (d1) ?_
  (refine WpL.go _ rfl fun Y y=>?_);repeat (first|(apply fw;(with_reducible constructor)<;>rfl)|(apply WpA.cd;constructor)|((first|with_reducible refine WpA.go _ rfl fun Y y=>?_|apply RunTo.id);simp only [zb,seval,w7,kcc,g1];refine fz y ?_;clear y Y))
  refine cz (fR) ?_
  (refine WpL.go _ rfl fun Y y=>?_);repeat (first|(apply fw;(with_reducible constructor)<;>rfl)|(apply WpA.cd;constructor)|((first|with_reducible refine WpA.go _ rfl fun Y y=>?_|apply RunTo.id);simp only [zb,seval,w7,kcc];refine fz y ?_;clear y Y))
  refine ye (by simp only [zb,seval,w7];rfl) (by simp only [zv];rfl) ?_
  rfl
 have g1:decide ((50:Int)<(x.depth:Int))=false:=by simp;omega
 by_cases p2:50<y.depth
 ·have g2:decide ((50:Int)<(y.depth:Int))=true:=by simp;omega
  refine fi Tryz.func7 Tryz.ntmps7 Tryz.results7 ?_
  (refine WpA.seq ?_);(refine WpA.region ?_);(refine WpL.go _ rfl fun Y y=>?_);simp only [zb,seval,w7];(refine RunTo.fn y (by first|(simp;done)|omega|(simp;omega)) ?_);clear y Y;(refine WpL.nil ?_);(refine nH ?_)
  refine WpA.frzP 3 0 rfl rfl (D.cc_shut _) ?_
  simp only [zz]
  refine WpA.frzP 4 1 rfl rfl (D.cc_shut _) ?_
  simp only [zz]
  refine WpA.frzP 5 2 rfl rfl (D.cc_shut _) ?_
  simp only [zz]
  repeat (first|(apply fw;(with_reducible constructor)<;>rfl)|(apply WpA.cd;constructor)|((first|with_reducible refine WpA.go _ rfl fun Y y=>?_|apply RunTo.id);simp only [zb,seval,w7,kcc];refine fz y ?_;clear y Y))
  refine cz (h1) ?_
  (refine WpL.go _ rfl fun Y y=>?_);repeat (first|(apply fw;(with_reducible constructor)<;>rfl)|(apply WpA.cd;constructor)|((first|with_reducible refine WpA.go _ rfl fun Y y=>?_|apply RunTo.id);simp only [zb,seval,w7,kcc];refine fz y ?_;clear y Y))
  refine cz (h2) ?_
  (refine WpL.go _ rfl fun Y y=>?_);repeat (first|(apply fw;(with_reducible constructor)<;>rfl)|(apply WpA.cd;constructor)|((first|with_reducible refine WpA.go _ rfl fun Y y=>?_|apply RunTo.id);simp only [zb,seval,w7,kcc];refine fz y ?_;clear y Y))
  refine cz (h3) ?_
  (refine WpL.go _ rfl fun Y y=>?_);repeat (first|(apply fw;(with_reducible constructor)<;>rfl)|(apply WpA.cd;constructor)|((first|with_reducible refine WpA.go _ rfl fun Y y=>?_|apply RunTo.id);simp only [zb,seval,w7,kcc];refine fz y ?_;clear y Y))
  refine cz (d1) ?_
  (refine WpL.go _ rfl fun Y y=>?_);repeat (first|(apply fw;(with_reducible constructor)<;>rfl)|(apply WpA.cd;constructor)|((first|with_reducible refine WpA.go _ rfl fun Y y=>?_|apply RunTo.id);simp only [zb,seval,w7,kcc,g1];refine fz y ?_;clear y Y))
  refine cz (d2) ?_
  (refine WpL.go _ rfl fun Y y=>?_);repeat (first|(apply fw;(with_reducible constructor)<;>rfl)|(apply WpA.cd;constructor)|((first|with_reducible refine WpA.go _ rfl fun Y y=>?_|apply RunTo.id);simp only [zb,seval,w7,kcc,g2];refine fz y ?_;clear y Y))
  refine cz (fR) ?_
  (refine WpL.go _ rfl fun Y y=>?_);repeat (first|(apply fw;(with_reducible constructor)<;>rfl)|(apply WpA.cd;constructor)|((first|with_reducible refine WpA.go _ rfl fun Y y=>?_|apply RunTo.id);simp only [zb,seval,w7,kcc];refine fz y ?_;clear y Y))
  refine ye (by simp only [zb,seval,w7];rfl) (by simp only [zv];rfl) ?_
  rfl
 have g2:decide ((50:Int)<(y.depth:Int))=false:=by simp;omega
 by_cases p3:50<z.depth
 ·have g3:decide ((50:Int)<(z.depth:Int))=true:=by simp;omega
  refine fi Tryz.func7 Tryz.ntmps7 Tryz.results7 ?_
  (refine WpA.seq ?_);(refine WpA.region ?_);(refine WpL.go _ rfl fun Y y=>?_);simp only [zb,seval,w7];(refine RunTo.fn y (by first|(simp;done)|omega|(simp;omega)) ?_);clear y Y;(refine WpL.nil ?_);(refine nH ?_)
  refine WpA.frzP 3 0 rfl rfl (D.cc_shut _) ?_
  simp only [zz]
  refine WpA.frzP 4 1 rfl rfl (D.cc_shut _) ?_
  simp only [zz]
  refine WpA.frzP 5 2 rfl rfl (D.cc_shut _) ?_
  simp only [zz]
  repeat (first|(apply fw;(with_reducible constructor)<;>rfl)|(apply WpA.cd;constructor)|((first|with_reducible refine WpA.go _ rfl fun Y y=>?_|apply RunTo.id);simp only [zb,seval,w7,kcc];refine fz y ?_;clear y Y))
  refine cz (h1) ?_
  (refine WpL.go _ rfl fun Y y=>?_);repeat (first|(apply fw;(with_reducible constructor)<;>rfl)|(apply WpA.cd;constructor)|((first|with_reducible refine WpA.go _ rfl fun Y y=>?_|apply RunTo.id);simp only [zb,seval,w7,kcc];refine fz y ?_;clear y Y))
  refine cz (h2) ?_
  (refine WpL.go _ rfl fun Y y=>?_);repeat (first|(apply fw;(with_reducible constructor)<;>rfl)|(apply WpA.cd;constructor)|((first|with_reducible refine WpA.go _ rfl fun Y y=>?_|apply RunTo.id);simp only [zb,seval,w7,kcc];refine fz y ?_;clear y Y))
  refine cz (h3) ?_
  (refine WpL.go _ rfl fun Y y=>?_);repeat (first|(apply fw;(with_reducible constructor)<;>rfl)|(apply WpA.cd;constructor)|((first|with_reducible refine WpA.go _ rfl fun Y y=>?_|apply RunTo.id);simp only [zb,seval,w7,kcc];refine fz y ?_;clear y Y))
  refine cz (d1) ?_
  (refine WpL.go _ rfl fun Y y=>?_);repeat (first|(apply fw;(with_reducible constructor)<;>rfl)|(apply WpA.cd;constructor)|((first|with_reducible refine WpA.go _ rfl fun Y y=>?_|apply RunTo.id);simp only [zb,seval,w7,kcc,g1];refine fz y ?_;clear y Y))
  refine cz (d2) ?_
  (refine WpL.go _ rfl fun Y y=>?_);repeat (first|(apply fw;(with_reducible constructor)<;>rfl)|(apply WpA.cd;constructor)|((first|with_reducible refine WpA.go _ rfl fun Y y=>?_|apply RunTo.id);simp only [zb,seval,w7,kcc,g2];refine fz y ?_;clear y Y))
  refine cz (d3) ?_
  (refine WpL.go _ rfl fun Y y=>?_);repeat (first|(apply fw;(with_reducible constructor)<;>rfl)|(apply WpA.cd;constructor)|((first|with_reducible refine WpA.go _ rfl fun Y y=>?_|apply RunTo.id);simp only [zb,seval,w7,kcc,g3];refine fz y ?_;clear y Y))
  refine cz (fR) ?_
  (refine WpL.go _ rfl fun Y y=>?_);repeat (first|(apply fw;(with_reducible constructor)<;>rfl)|(apply WpA.cd;constructor)|((first|with_reducible refine WpA.go _ rfl fun Y y=>?_|apply RunTo.id);simp only [zb,seval,w7,kcc];refine fz y ?_;clear y Y))
  refine ye (by simp only [zb,seval,w7];rfl) (by simp only [zv];rfl) ?_
  rfl
 have g3:decide ((50:Int)<(z.depth:Int))=false:=by simp;omega
 have s1:=iL sIf
 have s2:=iL mI
 have s3:=iL sV
 have s4:=iL cH
 have l1:=dW [bU sIf,x,y,z] (by simp)
 have l2:=dW [bU mI,bU sV,x] (by simp)
 have l3:=dW [] (by simp)
 have l4:=dW [bU cH,aK [],x] (by simp)
 have l5:=dW [AG x,y,z] (by simp)
 have o1:=sY (pIf x y z) (dK ⟨okI,hx,hy,hz,trivial⟩) (by simp [pIf,gD,gL,kL];omega) (by simp [pIf,fG,bZ,lS];omega)
 have o2:=sY (DG x) (dK ⟨okS,okV,hx,trivial⟩) (by simp [DG,gD,gL,kL];omega) (by simp [DG,fG,bZ,lS];omega)
 have o3:=sY (rE x y z) (dK ⟨dK ⟨okL,fT,hx,trivial⟩,hy,hz,trivial⟩) (by simp [rE,AG,gD,gL,kL];omega) (by simp [rE,AG,fG,bZ,lS];omega)
 have r1:=ST hx hy hz
 have r2:=QS hx
 have r3:=PE hx hy hz
 simp only [onA] at o1 o2 o3
 simp only [List.map_cons,List.map_nil] at l1 l2 l3 l4 l5
 generalize kP (pIf x y z)=A at *
 generalize kP (DG x)=B at *
 generalize kP (rE x y z)=C0 at *
 refine fi Tryz.func7 Tryz.ntmps7 Tryz.results7 ?_
 (refine WpA.seq ?_);(refine WpA.region ?_);(refine WpL.go _ rfl fun Y y=>?_);simp only [zb,seval,w7];(refine RunTo.fn y (by first|(simp;done)|omega|(simp;omega)) ?_);clear y Y;(refine WpL.nil ?_);(refine nH ?_)
 refine WpA.frzP 3 0 rfl rfl (D.cc_shut _) ?_
 simp only [zz]
 refine WpA.frzP 4 1 rfl rfl (D.cc_shut _) ?_
 simp only [zz]
 refine WpA.frzP 5 2 rfl rfl (D.cc_shut _) ?_
 simp only [zz]
 repeat (first|(apply fw;(with_reducible constructor)<;>rfl)|(apply WpA.cd;constructor)|((first|with_reducible refine WpA.go _ rfl fun Y y=>?_|apply RunTo.id);simp only [zb,seval,w7,kcc];refine fz y ?_;clear y Y))
 refine cz (h1) ?_
 (refine WpL.go _ rfl fun Y y=>?_);repeat (first|(apply fw;(with_reducible constructor)<;>rfl)|(apply WpA.cd;constructor)|((first|with_reducible refine WpA.go _ rfl fun Y y=>?_|apply RunTo.id);simp only [zb,seval,w7,kcc];refine fz y ?_;clear y Y))
 refine cz (h2) ?_
 (refine WpL.go _ rfl fun Y y=>?_);repeat (first|(apply fw;(with_reducible constructor)<;>rfl)|(apply WpA.cd;constructor)|((first|with_reducible refine WpA.go _ rfl fun Y y=>?_|apply RunTo.id);simp only [zb,seval,w7,kcc];refine fz y ?_;clear y Y))
 refine cz (h3) ?_
 (refine WpL.go _ rfl fun Y y=>?_);repeat (first|(apply fw;(with_reducible constructor)<;>rfl)|(apply WpA.cd;constructor)|((first|with_reducible refine WpA.go _ rfl fun Y y=>?_|apply RunTo.id);simp only [zb,seval,w7,kcc];refine fz y ?_;clear y Y))
 refine cz (d1) ?_
 (refine WpL.go _ rfl fun Y y=>?_);repeat (first|(apply fw;(with_reducible constructor)<;>rfl)|(apply WpA.cd;constructor)|((first|with_reducible refine WpA.go _ rfl fun Y y=>?_|apply RunTo.id);simp only [zb,seval,w7,kcc,g1];refine fz y ?_;clear y Y))
 refine cz (d2) ?_
 (refine WpL.go _ rfl fun Y y=>?_);repeat (first|(apply fw;(with_reducible constructor)<;>rfl)|(apply WpA.cd;constructor)|((first|with_reducible refine WpA.go _ rfl fun Y y=>?_|apply RunTo.id);simp only [zb,seval,w7,kcc,g2];refine fz y ?_;clear y Y))
 refine cz (d3) ?_
 (refine WpL.go _ rfl fun Y y=>?_);repeat (first|(apply fw;(with_reducible constructor)<;>rfl)|(apply WpA.cd;constructor)|((first|with_reducible refine WpA.go _ rfl fun Y y=>?_|apply RunTo.id);simp only [zb,seval,w7,kcc,g3];refine fz y ?_;clear y Y))
 (refine WpA.draw1c 12 [10,11] [_,?_,?_] _ _ _ _ rfl rfl rfl (by kernel_rfl) (by kernel_rfl) (by kernel_rfl) (by kernel_rfl) rfl rfl rfl rfl (by decide) fun K8 hK8=>?_);rotate_left 2;simp only [zz] at hK8 ⊢;(refine Draw1.go fun K7 k=>?_);simp only [zb,seval,w7,kcc,dcc];(refine qz (k _ _ (by rfl) ?_));clear k K7;(simp only [zz,Nat.reduceAdd,Nat.reduceSub]);(try ((refine nz (hK8 _ ?_));clear hK8 K8;(refine WpL.go _ rfl fun Y y=>?_);repeat (first|(apply fw;(with_reducible constructor)<;>rfl)|(apply WpA.cd;constructor)|((first|with_reducible refine WpA.go _ rfl fun Y y=>?_|apply RunTo.id);simp only [zb,seval,w7,kcc,dcc];refine fz y ?_;clear y Y))))
 refine Draw1.step (by rfl) (fun s9 _=>oz (s1)) ?_
 (refine Draw1.go fun K7 k=>?_);simp only [zb,seval,w7,kcc,dcc];(refine qz (k _ _ (by rfl) ?_));clear k K7;(simp only [zz,Nat.reduceAdd,Nat.reduceSub]);(try ((refine nz (hK8 _ ?_));clear hK8 K8;(refine WpL.go _ rfl fun Y y=>?_);repeat (first|(apply fw;(with_reducible constructor)<;>rfl)|(apply WpA.cd;constructor)|((first|with_reducible refine WpA.go _ rfl fun Y y=>?_|apply RunTo.id);simp only [zb,seval,w7,kcc,dcc];refine fz y ?_;clear y Y))))
 refine Draw1.step (by rfl) (fun s9 _=>OpS.frozen (n:=4) (wd:=6) (ty:=28) (rows:=[(bU sIf).cc,x.cc,y.cc,z.cc]) (OpS.eff [(45,_),(46,_),(47,_),(48,_)] rfl (by rfl) ⟨rfl,rfl,rfl,rfl,trivial⟩ (by simp only [zb,seval,w7,kcc,dcc];rfl) (by simp)) rfl (by simp [ksh])) ?_;simp only [bM]
 refine Draw1.step (by rfl) (fun s9 _=>oz (l1)) ?_
 (refine Draw1.go fun K7 k=>?_);simp only [zb,seval,w7,kcc,dcc];(refine qz (k _ _ (by rfl) ?_));clear k K7;(simp only [zz,Nat.reduceAdd,Nat.reduceSub]);(try ((refine nz (hK8 _ ?_));clear hK8 K8;(refine WpL.go _ rfl fun Y y=>?_);repeat (first|(apply fw;(with_reducible constructor)<;>rfl)|(apply WpA.cd;constructor)|((first|with_reducible refine WpA.go _ rfl fun Y y=>?_|apply RunTo.id);simp only [zb,seval,w7,kcc,dcc];refine fz y ?_;clear y Y))))
 refine Draw1.step (by rfl) (fun s9 _=>oz (o1)) ?_
 (refine Draw1.go fun K7 k=>?_);simp only [zb,seval,w7,kcc,dcc];(refine qz (k _ _ (by rfl) ?_));clear k K7;(simp only [zz,Nat.reduceAdd,Nat.reduceSub]);(try ((refine nz (hK8 _ ?_));clear hK8 K8;(refine WpL.go _ rfl fun Y y=>?_);repeat (first|(apply fw;(with_reducible constructor)<;>rfl)|(apply WpA.cd;constructor)|((first|with_reducible refine WpA.go _ rfl fun Y y=>?_|apply RunTo.id);simp only [zb,seval,w7,kcc,dcc];refine fz y ?_;clear y Y))))
 refine Draw1.eff 0 rfl rfl rfl (OpS.eff [] rfl (by rfl) trivial (by simp only [zb,seval,w7,kcc,dcc];rfl) (by first|(simp;done)|omega|(simp;omega))) ?_;(try simp only [bM]);(try ((refine Draw1.go fun K7 k=>?_);simp only [zb,seval,w7,kcc,dcc];(refine qz (k _ _ (by rfl) ?_));clear k K7;(simp only [zz,Nat.reduceAdd,Nat.reduceSub]);(try ((refine nz (hK8 _ ?_));clear hK8 K8;(refine WpL.go _ rfl fun Y y=>?_);repeat (first|(apply fw;(with_reducible constructor)<;>rfl)|(apply WpA.cd;constructor)|((first|with_reducible refine WpA.go _ rfl fun Y y=>?_|apply RunTo.id);simp only [zb,seval,w7,kcc,dcc];refine fz y ?_;clear y Y))))))
 refine Draw1.eff 1 rfl rfl rfl (OpS.eff [(7,_),(52,_)] rfl (by rfl) ⟨rfl,rfl,trivial⟩ (by simp only [zb,seval,w7,kcc,dcc];rfl) (by first|(simp;done)|omega|(simp;omega))) ?_;(try simp only [bM]);(try ((refine Draw1.go fun K7 k=>?_);simp only [zb,seval,w7,kcc,dcc];(refine qz (k _ _ (by rfl) ?_));clear k K7;(simp only [zz,Nat.reduceAdd,Nat.reduceSub]);(try ((refine nz (hK8 _ ?_));clear hK8 K8;(refine WpL.go _ rfl fun Y y=>?_);repeat (first|(apply fw;(with_reducible constructor)<;>rfl)|(apply WpA.cd;constructor)|((first|with_reducible refine WpA.go _ rfl fun Y y=>?_|apply RunTo.id);simp only [zb,seval,w7,kcc,dcc];refine fz y ?_;clear y Y))))))
 (refine WpA.draw1c 11 [9,10] [_,?_,?_] _ _ _ _ rfl rfl rfl (by kernel_rfl) (by kernel_rfl) (by kernel_rfl) (by kernel_rfl) rfl rfl rfl rfl (by decide) fun K8 hK8=>?_);rotate_left 2;simp only [zz] at hK8 ⊢;(refine Draw1.go fun K7 k=>?_);simp only [zb,seval,w7,kcc,dcc];(refine qz (k _ _ (by rfl) ?_));clear k K7;(simp only [zz,Nat.reduceAdd,Nat.reduceSub]);(try ((refine nz (hK8 _ ?_));clear hK8 K8;(refine WpL.go _ rfl fun Y y=>?_);repeat (first|(apply fw;(with_reducible constructor)<;>rfl)|(apply WpA.cd;constructor)|((first|with_reducible refine WpA.go _ rfl fun Y y=>?_|apply RunTo.id);simp only [zb,seval,w7,kcc,dcc];refine fz y ?_;clear y Y))))
 refine Draw1.step (by rfl) (fun s9 _=>oz (s2)) ?_
 (refine Draw1.go fun K7 k=>?_);simp only [zb,seval,w7,kcc,dcc];(refine qz (k _ _ (by rfl) ?_));clear k K7;(simp only [zz,Nat.reduceAdd,Nat.reduceSub]);(try ((refine nz (hK8 _ ?_));clear hK8 K8;(refine WpL.go _ rfl fun Y y=>?_);repeat (first|(apply fw;(with_reducible constructor)<;>rfl)|(apply WpA.cd;constructor)|((first|with_reducible refine WpA.go _ rfl fun Y y=>?_|apply RunTo.id);simp only [zb,seval,w7,kcc,dcc];refine fz y ?_;clear y Y))))
 refine Draw1.step (by rfl) (fun s9 _=>oz (s3)) ?_
 (refine Draw1.go fun K7 k=>?_);simp only [zb,seval,w7,kcc,dcc];(refine qz (k _ _ (by rfl) ?_));clear k K7;(simp only [zz,Nat.reduceAdd,Nat.reduceSub]);(try ((refine nz (hK8 _ ?_));clear hK8 K8;(refine WpL.go _ rfl fun Y y=>?_);repeat (first|(apply fw;(with_reducible constructor)<;>rfl)|(apply WpA.cd;constructor)|((first|with_reducible refine WpA.go _ rfl fun Y y=>?_|apply RunTo.id);simp only [zb,seval,w7,kcc,dcc];refine fz y ?_;clear y Y))))
 refine Draw1.step (by rfl) (fun s9 _=>OpS.frozen (n:=3) (wd:=6) (ty:=28) (rows:=[(bU mI).cc,(bU sV).cc,x.cc]) (OpS.eff [(55,_),(56,_),(57,_)] rfl (by rfl) ⟨rfl,rfl,rfl,trivial⟩ (by simp only [zb,seval,w7,kcc,dcc];rfl) (by simp)) rfl (by simp [ksh])) ?_;simp only [bM]
 refine Draw1.step (by rfl) (fun s9 _=>oz (l2)) ?_
 (refine Draw1.go fun K7 k=>?_);simp only [zb,seval,w7,kcc,dcc];(refine qz (k _ _ (by rfl) ?_));clear k K7;(simp only [zz,Nat.reduceAdd,Nat.reduceSub]);(try ((refine nz (hK8 _ ?_));clear hK8 K8;(refine WpL.go _ rfl fun Y y=>?_);repeat (first|(apply fw;(with_reducible constructor)<;>rfl)|(apply WpA.cd;constructor)|((first|with_reducible refine WpA.go _ rfl fun Y y=>?_|apply RunTo.id);simp only [zb,seval,w7,kcc,dcc];refine fz y ?_;clear y Y))))
 refine Draw1.step (by rfl) (fun s9 _=>oz (o2)) ?_
 (refine Draw1.go fun K7 k=>?_);simp only [zb,seval,w7,kcc,dcc];(refine qz (k _ _ (by rfl) ?_));clear k K7;(simp only [zz,Nat.reduceAdd,Nat.reduceSub]);(try ((refine nz (hK8 _ ?_));clear hK8 K8;(refine WpL.go _ rfl fun Y y=>?_);repeat (first|(apply fw;(with_reducible constructor)<;>rfl)|(apply WpA.cd;constructor)|((first|with_reducible refine WpA.go _ rfl fun Y y=>?_|apply RunTo.id);simp only [zb,seval,w7,kcc,dcc];refine fz y ?_;clear y Y))))
 refine Draw1.eff 0 rfl rfl rfl (OpS.eff [] rfl (by rfl) trivial (by simp only [zb,seval,w7,kcc,dcc];rfl) (by first|(simp;done)|omega|(simp;omega))) ?_;(try simp only [bM]);(try ((refine Draw1.go fun K7 k=>?_);simp only [zb,seval,w7,kcc,dcc];(refine qz (k _ _ (by rfl) ?_));clear k K7;(simp only [zz,Nat.reduceAdd,Nat.reduceSub]);(try ((refine nz (hK8 _ ?_));clear hK8 K8;(refine WpL.go _ rfl fun Y y=>?_);repeat (first|(apply fw;(with_reducible constructor)<;>rfl)|(apply WpA.cd;constructor)|((first|with_reducible refine WpA.go _ rfl fun Y y=>?_|apply RunTo.id);simp only [zb,seval,w7,kcc,dcc];refine fz y ?_;clear y Y))))))
 refine Draw1.eff 1 rfl rfl rfl (OpS.eff [(9,_),(61,_)] rfl (by rfl) ⟨rfl,rfl,trivial⟩ (by simp only [zb,seval,w7,kcc,dcc];rfl) (by first|(simp;done)|omega|(simp;omega))) ?_;(try simp only [bM]);(try ((refine Draw1.go fun K7 k=>?_);simp only [zb,seval,w7,kcc,dcc];(refine qz (k _ _ (by rfl) ?_));clear k K7;(simp only [zz,Nat.reduceAdd,Nat.reduceSub]);(try ((refine nz (hK8 _ ?_));clear hK8 K8;(refine WpL.go _ rfl fun Y y=>?_);repeat (first|(apply fw;(with_reducible constructor)<;>rfl)|(apply WpA.cd;constructor)|((first|with_reducible refine WpA.go _ rfl fun Y y=>?_|apply RunTo.id);simp only [zb,seval,w7,kcc,dcc];refine fz y ?_;clear y Y))))))
 (refine WpA.draw1c 15 [13,14] [_,?_,?_] _ _ _ _ rfl rfl rfl (by kernel_rfl) (by kernel_rfl) (by kernel_rfl) (by kernel_rfl) rfl rfl rfl rfl (by decide) fun K8 hK8=>?_);rotate_left 2;simp only [zz] at hK8 ⊢;(refine Draw1.go fun K7 k=>?_);simp only [zb,seval,w7,kcc,dcc];(refine qz (k _ _ (by rfl) ?_));clear k K7;(simp only [zz,Nat.reduceAdd,Nat.reduceSub]);(try ((refine nz (hK8 _ ?_));clear hK8 K8;(refine WpL.go _ rfl fun Y y=>?_);repeat (first|(apply fw;(with_reducible constructor)<;>rfl)|(apply WpA.cd;constructor)|((first|with_reducible refine WpA.go _ rfl fun Y y=>?_|apply RunTo.id);simp only [zb,seval,w7,kcc,dcc];refine fz y ?_;clear y Y))))
 refine Draw1.step (by rfl) (fun s9 _=>oz (s4)) ?_
 (refine Draw1.go fun K7 k=>?_);simp only [zb,seval,w7,kcc,dcc];(refine qz (k _ _ (by rfl) ?_));clear k K7;(simp only [zz,Nat.reduceAdd,Nat.reduceSub]);(try ((refine nz (hK8 _ ?_));clear hK8 K8;(refine WpL.go _ rfl fun Y y=>?_);repeat (first|(apply fw;(with_reducible constructor)<;>rfl)|(apply WpA.cd;constructor)|((first|with_reducible refine WpA.go _ rfl fun Y y=>?_|apply RunTo.id);simp only [zb,seval,w7,kcc,dcc];refine fz y ?_;clear y Y))))
 refine Draw1.step (by rfl) (fun s9 _=>oz (l3)) ?_
 (refine Draw1.go fun K7 k=>?_);simp only [zb,seval,w7,kcc,dcc];(refine qz (k _ _ (by rfl) ?_));clear k K7;(simp only [zz,Nat.reduceAdd,Nat.reduceSub]);(try ((refine nz (hK8 _ ?_));clear hK8 K8;(refine WpL.go _ rfl fun Y y=>?_);repeat (first|(apply fw;(with_reducible constructor)<;>rfl)|(apply WpA.cd;constructor)|((first|with_reducible refine WpA.go _ rfl fun Y y=>?_|apply RunTo.id);simp only [zb,seval,w7,kcc,dcc];refine fz y ?_;clear y Y))))
 refine Draw1.step (by rfl) (fun s9 _=>OpS.frozen (n:=3) (wd:=6) (ty:=28) (rows:=[(bU cH).cc,(aK []).cc,x.cc]) (OpS.eff [(64,_),(65,_),(66,_)] rfl (by rfl) ⟨rfl,rfl,rfl,trivial⟩ (by simp only [zb,seval,w7,kcc,dcc];rfl) (by simp)) rfl (by simp [ksh])) ?_;simp only [bM]
 refine Draw1.step (by rfl) (fun s9 _=>oz (l4)) ?_
 (refine Draw1.go fun K7 k=>?_);simp only [zb,seval,w7,kcc,dcc];(refine qz (k _ _ (by rfl) ?_));clear k K7;(simp only [zz,Nat.reduceAdd,Nat.reduceSub]);(try ((refine nz (hK8 _ ?_));clear hK8 K8;(refine WpL.go _ rfl fun Y y=>?_);repeat (first|(apply fw;(with_reducible constructor)<;>rfl)|(apply WpA.cd;constructor)|((first|with_reducible refine WpA.go _ rfl fun Y y=>?_|apply RunTo.id);simp only [zb,seval,w7,kcc,dcc];refine fz y ?_;clear y Y))))
 refine Draw1.step (by rfl) (fun s9 _=>OpS.frozen (n:=3) (wd:=6) (ty:=28) (rows:=[(AG x).cc,y.cc,z.cc]) (OpS.eff [(68,_),(69,_),(70,_)] rfl (by rfl) ⟨rfl,rfl,rfl,trivial⟩ (by simp only [zb,seval,w7,kcc,dcc];rfl) (by simp)) rfl (by simp [ksh])) ?_;simp only [bM]
 refine Draw1.step (by rfl) (fun s9 _=>oz (l5)) ?_
 (refine Draw1.go fun K7 k=>?_);simp only [zb,seval,w7,kcc,dcc];(refine qz (k _ _ (by rfl) ?_));clear k K7;(simp only [zz,Nat.reduceAdd,Nat.reduceSub]);(try ((refine nz (hK8 _ ?_));clear hK8 K8;(refine WpL.go _ rfl fun Y y=>?_);repeat (first|(apply fw;(with_reducible constructor)<;>rfl)|(apply WpA.cd;constructor)|((first|with_reducible refine WpA.go _ rfl fun Y y=>?_|apply RunTo.id);simp only [zb,seval,w7,kcc,dcc];refine fz y ?_;clear y Y))))
 refine Draw1.step (by rfl) (fun s9 _=>oz (o3)) ?_
 (refine Draw1.go fun K7 k=>?_);simp only [zb,seval,w7,kcc,dcc];(refine qz (k _ _ (by rfl) ?_));clear k K7;(simp only [zz,Nat.reduceAdd,Nat.reduceSub]);(try ((refine nz (hK8 _ ?_));clear hK8 K8;(refine WpL.go _ rfl fun Y y=>?_);repeat (first|(apply fw;(with_reducible constructor)<;>rfl)|(apply WpA.cd;constructor)|((first|with_reducible refine WpA.go _ rfl fun Y y=>?_|apply RunTo.id);simp only [zb,seval,w7,kcc,dcc];refine fz y ?_;clear y Y))))
 refine Draw1.eff 0 rfl rfl rfl (OpS.eff [] rfl (by rfl) trivial (by simp only [zb,seval,w7,kcc,dcc];rfl) (by first|(simp;done)|omega|(simp;omega))) ?_;(try simp only [bM]);(try ((refine Draw1.go fun K7 k=>?_);simp only [zb,seval,w7,kcc,dcc];(refine qz (k _ _ (by rfl) ?_));clear k K7;(simp only [zz,Nat.reduceAdd,Nat.reduceSub]);(try ((refine nz (hK8 _ ?_));clear hK8 K8;(refine WpL.go _ rfl fun Y y=>?_);repeat (first|(apply fw;(with_reducible constructor)<;>rfl)|(apply WpA.cd;constructor)|((first|with_reducible refine WpA.go _ rfl fun Y y=>?_|apply RunTo.id);simp only [zb,seval,w7,kcc,dcc];refine fz y ?_;clear y Y))))))
 refine Draw1.eff 1 rfl rfl rfl (OpS.eff [(11,_),(74,_)] rfl (by rfl) ⟨rfl,rfl,trivial⟩ (by simp only [zb,seval,w7,kcc,dcc];rfl) (by first|(simp;done)|omega|(simp;omega))) ?_;(try simp only [bM]);(try ((refine Draw1.go fun K7 k=>?_);simp only [zb,seval,w7,kcc,dcc];(refine qz (k _ _ (by rfl) ?_));clear k K7;(simp only [zz,Nat.reduceAdd,Nat.reduceSub]);(try ((refine nz (hK8 _ ?_));clear hK8 K8;(refine WpL.go _ rfl fun Y y=>?_);repeat (first|(apply fw;(with_reducible constructor)<;>rfl)|(apply WpA.cd;constructor)|((first|with_reducible refine WpA.go _ rfl fun Y y=>?_|apply RunTo.id);simp only [zb,seval,w7,kcc,dcc];refine fz y ?_;clear y Y))))))
 obtain⟨a,e⟩:=A
 obtain⟨b,f⟩:=B
 obtain⟨c,g⟩:=C0
 dsimp only at *
 refine WpA.frzP 7 3 rfl rfl (K.cc_shut _) ?_
 simp only [zz]
 refine WpA.frzP 9 4 rfl rfl (K.cc_shut _) ?_
 simp only [zz]
 refine WpA.frzP 11 5 rfl rfl (K.cc_shut _) ?_
 simp only [zz]
 by_cases e1:e=0
 case' neg =>
  have hne:(e != 0)=true:=by simp [e1]
  repeat (first|(apply fw;(with_reducible constructor)<;>rfl)|(apply WpA.cd;constructor)|((first|with_reducible refine WpA.go _ rfl fun Y y=>?_|apply RunTo.id);simp only [zb,seval,w7,kcc,hne];refine fz y ?_;clear y Y))
  refine cz (fR) ?_
  (refine WpL.go _ rfl fun Y y=>?_);repeat (first|(apply fw;(with_reducible constructor)<;>rfl)|(apply WpA.cd;constructor)|((first|with_reducible refine WpA.go _ rfl fun Y y=>?_|apply RunTo.id);simp only [zb,seval,w7,kcc];refine fz y ?_;clear y Y))
  refine ye (by simp only [zb,seval,w7];rfl) (by simp only [zv];rfl) ?_
  rfl
 subst e1
 by_cases e2:f=0
 case' neg =>
  have hne:(f != 0)=true:=by simp [e2]
  repeat (first|(apply fw;(with_reducible constructor)<;>rfl)|(apply WpA.cd;constructor)|((first|with_reducible refine WpA.go _ rfl fun Y y=>?_|apply RunTo.id);simp only [zb,seval,w7,kcc,hne];refine fz y ?_;clear y Y))
  refine cz (fR) ?_
  (refine WpL.go _ rfl fun Y y=>?_);repeat (first|(apply fw;(with_reducible constructor)<;>rfl)|(apply WpA.cd;constructor)|((first|with_reducible refine WpA.go _ rfl fun Y y=>?_|apply RunTo.id);simp only [zb,seval,w7,kcc];refine fz y ?_;clear y Y))
  refine ye (by simp only [zb,seval,w7];rfl) (by simp only [zv];rfl) ?_
  rfl
 subst e2
 by_cases e3:g=0
 case' neg =>
  have hne:(g != 0)=true:=by simp [e3]
  repeat (first|(apply fw;(with_reducible constructor)<;>rfl)|(apply WpA.cd;constructor)|((first|with_reducible refine WpA.go _ rfl fun Y y=>?_|apply RunTo.id);simp only [zb,seval,w7,kcc,hne];refine fz y ?_;clear y Y))
  refine cz (fR) ?_
  (refine WpL.go _ rfl fun Y y=>?_);repeat (first|(apply fw;(with_reducible constructor)<;>rfl)|(apply WpA.cd;constructor)|((first|with_reducible refine WpA.go _ rfl fun Y y=>?_|apply RunTo.id);simp only [zb,seval,w7,kcc];refine fz y ?_;clear y Y))
  refine ye (by simp only [zb,seval,w7];rfl) (by simp only [zv];rfl) ?_
  rfl
 subst e3
 obtain⟨ea,⟨x0,y0,z0⟩,px,py,pz⟩:=r1 rfl
 have eb:=r2 rfl
 obtain⟨bd,ec⟩:=r3 rfl
 obtain rfl:a=_:=congrArg Prod.fst ea
 obtain rfl:b=_:=congrArg Prod.fst eb
 obtain rfl:c=_:=congrArg Prod.fst ec
 have hP:∀p∈[x,y,z],p.Ok∧p.count≤800∧p.msr+1≤2400∧(∃q,kP (lW p)=(.mk 7 e0 e0 [] cA [aE (exK p).1 (exK p).1 bI,q],0))∧(exK p).1.Ok:=by
  simp only [List.mem_cons,List.not_mem_nil,or_false,forall_eq_or_imp,forall_eq]
  exact⟨⟨hx,vx,mx,vM hx px (by omega) x0,PF hx px (by omega) x0⟩,⟨hy,vy,my,vM hy py (by omega) y0,PF hy py (by omega) y0⟩,⟨hz,vz,mz,vM hz pz (by omega) z0,PF hz pz (by omega) z0⟩⟩
 clear ea eb ec r1 r2 r3 o1 o2 o3 h1 h2 h3 d1 d2 d3 s2 s3 s4 l1 l2 l3 l4 l5
 repeat (first|(apply fw;(with_reducible constructor)<;>rfl)|(apply WpA.cd;constructor)|((first|with_reducible refine WpA.go _ rfl fun Y y=>?_|apply RunTo.id);simp only [zb,seval,w7,kcc,dcc];refine fz y ?_;clear y Y))
 (refine WpA.frz 13 (6) (by rfl) (by first|rfl|(simp only [zz,kcc];rfl)|(simp only [zz,kcc])) (by first|rfl|(simp [kcc];done)|(simp [kcc];omega)) (by simp [ksh]) ?_);simp only [zz,kcc]
 refine WpA.loop (PaI (aE (exK x).1 (exK y).1 (exK z).1).cc (rY sV (exK x).1).cc (gZ [.mk 6 e0 e0 [] cA [bd],(exK y).1,(exK z).1]).cc [x.cc,y.cc,z.cc]) 3 (Le.drop 0 (Nat.zero_le _) rfl (by simp [Sub,find]) rfl (by simp [ObBd])) ⟨0,rfl,Nat.zero_le _,rfl⟩ ?_
 intro n' st hI
 obtain⟨i,rfl,hi,rfl⟩:=hI
 have hw2:IntKind.i64.wrap ((i:Int)+1)=((i+1:Nat):Int):=by rw [eH (by omega) (by omega)];omega
 by_cases hlt:i<3
 ·have hd1:decide ((i:Int)<(3:Int))=true:=by simp;omega
  obtain⟨p,hp,hd,hk⟩:∃p,p∈[x,y,z]∧[x.cc,y.cc,z.cc][i]?=some p.cc∧[(exK x).1.cc,(exK y).1.cc,(exK z).1.cc][i]?=some (exK p).1.cc:=by
   match i,hlt with
   | 0,_=>exact⟨x,by simp,rfl,rfl⟩
   | 1,_=>exact⟨y,by simp,rfl,rfl⟩
   | 2,_=>exact⟨z,by simp,rfl,rfl⟩
  obtain⟨hpo,cp,mp,⟨q,hq⟩,kp⟩:=hP p hp
  have s5:=iL cM
  have l6:=dW [bU sIf,p,p] (by simp)
  have l7:=dW [bU cM,rF p,p] (by simp)
  have oi:(rF p).Ok:=dK ⟨okI,hpo,hpo,trivial⟩
  have o4:=sY (lW p) (dK ⟨okB,oi,hpo,trivial⟩) (by simp [lW,rF,gD,gL,kL];omega) (by simp [lW,rF,fG,bZ,lS];omega)
  rw [hq] at o4
  simp only [onA] at o4
  simp only [List.map_cons,List.map_nil] at l6 l7
  have es:=mT (exK p).1 (exK p).1 kp
  rw [bG rfl] at es
  generalize (exK p).1=P at *
  repeat (first|(apply fw;(with_reducible constructor)<;>rfl)|(apply WpA.cd;constructor)|((first|with_reducible refine WpA.go _ rfl fun Y y=>?_|apply RunTo.id);simp only [zb,seval,w7,hd1];refine fz y ?_;clear y Y))
  (refine WpA.draw1c 24 [22,23] [_,?_,?_] _ _ _ _ rfl rfl rfl (by kernel_rfl) (by kernel_rfl) (by kernel_rfl) (by kernel_rfl) rfl rfl rfl rfl (by decide) fun K8 hK8=>?_);rotate_left 2;simp only [zz] at hK8 ⊢;(refine Draw1.go fun K7 k=>?_);simp only [zb,seval,w7,kcc,dcc,hd];(refine qz (k _ _ (by rfl) ?_));clear k K7;(simp only [zz,Nat.reduceAdd,Nat.reduceSub]);(try ((refine nz (hK8 _ ?_));clear hK8 K8;(refine WpL.go _ rfl fun Y y=>?_);repeat (first|(apply fw;(with_reducible constructor)<;>rfl)|(apply WpA.cd;constructor)|((first|with_reducible refine WpA.go _ rfl fun Y y=>?_|apply RunTo.id);simp only [zb,seval,w7,kcc,dcc,hd];refine fz y ?_;clear y Y))))
  refine Draw1.step (by rfl) (fun s9 _=>oz (s5)) ?_
  (refine Draw1.go fun K7 k=>?_);simp only [zb,seval,w7,kcc,dcc,hd];(refine qz (k _ _ (by rfl) ?_));clear k K7;(simp only [zz,Nat.reduceAdd,Nat.reduceSub]);(try ((refine nz (hK8 _ ?_));clear hK8 K8;(refine WpL.go _ rfl fun Y y=>?_);repeat (first|(apply fw;(with_reducible constructor)<;>rfl)|(apply WpA.cd;constructor)|((first|with_reducible refine WpA.go _ rfl fun Y y=>?_|apply RunTo.id);simp only [zb,seval,w7,kcc,dcc,hd];refine fz y ?_;clear y Y))))
  refine Draw1.step (by rfl) (fun s9 _=>oz (s1)) ?_
  (refine Draw1.go fun K7 k=>?_);simp only [zb,seval,w7,kcc,dcc,hd];(refine qz (k _ _ (by rfl) ?_));clear k K7;(simp only [zz,Nat.reduceAdd,Nat.reduceSub]);(try ((refine nz (hK8 _ ?_));clear hK8 K8;(refine WpL.go _ rfl fun Y y=>?_);repeat (first|(apply fw;(with_reducible constructor)<;>rfl)|(apply WpA.cd;constructor)|((first|with_reducible refine WpA.go _ rfl fun Y y=>?_|apply RunTo.id);simp only [zb,seval,w7,kcc,dcc,hd];refine fz y ?_;clear y Y))))
  refine Draw1.step (by rfl) (fun s9 _=>OpS.frozen (n:=3) (wd:=6) (ty:=28) (rows:=[(bU sIf).cc,p.cc,p.cc]) (OpS.eff [(97,_),(101,_),(105,_)] rfl (by rfl) ⟨rfl,rfl,rfl,trivial⟩ (by simp only [zb,seval,w7,kcc,dcc,hd];rfl) (by simp)) rfl (by simp [ksh])) ?_;simp only [bM]
  refine Draw1.step (by rfl) (fun s9 _=>oz (l6)) ?_
  (refine Draw1.go fun K7 k=>?_);simp only [zb,seval,w7,kcc,dcc,hd];(refine qz (k _ _ (by rfl) ?_));clear k K7;(simp only [zz,Nat.reduceAdd,Nat.reduceSub]);(try ((refine nz (hK8 _ ?_));clear hK8 K8;(refine WpL.go _ rfl fun Y y=>?_);repeat (first|(apply fw;(with_reducible constructor)<;>rfl)|(apply WpA.cd;constructor)|((first|with_reducible refine WpA.go _ rfl fun Y y=>?_|apply RunTo.id);simp only [zb,seval,w7,kcc,dcc,hd];refine fz y ?_;clear y Y))))
  refine Draw1.step (by rfl) (fun s9 _=>OpS.frozen (n:=3) (wd:=6) (ty:=28) (rows:=[(bU cM).cc,(rF p).cc,p.cc]) (OpS.eff [(96,_),(107,_),(111,_)] rfl (by rfl) ⟨rfl,rfl,rfl,trivial⟩ (by simp only [zb,seval,w7,kcc,dcc,hd];rfl) (by simp)) rfl (by simp [ksh])) ?_;simp only [bM]
  refine Draw1.step (by rfl) (fun s9 _=>oz (l7)) ?_
  (refine Draw1.go fun K7 k=>?_);simp only [zb,seval,w7,kcc,dcc,hd];(refine qz (k _ _ (by rfl) ?_));clear k K7;(simp only [zz,Nat.reduceAdd,Nat.reduceSub]);(try ((refine nz (hK8 _ ?_));clear hK8 K8;(refine WpL.go _ rfl fun Y y=>?_);repeat (first|(apply fw;(with_reducible constructor)<;>rfl)|(apply WpA.cd;constructor)|((first|with_reducible refine WpA.go _ rfl fun Y y=>?_|apply RunTo.id);simp only [zb,seval,w7,kcc,dcc,hd];refine fz y ?_;clear y Y))))
  refine Draw1.step (by rfl) (fun s9 _=>oz (o4)) ?_
  (refine Draw1.go fun K7 k=>?_);simp only [zb,seval,w7,kcc,dcc,hd];(refine qz (k _ _ (by rfl) ?_));clear k K7;(simp only [zz,Nat.reduceAdd,Nat.reduceSub]);(try ((refine nz (hK8 _ ?_));clear hK8 K8;(refine WpL.go _ rfl fun Y y=>?_);repeat (first|(apply fw;(with_reducible constructor)<;>rfl)|(apply WpA.cd;constructor)|((first|with_reducible refine WpA.go _ rfl fun Y y=>?_|apply RunTo.id);simp only [zb,seval,w7,kcc,dcc,hd];refine fz y ?_;clear y Y))))
  refine Draw1.eff 0 rfl rfl rfl (OpS.eff [] rfl (by rfl) trivial (by simp only [zb,seval,w7,kcc,dcc];rfl) (by first|(simp;done)|omega|(simp;omega))) ?_;(try simp only [bM]);(try ((refine Draw1.go fun K7 k=>?_);simp only [zb,seval,w7,kcc,dcc];(refine qz (k _ _ (by rfl) ?_));clear k K7;(simp only [zz,Nat.reduceAdd,Nat.reduceSub]);(try ((refine nz (hK8 _ ?_));clear hK8 K8;(refine WpL.go _ rfl fun Y y=>?_);repeat (first|(apply fw;(with_reducible constructor)<;>rfl)|(apply WpA.cd;constructor)|((first|with_reducible refine WpA.go _ rfl fun Y y=>?_|apply RunTo.id);simp only [zb,seval,w7,kcc,dcc];refine fz y ?_;clear y Y))))))
  refine Draw1.eff 1 rfl rfl rfl (OpS.eff [(15,_),(115,_)] rfl (by rfl) ⟨rfl,rfl,trivial⟩ (by simp only [zb,seval,w7,kcc,dcc];rfl) (by first|(simp;done)|omega|(simp;omega))) ?_;(try simp only [bM]);(try ((refine Draw1.go fun K7 k=>?_);simp only [zb,seval,w7,kcc,dcc];(refine qz (k _ _ (by rfl) ?_));clear k K7;(simp only [zz,Nat.reduceAdd,Nat.reduceSub]);(try ((refine nz (hK8 _ ?_));clear hK8 K8;(refine WpL.go _ rfl fun Y y=>?_);repeat (first|(apply fw;(with_reducible constructor)<;>rfl)|(apply WpA.cd;constructor)|((first|with_reducible refine WpA.go _ rfl fun Y y=>?_|apply RunTo.id);simp only [zb,seval,w7,kcc,dcc];refine fz y ?_;clear y Y))))))
  refine WpA.frzP 15 0 rfl rfl (K.cc_shut _) ?_
  simp only [zz]
  (refine WpA.draw0 38 _ _ _ rfl rfl rfl (by kernel_rfl) (by kernel_rfl) (by kernel_rfl) fun K8 hK8=>?_);simp only [zz] at hK8 ⊢;(refine Draw0.go fun K7 k=>?_);simp only [zb,seval,w7,kcc,rcc,List.map_cons,List.map_nil,hk];(refine qz (k _ _ ?_));clear k K7;(try ((refine Draw0.nil (hK8 _ ?_));clear hK8 K8;(refine WpL.go _ rfl fun Y y=>?_);repeat (first|(apply fw;(with_reducible constructor)<;>rfl)|(apply WpA.cd;constructor)|((first|with_reducible refine WpA.go _ rfl fun Y y=>?_|apply RunTo.id);simp only [zb,seval,w7,kcc,rcc,List.map_cons,List.map_nil,hk];refine fz y ?_;clear y Y))))
  refine Draw0.step (oz (es)) ?_
  (refine Draw0.go fun K7 k=>?_);simp only [zb,seval,w7,kcc,rcc,List.map_cons,List.map_nil,hk,hw2];(refine qz (k _ _ ?_));clear k K7;(try ((refine Draw0.nil (hK8 _ ?_));clear hK8 K8;(refine WpL.go _ rfl fun Y y=>?_);repeat (first|(apply fw;(with_reducible constructor)<;>rfl)|(apply WpA.cd;constructor)|((first|with_reducible refine WpA.go _ rfl fun Y y=>?_|apply RunTo.id);simp only [zb,seval,w7,kcc,rcc,List.map_cons,List.map_nil,hk,hw2];refine fz y ?_;clear y Y))))
  exact⟨3-(i+1),_,by omega,Le.drop 0 (Nat.zero_le _) rfl (by simp [Sub,find,rcc]) rfl (by simp [ObBd]),i+1,rfl,hlt,rfl⟩
 ·have hd0:decide ((i:Int)<(3:Int))=false:=by simp;omega
  have e1:=mT (exK x).1 (exK x).1 (hP x (by simp)).2.2.2.2
  have e2:=mT (exK y).1 (exK y).1 (hP y (by simp)).2.2.2.2
  have e3:=mT (exK z).1 (exK z).1 (hP z (by simp)).2.2.2.2
  rw [bG rfl] at e1 e2 e3
  clear hP
  generalize (exK x).1=X at *
  generalize (exK y).1=Y at *
  generalize (exK z).1=Z at *
  repeat (first|(apply fw;(with_reducible constructor)<;>rfl)|(apply WpA.cd;constructor)|((first|with_reducible refine WpA.go _ rfl fun Y y=>?_|apply RunTo.id);simp only [zb,seval,w7,hd0,kcc,rcc,List.map_cons,List.map_nil];refine fz y ?_;clear y Y))
  refine WpA.frzP 17 0 rfl rfl (K.cc_shut _) ?_
  simp only [zz]
  (refine WpA.draw0 47 _ _ _ rfl rfl rfl (by kernel_rfl) (by kernel_rfl) (by kernel_rfl) fun K8 hK8=>?_);simp only [zz] at hK8 ⊢;(refine Draw0.go fun K7 k=>?_);simp only [zb,seval,w7,kcc,rcc,List.map_cons,List.map_nil];(refine qz (k _ _ ?_));clear k K7;(try ((refine Draw0.nil (hK8 _ ?_));clear hK8 K8;(refine WpL.go _ rfl fun Y y=>?_);repeat (first|(apply fw;(with_reducible constructor)<;>rfl)|(apply WpA.cd;constructor)|((first|with_reducible refine WpA.go _ rfl fun Y y=>?_|apply RunTo.id);simp only [zb,seval,w7,kcc,rcc,List.map_cons,List.map_nil];refine fz y ?_;clear y Y))))
  refine Draw0.step (oz (e1)) ?_
  (refine Draw0.go fun K7 k=>?_);simp only [zb,seval,w7,kcc,rcc,List.map_cons,List.map_nil];(refine qz (k _ _ ?_));clear k K7;(try ((refine Draw0.nil (hK8 _ ?_));clear hK8 K8;(refine WpL.go _ rfl fun Y y=>?_);repeat (first|(apply fw;(with_reducible constructor)<;>rfl)|(apply WpA.cd;constructor)|((first|with_reducible refine WpA.go _ rfl fun Y y=>?_|apply RunTo.id);simp only [zb,seval,w7,kcc,rcc,List.map_cons,List.map_nil];refine fz y ?_;clear y Y))))
  refine Draw0.step (oz (e2)) ?_
  (refine Draw0.go fun K7 k=>?_);simp only [zb,seval,w7,kcc,rcc,List.map_cons,List.map_nil];(refine qz (k _ _ ?_));clear k K7;(try ((refine Draw0.nil (hK8 _ ?_));clear hK8 K8;(refine WpL.go _ rfl fun Y y=>?_);repeat (first|(apply fw;(with_reducible constructor)<;>rfl)|(apply WpA.cd;constructor)|((first|with_reducible refine WpA.go _ rfl fun Y y=>?_|apply RunTo.id);simp only [zb,seval,w7,kcc,rcc,List.map_cons,List.map_nil];refine fz y ?_;clear y Y))))
  refine Draw0.step (oz (e3)) ?_
  have hs0:dI []=[]:=rfl
  (refine Draw0.go fun K7 k=>?_);simp only [zb,seval,w7,kcc,rcc,List.map_cons,List.map_nil,hs0];(refine qz (k _ _ ?_));clear k K7;(try ((refine Draw0.nil (hK8 _ ?_));clear hK8 K8;(refine WpL.go _ rfl fun Y y=>?_);repeat (first|(apply fw;(with_reducible constructor)<;>rfl)|(apply WpA.cd;constructor)|((first|with_reducible refine WpA.go _ rfl fun Y y=>?_|apply RunTo.id);simp only [zb,seval,w7,kcc,rcc,List.map_cons,List.map_nil,hs0];refine fz y ?_;clear y Y))))
  refine cz (fR) ?_
  (refine WpL.go _ rfl fun Y y=>?_);repeat (first|(apply fw;(with_reducible constructor)<;>rfl)|(apply WpA.cd;constructor)|((first|with_reducible refine WpA.go _ rfl fun Y y=>?_|apply RunTo.id);simp only [zb,seval,w7,kcc];refine fz y ?_;clear y Y))
  refine ye (by simp only [zb,seval,w7];rfl) (by simp only [zv];rfl) ?_
  rfl
end Go.Proofs.YtaeioidifpebdaaGreatDoor
end
