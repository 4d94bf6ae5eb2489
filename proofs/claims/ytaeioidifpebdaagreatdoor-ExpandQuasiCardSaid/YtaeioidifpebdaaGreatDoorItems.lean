
import Derived.Test.YtaeioidifpebdaaGreatDoorCons
namespace Go.Proofs.YtaeioidifpebdaaGreatDoor
open Go.RowKit
set_option linter.unusedSimpArgs false
set_option linter.unusedVariables false

mutual
def items:D→List D
 | .mk k _ _ _ _ l=>if k=7 then mS l else []
def mS:List D→List D
 | [a,b]=>a::items b
 | _=>[]
end
mutual
def fS:D→Int
 | .mk k _ _ _ _ l=>if k=7 then CQ l else k
def CQ:List D→Int
 | [a,b]=>fS b
 | _=>7
end
def oC (d:D):Bool:=decide (d.k=7)&&decide (d.l.length=2)
theorem HJ {d:D} (h:oC d=true):∃a b,d.l=[a,b]∧items d=a::items b∧fS d=fS b:=by
 simp only [oC,Bool.and_eq_true,decide_eq_true_eq] at h
 obtain⟨k,c,neg,mag,t,l⟩:=d
 simp only [D.k,D.l] at h
 obtain⟨rfl,hl⟩:=h
 match l,hl with
 | [a,b],_=>exact⟨a,b,rfl,by simp [items,mS],by simp [fS,CQ]⟩
theorem CR {d:D} (h:oC d=false):items d=[]∧fS d=d.k:=by
 simp only [oC,Bool.and_eq_false_iff,decide_eq_false_iff_not] at h
 obtain⟨k,c,neg,mag,t,l⟩:=d
 simp only [D.k,D.l] at h
 by_cases hk:k=7
 ·subst hk
  have hl:l.length≠2:=h.resolve_left (fun h=>h rfl)
  match l,hl with
  | [],_=>exact⟨by simp [items,mS],by simp [fS,CQ,D.k]⟩
  | [a],_=>exact⟨by simp [items,mS],by simp [fS,CQ,D.k]⟩
  | [a,b],h=>exact absurd rfl h
  | a::b::c::r,_=>exact⟨by simp [items,mS],by simp [fS,CQ,D.k]⟩
 ·exact⟨by simp [items,hk],by simp [fS,hk,D.k]⟩

theorem IsDs.two {w:World} {x y:D} {a:Option Addr} {n cap:Nat} (h:IsDs w [x,y] (.slice a n cap)):∃b o,a=some ⟨b,o,none⟩∧CellsD w b o x∧CellsD w b (o+6) y:=by
 obtain⟨b,o,e,h0⟩:=h.get 0 (by simp)
 obtain⟨b',o',e',h1⟩:=h.get 1 (by simp)
 subst e
 cases e'
 exact⟨b,o,rfl,by simpa using h0,by simpa using h1⟩
theorem Own.from {w w':World} {B e size:Nat} {es:List V} {v:Value} (h:Own w B e size es v) (hk:∀k,B≤k→k<w.heap.size→w'.heap[k]?=w.heap[k]?):Own w' B e size es v:=by
 obtain⟨xs,ho,hr⟩:=h
 refine⟨xs,⟨ho.1,?_⟩,hr.keep (Keeps.only fun b hp hb=>⟨hp,hk b (by simp only [Bool.and_eq_true,decide_eq_true_eq] at hp;exact hp.1) hb⟩)⟩
 rcases ho.2 with hn|⟨g,cap,cur,rfl,hb,hgg,rest⟩
 ·exact .inl hn
 ·exact .inr ⟨g,cap,cur,rfl,hb,(hk g hb (Array.getElem?_eq_some_iff.1 hgg).1).trans hgg,rest⟩
def HK:Value→Nat
 | .slice _ n _=>n
 | _=>0

set_option maxRecDepth 100000 in
set_option maxHeartbeats 4000000 in
theorem NZ (d:D) (w:World) (v:Value) (hok:d.Ok) (hlen:(items d).length≤1000000000) (h:IsD w d v) :
  Calls Tryz.prog 83 #[v] w fun e w'=>∃v',e=.returned (.tuple #[v',.bool (decide (fS d=0))])∧Ext w w'∧IsDs (cM w' w.heap.size) (if fS d=0 then items d else []) v':=by
 obtain⟨am,cm,al,cl,rfl,hm,hl,-,-,-,-⟩:=h.open
 have hx0:=(Ext.refl w).alloc (.cells #[.int .i64 d.k,.int .i32 d.c,.bool d.neg,.slice am d.mag.length cm,.string d.t,.slice al d.l.length cl] 28)
 have b0:=gK w (.cells #[.int .i64 d.k,.int .i32 d.c,.bool d.neg,.slice am d.mag.length cm,.string d.t,.slice al d.l.length cl] 28)
 obtain⟨i0,hi,hz0,hz1,hz2⟩:=info_parts UY
 go_enter Tryz.func83,Tryz.ntmps83
 go_wp2_with fail
 generalize w.alloc (.cells #[.int .i64 d.k,.int .i32 d.c,.bool d.neg,.slice am d.mag.length cm,.string d.t,.slice al d.l.length cl] 28)=w1 at *
 go_loopw [4] (fun s wr=>∃(pre:List D) (cur:D) (bm:Option Addr) (dm:Nat) (bl:Option Addr) (dl:Nat),items d=pre++items cur∧fS d=fS cur∧cur.Ok∧IsMag w cur.mag (.slice bm cur.mag.length dm)∧IsDs w cur.l (.slice bl cur.l.length dl)∧wr.heap[w.heap.size]?=some (.cells #[.int .i64 cur.k,.int .i32 cur.c,.bool cur.neg,.slice bm cur.mag.length dm,.string cur.t,.slice bl cur.l.length dl] 28 (0,0))∧Ext w wr∧w.heap.size+1≤wr.heap.size∧Own wr (w.heap.size+1) 28 6 (pre.map D.v) s) (fun s _=>(items d).length-HK s)
 case atStart=>exact⟨[],d,am,cm,al,cl,rfl,rfl,hok,hm,hl,b0,hx0,by have:=(Array.getElem?_eq_some_iff.1 b0).1;omega,by simpa using Own.nil _ _ _ _⟩
 case round =>
  obtain⟨pre,cur,bm,dm,bl,dl,hit,hen,hcok,hcm,hcl,hb,hxr,hz,hown⟩:=hrel
  rcases hg:oC cur
  ·obtain⟨hi2,he2⟩:=CR hg
   rw [hi2,List.append_nil] at hit
   rw [he2] at hen
   have hc:=cG hb
   have hlen2:=hown.form
   obtain⟨a4,c4,rfl,-,-⟩:=hlen2
   have HOWN:=Lib.hid (And.intro hown (And.intro hit hen));clear hown hit hen
   by_cases hk:cur.k=7
   ·have e1:(cur.k == 7)=true:=by simpa using hk
    have e2:((cur.l.length:Int) == 2)=false:=by
     simp only [oC,hk,decide_true,Bool.true_and,decide_eq_false_iff_not] at hg
     rw [beq_eq_false_iff_ne];omega
    have e3:(cur.k != 0)=true:=by rw [hk];rfl
    have he:fS d≠0:=by rw [HOWN.out.2.2,hk];decide
    clear hg
    go_wp2_with fail
    go_ret2
    exact⟨.slice none 0 0,rfl,hxr,IsDs.nil _⟩
   ·have e1:(cur.k == 7)=false:=by simpa using hk
    by_cases hk0:cur.k=0
    ·have e3:(cur.k != 0)=false:=by simpa using hk0
     have he:fS d=0:=by rw [HOWN.out.2.2,hk0]
     clear hg
     go_wp2_with fail
     go_ret2
     refine⟨.slice a4 pre.length c4,rfl,hxr,?_⟩
     rw [HOWN.out.2.1]
     have:=HOWN.out.1.reads
     rw [List.length_map] at this
     exact IsDs.keep (fN _ (Nat.le_succ _)) this
    ·have e3:(cur.k != 0)=true:=by simpa using hk0
     have he:fS d≠0:=by rw [HOWN.out.2.2];exact hk0
     clear hg
     go_wp2_with fail
     go_ret2
     exact⟨.slice none 0 0,rfl,hxr,IsDs.nil _⟩
  ·obtain⟨x,y,hxy,hi2,he2⟩:=HJ hg
   obtain⟨k,c,neg,mag,t,l⟩:=cur
   simp only [oC,Bool.and_eq_true,decide_eq_true_eq] at hg
   simp only [D.k,D.c,D.neg,D.mag,D.t,D.l] at hg hxy hcm hcl hb
   obtain⟨rfl,-⟩:=hg
   subst hxy
   have hox:x.Ok:=hcok.get 0 (by simp [D.l])
   have hoy:y.Ok:=hcok.get 1 (by simp [D.l])
   obtain⟨b,o,rfl,hx',hy'⟩:=hcl.two
   obtain⟨am2,cm2,al2,cl2,x0,x1,x2,x3,x4,x5,hm2,hl2⟩:=hx'.keep hxr.keeps
   obtain⟨am3,cm3,al3,cl3,y0,y1,y2,y3,y4,y5,hm3,hl3⟩:=hy'
   have hc:=cG hb
   have HOWN:=Lib.hid hown;clear hown
   have HX:=Lib.hid (fun W (hx:Ext wr W)=>pL x W _ hox (IsD.mk' (hm2.keep hx.keeps) (hl2.keep hx.keeps)))
   go_wp2_with fail
   refine (HX.out _ (Ext.refl _)).mono ?_
   rintro e w2 ⟨v',rfl,hx3,hv'⟩
   obtain⟨am4,cm4,al4,cl4,rfl,-,-,-,-,-,-⟩:=hv'.open
   have hv2:Rd (cM w2 wr.heap.size) x.v [.int .i64 x.k,.int .i32 x.c,.bool x.neg,.slice am4 x.mag.length cm4,.string x.t,.slice al4 x.l.length cl4]:=IsD.rd (cs:=[.int .i64 x.k,.int .i32 x.c,.bool x.neg,.slice am4 x.mag.length cm4,.string x.t,.slice al4 x.l.length cl4]) hv'
   have HV:=Lib.hid (And.intro hv2 hx3);clear hv' hv2
   have hpl:pre.length+1≤1000000000:=by
    have:=congrArg List.length hit
    rw [hi2] at this
    simp only [List.length_append,List.length_cons] at this
    omega
   have hy3:∀W,Ext w W→W.cell? ⟨b,o+6,none⟩=some (.int .i64 y.k)∧W.cell? ⟨b,o+6+1,none⟩=some (.int .i32 y.c)∧W.cell? ⟨b,o+6+2,none⟩=some (.bool y.neg)∧W.cell? ⟨b,o+6+3,none⟩=some (.slice am3 y.mag.length cm3)∧W.cell? ⟨b,o+6+4,none⟩=some (.string y.t)∧W.cell? ⟨b,o+6+5,none⟩=some (.slice al3 y.l.length cl3):=fun W hx=>⟨hx.keeps _ _ y0,hx.keeps _ _ y1,hx.keeps _ _ y2,hx.keeps _ _ y3,hx.keeps _ _ y4,hx.keeps _ _ y5⟩
   have HY:=Lib.hid hy3;clear hy3 y0 y1 y2 y3 y4 y5 x0 x1 x2 x3 x4 x5
   have HB:=Lib.hid hb
   go_wp2_with (at_builtin;refine kB (w:=wr) (w2:=w2) rfl _ _ 26 rfl (w.heap.size+1) 28 i0 _ 6 88 Tryz.underlying26 hi hz0 hz1 hz2 rfl (by decide) _ _ rfl HOWN.out hz HV.out.2 _ x.v _ rfl rfl (D.plain_v _) HV.out.1 (by simp [maxLen];omega) (by simp;omega) ?_;intro v2 w3 hown' hbb;have hx5:Ext w w3:=((hxr.trans HV.out.2).alloc _).below (hbb.mono (Nat.le_succ _));have hb3:w3.heap[w.heap.size]?=_:=(hbb.block _ (Nat.lt_succ_self _)).trans ((Below.heap_alloc _ _ _ (by have:=HV.out.2.le;omega)).trans ((HV.out.2.block _ (by omega)).trans HB.out));have hsz3:w.heap.size+1≤w3.heap.size:=by { have h1:=hbb.size;have h2:=HV.out.2.le;simp at h1;omega };have hc3:=cG hb3;have hf3:=iQ hb3;obtain⟨z0,z1,z2,z3,z4,z5⟩:=HY.out w3 hx5;have H1:=Lib.hid (And.intro hown' (And.intro hx5 hb3));clear hown' hbb hx5 hb3)
   go_roundw
   case rel =>
    refine⟨pre++[x],y,am3,cm3,al3,cl3,by rw [hit,hi2];simp,hen.trans he2,hoy,hm3,hl3,pW H1.out.2.2 _ _ _ _ _ _,mQ H1.out.2.1 (Nat.le_refl _) _ _ _ _ _ _,by simpa using hsz3,?_⟩
    rw [List.map_append]
    exact H1.out.1.from fun k hk _=>sE (by omega) _ _ _ _ _ _
   case measure =>
    obtain⟨a5,c5,rfl,-,-⟩:=HOWN.out.form
    obtain⟨a6,c6,rfl,-,-⟩:=H1.out.1.form
    have:=congrArg List.length hit
    rw [hi2] at this
    simp [HK] at this ⊢
    omega
end Go.Proofs.YtaeioidifpebdaaGreatDoor
