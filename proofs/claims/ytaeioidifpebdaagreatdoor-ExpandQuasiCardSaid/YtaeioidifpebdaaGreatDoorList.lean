
import Derived.Test.YtaeioidifpebdaaGreatDoorBack
namespace Go.Proofs.YtaeioidifpebdaaGreatDoor
open Go.RowKit Go.Shelf
set_option linter.unusedSimpArgs false
set_option linter.unusedVariables false
attribute [local go_sem] Oper.semAt_some

def aE:List D→D
 | []=>cH
 | x::r=>.mk 7 0 false [] ⟨#[]⟩ [x,aE r]

theorem zT {W W':World} {row:Option Nat} (hg:W.grownBy W' row) (hr:∀r,row=some r→∃o:Obj,W.heap[r]?=some o∧o.isCells=false) (B:Nat):Keeps (cM W B) (cM W' B):=fun p v hp=>by
 unfold cM at hp ⊢
 rw [eX] at hp ⊢
 split at hp
 ·rename_i hb
  rw [if_pos hb]
  have hne:some p.block≠row:=fun e=>by
   obtain⟨o,ho,hc⟩:=hr p.block e.symm
   unfold World.cell? at hp
   rw [ho] at hp
   cases o<;>simp [Obj.isCells] at hc hp
  exact hg.cell hp hne
 ·cases hp

def YE (B:Nat) (W:World) (d:D):Prop:=∃k al n cl,W.heap[B]?=some (.cells #[.int .i64 k,.int .i32 0,.bool false,.slice none 0 0,.string ⟨#[]⟩,.slice al n cl] 28 (0,0)) ∧
 IsD (cM W (B+1)) d (.agg #[.int .i64 k,.int .i32 0,.bool false,.slice none 0 0,.string ⟨#[]⟩,.slice al n cl])
def LInv (w:World) (pre:List (Elem w)) (W:World):Prop :=
 YE (w.heap.size+1) W (aE (pre.map (·.d)).reverse)∧W.heap[w.heap.size]?=some (.cells #[.int .i64 0,.int .i32 0,.bool false,.slice none 0 0,.string ⟨#[]⟩,.slice none 0 0] 28 (0,0))∧Ext w W∧w.heap.size+3≤W.heap.size
theorem LInv.own (w:World):OwnFrom (w.heap.size+3) (LInv w):=fun pre W W' row h hg hr=>by
 obtain⟨⟨k,al,n,cl,hb,hd⟩,h2,hx,hz⟩:=h
 have hs:∀b c e f,W.heap[b]?=some (.cells c e f)→b<w.heap.size+3→W'.heap[b]?=W.heap[b]?:=fun b c e f hb hlt=>hg.block b (Array.getElem?_eq_some_iff.1 hb).1 (fun e=>by have:=(hr b e.symm).1;omega)
 refine⟨⟨k,al,n,cl,(hs _ _ _ _ hb (by omega)).trans hb,hd.keep (zT hg (fun r e=>(hr r e).2) _)⟩,(hs _ _ _ _ h2 (by omega)).trans h2,?_,Nat.le_trans hz hg.size⟩
 exact Below.grown hx hg hx.size (fun k e=>by have:=(hr k e).1;omega)
def LAx (w:World) (t0 t8:Value) (x:Elem w) (a':Act) (W:World):Prop :=
 ∃Bx,w.heap.size+2<Bx∧W.heap[Bx]?=some (.cells #[.int .i64 x.d.k,.int .i32 x.d.c,.bool x.d.neg,.slice x.am x.d.mag.length x.cm,.string x.d.t,.slice x.al x.d.l.length x.cl] 28 (0,0)) ∧
  a'={ tmps:=#[t0,undef,.pointer (some ⟨w.heap.size,0,none⟩),.pointer (some ⟨w.heap.size+1,0,none⟩),undef,.pointer (some ⟨Bx,0,none⟩),.agg #[.int .i64 0,.int .i32 0,.bool false,.slice none 0 0,.string ⟨#[]⟩,.slice none 0 0],t0,t8,.int .i64 x.i,.agg #[.int .i64 x.d.k,.int .i32 x.d.c,.bool x.d.neg,.slice x.am x.d.mag.length x.cm,.string x.d.t,.slice x.al x.d.l.length x.cl],undef,undef,undef,undef,undef,undef],defers:=[] }
theorem LAx.own (w:World) (t0 t8:Value) (x:Elem w) (a':Act):OwnFrom (w.heap.size+3) (fun (_:Unit) W=>LAx w t0 t8 x a' W):=fun _ W W' row h hg hr=>by
 obtain⟨Bx,h1,hb,e⟩:=h
 refine⟨Bx,h1,?_,e⟩
 rw [hg.block Bx (Array.getElem?_eq_some_iff.1 hb).1 (fun e=>by obtain⟨_,o,ho,hc⟩:=hr Bx e.symm;rw [hb] at ho;cases ho;cases hc)]
 exact hb
theorem IsD.rd {W:World} {d:D} {cs:List Value} (h:IsD W d (.agg cs.toArray)):Rd W d.v cs:=by
 obtain⟨cs',e,hr⟩:=h
 have:cs=cs':=by simpa using Value.agg.inj e
 subst this;exact hr
theorem IsDs.new2 {wq:World} {B:Nat} {d1 d2:D} {a0 a1 a2 a3 a4 a5 b0 b1 b2 b3 b4 b5:Value} {e:TypeId} (h1:IsD (cM wq B) d1 (.agg #[a0,a1,a2,a3,a4,a5])) (h2:IsD (cM wq B) d2 (.agg #[b0,b1,b2,b3,b4,b5])) (hB:B≤wq.heap.size) :
  IsDs (cM (wq.alloc (.cells #[a0,a1,a2,a3,a4,a5,b0,b1,b2,b3,b4,b5] e)) B) [d1,d2] (.slice (some ⟨wq.heap.size,0,none⟩) 2 2):=by
 have r1:=IsD.rd (cs:=[a0,a1,a2,a3,a4,a5]) h1
 have r2:=IsD.rd (cs:=[b0,b1,b2,b3,b4,b5]) h2
 exact Rd.block (es:=[d1.v,d2.v]) (xU wq [a0,a1,a2,a3,a4,a5,b0,b1,b2,b3,b4,b5] e hB) (RdAll.append (RdAll.one (r1.keep (rA _ _ _))) (RdAll.one (r2.keep (rA _ _ _)))) (by simp [maxLen])
theorem tA {B:Nat} {W W':World} (h:Ext W W'):KeepsFrom B W W':=⟨h.size,fun k o _ hk _=>(h.block k (Array.getElem?_eq_some_iff.1 hk).1).trans hk⟩
theorem hF {B:Nat} (W:World) (p:Addr) (v:Value):KeepsFrom B W (W.setCell p v):=(KeepsOthers.setCell W p v).from B

def qU (w:World) (B:Nat) (a b c d e f:Value):World:=(((((w.setCell ⟨B,0,none⟩ a).setCell ⟨B,1,none⟩ b).setCell ⟨B,2,none⟩ c).setCell ⟨B,3,none⟩ d).setCell ⟨B,4,none⟩ e).setCell ⟨B,5,none⟩ f
theorem pW {w:World} {B:Nat} {x0 x1 x2 x3 x4 x5:Value} {ty:TypeId} {fz:Nat × Nat} (h:w.heap[B]?=some (.cells #[x0,x1,x2,x3,x4,x5] ty fz)) (a b c d e f:Value):(qU w B a b c d e f).heap[B]?=some (.cells #[a,b,c,d,e,f] ty fz):=by
 unfold qU
 exact (mL (mL (mL (mL (mL (mL h _) _) _) _) _) _).trans (by simp)
theorem sE {w:World} {B k:Nat} (h:k≠B) (a b c d e f:Value):(qU w B a b c d e f).heap[k]?=w.heap[k]?:=by
 unfold qU
 rw [iE h,iE h,iE h,iE h,iE h,iE h]
theorem CP (w:World) (B:Nat) (a b c d e f:Value):(qU w B a b c d e f).heap.size=w.heap.size:=by
 unfold qU;simp only [World.size_setCell]
theorem mQ {n:Nat} {z w:World} (h:Below n z w) {B:Nat} (hB:n≤B) (a b c d e f:Value):Below n z (qU w B a b c d e f):=by
 unfold qU
 exact (((((h.setCell hB _).setCell hB _).setCell hB _).setCell hB _).setCell hB _).setCell hB _
theorem tV (w:World) {B C:Nat} (h:B<C) (a b c d e f:Value):Keeps (cM w C) (cM (qU w B a b c d e f) C) :=
 Keeps.only fun k hp _=>⟨hp,by simp only [decide_eq_true_eq] at hp;exact sE (by omega) _ _ _ _ _ _⟩
theorem NX {C:Nat} (w:World) (B:Nat) (a b c d e f:Value):KeepsFrom C w (qU w B a b c d e f):=by
 unfold qU
 exact (((((hF _ _ _).trans (hF _ _ _)).trans (hF _ _ _)).trans (hF _ _ _)).trans (hF _ _ _)).trans (hF _ _ _)
theorem NY {w w':World} {b:Nat} (h:w'.heap[b]?=w.heap[b]?) (o:Nat):w'.cell? ⟨b,o,none⟩=w.cell? ⟨b,o,none⟩:=by
 simp [World.cell?,h]

set_option maxRecDepth 100000 in
set_option maxHeartbeats 4000000 in
theorem QW (l:List D) (w:World) (v:Value) (hok:Oks l) (hlen:l.length≤1599289640354) (h:IsDs w l v) :
  Calls Tryz.prog 125 #[v] w fun e w'=>∃v',e=.returned v'∧Ext w w'∧IsD (cM w' w.heap.size) (aE l) v':=by
 obtain⟨a,cap,rfl,h1,h2⟩:=h.form
 obtain⟨xs,hxl,hxd,hxs⟩:=QU h hok
 refine (callsIn_wide (n:=3)).1 ?_
 refine callsIn_of_wp_marks Tryz.func125 rfl trivial ?_ rfl
 simp only [Tryz.ntmps125,List.size_toArray,List.length_cons,List.length_nil,Nat.reduceAdd,Nat.reduceSub,Array.replicate_succ,Array.replicate_zero,List.push_toArray,List.append_toArray,List.nil_append,List.cons_append]
 gi_wp2_with fail
 refine⟨trivial,(TR _ _ _ _ _).mono ?_⟩
 rintro e w' ⟨rfl,rfl⟩
 gi_wp2_with fail
 have hxL:=(((Ext.refl w).alloc (.cells #[.int .i64 0,.int .i32 0,.bool false,.slice none 0 0,.string ⟨#[]⟩,.slice none 0 0] 28)).alloc (.cells #[.int .i64 0,.int .i32 0,.bool false,.slice none 0 0,.string ⟨#[]⟩,.slice none 0 0] 28)).alloc (.cells #[.slice a l.length cap] 26)
 have b2:(((w.alloc (.cells #[.int .i64 0,.int .i32 0,.bool false,.slice none 0 0,.string ⟨#[]⟩,.slice none 0 0] 28)).alloc (.cells #[.int .i64 0,.int .i32 0,.bool false,.slice none 0 0,.string ⟨#[]⟩,.slice none 0 0] 28)).alloc (.cells #[.slice a l.length cap] 26)).heap[w.heap.size]?=some (.cells #[.int .i64 0,.int .i32 0,.bool false,.slice none 0 0,.string ⟨#[]⟩,.slice none 0 0] 28):=by rw [Below.heap_alloc _ _ _ (by simp;omega)];exact rY _ _ _
 have b3:(((w.alloc (.cells #[.int .i64 0,.int .i32 0,.bool false,.slice none 0 0,.string ⟨#[]⟩,.slice none 0 0] 28)).alloc (.cells #[.int .i64 0,.int .i32 0,.bool false,.slice none 0 0,.string ⟨#[]⟩,.slice none 0 0] 28)).alloc (.cells #[.slice a l.length cap] 26)).heap[w.heap.size+1]?=some (.cells #[.int .i64 0,.int .i32 0,.bool false,.slice none 0 0,.string ⟨#[]⟩,.slice none 0 0] 28):=by rw [Below.heap_alloc _ _ _ (by simp)];exact rZ _ _ _
 have bs:(((w.alloc (.cells #[.int .i64 0,.int .i32 0,.bool false,.slice none 0 0,.string ⟨#[]⟩,.slice none 0 0] 28)).alloc (.cells #[.int .i64 0,.int .i32 0,.bool false,.slice none 0 0,.string ⟨#[]⟩,.slice none 0 0] 28)).alloc (.cells #[.slice a l.length cap] 26)).heap[w.heap.size+1+1]?=some (.cells #[.slice a l.length cap] 26):=by
  have:=gK ((w.alloc (.cells #[.int .i64 0,.int .i32 0,.bool false,.slice none 0 0,.string ⟨#[]⟩,.slice none 0 0] 28)).alloc (.cells #[.int .i64 0,.int .i32 0,.bool false,.slice none 0 0,.string ⟨#[]⟩,.slice none 0 0] 28)) (.cells #[.slice a l.length cap] 26)
  simpa using this
 have hsz:(((w.alloc (.cells #[.int .i64 0,.int .i32 0,.bool false,.slice none 0 0,.string ⟨#[]⟩,.slice none 0 0] 28)).alloc (.cells #[.int .i64 0,.int .i32 0,.bool false,.slice none 0 0,.string ⟨#[]⟩,.slice none 0 0] 28)).alloc (.cells #[.slice a l.length cap] 26)).heap.size=w.heap.size+3:=by simp
 generalize ((w.alloc (.cells #[.int .i64 0,.int .i32 0,.bool false,.slice none 0 0,.string ⟨#[]⟩,.slice none 0 0] 28)).alloc (.cells #[.int .i64 0,.int .i32 0,.bool false,.slice none 0 0,.string ⟨#[]⟩,.slice none 0 0] 28)).alloc (.cells #[.slice a l.length cap] 26)=WL at *
 refine wpIn_rangeFunc_ownH (α:=Elem w) rfl (by omega) (gf:=142) (lb:=#[.pointer (some ⟨w.heap.size+1+1,0,none⟩)]) rfl trivial (enters_of Tryz.func142 (by kernel_rfl) rfl)
  (KG 2 (w.heap.size+1+1) w WL a cap l hlen xs hxl (by omega) hxs hxL (by omega) (by rw [cG bs];rfl)) VH (XJ (by omega)) (Below.refl _ _) (fun _=>rfl)
  (LInv w) (fun _ _ _=>False) (by rw [hsz];exact LInv.own w) (fun _ _ _ _ _ hs _ _=>hs) ?start
  (LAx w (.slice a l.length cap) (.func (.func 142) #[] #[.pointer (some ⟨w.heap.size+1+1,0,none⟩)])) (fun x a'=>by rw [hsz];exact LAx.own _ _ _ _ _) ?assign ?body ?done ?stop
 case start=>exact⟨⟨0,none,0,0,b3,IsD.mk (IsMag.nil _) (IsDs.nil _)⟩,b2,hxL,by omega⟩
 case assign =>
  rintro l' pre x W K hi hK
  simp only [Elem.encs]
  have hle:w.heap.size+3≤W.heap.size:=hi.2.2.2
  gi_wp2
  refine hK _ _ (tA ((Ext.refl _).alloc _)) ⟨(Below.refl _ W).alloc (by omega) _,fun hc=>((Ext.refl _).alloc _).keeps _ _ hc⟩ ?_ ⟨W.heap.size,by omega,gK _ _,rfl⟩
  obtain⟨⟨k,al,n,cl,hb,hd⟩,hb2,hx,hz⟩:=hi
  exact⟨⟨k,al,n,cl,(Below.heap_alloc _ _ _ (by omega)).trans hb,hd.keep (rA _ _ _)⟩,(Below.heap_alloc _ _ _ (by omega)).trans hb2,hx.alloc _,by simp;omega⟩
 case body =>
  rintro l' pre x a' W hl ⟨r,hr⟩ ⟨⟨k,al,n,cl,hb,hd⟩,hb2,hx,hz⟩ ⟨Bx,hBx,bX,rfl⟩ hlt
  have HC:=Lib.hid (fun W' (hx':Ext W W')=>pL x.d W' _ x.ok (IsD.mk' (x.hm.keep (hx.trans hx').keeps) (x.hl.keep (hx.trans hx').keeps)))
  have xc:∀o,W.cell? ⟨Bx,o,none⟩=_:=cG bX
  have x0:=xc 0;have x1:=xc 1;have x2:=xc 2;have x3:=xc 3;have x4:=xc 4;have x5:=xc 5
  have yc:∀o,W.cell? ⟨w.heap.size+1,o,none⟩=_:=cG hb
  have y0:=yc 0;have y1:=yc 1;have y2:=yc 2;have y3:=yc 3;have y4:=yc 4;have y5:=yc 5
  simp only [List.getElem?_toArray,List.getElem?_cons_zero,List.getElem?_cons_succ] at x0 x1 x2 x3 x4 x5 y0 y1 y2 y3 y4 y5
  clear xc yc
  have HD:=Lib.hid (And.intro hd hb);clear hd
  gi_wp2_with fail
  have hS:∀W9,Ext W W9→W9.cell? _=_∧W9.cell? _=_∧W9.cell? _=_∧W9.cell? _=_∧W9.cell? _=_∧W9.cell? _=_∧W9.cell? _=_∧W9.cell? _=_∧W9.cell? _=_∧W9.cell? _=_∧W9.cell? _=_∧W9.cell? _=_∧True:=fun W9 h=>⟨h.keeps _ _ x0,h.keeps _ _ x1,h.keeps _ _ x2,h.keeps _ _ x3,h.keeps _ _ x4,h.keeps _ _ x5,h.keeps _ _ y0,h.keeps _ _ y1,h.keeps _ _ y2,h.keeps _ _ y3,h.keeps _ _ y4,h.keeps _ _ y5,trivial⟩
  clear x0 x1 x2 x3 x4 x5 y0 y1 y2 y3 y4 y5
  refine wE 5 _ _ _ rfl rfl rfl (by kernel_rfl) (by kernel_rfl) (by kernel_rfl) (by kernel_rfl) (fun Q9 hQ9=>?_);simp only [List.take_succ_cons,List.take_zero,List.drop_succ_cons,List.drop_zero,List.map_cons,List.map_nil] at hQ9 ⊢
  repeat (first|((with_reducible apply Phi.skip);· (intro ρ wq hx hp hk;simp [KnowsAll,aF,bD,looks,Op.operands,Call.operands,Act.eval] at hk;simp [wanted,undef,hk]))|((with_reducible apply Phi.pure);· (intro ρ wq hx hp hk;(first|(simp [KnowsAll,aF,bD,looks,Op.operands,Call.operands,Act.eval] at hk;refine⟨?_,?_⟩;(· (simp [wanted,undef,hk]));(· (simp [go_sem,hk,hp.1,hp.2.1,hp.2.2,hS wq hx];rfl)))|(refine⟨?_,?_⟩;(· (simp [wanted]));(· (simp [go_sem,hp.1,hp.2.1,hp.2.2,hS wq hx];rfl)))))))
  refine Phi.make (fun v W'=>IsD (cM W' W.heap.size) x.d v) (fun v W1 W2 hx h=>h.keep (fU _ hx)) ?_ ?_;· (intro ρ wq hx hp hk;(first|(simp [KnowsAll,aF,bD,looks,Op.operands,Call.operands,Act.eval] at hk;refine⟨by simp [wanted,hk],OpGood.call (by simp [go_sem,hk,hp.1,hp.2.1,hp.2.2];exact⟨rfl,rfl⟩) ?_⟩)|(refine⟨by simp [wanted],OpGood.call (by simp [go_sem,hp.1,hp.2.1,hp.2.2];exact⟨rfl,rfl⟩) ?_⟩));exact (HC.out _ hx).mono (fun e w'' ⟨v,he,hx',hv⟩=>⟨v,he,hx',hv.keep (fN _ hx.le)⟩))
  repeat (first|((with_reducible apply Phi.skip);· (intro ρ wq hx hp hk;simp [KnowsAll,aF,bD,looks,Op.operands,Call.operands,Act.eval] at hk;simp [wanted,undef,hk]))|((with_reducible apply Phi.pure);· (intro ρ wq hx hp hk;(first|(simp [KnowsAll,aF,bD,looks,Op.operands,Call.operands,Act.eval] at hk;refine⟨?_,?_⟩;(· (simp [wanted,undef,hk]));(· (simp [go_sem,hk,hp.1,hp.2.1,hp.2.2,hS wq hx];rfl)))|(refine⟨?_,?_⟩;(· (simp [wanted]));(· (simp [go_sem,hp.1,hp.2.1,hp.2.2,hS wq hx];rfl)))))))
  refine Phi.make (fun v W'=>∃g,v=.slice (some ⟨g,0,none⟩) 2 2∧IsDs (cM W' (w.heap.size+2)) [x.d,aE (pre.map (fun y:Elem w=>y.d)).reverse] v) (fun v W1 W2 hx ⟨g,e,h⟩=>⟨g,e,h.keep (fU _ hx)⟩) ?_ ?_
  ·intro ρ wq hxq hp hk
   simp [KnowsAll,aF,bD,looks,Op.operands,Call.operands,Act.eval] at hk
   obtain⟨k1,k2⟩:=hk
   obtain⟨am1,cm1,al1,cl1,e12,-,-,-,-,-,-⟩:=k1.open
   rw [e12] at k1
   refine⟨by simp [wanted],?_⟩
   unfold OpGood
   simp [go_sem,e12,k2]
   exact⟨(Ext.refl _).alloc _,IsDs.new2 (k1.keep (fN _ (by omega))) (HD.out.1.keep (fU _ hxq)) (by have:=hxq.le;omega)⟩
  refine Phi.make (fun v W'=>∃g,v=.agg #[.int .i64 7,.int .i32 0,.bool false,.slice none 0 0,.string ⟨#[]⟩,.slice (some ⟨g,0,none⟩) 2 2]∧IsDs (cM W' (w.heap.size+2)) [x.d,aE (pre.map (fun y:Elem w=>y.d)).reverse] (.slice (some ⟨g,0,none⟩) 2 2)) (fun v W1 W2 hx ⟨g,e,h⟩=>⟨g,e,h.keep (fU _ hx)⟩) ?_ ?_
  ·intro ρ wq hxq hp hk
   simp [KnowsAll,aF,bD,looks,Op.operands,Call.operands,Act.eval] at hk
   obtain⟨⟨g,e14⟩,k1⟩:=hk
   rw [e14] at k1
   refine⟨by simp [wanted],?_⟩
   unfold OpGood
   simp [go_sem,e14,hp.1]
   exact⟨Ext.refl _,k1⟩
  refine Phi.done ?_;intro w2 hx2;simp only [Final,List.nil_append,List.cons_append,forall_eq]
  intro v12 hv12 v14 hv14 v15 hv15
  obtain⟨g,rfl,h15⟩:=hv15
  refine hQ9 _ _ ?_
  clear hQ9 Q9
  simp only [Act.put,List.setIfInBounds_toArray,List.set_cons_succ,List.set_cons_zero]
  have bw:=(hx2.block _ (by omega)).trans HD.out.2
  have hcw:=cG bw
  have hfw:=iQ bw
  gi_wp2
  refine⟨(tA hx2).trans (NX _ _ _ _ _ _ _ _),⟨mQ (Below.mono hx2 (by omega)) (by omega) _ _ _ _ _ _,fun hc=>(NY (sE (by omega) _ _ _ _ _ _) _).trans (hx2.keeps _ _ hc)⟩,⟨7,_,_,_,pW bw _ _ _ _ _ _,?_⟩,(sE (by omega) _ _ _ _ _ _).trans ((hx2.block _ (by omega)).trans hb2),mQ (hx.trans hx2) (by omega) _ _ _ _ _ _,Nat.le_trans (Nat.le_trans hz hx2.le) (Nat.le_of_eq (CP _ _ _ _ _ _ _ _).symm)⟩
  rw [List.map_append,List.reverse_append]
  exact (IsD.mk (IsMag.nil _) h15).keep ((fU _ (Ext.refl _)).trans (tV _ (by omega) _ _ _ _ _ _))
 case done =>
  rintro D ys W hD rfl ⟨⟨k,al,n,cl,hb,hd⟩,hb2,hx,hz⟩ hK
  have hcw:=cG hb
  have hcr:=cG hb2
  have hfr:=iQ hb2
  have HD:=Lib.hid hd;clear hd
  gi_wp2
  refine⟨by simp,.inl ⟨_,_,rfl,run_takeDeferred ((sE (by omega) _ _ _ _ _ _).trans hK),?_⟩⟩
  have hKs:=(sE (w:=W) (B:=w.heap.size) (k:=D) (by omega) (.int .i64 k) (.int .i32 0) (.bool false) (.slice none 0 0) (.string ⟨#[]⟩) (.slice al n cl)).trans hK
  have hg:=grownBy_putObj' (qU W w.heap.size (.int .i64 k) (.int .i32 0) (.bool false) (.slice none 0 0) (.string ⟨#[]⟩) (.slice al n cl)) D (.deferred none)
  have br:((qU W w.heap.size (.int .i64 k) (.int .i32 0) (.bool false) (.slice none 0 0) (.string ⟨#[]⟩) (.slice al n cl)).putObj D (.deferred none)).heap[w.heap.size]?=_:=(World.putObj_heap_other (k:=w.heap.size) (by omega)).trans (pW hb2 _ _ _ _ _ _)
  have hc0:=cG br
  have hv:IsD (cM ((qU W w.heap.size (.int .i64 k) (.int .i32 0) (.bool false) (.slice none 0 0) (.string ⟨#[]⟩) (.slice al n cl)).putObj D (.deferred none)) w.heap.size) (aE l) (.agg #[.int .i64 k,.int .i32 0,.bool false,.slice none 0 0,.string ⟨#[]⟩,.slice al n cl]):=by
   have:=HD.out
   rw [hxd,List.reverse_reverse] at this
   refine this.keep (((tV W (B:=w.heap.size) (C:=w.heap.size+1+1) (by omega) (.int .i64 k) (.int .i32 0) (.bool false) (.slice none 0 0) (.string ⟨#[]⟩) (.slice al n cl)).trans ?_).trans (fN _ (B:=w.heap.size+1+1) (B':=w.heap.size) (by omega)))
   exact zT hg (fun r e=>by cases e;exact⟨_,hKs,rfl⟩) _
  have hX:Ext w ((qU W w.heap.size (.int .i64 k) (.int .i32 0) (.bool false) (.slice none 0 0) (.string ⟨#[]⟩) (.slice al n cl)).putObj D (.deferred none)) :=
   Below.grown (mQ hx (Nat.le_refl _) _ _ _ _ _ _) hg (by rw [CP];exact hx.size) (fun k e=>by cases e;omega)
  refine⟨.agg #[.int .i64 k,.int .i32 0,.bool false,.slice none 0 0,.string ⟨#[]⟩,.slice al n cl],?_,_,rfl,hX,hv⟩
  change (results _ _ |>.run Tryz.prog ((qU W w.heap.size (.int .i64 k) (.int .i32 0) (.bool false) (.slice none 0 0) (.string ⟨#[]⟩) (.slice al n cl)).putObj D (.deferred none)))=_
  simp [results,Tryz.results125,go_sem,hc0]
  rfl
 case stop =>
  rintro D c pre W _ _ h _
  exact h.elim
end Go.Proofs.YtaeioidifpebdaaGreatDoor
