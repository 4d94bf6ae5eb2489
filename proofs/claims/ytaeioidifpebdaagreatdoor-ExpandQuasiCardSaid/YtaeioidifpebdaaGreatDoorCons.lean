
import Derived.Test.YtaeioidifpebdaaGreatDoorList
namespace Go.Proofs.YtaeioidifpebdaaGreatDoor
open Go.RowKit
set_option linter.unusedSimpArgs false
set_option linter.unusedVariables false

def HG (a b:D):D:=.mk 7 0 false [] ⟨#[]⟩ [a,b]

set_option maxRecDepth 100000 in
set_option maxHeartbeats 4000000 in
theorem QX (d f:D) (w:World) (v u:Value) (hd:d.Ok) (hf:f.Ok) (h:IsD w d v) (h':IsD w f u) :
  Calls Tryz.prog 95 #[v,u] w fun e w'=>∃v',e=.returned v'∧Ext w w'∧IsD (cM w' w.heap.size) (HG d f) v':=by
 have HD:=Lib.hid (fun W (hx:Ext w W)=>pL d W v hd (h.keep hx.keeps))
 have HF:=Lib.hid (fun W (hx:Ext w W)=>pL f W u hf (h'.keep hx.keeps))
 obtain⟨am,cm,al,cl,rfl,-,-,-,-,-,-⟩:=h.open
 obtain⟨bm,dm,bl,dl,rfl,-,-,-,-,-,-⟩:=h'.open
 clear h h'
 go_enter Tryz.func95,Tryz.ntmps95
 go_wp2_with fail
 have hx0:=(((Ext.refl w).alloc (.cells #[.int .i64 d.k,.int .i32 d.c,.bool d.neg,.slice am d.mag.length cm,.string d.t,.slice al d.l.length cl] 28)).alloc (.cells #[.int .i64 f.k,.int .i32 f.c,.bool f.neg,.slice bm f.mag.length dm,.string f.t,.slice bl f.l.length dl] 28)).alloc (.cells #[.int .i64 0,.int .i32 0,.bool false,.slice none 0 0,.string ⟨#[]⟩,.slice none 0 0] 28)
 have b0:(((w.alloc (.cells #[.int .i64 d.k,.int .i32 d.c,.bool d.neg,.slice am d.mag.length cm,.string d.t,.slice al d.l.length cl] 28)).alloc (.cells #[.int .i64 f.k,.int .i32 f.c,.bool f.neg,.slice bm f.mag.length dm,.string f.t,.slice bl f.l.length dl] 28)).alloc (.cells #[.int .i64 0,.int .i32 0,.bool false,.slice none 0 0,.string ⟨#[]⟩,.slice none 0 0] 28)).heap[w.heap.size]?=some (.cells #[.int .i64 d.k,.int .i32 d.c,.bool d.neg,.slice am d.mag.length cm,.string d.t,.slice al d.l.length cl] 28):=by rw [Below.heap_alloc _ _ _ (by simp;omega)];exact rY _ _ _
 have b1:(((w.alloc (.cells #[.int .i64 d.k,.int .i32 d.c,.bool d.neg,.slice am d.mag.length cm,.string d.t,.slice al d.l.length cl] 28)).alloc (.cells #[.int .i64 f.k,.int .i32 f.c,.bool f.neg,.slice bm f.mag.length dm,.string f.t,.slice bl f.l.length dl] 28)).alloc (.cells #[.int .i64 0,.int .i32 0,.bool false,.slice none 0 0,.string ⟨#[]⟩,.slice none 0 0] 28)).heap[w.heap.size+1]?=some (.cells #[.int .i64 f.k,.int .i32 f.c,.bool f.neg,.slice bm f.mag.length dm,.string f.t,.slice bl f.l.length dl] 28):=by rw [Below.heap_alloc _ _ _ (by simp)];exact rZ _ _ _
 have b2:(((w.alloc (.cells #[.int .i64 d.k,.int .i32 d.c,.bool d.neg,.slice am d.mag.length cm,.string d.t,.slice al d.l.length cl] 28)).alloc (.cells #[.int .i64 f.k,.int .i32 f.c,.bool f.neg,.slice bm f.mag.length dm,.string f.t,.slice bl f.l.length dl] 28)).alloc (.cells #[.int .i64 0,.int .i32 0,.bool false,.slice none 0 0,.string ⟨#[]⟩,.slice none 0 0] 28)).heap[w.heap.size+1+1]?=some (.cells #[.int .i64 0,.int .i32 0,.bool false,.slice none 0 0,.string ⟨#[]⟩,.slice none 0 0] 28):=by
  have:=gK ((w.alloc (.cells #[.int .i64 d.k,.int .i32 d.c,.bool d.neg,.slice am d.mag.length cm,.string d.t,.slice al d.l.length cl] 28)).alloc (.cells #[.int .i64 f.k,.int .i32 f.c,.bool f.neg,.slice bm f.mag.length dm,.string f.t,.slice bl f.l.length dl] 28)) (.cells #[.int .i64 0,.int .i32 0,.bool false,.slice none 0 0,.string ⟨#[]⟩,.slice none 0 0] 28)
  simpa using this
 have hsz:(((w.alloc (.cells #[.int .i64 d.k,.int .i32 d.c,.bool d.neg,.slice am d.mag.length cm,.string d.t,.slice al d.l.length cl] 28)).alloc (.cells #[.int .i64 f.k,.int .i32 f.c,.bool f.neg,.slice bm f.mag.length dm,.string f.t,.slice bl f.l.length dl] 28)).alloc (.cells #[.int .i64 0,.int .i32 0,.bool false,.slice none 0 0,.string ⟨#[]⟩,.slice none 0 0] 28)).heap.size=w.heap.size+3:=by simp
 generalize ((w.alloc (.cells #[.int .i64 d.k,.int .i32 d.c,.bool d.neg,.slice am d.mag.length cm,.string d.t,.slice al d.l.length cl] 28)).alloc (.cells #[.int .i64 f.k,.int .i32 f.c,.bool f.neg,.slice bm f.mag.length dm,.string f.t,.slice bl f.l.length dl] 28)).alloc (.cells #[.int .i64 0,.int .i32 0,.bool false,.slice none 0 0,.string ⟨#[]⟩,.slice none 0 0] 28)=W at *
 have xc:∀o,W.cell? ⟨w.heap.size,o,none⟩=_:=cG b0
 have x0:=xc 0;have x1:=xc 1;have x2:=xc 2;have x3:=xc 3;have x4:=xc 4;have x5:=xc 5
 have yc:∀o,W.cell? ⟨w.heap.size+1,o,none⟩=_:=cG b1
 have y0:=yc 0;have y1:=yc 1;have y2:=yc 2;have y3:=yc 3;have y4:=yc 4;have y5:=yc 5
 simp only [List.getElem?_toArray,List.getElem?_cons_zero,List.getElem?_cons_succ] at x0 x1 x2 x3 x4 x5 y0 y1 y2 y3 y4 y5
 clear xc yc
 have hS:∀W9,Ext W W9→W9.cell? _=_∧W9.cell? _=_∧W9.cell? _=_∧W9.cell? _=_∧W9.cell? _=_∧W9.cell? _=_∧W9.cell? _=_∧W9.cell? _=_∧W9.cell? _=_∧W9.cell? _=_∧W9.cell? _=_∧W9.cell? _=_∧True:=fun W9 h=>⟨h.keeps _ _ x0,h.keeps _ _ x1,h.keeps _ _ x2,h.keeps _ _ x3,h.keeps _ _ x4,h.keeps _ _ x5,h.keeps _ _ y0,h.keeps _ _ y1,h.keeps _ _ y2,h.keeps _ _ y3,h.keeps _ _ y4,h.keeps _ _ y5,trivial⟩
 clear x0 x1 x2 x3 x4 x5 y0 y1 y2 y3 y4 y5
 refine aX 6 _ _ _ rfl rfl rfl (by kernel_rfl) (by kernel_rfl) (by kernel_rfl) (fun Q9 hQ9=>?_);simp only [List.take_succ_cons,List.take_zero,List.drop_succ_cons,List.drop_zero,List.map_cons,List.map_nil] at hQ9 ⊢
 repeat (first|((with_reducible apply Phi.skip);· (intro ρ wq hx hp hk;simp [KnowsAll,aF,bD,looks,Op.operands,Call.operands,Act.eval] at hk;simp [wanted,undef,hk]))|((with_reducible apply Phi.pure);· (intro ρ wq hx hp hk;(first|(simp [KnowsAll,aF,bD,looks,Op.operands,Call.operands,Act.eval] at hk;refine⟨?_,?_⟩;(· (simp [wanted,undef,hk]));(· (simp [go_sem,hk,hp.1,hp.2.1,hp.2.2,hS wq hx];rfl)))|(refine⟨?_,?_⟩;(· (simp [wanted]));(· (simp [go_sem,hp.1,hp.2.1,hp.2.2,hS wq hx];rfl)))))))
 refine Phi.make (fun v W'=>IsD (cM W' W.heap.size) d v) (fun v W1 W2 hx h=>h.keep (fU _ hx)) ?_ ?_;· (intro ρ wq hx hp hk;(first|(simp [KnowsAll,aF,bD,looks,Op.operands,Call.operands,Act.eval] at hk;refine⟨by simp [wanted,hk],OpGood.call (by simp [go_sem,hk,hp.1,hp.2.1,hp.2.2];exact⟨rfl,rfl⟩) ?_⟩)|(refine⟨by simp [wanted],OpGood.call (by simp [go_sem,hp.1,hp.2.1,hp.2.2];exact⟨rfl,rfl⟩) ?_⟩));exact (HD.out _ (hx0.trans hx)).mono (fun e w'' ⟨v,he,hx',hv⟩=>⟨v,he,hx',hv.keep (fN _ hx.le)⟩))
 repeat (first|((with_reducible apply Phi.skip);· (intro ρ wq hx hp hk;simp [KnowsAll,aF,bD,looks,Op.operands,Call.operands,Act.eval] at hk;simp [wanted,undef,hk]))|((with_reducible apply Phi.pure);· (intro ρ wq hx hp hk;(first|(simp [KnowsAll,aF,bD,looks,Op.operands,Call.operands,Act.eval] at hk;refine⟨?_,?_⟩;(· (simp [wanted,undef,hk]));(· (simp [go_sem,hk,hp.1,hp.2.1,hp.2.2,hS wq hx];rfl)))|(refine⟨?_,?_⟩;(· (simp [wanted]));(· (simp [go_sem,hp.1,hp.2.1,hp.2.2,hS wq hx];rfl)))))))
 refine Phi.make (fun v W'=>IsD (cM W' W.heap.size) f v) (fun v W1 W2 hx h=>h.keep (fU _ hx)) ?_ ?_;· (intro ρ wq hx hp hk;(first|(simp [KnowsAll,aF,bD,looks,Op.operands,Call.operands,Act.eval] at hk;refine⟨by simp [wanted,hk],OpGood.call (by simp [go_sem,hk,hp.1,hp.2.1,hp.2.2];exact⟨rfl,rfl⟩) ?_⟩)|(refine⟨by simp [wanted],OpGood.call (by simp [go_sem,hp.1,hp.2.1,hp.2.2];exact⟨rfl,rfl⟩) ?_⟩));exact (HF.out _ (hx0.trans hx)).mono (fun e w'' ⟨v,he,hx',hv⟩=>⟨v,he,hx',hv.keep (fN _ hx.le)⟩))
 refine Phi.make (fun v W'=>∃g,v=.slice (some ⟨g,0,none⟩) 2 2∧IsDs (cM W' (w.heap.size+3)) [d,f] v) (fun v W1 W2 hx ⟨g,e,h⟩=>⟨g,e,h.keep (fU _ hx)⟩) ?_ ?_
 ·intro ρ wq hxq hp hk
  simp [KnowsAll,aF,bD,looks,Op.operands,Call.operands,Act.eval] at hk
  obtain⟨k1,k2⟩:=hk
  obtain⟨am1,cm1,al1,cl1,e12,-,-,-,-,-,-⟩:=k1.open
  obtain⟨am2,cm2,al2,cl2,e22,-,-,-,-,-,-⟩:=k2.open
  rw [e12] at k1
  rw [e22] at k2
  refine⟨by simp [wanted],?_⟩
  unfold OpGood
  simp [go_sem,e12,e22]
  rw [hsz] at k1 k2
  exact⟨(Ext.refl _).alloc _,IsDs.new2 k1 k2 (by have:=hxq.le;omega)⟩
 refine Phi.make (fun v W'=>∃g,v=.agg #[.int .i64 7,.int .i32 0,.bool false,.slice none 0 0,.string ⟨#[]⟩,.slice (some ⟨g,0,none⟩) 2 2]∧IsDs (cM W' (w.heap.size+3)) [d,f] (.slice (some ⟨g,0,none⟩) 2 2)) (fun v W1 W2 hx ⟨g,e,h⟩=>⟨g,e,h.keep (fU _ hx)⟩) ?_ ?_
 ·intro ρ wq hxq hp hk
  simp [KnowsAll,aF,bD,looks,Op.operands,Call.operands,Act.eval] at hk
  obtain⟨⟨g,e14⟩,k1⟩:=hk
  rw [e14] at k1
  refine⟨by simp [wanted],?_⟩
  unfold OpGood
  simp [go_sem,e14,hp.1]
  exact⟨Ext.refl _,k1⟩
 refine Phi.done ?_;intro w2 hx2;simp only [Final,List.nil_append,List.cons_append,forall_eq]
 intro v6 hv6 v8 hv8 v9 hv9 v10 hv10
 obtain⟨g,rfl,h10⟩:=hv10
 ((refine hQ9 _ _ ?_);(try refine wpList_nil ?_);(clear hQ9 Q9));simp only [Act.put,List.setIfInBounds_toArray,List.set_cons_succ,List.set_cons_zero]
 have bw:=(hx2.block _ (by omega)).trans b2
 have hcw:=cG bw
 have hfw:=iQ bw
 have H10:=Lib.hid (And.intro h10 bw)
 clear hv6 hv8 hv9 h10
 go_wp2
 obtain⟨h10,bw⟩:=H10.out
 have br:=pW bw (.int .i64 7) (.int .i32 0) (.bool false) (.slice none 0 0) (.string ⟨#[]⟩) (.slice (some ⟨g,0,none⟩) 2 2)
 have hc0:=cG br
 have hv:IsD (cM (qU w2 (w.heap.size+1+1) (.int .i64 7) (.int .i32 0) (.bool false) (.slice none 0 0) (.string ⟨#[]⟩) (.slice (some ⟨g,0,none⟩) 2 2)) w.heap.size) (HG d f) (.agg #[.int .i64 7,.int .i32 0,.bool false,.slice none 0 0,.string ⟨#[]⟩,.slice (some ⟨g,0,none⟩) 2 2]) :=
  IsD.mk (IsMag.nil _) (h10.keep ((tV w2 (B:=w.heap.size+1+1) (C:=w.heap.size+3) (by omega) (.int .i64 7) (.int .i32 0) (.bool false) (.slice none 0 0) (.string ⟨#[]⟩) (.slice (some ⟨g,0,none⟩) 2 2)).trans (fN _ (B:=w.heap.size+3) (B':=w.heap.size) (by omega))))
 refine bodyPost_ret (v:=.agg #[.int .i64 7,.int .i32 0,.bool false,.slice none 0 0,.string ⟨#[]⟩,.slice (some ⟨g,0,none⟩) 2 2]) ?_ rfl ⟨_,rfl,mQ (hx0.trans hx2) (by omega) _ _ _ _ _ _,hv⟩
 change (results _ _ |>.run Tryz.prog (qU w2 (w.heap.size+1+1) (.int .i64 7) (.int .i32 0) (.bool false) (.slice none 0 0) (.string ⟨#[]⟩) (.slice (some ⟨g,0,none⟩) 2 2)))=_
 simp [results,Tryz.results95,go_sem,hc0]
 try rfl
end Go.Proofs.YtaeioidifpebdaaGreatDoor
