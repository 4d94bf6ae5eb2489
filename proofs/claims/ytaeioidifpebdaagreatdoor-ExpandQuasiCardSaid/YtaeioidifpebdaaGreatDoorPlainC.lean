
import Derived.Test.YtaeioidifpebdaaGreatDoorPlainB
namespace Go.Proofs.YtaeioidifpebdaaGreatDoor
open Go.RowKit
set_option linter.unusedSimpArgs false
set_option linter.unusedVariables false

set_option maxHeartbeats 4000000 in
theorem EX (c:Int) (neg:Bool) (mag:List Int) (t:ByteArray) (l:List D) (w:World) (v:Value) (h:IsD w (.mk 0 c neg mag t l) v) (hb:fF (.mk 0 c neg mag t l)) :
  Calls Tryz.prog 53 #[v] w fun e w'=>e=.returned (.bool (cA (.mk 0 c neg mag t l)))∧Ext w w':=by
 rw [iH 0 (by omega) hb]
 have HFL:=Lib.hid (fun W (hx:Ext w W) v' (hv:IsD W (cD (.mk 0 c neg mag t l)) v')=>gM (.mk 0 c neg mag t l) (cD (.mk 0 c neg mag t l)) W v v' (h.keep hx.keeps) hv)
 have HOWN:=Lib.hid (fun W (hx:Ext w W)=>jK 0 c neg mag t l W v (h.keep hx.keeps) (by omega) (by omega))
 obtain⟨am,cm,al,cl,rfl,hm,hl,-,-,-,-⟩:=h.open'
 have hx0:=(Ext.refl w).alloc (.cells #[.int .i64 0,.int .i32 c,.bool neg,.slice am mag.length cm,.string t,.slice al l.length cl] 28)
 have BX:=Lib.hid (fV w (.int .i64 0) (.int .i32 c) (.bool neg) (.slice am mag.length cm) (.string t) (.slice al l.length cl) 28)
 have hfl:fG (.mk 0 c neg mag t l) (cD (.mk 0 c neg mag t l))=true:=fI ((gX _).2 hb)
 clear h hb
 go_enter Tryz.func53,Tryz.ntmps53
 go_wp2_with fail
 obtain⟨c0,c1,c2,c3,c4,c5⟩:=BX.out
 have hS:∀W9,Ext _ W9→W9.cell? _=_∧W9.cell? _=_∧W9.cell? _=_∧W9.cell? _=_∧W9.cell? _=_∧W9.cell? _=_∧True:=fun W9 h=>⟨h.keeps _ _ c0,h.keeps _ _ c1,h.keeps _ _ c2,h.keeps _ _ c3,h.keeps _ _ c4,h.keeps _ _ c5,trivial⟩
 refine aX 15 _ _ _ rfl rfl rfl (by kernel_rfl) (by kernel_rfl) (by kernel_rfl) (fun Q9 hQ9=>?_);simp only [List.take_succ_cons,List.take_zero,List.drop_succ_cons,List.drop_zero,List.map_cons,List.map_nil] at hQ9 ⊢
 repeat (first|((with_reducible apply Phi.skip);· (intro ρ wq hx hp hk;simp [KnowsAll,aF,bD,looks,Op.operands,Call.operands,Act.eval] at hk;simp [wanted,undef,hk]))|((with_reducible apply Phi.pure);· (intro ρ wq hx hp hk;(first|(simp [KnowsAll,aF,bD,looks,Op.operands,Call.operands,Act.eval] at hk;refine⟨?_,?_⟩;(· (simp [wanted,undef,hk]));(· (simp [go_sem,hk,hp.1,hp.2.1,hp.2.2,hS wq hx];rfl)))|(refine⟨?_,?_⟩;(· (simp [wanted]));(· (simp [go_sem,hp.1,hp.2.1,hp.2.2,hS wq hx];rfl)))))))
 refine Phi.make (fun v W=>IsD W (cD (.mk 0 c neg mag t l)) v) (fun v W W' hx h=>h.keep hx.keeps) ?_ ?_;· (intro ρ wq hx hp hk;(first|(simp [KnowsAll,aF,bD,looks,Op.operands,Call.operands,Act.eval] at hk;refine⟨by simp [wanted,hk],OpGood.call (by simp [go_sem,hk,hp.1,hp.2.1,hp.2.2];exact⟨rfl,rfl⟩) ?_⟩)|(refine⟨by simp [wanted],OpGood.call (by simp [go_sem,hp.1,hp.2.1,hp.2.2];exact⟨rfl,rfl⟩) ?_⟩));exact HOWN.out _ (hx0.trans hx))
 refine Phi.make (fun v _=>v=.bool (fG (.mk 0 c neg mag t l) (cD (.mk 0 c neg mag t l)))) (Stab.const _) ?_ ?_;· (intro ρ wq hx hp hk;(first|(simp [KnowsAll,aF,bD,looks,Op.operands,Call.operands,Act.eval] at hk;refine⟨by simp [wanted,hk],OpGood.call (by simp [go_sem,hk,hp.1,hp.2.1,hp.2.2];exact⟨rfl,rfl⟩) ?_⟩)|(refine⟨by simp [wanted],OpGood.call (by simp [go_sem,hp.1,hp.2.1,hp.2.2];exact⟨rfl,rfl⟩) ?_⟩));exact fJ (HFL.out _ (hx0.trans hx) _ hk.2.1))
 repeat (first|((with_reducible apply Phi.skip);· (intro ρ wq hx hp hk;simp [KnowsAll,aF,bD,looks,Op.operands,Call.operands,Act.eval] at hk;simp [wanted,undef,hk,hfl]))|((with_reducible apply Phi.pure);· (intro ρ wq hx hp hk;(first|(simp [KnowsAll,aF,bD,looks,Op.operands,Call.operands,Act.eval] at hk;refine⟨?_,?_⟩;(· (simp [wanted,undef,hk,hfl]));(· (simp [go_sem,hk,hp.1,hp.2.1,hp.2.2,hS wq hx,hfl];rfl)))|(refine⟨?_,?_⟩;(· (simp [wanted]));(· (simp [go_sem,hp.1,hp.2.1,hp.2.2,hS wq hx,hfl];rfl)))))))
 refine Phi.done ?_;intro w2 hx2;simp only [Final,List.nil_append,List.cons_append,forall_eq]
 intro v14 hv14
 ((refine hQ9 _ _ ?_);(try refine wpList_nil ?_);(clear hQ9 Q9));simp only [Act.put,List.setIfInBounds_toArray,List.set_cons_succ,List.set_cons_zero]
 obtain⟨c0,c1,c2,c3,c4,c5,-⟩:=hS w2 hx2
 clear hS BX HOWN HFL hfl hv14
 go_wp2_with fail
 go_ret
 exact⟨rfl,hx0.trans hx2⟩
set_option maxHeartbeats 4000000 in
theorem EY (c:Int) (neg:Bool) (mag:List Int) (t:ByteArray) (l:List D) (w:World) (v:Value) (h:IsD w (.mk 1 c neg mag t l) v) (hb:fF (.mk 1 c neg mag t l)) :
  Calls Tryz.prog 53 #[v] w fun e w'=>e=.returned (.bool (cA (.mk 1 c neg mag t l)))∧Ext w w':=by
 rw [iH 1 (by omega) hb]
 have HFL:=Lib.hid (fun W (hx:Ext w W) v' (hv:IsD W (cD (.mk 1 c neg mag t l)) v')=>gM (.mk 1 c neg mag t l) (cD (.mk 1 c neg mag t l)) W v v' (h.keep hx.keeps) hv)
 have HOWN:=Lib.hid (fun W (hx:Ext w W)=>jK 1 c neg mag t l W v (h.keep hx.keeps) (by omega) (by omega))
 obtain⟨am,cm,al,cl,rfl,hm,hl,-,-,-,-⟩:=h.open'
 have hx0:=(Ext.refl w).alloc (.cells #[.int .i64 1,.int .i32 c,.bool neg,.slice am mag.length cm,.string t,.slice al l.length cl] 28)
 have BX:=Lib.hid (fV w (.int .i64 1) (.int .i32 c) (.bool neg) (.slice am mag.length cm) (.string t) (.slice al l.length cl) 28)
 have hfl:fG (.mk 1 c neg mag t l) (cD (.mk 1 c neg mag t l))=true:=fI ((gX _).2 hb)
 clear h hb
 go_enter Tryz.func53,Tryz.ntmps53
 go_wp2_with fail
 obtain⟨c0,c1,c2,c3,c4,c5⟩:=BX.out
 have hS:∀W9,Ext _ W9→W9.cell? _=_∧W9.cell? _=_∧W9.cell? _=_∧W9.cell? _=_∧W9.cell? _=_∧W9.cell? _=_∧True:=fun W9 h=>⟨h.keeps _ _ c0,h.keeps _ _ c1,h.keeps _ _ c2,h.keeps _ _ c3,h.keeps _ _ c4,h.keeps _ _ c5,trivial⟩
 refine aX 15 _ _ _ rfl rfl rfl (by kernel_rfl) (by kernel_rfl) (by kernel_rfl) (fun Q9 hQ9=>?_);simp only [List.take_succ_cons,List.take_zero,List.drop_succ_cons,List.drop_zero,List.map_cons,List.map_nil] at hQ9 ⊢
 repeat (first|((with_reducible apply Phi.skip);· (intro ρ wq hx hp hk;simp [KnowsAll,aF,bD,looks,Op.operands,Call.operands,Act.eval] at hk;simp [wanted,undef,hk]))|((with_reducible apply Phi.pure);· (intro ρ wq hx hp hk;(first|(simp [KnowsAll,aF,bD,looks,Op.operands,Call.operands,Act.eval] at hk;refine⟨?_,?_⟩;(· (simp [wanted,undef,hk]));(· (simp [go_sem,hk,hp.1,hp.2.1,hp.2.2,hS wq hx];rfl)))|(refine⟨?_,?_⟩;(· (simp [wanted]));(· (simp [go_sem,hp.1,hp.2.1,hp.2.2,hS wq hx];rfl)))))))
 refine Phi.make (fun v W=>IsD W (cD (.mk 1 c neg mag t l)) v) (fun v W W' hx h=>h.keep hx.keeps) ?_ ?_;· (intro ρ wq hx hp hk;(first|(simp [KnowsAll,aF,bD,looks,Op.operands,Call.operands,Act.eval] at hk;refine⟨by simp [wanted,hk],OpGood.call (by simp [go_sem,hk,hp.1,hp.2.1,hp.2.2];exact⟨rfl,rfl⟩) ?_⟩)|(refine⟨by simp [wanted],OpGood.call (by simp [go_sem,hp.1,hp.2.1,hp.2.2];exact⟨rfl,rfl⟩) ?_⟩));exact HOWN.out _ (hx0.trans hx))
 refine Phi.make (fun v _=>v=.bool (fG (.mk 1 c neg mag t l) (cD (.mk 1 c neg mag t l)))) (Stab.const _) ?_ ?_;· (intro ρ wq hx hp hk;(first|(simp [KnowsAll,aF,bD,looks,Op.operands,Call.operands,Act.eval] at hk;refine⟨by simp [wanted,hk],OpGood.call (by simp [go_sem,hk,hp.1,hp.2.1,hp.2.2];exact⟨rfl,rfl⟩) ?_⟩)|(refine⟨by simp [wanted],OpGood.call (by simp [go_sem,hp.1,hp.2.1,hp.2.2];exact⟨rfl,rfl⟩) ?_⟩));exact fJ (HFL.out _ (hx0.trans hx) _ hk.2.1))
 repeat (first|((with_reducible apply Phi.skip);· (intro ρ wq hx hp hk;simp [KnowsAll,aF,bD,looks,Op.operands,Call.operands,Act.eval] at hk;simp [wanted,undef,hk,hfl]))|((with_reducible apply Phi.pure);· (intro ρ wq hx hp hk;(first|(simp [KnowsAll,aF,bD,looks,Op.operands,Call.operands,Act.eval] at hk;refine⟨?_,?_⟩;(· (simp [wanted,undef,hk,hfl]));(· (simp [go_sem,hk,hp.1,hp.2.1,hp.2.2,hS wq hx,hfl];rfl)))|(refine⟨?_,?_⟩;(· (simp [wanted]));(· (simp [go_sem,hp.1,hp.2.1,hp.2.2,hS wq hx,hfl];rfl)))))))
 refine Phi.done ?_;intro w2 hx2;simp only [Final,List.nil_append,List.cons_append,forall_eq]
 intro v14 hv14
 ((refine hQ9 _ _ ?_);(try refine wpList_nil ?_);(clear hQ9 Q9));simp only [Act.put,List.setIfInBounds_toArray,List.set_cons_succ,List.set_cons_zero]
 obtain⟨c0,c1,c2,c3,c4,c5,-⟩:=hS w2 hx2
 clear hS BX HOWN HFL hfl hv14
 go_wp2_with fail
 go_ret
 exact⟨rfl,hx0.trans hx2⟩
set_option maxHeartbeats 4000000 in
theorem EZ (c:Int) (neg:Bool) (mag:List Int) (t:ByteArray) (l:List D) (w:World) (v:Value) (h:IsD w (.mk 2 c neg mag t l) v) (hb:fF (.mk 2 c neg mag t l)) :
  Calls Tryz.prog 53 #[v] w fun e w'=>e=.returned (.bool (cA (.mk 2 c neg mag t l)))∧Ext w w':=by
 rw [iH 2 (by omega) hb]
 have HFL:=Lib.hid (fun W (hx:Ext w W) v' (hv:IsD W (cD (.mk 2 c neg mag t l)) v')=>gM (.mk 2 c neg mag t l) (cD (.mk 2 c neg mag t l)) W v v' (h.keep hx.keeps) hv)
 have HOWN:=Lib.hid (fun W (hx:Ext w W)=>jK 2 c neg mag t l W v (h.keep hx.keeps) (by omega) (by omega))
 obtain⟨am,cm,al,cl,rfl,hm,hl,-,-,-,-⟩:=h.open'
 have hx0:=(Ext.refl w).alloc (.cells #[.int .i64 2,.int .i32 c,.bool neg,.slice am mag.length cm,.string t,.slice al l.length cl] 28)
 have BX:=Lib.hid (fV w (.int .i64 2) (.int .i32 c) (.bool neg) (.slice am mag.length cm) (.string t) (.slice al l.length cl) 28)
 have hfl:fG (.mk 2 c neg mag t l) (cD (.mk 2 c neg mag t l))=true:=fI ((gX _).2 hb)
 clear h hb
 go_enter Tryz.func53,Tryz.ntmps53
 go_wp2_with fail
 obtain⟨c0,c1,c2,c3,c4,c5⟩:=BX.out
 have hS:∀W9,Ext _ W9→W9.cell? _=_∧W9.cell? _=_∧W9.cell? _=_∧W9.cell? _=_∧W9.cell? _=_∧W9.cell? _=_∧True:=fun W9 h=>⟨h.keeps _ _ c0,h.keeps _ _ c1,h.keeps _ _ c2,h.keeps _ _ c3,h.keeps _ _ c4,h.keeps _ _ c5,trivial⟩
 refine aX 15 _ _ _ rfl rfl rfl (by kernel_rfl) (by kernel_rfl) (by kernel_rfl) (fun Q9 hQ9=>?_);simp only [List.take_succ_cons,List.take_zero,List.drop_succ_cons,List.drop_zero,List.map_cons,List.map_nil] at hQ9 ⊢
 repeat (first|((with_reducible apply Phi.skip);· (intro ρ wq hx hp hk;simp [KnowsAll,aF,bD,looks,Op.operands,Call.operands,Act.eval] at hk;simp [wanted,undef,hk]))|((with_reducible apply Phi.pure);· (intro ρ wq hx hp hk;(first|(simp [KnowsAll,aF,bD,looks,Op.operands,Call.operands,Act.eval] at hk;refine⟨?_,?_⟩;(· (simp [wanted,undef,hk]));(· (simp [go_sem,hk,hp.1,hp.2.1,hp.2.2,hS wq hx];rfl)))|(refine⟨?_,?_⟩;(· (simp [wanted]));(· (simp [go_sem,hp.1,hp.2.1,hp.2.2,hS wq hx];rfl)))))))
 refine Phi.make (fun v W=>IsD W (cD (.mk 2 c neg mag t l)) v) (fun v W W' hx h=>h.keep hx.keeps) ?_ ?_;· (intro ρ wq hx hp hk;(first|(simp [KnowsAll,aF,bD,looks,Op.operands,Call.operands,Act.eval] at hk;refine⟨by simp [wanted,hk],OpGood.call (by simp [go_sem,hk,hp.1,hp.2.1,hp.2.2];exact⟨rfl,rfl⟩) ?_⟩)|(refine⟨by simp [wanted],OpGood.call (by simp [go_sem,hp.1,hp.2.1,hp.2.2];exact⟨rfl,rfl⟩) ?_⟩));exact HOWN.out _ (hx0.trans hx))
 refine Phi.make (fun v _=>v=.bool (fG (.mk 2 c neg mag t l) (cD (.mk 2 c neg mag t l)))) (Stab.const _) ?_ ?_;· (intro ρ wq hx hp hk;(first|(simp [KnowsAll,aF,bD,looks,Op.operands,Call.operands,Act.eval] at hk;refine⟨by simp [wanted,hk],OpGood.call (by simp [go_sem,hk,hp.1,hp.2.1,hp.2.2];exact⟨rfl,rfl⟩) ?_⟩)|(refine⟨by simp [wanted],OpGood.call (by simp [go_sem,hp.1,hp.2.1,hp.2.2];exact⟨rfl,rfl⟩) ?_⟩));exact fJ (HFL.out _ (hx0.trans hx) _ hk.2.1))
 repeat (first|((with_reducible apply Phi.skip);· (intro ρ wq hx hp hk;simp [KnowsAll,aF,bD,looks,Op.operands,Call.operands,Act.eval] at hk;simp [wanted,undef,hk,hfl]))|((with_reducible apply Phi.pure);· (intro ρ wq hx hp hk;(first|(simp [KnowsAll,aF,bD,looks,Op.operands,Call.operands,Act.eval] at hk;refine⟨?_,?_⟩;(· (simp [wanted,undef,hk,hfl]));(· (simp [go_sem,hk,hp.1,hp.2.1,hp.2.2,hS wq hx,hfl];rfl)))|(refine⟨?_,?_⟩;(· (simp [wanted]));(· (simp [go_sem,hp.1,hp.2.1,hp.2.2,hS wq hx,hfl];rfl)))))))
 refine Phi.done ?_;intro w2 hx2;simp only [Final,List.nil_append,List.cons_append,forall_eq]
 intro v14 hv14
 ((refine hQ9 _ _ ?_);(try refine wpList_nil ?_);(clear hQ9 Q9));simp only [Act.put,List.setIfInBounds_toArray,List.set_cons_succ,List.set_cons_zero]
 obtain⟨c0,c1,c2,c3,c4,c5,-⟩:=hS w2 hx2
 clear hS BX HOWN HFL hfl hv14
 go_wp2_with fail
 go_ret
 exact⟨rfl,hx0.trans hx2⟩
set_option maxHeartbeats 4000000 in
theorem FA (c:Int) (neg:Bool) (mag:List Int) (t:ByteArray) (l:List D) (w:World) (v:Value) (h:IsD w (.mk 9 c neg mag t l) v) (hb:fF (.mk 9 c neg mag t l)) :
  Calls Tryz.prog 53 #[v] w fun e w'=>e=.returned (.bool (cA (.mk 9 c neg mag t l)))∧Ext w w':=by
 rw [iH 9 (by omega) hb]
 have HFL:=Lib.hid (fun W (hx:Ext w W) v' (hv:IsD W (cD (.mk 9 c neg mag t l)) v')=>gM (.mk 9 c neg mag t l) (cD (.mk 9 c neg mag t l)) W v v' (h.keep hx.keeps) hv)
 have HOWN:=Lib.hid (fun W (hx:Ext w W)=>jK 9 c neg mag t l W v (h.keep hx.keeps) (by omega) (by omega))
 obtain⟨am,cm,al,cl,rfl,hm,hl,-,-,-,-⟩:=h.open'
 have hx0:=(Ext.refl w).alloc (.cells #[.int .i64 9,.int .i32 c,.bool neg,.slice am mag.length cm,.string t,.slice al l.length cl] 28)
 have BX:=Lib.hid (fV w (.int .i64 9) (.int .i32 c) (.bool neg) (.slice am mag.length cm) (.string t) (.slice al l.length cl) 28)
 have hfl:fG (.mk 9 c neg mag t l) (cD (.mk 9 c neg mag t l))=true:=fI ((gX _).2 hb)
 clear h hb
 go_enter Tryz.func53,Tryz.ntmps53
 go_wp2_with fail
 obtain⟨c0,c1,c2,c3,c4,c5⟩:=BX.out
 have hS:∀W9,Ext _ W9→W9.cell? _=_∧W9.cell? _=_∧W9.cell? _=_∧W9.cell? _=_∧W9.cell? _=_∧W9.cell? _=_∧True:=fun W9 h=>⟨h.keeps _ _ c0,h.keeps _ _ c1,h.keeps _ _ c2,h.keeps _ _ c3,h.keeps _ _ c4,h.keeps _ _ c5,trivial⟩
 refine aX 15 _ _ _ rfl rfl rfl (by kernel_rfl) (by kernel_rfl) (by kernel_rfl) (fun Q9 hQ9=>?_);simp only [List.take_succ_cons,List.take_zero,List.drop_succ_cons,List.drop_zero,List.map_cons,List.map_nil] at hQ9 ⊢
 repeat (first|((with_reducible apply Phi.skip);· (intro ρ wq hx hp hk;simp [KnowsAll,aF,bD,looks,Op.operands,Call.operands,Act.eval] at hk;simp [wanted,undef,hk]))|((with_reducible apply Phi.pure);· (intro ρ wq hx hp hk;(first|(simp [KnowsAll,aF,bD,looks,Op.operands,Call.operands,Act.eval] at hk;refine⟨?_,?_⟩;(· (simp [wanted,undef,hk]));(· (simp [go_sem,hk,hp.1,hp.2.1,hp.2.2,hS wq hx];rfl)))|(refine⟨?_,?_⟩;(· (simp [wanted]));(· (simp [go_sem,hp.1,hp.2.1,hp.2.2,hS wq hx];rfl)))))))
 refine Phi.make (fun v W=>IsD W (cD (.mk 9 c neg mag t l)) v) (fun v W W' hx h=>h.keep hx.keeps) ?_ ?_;· (intro ρ wq hx hp hk;(first|(simp [KnowsAll,aF,bD,looks,Op.operands,Call.operands,Act.eval] at hk;refine⟨by simp [wanted,hk],OpGood.call (by simp [go_sem,hk,hp.1,hp.2.1,hp.2.2];exact⟨rfl,rfl⟩) ?_⟩)|(refine⟨by simp [wanted],OpGood.call (by simp [go_sem,hp.1,hp.2.1,hp.2.2];exact⟨rfl,rfl⟩) ?_⟩));exact HOWN.out _ (hx0.trans hx))
 refine Phi.make (fun v _=>v=.bool (fG (.mk 9 c neg mag t l) (cD (.mk 9 c neg mag t l)))) (Stab.const _) ?_ ?_;· (intro ρ wq hx hp hk;(first|(simp [KnowsAll,aF,bD,looks,Op.operands,Call.operands,Act.eval] at hk;refine⟨by simp [wanted,hk],OpGood.call (by simp [go_sem,hk,hp.1,hp.2.1,hp.2.2];exact⟨rfl,rfl⟩) ?_⟩)|(refine⟨by simp [wanted],OpGood.call (by simp [go_sem,hp.1,hp.2.1,hp.2.2];exact⟨rfl,rfl⟩) ?_⟩));exact fJ (HFL.out _ (hx0.trans hx) _ hk.2.1))
 repeat (first|((with_reducible apply Phi.skip);· (intro ρ wq hx hp hk;simp [KnowsAll,aF,bD,looks,Op.operands,Call.operands,Act.eval] at hk;simp [wanted,undef,hk,hfl]))|((with_reducible apply Phi.pure);· (intro ρ wq hx hp hk;(first|(simp [KnowsAll,aF,bD,looks,Op.operands,Call.operands,Act.eval] at hk;refine⟨?_,?_⟩;(· (simp [wanted,undef,hk,hfl]));(· (simp [go_sem,hk,hp.1,hp.2.1,hp.2.2,hS wq hx,hfl];rfl)))|(refine⟨?_,?_⟩;(· (simp [wanted]));(· (simp [go_sem,hp.1,hp.2.1,hp.2.2,hS wq hx,hfl];rfl)))))))
 refine Phi.done ?_;intro w2 hx2;simp only [Final,List.nil_append,List.cons_append,forall_eq]
 intro v14 hv14
 ((refine hQ9 _ _ ?_);(try refine wpList_nil ?_);(clear hQ9 Q9));simp only [Act.put,List.setIfInBounds_toArray,List.set_cons_succ,List.set_cons_zero]
 obtain⟨c0,c1,c2,c3,c4,c5,-⟩:=hS w2 hx2
 clear hS BX HOWN HFL hfl hv14
 go_wp2_with fail
 go_ret
 exact⟨rfl,hx0.trans hx2⟩
set_option maxHeartbeats 4000000 in
theorem CA (c:Int) (neg:Bool) (mag:List Int) (t:ByteArray) (l:List D) (w:World) (v:Value) (h:IsD w (.mk 10 c neg mag t l) v) (hb:fF (.mk 10 c neg mag t l)) :
  Calls Tryz.prog 53 #[v] w fun e w'=>e=.returned (.bool (cA (.mk 10 c neg mag t l)))∧Ext w w':=by
 rw [iH 10 (by omega) hb]
 have HFL:=Lib.hid (fun W (hx:Ext w W) v' (hv:IsD W (cD (.mk 10 c neg mag t l)) v')=>gM (.mk 10 c neg mag t l) (cD (.mk 10 c neg mag t l)) W v v' (h.keep hx.keeps) hv)
 have HOWN:=Lib.hid (fun W (hx:Ext w W)=>jK 10 c neg mag t l W v (h.keep hx.keeps) (by omega) (by omega))
 obtain⟨am,cm,al,cl,rfl,hm,hl,-,-,-,-⟩:=h.open'
 have hx0:=(Ext.refl w).alloc (.cells #[.int .i64 10,.int .i32 c,.bool neg,.slice am mag.length cm,.string t,.slice al l.length cl] 28)
 have BX:=Lib.hid (fV w (.int .i64 10) (.int .i32 c) (.bool neg) (.slice am mag.length cm) (.string t) (.slice al l.length cl) 28)
 have hfl:fG (.mk 10 c neg mag t l) (cD (.mk 10 c neg mag t l))=true:=fI ((gX _).2 hb)
 clear h hb
 go_enter Tryz.func53,Tryz.ntmps53
 go_wp2_with fail
 obtain⟨c0,c1,c2,c3,c4,c5⟩:=BX.out
 have hS:∀W9,Ext _ W9→W9.cell? _=_∧W9.cell? _=_∧W9.cell? _=_∧W9.cell? _=_∧W9.cell? _=_∧W9.cell? _=_∧True:=fun W9 h=>⟨h.keeps _ _ c0,h.keeps _ _ c1,h.keeps _ _ c2,h.keeps _ _ c3,h.keeps _ _ c4,h.keeps _ _ c5,trivial⟩
 refine aX 15 _ _ _ rfl rfl rfl (by kernel_rfl) (by kernel_rfl) (by kernel_rfl) (fun Q9 hQ9=>?_);simp only [List.take_succ_cons,List.take_zero,List.drop_succ_cons,List.drop_zero,List.map_cons,List.map_nil] at hQ9 ⊢
 repeat (first|((with_reducible apply Phi.skip);· (intro ρ wq hx hp hk;simp [KnowsAll,aF,bD,looks,Op.operands,Call.operands,Act.eval] at hk;simp [wanted,undef,hk]))|((with_reducible apply Phi.pure);· (intro ρ wq hx hp hk;(first|(simp [KnowsAll,aF,bD,looks,Op.operands,Call.operands,Act.eval] at hk;refine⟨?_,?_⟩;(· (simp [wanted,undef,hk]));(· (simp [go_sem,hk,hp.1,hp.2.1,hp.2.2,hS wq hx];rfl)))|(refine⟨?_,?_⟩;(· (simp [wanted]));(· (simp [go_sem,hp.1,hp.2.1,hp.2.2,hS wq hx];rfl)))))))
 refine Phi.make (fun v W=>IsD W (cD (.mk 10 c neg mag t l)) v) (fun v W W' hx h=>h.keep hx.keeps) ?_ ?_;· (intro ρ wq hx hp hk;(first|(simp [KnowsAll,aF,bD,looks,Op.operands,Call.operands,Act.eval] at hk;refine⟨by simp [wanted,hk],OpGood.call (by simp [go_sem,hk,hp.1,hp.2.1,hp.2.2];exact⟨rfl,rfl⟩) ?_⟩)|(refine⟨by simp [wanted],OpGood.call (by simp [go_sem,hp.1,hp.2.1,hp.2.2];exact⟨rfl,rfl⟩) ?_⟩));exact HOWN.out _ (hx0.trans hx))
 refine Phi.make (fun v _=>v=.bool (fG (.mk 10 c neg mag t l) (cD (.mk 10 c neg mag t l)))) (Stab.const _) ?_ ?_;· (intro ρ wq hx hp hk;(first|(simp [KnowsAll,aF,bD,looks,Op.operands,Call.operands,Act.eval] at hk;refine⟨by simp [wanted,hk],OpGood.call (by simp [go_sem,hk,hp.1,hp.2.1,hp.2.2];exact⟨rfl,rfl⟩) ?_⟩)|(refine⟨by simp [wanted],OpGood.call (by simp [go_sem,hp.1,hp.2.1,hp.2.2];exact⟨rfl,rfl⟩) ?_⟩));exact fJ (HFL.out _ (hx0.trans hx) _ hk.2.1))
 repeat (first|((with_reducible apply Phi.skip);· (intro ρ wq hx hp hk;simp [KnowsAll,aF,bD,looks,Op.operands,Call.operands,Act.eval] at hk;simp [wanted,undef,hk,hfl]))|((with_reducible apply Phi.pure);· (intro ρ wq hx hp hk;(first|(simp [KnowsAll,aF,bD,looks,Op.operands,Call.operands,Act.eval] at hk;refine⟨?_,?_⟩;(· (simp [wanted,undef,hk,hfl]));(· (simp [go_sem,hk,hp.1,hp.2.1,hp.2.2,hS wq hx,hfl];rfl)))|(refine⟨?_,?_⟩;(· (simp [wanted]));(· (simp [go_sem,hp.1,hp.2.1,hp.2.2,hS wq hx,hfl];rfl)))))))
 refine Phi.done ?_;intro w2 hx2;simp only [Final,List.nil_append,List.cons_append,forall_eq]
 intro v14 hv14
 ((refine hQ9 _ _ ?_);(try refine wpList_nil ?_);(clear hQ9 Q9));simp only [Act.put,List.setIfInBounds_toArray,List.set_cons_succ,List.set_cons_zero]
 obtain⟨c0,c1,c2,c3,c4,c5,-⟩:=hS w2 hx2
 clear hS BX HOWN HFL hfl hv14
 go_wp2_with fail
 go_ret
 exact⟨rfl,hx0.trans hx2⟩
set_option maxHeartbeats 4000000 in
theorem IW (c:Int) (neg:Bool) (mag:List Int) (t:ByteArray) (l:List D) (w:World) (v:Value) (h:IsD w (.mk 3 c neg mag t l) v) (hb:fF (.mk 3 c neg mag t l)) :
  Calls Tryz.prog 53 #[v] w fun e w'=>e=.returned (.bool (cA (.mk 3 c neg mag t l)))∧Ext w w':=by
 rw [zU hb]
 have HFL:=Lib.hid (fun W (hx:Ext w W) v' (hv:IsD W (cD (.mk 3 c neg mag t l)) v')=>gM (.mk 3 c neg mag t l) (cD (.mk 3 c neg mag t l)) W v v' (h.keep hx.keeps) hv)
 have HOWN:=Lib.hid (fun W (hx:Ext w W)=>jK 3 c neg mag t l W v (h.keep hx.keeps) (by omega) (by omega))
 obtain⟨am,cm,al,cl,rfl,hm,hl,-,-,-,-⟩:=h.open'
 have hx0:=(Ext.refl w).alloc (.cells #[.int .i64 3,.int .i32 c,.bool neg,.slice am mag.length cm,.string t,.slice al l.length cl] 28)
 have BX:=Lib.hid (fV w (.int .i64 3) (.int .i32 c) (.bool neg) (.slice am mag.length cm) (.string t) (.slice al l.length cl) 28)
 have hfl:fG (.mk 3 c neg mag t l) (cD (.mk 3 c neg mag t l))=true:=fI ((gX _).2 hb)
 clear h hb
 go_enter Tryz.func53,Tryz.ntmps53
 go_wp2_with fail
 obtain⟨c0,c1,c2,c3,c4,c5⟩:=BX.out
 have hS:∀W9,Ext _ W9→W9.cell? _=_∧W9.cell? _=_∧W9.cell? _=_∧W9.cell? _=_∧W9.cell? _=_∧W9.cell? _=_∧True:=fun W9 h=>⟨h.keeps _ _ c0,h.keeps _ _ c1,h.keeps _ _ c2,h.keeps _ _ c3,h.keeps _ _ c4,h.keeps _ _ c5,trivial⟩
 refine aX 15 _ _ _ rfl rfl rfl (by kernel_rfl) (by kernel_rfl) (by kernel_rfl) (fun Q9 hQ9=>?_);simp only [List.take_succ_cons,List.take_zero,List.drop_succ_cons,List.drop_zero,List.map_cons,List.map_nil] at hQ9 ⊢
 repeat (first|((with_reducible apply Phi.skip);· (intro ρ wq hx hp hk;simp [KnowsAll,aF,bD,looks,Op.operands,Call.operands,Act.eval] at hk;simp [wanted,undef,hk]))|((with_reducible apply Phi.pure);· (intro ρ wq hx hp hk;(first|(simp [KnowsAll,aF,bD,looks,Op.operands,Call.operands,Act.eval] at hk;refine⟨?_,?_⟩;(· (simp [wanted,undef,hk]));(· (simp [go_sem,hk,hp.1,hp.2.1,hp.2.2,hS wq hx];rfl)))|(refine⟨?_,?_⟩;(· (simp [wanted]));(· (simp [go_sem,hp.1,hp.2.1,hp.2.2,hS wq hx];rfl)))))))
 refine Phi.make (fun v W=>IsD W (cD (.mk 3 c neg mag t l)) v) (fun v W W' hx h=>h.keep hx.keeps) ?_ ?_;· (intro ρ wq hx hp hk;(first|(simp [KnowsAll,aF,bD,looks,Op.operands,Call.operands,Act.eval] at hk;refine⟨by simp [wanted,hk],OpGood.call (by simp [go_sem,hk,hp.1,hp.2.1,hp.2.2];exact⟨rfl,rfl⟩) ?_⟩)|(refine⟨by simp [wanted],OpGood.call (by simp [go_sem,hp.1,hp.2.1,hp.2.2];exact⟨rfl,rfl⟩) ?_⟩));exact HOWN.out _ (hx0.trans hx))
 refine Phi.make (fun v _=>v=.bool (fG (.mk 3 c neg mag t l) (cD (.mk 3 c neg mag t l)))) (Stab.const _) ?_ ?_;· (intro ρ wq hx hp hk;(first|(simp [KnowsAll,aF,bD,looks,Op.operands,Call.operands,Act.eval] at hk;refine⟨by simp [wanted,hk],OpGood.call (by simp [go_sem,hk,hp.1,hp.2.1,hp.2.2];exact⟨rfl,rfl⟩) ?_⟩)|(refine⟨by simp [wanted],OpGood.call (by simp [go_sem,hp.1,hp.2.1,hp.2.2];exact⟨rfl,rfl⟩) ?_⟩));exact fJ (HFL.out _ (hx0.trans hx) _ hk.2.1))
 repeat (first|((with_reducible apply Phi.skip);· (intro ρ wq hx hp hk;simp [KnowsAll,aF,bD,looks,Op.operands,Call.operands,Act.eval] at hk;simp [wanted,undef,hk,hfl]))|((with_reducible apply Phi.pure);· (intro ρ wq hx hp hk;(first|(simp [KnowsAll,aF,bD,looks,Op.operands,Call.operands,Act.eval] at hk;refine⟨?_,?_⟩;(· (simp [wanted,undef,hk,hfl]));(· (simp [go_sem,hk,hp.1,hp.2.1,hp.2.2,hS wq hx,hfl];rfl)))|(refine⟨?_,?_⟩;(· (simp [wanted]));(· (simp [go_sem,hp.1,hp.2.1,hp.2.2,hS wq hx,hfl];rfl)))))))
 refine Phi.done ?_;intro w2 hx2;simp only [Final,List.nil_append,List.cons_append,forall_eq]
 intro v14 hv14
 ((refine hQ9 _ _ ?_);(try refine wpList_nil ?_);(clear hQ9 Q9));simp only [Act.put,List.setIfInBounds_toArray,List.set_cons_succ,List.set_cons_zero]
 obtain⟨c0,c1,c2,c3,c4,c5,-⟩:=hS w2 hx2
 clear hS BX HOWN HFL hfl hv14
 go_wp2_with fail
 refine (Tryz.utf8_ValidRune c _).mono ?_
 rintro e w3 ⟨rfl,rfl⟩
 go_wp2_with fail
 go_ret
 exact⟨rfl,hx0.trans hx2⟩
set_option maxHeartbeats 4000000 in
theorem LD (c:Int) (neg:Bool) (mag:List Int) (t:ByteArray) (l:List D) (w:World) (v:Value) (h:IsD w (.mk 4 c neg mag t l) v) (hb:fF (.mk 4 c neg mag t l)) :
  Calls Tryz.prog 53 #[v] w fun e w'=>e=.returned (.bool (cA (.mk 4 c neg mag t l)))∧Ext w w':=by
 rw [CS hb]
 have HFL:=Lib.hid (fun W (hx:Ext w W) v' (hv:IsD W (cD (.mk 4 c neg mag t l)) v')=>gM (.mk 4 c neg mag t l) (cD (.mk 4 c neg mag t l)) W v v' (h.keep hx.keeps) hv)
 have HOWN:=Lib.hid (fun W (hx:Ext w W)=>jK 4 c neg mag t l W v (h.keep hx.keeps) (by omega) (by omega))
 obtain⟨am,cm,al,cl,rfl,hm,hl,-,-,-,-⟩:=h.open'
 have hx0:=(Ext.refl w).alloc (.cells #[.int .i64 4,.int .i32 c,.bool neg,.slice am mag.length cm,.string t,.slice al l.length cl] 28)
 have BX:=Lib.hid (fV w (.int .i64 4) (.int .i32 c) (.bool neg) (.slice am mag.length cm) (.string t) (.slice al l.length cl) 28)
 have hfl:fG (.mk 4 c neg mag t l) (cD (.mk 4 c neg mag t l))=true:=fI ((gX _).2 hb)
 clear h hb
 go_enter Tryz.func53,Tryz.ntmps53
 go_wp2_with fail
 obtain⟨c0,c1,c2,c3,c4,c5⟩:=BX.out
 have hS:∀W9,Ext _ W9→W9.cell? _=_∧W9.cell? _=_∧W9.cell? _=_∧W9.cell? _=_∧W9.cell? _=_∧W9.cell? _=_∧True:=fun W9 h=>⟨h.keeps _ _ c0,h.keeps _ _ c1,h.keeps _ _ c2,h.keeps _ _ c3,h.keeps _ _ c4,h.keeps _ _ c5,trivial⟩
 refine aX 15 _ _ _ rfl rfl rfl (by kernel_rfl) (by kernel_rfl) (by kernel_rfl) (fun Q9 hQ9=>?_);simp only [List.take_succ_cons,List.take_zero,List.drop_succ_cons,List.drop_zero,List.map_cons,List.map_nil] at hQ9 ⊢
 repeat (first|((with_reducible apply Phi.skip);· (intro ρ wq hx hp hk;simp [KnowsAll,aF,bD,looks,Op.operands,Call.operands,Act.eval] at hk;simp [wanted,undef,hk]))|((with_reducible apply Phi.pure);· (intro ρ wq hx hp hk;(first|(simp [KnowsAll,aF,bD,looks,Op.operands,Call.operands,Act.eval] at hk;refine⟨?_,?_⟩;(· (simp [wanted,undef,hk]));(· (simp [go_sem,hk,hp.1,hp.2.1,hp.2.2,hS wq hx];rfl)))|(refine⟨?_,?_⟩;(· (simp [wanted]));(· (simp [go_sem,hp.1,hp.2.1,hp.2.2,hS wq hx];rfl)))))))
 refine Phi.make (fun v W=>IsD W (cD (.mk 4 c neg mag t l)) v) (fun v W W' hx h=>h.keep hx.keeps) ?_ ?_;· (intro ρ wq hx hp hk;(first|(simp [KnowsAll,aF,bD,looks,Op.operands,Call.operands,Act.eval] at hk;refine⟨by simp [wanted,hk],OpGood.call (by simp [go_sem,hk,hp.1,hp.2.1,hp.2.2];exact⟨rfl,rfl⟩) ?_⟩)|(refine⟨by simp [wanted],OpGood.call (by simp [go_sem,hp.1,hp.2.1,hp.2.2];exact⟨rfl,rfl⟩) ?_⟩));exact HOWN.out _ (hx0.trans hx))
 refine Phi.make (fun v _=>v=.bool (fG (.mk 4 c neg mag t l) (cD (.mk 4 c neg mag t l)))) (Stab.const _) ?_ ?_;· (intro ρ wq hx hp hk;(first|(simp [KnowsAll,aF,bD,looks,Op.operands,Call.operands,Act.eval] at hk;refine⟨by simp [wanted,hk],OpGood.call (by simp [go_sem,hk,hp.1,hp.2.1,hp.2.2];exact⟨rfl,rfl⟩) ?_⟩)|(refine⟨by simp [wanted],OpGood.call (by simp [go_sem,hp.1,hp.2.1,hp.2.2];exact⟨rfl,rfl⟩) ?_⟩));exact fJ (HFL.out _ (hx0.trans hx) _ hk.2.1))
 repeat (first|((with_reducible apply Phi.skip);· (intro ρ wq hx hp hk;simp [KnowsAll,aF,bD,looks,Op.operands,Call.operands,Act.eval] at hk;simp [wanted,undef,hk,hfl]))|((with_reducible apply Phi.pure);· (intro ρ wq hx hp hk;(first|(simp [KnowsAll,aF,bD,looks,Op.operands,Call.operands,Act.eval] at hk;refine⟨?_,?_⟩;(· (simp [wanted,undef,hk,hfl]));(· (simp [go_sem,hk,hp.1,hp.2.1,hp.2.2,hS wq hx,hfl];rfl)))|(refine⟨?_,?_⟩;(· (simp [wanted]));(· (simp [go_sem,hp.1,hp.2.1,hp.2.2,hS wq hx,hfl];rfl)))))))
 refine Phi.done ?_;intro w2 hx2;simp only [Final,List.nil_append,List.cons_append,forall_eq]
 intro v14 hv14
 ((refine hQ9 _ _ ?_);(try refine wpList_nil ?_);(clear hQ9 Q9));simp only [Act.put,List.setIfInBounds_toArray,List.set_cons_succ,List.set_cons_zero]
 obtain⟨c0,c1,c2,c3,c4,c5,-⟩:=hS w2 hx2
 clear hS BX HOWN HFL hfl hv14
 go_wp2_with fail
 refine (JR neg mag _ _ (hm.keep (hx0.trans hx2).keeps)).mono ?_
 rintro e w3 ⟨rfl,hx3⟩
 go_wp2_with fail
 go_ret
 exact⟨rfl,hx0.trans (hx2.trans hx3)⟩
set_option maxHeartbeats 4000000 in
theorem LE (c:Int) (neg:Bool) (mag:List Int) (t:ByteArray) (l:List D) (w:World) (v:Value) (h:IsD w (.mk 6 c neg mag t l) v) (hb:fF (.mk 6 c neg mag t l)) (hs:t.size<9223372036854775807) (hT:Tabs w) :
  Calls Tryz.prog 53 #[v] w fun e w'=>e=.returned (.bool (cA (.mk 6 c neg mag t l)))∧Ext w w':=by
 rw [sG hb]
 have HFL:=Lib.hid (fun W (hx:Ext w W) v' (hv:IsD W (cD (.mk 6 c neg mag t l)) v')=>gM (.mk 6 c neg mag t l) (cD (.mk 6 c neg mag t l)) W v v' (h.keep hx.keeps) hv)
 have HOWN:=Lib.hid (fun W (hx:Ext w W)=>jK 6 c neg mag t l W v (h.keep hx.keeps) (by omega) (by omega))
 obtain⟨am,cm,al,cl,rfl,hm,hl,-,-,-,-⟩:=h.open'
 have hx0:=(Ext.refl w).alloc (.cells #[.int .i64 6,.int .i32 c,.bool neg,.slice am mag.length cm,.string t,.slice al l.length cl] 28)
 have BX:=Lib.hid (fV w (.int .i64 6) (.int .i32 c) (.bool neg) (.slice am mag.length cm) (.string t) (.slice al l.length cl) 28)
 have hfl:fG (.mk 6 c neg mag t l) (cD (.mk 6 c neg mag t l))=true:=fI ((gX _).2 hb)
 clear h hb
 go_enter Tryz.func53,Tryz.ntmps53
 go_wp2_with fail
 obtain⟨c0,c1,c2,c3,c4,c5⟩:=BX.out
 have hS:∀W9,Ext _ W9→W9.cell? _=_∧W9.cell? _=_∧W9.cell? _=_∧W9.cell? _=_∧W9.cell? _=_∧W9.cell? _=_∧True:=fun W9 h=>⟨h.keeps _ _ c0,h.keeps _ _ c1,h.keeps _ _ c2,h.keeps _ _ c3,h.keeps _ _ c4,h.keeps _ _ c5,trivial⟩
 refine aX 15 _ _ _ rfl rfl rfl (by kernel_rfl) (by kernel_rfl) (by kernel_rfl) (fun Q9 hQ9=>?_);simp only [List.take_succ_cons,List.take_zero,List.drop_succ_cons,List.drop_zero,List.map_cons,List.map_nil] at hQ9 ⊢
 repeat (first|((with_reducible apply Phi.skip);· (intro ρ wq hx hp hk;simp [KnowsAll,aF,bD,looks,Op.operands,Call.operands,Act.eval] at hk;simp [wanted,undef,hk]))|((with_reducible apply Phi.pure);· (intro ρ wq hx hp hk;(first|(simp [KnowsAll,aF,bD,looks,Op.operands,Call.operands,Act.eval] at hk;refine⟨?_,?_⟩;(· (simp [wanted,undef,hk]));(· (simp [go_sem,hk,hp.1,hp.2.1,hp.2.2,hS wq hx];rfl)))|(refine⟨?_,?_⟩;(· (simp [wanted]));(· (simp [go_sem,hp.1,hp.2.1,hp.2.2,hS wq hx];rfl)))))))
 refine Phi.make (fun v W=>IsD W (cD (.mk 6 c neg mag t l)) v) (fun v W W' hx h=>h.keep hx.keeps) ?_ ?_;· (intro ρ wq hx hp hk;(first|(simp [KnowsAll,aF,bD,looks,Op.operands,Call.operands,Act.eval] at hk;refine⟨by simp [wanted,hk],OpGood.call (by simp [go_sem,hk,hp.1,hp.2.1,hp.2.2];exact⟨rfl,rfl⟩) ?_⟩)|(refine⟨by simp [wanted],OpGood.call (by simp [go_sem,hp.1,hp.2.1,hp.2.2];exact⟨rfl,rfl⟩) ?_⟩));exact HOWN.out _ (hx0.trans hx))
 refine Phi.make (fun v _=>v=.bool (fG (.mk 6 c neg mag t l) (cD (.mk 6 c neg mag t l)))) (Stab.const _) ?_ ?_;· (intro ρ wq hx hp hk;(first|(simp [KnowsAll,aF,bD,looks,Op.operands,Call.operands,Act.eval] at hk;refine⟨by simp [wanted,hk],OpGood.call (by simp [go_sem,hk,hp.1,hp.2.1,hp.2.2];exact⟨rfl,rfl⟩) ?_⟩)|(refine⟨by simp [wanted],OpGood.call (by simp [go_sem,hp.1,hp.2.1,hp.2.2];exact⟨rfl,rfl⟩) ?_⟩));exact fJ (HFL.out _ (hx0.trans hx) _ hk.2.1))
 repeat (first|((with_reducible apply Phi.skip);· (intro ρ wq hx hp hk;simp [KnowsAll,aF,bD,looks,Op.operands,Call.operands,Act.eval] at hk;simp [wanted,undef,hk,hfl]))|((with_reducible apply Phi.pure);· (intro ρ wq hx hp hk;(first|(simp [KnowsAll,aF,bD,looks,Op.operands,Call.operands,Act.eval] at hk;refine⟨?_,?_⟩;(· (simp [wanted,undef,hk,hfl]));(· (simp [go_sem,hk,hp.1,hp.2.1,hp.2.2,hS wq hx,hfl];rfl)))|(refine⟨?_,?_⟩;(· (simp [wanted]));(· (simp [go_sem,hp.1,hp.2.1,hp.2.2,hS wq hx,hfl];rfl)))))))
 refine Phi.done ?_;intro w2 hx2;simp only [Final,List.nil_append,List.cons_append,forall_eq]
 intro v14 hv14
 ((refine hQ9 _ _ ?_);(try refine wpList_nil ?_);(clear hQ9 Q9));simp only [Act.put,List.setIfInBounds_toArray,List.set_cons_succ,List.set_cons_zero]
 obtain⟨c0,c1,c2,c3,c4,c5,-⟩:=hS w2 hx2
 clear hS BX HOWN HFL hfl hv14
 go_wp2_with fail
 refine (GC t 1 _ hs (hT.ext (hx0.trans hx2))).mono ?_
 rintro e w3 ⟨rfl,hx3⟩
 go_wp2_with fail
 go_ret
 exact⟨rfl,hx0.trans (hx2.trans hx3)⟩
set_option maxHeartbeats 4000000 in
theorem LF (c:Int) (neg:Bool) (mag:List Int) (t:ByteArray) (l:List D) (w:World) (v:Value) (h:IsD w (.mk 5 c neg mag t l) v) (hb:fF (.mk 5 c neg mag t l)) (hs:t.size<9223372036854775807) (hT:Tabs w) :
  Calls Tryz.prog 53 #[v] w fun e w'=>e=.returned (.bool (cA (.mk 5 c neg mag t l)))∧Ext w w':=by
 rw [wG hb]
 have HFL:=Lib.hid (fun W (hx:Ext w W) v' (hv:IsD W (cD (.mk 5 c neg mag t l)) v')=>gM (.mk 5 c neg mag t l) (cD (.mk 5 c neg mag t l)) W v v' (h.keep hx.keeps) hv)
 have HOWN:=Lib.hid (fun W (hx:Ext w W)=>jK 5 c neg mag t l W v (h.keep hx.keeps) (by omega) (by omega))
 obtain⟨am,cm,al,cl,rfl,hm,hl,-,-,-,-⟩:=h.open'
 have hx0:=(Ext.refl w).alloc (.cells #[.int .i64 5,.int .i32 c,.bool neg,.slice am mag.length cm,.string t,.slice al l.length cl] 28)
 have BX:=Lib.hid (fV w (.int .i64 5) (.int .i32 c) (.bool neg) (.slice am mag.length cm) (.string t) (.slice al l.length cl) 28)
 have hfl:fG (.mk 5 c neg mag t l) (cD (.mk 5 c neg mag t l))=true:=fI ((gX _).2 hb)
 clear h hb
 go_enter Tryz.func53,Tryz.ntmps53
 go_wp2_with fail
 obtain⟨c0,c1,c2,c3,c4,c5⟩:=BX.out
 have hS:∀W9,Ext _ W9→W9.cell? _=_∧W9.cell? _=_∧W9.cell? _=_∧W9.cell? _=_∧W9.cell? _=_∧W9.cell? _=_∧True:=fun W9 h=>⟨h.keeps _ _ c0,h.keeps _ _ c1,h.keeps _ _ c2,h.keeps _ _ c3,h.keeps _ _ c4,h.keeps _ _ c5,trivial⟩
 refine aX 15 _ _ _ rfl rfl rfl (by kernel_rfl) (by kernel_rfl) (by kernel_rfl) (fun Q9 hQ9=>?_);simp only [List.take_succ_cons,List.take_zero,List.drop_succ_cons,List.drop_zero,List.map_cons,List.map_nil] at hQ9 ⊢
 repeat (first|((with_reducible apply Phi.skip);· (intro ρ wq hx hp hk;simp [KnowsAll,aF,bD,looks,Op.operands,Call.operands,Act.eval] at hk;simp [wanted,undef,hk]))|((with_reducible apply Phi.pure);· (intro ρ wq hx hp hk;(first|(simp [KnowsAll,aF,bD,looks,Op.operands,Call.operands,Act.eval] at hk;refine⟨?_,?_⟩;(· (simp [wanted,undef,hk]));(· (simp [go_sem,hk,hp.1,hp.2.1,hp.2.2,hS wq hx];rfl)))|(refine⟨?_,?_⟩;(· (simp [wanted]));(· (simp [go_sem,hp.1,hp.2.1,hp.2.2,hS wq hx];rfl)))))))
 refine Phi.make (fun v W=>IsD W (cD (.mk 5 c neg mag t l)) v) (fun v W W' hx h=>h.keep hx.keeps) ?_ ?_;· (intro ρ wq hx hp hk;(first|(simp [KnowsAll,aF,bD,looks,Op.operands,Call.operands,Act.eval] at hk;refine⟨by simp [wanted,hk],OpGood.call (by simp [go_sem,hk,hp.1,hp.2.1,hp.2.2];exact⟨rfl,rfl⟩) ?_⟩)|(refine⟨by simp [wanted],OpGood.call (by simp [go_sem,hp.1,hp.2.1,hp.2.2];exact⟨rfl,rfl⟩) ?_⟩));exact HOWN.out _ (hx0.trans hx))
 refine Phi.make (fun v _=>v=.bool (fG (.mk 5 c neg mag t l) (cD (.mk 5 c neg mag t l)))) (Stab.const _) ?_ ?_;· (intro ρ wq hx hp hk;(first|(simp [KnowsAll,aF,bD,looks,Op.operands,Call.operands,Act.eval] at hk;refine⟨by simp [wanted,hk],OpGood.call (by simp [go_sem,hk,hp.1,hp.2.1,hp.2.2];exact⟨rfl,rfl⟩) ?_⟩)|(refine⟨by simp [wanted],OpGood.call (by simp [go_sem,hp.1,hp.2.1,hp.2.2];exact⟨rfl,rfl⟩) ?_⟩));exact fJ (HFL.out _ (hx0.trans hx) _ hk.2.1))
 repeat (first|((with_reducible apply Phi.skip);· (intro ρ wq hx hp hk;simp [KnowsAll,aF,bD,looks,Op.operands,Call.operands,Act.eval] at hk;simp [wanted,undef,hk,hfl]))|((with_reducible apply Phi.pure);· (intro ρ wq hx hp hk;(first|(simp [KnowsAll,aF,bD,looks,Op.operands,Call.operands,Act.eval] at hk;refine⟨?_,?_⟩;(· (simp [wanted,undef,hk,hfl]));(· (simp [go_sem,hk,hp.1,hp.2.1,hp.2.2,hS wq hx,hfl];rfl)))|(refine⟨?_,?_⟩;(· (simp [wanted]));(· (simp [go_sem,hp.1,hp.2.1,hp.2.2,hS wq hx,hfl];rfl)))))))
 refine Phi.done ?_;intro w2 hx2;simp only [Final,List.nil_append,List.cons_append,forall_eq]
 intro v14 hv14
 ((refine hQ9 _ _ ?_);(try refine wpList_nil ?_);(clear hQ9 Q9));simp only [Act.put,List.setIfInBounds_toArray,List.set_cons_succ,List.set_cons_zero]
 obtain⟨c0,c1,c2,c3,c4,c5,-⟩:=hS w2 hx2
 clear hS BX HOWN HFL hfl hv14
 go_wp2_with fail
 refine (GC t 0 _ hs (hT.ext (hx0.trans hx2))).mono ?_
 rintro e w3 ⟨rfl,hx3⟩
 go_wp2_with fail
 go_ret
 exact⟨rfl,hx0.trans (hx2.trans hx3)⟩
end Go.Proofs.YtaeioidifpebdaaGreatDoor
