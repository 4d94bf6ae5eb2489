
import Derived.Test.YtaeioidifpebdaaGreatDoorPlainB
namespace Go.Proofs.YtaeioidifpebdaaGreatDoor
open Go.RowKit
set_option linter.unusedSimpArgs false
set_option linter.unusedVariables false

set_option maxHeartbeats 4000000 in
theorem CJ (c:Int) (neg:Bool) (mag:List Int) (t:ByteArray) (l:List D) (w:World) (v:Value) (h:IsD w (.mk 0 c neg mag t l) v) (hb:kI (.mk 0 c neg mag t l)) :
  Calls Tryz.prog 53 #[v] w fun e w'=>e=.returned (.bool (dP (.mk 0 c neg mag t l)))∧Ext w w':=by
 rw [jA 0 (by omega) hb]
 have HFL:=Lib.hid (fun W (hx:Ext w W) v' (hv:IsD W (cD (.mk 0 c neg mag t l)) v')=>fY (.mk 0 c neg mag t l) (cD (.mk 0 c neg mag t l)) W v v' (h.keep hx.keeps) hv)
 have HOWN:=Lib.hid (fun W (hx:Ext w W)=>iY 0 c neg mag t l W v (h.keep hx.keeps) (by omega) (by omega))
 obtain⟨am,cm,al,cl,rfl,hm,hl,-,-,-,-⟩:=h.open'
 have hx0:=(Ext.refl w).alloc (.cells #[.int .i64 0,.int .i32 c,.bool neg,.slice am mag.length cm,.string t,.slice al l.length cl] 28)
 have BX:=Lib.hid (fH w (.int .i64 0) (.int .i32 c) (.bool neg) (.slice am mag.length cm) (.string t) (.slice al l.length cl) 28)
 have hfl:eX (.mk 0 c neg mag t l) (cD (.mk 0 c neg mag t l))=true:=eY ((gO _).2 hb)
 clear h hb
 go_enter Tryz.func53,Tryz.ntmps53
 go_wp2_with fail
 obtain⟨c0,c1,c2,c3,c4,c5⟩:=BX.out
 have hS:∀W9,Ext _ W9→W9.cell? _=_∧W9.cell? _=_∧W9.cell? _=_∧W9.cell? _=_∧W9.cell? _=_∧W9.cell? _=_∧True:=fun W9 h=>⟨h.keeps _ _ c0,h.keeps _ _ c1,h.keeps _ _ c2,h.keeps _ _ c3,h.keeps _ _ c4,h.keeps _ _ c5,trivial⟩
 refine aY 15 _ _ _ rfl rfl rfl (by kernel_rfl) (by kernel_rfl) (by kernel_rfl) (fun Q9 hQ9=>?_);simp only [List.take_succ_cons,List.take_zero,List.drop_succ_cons,List.drop_zero,List.map_cons,List.map_nil] at hQ9 ⊢
 repeat (first|((with_reducible apply Phi.skip);· (intro ρ wq hx hp hk;simp [KnowsAll,aG,bD,looks,Op.operands,Call.operands,Act.eval] at hk;simp [wanted,undef,hk]))|((with_reducible apply Phi.pure);· (intro ρ wq hx hp hk;(first|(simp [KnowsAll,aG,bD,looks,Op.operands,Call.operands,Act.eval] at hk;refine⟨?_,?_⟩;(· (simp [wanted,undef,hk]));(· (simp [go_sem,hk,hp.1,hp.2.1,hp.2.2,hS wq hx];rfl)))|(refine⟨?_,?_⟩;(· (simp [wanted]));(· (simp [go_sem,hp.1,hp.2.1,hp.2.2,hS wq hx];rfl)))))))
 refine Phi.make (fun v W=>IsD W (cD (.mk 0 c neg mag t l)) v) (fun v W W' hx h=>h.keep hx.keeps) ?_ ?_;· (intro ρ wq hx hp hk;(first|(simp [KnowsAll,aG,bD,looks,Op.operands,Call.operands,Act.eval] at hk;refine⟨by simp [wanted,hk],OpGood.call (by simp [go_sem,hk,hp.1,hp.2.1,hp.2.2];exact⟨rfl,rfl⟩) ?_⟩)|(refine⟨by simp [wanted],OpGood.call (by simp [go_sem,hp.1,hp.2.1,hp.2.2];exact⟨rfl,rfl⟩) ?_⟩));exact HOWN.out _ (hx0.trans hx))
 refine Phi.make (fun v _=>v=.bool (eX (.mk 0 c neg mag t l) (cD (.mk 0 c neg mag t l)))) (Stab.const _) ?_ ?_;· (intro ρ wq hx hp hk;(first|(simp [KnowsAll,aG,bD,looks,Op.operands,Call.operands,Act.eval] at hk;refine⟨by simp [wanted,hk],OpGood.call (by simp [go_sem,hk,hp.1,hp.2.1,hp.2.2];exact⟨rfl,rfl⟩) ?_⟩)|(refine⟨by simp [wanted],OpGood.call (by simp [go_sem,hp.1,hp.2.1,hp.2.2];exact⟨rfl,rfl⟩) ?_⟩));exact fF (HFL.out _ (hx0.trans hx) _ hk.2.1))
 repeat (first|((with_reducible apply Phi.skip);· (intro ρ wq hx hp hk;simp [KnowsAll,aG,bD,looks,Op.operands,Call.operands,Act.eval] at hk;simp [wanted,undef,hk,hfl]))|((with_reducible apply Phi.pure);· (intro ρ wq hx hp hk;(first|(simp [KnowsAll,aG,bD,looks,Op.operands,Call.operands,Act.eval] at hk;refine⟨?_,?_⟩;(· (simp [wanted,undef,hk,hfl]));(· (simp [go_sem,hk,hp.1,hp.2.1,hp.2.2,hS wq hx,hfl];rfl)))|(refine⟨?_,?_⟩;(· (simp [wanted]));(· (simp [go_sem,hp.1,hp.2.1,hp.2.2,hS wq hx,hfl];rfl)))))))
 refine Phi.done ?_;intro w2 hx2;simp only [Final,List.nil_append,List.cons_append,forall_eq]
 intro v14 hv14
 ((refine hQ9 _ _ ?_);(try refine wpList_nil ?_);(clear hQ9 Q9));simp only [Act.put,List.setIfInBounds_toArray,List.set_cons_succ,List.set_cons_zero]
 obtain⟨c0,c1,c2,c3,c4,c5,-⟩:=hS w2 hx2
 clear hS BX HOWN HFL hfl hv14
 go_wp2_with fail
 go_ret
 exact⟨rfl,hx0.trans hx2⟩
set_option maxHeartbeats 4000000 in
theorem CK (c:Int) (neg:Bool) (mag:List Int) (t:ByteArray) (l:List D) (w:World) (v:Value) (h:IsD w (.mk 1 c neg mag t l) v) (hb:kI (.mk 1 c neg mag t l)) :
  Calls Tryz.prog 53 #[v] w fun e w'=>e=.returned (.bool (dP (.mk 1 c neg mag t l)))∧Ext w w':=by
 rw [jA 1 (by omega) hb]
 have HFL:=Lib.hid (fun W (hx:Ext w W) v' (hv:IsD W (cD (.mk 1 c neg mag t l)) v')=>fY (.mk 1 c neg mag t l) (cD (.mk 1 c neg mag t l)) W v v' (h.keep hx.keeps) hv)
 have HOWN:=Lib.hid (fun W (hx:Ext w W)=>iY 1 c neg mag t l W v (h.keep hx.keeps) (by omega) (by omega))
 obtain⟨am,cm,al,cl,rfl,hm,hl,-,-,-,-⟩:=h.open'
 have hx0:=(Ext.refl w).alloc (.cells #[.int .i64 1,.int .i32 c,.bool neg,.slice am mag.length cm,.string t,.slice al l.length cl] 28)
 have BX:=Lib.hid (fH w (.int .i64 1) (.int .i32 c) (.bool neg) (.slice am mag.length cm) (.string t) (.slice al l.length cl) 28)
 have hfl:eX (.mk 1 c neg mag t l) (cD (.mk 1 c neg mag t l))=true:=eY ((gO _).2 hb)
 clear h hb
 go_enter Tryz.func53,Tryz.ntmps53
 go_wp2_with fail
 obtain⟨c0,c1,c2,c3,c4,c5⟩:=BX.out
 have hS:∀W9,Ext _ W9→W9.cell? _=_∧W9.cell? _=_∧W9.cell? _=_∧W9.cell? _=_∧W9.cell? _=_∧W9.cell? _=_∧True:=fun W9 h=>⟨h.keeps _ _ c0,h.keeps _ _ c1,h.keeps _ _ c2,h.keeps _ _ c3,h.keeps _ _ c4,h.keeps _ _ c5,trivial⟩
 refine aY 15 _ _ _ rfl rfl rfl (by kernel_rfl) (by kernel_rfl) (by kernel_rfl) (fun Q9 hQ9=>?_);simp only [List.take_succ_cons,List.take_zero,List.drop_succ_cons,List.drop_zero,List.map_cons,List.map_nil] at hQ9 ⊢
 repeat (first|((with_reducible apply Phi.skip);· (intro ρ wq hx hp hk;simp [KnowsAll,aG,bD,looks,Op.operands,Call.operands,Act.eval] at hk;simp [wanted,undef,hk]))|((with_reducible apply Phi.pure);· (intro ρ wq hx hp hk;(first|(simp [KnowsAll,aG,bD,looks,Op.operands,Call.operands,Act.eval] at hk;refine⟨?_,?_⟩;(· (simp [wanted,undef,hk]));(· (simp [go_sem,hk,hp.1,hp.2.1,hp.2.2,hS wq hx];rfl)))|(refine⟨?_,?_⟩;(· (simp [wanted]));(· (simp [go_sem,hp.1,hp.2.1,hp.2.2,hS wq hx];rfl)))))))
 refine Phi.make (fun v W=>IsD W (cD (.mk 1 c neg mag t l)) v) (fun v W W' hx h=>h.keep hx.keeps) ?_ ?_;· (intro ρ wq hx hp hk;(first|(simp [KnowsAll,aG,bD,looks,Op.operands,Call.operands,Act.eval] at hk;refine⟨by simp [wanted,hk],OpGood.call (by simp [go_sem,hk,hp.1,hp.2.1,hp.2.2];exact⟨rfl,rfl⟩) ?_⟩)|(refine⟨by simp [wanted],OpGood.call (by simp [go_sem,hp.1,hp.2.1,hp.2.2];exact⟨rfl,rfl⟩) ?_⟩));exact HOWN.out _ (hx0.trans hx))
 refine Phi.make (fun v _=>v=.bool (eX (.mk 1 c neg mag t l) (cD (.mk 1 c neg mag t l)))) (Stab.const _) ?_ ?_;· (intro ρ wq hx hp hk;(first|(simp [KnowsAll,aG,bD,looks,Op.operands,Call.operands,Act.eval] at hk;refine⟨by simp [wanted,hk],OpGood.call (by simp [go_sem,hk,hp.1,hp.2.1,hp.2.2];exact⟨rfl,rfl⟩) ?_⟩)|(refine⟨by simp [wanted],OpGood.call (by simp [go_sem,hp.1,hp.2.1,hp.2.2];exact⟨rfl,rfl⟩) ?_⟩));exact fF (HFL.out _ (hx0.trans hx) _ hk.2.1))
 repeat (first|((with_reducible apply Phi.skip);· (intro ρ wq hx hp hk;simp [KnowsAll,aG,bD,looks,Op.operands,Call.operands,Act.eval] at hk;simp [wanted,undef,hk,hfl]))|((with_reducible apply Phi.pure);· (intro ρ wq hx hp hk;(first|(simp [KnowsAll,aG,bD,looks,Op.operands,Call.operands,Act.eval] at hk;refine⟨?_,?_⟩;(· (simp [wanted,undef,hk,hfl]));(· (simp [go_sem,hk,hp.1,hp.2.1,hp.2.2,hS wq hx,hfl];rfl)))|(refine⟨?_,?_⟩;(· (simp [wanted]));(· (simp [go_sem,hp.1,hp.2.1,hp.2.2,hS wq hx,hfl];rfl)))))))
 refine Phi.done ?_;intro w2 hx2;simp only [Final,List.nil_append,List.cons_append,forall_eq]
 intro v14 hv14
 ((refine hQ9 _ _ ?_);(try refine wpList_nil ?_);(clear hQ9 Q9));simp only [Act.put,List.setIfInBounds_toArray,List.set_cons_succ,List.set_cons_zero]
 obtain⟨c0,c1,c2,c3,c4,c5,-⟩:=hS w2 hx2
 clear hS BX HOWN HFL hfl hv14
 go_wp2_with fail
 go_ret
 exact⟨rfl,hx0.trans hx2⟩
set_option maxHeartbeats 4000000 in
theorem CL (c:Int) (neg:Bool) (mag:List Int) (t:ByteArray) (l:List D) (w:World) (v:Value) (h:IsD w (.mk 2 c neg mag t l) v) (hb:kI (.mk 2 c neg mag t l)) :
  Calls Tryz.prog 53 #[v] w fun e w'=>e=.returned (.bool (dP (.mk 2 c neg mag t l)))∧Ext w w':=by
 rw [jA 2 (by omega) hb]
 have HFL:=Lib.hid (fun W (hx:Ext w W) v' (hv:IsD W (cD (.mk 2 c neg mag t l)) v')=>fY (.mk 2 c neg mag t l) (cD (.mk 2 c neg mag t l)) W v v' (h.keep hx.keeps) hv)
 have HOWN:=Lib.hid (fun W (hx:Ext w W)=>iY 2 c neg mag t l W v (h.keep hx.keeps) (by omega) (by omega))
 obtain⟨am,cm,al,cl,rfl,hm,hl,-,-,-,-⟩:=h.open'
 have hx0:=(Ext.refl w).alloc (.cells #[.int .i64 2,.int .i32 c,.bool neg,.slice am mag.length cm,.string t,.slice al l.length cl] 28)
 have BX:=Lib.hid (fH w (.int .i64 2) (.int .i32 c) (.bool neg) (.slice am mag.length cm) (.string t) (.slice al l.length cl) 28)
 have hfl:eX (.mk 2 c neg mag t l) (cD (.mk 2 c neg mag t l))=true:=eY ((gO _).2 hb)
 clear h hb
 go_enter Tryz.func53,Tryz.ntmps53
 go_wp2_with fail
 obtain⟨c0,c1,c2,c3,c4,c5⟩:=BX.out
 have hS:∀W9,Ext _ W9→W9.cell? _=_∧W9.cell? _=_∧W9.cell? _=_∧W9.cell? _=_∧W9.cell? _=_∧W9.cell? _=_∧True:=fun W9 h=>⟨h.keeps _ _ c0,h.keeps _ _ c1,h.keeps _ _ c2,h.keeps _ _ c3,h.keeps _ _ c4,h.keeps _ _ c5,trivial⟩
 refine aY 15 _ _ _ rfl rfl rfl (by kernel_rfl) (by kernel_rfl) (by kernel_rfl) (fun Q9 hQ9=>?_);simp only [List.take_succ_cons,List.take_zero,List.drop_succ_cons,List.drop_zero,List.map_cons,List.map_nil] at hQ9 ⊢
 repeat (first|((with_reducible apply Phi.skip);· (intro ρ wq hx hp hk;simp [KnowsAll,aG,bD,looks,Op.operands,Call.operands,Act.eval] at hk;simp [wanted,undef,hk]))|((with_reducible apply Phi.pure);· (intro ρ wq hx hp hk;(first|(simp [KnowsAll,aG,bD,looks,Op.operands,Call.operands,Act.eval] at hk;refine⟨?_,?_⟩;(· (simp [wanted,undef,hk]));(· (simp [go_sem,hk,hp.1,hp.2.1,hp.2.2,hS wq hx];rfl)))|(refine⟨?_,?_⟩;(· (simp [wanted]));(· (simp [go_sem,hp.1,hp.2.1,hp.2.2,hS wq hx];rfl)))))))
 refine Phi.make (fun v W=>IsD W (cD (.mk 2 c neg mag t l)) v) (fun v W W' hx h=>h.keep hx.keeps) ?_ ?_;· (intro ρ wq hx hp hk;(first|(simp [KnowsAll,aG,bD,looks,Op.operands,Call.operands,Act.eval] at hk;refine⟨by simp [wanted,hk],OpGood.call (by simp [go_sem,hk,hp.1,hp.2.1,hp.2.2];exact⟨rfl,rfl⟩) ?_⟩)|(refine⟨by simp [wanted],OpGood.call (by simp [go_sem,hp.1,hp.2.1,hp.2.2];exact⟨rfl,rfl⟩) ?_⟩));exact HOWN.out _ (hx0.trans hx))
 refine Phi.make (fun v _=>v=.bool (eX (.mk 2 c neg mag t l) (cD (.mk 2 c neg mag t l)))) (Stab.const _) ?_ ?_;· (intro ρ wq hx hp hk;(first|(simp [KnowsAll,aG,bD,looks,Op.operands,Call.operands,Act.eval] at hk;refine⟨by simp [wanted,hk],OpGood.call (by simp [go_sem,hk,hp.1,hp.2.1,hp.2.2];exact⟨rfl,rfl⟩) ?_⟩)|(refine⟨by simp [wanted],OpGood.call (by simp [go_sem,hp.1,hp.2.1,hp.2.2];exact⟨rfl,rfl⟩) ?_⟩));exact fF (HFL.out _ (hx0.trans hx) _ hk.2.1))
 repeat (first|((with_reducible apply Phi.skip);· (intro ρ wq hx hp hk;simp [KnowsAll,aG,bD,looks,Op.operands,Call.operands,Act.eval] at hk;simp [wanted,undef,hk,hfl]))|((with_reducible apply Phi.pure);· (intro ρ wq hx hp hk;(first|(simp [KnowsAll,aG,bD,looks,Op.operands,Call.operands,Act.eval] at hk;refine⟨?_,?_⟩;(· (simp [wanted,undef,hk,hfl]));(· (simp [go_sem,hk,hp.1,hp.2.1,hp.2.2,hS wq hx,hfl];rfl)))|(refine⟨?_,?_⟩;(· (simp [wanted]));(· (simp [go_sem,hp.1,hp.2.1,hp.2.2,hS wq hx,hfl];rfl)))))))
 refine Phi.done ?_;intro w2 hx2;simp only [Final,List.nil_append,List.cons_append,forall_eq]
 intro v14 hv14
 ((refine hQ9 _ _ ?_);(try refine wpList_nil ?_);(clear hQ9 Q9));simp only [Act.put,List.setIfInBounds_toArray,List.set_cons_succ,List.set_cons_zero]
 obtain⟨c0,c1,c2,c3,c4,c5,-⟩:=hS w2 hx2
 clear hS BX HOWN HFL hfl hv14
 go_wp2_with fail
 go_ret
 exact⟨rfl,hx0.trans hx2⟩
set_option maxHeartbeats 4000000 in
theorem CM (c:Int) (neg:Bool) (mag:List Int) (t:ByteArray) (l:List D) (w:World) (v:Value) (h:IsD w (.mk 9 c neg mag t l) v) (hb:kI (.mk 9 c neg mag t l)) :
  Calls Tryz.prog 53 #[v] w fun e w'=>e=.returned (.bool (dP (.mk 9 c neg mag t l)))∧Ext w w':=by
 rw [jA 9 (by omega) hb]
 have HFL:=Lib.hid (fun W (hx:Ext w W) v' (hv:IsD W (cD (.mk 9 c neg mag t l)) v')=>fY (.mk 9 c neg mag t l) (cD (.mk 9 c neg mag t l)) W v v' (h.keep hx.keeps) hv)
 have HOWN:=Lib.hid (fun W (hx:Ext w W)=>iY 9 c neg mag t l W v (h.keep hx.keeps) (by omega) (by omega))
 obtain⟨am,cm,al,cl,rfl,hm,hl,-,-,-,-⟩:=h.open'
 have hx0:=(Ext.refl w).alloc (.cells #[.int .i64 9,.int .i32 c,.bool neg,.slice am mag.length cm,.string t,.slice al l.length cl] 28)
 have BX:=Lib.hid (fH w (.int .i64 9) (.int .i32 c) (.bool neg) (.slice am mag.length cm) (.string t) (.slice al l.length cl) 28)
 have hfl:eX (.mk 9 c neg mag t l) (cD (.mk 9 c neg mag t l))=true:=eY ((gO _).2 hb)
 clear h hb
 go_enter Tryz.func53,Tryz.ntmps53
 go_wp2_with fail
 obtain⟨c0,c1,c2,c3,c4,c5⟩:=BX.out
 have hS:∀W9,Ext _ W9→W9.cell? _=_∧W9.cell? _=_∧W9.cell? _=_∧W9.cell? _=_∧W9.cell? _=_∧W9.cell? _=_∧True:=fun W9 h=>⟨h.keeps _ _ c0,h.keeps _ _ c1,h.keeps _ _ c2,h.keeps _ _ c3,h.keeps _ _ c4,h.keeps _ _ c5,trivial⟩
 refine aY 15 _ _ _ rfl rfl rfl (by kernel_rfl) (by kernel_rfl) (by kernel_rfl) (fun Q9 hQ9=>?_);simp only [List.take_succ_cons,List.take_zero,List.drop_succ_cons,List.drop_zero,List.map_cons,List.map_nil] at hQ9 ⊢
 repeat (first|((with_reducible apply Phi.skip);· (intro ρ wq hx hp hk;simp [KnowsAll,aG,bD,looks,Op.operands,Call.operands,Act.eval] at hk;simp [wanted,undef,hk]))|((with_reducible apply Phi.pure);· (intro ρ wq hx hp hk;(first|(simp [KnowsAll,aG,bD,looks,Op.operands,Call.operands,Act.eval] at hk;refine⟨?_,?_⟩;(· (simp [wanted,undef,hk]));(· (simp [go_sem,hk,hp.1,hp.2.1,hp.2.2,hS wq hx];rfl)))|(refine⟨?_,?_⟩;(· (simp [wanted]));(· (simp [go_sem,hp.1,hp.2.1,hp.2.2,hS wq hx];rfl)))))))
 refine Phi.make (fun v W=>IsD W (cD (.mk 9 c neg mag t l)) v) (fun v W W' hx h=>h.keep hx.keeps) ?_ ?_;· (intro ρ wq hx hp hk;(first|(simp [KnowsAll,aG,bD,looks,Op.operands,Call.operands,Act.eval] at hk;refine⟨by simp [wanted,hk],OpGood.call (by simp [go_sem,hk,hp.1,hp.2.1,hp.2.2];exact⟨rfl,rfl⟩) ?_⟩)|(refine⟨by simp [wanted],OpGood.call (by simp [go_sem,hp.1,hp.2.1,hp.2.2];exact⟨rfl,rfl⟩) ?_⟩));exact HOWN.out _ (hx0.trans hx))
 refine Phi.make (fun v _=>v=.bool (eX (.mk 9 c neg mag t l) (cD (.mk 9 c neg mag t l)))) (Stab.const _) ?_ ?_;· (intro ρ wq hx hp hk;(first|(simp [KnowsAll,aG,bD,looks,Op.operands,Call.operands,Act.eval] at hk;refine⟨by simp [wanted,hk],OpGood.call (by simp [go_sem,hk,hp.1,hp.2.1,hp.2.2];exact⟨rfl,rfl⟩) ?_⟩)|(refine⟨by simp [wanted],OpGood.call (by simp [go_sem,hp.1,hp.2.1,hp.2.2];exact⟨rfl,rfl⟩) ?_⟩));exact fF (HFL.out _ (hx0.trans hx) _ hk.2.1))
 repeat (first|((with_reducible apply Phi.skip);· (intro ρ wq hx hp hk;simp [KnowsAll,aG,bD,looks,Op.operands,Call.operands,Act.eval] at hk;simp [wanted,undef,hk,hfl]))|((with_reducible apply Phi.pure);· (intro ρ wq hx hp hk;(first|(simp [KnowsAll,aG,bD,looks,Op.operands,Call.operands,Act.eval] at hk;refine⟨?_,?_⟩;(· (simp [wanted,undef,hk,hfl]));(· (simp [go_sem,hk,hp.1,hp.2.1,hp.2.2,hS wq hx,hfl];rfl)))|(refine⟨?_,?_⟩;(· (simp [wanted]));(· (simp [go_sem,hp.1,hp.2.1,hp.2.2,hS wq hx,hfl];rfl)))))))
 refine Phi.done ?_;intro w2 hx2;simp only [Final,List.nil_append,List.cons_append,forall_eq]
 intro v14 hv14
 ((refine hQ9 _ _ ?_);(try refine wpList_nil ?_);(clear hQ9 Q9));simp only [Act.put,List.setIfInBounds_toArray,List.set_cons_succ,List.set_cons_zero]
 obtain⟨c0,c1,c2,c3,c4,c5,-⟩:=hS w2 hx2
 clear hS BX HOWN HFL hfl hv14
 go_wp2_with fail
 go_ret
 exact⟨rfl,hx0.trans hx2⟩
set_option maxHeartbeats 4000000 in
theorem AE (c:Int) (neg:Bool) (mag:List Int) (t:ByteArray) (l:List D) (w:World) (v:Value) (h:IsD w (.mk 10 c neg mag t l) v) (hb:kI (.mk 10 c neg mag t l)) :
  Calls Tryz.prog 53 #[v] w fun e w'=>e=.returned (.bool (dP (.mk 10 c neg mag t l)))∧Ext w w':=by
 rw [jA 10 (by omega) hb]
 have HFL:=Lib.hid (fun W (hx:Ext w W) v' (hv:IsD W (cD (.mk 10 c neg mag t l)) v')=>fY (.mk 10 c neg mag t l) (cD (.mk 10 c neg mag t l)) W v v' (h.keep hx.keeps) hv)
 have HOWN:=Lib.hid (fun W (hx:Ext w W)=>iY 10 c neg mag t l W v (h.keep hx.keeps) (by omega) (by omega))
 obtain⟨am,cm,al,cl,rfl,hm,hl,-,-,-,-⟩:=h.open'
 have hx0:=(Ext.refl w).alloc (.cells #[.int .i64 10,.int .i32 c,.bool neg,.slice am mag.length cm,.string t,.slice al l.length cl] 28)
 have BX:=Lib.hid (fH w (.int .i64 10) (.int .i32 c) (.bool neg) (.slice am mag.length cm) (.string t) (.slice al l.length cl) 28)
 have hfl:eX (.mk 10 c neg mag t l) (cD (.mk 10 c neg mag t l))=true:=eY ((gO _).2 hb)
 clear h hb
 go_enter Tryz.func53,Tryz.ntmps53
 go_wp2_with fail
 obtain⟨c0,c1,c2,c3,c4,c5⟩:=BX.out
 have hS:∀W9,Ext _ W9→W9.cell? _=_∧W9.cell? _=_∧W9.cell? _=_∧W9.cell? _=_∧W9.cell? _=_∧W9.cell? _=_∧True:=fun W9 h=>⟨h.keeps _ _ c0,h.keeps _ _ c1,h.keeps _ _ c2,h.keeps _ _ c3,h.keeps _ _ c4,h.keeps _ _ c5,trivial⟩
 refine aY 15 _ _ _ rfl rfl rfl (by kernel_rfl) (by kernel_rfl) (by kernel_rfl) (fun Q9 hQ9=>?_);simp only [List.take_succ_cons,List.take_zero,List.drop_succ_cons,List.drop_zero,List.map_cons,List.map_nil] at hQ9 ⊢
 repeat (first|((with_reducible apply Phi.skip);· (intro ρ wq hx hp hk;simp [KnowsAll,aG,bD,looks,Op.operands,Call.operands,Act.eval] at hk;simp [wanted,undef,hk]))|((with_reducible apply Phi.pure);· (intro ρ wq hx hp hk;(first|(simp [KnowsAll,aG,bD,looks,Op.operands,Call.operands,Act.eval] at hk;refine⟨?_,?_⟩;(· (simp [wanted,undef,hk]));(· (simp [go_sem,hk,hp.1,hp.2.1,hp.2.2,hS wq hx];rfl)))|(refine⟨?_,?_⟩;(· (simp [wanted]));(· (simp [go_sem,hp.1,hp.2.1,hp.2.2,hS wq hx];rfl)))))))
 refine Phi.make (fun v W=>IsD W (cD (.mk 10 c neg mag t l)) v) (fun v W W' hx h=>h.keep hx.keeps) ?_ ?_;· (intro ρ wq hx hp hk;(first|(simp [KnowsAll,aG,bD,looks,Op.operands,Call.operands,Act.eval] at hk;refine⟨by simp [wanted,hk],OpGood.call (by simp [go_sem,hk,hp.1,hp.2.1,hp.2.2];exact⟨rfl,rfl⟩) ?_⟩)|(refine⟨by simp [wanted],OpGood.call (by simp [go_sem,hp.1,hp.2.1,hp.2.2];exact⟨rfl,rfl⟩) ?_⟩));exact HOWN.out _ (hx0.trans hx))
 refine Phi.make (fun v _=>v=.bool (eX (.mk 10 c neg mag t l) (cD (.mk 10 c neg mag t l)))) (Stab.const _) ?_ ?_;· (intro ρ wq hx hp hk;(first|(simp [KnowsAll,aG,bD,looks,Op.operands,Call.operands,Act.eval] at hk;refine⟨by simp [wanted,hk],OpGood.call (by simp [go_sem,hk,hp.1,hp.2.1,hp.2.2];exact⟨rfl,rfl⟩) ?_⟩)|(refine⟨by simp [wanted],OpGood.call (by simp [go_sem,hp.1,hp.2.1,hp.2.2];exact⟨rfl,rfl⟩) ?_⟩));exact fF (HFL.out _ (hx0.trans hx) _ hk.2.1))
 repeat (first|((with_reducible apply Phi.skip);· (intro ρ wq hx hp hk;simp [KnowsAll,aG,bD,looks,Op.operands,Call.operands,Act.eval] at hk;simp [wanted,undef,hk,hfl]))|((with_reducible apply Phi.pure);· (intro ρ wq hx hp hk;(first|(simp [KnowsAll,aG,bD,looks,Op.operands,Call.operands,Act.eval] at hk;refine⟨?_,?_⟩;(· (simp [wanted,undef,hk,hfl]));(· (simp [go_sem,hk,hp.1,hp.2.1,hp.2.2,hS wq hx,hfl];rfl)))|(refine⟨?_,?_⟩;(· (simp [wanted]));(· (simp [go_sem,hp.1,hp.2.1,hp.2.2,hS wq hx,hfl];rfl)))))))
 refine Phi.done ?_;intro w2 hx2;simp only [Final,List.nil_append,List.cons_append,forall_eq]
 intro v14 hv14
 ((refine hQ9 _ _ ?_);(try refine wpList_nil ?_);(clear hQ9 Q9));simp only [Act.put,List.setIfInBounds_toArray,List.set_cons_succ,List.set_cons_zero]
 obtain⟨c0,c1,c2,c3,c4,c5,-⟩:=hS w2 hx2
 clear hS BX HOWN HFL hfl hv14
 go_wp2_with fail
 go_ret
 exact⟨rfl,hx0.trans hx2⟩
set_option maxHeartbeats 4000000 in
theorem FD (c:Int) (neg:Bool) (mag:List Int) (t:ByteArray) (l:List D) (w:World) (v:Value) (h:IsD w (.mk 3 c neg mag t l) v) (hb:kI (.mk 3 c neg mag t l)) :
  Calls Tryz.prog 53 #[v] w fun e w'=>e=.returned (.bool (dP (.mk 3 c neg mag t l)))∧Ext w w':=by
 rw [GR hb]
 have HFL:=Lib.hid (fun W (hx:Ext w W) v' (hv:IsD W (cD (.mk 3 c neg mag t l)) v')=>fY (.mk 3 c neg mag t l) (cD (.mk 3 c neg mag t l)) W v v' (h.keep hx.keeps) hv)
 have HOWN:=Lib.hid (fun W (hx:Ext w W)=>iY 3 c neg mag t l W v (h.keep hx.keeps) (by omega) (by omega))
 obtain⟨am,cm,al,cl,rfl,hm,hl,-,-,-,-⟩:=h.open'
 have hx0:=(Ext.refl w).alloc (.cells #[.int .i64 3,.int .i32 c,.bool neg,.slice am mag.length cm,.string t,.slice al l.length cl] 28)
 have BX:=Lib.hid (fH w (.int .i64 3) (.int .i32 c) (.bool neg) (.slice am mag.length cm) (.string t) (.slice al l.length cl) 28)
 have hfl:eX (.mk 3 c neg mag t l) (cD (.mk 3 c neg mag t l))=true:=eY ((gO _).2 hb)
 clear h hb
 go_enter Tryz.func53,Tryz.ntmps53
 go_wp2_with fail
 obtain⟨c0,c1,c2,c3,c4,c5⟩:=BX.out
 have hS:∀W9,Ext _ W9→W9.cell? _=_∧W9.cell? _=_∧W9.cell? _=_∧W9.cell? _=_∧W9.cell? _=_∧W9.cell? _=_∧True:=fun W9 h=>⟨h.keeps _ _ c0,h.keeps _ _ c1,h.keeps _ _ c2,h.keeps _ _ c3,h.keeps _ _ c4,h.keeps _ _ c5,trivial⟩
 refine aY 15 _ _ _ rfl rfl rfl (by kernel_rfl) (by kernel_rfl) (by kernel_rfl) (fun Q9 hQ9=>?_);simp only [List.take_succ_cons,List.take_zero,List.drop_succ_cons,List.drop_zero,List.map_cons,List.map_nil] at hQ9 ⊢
 repeat (first|((with_reducible apply Phi.skip);· (intro ρ wq hx hp hk;simp [KnowsAll,aG,bD,looks,Op.operands,Call.operands,Act.eval] at hk;simp [wanted,undef,hk]))|((with_reducible apply Phi.pure);· (intro ρ wq hx hp hk;(first|(simp [KnowsAll,aG,bD,looks,Op.operands,Call.operands,Act.eval] at hk;refine⟨?_,?_⟩;(· (simp [wanted,undef,hk]));(· (simp [go_sem,hk,hp.1,hp.2.1,hp.2.2,hS wq hx];rfl)))|(refine⟨?_,?_⟩;(· (simp [wanted]));(· (simp [go_sem,hp.1,hp.2.1,hp.2.2,hS wq hx];rfl)))))))
 refine Phi.make (fun v W=>IsD W (cD (.mk 3 c neg mag t l)) v) (fun v W W' hx h=>h.keep hx.keeps) ?_ ?_;· (intro ρ wq hx hp hk;(first|(simp [KnowsAll,aG,bD,looks,Op.operands,Call.operands,Act.eval] at hk;refine⟨by simp [wanted,hk],OpGood.call (by simp [go_sem,hk,hp.1,hp.2.1,hp.2.2];exact⟨rfl,rfl⟩) ?_⟩)|(refine⟨by simp [wanted],OpGood.call (by simp [go_sem,hp.1,hp.2.1,hp.2.2];exact⟨rfl,rfl⟩) ?_⟩));exact HOWN.out _ (hx0.trans hx))
 refine Phi.make (fun v _=>v=.bool (eX (.mk 3 c neg mag t l) (cD (.mk 3 c neg mag t l)))) (Stab.const _) ?_ ?_;· (intro ρ wq hx hp hk;(first|(simp [KnowsAll,aG,bD,looks,Op.operands,Call.operands,Act.eval] at hk;refine⟨by simp [wanted,hk],OpGood.call (by simp [go_sem,hk,hp.1,hp.2.1,hp.2.2];exact⟨rfl,rfl⟩) ?_⟩)|(refine⟨by simp [wanted],OpGood.call (by simp [go_sem,hp.1,hp.2.1,hp.2.2];exact⟨rfl,rfl⟩) ?_⟩));exact fF (HFL.out _ (hx0.trans hx) _ hk.2.1))
 repeat (first|((with_reducible apply Phi.skip);· (intro ρ wq hx hp hk;simp [KnowsAll,aG,bD,looks,Op.operands,Call.operands,Act.eval] at hk;simp [wanted,undef,hk,hfl]))|((with_reducible apply Phi.pure);· (intro ρ wq hx hp hk;(first|(simp [KnowsAll,aG,bD,looks,Op.operands,Call.operands,Act.eval] at hk;refine⟨?_,?_⟩;(· (simp [wanted,undef,hk,hfl]));(· (simp [go_sem,hk,hp.1,hp.2.1,hp.2.2,hS wq hx,hfl];rfl)))|(refine⟨?_,?_⟩;(· (simp [wanted]));(· (simp [go_sem,hp.1,hp.2.1,hp.2.2,hS wq hx,hfl];rfl)))))))
 refine Phi.done ?_;intro w2 hx2;simp only [Final,List.nil_append,List.cons_append,forall_eq]
 intro v14 hv14
 ((refine hQ9 _ _ ?_);(try refine wpList_nil ?_);(clear hQ9 Q9));simp only [Act.put,List.setIfInBounds_toArray,List.set_cons_succ,List.set_cons_zero]
 obtain⟨c0,c1,c2,c3,c4,c5,-⟩:=hS w2 hx2
 clear hS BX HOWN HFL hfl hv14
 go_wp2_with fail
 refine (Tryz.utf8_ValidRune c _).mono ?_
 rintro e w3 ⟨rfl,rfl⟩
 go_wp2_with fail
 go_ret
 exact⟨rfl,hx0.trans hx2⟩
set_option maxHeartbeats 4000000 in
theorem HJ (c:Int) (neg:Bool) (mag:List Int) (t:ByteArray) (l:List D) (w:World) (v:Value) (h:IsD w (.mk 4 c neg mag t l) v) (hb:kI (.mk 4 c neg mag t l)) :
  Calls Tryz.prog 53 #[v] w fun e w'=>e=.returned (.bool (dP (.mk 4 c neg mag t l)))∧Ext w w':=by
 rw [KO hb]
 have HFL:=Lib.hid (fun W (hx:Ext w W) v' (hv:IsD W (cD (.mk 4 c neg mag t l)) v')=>fY (.mk 4 c neg mag t l) (cD (.mk 4 c neg mag t l)) W v v' (h.keep hx.keeps) hv)
 have HOWN:=Lib.hid (fun W (hx:Ext w W)=>iY 4 c neg mag t l W v (h.keep hx.keeps) (by omega) (by omega))
 obtain⟨am,cm,al,cl,rfl,hm,hl,-,-,-,-⟩:=h.open'
 have hx0:=(Ext.refl w).alloc (.cells #[.int .i64 4,.int .i32 c,.bool neg,.slice am mag.length cm,.string t,.slice al l.length cl] 28)
 have BX:=Lib.hid (fH w (.int .i64 4) (.int .i32 c) (.bool neg) (.slice am mag.length cm) (.string t) (.slice al l.length cl) 28)
 have hfl:eX (.mk 4 c neg mag t l) (cD (.mk 4 c neg mag t l))=true:=eY ((gO _).2 hb)
 clear h hb
 go_enter Tryz.func53,Tryz.ntmps53
 go_wp2_with fail
 obtain⟨c0,c1,c2,c3,c4,c5⟩:=BX.out
 have hS:∀W9,Ext _ W9→W9.cell? _=_∧W9.cell? _=_∧W9.cell? _=_∧W9.cell? _=_∧W9.cell? _=_∧W9.cell? _=_∧True:=fun W9 h=>⟨h.keeps _ _ c0,h.keeps _ _ c1,h.keeps _ _ c2,h.keeps _ _ c3,h.keeps _ _ c4,h.keeps _ _ c5,trivial⟩
 refine aY 15 _ _ _ rfl rfl rfl (by kernel_rfl) (by kernel_rfl) (by kernel_rfl) (fun Q9 hQ9=>?_);simp only [List.take_succ_cons,List.take_zero,List.drop_succ_cons,List.drop_zero,List.map_cons,List.map_nil] at hQ9 ⊢
 repeat (first|((with_reducible apply Phi.skip);· (intro ρ wq hx hp hk;simp [KnowsAll,aG,bD,looks,Op.operands,Call.operands,Act.eval] at hk;simp [wanted,undef,hk]))|((with_reducible apply Phi.pure);· (intro ρ wq hx hp hk;(first|(simp [KnowsAll,aG,bD,looks,Op.operands,Call.operands,Act.eval] at hk;refine⟨?_,?_⟩;(· (simp [wanted,undef,hk]));(· (simp [go_sem,hk,hp.1,hp.2.1,hp.2.2,hS wq hx];rfl)))|(refine⟨?_,?_⟩;(· (simp [wanted]));(· (simp [go_sem,hp.1,hp.2.1,hp.2.2,hS wq hx];rfl)))))))
 refine Phi.make (fun v W=>IsD W (cD (.mk 4 c neg mag t l)) v) (fun v W W' hx h=>h.keep hx.keeps) ?_ ?_;· (intro ρ wq hx hp hk;(first|(simp [KnowsAll,aG,bD,looks,Op.operands,Call.operands,Act.eval] at hk;refine⟨by simp [wanted,hk],OpGood.call (by simp [go_sem,hk,hp.1,hp.2.1,hp.2.2];exact⟨rfl,rfl⟩) ?_⟩)|(refine⟨by simp [wanted],OpGood.call (by simp [go_sem,hp.1,hp.2.1,hp.2.2];exact⟨rfl,rfl⟩) ?_⟩));exact HOWN.out _ (hx0.trans hx))
 refine Phi.make (fun v _=>v=.bool (eX (.mk 4 c neg mag t l) (cD (.mk 4 c neg mag t l)))) (Stab.const _) ?_ ?_;· (intro ρ wq hx hp hk;(first|(simp [KnowsAll,aG,bD,looks,Op.operands,Call.operands,Act.eval] at hk;refine⟨by simp [wanted,hk],OpGood.call (by simp [go_sem,hk,hp.1,hp.2.1,hp.2.2];exact⟨rfl,rfl⟩) ?_⟩)|(refine⟨by simp [wanted],OpGood.call (by simp [go_sem,hp.1,hp.2.1,hp.2.2];exact⟨rfl,rfl⟩) ?_⟩));exact fF (HFL.out _ (hx0.trans hx) _ hk.2.1))
 repeat (first|((with_reducible apply Phi.skip);· (intro ρ wq hx hp hk;simp [KnowsAll,aG,bD,looks,Op.operands,Call.operands,Act.eval] at hk;simp [wanted,undef,hk,hfl]))|((with_reducible apply Phi.pure);· (intro ρ wq hx hp hk;(first|(simp [KnowsAll,aG,bD,looks,Op.operands,Call.operands,Act.eval] at hk;refine⟨?_,?_⟩;(· (simp [wanted,undef,hk,hfl]));(· (simp [go_sem,hk,hp.1,hp.2.1,hp.2.2,hS wq hx,hfl];rfl)))|(refine⟨?_,?_⟩;(· (simp [wanted]));(· (simp [go_sem,hp.1,hp.2.1,hp.2.2,hS wq hx,hfl];rfl)))))))
 refine Phi.done ?_;intro w2 hx2;simp only [Final,List.nil_append,List.cons_append,forall_eq]
 intro v14 hv14
 ((refine hQ9 _ _ ?_);(try refine wpList_nil ?_);(clear hQ9 Q9));simp only [Act.put,List.setIfInBounds_toArray,List.set_cons_succ,List.set_cons_zero]
 obtain⟨c0,c1,c2,c3,c4,c5,-⟩:=hS w2 hx2
 clear hS BX HOWN HFL hfl hv14
 go_wp2_with fail
 refine (FY neg mag _ _ (hm.keep (hx0.trans hx2).keeps)).mono ?_
 rintro e w3 ⟨rfl,hx3⟩
 go_wp2_with fail
 go_ret
 exact⟨rfl,hx0.trans (hx2.trans hx3)⟩
set_option maxHeartbeats 4000000 in
theorem HK (c:Int) (neg:Bool) (mag:List Int) (t:ByteArray) (l:List D) (w:World) (v:Value) (h:IsD w (.mk 6 c neg mag t l) v) (hb:kI (.mk 6 c neg mag t l)) (hs:t.size<9223372036854775807) (hT:Tabs w) :
  Calls Tryz.prog 53 #[v] w fun e w'=>e=.returned (.bool (dP (.mk 6 c neg mag t l)))∧Ext w w':=by
 rw [AU hb]
 have HFL:=Lib.hid (fun W (hx:Ext w W) v' (hv:IsD W (cD (.mk 6 c neg mag t l)) v')=>fY (.mk 6 c neg mag t l) (cD (.mk 6 c neg mag t l)) W v v' (h.keep hx.keeps) hv)
 have HOWN:=Lib.hid (fun W (hx:Ext w W)=>iY 6 c neg mag t l W v (h.keep hx.keeps) (by omega) (by omega))
 obtain⟨am,cm,al,cl,rfl,hm,hl,-,-,-,-⟩:=h.open'
 have hx0:=(Ext.refl w).alloc (.cells #[.int .i64 6,.int .i32 c,.bool neg,.slice am mag.length cm,.string t,.slice al l.length cl] 28)
 have BX:=Lib.hid (fH w (.int .i64 6) (.int .i32 c) (.bool neg) (.slice am mag.length cm) (.string t) (.slice al l.length cl) 28)
 have hfl:eX (.mk 6 c neg mag t l) (cD (.mk 6 c neg mag t l))=true:=eY ((gO _).2 hb)
 clear h hb
 go_enter Tryz.func53,Tryz.ntmps53
 go_wp2_with fail
 obtain⟨c0,c1,c2,c3,c4,c5⟩:=BX.out
 have hS:∀W9,Ext _ W9→W9.cell? _=_∧W9.cell? _=_∧W9.cell? _=_∧W9.cell? _=_∧W9.cell? _=_∧W9.cell? _=_∧True:=fun W9 h=>⟨h.keeps _ _ c0,h.keeps _ _ c1,h.keeps _ _ c2,h.keeps _ _ c3,h.keeps _ _ c4,h.keeps _ _ c5,trivial⟩
 refine aY 15 _ _ _ rfl rfl rfl (by kernel_rfl) (by kernel_rfl) (by kernel_rfl) (fun Q9 hQ9=>?_);simp only [List.take_succ_cons,List.take_zero,List.drop_succ_cons,List.drop_zero,List.map_cons,List.map_nil] at hQ9 ⊢
 repeat (first|((with_reducible apply Phi.skip);· (intro ρ wq hx hp hk;simp [KnowsAll,aG,bD,looks,Op.operands,Call.operands,Act.eval] at hk;simp [wanted,undef,hk]))|((with_reducible apply Phi.pure);· (intro ρ wq hx hp hk;(first|(simp [KnowsAll,aG,bD,looks,Op.operands,Call.operands,Act.eval] at hk;refine⟨?_,?_⟩;(· (simp [wanted,undef,hk]));(· (simp [go_sem,hk,hp.1,hp.2.1,hp.2.2,hS wq hx];rfl)))|(refine⟨?_,?_⟩;(· (simp [wanted]));(· (simp [go_sem,hp.1,hp.2.1,hp.2.2,hS wq hx];rfl)))))))
 refine Phi.make (fun v W=>IsD W (cD (.mk 6 c neg mag t l)) v) (fun v W W' hx h=>h.keep hx.keeps) ?_ ?_;· (intro ρ wq hx hp hk;(first|(simp [KnowsAll,aG,bD,looks,Op.operands,Call.operands,Act.eval] at hk;refine⟨by simp [wanted,hk],OpGood.call (by simp [go_sem,hk,hp.1,hp.2.1,hp.2.2];exact⟨rfl,rfl⟩) ?_⟩)|(refine⟨by simp [wanted],OpGood.call (by simp [go_sem,hp.1,hp.2.1,hp.2.2];exact⟨rfl,rfl⟩) ?_⟩));exact HOWN.out _ (hx0.trans hx))
 refine Phi.make (fun v _=>v=.bool (eX (.mk 6 c neg mag t l) (cD (.mk 6 c neg mag t l)))) (Stab.const _) ?_ ?_;· (intro ρ wq hx hp hk;(first|(simp [KnowsAll,aG,bD,looks,Op.operands,Call.operands,Act.eval] at hk;refine⟨by simp [wanted,hk],OpGood.call (by simp [go_sem,hk,hp.1,hp.2.1,hp.2.2];exact⟨rfl,rfl⟩) ?_⟩)|(refine⟨by simp [wanted],OpGood.call (by simp [go_sem,hp.1,hp.2.1,hp.2.2];exact⟨rfl,rfl⟩) ?_⟩));exact fF (HFL.out _ (hx0.trans hx) _ hk.2.1))
 repeat (first|((with_reducible apply Phi.skip);· (intro ρ wq hx hp hk;simp [KnowsAll,aG,bD,looks,Op.operands,Call.operands,Act.eval] at hk;simp [wanted,undef,hk,hfl]))|((with_reducible apply Phi.pure);· (intro ρ wq hx hp hk;(first|(simp [KnowsAll,aG,bD,looks,Op.operands,Call.operands,Act.eval] at hk;refine⟨?_,?_⟩;(· (simp [wanted,undef,hk,hfl]));(· (simp [go_sem,hk,hp.1,hp.2.1,hp.2.2,hS wq hx,hfl];rfl)))|(refine⟨?_,?_⟩;(· (simp [wanted]));(· (simp [go_sem,hp.1,hp.2.1,hp.2.2,hS wq hx,hfl];rfl)))))))
 refine Phi.done ?_;intro w2 hx2;simp only [Final,List.nil_append,List.cons_append,forall_eq]
 intro v14 hv14
 ((refine hQ9 _ _ ?_);(try refine wpList_nil ?_);(clear hQ9 Q9));simp only [Act.put,List.setIfInBounds_toArray,List.set_cons_succ,List.set_cons_zero]
 obtain⟨c0,c1,c2,c3,c4,c5,-⟩:=hS w2 hx2
 clear hS BX HOWN HFL hfl hv14
 go_wp2_with fail
 refine (DP t 1 _ hs (hT.ext (hx0.trans hx2))).mono ?_
 rintro e w3 ⟨rfl,hx3⟩
 go_wp2_with fail
 go_ret
 exact⟨rfl,hx0.trans (hx2.trans hx3)⟩
set_option maxHeartbeats 4000000 in
theorem HQ (c:Int) (neg:Bool) (mag:List Int) (t:ByteArray) (l:List D) (w:World) (v:Value) (h:IsD w (.mk 5 c neg mag t l) v) (hb:kI (.mk 5 c neg mag t l)) (hs:t.size<9223372036854775807) (hT:Tabs w) :
  Calls Tryz.prog 53 #[v] w fun e w'=>e=.returned (.bool (dP (.mk 5 c neg mag t l)))∧Ext w w':=by
 rw [KP hb]
 have HFL:=Lib.hid (fun W (hx:Ext w W) v' (hv:IsD W (cD (.mk 5 c neg mag t l)) v')=>fY (.mk 5 c neg mag t l) (cD (.mk 5 c neg mag t l)) W v v' (h.keep hx.keeps) hv)
 have HOWN:=Lib.hid (fun W (hx:Ext w W)=>iY 5 c neg mag t l W v (h.keep hx.keeps) (by omega) (by omega))
 obtain⟨am,cm,al,cl,rfl,hm,hl,-,-,-,-⟩:=h.open'
 have hx0:=(Ext.refl w).alloc (.cells #[.int .i64 5,.int .i32 c,.bool neg,.slice am mag.length cm,.string t,.slice al l.length cl] 28)
 have BX:=Lib.hid (fH w (.int .i64 5) (.int .i32 c) (.bool neg) (.slice am mag.length cm) (.string t) (.slice al l.length cl) 28)
 have hfl:eX (.mk 5 c neg mag t l) (cD (.mk 5 c neg mag t l))=true:=eY ((gO _).2 hb)
 clear h hb
 go_enter Tryz.func53,Tryz.ntmps53
 go_wp2_with fail
 obtain⟨c0,c1,c2,c3,c4,c5⟩:=BX.out
 have hS:∀W9,Ext _ W9→W9.cell? _=_∧W9.cell? _=_∧W9.cell? _=_∧W9.cell? _=_∧W9.cell? _=_∧W9.cell? _=_∧True:=fun W9 h=>⟨h.keeps _ _ c0,h.keeps _ _ c1,h.keeps _ _ c2,h.keeps _ _ c3,h.keeps _ _ c4,h.keeps _ _ c5,trivial⟩
 refine aY 15 _ _ _ rfl rfl rfl (by kernel_rfl) (by kernel_rfl) (by kernel_rfl) (fun Q9 hQ9=>?_);simp only [List.take_succ_cons,List.take_zero,List.drop_succ_cons,List.drop_zero,List.map_cons,List.map_nil] at hQ9 ⊢
 repeat (first|((with_reducible apply Phi.skip);· (intro ρ wq hx hp hk;simp [KnowsAll,aG,bD,looks,Op.operands,Call.operands,Act.eval] at hk;simp [wanted,undef,hk]))|((with_reducible apply Phi.pure);· (intro ρ wq hx hp hk;(first|(simp [KnowsAll,aG,bD,looks,Op.operands,Call.operands,Act.eval] at hk;refine⟨?_,?_⟩;(· (simp [wanted,undef,hk]));(· (simp [go_sem,hk,hp.1,hp.2.1,hp.2.2,hS wq hx];rfl)))|(refine⟨?_,?_⟩;(· (simp [wanted]));(· (simp [go_sem,hp.1,hp.2.1,hp.2.2,hS wq hx];rfl)))))))
 refine Phi.make (fun v W=>IsD W (cD (.mk 5 c neg mag t l)) v) (fun v W W' hx h=>h.keep hx.keeps) ?_ ?_;· (intro ρ wq hx hp hk;(first|(simp [KnowsAll,aG,bD,looks,Op.operands,Call.operands,Act.eval] at hk;refine⟨by simp [wanted,hk],OpGood.call (by simp [go_sem,hk,hp.1,hp.2.1,hp.2.2];exact⟨rfl,rfl⟩) ?_⟩)|(refine⟨by simp [wanted],OpGood.call (by simp [go_sem,hp.1,hp.2.1,hp.2.2];exact⟨rfl,rfl⟩) ?_⟩));exact HOWN.out _ (hx0.trans hx))
 refine Phi.make (fun v _=>v=.bool (eX (.mk 5 c neg mag t l) (cD (.mk 5 c neg mag t l)))) (Stab.const _) ?_ ?_;· (intro ρ wq hx hp hk;(first|(simp [KnowsAll,aG,bD,looks,Op.operands,Call.operands,Act.eval] at hk;refine⟨by simp [wanted,hk],OpGood.call (by simp [go_sem,hk,hp.1,hp.2.1,hp.2.2];exact⟨rfl,rfl⟩) ?_⟩)|(refine⟨by simp [wanted],OpGood.call (by simp [go_sem,hp.1,hp.2.1,hp.2.2];exact⟨rfl,rfl⟩) ?_⟩));exact fF (HFL.out _ (hx0.trans hx) _ hk.2.1))
 repeat (first|((with_reducible apply Phi.skip);· (intro ρ wq hx hp hk;simp [KnowsAll,aG,bD,looks,Op.operands,Call.operands,Act.eval] at hk;simp [wanted,undef,hk,hfl]))|((with_reducible apply Phi.pure);· (intro ρ wq hx hp hk;(first|(simp [KnowsAll,aG,bD,looks,Op.operands,Call.operands,Act.eval] at hk;refine⟨?_,?_⟩;(· (simp [wanted,undef,hk,hfl]));(· (simp [go_sem,hk,hp.1,hp.2.1,hp.2.2,hS wq hx,hfl];rfl)))|(refine⟨?_,?_⟩;(· (simp [wanted]));(· (simp [go_sem,hp.1,hp.2.1,hp.2.2,hS wq hx,hfl];rfl)))))))
 refine Phi.done ?_;intro w2 hx2;simp only [Final,List.nil_append,List.cons_append,forall_eq]
 intro v14 hv14
 ((refine hQ9 _ _ ?_);(try refine wpList_nil ?_);(clear hQ9 Q9));simp only [Act.put,List.setIfInBounds_toArray,List.set_cons_succ,List.set_cons_zero]
 obtain⟨c0,c1,c2,c3,c4,c5,-⟩:=hS w2 hx2
 clear hS BX HOWN HFL hfl hv14
 go_wp2_with fail
 refine (DP t 0 _ hs (hT.ext (hx0.trans hx2))).mono ?_
 rintro e w3 ⟨rfl,hx3⟩
 go_wp2_with fail
 go_ret
 exact⟨rfl,hx0.trans (hx2.trans hx3)⟩
end Go.Proofs.YtaeioidifpebdaaGreatDoor
