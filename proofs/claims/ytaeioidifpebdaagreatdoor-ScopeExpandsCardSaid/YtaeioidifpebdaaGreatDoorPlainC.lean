
import Derived.Test.YtaeioidifpebdaaGreatDoorPlainB
namespace Go.Proofs.YtaeioidifpebdaaGreatDoor
open Go.RowKit
set_option linter.unusedSimpArgs false
set_option linter.unusedVariables false

set_option maxHeartbeats 4000000 in
theorem FE (c:Int) (neg:Bool) (mag:List Int) (t:ByteArray) (l:List D) (w:World) (v:Value) (h:IsD w (.mk 0 c neg mag t l) v) (hb:kV (.mk 0 c neg mag t l)) :
  Calls Tryz.prog 53 #[v] w fun e w'=>e=.returned (.bool (dT (.mk 0 c neg mag t l)))∧Ext w w':=by
 rw [jO 0 (by omega) hb]
 have HFL:=Lib.hid (fun W (hx:Ext w W) v' (hv:IsD W (cQ (.mk 0 c neg mag t l)) v')=>gK (.mk 0 c neg mag t l) (cQ (.mk 0 c neg mag t l)) W v v' (h.keep hx.keeps) hv)
 have HOWN:=Lib.hid (fun W (hx:Ext w W)=>jM 0 c neg mag t l W v (h.keep hx.keeps) (by omega) (by omega))
 obtain⟨am,cm,al,cl,rfl,hm,hl,-,-,-,-⟩:=h.open'
 have hx0:=(Ext.refl w).alloc (.cells #[.int .i64 0,.int .i32 c,.bool neg,.slice am mag.length cm,.string t,.slice al l.length cl] 28)
 have BX:=Lib.hid (fO w (.int .i64 0) (.int .i32 c) (.bool neg) (.slice am mag.length cm) (.string t) (.slice al l.length cl) 28)
 have hfl:eZ (.mk 0 c neg mag t l) (cQ (.mk 0 c neg mag t l))=true:=fB ((gX _).2 hb)
 clear h hb
 go_enter Tryz.func53,Tryz.ntmps53
 go_wp2_with fail
 obtain⟨c0,c1,c2,c3,c4,c5⟩:=BX.out
 have hS:∀W9,Ext _ W9→W9.cell? _=_∧W9.cell? _=_∧W9.cell? _=_∧W9.cell? _=_∧W9.cell? _=_∧W9.cell? _=_∧True:=fun W9 h=>⟨h.keeps _ _ c0,h.keeps _ _ c1,h.keeps _ _ c2,h.keeps _ _ c3,h.keeps _ _ c4,h.keeps _ _ c5,trivial⟩
 refine bH 15 _ _ _ rfl rfl rfl (by kernel_rfl) (by kernel_rfl) (by kernel_rfl) (fun Q9 hQ9=>?_);simp only [List.take_succ_cons,List.take_zero,List.drop_succ_cons,List.drop_zero,List.map_cons,List.map_nil] at hQ9 ⊢
 repeat (first|((with_reducible apply Phi.skip);· (intro ρ wq hx hp hk;simp [KnowsAll,aG,bP,looks,Op.operands,Call.operands,Act.eval] at hk;simp [wanted,undef,hk]))|((with_reducible apply Phi.pure);· (intro ρ wq hx hp hk;(first|(simp [KnowsAll,aG,bP,looks,Op.operands,Call.operands,Act.eval] at hk;refine⟨?_,?_⟩;(· (simp [wanted,undef,hk]));(· (simp [go_sem,hk,hp.1,hp.2.1,hp.2.2,hS wq hx];rfl)))|(refine⟨?_,?_⟩;(· (simp [wanted]));(· (simp [go_sem,hp.1,hp.2.1,hp.2.2,hS wq hx];rfl)))))))
 refine Phi.make (fun v W=>IsD W (cQ (.mk 0 c neg mag t l)) v) (fun v W W' hx h=>h.keep hx.keeps) ?_ ?_;· (intro ρ wq hx hp hk;(first|(simp [KnowsAll,aG,bP,looks,Op.operands,Call.operands,Act.eval] at hk;refine⟨by simp [wanted,hk],OpGood.call (by simp [go_sem,hk,hp.1,hp.2.1,hp.2.2];exact⟨rfl,rfl⟩) ?_⟩)|(refine⟨by simp [wanted],OpGood.call (by simp [go_sem,hp.1,hp.2.1,hp.2.2];exact⟨rfl,rfl⟩) ?_⟩));exact HOWN.out _ (hx0.trans hx))
 refine Phi.make (fun v _=>v=.bool (eZ (.mk 0 c neg mag t l) (cQ (.mk 0 c neg mag t l)))) (Stab.const _) ?_ ?_;· (intro ρ wq hx hp hk;(first|(simp [KnowsAll,aG,bP,looks,Op.operands,Call.operands,Act.eval] at hk;refine⟨by simp [wanted,hk],OpGood.call (by simp [go_sem,hk,hp.1,hp.2.1,hp.2.2];exact⟨rfl,rfl⟩) ?_⟩)|(refine⟨by simp [wanted],OpGood.call (by simp [go_sem,hp.1,hp.2.1,hp.2.2];exact⟨rfl,rfl⟩) ?_⟩));exact fN (HFL.out _ (hx0.trans hx) _ hk.2.1))
 repeat (first|((with_reducible apply Phi.skip);· (intro ρ wq hx hp hk;simp [KnowsAll,aG,bP,looks,Op.operands,Call.operands,Act.eval] at hk;simp [wanted,undef,hk,hfl]))|((with_reducible apply Phi.pure);· (intro ρ wq hx hp hk;(first|(simp [KnowsAll,aG,bP,looks,Op.operands,Call.operands,Act.eval] at hk;refine⟨?_,?_⟩;(· (simp [wanted,undef,hk,hfl]));(· (simp [go_sem,hk,hp.1,hp.2.1,hp.2.2,hS wq hx,hfl];rfl)))|(refine⟨?_,?_⟩;(· (simp [wanted]));(· (simp [go_sem,hp.1,hp.2.1,hp.2.2,hS wq hx,hfl];rfl)))))))
 refine Phi.done ?_;intro w2 hx2;simp only [Final,List.nil_append,List.cons_append,forall_eq]
 intro v14 hv14
 ((refine hQ9 _ _ ?_);(try refine wpList_nil ?_);(clear hQ9 Q9));simp only [Act.put,List.setIfInBounds_toArray,List.set_cons_succ,List.set_cons_zero]
 obtain⟨c0,c1,c2,c3,c4,c5,-⟩:=hS w2 hx2
 clear hS BX HOWN HFL hfl hv14
 go_wp2_with fail
 go_ret
 exact⟨rfl,hx0.trans hx2⟩
set_option maxHeartbeats 4000000 in
theorem FF (c:Int) (neg:Bool) (mag:List Int) (t:ByteArray) (l:List D) (w:World) (v:Value) (h:IsD w (.mk 1 c neg mag t l) v) (hb:kV (.mk 1 c neg mag t l)) :
  Calls Tryz.prog 53 #[v] w fun e w'=>e=.returned (.bool (dT (.mk 1 c neg mag t l)))∧Ext w w':=by
 rw [jO 1 (by omega) hb]
 have HFL:=Lib.hid (fun W (hx:Ext w W) v' (hv:IsD W (cQ (.mk 1 c neg mag t l)) v')=>gK (.mk 1 c neg mag t l) (cQ (.mk 1 c neg mag t l)) W v v' (h.keep hx.keeps) hv)
 have HOWN:=Lib.hid (fun W (hx:Ext w W)=>jM 1 c neg mag t l W v (h.keep hx.keeps) (by omega) (by omega))
 obtain⟨am,cm,al,cl,rfl,hm,hl,-,-,-,-⟩:=h.open'
 have hx0:=(Ext.refl w).alloc (.cells #[.int .i64 1,.int .i32 c,.bool neg,.slice am mag.length cm,.string t,.slice al l.length cl] 28)
 have BX:=Lib.hid (fO w (.int .i64 1) (.int .i32 c) (.bool neg) (.slice am mag.length cm) (.string t) (.slice al l.length cl) 28)
 have hfl:eZ (.mk 1 c neg mag t l) (cQ (.mk 1 c neg mag t l))=true:=fB ((gX _).2 hb)
 clear h hb
 go_enter Tryz.func53,Tryz.ntmps53
 go_wp2_with fail
 obtain⟨c0,c1,c2,c3,c4,c5⟩:=BX.out
 have hS:∀W9,Ext _ W9→W9.cell? _=_∧W9.cell? _=_∧W9.cell? _=_∧W9.cell? _=_∧W9.cell? _=_∧W9.cell? _=_∧True:=fun W9 h=>⟨h.keeps _ _ c0,h.keeps _ _ c1,h.keeps _ _ c2,h.keeps _ _ c3,h.keeps _ _ c4,h.keeps _ _ c5,trivial⟩
 refine bH 15 _ _ _ rfl rfl rfl (by kernel_rfl) (by kernel_rfl) (by kernel_rfl) (fun Q9 hQ9=>?_);simp only [List.take_succ_cons,List.take_zero,List.drop_succ_cons,List.drop_zero,List.map_cons,List.map_nil] at hQ9 ⊢
 repeat (first|((with_reducible apply Phi.skip);· (intro ρ wq hx hp hk;simp [KnowsAll,aG,bP,looks,Op.operands,Call.operands,Act.eval] at hk;simp [wanted,undef,hk]))|((with_reducible apply Phi.pure);· (intro ρ wq hx hp hk;(first|(simp [KnowsAll,aG,bP,looks,Op.operands,Call.operands,Act.eval] at hk;refine⟨?_,?_⟩;(· (simp [wanted,undef,hk]));(· (simp [go_sem,hk,hp.1,hp.2.1,hp.2.2,hS wq hx];rfl)))|(refine⟨?_,?_⟩;(· (simp [wanted]));(· (simp [go_sem,hp.1,hp.2.1,hp.2.2,hS wq hx];rfl)))))))
 refine Phi.make (fun v W=>IsD W (cQ (.mk 1 c neg mag t l)) v) (fun v W W' hx h=>h.keep hx.keeps) ?_ ?_;· (intro ρ wq hx hp hk;(first|(simp [KnowsAll,aG,bP,looks,Op.operands,Call.operands,Act.eval] at hk;refine⟨by simp [wanted,hk],OpGood.call (by simp [go_sem,hk,hp.1,hp.2.1,hp.2.2];exact⟨rfl,rfl⟩) ?_⟩)|(refine⟨by simp [wanted],OpGood.call (by simp [go_sem,hp.1,hp.2.1,hp.2.2];exact⟨rfl,rfl⟩) ?_⟩));exact HOWN.out _ (hx0.trans hx))
 refine Phi.make (fun v _=>v=.bool (eZ (.mk 1 c neg mag t l) (cQ (.mk 1 c neg mag t l)))) (Stab.const _) ?_ ?_;· (intro ρ wq hx hp hk;(first|(simp [KnowsAll,aG,bP,looks,Op.operands,Call.operands,Act.eval] at hk;refine⟨by simp [wanted,hk],OpGood.call (by simp [go_sem,hk,hp.1,hp.2.1,hp.2.2];exact⟨rfl,rfl⟩) ?_⟩)|(refine⟨by simp [wanted],OpGood.call (by simp [go_sem,hp.1,hp.2.1,hp.2.2];exact⟨rfl,rfl⟩) ?_⟩));exact fN (HFL.out _ (hx0.trans hx) _ hk.2.1))
 repeat (first|((with_reducible apply Phi.skip);· (intro ρ wq hx hp hk;simp [KnowsAll,aG,bP,looks,Op.operands,Call.operands,Act.eval] at hk;simp [wanted,undef,hk,hfl]))|((with_reducible apply Phi.pure);· (intro ρ wq hx hp hk;(first|(simp [KnowsAll,aG,bP,looks,Op.operands,Call.operands,Act.eval] at hk;refine⟨?_,?_⟩;(· (simp [wanted,undef,hk,hfl]));(· (simp [go_sem,hk,hp.1,hp.2.1,hp.2.2,hS wq hx,hfl];rfl)))|(refine⟨?_,?_⟩;(· (simp [wanted]));(· (simp [go_sem,hp.1,hp.2.1,hp.2.2,hS wq hx,hfl];rfl)))))))
 refine Phi.done ?_;intro w2 hx2;simp only [Final,List.nil_append,List.cons_append,forall_eq]
 intro v14 hv14
 ((refine hQ9 _ _ ?_);(try refine wpList_nil ?_);(clear hQ9 Q9));simp only [Act.put,List.setIfInBounds_toArray,List.set_cons_succ,List.set_cons_zero]
 obtain⟨c0,c1,c2,c3,c4,c5,-⟩:=hS w2 hx2
 clear hS BX HOWN HFL hfl hv14
 go_wp2_with fail
 go_ret
 exact⟨rfl,hx0.trans hx2⟩
set_option maxHeartbeats 4000000 in
theorem FG (c:Int) (neg:Bool) (mag:List Int) (t:ByteArray) (l:List D) (w:World) (v:Value) (h:IsD w (.mk 2 c neg mag t l) v) (hb:kV (.mk 2 c neg mag t l)) :
  Calls Tryz.prog 53 #[v] w fun e w'=>e=.returned (.bool (dT (.mk 2 c neg mag t l)))∧Ext w w':=by
 rw [jO 2 (by omega) hb]
 have HFL:=Lib.hid (fun W (hx:Ext w W) v' (hv:IsD W (cQ (.mk 2 c neg mag t l)) v')=>gK (.mk 2 c neg mag t l) (cQ (.mk 2 c neg mag t l)) W v v' (h.keep hx.keeps) hv)
 have HOWN:=Lib.hid (fun W (hx:Ext w W)=>jM 2 c neg mag t l W v (h.keep hx.keeps) (by omega) (by omega))
 obtain⟨am,cm,al,cl,rfl,hm,hl,-,-,-,-⟩:=h.open'
 have hx0:=(Ext.refl w).alloc (.cells #[.int .i64 2,.int .i32 c,.bool neg,.slice am mag.length cm,.string t,.slice al l.length cl] 28)
 have BX:=Lib.hid (fO w (.int .i64 2) (.int .i32 c) (.bool neg) (.slice am mag.length cm) (.string t) (.slice al l.length cl) 28)
 have hfl:eZ (.mk 2 c neg mag t l) (cQ (.mk 2 c neg mag t l))=true:=fB ((gX _).2 hb)
 clear h hb
 go_enter Tryz.func53,Tryz.ntmps53
 go_wp2_with fail
 obtain⟨c0,c1,c2,c3,c4,c5⟩:=BX.out
 have hS:∀W9,Ext _ W9→W9.cell? _=_∧W9.cell? _=_∧W9.cell? _=_∧W9.cell? _=_∧W9.cell? _=_∧W9.cell? _=_∧True:=fun W9 h=>⟨h.keeps _ _ c0,h.keeps _ _ c1,h.keeps _ _ c2,h.keeps _ _ c3,h.keeps _ _ c4,h.keeps _ _ c5,trivial⟩
 refine bH 15 _ _ _ rfl rfl rfl (by kernel_rfl) (by kernel_rfl) (by kernel_rfl) (fun Q9 hQ9=>?_);simp only [List.take_succ_cons,List.take_zero,List.drop_succ_cons,List.drop_zero,List.map_cons,List.map_nil] at hQ9 ⊢
 repeat (first|((with_reducible apply Phi.skip);· (intro ρ wq hx hp hk;simp [KnowsAll,aG,bP,looks,Op.operands,Call.operands,Act.eval] at hk;simp [wanted,undef,hk]))|((with_reducible apply Phi.pure);· (intro ρ wq hx hp hk;(first|(simp [KnowsAll,aG,bP,looks,Op.operands,Call.operands,Act.eval] at hk;refine⟨?_,?_⟩;(· (simp [wanted,undef,hk]));(· (simp [go_sem,hk,hp.1,hp.2.1,hp.2.2,hS wq hx];rfl)))|(refine⟨?_,?_⟩;(· (simp [wanted]));(· (simp [go_sem,hp.1,hp.2.1,hp.2.2,hS wq hx];rfl)))))))
 refine Phi.make (fun v W=>IsD W (cQ (.mk 2 c neg mag t l)) v) (fun v W W' hx h=>h.keep hx.keeps) ?_ ?_;· (intro ρ wq hx hp hk;(first|(simp [KnowsAll,aG,bP,looks,Op.operands,Call.operands,Act.eval] at hk;refine⟨by simp [wanted,hk],OpGood.call (by simp [go_sem,hk,hp.1,hp.2.1,hp.2.2];exact⟨rfl,rfl⟩) ?_⟩)|(refine⟨by simp [wanted],OpGood.call (by simp [go_sem,hp.1,hp.2.1,hp.2.2];exact⟨rfl,rfl⟩) ?_⟩));exact HOWN.out _ (hx0.trans hx))
 refine Phi.make (fun v _=>v=.bool (eZ (.mk 2 c neg mag t l) (cQ (.mk 2 c neg mag t l)))) (Stab.const _) ?_ ?_;· (intro ρ wq hx hp hk;(first|(simp [KnowsAll,aG,bP,looks,Op.operands,Call.operands,Act.eval] at hk;refine⟨by simp [wanted,hk],OpGood.call (by simp [go_sem,hk,hp.1,hp.2.1,hp.2.2];exact⟨rfl,rfl⟩) ?_⟩)|(refine⟨by simp [wanted],OpGood.call (by simp [go_sem,hp.1,hp.2.1,hp.2.2];exact⟨rfl,rfl⟩) ?_⟩));exact fN (HFL.out _ (hx0.trans hx) _ hk.2.1))
 repeat (first|((with_reducible apply Phi.skip);· (intro ρ wq hx hp hk;simp [KnowsAll,aG,bP,looks,Op.operands,Call.operands,Act.eval] at hk;simp [wanted,undef,hk,hfl]))|((with_reducible apply Phi.pure);· (intro ρ wq hx hp hk;(first|(simp [KnowsAll,aG,bP,looks,Op.operands,Call.operands,Act.eval] at hk;refine⟨?_,?_⟩;(· (simp [wanted,undef,hk,hfl]));(· (simp [go_sem,hk,hp.1,hp.2.1,hp.2.2,hS wq hx,hfl];rfl)))|(refine⟨?_,?_⟩;(· (simp [wanted]));(· (simp [go_sem,hp.1,hp.2.1,hp.2.2,hS wq hx,hfl];rfl)))))))
 refine Phi.done ?_;intro w2 hx2;simp only [Final,List.nil_append,List.cons_append,forall_eq]
 intro v14 hv14
 ((refine hQ9 _ _ ?_);(try refine wpList_nil ?_);(clear hQ9 Q9));simp only [Act.put,List.setIfInBounds_toArray,List.set_cons_succ,List.set_cons_zero]
 obtain⟨c0,c1,c2,c3,c4,c5,-⟩:=hS w2 hx2
 clear hS BX HOWN HFL hfl hv14
 go_wp2_with fail
 go_ret
 exact⟨rfl,hx0.trans hx2⟩
set_option maxHeartbeats 4000000 in
theorem FH (c:Int) (neg:Bool) (mag:List Int) (t:ByteArray) (l:List D) (w:World) (v:Value) (h:IsD w (.mk 9 c neg mag t l) v) (hb:kV (.mk 9 c neg mag t l)) :
  Calls Tryz.prog 53 #[v] w fun e w'=>e=.returned (.bool (dT (.mk 9 c neg mag t l)))∧Ext w w':=by
 rw [jO 9 (by omega) hb]
 have HFL:=Lib.hid (fun W (hx:Ext w W) v' (hv:IsD W (cQ (.mk 9 c neg mag t l)) v')=>gK (.mk 9 c neg mag t l) (cQ (.mk 9 c neg mag t l)) W v v' (h.keep hx.keeps) hv)
 have HOWN:=Lib.hid (fun W (hx:Ext w W)=>jM 9 c neg mag t l W v (h.keep hx.keeps) (by omega) (by omega))
 obtain⟨am,cm,al,cl,rfl,hm,hl,-,-,-,-⟩:=h.open'
 have hx0:=(Ext.refl w).alloc (.cells #[.int .i64 9,.int .i32 c,.bool neg,.slice am mag.length cm,.string t,.slice al l.length cl] 28)
 have BX:=Lib.hid (fO w (.int .i64 9) (.int .i32 c) (.bool neg) (.slice am mag.length cm) (.string t) (.slice al l.length cl) 28)
 have hfl:eZ (.mk 9 c neg mag t l) (cQ (.mk 9 c neg mag t l))=true:=fB ((gX _).2 hb)
 clear h hb
 go_enter Tryz.func53,Tryz.ntmps53
 go_wp2_with fail
 obtain⟨c0,c1,c2,c3,c4,c5⟩:=BX.out
 have hS:∀W9,Ext _ W9→W9.cell? _=_∧W9.cell? _=_∧W9.cell? _=_∧W9.cell? _=_∧W9.cell? _=_∧W9.cell? _=_∧True:=fun W9 h=>⟨h.keeps _ _ c0,h.keeps _ _ c1,h.keeps _ _ c2,h.keeps _ _ c3,h.keeps _ _ c4,h.keeps _ _ c5,trivial⟩
 refine bH 15 _ _ _ rfl rfl rfl (by kernel_rfl) (by kernel_rfl) (by kernel_rfl) (fun Q9 hQ9=>?_);simp only [List.take_succ_cons,List.take_zero,List.drop_succ_cons,List.drop_zero,List.map_cons,List.map_nil] at hQ9 ⊢
 repeat (first|((with_reducible apply Phi.skip);· (intro ρ wq hx hp hk;simp [KnowsAll,aG,bP,looks,Op.operands,Call.operands,Act.eval] at hk;simp [wanted,undef,hk]))|((with_reducible apply Phi.pure);· (intro ρ wq hx hp hk;(first|(simp [KnowsAll,aG,bP,looks,Op.operands,Call.operands,Act.eval] at hk;refine⟨?_,?_⟩;(· (simp [wanted,undef,hk]));(· (simp [go_sem,hk,hp.1,hp.2.1,hp.2.2,hS wq hx];rfl)))|(refine⟨?_,?_⟩;(· (simp [wanted]));(· (simp [go_sem,hp.1,hp.2.1,hp.2.2,hS wq hx];rfl)))))))
 refine Phi.make (fun v W=>IsD W (cQ (.mk 9 c neg mag t l)) v) (fun v W W' hx h=>h.keep hx.keeps) ?_ ?_;· (intro ρ wq hx hp hk;(first|(simp [KnowsAll,aG,bP,looks,Op.operands,Call.operands,Act.eval] at hk;refine⟨by simp [wanted,hk],OpGood.call (by simp [go_sem,hk,hp.1,hp.2.1,hp.2.2];exact⟨rfl,rfl⟩) ?_⟩)|(refine⟨by simp [wanted],OpGood.call (by simp [go_sem,hp.1,hp.2.1,hp.2.2];exact⟨rfl,rfl⟩) ?_⟩));exact HOWN.out _ (hx0.trans hx))
 refine Phi.make (fun v _=>v=.bool (eZ (.mk 9 c neg mag t l) (cQ (.mk 9 c neg mag t l)))) (Stab.const _) ?_ ?_;· (intro ρ wq hx hp hk;(first|(simp [KnowsAll,aG,bP,looks,Op.operands,Call.operands,Act.eval] at hk;refine⟨by simp [wanted,hk],OpGood.call (by simp [go_sem,hk,hp.1,hp.2.1,hp.2.2];exact⟨rfl,rfl⟩) ?_⟩)|(refine⟨by simp [wanted],OpGood.call (by simp [go_sem,hp.1,hp.2.1,hp.2.2];exact⟨rfl,rfl⟩) ?_⟩));exact fN (HFL.out _ (hx0.trans hx) _ hk.2.1))
 repeat (first|((with_reducible apply Phi.skip);· (intro ρ wq hx hp hk;simp [KnowsAll,aG,bP,looks,Op.operands,Call.operands,Act.eval] at hk;simp [wanted,undef,hk,hfl]))|((with_reducible apply Phi.pure);· (intro ρ wq hx hp hk;(first|(simp [KnowsAll,aG,bP,looks,Op.operands,Call.operands,Act.eval] at hk;refine⟨?_,?_⟩;(· (simp [wanted,undef,hk,hfl]));(· (simp [go_sem,hk,hp.1,hp.2.1,hp.2.2,hS wq hx,hfl];rfl)))|(refine⟨?_,?_⟩;(· (simp [wanted]));(· (simp [go_sem,hp.1,hp.2.1,hp.2.2,hS wq hx,hfl];rfl)))))))
 refine Phi.done ?_;intro w2 hx2;simp only [Final,List.nil_append,List.cons_append,forall_eq]
 intro v14 hv14
 ((refine hQ9 _ _ ?_);(try refine wpList_nil ?_);(clear hQ9 Q9));simp only [Act.put,List.setIfInBounds_toArray,List.set_cons_succ,List.set_cons_zero]
 obtain⟨c0,c1,c2,c3,c4,c5,-⟩:=hS w2 hx2
 clear hS BX HOWN HFL hfl hv14
 go_wp2_with fail
 go_ret
 exact⟨rfl,hx0.trans hx2⟩
set_option maxHeartbeats 4000000 in
theorem CD (c:Int) (neg:Bool) (mag:List Int) (t:ByteArray) (l:List D) (w:World) (v:Value) (h:IsD w (.mk 10 c neg mag t l) v) (hb:kV (.mk 10 c neg mag t l)) :
  Calls Tryz.prog 53 #[v] w fun e w'=>e=.returned (.bool (dT (.mk 10 c neg mag t l)))∧Ext w w':=by
 rw [jO 10 (by omega) hb]
 have HFL:=Lib.hid (fun W (hx:Ext w W) v' (hv:IsD W (cQ (.mk 10 c neg mag t l)) v')=>gK (.mk 10 c neg mag t l) (cQ (.mk 10 c neg mag t l)) W v v' (h.keep hx.keeps) hv)
 have HOWN:=Lib.hid (fun W (hx:Ext w W)=>jM 10 c neg mag t l W v (h.keep hx.keeps) (by omega) (by omega))
 obtain⟨am,cm,al,cl,rfl,hm,hl,-,-,-,-⟩:=h.open'
 have hx0:=(Ext.refl w).alloc (.cells #[.int .i64 10,.int .i32 c,.bool neg,.slice am mag.length cm,.string t,.slice al l.length cl] 28)
 have BX:=Lib.hid (fO w (.int .i64 10) (.int .i32 c) (.bool neg) (.slice am mag.length cm) (.string t) (.slice al l.length cl) 28)
 have hfl:eZ (.mk 10 c neg mag t l) (cQ (.mk 10 c neg mag t l))=true:=fB ((gX _).2 hb)
 clear h hb
 go_enter Tryz.func53,Tryz.ntmps53
 go_wp2_with fail
 obtain⟨c0,c1,c2,c3,c4,c5⟩:=BX.out
 have hS:∀W9,Ext _ W9→W9.cell? _=_∧W9.cell? _=_∧W9.cell? _=_∧W9.cell? _=_∧W9.cell? _=_∧W9.cell? _=_∧True:=fun W9 h=>⟨h.keeps _ _ c0,h.keeps _ _ c1,h.keeps _ _ c2,h.keeps _ _ c3,h.keeps _ _ c4,h.keeps _ _ c5,trivial⟩
 refine bH 15 _ _ _ rfl rfl rfl (by kernel_rfl) (by kernel_rfl) (by kernel_rfl) (fun Q9 hQ9=>?_);simp only [List.take_succ_cons,List.take_zero,List.drop_succ_cons,List.drop_zero,List.map_cons,List.map_nil] at hQ9 ⊢
 repeat (first|((with_reducible apply Phi.skip);· (intro ρ wq hx hp hk;simp [KnowsAll,aG,bP,looks,Op.operands,Call.operands,Act.eval] at hk;simp [wanted,undef,hk]))|((with_reducible apply Phi.pure);· (intro ρ wq hx hp hk;(first|(simp [KnowsAll,aG,bP,looks,Op.operands,Call.operands,Act.eval] at hk;refine⟨?_,?_⟩;(· (simp [wanted,undef,hk]));(· (simp [go_sem,hk,hp.1,hp.2.1,hp.2.2,hS wq hx];rfl)))|(refine⟨?_,?_⟩;(· (simp [wanted]));(· (simp [go_sem,hp.1,hp.2.1,hp.2.2,hS wq hx];rfl)))))))
 refine Phi.make (fun v W=>IsD W (cQ (.mk 10 c neg mag t l)) v) (fun v W W' hx h=>h.keep hx.keeps) ?_ ?_;· (intro ρ wq hx hp hk;(first|(simp [KnowsAll,aG,bP,looks,Op.operands,Call.operands,Act.eval] at hk;refine⟨by simp [wanted,hk],OpGood.call (by simp [go_sem,hk,hp.1,hp.2.1,hp.2.2];exact⟨rfl,rfl⟩) ?_⟩)|(refine⟨by simp [wanted],OpGood.call (by simp [go_sem,hp.1,hp.2.1,hp.2.2];exact⟨rfl,rfl⟩) ?_⟩));exact HOWN.out _ (hx0.trans hx))
 refine Phi.make (fun v _=>v=.bool (eZ (.mk 10 c neg mag t l) (cQ (.mk 10 c neg mag t l)))) (Stab.const _) ?_ ?_;· (intro ρ wq hx hp hk;(first|(simp [KnowsAll,aG,bP,looks,Op.operands,Call.operands,Act.eval] at hk;refine⟨by simp [wanted,hk],OpGood.call (by simp [go_sem,hk,hp.1,hp.2.1,hp.2.2];exact⟨rfl,rfl⟩) ?_⟩)|(refine⟨by simp [wanted],OpGood.call (by simp [go_sem,hp.1,hp.2.1,hp.2.2];exact⟨rfl,rfl⟩) ?_⟩));exact fN (HFL.out _ (hx0.trans hx) _ hk.2.1))
 repeat (first|((with_reducible apply Phi.skip);· (intro ρ wq hx hp hk;simp [KnowsAll,aG,bP,looks,Op.operands,Call.operands,Act.eval] at hk;simp [wanted,undef,hk,hfl]))|((with_reducible apply Phi.pure);· (intro ρ wq hx hp hk;(first|(simp [KnowsAll,aG,bP,looks,Op.operands,Call.operands,Act.eval] at hk;refine⟨?_,?_⟩;(· (simp [wanted,undef,hk,hfl]));(· (simp [go_sem,hk,hp.1,hp.2.1,hp.2.2,hS wq hx,hfl];rfl)))|(refine⟨?_,?_⟩;(· (simp [wanted]));(· (simp [go_sem,hp.1,hp.2.1,hp.2.2,hS wq hx,hfl];rfl)))))))
 refine Phi.done ?_;intro w2 hx2;simp only [Final,List.nil_append,List.cons_append,forall_eq]
 intro v14 hv14
 ((refine hQ9 _ _ ?_);(try refine wpList_nil ?_);(clear hQ9 Q9));simp only [Act.put,List.setIfInBounds_toArray,List.set_cons_succ,List.set_cons_zero]
 obtain⟨c0,c1,c2,c3,c4,c5,-⟩:=hS w2 hx2
 clear hS BX HOWN HFL hfl hv14
 go_wp2_with fail
 go_ret
 exact⟨rfl,hx0.trans hx2⟩
set_option maxHeartbeats 4000000 in
theorem JI (c:Int) (neg:Bool) (mag:List Int) (t:ByteArray) (l:List D) (w:World) (v:Value) (h:IsD w (.mk 3 c neg mag t l) v) (hb:kV (.mk 3 c neg mag t l)) :
  Calls Tryz.prog 53 #[v] w fun e w'=>e=.returned (.bool (dT (.mk 3 c neg mag t l)))∧Ext w w':=by
 rw [KZ hb]
 have HFL:=Lib.hid (fun W (hx:Ext w W) v' (hv:IsD W (cQ (.mk 3 c neg mag t l)) v')=>gK (.mk 3 c neg mag t l) (cQ (.mk 3 c neg mag t l)) W v v' (h.keep hx.keeps) hv)
 have HOWN:=Lib.hid (fun W (hx:Ext w W)=>jM 3 c neg mag t l W v (h.keep hx.keeps) (by omega) (by omega))
 obtain⟨am,cm,al,cl,rfl,hm,hl,-,-,-,-⟩:=h.open'
 have hx0:=(Ext.refl w).alloc (.cells #[.int .i64 3,.int .i32 c,.bool neg,.slice am mag.length cm,.string t,.slice al l.length cl] 28)
 have BX:=Lib.hid (fO w (.int .i64 3) (.int .i32 c) (.bool neg) (.slice am mag.length cm) (.string t) (.slice al l.length cl) 28)
 have hfl:eZ (.mk 3 c neg mag t l) (cQ (.mk 3 c neg mag t l))=true:=fB ((gX _).2 hb)
 clear h hb
 go_enter Tryz.func53,Tryz.ntmps53
 go_wp2_with fail
 obtain⟨c0,c1,c2,c3,c4,c5⟩:=BX.out
 have hS:∀W9,Ext _ W9→W9.cell? _=_∧W9.cell? _=_∧W9.cell? _=_∧W9.cell? _=_∧W9.cell? _=_∧W9.cell? _=_∧True:=fun W9 h=>⟨h.keeps _ _ c0,h.keeps _ _ c1,h.keeps _ _ c2,h.keeps _ _ c3,h.keeps _ _ c4,h.keeps _ _ c5,trivial⟩
 refine bH 15 _ _ _ rfl rfl rfl (by kernel_rfl) (by kernel_rfl) (by kernel_rfl) (fun Q9 hQ9=>?_);simp only [List.take_succ_cons,List.take_zero,List.drop_succ_cons,List.drop_zero,List.map_cons,List.map_nil] at hQ9 ⊢
 repeat (first|((with_reducible apply Phi.skip);· (intro ρ wq hx hp hk;simp [KnowsAll,aG,bP,looks,Op.operands,Call.operands,Act.eval] at hk;simp [wanted,undef,hk]))|((with_reducible apply Phi.pure);· (intro ρ wq hx hp hk;(first|(simp [KnowsAll,aG,bP,looks,Op.operands,Call.operands,Act.eval] at hk;refine⟨?_,?_⟩;(· (simp [wanted,undef,hk]));(· (simp [go_sem,hk,hp.1,hp.2.1,hp.2.2,hS wq hx];rfl)))|(refine⟨?_,?_⟩;(· (simp [wanted]));(· (simp [go_sem,hp.1,hp.2.1,hp.2.2,hS wq hx];rfl)))))))
 refine Phi.make (fun v W=>IsD W (cQ (.mk 3 c neg mag t l)) v) (fun v W W' hx h=>h.keep hx.keeps) ?_ ?_;· (intro ρ wq hx hp hk;(first|(simp [KnowsAll,aG,bP,looks,Op.operands,Call.operands,Act.eval] at hk;refine⟨by simp [wanted,hk],OpGood.call (by simp [go_sem,hk,hp.1,hp.2.1,hp.2.2];exact⟨rfl,rfl⟩) ?_⟩)|(refine⟨by simp [wanted],OpGood.call (by simp [go_sem,hp.1,hp.2.1,hp.2.2];exact⟨rfl,rfl⟩) ?_⟩));exact HOWN.out _ (hx0.trans hx))
 refine Phi.make (fun v _=>v=.bool (eZ (.mk 3 c neg mag t l) (cQ (.mk 3 c neg mag t l)))) (Stab.const _) ?_ ?_;· (intro ρ wq hx hp hk;(first|(simp [KnowsAll,aG,bP,looks,Op.operands,Call.operands,Act.eval] at hk;refine⟨by simp [wanted,hk],OpGood.call (by simp [go_sem,hk,hp.1,hp.2.1,hp.2.2];exact⟨rfl,rfl⟩) ?_⟩)|(refine⟨by simp [wanted],OpGood.call (by simp [go_sem,hp.1,hp.2.1,hp.2.2];exact⟨rfl,rfl⟩) ?_⟩));exact fN (HFL.out _ (hx0.trans hx) _ hk.2.1))
 repeat (first|((with_reducible apply Phi.skip);· (intro ρ wq hx hp hk;simp [KnowsAll,aG,bP,looks,Op.operands,Call.operands,Act.eval] at hk;simp [wanted,undef,hk,hfl]))|((with_reducible apply Phi.pure);· (intro ρ wq hx hp hk;(first|(simp [KnowsAll,aG,bP,looks,Op.operands,Call.operands,Act.eval] at hk;refine⟨?_,?_⟩;(· (simp [wanted,undef,hk,hfl]));(· (simp [go_sem,hk,hp.1,hp.2.1,hp.2.2,hS wq hx,hfl];rfl)))|(refine⟨?_,?_⟩;(· (simp [wanted]));(· (simp [go_sem,hp.1,hp.2.1,hp.2.2,hS wq hx,hfl];rfl)))))))
 refine Phi.done ?_;intro w2 hx2;simp only [Final,List.nil_append,List.cons_append,forall_eq]
 intro v14 hv14
 ((refine hQ9 _ _ ?_);(try refine wpList_nil ?_);(clear hQ9 Q9));simp only [Act.put,List.setIfInBounds_toArray,List.set_cons_succ,List.set_cons_zero]
 obtain⟨c0,c1,c2,c3,c4,c5,-⟩:=hS w2 hx2
 clear hS BX HOWN HFL hfl hv14
 go_wp2_with fail
 refine (Tryz.utf8_ValidRune c _).mono ?_
 rintro e w3 ⟨rfl,rfl⟩
 go_wp2_with fail
 go_ret
 exact⟨rfl,hx0.trans hx2⟩
set_option maxHeartbeats 4000000 in
theorem LS (c:Int) (neg:Bool) (mag:List Int) (t:ByteArray) (l:List D) (w:World) (v:Value) (h:IsD w (.mk 4 c neg mag t l) v) (hb:kV (.mk 4 c neg mag t l)) :
  Calls Tryz.prog 53 #[v] w fun e w'=>e=.returned (.bool (dT (.mk 4 c neg mag t l)))∧Ext w w':=by
 rw [OP hb]
 have HFL:=Lib.hid (fun W (hx:Ext w W) v' (hv:IsD W (cQ (.mk 4 c neg mag t l)) v')=>gK (.mk 4 c neg mag t l) (cQ (.mk 4 c neg mag t l)) W v v' (h.keep hx.keeps) hv)
 have HOWN:=Lib.hid (fun W (hx:Ext w W)=>jM 4 c neg mag t l W v (h.keep hx.keeps) (by omega) (by omega))
 obtain⟨am,cm,al,cl,rfl,hm,hl,-,-,-,-⟩:=h.open'
 have hx0:=(Ext.refl w).alloc (.cells #[.int .i64 4,.int .i32 c,.bool neg,.slice am mag.length cm,.string t,.slice al l.length cl] 28)
 have BX:=Lib.hid (fO w (.int .i64 4) (.int .i32 c) (.bool neg) (.slice am mag.length cm) (.string t) (.slice al l.length cl) 28)
 have hfl:eZ (.mk 4 c neg mag t l) (cQ (.mk 4 c neg mag t l))=true:=fB ((gX _).2 hb)
 clear h hb
 go_enter Tryz.func53,Tryz.ntmps53
 go_wp2_with fail
 obtain⟨c0,c1,c2,c3,c4,c5⟩:=BX.out
 have hS:∀W9,Ext _ W9→W9.cell? _=_∧W9.cell? _=_∧W9.cell? _=_∧W9.cell? _=_∧W9.cell? _=_∧W9.cell? _=_∧True:=fun W9 h=>⟨h.keeps _ _ c0,h.keeps _ _ c1,h.keeps _ _ c2,h.keeps _ _ c3,h.keeps _ _ c4,h.keeps _ _ c5,trivial⟩
 refine bH 15 _ _ _ rfl rfl rfl (by kernel_rfl) (by kernel_rfl) (by kernel_rfl) (fun Q9 hQ9=>?_);simp only [List.take_succ_cons,List.take_zero,List.drop_succ_cons,List.drop_zero,List.map_cons,List.map_nil] at hQ9 ⊢
 repeat (first|((with_reducible apply Phi.skip);· (intro ρ wq hx hp hk;simp [KnowsAll,aG,bP,looks,Op.operands,Call.operands,Act.eval] at hk;simp [wanted,undef,hk]))|((with_reducible apply Phi.pure);· (intro ρ wq hx hp hk;(first|(simp [KnowsAll,aG,bP,looks,Op.operands,Call.operands,Act.eval] at hk;refine⟨?_,?_⟩;(· (simp [wanted,undef,hk]));(· (simp [go_sem,hk,hp.1,hp.2.1,hp.2.2,hS wq hx];rfl)))|(refine⟨?_,?_⟩;(· (simp [wanted]));(· (simp [go_sem,hp.1,hp.2.1,hp.2.2,hS wq hx];rfl)))))))
 refine Phi.make (fun v W=>IsD W (cQ (.mk 4 c neg mag t l)) v) (fun v W W' hx h=>h.keep hx.keeps) ?_ ?_;· (intro ρ wq hx hp hk;(first|(simp [KnowsAll,aG,bP,looks,Op.operands,Call.operands,Act.eval] at hk;refine⟨by simp [wanted,hk],OpGood.call (by simp [go_sem,hk,hp.1,hp.2.1,hp.2.2];exact⟨rfl,rfl⟩) ?_⟩)|(refine⟨by simp [wanted],OpGood.call (by simp [go_sem,hp.1,hp.2.1,hp.2.2];exact⟨rfl,rfl⟩) ?_⟩));exact HOWN.out _ (hx0.trans hx))
 refine Phi.make (fun v _=>v=.bool (eZ (.mk 4 c neg mag t l) (cQ (.mk 4 c neg mag t l)))) (Stab.const _) ?_ ?_;· (intro ρ wq hx hp hk;(first|(simp [KnowsAll,aG,bP,looks,Op.operands,Call.operands,Act.eval] at hk;refine⟨by simp [wanted,hk],OpGood.call (by simp [go_sem,hk,hp.1,hp.2.1,hp.2.2];exact⟨rfl,rfl⟩) ?_⟩)|(refine⟨by simp [wanted],OpGood.call (by simp [go_sem,hp.1,hp.2.1,hp.2.2];exact⟨rfl,rfl⟩) ?_⟩));exact fN (HFL.out _ (hx0.trans hx) _ hk.2.1))
 repeat (first|((with_reducible apply Phi.skip);· (intro ρ wq hx hp hk;simp [KnowsAll,aG,bP,looks,Op.operands,Call.operands,Act.eval] at hk;simp [wanted,undef,hk,hfl]))|((with_reducible apply Phi.pure);· (intro ρ wq hx hp hk;(first|(simp [KnowsAll,aG,bP,looks,Op.operands,Call.operands,Act.eval] at hk;refine⟨?_,?_⟩;(· (simp [wanted,undef,hk,hfl]));(· (simp [go_sem,hk,hp.1,hp.2.1,hp.2.2,hS wq hx,hfl];rfl)))|(refine⟨?_,?_⟩;(· (simp [wanted]));(· (simp [go_sem,hp.1,hp.2.1,hp.2.2,hS wq hx,hfl];rfl)))))))
 refine Phi.done ?_;intro w2 hx2;simp only [Final,List.nil_append,List.cons_append,forall_eq]
 intro v14 hv14
 ((refine hQ9 _ _ ?_);(try refine wpList_nil ?_);(clear hQ9 Q9));simp only [Act.put,List.setIfInBounds_toArray,List.set_cons_succ,List.set_cons_zero]
 obtain⟨c0,c1,c2,c3,c4,c5,-⟩:=hS w2 hx2
 clear hS BX HOWN HFL hfl hv14
 go_wp2_with fail
 refine (KJ neg mag _ _ (hm.keep (hx0.trans hx2).keeps)).mono ?_
 rintro e w3 ⟨rfl,hx3⟩
 go_wp2_with fail
 go_ret
 exact⟨rfl,hx0.trans (hx2.trans hx3)⟩
set_option maxHeartbeats 4000000 in
theorem LT (c:Int) (neg:Bool) (mag:List Int) (t:ByteArray) (l:List D) (w:World) (v:Value) (h:IsD w (.mk 6 c neg mag t l) v) (hb:kV (.mk 6 c neg mag t l)) (hs:t.size<9223372036854775807) (hT:Tabs w) :
  Calls Tryz.prog 53 #[v] w fun e w'=>e=.returned (.bool (dT (.mk 6 c neg mag t l)))∧Ext w w':=by
 rw [CR hb]
 have HFL:=Lib.hid (fun W (hx:Ext w W) v' (hv:IsD W (cQ (.mk 6 c neg mag t l)) v')=>gK (.mk 6 c neg mag t l) (cQ (.mk 6 c neg mag t l)) W v v' (h.keep hx.keeps) hv)
 have HOWN:=Lib.hid (fun W (hx:Ext w W)=>jM 6 c neg mag t l W v (h.keep hx.keeps) (by omega) (by omega))
 obtain⟨am,cm,al,cl,rfl,hm,hl,-,-,-,-⟩:=h.open'
 have hx0:=(Ext.refl w).alloc (.cells #[.int .i64 6,.int .i32 c,.bool neg,.slice am mag.length cm,.string t,.slice al l.length cl] 28)
 have BX:=Lib.hid (fO w (.int .i64 6) (.int .i32 c) (.bool neg) (.slice am mag.length cm) (.string t) (.slice al l.length cl) 28)
 have hfl:eZ (.mk 6 c neg mag t l) (cQ (.mk 6 c neg mag t l))=true:=fB ((gX _).2 hb)
 clear h hb
 go_enter Tryz.func53,Tryz.ntmps53
 go_wp2_with fail
 obtain⟨c0,c1,c2,c3,c4,c5⟩:=BX.out
 have hS:∀W9,Ext _ W9→W9.cell? _=_∧W9.cell? _=_∧W9.cell? _=_∧W9.cell? _=_∧W9.cell? _=_∧W9.cell? _=_∧True:=fun W9 h=>⟨h.keeps _ _ c0,h.keeps _ _ c1,h.keeps _ _ c2,h.keeps _ _ c3,h.keeps _ _ c4,h.keeps _ _ c5,trivial⟩
 refine bH 15 _ _ _ rfl rfl rfl (by kernel_rfl) (by kernel_rfl) (by kernel_rfl) (fun Q9 hQ9=>?_);simp only [List.take_succ_cons,List.take_zero,List.drop_succ_cons,List.drop_zero,List.map_cons,List.map_nil] at hQ9 ⊢
 repeat (first|((with_reducible apply Phi.skip);· (intro ρ wq hx hp hk;simp [KnowsAll,aG,bP,looks,Op.operands,Call.operands,Act.eval] at hk;simp [wanted,undef,hk]))|((with_reducible apply Phi.pure);· (intro ρ wq hx hp hk;(first|(simp [KnowsAll,aG,bP,looks,Op.operands,Call.operands,Act.eval] at hk;refine⟨?_,?_⟩;(· (simp [wanted,undef,hk]));(· (simp [go_sem,hk,hp.1,hp.2.1,hp.2.2,hS wq hx];rfl)))|(refine⟨?_,?_⟩;(· (simp [wanted]));(· (simp [go_sem,hp.1,hp.2.1,hp.2.2,hS wq hx];rfl)))))))
 refine Phi.make (fun v W=>IsD W (cQ (.mk 6 c neg mag t l)) v) (fun v W W' hx h=>h.keep hx.keeps) ?_ ?_;· (intro ρ wq hx hp hk;(first|(simp [KnowsAll,aG,bP,looks,Op.operands,Call.operands,Act.eval] at hk;refine⟨by simp [wanted,hk],OpGood.call (by simp [go_sem,hk,hp.1,hp.2.1,hp.2.2];exact⟨rfl,rfl⟩) ?_⟩)|(refine⟨by simp [wanted],OpGood.call (by simp [go_sem,hp.1,hp.2.1,hp.2.2];exact⟨rfl,rfl⟩) ?_⟩));exact HOWN.out _ (hx0.trans hx))
 refine Phi.make (fun v _=>v=.bool (eZ (.mk 6 c neg mag t l) (cQ (.mk 6 c neg mag t l)))) (Stab.const _) ?_ ?_;· (intro ρ wq hx hp hk;(first|(simp [KnowsAll,aG,bP,looks,Op.operands,Call.operands,Act.eval] at hk;refine⟨by simp [wanted,hk],OpGood.call (by simp [go_sem,hk,hp.1,hp.2.1,hp.2.2];exact⟨rfl,rfl⟩) ?_⟩)|(refine⟨by simp [wanted],OpGood.call (by simp [go_sem,hp.1,hp.2.1,hp.2.2];exact⟨rfl,rfl⟩) ?_⟩));exact fN (HFL.out _ (hx0.trans hx) _ hk.2.1))
 repeat (first|((with_reducible apply Phi.skip);· (intro ρ wq hx hp hk;simp [KnowsAll,aG,bP,looks,Op.operands,Call.operands,Act.eval] at hk;simp [wanted,undef,hk,hfl]))|((with_reducible apply Phi.pure);· (intro ρ wq hx hp hk;(first|(simp [KnowsAll,aG,bP,looks,Op.operands,Call.operands,Act.eval] at hk;refine⟨?_,?_⟩;(· (simp [wanted,undef,hk,hfl]));(· (simp [go_sem,hk,hp.1,hp.2.1,hp.2.2,hS wq hx,hfl];rfl)))|(refine⟨?_,?_⟩;(· (simp [wanted]));(· (simp [go_sem,hp.1,hp.2.1,hp.2.2,hS wq hx,hfl];rfl)))))))
 refine Phi.done ?_;intro w2 hx2;simp only [Final,List.nil_append,List.cons_append,forall_eq]
 intro v14 hv14
 ((refine hQ9 _ _ ?_);(try refine wpList_nil ?_);(clear hQ9 Q9));simp only [Act.put,List.setIfInBounds_toArray,List.set_cons_succ,List.set_cons_zero]
 obtain⟨c0,c1,c2,c3,c4,c5,-⟩:=hS w2 hx2
 clear hS BX HOWN HFL hfl hv14
 go_wp2_with fail
 refine (GK t 1 _ hs (hT.ext (hx0.trans hx2))).mono ?_
 rintro e w3 ⟨rfl,hx3⟩
 go_wp2_with fail
 go_ret
 exact⟨rfl,hx0.trans (hx2.trans hx3)⟩
set_option maxHeartbeats 4000000 in
theorem LU (c:Int) (neg:Bool) (mag:List Int) (t:ByteArray) (l:List D) (w:World) (v:Value) (h:IsD w (.mk 5 c neg mag t l) v) (hb:kV (.mk 5 c neg mag t l)) (hs:t.size<9223372036854775807) (hT:Tabs w) :
  Calls Tryz.prog 53 #[v] w fun e w'=>e=.returned (.bool (dT (.mk 5 c neg mag t l)))∧Ext w w':=by
 rw [OQ hb]
 have HFL:=Lib.hid (fun W (hx:Ext w W) v' (hv:IsD W (cQ (.mk 5 c neg mag t l)) v')=>gK (.mk 5 c neg mag t l) (cQ (.mk 5 c neg mag t l)) W v v' (h.keep hx.keeps) hv)
 have HOWN:=Lib.hid (fun W (hx:Ext w W)=>jM 5 c neg mag t l W v (h.keep hx.keeps) (by omega) (by omega))
 obtain⟨am,cm,al,cl,rfl,hm,hl,-,-,-,-⟩:=h.open'
 have hx0:=(Ext.refl w).alloc (.cells #[.int .i64 5,.int .i32 c,.bool neg,.slice am mag.length cm,.string t,.slice al l.length cl] 28)
 have BX:=Lib.hid (fO w (.int .i64 5) (.int .i32 c) (.bool neg) (.slice am mag.length cm) (.string t) (.slice al l.length cl) 28)
 have hfl:eZ (.mk 5 c neg mag t l) (cQ (.mk 5 c neg mag t l))=true:=fB ((gX _).2 hb)
 clear h hb
 go_enter Tryz.func53,Tryz.ntmps53
 go_wp2_with fail
 obtain⟨c0,c1,c2,c3,c4,c5⟩:=BX.out
 have hS:∀W9,Ext _ W9→W9.cell? _=_∧W9.cell? _=_∧W9.cell? _=_∧W9.cell? _=_∧W9.cell? _=_∧W9.cell? _=_∧True:=fun W9 h=>⟨h.keeps _ _ c0,h.keeps _ _ c1,h.keeps _ _ c2,h.keeps _ _ c3,h.keeps _ _ c4,h.keeps _ _ c5,trivial⟩
 refine bH 15 _ _ _ rfl rfl rfl (by kernel_rfl) (by kernel_rfl) (by kernel_rfl) (fun Q9 hQ9=>?_);simp only [List.take_succ_cons,List.take_zero,List.drop_succ_cons,List.drop_zero,List.map_cons,List.map_nil] at hQ9 ⊢
 repeat (first|((with_reducible apply Phi.skip);· (intro ρ wq hx hp hk;simp [KnowsAll,aG,bP,looks,Op.operands,Call.operands,Act.eval] at hk;simp [wanted,undef,hk]))|((with_reducible apply Phi.pure);· (intro ρ wq hx hp hk;(first|(simp [KnowsAll,aG,bP,looks,Op.operands,Call.operands,Act.eval] at hk;refine⟨?_,?_⟩;(· (simp [wanted,undef,hk]));(· (simp [go_sem,hk,hp.1,hp.2.1,hp.2.2,hS wq hx];rfl)))|(refine⟨?_,?_⟩;(· (simp [wanted]));(· (simp [go_sem,hp.1,hp.2.1,hp.2.2,hS wq hx];rfl)))))))
 refine Phi.make (fun v W=>IsD W (cQ (.mk 5 c neg mag t l)) v) (fun v W W' hx h=>h.keep hx.keeps) ?_ ?_;· (intro ρ wq hx hp hk;(first|(simp [KnowsAll,aG,bP,looks,Op.operands,Call.operands,Act.eval] at hk;refine⟨by simp [wanted,hk],OpGood.call (by simp [go_sem,hk,hp.1,hp.2.1,hp.2.2];exact⟨rfl,rfl⟩) ?_⟩)|(refine⟨by simp [wanted],OpGood.call (by simp [go_sem,hp.1,hp.2.1,hp.2.2];exact⟨rfl,rfl⟩) ?_⟩));exact HOWN.out _ (hx0.trans hx))
 refine Phi.make (fun v _=>v=.bool (eZ (.mk 5 c neg mag t l) (cQ (.mk 5 c neg mag t l)))) (Stab.const _) ?_ ?_;· (intro ρ wq hx hp hk;(first|(simp [KnowsAll,aG,bP,looks,Op.operands,Call.operands,Act.eval] at hk;refine⟨by simp [wanted,hk],OpGood.call (by simp [go_sem,hk,hp.1,hp.2.1,hp.2.2];exact⟨rfl,rfl⟩) ?_⟩)|(refine⟨by simp [wanted],OpGood.call (by simp [go_sem,hp.1,hp.2.1,hp.2.2];exact⟨rfl,rfl⟩) ?_⟩));exact fN (HFL.out _ (hx0.trans hx) _ hk.2.1))
 repeat (first|((with_reducible apply Phi.skip);· (intro ρ wq hx hp hk;simp [KnowsAll,aG,bP,looks,Op.operands,Call.operands,Act.eval] at hk;simp [wanted,undef,hk,hfl]))|((with_reducible apply Phi.pure);· (intro ρ wq hx hp hk;(first|(simp [KnowsAll,aG,bP,looks,Op.operands,Call.operands,Act.eval] at hk;refine⟨?_,?_⟩;(· (simp [wanted,undef,hk,hfl]));(· (simp [go_sem,hk,hp.1,hp.2.1,hp.2.2,hS wq hx,hfl];rfl)))|(refine⟨?_,?_⟩;(· (simp [wanted]));(· (simp [go_sem,hp.1,hp.2.1,hp.2.2,hS wq hx,hfl];rfl)))))))
 refine Phi.done ?_;intro w2 hx2;simp only [Final,List.nil_append,List.cons_append,forall_eq]
 intro v14 hv14
 ((refine hQ9 _ _ ?_);(try refine wpList_nil ?_);(clear hQ9 Q9));simp only [Act.put,List.setIfInBounds_toArray,List.set_cons_succ,List.set_cons_zero]
 obtain⟨c0,c1,c2,c3,c4,c5,-⟩:=hS w2 hx2
 clear hS BX HOWN HFL hfl hv14
 go_wp2_with fail
 refine (GK t 0 _ hs (hT.ext (hx0.trans hx2))).mono ?_
 rintro e w3 ⟨rfl,hx3⟩
 go_wp2_with fail
 go_ret
 exact⟨rfl,hx0.trans (hx2.trans hx3)⟩
end Go.Proofs.YtaeioidifpebdaaGreatDoor
