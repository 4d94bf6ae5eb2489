
import Derived.Test.YtaeioidifpebdaaGreatDoorPlainW
namespace Go.Proofs.YtaeioidifpebdaaGreatDoor
open Go.RowKit
set_option linter.unusedSimpArgs false
set_option linter.unusedVariables false

theorem fV (w:World) (c0 c1 c2 c3 c4 c5:Value) (e:TypeId) :
  (w.alloc (.cells #[c0,c1,c2,c3,c4,c5] e)).cell? ⟨w.heap.size,0,none⟩=some c0∧(w.alloc (.cells #[c0,c1,c2,c3,c4,c5] e)).cell? ⟨w.heap.size,1,none⟩=some c1∧(w.alloc (.cells #[c0,c1,c2,c3,c4,c5] e)).cell? ⟨w.heap.size,2,none⟩=some c2 ∧
  (w.alloc (.cells #[c0,c1,c2,c3,c4,c5] e)).cell? ⟨w.heap.size,3,none⟩=some c3∧(w.alloc (.cells #[c0,c1,c2,c3,c4,c5] e)).cell? ⟨w.heap.size,4,none⟩=some c4∧(w.alloc (.cells #[c0,c1,c2,c3,c4,c5] e)).cell? ⟨w.heap.size,5,none⟩=some c5:=by
 refine⟨?_,?_,?_,?_,?_,?_⟩<;>rw [cG (gK w _)]<;>rfl

set_option maxHeartbeats 4000000 in
theorem DE (k c:Int) (neg:Bool) (mag:List Int) (t:ByteArray) (l:List D) (w:World) (v:Value) (h:IsD w (.mk k c neg mag t l) v) (hb:¬(D.mk k c neg mag t l).Plain) (hk:¬(0≤k∧k≤10)∨¬fF (.mk k c neg mag t l)) :
  Calls Tryz.prog 53 #[v] w fun e w'=>e=.returned (.bool (cA (.mk k c neg mag t l)))∧Ext w w':=by
 rw [pX hb]
 have HFL:=Lib.hid (fun W (hx:Ext w W) v' (hv:IsD W (cD (.mk k c neg mag t l)) v')=>gM (.mk k c neg mag t l) (cD (.mk k c neg mag t l)) W v v' (h.keep hx.keeps) hv)
 have HOWN:=Lib.hid (fun W (hx:Ext w W) h0 h1=>jK k c neg mag t l W v (h.keep hx.keeps) h0 h1)
 obtain⟨am,cm,al,cl,rfl,hm,hl,-,-,-,-⟩:=h.open'
 have hx0:=(Ext.refl w).alloc (.cells #[.int .i64 k,.int .i32 c,.bool neg,.slice am mag.length cm,.string t,.slice al l.length cl] 28)
 have BX:=Lib.hid (fV w (.int .i64 k) (.int .i32 c) (.bool neg) (.slice am mag.length cm) (.string t) (.slice al l.length cl) 28)
 clear h hm hl hb
 by_cases h1:k<0
 ·have e1:decide (k<0)=true:=by simpa using h1
  clear HFL HOWN hk
  go_enter Tryz.func53,Tryz.ntmps53
  go_wp2_with fail
  obtain⟨c0,c1,c2,c3,c4,c5⟩:=BX.out
  have hS:∀W9,Ext _ W9→W9.cell? _=_∧W9.cell? _=_∧W9.cell? _=_∧W9.cell? _=_∧W9.cell? _=_∧W9.cell? _=_∧True:=fun W9 h=>⟨h.keeps _ _ c0,h.keeps _ _ c1,h.keeps _ _ c2,h.keeps _ _ c3,h.keeps _ _ c4,h.keeps _ _ c5,trivial⟩
  refine aX 15 _ _ _ rfl rfl rfl (by kernel_rfl) (by kernel_rfl) (by kernel_rfl) (fun Q9 hQ9=>?_);simp only [List.take_succ_cons,List.take_zero,List.drop_succ_cons,List.drop_zero,List.map_cons,List.map_nil] at hQ9 ⊢
  repeat (first|((with_reducible apply Phi.skip);· (intro ρ wq hx hp hk;simp [KnowsAll,aF,bD,looks,Op.operands,Call.operands,Act.eval] at hk;simp [wanted,undef,hk,e1]))|((with_reducible apply Phi.pure);· (intro ρ wq hx hp hk;(first|(simp [KnowsAll,aF,bD,looks,Op.operands,Call.operands,Act.eval] at hk;refine⟨?_,?_⟩;(· (simp [wanted,undef,hk,e1]));(· (simp [go_sem,hk,hp.1,hp.2.1,hp.2.2,hS wq hx,e1];rfl)))|(refine⟨?_,?_⟩;(· (simp [wanted]));(· (simp [go_sem,hp.1,hp.2.1,hp.2.2,hS wq hx,e1];rfl)))))))
  refine Phi.done ?_;intro w2 hx2;simp only [Final,List.nil_append,List.cons_append,forall_eq];((refine hQ9 _ _ ?_);(try refine wpList_nil ?_);(clear hQ9 Q9));simp only [Act.put,List.setIfInBounds_toArray,List.set_cons_succ,List.set_cons_zero]
  go_wp2_with fail
  go_ret
  exact⟨rfl,hx0.trans hx2⟩
 have e1:decide (k<0)=false:=by simpa using h1
 by_cases h2:10<k
 ·have e2:decide (10<k)=true:=by simpa using h2
  clear HFL HOWN hk
  go_enter Tryz.func53,Tryz.ntmps53
  go_wp2_with fail
  obtain⟨c0,c1,c2,c3,c4,c5⟩:=BX.out
  have hS:∀W9,Ext _ W9→W9.cell? _=_∧W9.cell? _=_∧W9.cell? _=_∧W9.cell? _=_∧W9.cell? _=_∧W9.cell? _=_∧True:=fun W9 h=>⟨h.keeps _ _ c0,h.keeps _ _ c1,h.keeps _ _ c2,h.keeps _ _ c3,h.keeps _ _ c4,h.keeps _ _ c5,trivial⟩
  refine aX 15 _ _ _ rfl rfl rfl (by kernel_rfl) (by kernel_rfl) (by kernel_rfl) (fun Q9 hQ9=>?_);simp only [List.take_succ_cons,List.take_zero,List.drop_succ_cons,List.drop_zero,List.map_cons,List.map_nil] at hQ9 ⊢
  repeat (first|((with_reducible apply Phi.skip);· (intro ρ wq hx hp hk;simp [KnowsAll,aF,bD,looks,Op.operands,Call.operands,Act.eval] at hk;simp [wanted,undef,hk,e1,e2]))|((with_reducible apply Phi.pure);· (intro ρ wq hx hp hk;(first|(simp [KnowsAll,aF,bD,looks,Op.operands,Call.operands,Act.eval] at hk;refine⟨?_,?_⟩;(· (simp [wanted,undef,hk,e1,e2]));(· (simp [go_sem,hk,hp.1,hp.2.1,hp.2.2,hS wq hx,e1,e2];rfl)))|(refine⟨?_,?_⟩;(· (simp [wanted]));(· (simp [go_sem,hp.1,hp.2.1,hp.2.2,hS wq hx,e1,e2];rfl)))))))
  refine Phi.done ?_;intro w2 hx2;simp only [Final,List.nil_append,List.cons_append,forall_eq];((refine hQ9 _ _ ?_);(try refine wpList_nil ?_);(clear hQ9 Q9));simp only [Act.put,List.setIfInBounds_toArray,List.set_cons_succ,List.set_cons_zero]
  go_wp2_with fail
  go_ret
  exact⟨rfl,hx0.trans hx2⟩
 ·have e2:decide (10<k)=false:=by simpa using h2
  have hfl:fG (.mk k c neg mag t l) (cD (.mk k c neg mag t l))=false:=jO fun h=>by
   rcases hk with hk|hk
   ·exact hk ⟨by omega,by omega⟩
   ·exact hk ((gX _).1 h)
  have HOWN:=Lib.hid (fun W hx=>HOWN.out W hx (by omega) (by omega))
  clear hk
  go_enter Tryz.func53,Tryz.ntmps53
  go_wp2_with fail
  obtain⟨c0,c1,c2,c3,c4,c5⟩:=BX.out
  have hS:∀W9,Ext _ W9→W9.cell? _=_∧W9.cell? _=_∧W9.cell? _=_∧W9.cell? _=_∧W9.cell? _=_∧W9.cell? _=_∧True:=fun W9 h=>⟨h.keeps _ _ c0,h.keeps _ _ c1,h.keeps _ _ c2,h.keeps _ _ c3,h.keeps _ _ c4,h.keeps _ _ c5,trivial⟩
  refine aX 15 _ _ _ rfl rfl rfl (by kernel_rfl) (by kernel_rfl) (by kernel_rfl) (fun Q9 hQ9=>?_);simp only [List.take_succ_cons,List.take_zero,List.drop_succ_cons,List.drop_zero,List.map_cons,List.map_nil] at hQ9 ⊢
  repeat (first|((with_reducible apply Phi.skip);· (intro ρ wq hx hp hk;simp [KnowsAll,aF,bD,looks,Op.operands,Call.operands,Act.eval] at hk;simp [wanted,undef,hk,e1,e2]))|((with_reducible apply Phi.pure);· (intro ρ wq hx hp hk;(first|(simp [KnowsAll,aF,bD,looks,Op.operands,Call.operands,Act.eval] at hk;refine⟨?_,?_⟩;(· (simp [wanted,undef,hk,e1,e2]));(· (simp [go_sem,hk,hp.1,hp.2.1,hp.2.2,hS wq hx,e1,e2];rfl)))|(refine⟨?_,?_⟩;(· (simp [wanted]));(· (simp [go_sem,hp.1,hp.2.1,hp.2.2,hS wq hx,e1,e2];rfl)))))))
  refine Phi.make (fun v W=>IsD W (cD (.mk k c neg mag t l)) v) (fun v W W' hx h=>h.keep hx.keeps) ?_ ?_;· (intro ρ wq hx hp hk;(first|(simp [KnowsAll,aF,bD,looks,Op.operands,Call.operands,Act.eval] at hk;refine⟨by simp [wanted,hk],OpGood.call (by simp [go_sem,hk,hp.1,hp.2.1,hp.2.2];exact⟨rfl,rfl⟩) ?_⟩)|(refine⟨by simp [wanted],OpGood.call (by simp [go_sem,hp.1,hp.2.1,hp.2.2];exact⟨rfl,rfl⟩) ?_⟩));exact HOWN.out _ (hx0.trans hx))
  refine Phi.make (fun v _=>v=.bool (fG (.mk k c neg mag t l) (cD (.mk k c neg mag t l)))) (Stab.const _) ?_ ?_;· (intro ρ wq hx hp hk;(first|(simp [KnowsAll,aF,bD,looks,Op.operands,Call.operands,Act.eval] at hk;refine⟨by simp [wanted,hk],OpGood.call (by simp [go_sem,hk,hp.1,hp.2.1,hp.2.2];exact⟨rfl,rfl⟩) ?_⟩)|(refine⟨by simp [wanted],OpGood.call (by simp [go_sem,hp.1,hp.2.1,hp.2.2];exact⟨rfl,rfl⟩) ?_⟩));exact fJ (HFL.out _ (hx0.trans hx) _ hk.2.1))
  repeat (first|((with_reducible apply Phi.skip);· (intro ρ wq hx hp hk;simp [KnowsAll,aF,bD,looks,Op.operands,Call.operands,Act.eval] at hk;simp [wanted,undef,hk,e1,e2,hfl]))|((with_reducible apply Phi.pure);· (intro ρ wq hx hp hk;(first|(simp [KnowsAll,aF,bD,looks,Op.operands,Call.operands,Act.eval] at hk;refine⟨?_,?_⟩;(· (simp [wanted,undef,hk,e1,e2,hfl]));(· (simp [go_sem,hk,hp.1,hp.2.1,hp.2.2,hS wq hx,e1,e2,hfl];rfl)))|(refine⟨?_,?_⟩;(· (simp [wanted]));(· (simp [go_sem,hp.1,hp.2.1,hp.2.2,hS wq hx,e1,e2,hfl];rfl)))))))
  refine Phi.done ?_;intro w2 hx2;simp only [Final,List.nil_append,List.cons_append,forall_eq]
  intro v14 hv14
  ((refine hQ9 _ _ ?_);(try refine wpList_nil ?_);(clear hQ9 Q9));simp only [Act.put,List.setIfInBounds_toArray,List.set_cons_succ,List.set_cons_zero]
  go_wp2_with fail
  go_ret
  exact⟨rfl,hx0.trans hx2⟩
end Go.Proofs.YtaeioidifpebdaaGreatDoor
