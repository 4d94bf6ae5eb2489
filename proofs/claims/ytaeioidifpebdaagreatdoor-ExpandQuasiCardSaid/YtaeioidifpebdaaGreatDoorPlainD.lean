
import Derived.Test.YtaeioidifpebdaaGreatDoorPlainC
namespace Go.Proofs.YtaeioidifpebdaaGreatDoor
open Go.RowKit
set_option linter.unusedSimpArgs false
set_option linter.unusedVariables false

set_option maxHeartbeats 4000000 in
theorem IX (c:Int) (neg:Bool) (mag:List Int) (t:ByteArray) (l:List D) (w:World) (v:Value) (h:IsD w (.mk 7 c neg mag t l) v) (hb:fF (.mk 7 c neg mag t l)) (n:Nat) (ih:jW n) (hh:∀i (h:i<l.length),l[i].ht≤n∧l[i].Ok) (hT:Tabs w) :
  Calls Tryz.prog 53 #[v] w fun e w'=>e=.returned (.bool (cA (.mk 7 c neg mag t l)))∧Ext w w':=by
 rw [tW hb]
 have HFL:=Lib.hid (fun W (hx:Ext w W) v' (hv:IsD W (cD (.mk 7 c neg mag t l)) v')=>gM (.mk 7 c neg mag t l) (cD (.mk 7 c neg mag t l)) W v v' (h.keep hx.keeps) hv)
 have HOWN:=Lib.hid (fun W (hx:Ext w W)=>jK 7 c neg mag t l W v (h.keep hx.keeps) (by omega) (by omega))
 have HC:=Lib.hid (fun W (hx:Ext w W) v (hv:IsDs W l v)=>qQ n ih l hh W v (hT.ext hx) hv)
 obtain⟨am,cm,al,cl,rfl,hm,hl,-,-,-,-⟩:=h.open'
 have hx0:=(Ext.refl w).alloc (.cells #[.int .i64 7,.int .i32 c,.bool neg,.slice am mag.length cm,.string t,.slice al l.length cl] 28)
 have BX:=Lib.hid (fV w (.int .i64 7) (.int .i32 c) (.bool neg) (.slice am mag.length cm) (.string t) (.slice al l.length cl) 28)
 have hfl:fG (.mk 7 c neg mag t l) (cD (.mk 7 c neg mag t l))=true:=fI ((gX _).2 hb)
 clear h hb
 go_enter Tryz.func53,Tryz.ntmps53
 go_wp2_with fail
 obtain⟨c0,c1,c2,c3,c4,c5⟩:=BX.out
 have hS:∀W9,Ext _ W9→W9.cell? _=_∧W9.cell? _=_∧W9.cell? _=_∧W9.cell? _=_∧W9.cell? _=_∧W9.cell? _=_∧True:=fun W9 h=>⟨h.keeps _ _ c0,h.keeps _ _ c1,h.keeps _ _ c2,h.keeps _ _ c3,h.keeps _ _ c4,h.keeps _ _ c5,trivial⟩
 refine aX 15 _ _ _ rfl rfl rfl (by kernel_rfl) (by kernel_rfl) (by kernel_rfl) (fun Q9 hQ9=>?_);simp only [List.take_succ_cons,List.take_zero,List.drop_succ_cons,List.drop_zero,List.map_cons,List.map_nil] at hQ9 ⊢
 repeat (first|((with_reducible apply Phi.skip);· (intro ρ wq hx hp hk;simp [KnowsAll,aF,bD,looks,Op.operands,Call.operands,Act.eval] at hk;simp [wanted,undef,hk]))|((with_reducible apply Phi.pure);· (intro ρ wq hx hp hk;(first|(simp [KnowsAll,aF,bD,looks,Op.operands,Call.operands,Act.eval] at hk;refine⟨?_,?_⟩;(· (simp [wanted,undef,hk]));(· (simp [go_sem,hk,hp.1,hp.2.1,hp.2.2,hS wq hx];rfl)))|(refine⟨?_,?_⟩;(· (simp [wanted]));(· (simp [go_sem,hp.1,hp.2.1,hp.2.2,hS wq hx];rfl)))))))
 refine Phi.make (fun v W=>IsD W (cD (.mk 7 c neg mag t l)) v) (fun v W W' hx h=>h.keep hx.keeps) ?_ ?_;· (intro ρ wq hx hp hk;(first|(simp [KnowsAll,aF,bD,looks,Op.operands,Call.operands,Act.eval] at hk;refine⟨by simp [wanted,hk],OpGood.call (by simp [go_sem,hk,hp.1,hp.2.1,hp.2.2];exact⟨rfl,rfl⟩) ?_⟩)|(refine⟨by simp [wanted],OpGood.call (by simp [go_sem,hp.1,hp.2.1,hp.2.2];exact⟨rfl,rfl⟩) ?_⟩));exact HOWN.out _ (hx0.trans hx))
 refine Phi.make (fun v _=>v=.bool (fG (.mk 7 c neg mag t l) (cD (.mk 7 c neg mag t l)))) (Stab.const _) ?_ ?_;· (intro ρ wq hx hp hk;(first|(simp [KnowsAll,aF,bD,looks,Op.operands,Call.operands,Act.eval] at hk;refine⟨by simp [wanted,hk],OpGood.call (by simp [go_sem,hk,hp.1,hp.2.1,hp.2.2];exact⟨rfl,rfl⟩) ?_⟩)|(refine⟨by simp [wanted],OpGood.call (by simp [go_sem,hp.1,hp.2.1,hp.2.2];exact⟨rfl,rfl⟩) ?_⟩));exact fJ (HFL.out _ (hx0.trans hx) _ hk.2.1))
 repeat (first|((with_reducible apply Phi.skip);· (intro ρ wq hx hp hk;simp [KnowsAll,aF,bD,looks,Op.operands,Call.operands,Act.eval] at hk;simp [wanted,undef,hk,hfl]))|((with_reducible apply Phi.pure);· (intro ρ wq hx hp hk;(first|(simp [KnowsAll,aF,bD,looks,Op.operands,Call.operands,Act.eval] at hk;refine⟨?_,?_⟩;(· (simp [wanted,undef,hk,hfl]));(· (simp [go_sem,hk,hp.1,hp.2.1,hp.2.2,hS wq hx,hfl];rfl)))|(refine⟨?_,?_⟩;(· (simp [wanted]));(· (simp [go_sem,hp.1,hp.2.1,hp.2.2,hS wq hx,hfl];rfl)))))))
 refine Phi.done ?_;intro w2 hx2;simp only [Final,List.nil_append,List.cons_append,forall_eq]
 intro v14 hv14
 ((refine hQ9 _ _ ?_);(try refine wpList_nil ?_);(clear hQ9 Q9));simp only [Act.put,List.setIfInBounds_toArray,List.set_cons_succ,List.set_cons_zero]
 obtain⟨c0,c1,c2,c3,c4,c5,-⟩:=hS w2 hx2
 clear hS BX HOWN HFL hfl hv14
 by_cases hlen:l.length=2
 ·have e1:((l.length:Int) != 2)=false:=by simp [hlen]
  have e2:decide ((l.length:Int)≤62)=true:=by simp;omega
  have HD:=Lib.hid (show decide (l.length=2)=true by simpa using hlen)
  clear hlen
  go_wp2_with fail
  refine (HC.out _ (hx0.trans hx2) _ (hl.keep (hx0.trans hx2).keeps)).mono ?_
  rintro e w3 ⟨rfl,hx3⟩
  go_wp2_with fail
  go_ret
  exact⟨aG (by rw [HD.out];simp),hx0.trans (hx2.trans hx3)⟩
 ·have e1:((l.length:Int) != 2)=true:=by rw [bne_iff_ne];omega
  have HD:=Lib.hid (show decide (l.length=2)=false by simpa using hlen)
  clear hlen
  go_wp2_with fail
  go_ret
  exact⟨aG (by rw [HD.out];rfl),hx0.trans hx2⟩

set_option maxHeartbeats 4000000 in
theorem LG (c:Int) (neg:Bool) (mag:List Int) (t:ByteArray) (l:List D) (w:World) (v:Value) (h:IsD w (.mk 8 c neg mag t l) v) (hb:fF (.mk 8 c neg mag t l)) (n:Nat) (ih:jW n) (hh:∀i (h:i<l.length),l[i].ht≤n∧l[i].Ok) (hT:Tabs w) :
  Calls Tryz.prog 53 #[v] w fun e w'=>e=.returned (.bool (cA (.mk 8 c neg mag t l)))∧Ext w w':=by
 rw [wH hb]
 have HFL:=Lib.hid (fun W (hx:Ext w W) v' (hv:IsD W (cD (.mk 8 c neg mag t l)) v')=>gM (.mk 8 c neg mag t l) (cD (.mk 8 c neg mag t l)) W v v' (h.keep hx.keeps) hv)
 have HOWN:=Lib.hid (fun W (hx:Ext w W)=>jK 8 c neg mag t l W v (h.keep hx.keeps) (by omega) (by omega))
 have HC:=Lib.hid (fun W (hx:Ext w W) v (hv:IsDs W l v)=>qQ n ih l hh W v (hT.ext hx) hv)
 obtain⟨am,cm,al,cl,rfl,hm,hl,-,-,-,-⟩:=h.open'
 have hx0:=(Ext.refl w).alloc (.cells #[.int .i64 8,.int .i32 c,.bool neg,.slice am mag.length cm,.string t,.slice al l.length cl] 28)
 have BX:=Lib.hid (fV w (.int .i64 8) (.int .i32 c) (.bool neg) (.slice am mag.length cm) (.string t) (.slice al l.length cl) 28)
 have hfl:fG (.mk 8 c neg mag t l) (cD (.mk 8 c neg mag t l))=true:=fI ((gX _).2 hb)
 clear h hb
 go_enter Tryz.func53,Tryz.ntmps53
 go_wp2_with fail
 obtain⟨c0,c1,c2,c3,c4,c5⟩:=BX.out
 have hS:∀W9,Ext _ W9→W9.cell? _=_∧W9.cell? _=_∧W9.cell? _=_∧W9.cell? _=_∧W9.cell? _=_∧W9.cell? _=_∧True:=fun W9 h=>⟨h.keeps _ _ c0,h.keeps _ _ c1,h.keeps _ _ c2,h.keeps _ _ c3,h.keeps _ _ c4,h.keeps _ _ c5,trivial⟩
 refine aX 15 _ _ _ rfl rfl rfl (by kernel_rfl) (by kernel_rfl) (by kernel_rfl) (fun Q9 hQ9=>?_);simp only [List.take_succ_cons,List.take_zero,List.drop_succ_cons,List.drop_zero,List.map_cons,List.map_nil] at hQ9 ⊢
 repeat (first|((with_reducible apply Phi.skip);· (intro ρ wq hx hp hk;simp [KnowsAll,aF,bD,looks,Op.operands,Call.operands,Act.eval] at hk;simp [wanted,undef,hk]))|((with_reducible apply Phi.pure);· (intro ρ wq hx hp hk;(first|(simp [KnowsAll,aF,bD,looks,Op.operands,Call.operands,Act.eval] at hk;refine⟨?_,?_⟩;(· (simp [wanted,undef,hk]));(· (simp [go_sem,hk,hp.1,hp.2.1,hp.2.2,hS wq hx];rfl)))|(refine⟨?_,?_⟩;(· (simp [wanted]));(· (simp [go_sem,hp.1,hp.2.1,hp.2.2,hS wq hx];rfl)))))))
 refine Phi.make (fun v W=>IsD W (cD (.mk 8 c neg mag t l)) v) (fun v W W' hx h=>h.keep hx.keeps) ?_ ?_;· (intro ρ wq hx hp hk;(first|(simp [KnowsAll,aF,bD,looks,Op.operands,Call.operands,Act.eval] at hk;refine⟨by simp [wanted,hk],OpGood.call (by simp [go_sem,hk,hp.1,hp.2.1,hp.2.2];exact⟨rfl,rfl⟩) ?_⟩)|(refine⟨by simp [wanted],OpGood.call (by simp [go_sem,hp.1,hp.2.1,hp.2.2];exact⟨rfl,rfl⟩) ?_⟩));exact HOWN.out _ (hx0.trans hx))
 refine Phi.make (fun v _=>v=.bool (fG (.mk 8 c neg mag t l) (cD (.mk 8 c neg mag t l)))) (Stab.const _) ?_ ?_;· (intro ρ wq hx hp hk;(first|(simp [KnowsAll,aF,bD,looks,Op.operands,Call.operands,Act.eval] at hk;refine⟨by simp [wanted,hk],OpGood.call (by simp [go_sem,hk,hp.1,hp.2.1,hp.2.2];exact⟨rfl,rfl⟩) ?_⟩)|(refine⟨by simp [wanted],OpGood.call (by simp [go_sem,hp.1,hp.2.1,hp.2.2];exact⟨rfl,rfl⟩) ?_⟩));exact fJ (HFL.out _ (hx0.trans hx) _ hk.2.1))
 repeat (first|((with_reducible apply Phi.skip);· (intro ρ wq hx hp hk;simp [KnowsAll,aF,bD,looks,Op.operands,Call.operands,Act.eval] at hk;simp [wanted,undef,hk,hfl]))|((with_reducible apply Phi.pure);· (intro ρ wq hx hp hk;(first|(simp [KnowsAll,aF,bD,looks,Op.operands,Call.operands,Act.eval] at hk;refine⟨?_,?_⟩;(· (simp [wanted,undef,hk,hfl]));(· (simp [go_sem,hk,hp.1,hp.2.1,hp.2.2,hS wq hx,hfl];rfl)))|(refine⟨?_,?_⟩;(· (simp [wanted]));(· (simp [go_sem,hp.1,hp.2.1,hp.2.2,hS wq hx,hfl];rfl)))))))
 refine Phi.done ?_;intro w2 hx2;simp only [Final,List.nil_append,List.cons_append,forall_eq]
 intro v14 hv14
 ((refine hQ9 _ _ ?_);(try refine wpList_nil ?_);(clear hQ9 Q9));simp only [Act.put,List.setIfInBounds_toArray,List.set_cons_succ,List.set_cons_zero]
 obtain⟨c0,c1,c2,c3,c4,c5,-⟩:=hS w2 hx2
 clear hS BX HOWN HFL hfl hv14
 by_cases hlen:l.length≤62
 ·have e2:decide ((l.length:Int)≤62)=true:=by simp;omega
  have HD:=Lib.hid (show decide (l.length≤62)=true by simpa using hlen)
  clear hlen
  go_wp2_with fail
  refine (HC.out _ (hx0.trans hx2) _ (hl.keep (hx0.trans hx2).keeps)).mono ?_
  rintro e w3 ⟨rfl,hx3⟩
  go_wp2_with fail
  go_ret
  exact⟨aG (by rw [HD.out];simp),hx0.trans (hx2.trans hx3)⟩
 ·have e2:decide ((l.length:Int)≤62)=false:=by simp;omega
  have HD:=Lib.hid (show decide (l.length≤62)=false by simpa using hlen)
  clear hlen
  go_wp2_with fail
  go_ret
  exact⟨aG (by rw [HD.out];rfl),hx0.trans hx2⟩

theorem LH (n:Nat) (ih:jW n):jW (n+1):=by
 intro d w v hh hok hT h
 have hhl:∀i (hi:i<d.l.length),d.l[i].ht≤n∧d.l[i].Ok:=fun i hi=>⟨by have:=D.ht_lt hi;omega,hok.get i hi⟩
 have hts:=hok.t'
 obtain⟨k,c,neg,mag,t,l⟩:=d
 simp only [D.l,D.t] at hhl hts
 by_cases hk:0≤k∧k≤10
 case neg=>exact DE k c neg mag t l w v h (fun hp=>hk (by rw [D.Plain] at hp;exact hp.1)) (.inl hk)
 by_cases hb:fF (.mk k c neg mag t l)
 case neg=>exact DE k c neg mag t l w v h (fun hp=>hb (by rw [D.Plain] at hp;exact hp.2.1)) (.inr hb)
 have hk:k=0∨k=1∨k=2∨k=3∨k=4∨k=5∨k=6∨k=7∨k=8∨k=9∨k=10:=by omega
 rcases hk with rfl|rfl|rfl|rfl|rfl|rfl|rfl|rfl|rfl|rfl|rfl
 ·exact EX c neg mag t l w v h hb
 ·exact EY c neg mag t l w v h hb
 ·exact EZ c neg mag t l w v h hb
 ·exact IW c neg mag t l w v h hb
 ·exact LD c neg mag t l w v h hb
 ·exact LF c neg mag t l w v h hb hts hT
 ·exact LE c neg mag t l w v h hb hts hT
 ·exact IX c neg mag t l w v h hb n ih hhl hT
 ·exact LG c neg mag t l w v h hb n ih hhl hT
 ·exact FA c neg mag t l w v h hb
 ·exact CA c neg mag t l w v h hb
theorem AZ:∀n,jW n
 | 0=>fun d _ _ h=>absurd h (by cases d;rw [D.ht];omega)
 | n+1=>LH n (AZ n)
theorem PA (d:D) (w:World) (v:Value) (hok:d.Ok) (hT:Tabs w) (h:IsD w d v) :
  Calls Tryz.prog 53 #[v] w fun e w'=>e=.returned (.bool (cA d))∧Ext w w':=AZ d.ht d w v (Nat.le_refl _) hok hT h
end Go.Proofs.YtaeioidifpebdaaGreatDoor
