
import Derived.Test.YtaeioidifpebdaaGreatDoorCopy
import Derived.Test.YtaeioidifpebdaaGreatDoorPlain3
namespace Go.Proofs.YtaeioidifpebdaaGreatDoor
open Go.RowKit
set_option linter.unusedSimpArgs false
set_option linter.unusedVariables false

set_option maxHeartbeats 1000000 in
theorem PX (l:List Int) (w:World) (v:Value) (h:IsMag w l v) :
  Calls Tryz.prog 100 #[v] w fun e w'=>∃v',e=.returned v'∧Ext w w'∧IsMag w' (cC l) v':=by
 obtain⟨a,cap,rfl,h1,h2⟩:=h.form
 unfold maxLen at h2
 go_enter Tryz.func100,Tryz.ntmps100
 go_wp2
 go_loop [3] (fun i=>∃n:Nat,n≤l.length∧i=.int .i64 n∧(∀i (h:i<l.length),n≤i→l[i]=0)) (fun i=>(intOf i).toNat)
 case atStart=>exact⟨l.length,Nat.le_refl _,rfl,fun i h hi=>by omega⟩
 case round =>
  obtain⟨n,hn,rfl,hz⟩:=hrel
  have HZ:=Lib.hid hz;clear hz
  by_cases hp:0<n
  case neg =>
   have ed:decide ((0:Int)<n)=false:=by simp;omega
   have hn0:n=0:=by omega
   subst hn0
   have hfin:=uQ l 0 (Nat.zero_le _) HZ.out (fun h=>absurd h (by omega))
   have HF:=Lib.hid hfin;clear hfin
   go_wp2
   go_ret
   refine⟨_,rfl,Ext.refl _,?_⟩
   rw [HF.out]
   exact h.take (Nat.zero_le _)
  obtain⟨k,rfl⟩:∃k,n=k+1:=⟨n-1,by omega⟩
  have hk:k<l.length:=by omega
  obtain⟨b,o,rfl,c⟩:=h.get k hk
  by_cases hl:l[k]=0
  ·have e0:(l[k] == 0)=true:=by simpa using hl
   have hz':∀i (h:i<l.length),k≤i→l[i]=0:=fun i hi hki=>by
    rcases Nat.lt_or_ge k i with h'|h'
    ·exact HZ.out i hi (by omega)
    ·obtain rfl:i=k:=by omega
     exact hl
   have HL:=Lib.hid hz';clear hl hz'
   go_wp2
   go_round
   case rel=>exact⟨k,by omega,by go_num,HL.out⟩
   case measure=>simp [intOf]
  ·have e0:(l[k] == 0)=false:=by simpa using hl
   have hfin:=uQ l (k+1) hn HZ.out (fun h=>by simpa using hl)
   have HF:=Lib.hid hfin;clear hfin hl
   go_wp2
   go_ret
   refine⟨_,rfl,Ext.refl _,?_⟩
   rw [HF.out]
   exact h.take hn

set_option maxHeartbeats 1000000 in
theorem JR (neg:Bool) (l:List Int) (w:World) (v:Value) (h:IsMag w l v) :
  Calls Tryz.prog 78 #[.agg #[.bool neg,v]] w fun e w'=>e=.returned (.bool (kN neg l))∧Ext w w':=by
 obtain⟨a,cap,rfl,h1,h2⟩:=h.form
 unfold maxLen at h2
 have hx0:=(Ext.refl w).alloc (.cells #[.bool neg,.slice a l.length cap] 25)
 have c0:(w.alloc (.cells #[.bool neg,.slice a l.length cap] 25)).cell? ⟨w.heap.size,0,none⟩=some (.bool neg):=by go_simp
 have c1:(w.alloc (.cells #[.bool neg,.slice a l.length cap] 25)).cell? ⟨w.heap.size,1,none⟩=some (.slice a l.length cap):=by go_simp
 have HT:=Lib.hid (fun W (hx:Ext w W)=>PX l W _ (h.keep hx.keeps))
 have C:=Lib.hid (And.intro c0 c1);clear c0 c1
 by_cases hl:l.length≤48
 case neg =>
  have ed:decide ((l.length:Int)≤48)=false:=by simp;omega
  have HF:=Lib.hid (show kN neg l=false by simp [kN,hl])
  clear hl
  go_enter Tryz.func78,Tryz.ntmps78
  go_wp2_with fail
  have c0:=C.out.1
  have c1:=C.out.2
  have hS:∀W9,Ext _ W9→W9.cell? _=_∧W9.cell? _=_∧True:=fun W9 h=>⟨h.keeps _ _ c0,h.keeps _ _ c1,trivial⟩
  refine aX 25 _ _ _ rfl rfl rfl (by kernel_rfl) (by kernel_rfl) (by kernel_rfl) (fun Q9 hQ9=>?_);simp only [List.take_succ_cons,List.take_zero,List.drop_succ_cons,List.drop_zero,List.map_cons,List.map_nil] at hQ9 ⊢
  repeat (first|((with_reducible apply Phi.skip);· (intro ρ wq hx hp hk;simp [KnowsAll,aF,bD,looks,Op.operands,Call.operands,Act.eval] at hk;simp [wanted,undef,hk,ed]))|((with_reducible apply Phi.pure);· (intro ρ wq hx hp hk;(first|(simp [KnowsAll,aF,bD,looks,Op.operands,Call.operands,Act.eval] at hk;refine⟨?_,?_⟩;(· (simp [wanted,undef,hk,ed]));(· (simp [go_sem,hk,hp.1,hp.2.1,hp.2.2,hS wq hx,ed];rfl)))|(refine⟨?_,?_⟩;(· (simp [wanted]));(· (simp [go_sem,hp.1,hp.2.1,hp.2.2,hS wq hx,ed];rfl)))))))
  refine Phi.done ?_;intro w2 hx2;simp only [Final,List.nil_append,List.cons_append,forall_eq];((refine hQ9 _ _ ?_);(try refine wpList_nil ?_);(clear hQ9 Q9));simp only [Act.put,List.setIfInBounds_toArray,List.set_cons_succ,List.set_cons_zero]
  go_wp2
  go_ret
  exact⟨aG HF.out.symm,hx0.trans hx2⟩
 have ed:decide ((l.length:Int)≤48)=true:=by simp;omega
 by_cases ht:(cC l).length=l.length
 case neg =>
  have ed2:(((cC l).length:Int) == l.length)=false:=by rw [beq_eq_false_iff_ne];omega
  have HF:=Lib.hid (show kN neg l=false by simp [kN,ht])
  clear hl ht
  go_enter Tryz.func78,Tryz.ntmps78
  go_wp2_with fail
  have c0:=C.out.1
  have c1:=C.out.2
  have hS:∀W9,Ext _ W9→W9.cell? _=_∧W9.cell? _=_∧True:=fun W9 h=>⟨h.keeps _ _ c0,h.keeps _ _ c1,trivial⟩
  refine aX 25 _ _ _ rfl rfl rfl (by kernel_rfl) (by kernel_rfl) (by kernel_rfl) (fun Q9 hQ9=>?_);simp only [List.take_succ_cons,List.take_zero,List.drop_succ_cons,List.drop_zero,List.map_cons,List.map_nil] at hQ9 ⊢
  repeat (first|((with_reducible apply Phi.skip);· (intro ρ wq hx hp hk;simp [KnowsAll,aF,bD,looks,Op.operands,Call.operands,Act.eval] at hk;simp [wanted,undef,hk,ed]))|((with_reducible apply Phi.pure);· (intro ρ wq hx hp hk;(first|(simp [KnowsAll,aF,bD,looks,Op.operands,Call.operands,Act.eval] at hk;refine⟨?_,?_⟩;(· (simp [wanted,undef,hk,ed]));(· (simp [go_sem,hk,hp.1,hp.2.1,hp.2.2,hS wq hx,ed];rfl)))|(refine⟨?_,?_⟩;(· (simp [wanted]));(· (simp [go_sem,hp.1,hp.2.1,hp.2.2,hS wq hx,ed];rfl)))))))
  refine Phi.make (fun v W=>IsMag W (cC l) v) (fun v W W' hx h=>h.keep hx.keeps) ?_ ?_;· (intro ρ wq hx hp hk;(first|(simp [KnowsAll,aF,bD,looks,Op.operands,Call.operands,Act.eval] at hk;refine⟨by simp [wanted,hk,ed],OpGood.call (by simp [go_sem,hk,hp.1,hp.2.1,hp.2.2];exact⟨rfl,rfl⟩) ?_⟩)|(refine⟨by simp [wanted],OpGood.call (by simp [go_sem,hp.1,hp.2.1,hp.2.2];exact⟨rfl,rfl⟩) ?_⟩));exact HT.out _ (hx0.trans hx))
  refine Phi.make (fun v _=>v=.int .i64 (((cC l).length:Nat))) (Stab.const _) ?_ ?_;· (intro ρ wq hx hp hk;simp [KnowsAll,aF,bD,looks,Op.operands,Call.operands,Act.eval] at hk;obtain⟨a9,c9,e9,-,-⟩:=IsMag.form hk.1;refine⟨by simp [wanted,hk,ed],?_⟩;unfold OpGood;simp [go_sem,e9,ed];exact Ext.refl _)
  repeat (first|((with_reducible apply Phi.skip);· (intro ρ wq hx hp hk;simp [KnowsAll,aF,bD,looks,Op.operands,Call.operands,Act.eval] at hk;simp [wanted,undef,hk,ed,ed2]))|((with_reducible apply Phi.pure);· (intro ρ wq hx hp hk;(first|(simp [KnowsAll,aF,bD,looks,Op.operands,Call.operands,Act.eval] at hk;refine⟨?_,?_⟩;(· (simp [wanted,undef,hk,ed,ed2]));(· (simp [go_sem,hk,hp.1,hp.2.1,hp.2.2,hS wq hx,ed,ed2];rfl)))|(refine⟨?_,?_⟩;(· (simp [wanted]));(· (simp [go_sem,hp.1,hp.2.1,hp.2.2,hS wq hx,ed,ed2];rfl)))))))
  refine Phi.done ?_;intro w2 hx2;simp only [Final,List.nil_append,List.cons_append,forall_eq]
  intro v10 hv10
  ((refine hQ9 _ _ ?_);(try refine wpList_nil ?_);(clear hQ9 Q9));simp only [Act.put,List.setIfInBounds_toArray,List.set_cons_succ,List.set_cons_zero]
  go_wp2
  go_ret
  exact⟨aG HF.out.symm,hx0.trans hx2⟩
 have ed2:(((cC l).length:Int) == l.length)=true:=by rw [beq_iff_eq];omega
 cases neg with
 | false =>
  have HF:=Lib.hid (show kN false l=true by simp [kN,ht,hl])
  clear hl ht
  go_enter Tryz.func78,Tryz.ntmps78
  go_wp2_with fail
  have c0:=C.out.1
  have c1:=C.out.2
  have hS:∀W9,Ext _ W9→W9.cell? _=_∧W9.cell? _=_∧True:=fun W9 h=>⟨h.keeps _ _ c0,h.keeps _ _ c1,trivial⟩
  refine aX 25 _ _ _ rfl rfl rfl (by kernel_rfl) (by kernel_rfl) (by kernel_rfl) (fun Q9 hQ9=>?_);simp only [List.take_succ_cons,List.take_zero,List.drop_succ_cons,List.drop_zero,List.map_cons,List.map_nil] at hQ9 ⊢
  repeat (first|((with_reducible apply Phi.skip);· (intro ρ wq hx hp hk;simp [KnowsAll,aF,bD,looks,Op.operands,Call.operands,Act.eval] at hk;simp [wanted,undef,hk,ed]))|((with_reducible apply Phi.pure);· (intro ρ wq hx hp hk;(first|(simp [KnowsAll,aF,bD,looks,Op.operands,Call.operands,Act.eval] at hk;refine⟨?_,?_⟩;(· (simp [wanted,undef,hk,ed]));(· (simp [go_sem,hk,hp.1,hp.2.1,hp.2.2,hS wq hx,ed];rfl)))|(refine⟨?_,?_⟩;(· (simp [wanted]));(· (simp [go_sem,hp.1,hp.2.1,hp.2.2,hS wq hx,ed];rfl)))))))
  refine Phi.make (fun v W=>IsMag W (cC l) v) (fun v W W' hx h=>h.keep hx.keeps) ?_ ?_;· (intro ρ wq hx hp hk;(first|(simp [KnowsAll,aF,bD,looks,Op.operands,Call.operands,Act.eval] at hk;refine⟨by simp [wanted,hk,ed],OpGood.call (by simp [go_sem,hk,hp.1,hp.2.1,hp.2.2];exact⟨rfl,rfl⟩) ?_⟩)|(refine⟨by simp [wanted],OpGood.call (by simp [go_sem,hp.1,hp.2.1,hp.2.2];exact⟨rfl,rfl⟩) ?_⟩));exact HT.out _ (hx0.trans hx))
  refine Phi.make (fun v _=>v=.int .i64 (((cC l).length:Nat))) (Stab.const _) ?_ ?_;· (intro ρ wq hx hp hk;simp [KnowsAll,aF,bD,looks,Op.operands,Call.operands,Act.eval] at hk;obtain⟨a9,c9,e9,-,-⟩:=IsMag.form hk.1;refine⟨by simp [wanted,hk,ed],?_⟩;unfold OpGood;simp [go_sem,e9,ed];exact Ext.refl _)
  repeat (first|((with_reducible apply Phi.skip);· (intro ρ wq hx hp hk;simp [KnowsAll,aF,bD,looks,Op.operands,Call.operands,Act.eval] at hk;simp [wanted,undef,hk,ed,ed2]))|((with_reducible apply Phi.pure);· (intro ρ wq hx hp hk;(first|(simp [KnowsAll,aF,bD,looks,Op.operands,Call.operands,Act.eval] at hk;refine⟨?_,?_⟩;(· (simp [wanted,undef,hk,ed,ed2]));(· (simp [go_sem,hk,hp.1,hp.2.1,hp.2.2,hS wq hx,ed,ed2];rfl)))|(refine⟨?_,?_⟩;(· (simp [wanted]));(· (simp [go_sem,hp.1,hp.2.1,hp.2.2,hS wq hx,ed,ed2];rfl)))))))
  refine Phi.done ?_;intro w2 hx2;simp only [Final,List.nil_append,List.cons_append,forall_eq]
  intro v10 hv10
  ((refine hQ9 _ _ ?_);(try refine wpList_nil ?_);(clear hQ9 Q9));simp only [Act.put,List.setIfInBounds_toArray,List.set_cons_succ,List.set_cons_zero]
  go_wp2
  go_ret
  exact⟨aG HF.out.symm,hx0.trans hx2⟩
 | true =>
  have HF:=Lib.hid (show kN true l=decide (0<l.length) by simp [kN,ht,hl])
  clear hl ht
  go_enter Tryz.func78,Tryz.ntmps78
  go_wp2_with fail
  have c0:=C.out.1
  have c1:=C.out.2
  have hS:∀W9,Ext _ W9→W9.cell? _=_∧W9.cell? _=_∧True:=fun W9 h=>⟨h.keeps _ _ c0,h.keeps _ _ c1,trivial⟩
  refine aX 25 _ _ _ rfl rfl rfl (by kernel_rfl) (by kernel_rfl) (by kernel_rfl) (fun Q9 hQ9=>?_);simp only [List.take_succ_cons,List.take_zero,List.drop_succ_cons,List.drop_zero,List.map_cons,List.map_nil] at hQ9 ⊢
  repeat (first|((with_reducible apply Phi.skip);· (intro ρ wq hx hp hk;simp [KnowsAll,aF,bD,looks,Op.operands,Call.operands,Act.eval] at hk;simp [wanted,undef,hk,ed]))|((with_reducible apply Phi.pure);· (intro ρ wq hx hp hk;(first|(simp [KnowsAll,aF,bD,looks,Op.operands,Call.operands,Act.eval] at hk;refine⟨?_,?_⟩;(· (simp [wanted,undef,hk,ed]));(· (simp [go_sem,hk,hp.1,hp.2.1,hp.2.2,hS wq hx,ed];rfl)))|(refine⟨?_,?_⟩;(· (simp [wanted]));(· (simp [go_sem,hp.1,hp.2.1,hp.2.2,hS wq hx,ed];rfl)))))))
  refine Phi.make (fun v W=>IsMag W (cC l) v) (fun v W W' hx h=>h.keep hx.keeps) ?_ ?_;· (intro ρ wq hx hp hk;(first|(simp [KnowsAll,aF,bD,looks,Op.operands,Call.operands,Act.eval] at hk;refine⟨by simp [wanted,hk,ed],OpGood.call (by simp [go_sem,hk,hp.1,hp.2.1,hp.2.2];exact⟨rfl,rfl⟩) ?_⟩)|(refine⟨by simp [wanted],OpGood.call (by simp [go_sem,hp.1,hp.2.1,hp.2.2];exact⟨rfl,rfl⟩) ?_⟩));exact HT.out _ (hx0.trans hx))
  refine Phi.make (fun v _=>v=.int .i64 (((cC l).length:Nat))) (Stab.const _) ?_ ?_;· (intro ρ wq hx hp hk;simp [KnowsAll,aF,bD,looks,Op.operands,Call.operands,Act.eval] at hk;obtain⟨a9,c9,e9,-,-⟩:=IsMag.form hk.1;refine⟨by simp [wanted,hk,ed],?_⟩;unfold OpGood;simp [go_sem,e9,ed];exact Ext.refl _)
  repeat (first|((with_reducible apply Phi.skip);· (intro ρ wq hx hp hk;simp [KnowsAll,aF,bD,looks,Op.operands,Call.operands,Act.eval] at hk;simp [wanted,undef,hk,ed,ed2]))|((with_reducible apply Phi.pure);· (intro ρ wq hx hp hk;(first|(simp [KnowsAll,aF,bD,looks,Op.operands,Call.operands,Act.eval] at hk;refine⟨?_,?_⟩;(· (simp [wanted,undef,hk,ed,ed2]));(· (simp [go_sem,hk,hp.1,hp.2.1,hp.2.2,hS wq hx,ed,ed2];rfl)))|(refine⟨?_,?_⟩;(· (simp [wanted]));(· (simp [go_sem,hp.1,hp.2.1,hp.2.2,hS wq hx,ed,ed2];rfl)))))))
  refine Phi.done ?_;intro w2 hx2;simp only [Final,List.nil_append,List.cons_append,forall_eq]
  intro v10 hv10
  ((refine hQ9 _ _ ?_);(try refine wpList_nil ?_);(clear hQ9 Q9));simp only [Act.put,List.setIfInBounds_toArray,List.set_cons_succ,List.set_cons_zero]
  go_wp2
  go_ret
  exact⟨aG (by rw [HF.out]),hx0.trans hx2⟩
end Go.Proofs.YtaeioidifpebdaaGreatDoor
