
import Derived.Test.YtaeioidifpebdaaGreatDoorSame2
namespace Go.Proofs.YtaeioidifpebdaaGreatDoor
open Go.RowKit
set_option linter.unusedSimpArgs false
set_option linter.unusedVariables false

def wK (n:Nat):Prop:=∀(a b:D) (w:World) (va vb:Value),a.ht≤n→IsD w a va→IsD w b vb →
 Calls Tryz.prog 27 #[va,vb] w fun e w'=>e=.returned (.bool (eqB a b))∧Ext w w'

set_option maxHeartbeats 2000000 in
theorem KQ (n:Nat) (ih:wK n):wK (n+1):=by
 intro a b w va vb hh ha hb
 have hhl:∀d∈a.l,d.ht≤n:=fun d hd=>by
  obtain⟨i,hi,rfl⟩:=List.mem_iff_getElem.1 hd
  have:=D.ht_lt hi;omega
 have HH:=Lib.hid hhl;clear hhl hh
 obtain⟨am,cm,al,cl,rfl,ham,hal,-,-,ha1,ha2⟩:=ha.open
 obtain⟨bm,dm,bl,dl,rfl,hbm,hbl,-,-,hb1,hb2⟩:=hb.open
 unfold maxLen at ha2 hb2
 have hx0:=((Ext.refl w).alloc (.cells #[.int .i64 a.k,.int .i32 a.c,.bool a.neg,.slice am a.mag.length cm,.string a.t,.slice al a.l.length cl] 28)).alloc (.cells #[.int .i64 b.k,.int .i32 b.c,.bool b.neg,.slice bm b.mag.length dm,.string b.t,.slice bl b.l.length dl] 28)
 by_cases h1:a.k=b.k
 case neg =>
  have e1:(a.k != b.k)=true:=by simpa using h1
  have HN:=Lib.hid h1;clear h1
  go_enter Tryz.func27,Tryz.ntmps27
  go_wp2_with fail
  go_ret
  exact⟨aG (aA (fun h=>HN.out (by rw [h]))).symm,hx0⟩
 have e1:(a.k != b.k)=false:=by simpa using h1
 have H1:=Lib.hid h1;clear h1
 by_cases h2:a.c=b.c
 case neg =>
  have e2:(a.c != b.c)=true:=by simpa using h2
  have HN:=Lib.hid h2;clear h2
  go_enter Tryz.func27,Tryz.ntmps27
  go_wp2_with fail
  go_ret
  exact⟨aG (aA (fun h=>HN.out (by rw [h]))).symm,hx0⟩
 have e2:(a.c != b.c)=false:=by simpa using h2
 have H2:=Lib.hid h2;clear h2
 have HC:=Lib.hid (xJ a.neg b.neg a.mag b.mag _ _ _ (ham.keep hx0.keeps) (hbm.keep hx0.keeps))
 go_enter Tryz.func27,Tryz.ntmps27
 go_wp2_with fail
 refine HC.out.mono ?_
 rintro e w1 ⟨rfl,hx1⟩
 have hx:Ext w w1:=hx0.trans hx1
 have c0:w1.cell? ⟨w.heap.size,5,none⟩=some (.slice al a.l.length cl):=hx1.keeps _ _ (by go_simp)
 have c1:w1.cell? ⟨w.heap.size+1,5,none⟩=some (.slice bl b.l.length dl):=hx1.keeps _ _ (by go_simp)
 have c2:w1.cell? ⟨w.heap.size,4,none⟩=some (.string a.t):=hx1.keeps _ _ (by go_simp)
 have c3:w1.cell? ⟨w.heap.size+1,4,none⟩=some (.string b.t):=hx1.keeps _ _ (by go_simp)
 have HX:=Lib.hid hx1;clear hx1
 by_cases h3:(a.neg,a.mag)=(b.neg,b.mag)
 case neg =>
  have e3:eqB (a.neg,a.mag) (b.neg,b.mag)=false:=aA h3
  have HN:=Lib.hid h3;clear h3
  go_wp2_with fail
  go_ret
  exact⟨aG (aA (fun h=>HN.out (by rw [h]))).symm,hx⟩
 have e3:eqB (a.neg,a.mag) (b.neg,b.mag)=true:=aY h3
 have H3:=Lib.hid h3;clear h3
 by_cases h4:a.t=b.t
 case neg =>
  have e4:(a.t.toList == b.t.toList)=false:=by simpa using fun h=>h4 (pH h)
  have HN:=Lib.hid h4;clear h4
  go_wp2_with fail
  go_ret
  exact⟨aG (aA (fun h=>HN.out (by rw [h]))).symm,hx⟩
 have e4:(a.t.toList == b.t.toList)=true:=by simp [h4]
 have H4:=Lib.hid h4;clear h4
 by_cases h5:a.l.length=b.l.length
 case neg =>
  have e5:((a.l.length:Int) != b.l.length)=true:=by rw [bne_iff_ne];omega
  have HN:=Lib.hid h5;clear h5
  go_wp2_with fail
  go_ret
  exact⟨aG (aA (fun h=>HN.out (by rw [h]))).symm,hx⟩
 have e5:((a.l.length:Int) != b.l.length)=false:=by simp [h5]
 have hle:a.l.length≤b.l.length:=by omega
 have hge:b.l.length≤a.l.length:=by omega
 have H5:=Lib.hid h5;clear h5
 go_wp2_with fail
 go_loopw [5] (fun i wr=>∃k:Nat,k≤a.l.length∧i=.int .i64 k∧a.l.take k=b.l.take k∧Ext w1 wr) (fun i _=>a.l.length-(intOf i).toNat)
 case atStart=>exact⟨0,Nat.zero_le _,rfl,rfl,Ext.refl _⟩
 case round =>
  obtain⟨k,hk,rfl,ht,hxr⟩:=hrel
  have HT:=Lib.hid ht;clear ht
  have c0:=hxr.keeps _ _ c0
  have c1:=hxr.keeps _ _ c1
  by_cases hlt:k<a.l.length
  ·have hlb:k<b.l.length:=by omega
   go_wp2_with fail
   obtain⟨ab,ao,rfl,hca⟩:=hal.get k hlt
   obtain⟨bb,bo,rfl,hcb⟩:=hbl.get k hlb
   obtain⟨am',cm',al',cl',a0,a1,a2,a3,a4,a5,hm1,hl1⟩:=hca.keep (hx.trans hxr).keeps
   obtain⟨bm',dm',bl',dl',b0,b1,b2,b3,b4,b5,hm2,hl2⟩:=hcb.keep (hx.trans hxr).keeps
   have hS:∀W9,Ext wr W9→W9.cell? _=_∧W9.cell? _=_∧W9.cell? _=_∧W9.cell? _=_∧W9.cell? _=_∧W9.cell? _=_∧W9.cell? _=_∧W9.cell? _=_∧W9.cell? _=_∧W9.cell? _=_∧W9.cell? _=_∧W9.cell? _=_∧W9.cell? _=_∧W9.cell? _=_∧True:=fun W9 h=>⟨h.keeps _ _ c0,h.keeps _ _ c1,h.keeps _ _ a0,h.keeps _ _ a1,h.keeps _ _ a2,h.keeps _ _ a3,h.keeps _ _ a4,h.keeps _ _ a5,h.keeps _ _ b0,h.keeps _ _ b1,h.keeps _ _ b2,h.keeps _ _ b3,h.keeps _ _ b4,h.keeps _ _ b5,trivial⟩
   refine aX 12 _ _ _ rfl rfl rfl (by kernel_rfl) (by kernel_rfl) (by kernel_rfl) (fun Q9 hQ9=>?_);simp only [List.take_succ_cons,List.take_zero,List.drop_succ_cons,List.drop_zero,List.map_cons,List.map_nil] at hQ9 ⊢
   repeat (first|((with_reducible apply Phi.skip);· (intro ρ wq hx hp hk;simp [KnowsAll,aF,bD,looks,Op.operands,Call.operands,Act.eval] at hk;simp [wanted,undef,hk,hlt,hlb]))|((with_reducible apply Phi.pure);· (intro ρ wq hx hp hk;(first|(simp [KnowsAll,aF,bD,looks,Op.operands,Call.operands,Act.eval] at hk;refine⟨?_,?_⟩;(· (simp [wanted,undef,hk,hlt,hlb]));(· (simp [go_sem,hk,hp.1,hp.2.1,hp.2.2,hS wq hx,hlt,hlb];rfl)))|(refine⟨?_,?_⟩;(· (simp [wanted]));(· (simp [go_sem,hp.1,hp.2.1,hp.2.2,hS wq hx,hlt,hlb];rfl)))))))
   refine Phi.make (fun v _=>v=.bool (eqB a.l[k] b.l[k])) (Stab.const _) ?_ ?_;· (intro ρ wq hx hp hk;(first|(simp [KnowsAll,aF,bD,looks,Op.operands,Call.operands,Act.eval] at hk;refine⟨by simp [wanted,hk],OpGood.call (by simp [go_sem,hk,hp.1,hp.2.1,hp.2.2];exact⟨rfl,rfl⟩) ?_⟩)|(refine⟨by simp [wanted],OpGood.call (by simp [go_sem,hp.1,hp.2.1,hp.2.2];exact⟨rfl,rfl⟩) ?_⟩));exact fJ (ih _ _ _ _ _ (HH.out _ (List.getElem_mem hlt)) (IsD.mk' (hm1.keep hx.keeps) (hl1.keep hx.keeps)) (IsD.mk' (hm2.keep hx.keeps) (hl2.keep hx.keeps))))
   repeat (first|((with_reducible apply Phi.skip);· (intro ρ wq hx hp hk;simp [KnowsAll,aF,bD,looks,Op.operands,Call.operands,Act.eval] at hk;simp [wanted,undef,hk,hlt,hlb]))|((with_reducible apply Phi.pure);· (intro ρ wq hx hp hk;(first|(simp [KnowsAll,aF,bD,looks,Op.operands,Call.operands,Act.eval] at hk;refine⟨?_,?_⟩;(· (simp [wanted,undef,hk,hlt,hlb]));(· (simp [go_sem,hk,hp.1,hp.2.1,hp.2.2,hS wq hx,hlt,hlb];rfl)))|(refine⟨?_,?_⟩;(· (simp [wanted]));(· (simp [go_sem,hp.1,hp.2.1,hp.2.2,hS wq hx,hlt,hlb];rfl)))))))
   refine Phi.done ?_;intro w2 hx2;simp only [Final,List.nil_append,List.cons_append,forall_eq];((refine hQ9 _ _ ?_);(try refine wpList_nil ?_);(clear hQ9 Q9));simp only [Act.put,List.setIfInBounds_toArray,List.set_cons_succ,List.set_cons_zero]
   by_cases he:a.l[k]=b.l[k]
   ·simp only [aY he,Bool.not_true]
    have HE:=Lib.hid he;clear he
    go_wp2_with fail
    go_roundw
    case rel=>exact⟨k+1,by omega,by go_num,lY HT.out hlt hlb HE.out,hxr.trans hx2⟩
    case measure=>simp [intOf];omega
   ·simp only [aA he,Bool.not_false]
    have HE:=Lib.hid he;clear he
    go_wp2_with fail
    go_ret
    exact⟨aG (aA (fun h=>rX hlt hlb HE.out (by rw [h]))).symm,(hx.trans hxr).trans hx2⟩
  ·go_wp2_with fail
   go_ret
   exact⟨aG (aY (D.ext' ⟨H1.out,H2.out,(Prod.mk.inj H3.out).1,(Prod.mk.inj H3.out).2,H4.out,H5.out⟩ (pG HT.out (by omega) (by omega)))).symm,hx.trans hxr⟩
theorem AK:∀n,wK n
 | 0 => fun a _ _ _ _ h _ _ => absurd h (by have : 0 < a.ht := by cases a; rw [D.ht]; omega
                                            omega)
 | n+1=>KQ n (AK n)
theorem OO (a b:D) (w:World) (va vb:Value) (ha:IsD w a va) (hb:IsD w b vb) :
  Calls Tryz.prog 27 #[va,vb] w fun e w'=>e=.returned (.bool (eqB a b))∧Ext w w':=AK a.ht a b w va vb (Nat.le_refl _) ha hb

end Go.Proofs.YtaeioidifpebdaaGreatDoor
