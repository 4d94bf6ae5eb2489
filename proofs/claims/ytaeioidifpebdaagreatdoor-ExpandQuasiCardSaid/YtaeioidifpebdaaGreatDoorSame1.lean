
import Derived.Test.YtaeioidifpebdaaGreatDoorKit
namespace Go.Proofs.YtaeioidifpebdaaGreatDoor
open Go.RowKit
set_option linter.unusedSimpArgs false
set_option linter.unusedVariables false

set_option maxHeartbeats 1000000 in
theorem HQ (l m:List Int) (w:World) (va vb:Value) (ha:IsMag w l va) (hb:IsMag w m vb) :
  Calls Tryz.prog 75 #[va,vb] w fun e w'=>e=.returned (.bool (eqB l m))∧Ext w w':=by
 obtain⟨a,ca,rfl,ha1,ha2⟩:=ha.form
 obtain⟨b,cb,rfl,hb1,hb2⟩:=hb.form
 unfold maxLen at ha2 hb2
 by_cases hlen:l.length=m.length
 ·have e1:((l.length:Int) != m.length)=false:=by simp [hlen]
  have HL:=Lib.hid hlen
  have hle:l.length≤m.length:=by omega
  have hge:m.length≤l.length:=by omega
  clear hlen
  go_enter Tryz.func75,Tryz.ntmps75
  go_wp2
  go_loopw [13] (fun i wr=>∃k:Nat,k≤l.length∧i=.int .i64 k∧l.take k=m.take k∧Ext w wr) (fun i _=>l.length-(intOf i).toNat)
  case atStart=>exact⟨0,Nat.zero_le _,rfl,rfl,Ext.refl _⟩
  case round =>
   obtain⟨k,hk,rfl,ht,hxr⟩:=hrel
   have HT:=Lib.hid ht;clear ht
   by_cases hlt:k<l.length
   ·have hltm:k<m.length:=by omega
    obtain⟨b1,o1,rfl,c1⟩:=ha.get k hlt
    obtain⟨b2,o2,rfl,c2⟩:=hb.get k hltm
    have c1:=hxr.keeps _ _ c1
    have c2:=hxr.keeps _ _ c2
    go_wp2_with fail
    have hS:∀W9,Ext wr W9→W9.cell? _=_∧W9.cell? _=_∧True:=fun W9 h=>⟨h.keeps _ _ c1,h.keeps _ _ c2,trivial⟩
    refine aX 9 _ _ _ rfl rfl rfl (by kernel_rfl) (by kernel_rfl) (by kernel_rfl) (fun Q9 hQ9=>?_);simp only [List.take_succ_cons,List.take_zero,List.drop_succ_cons,List.drop_zero,List.map_cons,List.map_nil] at hQ9 ⊢
    repeat (first|((with_reducible apply Phi.skip);· (intro ρ wq hx hp hk;simp [KnowsAll,aF,bD,looks,Op.operands,Call.operands,Act.eval] at hk;simp [wanted,undef,hk,hlt,hltm]))|((with_reducible apply Phi.pure);· (intro ρ wq hx hp hk;(first|(simp [KnowsAll,aF,bD,looks,Op.operands,Call.operands,Act.eval] at hk;refine⟨?_,?_⟩;(· (simp [wanted,undef,hk,hlt,hltm]));(· (simp [go_sem,hk,hp.1,hp.2.1,hp.2.2,hS wq hx,hlt,hltm];rfl)))|(refine⟨?_,?_⟩;(· (simp [wanted]));(· (simp [go_sem,hp.1,hp.2.1,hp.2.2,hS wq hx,hlt,hltm];rfl)))))))
    refine Phi.done ?_;intro w2 hx2;simp only [Final,List.nil_append,List.cons_append,forall_eq];((refine hQ9 _ _ ?_);(try refine wpList_nil ?_);(clear hQ9 Q9));simp only [Act.put,List.setIfInBounds_toArray,List.set_cons_succ,List.set_cons_zero]
    by_cases he:l[k]=m[k]
    ·have e2:(l[k] != m[k])=false:=by simp [he]
     have HE:=Lib.hid he;clear he
     go_wp2
     go_roundw
     case rel=>exact⟨k+1,by omega,by go_num,lY HT.out hlt hltm HE.out,hxr.trans hx2⟩
     case measure=>simp [intOf];omega
    ·have e2:(l[k] != m[k])=true:=by simp [he]
     have HE:=Lib.hid he;clear he
     go_wp2
     go_ret
     exact⟨aG (aA (rX hlt hltm HE.out)).symm,hxr.trans hx2⟩
   ·go_wp2
    go_ret
    exact⟨aG (aY (pG HT.out (by omega) (by omega))).symm,hxr⟩
 ·have e1:((l.length:Int) != m.length)=true:=by rw [bne_iff_ne];omega
  have HL:=Lib.hid hlen;clear hlen
  go_enter Tryz.func75,Tryz.ntmps75
  go_wp2
  go_ret
  exact⟨aG (aA (fun h=>HL.out (by rw [h]))).symm,Ext.refl _⟩

set_option maxHeartbeats 1000000 in
theorem xJ (n1 n2:Bool) (l m:List Int) (w:World) (va vb:Value) (ha:IsMag w l va) (hb:IsMag w m vb) :
  Calls Tryz.prog 46 #[.agg #[.bool n1,va],.agg #[.bool n2,vb]] w fun e w'=>e=.returned (.bool (eqB (n1,l) (n2,m)))∧Ext w w':=by
 obtain⟨a,ca,rfl,ha1,ha2⟩:=ha.form
 obtain⟨b,cb,rfl,hb1,hb2⟩:=hb.form
 unfold maxLen at ha2 hb2
 by_cases hn:n1=n2
 ·subst hn
  by_cases hlen:l.length=m.length
  ·have e1:((l.length:Int) != m.length)=false:=by simp [hlen]
   have HL:=Lib.hid hlen
   have hle:l.length≤m.length:=by omega
   have hge:m.length≤l.length:=by omega
   clear hlen
   go_enter Tryz.func46,Tryz.ntmps46
   go_wp2
   go_loopw [5] (fun i wr=>∃k:Nat,k≤l.length∧i=.int .i64 k∧l.take k=m.take k∧Ext ((w.alloc (.cells #[.bool n1,.slice a l.length ca] 25)).alloc (.cells #[.bool n1,.slice b m.length cb] 25)) wr) (fun i _=>l.length-(intOf i).toNat)
   case atStart=>exact⟨0,Nat.zero_le _,rfl,rfl,Ext.refl _⟩
   case round =>
    obtain⟨k,hk,rfl,ht,hxr⟩:=hrel
    have HT:=Lib.hid ht;clear ht
    have hx0:Ext w wr:=(((Ext.refl _).alloc _).alloc _).trans hxr
    have f1:wr.cell? ⟨w.heap.size,1,none⟩=some (.slice a l.length ca):=hxr.keeps _ _ (by go_simp)
    have f2:wr.cell? ⟨w.heap.size+1,1,none⟩=some (.slice b m.length cb):=hxr.keeps _ _ (by go_simp)
    by_cases hlt:k<l.length
    ·have hltm:k<m.length:=by omega
     obtain⟨b1,o1,rfl,c1⟩:=ha.get k hlt
     obtain⟨b2,o2,rfl,c2⟩:=hb.get k hltm
     have c1:=hx0.keeps _ _ c1
     have c2:=hx0.keeps _ _ c2
     go_wp2_with fail
     have hS:∀W9,Ext wr W9→W9.cell? _=_∧W9.cell? _=_∧W9.cell? _=_∧W9.cell? _=_∧True:=fun W9 h=>⟨h.keeps _ _ c1,h.keeps _ _ c2,h.keeps _ _ f1,h.keeps _ _ f2,trivial⟩
     refine aX 11 _ _ _ rfl rfl rfl (by kernel_rfl) (by kernel_rfl) (by kernel_rfl) (fun Q9 hQ9=>?_);simp only [List.take_succ_cons,List.take_zero,List.drop_succ_cons,List.drop_zero,List.map_cons,List.map_nil] at hQ9 ⊢
     repeat (first|((with_reducible apply Phi.skip);· (intro ρ wq hx hp hk;simp [KnowsAll,aF,bD,looks,Op.operands,Call.operands,Act.eval] at hk;simp [wanted,undef,hk,hlt,hltm]))|((with_reducible apply Phi.pure);· (intro ρ wq hx hp hk;(first|(simp [KnowsAll,aF,bD,looks,Op.operands,Call.operands,Act.eval] at hk;refine⟨?_,?_⟩;(· (simp [wanted,undef,hk,hlt,hltm]));(· (simp [go_sem,hk,hp.1,hp.2.1,hp.2.2,hS wq hx,hlt,hltm];rfl)))|(refine⟨?_,?_⟩;(· (simp [wanted]));(· (simp [go_sem,hp.1,hp.2.1,hp.2.2,hS wq hx,hlt,hltm];rfl)))))))
     refine Phi.done ?_;intro w2 hx2;simp only [Final,List.nil_append,List.cons_append,forall_eq];((refine hQ9 _ _ ?_);(try refine wpList_nil ?_);(clear hQ9 Q9));simp only [Act.put,List.setIfInBounds_toArray,List.set_cons_succ,List.set_cons_zero]
     by_cases he:l[k]=m[k]
     ·have e2:(l[k] != m[k])=false:=by simp [he]
      have HE:=Lib.hid he;clear he
      go_wp2
      go_roundw
      case rel=>exact⟨k+1,by omega,by go_num,lY HT.out hlt hltm HE.out,hxr.trans hx2⟩
      case measure=>simp [intOf];omega
     ·have e2:(l[k] != m[k])=true:=by simp [he]
      have HE:=Lib.hid he;clear he
      go_wp2
      go_ret
      exact⟨aG (aA (fun h=>rX hlt hltm HE.out (Prod.mk.inj h).2)).symm,hx0.trans hx2⟩
    ·go_wp2
     go_ret
     exact⟨aG (aY (by rw [pG HT.out (by omega) (by omega)])).symm,hx0⟩
  ·have e1:((l.length:Int) != m.length)=true:=by rw [bne_iff_ne];omega
   have HL:=Lib.hid hlen;clear hlen
   go_enter Tryz.func46,Tryz.ntmps46
   go_wp2
   go_ret
   exact⟨aG (aA (fun h=>HL.out (by rw [(Prod.mk.inj h).2]))).symm,((Ext.refl _).alloc _).alloc _⟩
 ·have e1:(n1 != n2)=true:=by simpa using hn
  have HL:=Lib.hid hn;clear hn
  go_enter Tryz.func46,Tryz.ntmps46
  go_wp2
  go_ret
  exact⟨aG (aA (fun h=>HL.out (Prod.mk.inj h).1)).symm,((Ext.refl _).alloc _).alloc _⟩

set_option maxHeartbeats 1000000 in
theorem gM (a b:D) (w:World) (va vb:Value) (ha:IsD w a va) (hb:IsD w b vb) :
  Calls Tryz.prog 51 #[va,vb] w fun e w'=>e=.returned (.bool (fG a b))∧Ext w w':=by
 obtain⟨am,cm,al,cl,rfl,ham,hal,-,-,ha1,ha2⟩:=ha.open
 obtain⟨bm,dm,bl,dl,rfl,hbm,hbl,-,-,hb1,hb2⟩:=hb.open
 unfold maxLen at ha2 hb2
 by_cases h1:a.k=b.k
 case neg =>
  have e:(a.k == b.k)=false:=by simpa using h1
  have HN:=Lib.hid h1;clear h1
  go_enter Tryz.func51,Tryz.ntmps51
  go_wp2_with fail
  go_ret
  exact⟨aG (jO (fun h=>HN.out h.1)).symm,((Ext.refl _).alloc _).alloc _⟩
 have e1:(a.k == b.k)=true:=by simpa using h1
 have H1:=Lib.hid h1;clear h1
 by_cases h2:a.c=b.c
 case neg =>
  have e:(a.c == b.c)=false:=by simpa using h2
  have HN:=Lib.hid h2;clear h2
  go_enter Tryz.func51,Tryz.ntmps51
  go_wp2_with fail
  go_ret
  exact⟨aG (jO (fun h=>HN.out h.2.1)).symm,((Ext.refl _).alloc _).alloc _⟩
 have e2:(a.c == b.c)=true:=by simpa using h2
 have H2:=Lib.hid h2;clear h2
 by_cases h3:a.neg=b.neg
 case neg =>
  have e:(a.neg == b.neg)=false:=by simpa using h3
  have HN:=Lib.hid h3;clear h3
  go_enter Tryz.func51,Tryz.ntmps51
  go_wp2_with fail
  go_ret
  exact⟨aG (jO (fun h=>HN.out h.2.2.1)).symm,((Ext.refl _).alloc _).alloc _⟩
 have e3:(a.neg == b.neg)=true:=by simpa using h3
 have H3:=Lib.hid h3;clear h3
 have hx0:Ext w ((w.alloc (.cells #[.int .i64 a.k,.int .i32 a.c,.bool a.neg,.slice am a.mag.length cm,.string a.t,.slice al a.l.length cl] 28)).alloc (.cells #[.int .i64 b.k,.int .i32 b.c,.bool b.neg,.slice bm b.mag.length dm,.string b.t,.slice bl b.l.length dl] 28)):=((Ext.refl _).alloc _).alloc _
 have HC:=Lib.hid (HQ a.mag b.mag _ _ _ (ham.keep hx0.keeps) (hbm.keep hx0.keeps))
 have cells:∀W,Ext ((w.alloc (.cells #[.int .i64 a.k,.int .i32 a.c,.bool a.neg,.slice am a.mag.length cm,.string a.t,.slice al a.l.length cl] 28)).alloc (.cells #[.int .i64 b.k,.int .i32 b.c,.bool b.neg,.slice bm b.mag.length dm,.string b.t,.slice bl b.l.length dl] 28)) W →
   W.cell? ⟨w.heap.size,4,none⟩=some (.string a.t)∧W.cell? ⟨w.heap.size,5,none⟩=some (.slice al a.l.length cl)∧W.cell? ⟨w.heap.size+1,4,none⟩=some (.string b.t)∧W.cell? ⟨w.heap.size+1,5,none⟩=some (.slice bl b.l.length dl):=fun W h =>
  ⟨h.keeps _ _ (by go_simp),h.keeps _ _ (by go_simp),h.keeps _ _ (by go_simp),h.keeps _ _ (by go_simp)⟩
 have HCC:=Lib.hid cells;clear cells
 by_cases h4:a.mag=b.mag
 case neg =>
  have HN:=Lib.hid h4
  have e:eqB a.mag b.mag=false:=aA h4
  clear h4
  go_enter Tryz.func51,Tryz.ntmps51
  go_wp2_with fail
  refine HC.out.mono ?_
  rintro e w1 ⟨rfl,hx1⟩
  go_wp2_with fail
  go_ret
  exact⟨aG (jO (fun h=>HN.out h.2.2.2.1)).symm,hx0.trans hx1⟩
 have e4:eqB a.mag b.mag=true:=aY h4
 have H4:=Lib.hid h4;clear h4
 by_cases h5:a.t=b.t
 case neg =>
  have e5:(a.t.toList == b.t.toList)=false:=by simpa using fun h=>h5 (pH h)
  have HN:=Lib.hid h5;clear h5
  go_enter Tryz.func51,Tryz.ntmps51
  go_wp2_with fail
  refine HC.out.mono ?_
  rintro e w1 ⟨rfl,hx1⟩
  obtain⟨c1,c2,c3,c4⟩:=HCC.out w1 hx1
  go_wp2_with fail
  go_ret
  exact⟨aG (jO (fun h=>HN.out h.2.2.2.2.1)).symm,hx0.trans hx1⟩
 have e5:(a.t.toList == b.t.toList)=true:=by simp [h5]
 have H5:=Lib.hid h5;clear h5
 by_cases h6:a.l.length=b.l.length
 case neg =>
  have e6:((a.l.length:Int) == b.l.length)=false:=by rw [beq_eq_false_iff_ne];omega
  have HN:=Lib.hid h6;clear h6
  go_enter Tryz.func51,Tryz.ntmps51
  go_wp2_with fail
  refine HC.out.mono ?_
  rintro e w1 ⟨rfl,hx1⟩
  obtain⟨c1,c2,c3,c4⟩:=HCC.out w1 hx1
  go_wp2_with fail
  go_ret
  exact⟨aG (jO (fun h=>HN.out h.2.2.2.2.2)).symm,hx0.trans hx1⟩
 have e6:((a.l.length:Int) == b.l.length)=true:=by rw [beq_iff_eq];omega
 have H6:=Lib.hid h6;clear h6
 go_enter Tryz.func51,Tryz.ntmps51
 go_wp2_with fail
 refine HC.out.mono ?_
 rintro e w1 ⟨rfl,hx1⟩
 obtain⟨c1,c2,c3,c4⟩:=HCC.out w1 hx1
 go_wp2_with fail
 go_ret
 exact⟨aG (fI ⟨H1.out,H2.out,H3.out,H4.out,H5.out,H6.out⟩).symm,hx0.trans hx1⟩
end Go.Proofs.YtaeioidifpebdaaGreatDoor
