
import Derived.Test.YtaeioidifpebdaaGreatDoorSame1
namespace Go.Proofs.YtaeioidifpebdaaGreatDoor
open Go.RowKit
set_option linter.unusedSimpArgs false
set_option linter.unusedVariables false

def vH (n:Nat):Prop:=∀(a b:D) (w:World) (va vb:Value),a.ht≤n→IsD w a va→IsD w b vb →
 Calls Tryz.prog 36 #[va,vb] w fun e w'=>e=.returned (.bool (eqB a b))∧Ext w w'

set_option maxHeartbeats 1000000 in
theorem ED (n:Nat) (ih:vH n) (l m:List D) (hh:∀d∈l,d.ht≤n) (w:World) (va vb:Value) (ha:IsDs w l va) (hb:IsDs w m vb) :
  Calls Tryz.prog 52 #[va,vb,.func (.func 36) #[] #[]] w fun e w'=>e=.returned (.bool (eqB l m))∧Ext w w':=by
 obtain⟨a,ca,rfl,ha1,ha2⟩:=ha.form
 obtain⟨b,cb,rfl,hb1,hb2⟩:=hb.form
 unfold maxLen at ha2 hb2
 have HH:=Lib.hid hh;clear hh
 by_cases hlen:l.length=m.length
 ·have e1:((l.length:Int) != m.length)=false:=by simp [hlen]
  have HL:=Lib.hid hlen
  have hle:l.length≤m.length:=by omega
  have hge:m.length≤l.length:=by omega
  clear hlen
  go_enter Tryz.func52,Tryz.ntmps52
  go_wp2
  go_loopw [17] (fun i wr=>∃k:Nat,k≤l.length∧i=.int .i64 k∧l.take k=m.take k∧Ext w wr) (fun i _=>l.length-(intOf i).toNat)
  case atStart=>exact⟨0,Nat.zero_le _,rfl,rfl,Ext.refl _⟩
  case round =>
   obtain⟨k,hk,rfl,ht,hxr⟩:=hrel
   have HT:=Lib.hid ht;clear ht
   by_cases hlt:k<l.length
   ·have hltm:k<m.length:=by omega
    obtain⟨b1,o1,rfl,hc1⟩:=ha.get k hlt
    obtain⟨b2,o2,rfl,hc2⟩:=hb.get k hltm
    obtain⟨am1,cm1,al1,cl1,c0,c1,c2,c3,c4,c5,hm1,hl1⟩:=hc1.keep hxr.keeps
    obtain⟨am2,cm2,al2,cl2,d0,d1,d2,d3,d4,d5,hm2,hl2⟩:=hc2.keep hxr.keeps
    have lt2:b2<wr.heap.size:=jZ d0
    go_wp2_with fail
    have hx0:=((Ext.refl wr).alloc (.cells #[.int .i64 l[k].k,.int .i32 l[k].c,.bool l[k].neg,.slice am1 l[k].mag.length cm1,.string l[k].t,.slice al1 l[k].l.length cl1] 28)).alloc (.cells #[.int .i64 m[k].k,.int .i32 m[k].c,.bool m[k].neg,.slice am2 m[k].mag.length cm2,.string m[k].t,.slice al2 m[k].l.length cl2] 28)
    refine (ih l[k] m[k] _ _ _ (HH.out _ (List.getElem_mem hlt)) (IsD.mk' (hm1.keep hx0.keeps) (hl1.keep hx0.keeps)) (IsD.mk' (hm2.keep hx0.keeps) (hl2.keep hx0.keeps))).mono ?_
    rintro e w2 ⟨rfl,hx2⟩
    have hx3:Ext w w2:=hxr.trans (hx0.trans hx2)
    by_cases he:l[k]=m[k]
    ·have e2:eqB l[k] m[k]=true:=aY he
     have HE:=Lib.hid he;clear he
     go_wp2
     go_roundw
     case rel=>exact⟨k+1,by omega,by go_num,lY HT.out hlt hltm HE.out,hx3⟩
     case measure=>simp [intOf];omega
    ·have e2:eqB l[k] m[k]=false:=aA he
     have HE:=Lib.hid he;clear he
     go_wp2
     go_ret
     exact⟨aG (aA (rX hlt hltm HE.out)).symm,hx3⟩
   ·go_wp2
    go_ret
    exact⟨aG (aY (pG HT.out (by omega) (by omega))).symm,hxr⟩
 ·have e1:((l.length:Int) != m.length)=true:=by rw [bne_iff_ne];omega
  have HL:=Lib.hid hlen;clear hlen
  go_enter Tryz.func52,Tryz.ntmps52
  go_wp2
  go_ret
  exact⟨aG (aA (fun h=>HL.out (by rw [h]))).symm,Ext.refl _⟩

theorem OA (n:Nat) (ih:vH n):vH (n+1):=by
 intro a b w va vb hh ha hb
 have hhl:∀d∈a.l,d.ht≤n:=fun d hd=>by
  obtain⟨i,hi,rfl⟩:=List.mem_iff_getElem.1 hd
  have:=D.ht_lt hi;omega
 have HF:=Lib.hid (gM a b)
 have HE:=Lib.hid (ED n ih a.l b.l hhl)
 clear hhl hh ih
 obtain⟨am,cm,al,cl,rfl,ham,hal,-,-,ha1,ha2⟩:=ha.open
 obtain⟨bm,dm,bl,dl,rfl,hbm,hbl,-,-,hb1,hb2⟩:=hb.open
 clear ha1 ha2 hb1 hb2
 have hx0:=((Ext.refl w).alloc (.cells #[.int .i64 a.k,.int .i32 a.c,.bool a.neg,.slice am a.mag.length cm,.string a.t,.slice al a.l.length cl] 28)).alloc (.cells #[.int .i64 b.k,.int .i32 b.c,.bool b.neg,.slice bm b.mag.length dm,.string b.t,.slice bl b.l.length dl] 28)
 go_enter Tryz.func36,Tryz.ntmps36
 go_wp2_with fail
 refine (HF.out _ _ _ (IsD.mk' (ham.keep hx0.keeps) (hal.keep hx0.keeps)) (IsD.mk' (hbm.keep hx0.keeps) (hbl.keep hx0.keeps))).mono ?_
 rintro e w1 ⟨rfl,hx1⟩
 have f1:w1.cell? ⟨w.heap.size,5,none⟩=some (.slice al a.l.length cl):=hx1.keeps _ _ (by go_simp)
 have f2:w1.cell? ⟨w.heap.size+1,5,none⟩=some (.slice bl b.l.length dl):=hx1.keeps _ _ (by go_simp)
 have hx2:=hx0.trans hx1
 by_cases hf:FU a b
 ·have e1:fG a b=true:=fI hf
  have H1:=Lib.hid hf;clear hf
  go_wp2_with fail
  refine (HE.out _ _ _ (hal.keep hx2.keeps) (hbl.keep hx2.keeps)).mono ?_
  rintro e w3 ⟨rfl,hx3⟩
  go_wp2_with fail
  go_ret
  refine⟨aG ?_,hx2.trans hx3⟩
  by_cases hl:a.l=b.l
  ·rw [aY hl,aY (D.ext' H1.out hl)]
  ·rw [aA hl,aA (fun h=>hl (by rw [h]))]
 ·have e1:fG a b=false:=jO hf
  have H1:=Lib.hid hf;clear hf
  go_wp2_with fail
  go_ret
  exact⟨aG (aA (fun h=>H1.out (by subst h;exact⟨rfl,rfl,rfl,rfl,rfl,rfl⟩))).symm,hx2⟩
theorem CT:∀n,vH n
 | 0 => fun a _ _ _ _ h _ _ => absurd h (by have : 0 < a.ht := by cases a; rw [D.ht]; omega
                                            omega)
 | n+1=>OA n (CT n)
theorem QY (a b:D) (w:World) (va vb:Value) (ha:IsD w a va) (hb:IsD w b vb) :
  Calls Tryz.prog 36 #[va,vb] w fun e w'=>e=.returned (.bool (eqB a b))∧Ext w w':=CT a.ht a b w va vb (Nat.le_refl _) ha hb
end Go.Proofs.YtaeioidifpebdaaGreatDoor
