
import Derived.Test.YtaeioidifpebdaaGreatDoorPlain2
import Derived.Test.YtaeioidifpebdaaGreatDoorKit
namespace Go.Proofs.YtaeioidifpebdaaGreatDoor
open Go.RowKit
set_option linter.unusedSimpArgs false
set_option linter.unusedVariables false

def wL (n:Nat):Prop:=∀(d:D) (w:World) (v:Value),d.ht≤n→d.count<1000000000→IsD w d v →
  Calls Tryz.prog 54 #[v] w fun e w'=>e=.returned (.int .i64 d.depth)∧Ext w w'

theorem XO (a b:Nat):max (a:Int) (b:Int)=((max a b:Nat):Int):=by omega

set_option maxHeartbeats 2000000 in
theorem KR (n:Nat) (ih:wL n):wL (n+1):=by
 intro d w v hh hb h
 obtain⟨am,cm,al,cl,rfl,hm,hl,-,-,hc1,hc2⟩:=h.open
 unfold maxLen at hc2
 have hhl:∀i (hi:i<d.l.length),d.l[i].ht≤n:=fun i hi=>by have:=D.ht_lt hi;omega
 have HH:=Lib.hid hhl;clear hhl hh
 have he:=d.count_eq
 have hb':gV d.l<1000000000:=by omega
 have HD:=Lib.hid d.depth_eq
 obtain⟨base,hbase⟩:∃base:Nat,base=if d.k=8 then 1 else 0:=⟨_,rfl⟩
 have hbl:base≤1:=by rw [hbase];split<;>omega
 rw [←hbase] at HD
 have hE:∀(W:World),True:=fun _=>trivial
 have HB:=Lib.hid hbase
 have HE:=Lib.hid he
 clear he h hE
 clear HB
 rcases (Decidable.em (d.k=8)) with h8|h8
 ·have e8:(d.k == 8)=true:=by simpa using h8
  obtain rfl:base=1:=by rw [hbase,if_pos h8]
  clear hbase hbl
  have H8:=Lib.hid h8;clear h8
  go_enter Tryz.func54,Tryz.ntmps54
  go_wp2
  go_loopw [3,13] (fun s i wr=>∃(k:Nat) (hk:k≤d.l.length),i=.int .i64 k∧s=.int .i64 ((max 1 (dto d k hk):Nat):Int)∧Ext (w.alloc (.cells #[.int .i64 d.k,.int .i32 d.c,.bool d.neg,.slice am d.mag.length cm,.string d.t,.slice al d.l.length cl] 28)) wr) (fun _ i _=>d.l.length-(intOf i).toNat)
  case atStart=>exact⟨0,Nat.zero_le _,rfl,rfl,Ext.refl _⟩
  case round =>
   obtain⟨k,hk,rfl,rfl,hxr⟩:=hrel
   have hx0:Ext w wr:=((Ext.refl _).alloc _).trans hxr
   have f0:wr.cell? ⟨w.heap.size,5,none⟩=some (.slice al d.l.length cl):=hxr.keeps _ _ (by go_simp)
   have f1:wr.cell? ⟨w.heap.size,0,none⟩=some (.int .i64 d.k):=hxr.keeps _ _ (by go_simp)
   by_cases hlt:k<d.l.length
   ·obtain⟨b,o,rfl,hcell⟩:=hl.get k hlt
    obtain⟨am',cm',al',cl',c0,c1,c2,c3,c4,c5,hm',hl'⟩:=hcell.keep hx0.keeps
    have hcnt:=uJ d.l k hlt
    have hdl:=d.l[k].depth_le
    have hs:=pI d k hk
    have hs2:=Lib.hid (yT d k hlt)
    go_wp2_with fail
    refine (ih d.l[k] _ _ (HH.out k hlt) (by omega) (IsD.mk' (hm'.keep ((Ext.refl _).alloc _).keeps) (hl'.keep ((Ext.refl _).alloc _).keeps))).mono ?_
    rintro e w2 ⟨rfl,hx2⟩
    have g0:w2.cell? ⟨w.heap.size,5,none⟩=some (.slice (some ⟨b,o,none⟩) d.l.length cl):=hx2.keeps _ _ (by have:=jZ f0;go_simp)
    have g1:w2.cell? ⟨w.heap.size,0,none⟩=some (.int .i64 d.k):=hx2.keeps _ _ (by have:=jZ f0;go_simp)
    have g2:w2.cell? ⟨wr.heap.size,0,none⟩=some (.int .i64 d.l[k].k):=hx2.keeps _ _ (by go_simp)
    have hx3:=(hxr.alloc _).trans hx2
    have HX2:=Lib.hid hx2;clear hx2
    by_cases h7:d.k=7
    case neg =>
     have e7:(d.k != 7)=true:=by simpa using h7
     have hdt:fW d k hlt=d.l[k].depth+1:=by unfold fW;rw [if_neg (fun h=>h7 h.1)]
     rw [hdt] at hs2
     clear h7 hdt
     go_wp2
     go_roundw
     case rel=>exact⟨k+1,hlt,by go_num,by rw [hs2.out];go_num,hx3⟩
     case measure=>simp [intOf];omega
    have e7:(d.k != 7)=false:=by simpa using h7
    by_cases hlast:k+1<d.l.length
    case pos =>
     have hdt:fW d k hlt=d.l[k].depth+1:=by unfold fW;rw [if_neg (fun h=>by omega)]
     rw [hdt] at hs2
     clear h7 hdt
     go_wp2
     go_roundw
     case rel=>exact⟨k+1,hlt,by go_num,by rw [hs2.out];go_num,hx3⟩
     case measure=>simp [intOf];omega
    have hle:d.l.length≤k+1:=by omega
    have ed:decide ((k:Int)+1<d.l.length)=false:=by simp;omega
    by_cases hp:d.l[k].k=7
    ·have e9:(d.l[k].k != 7)=false:=by simpa using hp
     have hdt:fW d k hlt=d.l[k].depth:=by unfold fW;rw [if_pos ⟨h7,by omega,hp⟩];rfl
     rw [hdt] at hs2
     clear h7 hdt hp hlast
     go_wp2
     go_roundw
     case rel=>exact⟨k+1,hlt,by go_num,by rw [hs2.out];go_num,hx3⟩
     case measure=>simp [intOf];omega
    ·have e9:(d.l[k].k != 7)=true:=by simpa using hp
     have hdt:fW d k hlt=d.l[k].depth+1:=by unfold fW;rw [if_neg (fun h=>hp h.2.2)]
     rw [hdt] at hs2
     clear h7 hdt hp hlast
     go_wp2
     go_roundw
     case rel=>exact⟨k+1,hlt,by go_num,by rw [hs2.out];go_num,hx3⟩
     case measure=>simp [intOf];omega
   ·go_wp2
    go_ret
    refine⟨yJ ?_,hx0⟩
    rw [HD.out,←vV d k hk (by omega)]
 ·have e8:(d.k == 8)=false:=by simpa using h8
  obtain rfl:base=0:=by rw [hbase,if_neg h8]
  clear hbase hbl
  have H8:=Lib.hid h8;clear h8
  go_enter Tryz.func54,Tryz.ntmps54
  go_wp2
  go_loopw [3,13] (fun s i wr=>∃(k:Nat) (hk:k≤d.l.length),i=.int .i64 k∧s=.int .i64 ((max 0 (dto d k hk):Nat):Int)∧Ext (w.alloc (.cells #[.int .i64 d.k,.int .i32 d.c,.bool d.neg,.slice am d.mag.length cm,.string d.t,.slice al d.l.length cl] 28)) wr) (fun _ i _=>d.l.length-(intOf i).toNat)
  case atStart=>exact⟨0,Nat.zero_le _,rfl,rfl,Ext.refl _⟩
  case round =>
   obtain⟨k,hk,rfl,rfl,hxr⟩:=hrel
   have hx0:Ext w wr:=((Ext.refl _).alloc _).trans hxr
   have f0:wr.cell? ⟨w.heap.size,5,none⟩=some (.slice al d.l.length cl):=hxr.keeps _ _ (by go_simp)
   have f1:wr.cell? ⟨w.heap.size,0,none⟩=some (.int .i64 d.k):=hxr.keeps _ _ (by go_simp)
   by_cases hlt:k<d.l.length
   ·obtain⟨b,o,rfl,hcell⟩:=hl.get k hlt
    obtain⟨am',cm',al',cl',c0,c1,c2,c3,c4,c5,hm',hl'⟩:=hcell.keep hx0.keeps
    have hcnt:=uJ d.l k hlt
    have hdl:=d.l[k].depth_le
    have hs:=pI d k hk
    have hs2:=Lib.hid (yT d k hlt)
    go_wp2_with fail
    refine (ih d.l[k] _ _ (HH.out k hlt) (by omega) (IsD.mk' (hm'.keep ((Ext.refl _).alloc _).keeps) (hl'.keep ((Ext.refl _).alloc _).keeps))).mono ?_
    rintro e w2 ⟨rfl,hx2⟩
    have g0:w2.cell? ⟨w.heap.size,5,none⟩=some (.slice (some ⟨b,o,none⟩) d.l.length cl):=hx2.keeps _ _ (by have:=jZ f0;go_simp)
    have g1:w2.cell? ⟨w.heap.size,0,none⟩=some (.int .i64 d.k):=hx2.keeps _ _ (by have:=jZ f0;go_simp)
    have g2:w2.cell? ⟨wr.heap.size,0,none⟩=some (.int .i64 d.l[k].k):=hx2.keeps _ _ (by go_simp)
    have hx3:=(hxr.alloc _).trans hx2
    have HX2:=Lib.hid hx2;clear hx2
    by_cases h7:d.k=7
    case neg =>
     have e7:(d.k != 7)=true:=by simpa using h7
     have hdt:fW d k hlt=d.l[k].depth+1:=by unfold fW;rw [if_neg (fun h=>h7 h.1)]
     rw [hdt] at hs2
     clear h7 hdt
     go_wp2
     go_roundw
     case rel=>exact⟨k+1,hlt,by go_num,by rw [hs2.out];go_num,hx3⟩
     case measure=>simp [intOf];omega
    have e7:(d.k != 7)=false:=by simpa using h7
    by_cases hlast:k+1<d.l.length
    case pos =>
     have hdt:fW d k hlt=d.l[k].depth+1:=by unfold fW;rw [if_neg (fun h=>by omega)]
     rw [hdt] at hs2
     clear h7 hdt
     go_wp2
     go_roundw
     case rel=>exact⟨k+1,hlt,by go_num,by rw [hs2.out];go_num,hx3⟩
     case measure=>simp [intOf];omega
    have hle:d.l.length≤k+1:=by omega
    have ed:decide ((k:Int)+1<d.l.length)=false:=by simp;omega
    by_cases hp:d.l[k].k=7
    ·have e9:(d.l[k].k != 7)=false:=by simpa using hp
     have hdt:fW d k hlt=d.l[k].depth:=by unfold fW;rw [if_pos ⟨h7,by omega,hp⟩];rfl
     rw [hdt] at hs2
     clear h7 hdt hp hlast
     go_wp2
     go_roundw
     case rel=>exact⟨k+1,hlt,by go_num,by rw [hs2.out];go_num,hx3⟩
     case measure=>simp [intOf];omega
    ·have e9:(d.l[k].k != 7)=true:=by simpa using hp
     have hdt:fW d k hlt=d.l[k].depth+1:=by unfold fW;rw [if_neg (fun h=>hp h.2.2)]
     rw [hdt] at hs2
     clear h7 hdt hp hlast
     go_wp2
     go_roundw
     case rel=>exact⟨k+1,hlt,by go_num,by rw [hs2.out];go_num,hx3⟩
     case measure=>simp [intOf];omega
   ·go_wp2
    go_ret
    refine⟨yJ ?_,hx0⟩
    rw [HD.out,←vV d k hk (by omega)]
theorem AL:∀n,wL n
 | 0=>fun d _ _ h=>absurd h (by cases d;rw [D.ht];omega)
 | n+1=>KR n (AL n)
theorem OP (d:D) (w:World) (v:Value) (hb:d.count<1000000000) (h:IsD w d v) :
  Calls Tryz.prog 54 #[v] w fun e w'=>e=.returned (.int .i64 d.depth)∧Ext w w':=AL d.ht d w v (Nat.le_refl _) hb h
end Go.Proofs.YtaeioidifpebdaaGreatDoor
