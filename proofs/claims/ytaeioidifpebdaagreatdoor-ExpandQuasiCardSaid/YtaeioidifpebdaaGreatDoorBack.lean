
import Derived.Test.YtaeioidifpebdaaGreatDoorPhiIn
import Derived.Test.YtaeioidifpebdaaGreatDoorCopy
import Derived.Test.YtaeioidifpebdaaGreatDoorMake
import Derived.RangeFuncNested
import Derived.RangeFuncBound
import Derived.RangeFuncLeaves
import Derived.Shelf.Abstract
import Derived.OwnWalkIn
import Derived.TacticsInMore
import Derived.LoopNIn
import Derived.LoopIn
namespace Go.Proofs.YtaeioidifpebdaaGreatDoor
open Go.RowKit Go.Shelf
set_option linter.unusedSimpArgs false
set_option linter.unusedVariables false
attribute [local go_sem] Oper.semAt_some

structure Elem (w:World) where
 i:Nat
 d:D
 am:Option Addr
 cm:Nat
 al:Option Addr
 cl:Nat
 hm:IsMag w d.mag (.slice am d.mag.length cm)
 hl:IsDs w d.l (.slice al d.l.length cl)
 ok:d.Ok
def Elem.v {w:World} (x:Elem w):Value:=.agg #[.int .i64 x.d.k,.int .i32 x.d.c,.bool x.d.neg,.slice x.am x.d.mag.length x.cm,.string x.d.t,.slice x.al x.d.l.length x.cl]
def Elem.encs {w:World} (x:Elem w):Array Value:=#[.int .i64 x.i,.agg #[.int .i64 x.d.k,.int .i32 x.d.c,.bool x.d.neg,.slice x.am x.d.mag.length x.cm,.string x.d.t,.slice x.al x.d.l.length x.cl]]

theorem QU {w:World} {l:List D} {a:Option Addr} {cap:Nat} (h:IsDs w l (.slice a l.length cap)) (hok:Oks l) :
  ∃xs:List (Elem w),xs.length=l.length∧xs.map (·.d)=l.reverse∧∀k (hk:k<xs.length) m,m+k+1=l.length→∃b o,a=some ⟨b,o,none⟩∧b<w.heap.size∧xs[k].i=m ∧
   w.cell? ⟨b,o+m*6,none⟩=some (.int .i64 xs[k].d.k)∧w.cell? ⟨b,o+m*6+1,none⟩=some (.int .i32 xs[k].d.c)∧w.cell? ⟨b,o+m*6+2,none⟩=some (.bool xs[k].d.neg) ∧
   w.cell? ⟨b,o+m*6+3,none⟩=some (.slice xs[k].am xs[k].d.mag.length xs[k].cm)∧w.cell? ⟨b,o+m*6+4,none⟩=some (.string xs[k].d.t)∧w.cell? ⟨b,o+m*6+5,none⟩=some (.slice xs[k].al xs[k].d.l.length xs[k].cl):=by
 have hex:∀m (hm:m<l.length),∃x:Elem w,x.i=m∧x.d=l[m]∧∃b o,a=some ⟨b,o,none⟩∧b<w.heap.size ∧
   w.cell? ⟨b,o+m*6,none⟩=some (.int .i64 x.d.k)∧w.cell? ⟨b,o+m*6+1,none⟩=some (.int .i32 x.d.c)∧w.cell? ⟨b,o+m*6+2,none⟩=some (.bool x.d.neg) ∧
   w.cell? ⟨b,o+m*6+3,none⟩=some (.slice x.am x.d.mag.length x.cm)∧w.cell? ⟨b,o+m*6+4,none⟩=some (.string x.d.t)∧w.cell? ⟨b,o+m*6+5,none⟩=some (.slice x.al x.d.l.length x.cl):=fun m hm=>by
  obtain⟨b,o,e,am,cm,al,cl,c0,c1,c2,c3,c4,c5,hmag,hl⟩:=h.get m hm
  exact⟨⟨m,l[m],am,cm,al,cl,hmag,hl,hok.get m hm⟩,rfl,rfl,b,o,e,jZ c0,c0,c1,c2,c3,c4,c5⟩
 refine⟨List.ofFn fun j:Fin l.length=>Classical.choose (hex (l.length-1-j.1) (by omega)),by simp,?_,?_⟩
 ·apply List.ext_getElem
  ·simp
  ·intro i h1 h2
   simp only [List.getElem_map,List.getElem_ofFn,List.getElem_reverse]
   exact (Classical.choose_spec (hex (l.length-1-i) (by simp at h2;omega))).2.1
 ·intro k hk m hmk
  simp only [List.getElem_ofFn]
  simp only [List.length_ofFn] at hk
  obtain rfl:m=l.length-1-k:=by omega
  obtain⟨hi,hd,b,o,r⟩:=Classical.choose_spec (hex (l.length-1-k) (by omega))
  exact⟨b,o,r.1,r.2.1,hi,r.2.2⟩

def KpB (n₀ Bs:Nat) (sv:Value) (A B:World):Prop:=Below n₀ A B∧(A.cell? ⟨Bs,0,none⟩=some sv→B.cell? ⟨Bs,0,none⟩=some sv)
theorem KpB.refl (n₀ Bs:Nat) (sv:Value) (A:World):KpB n₀ Bs sv A A:=⟨Below.refl _ _,fun h=>h⟩
theorem VH {n₀ Bs:Nat} {sv:Value} {A B C:World} (h:KpB n₀ Bs sv A B) (k:KpB n₀ Bs sv B C):KpB n₀ Bs sv A C:=⟨h.1.trans k.1,fun e=>k.2 (h.2 e)⟩
theorem GZ {W:World} {l:Nat} {o o':Obj} (h:W.heap[l]?=some o) (ho:o.isCells=false) {p:Addr} {v:Value} (hc:W.cell? p=some v):(W.putObj l o').cell? p=some v:=by
 have hne:p.block≠l:=fun e=>by
  unfold World.cell? at hc
  rw [e,h] at hc
  cases o<;>simp [Obj.isCells] at ho hc
 rw [←hc]
 exact World.cell?_of_block ((grownBy_putObj' W l o').block p.block (jZ hc) (fun e=>hne (by cases e;rfl)))
theorem XJ {n₀ Bs:Nat} {sv:Value} {w:World} (hn:n₀≤w.heap.size) (W:World) (l:Nat) (o o':Obj) (hl:w.heap.size≤l) (h:W.heap[l]?=some o) (ho:o.isCells=false) (hw:o.isWalk=false):KpB n₀ Bs sv W (W.putObj l o') :=
 ⟨belowK_b hn W l o o' hl h ho hw,fun hc=>GZ h ho hc⟩

theorem xI {α:Type} (xs:List α) (k:Nat) (h:k<xs.length):xs.take (k+1)=xs.take k++[xs[k]]:=List.take_succ_eq_append_getElem h

set_option maxRecDepth 100000 in
set_option maxHeartbeats 2000000 in
theorem QV (n l Bs:Nat) (w0:World) (sv:Value) (a:Option Addr) (len cap:Nat) (hlen:len≤1599289640354) (xs:List (Elem w0)) (hxl:xs.length=len) (J Jx:List (Elem w0)→World→Prop) (hn:1≤n)
  (hxs:∀k (hk:k<xs.length) m,m+k+1=len→∃b o,a=some ⟨b,o,none⟩∧b<w0.heap.size∧xs[k].i=m ∧
   w0.cell? ⟨b,o+m*6,none⟩=some (.int .i64 xs[k].d.k)∧w0.cell? ⟨b,o+m*6+1,none⟩=some (.int .i32 xs[k].d.c)∧w0.cell? ⟨b,o+m*6+2,none⟩=some (.bool xs[k].d.neg) ∧
   w0.cell? ⟨b,o+m*6+3,none⟩=some (.slice xs[k].am xs[k].d.mag.length xs[k].cm)∧w0.cell? ⟨b,o+m*6+4,none⟩=some (.string xs[k].d.t)∧w0.cell? ⟨b,o+m*6+5,none⟩=some (.slice xs[k].al xs[k].d.l.length xs[k].cl))
  (hY:∀pre x W,J pre W→pre.length<len→YieldAt Fence.wide (n-1) Tryz.prog l x.encs W fun e W' =>
   (e=.returned (.bool true)∧J (pre++[x]) W'∧KpB w0.heap.size Bs (.slice a len cap) W W')∨(e=.returned (.bool false)∧Jx (pre++[x]) W'))
  (W:World) (hBW:Below w0.heap.size w0 W) (hcB:W.cell? ⟨Bs,0,none⟩=some (.slice a len cap)) (h0:J [] W) :
  CallsIn Fence.wide n Tryz.prog 142 #[.func (.yield l) #[] #[],.pointer (some ⟨Bs,0,none⟩)] W fun e W'=>(∃v,e=.returned v) ∧
   ((∃ys,ys=xs∧J ys W')∨(∃pre,pre <+: xs∧Jx pre W')):=by
 have HXS:=Lib.hid hxs;clear hxs
 have HXL:=Lib.hid hxl;clear hxl
 refine callsIn_of_wp Tryz.func142 rfl trivial ?_ rfl
 simp only [Tryz.ntmps142,List.size_toArray,List.length_cons,List.length_nil,Nat.reduceAdd,Nat.reduceSub,Array.replicate_succ,Array.replicate_zero,List.push_toArray,List.append_toArray,List.nil_append,List.cons_append]
 gi_wp2
 gi_loopw [3] (fun i wr=>∃k:Nat,k≤len∧i=.int .i64 ((len:Int)-1-k)∧J (xs.take k) wr∧KpB w0.heap.size Bs (.slice a len cap) W wr) (fun i _=>(intOf i+1).toNat)
 case atStart=>exact⟨0,Nat.zero_le _,by simp,h0,KpB.refl _ _ _ _⟩
 case round =>
  obtain⟨k,hk,rfl,hJs,hnx⟩:=hrel
  have hcx:wr.cell? ⟨Bs,0,none⟩=some (.slice a len cap):=hnx.2 hcB
  by_cases hlt:k<len
  ·have hkx:k<xs.length:=by rw [HXL.out];exact hlt
   obtain⟨m,hm⟩:∃m,m+k+1=len:=⟨len-1-k,by omega⟩
   have em:(len:Int)-1-k=m:=by omega
   have hml:m<len:=by omega
   rw [em]
   have HM:=Lib.hid (And.intro hm em);clear hm em
   obtain⟨b,o,rfl,hb,hi,c0,c1,c2,c3,c4,c5⟩:=HXS.out k hkx m HM.out.1
   have K:Keeps w0 wr:=fun p v hp=>(hnx.1.cell (p:=p) (jZ hp)).trans ((hBW.cell (p:=p) (jZ hp)).trans hp)
   have c0:=K _ _ c0;have c1:=K _ _ c1;have c2:=K _ _ c2;have c3:=K _ _ c3;have c4:=K _ _ c4;have c5:=K _ _ c5
   obtain⟨fn,tmps,assign,body,hy,hR⟩:=hY _ xs[k] wr hJs (by rw [List.length_take];omega)
   simp only [Elem.encs,hi] at hy
   have HI:=Lib.hid hi;clear hi K
   gi_wp2
   refine hR.mono ?_
   rintro e W3 (⟨rfl,hJ3,hk3⟩|⟨rfl,hJx3⟩)
   ·gi_wp2
    go_roundw
    case rel=>exact⟨k+1,by omega,by have:=HM.out.1;congr 1;omega,by rw [xI _ _ hkx];exact hJ3,VH hnx hk3⟩
    case measure=>simp [intOf]
   ·gi_wp2
    refine bodyPost_ret (results_none rfl _ _ _) rfl ?_
    exact⟨⟨_,rfl⟩,.inr ⟨_,List.take_prefix (k+1) xs,by rw [xI _ _ hkx];exact hJx3⟩⟩
  ·have ek:(len:Int)-1-k = -1:=by omega
   rw [ek]
   have hall:xs.take k=xs:=List.take_of_length_le (by rw [HXL.out];omega)
   have HA:=Lib.hid hall;clear hall ek
   gi_wp2
   go_end0
   exact⟨⟨_,rfl⟩,.inl ⟨_,HA.out,hJs⟩⟩

theorem TR (n:Nat) (a:Option Addr) (len cap:Nat) (w:World) :
  CallsIn Fence.wide n Tryz.prog 138 #[.slice a len cap] w fun e w'=>e=.returned (.func (.func 142) #[] #[.pointer (some ⟨w.heap.size,0,none⟩)])∧w'=w.alloc (.cells #[.slice a len cap] 26):=by
 refine callsIn_of_wp Tryz.func138 rfl trivial ?_ rfl
 simp only [Tryz.ntmps138,List.size_toArray,List.length_cons,List.length_nil,Nat.reduceAdd,Nat.reduceSub,Array.replicate_succ,Array.replicate_zero,List.push_toArray,List.append_toArray,List.nil_append,List.cons_append]
 gi_wp2
 go_ret
 exact⟨rfl,rfl⟩

theorem KG (n Bs:Nat) (w0 w:World) (a:Option Addr) (cap:Nat) (l:List D) (hlen:l.length≤1599289640354) (xs:List (Elem w0)) (hxl:xs.length=l.length) (hn:1≤n)
  (hxs:∀k (hk:k<xs.length) m,m+k+1=l.length→∃b o,a=some ⟨b,o,none⟩∧b<w0.heap.size∧xs[k].i=m ∧
   w0.cell? ⟨b,o+m*6,none⟩=some (.int .i64 xs[k].d.k)∧w0.cell? ⟨b,o+m*6+1,none⟩=some (.int .i32 xs[k].d.c)∧w0.cell? ⟨b,o+m*6+2,none⟩=some (.bool xs[k].d.neg) ∧
   w0.cell? ⟨b,o+m*6+3,none⟩=some (.slice xs[k].am xs[k].d.mag.length xs[k].cm)∧w0.cell? ⟨b,o+m*6+4,none⟩=some (.string xs[k].d.t)∧w0.cell? ⟨b,o+m*6+5,none⟩=some (.slice xs[k].al xs[k].d.l.length xs[k].cl))
  (hBW:Below w0.heap.size w0 w) (hBs:Bs<w.heap.size) (hcB:w.cell? ⟨Bs,0,none⟩=some (.slice a l.length cap)) :
  SeqStopsK Fence.wide n Tryz.prog 142 #[.pointer (some ⟨Bs,0,none⟩)] Elem.encs (KpB w0.heap.size Bs (.slice a l.length cap)) (fun ys=>ys=xs) (fun pre=>pre <+: xs) l.length w:=fun l' J Jx W hW _ _ hY h0 =>
 QV n l' Bs w0 (.slice a l.length cap) a l.length cap hlen xs hxl J Jx hn hxs hY W (hBW.trans (hW.mono hBW.size)) ((hW.cell (p:=⟨Bs,0,none⟩) hBs).trans hcB) h0
end Go.Proofs.YtaeioidifpebdaaGreatDoor
