
import Derived.Test.YtaeioidifpebdaaGreatDoorOwn
import Derived.Test.YtaeioidifpebdaaGreatDoorPlain2
import Derived.Test.YtaeioidifpebdaaGreatDoorKit
import Derived.WalkSpells
namespace Go.Proofs.YtaeioidifpebdaaGreatDoor
open Go.RowKit
set_option linter.unusedSimpArgs false
set_option linter.unusedVariables false

theorem XD:(Tryz.prog.info? 96).map (fun i=>(i.zero,i.size,i.bytes))=some (some (.int .u32 0),1,4):=by kernel_rfl
theorem WM:(Tryz.prog.info? 28).map (fun i=>(i.zero,i.size,i.bytes))=some (some (.agg #[.int .i64 0,.int .i32 0,.bool false,.slice none 0 0,.string ⟨#[]⟩,.slice none 0 0]),6,88):=by kernel_rfl

theorem UW (l:List Int):∀e∈l.map (fun n=>V.val (.int .u32 n)),wid e=1:=fun e he=>by obtain⟨d,_,rfl⟩:=List.mem_map.1 he;rfl
theorem DT:∀(l:List Int),zV (l.map fun n=>V.val (.int .u32 n))
 | []=>trivial
 | _::l=>⟨rfl,DT l⟩
theorem XE {w w':World} {l:List Int} {xs:List Value} (h:RdAll w (l.map fun n=>V.val (.int .u32 n)) xs):RdAll w' (l.map fun n=>V.val (.int .u32 n)) xs:=by
 induction l generalizing xs with
 | nil=>simpa [RdAll] using h
 | cons n l ih =>
  simp only [List.map_cons,RdAll,Rd] at h ⊢
  obtain⟨c1,c2,rfl,h1,h2⟩:=h
  exact⟨c1,c2,rfl,h1,ih h2⟩

set_option maxHeartbeats 1000000 in
theorem IM (l:List Int) (w:World) (v:Value) (h:IsMag w l v) (hb:l.length≤35184372087808) :
  Calls Tryz.prog 119 #[v] w fun e w'=>∃v',e=.returned v'∧Ext w w'∧IsMag (cM w' w.heap.size) l v':=by
 obtain⟨ao,cap,news,rfl,hc,hlc,hnone,hlen,hcells,hrd⟩:=Rd.source h (UW l)
 rw [List.length_map] at *
 obtain⟨i0,hi,hz0,hz1,hz2⟩:=info_parts XD
 have hnil:=fun W=>Lib.run_eql_slice_nil (P:=Tryz.prog) W 23 96 ao l.length cap 0 0 Tryz.underlying23
 cases ao with
 | none =>
  obtain⟨h0,rfl⟩:=hnone rfl
  have hl0:l=[]:=List.eq_nil_of_length_eq_zero h0
  subst hl0
  clear hnil h hnone hcells hrd hlen
  have hnil:=fun W=>Lib.run_eql_slice_nil (P:=Tryz.prog) W 23 96 none 0 0 0 0 Tryz.underlying23
  show Calls _ _ #[.slice none 0 0] _ _
  go_enter Tryz.func119,Tryz.ntmps119
  go_wp2
  go_ret
  exact⟨_,rfl,Ext.refl _,by simp only [IsMag,List.map_nil,Rd];exact⟨_,rfl,.inl ⟨trivial,.inl rfl⟩⟩⟩
 | some ad =>
  have hcl:=hcells ad rfl
  have HC:=Lib.hid hcl;clear hcl
  have HR:=Lib.hid hrd;clear hrd hcells hnone
  go_enter Tryz.func119,Tryz.ntmps119
  have q1:(l.map fun n=>V.val (.int .u32 n)).length=l.length:=by simp
  have q4:∀a,some ad=some a→∀(j:Nat) (u:Value),news[j]?=some u→(w.alloc (.cells #[] 96)).cell? (a.add j)=some u:=fun a ha j u hu=>by cases ha;exact ((Ext.refl w).alloc _).keeps _ _ (HC.out j u hu)
  have Q:=Lib.hid (And.intro q1 q4);clear q1 q4
  go_wp2_with (at_builtin;refine oS rfl _ _ 23 rfl w.heap.size 96 i0 (.int .u32 0) 1 4 Tryz.underlying23 hi hz0 hz1 hz2 rfl (by decide) _ [] rfl (Own.made w _ _ 1 #[] 0 (Nat.le_refl _) (Nat.zero_le _) rfl) (some ad) l.length cap news (l.map fun n=>V.val (.int .u32 n)) rfl Q.out.1 (fun h=>by cases h) hlen Q.out.2 (RdAll.plain (DT l) HR.out) (XE HR.out) (by simp [maxLen];omega) (by simp;omega) (by simp) ?_;intro v' w' hown' hg hb;have H1:=Lib.hid hown';have H2:=Lib.hid hb;clear hown' hg hb)
  go_ret
  exact⟨v',rfl,((Ext.refl w).alloc _).below H2.out,by have:=H1.out.reads;rwa [List.nil_append] at this⟩

theorem D.plain_v (d:D):AP d.v:=by cases d;rw [D.v];exact⟨rfl,rfl,⟨rfl,trivial,trivial⟩,rfl,trivial,trivial⟩

def uT (n:Nat):Prop:=∀(d:D) (w:World) (v:Value),d.ht≤n→d.Ok→IsD w d v →
 Calls Tryz.prog 104 #[v] w fun e w'=>∃v',e=.returned v'∧Ext w w'∧IsD (cM w' w.heap.size) d v'

set_option maxHeartbeats 2000000 in
theorem IOq (n:Nat) (ih:uT n):uT (n+1):=by
 intro d w v hh hok h
 obtain⟨am,cm,al,cl,rfl,hm,hl,hm1,hm2,hc1,hc2⟩:=h.open
 unfold maxLen at hc2 hm2
 have hhl:∀i (hi:i<d.l.length),d.l[i].ht≤n:=fun i hi=>by have:=D.ht_lt hi;omega
 have HH:=Lib.hid hhl;clear hhl hh
 have HO:=Lib.hid hok.get
 obtain⟨i0,hi,hz0,hz1,hz2⟩:=info_parts WM
 have hx0:=((Ext.refl w).alloc (.cells #[.int .i64 d.k,.int .i32 d.c,.bool d.neg,.slice am d.mag.length cm,.string d.t,.slice al d.l.length cl] 28)).alloc (.cells #[.int .i64 0,.int .i32 0,.bool false,.slice none 0 0,.string ⟨#[]⟩,.slice none 0 0] 28)
 have HC:=Lib.hid (IM d.mag _ _ (hm.keep hx0.keeps) hok.magLen)
 have hlb:=hok.lLen
 go_enter Tryz.func104,Tryz.ntmps104
 go_wp2_with fail
 refine HC.out.mono ?_
 rintro e wc ⟨vm',rfl,hxc,hmag⟩
 obtain⟨am',cm',rfl,-,-⟩:=hmag.form
 have b0:wc.heap[w.heap.size]?=some (.cells #[.int .i64 d.k,.int .i32 d.c,.bool d.neg,.slice am d.mag.length cm,.string d.t,.slice al d.l.length cl] 28 (0,0)):=by rw [hxc.block _ (by simp;omega)];exact tB _ _ _
 have b1:wc.heap[w.heap.size+1]?=some (.cells #[.int .i64 0,.int .i32 0,.bool false,.slice none 0 0,.string ⟨#[]⟩,.slice none 0 0] 28 (0,0)):=by rw [hxc.block _ (by simp)];exact tC _ _ _
 have hc0:=cG b0
 have hf0:=iX b0
 have hx1:Ext w (wc.setCell ⟨w.heap.size,3,none⟩ (.slice am' d.mag.length cm')):=(hx0.trans hxc).setCell (Nat.le_refl _) _
 have b0':=nM b0 (o:=3) (.slice am' d.mag.length cm')
 have b1':(wc.setCell ⟨w.heap.size,3,none⟩ (.slice am' d.mag.length cm')).heap[w.heap.size+1]?=_:=(iG (by simp) _).trans b1
 have hsz:w.heap.size+2≤wc.heap.size:=by have:=hxc.le;simpa using this
 have hmag':IsMag (cM (wc.setCell ⟨w.heap.size,3,none⟩ (.slice am' d.mag.length cm')) (w.heap.size+2)) d.mag (.slice am' d.mag.length cm'):=by
  have:=hmag.keep (lS wc (p:=⟨w.heap.size,3,none⟩) (by simp;omega) (.slice am' d.mag.length cm'))
  simpa using this
 have B:=Lib.hid (And.intro hx1 (And.intro b0' (And.intro b1' hmag')));clear hx1 b0' b1' b0 b1 hmag hmag' hxc hx0
 have hsz':w.heap.size+2≤(wc.setCell ⟨w.heap.size,3,none⟩ (.slice am' d.mag.length cm')).heap.size:=by simpa using hsz
 go_wp2_with fail
 generalize hw1:wc.setCell ⟨w.heap.size,3,none⟩ (.slice am' d.mag.length cm')=w1 at *
 clear hc0 hf0 hsz
 have W1:=Lib.hid hw1;clear hw1 HC
 obtain⟨hx1,b0,b1,hmag⟩:=B.out
 have HB:=Lib.hid (And.intro b0 (And.intro b1 hmag));clear B b0 b1 hmag
 go_loopw [3,15] (fun s i wr=>∃k:Nat,k≤d.l.length∧i=.int .i64 k∧Ext w1 wr∧Own wr w1.heap.size 28 6 ((d.l.take k).map D.v) s) (fun _ i _=>d.l.length-(intOf i).toNat)
 case atStart=>exact⟨0,Nat.zero_le _,rfl,Ext.refl _,by simpa using Own.nil _ _ _ _⟩
 case round =>
  obtain⟨k,hk,rfl,hxr,hown⟩:=hrel
  have hx2:=hx1.trans hxr
  by_cases hlt:k<d.l.length
  ·obtain⟨b,o,rfl,hcell⟩:=hl.get k hlt
   obtain⟨am2,cm2,al2,cl2,c0,c1,c2,c3,c4,c5,hm2,hl2⟩:=hcell.keep hx2.keeps
   have HOWN:=Lib.hid hown;clear hown
   have hxb:=(Ext.refl wr).alloc (.cells #[.int .i64 d.l[k].k,.int .i32 d.l[k].c,.bool d.l[k].neg,.slice am2 d.l[k].mag.length cm2,.string d.l[k].t,.slice al2 d.l[k].l.length cl2] 28)
   go_wp2_with fail
   refine (ih d.l[k] _ _ (HH.out k hlt) (HO.out k hlt) (IsD.mk' (hm2.keep hxb.keeps) (hl2.keep hxb.keeps))).mono ?_
   rintro e w2 ⟨v',rfl,hx3,hv'⟩
   obtain⟨am3,cm3,al3,cl3,rfl,-,-,-,-,-,-⟩:=hv'.open
   have hv2:Rd (cM w2 wr.heap.size) d.l[k].v [.int .i64 d.l[k].k,.int .i32 d.l[k].c,.bool d.l[k].neg,.slice am3 d.l[k].mag.length cm3,.string d.l[k].t,.slice al3 d.l[k].l.length cl3]:=by
    obtain⟨cs,e,hr⟩:=hv'
    have e':cs=[.int .i64 d.l[k].k,.int .i32 d.l[k].c,.bool d.l[k].neg,.slice am3 d.l[k].mag.length cm3,.string d.l[k].t,.slice al3 d.l[k].l.length cl3]:=by
     have:=congrArg Array.toList (Value.agg.inj e)
     simpa using this.symm
    subst e'
    exact hr.keep (fM _ (by simp))
   have HV:=Lib.hid (And.intro hv2 (hxb.trans hx3));clear hv' hv2
   have hle1:=hxr.le
   go_wp2_with (at_builtin;refine kI (w:=wr) (w2:=w2) rfl _ _ 26 rfl w1.heap.size 28 i0 _ 6 88 Tryz.underlying26 hi hz0 hz1 hz2 rfl (by decide) _ _ rfl HOWN.out hle1 HV.out.2 _ d.l[k].v _ rfl rfl (D.plain_v _) HV.out.1 (by simp [maxLen];omega) (by simp;omega) ?_;intro v2 w3 hown' hb;have H1:=Lib.hid hown';have H2:=Lib.hid hb;clear hown' hb)
   go_roundw
   case rel =>
    refine⟨k+1,hlt,by go_num,?_,?_⟩
    ·exact ((hxr.trans HV.out.2).alloc _).below H2.out
    ·rw [List.take_succ_eq_append_getElem hlt,List.map_append];exact H1.out
   case measure=>simp [intOf];omega
  ·obtain⟨b0,b1,hmag⟩:=HB.out
   have b0:=(hxr.block _ (by omega)).trans b0
   have b1:=(hxr.block _ (by omega)).trans b1
   have hc0:=cG b0
   have hf0:=iX b0
   have hc1:=cG b1
   have hf1:=iX b1
   rw [List.take_of_length_le (by omega)] at hown
   obtain⟨al',cl',rfl,-,-⟩:=hown.form
   rw [List.length_map] at hown ⊢
   have HF:=Lib.hid (And.intro hmag hown);clear hmag hown b0 b1 HB
   go_wp2_with fail
   refine bodyPost_ret (v:=.agg #[.int .i64 d.k,.int .i32 d.c,.bool d.neg,.slice am' d.mag.length cm',.string d.t,.slice al' d.l.length cl']) (by simp [results,Tryz.results104,go_sem,hc1]) rfl ⟨_,rfl,?_,?_⟩
   ·repeat (with_reducible refine Ext.setCell ?_ ?hh _;case hh=>simp)
    exact hx2
   ·have hK:∀W,Keeps (cM wr (w.heap.size+2)) (cM W (w.heap.size+2))→Keeps (cM wr (w.heap.size+2)) (cM W w.heap.size):=fun W h=>h.trans (fM _ (by omega))
    refine IsD.mk' ?_ ?_
    ·refine (HF.out.1.keep (fR _ hxr)).keep (hK _ ?_)
     repeat (with_reducible refine Keeps.trans ?_ (lS _ ?hh _);case hh=>simp)
     exact Keeps.refl _
    ·refine IsDs.keep (hK _ ?_) (Rd.keep (fM _ hsz') HF.out.2.reads)
     repeat (with_reducible refine Keeps.trans ?_ (lS _ ?hh _);case hh=>simp)
     exact Keeps.refl _
theorem yK:∀n,uT n
 | 0=>fun d _ _ h=>absurd h (by cases d;rw [D.ht];omega)
 | n+1=>IOq n (yK n)
theorem qJ (d:D) (w:World) (v:Value) (hok:d.Ok) (h:IsD w d v) :
  Calls Tryz.prog 104 #[v] w fun e w'=>∃v',e=.returned v'∧Ext w w'∧IsD (cM w' w.heap.size) d v':=yK d.ht d w v (Nat.le_refl _) hok h
end Go.Proofs.YtaeioidifpebdaaGreatDoor
