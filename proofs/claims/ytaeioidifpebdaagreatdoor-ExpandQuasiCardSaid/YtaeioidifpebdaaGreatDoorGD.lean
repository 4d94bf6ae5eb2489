/-
 Laid together: Ref1, Ref4, Ref5, Ref6, Run0, R2a, R2, R3, Ref2, RDepth, Run1, RP1, RP2, RMay.
-/
import Derived.Test.YtaeioidifpebdaaGreatDoorPlain4
import Derived.Test.YtaeioidifpebdaaGreatDoorKit
import Derived.Test.YtaeioidifpebdaaGreatDoorPlain3
import Derived.Test.YtaeioidifpebdaaGreatDoorCopy
import Derived.Test.YtaeioidifpebdaaGreatDoorNum
import Derived.Laws.BitsAllLaws
import Derived.Laws.BitsLemmas
import Derived.Test.YtaeioidifpebdaaGreatDoorG6
import Derived.Test.YtaeioidifpebdaaGreatDoorG3
import Derived.Test.YtaeioidifpebdaaGreatDoorSame3
import Derived.Test.YtaeioidifpebdaaGreatDoorDepth
import Derived.Test.YtaeioidifpebdaaGreatDoorGC
import Derived.Test.YtaeioidifpebdaaGreatDoorGA
section
namespace Go.Proofs.YtaeioidifpebdaaGreatDoor
open Go.RowKit
set_option linter.unusedSimpArgs false
set_option linter.unusedVariables false
set_option maxHeartbeats 1000000 in
theorem PD (c:Int) (w:World):Calls Tryz.prog 64 #[.int .i32 c] w fun e w'=>e=.returned (.bool (Lib.validRune c))∧Ext w w':=by
 by_cases h0:(0:Int)≤c
 case neg =>
  have e0:decide ((0:Int)≤c)=false:=by simpa using h0
  have HR:Lib.validRune c=false:=by unfold Lib.validRune;rw [decide_eq_false_iff_not];omega
  rw [HR];clear HR h0
  go_enter Tryz.func64,Tryz.ntmps64
  go_wp2_with fail
  go_ret
  exact⟨rfl,Ext.refl _⟩
 have e0:decide ((0:Int)≤c)=true:=by simpa using h0
 by_cases h1:c≤1114111
 case neg =>
  have e1:decide (c≤1114111)=false:=by simpa using h1
  have HR:Lib.validRune c=false:=by unfold Lib.validRune;rw [decide_eq_false_iff_not];omega
  rw [HR];clear HR h0 h1
  go_enter Tryz.func64,Tryz.ntmps64
  go_wp2_with fail
  go_ret
  exact⟨rfl,Ext.refl _⟩
 have e1:decide (c≤1114111)=true:=by simpa using h1
 by_cases h2:c<55296
 case pos =>
  have e2:decide (c<55296)=true:=by simpa using h2
  have HR:Lib.validRune c=true:=by unfold Lib.validRune;rw [decide_eq_true_iff];omega
  rw [HR];clear HR h0 h1 h2
  go_enter Tryz.func64,Tryz.ntmps64
  go_wp2_with fail
  go_ret
  exact⟨rfl,Ext.refl _⟩
 have e2:decide (c<55296)=false:=by simpa using h2
 have HR:Lib.validRune c=decide (57343<c):=by unfold Lib.validRune;congr 1;apply propext;omega
 rw [HR];clear HR h0 h1 h2
 go_enter Tryz.func64,Tryz.ntmps64
 go_wp2_with fail
 go_ret
 exact⟨rfl,Ext.refl _⟩
def eF (h1 h2 h4 h8:Bool) (d:D):Bool:=(h1||decide (d.c=0))&&(h2||(!d.neg&&decide (d.mag.length=0)))&&(h4||decide (d.t.size=0))&&(h8||decide (d.l.length=0))
theorem CB (n:Nat):((n:Int) == 0)=decide (n=0):=by
 cases n with
 | zero=>rfl
 | succ n=>simp;omega
theorem SV (t:ByteArray):t.toList.isEmpty=decide (t.size=0):=by
 rw [Go.ByteArray.toList_eq]
 obtain⟨⟨l⟩⟩:=t
 cases l<;>simp [ByteArray.size]
end Go.Proofs.YtaeioidifpebdaaGreatDoor
end
section
namespace Go.Proofs.YtaeioidifpebdaaGreatDoor
set_option linter.unusedSimpArgs false
set_option linter.unusedVariables false
def gU (m:Int):List Int:=(List.range 32).map fun k=>m / 2 ^ k % 2
def eW (l:List Int):List Int:=l.flatMap gU
def iD:List Int→Int
 | []=>0
 | b::r=>b+2*iD r
def eO (b:List Int):List Int:=if h:b=[] then [] else iD (b.take 32)::eO (b.drop 32)
termination_by b.length
decreasing_by rw [List.length_drop];have:=List.length_pos_iff.2 h;omega
theorem hJ (m:Int):(gU m).length=32:=by simp [gU]
theorem qI (l:List Int):(eW l).length=32*l.length:=by
 induction l with
 | nil=>rfl
 | cons m l ih=>simp only [eW,List.flatMap_cons,List.length_append,hJ,List.length_cons] at *;omega
theorem qJ (a b:List Int):iD (a++b)=iD a+2 ^ a.length*iD b:=by
 induction a with
 | nil=>simp [iD]
 | cons x a ih =>
  simp only [List.cons_append,iD,ih,List.length_cons,Int.pow_succ]
  rw [Int.mul_add,Int.mul_comm (2 ^ a.length) 2,Int.mul_assoc];omega
theorem JC (n:Nat):iD (List.replicate n 0)=0:=by
 induction n with
 | zero=>rfl
 | succ n ih=>rw [List.replicate_succ,iD,ih];rfl
theorem BB (m:Int) (hm:0≤m):∀n:Nat,iD ((List.range n).map fun k=>m / 2 ^ k % 2)=m % 2 ^ n
 | 0=>by simp [iD]
 | n+1=>by
  rw [List.range_succ,List.map_append,qJ,BB m hm n]
  simp only [List.map_cons,List.map_nil,iD,List.length_map,List.length_range,Int.mul_zero,Int.add_zero]
  have h1:(m:Int) % 2 ^ (n+1)=m % 2 ^ n+2 ^ n*(m / 2 ^ n % 2):=by
   obtain⟨k,rfl⟩:=Int.eq_ofNat_of_zero_le hm
   rw [Int.pow_succ]
   have:=Nat.mod_mul (x:=k) (a:=2 ^ n) (b:=2)
   exact_mod_cast this
  rw [h1]
theorem qK (m:Int) (h0:0≤m) (h1:m≤4294967295):iD (gU m)=m:=by
 unfold gU
 rw [BB m h0 32]
 exact Int.emod_eq_of_lt h0 (by omega)
theorem lX {α:Type} (p:α→Bool):∀(c a:List α),c.dropWhile p≠[]→(c++a).dropWhile p=c.dropWhile p++a
 | [],a,h=>absurd rfl h
 | x::c,a,h=>by
  rw [List.cons_append,List.dropWhile_cons,List.dropWhile_cons] at *
  split
  ·rename_i hx;rw [if_pos hx] at h;exact lX p c a h
  ·rfl
theorem yC (a c:List Int) (h:cC c≠[]):cC (a++c)=a++cC c:=by
 unfold cC at h ⊢
 rw [List.reverse_append,lX _ _ _ (fun e=>h (by rw [e];rfl)),List.reverse_append,List.reverse_reverse]
theorem xP (a:List Int):∀n:Nat,cC (a++List.replicate n 0)=cC a
 | 0=>by simp
 | n+1=>by rw [List.replicate_succ',←List.append_assoc,jI,xP a n]
theorem rV (l:List Int):∃n,l=cC l++List.replicate n 0:=by
 generalize hn:l.length=n
 induction n generalizing l with
 | zero=>exact⟨0,by have:l=[]:=List.eq_nil_of_length_eq_zero hn;subst this;rfl⟩
 | succ n ih =>
  have hne:l≠[]:=fun e=>by subst e;simp at hn
  have e:=List.dropLast_concat_getLast hne
  by_cases h0:l.getLast hne=0
  ·obtain⟨m,hm⟩:=ih l.dropLast (by rw [List.length_dropLast,hn];rfl)
   refine⟨m+1,?_⟩
   rw [h0] at e
   rw [List.replicate_succ',←List.append_assoc]
   conv=>lhs;rw [←e]
   rw [show cC l=cC l.dropLast by conv=>lhs;rw [←e,jI]]
   rw [←hm]
  ·refine⟨0,?_⟩
   rw [List.replicate_zero,List.append_nil]
   conv=>lhs;rw [←e]
   rw [←tL _ _ h0,e]
theorem BC (c:List Int):iD (cC c)=iD c:=by
 obtain⟨n,hn⟩:=rV c
 conv=>rhs;rw [hn]
 rw [qJ,JC];simp
theorem mK:eO []=[]:=by rw [eO];simp
theorem pC {b:List Int} (h:b≠[]):eO b=iD (b.take 32)::eO (b.drop 32):=by rw [eO,dif_neg h]
theorem LQ (m:Int) (r:List Int):eO (gU m++r)=iD (gU m)::eO r:=by
 have hl:=hJ m
 rw [pC (fun e=>by have:=congrArg List.length e;simp [hl] at this),List.take_left' hl,List.drop_left' hl]
theorem lM {b:List Int} (h:b≠[]) (hl:b.length≤32):eO b=[iD b]:=by
 rw [pC h,List.take_of_length_le hl,List.drop_of_length_le hl,mK]
def tF (l:List Int):Prop:=∀m∈l,0≤m∧m≤4294967295
theorem JD (l:List Int) (hl:tF l) (c:List Int):eO (eW l++c)=l++eO c:=by
 induction l with
 | nil=>rfl
 | cons m l ih =>
  simp only [eW,List.flatMap_cons,List.append_assoc]
  rw [LQ,qK m (hl m (by simp)).1 (hl m (by simp)).2]
  have:=ih (fun x hx=>hl x (by simp [hx]))
  simp only [eW] at this
  rw [this];rfl
theorem JE:gU 0=List.replicate 32 0:=by decide
theorem uD (l:List Int) (m:Int):eW (l++[m])=eW l++gU m:=by simp [eW]
theorem UQ {m:Int} (h0:0≤m) (h1:m≤4294967295) (hm:m≠0):cC (gU m)≠[]:=fun e=>by
 have:=BC (gU m)
 rw [e,qK m h0 h1] at this
 exact hm this.symm
theorem BD (l:List Int) (hl:tF l):eO (cC (eW l))=cC l:=by
 generalize hn:l.length=n
 induction n generalizing l with
 | zero=>have:l=[]:=List.eq_nil_of_length_eq_zero hn;subst this;exact mK
 | succ n ih =>
  have hne:l≠[]:=fun e=>by subst e;simp at hn
  have e:=List.dropLast_concat_getLast hne
  have hd:tF l.dropLast:=fun m hm=>hl m (List.dropLast_subset _ hm)
  have hg:=hl _ (List.getLast_mem hne)
  by_cases h0:l.getLast hne=0
  ·rw [h0] at e
   rw [←e,uD,JE,xP,jI]
   exact ih l.dropLast hd (by rw [List.length_dropLast,hn];rfl)
  ·have hb:=UQ hg.1 hg.2 h0
   rw [←e,uD,yC _ _ hb,tL _ _ h0,JD _ hd]
   rw [lM hb (by have:=qL (gU (l.getLast hne));rw [hJ] at this;exact this),BC,qK _ hg.1 hg.2]
theorem iT (b:List Int):(eO b).length=(b.length+31) / 32:=by
 generalize hn:b.length=n
 induction n using Nat.strongRecOn generalizing b with
 | _ n ih =>
  by_cases h:b=[]
  ·subst h;rw [mK];simp at hn;subst hn;rfl
  ·have hp:=List.length_pos_iff.2 h
   rw [pC h,List.length_cons,ih (b.drop 32).length (by rw [List.length_drop];omega) _ rfl,List.length_drop]
   omega
theorem LR (x:Int) (b:List Int):eO (b++[x])=if b.length % 32=0 then eO b++[x] else (eO b).set (b.length / 32) ((eO b).getD (b.length / 32) 0+x*2 ^ (b.length % 32)):=by
 generalize hn:b.length=n
 induction n using Nat.strongRecOn generalizing b with
 | _ n ih =>
  by_cases h:b=[]
  ·subst h
   simp at hn;subst hn
   rw [mK,List.nil_append,lM (by simp) (by simp)]
   simp [iD]
  ·have hp:=List.length_pos_iff.2 h
   by_cases hs:n<32
   ·rw [lM (by simp) (by simp;omega),lM h (by omega),qJ,hn]
    rw [if_neg (by omega),Nat.div_eq_of_lt hs,Nat.mod_eq_of_lt hs]
    simp [iD,Int.mul_comm]
   ·rw [pC (b:=b++[x]) (by simp),pC h,List.take_append_of_le_length (by omega),List.drop_append_of_le_length (by omega),ih (n-32) (by omega) (b.drop 32) (by rw [List.length_drop];omega)]
    have e1:n / 32=(n-32) / 32+1:=by omega
    have e2:n % 32=(n-32) % 32:=by omega
    rw [e1,e2]
    split<;>simp
end Go.Proofs.YtaeioidifpebdaaGreatDoor
end
section
namespace Go.Proofs.YtaeioidifpebdaaGreatDoor
open Go.RowKit
set_option linter.unusedSimpArgs false
set_option linter.unusedVariables false
def IsBy (w:World) (l:List Int) (v:Value):Prop:=Rd w (.sl (l.map fun n=>.val (.int .u8 n))) [v]
theorem IsBy.keep {w w':World} (hk:Keeps w w') {l:List Int} {v:Value} (h:IsBy w l v):IsBy w' l v:=Rd.keep hk h
theorem IsBy.form {w:World} {l:List Int} {v:Value} (h:IsBy w l v):∃a cap,v=.slice a l.length cap∧l.length≤cap∧cap≤maxLen:=by
 obtain⟨a,cap,e,h1,h2⟩:=Rd.sl_form h
 rw [List.length_map] at e h1
 exact⟨a,cap,e,h1,h2⟩
theorem IsBy.get {w:World} {l:List Int} {a:Option Addr} {n cap:Nat} (h:IsBy w l (.slice a n cap)) (i:Nat) (hi:i<l.length) :
  ∃b o,a=some ⟨b,o,none⟩∧w.cell? ⟨b,o+i,none⟩=some (.int .u8 l[i]):=by
 simp only [IsBy,Rd] at h
 obtain⟨_,e,h⟩:=h
 cases e
 rcases h with ⟨h0,h1⟩|⟨b,o,cap',e,l1,l2,hr⟩
 ·have h0:l=[]:=by simpa using h0
  subst h0
  exact absurd hi (by simp)
 ·cases e
  refine⟨b,o,rfl,?_⟩
  obtain⟨cs,h1,h2,h3⟩:=RdRow.get hr (n:=1) (fun e he=>by obtain⟨d,_,rfl⟩:=List.mem_map.1 he;rfl) i (by simpa using hi)
  rw [List.getElem_map] at h2
  simp only [Rd] at h2
  subst h2
  simpa using h1.1
theorem IsBy.take {w:World} {l:List Int} {a:Option Addr} {cap n:Nat} (h:IsBy w l (.slice a l.length cap)) (hn:n≤l.length):IsBy w (l.take n) (.slice a n cap):=by
 unfold IsBy at h ⊢
 rw [List.map_take]
 exact Rd.take (by simpa using h) (by simpa using hn)
set_option maxHeartbeats 1000000 in
theorem UR (l:List Int) (w:World) (a:Option Addr) (cap:Nat) (h:IsBy w l (.slice a l.length cap)) :
  Calls Tryz.prog 136 #[.slice a l.length cap] w fun e w'=>∃n,n≤l.length∧cC l=l.take n∧e=.returned (.slice a n cap)∧Ext w w':=by
 obtain⟨a',cap',e',h1,h2⟩:=h.form
 cases e'
 unfold maxLen at h2
 go_enter Tryz.func136,Tryz.ntmps136
 go_wp2
 go_loop [3] (fun i=>∃n:Nat,n≤l.length∧i=.int .i64 n∧(∀i (h:i<l.length),n≤i→l[i]=0)) (fun i=>(intOf i).toNat)
 case atStart=>exact⟨l.length,Nat.le_refl _,rfl,fun i h hi=>by omega⟩
 case round =>
  obtain⟨n,hn,rfl,hz⟩:=hrel
  have HZ:=Lib.hid hz;clear hz
  by_cases hp:0<n
  case neg =>
   have ed:decide ((0:Int)<n)=false:=by simp;omega
   have hn0:n=0:=by omega
   subst hn0
   have hfin:=uQ l 0 (Nat.zero_le _) HZ.out (fun h=>absurd h (by omega))
   have HF:=Lib.hid hfin;clear hfin
   go_wp2
   go_ret
   exact⟨0,Nat.zero_le _,HF.out,rfl,Ext.refl _⟩
  obtain⟨k,rfl⟩:∃k,n=k+1:=⟨n-1,by omega⟩
  have hk:k<l.length:=by omega
  obtain⟨b,o,rfl,c⟩:=h.get k hk
  by_cases hl:l[k]=0
  ·have e0:(l[k] == 0)=true:=by simpa using hl
   have hz':∀i (h:i<l.length),k≤i→l[i]=0:=fun i hi hki=>by
    rcases Nat.lt_or_ge k i with h'|h'
    ·exact HZ.out i hi (by omega)
    ·obtain rfl:i=k:=by omega
     exact hl
   have HL:=Lib.hid hz';clear hl hz'
   go_wp2
   go_round
   case rel=>exact⟨k,by omega,by go_num,HL.out⟩
   case measure=>simp [intOf]
  ·have e0:(l[k] == 0)=false:=by simpa using hl
   have hfin:=uQ l (k+1) hn HZ.out (fun h=>by simpa using hl)
   have HF:=Lib.hid hfin;clear hfin hl
   go_wp2
   go_ret
   exact⟨k+1,hn,HF.out,rfl,Ext.refl _⟩
set_option maxHeartbeats 1000000 in
theorem PE (neg:Bool) (l:List Int) (w:World) (a:Option Addr) (cap:Nat) (h:IsBy w l (.slice a l.length cap)) :
  Calls Tryz.prog 115 #[.bool neg,.slice a l.length cap] w fun e w'=>∃n,n≤l.length∧cC l=l.take n∧e=.returned (.agg #[.bool (neg&&decide (0<n)),.slice a n cap])∧Ext w w':=by
 have hx0:=(Ext.refl w).alloc (.cells #[.bool false,.slice none 0 0] 136)
 have b0:=gK w (.cells #[.bool false,.slice none 0 0] 136)
 have HC:=Lib.hid (UR l _ _ _ (h.keep hx0.keeps))
 clear h
 go_enter Tryz.func115,Tryz.ntmps115
 go_wp2_with fail
 refine HC.out.mono ?_
 rintro e w1 ⟨n,hn,ht,rfl,hx1⟩
 have b0:=(hx1.block _ (by simp)).trans b0
 have hc0:=cG b0
 have hf0:=iQ b0
 have HT:=Lib.hid ht;clear ht b0
 cases neg with
 | true =>
  go_wp2_with fail
  refine bodyPost_ret (v:=.agg #[.bool (true&&decide (0<n)),.slice a n cap]) (by simp [results,Tryz.results115,go_sem,hc0]) rfl ⟨n,hn,HT.out,rfl,?_⟩
  repeat (first|(with_reducible exact hx0.trans hx1)|(with_reducible refine Ext.alloc ?_ _)|((with_reducible refine Ext.setCell ?_ ?hh9 _);(case hh9=>(first|(simp;done)|(simp;omega)|omega)))|(with_reducible refine Ext.drew ?_))
 | false =>
  go_wp2_with fail
  refine bodyPost_ret (v:=.agg #[.bool (false&&decide (0<n)),.slice a n cap]) (by simp [results,Tryz.results115,go_sem,hc0]) rfl ⟨n,hn,HT.out,rfl,?_⟩
  repeat (first|(with_reducible exact hx0.trans hx1)|(with_reducible refine Ext.alloc ?_ _)|((with_reducible refine Ext.setCell ?_ ?hh9 _);(case hh9=>(first|(simp;done)|(simp;omega)|omega)))|(with_reducible refine Ext.drew ?_))
theorem WT (x:Int) (m:Nat) (h0:0≤x) (h1:x≤4294967295):bits BinOp.and IntKind.u32 (x / 2 ^ m) 1 % 256=x / 2 ^ m % 2:=by
 have hp:(0:Int)<2 ^ m:=Int.pow_pos (by decide)
 have h2:0≤x / 2 ^ m:=Int.ediv_nonneg h0 (Int.le_of_lt hp)
 have h3:x / 2 ^ m≤x:=Int.ediv_le_self _ h0
 rw [u32_and _ _ h2 (by omega) (by decide) (by decide)]
 generalize x / 2 ^ m=y at *
 obtain⟨n,rfl⟩:=Int.eq_ofNat_of_zero_le h2
 rw [Int.toNat_natCast,show Int.toNat 1=1 from rfl,Nat.and_one_is_mod]
 omega
theorem JF (x:Int) (m:Nat) (h:m<32):(gU x).take (m+1)=(gU x).take m++[x / 2 ^ m % 2]:=by
 rw [List.take_succ_eq_append_getElem (by rw [hJ];exact h)]
 simp [gU]
theorem WU:((Tryz.prog.info? 5).map fun i=>(i.zero,i.size,i.bytes))=some (some (.int .u8 0),1,1):=by kernel_rfl
def NA (w:World) (B:Nat) (l:List Int) (v:Value):Prop:=Own w B 5 1 (l.map fun n=>.val (.int .u8 n)) v
set_option maxRecDepth 100000 in
set_option maxHeartbeats 1000000 in
theorem LS (neg:Bool) (l:List Int) (w:World) (v:Value) (hl:tF l) (hlen:l.length≤1000000) (h:IsMag w l v) :
  Calls Tryz.prog 94 #[.agg #[.bool neg,v]] w fun e w'=>∃v',e=.returned (.agg #[.bool (neg&&decide (0<(cC (eW l)).length)),v'])∧Ext w w'∧IsBy (cM w' w.heap.size) (cC (eW l)) v':=by
 obtain⟨a,cap,rfl,h1,h2⟩:=h.form
 unfold maxLen at h2
 have hx0:=((Ext.refl w).alloc (.cells #[.bool neg,.slice a l.length cap] 25)).alloc (.cells #[.bool false,.slice none 0 0] 136)
 have b0:=rY w (.cells #[.bool neg,.slice a l.length cap] 25) (.cells #[.bool false,.slice none 0 0] 136)
 have b1:=rZ w (.cells #[.bool neg,.slice a l.length cap] 25) (.cells #[.bool false,.slice none 0 0] 136)
 go_enter Tryz.func94,Tryz.ntmps94
 go_wp2_with fail
 generalize (w.alloc (.cells #[.bool neg,.slice a l.length cap] 25)).alloc (.cells #[.bool false,.slice none 0 0] 136)=w1 at *
 have hsz:w.heap.size+2≤w1.heap.size:=by have:=(Array.getElem?_eq_some_iff.1 b1).1;omega
 obtain⟨i0,hi,hz0,hz1,hz2⟩:=info_parts WU
 have HB:=Lib.hid (And.intro b0 (And.intro b1 h));clear b0 b1
 go_loopw [3,4,5] (fun s i _ wr=>∃k:Nat,k≤l.length∧i=.int .i64 k∧Ext w1 wr∧NA wr w1.heap.size (eW (l.take k)) s) (fun _ i _ _=>l.length-(intOf i).toNat)
 case atStart=>exact⟨0,Nat.zero_le _,rfl,Ext.refl _,by simpa [NA,eW] using Own.nil _ _ _ _⟩
 case round =>
  obtain⟨k,hk,rfl,hxr,hown⟩:=hrel
  have hx2:=hx0.trans hxr
  have b0:=(hxr.block _ (by omega)).trans HB.out.1
  have hc0:=cG b0
  have HOWN:=Lib.hid hown;clear hown
  by_cases hlt:k<l.length
  ·obtain⟨b,o,rfl,hcell⟩:=h.get k hlt
   clear h
   go_wp2_with fail
   go_loopw [3,5] (fun s j w2=>∃m:Nat,m≤32∧j=.int .i64 m∧Ext w1 w2∧NA w2 w1.heap.size (eW (l.take k)++(gU l[k]).take m) s) (fun _ j _=>32-(intOf j).toNat)
   case atStart=>exact⟨0,Nat.zero_le _,rfl,hxr,by simpa using HOWN.out⟩
   clear hc0 b0 HOWN hx2 hxr
   case round =>
    obtain⟨m,hm,rfl,hxm,hown⟩:=hrel
    have b0:=(hxm.block _ (by omega)).trans HB.out.1
    have hc0:=cG b0
    have hcell:=(hx0.trans hxm).keeps _ _ hcell
    have HOWN:=Lib.hid hown;clear hown
    by_cases hml:m<32
    ·have hdg:=hl l[k] (List.getElem_mem _)
     have hbit:=WT l[k] m hdg.1 hdg.2
     have hll:=qI (l.take k)
     have hlt2:(l.take k).length≤1000000:=by rw [List.length_take];omega
     have hlm:(List.map (fun n:Int=>V.val (.int .u8 n)) (eW (l.take k)++(gU l[k]).take m)).length≤33000000:=by
      rw [List.length_map,List.length_append,List.length_take,hJ];omega
     have hle:=hxm.le
     have HO:Own wr w1.heap.size 5 1 _ _:=HOWN.out
     go_wp2_with (at_builtin;go_loud (refine kB (w:=wr) (w2:=wr) rfl _ _ 134 rfl w1.heap.size 5 i0 _ 1 1 Tryz.underlying134 hi hz0 hz1 hz2 rfl (by decide) _ _ rfl HO hle (Ext.refl _) [.int .u8 (l[k] / 2 ^ m % 2)] (.val (.int .u8 (l[k] / 2 ^ m % 2))) 5 rfl rfl (by simp [yW,Value.oneCell']) (by simp only [Rd]) (by unfold maxLen;omega) (by omega) ?_);intro v2 w3 hown' hbb;have hx5:Ext w1 w3:=(hxm.alloc _).below hbb;have H1:=Lib.hid (And.intro hown' hx5);clear hown' hbb hx5)
     go_roundw
     case rel =>
      refine⟨m+1,by omega,by go_num,H1.out.2,?_⟩
      have:=H1.out.1
      unfold NA
      rw [JF _ _ hml,←List.append_assoc,List.map_append,List.map_cons,List.map_nil]
      exact this
     case measure=>simp [intOf];omega
    ·obtain rfl:m=32:=by omega
     go_wp2_with fail
     refine⟨⟨k+1,by omega,by go_num,hxm,?_⟩,by simp [intOf];omega⟩
     have:=HOWN.out
     rw [List.take_of_length_le (l:=gU l[k]) (i:=32) (by rw [hJ];exact Nat.le_refl _)] at this
     rw [List.take_succ_eq_append_getElem hlt,uD]
     exact this
  ·have hkl:l.take k=l:=List.take_of_length_le (by omega)
   rw [hkl] at HOWN
   clear h
   have hlb:=qI l
   have HO:Own wr w1.heap.size 5 1 _ _:=HOWN.out
   have HF:=HO.form
   rw [List.length_map] at HF
   obtain⟨a9,c9,rfl,-,-⟩:=HF
   have HBy:IsBy (cM wr w1.heap.size) (eW l) (.slice a9 (eW l).length c9):=HO.reads
   have HV:=Lib.hid (And.intro (PE neg (eW l) wr a9 c9 (HBy.keep (FY _ _))) HBy)
   have HT:=Lib.hid (And.intro HB.out.2.1 hxr)
   clear HOWN HB HO HBy hlb hkl
   clear b0
   go_wp2_with fail
   refine HV.out.1.mono ?_
   rintro e w3 ⟨n,hn,ht,rfl,hx3⟩
   have b1:=(hx3.block _ (by have:=HT.out.2.le;omega)).trans ((HT.out.2.block _ (by omega)).trans HT.out.1)
   have hc1:=cG b1
   have hf1:=iQ b1
   clear hc0
   have HN:=Lib.hid ht;clear ht
   have hle1:=HT.out.2.le
   go_wp2_with fail
   refine bodyPost_ret (v:=.agg #[.bool (neg&&decide (0<n)),.slice a9 n c9]) (by simp [results,Tryz.results94,go_sem,hc1]) rfl ?_
   rw [HN.out,List.length_take,Nat.min_eq_left hn]
   refine⟨_,rfl,?_,?_⟩
   ·repeat (first|(with_reducible exact hx2.trans hx3)|(with_reducible refine Ext.alloc ?_ _)|((with_reducible refine Ext.setCell ?_ ?hh9 _);(case hh9=>(first|(simp;done)|(simp;omega)|omega)))|(with_reducible refine Ext.drew ?_))
   ·refine (HV.out.2.take hn).keep (Keeps.trans ?_ (fN _ (show w.heap.size≤w1.heap.size by omega)))
    repeat (with_reducible refine Keeps.trans ?_ (kZ _ ?hh _);case hh=>(simp;omega))
    exact fU _ hx3
end Go.Proofs.YtaeioidifpebdaaGreatDoor
end
section
namespace Go.Proofs.YtaeioidifpebdaaGreatDoor
open Go Go.Lib
set_option linter.unusedSimpArgs false
set_option linter.unusedVariables false
def iU (s:ByteArray) (i:Nat):Prop:=Utf8.decode s i=(65533,1)
def eZ (s:ByteArray):Nat→Nat→List Int
 | 0,_=>[]
 | f+1,pos=>if pos<s.size then ((Utf8.decode s pos).1:Int)::eZ s f (pos+(Utf8.decode s pos).2) else []
theorem tG (s:ByteArray):∀f pos,(eZ s f pos).length=runeCountFrom s f pos
 | 0,_=>rfl
 | f+1,pos=>by
  rw [eZ,runeCountFrom]
  split
  ·rw [List.length_cons,tG];omega
  ·rfl
theorem CC (s:ByteArray) (f pos:Nat) (h:s.size≤pos):eZ s f pos=[]:=by
 cases f with
 | zero=>rfl
 | succ f=>rw [eZ,if_neg (by omega)]
theorem BE (s:ByteArray) (f pos:Nat) (h:pos<s.size) (hf:s.size-pos≤f):∃g,s.size-(pos+(Utf8.decode s pos).2)≤g∧eZ s f pos=((Utf8.decode s pos).1:Int)::eZ s g (pos+(Utf8.decode s pos).2):=by
 cases f with
 | zero=>omega
 | succ f =>
  refine⟨f,?_,by rw [eZ,if_pos h]⟩
  have:=width_pos s pos
  omega
theorem NB {s:ByteArray} {i:Nat} (h:i<s.size):s.data.toList.drop i≠[]:=fun e=>by
 have:=congrArg List.length e
 simp only [List.length_drop,List.length_nil,Array.length_toList] at this
 have h2:s.size=s.data.size:=rfl
 omega
theorem eT {s:ByteArray} {i:Nat} (h:i<s.size) (hb:iU s i):validD (s.data.toList.drop i)=false:=by
 rw [validD_step _ (NB h),decodeL_drop,hb];rfl
theorem LT {s:ByteArray} {i n:Nat} {c:Nat} (h:i<s.size) (hd:Utf8.decode s i=(c,n)) (hb:¬(c=65533∧n=1)):validD (s.data.toList.drop i)=validD (s.data.toList.drop (i+n)):=by
 rw [validD_step _ (NB h),decodeL_drop,hd,if_neg hb,List.drop_drop]
def at_ (s:ByteArray) (i:Nat):Nat:=(s.get! i).toNat
theorem JG (s:ByteArray) (i:Nat):at_ s i<256:=UInt8.toNat_lt _
theorem uF {s:ByteArray} {i:Nat} (h:i<s.size):∃z:UInt8,s[i]?=some z∧z.toNat=at_ s i:=by
 have h2:i<s.data.size:=h
 refine⟨s.data[i],?_,?_⟩
 ·rw [getElem?_pos s i h];rfl
 ·unfold at_
  show _=(s.data[i]!).toNat
  rw [getElem!_pos s.data i h2]
theorem YM {s:ByteArray} {i:Nat} (h:at_ s i<128):Utf8.decode s i=(at_ s i,1):=by
 rw [decode_at];unfold decodeN at_ at *;rw [if_pos h]
theorem YN {s:ByteArray} {i:Nat} (h1:194≤at_ s i) (h2:at_ s i<224):(Utf8.decode s i=(at_ s i % 32*64+at_ s (i+1) % 64,2)∧i+2≤s.size∧at_ s (i+1) / 64=2)∨(iU s i∧¬(i+2≤s.size∧at_ s (i+1) / 64=2)):=by
 unfold iU
 rw [decode_at]
 unfold at_ at *
 generalize (s.get! i).toNat=b0 at *
 generalize (s.get! (i+1)).toNat=b1 at *
 generalize (s.get! (i+2)).toNat=b2 at *
 generalize (s.get! (i+3)).toNat=b3 at *
 unfold decodeN
 rw [if_neg (by omega)]
 by_cases hc:i+2≤s.size∧b1 / 64=2
 ·rw [if_pos (by omega),if_pos (by omega)];exact .inl ⟨rfl,hc⟩
 ·rw [if_neg (by omega),if_neg (by omega),if_neg (by omega)];exact .inr ⟨rfl,hc⟩
theorem YO {s:ByteArray} {i c:Nat} (h1:224≤at_ s i) (h2:at_ s i<240) (hcd:c=at_ s i % 16*4096+at_ s (i+1) % 64*64+at_ s (i+2) % 64) :
  (Utf8.decode s i=(c,3)∧i+3≤s.size∧at_ s (i+1) / 64=2∧at_ s (i+2) / 64=2∧2048≤c∧(c<55296∨57343<c))∨(iU s i∧¬(i+3≤s.size∧at_ s (i+1) / 64=2∧at_ s (i+2) / 64=2∧2048≤c∧(c<55296∨57343<c))):=by
 unfold iU
 rw [decode_at]
 unfold at_ at *
 generalize (s.get! i).toNat=b0 at *
 generalize (s.get! (i+1)).toNat=b1 at *
 generalize (s.get! (i+2)).toNat=b2 at *
 generalize (s.get! (i+3)).toNat=b3 at *
 unfold decodeN
 rw [←hcd,if_neg (by omega),if_neg (by omega)]
 by_cases hc:i+3≤s.size∧b1 / 64=2∧b2 / 64=2
 ·rw [if_pos (by omega)]
  by_cases hv:2048≤c∧(c<55296∨57343<c)
  ·rw [if_pos (by omega)];exact .inl ⟨rfl,hc.1,hc.2.1,hc.2.2,hv⟩
  ·rw [if_neg (by omega)];exact .inr ⟨rfl,fun h=>hv h.2.2.2⟩
 ·rw [if_neg (by omega),if_neg (by omega)];exact .inr ⟨rfl,fun h=>hc ⟨h.1,h.2.1,h.2.2.1⟩⟩
theorem YP {s:ByteArray} {i c:Nat} (h1:240≤at_ s i) (h2:at_ s i<245) (hcd:c=at_ s i % 8*262144+at_ s (i+1) % 64*4096+at_ s (i+2) % 64*64+at_ s (i+3) % 64) :
  (Utf8.decode s i=(c,4)∧i+4≤s.size∧at_ s (i+1) / 64=2∧at_ s (i+2) / 64=2∧at_ s (i+3) / 64=2∧65536≤c∧c≤1114111)∨(iU s i∧¬(i+4≤s.size∧at_ s (i+1) / 64=2∧at_ s (i+2) / 64=2∧at_ s (i+3) / 64=2∧65536≤c∧c≤1114111)):=by
 unfold iU
 rw [decode_at]
 unfold at_ at *
 generalize (s.get! i).toNat=b0 at *
 generalize (s.get! (i+1)).toNat=b1 at *
 generalize (s.get! (i+2)).toNat=b2 at *
 generalize (s.get! (i+3)).toNat=b3 at *
 unfold decodeN
 rw [←hcd,if_neg (by omega),if_neg (by omega),if_neg (by omega)]
 by_cases hc:i+4≤s.size∧b1 / 64=2∧b2 / 64=2∧b3 / 64=2
 ·rw [if_pos (by omega)]
  by_cases hv:65536≤c∧c≤1114111
  ·rw [if_pos (by omega)];exact .inl ⟨rfl,hc.1,hc.2.1,hc.2.2.1,hc.2.2.2,hv⟩
  ·rw [if_neg (by omega)];exact .inr ⟨rfl,fun h=>hv h.2.2.2.2⟩
 ·rw [if_neg (by omega)];exact .inr ⟨rfl,fun h=>hc ⟨h.1,h.2.1,h.2.2.1,h.2.2.2.1⟩⟩
theorem YQ {s:ByteArray} {i:Nat} (h:(128≤at_ s i∧at_ s i<194)∨245≤at_ s i):iU s i:=by
 have hlt:=JG s i
 unfold iU
 rw [decode_at]
 unfold at_ at *
 generalize (s.get! i).toNat=b0 at *
 generalize (s.get! (i+1)).toNat=b1 at *
 generalize (s.get! (i+2)).toNat=b2 at *
 generalize (s.get! (i+3)).toNat=b3 at *
 unfold decodeN
 rw [if_neg (by omega)]
 by_cases h6:b0 / 32=6∧(1<s.size-i∧b1 / 64=2)
 ·rw [if_pos h6,if_neg (by omega)]
 ·rw [if_neg h6,if_neg (by omega)]
  by_cases h8:b0 / 8=30∧(1<s.size-i∧b1 / 64=2)∧(2<s.size-i∧b2 / 64=2)∧(3<s.size-i∧b3 / 64=2)
  ·rw [if_pos h8,if_neg (by omega)]
  ·rw [if_neg h8]
set_option maxRecDepth 100000 in
theorem pD (b:Nat) (h:b<256):(bits .and .u8 (b:Int) 192 != 128)=decide (b / 64≠2):=by
 have h1:=u8_and_nat b 192 h (by decide)
 have h2:∀b:Fin 256,(((b.val &&& 192:Nat):Int) != 128)=decide (b.val / 64≠2):=by decide
 rw [show (192:Int)=((192:Nat):Int) from rfl,h1]
 exact h2 ⟨b,h⟩
theorem BF (b m:Nat) (hm:m=31∨m=15∨m=7) (h:b<256):bits .and .i32 (b:Int) (m:Int)=((b % (m+1):Nat):Int):=by
 rcases hm with rfl|rfl|rfl
 ·have:=bits_mask .i32 31 (by decide) wraps_i32 5 (by decide) (b:Int) (by omega) (by omega)
  simpa using this
 ·have:=bits_mask .i32 31 (by decide) wraps_i32 4 (by decide) (b:Int) (by omega) (by omega)
  simpa using this
 ·have:=bits_mask .i32 31 (by decide) wraps_i32 3 (by decide) (b:Int) (by omega) (by omega)
  simpa using this
theorem FJ (b:Nat) (h:b<256):bits .and .u8 (b:Int) 63=((b % 64:Nat):Int):=by
 rw [u8_and63 (b:Int) (by omega) (by omega)];omega
theorem DG (x y:Nat) (hx:x*64<2147483648) (hy:y<64):bits .or .i32 (IntKind.i32.wrap ((x:Int)*2 ^ (min 6 IntKind.i32.bits))) (IntKind.i32.wrap (y:Int))=((x*64+y:Nat):Int):=by
 have e:(2:Int) ^ (min 6 IntKind.i32.bits)=64:=by decide
 rw [e,IntKind.wrap_i32,IntKind.wrap_i32,i32_or6 _ _ (by omega) (by omega) (by omega) (by omega) (by omega)]
 omega
end Go.Proofs.YtaeioidifpebdaaGreatDoor
end
section
namespace Go.Proofs.YtaeioidifpebdaaGreatDoor
set_option linter.unusedSimpArgs false
set_option linter.unusedVariables false
open Go.RowKit
def JH (b:List Int):Prop:=∀x∈b,x=0∨x=1
theorem SW (b:List Int) (h:JH b):0≤iD b∧iD b<2 ^ b.length:=by
 induction b with
 | nil=>simp [iD]
 | cons x b ih =>
  have h1:=ih (fun y hy=>h y (by simp [hy]))
  have h2:=h x (by simp)
  rw [iD,List.length_cons,Int.pow_succ]
  omega
theorem LU (b:List Int) (h:JH b) (hm:b.length % 32≠0):0≤(eO b).getD (b.length / 32) 0∧(eO b).getD (b.length / 32) 0<2 ^ (b.length % 32):=by
 generalize hn:b.length=n at *
 induction n using Nat.strongRecOn generalizing b with
 | _ n ih =>
  have hne:b≠[]:=fun e=>by subst e;simp at hn;subst hn;exact hm rfl
  by_cases hs:n<32
  ·rw [lM hne (by omega),Nat.div_eq_of_lt hs,Nat.mod_eq_of_lt hs]
   have:=SW b h
   rw [hn] at this
   simpa using this
  ·rw [pC hne]
   have e1:n / 32=(n-32) / 32+1:=by omega
   have e2:n % 32=(n-32) % 32:=by omega
   rw [e1,e2]
   have:=ih (n-32) (by omega) (b.drop 32) (fun y hy=>h y (List.drop_subset _ _ hy)) (by rw [List.length_drop];omega) (by omega)
   simpa using this
def fE (b:List Int):List Int:=if b.length % 32=0 then eO b++[0] else eO b
theorem BG (b:List Int):b.length / 32<(fE b).length:=by
 unfold fE
 split
 ·rw [List.length_append,iT];simp;omega
 ·rw [iT];omega
theorem SX (b:List Int) (h:JH b):0≤(fE b).getD (b.length / 32) 0∧(fE b).getD (b.length / 32) 0<2 ^ (b.length % 32):=by
 unfold fE
 split
 ·rename_i h0
  have:(eO b).length=b.length / 32:=by rw [iT];omega
  rw [List.getD_eq_getElem?_getD,List.getElem?_append_right (by omega),this,Nat.sub_self,h0]
  simp
 ·exact LU b h (by assumption)
theorem sQ (b:List Int) (x:Int):eO (b++[x])=(fE b).set (b.length / 32) ((fE b).getD (b.length / 32) 0+x*2 ^ (b.length % 32)):=by
 rw [LR]
 unfold fE
 split
 ·rename_i h0
  have:(eO b).length=b.length / 32:=by rw [iT];omega
  rw [List.set_append_right _ _ (by omega),List.getD_eq_getElem?_getD,List.getElem?_append_right (by omega),this,Nat.sub_self,h0]
  simp
 ·rfl
theorem uG (b:List Int):eO (b++[0])=fE b:=by
 rw [sQ,Int.zero_mul,Int.add_zero]
 apply List.ext_getElem?
 intro i
 rw [List.getElem?_set]
 split
 ·rename_i h;subst h
  rw [if_pos (BG b),List.getD_eq_getElem?_getD,List.getElem?_eq_getElem (BG b)]
  simp
 ·rfl
theorem WV (x:Int) (j:Nat) (hj:j<32) (h0:0≤x) (h1:x<2 ^ j):bits BinOp.or IntKind.u32 x (2 ^ j)=x+2 ^ j:=by
 obtain⟨n,rfl⟩:=Int.eq_ofNat_of_zero_le h0
 have hn:n<2 ^ j:=by exact_mod_cast h1
 have h2:2 ^ j≤2 ^ 31:=Nat.pow_le_pow_right (by decide) (by omega)
 have e:((2:Int) ^ j)=((2 ^ j:Nat):Int):=by simp
 rw [e,u32_or_nat n (2 ^ j) (by omega) (by omega)]
 have:=Nat.two_pow_add_eq_or_of_lt hn 1
 rw [Nat.mul_one] at this
 rw [Nat.or_comm,←this]
 simp [Int.add_comm]
end Go.Proofs.YtaeioidifpebdaaGreatDoor
end
section
namespace Go.Proofs.YtaeioidifpebdaaGreatDoor
open Go Go.RowKit
set_option linter.unusedSimpArgs false
set_option linter.unusedVariables false
set_option maxHeartbeats 1000000
set_option maxRecDepth 100000
def pE (b:List Int):List (List C):=b.map fun n=>[.v (.int .u8 n)]
def nI (b:List Int):List (List C):=b.map fun n=>[.v (.int .u32 n)]
theorem dI (b:List Int):(pE b).length=b.length:=by simp [pE]
theorem jH (b:List Int):(nI b).length=b.length:=by simp [nI]
theorem PF {b:List Int} {k:Nat} (h:k<b.length):(pE b)[k]?=some [.v (.int .u8 b[k])]:=by simp [pE,h]
theorem SY {b:List Int} {k:Nat} (h:k<b.length):(nI b)[k]?=some [.v (.int .u32 b[k])]:=by simp [nI,h]
def YR (neg:Bool) (b:List Int) (n:Nat) (st:St):Prop:=∃k:Nat,n=b.length-k∧k≤b.length ∧
 ((k=0∧st=⟨[(5,.one (.v (.int .i64 k))),(4,.one (.ptr 2 1 0 0)),(1,.one (.ptr 0 1 0 0)),(2,.one (.ptr 1 1 0 0)),(3,.one (.v (.int .i64 0)))],
  [some ⟨136,2,[[.v (.bool neg),.sl 1 (pE b)]]⟩,some ⟨25,2,[[.v (.bool false),.v (.slice none 0 0)]]⟩,some ⟨25,2,[[.v (.bool neg),.v (.slice none 0 0)]]⟩]⟩) ∨
  (0<k∧st=⟨[(5,.one (.v (.int .i64 k))),(4,.one (.ptr 2 1 0 0)),(1,.one (.ptr 0 1 0 0)),(2,.one (.ptr 1 1 0 0)),(3,.one (.v (.int .i64 0)))],
  [some ⟨136,2,[[.v (.bool neg),.sl 1 (pE b)]]⟩,some ⟨25,2,[[.v (.bool false),.v (.slice none 0 0)]]⟩,some ⟨25,2,[[.v (.bool neg),.ms 4 (eO (b.take k)).length]]⟩,some ⟨96,1,[[.v (.int .u32 0)]]⟩,some ⟨96,1,nI (eO (b.take k))⟩]⟩))
theorem SZ (neg:Bool) (b:List Int) (hb:JH b) (hlen:b.length≤1536):Pure Tryz.prog 93 [.agg [.v (.bool neg),.sl 1 (pE b)]] (.tup [.agg [.v (.bool neg),.sl 1 (nI (eO b))],.one (.v (.int .i64 0))]):=by
 have hl2:=dI b
 refine fi Tryz.func93 Tryz.ntmps93 Tryz.results93 ?_
 repeat (first|(apply fw;focus ((with_reducible constructor)<;>constructor))|((first|with_reducible refine ga _ rfl fun Y y=>?_|apply ri);simp only [zb,seval,w93,dI];refine fz y ?_;clear y Y))
 refine WpA.cond rfl (fun hc=>?_) (fun hc=>?_)
 ·simp at hc;omega
 repeat (first|(apply fw;focus ((with_reducible constructor)<;>constructor))|((first|with_reducible refine ga _ rfl fun Y y=>?_|apply ri);simp only [zb,seval,w93,dI];refine fz y ?_;clear y Y))
 refine WpA.loop (YR neg b) b.length (Le.drop 3 (Nat.zero_le _) rfl (by simp [Sub,find]) rfl (by simp [ObBd,C.bd])) ⟨0,rfl,Nat.zero_le _,.inl ⟨rfl,rfl⟩⟩ ?_
 intro n' st hI
 obtain⟨k,rfl,hk,hI⟩:=hI
 have hw2:IntKind.i64.wrap ((k:Int)+1)=((k+1:Nat):Int):=by rw [dA (by omega) (by omega)];omega
 have htm:(k:Int).tmod 32=((k % 32:Nat):Int):=rfl
 have htd:IntKind.i64.wrap ((k:Int).tdiv 32)=((k / 32:Nat):Int):=by rw [show (k:Int).tdiv 32=((k / 32:Nat):Int) from rfl,dA (by omega) (by omega)]
 have hbd:=iT (b.take k)
 have htk:(b.take k).length=k:=by rw [List.length_take];omega
 rw [htk] at hbd
 have hmag:∀l,∀e∈nI l,∀c∈e,C.shut c=true:=fun l e he c hc=>by
  obtain⟨n,_,rfl⟩:=List.mem_map.1 he
  simp at hc;subst hc;rfl
 have hmbd:∀n l,∀e∈nI l,∀c∈e,C.bd n c=true:=fun n l e he c hc=>by
  obtain⟨n,_,rfl⟩:=List.mem_map.1 he
  simp at hc;subst hc;rfl
 by_cases hlt:k<b.length
 case neg =>
  have hkl:k=b.length:=by omega
  have hd0:decide ((k:Int)<(b.length:Int))=false:=by simp;omega
  rcases hI with ⟨hk0,rfl⟩|⟨hk0,rfl⟩
  ·repeat (first|(apply fw;focus ((with_reducible constructor)<;>constructor))|((first|with_reducible refine ga _ rfl fun Y y=>?_|apply ri);simp only [zb,seval,w93,dI,htm,hd0];refine fz y ?_;clear y Y))
   repeat (first|(apply fw;focus ((with_reducible constructor)<;>constructor))|((first|with_reducible refine ga _ rfl fun Y y=>?_|apply ri);simp only [zb,seval,w93,dI,htm];refine fz y ?_;clear y Y))
   have:b=[]:=List.eq_nil_of_length_eq_zero (by omega)
   subst this
   refine yl (by simp only [zb,seval,w93];rfl) (by simp only [zv];rfl) (by rw [mK];exact ALe.tup (.cons (ALe.agg (.cons (.nil (.refl _)))) (.refl _))) rfl
  ·repeat (first|(apply fw;focus ((with_reducible constructor)<;>constructor))|((first|with_reducible refine ga _ rfl fun Y y=>?_|apply ri);simp only [zb,seval,w93,dI,htm,hd0];refine fz y ?_;clear y Y))
   repeat (first|(apply fw;focus ((with_reducible constructor)<;>constructor))|((first|with_reducible refine ga _ rfl fun Y y=>?_|apply ri);simp only [zb,seval,w93,dI,htm];refine fz y ?_;clear y Y))
   refine⟨by simp,_,_,_,_,(by simp only [zb,seval,w93,jH];rfl),(by simp),(by simp only [zv,jH];rfl),(by simp [jH];exact hmag _),_,ALe.refl _,?_⟩
   rw [hkl,List.take_length]
 have hd1:decide ((k:Int)<(b.length:Int))=true:=by simp;omega
 have hA:k % 32=0→fE (b.take k)=eO (b.take k)++[0]:=fun h=>by unfold fE;rw [htk,if_pos h]
 have hA':k % 32≠0→fE (b.take k)=eO (b.take k):=fun h=>by unfold fE;rw [htk,if_neg h]
 have hlt32:k / 32<(fE (b.take k)).length:=by have:=BG (b.take k);rwa [htk] at this
 have hAb:=SX (b.take k) (fun x hx=>hb x (List.take_subset _ _ hx))
 rw [htk,List.getD_eq_getElem?_getD,List.getElem?_eq_getElem hlt32,Option.getD_some] at hAb
 have hAl:(fE (b.take k)).length≤100:=by
  by_cases hm:k % 32=0
  ·rw [hA hm,List.length_append];simp;omega
  ·rw [hA' hm];omega
 have hget:=SY hlt32
 have htk1:b.take (k+1)=b.take k++[b[k]]:=List.take_succ_eq_append_getElem hlt
 have hbk:=PF hlt
 have hor:bits .or .u32 (fE (b.take k))[k / 32] (IntKind.u32.wrap (1*2 ^ (min (k % 32) IntKind.u32.bits)))=(fE (b.take k))[k / 32]+2 ^ (k % 32):=by
  have h32:k % 32<32:=Nat.mod_lt _ (by decide)
  have e1:min (k % 32) IntKind.u32.bits=k % 32:=Nat.min_eq_left (by simp [IntKind.bits];omega)
  rw [e1,Int.one_mul,TN (Int.le_of_lt (Int.pow_pos (by decide))) (by
   have:(2:Nat) ^ (k % 32)≤2 ^ 31:=Nat.pow_le_pow_right (by decide) (by omega)
   have e2:((2:Int) ^ (k % 32))=((2 ^ (k % 32):Nat):Int):=by simp
   rw [e2];omega)]
  exact WV _ _ h32 hAb.1 hAb.2
 rcases hI with ⟨hk0,rfl⟩|⟨hk0,rfl⟩
 ·have hm:k % 32=0:=by omega
  have he0:(((k % 32:Nat):Int) == 0)=true:=by simp [hm]
  have hA0:fE (b.take k)=[0]:=by rw [hA hm,hk0,List.take_zero,mK];rfl
  repeat (first|(apply fw;focus ((with_reducible constructor)<;>constructor))|((first|with_reducible refine ga _ rfl fun Y y=>?_|apply ri);simp only [zb,seval,w93,dI,htm,he0,hd1];refine fz y ?_;clear y Y))
  repeat (first|(apply fw;focus ((with_reducible constructor)<;>constructor))|((first|with_reducible refine ga _ rfl fun Y y=>?_|apply ri);simp only [zb,seval,w93,dI,htm,he0];refine fz y ?_;clear y Y))
  repeat (first|(apply fw;focus ((with_reducible constructor)<;>constructor))|((first|with_reducible refine ga _ rfl fun Y y=>?_|apply ri);simp only [zb,seval,w93,dI,htm,he0];refine fz y ?_;clear y Y))
  refine WpA.le (st':=⟨[(5,.one (.v (.int .i64 k))),(4,.one (.ptr 2 1 0 0)),(1,.one (.ptr 0 1 0 0)),(2,.one (.ptr 1 1 0 0)),(3,.one (.v (.int .i64 0)))],[some ⟨136,2,[[.v (.bool neg),.sl 1 (pE b)]]⟩,some ⟨25,2,[[.v (.bool false),.v (.slice none 0 0)]]⟩,some ⟨25,2,[[.v (.bool neg),.ms 4 (fE (b.take k)).length]]⟩,some ⟨96,1,[[.v (.int .u32 0)]]⟩,some ⟨96,1,nI (fE (b.take k))⟩]⟩) (Le.drop 5 (Nat.zero_le _) (by rw [hA0];rfl) (by simp [Sub,find]) rfl (by simp [ObBd,C.bd];exact hmbd _ _)) ?_
  repeat (first|(apply fw;focus ((with_reducible constructor)<;>constructor))|((first|with_reducible refine ga _ rfl fun Y y=>?_|apply ri);simp only [zb,seval,w93,dI,hbk];refine fz y ?_;clear y Y))
  refine WpA.cond rfl (fun hc=>?_) (fun hc=>?_)
  ·have hb1:b[k]=1:=by simpa using hc
   (refine WpA.draw0 15 _ _ _ rfl rfl rfl (by kernel_rfl) (by kernel_rfl) (by kernel_rfl) fun K8 hK8=>?_);simp only [zz] at hK8 ⊢;(refine Draw0.go fun K7 k=>?_);simp only [zb,seval,w93,jH,htd,htm,hget,hor,hw2];(refine qz (k _ _ ?_));clear k K7;(try ((refine Draw0.nil (hK8 _ ?_));clear hK8 K8;(refine WpL.go _ rfl fun Y y=>?_);repeat (first|(apply fw;focus ((with_reducible constructor)<;>constructor))|((first|with_reducible refine ga _ rfl fun Y y=>?_|apply ri);simp only [zb,seval,w93,jH,htd,htm,hget,hor,hw2];refine fz y ?_;clear y Y))))
   have hnew:eO (b.take (k+1))=(fE (b.take k)).set (k / 32) ((fE (b.take k))[k / 32]+2 ^ (k % 32)):=by
    rw [htk1,sQ,hb1,htk,List.getD_eq_getElem?_getD,List.getElem?_eq_getElem hlt32,Int.one_mul];rfl
   refine⟨b.length-(k+1),_,by omega,Le.drop 5 (Nat.zero_le _) ?_ (by simp [Sub,find]) rfl (by simp [ObBd,C.bd];exact hmbd _ _),k+1,rfl,by omega,.inr ⟨by omega,rfl⟩⟩
   simp [hnew,nI]
  ·have hb0:b[k]=0:=by
    rcases hb b[k] (List.getElem_mem _) with h|h
    ·exact h
    ·rw [h] at hc;cases hc
   repeat (first|(apply fw;focus ((with_reducible constructor)<;>constructor))|((first|with_reducible refine ga _ rfl fun Y y=>?_|apply ri);simp only [zb,seval,w93,hw2];refine fz y ?_;clear y Y))
   have hnew:eO (b.take (k+1))=fE (b.take k):=by rw [htk1,hb0,uG]
   refine⟨b.length-(k+1),_,by omega,Le.drop 5 (Nat.zero_le _) ?_ (by simp [Sub,find]) rfl (by simp [ObBd,C.bd];exact hmbd _ _),k+1,rfl,by omega,.inr ⟨by omega,rfl⟩⟩
   simp [hnew]
 by_cases hm:k % 32=0
 ·have he0:(((k % 32:Nat):Int) == 0)=true:=by simp [hm]
  repeat (first|(apply fw;focus ((with_reducible constructor)<;>constructor))|((first|with_reducible refine ga _ rfl fun Y y=>?_|apply ri);simp only [zb,seval,w93,dI,htm,he0,hd1];refine fz y ?_;clear y Y))
  repeat (first|(apply fw;focus ((with_reducible constructor)<;>constructor))|((first|with_reducible refine ga _ rfl fun Y y=>?_|apply ri);simp only [zb,seval,w93,dI,htm,he0];refine fz y ?_;clear y Y))
  repeat (first|(apply fw;focus ((with_reducible constructor)<;>constructor))|((first|with_reducible refine ga _ rfl fun Y y=>?_|apply ri);simp only [zb,seval,w93,dI,htm,he0,jH];refine fz y ?_;clear y Y))
  refine WpA.le (st':=⟨[(5,.one (.v (.int .i64 k))),(4,.one (.ptr 2 1 0 0)),(1,.one (.ptr 0 1 0 0)),(2,.one (.ptr 1 1 0 0)),(3,.one (.v (.int .i64 0)))],[some ⟨136,2,[[.v (.bool neg),.sl 1 (pE b)]]⟩,some ⟨25,2,[[.v (.bool false),.v (.slice none 0 0)]]⟩,some ⟨25,2,[[.v (.bool neg),.ms 4 (fE (b.take k)).length]]⟩,some ⟨96,1,[[.v (.int .u32 0)]]⟩,some ⟨96,1,nI (fE (b.take k))⟩]⟩) (Le.drop 5 (Nat.zero_le _) (by simp [hA hm,nI]) (by simp [Sub,find]) rfl (by simp [ObBd,C.bd];exact hmbd _ _)) ?_
  repeat (first|(apply fw;focus ((with_reducible constructor)<;>constructor))|((first|with_reducible refine ga _ rfl fun Y y=>?_|apply ri);simp only [zb,seval,w93,dI,hbk];refine fz y ?_;clear y Y))
  refine WpA.cond rfl (fun hc=>?_) (fun hc=>?_)
  ·have hb1:b[k]=1:=by simpa using hc
   (refine WpA.draw0 15 _ _ _ rfl rfl rfl (by kernel_rfl) (by kernel_rfl) (by kernel_rfl) fun K8 hK8=>?_);simp only [zz] at hK8 ⊢;(refine Draw0.go fun K7 k=>?_);simp only [zb,seval,w93,jH,htd,htm,hget,hor,hw2];(refine qz (k _ _ ?_));clear k K7;(try ((refine Draw0.nil (hK8 _ ?_));clear hK8 K8;(refine WpL.go _ rfl fun Y y=>?_);repeat (first|(apply fw;focus ((with_reducible constructor)<;>constructor))|((first|with_reducible refine ga _ rfl fun Y y=>?_|apply ri);simp only [zb,seval,w93,jH,htd,htm,hget,hor,hw2];refine fz y ?_;clear y Y))))
   have hnew:eO (b.take (k+1))=(fE (b.take k)).set (k / 32) ((fE (b.take k))[k / 32]+2 ^ (k % 32)):=by
    rw [htk1,sQ,hb1,htk,List.getD_eq_getElem?_getD,List.getElem?_eq_getElem hlt32,Int.one_mul];rfl
   refine⟨b.length-(k+1),_,by omega,Le.drop 5 (Nat.zero_le _) ?_ (by simp [Sub,find]) rfl (by simp [ObBd,C.bd];exact hmbd _ _),k+1,rfl,by omega,.inr ⟨by omega,rfl⟩⟩
   simp [hnew,nI]
  ·have hb0:b[k]=0:=by
    rcases hb b[k] (List.getElem_mem _) with h|h
    ·exact h
    ·rw [h] at hc;cases hc
   repeat (first|(apply fw;focus ((with_reducible constructor)<;>constructor))|((first|with_reducible refine ga _ rfl fun Y y=>?_|apply ri);simp only [zb,seval,w93,hw2];refine fz y ?_;clear y Y))
   have hnew:eO (b.take (k+1))=fE (b.take k):=by rw [htk1,hb0,uG]
   refine⟨b.length-(k+1),_,by omega,Le.drop 5 (Nat.zero_le _) ?_ (by simp [Sub,find]) rfl (by simp [ObBd,C.bd];exact hmbd _ _),k+1,rfl,by omega,.inr ⟨by omega,rfl⟩⟩
   simp [hnew]
 ·have he0:(((k % 32:Nat):Int) == 0)=false:=by simp;omega
  repeat (first|(apply fw;focus ((with_reducible constructor)<;>constructor))|((first|with_reducible refine ga _ rfl fun Y y=>?_|apply ri);simp only [zb,seval,w93,dI,htm,he0,hd1];refine fz y ?_;clear y Y))
  repeat (first|(apply fw;focus ((with_reducible constructor)<;>constructor))|((first|with_reducible refine ga _ rfl fun Y y=>?_|apply ri);simp only [zb,seval,w93,dI,htm,he0];refine fz y ?_;clear y Y))
  repeat (first|(with_reducible refine uX ?_)|(with_reducible refine WpA.skip ?_)|(with_reducible refine WpA.seq ?_))
  refine WpA.le (st':=⟨[(5,.one (.v (.int .i64 k))),(4,.one (.ptr 2 1 0 0)),(1,.one (.ptr 0 1 0 0)),(2,.one (.ptr 1 1 0 0)),(3,.one (.v (.int .i64 0)))],[some ⟨136,2,[[.v (.bool neg),.sl 1 (pE b)]]⟩,some ⟨25,2,[[.v (.bool false),.v (.slice none 0 0)]]⟩,some ⟨25,2,[[.v (.bool neg),.ms 4 (fE (b.take k)).length]]⟩,some ⟨96,1,[[.v (.int .u32 0)]]⟩,some ⟨96,1,nI (fE (b.take k))⟩]⟩) (Le.drop 5 (Nat.zero_le _) (by simp [hA' hm]) (by simp [Sub,find]) rfl (by simp [ObBd,C.bd];exact hmbd _ _)) ?_
  repeat (first|(apply fw;focus ((with_reducible constructor)<;>constructor))|((first|with_reducible refine ga _ rfl fun Y y=>?_|apply ri);simp only [zb,seval,w93,dI,hbk];refine fz y ?_;clear y Y))
  refine WpA.cond rfl (fun hc=>?_) (fun hc=>?_)
  ·have hb1:b[k]=1:=by simpa using hc
   (refine WpA.draw0 15 _ _ _ rfl rfl rfl (by kernel_rfl) (by kernel_rfl) (by kernel_rfl) fun K8 hK8=>?_);simp only [zz] at hK8 ⊢;(refine Draw0.go fun K7 k=>?_);simp only [zb,seval,w93,jH,htd,htm,hget,hor,hw2];(refine qz (k _ _ ?_));clear k K7;(try ((refine Draw0.nil (hK8 _ ?_));clear hK8 K8;(refine WpL.go _ rfl fun Y y=>?_);repeat (first|(apply fw;focus ((with_reducible constructor)<;>constructor))|((first|with_reducible refine ga _ rfl fun Y y=>?_|apply ri);simp only [zb,seval,w93,jH,htd,htm,hget,hor,hw2];refine fz y ?_;clear y Y))))
   have hnew:eO (b.take (k+1))=(fE (b.take k)).set (k / 32) ((fE (b.take k))[k / 32]+2 ^ (k % 32)):=by
    rw [htk1,sQ,hb1,htk,List.getD_eq_getElem?_getD,List.getElem?_eq_getElem hlt32,Int.one_mul];rfl
   refine⟨b.length-(k+1),_,by omega,Le.drop 5 (Nat.zero_le _) ?_ (by simp [Sub,find]) rfl (by simp [ObBd,C.bd];exact hmbd _ _),k+1,rfl,by omega,.inr ⟨by omega,rfl⟩⟩
   simp [hnew,nI]
  ·have hb0:b[k]=0:=by
    rcases hb b[k] (List.getElem_mem _) with h|h
    ·exact h
    ·rw [h] at hc;cases hc
   repeat (first|(apply fw;focus ((with_reducible constructor)<;>constructor))|((first|with_reducible refine ga _ rfl fun Y y=>?_|apply ri);simp only [zb,seval,w93,hw2];refine fz y ?_;clear y Y))
   have hnew:eO (b.take (k+1))=fE (b.take k):=by rw [htk1,hb0,uG]
   refine⟨b.length-(k+1),_,by omega,Le.drop 5 (Nat.zero_le _) ?_ (by simp [Sub,find]) rfl (by simp [ObBd,C.bd];exact hmbd _ _),k+1,rfl,by omega,.inr ⟨by omega,rfl⟩⟩
   simp [hnew]
theorem IsMag.cc {r:World} {l:List Int} {v:Value} (h:IsMag r l v):Cc ⟨r,[]⟩ (.sl 1 (nI l)) v:=Rd.sl_cc (fun x _ cs hx=>by simp only [Rd] at hx;subst hx;simp [Ccs,Cc,Value.oneCell']) (fun _=>rfl) h
theorem Cc.isMag {r:World} {l:List Int} {v:Value} (h:Cc ⟨r,[]⟩ (.sl 1 (nI l)) v):IsMag r l v:=Cc.sl_rd (f:=fun n=>V.val (.int .u32 n)) (fun x _ cs hx=>by simp only [Ccs,Cc] at hx;obtain⟨_,_,rfl,hx,rfl⟩:=hx;simp only [Rd];rw [hx.1]) h
theorem IsBy.cc {r:World} {l:List Int} {v:Value} (h:IsBy r l v):Cc ⟨r,[]⟩ (.sl 1 (pE l)) v:=Rd.sl_cc (fun x _ cs hx=>by simp only [Rd] at hx;subst hx;simp [Ccs,Cc,Value.oneCell']) (fun _=>rfl) h
theorem LV {X:Cx} {neg:Bool} {l:List Int} {v:Value} (h:Ca ⟨X.r,[]⟩ (.agg [.v (.bool neg),.sl 1 (nI l)]) v):∃u,v=.agg #[.bool neg,u]∧IsMag X.r l u:=by
 simp only [Ca,Ccs] at h
 obtain⟨us,rfl,_,_,rfl,h1,u,_,rfl,h2,rfl⟩:=h
 simp only [Cc] at h1
 rw [h1.1]
 exact⟨u,rfl,h2.isMag⟩
theorem BH (neg:Bool) (l:List Int) (hl:tF l) (hlen:l.length≤1000000):Pure Tryz.prog 94 [.agg [.v (.bool neg),.sl 1 (nI l)]] (.agg [.v (.bool (neg&&decide (0<(cC (eW l)).length))),.sl 1 (pE (cC (eW l)))]):=by
 refine mP fun w vs hg hv=>?_
 obtain⟨v,rfl,hv1⟩:=hv.one1
 obtain⟨u,rfl,hu⟩:=LV (X:=⟨w,[]⟩) hv1
 refine (LS neg l w u hl hlen hu).mono fun e w' ⟨v',he,hx,hr⟩=>⟨_,he,hx,?_⟩
 simp only [Ca,Ccs]
 exact⟨[_,v'],rfl,_,_,rfl,by simp [Cc,Value.oneCell'],v',_,rfl,hr.cc,rfl⟩
theorem FK (n1 n2:Bool) (l m:List Int):Pure Tryz.prog 46 [.agg [.v (.bool n1),.sl 1 (nI l)],.agg [.v (.bool n2),.sl 1 (nI m)]] (.one (.v (.bool (eqB (n1,l) (n2,m))))):=by
 refine fB rfl fun w vs hg hv=>?_
 obtain⟨v,u,rfl,hv1,hu1⟩:=hv.two
 obtain⟨v',rfl,hv'⟩:=LV (X:=⟨w,[]⟩) hv1
 obtain⟨u',rfl,hu'⟩:=LV (X:=⟨w,[]⟩) hu1
 exact xJ n1 n2 l m w v' u' hv' hu'
theorem US (neg:Bool) (b:List Int) (hlen:1536<b.length) (hmax:b.length≤1000000000):Pure Tryz.prog 93 [.agg [.v (.bool neg),.sl 1 (pE b)]] (.tup [.agg [.v (.bool false),.sl 1 (nI [])],.one (.v (.int .i64 6))]):=by
 refine fi Tryz.func93 Tryz.ntmps93 Tryz.results93 ?_
 repeat (first|(apply fw;focus ((with_reducible constructor)<;>constructor))|((first|with_reducible refine ga _ rfl fun Y y=>?_|apply ri);simp only [zb,seval,w93,dI];refine fz y ?_;clear y Y))
 refine WpA.cond rfl (fun hc=>?_) (fun hc=>?_)
 case refine_2=>simp at hc;omega
 repeat (first|(apply fw;focus ((with_reducible constructor)<;>constructor))|((first|with_reducible refine ga _ rfl fun Y y=>?_|apply ri);simp only [zb,seval,w93,dI];refine fz y ?_;clear y Y))
 refine yl (by simp only [zb,seval,w93];rfl) (by simp only [zv];rfl) (ALe.tup (.cons (ALe.agg (.cons (.nil (.refl _)))) (.refl _))) rfl
theorem tH (l:List Int) (hl:tF l):(cC l).length=((cC (eW l)).length+31) / 32:=by
 rw [←BD l hl,iT]
theorem FL (l:List Int):cC l=l↔(cC l).length=l.length:=by
 constructor
 ·intro h;rw [h]
 ·intro h
  obtain⟨n,hn⟩:=rV l
  have:n=0:=by have:=congrArg List.length hn;simp at this;omega
  subst this
  simpa using hn.symm
theorem LW (neg:Bool) (l:List Int) (hl:tF l) (h:1536<(cC (eW l)).length):kN neg l=false:=by
 have h1:=tH l hl
 have h2:¬(l.length≤48∧(cC l).length=l.length):=by omega
 unfold kN
 cases hb:decide (l.length≤48)&&decide ((cC l).length=l.length) with
 | false=>rfl
 | true=>simp only [Bool.and_eq_true,decide_eq_true_eq] at hb;exact absurd hb h2
theorem JI (neg:Bool) (l:List Int) (hl:tF l) (h:(cC (eW l)).length≤1536):kN neg l=eqB (neg&&decide (0<(cC (eW l)).length),eO (cC (eW l))) (neg,l):=by
 have h1:=tH l hl
 rw [BD l hl]
 by_cases ht:cC l=l
 ·have hlen:(cC l).length=l.length:=by rw [ht]
  have h48:l.length≤48:=by omega
  have e:kN neg l=(!neg||decide (0<l.length)):=by simp [kN,hlen,h48]
  rw [e,ht]
  have hp:decide (0<(cC (eW l)).length)=decide (0<l.length):=by congr 1;apply propext;omega
  rw [hp]
  cases neg with
  | false=>rw [aY (by simp)];rfl
  | true =>
   cases hd:decide (0<l.length) with
   | false=>rw [aA (by simp)];rfl
   | true=>rw [aY (by simp)];rfl
 ·rw [aA (fun h=>ht (congrArg Prod.snd h))]
  have:¬(cC l).length=l.length:=fun h=>ht ((FL l).2 h)
  simp [kN,this]
theorem UT (l:List Int):JH (cC (eW l)):=fun x hx=>by
 have:x∈eW l:=by
  obtain⟨n,hn⟩:=rV (eW l)
  rw [hn];exact List.mem_append_left _ hx
 simp only [eW,List.mem_flatMap] at this
 obtain⟨m,_,hm⟩:=this
 simp only [gU,List.mem_map] at hm
 obtain⟨k,_,rfl⟩:=hm
 generalize m / 2 ^ k=y
 omega
theorem FM (neg:Bool) (l:List Int) (hl:tF l) (hlen:l.length≤1000000):Pure Tryz.prog 65 [.agg [.v (.bool neg),.sl 1 (nI l)]] (.one (.v (.bool (kN neg l)))):=by
 have hbl:(cC (eW l)).length≤32000000:=by have:=qL (eW l);rw [qI] at this;omega
 by_cases hs:(cC (eW l)).length≤1536
 ·rw [JI neg l hl hs]
  refine fi Tryz.func65 Tryz.ntmps65 Tryz.results65 ?_
  repeat (first|(apply fw;focus ((with_reducible constructor)<;>constructor))|((first|with_reducible refine ga _ rfl fun Y y=>?_|apply ri);simp only [zb,seval,w65];refine fz y ?_;clear y Y))
  refine cz (BH neg l hl hlen) ?_
  (refine WpL.go _ rfl fun Y y=>?_);repeat (first|(apply fw;focus ((with_reducible constructor)<;>constructor))|((first|with_reducible refine ga _ rfl fun Y y=>?_|apply ri);simp only [zb,seval,w65];refine fz y ?_;clear y Y))
  refine cz (SZ _ _ (UT l) hs) ?_
  (refine WpL.go _ rfl fun Y y=>?_);repeat (first|(apply fw;focus ((with_reducible constructor)<;>constructor))|((first|with_reducible refine ga _ rfl fun Y y=>?_|apply ri);simp only [zb,seval,w65];refine fz y ?_;clear y Y))
  refine cz (FK _ _ _ _) ?_
  (refine WpL.go _ rfl fun Y y=>?_);repeat (first|(apply fw;focus ((with_reducible constructor)<;>constructor))|((first|with_reducible refine ga _ rfl fun Y y=>?_|apply ri);simp only [zb,seval,w65];refine fz y ?_;clear y Y))
  refine ye (by simp only [zb,seval,w65];rfl) (by simp only [zv];rfl) ?_
  rfl
 ·rw [LW neg l hl (by omega)]
  refine fi Tryz.func65 Tryz.ntmps65 Tryz.results65 ?_
  repeat (first|(apply fw;focus ((with_reducible constructor)<;>constructor))|((first|with_reducible refine ga _ rfl fun Y y=>?_|apply ri);simp only [zb,seval,w65];refine fz y ?_;clear y Y))
  refine cz (BH neg l hl hlen) ?_
  (refine WpL.go _ rfl fun Y y=>?_);repeat (first|(apply fw;focus ((with_reducible constructor)<;>constructor))|((first|with_reducible refine ga _ rfl fun Y y=>?_|apply ri);simp only [zb,seval,w65];refine fz y ?_;clear y Y))
  refine cz (US (neg&&decide (0<(cC (eW l)).length)) (cC (eW l)) (by omega) (by omega)) ?_
  (refine WpL.go _ rfl fun Y y=>?_);repeat (first|(apply fw;focus ((with_reducible constructor)<;>constructor))|((first|with_reducible refine ga _ rfl fun Y y=>?_|apply ri);simp only [zb,seval,w65];refine fz y ?_;clear y Y))
  refine ye (by simp only [zb,seval,w65];rfl) (by simp only [zv];rfl) ?_
  rfl
end Go.Proofs.YtaeioidifpebdaaGreatDoor
end
section
namespace Go.Proofs.YtaeioidifpebdaaGreatDoor
open Go.RowKit
set_option linter.unusedSimpArgs false
set_option linter.unusedVariables false
set_option maxHeartbeats 4000000 in
theorem PG (d:D) (w:World) (v:Value) (h:IsD w d v):Calls Tryz.prog 63 #[v,.int .i64 0] w fun e w'=>e=.returned (.bool (eF false false false false d))∧Ext w w':=by
 obtain⟨am,cm,al,cl,rfl,-,-,-,hm,-,hl⟩:=h.open
 unfold maxLen at hm hl
 clear h
 have hx0:=(Ext.refl w).alloc (.cells #[.int .i64 d.k,.int .i32 d.c,.bool d.neg,.slice am d.mag.length cm,.string d.t,.slice al d.l.length cl] 28)
 have e1:(d.c == 0)=decide (d.c=0):=by rfl
 have e3:=CB d.mag.length
 have e4:=SV d.t
 have e5:=CB d.l.length
 have b1:(bits BinOp.and IntKind.i64 1 1 != 0)=true:=by decide
 have b2:(bits BinOp.and IntKind.i64 2 2 != 0)=true:=by decide
 have b4:(bits BinOp.and IntKind.i64 4 4 != 0)=true:=by decide
 have b8:(bits BinOp.and IntKind.i64 8 8 != 0)=true:=by decide
 unfold eF
 generalize decide (d.c=0)=c1 at *
 generalize decide (d.mag.length=0)=c3 at *
 generalize decide (d.t.size=0)=c4 at *
 generalize decide (d.l.length=0)=c5 at *
 generalize d.neg=c2 at *
 cases c1
 case false =>
  skip
  all_goals (go_enter Tryz.func63,Tryz.ntmps63;go_wp2_with fail;go_ret;exact⟨aG (by simp),hx0⟩)
 cases c2
 case true =>
  skip
  all_goals (go_enter Tryz.func63,Tryz.ntmps63;go_wp2_with fail;go_ret;exact⟨aG (by simp),hx0⟩)
 cases c3
 case false =>
  skip
  all_goals (go_enter Tryz.func63,Tryz.ntmps63;go_wp2_with fail;go_ret;exact⟨aG (by simp),hx0⟩)
 cases c4
 all_goals (go_enter Tryz.func63,Tryz.ntmps63;go_wp2_with fail;go_ret;exact⟨aG (by simp),hx0⟩)
set_option maxHeartbeats 4000000 in
theorem PH (d:D) (w:World) (v:Value) (h:IsD w d v):Calls Tryz.prog 63 #[v,.int .i64 1] w fun e w'=>e=.returned (.bool (eF true false false false d))∧Ext w w':=by
 obtain⟨am,cm,al,cl,rfl,-,-,-,hm,-,hl⟩:=h.open
 unfold maxLen at hm hl
 clear h
 have hx0:=(Ext.refl w).alloc (.cells #[.int .i64 d.k,.int .i32 d.c,.bool d.neg,.slice am d.mag.length cm,.string d.t,.slice al d.l.length cl] 28)
 have e1:(d.c == 0)=decide (d.c=0):=by rfl
 have e3:=CB d.mag.length
 have e4:=SV d.t
 have e5:=CB d.l.length
 have b1:(bits BinOp.and IntKind.i64 1 1 != 0)=true:=by decide
 have b2:(bits BinOp.and IntKind.i64 2 2 != 0)=true:=by decide
 have b4:(bits BinOp.and IntKind.i64 4 4 != 0)=true:=by decide
 have b8:(bits BinOp.and IntKind.i64 8 8 != 0)=true:=by decide
 unfold eF
 generalize decide (d.c=0)=c1 at *
 generalize decide (d.mag.length=0)=c3 at *
 generalize decide (d.t.size=0)=c4 at *
 generalize decide (d.l.length=0)=c5 at *
 generalize d.neg=c2 at *
 cases c1
 case false =>
  cases c2<;>cases c3<;>cases c4
  all_goals (go_enter Tryz.func63,Tryz.ntmps63;go_wp2_with fail;go_ret;exact⟨aG (by simp),hx0⟩)
 cases c2
 case true =>
  skip
  all_goals (go_enter Tryz.func63,Tryz.ntmps63;go_wp2_with fail;go_ret;exact⟨aG (by simp),hx0⟩)
 cases c3
 case false =>
  skip
  all_goals (go_enter Tryz.func63,Tryz.ntmps63;go_wp2_with fail;go_ret;exact⟨aG (by simp),hx0⟩)
 cases c4
 all_goals (go_enter Tryz.func63,Tryz.ntmps63;go_wp2_with fail;go_ret;exact⟨aG (by simp),hx0⟩)
set_option maxHeartbeats 4000000 in
theorem PI (d:D) (w:World) (v:Value) (h:IsD w d v):Calls Tryz.prog 63 #[v,.int .i64 2] w fun e w'=>e=.returned (.bool (eF false true false false d))∧Ext w w':=by
 obtain⟨am,cm,al,cl,rfl,-,-,-,hm,-,hl⟩:=h.open
 unfold maxLen at hm hl
 clear h
 have hx0:=(Ext.refl w).alloc (.cells #[.int .i64 d.k,.int .i32 d.c,.bool d.neg,.slice am d.mag.length cm,.string d.t,.slice al d.l.length cl] 28)
 have e1:(d.c == 0)=decide (d.c=0):=by rfl
 have e3:=CB d.mag.length
 have e4:=SV d.t
 have e5:=CB d.l.length
 have b1:(bits BinOp.and IntKind.i64 1 1 != 0)=true:=by decide
 have b2:(bits BinOp.and IntKind.i64 2 2 != 0)=true:=by decide
 have b4:(bits BinOp.and IntKind.i64 4 4 != 0)=true:=by decide
 have b8:(bits BinOp.and IntKind.i64 8 8 != 0)=true:=by decide
 unfold eF
 generalize decide (d.c=0)=c1 at *
 generalize decide (d.mag.length=0)=c3 at *
 generalize decide (d.t.size=0)=c4 at *
 generalize decide (d.l.length=0)=c5 at *
 generalize d.neg=c2 at *
 cases c1
 case false =>
  skip
  all_goals (go_enter Tryz.func63,Tryz.ntmps63;go_wp2_with fail;go_ret;exact⟨aG (by simp),hx0⟩)
 cases c2
 case true =>
  cases c4
  all_goals (go_enter Tryz.func63,Tryz.ntmps63;go_wp2_with fail;go_ret;exact⟨aG (by simp),hx0⟩)
 cases c3
 case false =>
  cases c4
  all_goals (go_enter Tryz.func63,Tryz.ntmps63;go_wp2_with fail;go_ret;exact⟨aG (by simp),hx0⟩)
 cases c4
 all_goals (go_enter Tryz.func63,Tryz.ntmps63;go_wp2_with fail;go_ret;exact⟨aG (by simp),hx0⟩)
set_option maxHeartbeats 4000000 in
theorem PJ (d:D) (w:World) (v:Value) (h:IsD w d v):Calls Tryz.prog 63 #[v,.int .i64 4] w fun e w'=>e=.returned (.bool (eF false false true false d))∧Ext w w':=by
 obtain⟨am,cm,al,cl,rfl,-,-,-,hm,-,hl⟩:=h.open
 unfold maxLen at hm hl
 clear h
 have hx0:=(Ext.refl w).alloc (.cells #[.int .i64 d.k,.int .i32 d.c,.bool d.neg,.slice am d.mag.length cm,.string d.t,.slice al d.l.length cl] 28)
 have e1:(d.c == 0)=decide (d.c=0):=by rfl
 have e3:=CB d.mag.length
 have e4:=SV d.t
 have e5:=CB d.l.length
 have b1:(bits BinOp.and IntKind.i64 1 1 != 0)=true:=by decide
 have b2:(bits BinOp.and IntKind.i64 2 2 != 0)=true:=by decide
 have b4:(bits BinOp.and IntKind.i64 4 4 != 0)=true:=by decide
 have b8:(bits BinOp.and IntKind.i64 8 8 != 0)=true:=by decide
 unfold eF
 generalize decide (d.c=0)=c1 at *
 generalize decide (d.mag.length=0)=c3 at *
 generalize decide (d.t.size=0)=c4 at *
 generalize decide (d.l.length=0)=c5 at *
 generalize d.neg=c2 at *
 cases c1
 case false =>
  skip
  all_goals (go_enter Tryz.func63,Tryz.ntmps63;go_wp2_with fail;go_ret;exact⟨aG (by simp),hx0⟩)
 cases c2
 case true =>
  skip
  all_goals (go_enter Tryz.func63,Tryz.ntmps63;go_wp2_with fail;go_ret;exact⟨aG (by simp),hx0⟩)
 cases c3
 case false =>
  skip
  all_goals (go_enter Tryz.func63,Tryz.ntmps63;go_wp2_with fail;go_ret;exact⟨aG (by simp),hx0⟩)
 cases c4
 all_goals (go_enter Tryz.func63,Tryz.ntmps63;go_wp2_with fail;go_ret;exact⟨aG (by simp),hx0⟩)
set_option maxHeartbeats 4000000 in
theorem PK (d:D) (w:World) (v:Value) (h:IsD w d v):Calls Tryz.prog 63 #[v,.int .i64 8] w fun e w'=>e=.returned (.bool (eF false false false true d))∧Ext w w':=by
 obtain⟨am,cm,al,cl,rfl,-,-,-,hm,-,hl⟩:=h.open
 unfold maxLen at hm hl
 clear h
 have hx0:=(Ext.refl w).alloc (.cells #[.int .i64 d.k,.int .i32 d.c,.bool d.neg,.slice am d.mag.length cm,.string d.t,.slice al d.l.length cl] 28)
 have e1:(d.c == 0)=decide (d.c=0):=by rfl
 have e3:=CB d.mag.length
 have e4:=SV d.t
 have e5:=CB d.l.length
 have b1:(bits BinOp.and IntKind.i64 1 1 != 0)=true:=by decide
 have b2:(bits BinOp.and IntKind.i64 2 2 != 0)=true:=by decide
 have b4:(bits BinOp.and IntKind.i64 4 4 != 0)=true:=by decide
 have b8:(bits BinOp.and IntKind.i64 8 8 != 0)=true:=by decide
 unfold eF
 generalize decide (d.c=0)=c1 at *
 generalize decide (d.mag.length=0)=c3 at *
 generalize decide (d.t.size=0)=c4 at *
 generalize decide (d.l.length=0)=c5 at *
 generalize d.neg=c2 at *
 cases c1
 case false =>
  skip
  all_goals (go_enter Tryz.func63,Tryz.ntmps63;go_wp2_with fail;go_ret;exact⟨aG (by simp),hx0⟩)
 cases c2
 case true =>
  skip
  all_goals (go_enter Tryz.func63,Tryz.ntmps63;go_wp2_with fail;go_ret;exact⟨aG (by simp),hx0⟩)
 cases c3
 case false =>
  skip
  all_goals (go_enter Tryz.func63,Tryz.ntmps63;go_wp2_with fail;go_ret;exact⟨aG (by simp),hx0⟩)
 cases c4
 all_goals (go_enter Tryz.func63,Tryz.ntmps63;go_wp2_with fail;go_ret;exact⟨aG (by simp),hx0⟩)
def uH (n:Nat):Prop:=∀(d:D) (w:World) (v:Value),d.ht≤n→d.count<1000000000→IsD w d v →
  Calls Tryz.prog 20 #[v] w fun e w'=>e=.returned (.int .i64 d.depth)∧Ext w w'
set_option maxHeartbeats 2000000 in
theorem JJ (n:Nat) (ih:uH n):uH (n+1):=by
 intro d w v hh hb h
 obtain⟨am,cm,al,cl,rfl,hm,hl,-,-,hc1,hc2⟩:=h.open
 unfold maxLen at hc2
 have hhl:∀i (hi:i<d.l.length),d.l[i].ht≤n:=fun i hi=>by have:=D.ht_lt hi;omega
 have HH:=Lib.hid hhl;clear hhl hh
 have he:=d.count_eq
 have hb':gV d.l<1000000000:=by omega
 have HD:=Lib.hid d.depth_eq
 have HE:=Lib.hid he
 clear he h
 go_enter Tryz.func20,Tryz.ntmps20
 go_wp2
 go_loopw [3,4,5] (fun s i _ wr=>∃(k:Nat) (hk:k≤d.l.length),i=.int .i64 k∧s=.int .i64 ((dto d k hk:Nat):Int)∧Ext (w.alloc (.cells #[.int .i64 d.k,.int .i32 d.c,.bool d.neg,.slice am d.mag.length cm,.string d.t,.slice al d.l.length cl] 28)) wr) (fun _ i _ _=>d.l.length-(intOf i).toNat)
 case atStart=>exact⟨0,Nat.zero_le _,rfl,rfl,Ext.refl _⟩
 case round =>
  obtain⟨k,hk,rfl,rfl,hxr⟩:=hrel
  have hx0:Ext w wr:=((Ext.refl _).alloc _).trans hxr
  have f0:wr.cell? ⟨w.heap.size,5,none⟩=some (.slice al d.l.length cl):=hxr.keeps _ _ (by go_simp)
  have f1:wr.cell? ⟨w.heap.size,0,none⟩=some (.int .i64 d.k):=hxr.keeps _ _ (by go_simp)
  by_cases hlt:k<d.l.length
  ·obtain⟨b,o,rfl,hcell⟩:=hl.get k hlt
   obtain⟨am',cm',al',cl',c0,c1,c2,c3,c4,c5,hm',hl'⟩:=hcell.keep hx0.keeps
   have hcnt:=uJ d.l k hlt
   have hdl:=d.l[k].depth_le
   have hs:=pI d k hk
   have hs2:=Lib.hid (yT d k hlt)
   go_wp2_with fail
   refine (ih d.l[k] _ _ (HH.out k hlt) (by omega) (IsD.mk' hm' hl')).mono ?_
   rintro e w2 ⟨rfl,hx2⟩
   have g0:w2.cell? ⟨w.heap.size,5,none⟩=some (.slice (some ⟨b,o,none⟩) d.l.length cl):=hx2.keeps _ _ f0
   have g1:w2.cell? ⟨w.heap.size,0,none⟩=some (.int .i64 d.k):=hx2.keeps _ _ f1
   have g2:w2.cell? ⟨b,o+k*6,none⟩=some (.int .i64 d.l[k].k):=hx2.keeps _ _ c0
   have hx3:=hxr.trans hx2
   have HX2:=Lib.hid hx2;clear hx2
   by_cases h7:d.k=7
   case neg =>
    have e7:(d.k == 7)=false:=by simpa using h7
    have hdt:fW d k hlt=d.l[k].depth+1:=by unfold fW;rw [if_neg (fun h=>h7 h.1)]
    rw [hdt] at hs2
    clear h7 hdt
    go_wp2
    go_roundw
    case rel=>exact⟨k+1,hlt,by go_num,by rw [hs2.out];go_num,hx3⟩
    case measure=>simp [intOf];omega
   have e7:(d.k == 7)=true:=by simpa using h7
   by_cases hlast:k+1<d.l.length
   case pos =>
    have hdt:fW d k hlt=d.l[k].depth+1:=by unfold fW;rw [if_neg (fun h=>by omega)]
    rw [hdt] at hs2
    clear h7 hdt
    have ed:((k:Int) == (d.l.length:Int)-1)=false:=by rw [beq_eq_false_iff_ne];omega
    go_wp2
    go_roundw
    case rel=>exact⟨k+1,hlt,by go_num,by rw [hs2.out];go_num,hx3⟩
    case measure=>simp [intOf];omega
   have ed:((k:Int) == (d.l.length:Int)-1)=true:=by rw [beq_iff_eq];omega
   by_cases hp:d.l[k].k=7
   ·have e9:(d.l[k].k == 7)=true:=by simpa using hp
    have hdt:fW d k hlt=d.l[k].depth:=by unfold fW;rw [if_pos ⟨h7,by omega,hp⟩];rfl
    rw [hdt] at hs2
    clear h7 hdt hp hlast
    go_wp2
    go_roundw
    case rel=>exact⟨k+1,hlt,by go_num,by rw [hs2.out];go_num,hx3⟩
    case measure=>simp [intOf];omega
   ·have e9:(d.l[k].k == 7)=false:=by simpa using hp
    have hdt:fW d k hlt=d.l[k].depth+1:=by unfold fW;rw [if_neg (fun h=>hp h.2.2)]
    rw [hdt] at hs2
    clear h7 hdt hp hlast
    go_wp2
    go_roundw
    case rel=>exact⟨k+1,hlt,by go_num,by rw [hs2.out];go_num,hx3⟩
    case measure=>simp [intOf];omega
  ·have hfin:dto d k hk=dto d d.l.length (Nat.le_refl _):=vV d k hk (by omega)
   have HFIN:=Lib.hid hfin;clear hfin
   by_cases h8:d.k=8
   ·have e8:(d.k == 8)=true:=by simpa using h8
    have HD':=HD.out
    rw [if_pos h8,←HFIN.out] at HD'
    have HD2:=Lib.hid HD';clear HD' h8
    go_wp2
    all_goals go_ret
    all_goals exact⟨yJ (by rw [HD2.out];omega),hx0⟩
   ·have e8:(d.k == 8)=false:=by simpa using h8
    have HD':=HD.out
    rw [if_neg h8,←HFIN.out] at HD'
    have HD2:=Lib.hid HD';clear HD' h8
    go_wp2
    all_goals go_ret
    all_goals exact⟨yJ (by rw [HD2.out];omega),hx0⟩
theorem xQ:∀n,uH n
 | 0=>fun d _ _ h=>absurd h (by cases d;rw [D.ht];omega)
 | n+1=>JJ n (xQ n)
theorem LX (d:D) (w:World) (v:Value) (hb:d.count<1000000000) (h:IsD w d v) :
  Calls Tryz.prog 20 #[v] w fun e w'=>e=.returned (.int .i64 d.depth)∧Ext w w':=xQ d.ht d w v (Nat.le_refl _) hb h
end Go.Proofs.YtaeioidifpebdaaGreatDoor
end
section
namespace Go.Proofs.YtaeioidifpebdaaGreatDoor
open Go Go.RowKit Go.Lib
set_option linter.unusedSimpArgs false
set_option linter.unusedVariables false
set_option maxHeartbeats 4000000
set_option maxRecDepth 100000
def qX (l:List Int):List (List C):=l.map fun c=>[.v (.int .i32 c)]
theorem kL (l:List Int):(qX l).length=l.length:=by simp [qX]
theorem jN (c:Int):Pure Tryz.prog 64 [.one (.v (.int .i32 c))] (.one (.v (.bool (validRune c)))):=by
 refine fB rfl fun w vs hg hv=>?_
 obtain⟨v,rfl,hv1⟩:=hv.one1
 simp only [Ca,Cc] at hv1
 rw [hv1.1]
 exact PD c w
def YS (s:ByteArray) (n:Nat) (st:St):Prop:=∃(i:Nat) (out:List Int) (f:Nat) (M:C) (S:List (Option Ob)),n=s.size-i∧i≤s.size∧s.size-i≤f∧eZ s s.size 0=out++eZ s f i∧out.length≤i∧validD s.data.toList=validD (s.data.toList.drop i) ∧
 ((out=[]∧M=.v (.slice none 0 0)∧S=[])∨(∃c0,M=.ms 1 out.length∧S=[some ⟨21,1,[[.v (.int .i32 c0)]]⟩,some ⟨21,1,qX out⟩])) ∧
 st=⟨[(5,.one (.v (.int .i64 i))),(4,.one M),(0,.one (.v (.string s)))],S⟩
theorem iO (s:ByteArray) (hs:s.size≤1000000000):Pure Tryz.prog 66 [.one (.v (.string s))] (.tup [.one (.sl 1 (qX (if validD s.data.toList then eZ s s.size 0 else []))),.one (.v (.bool (validD s.data.toList)))]):=by
 refine fi Tryz.func66 Tryz.ntmps66 Tryz.results66 ?_
 repeat (first|(apply fw;focus ((with_reducible constructor)<;>constructor))|((first|with_reducible refine ga _ rfl fun Y y=>?_|apply ri);simp only [zb,seval,w66];refine fz y ?_;clear y Y))
 refine WpA.loop (YS s) s.size (Le.drop 0 (Nat.zero_le _) rfl (by simp [Sub,find]) rfl trivial) ⟨0,[],s.size,_,_,rfl,Nat.zero_le _,Nat.le_refl _,rfl,Nat.le_refl _,by simp,.inl ⟨rfl,rfl,rfl⟩,rfl⟩ ?_
 intro n' st hI
 obtain⟨i,out,f,M,S,rfl,hi,hf,hrs,hol,hval,hMS,rfl⟩:=hI
 have hrb:∀l,∀e∈qX l,∀c∈e,C.bd 2 c=true:=fun l e he c hc=>by
  obtain⟨n,_,rfl⟩:=List.mem_map.1 he
  simp at hc;subst hc;rfl
 have hrh:∀l,∀e∈qX l,∀c∈e,C.shut c=true:=fun l e he c hc=>by
  obtain⟨n,_,rfl⟩:=List.mem_map.1 he
  simp at hc;subst hc;rfl
 by_cases hlt:i<s.size
 case neg =>
  have hd0:decide ((i:Int)<(s.size:Int))=false:=by simp;omega
  have hv:validD s.data.toList=true:=by rw [hval,List.drop_of_length_le (by have:s.data.toList.length=s.size:=Array.length_toList;omega)];rfl
  rw [CC s f i (by omega),List.append_nil] at hrs
  rw [hv,if_pos rfl,hrs]
  rcases hMS with ⟨rfl,rfl,rfl⟩|⟨c0,rfl,rfl⟩
  ·repeat (first|(apply fw;focus ((with_reducible constructor)<;>constructor))|((first|with_reducible refine ga _ rfl fun Y y=>?_|apply ri);simp only [zb,seval,w66,hd0];refine fz y ?_;clear y Y))
   repeat (first|(apply fw;focus ((with_reducible constructor)<;>constructor))|((first|with_reducible refine ga _ rfl fun Y y=>?_|apply ri);simp only [zb,seval,w66];refine fz y ?_;clear y Y))
   refine yl (by simp only [zb,seval,w66];rfl) (by simp only [zv];rfl) (ALe.tup (.cons ALe.nil (.refl _))) rfl
  ·repeat (first|(apply fw;focus ((with_reducible constructor)<;>constructor))|((first|with_reducible refine ga _ rfl fun Y y=>?_|apply ri);simp only [zb,seval,w66,hd0];refine fz y ?_;clear y Y))
   repeat (first|(apply fw;focus ((with_reducible constructor)<;>constructor))|((first|with_reducible refine ga _ rfl fun Y y=>?_|apply ri);simp only [zb,seval,w66];refine fz y ?_;clear y Y))
   refine⟨by simp,_,_,_,_,(by simp only [zb,seval,w66];rfl),(by simp),(by simp only [zv];rfl),(by simp [kL];exact hrh _),_,ALe.refl _,?_⟩
   rfl
 have hd1:decide ((i:Int)<(s.size:Int))=true:=by simp;omega
 obtain⟨z0,hz0,e0⟩:=uF hlt
 have hb0:=JG s i
 have hb1:=JG s (i+1)
 have hb2:=JG s (i+2)
 have hb3:=JG s (i+3)
 have hcv0:IntKind.i32.wrap (at_ s i:Int)=at_ s i:=VS (by omega) (by omega)
 have hw1:IntKind.i64.wrap ((i:Int)+1)=((i+1:Nat):Int):=by rw [dA (by omega) (by omega)];omega
 have hw2:IntKind.i64.wrap ((i:Int)+2)=((i+2:Nat):Int):=by rw [dA (by omega) (by omega)];omega
 have hw3:IntKind.i64.wrap ((i:Int)+3)=((i+3:Nat):Int):=by rw [dA (by omega) (by omega)];omega
 have hw4:IntKind.i64.wrap ((i:Int)+4)=((i+4:Nat):Int):=by rw [dA (by omega) (by omega)];omega
 have k1:IntKind.i64.wrap 2=2:=by decide
 have k2:IntKind.i64.wrap 3=3:=by decide
 have k3:IntKind.i64.wrap 4=4:=by decide
 have hfin:∀(c n:Nat),Utf8.decode s i=(c,n)→¬(c=65533∧n=1)→1≤n→i+n≤s.size→∃g,s.size-(i+n)≤g∧eZ s s.size 0=(out++[(c:Int)])++eZ s g (i+n)∧validD s.data.toList=validD (s.data.toList.drop (i+n)):=fun c n hd hb h1 h2=>by
  obtain⟨g,hg1,hg2⟩:=BE s f i hlt hf
  rw [hd] at hg1 hg2
  exact⟨g,hg1,by rw [hrs,hg2];simp,by rw [hval];exact LT hlt hd hb⟩
 by_cases hA:at_ s i<128
 ·have hc1:decide ((at_ s i:Int)<128)=true:=by simp;omega
  have hc2:decide ((s.size:Int)<((i+1:Nat):Int))=false:=by simp;omega
  have hvr:validRune (at_ s i:Int)=true:=by unfold validRune;simp;omega
  have hd:=YM hA
  repeat (first|(apply fw;focus ((with_reducible constructor)<;>constructor))|((first|with_reducible refine ga _ rfl fun Y y=>?_|apply ri);simp only [zb,seval,w66,hd1];refine fz y ?_;clear y Y))
  (refine WpA.draw0 6 _ _ _ rfl rfl rfl (by kernel_rfl) (by kernel_rfl) (by kernel_rfl) fun K8 hK8=>?_);simp only [zz] at hK8 ⊢;(refine Draw0.go fun K7 k=>?_);simp only [zb,seval,w66,hz0,e0,hc1,hc2,hcv0,hw1,hw2,hw3,hw4,k1,k2,k3];(refine qz (k _ _ ?_));clear k K7;(try ((refine Draw0.nil (hK8 _ ?_));clear hK8 K8;(refine WpL.go _ rfl fun Y y=>?_);repeat (first|(apply fw;focus ((with_reducible constructor)<;>constructor))|((first|with_reducible refine ga _ rfl fun Y y=>?_|apply ri);simp only [zb,seval,w66,hz0,e0,hc1,hc2,hcv0,hw1,hw2,hw3,hw4,k1,k2,k3];refine fz y ?_;clear y Y))))
  refine WpA.rounds 4 ?_
  repeat (first|(apply fw;focus ((with_reducible constructor)<;>constructor))|((first|with_reducible refine ga _ rfl fun Y y=>?_|apply ri);simp only [zb,seval,w66,hcv0,hw1,hw2,hw3,hw4,k1,k2,k3];refine fz y ?_;clear y Y))
  refine cz (jN _) ?_
  obtain⟨g,hg1,hg2,hg3⟩:=hfin _ _ hd (by first|(simp;done)|(simp;omega)) (by decide) (by omega)
  rcases hMS with ⟨rfl,rfl,rfl⟩|⟨c0,rfl,rfl⟩
  ·(refine WpL.go _ rfl fun Y y=>?_);repeat (first|(apply fw;focus ((with_reducible constructor)<;>constructor))|((first|with_reducible refine ga _ rfl fun Y y=>?_|apply ri);simp only [zb,seval,w66,hvr,hcv0,hw1,hw2,hw3,hw4,k1,k2,k3];refine fz y ?_;clear y Y))
   refine⟨s.size-(i+1),_,by omega,Le.drop (s':=[some ⟨21,1,[[.v (.int .i32 ((at_ s i:Nat):Int))]]⟩,some ⟨21,1,qX [((at_ s i:Nat):Int)]⟩]) 2 (Nat.zero_le _) rfl ?_ rfl ?_,i+1,[((at_ s i:Nat):Int)],g,.ms 1 1,_,rfl,(by omega),hg1,hg2,(by first|(simp;done)|(simp;omega)),hg3,.inr ⟨_,rfl,rfl⟩,rfl⟩
   ·simp [Sub,find]
   ·simp [ObBd,C.bd];exact hrb _
  ·(refine WpL.go _ rfl fun Y y=>?_);repeat (first|(apply fw;focus ((with_reducible constructor)<;>constructor))|((first|with_reducible refine ga _ rfl fun Y y=>?_|apply ri);simp only [zb,seval,w66,hvr,kL,hcv0,hw1,hw2,hw3,hw4,k1,k2,k3];refine fz y ?_;clear y Y))
   refine⟨s.size-(i+1),_,by omega,Le.drop (s':=[some ⟨21,1,[[.v (.int .i32 c0)]]⟩,some ⟨21,1,qX (out++[((at_ s i:Nat):Int)])⟩]) 2 (Nat.zero_le _) ?_ ?_ rfl ?_,i+1,out++[((at_ s i:Nat):Int)],g,.ms 1 (out++[((at_ s i:Nat):Int)]).length,_,rfl,(by omega),hg1,hg2,(by first|(simp;done)|(simp;omega)),hg3,.inr ⟨c0,rfl,rfl⟩,rfl⟩
   ·simp [qX]
   ·simp [Sub,find]
   ·simp [ObBd,C.bd];exact hrb _
 have hc1:decide ((at_ s i:Int)<128)=false:=by simp;omega
 have lo1:=FJ (at_ s (i+1)) hb1
 have lo2:=FJ (at_ s (i+2)) hb2
 have lo3:=FJ (at_ s (i+3)) hb3
 have q1t:at_ s (i+1) / 64=2→(bits .and .u8 (at_ s (i+1):Int) 192 != 128)=false:=fun h=>by rw [pD _ hb1];simp [h]
 have q1f:¬at_ s (i+1) / 64=2→(bits .and .u8 (at_ s (i+1):Int) 192 != 128)=true:=fun h=>by rw [pD _ hb1];simp [h]
 have q2t:at_ s (i+2) / 64=2→(bits .and .u8 (at_ s (i+2):Int) 192 != 128)=false:=fun h=>by rw [pD _ hb2];simp [h]
 have q2f:¬at_ s (i+2) / 64=2→(bits .and .u8 (at_ s (i+2):Int) 192 != 128)=true:=fun h=>by rw [pD _ hb2];simp [h]
 have q3t:at_ s (i+3) / 64=2→(bits .and .u8 (at_ s (i+3):Int) 192 != 128)=false:=fun h=>by rw [pD _ hb3];simp [h]
 have q3f:¬at_ s (i+3) / 64=2→(bits .and .u8 (at_ s (i+3):Int) 192 != 128)=true:=fun h=>by rw [pD _ hb3];simp [h]
 by_cases hE:at_ s i<194∨245≤at_ s i
 ·have hbad:=YQ (s:=s) (i:=i) (by omega)
  have d1:decide ((194:Int)≤at_ s i)=decide (245≤at_ s i):=by
   by_cases h:245≤at_ s i
   ·rw [decide_eq_true h];simp;omega
   ·rw [decide_eq_false h];simp;omega
  have d2:245≤at_ s i→decide ((at_ s i:Int)<224)=false:=fun h=>by simp;omega
  have d3:decide ((224:Int)≤at_ s i)=decide (245≤at_ s i):=by
   by_cases h:245≤at_ s i
   ·rw [decide_eq_true h];simp;omega
   ·rw [decide_eq_false h];simp;omega
  have d4:245≤at_ s i→decide ((at_ s i:Int)<240)=false:=fun h=>by simp;omega
  have d5:decide ((240:Int)≤at_ s i)=decide (245≤at_ s i):=by
   by_cases h:245≤at_ s i
   ·rw [decide_eq_true h];simp;omega
   ·rw [decide_eq_false h];simp;omega
  have d6:245≤at_ s i→decide ((at_ s i:Int)<245)=false:=fun h=>by simp;omega
  by_cases h:245≤at_ s i
  ·have d2:=d2 h;have d4:=d4 h;have d6:=d6 h
   have d0:=decide_eq_true h
   repeat (first|(apply fw;focus ((with_reducible constructor)<;>constructor))|((first|with_reducible refine ga _ rfl fun Y y=>?_|apply ri);simp only [zb,seval,w66,hd1];refine fz y ?_;clear y Y))
   (refine WpA.draw0 6 _ _ _ rfl rfl rfl (by kernel_rfl) (by kernel_rfl) (by kernel_rfl) fun K8 hK8=>?_);simp only [zz] at hK8 ⊢;(refine Draw0.go fun K7 k=>?_);simp only [zb,seval,w66,hz0,e0,hc1,d0,d1,d2,d3,d4,d5,d6,hcv0,hw1,hw2,hw3,hw4,k1,k2,k3];(refine qz (k _ _ ?_));clear k K7;(try ((refine Draw0.nil (hK8 _ ?_));clear hK8 K8;(refine WpL.go _ rfl fun Y y=>?_);repeat (first|(apply fw;focus ((with_reducible constructor)<;>constructor))|((first|with_reducible refine ga _ rfl fun Y y=>?_|apply ri);simp only [zb,seval,w66,hz0,e0,hc1,d0,d1,d2,d3,d4,d5,d6,hcv0,hw1,hw2,hw3,hw4,k1,k2,k3];refine fz y ?_;clear y Y))))
   have hv:validD s.data.toList=false:=by rw [hval];exact eT hlt hbad
   rw [hv]
   refine yl (by simp only [zb,seval,w66];rfl) (by simp only [zv];rfl) (ALe.tup (.cons ALe.nil (.refl _))) rfl
  ·have d0:=decide_eq_false h
   repeat (first|(apply fw;focus ((with_reducible constructor)<;>constructor))|((first|with_reducible refine ga _ rfl fun Y y=>?_|apply ri);simp only [zb,seval,w66,hd1];refine fz y ?_;clear y Y))
   (refine WpA.draw0 6 _ _ _ rfl rfl rfl (by kernel_rfl) (by kernel_rfl) (by kernel_rfl) fun K8 hK8=>?_);simp only [zz] at hK8 ⊢;(refine Draw0.go fun K7 k=>?_);simp only [zb,seval,w66,hz0,e0,hc1,d0,d1,d3,d5,hcv0,hw1,hw2,hw3,hw4,k1,k2,k3];(refine qz (k _ _ ?_));clear k K7;(try ((refine Draw0.nil (hK8 _ ?_));clear hK8 K8;(refine WpL.go _ rfl fun Y y=>?_);repeat (first|(apply fw;focus ((with_reducible constructor)<;>constructor))|((first|with_reducible refine ga _ rfl fun Y y=>?_|apply ri);simp only [zb,seval,w66,hz0,e0,hc1,d0,d1,d3,d5,hcv0,hw1,hw2,hw3,hw4,k1,k2,k3];refine fz y ?_;clear y Y))))
   have hv:validD s.data.toList=false:=by rw [hval];exact eT hlt hbad
   rw [hv]
   refine yl (by simp only [zb,seval,w66];rfl) (by simp only [zv];rfl) (ALe.tup (.cons ALe.nil (.refl _))) rfl
 have g1:decide ((194:Int)≤at_ s i)=true:=by simp;omega
 by_cases hB:at_ s i<224
 ·have g2:decide ((at_ s i:Int)<224)=true:=by simp;omega
  have hle:bits .and .i32 (at_ s i:Int) 31=((at_ s i % 32:Nat):Int):=BF (at_ s i) 31 (by simp) hb0
  have hdec:=YN (s:=s) (i:=i) (by omega) hB
  by_cases h2:i+2≤s.size
  case neg =>
   have hc2:decide ((s.size:Int)<((i+2:Nat):Int))=true:=by simp;omega
   have hbad:iU s i:=by rcases hdec with ⟨-,h,-⟩|⟨h,-⟩;exact absurd h h2;exact h
   repeat (first|(apply fw;focus ((with_reducible constructor)<;>constructor))|((first|with_reducible refine ga _ rfl fun Y y=>?_|apply ri);simp only [zb,seval,w66,hd1];refine fz y ?_;clear y Y))
   (refine WpA.draw0 6 _ _ _ rfl rfl rfl (by kernel_rfl) (by kernel_rfl) (by kernel_rfl) fun K8 hK8=>?_);simp only [zz] at hK8 ⊢;(refine Draw0.go fun K7 k=>?_);simp only [zb,seval,w66,hz0,e0,hc1,hc2,g1,g2,hle,hcv0,hw1,hw2,hw3,hw4,k1,k2,k3];(refine qz (k _ _ ?_));clear k K7;(try ((refine Draw0.nil (hK8 _ ?_));clear hK8 K8;(refine WpL.go _ rfl fun Y y=>?_);repeat (first|(apply fw;focus ((with_reducible constructor)<;>constructor))|((first|with_reducible refine ga _ rfl fun Y y=>?_|apply ri);simp only [zb,seval,w66,hz0,e0,hc1,hc2,g1,g2,hle,hcv0,hw1,hw2,hw3,hw4,k1,k2,k3];refine fz y ?_;clear y Y))))
   have hv:validD s.data.toList=false:=by rw [hval];exact eT hlt hbad
   rw [hv]
   refine yl (by simp only [zb,seval,w66];rfl) (by simp only [zv];rfl) (ALe.tup (.cons ALe.nil (.refl _))) rfl
  have hc2:decide ((s.size:Int)<((i+2:Nat):Int))=false:=by simp;omega
  obtain⟨z1,hz1,e1⟩:=uF (s:=s) (i:=i+1) (by omega)
  by_cases hq1:at_ s (i+1) / 64=2
  case neg =>
   have hbad:iU s i:=by rcases hdec with ⟨-,-,h⟩|⟨h,-⟩;exact absurd h hq1;exact h
   repeat (first|(apply fw;focus ((with_reducible constructor)<;>constructor))|((first|with_reducible refine ga _ rfl fun Y y=>?_|apply ri);simp only [zb,seval,w66,hd1];refine fz y ?_;clear y Y))
   (refine WpA.draw0 6 _ _ _ rfl rfl rfl (by kernel_rfl) (by kernel_rfl) (by kernel_rfl) fun K8 hK8=>?_);simp only [zz] at hK8 ⊢;(refine Draw0.go fun K7 k=>?_);simp only [zb,seval,w66,hz0,e0,hc1,hc2,g1,g2,hle,hcv0,hw1,hw2,hw3,hw4,k1,k2,k3];(refine qz (k _ _ ?_));clear k K7;(try ((refine Draw0.nil (hK8 _ ?_));clear hK8 K8;(refine WpL.go _ rfl fun Y y=>?_);repeat (first|(apply fw;focus ((with_reducible constructor)<;>constructor))|((first|with_reducible refine ga _ rfl fun Y y=>?_|apply ri);simp only [zb,seval,w66,hz0,e0,hc1,hc2,g1,g2,hle,hcv0,hw1,hw2,hw3,hw4,k1,k2,k3];refine fz y ?_;clear y Y))))
   refine WpA.rounds 4 ?_
   repeat (first|(apply fw;focus ((with_reducible constructor)<;>constructor))|((first|with_reducible refine ga _ rfl fun Y y=>?_|apply ri);simp only [zb,seval,w66,hz1,e1,q1f hq1,hcv0,hw1,hw2,hw3,hw4,k1,k2,k3];refine fz y ?_;clear y Y))
   have hv:validD s.data.toList=false:=by rw [hval];exact eT hlt hbad
   rw [hv]
   refine yl (by simp only [zb,seval,w66];rfl) (by simp only [zv];rfl) (ALe.tup (.cons ALe.nil (.refl _))) rfl
  have hd:Utf8.decode s i=(at_ s i % 32*64+at_ s (i+1) % 64,2):=by rcases hdec with ⟨h,-⟩|⟨-,h⟩;exact h;exact absurd ⟨h2,hq1⟩ h
  have hj:=DG (at_ s i % 32) (at_ s (i+1) % 64) (by omega) (by omega)
  have hvr:validRune ((at_ s i % 32*64+at_ s (i+1) % 64:Nat):Int)=true:=by unfold validRune;simp;omega
  repeat (first|(apply fw;focus ((with_reducible constructor)<;>constructor))|((first|with_reducible refine ga _ rfl fun Y y=>?_|apply ri);simp only [zb,seval,w66,hd1];refine fz y ?_;clear y Y))
  (refine WpA.draw0 6 _ _ _ rfl rfl rfl (by kernel_rfl) (by kernel_rfl) (by kernel_rfl) fun K8 hK8=>?_);simp only [zz] at hK8 ⊢;(refine Draw0.go fun K7 k=>?_);simp only [zb,seval,w66,hz0,e0,hc1,hc2,g1,g2,hle,hcv0,hw1,hw2,hw3,hw4,k1,k2,k3];(refine qz (k _ _ ?_));clear k K7;(try ((refine Draw0.nil (hK8 _ ?_));clear hK8 K8;(refine WpL.go _ rfl fun Y y=>?_);repeat (first|(apply fw;focus ((with_reducible constructor)<;>constructor))|((first|with_reducible refine ga _ rfl fun Y y=>?_|apply ri);simp only [zb,seval,w66,hz0,e0,hc1,hc2,g1,g2,hle,hcv0,hw1,hw2,hw3,hw4,k1,k2,k3];refine fz y ?_;clear y Y))))
  refine WpA.rounds 4 ?_
  repeat (first|(apply fw;focus ((with_reducible constructor)<;>constructor))|((first|with_reducible refine ga _ rfl fun Y y=>?_|apply ri);simp only [zb,seval,w66,hz1,e1,q1t hq1,lo1,hj,hcv0,hw1,hw2,hw3,hw4,k1,k2,k3];refine fz y ?_;clear y Y))
  refine cz (jN _) ?_
  obtain⟨g,hg1,hg2,hg3⟩:=hfin _ _ hd (by first|(simp;done)|(simp;omega)) (by decide) (by omega)
  rcases hMS with ⟨rfl,rfl,rfl⟩|⟨c0,rfl,rfl⟩
  ·(refine WpL.go _ rfl fun Y y=>?_);repeat (first|(apply fw;focus ((with_reducible constructor)<;>constructor))|((first|with_reducible refine ga _ rfl fun Y y=>?_|apply ri);simp only [zb,seval,w66,hvr,hcv0,hw1,hw2,hw3,hw4,k1,k2,k3];refine fz y ?_;clear y Y))
   refine⟨s.size-(i+2),_,by omega,Le.drop (s':=[some ⟨21,1,[[.v (.int .i32 ((at_ s i % 32*64+at_ s (i+1) % 64:Nat):Int))]]⟩,some ⟨21,1,qX [((at_ s i % 32*64+at_ s (i+1) % 64:Nat):Int)]⟩]) 2 (Nat.zero_le _) rfl ?_ rfl ?_,i+2,[((at_ s i % 32*64+at_ s (i+1) % 64:Nat):Int)],g,.ms 1 1,_,rfl,(by omega),hg1,hg2,(by first|(simp;done)|(simp;omega)),hg3,.inr ⟨_,rfl,rfl⟩,rfl⟩
   ·simp [Sub,find]
   ·simp [ObBd,C.bd];exact hrb _
  ·(refine WpL.go _ rfl fun Y y=>?_);repeat (first|(apply fw;focus ((with_reducible constructor)<;>constructor))|((first|with_reducible refine ga _ rfl fun Y y=>?_|apply ri);simp only [zb,seval,w66,hvr,kL,hcv0,hw1,hw2,hw3,hw4,k1,k2,k3];refine fz y ?_;clear y Y))
   refine⟨s.size-(i+2),_,by omega,Le.drop (s':=[some ⟨21,1,[[.v (.int .i32 c0)]]⟩,some ⟨21,1,qX (out++[((at_ s i % 32*64+at_ s (i+1) % 64:Nat):Int)])⟩]) 2 (Nat.zero_le _) ?_ ?_ rfl ?_,i+2,out++[((at_ s i % 32*64+at_ s (i+1) % 64:Nat):Int)],g,.ms 1 (out++[((at_ s i % 32*64+at_ s (i+1) % 64:Nat):Int)]).length,_,rfl,(by omega),hg1,hg2,(by first|(simp;done)|(simp;omega)),hg3,.inr ⟨c0,rfl,rfl⟩,rfl⟩
   ·simp [qX]
   ·simp [Sub,find]
   ·simp [ObBd,C.bd];exact hrb _
 have g2:decide ((at_ s i:Int)<224)=false:=by simp;omega
 have g3:decide ((224:Int)≤at_ s i)=true:=by simp;omega
 by_cases hC:at_ s i<240
 ·have g4:decide ((at_ s i:Int)<240)=true:=by simp;omega
  have hle:bits .and .i32 (at_ s i:Int) 15=((at_ s i % 16:Nat):Int):=BF (at_ s i) 15 (by simp) hb0
  obtain⟨c,hcd⟩:∃c,c=at_ s i % 16*4096+at_ s (i+1) % 64*64+at_ s (i+2) % 64:=⟨_,rfl⟩
  have hdec:=YO (s:=s) (i:=i) (c:=c) (by omega) hC hcd
  by_cases h2:i+3≤s.size
  case neg =>
   have hc2:decide ((s.size:Int)<((i+3:Nat):Int))=true:=by simp;omega
   have hbad:iU s i:=by rcases hdec with ⟨-,h,-⟩|⟨h,-⟩;exact absurd h h2;exact h
   repeat (first|(apply fw;focus ((with_reducible constructor)<;>constructor))|((first|with_reducible refine ga _ rfl fun Y y=>?_|apply ri);simp only [zb,seval,w66,hd1];refine fz y ?_;clear y Y))
   (refine WpA.draw0 6 _ _ _ rfl rfl rfl (by kernel_rfl) (by kernel_rfl) (by kernel_rfl) fun K8 hK8=>?_);simp only [zz] at hK8 ⊢;(refine Draw0.go fun K7 k=>?_);simp only [zb,seval,w66,hz0,e0,hc1,hc2,g1,g2,g3,g4,hle,hcv0,hw1,hw2,hw3,hw4,k1,k2,k3];(refine qz (k _ _ ?_));clear k K7;(try ((refine Draw0.nil (hK8 _ ?_));clear hK8 K8;(refine WpL.go _ rfl fun Y y=>?_);repeat (first|(apply fw;focus ((with_reducible constructor)<;>constructor))|((first|with_reducible refine ga _ rfl fun Y y=>?_|apply ri);simp only [zb,seval,w66,hz0,e0,hc1,hc2,g1,g2,g3,g4,hle,hcv0,hw1,hw2,hw3,hw4,k1,k2,k3];refine fz y ?_;clear y Y))))
   have hv:validD s.data.toList=false:=by rw [hval];exact eT hlt hbad
   rw [hv]
   refine yl (by simp only [zb,seval,w66];rfl) (by simp only [zv];rfl) (ALe.tup (.cons ALe.nil (.refl _))) rfl
  have hc2:decide ((s.size:Int)<((i+3:Nat):Int))=false:=by simp;omega
  obtain⟨z1,hz1,e1⟩:=uF (s:=s) (i:=i+1) (by omega)
  obtain⟨z2,hz2,e2⟩:=uF (s:=s) (i:=i+2) (by omega)
  by_cases hq1:at_ s (i+1) / 64=2
  case neg =>
   have hbad:iU s i:=by rcases hdec with ⟨-,-,h,-⟩|⟨h,-⟩;exact absurd h hq1;exact h
   repeat (first|(apply fw;focus ((with_reducible constructor)<;>constructor))|((first|with_reducible refine ga _ rfl fun Y y=>?_|apply ri);simp only [zb,seval,w66,hd1];refine fz y ?_;clear y Y))
   (refine WpA.draw0 6 _ _ _ rfl rfl rfl (by kernel_rfl) (by kernel_rfl) (by kernel_rfl) fun K8 hK8=>?_);simp only [zz] at hK8 ⊢;(refine Draw0.go fun K7 k=>?_);simp only [zb,seval,w66,hz0,e0,hc1,hc2,g1,g2,g3,g4,hle,hcv0,hw1,hw2,hw3,hw4,k1,k2,k3];(refine qz (k _ _ ?_));clear k K7;(try ((refine Draw0.nil (hK8 _ ?_));clear hK8 K8;(refine WpL.go _ rfl fun Y y=>?_);repeat (first|(apply fw;focus ((with_reducible constructor)<;>constructor))|((first|with_reducible refine ga _ rfl fun Y y=>?_|apply ri);simp only [zb,seval,w66,hz0,e0,hc1,hc2,g1,g2,g3,g4,hle,hcv0,hw1,hw2,hw3,hw4,k1,k2,k3];refine fz y ?_;clear y Y))))
   refine WpA.rounds 4 ?_
   repeat (first|(apply fw;focus ((with_reducible constructor)<;>constructor))|((first|with_reducible refine ga _ rfl fun Y y=>?_|apply ri);simp only [zb,seval,w66,hz1,e1,q1f hq1,hcv0,hw1,hw2,hw3,hw4,k1,k2,k3];refine fz y ?_;clear y Y))
   have hv:validD s.data.toList=false:=by rw [hval];exact eT hlt hbad
   rw [hv]
   refine yl (by simp only [zb,seval,w66];rfl) (by simp only [zv];rfl) (ALe.tup (.cons ALe.nil (.refl _))) rfl
  have hj:=DG (at_ s i % 16) (at_ s (i+1) % 64) (by omega) (by omega)
  by_cases hq2:at_ s (i+2) / 64=2
  case neg =>
   have hbad:iU s i:=by rcases hdec with ⟨-,-,-,h,-⟩|⟨h,-⟩;exact absurd h hq2;exact h
   repeat (first|(apply fw;focus ((with_reducible constructor)<;>constructor))|((first|with_reducible refine ga _ rfl fun Y y=>?_|apply ri);simp only [zb,seval,w66,hd1];refine fz y ?_;clear y Y))
   (refine WpA.draw0 6 _ _ _ rfl rfl rfl (by kernel_rfl) (by kernel_rfl) (by kernel_rfl) fun K8 hK8=>?_);simp only [zz] at hK8 ⊢;(refine Draw0.go fun K7 k=>?_);simp only [zb,seval,w66,hz0,e0,hc1,hc2,g1,g2,g3,g4,hle,hcv0,hw1,hw2,hw3,hw4,k1,k2,k3];(refine qz (k _ _ ?_));clear k K7;(try ((refine Draw0.nil (hK8 _ ?_));clear hK8 K8;(refine WpL.go _ rfl fun Y y=>?_);repeat (first|(apply fw;focus ((with_reducible constructor)<;>constructor))|((first|with_reducible refine ga _ rfl fun Y y=>?_|apply ri);simp only [zb,seval,w66,hz0,e0,hc1,hc2,g1,g2,g3,g4,hle,hcv0,hw1,hw2,hw3,hw4,k1,k2,k3];refine fz y ?_;clear y Y))))
   refine WpA.rounds 4 ?_
   repeat (first|(apply fw;focus ((with_reducible constructor)<;>constructor))|((first|with_reducible refine ga _ rfl fun Y y=>?_|apply ri);simp only [zb,seval,w66,hz1,e1,hz2,e2,q1t hq1,q2f hq2,lo1,hj,hcv0,hw1,hw2,hw3,hw4,k1,k2,k3];refine fz y ?_;clear y Y))
   have hv:validD s.data.toList=false:=by rw [hval];exact eT hlt hbad
   rw [hv]
   refine yl (by simp only [zb,seval,w66];rfl) (by simp only [zv];rfl) (ALe.tup (.cons ALe.nil (.refl _))) rfl
  have hj2:bits .or .i32 (IntKind.i32.wrap (((at_ s i % 16*64+at_ s (i+1) % 64:Nat):Int)*2 ^ (min 6 IntKind.i32.bits))) (IntKind.i32.wrap ((at_ s (i+2) % 64:Nat):Int))=(c:Int):=by
   rw [DG _ _ (by omega) (by omega)];omega
  by_cases hsm:c<2048
  ·have hbad:iU s i:=by rcases hdec with ⟨-,-,-,-,h,-⟩|⟨h,-⟩;omega;exact h
   have hs1:decide ((c:Int)<2048)=true:=by simp;omega
   repeat (first|(apply fw;focus ((with_reducible constructor)<;>constructor))|((first|with_reducible refine ga _ rfl fun Y y=>?_|apply ri);simp only [zb,seval,w66,hd1];refine fz y ?_;clear y Y))
   (refine WpA.draw0 6 _ _ _ rfl rfl rfl (by kernel_rfl) (by kernel_rfl) (by kernel_rfl) fun K8 hK8=>?_);simp only [zz] at hK8 ⊢;(refine Draw0.go fun K7 k=>?_);simp only [zb,seval,w66,hz0,e0,hc1,hc2,g1,g2,g3,g4,hle,hcv0,hw1,hw2,hw3,hw4,k1,k2,k3];(refine qz (k _ _ ?_));clear k K7;(try ((refine Draw0.nil (hK8 _ ?_));clear hK8 K8;(refine WpL.go _ rfl fun Y y=>?_);repeat (first|(apply fw;focus ((with_reducible constructor)<;>constructor))|((first|with_reducible refine ga _ rfl fun Y y=>?_|apply ri);simp only [zb,seval,w66,hz0,e0,hc1,hc2,g1,g2,g3,g4,hle,hcv0,hw1,hw2,hw3,hw4,k1,k2,k3];refine fz y ?_;clear y Y))))
   refine WpA.rounds 4 ?_
   repeat (first|(apply fw;focus ((with_reducible constructor)<;>constructor))|((first|with_reducible refine ga _ rfl fun Y y=>?_|apply ri);simp only [zb,seval,w66,hz1,e1,hz2,e2,q1t hq1,q2t hq2,lo1,lo2,hj,hj2,hs1,hcv0,hw1,hw2,hw3,hw4,k1,k2,k3];refine fz y ?_;clear y Y))
   have hv:validD s.data.toList=false:=by rw [hval];exact eT hlt hbad
   rw [hv]
   refine yl (by simp only [zb,seval,w66];rfl) (by simp only [zv];rfl) (ALe.tup (.cons ALe.nil (.refl _))) rfl
  have hs1:decide ((c:Int)<2048)=false:=by simp;omega
  by_cases hvv:c<55296∨57343<c
  ·have hd:Utf8.decode s i=(c,3):=by rcases hdec with ⟨h,-⟩|⟨-,h⟩;exact h;exact absurd ⟨h2,hq1,hq2,by omega,hvv⟩ h
   have hvr:validRune (c:Int)=true:=by unfold validRune;simp;omega
   repeat (first|(apply fw;focus ((with_reducible constructor)<;>constructor))|((first|with_reducible refine ga _ rfl fun Y y=>?_|apply ri);simp only [zb,seval,w66,hd1];refine fz y ?_;clear y Y))
   (refine WpA.draw0 6 _ _ _ rfl rfl rfl (by kernel_rfl) (by kernel_rfl) (by kernel_rfl) fun K8 hK8=>?_);simp only [zz] at hK8 ⊢;(refine Draw0.go fun K7 k=>?_);simp only [zb,seval,w66,hz0,e0,hc1,hc2,g1,g2,g3,g4,hle,hcv0,hw1,hw2,hw3,hw4,k1,k2,k3];(refine qz (k _ _ ?_));clear k K7;(try ((refine Draw0.nil (hK8 _ ?_));clear hK8 K8;(refine WpL.go _ rfl fun Y y=>?_);repeat (first|(apply fw;focus ((with_reducible constructor)<;>constructor))|((first|with_reducible refine ga _ rfl fun Y y=>?_|apply ri);simp only [zb,seval,w66,hz0,e0,hc1,hc2,g1,g2,g3,g4,hle,hcv0,hw1,hw2,hw3,hw4,k1,k2,k3];refine fz y ?_;clear y Y))))
   refine WpA.rounds 4 ?_
   repeat (first|(apply fw;focus ((with_reducible constructor)<;>constructor))|((first|with_reducible refine ga _ rfl fun Y y=>?_|apply ri);simp only [zb,seval,w66,hz1,e1,hz2,e2,q1t hq1,q2t hq2,lo1,lo2,hj,hj2,hs1,hcv0,hw1,hw2,hw3,hw4,k1,k2,k3];refine fz y ?_;clear y Y))
   refine cz (jN _) ?_
   obtain⟨g,hg1,hg2,hg3⟩:=hfin _ _ hd (by first|(simp;done)|(simp;omega)) (by decide) (by omega)
   rcases hMS with ⟨rfl,rfl,rfl⟩|⟨c0,rfl,rfl⟩
   ·(refine WpL.go _ rfl fun Y y=>?_);repeat (first|(apply fw;focus ((with_reducible constructor)<;>constructor))|((first|with_reducible refine ga _ rfl fun Y y=>?_|apply ri);simp only [zb,seval,w66,hvr,hcv0,hw1,hw2,hw3,hw4,k1,k2,k3];refine fz y ?_;clear y Y))
    refine⟨s.size-(i+3),_,by omega,Le.drop (s':=[some ⟨21,1,[[.v (.int .i32 ((c:Nat):Int))]]⟩,some ⟨21,1,qX [((c:Nat):Int)]⟩]) 2 (Nat.zero_le _) rfl ?_ rfl ?_,i+3,[((c:Nat):Int)],g,.ms 1 1,_,rfl,(by omega),hg1,hg2,(by first|(simp;done)|(simp;omega)),hg3,.inr ⟨_,rfl,rfl⟩,rfl⟩
    ·simp [Sub,find]
    ·simp [ObBd,C.bd];exact hrb _
   ·(refine WpL.go _ rfl fun Y y=>?_);repeat (first|(apply fw;focus ((with_reducible constructor)<;>constructor))|((first|with_reducible refine ga _ rfl fun Y y=>?_|apply ri);simp only [zb,seval,w66,hvr,kL,hcv0,hw1,hw2,hw3,hw4,k1,k2,k3];refine fz y ?_;clear y Y))
    refine⟨s.size-(i+3),_,by omega,Le.drop (s':=[some ⟨21,1,[[.v (.int .i32 c0)]]⟩,some ⟨21,1,qX (out++[((c:Nat):Int)])⟩]) 2 (Nat.zero_le _) ?_ ?_ rfl ?_,i+3,out++[((c:Nat):Int)],g,.ms 1 (out++[((c:Nat):Int)]).length,_,rfl,(by omega),hg1,hg2,(by first|(simp;done)|(simp;omega)),hg3,.inr ⟨c0,rfl,rfl⟩,rfl⟩
    ·simp [qX]
    ·simp [Sub,find]
    ·simp [ObBd,C.bd];exact hrb _
  ·have hbad:iU s i:=by rcases hdec with ⟨-,-,-,-,-,h⟩|⟨h,-⟩;exact absurd h hvv;exact h
   have hvr:validRune (c:Int)=false:=by unfold validRune;simp;omega
   repeat (first|(apply fw;focus ((with_reducible constructor)<;>constructor))|((first|with_reducible refine ga _ rfl fun Y y=>?_|apply ri);simp only [zb,seval,w66,hd1];refine fz y ?_;clear y Y))
   (refine WpA.draw0 6 _ _ _ rfl rfl rfl (by kernel_rfl) (by kernel_rfl) (by kernel_rfl) fun K8 hK8=>?_);simp only [zz] at hK8 ⊢;(refine Draw0.go fun K7 k=>?_);simp only [zb,seval,w66,hz0,e0,hc1,hc2,g1,g2,g3,g4,hle,hcv0,hw1,hw2,hw3,hw4,k1,k2,k3];(refine qz (k _ _ ?_));clear k K7;(try ((refine Draw0.nil (hK8 _ ?_));clear hK8 K8;(refine WpL.go _ rfl fun Y y=>?_);repeat (first|(apply fw;focus ((with_reducible constructor)<;>constructor))|((first|with_reducible refine ga _ rfl fun Y y=>?_|apply ri);simp only [zb,seval,w66,hz0,e0,hc1,hc2,g1,g2,g3,g4,hle,hcv0,hw1,hw2,hw3,hw4,k1,k2,k3];refine fz y ?_;clear y Y))))
   refine WpA.rounds 4 ?_
   repeat (first|(apply fw;focus ((with_reducible constructor)<;>constructor))|((first|with_reducible refine ga _ rfl fun Y y=>?_|apply ri);simp only [zb,seval,w66,hz1,e1,hz2,e2,q1t hq1,q2t hq2,lo1,lo2,hj,hj2,hs1,hcv0,hw1,hw2,hw3,hw4,k1,k2,k3];refine fz y ?_;clear y Y))
   refine cz (jN _) ?_
   (refine WpL.go _ rfl fun Y y=>?_);repeat (first|(apply fw;focus ((with_reducible constructor)<;>constructor))|((first|with_reducible refine ga _ rfl fun Y y=>?_|apply ri);simp only [zb,seval,w66,hvr,hcv0,hw1,hw2,hw3,hw4,k1,k2,k3];refine fz y ?_;clear y Y))
   have hv:validD s.data.toList=false:=by rw [hval];exact eT hlt hbad
   rw [hv]
   refine yl (by simp only [zb,seval,w66];rfl) (by simp only [zv];rfl) (ALe.tup (.cons ALe.nil (.refl _))) rfl
 have g4:decide ((at_ s i:Int)<240)=false:=by simp;omega
 have g5:decide ((240:Int)≤at_ s i)=true:=by simp;omega
 have g6:decide ((at_ s i:Int)<245)=true:=by simp;omega
 have hle:bits .and .i32 (at_ s i:Int) 7=((at_ s i % 8:Nat):Int):=BF (at_ s i) 7 (by simp) hb0
 obtain⟨c,hcd⟩:∃c,c=at_ s i % 8*262144+at_ s (i+1) % 64*4096+at_ s (i+2) % 64*64+at_ s (i+3) % 64:=⟨_,rfl⟩
 have hdec:=YP (s:=s) (i:=i) (c:=c) (by omega) (by omega) hcd
 by_cases h2:i+4≤s.size
 case neg =>
  have hc2:decide ((s.size:Int)<((i+4:Nat):Int))=true:=by simp;omega
  have hbad:iU s i:=by rcases hdec with ⟨-,h,-⟩|⟨h,-⟩;exact absurd h h2;exact h
  repeat (first|(apply fw;focus ((with_reducible constructor)<;>constructor))|((first|with_reducible refine ga _ rfl fun Y y=>?_|apply ri);simp only [zb,seval,w66,hd1];refine fz y ?_;clear y Y))
  (refine WpA.draw0 6 _ _ _ rfl rfl rfl (by kernel_rfl) (by kernel_rfl) (by kernel_rfl) fun K8 hK8=>?_);simp only [zz] at hK8 ⊢;(refine Draw0.go fun K7 k=>?_);simp only [zb,seval,w66,hz0,e0,hc1,hc2,g1,g2,g3,g4,g5,g6,hle,hcv0,hw1,hw2,hw3,hw4,k1,k2,k3];(refine qz (k _ _ ?_));clear k K7;(try ((refine Draw0.nil (hK8 _ ?_));clear hK8 K8;(refine WpL.go _ rfl fun Y y=>?_);repeat (first|(apply fw;focus ((with_reducible constructor)<;>constructor))|((first|with_reducible refine ga _ rfl fun Y y=>?_|apply ri);simp only [zb,seval,w66,hz0,e0,hc1,hc2,g1,g2,g3,g4,g5,g6,hle,hcv0,hw1,hw2,hw3,hw4,k1,k2,k3];refine fz y ?_;clear y Y))))
  have hv:validD s.data.toList=false:=by rw [hval];exact eT hlt hbad
  rw [hv]
  refine yl (by simp only [zb,seval,w66];rfl) (by simp only [zv];rfl) (ALe.tup (.cons ALe.nil (.refl _))) rfl
 have hc2:decide ((s.size:Int)<((i+4:Nat):Int))=false:=by simp;omega
 obtain⟨z1,hz1,e1⟩:=uF (s:=s) (i:=i+1) (by omega)
 obtain⟨z2,hz2,e2⟩:=uF (s:=s) (i:=i+2) (by omega)
 obtain⟨z3,hz3,e3⟩:=uF (s:=s) (i:=i+3) (by omega)
 have hj:=DG (at_ s i % 8) (at_ s (i+1) % 64) (by omega) (by omega)
 have hj2:=DG (at_ s i % 8*64+at_ s (i+1) % 64) (at_ s (i+2) % 64) (by omega) (by omega)
 have hj3:bits .or .i32 (IntKind.i32.wrap ((((at_ s i % 8*64+at_ s (i+1) % 64)*64+at_ s (i+2) % 64:Nat):Int)*2 ^ (min 6 IntKind.i32.bits))) (IntKind.i32.wrap ((at_ s (i+3) % 64:Nat):Int))=(c:Int):=by
  rw [DG _ _ (by omega) (by omega)];omega
 by_cases hq1:at_ s (i+1) / 64=2
 case neg =>
  have hbad:iU s i:=by rcases hdec with ⟨-,-,h,-⟩|⟨h,-⟩;exact absurd h hq1;exact h
  repeat (first|(apply fw;focus ((with_reducible constructor)<;>constructor))|((first|with_reducible refine ga _ rfl fun Y y=>?_|apply ri);simp only [zb,seval,w66,hd1];refine fz y ?_;clear y Y))
  (refine WpA.draw0 6 _ _ _ rfl rfl rfl (by kernel_rfl) (by kernel_rfl) (by kernel_rfl) fun K8 hK8=>?_);simp only [zz] at hK8 ⊢;(refine Draw0.go fun K7 k=>?_);simp only [zb,seval,w66,hz0,e0,hc1,hc2,g1,g2,g3,g4,g5,g6,hle,hcv0,hw1,hw2,hw3,hw4,k1,k2,k3];(refine qz (k _ _ ?_));clear k K7;(try ((refine Draw0.nil (hK8 _ ?_));clear hK8 K8;(refine WpL.go _ rfl fun Y y=>?_);repeat (first|(apply fw;focus ((with_reducible constructor)<;>constructor))|((first|with_reducible refine ga _ rfl fun Y y=>?_|apply ri);simp only [zb,seval,w66,hz0,e0,hc1,hc2,g1,g2,g3,g4,g5,g6,hle,hcv0,hw1,hw2,hw3,hw4,k1,k2,k3];refine fz y ?_;clear y Y))))
  refine WpA.rounds 4 ?_
  repeat (first|(apply fw;focus ((with_reducible constructor)<;>constructor))|((first|with_reducible refine ga _ rfl fun Y y=>?_|apply ri);simp only [zb,seval,w66,hz1,e1,q1f hq1,hcv0,hw1,hw2,hw3,hw4,k1,k2,k3];refine fz y ?_;clear y Y))
  have hv:validD s.data.toList=false:=by rw [hval];exact eT hlt hbad
  rw [hv]
  refine yl (by simp only [zb,seval,w66];rfl) (by simp only [zv];rfl) (ALe.tup (.cons ALe.nil (.refl _))) rfl
 by_cases hq2:at_ s (i+2) / 64=2
 case neg =>
  have hbad:iU s i:=by rcases hdec with ⟨-,-,-,h,-⟩|⟨h,-⟩;exact absurd h hq2;exact h
  repeat (first|(apply fw;focus ((with_reducible constructor)<;>constructor))|((first|with_reducible refine ga _ rfl fun Y y=>?_|apply ri);simp only [zb,seval,w66,hd1];refine fz y ?_;clear y Y))
  (refine WpA.draw0 6 _ _ _ rfl rfl rfl (by kernel_rfl) (by kernel_rfl) (by kernel_rfl) fun K8 hK8=>?_);simp only [zz] at hK8 ⊢;(refine Draw0.go fun K7 k=>?_);simp only [zb,seval,w66,hz0,e0,hc1,hc2,g1,g2,g3,g4,g5,g6,hle,hcv0,hw1,hw2,hw3,hw4,k1,k2,k3];(refine qz (k _ _ ?_));clear k K7;(try ((refine Draw0.nil (hK8 _ ?_));clear hK8 K8;(refine WpL.go _ rfl fun Y y=>?_);repeat (first|(apply fw;focus ((with_reducible constructor)<;>constructor))|((first|with_reducible refine ga _ rfl fun Y y=>?_|apply ri);simp only [zb,seval,w66,hz0,e0,hc1,hc2,g1,g2,g3,g4,g5,g6,hle,hcv0,hw1,hw2,hw3,hw4,k1,k2,k3];refine fz y ?_;clear y Y))))
  refine WpA.rounds 4 ?_
  repeat (first|(apply fw;focus ((with_reducible constructor)<;>constructor))|((first|with_reducible refine ga _ rfl fun Y y=>?_|apply ri);simp only [zb,seval,w66,hz1,e1,hz2,e2,q1t hq1,q2f hq2,lo1,hj,hcv0,hw1,hw2,hw3,hw4,k1,k2,k3];refine fz y ?_;clear y Y))
  have hv:validD s.data.toList=false:=by rw [hval];exact eT hlt hbad
  rw [hv]
  refine yl (by simp only [zb,seval,w66];rfl) (by simp only [zv];rfl) (ALe.tup (.cons ALe.nil (.refl _))) rfl
 by_cases hq3:at_ s (i+3) / 64=2
 case neg =>
  have hbad:iU s i:=by rcases hdec with ⟨-,-,-,-,h,-⟩|⟨h,-⟩;exact absurd h hq3;exact h
  repeat (first|(apply fw;focus ((with_reducible constructor)<;>constructor))|((first|with_reducible refine ga _ rfl fun Y y=>?_|apply ri);simp only [zb,seval,w66,hd1];refine fz y ?_;clear y Y))
  (refine WpA.draw0 6 _ _ _ rfl rfl rfl (by kernel_rfl) (by kernel_rfl) (by kernel_rfl) fun K8 hK8=>?_);simp only [zz] at hK8 ⊢;(refine Draw0.go fun K7 k=>?_);simp only [zb,seval,w66,hz0,e0,hc1,hc2,g1,g2,g3,g4,g5,g6,hle,hcv0,hw1,hw2,hw3,hw4,k1,k2,k3];(refine qz (k _ _ ?_));clear k K7;(try ((refine Draw0.nil (hK8 _ ?_));clear hK8 K8;(refine WpL.go _ rfl fun Y y=>?_);repeat (first|(apply fw;focus ((with_reducible constructor)<;>constructor))|((first|with_reducible refine ga _ rfl fun Y y=>?_|apply ri);simp only [zb,seval,w66,hz0,e0,hc1,hc2,g1,g2,g3,g4,g5,g6,hle,hcv0,hw1,hw2,hw3,hw4,k1,k2,k3];refine fz y ?_;clear y Y))))
  refine WpA.rounds 4 ?_
  repeat (first|(apply fw;focus ((with_reducible constructor)<;>constructor))|((first|with_reducible refine ga _ rfl fun Y y=>?_|apply ri);simp only [zb,seval,w66,hz1,e1,hz2,e2,hz3,e3,q1t hq1,q2t hq2,q3f hq3,lo1,lo2,hj,hj2,hcv0,hw1,hw2,hw3,hw4,k1,k2,k3];refine fz y ?_;clear y Y))
  have hv:validD s.data.toList=false:=by rw [hval];exact eT hlt hbad
  rw [hv]
  refine yl (by simp only [zb,seval,w66];rfl) (by simp only [zv];rfl) (ALe.tup (.cons ALe.nil (.refl _))) rfl
 by_cases hsm:c<65536
 ·have hbad:iU s i:=by rcases hdec with ⟨-,-,-,-,-,h,-⟩|⟨h,-⟩;omega;exact h
  have hs1:decide ((c:Int)<65536)=true:=by simp;omega
  repeat (first|(apply fw;focus ((with_reducible constructor)<;>constructor))|((first|with_reducible refine ga _ rfl fun Y y=>?_|apply ri);simp only [zb,seval,w66,hd1];refine fz y ?_;clear y Y))
  (refine WpA.draw0 6 _ _ _ rfl rfl rfl (by kernel_rfl) (by kernel_rfl) (by kernel_rfl) fun K8 hK8=>?_);simp only [zz] at hK8 ⊢;(refine Draw0.go fun K7 k=>?_);simp only [zb,seval,w66,hz0,e0,hc1,hc2,g1,g2,g3,g4,g5,g6,hle,hcv0,hw1,hw2,hw3,hw4,k1,k2,k3];(refine qz (k _ _ ?_));clear k K7;(try ((refine Draw0.nil (hK8 _ ?_));clear hK8 K8;(refine WpL.go _ rfl fun Y y=>?_);repeat (first|(apply fw;focus ((with_reducible constructor)<;>constructor))|((first|with_reducible refine ga _ rfl fun Y y=>?_|apply ri);simp only [zb,seval,w66,hz0,e0,hc1,hc2,g1,g2,g3,g4,g5,g6,hle,hcv0,hw1,hw2,hw3,hw4,k1,k2,k3];refine fz y ?_;clear y Y))))
  refine WpA.rounds 4 ?_
  repeat (first|(apply fw;focus ((with_reducible constructor)<;>constructor))|((first|with_reducible refine ga _ rfl fun Y y=>?_|apply ri);simp only [zb,seval,w66,hz1,e1,hz2,e2,hz3,e3,q1t hq1,q2t hq2,q3t hq3,lo1,lo2,lo3,hj,hj2,hj3,hs1,hcv0,hw1,hw2,hw3,hw4,k1,k2,k3];refine fz y ?_;clear y Y))
  have hv:validD s.data.toList=false:=by rw [hval];exact eT hlt hbad
  rw [hv]
  refine yl (by simp only [zb,seval,w66];rfl) (by simp only [zv];rfl) (ALe.tup (.cons ALe.nil (.refl _))) rfl
 have hs1:decide ((c:Int)<65536)=false:=by simp;omega
 by_cases hvv:c≤1114111
 ·have hd:Utf8.decode s i=(c,4):=by rcases hdec with ⟨h,-⟩|⟨-,h⟩;exact h;exact absurd ⟨h2,hq1,hq2,hq3,by omega,hvv⟩ h
  have hvr:validRune (c:Int)=true:=by unfold validRune;simp;omega
  repeat (first|(apply fw;focus ((with_reducible constructor)<;>constructor))|((first|with_reducible refine ga _ rfl fun Y y=>?_|apply ri);simp only [zb,seval,w66,hd1];refine fz y ?_;clear y Y))
  (refine WpA.draw0 6 _ _ _ rfl rfl rfl (by kernel_rfl) (by kernel_rfl) (by kernel_rfl) fun K8 hK8=>?_);simp only [zz] at hK8 ⊢;(refine Draw0.go fun K7 k=>?_);simp only [zb,seval,w66,hz0,e0,hc1,hc2,g1,g2,g3,g4,g5,g6,hle,hcv0,hw1,hw2,hw3,hw4,k1,k2,k3];(refine qz (k _ _ ?_));clear k K7;(try ((refine Draw0.nil (hK8 _ ?_));clear hK8 K8;(refine WpL.go _ rfl fun Y y=>?_);repeat (first|(apply fw;focus ((with_reducible constructor)<;>constructor))|((first|with_reducible refine ga _ rfl fun Y y=>?_|apply ri);simp only [zb,seval,w66,hz0,e0,hc1,hc2,g1,g2,g3,g4,g5,g6,hle,hcv0,hw1,hw2,hw3,hw4,k1,k2,k3];refine fz y ?_;clear y Y))))
  refine WpA.rounds 4 ?_
  repeat (first|(apply fw;focus ((with_reducible constructor)<;>constructor))|((first|with_reducible refine ga _ rfl fun Y y=>?_|apply ri);simp only [zb,seval,w66,hz1,e1,hz2,e2,hz3,e3,q1t hq1,q2t hq2,q3t hq3,lo1,lo2,lo3,hj,hj2,hj3,hs1,hcv0,hw1,hw2,hw3,hw4,k1,k2,k3];refine fz y ?_;clear y Y))
  refine cz (jN _) ?_
  obtain⟨g,hg1,hg2,hg3⟩:=hfin _ _ hd (by first|(simp;done)|(simp;omega)) (by decide) (by omega)
  rcases hMS with ⟨rfl,rfl,rfl⟩|⟨c0,rfl,rfl⟩
  ·(refine WpL.go _ rfl fun Y y=>?_);repeat (first|(apply fw;focus ((with_reducible constructor)<;>constructor))|((first|with_reducible refine ga _ rfl fun Y y=>?_|apply ri);simp only [zb,seval,w66,hvr,hcv0,hw1,hw2,hw3,hw4,k1,k2,k3];refine fz y ?_;clear y Y))
   refine⟨s.size-(i+4),_,by omega,Le.drop (s':=[some ⟨21,1,[[.v (.int .i32 ((c:Nat):Int))]]⟩,some ⟨21,1,qX [((c:Nat):Int)]⟩]) 2 (Nat.zero_le _) rfl ?_ rfl ?_,i+4,[((c:Nat):Int)],g,.ms 1 1,_,rfl,(by omega),hg1,hg2,(by first|(simp;done)|(simp;omega)),hg3,.inr ⟨_,rfl,rfl⟩,rfl⟩
   ·simp [Sub,find]
   ·simp [ObBd,C.bd];exact hrb _
  ·(refine WpL.go _ rfl fun Y y=>?_);repeat (first|(apply fw;focus ((with_reducible constructor)<;>constructor))|((first|with_reducible refine ga _ rfl fun Y y=>?_|apply ri);simp only [zb,seval,w66,hvr,kL,hcv0,hw1,hw2,hw3,hw4,k1,k2,k3];refine fz y ?_;clear y Y))
   refine⟨s.size-(i+4),_,by omega,Le.drop (s':=[some ⟨21,1,[[.v (.int .i32 c0)]]⟩,some ⟨21,1,qX (out++[((c:Nat):Int)])⟩]) 2 (Nat.zero_le _) ?_ ?_ rfl ?_,i+4,out++[((c:Nat):Int)],g,.ms 1 (out++[((c:Nat):Int)]).length,_,rfl,(by omega),hg1,hg2,(by first|(simp;done)|(simp;omega)),hg3,.inr ⟨c0,rfl,rfl⟩,rfl⟩
   ·simp [qX]
   ·simp [Sub,find]
   ·simp [ObBd,C.bd];exact hrb _
 ·have hbad:iU s i:=by rcases hdec with ⟨-,-,-,-,-,-,h⟩|⟨h,-⟩;exact absurd h hvv;exact h
  have hvr:validRune (c:Int)=false:=by unfold validRune;simp;omega
  repeat (first|(apply fw;focus ((with_reducible constructor)<;>constructor))|((first|with_reducible refine ga _ rfl fun Y y=>?_|apply ri);simp only [zb,seval,w66,hd1];refine fz y ?_;clear y Y))
  (refine WpA.draw0 6 _ _ _ rfl rfl rfl (by kernel_rfl) (by kernel_rfl) (by kernel_rfl) fun K8 hK8=>?_);simp only [zz] at hK8 ⊢;(refine Draw0.go fun K7 k=>?_);simp only [zb,seval,w66,hz0,e0,hc1,hc2,g1,g2,g3,g4,g5,g6,hle,hcv0,hw1,hw2,hw3,hw4,k1,k2,k3];(refine qz (k _ _ ?_));clear k K7;(try ((refine Draw0.nil (hK8 _ ?_));clear hK8 K8;(refine WpL.go _ rfl fun Y y=>?_);repeat (first|(apply fw;focus ((with_reducible constructor)<;>constructor))|((first|with_reducible refine ga _ rfl fun Y y=>?_|apply ri);simp only [zb,seval,w66,hz0,e0,hc1,hc2,g1,g2,g3,g4,g5,g6,hle,hcv0,hw1,hw2,hw3,hw4,k1,k2,k3];refine fz y ?_;clear y Y))))
  refine WpA.rounds 4 ?_
  repeat (first|(apply fw;focus ((with_reducible constructor)<;>constructor))|((first|with_reducible refine ga _ rfl fun Y y=>?_|apply ri);simp only [zb,seval,w66,hz1,e1,hz2,e2,hz3,e3,q1t hq1,q2t hq2,q3t hq3,lo1,lo2,lo3,hj,hj2,hj3,hs1,hcv0,hw1,hw2,hw3,hw4,k1,k2,k3];refine fz y ?_;clear y Y))
  refine cz (jN _) ?_
  (refine WpL.go _ rfl fun Y y=>?_);repeat (first|(apply fw;focus ((with_reducible constructor)<;>constructor))|((first|with_reducible refine ga _ rfl fun Y y=>?_|apply ri);simp only [zb,seval,w66,hvr,hcv0,hw1,hw2,hw3,hw4,k1,k2,k3];refine fz y ?_;clear y Y))
  have hv:validD s.data.toList=false:=by rw [hval];exact eT hlt hbad
  rw [hv]
  refine yl (by simp only [zb,seval,w66];rfl) (by simp only [zv];rfl) (ALe.tup (.cons ALe.nil (.refl _))) rfl
theorem LY (d:D):Pure Tryz.prog 63 [.agg d.cc,.one (.v (.int .i64 0))] (.one (.v (.bool (eF false false false false d)))):=by
 refine fB rfl fun w vs hg hv=>?_
 obtain⟨v,u,rfl,hv1,hu1⟩:=hv.two
 simp only [Ca,Cc] at hu1
 rw [hu1.1]
 exact PG d w v hv1.isD
theorem BI (d:D):Pure Tryz.prog 63 [.agg d.cc,.one (.v (.int .i64 1))] (.one (.v (.bool (eF true false false false d)))):=by
 refine fB rfl fun w vs hg hv=>?_
 obtain⟨v,u,rfl,hv1,hu1⟩:=hv.two
 simp only [Ca,Cc] at hu1
 rw [hu1.1]
 exact PH d w v hv1.isD
theorem BJ (d:D):Pure Tryz.prog 63 [.agg d.cc,.one (.v (.int .i64 2))] (.one (.v (.bool (eF false true false false d)))):=by
 refine fB rfl fun w vs hg hv=>?_
 obtain⟨v,u,rfl,hv1,hu1⟩:=hv.two
 simp only [Ca,Cc] at hu1
 rw [hu1.1]
 exact PI d w v hv1.isD
theorem iP (d:D):Pure Tryz.prog 63 [.agg d.cc,.one (.v (.int .i64 4))] (.one (.v (.bool (eF false false true false d)))):=by
 refine fB rfl fun w vs hg hv=>?_
 obtain⟨v,u,rfl,hv1,hu1⟩:=hv.two
 simp only [Ca,Cc] at hu1
 rw [hu1.1]
 exact PJ d w v hv1.isD
theorem kY (d:D):Pure Tryz.prog 63 [.agg d.cc,.one (.v (.int .i64 8))] (.one (.v (.bool (eF false false false true d)))):=by
 refine fB rfl fun w vs hg hv=>?_
 obtain⟨v,u,rfl,hv1,hu1⟩:=hv.two
 simp only [Ca,Cc] at hu1
 rw [hu1.1]
 exact PK d w v hv1.isD
theorem fA {h1 h2 h4 h8:Bool} {d:D}:eF h1 h2 h4 h8 d=true↔((h1=true∨d.c=0)∧(h2=true∨(d.neg=false∧d.mag=[]))∧(h4=true∨d.t=⟨#[]⟩)∧(h8=true∨d.l=[])):=by
 have ht:∀b:ByteArray,b.size=0↔b=⟨#[]⟩:=fun b=>⟨fun h=>by obtain⟨a⟩:=b;have:a=#[]:=Array.eq_empty_of_size_eq_zero h;rw [this],fun h=>by rw [h];rfl⟩
 unfold eF
 simp only [Bool.and_eq_true,Bool.or_eq_true,decide_eq_true_eq,Bool.not_eq_true',List.length_eq_zero_iff,ht,and_assoc]
theorem nJ {d:D} (h:¬fF d):cA d=false:=pX fun hp=>h (by cases d;rw [D.Plain] at hp;exact hp.2.1)
def FN (n:Nat):Prop:=∀d:D,d.ht≤n→d.Ok→qH n d→Pure Tryz.prog 43 [.agg d.cc] (.one (.v (.bool (cA d))))
theorem JK (k c:Int) (neg:Bool) (mag:List Int) (t:ByteArray) (l:List D) (hmg:tF mag) (hst:t.size≤3000) (hsmag:mag.length≤3000)
  (hk7:k≠7) (hk8:k≠8):Pure Tryz.prog 43 [.agg (D.mk k c neg mag t l).cc] (.one (.v (.bool (cA (.mk k c neg mag t l))))):=by
 by_cases h0:k=0∨k=1∨k=2∨k=9∨k=10
 ·have hpb:cA (.mk k c neg mag t l)=eF false false false false (.mk k c neg mag t l):=by
   by_cases hb:fF (.mk k c neg mag t l)
   ·rw [iH k h0 hb]
    exact (fA.2 (by rcases h0 with rfl|rfl|rfl|rfl|rfl<;>simpa [fF,D.k] using hb)).symm
   ·rw [nJ hb]
    cases h:eF false false false false (.mk k c neg mag t l) with
    | false=>rfl
    | true=>exact absurd (by rcases h0 with rfl|rfl|rfl|rfl|rfl<;>simpa [fF,D.k] using fA.1 h) hb
  have hco:=LY (.mk k c neg mag t l)
  obtain⟨b,hbr⟩:∃b,eF false false false false (.mk k c neg mag t l)=b:=⟨_,rfl⟩
  rw [hpb,hbr]
  cases b<;>rcases h0 with rfl|rfl|rfl|rfl|rfl
  all_goals
   refine fi Tryz.func43 Tryz.ntmps43 Tryz.results43 ?_
   repeat (first|(apply fw;focus ((with_reducible constructor)<;>constructor))|((first|with_reducible refine ga _ rfl fun Y y=>?_|apply ri);simp only [zb,seval,w43,D.cc_eq,D.k,D.c,D.neg,D.mag,D.t,D.l];refine fz y ?_;clear y Y))
   refine WpL.call rfl (aB (P:=Tryz.prog) rfl) (CallA.shut rfl rfl (by kernel_rfl) (by first|exact ALes.refl _|((try simp only [D.cc_eq,D.k,D.c,D.neg,D.mag,D.t,D.l]);(repeat (first|exact ALes.refl _|refine ALes.cons ?_ ?_|exact ALe.refl _|exact ALe.nil|refine ALe.agg ?_|exact CLes.refl _|refine CLes.nil ?_|refine CLes.cons ?_)))) (by first|rfl|simp [dF,ksh,D.cc_eq,D.k,D.c,D.neg,D.mag,D.t,D.l]) (hco) ?_)
   (refine WpL.go _ rfl fun Y y=>?_);repeat (first|(apply fw;focus ((with_reducible constructor)<;>constructor))|((first|with_reducible refine ga _ rfl fun Y y=>?_|apply ri);simp only [zb,seval,w43,hbr];refine fz y ?_;clear y Y))
   refine ye (by simp only [zb,seval,w43];rfl) (by simp only [zv];rfl) ?_
   rfl
 by_cases h3:k=3
 ·subst h3
  by_cases hb:fF (.mk 3 c neg mag t l)
  ·have hbr:eF true false false false (.mk 3 c neg mag t l)=true:=fA.2 (by simpa [fF,D.k] using hb)
   rw [zU hb]
   refine fi Tryz.func43 Tryz.ntmps43 Tryz.results43 ?_
   repeat (first|(apply fw;focus ((with_reducible constructor)<;>constructor))|((first|with_reducible refine ga _ rfl fun Y y=>?_|apply ri);simp only [zb,seval,w43,D.cc_eq,D.k,D.c,D.neg,D.mag,D.t,D.l];refine fz y ?_;clear y Y))
   refine WpL.call rfl (aB (P:=Tryz.prog) rfl) (CallA.shut rfl rfl (by kernel_rfl) (by first|exact ALes.refl _|((try simp only [D.cc_eq,D.k,D.c,D.neg,D.mag,D.t,D.l]);(repeat (first|exact ALes.refl _|refine ALes.cons ?_ ?_|exact ALe.refl _|exact ALe.nil|refine ALe.agg ?_|exact CLes.refl _|refine CLes.nil ?_|refine CLes.cons ?_)))) (by first|rfl|simp [dF,ksh,D.cc_eq,D.k,D.c,D.neg,D.mag,D.t,D.l]) (BI (.mk 3 c neg mag t l)) ?_)
   (refine WpL.go _ rfl fun Y y=>?_);repeat (first|(apply fw;focus ((with_reducible constructor)<;>constructor))|((first|with_reducible refine ga _ rfl fun Y y=>?_|apply ri);simp only [zb,seval,w43,hbr];refine fz y ?_;clear y Y))
   refine cz (jN c) ?_
   (refine WpL.go _ rfl fun Y y=>?_);repeat (first|(apply fw;focus ((with_reducible constructor)<;>constructor))|((first|with_reducible refine ga _ rfl fun Y y=>?_|apply ri);simp only [zb,seval,w43];refine fz y ?_;clear y Y))
   refine ye (by simp only [zb,seval,w43];rfl) (by simp only [zv];rfl) ?_
   rfl
  ·have hbr:eF true false false false (.mk 3 c neg mag t l)=false:=by
    cases h:eF true false false false (.mk 3 c neg mag t l) with
    | false=>rfl
    | true=>exact absurd (by simpa [fF,D.k] using fA.1 h) hb
   rw [nJ hb]
   refine fi Tryz.func43 Tryz.ntmps43 Tryz.results43 ?_
   repeat (first|(apply fw;focus ((with_reducible constructor)<;>constructor))|((first|with_reducible refine ga _ rfl fun Y y=>?_|apply ri);simp only [zb,seval,w43,D.cc_eq,D.k,D.c,D.neg,D.mag,D.t,D.l];refine fz y ?_;clear y Y))
   refine WpL.call rfl (aB (P:=Tryz.prog) rfl) (CallA.shut rfl rfl (by kernel_rfl) (by first|exact ALes.refl _|((try simp only [D.cc_eq,D.k,D.c,D.neg,D.mag,D.t,D.l]);(repeat (first|exact ALes.refl _|refine ALes.cons ?_ ?_|exact ALe.refl _|exact ALe.nil|refine ALe.agg ?_|exact CLes.refl _|refine CLes.nil ?_|refine CLes.cons ?_)))) (by first|rfl|simp [dF,ksh,D.cc_eq,D.k,D.c,D.neg,D.mag,D.t,D.l]) (BI (.mk 3 c neg mag t l)) ?_)
   (refine WpL.go _ rfl fun Y y=>?_);repeat (first|(apply fw;focus ((with_reducible constructor)<;>constructor))|((first|with_reducible refine ga _ rfl fun Y y=>?_|apply ri);simp only [zb,seval,w43,hbr];refine fz y ?_;clear y Y))
   refine ye (by simp only [zb,seval,w43];rfl) (by simp only [zv];rfl) ?_
   rfl
 by_cases h4:k=4
 ·subst h4
  by_cases hb:fF (.mk 4 c neg mag t l)
  ·have hbr:eF false true false false (.mk 4 c neg mag t l)=true:=fA.2 (by simpa [fF,D.k] using hb)
   rw [CS hb]
   refine fi Tryz.func43 Tryz.ntmps43 Tryz.results43 ?_
   repeat (first|(apply fw;focus ((with_reducible constructor)<;>constructor))|((first|with_reducible refine ga _ rfl fun Y y=>?_|apply ri);simp only [zb,seval,w43,D.cc_eq,D.k,D.c,D.neg,D.mag,D.t,D.l];refine fz y ?_;clear y Y))
   refine WpL.call rfl (aB (P:=Tryz.prog) rfl) (CallA.shut rfl rfl (by kernel_rfl) (by first|exact ALes.refl _|((try simp only [D.cc_eq,D.k,D.c,D.neg,D.mag,D.t,D.l]);(repeat (first|exact ALes.refl _|refine ALes.cons ?_ ?_|exact ALe.refl _|exact ALe.nil|refine ALe.agg ?_|exact CLes.refl _|refine CLes.nil ?_|refine CLes.cons ?_)))) (by first|rfl|simp [dF,ksh,D.cc_eq,D.k,D.c,D.neg,D.mag,D.t,D.l]) (BJ (.mk 4 c neg mag t l)) ?_)
   (refine WpL.go _ rfl fun Y y=>?_);repeat (first|(apply fw;focus ((with_reducible constructor)<;>constructor))|((first|with_reducible refine ga _ rfl fun Y y=>?_|apply ri);simp only [zb,seval,w43,hbr];refine fz y ?_;clear y Y))
   refine cz (FM neg mag hmg (by omega)) ?_
   (refine WpL.go _ rfl fun Y y=>?_);repeat (first|(apply fw;focus ((with_reducible constructor)<;>constructor))|((first|with_reducible refine ga _ rfl fun Y y=>?_|apply ri);simp only [zb,seval,w43];refine fz y ?_;clear y Y))
   refine ye (by simp only [zb,seval,w43];rfl) (by simp only [zv];rfl) ?_
   rfl
  ·have hbr:eF false true false false (.mk 4 c neg mag t l)=false:=by
    cases h:eF false true false false (.mk 4 c neg mag t l) with
    | false=>rfl
    | true=>exact absurd (by simpa [fF,D.k] using fA.1 h) hb
   rw [nJ hb]
   refine fi Tryz.func43 Tryz.ntmps43 Tryz.results43 ?_
   repeat (first|(apply fw;focus ((with_reducible constructor)<;>constructor))|((first|with_reducible refine ga _ rfl fun Y y=>?_|apply ri);simp only [zb,seval,w43,D.cc_eq,D.k,D.c,D.neg,D.mag,D.t,D.l];refine fz y ?_;clear y Y))
   refine WpL.call rfl (aB (P:=Tryz.prog) rfl) (CallA.shut rfl rfl (by kernel_rfl) (by first|exact ALes.refl _|((try simp only [D.cc_eq,D.k,D.c,D.neg,D.mag,D.t,D.l]);(repeat (first|exact ALes.refl _|refine ALes.cons ?_ ?_|exact ALe.refl _|exact ALe.nil|refine ALe.agg ?_|exact CLes.refl _|refine CLes.nil ?_|refine CLes.cons ?_)))) (by first|rfl|simp [dF,ksh,D.cc_eq,D.k,D.c,D.neg,D.mag,D.t,D.l]) (BJ (.mk 4 c neg mag t l)) ?_)
   (refine WpL.go _ rfl fun Y y=>?_);repeat (first|(apply fw;focus ((with_reducible constructor)<;>constructor))|((first|with_reducible refine ga _ rfl fun Y y=>?_|apply ri);simp only [zb,seval,w43,hbr];refine fz y ?_;clear y Y))
   refine ye (by simp only [zb,seval,w43];rfl) (by simp only [zv];rfl) ?_
   rfl
 have hcnt:(eZ t t.size 0).length=runeCount t:=tG t t.size 0
 by_cases h5:k=5
 ·subst h5
  by_cases hb:fF (.mk 5 c neg mag t l)
  ·have hbr:eF false false true false (.mk 5 c neg mag t l)=true:=fA.2 (by simpa [fF,D.k] using hb)
   rw [show cA (.mk 5 c neg mag t l)=gN t 0 from by first|exact wG hb|exact sG hb]
   rcases hV:validD t.data.toList
   ·have hR:gN t 0=false:=by simp [gN,hV]
    rw [hR]
    refine fi Tryz.func43 Tryz.ntmps43 Tryz.results43 ?_
    repeat (first|(apply fw;focus ((with_reducible constructor)<;>constructor))|((first|with_reducible refine ga _ rfl fun Y y=>?_|apply ri);simp only [zb,seval,w43,D.cc_eq,D.k,D.c,D.neg,D.mag,D.t,D.l];refine fz y ?_;clear y Y))
    refine cz (iO t (by omega)) ?_
    (refine WpL.go _ rfl fun Y y=>?_);repeat (first|(apply fw;focus ((with_reducible constructor)<;>constructor))|((first|with_reducible refine ga _ rfl fun Y y=>?_|apply ri);simp only [zb,seval,w43,D.cc_eq,D.k,D.c,D.neg,D.mag,D.t,D.l,hV];refine fz y ?_;clear y Y))
    refine WpL.call rfl (aB (P:=Tryz.prog) rfl) (CallA.shut rfl rfl (by kernel_rfl) (by first|exact ALes.refl _|((try simp only [D.cc_eq,D.k,D.c,D.neg,D.mag,D.t,D.l]);(repeat (first|exact ALes.refl _|refine ALes.cons ?_ ?_|exact ALe.refl _|exact ALe.nil|refine ALe.agg ?_|exact CLes.refl _|refine CLes.nil ?_|refine CLes.cons ?_)))) (by first|rfl|simp [dF,ksh,D.cc_eq,D.k,D.c,D.neg,D.mag,D.t,D.l]) (iP (.mk 5 c neg mag t l)) ?_)
    (refine WpL.go _ rfl fun Y y=>?_);repeat (first|(apply fw;focus ((with_reducible constructor)<;>constructor))|((first|with_reducible refine ga _ rfl fun Y y=>?_|apply ri);simp only [zb,seval,w43,hbr,hV];refine fz y ?_;clear y Y))
    refine ye (by simp only [zb,seval,w43];rfl) (by simp only [zv];rfl) ?_
    rfl
   by_cases h62:runeCount t≤62
   ·have f62:decide ((runeCount t:Int)≤62)=true:=by simp;omega
    have hR:gN t 0=decide ((0:Int)≤runeCount t):=by simp [gN,hV,h62]
    rw [hR]
    refine fi Tryz.func43 Tryz.ntmps43 Tryz.results43 ?_
    repeat (first|(apply fw;focus ((with_reducible constructor)<;>constructor))|((first|with_reducible refine ga _ rfl fun Y y=>?_|apply ri);simp only [zb,seval,w43,D.cc_eq,D.k,D.c,D.neg,D.mag,D.t,D.l];refine fz y ?_;clear y Y))
    refine cz (iO t (by omega)) ?_
    (refine WpL.go _ rfl fun Y y=>?_);repeat (first|(apply fw;focus ((with_reducible constructor)<;>constructor))|((first|with_reducible refine ga _ rfl fun Y y=>?_|apply ri);simp only [zb,seval,w43,D.cc_eq,D.k,D.c,D.neg,D.mag,D.t,D.l,hV];refine fz y ?_;clear y Y))
    refine WpL.call rfl (aB (P:=Tryz.prog) rfl) (CallA.shut rfl rfl (by kernel_rfl) (by first|exact ALes.refl _|((try simp only [D.cc_eq,D.k,D.c,D.neg,D.mag,D.t,D.l]);(repeat (first|exact ALes.refl _|refine ALes.cons ?_ ?_|exact ALe.refl _|exact ALe.nil|refine ALe.agg ?_|exact CLes.refl _|refine CLes.nil ?_|refine CLes.cons ?_)))) (by first|rfl|simp [dF,ksh,D.cc_eq,D.k,D.c,D.neg,D.mag,D.t,D.l]) (iP (.mk 5 c neg mag t l)) ?_)
    (refine WpL.go _ rfl fun Y y=>?_);repeat (first|(apply fw;focus ((with_reducible constructor)<;>constructor))|((first|with_reducible refine ga _ rfl fun Y y=>?_|apply ri);simp only [zb,seval,w43,hbr,hV,kL,hcnt,f62];refine fz y ?_;clear y Y))
    refine ye (by simp only [zb,seval,w43];rfl) (by simp only [zv];rfl) ?_
    first|(simp;done)|(congr 4;apply propext;omega)|(simp;omega)
   ·have f62:decide ((runeCount t:Int)≤62)=false:=by simp;omega
    have hR:gN t 0=false:=by simp [gN,hV,h62]
    rw [hR]
    refine fi Tryz.func43 Tryz.ntmps43 Tryz.results43 ?_
    repeat (first|(apply fw;focus ((with_reducible constructor)<;>constructor))|((first|with_reducible refine ga _ rfl fun Y y=>?_|apply ri);simp only [zb,seval,w43,D.cc_eq,D.k,D.c,D.neg,D.mag,D.t,D.l];refine fz y ?_;clear y Y))
    refine cz (iO t (by omega)) ?_
    (refine WpL.go _ rfl fun Y y=>?_);repeat (first|(apply fw;focus ((with_reducible constructor)<;>constructor))|((first|with_reducible refine ga _ rfl fun Y y=>?_|apply ri);simp only [zb,seval,w43,D.cc_eq,D.k,D.c,D.neg,D.mag,D.t,D.l,hV];refine fz y ?_;clear y Y))
    refine WpL.call rfl (aB (P:=Tryz.prog) rfl) (CallA.shut rfl rfl (by kernel_rfl) (by first|exact ALes.refl _|((try simp only [D.cc_eq,D.k,D.c,D.neg,D.mag,D.t,D.l]);(repeat (first|exact ALes.refl _|refine ALes.cons ?_ ?_|exact ALe.refl _|exact ALe.nil|refine ALe.agg ?_|exact CLes.refl _|refine CLes.nil ?_|refine CLes.cons ?_)))) (by first|rfl|simp [dF,ksh,D.cc_eq,D.k,D.c,D.neg,D.mag,D.t,D.l]) (iP (.mk 5 c neg mag t l)) ?_)
    (refine WpL.go _ rfl fun Y y=>?_);repeat (first|(apply fw;focus ((with_reducible constructor)<;>constructor))|((first|with_reducible refine ga _ rfl fun Y y=>?_|apply ri);simp only [zb,seval,w43,hbr,hV,kL,hcnt,f62];refine fz y ?_;clear y Y))
    refine ye (by simp only [zb,seval,w43];rfl) (by simp only [zv];rfl) ?_
    rfl
  ·have hbr:eF false false true false (.mk 5 c neg mag t l)=false:=by
    cases h:eF false false true false (.mk 5 c neg mag t l) with
    | false=>rfl
    | true=>exact absurd (by simpa [fF,D.k] using fA.1 h) hb
   rw [nJ hb]
   refine fi Tryz.func43 Tryz.ntmps43 Tryz.results43 ?_
   repeat (first|(apply fw;focus ((with_reducible constructor)<;>constructor))|((first|with_reducible refine ga _ rfl fun Y y=>?_|apply ri);simp only [zb,seval,w43,D.cc_eq,D.k,D.c,D.neg,D.mag,D.t,D.l];refine fz y ?_;clear y Y))
   refine cz (iO t (by omega)) ?_
   (refine WpL.go _ rfl fun Y y=>?_);repeat (first|(apply fw;focus ((with_reducible constructor)<;>constructor))|((first|with_reducible refine ga _ rfl fun Y y=>?_|apply ri);simp only [zb,seval,w43,D.cc_eq,D.k,D.c,D.neg,D.mag,D.t,D.l];refine fz y ?_;clear y Y))
   refine WpL.call rfl (aB (P:=Tryz.prog) rfl) (CallA.shut rfl rfl (by kernel_rfl) (by first|exact ALes.refl _|((try simp only [D.cc_eq,D.k,D.c,D.neg,D.mag,D.t,D.l]);(repeat (first|exact ALes.refl _|refine ALes.cons ?_ ?_|exact ALe.refl _|exact ALe.nil|refine ALe.agg ?_|exact CLes.refl _|refine CLes.nil ?_|refine CLes.cons ?_)))) (by first|rfl|simp [dF,ksh,D.cc_eq,D.k,D.c,D.neg,D.mag,D.t,D.l]) (iP (.mk 5 c neg mag t l)) ?_)
   (refine WpL.go _ rfl fun Y y=>?_);repeat (first|(apply fw;focus ((with_reducible constructor)<;>constructor))|((first|with_reducible refine ga _ rfl fun Y y=>?_|apply ri);simp only [zb,seval,w43,hbr];refine fz y ?_;clear y Y))
   refine ye (by simp only [zb,seval,w43];rfl) (by simp only [zv];rfl) ?_
   rfl
 by_cases h6:k=6
 ·subst h6
  by_cases hb:fF (.mk 6 c neg mag t l)
  ·have hbr:eF false false true false (.mk 6 c neg mag t l)=true:=fA.2 (by simpa [fF,D.k] using hb)
   rw [show cA (.mk 6 c neg mag t l)=gN t 1 from by first|exact wG hb|exact sG hb]
   rcases hV:validD t.data.toList
   ·have hR:gN t 1=false:=by simp [gN,hV]
    rw [hR]
    refine fi Tryz.func43 Tryz.ntmps43 Tryz.results43 ?_
    repeat (first|(apply fw;focus ((with_reducible constructor)<;>constructor))|((first|with_reducible refine ga _ rfl fun Y y=>?_|apply ri);simp only [zb,seval,w43,D.cc_eq,D.k,D.c,D.neg,D.mag,D.t,D.l];refine fz y ?_;clear y Y))
    refine cz (iO t (by omega)) ?_
    (refine WpL.go _ rfl fun Y y=>?_);repeat (first|(apply fw;focus ((with_reducible constructor)<;>constructor))|((first|with_reducible refine ga _ rfl fun Y y=>?_|apply ri);simp only [zb,seval,w43,D.cc_eq,D.k,D.c,D.neg,D.mag,D.t,D.l,hV];refine fz y ?_;clear y Y))
    refine WpL.call rfl (aB (P:=Tryz.prog) rfl) (CallA.shut rfl rfl (by kernel_rfl) (by first|exact ALes.refl _|((try simp only [D.cc_eq,D.k,D.c,D.neg,D.mag,D.t,D.l]);(repeat (first|exact ALes.refl _|refine ALes.cons ?_ ?_|exact ALe.refl _|exact ALe.nil|refine ALe.agg ?_|exact CLes.refl _|refine CLes.nil ?_|refine CLes.cons ?_)))) (by first|rfl|simp [dF,ksh,D.cc_eq,D.k,D.c,D.neg,D.mag,D.t,D.l]) (iP (.mk 6 c neg mag t l)) ?_)
    (refine WpL.go _ rfl fun Y y=>?_);repeat (first|(apply fw;focus ((with_reducible constructor)<;>constructor))|((first|with_reducible refine ga _ rfl fun Y y=>?_|apply ri);simp only [zb,seval,w43,hbr,hV];refine fz y ?_;clear y Y))
    refine ye (by simp only [zb,seval,w43];rfl) (by simp only [zv];rfl) ?_
    rfl
   by_cases h62:runeCount t≤62
   ·have f62:decide ((runeCount t:Int)≤62)=true:=by simp;omega
    have hR:gN t 1=decide ((1:Int)≤runeCount t):=by simp [gN,hV,h62]
    rw [hR]
    refine fi Tryz.func43 Tryz.ntmps43 Tryz.results43 ?_
    repeat (first|(apply fw;focus ((with_reducible constructor)<;>constructor))|((first|with_reducible refine ga _ rfl fun Y y=>?_|apply ri);simp only [zb,seval,w43,D.cc_eq,D.k,D.c,D.neg,D.mag,D.t,D.l];refine fz y ?_;clear y Y))
    refine cz (iO t (by omega)) ?_
    (refine WpL.go _ rfl fun Y y=>?_);repeat (first|(apply fw;focus ((with_reducible constructor)<;>constructor))|((first|with_reducible refine ga _ rfl fun Y y=>?_|apply ri);simp only [zb,seval,w43,D.cc_eq,D.k,D.c,D.neg,D.mag,D.t,D.l,hV];refine fz y ?_;clear y Y))
    refine WpL.call rfl (aB (P:=Tryz.prog) rfl) (CallA.shut rfl rfl (by kernel_rfl) (by first|exact ALes.refl _|((try simp only [D.cc_eq,D.k,D.c,D.neg,D.mag,D.t,D.l]);(repeat (first|exact ALes.refl _|refine ALes.cons ?_ ?_|exact ALe.refl _|exact ALe.nil|refine ALe.agg ?_|exact CLes.refl _|refine CLes.nil ?_|refine CLes.cons ?_)))) (by first|rfl|simp [dF,ksh,D.cc_eq,D.k,D.c,D.neg,D.mag,D.t,D.l]) (iP (.mk 6 c neg mag t l)) ?_)
    (refine WpL.go _ rfl fun Y y=>?_);repeat (first|(apply fw;focus ((with_reducible constructor)<;>constructor))|((first|with_reducible refine ga _ rfl fun Y y=>?_|apply ri);simp only [zb,seval,w43,hbr,hV,kL,hcnt,f62];refine fz y ?_;clear y Y))
    refine ye (by simp only [zb,seval,w43];rfl) (by simp only [zv];rfl) ?_
    first|(simp;done)|(congr 4;apply propext;omega)|(simp;omega)
   ·have f62:decide ((runeCount t:Int)≤62)=false:=by simp;omega
    have hR:gN t 1=false:=by simp [gN,hV,h62]
    rw [hR]
    refine fi Tryz.func43 Tryz.ntmps43 Tryz.results43 ?_
    repeat (first|(apply fw;focus ((with_reducible constructor)<;>constructor))|((first|with_reducible refine ga _ rfl fun Y y=>?_|apply ri);simp only [zb,seval,w43,D.cc_eq,D.k,D.c,D.neg,D.mag,D.t,D.l];refine fz y ?_;clear y Y))
    refine cz (iO t (by omega)) ?_
    (refine WpL.go _ rfl fun Y y=>?_);repeat (first|(apply fw;focus ((with_reducible constructor)<;>constructor))|((first|with_reducible refine ga _ rfl fun Y y=>?_|apply ri);simp only [zb,seval,w43,D.cc_eq,D.k,D.c,D.neg,D.mag,D.t,D.l,hV];refine fz y ?_;clear y Y))
    refine WpL.call rfl (aB (P:=Tryz.prog) rfl) (CallA.shut rfl rfl (by kernel_rfl) (by first|exact ALes.refl _|((try simp only [D.cc_eq,D.k,D.c,D.neg,D.mag,D.t,D.l]);(repeat (first|exact ALes.refl _|refine ALes.cons ?_ ?_|exact ALe.refl _|exact ALe.nil|refine ALe.agg ?_|exact CLes.refl _|refine CLes.nil ?_|refine CLes.cons ?_)))) (by first|rfl|simp [dF,ksh,D.cc_eq,D.k,D.c,D.neg,D.mag,D.t,D.l]) (iP (.mk 6 c neg mag t l)) ?_)
    (refine WpL.go _ rfl fun Y y=>?_);repeat (first|(apply fw;focus ((with_reducible constructor)<;>constructor))|((first|with_reducible refine ga _ rfl fun Y y=>?_|apply ri);simp only [zb,seval,w43,hbr,hV,kL,hcnt,f62];refine fz y ?_;clear y Y))
    refine ye (by simp only [zb,seval,w43];rfl) (by simp only [zv];rfl) ?_
    rfl
  ·have hbr:eF false false true false (.mk 6 c neg mag t l)=false:=by
    cases h:eF false false true false (.mk 6 c neg mag t l) with
    | false=>rfl
    | true=>exact absurd (by simpa [fF,D.k] using fA.1 h) hb
   rw [nJ hb]
   refine fi Tryz.func43 Tryz.ntmps43 Tryz.results43 ?_
   repeat (first|(apply fw;focus ((with_reducible constructor)<;>constructor))|((first|with_reducible refine ga _ rfl fun Y y=>?_|apply ri);simp only [zb,seval,w43,D.cc_eq,D.k,D.c,D.neg,D.mag,D.t,D.l];refine fz y ?_;clear y Y))
   refine cz (iO t (by omega)) ?_
   (refine WpL.go _ rfl fun Y y=>?_);repeat (first|(apply fw;focus ((with_reducible constructor)<;>constructor))|((first|with_reducible refine ga _ rfl fun Y y=>?_|apply ri);simp only [zb,seval,w43,D.cc_eq,D.k,D.c,D.neg,D.mag,D.t,D.l];refine fz y ?_;clear y Y))
   refine WpL.call rfl (aB (P:=Tryz.prog) rfl) (CallA.shut rfl rfl (by kernel_rfl) (by first|exact ALes.refl _|((try simp only [D.cc_eq,D.k,D.c,D.neg,D.mag,D.t,D.l]);(repeat (first|exact ALes.refl _|refine ALes.cons ?_ ?_|exact ALe.refl _|exact ALe.nil|refine ALe.agg ?_|exact CLes.refl _|refine CLes.nil ?_|refine CLes.cons ?_)))) (by first|rfl|simp [dF,ksh,D.cc_eq,D.k,D.c,D.neg,D.mag,D.t,D.l]) (iP (.mk 6 c neg mag t l)) ?_)
   (refine WpL.go _ rfl fun Y y=>?_);repeat (first|(apply fw;focus ((with_reducible constructor)<;>constructor))|((first|with_reducible refine ga _ rfl fun Y y=>?_|apply ri);simp only [zb,seval,w43,hbr];refine fz y ?_;clear y Y))
   refine ye (by simp only [zb,seval,w43];rfl) (by simp only [zv];rfl) ?_
   rfl
 have hno:cA (.mk k c neg mag t l)=false:=pX fun hp=>by
  rw [D.Plain] at hp
  omega
 have g0:(k == 0)=false:=by simp;omega
 have g1:(k == 1)=false:=by simp;omega
 have g2:(k == 2)=false:=by simp;omega
 have g3:(k == 3)=false:=by simp;omega
 have g4:(k == 4)=false:=by simp;omega
 have g5:(k == 5)=false:=by simp;omega
 have g6:(k == 6)=false:=by simp;omega
 have g7:(k == 7)=false:=by simp;omega
 have g8:(k == 8)=false:=by simp;omega
 have g9:(k == 9)=false:=by simp;omega
 have g10:(k == 10)=false:=by simp;omega
 rw [hno]
 refine fi Tryz.func43 Tryz.ntmps43 Tryz.results43 ?_
 repeat (first|(apply fw;focus ((with_reducible constructor)<;>constructor))|((first|with_reducible refine ga _ rfl fun Y y=>?_|apply ri);simp only [zb,seval,w43,D.cc_eq,D.k,D.c,D.neg,D.mag,D.t,D.l,g0,g1,g2,g3,g4,g5,g6,g7,g8,g9,g10];refine fz y ?_;clear y Y))
 refine ye (by simp only [zb,seval,w43];rfl) (by simp only [zv];rfl) ?_
 rfl
def XW (k c:Int) (neg:Bool) (mag:List Int) (t:ByteArray) (l:List D) (n:Nat) (st:St):Prop:=∃i:Nat,n=l.length-i∧i≤l.length∧(∀j (h:j<l.length),j<i→l[j].Plain) ∧
 st=⟨[(5,.one (.v (.int .i64 i))),(1,.one (.ptr 0 1 0 0))],[some ⟨28,6,[[.v (.int .i64 k),.v (.int .i32 c),.v (.bool neg),.sl 1 (mag.map fun n=>[.v (.int .u32 n)]),.v (.string t),.sl 6 (l.map D.cc)]]⟩]⟩
theorem PL (n:Nat) (ih:FN n):FN (n+1):=by
 intro d hh hok hsm
 obtain⟨k,c,neg,mag,t,l⟩:=d
 have hmg:=hok.mag
 simp only [D.mag] at hmg
 obtain⟨hst,hsmag,hsl,hsx⟩:=hsm
 simp only [D.t,D.mag,D.l] at hst hsmag hsl hsx
 have hhl:∀(i:Nat) (hi:i<l.length),l[i].ht≤n:=fun i hi=>by
  have:=D.ht_lt (d:=.mk k c neg mag t l) (i:=i) hi
  simp only [D.l] at this;omega
 have hxs:∀(i:Nat) (hi:i<l.length),l[i].Ok:=fun i hi=>hok.get i hi
 by_cases h7:k=7
 ·subst h7
  by_cases hb:fF (.mk 7 c neg mag t l)
  case neg =>
   have hbr:eF false false false true (.mk 7 c neg mag t l)=false:=by
    cases h:eF false false false true (.mk 7 c neg mag t l) with
    | false=>rfl
    | true=>exact absurd (by simpa [fF,D.k] using fA.1 h) hb
   rw [nJ hb]
   refine fi Tryz.func43 Tryz.ntmps43 Tryz.results43 ?_
   repeat (first|(apply fw;focus ((with_reducible constructor)<;>constructor))|((first|with_reducible refine ga _ rfl fun Y y=>?_|apply ri);simp only [zb,seval,w43,D.cc_eq,D.k,D.c,D.neg,D.mag,D.t,D.l];refine fz y ?_;clear y Y))
   refine WpL.call rfl (aB (P:=Tryz.prog) rfl) (CallA.shut rfl rfl (by kernel_rfl) (by first|exact ALes.refl _|((try simp only [D.cc_eq,D.k,D.c,D.neg,D.mag,D.t,D.l]);(repeat (first|exact ALes.refl _|refine ALes.cons ?_ ?_|exact ALe.refl _|exact ALe.nil|refine ALe.agg ?_|exact CLes.refl _|refine CLes.nil ?_|refine CLes.cons ?_)))) (by first|rfl|simp [dF,ksh,D.cc_eq,D.k,D.c,D.neg,D.mag,D.t,D.l]) (kY (.mk 7 c neg mag t l)) ?_)
   (refine WpL.go _ rfl fun Y y=>?_);repeat (first|(apply fw;focus ((with_reducible constructor)<;>constructor))|((first|with_reducible refine ga _ rfl fun Y y=>?_|apply ri);simp only [zb,seval,w43,hbr];refine fz y ?_;clear y Y))
   refine ye (by simp only [zb,seval,w43];rfl) (by simp only [zv];rfl) ?_
   rfl
  have hbr:eF false false false true (.mk 7 c neg mag t l)=true:=fA.2 (by simpa [fF,D.k] using hb)
  rw [show cA (.mk 7 c neg mag t l)=(decide (l.length=2)&&iB l) from by first|exact tW hb|exact wH hb]
  have f2:((l.length:Int) != 2)=!decide (l.length=2):=by
   by_cases h:l.length=2
   ·simp [h]
   ·simp [h];omega
  have f62:decide ((62:Int)<l.length)=!decide (l.length≤62):=by
   by_cases h:l.length≤62
   ·simp [h];omega
   ·simp [h];omega
  by_cases hL:l.length=2
  case neg =>
   have hLd:=decide_eq_false hL
   rw [hLd,Bool.false_and]
   refine fi Tryz.func43 Tryz.ntmps43 Tryz.results43 ?_
   repeat (first|(apply fw;focus ((with_reducible constructor)<;>constructor))|((first|with_reducible refine ga _ rfl fun Y y=>?_|apply ri);simp only [zb,seval,w43,D.cc_eq,D.k,D.c,D.neg,D.mag,D.t,D.l];refine fz y ?_;clear y Y))
   refine WpL.call rfl (aB (P:=Tryz.prog) rfl) (CallA.shut rfl rfl (by kernel_rfl) (by first|exact ALes.refl _|((try simp only [D.cc_eq,D.k,D.c,D.neg,D.mag,D.t,D.l]);(repeat (first|exact ALes.refl _|refine ALes.cons ?_ ?_|exact ALe.refl _|exact ALe.nil|refine ALe.agg ?_|exact CLes.refl _|refine CLes.nil ?_|refine CLes.cons ?_)))) (by first|rfl|simp [dF,ksh,D.cc_eq,D.k,D.c,D.neg,D.mag,D.t,D.l]) (kY (.mk 7 c neg mag t l)) ?_)
   (refine WpL.go _ rfl fun Y y=>?_);repeat (first|(apply fw;focus ((with_reducible constructor)<;>constructor))|((first|with_reducible refine ga _ rfl fun Y y=>?_|apply ri);simp only [zb,seval,w43,hbr,D.cc_eq,D.k,D.c,D.neg,D.mag,D.t,D.l,f2,f62,hLd];refine fz y ?_;clear y Y))
   refine ye (by simp only [zb,seval,w43];rfl) (by simp only [zv];rfl) ?_
   rfl
  have hLd:=decide_eq_true hL
  have hL62:l.length≤62:=by omega
  have hLd2:=decide_eq_true hL62
  rw [hLd,Bool.true_and]
  refine fi Tryz.func43 Tryz.ntmps43 Tryz.results43 ?_
  repeat (first|(apply fw;focus ((with_reducible constructor)<;>constructor))|((first|with_reducible refine ga _ rfl fun Y y=>?_|apply ri);simp only [zb,seval,w43,D.cc_eq,D.k,D.c,D.neg,D.mag,D.t,D.l];refine fz y ?_;clear y Y))
  refine WpL.call rfl (aB (P:=Tryz.prog) rfl) (CallA.shut rfl rfl (by kernel_rfl) (by first|exact ALes.refl _|((try simp only [D.cc_eq,D.k,D.c,D.neg,D.mag,D.t,D.l]);(repeat (first|exact ALes.refl _|refine ALes.cons ?_ ?_|exact ALe.refl _|exact ALe.nil|refine ALe.agg ?_|exact CLes.refl _|refine CLes.nil ?_|refine CLes.cons ?_)))) (by first|rfl|simp [dF,ksh,D.cc_eq,D.k,D.c,D.neg,D.mag,D.t,D.l]) (kY (.mk 7 c neg mag t l)) ?_)
  (refine WpL.go _ rfl fun Y y=>?_);repeat (first|(apply fw;focus ((with_reducible constructor)<;>constructor))|((first|with_reducible refine ga _ rfl fun Y y=>?_|apply ri);simp only [zb,seval,w43,hbr,D.cc_eq,D.k,D.c,D.neg,D.mag,D.t,D.l,f2,f62,hLd,hLd2];refine fz y ?_;clear y Y))
  refine WpA.loop (XW 7 c neg mag t l) l.length ?_ ⟨0,rfl,Nat.zero_le _,fun j _ h=>absurd h (Nat.not_lt_zero _),rfl⟩ ?_
  ·exact Le.drop 1 (Nat.zero_le _) rfl (by simp [Sub,find]) rfl (by simp [ObBd,C.bd])
  intro n' st hI
  obtain⟨i,rfl,hi,hpl,rfl⟩:=hI
  by_cases hlt:i<l.length
  case neg =>
   have hd0:decide ((i:Int)<(l.length:Int))=false:=by simp;omega
   rw [show iB l=true from jQ.2 ((Plains.iff l).2 fun j hj=>hpl j hj (by omega))]
   repeat (first|(apply fw;focus ((with_reducible constructor)<;>constructor))|((first|with_reducible refine ga _ rfl fun Y y=>?_|apply ri);simp only [zb,seval,w43,hd0];refine fz y ?_;clear y Y))
   repeat (first|(apply fw;focus ((with_reducible constructor)<;>constructor))|((first|with_reducible refine ga _ rfl fun Y y=>?_|apply ri);simp only [zb,seval,w43,hd0];refine fz y ?_;clear y Y))
   refine ye (by simp only [zb,seval,w43];rfl) (by simp only [zv];rfl) ?_
   rfl
  have hd1:decide ((i:Int)<(l.length:Int))=true:=by simp;omega
  have hw1:IntKind.i64.wrap ((i:Int)+1)=((i+1:Nat):Int):=by rw [dA (by omega) (by omega)];omega
  have hgc:=vF hlt
  rw [D.cc_eq] at hgc
  have hih:=ih l[i] (hhl i hlt) (hxs i hlt) (hsx _ (List.getElem_mem hlt))
  rw [D.cc_eq] at hih
  repeat (first|(apply fw;focus ((with_reducible constructor)<;>constructor))|((first|with_reducible refine ga _ rfl fun Y y=>?_|apply ri);simp only [zb,seval,w43,hd1,hgc,hw1];refine fz y ?_;clear y Y))
  refine cz (hih) ?_
  rcases hpb:cA l[i] with _|_
  ·rw [rJ fun h=>by have:=dC.2 ((Plains.iff l).1 h i hlt);rw [hpb] at this;cases this]
   (refine WpL.go _ rfl fun Y y=>?_);repeat (first|(apply fw;focus ((with_reducible constructor)<;>constructor))|((first|with_reducible refine ga _ rfl fun Y y=>?_|apply ri);simp only [zb,seval,w43,hw1];refine fz y ?_;clear y Y))
   refine ye (by simp only [zb,seval,w43];rfl) (by simp only [zv];rfl) ?_
   rfl
  ·(refine WpL.go _ rfl fun Y y=>?_);repeat (first|(apply fw;focus ((with_reducible constructor)<;>constructor))|((first|with_reducible refine ga _ rfl fun Y y=>?_|apply ri);simp only [zb,seval,w43,hw1];refine fz y ?_;clear y Y))
   refine⟨l.length-(i+1),_,by omega,?_,i+1,rfl,hlt,fun j hj hji=>?_,rfl⟩
   ·exact Le.drop 1 (Nat.zero_le _) rfl (by simp [Sub,find]) rfl (by simp [ObBd,C.bd])
   ·rcases Nat.lt_succ_iff_lt_or_eq.1 hji with h|rfl
    ·exact hpl j hj h
    ·exact dC.1 hpb
 by_cases h8:k=8
 ·subst h8
  by_cases hb:fF (.mk 8 c neg mag t l)
  case neg =>
   have hbr:eF false false false true (.mk 8 c neg mag t l)=false:=by
    cases h:eF false false false true (.mk 8 c neg mag t l) with
    | false=>rfl
    | true=>exact absurd (by simpa [fF,D.k] using fA.1 h) hb
   rw [nJ hb]
   refine fi Tryz.func43 Tryz.ntmps43 Tryz.results43 ?_
   repeat (first|(apply fw;focus ((with_reducible constructor)<;>constructor))|((first|with_reducible refine ga _ rfl fun Y y=>?_|apply ri);simp only [zb,seval,w43,D.cc_eq,D.k,D.c,D.neg,D.mag,D.t,D.l];refine fz y ?_;clear y Y))
   refine WpL.call rfl (aB (P:=Tryz.prog) rfl) (CallA.shut rfl rfl (by kernel_rfl) (by first|exact ALes.refl _|((try simp only [D.cc_eq,D.k,D.c,D.neg,D.mag,D.t,D.l]);(repeat (first|exact ALes.refl _|refine ALes.cons ?_ ?_|exact ALe.refl _|exact ALe.nil|refine ALe.agg ?_|exact CLes.refl _|refine CLes.nil ?_|refine CLes.cons ?_)))) (by first|rfl|simp [dF,ksh,D.cc_eq,D.k,D.c,D.neg,D.mag,D.t,D.l]) (kY (.mk 8 c neg mag t l)) ?_)
   (refine WpL.go _ rfl fun Y y=>?_);repeat (first|(apply fw;focus ((with_reducible constructor)<;>constructor))|((first|with_reducible refine ga _ rfl fun Y y=>?_|apply ri);simp only [zb,seval,w43,hbr];refine fz y ?_;clear y Y))
   refine ye (by simp only [zb,seval,w43];rfl) (by simp only [zv];rfl) ?_
   rfl
  have hbr:eF false false false true (.mk 8 c neg mag t l)=true:=fA.2 (by simpa [fF,D.k] using hb)
  rw [show cA (.mk 8 c neg mag t l)=(decide (l.length≤62)&&iB l) from by first|exact tW hb|exact wH hb]
  have f2:((l.length:Int) != 2)=!decide (l.length=2):=by
   by_cases h:l.length=2
   ·simp [h]
   ·simp [h];omega
  have f62:decide ((62:Int)<l.length)=!decide (l.length≤62):=by
   by_cases h:l.length≤62
   ·simp [h];omega
   ·simp [h];omega
  by_cases hL:l.length≤62
  case neg =>
   have hLd:=decide_eq_false hL
   rw [hLd,Bool.false_and]
   refine fi Tryz.func43 Tryz.ntmps43 Tryz.results43 ?_
   repeat (first|(apply fw;focus ((with_reducible constructor)<;>constructor))|((first|with_reducible refine ga _ rfl fun Y y=>?_|apply ri);simp only [zb,seval,w43,D.cc_eq,D.k,D.c,D.neg,D.mag,D.t,D.l];refine fz y ?_;clear y Y))
   refine WpL.call rfl (aB (P:=Tryz.prog) rfl) (CallA.shut rfl rfl (by kernel_rfl) (by first|exact ALes.refl _|((try simp only [D.cc_eq,D.k,D.c,D.neg,D.mag,D.t,D.l]);(repeat (first|exact ALes.refl _|refine ALes.cons ?_ ?_|exact ALe.refl _|exact ALe.nil|refine ALe.agg ?_|exact CLes.refl _|refine CLes.nil ?_|refine CLes.cons ?_)))) (by first|rfl|simp [dF,ksh,D.cc_eq,D.k,D.c,D.neg,D.mag,D.t,D.l]) (kY (.mk 8 c neg mag t l)) ?_)
   (refine WpL.go _ rfl fun Y y=>?_);repeat (first|(apply fw;focus ((with_reducible constructor)<;>constructor))|((first|with_reducible refine ga _ rfl fun Y y=>?_|apply ri);simp only [zb,seval,w43,hbr,D.cc_eq,D.k,D.c,D.neg,D.mag,D.t,D.l,f2,f62,hLd];refine fz y ?_;clear y Y))
   refine ye (by simp only [zb,seval,w43];rfl) (by simp only [zv];rfl) ?_
   rfl
  have hLd:=decide_eq_true hL
  have hL62:l.length≤62:=by omega
  have hLd2:=decide_eq_true hL62
  rw [hLd,Bool.true_and]
  refine fi Tryz.func43 Tryz.ntmps43 Tryz.results43 ?_
  repeat (first|(apply fw;focus ((with_reducible constructor)<;>constructor))|((first|with_reducible refine ga _ rfl fun Y y=>?_|apply ri);simp only [zb,seval,w43,D.cc_eq,D.k,D.c,D.neg,D.mag,D.t,D.l];refine fz y ?_;clear y Y))
  refine WpL.call rfl (aB (P:=Tryz.prog) rfl) (CallA.shut rfl rfl (by kernel_rfl) (by first|exact ALes.refl _|((try simp only [D.cc_eq,D.k,D.c,D.neg,D.mag,D.t,D.l]);(repeat (first|exact ALes.refl _|refine ALes.cons ?_ ?_|exact ALe.refl _|exact ALe.nil|refine ALe.agg ?_|exact CLes.refl _|refine CLes.nil ?_|refine CLes.cons ?_)))) (by first|rfl|simp [dF,ksh,D.cc_eq,D.k,D.c,D.neg,D.mag,D.t,D.l]) (kY (.mk 8 c neg mag t l)) ?_)
  (refine WpL.go _ rfl fun Y y=>?_);repeat (first|(apply fw;focus ((with_reducible constructor)<;>constructor))|((first|with_reducible refine ga _ rfl fun Y y=>?_|apply ri);simp only [zb,seval,w43,hbr,D.cc_eq,D.k,D.c,D.neg,D.mag,D.t,D.l,f2,f62,hLd,hLd2];refine fz y ?_;clear y Y))
  refine WpA.loop (XW 8 c neg mag t l) l.length ?_ ⟨0,rfl,Nat.zero_le _,fun j _ h=>absurd h (Nat.not_lt_zero _),rfl⟩ ?_
  ·exact Le.drop 1 (Nat.zero_le _) rfl (by simp [Sub,find]) rfl (by simp [ObBd,C.bd])
  intro n' st hI
  obtain⟨i,rfl,hi,hpl,rfl⟩:=hI
  by_cases hlt:i<l.length
  case neg =>
   have hd0:decide ((i:Int)<(l.length:Int))=false:=by simp;omega
   rw [show iB l=true from jQ.2 ((Plains.iff l).2 fun j hj=>hpl j hj (by omega))]
   repeat (first|(apply fw;focus ((with_reducible constructor)<;>constructor))|((first|with_reducible refine ga _ rfl fun Y y=>?_|apply ri);simp only [zb,seval,w43,hd0];refine fz y ?_;clear y Y))
   repeat (first|(apply fw;focus ((with_reducible constructor)<;>constructor))|((first|with_reducible refine ga _ rfl fun Y y=>?_|apply ri);simp only [zb,seval,w43,hd0];refine fz y ?_;clear y Y))
   refine ye (by simp only [zb,seval,w43];rfl) (by simp only [zv];rfl) ?_
   rfl
  have hd1:decide ((i:Int)<(l.length:Int))=true:=by simp;omega
  have hw1:IntKind.i64.wrap ((i:Int)+1)=((i+1:Nat):Int):=by rw [dA (by omega) (by omega)];omega
  have hgc:=vF hlt
  rw [D.cc_eq] at hgc
  have hih:=ih l[i] (hhl i hlt) (hxs i hlt) (hsx _ (List.getElem_mem hlt))
  rw [D.cc_eq] at hih
  repeat (first|(apply fw;focus ((with_reducible constructor)<;>constructor))|((first|with_reducible refine ga _ rfl fun Y y=>?_|apply ri);simp only [zb,seval,w43,hd1,hgc,hw1];refine fz y ?_;clear y Y))
  refine cz (hih) ?_
  rcases hpb:cA l[i] with _|_
  ·rw [rJ fun h=>by have:=dC.2 ((Plains.iff l).1 h i hlt);rw [hpb] at this;cases this]
   (refine WpL.go _ rfl fun Y y=>?_);repeat (first|(apply fw;focus ((with_reducible constructor)<;>constructor))|((first|with_reducible refine ga _ rfl fun Y y=>?_|apply ri);simp only [zb,seval,w43,hw1];refine fz y ?_;clear y Y))
   refine ye (by simp only [zb,seval,w43];rfl) (by simp only [zv];rfl) ?_
   rfl
  ·(refine WpL.go _ rfl fun Y y=>?_);repeat (first|(apply fw;focus ((with_reducible constructor)<;>constructor))|((first|with_reducible refine ga _ rfl fun Y y=>?_|apply ri);simp only [zb,seval,w43,hw1];refine fz y ?_;clear y Y))
   refine⟨l.length-(i+1),_,by omega,?_,i+1,rfl,hlt,fun j hj hji=>?_,rfl⟩
   ·exact Le.drop 1 (Nat.zero_le _) rfl (by simp [Sub,find]) rfl (by simp [ObBd,C.bd])
   ·rcases Nat.lt_succ_iff_lt_or_eq.1 hji with h|rfl
    ·exact hpl j hj h
    ·exact dC.1 hpb
 exact JK k c neg mag t l hmg hst hsmag h7 h8
theorem xR:∀n,FN n
 | 0=>fun d h _ _=>absurd h (by cases d;rw [D.ht];omega)
 | n+1=>PL n (xR n)
theorem xS (d:D) (hb:d.count<1000000000):Pure Tryz.prog 20 [.agg d.cc] (.one (.v (.int .i64 d.depth))):=by
 refine fB rfl fun w vs hg hv=>?_
 obtain⟨v,rfl,hv1⟩:=hv.one1
 exact LX d w v hb hv1.isD
theorem PM (d:D) (hok:d.Ok) (hs:qH d.ht d) (hb:d.count<1000000000):Pure Tryz.prog 22 [.agg d.cc] (.one (.v (.bool (oD d)))):=by
 have hp:=xR d.ht d (Nat.le_refl _) hok hs
 have hd:=xS d hb
 rw [D.cc_eq] at hp hd ⊢
 unfold oD
 rcases hb:cA d with _|_
 ·rw [hb] at hp
  refine fi Tryz.func22 Tryz.ntmps22 Tryz.results22 ?_
  repeat (first|(apply fw;focus ((with_reducible constructor)<;>constructor))|((first|with_reducible refine ga _ rfl fun Y y=>?_|(refine ca ?_;apply Exists.intro;constructor;assumption;intro Y y)|apply ri);simp only [zb,seval,aW];refine fz y ?_;clear y Y))
  refine ye (by simp only [zb,seval,aW];rfl) (by simp only [zv];rfl) ?_
  rfl
 ·rw [hb] at hp
  refine fi Tryz.func22 Tryz.ntmps22 Tryz.results22 ?_
  repeat (first|(apply fw;focus ((with_reducible constructor)<;>constructor))|((first|with_reducible refine ga _ rfl fun Y y=>?_|(refine ca ?_;apply Exists.intro;constructor;assumption;intro Y y)|apply ri);simp only [zb,seval,aW];refine fz y ?_;clear y Y))
  refine ye (by simp only [zb,seval,aW];rfl) (by simp only [zv];rfl) ?_
  simp;omega
end Go.Proofs.YtaeioidifpebdaaGreatDoor
end
