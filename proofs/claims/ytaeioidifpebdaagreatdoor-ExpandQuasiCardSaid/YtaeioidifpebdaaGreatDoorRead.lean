
import Derived.Test.YtaeioidifpebdaaGreatDoorPlain2
import Derived.Test.YtaeioidifpebdaaGreatDoorOwn
import Derived.Test.YtaeioidifpebdaaGreatDoorChecked
import Derived.ChangeArms
import Derived.ChangeStays
import Derived.SizedLaws
import Derived.KernelRfl
namespace Go.Proofs.YtaeioidifpebdaaGreatDoor
open Go.RowKit Go.ChangeShapes
set_option linter.unusedSimpArgs false
set_option linter.unusedVariables false
set_option maxRecDepth 100000

section
variable {H:Type} {enc:TypeId × Value→H} {w:World} {base:Nat} {spare:Nat→Bool} {held:Bool}
theorem rB {P:Program} {e:TypeId}:∀{l:List (DataW H)} {d:DataW H},d∈l→∀n∈d.weights P e,n∈DataW.weightsAll P e l
 | x::l,d,hd,n,hn=>by
  rw [DataW.weightsAll]
  rcases List.mem_cons.1 hd with rfl|hd
  ·exact List.mem_append_left _ hn
  ·exact List.mem_append_right _ (rB hd n hn)

theorem PU {α:Type} (f:α→V) (good:α→Prop) {P:Program} {t e:TypeId} {n:Nat} {cs:List Value} {x:DataW H × List MemPlace} (ht:P.underlying t=some (.slice e)) (hs:0<P.cellsOf e)
  (hread:∀m cs x,m<n→DataW.trod enc P w base spare held m e cs=some x→(∀k∈x.1.weights P e,k≤reachBytes)→∃a,Rd w (f a) cs∧good a)
  (h:DataW.trod enc P w base spare held n t cs=some x) (hw:∀k∈x.1.weights P t,k≤reachBytes) :
  ∃l:List α,Rd w (.sl (l.map f)) cs∧(∀a∈l,good a)∧l.length*P.bytesOf e≤reachBytes:=by
 rcases DataW.trod_slice ht h with ⟨rfl,rfl⟩|⟨a,len,cap,elems,rest,m,rfl,rfl,rfl,hb,hl,hm,hlen,hel,-,-⟩
 ·refine⟨[],?_,by simp,by simp⟩
  simp only [List.map_nil,Rd]
  exact⟨_,rfl,.inl ⟨trivial,.inl rfl⟩⟩
 ·rw [DataW.weights,ht] at hw
  have hbytes:len*P.bytesOf e≤reachBytes:=by
   have:=hw _ (List.mem_cons_self ..)
   simp only [List.length_map,hlen] at this
   exact Nat.le_trans (Nat.mul_le_mul_right _ (by omega)) this
  have hel':∀i,i<len→∃cs' y,w.cells? base (a.add (i*P.cellsOf e)) (P.cellsOf e)=some cs'∧DataW.trod enc P w base spare held m e cs'=some y∧∀k∈y.1.weights P e,k≤reachBytes:=by
   intro i hi
   have h1:=hel i hi
   rw [List.getElem?_eq_getElem (by omega)] at h1
   obtain⟨cs',h2,h3⟩:=Option.bind_eq_some_iff.1 h1
   refine⟨cs',_,h2,h3,fun k hk=>hw k ?_⟩
   exact List.mem_cons_of_mem _ (List.mem_append_left _ (rB (List.mem_map_of_mem (List.getElem_mem _)) k hk))
  by_cases h0:len=0
  ·subst h0
   refine⟨[],?_,by simp,by simp⟩
   simp only [List.map_nil,Rd]
   exact⟨_,rfl,.inl ⟨trivial,.inr ⟨_,_,rfl,hm⟩⟩⟩
  have hspot:a.spot=none:=by
   obtain⟨cs',y,h2,-,-⟩:=hel' 0 (by omega)
   obtain⟨-,hcl,hat⟩:=World.cells?_some h2
   have h3:=hat 0 hs
   simp only [Nat.zero_mul,Addr.add,if_true] at h3
   rw [List.getElem?_eq_getElem (by omega)] at h3
   unfold World.cell? at h3
   split at h3
   ·split at h3
    ·cases h3
    ·rename_i hn;simpa using hn
   ·cases h3
  obtain⟨b,o,sp⟩:=a
  simp only at hspot
  subst hspot
  have hadd:∀o j,(⟨b,o,none⟩:Addr).add j=⟨b,o+j,none⟩:=fun o j=>by
   unfold Addr.add;split
   ·subst_vars;rfl
   ·rfl
  have key:∀k j,j+k=len→∃l:List α,l.length=k∧RdRow w b (o+j*P.cellsOf e) (l.map f)∧∀a∈l,good a:=by
   intro k
   induction k with
   | zero=>exact fun j _=>⟨[],rfl,by simp only [List.map_nil,RdRow],by simp⟩
   | succ k ih =>
    intro j hj
    obtain⟨l,hl1,hl2,hl3⟩:=ih (j+1) (by omega)
    obtain⟨cs',y,h2,h3,h4⟩:=hel' j (by omega)
    obtain⟨z,hz1,hz2⟩:=hread m cs' y (Nat.lt_succ_self _) h3 h4
    obtain⟨-,hcl,hat⟩:=World.cells?_some h2
    refine⟨z::l,by simp [hl1],?_,fun a ha=>?_⟩
    ·rw [List.map_cons,RdRow]
     refine⟨cs',CellsAt.of fun i u hu=>?_,hz1,?_⟩
     ·have hi:i<cs'.length:=(List.getElem?_eq_some_iff.1 hu).1
      have:=hat i (by omega)
      rw [hadd,hadd] at this
      exact this.trans hu
     ·rw [hcl,Nat.add_assoc,←Nat.succ_mul];exact hl2
    ·rcases List.mem_cons.1 ha with rfl|ha
     ·exact hz2
     ·exact hl3 a ha
  obtain⟨l,hl1,hl2,hl3⟩:=key len 0 (by omega)
  refine⟨l,?_,hl3,by rw [hl1];exact hbytes⟩
  simp only [Rd]
  refine⟨_,rfl,.inr ⟨b,o,cap,by rw [List.length_map,hl1],by rw [List.length_map,hl1];exact hl,hm,by simpa using hl2⟩⟩

theorem vW {k:IntKind} {n:Int} (h:(Lit.int k n).wf=true):k.min≤n∧n≤k.max:=by
 unfold Lit.wf at h
 rw [Bool.and_eq_true] at h
 exact⟨of_decide_eq_true h.1,of_decide_eq_true h.2⟩
theorem TE {n:Nat} {cs:List Value} {x:DataW H × List MemPlace} (h:DataW.trod enc Tryz.prog w base spare held n 23 cs=some x) (hw:∀k∈x.1.weights Tryz.prog 23,k≤reachBytes) :
  ∃(v:Value) (l:List Int),cs=[v]∧IsMag w l v∧(∀m∈l,0≤m∧m≤4294967295)∧l.length≤35184372087808:=by
 obtain⟨l,h1,h2,h3⟩:=PU (fun n:Int=>V.val (.int .u32 n)) (fun m=>0≤m∧m≤4294967295) Tryz.underlying23 (Nat.lt_of_lt_of_eq Nat.zero_lt_one (show 1=Tryz.prog.cellsOf 96 by kernel_rfl)) (fun m cs x _ h _=>by
  obtain⟨k,rfl,rfl,hk⟩:=DataW.trod_int Tryz.underlying96 h
  refine⟨k,by simp only [Rd],?_⟩
  exact vW hk) h hw
 rw [show Tryz.prog.bytesOf 96=4 by kernel_rfl] at h3
 have h1':=h1
 simp only [Rd] at h1'
 obtain⟨v,rfl,-⟩:=h1'
 exact⟨v,l,rfl,h1,h2,by unfold reachBytes at h3;omega⟩

theorem IsD.rd0 {W:World} {d:D} {cs:List Value} (h:IsD W d (.agg cs.toArray)):Rd W d.v cs:=by
 obtain⟨cs',e,hr⟩:=h
 have:cs=cs':=by simpa using Value.agg.inj e
 subst this;exact hr
theorem WY:∀(n:Nat) (cs:List Value) (x:DataW H × List MemPlace),DataW.trod enc Tryz.prog w base spare held n 28 cs=some x→(∀k∈x.1.weights Tryz.prog 28,k≤reachBytes)→∃d:D,Rd w d.v cs∧d.Ok:=by
 intro n
 induction n using Nat.strongRecOn with
 | ind n ih =>
  intro cs x h hw
  obtain⟨xs,m,rfl,rfl,hcl,hxl,hf⟩:=DataW.trod_struct Tryz.underlying28 h
  rw [show Tryz.prog.cellsOf 28=6 by kernel_rfl] at hcl
  match cs,hcl with
  | [c0,c1,c2,c3,c4,c5],_ =>
  match xs,hxl with
  | [y0,y1,y2,y3,y4],_ =>
  have h0:DataW.trod enc Tryz.prog w base spare held m 3 (([c0,c1,c2,c3,c4,c5].drop 0).take (Tryz.prog.cellsOf 3))=some y0:=hf 0 _ rfl
  have h1:DataW.trod enc Tryz.prog w base spare held m 21 (([c0,c1,c2,c3,c4,c5].drop 1).take (Tryz.prog.cellsOf 21))=some y1:=hf 1 _ rfl
  have h2:DataW.trod enc Tryz.prog w base spare held m 25 (([c0,c1,c2,c3,c4,c5].drop 2).take (Tryz.prog.cellsOf 25))=some y2:=hf 2 _ rfl
  have h3:DataW.trod enc Tryz.prog w base spare held m 9 (([c0,c1,c2,c3,c4,c5].drop 4).take (Tryz.prog.cellsOf 9))=some y3:=hf 3 _ rfl
  have h4:DataW.trod enc Tryz.prog w base spare held m 26 (([c0,c1,c2,c3,c4,c5].drop 5).take (Tryz.prog.cellsOf 26))=some y4:=hf 4 _ rfl
  rw [show Tryz.prog.cellsOf 3=1 by kernel_rfl] at h0
  rw [show Tryz.prog.cellsOf 21=1 by kernel_rfl] at h1
  rw [show Tryz.prog.cellsOf 25=2 by kernel_rfl] at h2
  rw [show Tryz.prog.cellsOf 9=1 by kernel_rfl] at h3
  rw [show Tryz.prog.cellsOf 26=1 by kernel_rfl] at h4
  rw [DataW.weights,Tryz.underlying28] at hw
  change ∀k∈y0.1.weights Tryz.prog 3++(y1.1.weights Tryz.prog 21++(y2.1.weights Tryz.prog 25++(y3.1.weights Tryz.prog 9++(y4.1.weights Tryz.prog 26++_)))),k≤reachBytes at hw
  have hw2:∀k∈y2.1.weights Tryz.prog 25,k≤reachBytes:=fun k hk=>hw k (List.mem_append_right _ (List.mem_append_right _ (List.mem_append_left _ hk)))
  have hw3:∀k∈y3.1.weights Tryz.prog 9,k≤reachBytes:=fun k hk=>hw k (List.mem_append_right _ (List.mem_append_right _ (List.mem_append_right _ (List.mem_append_left _ hk))))
  have hw4:∀k∈y4.1.weights Tryz.prog 26,k≤reachBytes:=fun k hk=>hw k (List.mem_append_right _ (List.mem_append_right _ (List.mem_append_right _ (List.mem_append_right _ (List.mem_append_left _ hk)))))
  obtain⟨k0,e0,rfl,b0⟩:=DataW.trod_int Tryz.underlying3 h0
  obtain⟨k1,e1,rfl,b1⟩:=DataW.trod_int Tryz.underlying21 h1
  obtain⟨s,e3,rfl,b3⟩:=DataW.trod_string Tryz.underlying9 h3
  obtain⟨l,l1,l2,l3⟩:=PU D.v D.Ok Tryz.underlying26 (Nat.lt_of_lt_of_eq (show 0<6 by decide) (show 6=Tryz.prog.cellsOf 28 by kernel_rfl)) (fun m' cs x hm h hw=>ih m' (by omega) cs x h hw) h4 hw4
  obtain⟨zs,m2,rfl,rfl,-,hzl,hg⟩:=DataW.trod_struct Tryz.underlying25 h2
  match zs,hzl with
  | [z0,z1],_ =>
  have g0:DataW.trod enc Tryz.prog w base spare held m2 4 (((([c0,c1,c2,c3,c4,c5].drop 2).take 2).drop 0).take (Tryz.prog.cellsOf 4))=some z0:=hg 0 _ rfl
  have g1:DataW.trod enc Tryz.prog w base spare held m2 23 (((([c0,c1,c2,c3,c4,c5].drop 2).take 2).drop 1).take (Tryz.prog.cellsOf 23))=some z1:=hg 1 _ rfl
  rw [show Tryz.prog.cellsOf 4=1 by kernel_rfl] at g0
  rw [show Tryz.prog.cellsOf 23=1 by kernel_rfl] at g1
  rw [DataW.weights,Tryz.underlying25] at hw2
  change ∀k∈z0.1.weights Tryz.prog 4++(z1.1.weights Tryz.prog 23++_),k≤reachBytes at hw2
  obtain⟨bb,e2,rfl⟩:=DataW.trod_bool Tryz.underlying4 g0
  obtain⟨vm,mag,e5,m1,m3,m4⟩:=TE g1 (fun k hk=>hw2 k (List.mem_append_right _ (List.mem_append_left _ hk)))
  have hl1:=l1
  simp only [Rd] at hl1
  obtain⟨vl,e4,-⟩:=hl1
  simp at e0 e1 e2 e3 e4 e5
  subst e0 e1 e2 e3 e4 e5
  have hs:=hw3 s.data.toList.length (by simp [DataW.weights])
  rw [show Tryz.prog.bytesOf 28=88 by kernel_rfl] at l3
  refine⟨.mk k0 k1 bb mag s l,?_,?_⟩
  ·have:=IsD.mk (k:=k0) (c:=k1) (neg:=bb) (t:=s) m1 (l:=l) l1
   exact IsD.rd0 this
  ·have hoks:Oks l:=by
    clear l1 l3
    induction l with
    | nil=>simp only [Oks]
    | cons a l ih=>simp only [Oks];exact⟨l2 a (by simp),ih (fun b hb=>l2 b (by simp [hb]))⟩
   rw [D.Ok]
   refine⟨vW b0,vW b1,m3,?_,⟨m4,?_⟩,hoks⟩
   ·unfold reachBytes at hs;rw [Array.length_toList] at hs;exact hs
   ·unfold reachBytes at l3;omega
end
end Go.Proofs.YtaeioidifpebdaaGreatDoor
