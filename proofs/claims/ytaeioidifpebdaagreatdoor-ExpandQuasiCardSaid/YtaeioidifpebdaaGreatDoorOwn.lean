/-
 Readings in a part of memory; slices that a call makes and appends to. No program in sight.
-/
import Derived.Test.YtaeioidifpebdaaGreatDoorData
import Derived.Laws.AppendOwn
import Derived.Laws.AppendOwnNone
namespace Go.Proofs.YtaeioidifpebdaaGreatDoor
open Go Go.RowKit
set_option linter.unusedSimpArgs false

def only (w:World) (p:Nat→Bool):World:={ w with heap:=w.heap.mapIdx fun b o=>if p b then o else .map #[] 0 }
theorem NF (w:World) (p:Nat→Bool) (b:Nat):(only w p).heap[b]?=(w.heap[b]?).map fun o=>if p b then o else .map #[] 0:=by
 simp [only]
theorem eX (w:World) (p:Nat→Bool) (a:Addr):(only w p).cell? a=if p a.block then w.cell? a else none:=by
 simp only [World.cell?,NF]
 cases h:w.heap[a.block]? with
 | none=>cases p a.block<;>rfl
 | some o=>cases p a.block<;>rfl
theorem yU (w:World) (p:Nat→Bool):Keeps (only w p) w:=fun a v h=>by
 rw [eX] at h
 split at h
 ·exact h
 ·cases h
theorem Keeps.only {w w':World} {p q:Nat→Bool} (h:∀b,p b=true→b<w.heap.size→q b=true∧w'.heap[b]?=w.heap[b]?):Keeps (only w p) (Proofs.YtaeioidifpebdaaGreatDoor.only w' q):=fun a v hc=>by
 rw [eX] at hc ⊢
 split at hc
 ·rename_i hp
  obtain⟨h1,h2⟩:=h a.block hp (jZ hc)
  rw [if_pos h1,World.cell?_of_block h2];exact hc
 ·cases hc
def cM (w:World) (B:Nat):World:=only w fun b=>decide (B≤b)
theorem FY (w:World) (B:Nat):Keeps (cM w B) w:=yU _ _
theorem fU {w w':World} (B:Nat) (h:Ext w w'):Keeps (cM w B) (cM w' B):=Keeps.only fun b hp hb=>⟨hp,h.block b hb⟩
theorem fN (w:World) {B B':Nat} (h:B'≤B):Keeps (cM w B) (cM w B'):=Keeps.only fun b hp _=>⟨by simp only [decide_eq_true_eq] at hp ⊢;omega,rfl⟩
theorem yV {w:World} {B:Nat} {a:Addr} (h:B≤a.block):(cM w B).cell? a=w.cell? a:=by
 unfold cM;rw [eX,if_pos (by simpa using h)]

theorem kZ (w:World) {B:Nat} {p:Addr} (h:p.block<B) (v:Value):Keeps (cM w B) (cM (w.setCell p v) B) :=
 Keeps.only fun b hp _=>⟨hp,by simp only [decide_eq_true_eq] at hp;exact Below.heap_setCell w p v b (by omega)⟩
theorem rA (w:World) (B:Nat) (o:Obj):Keeps (cM w B) (cM (w.alloc o) B):=fU B ((Ext.refl w).alloc o)
theorem iQ {w:World} {b:Nat} {c:Array Value} {e:TypeId} (h:w.heap[b]?=some (.cells c e (0,0))) (o:Nat):w.frozen? ⟨b,o,none⟩=false:=by
 simp [World.frozen?,h]
theorem cG {w:World} {b:Nat} {c:Array Value} {e:TypeId} {f:Nat × Nat} (h:w.heap[b]?=some (.cells c e f)) (o:Nat):w.cell? ⟨b,o,none⟩=c[o]?:=by
 simp [World.cell?,h]

theorem gK (w:World) (o:Obj):(w.alloc o).heap[w.heap.size]?=some o:=heap_alloc_new w o
theorem rY (w:World) (o o':Obj):((w.alloc o).alloc o').heap[w.heap.size]?=some o:=by
 rw [Below.heap_alloc _ _ _ (by simp)];exact heap_alloc_new w o
theorem rZ (w:World) (o o':Obj):((w.alloc o).alloc o').heap[w.heap.size+1]?=some o':=by
 have:=heap_alloc_new (w.alloc o) o'
 simpa using this
theorem mL {w:World} {b o:Nat} {c:Array Value} {e:TypeId} {f:Nat × Nat} (h:w.heap[b]?=some (.cells c e f)) (v:Value):(w.setCell ⟨b,o,none⟩ v).heap[b]?=some (.cells (c.setIfInBounds o v) e f):=by
 simp only [World.setCell,Array.getElem?_modify,h]
 simp
theorem iE {w:World} {b:Nat} {p:Addr} (h:b≠p.block) (v:Value):(w.setCell p v).heap[b]?=w.heap[b]?:=Below.heap_setCell w p v b h

theorem CellsAt.of {w:World} {b:Nat}:∀{xs:List Value} {o:Nat},(∀j u,xs[j]?=some u→w.cell? ⟨b,o+j,none⟩=some u)→CellsAt w b o xs
 | [],_,_=>trivial
 | x::xs,o,h=>⟨by simpa using h 0 x (by simp),CellsAt.of fun j u hu=>by have:=h (j+1) u (by simpa using hu);rwa [show o+1+j=o+(j+1) by omega]⟩
theorem CellsAt.at {w:World} {b:Nat}:∀{xs:List Value} {o:Nat},CellsAt w b o xs→∀(j:Nat) (u:Value),xs[j]?=some u→w.cell? ⟨b,o+j,none⟩=some u
 | x::xs,o,h,0,u,hu=>by simp at hu;subst hu;simpa using h.1
 | x::xs,o,h,j+1,u,hu=>by
  have:=CellsAt.at h.2 j u (by simpa using hu)
  rwa [show o+1+j=o+(j+1) by omega] at this
theorem CellsAt.append {w:World} {b:Nat} {xs ys:List Value} {o:Nat}:CellsAt w b o (xs++ys)↔CellsAt w b o xs∧CellsAt w b (o+xs.length) ys:=by
 induction xs generalizing o with
 | nil=>simp [CellsAt]
 | cons x xs ih =>
  simp only [List.cons_append,CellsAt,ih,List.length_cons]
  rw [show o+1+xs.length=o+(xs.length+1) by omega]
  exact⟨fun ⟨a,b,c⟩=>⟨⟨a,b⟩,c⟩,fun ⟨⟨a,b⟩,c⟩=>⟨a,b,c⟩⟩
theorem RdRow.of_all {w:World} {b:Nat}:∀{es:List V} {xs:List Value} {o:Nat},CellsAt w b o xs→RdAll w es xs→RdRow w b o es
 | [],_,_,_,_=>by simp only [RdRow]
 | e::es,xs,o,hc,h=>by
  simp only [RdAll] at h
  obtain⟨c1,c2,rfl,h1,h2⟩:=h
  rw [CellsAt.append] at hc
  simp only [RdRow]
  exact⟨c1,hc.1,h1,RdRow.of_all hc.2 h2⟩
theorem RdRow.all {w:World} {b:Nat}:∀{es:List V} {o:Nat},RdRow w b o es→∃xs,CellsAt w b o xs∧RdAll w es xs
 | [],_,_=>⟨[],trivial,by simp only [RdAll]⟩
 | e::es,o,h=>by
  simp only [RdRow] at h
  obtain⟨cs,h1,h2,h3⟩:=h
  obtain⟨xs,h4,h5⟩:=RdRow.all h3
  refine⟨cs++xs,CellsAt.append.2 ⟨h1,h4⟩,?_⟩
  simp only [RdAll]
  exact⟨cs,xs,rfl,h2,h5⟩
theorem RdAll.append {w:World} {ps qs:List V} {xs ys:List Value} (h:RdAll w ps xs) (k:RdAll w qs ys):RdAll w (ps++qs) (xs++ys):=by
 induction ps generalizing xs with
 | nil=>simp only [RdAll] at h;subst h;simpa using k
 | cons p ps ih =>
  simp only [RdAll] at h
  obtain⟨c1,c2,rfl,h1,h2⟩:=h
  simp only [List.cons_append,RdAll,List.append_assoc]
  exact⟨c1,c2++ys,rfl,h1,ih h2⟩
theorem RdAll.one {w:World} {p:V} {xs:List Value} (h:Rd w p xs):RdAll w [p] xs:=by
 simp only [RdAll];exact⟨xs,[],by simp,h,rfl⟩

mutual
def yW:V→Prop
 | .val v=>v.oneCell'=true
 | .agg ps=>yF ps
 | .sl _=>True
def yF:List V→Prop
 | []=>True
 | p::ps=>yW p∧yF ps
end
mutual
theorem Rd.plain {w:World}:∀{x:V} {cs:List Value},yW x→Rd w x cs→∀u∈cs,u.oneCell'=true
 | .val v,cs,hp,h,u,hu=>by simp only [Rd] at h;subst h;simp at hu;subst hu;exact hp
 | .agg ps,cs,hp,h,u,hu=>by simp only [Rd] at h;exact RdAll.plain hp h u hu
 | .sl es,cs,hp,h,u,hu=>by
  simp only [Rd] at h
  obtain⟨v,rfl,h⟩:=h
  simp at hu;subst hu
  rcases h with ⟨_,rfl|⟨a,cap,rfl,_⟩⟩|⟨b,o,cap,rfl,_⟩<;>rfl
theorem RdAll.plain {w:World}:∀{ps:List V} {cs:List Value},yF ps→RdAll w ps cs→∀u∈cs,u.oneCell'=true
 | [],cs,_,h,u,hu=>by simp only [RdAll] at h;subst h;cases hu
 | p::ps,cs,hp,h,u,hu=>by
  simp only [RdAll] at h
  obtain⟨c1,c2,rfl,h1,h2⟩:=h
  rcases List.mem_append.1 hu with h'|h'
  ·exact Rd.plain hp.1 h1 u h'
  ·exact RdAll.plain hp.2 h2 u h'
end

def Own (w:World) (B:Nat) (e size:Nat) (es:List V) (v:Value):Prop :=
 ∃xs,w.ownsRow B e size v es.length xs∧RdAll (only w fun b=>decide (B≤b)&&decide (v.ownBlock≠some b)) es xs
theorem Own.nil (w:World) (B e size:Nat):Own w B e size [] (.slice none 0 0) :=
 ⟨[],World.ownsRow_nil _ _ _ _,by simp only [RdAll]⟩
theorem Own.made (w:World) (B e size:Nat) (cur:Array Value) (cap:Nat) (hb:B≤w.heap.size) (hm:cap≤maxLen) (hs:cur.size=cap*size):Own (w.alloc (.cells cur e)) B e size [] (.slice (some ⟨w.heap.size,0,none⟩) 0 cap) :=
 ⟨[],World.ownsRow_made w cur cap hb hm hs,by simp only [RdAll]⟩
theorem Own.form {w:World} {B e size:Nat} {es:List V} {v:Value} (h:Own w B e size es v):∃a cap,v=.slice a es.length cap∧es.length≤cap∧cap≤maxLen:=by
 obtain⟨xs,ho,_⟩:=h
 rcases ho.2 with ⟨rfl,h0⟩|⟨g,cap,cur,rfl,_,_,h1,h2,_⟩
 ·exact⟨none,0,by rw [h0],by omega,Nat.zero_le _⟩
 ·exact⟨_,cap,rfl,h1,h2⟩
theorem Own.ext {w w':World} {B e size:Nat} {es:List V} {v:Value} (h:Own w B e size es v) (hx:Ext w w'):Own w' B e size es v:=by
 obtain⟨xs,ho,hr⟩:=h
 refine⟨xs,ho.kept (row:=none) ⟨hx.os,hx.tape,hx.output,hx.size,fun k hk _=>hx.block k hk⟩ (by cases v.ownBlock<;>simp),hr.keep (Keeps.only fun b hp hb=>⟨hp,hx.block b hb⟩)⟩
theorem Own.reads {w:World} {B e size:Nat} {es:List V} {v:Value} (h:Own w B e size es v):Rd (cM w B) (.sl es) [v]:=by
 obtain⟨xs,ho,hr⟩:=h
 simp only [Rd]
 refine⟨v,rfl,?_⟩
 have hk:Keeps (only w fun b=>decide (B≤b)&&decide (v.ownBlock≠some b)) (cM w B):=Keeps.only fun b hp _=>⟨by simp only [Bool.and_eq_true] at hp;exact hp.1,rfl⟩
 have hcells:∀g,v.ownBlock=some g→∀j u,xs[j]?=some u→w.cell? ((⟨g,0,none⟩:Addr).add j)=some u:=fun g hg=>ho.cells hg
 rcases ho.2 with ⟨rfl,h0⟩|⟨g,cap,cur,rfl,hb,_,h1,h2,_⟩
 ·exact .inl ⟨List.eq_nil_of_length_eq_zero h0,.inl rfl⟩
 ·refine .inr ⟨g,0,cap,rfl,h1,h2,RdRow.of_all (CellsAt.of fun j u hu=>?_) (hr.keep hk)⟩
  rw [yV (a:=⟨g,0+j,none⟩) hb]
  have:=hcells g rfl j u hu
  unfold Addr.add at this
  split at this
  ·rename_i hj;subst hj;exact this
  ·simpa using this

theorem Rd.block {W:World} {g:Nat} {es:List V} {cs:List Value} (hc:CellsAt W g 0 cs) (h:RdAll W es cs) (hl:es.length≤maxLen):Rd W (.sl es) [.slice (some ⟨g,0,none⟩) es.length es.length]:=by
 simp only [Rd]
 exact⟨_,rfl,.inr ⟨g,0,es.length,rfl,Nat.le_refl _,hl,RdRow.of_all hc h⟩⟩
theorem NG (w:World) (cs:List Value) (e:TypeId):CellsAt (w.alloc (.cells cs.toArray e)) w.heap.size 0 cs:=CellsAt.of fun j u hu=>by
 rw [cG (gK w _)];simpa using hu
theorem xU (w:World) (cs:List Value) (e:TypeId) {B:Nat} (hB:B≤w.heap.size):CellsAt (cM (w.alloc (.cells cs.toArray e)) B) w.heap.size 0 cs:=CellsAt.of fun j u hu=>by
 rw [yV hB,cG (gK w _)];simpa using hu

theorem Rd.source {w:World} {es:List V} {v:Value} {size:Nat} (h:Rd w (.sl es) [v]) (hw:∀e∈es,wid e=size) :
  ∃ao cap news,v=.slice ao es.length cap∧cap≤maxLen∧es.length≤cap∧(ao=none→es.length=0∧cap=0)∧news.length=es.length*size∧(∀ad,ao=some ad→∀(j:Nat) (u:Value),news[j]?=some u→w.cell? (ad.add j)=some u)∧RdAll w es news:=by
 simp only [Rd] at h
 obtain⟨_,e,h⟩:=h
 cases e
 rcases h with ⟨rfl,rfl|⟨a,cap,rfl,hc⟩⟩|⟨b,o,cap,rfl,l1,l2,hr⟩
 ·exact⟨none,0,[],rfl,Nat.zero_le _,Nat.le_refl _,fun _=>⟨rfl,rfl⟩,by simp,(fun ad hd=>by cases hd),by simp only [RdAll]⟩
 ·exact⟨some a,cap,[],rfl,hc,Nat.zero_le _,(fun h=>by cases h),by simp,(fun _ _ j u hu=>by simp at hu),by simp only [RdAll]⟩
 ·obtain⟨xs,h1,h2⟩:=hr.all
  refine⟨some ⟨b,o,none⟩,cap,xs,rfl,l2,l1,(fun h=>by cases h),?_,fun ad hd j u hu=>?_,h2⟩
  ·rw [RdAll.len h2]
   clear h2 h1 hr l1 l2
   induction es with
   | nil=>simp [ND]
   | cons x es ih=>rw [ND,hw x (by simp),ih (fun e he=>hw e (by simp [he])),List.length_cons,Nat.add_mul];omega
  ·cases hd
   have:=h1.at j u hu
   unfold Addr.add
   split
   ·rename_i hj;subst hj;exact this
   ·exact this

section append
variable {P:Program}
theorem DI (w:World) (base:Nat) (t ty e:TypeId) (i:TypeInfo) (z:Value) (size bytes:Nat) (ht:P.underlying t=some (.slice e)) (hi:P.info? e=some i) (hz:i.zero=some z)
  (hsize:i.size=size) (hby:i.bytes=bytes) (v:Value) (n:Nat) (xs:List Value) (hown:w.ownsRow base e size v n xs)
  (a:Addr) (m c:Nat) (news:List Value) (hl:news.length=m*size) (hnews:∀j u,news[j]?=some u→w.cell? (a.add j)=some u) (h1:∀u∈news,u.oneCell'=true)
  (h63:n+m≤maxLen) (hbytes:(n+m)*bytes≤140737488355328) {v':Value} {w':World} (hr:(Builtin.append_ #[t,t] ty #[v,.slice (some a) m c]).run P w=.ok v' w')
  (hnil:v'=.slice none 0 0↔v=.slice none 0 0∧m=0):∀g,v'.ownBlock=some g→v.ownBlock=some g∨w.heap.size≤g:=by
 subst hsize hby
 intro g hg
 have h63':n+m≤9223372036854775807:=by simp only [maxLen] at h63;omega
 rcases hown.2 with ⟨rfl,rfl⟩|⟨g0,cap,cur,rfl,hbg,hgg,hnc,hcm,hcs,htake⟩
 ·by_cases hm:m=0
  ·rw [hnil.2 ⟨rfl,hm⟩] at hg;simp [Value.ownBlock] at hg
  ·have hr2:=run_append_nil (P:=P) w t ty e i z ht hi hz a m c news hl hnews (by omega) (by omega) (by have hb:=hbytes;simp only [Nat.zero_add] at hb;omega)
   rw [hr] at hr2
   injection hr2 with e1 e2
   subst e1
   simp [Value.ownBlock] at hg
   right;omega
 ·by_cases hroom:n+m≤cap
  ·have hfit:n*i.size+news.length≤cur.size:=by rw [hl,hcs,←Nat.add_mul];exact Nat.mul_le_mul_right _ hroom
   have hr2:=run_append_room (P:=P) w t ty e i ht hi g0 n cap cur hgg a m c news hl hnews h1 hroom hfit
   rw [hr] at hr2
   injection hr2 with e1 e2
   subst e1
   exact .inl hg
  ·have holds:∀j u,xs[j]?=some u→w.cell? ((⟨g0,0,none⟩:Addr).add j)=some u:=hown.cells (g:=g0) rfl
   have hr2:=run_append_grow (P:=P) w t ty e i z ht hi hz ⟨g0,0,none⟩ n cap xs hown.1 holds a m c news hl hnews (by omega) (by omega) (growslice_fits (by omega) hbytes)
   rw [hr] at hr2
   injection hr2 with e1 e2
   subst e1
   simp [Value.ownBlock] at hg
   right;omega

theorem yX (w:World) (B:Nat) (t ty e:TypeId) (i:TypeInfo) (z:Value) (size bytes:Nat) (ht:P.underlying t=some (.slice e)) (hi:P.info? e=some i) (hz:i.zero=some z)
  (hsize:i.size=size) (hby:i.bytes=bytes) (hzs:z.cells.size=size) (hsz:0<size) (v:Value) (es:List V) (hown:Own w B e size es v)
  (ao:Option Addr) (m c:Nat) (news:List Value) (ns:List V) (hm:ns.length=m) (hnone:ao=none→m=0∧c=0) (hl:news.length=m*size) (hnews:∀ad,ao=some ad→∀j u,news[j]?=some u→w.cell? (ad.add j)=some u)
  (h1:∀u∈news,u.oneCell'=true) (hrd:RdAll (only w fun b=>decide (B≤b)&&decide (v.ownBlock≠some b)) ns news) (h63:es.length+m≤maxLen) (hbytes:(es.length+m)*bytes≤140737488355328) (hbase:B≤w.heap.size) :
  ∃v' w',(Builtin.append_ #[t,t] ty #[v,.slice ao m c]).run P w=.ok v' w'∧Own w' B e size (es++ns) v'∧w.grownBy w' v.ownBlock∧(∀g,v'.ownBlock=some g→v.ownBlock=some g∨w.heap.size≤g):=by
 obtain⟨xs,ho,hr⟩:=hown
 cases ao with
 | none =>
  obtain⟨rfl,rfl⟩:=hnone rfl
  have hn:ns=[]:=List.eq_nil_of_length_eq_zero hm
  subst hn
  have hrun:=run_append_owned_none (P:=P) (w:=w) B t ty e i size ht hi v es.length xs ho
  exact⟨v,w,hrun,⟨xs,by simpa using ho,by simpa using hr⟩,⟨rfl,rfl,rfl,Nat.le_refl _,fun _ _ _=>rfl⟩,fun g hg=>.inl hg⟩
 | some ad =>
  obtain⟨v',w',hrun,ho',hg,hnil⟩:=run_append_own (P:=P) w B t ty e i z size bytes ht hi hz hsize hby hzs hsz v es.length xs ho ad m c news hl (hnews ad rfl) h1 h63 hbytes hbase
  have hw:=DI w B t ty e i z size bytes ht hi hz hsize hby v es.length xs ho ad m c news hl (hnews ad rfl) h1 h63 hbytes hrun hnil
  refine⟨v',w',hrun,⟨xs++news,by rw [List.length_append,hm];exact ho',?_⟩,hg,hw⟩
  refine (RdAll.append hr hrd).keep (Keeps.only fun b hp hb=>?_)
  simp only [Bool.and_eq_true,decide_eq_true_eq] at hp ⊢
  refine⟨⟨hp.1,fun h=>?_⟩,hg.block b hb (fun h=>hp.2 h.symm)⟩
  rcases hw b h with h'|h'
  ·exact hp.2 h'
  ·omega

theorem nQ {w:World} {ops:Array Oper} {rest:List Oper} {o:Oper} {a:Act} {Q:Exit→Act→World→Prop} (hgd:o.guard=none) (s x:Operand) (t:TypeId)
  (hop:o.op=.call { callee:=.builtin .append,args:=#[s,x],argTypes:=#[t,t] }) (B:Nat) (e:TypeId) (i:TypeInfo) (z:Value) (size bytes:Nat) (ht:P.underlying t=some (.slice e)) (hi:P.info? e=some i) (hz:i.zero=some z)
  (hsize:i.size=size) (hby:i.bytes=bytes) (hzs:z.cells.size=size) (hsz:0<size) (v:Value) (es:List V) (hs:a.eval s=v) (hown:Own w B e size es v)
  (ao:Option Addr) (m c:Nat) (news:List Value) (ns:List V) (hx:a.eval x=.slice ao m c) (hm:ns.length=m) (hnone:ao=none→m=0∧c=0) (hl:news.length=m*size) (hnews:∀ad,ao=some ad→∀j u,news[j]?=some u→w.cell? (ad.add j)=some u)
  (h1:∀u∈news,u.oneCell'=true) (hrd:RdAll (only w fun b=>decide (B≤b)&&decide (v.ownBlock≠some b)) ns news) (h63:es.length+m≤maxLen) (hbytes:(es.length+m)*bytes≤140737488355328) (hbase:B≤w.heap.size)
  (h:∀v' w',Own w' B e size (es++ns) v'→w.grownBy w' v.ownBlock→Below B w w'→wpList P ops Q rest (a.put o.dst v') w'):wpList P ops Q (o::rest) a w:=by
 obtain⟨v',w',hr,h2,h3,_⟩:=yX (P:=P) w B t o.type e i z size bytes ht hi hz hsize hby hzs hsz v es hown ao m c news ns hm hnone hl hnews h1 hrd h63 hbytes hbase
 refine wpList_plain hgd fun K hK=>?_
 unfold Oper.wp execOp
 simp only [hop,resolve,invoke,builtin,Sem.run_bind,Sem.run_pure,Result.andThen_ok,List.map_toArray,List.map_cons,List.map_nil,hs,hx,hr]
 refine hK _ _ (h v' w' h2 h3 ⟨h3.os,h3.tape,h3.output,h3.size,fun k hk=>h3.block k (by omega) fun hkk=>?_⟩)
 obtain⟨xs,ho,_⟩:=hown
 have:=(ho.lt k hkk.symm).1
 omega
theorem Own.beside {w w2 w3:World} {B e size C:Nat} {es:List V} {v:Value} (h:Own w B e size es v) (hC:w.heap.size≤C) (hB:B≤C) (hx:Ext w2 w3):Keeps (cM w2 C) (only w3 fun b=>decide (B≤b)&&decide (v.ownBlock≠some b)):=by
 obtain⟨xs,ho,_⟩:=h
 refine Keeps.only fun b hp hb=>⟨?_,hx.block b hb⟩
 simp only [decide_eq_true_eq,Bool.and_eq_true] at hp ⊢
 exact⟨by omega,fun hv=>by have:=(ho.lt b hv).2;omega⟩

theorem kB {w w2:World} {ops:Array Oper} {rest:List Oper} {o:Oper} {a:Act} {Q:Exit→Act→World→Prop} (hgd:o.guard=none) (s x:Operand) (t:TypeId)
  (hop:o.op=.call { callee:=.builtin .append,args:=#[s,x],argTypes:=#[t,t] }) (B:Nat) (e:TypeId) (i:TypeInfo) (z:Value) (size bytes:Nat) (ht:P.underlying t=some (.slice e)) (hi:P.info? e=some i) (hz:i.zero=some z)
  (hsize:i.size=size) (hby:i.bytes=bytes) (hzs:z.cells.size=size) (hsz:0<size) (v:Value) (es:List V) (hs:a.eval s=v) (hown:Own w B e size es v) (hB:B≤w.heap.size) (hx:Ext w w2)
  (cs:List Value) (y:V) (e':TypeId) (hxe:a.eval x=.slice (some ⟨w2.heap.size,0,none⟩) 1 1) (hl:cs.length=size) (hy:yW y) (hrd:Rd (cM w2 w.heap.size) y cs)
  (h63:es.length+1≤maxLen) (hbytes:(es.length+1)*bytes≤140737488355328)
  (h:∀v' w',Own w' B e size (es++[y]) v'→Below B (w2.alloc (.cells cs.toArray e')) w'→wpList P ops Q rest (a.put o.dst v') w'):wpList P ops Q (o::rest) a (w2.alloc (.cells cs.toArray e')):=by
 refine nQ hgd s x t hop B e i z size bytes ht hi hz hsize hby hzs hsz v es hs (hown.ext (hx.trans ((Ext.refl _).alloc _))) (some ⟨w2.heap.size,0,none⟩) 1 1 cs [y] hxe rfl (fun h=>by cases h) (by omega) (fun ad hd j u hu=>?_)
  (Rd.plain hy hrd) (RdAll.one (hrd.keep (hown.beside (Nat.le_refl _) hB ((Ext.refl _).alloc _)))) h63 hbytes (by have:=hx.le;simp;omega) (fun v' w' h1 _ h3=>h v' w' h1 h3)
 cases hd
 have hj:j<cs.length:=(List.getElem?_eq_some_iff.1 hu).1
 have hadd:(⟨w2.heap.size,0,none⟩:Addr).add j=⟨w2.heap.size,j,none⟩:=by unfold Addr.add;split<;>simp_all
 rw [hadd,cG (gK w2 _)]
 simpa using hu
end append
end Go.Proofs.YtaeioidifpebdaaGreatDoor
