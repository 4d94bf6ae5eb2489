/-
 Data of type api.Datum as plain trees.
-/
import Derived.Test.YtaeioidifpebdaaGreatDoorData
namespace Go.Proofs.YtaeioidifpebdaaGreatDoor
open Go.RowKit

inductive D where
 | mk (k c:Int) (neg:Bool) (mag:List Int) (t:ByteArray) (l:List D)

namespace D
def k:D→Int|mk k _ _ _ _ _=>k
def c:D→Int|mk _ c _ _ _ _=>c
def neg:D→Bool|mk _ _ n _ _ _=>n
def mag:D→List Int|mk _ _ _ m _ _=>m
def t:D→ByteArray|mk _ _ _ _ t _=>t
def l:D→List D|mk _ _ _ _ _ l=>l
def v:D→V
 | mk k c neg mag t l=>.agg [.val (.int .i64 k),.val (.int .i32 c),.agg [.val (.bool neg),.sl (mag.map fun n=>.val (.int .u32 n))],.val (.string t),.sl (l.map v)]
theorem wid_v:∀d:D,wid d.v=6
 | mk k c neg mag t l=>by rw [D.v];rfl
end D

def IsD (w:World) (d:D) (v:Value):Prop:=∃cs:List Value,v=.agg cs.toArray∧Rd w d.v cs

theorem IsD.keep {w w':World} (hk:Keeps w w') {d:D} {v:Value} (h:IsD w d v):IsD w' d v:=by
 obtain⟨cs,e,h⟩:=h
 exact⟨cs,e,h.keep hk⟩

def IsDs (w:World) (l:List D) (v:Value):Prop:=Rd w (.sl (l.map D.v)) [v]
theorem IsDs.keep {w w':World} (hk:Keeps w w') {l:List D} {v:Value} (h:IsDs w l v):IsDs w' l v:=Rd.keep hk h

def IsMag (w:World) (l:List Int) (v:Value):Prop:=Rd w (.sl (l.map fun n=>.val (.int .u32 n))) [v]
theorem IsMag.keep {w w':World} (hk:Keeps w w') {l:List Int} {v:Value} (h:IsMag w l v):IsMag w' l v:=Rd.keep hk h

theorem Rd.sl_form {w:World} {es:List V} {v:Value} (h:Rd w (.sl es) [v]):∃a cap,v=.slice a es.length cap∧es.length≤cap∧cap≤maxLen:=by
 simp only [Rd] at h
 obtain⟨_,e,h⟩:=h
 cases e
 rcases h with ⟨rfl,h1⟩|⟨b,o,cap,rfl,l1,l2,hr⟩
 ·rcases h1 with rfl|⟨a,cap,rfl,hc⟩
  ·exact⟨none,0,rfl,Nat.le_refl _,Nat.zero_le _⟩
  ·exact⟨some a,cap,rfl,Nat.zero_le _,hc⟩
 ·exact⟨_,cap,rfl,l1,l2⟩
theorem IsDs.form {w:World} {l:List D} {v:Value} (h:IsDs w l v):∃a cap,v=.slice a l.length cap∧l.length≤cap∧cap≤maxLen:=by
 obtain⟨a,cap,e,h1,h2⟩:=Rd.sl_form h
 rw [List.length_map] at e h1
 exact⟨a,cap,e,h1,h2⟩
theorem IsMag.form {w:World} {l:List Int} {v:Value} (h:IsMag w l v):∃a cap,v=.slice a l.length cap∧l.length≤cap∧cap≤maxLen:=by
 obtain⟨a,cap,e,h1,h2⟩:=Rd.sl_form h
 rw [List.length_map] at e h1
 exact⟨a,cap,e,h1,h2⟩

theorem IsD.open {w:World} {d:D} {v:Value} (h:IsD w d v) :
  ∃am cm al cl,v=.agg #[.int .i64 d.k,.int .i32 d.c,.bool d.neg,.slice am d.mag.length cm,.string d.t,.slice al d.l.length cl] ∧
   IsMag w d.mag (.slice am d.mag.length cm)∧IsDs w d.l (.slice al d.l.length cl)∧d.mag.length≤cm∧cm≤maxLen∧d.l.length≤cl∧cl≤maxLen:=by
 obtain⟨cs,rfl,h⟩:=h
 obtain⟨k,c,neg,mag,t,l⟩:=d
 simp only [D.v,Rd,RdAll] at h
 obtain⟨_,_,rfl,rfl,_,_,rfl,rfl,_,_,rfl,⟨_,_,rfl,rfl,_,_,rfl,⟨vm,rfl,hm⟩,rfl⟩,_,_,rfl,rfl,_,_,rfl,⟨vl,rfl,hl⟩,rfl⟩:=h
 have hm:IsMag w mag vm:=by simp only [IsMag,Rd];exact⟨vm,rfl,hm⟩
 have hl:IsDs w l vl:=by simp only [IsDs,Rd];exact⟨vl,rfl,hl⟩
 obtain⟨am,cm,rfl,m1,m2⟩:=hm.form
 obtain⟨al,cl,rfl,l1,l2⟩:=hl.form
 exact⟨am,cm,al,cl,rfl,hm,hl,m1,m2,l1,l2⟩
theorem IsD.mk {w:World} {k c:Int} {neg:Bool} {mag:List Int} {t:ByteArray} {l:List D} {vm vl:Value} (hm:IsMag w mag vm) (hl:IsDs w l vl) :
  IsD w (.mk k c neg mag t l) (.agg #[.int .i64 k,.int .i32 c,.bool neg,vm,.string t,vl]):=by
 refine⟨[.int .i64 k,.int .i32 c,.bool neg,vm,.string t,vl],rfl,?_⟩
 simp only [D.v,Rd,RdAll]
 simp only [IsMag,IsDs,Rd] at hm hl
 obtain⟨_,e1,hm⟩:=hm
 obtain⟨_,e2,hl⟩:=hl
 cases e1;cases e2
 exact⟨_,_,rfl,rfl,_,_,rfl,rfl,[.bool neg,vm],_,rfl,⟨_,_,rfl,rfl,_,[],rfl,⟨vm,rfl,hm⟩,rfl⟩,_,_,rfl,rfl,_,[],rfl,⟨vl,rfl,hl⟩,rfl⟩
theorem D.eta (d:D):D.mk d.k d.c d.neg d.mag d.t d.l=d:=by cases d;rfl
theorem IsD.mk' {w:World} {d:D} {vm vl:Value} (hm:IsMag w d.mag vm) (hl:IsDs w d.l vl) :
  IsD w d (.agg #[.int .i64 d.k,.int .i32 d.c,.bool d.neg,vm,.string d.t,vl]):=by
 have:=IsD.mk (k:=d.k) (c:=d.c) (neg:=d.neg) (t:=d.t) hm hl
 rwa [D.eta] at this

def CellsD (w:World) (b o:Nat) (d:D):Prop:=∃am cm al cl,w.cell? ⟨b,o,none⟩=some (.int .i64 d.k)∧w.cell? ⟨b,o+1,none⟩=some (.int .i32 d.c)∧w.cell? ⟨b,o+2,none⟩=some (.bool d.neg) ∧
  w.cell? ⟨b,o+3,none⟩=some (.slice am d.mag.length cm)∧w.cell? ⟨b,o+4,none⟩=some (.string d.t)∧w.cell? ⟨b,o+5,none⟩=some (.slice al d.l.length cl) ∧
  IsMag w d.mag (.slice am d.mag.length cm)∧IsDs w d.l (.slice al d.l.length cl)

theorem IsDs.get {w:World} {l:List D} {a:Option Addr} {n cap:Nat} (h:IsDs w l (.slice a n cap)) (i:Nat) (hi:i<l.length) :
  ∃b o,a=some ⟨b,o,none⟩∧CellsD w b (o+i*6) l[i]:=by
 simp only [IsDs,Rd] at h
 obtain⟨_,e,h⟩:=h
 cases e
 rcases h with ⟨h0,h1⟩|⟨b,o,cap',e,l1,l2,hr⟩
 ·have h0:l=[]:=by simpa using h0
  subst h0
  exact absurd hi (by simp)
 ·cases e
  refine⟨b,o,rfl,?_⟩
  obtain⟨cs,h1,h2,h3⟩:=RdRow.get hr (n:=6) (fun e he=>by obtain⟨d,_,rfl⟩:=List.mem_map.1 he;exact d.wid_v) i (by simpa using hi)
  rw [List.getElem_map] at h2
  obtain⟨am,cm,al,cl,e,hm,hl,_⟩:=IsD.open ⟨cs,rfl,h2⟩
  have e':cs=[.int .i64 l[i].k,.int .i32 l[i].c,.bool l[i].neg,.slice am l[i].mag.length cm,.string l[i].t,.slice al l[i].l.length cl]:=by
   have:=congrArg Array.toList (Value.agg.inj e)
   simpa using this
  subst e'
  obtain⟨a0,a1,a2,a3,a4,a5,_⟩:=h1
  exact⟨am,cm,al,cl,a0,a1,a2,a3,a4,a5,hm,hl⟩
theorem CellsD.keep {w w':World} (hk:Keeps w w') {b o:Nat} {d:D} (h:CellsD w b o d):CellsD w' b o d:=by
 obtain⟨am,cm,al,cl,a0,a1,a2,a3,a4,a5,hm,hl⟩:=h
 exact⟨am,cm,al,cl,hk _ _ a0,hk _ _ a1,hk _ _ a2,hk _ _ a3,hk _ _ a4,hk _ _ a5,hm.keep hk,hl.keep hk⟩
theorem IsMag.get {w:World} {l:List Int} {a:Option Addr} {n cap:Nat} (h:IsMag w l (.slice a n cap)) (i:Nat) (hi:i<l.length) :
  ∃b o,a=some ⟨b,o,none⟩∧w.cell? ⟨b,o+i,none⟩=some (.int .u32 l[i]):=by
 simp only [IsMag,Rd] at h
 obtain⟨_,e,h⟩:=h
 cases e
 rcases h with ⟨h0,h1⟩|⟨b,o,cap',e,l1,l2,hr⟩
 ·have h0:l=[]:=by simpa using h0
  subst h0
  exact absurd hi (by simp)
 ·cases e
  refine⟨b,o,rfl,?_⟩
  obtain⟨cs,h1,h2,h3⟩:=RdRow.get hr (n:=1) (fun e he=>by obtain⟨d,_,rfl⟩:=List.mem_map.1 he;rfl) i (by simpa using hi)
  rw [List.getElem_map] at h2
  simp only [Rd] at h2
  subst h2
  simpa using h1.1
end Go.Proofs.YtaeioidifpebdaaGreatDoor
