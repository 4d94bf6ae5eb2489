/-
 A region that draws its order, in a round of a range over a function: as in the text beside it. No program in sight.
-/
import Derived.Test.YtaeioidifpebdaaGreatDoorPhi
import Derived.OrdersIn
import Derived.RangeFuncCalls
import Derived.TacticsIn
namespace Go.Proofs.YtaeioidifpebdaaGreatDoor
open Go Go.RowKit

section
variable {P:Program} {ops:Array Oper}

def EB (ops:Array Oper):Bool:=ops.all fun o=>match o.op with|.defer _=>false|_=>true
theorem EC (h:EB ops=true) {i:Nat} {o:Oper} (ho:ops[i]?=some o):∀c,o.op≠.defer c:=fun c hc=>by
 have:=Array.all_eq_true'.1 h o (Array.mem_of_getElem? ho)
 rw [hc] at this;cases this

theorem KF {l n:Nat} {Q:Exit→Act→World→Prop} (hnd:EB ops=true):yG P ops (wpOpIn (Fence.wide.inRound l) n P ops Q):=by
 intro i o Φ a w K ho hgo hnext
 unfold wpOpIn
 simp only [ho]
 rw [yY]
 split
 ·rename_i hw
  rw [if_pos hw] at hgo
  refine⟨fun _ _=>trivial,?_⟩
  rw [show (Fence.wide.inRound l).round=some l from rfl,Oper.semAt_some l _ o (EC hnd ho)]
  unfold OpGood at hgo
  generalize (execOp a.eval o).run P w=r at *
  cases r with
  | ok x w' =>
   cases x<;>simp only at hgo<;>simp only [Oper.uponIn]
   case value u=>exact hnext _ _ hgo.1 hgo.2
   case skip=>exact hnext _ _ hgo.1 hgo.2
   case enter f args =>
    refine⟨(fun h=>by cases h),CallsIn.inRound l (callsIn_wide.2 (hgo.2.mono ?_))⟩
    rintro e w'' ⟨v,rfl,hx,hv⟩
    exact hnext _ _ (hgo.1.trans hx) hv
  | halt x w'=>simp only at hgo
 ·rename_i hw
  rw [if_neg hw] at hgo
  exact⟨fun _ _=>trivial,hnext _ _ (Ext.refl _) hgo⟩

theorem MS {F:Fence} {n:Nat} {Q:Exit→Act→World→Prop}:∀(fuel:Nat) (listed:Array Bool) (a:Act) (w:World),yZ ops (wpOpIn F n P ops Q) (Q .normal) fuel listed a w→wpAnyIn F n P .any ops Q fuel listed a w
 | 0,_,_,_,h=>h
 | fuel+1,_,_,_,h=>⟨h.1,fun i hi=>wpOpIn_mono (fun a w=>MS fuel _ a w) (h.2 i hi)⟩

theorem sZ {F:Fence} {n:Nat} {Q:Exit→Act→World→Prop}:∀(l:List Oper) (k:Nat) (listed:Array Bool) (a:Act) (w:World),(∀j,l[j]?=ops[k+j]?)→Region.seqB .any ops l.length k listed=true →
  wpListIn F n P ops Q l a w→yZ ops (wpOpIn F n P ops Q) (Q .normal) l.length listed a w
 | [],_,_,_,_,_,hB,h=>⟨by simpa [Region.seqB] using hB,h⟩
 | o::l,k,listed,a,w,hl,hB,h=>by
  have h0:ops[k]?=some o:=by simpa using (hl 0).symm
  simp only [List.length_cons,Region.seqB,Bool.and_eq_true,decide_eq_true_eq] at hB
  refine⟨fun h1=>(by rw [hB.1] at h1;cases h1),fun i hi=>?_⟩
  rw [hB.1] at hi
  have hik:i=k:=by simpa using hi
  subst hik
  have hw:wpOpIn F n P ops Q i (wpListIn F n P ops Q l) a w:=by unfold wpOpIn;simp only [h0];exact h
  exact wpOpIn_mono (fun a' w' h'=>sZ l (i+1) _ a' w' (fun j=>by have:=hl (j+1);simpa [Nat.add_assoc,Nat.add_comm 1 j] using this) hB.2 h') hw

theorem wE {rl n id:Nat} {Q:Exit→Act→World→Prop} {a:Act} {w:World} {l:List Oper} (m:Nat) (ds:List (Option Tmp)) (l1 l2:List Oper) (hds:l.map (·.dst)=ds) (h1:l.take m=l1) (h2:l.drop m=l2)
  (hm:P.follows .mixedOrders=true) (hB:uN l.toArray m a.tmps.size=true) (hT:lB l.toArray m=true) (hnd:EB l.toArray=true)
  (h:∀Q',(∀a' w',wpListIn (Fence.wide.inRound rl) n P l.toArray Q l2 a' w'→Q' a' w')→Phi P ds a w Q' [] l1):(Code.region id l.toArray true).wpIn (Fence.wide.inRound rl) n P Q a w:=by
 subst hds h1 h2
 refine wpIn_region_any hm (MS _ _ _ _ (zA m (KF hnd) hB hT (Phi.walk _ _ (h _ fun _ _ h=>h)) fun a' w' hp=>?_))
 simp only [lB,Bool.and_eq_true] at hT
 have hdl:(l.drop m).length=l.toArray.size-m:=by simp
 have:=sZ (F:=Fence.wide.inRound rl) (n:=n) (P:=P) (Q:=Q) (l.drop m) m (eH l.toArray.size m) a' w' (fun j=>by simp [List.getElem?_drop]) (by rw [hdl];exact hT.1.2) hp
 rwa [hdl] at this
end
end Go.Proofs.YtaeioidifpebdaaGreatDoor
