
import Derived.Test.YtaeioidifpebdaaGreatDoorOwnD
namespace Go.Proofs.YtaeioidifpebdaaGreatDoor
open Go.RowKit
set_option linter.unusedSimpArgs false
set_option linter.unusedVariables false

def jW (n:Nat):Prop:=∀(d:D) (w:World) (v:Value),d.ht≤n→d.Ok→Tabs w→IsD w d v →
 Calls Tryz.prog 53 #[v] w fun e w'=>e=.returned (.bool (cA d))∧Ext w w'

set_option maxHeartbeats 1000000 in
theorem IV (n:Nat) (ih:jW n) (d:D) (w:World) (v:Value) (hh:d.ht≤n) (hok:d.Ok) (hT:Tabs w) (h:IsD w d v) :
  Calls Tryz.prog 81 #[v] w fun e w'=>e=.returned (.bool (!cA d))∧Ext w w':=by
 have HC:=Lib.hid (fun W (hx:Ext w W) v (hv:IsD W d v)=>ih d W v hh hok (hT.ext hx) hv)
 obtain⟨am,cm,al,cl,rfl,hm,hl,-,-,-,-⟩:=h.open
 clear hok hT h hh
 go_enter Tryz.func81,Tryz.ntmps81
 go_wp2_with fail
 refine (HC.out _ ((Ext.refl _).alloc _) _ (IsD.mk' (hm.keep ((Ext.refl _).alloc _).keeps) (hl.keep ((Ext.refl _).alloc _).keeps))).mono ?_
 rintro e w1 ⟨rfl,hx1⟩
 go_wp2_with fail
 go_ret
 exact⟨rfl,((Ext.refl _).alloc _).trans hx1⟩

set_option maxHeartbeats 1000000 in
theorem EW (n:Nat) (ih:jW n) (l:List D) (hh:∀i (h:i<l.length),l[i].ht≤n∧l[i].Ok) (w:World) (v:Value) (hT:Tabs w) (h:IsDs w l v) :
  Calls Tryz.prog 103 #[v,.func (.func 81) #[] #[]] w fun e w'=>∃r:Int,e=.returned (.int .i64 r)∧(decide (0≤r)=!iB l)∧Ext w w':=by
 obtain⟨a,cap,rfl,h1,h2⟩:=h.form
 unfold maxLen at h2
 have HC:=Lib.hid (fun W (hx:Ext w W) i (hi:i<l.length) v (hv:IsD W l[i] v)=>IV n ih l[i] W v (hh i hi).1 (hh i hi).2 (hT.ext hx) hv)
 clear hh hT
 go_enter Tryz.func103,Tryz.ntmps103
 go_wp2
 go_loopw [8] (fun i wr=>∃k:Nat,k≤l.length∧i=.int .i64 k∧(∀j (h:j<l.length),j<k→l[j].Plain)∧Ext w wr) (fun i _=>l.length-(intOf i).toNat)
 case atStart=>exact⟨0,Nat.zero_le _,rfl,(fun j _ h=>by omega),Ext.refl _⟩
 case round =>
  obtain⟨k,hk,rfl,ht,hxr⟩:=hrel
  have HT:=Lib.hid ht;clear ht
  by_cases hlt:k<l.length
  ·obtain⟨b,o,rfl,hcell⟩:=h.get k hlt
   obtain⟨am',cm',al',cl',c0,c1,c2,c3,c4,c5,hm',hl'⟩:=hcell.keep hxr.keeps
   go_wp2_with fail
   refine (HC.out _ hxr k hlt _ (IsD.mk' hm' hl')).mono ?_
   rintro e w2 ⟨rfl,hx2⟩
   by_cases hp:l[k].Plain
   ·have e1:cA l[k]=true:=dC.2 hp
    have hz':∀j (h:j<l.length),j<k+1→l[j].Plain:=fun j hj hjk=>by
     rcases Nat.lt_or_ge j k with h'|h'
     ·exact HT.out j hj h'
     ·obtain rfl:j=k:=by omega
      exact hp
    have HP:=Lib.hid hz';clear hp hz'
    simp only [e1,Bool.not_true]
    go_wp2_with fail
    go_roundw
    case rel=>exact⟨k+1,hlt,by go_num,HP.out,hxr.trans hx2⟩
    case measure=>simp [intOf];omega
   ·have e1:cA l[k]=false:=pX hp
    have e2:iB l=false:=rJ (fun h=>hp ((Plains.iff l).1 h k hlt))
    have E2:=Lib.hid e2;clear e2 hp
    simp only [e1,Bool.not_false]
    go_wp2_with fail
    go_ret
    exact⟨_,rfl,(by rw [E2.out];simp),hxr.trans hx2⟩
  ·have e2:iB l=true:=jQ.2 ((Plains.iff l).2 fun i hi=>HT.out i hi (by omega))
   have E2:=Lib.hid e2;clear e2
   go_wp2_with fail
   go_ret
   exact⟨_,rfl,(by rw [E2.out];rfl),hxr⟩

theorem qQ (n:Nat) (ih:jW n) (l:List D) (hh:∀i (h:i<l.length),l[i].ht≤n∧l[i].Ok) (w:World) (v:Value) (hT:Tabs w) (h:IsDs w l v) :
  Calls Tryz.prog 80 #[v,.func (.func 81) #[] #[]] w fun e w'=>e=.returned (.bool (!iB l))∧Ext w w':=by
 have HC:=Lib.hid (EW n ih l hh w v hT h)
 obtain⟨a,cap,rfl,h1,h2⟩:=h.form
 clear hh hT h h1 h2
 go_enter Tryz.func80,Tryz.ntmps80
 go_wp2_with fail
 refine HC.out.mono ?_
 rintro e w1 ⟨r,rfl,hr,hx1⟩
 have HR:=Lib.hid hr;clear hr
 go_wp2_with fail
 go_ret
 exact⟨aG HR.out,hx1⟩
end Go.Proofs.YtaeioidifpebdaaGreatDoor
