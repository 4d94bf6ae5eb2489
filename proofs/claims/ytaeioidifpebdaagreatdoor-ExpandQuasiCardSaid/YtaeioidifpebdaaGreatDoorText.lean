
import Derived.Test.YtaeioidifpebdaaGreatDoorShelf
import Derived.Test.YtaeioidifpebdaaGreatDoorNum2
namespace Go.Proofs.YtaeioidifpebdaaGreatDoor
open Go.RowKit
set_option linter.unusedSimpArgs false
set_option linter.unusedVariables false

def Tabs (w:World):Prop:=Lib.Utf8Tabs (Tryz.lays196_ren.g 3) (Tryz.lays196_ren.g 4) w
theorem Tabs.ext {w w':World} (h:Tabs w) (hx:Ext w w'):Tabs w' :=
 ⟨fun c hc=>hx.keeps _ _ (h.1 c hc),fun i hi=>⟨hx.keeps _ _ (h.2 i hi).1,hx.keeps _ _ (h.2 i hi).2⟩⟩

noncomputable def gN (s:ByteArray) (least:Int):Bool:=Lib.validD s.data.toList&&decide (least≤Lib.runeCount s)&&decide (Lib.runeCount s≤62)

theorem BR (s:ByteArray) (w:World) (hs:s.size<9223372036854775807):Calls Tryz.prog 101 #[.string s] w fun e w'=>e=.returned (.int .i64 (Lib.runeCount s))∧Ext w w' :=
 (Tryz.utf8_RuneCountInString s w hs).mono fun e w' ⟨he,pos,hw⟩=>⟨he,by subst hw;exact (Ext.refl w).alloc _⟩
theorem NK (s:ByteArray) (w:World) (hs:s.size≤9223372036854775807) (hT:Tabs w):Calls Tryz.prog 102 #[.string s] w fun e w'=>e=.returned (.bool (Lib.validD s.data.toList))∧Ext w w' :=
 Any.utf8_ValidString Tryz.lays196 s w hs hT

set_option maxHeartbeats 1000000 in
theorem GC (s:ByteArray) (least:Int) (w:World) (hs:s.size<9223372036854775807) (hT:Tabs w) :
  Calls Tryz.prog 79 #[.string s,.int .i64 least] w fun e w'=>e=.returned (.bool (gN s least))∧Ext w w':=by
 have HR:=Lib.hid (BR s w hs)
 have HV:=Lib.hid (fun W (hx:Ext w W)=>NK s W (by omega) (hT.ext hx))
 have hle:Lib.runeCount s≤s.size:=Lib.runeCountFrom_le s _ _
 have HT:=Lib.hid (show gN s least=(Lib.validD s.data.toList&&decide (least≤Lib.runeCount s)&&decide (Lib.runeCount s≤62)) from rfl)
 generalize Lib.runeCount s=n at *
 generalize Lib.validD s.data.toList=b at *
 clear hT
 go_enter Tryz.func79,Tryz.ntmps79
 go_wp2_with fail
 with_reducible refine HR.out.mono ?_
 rintro e w1 ⟨rfl,hx1⟩
 go_wp2_with fail
 with_reducible refine (HV.out _ hx1).mono ?_
 rintro e w2 ⟨rfl,hx2⟩
 cases b with
 | false =>
  go_wp2_with fail
  go_ret
  exact⟨aG (by rw [HT.out];rfl),hx1.trans hx2⟩
 | true =>
  by_cases h1:least≤n
  ·have e1:decide (least≤(n:Int))=true:=by simpa using h1
   go_wp2_with fail
   go_ret
   exact⟨aG (by rw [HT.out,e1,Bool.true_and,Bool.true_and];exact decide_eq_decide.2 (by omega)),hx1.trans hx2⟩
  ·have e1:decide (least≤(n:Int))=false:=by simpa using h1
   go_wp2_with fail
   go_ret
   exact⟨aG (by rw [HT.out,e1];rfl),hx1.trans hx2⟩
end Go.Proofs.YtaeioidifpebdaaGreatDoor
