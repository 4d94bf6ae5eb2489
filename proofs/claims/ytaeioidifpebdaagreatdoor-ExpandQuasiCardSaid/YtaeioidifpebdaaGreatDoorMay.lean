
import Derived.Test.YtaeioidifpebdaaGreatDoorPlainD
import Derived.Test.YtaeioidifpebdaaGreatDoorDepth
namespace Go.Proofs.YtaeioidifpebdaaGreatDoor
open Go.RowKit
set_option linter.unusedSimpArgs false
set_option linter.unusedVariables false

set_option maxHeartbeats 2000000 in
theorem UE (d:D) (w:World) (v:Value) (hok:d.Ok) (hb:d.count<1000000000) (hT:Tabs w) (h:IsD w d v) :
  Calls Tryz.prog 39 #[v] w fun e w'=>e=.returned (.bool (oD d))∧Ext w w':=by
 unfold oD
 have HP:=Lib.hid (fun W (hx:Ext w W)=>PA d W v hok (hT.ext hx) (h.keep hx.keeps))
 have HD:=Lib.hid (fun W (hx:Ext w W)=>OP d W v hb (h.keep hx.keeps))
 obtain⟨am,cm,al,cl,rfl,-,-,-,-,-,-⟩:=h.open
 have hx0:=(Ext.refl w).alloc (.cells #[.int .i64 d.k,.int .i32 d.c,.bool d.neg,.slice am d.mag.length cm,.string d.t,.slice al d.l.length cl] 28)
 go_enter Tryz.func39,Tryz.ntmps39
 go_wp2_with fail
 refine (HP.out _ hx0).mono ?_
 rintro e w1 ⟨rfl,hx1⟩
 have b0:=(hx1.block w.heap.size (by simp)).trans (gK _ _)
 have hc0:=cG b0
 have hxx:=hx0.trans hx1
 clear b0
 rcases hp:cA d
 ·go_wp2_with fail
  go_ret
  exact⟨aG (by rw [hp];rfl),hxx⟩
 ·go_wp2_with fail
  refine (HD.out _ hxx).mono ?_
  rintro e w2 ⟨rfl,hx2⟩
  go_wp2_with fail
  go_ret
  refine⟨aG ?_,hxx.trans hx2⟩
  rw [hp];simp;omega
end Go.Proofs.YtaeioidifpebdaaGreatDoor
