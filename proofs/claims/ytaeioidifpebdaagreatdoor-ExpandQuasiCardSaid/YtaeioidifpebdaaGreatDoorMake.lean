
import Derived.Test.YtaeioidifpebdaaGreatDoorNum2
namespace Go.Proofs.YtaeioidifpebdaaGreatDoor
open Go.RowKit
set_option linter.unusedSimpArgs false
set_option linter.unusedVariables false

theorem IsMag.nil (w:World):IsMag w [] (.slice none 0 0):=by simp only [IsMag,List.map_nil,Rd];exact⟨_,rfl,.inl ⟨trivial,.inl rfl⟩⟩
theorem IsDs.nil (w:World):IsDs w [] (.slice none 0 0):=by simp only [IsDs,List.map_nil,Rd];exact⟨_,rfl,.inl ⟨trivial,.inl rfl⟩⟩

def bJ (s:ByteArray):D:=.mk 6 0 false [] s []
def cH:D:=.mk 0 0 false [] ⟨#[]⟩ []

set_option maxHeartbeats 1000000 in
theorem TQ (s:ByteArray) (w:World) :
  Calls Tryz.prog 137 #[.string s] w fun e w'=>∃v',e=.returned v'∧Ext w w'∧IsD (cM w' w.heap.size) (bJ s) v':=by
 go_enter Tryz.func137,Tryz.ntmps137
 go_wp2_with fail
 refine bodyPost_ret (v:=.agg #[.int .i64 6,.int .i32 0,.bool false,.slice none 0 0,.string s,.slice none 0 0]) (by simp [results,Tryz.results137,go_sem]) rfl ⟨_,rfl,(Ext.refl _).alloc _,IsD.mk (IsMag.nil _) (IsDs.nil _)⟩
end Go.Proofs.YtaeioidifpebdaaGreatDoor
