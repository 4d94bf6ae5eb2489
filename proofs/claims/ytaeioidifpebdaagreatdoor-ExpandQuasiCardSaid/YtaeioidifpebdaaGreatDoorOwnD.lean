
import Derived.Test.YtaeioidifpebdaaGreatDoorPlain4
import Derived.Test.YtaeioidifpebdaaGreatDoorSame1
import Derived.Test.YtaeioidifpebdaaGreatDoorMake
namespace Go.Proofs.YtaeioidifpebdaaGreatDoor
open Go.RowKit
set_option linter.unusedSimpArgs false
set_option linter.unusedVariables false

theorem IsD.open' {w:World} {k c:Int} {neg:Bool} {mag:List Int} {t:ByteArray} {l:List D} {v:Value} (h:IsD w (.mk k c neg mag t l) v) :
  ∃am cm al cl,v=.agg #[.int .i64 k,.int .i32 c,.bool neg,.slice am mag.length cm,.string t,.slice al l.length cl] ∧
   IsMag w mag (.slice am mag.length cm)∧IsDs w l (.slice al l.length cl)∧mag.length≤cm∧cm≤maxLen∧l.length≤cl∧cl≤maxLen:=h.open

set_option maxHeartbeats 2000000 in
theorem jK (k c:Int) (neg:Bool) (mag:List Int) (t:ByteArray) (l:List D) (w:World) (v:Value) (h:IsD w (.mk k c neg mag t l) v) (h0:0≤k) (h1:k≤10) :
  Calls Tryz.prog 76 #[v] w fun e w'=>∃v',e=.returned v'∧Ext w w'∧IsD w' (cD (.mk k c neg mag t l)) v':=by
 obtain⟨am,cm,al,cl,rfl,hm,hl,-,-,-,-⟩:=h.open'
 clear h
 have hk:k=0∨k=1∨k=2∨k=3∨k=4∨k=5∨k=6∨k=7∨k=8∨k=9∨k=10:=by omega
 clear h0 h1
 rcases hk with rfl|rfl|rfl|rfl|rfl|rfl|rfl|rfl|rfl|rfl|rfl
 ·go_enter Tryz.func76,Tryz.ntmps76
  go_wp2_with fail
  refine bodyPost_ret (v:=.agg #[.int .i64 0,.int .i32 0,.bool false,.slice none 0 0,.string ⟨#[]⟩,.slice none 0 0]) (by simp [results,Tryz.results76,go_sem]) rfl ⟨_,rfl,(((Ext.refl _).alloc _).alloc _).alloc _,?_⟩
  rw [show cD (.mk 0 c neg mag t l)=.mk 0 0 false [] ⟨#[]⟩ [] by simp [cD]]
  exact IsD.mk (IsMag.nil _) (IsDs.nil _)
 ·go_enter Tryz.func76,Tryz.ntmps76
  go_wp2_with fail
  refine bodyPost_ret (v:=.agg #[.int .i64 1,.int .i32 0,.bool false,.slice none 0 0,.string ⟨#[]⟩,.slice none 0 0]) (by simp [results,Tryz.results76,go_sem]) rfl ⟨_,rfl,(((Ext.refl _).alloc _).alloc _).alloc _,?_⟩
  rw [show cD (.mk 1 c neg mag t l)=.mk 1 0 false [] ⟨#[]⟩ [] by simp [cD]]
  exact IsD.mk (IsMag.nil _) (IsDs.nil _)
 ·go_enter Tryz.func76,Tryz.ntmps76
  go_wp2_with fail
  refine bodyPost_ret (v:=.agg #[.int .i64 2,.int .i32 0,.bool false,.slice none 0 0,.string ⟨#[]⟩,.slice none 0 0]) (by simp [results,Tryz.results76,go_sem]) rfl ⟨_,rfl,(((Ext.refl _).alloc _).alloc _).alloc _,?_⟩
  rw [show cD (.mk 2 c neg mag t l)=.mk 2 0 false [] ⟨#[]⟩ [] by simp [cD]]
  exact IsD.mk (IsMag.nil _) (IsDs.nil _)
 ·go_enter Tryz.func76,Tryz.ntmps76
  go_wp2_with fail
  refine bodyPost_ret (v:=.agg #[.int .i64 3,.int .i32 c,.bool false,.slice none 0 0,.string ⟨#[]⟩,.slice none 0 0]) (by simp [results,Tryz.results76,go_sem]) rfl ⟨_,rfl,(((Ext.refl _).alloc _).alloc _).alloc _,?_⟩
  rw [show cD (.mk 3 c neg mag t l)=.mk 3 c false [] ⟨#[]⟩ [] by simp [cD]]
  exact IsD.mk (IsMag.nil _) (IsDs.nil _)
 ·go_enter Tryz.func76,Tryz.ntmps76
  go_wp2_with fail
  refine bodyPost_ret (v:=.agg #[.int .i64 4,.int .i32 0,.bool neg,.slice am mag.length cm,.string ⟨#[]⟩,.slice none 0 0]) (by simp [results,Tryz.results76,go_sem]) rfl ⟨_,rfl,(((Ext.refl _).alloc _).alloc _).alloc _,?_⟩
  rw [show cD (.mk 4 c neg mag t l)=.mk 4 0 neg mag ⟨#[]⟩ [] by simp [cD]]
  exact IsD.mk (hm.keep ((((Ext.refl _).alloc _).alloc _).alloc _).keeps) (IsDs.nil _)
 ·go_enter Tryz.func76,Tryz.ntmps76
  go_wp2_with fail
  refine bodyPost_ret (v:=.agg #[.int .i64 5,.int .i32 0,.bool false,.slice none 0 0,.string t,.slice none 0 0]) (by simp [results,Tryz.results76,go_sem]) rfl ⟨_,rfl,(((Ext.refl _).alloc _).alloc _).alloc _,?_⟩
  rw [show cD (.mk 5 c neg mag t l)=.mk 5 0 false [] t [] by simp [cD]]
  exact IsD.mk (IsMag.nil _) (IsDs.nil _)
 ·go_enter Tryz.func76,Tryz.ntmps76
  go_wp2_with fail
  refine bodyPost_ret (v:=.agg #[.int .i64 6,.int .i32 0,.bool false,.slice none 0 0,.string t,.slice none 0 0]) (by simp [results,Tryz.results76,go_sem]) rfl ⟨_,rfl,(((Ext.refl _).alloc _).alloc _).alloc _,?_⟩
  rw [show cD (.mk 6 c neg mag t l)=.mk 6 0 false [] t [] by simp [cD]]
  exact IsD.mk (IsMag.nil _) (IsDs.nil _)
 ·go_enter Tryz.func76,Tryz.ntmps76
  go_wp2_with fail
  refine bodyPost_ret (v:=.agg #[.int .i64 7,.int .i32 0,.bool false,.slice none 0 0,.string ⟨#[]⟩,.slice al l.length cl]) (by simp [results,Tryz.results76,go_sem]) rfl ⟨_,rfl,(((Ext.refl _).alloc _).alloc _).alloc _,?_⟩
  rw [show cD (.mk 7 c neg mag t l)=.mk 7 0 false [] ⟨#[]⟩ l by simp [cD]]
  exact IsD.mk (IsMag.nil _) (hl.keep ((((Ext.refl _).alloc _).alloc _).alloc _).keeps)
 ·go_enter Tryz.func76,Tryz.ntmps76
  go_wp2_with fail
  refine bodyPost_ret (v:=.agg #[.int .i64 8,.int .i32 0,.bool false,.slice none 0 0,.string ⟨#[]⟩,.slice al l.length cl]) (by simp [results,Tryz.results76,go_sem]) rfl ⟨_,rfl,(((Ext.refl _).alloc _).alloc _).alloc _,?_⟩
  rw [show cD (.mk 8 c neg mag t l)=.mk 8 0 false [] ⟨#[]⟩ l by simp [cD]]
  exact IsD.mk (IsMag.nil _) (hl.keep ((((Ext.refl _).alloc _).alloc _).alloc _).keeps)
 ·go_enter Tryz.func76,Tryz.ntmps76
  go_wp2_with fail
  refine bodyPost_ret (v:=.agg #[.int .i64 9,.int .i32 0,.bool false,.slice none 0 0,.string ⟨#[]⟩,.slice none 0 0]) (by simp [results,Tryz.results76,go_sem]) rfl ⟨_,rfl,(((Ext.refl _).alloc _).alloc _).alloc _,?_⟩
  rw [show cD (.mk 9 c neg mag t l)=.mk 9 0 false [] ⟨#[]⟩ [] by simp [cD]]
  exact IsD.mk (IsMag.nil _) (IsDs.nil _)
 ·go_enter Tryz.func76,Tryz.ntmps76
  go_wp2_with fail
  refine bodyPost_ret (v:=.agg #[.int .i64 10,.int .i32 0,.bool false,.slice none 0 0,.string ⟨#[]⟩,.slice none 0 0]) (by simp [results,Tryz.results76,go_sem]) rfl ⟨_,rfl,(((Ext.refl _).alloc _).alloc _).alloc _,?_⟩
  rw [show cD (.mk 10 c neg mag t l)=.mk 10 0 false [] ⟨#[]⟩ [] by simp [cD]]
  exact IsD.mk (IsMag.nil _) (IsDs.nil _)
end Go.Proofs.YtaeioidifpebdaaGreatDoor
