/-
 Laid together: ReadK, Glb18, Wit18.
-/
import Derived.Test.YtaeioidifpebdaaGreatDoorArgs
import Derived.Test.YtaeioidifpebdaaGreatDoorG5
import Derived.Test.YtaeioidifpebdaaGreatDoorG3
import Derived.Test.YtaeioidifpebdaaGreatDoorG1
import Derived.Test.YtaeioidifpebdaaGreatDoorRows
import Derived.LaidLaws
import Derived.Lib.LaidU8T
import Derived.KernelRfl
import Derived.Lib.LaidIn
section
namespace Go.Proofs.YtaeioidifpebdaaGreatDoor
open Go Go.ChangeShapes Go.WideShapes Go.ChangeAt Go.RowKit
set_option linter.unusedSimpArgs false
set_option linter.unusedVariables false
set_option maxRecDepth 100000
section
variable {H:Type} {enc:TypeId × Value→H} {w:World} {base:Nat} {spare:Nat→Bool} {held:Bool}
variable {v:Value} {d:DataW H} {ps:List MemPlace} {base':Nat}
end
end Go.Proofs.YtaeioidifpebdaaGreatDoor
end
section
namespace Go.Proofs.YtaeioidifpebdaaGreatDoor
open Go Go.RowKit Go.Lib Go.Shelf
set_option linter.unusedVariables false
set_option maxRecDepth 100000
theorem sL {w:World} {b o:Nat} {v:Value} (h:w.cell? ⟨b,o,none⟩=some v):b<w.heap.size:=by
 refine Nat.lt_of_not_le fun hn=>?_
 have:w.heap[b]?=none:=Array.getElem?_eq_none hn
 simp [World.cell?,this] at h
theorem CZ {w:World} {b:Nat} {o:Obj} (h:w.heap[b]?=some o):b<w.heap.size:=(Array.getElem?_eq_some_iff.1 h).1
theorem GL.size {w:World} (h:GL w):∀b,GBw w b→b<w.heap.size:=fun b hb=>by
 obtain⟨h1,a,c,ca,cb,ta,tb,g2,g3,g6,g7,g8,g4,g5⟩:=h
 rcases hb with hb|⟨g,t,o,hg,hc⟩
 ·simp only [GB,Bool.or_eq_true,beq_iff_eq] at hb
  rcases hb with ((rfl|rfl)|rfl)|rfl
  ·exact sL (h1.1 0 (by decide))
  ·exact sL (h1.2 0 (by decide)).1
  ·exact sL g2
  ·exact sL g3
 ·rcases hg with rfl|rfl
  ·rw [g2] at hc;simp at hc;obtain⟨-,rfl⟩:=hc;exact CZ g4
  ·rw [g3] at hc;simp at hc;obtain⟨-,rfl⟩:=hc;exact CZ g5
abbrev tB:List (String × DataW Unit):=[("unicode/utf8.acceptRanges",Rows.laid_unicode_utf8_acceptRanges),("moraine/expand.errSyntax",Rows.laid_moraine_expand_errSyntax),("moraine/expand.errBig",Rows.laid_moraine_expand_errBig),("unicode/utf8.first",Rows.laid_unicode_utf8_first)]
theorem RI {P:Program} {w:World}:∀{l:List (String × DataW Unit)} {ps:List MemPlace},DataW.LaidVars P w l ps→∀n d,(n,d)∈l →
  ∃g t cs fuel p,P.globalNamed n=some g∧(P.globals[g]?).map (·.type)=some t∧w.var? P n=some cs∧DataW.trod (fun _=>()) P w 0 (fun _=>true) false fuel t cs.toList=some (d,p)∧∀x,x∈p∨x∈MemPlace.row ⟨g,0,none⟩ cs.size→x∈ps
 | [],_,_,_,_,hm=>by cases hm
 | (n',d')::r,ps,h,n,d,hm=>by
  obtain⟨g,t,cs,fuel,p,q,h1,h2,h3,h4,h5,rfl⟩:=h
  rcases List.mem_cons.1 hm with e|e
  ·cases e
   exact⟨g,t,cs,fuel,p,h1,h2,h3,h4,fun x hx=>by rcases hx with hx|hx<;>simp [hx]⟩
  ·obtain⟨g',t',cs',f',p',k1,k2,k3,k4,k5⟩:=RI h5 n d e
   exact⟨g',t',cs',f',p',k1,k2,k3,k4,fun x hx=>List.mem_append_right _ (k5 x hx)⟩
theorem TS (u:TypeId) (hu:Tryz.prog.typeName? 3 u=some "*errors.errorString"):u=183 :=
 typeName_ptr_named (nm := "errors.errorString") (by kernel_rfl) (by kernel_rfl) (by decide) u (hu.trans (by rfl))
theorem RJ {W:World} (hM:laidMet Tryz.prog tB W) {n:String} {text:List UInt8} {g:Nat} (hm:(n,DataW.iface "*errors.errorString" (.ptr (.agg [.lit (.string text)])))∈tB) (hg:Tryz.prog.globalNamed n=some g) (hty:(Tryz.prog.globals[g]?).map (·.type)=some 62) :
  ∃a s c t,W.cell? ⟨g,0,none⟩=some (.iface 183 (.pointer (some a)))∧W.cell? a=some (.string s)∧s.data.toList=text∧W.heap[a.block]?=some (.cells c t (0,0)):=by
 obtain⟨ps,h1,h2,h3⟩:=hM
 obtain⟨g',t',cs,fuel,p,k1,k2,k3,k4,k5⟩:=RI h1 _ _ hm
 obtain rfl:=Option.some.inj (hg.symm.trans k1)
 obtain rfl:=Option.some.inj (hty.symm.trans k2)
 have hc0:=World.var?_cell hg k3 0
 obtain⟨l⟩:=cs
 obtain⟨a,s,e1,e2,e3,-,rfl⟩:=errorString_of_trod (ts:=9) Tryz.underlying62 TS Tryz.underlying183 Tryz.underlying208 rfl rfl Tryz.underlying9 (by kernel_rfl) (by kernel_rfl) k4 (fun u v e=>by
  simp only at e
  subst e
  exact (h3 g 0 (k5 _ (.inr (by simp [MemPlace.row])))).2 u v hc0)
 simp only at e1
 subst e1
 obtain⟨⟨c,t,hh⟩,-⟩:=h3 a.block a.off (k5 _ (.inl (by simp [MemPlace.row])))
 exact⟨a,s,c,t,hc0,e2,e3,hh⟩
theorem DA {W:World} {a:Addr} {v:Value} (h:W.cell? a=some v):a.spot=none:=by
 unfold World.cell? at h
 split at h
 ·split at h
  ·cases h
  ·rename_i hn;simpa using hn
 ·cases h
theorem RK:Rows.laid_unicode_utf8_first=firstData:=by kernel_rfl
theorem OM:Rows.laid_unicode_utf8_acceptRanges=acceptData:=by kernel_rfl
theorem XN {W:World} (hL:laidMetH Tryz.prog tB W):GL W:=by
 have hM:laidMet Tryz.prog tB W:=hL
 have h1:=Lib.laidMet.reads hL (n := "unicode/utf8.first") (d:=Rows.laid_unicode_utf8_first) (by simp [tB])
 have h2:=Lib.laidMet.reads hL (n := "unicode/utf8.acceptRanges") (d:=Rows.laid_unicode_utf8_acceptRanges) (by simp [tB])
 rw [RK] at h1
 rw [OM] at h2
 obtain⟨a,s,c,t,a1,a2,a3,a4⟩:=RJ hM (n := "moraine/expand.errBig") (text:=[116,111,111,32,109,97,110,121]) (g:=0) (by simp [tB,Rows.laid_moraine_expand_errBig]) (by kernel_rfl) (by kernel_rfl)
 obtain⟨b,u,e,f,b1,b2,b3,b4⟩:=RJ hM (n := "moraine/expand.errSyntax") (text:=[110,111,32,101,120,112,114,101,115,115,105,111,110]) (g:=1) (by simp [tB,Rows.laid_moraine_expand_errSyntax]) (by kernel_rfl) (by kernel_rfl)
 refine⟨utf8Tabs_of_readsT (U8Types.of196 Tryz.lays196) ⟨by kernel_rfl,by kernel_rfl,by kernel_rfl,by kernel_rfl,by kernel_rfl,by kernel_rfl,by kernel_rfl⟩ h1 h2,a,b,c,e,t,f,a1,b1,DA a2,DA b2,fun e=>?_,a4,b4⟩
 subst e
 rw [a2] at b2
 cases b2
 rw [a3] at b3
 cases b3
end Go.Proofs.YtaeioidifpebdaaGreatDoor
end
section
namespace Go.Proofs.YtaeioidifpebdaaGreatDoor
open Go.ChangeShapes Go.WideShapes Go.ChangeAt Go.RowKit
set_option linter.unusedSimpArgs false
set_option linter.unusedVariables false
set_option maxRecDepth 100000
noncomputable def low:Nat:=(World.holding Tryz.prog default ⟨#[],#[],[]⟩).heap.size
def YF:ByteArray:=⟨#[116,111,111,32,109,97,110,121]⟩
def noS:ByteArray:=⟨#[110,111,32,101,120,112,114,101,115,115,105,111,110]⟩
noncomputable def wJ (os:Os):World :=
 let w0:=World.holding Tryz.prog os ⟨#[.cells #[.string YF] 208,.cells #[.string noS] 208],#[],[]⟩
 let put (h:Array Obj) (g:Nat) (cs:Array Value):Array Obj:=h.modify g fun
  | .cells _ t frozen=>.cells cs t frozen
  | o=>o
 let h1:=put w0.heap 2 (Go.Pinned.utf8FirstZ.map fun z=>Value.int .u8 (Int.ofNat z)).toArray
 let h2:=put h1 3 (([128,191,160,191,128,159,144,191,128,143]++List.replicate 22 0).map fun z=>Value.int .u8 (Int.ofNat z)).toArray
 let h3:=put h2 0 #[.iface 183 (.pointer (some ⟨low,0,none⟩))]
 let h4:=put h3 1 #[.iface 183 (.pointer (some ⟨low+1,0,none⟩))]
 { w0 with heap:=h4 }
theorem RL (os:Os) (args:Array Value):laidMet Tryz.prog tB ((wJ os).forCall (fun _ _=>0) ⟨#[],args,[]⟩).memory :=
 (LaidIn.of_run (l:=tB) [3,1,0,2,low,low+1] 8 (by kernel_rfl) (by kernel_rfl) (by kernel_rfl) (by kernel_rfl)).met
end Go.Proofs.YtaeioidifpebdaaGreatDoor
end
