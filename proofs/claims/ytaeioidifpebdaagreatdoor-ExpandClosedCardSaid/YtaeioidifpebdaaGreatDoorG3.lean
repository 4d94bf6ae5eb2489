/-
 Laid together: Ty, DatC, Bridge, Made.
-/
import Derived.Test.YtaeioidifpebdaaGreatDoorG2
import Derived.Test.YtaeioidifpebdaaGreatDoorProg
import Derived.KernelRfl
import Derived.Test.YtaeioidifpebdaaGreatDoorPlain2
import Derived.Test.YtaeioidifpebdaaGreatDoorChecked
import Derived.Test.YtaeioidifpebdaaGreatDoorPhi
section
namespace Go.Proofs.YtaeioidifpebdaaGreatDoor
set_option linter.unusedVariables false
theorem fp:tyI Tryz.prog 3=some (false,1):=by kernel_rfl
theorem uJ:qx Tryz.prog 4=true:=by kernel_rfl
theorem fU:tyI Tryz.prog 9=some (false,1):=by kernel_rfl
theorem oD:pv Tryz.prog 9=true:=by kernel_rfl
theorem oE:m7 Tryz.prog 9=some true:=by kernel_rfl
theorem oG:tyI Tryz.prog 22=some (false,1):=by kernel_rfl
theorem bi:gH Tryz.prog 22=some (9,1):=by kernel_rfl
theorem bR:m7 Tryz.prog 22=some false:=by kernel_rfl
theorem bk:kU Tryz.prog 22=some 16:=by kernel_rfl
theorem bo:gL Tryz.prog 9=some [.string ⟨#[]⟩]:=by kernel_rfl
theorem xo:tyI Tryz.prog 23=some (false,1):=by kernel_rfl
theorem uK:gH Tryz.prog 23=some (96,1):=by kernel_rfl
theorem uL:m7 Tryz.prog 23=some false:=by kernel_rfl
theorem uM:kU Tryz.prog 23=some 4:=by kernel_rfl
theorem uN:gL Tryz.prog 96=some [.int .u32 0]:=by kernel_rfl
theorem qL:iV Tryz.prog 25 1=some (1,23):=by kernel_rfl
theorem hO:tyI Tryz.prog 26=some (false,1):=by kernel_rfl
theorem aF:gH Tryz.prog 26=some (28,6):=by kernel_rfl
theorem bq:m7 Tryz.prog 26=some false:=by kernel_rfl
theorem aN:kU Tryz.prog 26=some 88:=by kernel_rfl
theorem aO:gL Tryz.prog 28=some [.int .i64 0,.int .i32 0,.bool false,.slice none 0 0,.string ⟨#[]⟩,.slice none 0 0]:=by kernel_rfl
theorem aK:tyI Tryz.prog 28=some (true,6):=by kernel_rfl
theorem dg:qA Tryz.prog 28=true:=by kernel_rfl
theorem bZ:iV Tryz.prog 28 0=some (0,3):=by kernel_rfl
theorem cr:ew Tryz.prog 28 0=some (0,1):=by kernel_rfl
theorem cu:ew Tryz.prog 28 1=some (1,1):=by kernel_rfl
theorem qM:iV Tryz.prog 28 2=some (2,25):=by kernel_rfl
theorem cv:ew Tryz.prog 28 2=some (2,2):=by kernel_rfl
theorem dP:iV Tryz.prog 28 3=some (4,9):=by kernel_rfl
theorem cw:ew Tryz.prog 28 3=some (4,1):=by kernel_rfl
theorem dq:iV Tryz.prog 28 4=some (5,26):=by kernel_rfl
theorem cx:ew Tryz.prog 28 4=some (5,1):=by kernel_rfl
theorem bJ:gL Tryz.prog 28=some [.int .i64 0,.int .i32 0,.bool false,.slice none 0 0,.string ⟨#[]⟩,.slice none 0 0]:=by kernel_rfl
theorem oH:tyI Tryz.prog 29=some (false,1):=by kernel_rfl
theorem aW:gH Tryz.prog 29=some (31,11):=by kernel_rfl
theorem cp:m7 Tryz.prog 29=some false:=by kernel_rfl
theorem aX:kU Tryz.prog 29=some 176:=by kernel_rfl
theorem aY:gL Tryz.prog 31=some [.int .i64 0,.string ⟨#[]⟩,.string ⟨#[]⟩,.slice none 0 0,.int .i64 0,.int .i32 0,.bool false,.slice none 0 0,.string ⟨#[]⟩,.slice none 0 0,.slice none 0 0]:=by kernel_rfl
theorem aI:tyI Tryz.prog 31=some (true,11):=by kernel_rfl
theorem aR:qA Tryz.prog 31=true:=by kernel_rfl
theorem iB:iV Tryz.prog 31 0=some (0,3):=by kernel_rfl
theorem ay:ew Tryz.prog 31 0=some (0,1):=by kernel_rfl
theorem kY:iV Tryz.prog 31 1=some (1,9):=by kernel_rfl
theorem az:ew Tryz.prog 31 1=some (1,1):=by kernel_rfl
theorem kZ:iV Tryz.prog 31 2=some (2,9):=by kernel_rfl
theorem aA:ew Tryz.prog 31 2=some (2,1):=by kernel_rfl
theorem iC:iV Tryz.prog 31 3=some (3,22):=by kernel_rfl
theorem aB:ew Tryz.prog 31 3=some (3,1):=by kernel_rfl
theorem qN:iV Tryz.prog 31 4=some (4,28):=by kernel_rfl
theorem aD:ew Tryz.prog 31 4=some (4,6):=by kernel_rfl
theorem iD:iV Tryz.prog 31 5=some (10,29):=by kernel_rfl
theorem aE:ew Tryz.prog 31 5=some (10,1):=by kernel_rfl
theorem aq:gL Tryz.prog 31=some [.int .i64 0,.string ⟨#[]⟩,.string ⟨#[]⟩,.slice none 0 0,.int .i64 0,.int .i32 0,.bool false,.slice none 0 0,.string ⟨#[]⟩,.slice none 0 0,.slice none 0 0]:=by kernel_rfl
theorem xp:tyI Tryz.prog 53=some (false,1):=by kernel_rfl
theorem uO:gH Tryz.prog 53=some (3,1):=by kernel_rfl
theorem uP:m7 Tryz.prog 53=some false:=by kernel_rfl
theorem uQ:kU Tryz.prog 53=some 8:=by kernel_rfl
theorem uR:gL Tryz.prog 3=some [.int .i64 0]:=by kernel_rfl
theorem xq:tyI Tryz.prog 55=some (true,5):=by kernel_rfl
theorem qO:iV Tryz.prog 55 4=some (4,53):=by kernel_rfl
theorem uS:gL Tryz.prog 55=some [.slice none 0 0,.slice none 0 0,.slice none 0 0,.slice none 0 0,.slice none 0 0]:=by kernel_rfl
theorem ci:tyI Tryz.prog 62=some (false,1):=by kernel_rfl
theorem ex:xD Tryz.prog 62=true:=by kernel_rfl
theorem w3:type_of% (And.intro aI uJ):=And.intro aI uJ
theorem w4:type_of% (And.intro aK (And.intro aq aI)):=And.intro aK (And.intro aq aI)
theorem w5:type_of% (And.intro (And.intro (And.intro (And.intro aK oE) (And.intro oD bJ)) (And.intro (And.intro dg cr) (And.intro cu cv))) (And.intro (And.intro (And.intro cw cx) (And.intro aF aO)) (And.intro (And.intro aN bZ) (And.intro fp (And.intro dP fU))))):=And.intro (And.intro (And.intro (And.intro aK oE) (And.intro oD bJ)) (And.intro (And.intro dg cr) (And.intro cu cv))) (And.intro (And.intro (And.intro cw cx) (And.intro aF aO)) (And.intro (And.intro aN bZ) (And.intro fp (And.intro dP fU))))
theorem w6:type_of% (And.intro (And.intro aK (And.intro aF aO)) (And.intro (And.intro aN aq) (And.intro aI bJ))):=And.intro (And.intro aK (And.intro aF aO)) (And.intro (And.intro aN aq) (And.intro aI bJ))
theorem w7:type_of% (And.intro (And.intro (And.intro (And.intro aK aF) (And.intro aO (And.intro aN aq))) (And.intro (And.intro aI iD) (And.intro oH (And.intro cp aW)))) (And.intro (And.intro (And.intro aX aY) (And.intro iB (And.intro fp iC))) (And.intro (And.intro oG bR) (And.intro bi (And.intro bk bo))))):=And.intro (And.intro (And.intro (And.intro aK aF) (And.intro aO (And.intro aN aq))) (And.intro (And.intro aI iD) (And.intro oH (And.intro cp aW)))) (And.intro (And.intro (And.intro aX aY) (And.intro iB (And.intro fp iC))) (And.intro (And.intro oG bR) (And.intro bi (And.intro bk bo))))
theorem w8:type_of% (And.intro (And.intro aK (And.intro oE oD)) (And.intro aF (And.intro aO aN))):=And.intro (And.intro aK (And.intro oE oD)) (And.intro aF (And.intro aO aN))
theorem w9:type_of% (And.intro (And.intro (And.intro aK (And.intro aq aI)) (And.intro (And.intro aW aY) (And.intro aX uS))) (And.intro (And.intro (And.intro xq qO) (And.intro xp uP)) (And.intro (And.intro uO uQ) (And.intro uR fp)))):=And.intro (And.intro (And.intro aK (And.intro aq aI)) (And.intro (And.intro aW aY) (And.intro aX uS))) (And.intro (And.intro (And.intro xq qO) (And.intro xp uP)) (And.intro (And.intro uO uQ) (And.intro uR fp)))
theorem w11:type_of% (And.intro (And.intro (And.intro bJ (And.intro dg cr)) (And.intro cu (And.intro cv cw))) (And.intro (And.intro cx (And.intro aK aF)) (And.intro (And.intro aO aN) (And.intro aq aI)))):=And.intro (And.intro (And.intro bJ (And.intro dg cr)) (And.intro cu (And.intro cv cw))) (And.intro (And.intro cx (And.intro aK aF)) (And.intro (And.intro aO aN) (And.intro aq aI)))
theorem w14:type_of% (And.intro (And.intro (And.intro iB fp) (And.intro kY (And.intro fU kZ))) (And.intro (And.intro iC (And.intro oG qN)) (And.intro aK (And.intro iD oH)))):=And.intro (And.intro (And.intro iB fp) (And.intro kY (And.intro fU kZ))) (And.intro (And.intro iC (And.intro oG qN)) (And.intro aK (And.intro iD oH)))
theorem w17:type_of% (And.intro (And.intro (And.intro aq (And.intro aK aR)) (And.intro ay (And.intro az aA))) (And.intro (And.intro aB (And.intro aD aE)) (And.intro aI (And.intro ex ci)))):=And.intro (And.intro (And.intro aq (And.intro aK aR)) (And.intro ay (And.intro az aA))) (And.intro (And.intro aB (And.intro aD aE)) (And.intro aI (And.intro ex ci)))
theorem w18:type_of% (And.intro (And.intro (And.intro (And.intro iB fp) (And.intro kY fU)) (And.intro (And.intro bi bo) (And.intro bk (And.intro bR iC)))) (And.intro (And.intro (And.intro oG kZ) (And.intro iD oH)) (And.intro (And.intro cp aW) (And.intro aX (And.intro aY aI))))):=And.intro (And.intro (And.intro (And.intro iB fp) (And.intro kY fU)) (And.intro (And.intro bi bo) (And.intro bk (And.intro bR iC)))) (And.intro (And.intro (And.intro oG kZ) (And.intro iD oH)) (And.intro (And.intro cp aW) (And.intro aX (And.intro aY aI))))
theorem w19:type_of% (And.intro (And.intro (And.intro bZ (And.intro fp dP)) (And.intro (And.intro fU bi) (And.intro bo bk))) (And.intro (And.intro (And.intro bR dq) (And.intro hO bq)) (And.intro (And.intro aF aN) (And.intro aO aK)))):=And.intro (And.intro (And.intro bZ (And.intro fp dP)) (And.intro (And.intro fU bi) (And.intro bo bk))) (And.intro (And.intro (And.intro bR dq) (And.intro hO bq)) (And.intro (And.intro aF aN) (And.intro aO aK)))
theorem w21:type_of% (And.intro (And.intro (And.intro bJ dg) (And.intro cr cu)) (And.intro (And.intro cv cw) (And.intro cx aK))):=And.intro (And.intro (And.intro bJ dg) (And.intro cr cu)) (And.intro (And.intro cv cw) (And.intro cx aK))
theorem w23:type_of% (And.intro bJ aK):=And.intro bJ aK
theorem w35:type_of% (And.intro (And.intro bR bi) (And.intro bk (And.intro bo fU))):=And.intro (And.intro bR bi) (And.intro bk (And.intro bo fU))
theorem w37:type_of% (And.intro (And.intro cp (And.intro aW aX)) (And.intro aY (And.intro aI aq))):=And.intro (And.intro cp (And.intro aW aX)) (And.intro aY (And.intro aI aq))
theorem w38:type_of% (And.intro (And.intro (And.intro (And.intro dP fU) (And.intro oE oD)) (And.intro (And.intro qM qL) (And.intro xo (And.intro uL uK)))) (And.intro (And.intro (And.intro uM uN) (And.intro dq hO)) (And.intro (And.intro bq aF) (And.intro aN (And.intro aO aK))))):=And.intro (And.intro (And.intro (And.intro dP fU) (And.intro oE oD)) (And.intro (And.intro qM qL) (And.intro xo (And.intro uL uK)))) (And.intro (And.intro (And.intro uM uN) (And.intro dq hO)) (And.intro (And.intro bq aF) (And.intro aN (And.intro aO aK))))
theorem w40:type_of% (And.intro (And.intro (And.intro (And.intro aq aK) (And.intro aI aW)) (And.intro (And.intro aY aX) (And.intro aR (And.intro ay az)))) (And.intro (And.intro (And.intro aA aB) (And.intro aD (And.intro aE bq))) (And.intro (And.intro aF aN) (And.intro aO (And.intro bJ cp))))):=And.intro (And.intro (And.intro (And.intro aq aK) (And.intro aI aW)) (And.intro (And.intro aY aX) (And.intro aR (And.intro ay az)))) (And.intro (And.intro (And.intro aA aB) (And.intro aD (And.intro aE bq))) (And.intro (And.intro aF aN) (And.intro aO (And.intro bJ cp))))
theorem w42:type_of% (And.intro (And.intro bR bi) (And.intro bk (And.intro bo fU))):=And.intro (And.intro bR bi) (And.intro bk (And.intro bo fU))
theorem w44:type_of% (And.intro (And.intro (And.intro bJ (And.intro dg cr)) (And.intro cu (And.intro cv cw))) (And.intro (And.intro cx (And.intro aK bq)) (And.intro aF (And.intro aN aO)))):=And.intro (And.intro (And.intro bJ (And.intro dg cr)) (And.intro cu (And.intro cv cw))) (And.intro (And.intro cx (And.intro aK bq)) (And.intro aF (And.intro aN aO)))
theorem w55:type_of% (And.intro (And.intro bZ (And.intro fp dq)) (And.intro hO (And.intro aF aK))):=And.intro (And.intro bZ (And.intro fp dq)) (And.intro hO (And.intro aF aK))
theorem w56:type_of% (And.intro (And.intro (And.intro (And.intro aq bq) (And.intro aF aN)) (And.intro (And.intro aO aR) (And.intro ay (And.intro az aA)))) (And.intro (And.intro (And.intro aB aD) (And.intro aE (And.intro ci aI))) (And.intro (And.intro bZ fp) (And.intro dq (And.intro hO aK))))):=And.intro (And.intro (And.intro (And.intro aq bq) (And.intro aF aN)) (And.intro (And.intro aO aR) (And.intro ay (And.intro az aA)))) (And.intro (And.intro (And.intro aB aD) (And.intro aE (And.intro ci aI))) (And.intro (And.intro bZ fp) (And.intro dq (And.intro hO aK))))
theorem w57:type_of% (And.intro (And.intro (And.intro (And.intro aq bZ) (And.intro fp aR)) (And.intro (And.intro ay az) (And.intro aA aB))) (And.intro (And.intro (And.intro aD aE) (And.intro ci aI)) (And.intro (And.intro aK ex) (And.intro aF (And.intro dP fU))))):=And.intro (And.intro (And.intro (And.intro aq bZ) (And.intro fp aR)) (And.intro (And.intro ay az) (And.intro aA aB))) (And.intro (And.intro (And.intro aD aE) (And.intro ci aI)) (And.intro (And.intro aK ex) (And.intro aF (And.intro dP fU))))
theorem w58:type_of% (And.intro (And.intro (And.intro aq bJ) (And.intro dg cr)) (And.intro (And.intro cu cv) (And.intro cw (And.intro cx aI)))):=And.intro (And.intro (And.intro aq bJ) (And.intro dg cr)) (And.intro (And.intro cu cv) (And.intro cw (And.intro cx aI)))
theorem w59:type_of% (And.intro ex ci):=And.intro ex ci
theorem w60:type_of% (And.intro (And.intro (And.intro aq (And.intro cp aW)) (And.intro aX (And.intro aY aI))) (And.intro (And.intro aR (And.intro ay az)) (And.intro (And.intro aA aB) (And.intro aD aE)))):=And.intro (And.intro (And.intro aq (And.intro cp aW)) (And.intro aX (And.intro aY aI))) (And.intro (And.intro aR (And.intro ay az)) (And.intro (And.intro aA aB) (And.intro aD aE)))
theorem w82:type_of% (And.intro (And.intro bZ fp) (And.intro dP fU)):=And.intro (And.intro bZ fp) (And.intro dP fU)
theorem w85:type_of% (And.intro (And.intro bZ fp) (And.intro dP (And.intro fU ci))):=And.intro (And.intro bZ fp) (And.intro dP (And.intro fU ci))
theorem w86:type_of% (And.intro aq (And.intro aK aI)):=And.intro aq (And.intro aK aI)
theorem w87:type_of% (And.intro (And.intro (And.intro aq aR) (And.intro ay az)) (And.intro (And.intro aA aB) (And.intro aD (And.intro aE aI)))):=And.intro (And.intro (And.intro aq aR) (And.intro ay az)) (And.intro (And.intro aA aB) (And.intro aD (And.intro aE aI)))
theorem w88:type_of% (And.intro aK ci):=And.intro aK ci
theorem w89:type_of% (And.intro (And.intro (And.intro (And.intro aq bq) (And.intro aF aN)) (And.intro (And.intro aO aK) (And.intro aI (And.intro aW aY)))) (And.intro (And.intro (And.intro aX aR) (And.intro ay az)) (And.intro (And.intro aA aB) (And.intro aD (And.intro aE cp))))):=And.intro (And.intro (And.intro (And.intro aq bq) (And.intro aF aN)) (And.intro (And.intro aO aK) (And.intro aI (And.intro aW aY)))) (And.intro (And.intro (And.intro aX aR) (And.intro ay az)) (And.intro (And.intro aA aB) (And.intro aD (And.intro aE cp))))
theorem w90:type_of% (And.intro (And.intro (And.intro bq (And.intro aF aN)) (And.intro aO (And.intro aK bJ))) (And.intro (And.intro aq (And.intro aI aW)) (And.intro aY (And.intro aX cp)))):=And.intro (And.intro (And.intro bq (And.intro aF aN)) (And.intro aO (And.intro aK bJ))) (And.intro (And.intro aq (And.intro aI aW)) (And.intro aY (And.intro aX cp)))
theorem w91:type_of% (And.intro (And.intro (And.intro aq (And.intro cp aW)) (And.intro (And.intro aX aY) (And.intro aR ay))) (And.intro (And.intro az (And.intro aA aB)) (And.intro (And.intro aD aE) (And.intro ci aI)))):=And.intro (And.intro (And.intro aq (And.intro cp aW)) (And.intro (And.intro aX aY) (And.intro aR ay))) (And.intro (And.intro az (And.intro aA aB)) (And.intro (And.intro aD aE) (And.intro ci aI)))
theorem w92:type_of% (And.intro (And.intro (And.intro aq aK) (And.intro aR (And.intro ay az))) (And.intro (And.intro aA aB) (And.intro aD (And.intro aE aI)))):=And.intro (And.intro (And.intro aq aK) (And.intro aR (And.intro ay az))) (And.intro (And.intro aA aB) (And.intro aD (And.intro aE aI)))
theorem w98:type_of% (And.intro (And.intro bi bo) (And.intro bk bR)):=And.intro (And.intro bi bo) (And.intro bk bR)
theorem gu:type_of% (And.intro (And.intro (And.intro bZ fp) (And.intro dq (And.intro hO aF))) (And.intro (And.intro aK bi) (And.intro bo (And.intro bk bR)))):=And.intro (And.intro (And.intro bZ fp) (And.intro dq (And.intro hO aF))) (And.intro (And.intro aK bi) (And.intro bo (And.intro bk bR)))
theorem cG:type_of% (And.intro (And.intro (And.intro (And.intro aq (And.intro bq aF)) (And.intro aN (And.intro aO aK))) (And.intro (And.intro bJ (And.intro aI aW)) (And.intro aY (And.intro aX cp)))) (And.intro (And.intro (And.intro ci (And.intro bi bo)) (And.intro bk (And.intro bR aR))) (And.intro (And.intro ay (And.intro az aA)) (And.intro aB (And.intro aD aE))))):=And.intro (And.intro (And.intro (And.intro aq (And.intro bq aF)) (And.intro aN (And.intro aO aK))) (And.intro (And.intro bJ (And.intro aI aW)) (And.intro aY (And.intro aX cp)))) (And.intro (And.intro (And.intro ci (And.intro bi bo)) (And.intro bk (And.intro bR aR))) (And.intro (And.intro ay (And.intro az aA)) (And.intro aB (And.intro aD aE))))
theorem ol:type_of% (And.intro (And.intro (And.intro (And.intro aq bR) (And.intro bi bk)) (And.intro (And.intro bo aR) (And.intro ay az))) (And.intro (And.intro (And.intro aA aB) (And.intro aD aE)) (And.intro (And.intro ci aI) (And.intro aW (And.intro aY aX))))):=And.intro (And.intro (And.intro (And.intro aq bR) (And.intro bi bk)) (And.intro (And.intro bo aR) (And.intro ay az))) (And.intro (And.intro (And.intro aA aB) (And.intro aD aE)) (And.intro (And.intro ci aI) (And.intro aW (And.intro aY aX))))
theorem bh:type_of% (And.intro (And.intro (And.intro aq (And.intro aK bJ)) (And.intro aI (And.intro bZ fp))) (And.intro (And.intro dq (And.intro hO aW)) (And.intro aY (And.intro aX aF)))):=And.intro (And.intro (And.intro aq (And.intro aK bJ)) (And.intro aI (And.intro bZ fp))) (And.intro (And.intro dq (And.intro hO aW)) (And.intro aY (And.intro aX aF)))
theorem yk:type_of% (And.intro (And.intro (And.intro aq (And.intro aI aW)) (And.intro aY (And.intro aX aR))) (And.intro (And.intro ay (And.intro az aA)) (And.intro aB (And.intro aD aE)))):=And.intro (And.intro (And.intro aq (And.intro aI aW)) (And.intro aY (And.intro aX aR))) (And.intro (And.intro ay (And.intro az aA)) (And.intro aB (And.intro aD aE)))
theorem rS:type_of% (And.intro (And.intro (And.intro aq (And.intro bq aF)) (And.intro (And.intro aN aO) (And.intro aR ay))) (And.intro (And.intro az (And.intro aA aB)) (And.intro (And.intro aD aE) (And.intro ci aI)))):=And.intro (And.intro (And.intro aq (And.intro bq aF)) (And.intro (And.intro aN aO) (And.intro aR ay))) (And.intro (And.intro az (And.intro aA aB)) (And.intro (And.intro aD aE) (And.intro ci aI)))
theorem dD:type_of% (And.intro (And.intro (And.intro (And.intro aq bq) (And.intro aF aN)) (And.intro (And.intro aO aI) (And.intro aK ex))) (And.intro (And.intro (And.intro aR ay) (And.intro az aA)) (And.intro (And.intro aB aD) (And.intro aE ci)))):=And.intro (And.intro (And.intro (And.intro aq bq) (And.intro aF aN)) (And.intro (And.intro aO aI) (And.intro aK ex))) (And.intro (And.intro (And.intro aR ay) (And.intro az aA)) (And.intro (And.intro aB aD) (And.intro aE ci)))
theorem xE:type_of% (And.intro (And.intro (And.intro aq bi) (And.intro bo bk)) (And.intro (And.intro aI aK) (And.intro aF (And.intro aO aN)))):=And.intro (And.intro (And.intro aq bi) (And.intro bo bk)) (And.intro (And.intro aI aK) (And.intro aF (And.intro aO aN)))
theorem fB:type_of% (And.intro (And.intro (And.intro aq aI) (And.intro aR (And.intro ay az))) (And.intro (And.intro aA aB) (And.intro aD (And.intro aE ci)))):=And.intro (And.intro (And.intro aq aI) (And.intro aR (And.intro ay az))) (And.intro (And.intro aA aB) (And.intro aD (And.intro aE ci)))
theorem xF:type_of% (And.intro (And.intro (And.intro bJ aK) (And.intro dg (And.intro cr cu))) (And.intro (And.intro cv (And.intro cw cx)) (And.intro dq (And.intro hO aF)))):=And.intro (And.intro (And.intro bJ aK) (And.intro dg (And.intro cr cu))) (And.intro (And.intro cv (And.intro cw cx)) (And.intro dq (And.intro hO aF)))
theorem rT:type_of% (And.intro (And.intro bR bi) (And.intro bk (And.intro bo fU))):=And.intro (And.intro bR bi) (And.intro bk (And.intro bo fU))
theorem om:type_of% (And.intro (And.intro bR (And.intro bi bk)) (And.intro bo (And.intro fU ci))):=And.intro (And.intro bR (And.intro bi bk)) (And.intro bo (And.intro fU ci))
theorem ke:type_of% (And.intro (And.intro bq (And.intro aF aN)) (And.intro aO (And.intro aK bJ))):=And.intro (And.intro bq (And.intro aF aN)) (And.intro aO (And.intro aK bJ))
theorem dX:type_of% (And.intro (And.intro (And.intro (And.intro aq bR) (And.intro bi bk)) (And.intro (And.intro bo fU) (And.intro aW (And.intro aI aY)))) (And.intro (And.intro (And.intro aX aR) (And.intro ay az)) (And.intro (And.intro aA aB) (And.intro aD (And.intro aE cp))))):=And.intro (And.intro (And.intro (And.intro aq bR) (And.intro bi bk)) (And.intro (And.intro bo fU) (And.intro aW (And.intro aI aY)))) (And.intro (And.intro (And.intro aX aR) (And.intro ay az)) (And.intro (And.intro aA aB) (And.intro aD (And.intro aE cp))))
theorem mG:type_of% (And.intro (And.intro (And.intro bJ (And.intro aK bq)) (And.intro aF (And.intro aN aO))) (And.intro (And.intro dg (And.intro cr cu)) (And.intro cv (And.intro cw cx)))):=And.intro (And.intro (And.intro bJ (And.intro aK bq)) (And.intro aF (And.intro aN aO))) (And.intro (And.intro dg (And.intro cr cu)) (And.intro cv (And.intro cw cx)))
theorem k7:type_of% (And.intro (And.intro (And.intro aq aI) (And.intro bJ dg)) (And.intro (And.intro cr cu) (And.intro cv (And.intro cw cx)))):=And.intro (And.intro (And.intro aq aI) (And.intro bJ dg)) (And.intro (And.intro cr cu) (And.intro cv (And.intro cw cx)))
theorem yl:type_of% (And.intro (And.intro (And.intro aq aR) (And.intro ay az)) (And.intro (And.intro aA aB) (And.intro aD (And.intro aE aI)))):=And.intro (And.intro (And.intro aq aR) (And.intro ay az)) (And.intro (And.intro aA aB) (And.intro aD (And.intro aE aI)))
theorem ky:type_of% (And.intro (And.intro aq aI) (And.intro aW (And.intro aY aX))):=And.intro (And.intro aq aI) (And.intro aW (And.intro aY aX))
theorem fa:type_of% (And.intro (And.intro (And.intro aq bq) (And.intro aF (And.intro aN aO))) (And.intro (And.intro aI aK) (And.intro aW (And.intro aY aX)))):=And.intro (And.intro (And.intro aq bq) (And.intro aF (And.intro aN aO))) (And.intro (And.intro aI aK) (And.intro aW (And.intro aY aX)))
theorem oo:type_of% (And.intro (And.intro aq (And.intro aI aW)) (And.intro aY (And.intro aX cp))):=And.intro (And.intro aq (And.intro aI aW)) (And.intro aY (And.intro aX cp))
theorem jq:type_of% (And.intro (And.intro (And.intro (And.intro aq bq) (And.intro aF aN)) (And.intro (And.intro aO bZ) (And.intro fp aI))) (And.intro (And.intro (And.intro aR ay) (And.intro az aA)) (And.intro (And.intro aB aD) (And.intro aE (And.intro ci aK))))):=And.intro (And.intro (And.intro (And.intro aq bq) (And.intro aF aN)) (And.intro (And.intro aO bZ) (And.intro fp aI))) (And.intro (And.intro (And.intro aR ay) (And.intro az aA)) (And.intro (And.intro aB aD) (And.intro aE (And.intro ci aK))))
theorem d9:type_of% (And.intro (And.intro (And.intro (And.intro aq bq) (And.intro aF aN)) (And.intro (And.intro aO aR) (And.intro ay (And.intro az aA)))) (And.intro (And.intro (And.intro aB aD) (And.intro aE (And.intro ci aI))) (And.intro (And.intro aK bR) (And.intro bi (And.intro bk bo))))):=And.intro (And.intro (And.intro (And.intro aq bq) (And.intro aF aN)) (And.intro (And.intro aO aR) (And.intro ay (And.intro az aA)))) (And.intro (And.intro (And.intro aB aD) (And.intro aE (And.intro ci aI))) (And.intro (And.intro aK bR) (And.intro bi (And.intro bk bo))))
theorem fC:type_of% (And.intro (And.intro (And.intro (And.intro aq (And.intro bq aF)) (And.intro aN (And.intro aO aR))) (And.intro (And.intro ay (And.intro az aA)) (And.intro aB (And.intro aD aE)))) (And.intro (And.intro (And.intro ci (And.intro aI aK)) (And.intro ex (And.intro cp aW))) (And.intro (And.intro aX (And.intro aY bR)) (And.intro bi (And.intro bk bo))))):=And.intro (And.intro (And.intro (And.intro aq (And.intro bq aF)) (And.intro aN (And.intro aO aR))) (And.intro (And.intro ay (And.intro az aA)) (And.intro aB (And.intro aD aE)))) (And.intro (And.intro (And.intro ci (And.intro aI aK)) (And.intro ex (And.intro cp aW))) (And.intro (And.intro aX (And.intro aY bR)) (And.intro bi (And.intro bk bo))))
theorem aV:type_of% (And.intro (And.intro (And.intro (And.intro aq bq) (And.intro aF aN)) (And.intro (And.intro aO aI) (And.intro aK (And.intro ex aR)))) (And.intro (And.intro (And.intro ay az) (And.intro aA (And.intro aB aD))) (And.intro (And.intro aE ci) (And.intro aW (And.intro aY aX))))):=And.intro (And.intro (And.intro (And.intro aq bq) (And.intro aF aN)) (And.intro (And.intro aO aI) (And.intro aK (And.intro ex aR)))) (And.intro (And.intro (And.intro ay az) (And.intro aA (And.intro aB aD))) (And.intro (And.intro aE ci) (And.intro aW (And.intro aY aX))))
theorem ap:type_of% (And.intro (And.intro (And.intro (And.intro aq (And.intro bq aF)) (And.intro aN (And.intro aO aR))) (And.intro (And.intro ay (And.intro az aA)) (And.intro aB (And.intro aD aE)))) (And.intro (And.intro (And.intro ci (And.intro aI aK)) (And.intro bJ (And.intro ex bi))) (And.intro (And.intro bo (And.intro bk bR)) (And.intro (And.intro aW aY) (And.intro aX cp))))):=And.intro (And.intro (And.intro (And.intro aq (And.intro bq aF)) (And.intro aN (And.intro aO aR))) (And.intro (And.intro ay (And.intro az aA)) (And.intro aB (And.intro aD aE)))) (And.intro (And.intro (And.intro ci (And.intro aI aK)) (And.intro bJ (And.intro ex bi))) (And.intro (And.intro bo (And.intro bk bR)) (And.intro (And.intro aW aY) (And.intro aX cp))))
theorem dr:type_of% (And.intro (And.intro aq (And.intro bq aF)) (And.intro (And.intro aN aO) (And.intro aI aK))):=And.intro (And.intro aq (And.intro bq aF)) (And.intro (And.intro aN aO) (And.intro aI aK))
theorem xG:type_of% (And.intro (And.intro (And.intro aq bJ) (And.intro dg cr)) (And.intro (And.intro cu cv) (And.intro cw (And.intro cx aI)))):=And.intro (And.intro (And.intro aq bJ) (And.intro dg cr)) (And.intro (And.intro cu cv) (And.intro cw (And.intro cx aI)))
theorem dE:type_of% (And.intro (And.intro (And.intro (And.intro aq aF) (And.intro aK (And.intro bq aN))) (And.intro (And.intro aO (And.intro aR ay)) (And.intro az (And.intro aA aB)))) (And.intro (And.intro (And.intro aD aE) (And.intro ci (And.intro aI bi))) (And.intro (And.intro bo (And.intro bk aW)) (And.intro aY (And.intro aX cp))))):=And.intro (And.intro (And.intro (And.intro aq aF) (And.intro aK (And.intro bq aN))) (And.intro (And.intro aO (And.intro aR ay)) (And.intro az (And.intro aA aB)))) (And.intro (And.intro (And.intro aD aE) (And.intro ci (And.intro aI bi))) (And.intro (And.intro bo (And.intro bk aW)) (And.intro aY (And.intro aX cp))))
theorem fD:type_of% (And.intro (And.intro (And.intro aK (And.intro bq aF)) (And.intro aN (And.intro aO bJ))) (And.intro (And.intro ex (And.intro ci bi)) (And.intro bo (And.intro bk bR)))):=And.intro (And.intro (And.intro aK (And.intro bq aF)) (And.intro aN (And.intro aO bJ))) (And.intro (And.intro ex (And.intro ci bi)) (And.intro bo (And.intro bk bR)))
end Go.Proofs.YtaeioidifpebdaaGreatDoor
end
section
namespace Go.Proofs.YtaeioidifpebdaaGreatDoor
open Go Go.RowKit
set_option linter.unusedSimpArgs false
set_option linter.unusedVariables false
def D.cc:D→List C
 | mk k c neg mag t l=>[.v (.int .i64 k),.v (.int .i32 c),.v (.bool neg),.sl 1 (mag.map fun n=>[.v (.int .u32 n)]),.v (.string t),.sl 6 (l.map D.cc)]
theorem D.cc_eq (d:D):d.cc=[.v (.int .i64 d.k),.v (.int .i32 d.c),.v (.bool d.neg),.sl 1 (d.mag.map fun n=>[.v (.int .u32 n)]),.v (.string d.t),.sl 6 (d.l.map D.cc)]:=by
 cases d;rw [D.cc];rfl
theorem nq {l:List D} {k:Nat} (h:k<l.length):(l.map D.cc)[k]?=some (l[k]).cc:=by simp [h]
theorem Rd.sl_cc {r:World} {α:Type} {f:α→V} {g:α→List C} {wd:Nat} {l:List α} {u:Value} (hfg:∀x∈l,∀(cs:List Value),Rd r (f x) cs→Ccs ⟨r,[]⟩ (g x) cs) (hw:∀x,(g x).length=wd) (h:Rd r (.sl (l.map f)) [u]):Cc ⟨r,[]⟩ (.sl wd (l.map g)) u:=by
 simp only [Rd] at h
 obtain⟨v,e,h⟩:=h
 cases e
 simp only [Cc,List.length_map]
 refine⟨fun e he=>by obtain⟨x,_,rfl⟩:=List.mem_map.1 he;exact hw x,?_⟩
 rcases h with ⟨h0,h1⟩|⟨b,o,cap,e,l1,l2,hr⟩
 ·exact .inl ⟨by simpa using h0,h1⟩
 ·rw [List.length_map] at e l1
  refine .inr ⟨b,o,cap,e,l1,l2,?_⟩
  clear e l1 l2
  clear hw
  induction l generalizing o with
  | nil=>simp [Crow]
  | cons x l ih =>
   simp only [List.map_cons,RdRow] at hr
   obtain⟨cs,h1,h2,h3⟩:=hr
   simp only [List.map_cons,Crow]
   exact⟨cs,h1,hfg x (by simp) cs h2,ih (fun y hy=>hfg y (by simp [hy])) _ h3⟩
theorem D.cc_len (d:D):d.cc.length=6:=by rw [D.cc_eq];rfl
theorem D.cc_of {r:World} (n:Nat):∀(d:D) (cs:List Value),d.ht≤n→Rd r d.v cs→Ccs ⟨r,[]⟩ d.cc cs:=by
 induction n with
 | zero=>intro d _ h;exact absurd h (by cases d;rw [D.ht];omega)
 | succ n ih =>
  intro d cs hh h
  have hd:∀x∈d.l,x.ht≤n:=fun x hx=>by
   obtain⟨i,hi,rfl⟩:=List.mem_iff_getElem.1 hx
   have:=D.ht_lt hi;omega
  obtain⟨am,cm,al,cl,e,hm,hl,-⟩:=IsD.open ⟨cs,rfl,h⟩
  have e':cs=[.int .i64 d.k,.int .i32 d.c,.bool d.neg,.slice am d.mag.length cm,.string d.t,.slice al d.l.length cl]:=by
   simpa using congrArg Array.toList (Value.agg.inj e)
  subst e'
  rw [D.cc_eq]
  have g1:Cc ⟨r,[]⟩ (.sl 1 (d.mag.map fun n=>[.v (.int .u32 n)])) (.slice am d.mag.length cm):=Rd.sl_cc (fun x _ cs hx=>by simp only [Rd] at hx;subst hx;simp [Ccs,Cc,Value.oneCell']) (fun _=>rfl) hm
  have g2:Cc ⟨r,[]⟩ (.sl 6 (d.l.map D.cc)) (.slice al d.l.length cl):=Rd.sl_cc (fun x hx cs hr=>ih x cs (hd x hx) hr) D.cc_len hl
  simp only [Ccs]
  exact⟨_,_,rfl,by simp [Cc,Value.oneCell'],_,_,rfl,by simp [Cc,Value.oneCell'],_,_,rfl,by simp [Cc,Value.oneCell'],_,_,rfl,g1,_,_,rfl,by simp [Cc,Value.oneCell'],_,_,rfl,g2,rfl⟩
theorem IsD.ca {r:World} {d:D} {v:Value} (h:IsD r d v):Ca ⟨r,[]⟩ (.agg d.cc) v:=by
 obtain⟨cs,rfl,h⟩:=h
 simp only [Ca]
 exact⟨cs,rfl,D.cc_of d.ht d cs (Nat.le_refl _) h⟩
theorem IsDs.ca {r:World} {l:List D} {v:Value} (h:IsDs r l v):Ca ⟨r,[]⟩ (.one (.sl 6 (l.map D.cc))) v:=by
 simp only [Ca]
 exact Rd.sl_cc (fun x _ cs hr=>D.cc_of x.ht x cs (Nat.le_refl _) hr) D.cc_len h
theorem Cc.sl_rd {r:World} {α:Type} {f:α→V} {g:α→List C} {wd:Nat} {l:List α} {u:Value} (hfg:∀x∈l,∀(cs:List Value),Ccs ⟨r,[]⟩ (g x) cs→Rd r (f x) cs) (h:Cc ⟨r,[]⟩ (.sl wd (l.map g)) u):Rd r (.sl (l.map f)) [u]:=by
 simp only [Cc,List.length_map] at h
 simp only [Rd,List.length_map]
 refine⟨u,rfl,?_⟩
 rcases h with ⟨-,⟨h0,h1⟩|⟨b,o,cap,e,l1,l2,hr⟩⟩
 ·exact .inl ⟨by simpa using h0,h1⟩
 ·refine .inr ⟨b,o,cap,e,l1,l2,?_⟩
  clear e l1 l2
  induction l generalizing o with
  | nil=>simp [RdRow]
  | cons x l ih =>
   simp only [List.map_cons,Crow] at hr
   obtain⟨cs,h1,h2,h3⟩:=hr
   simp only [List.map_cons,RdRow]
   exact⟨cs,h1,hfg x (by simp) cs h2,ih (fun y hy=>hfg y (by simp [hy])) _ h3⟩
theorem D.of_cc {r:World} (n:Nat):∀(d:D) (cs:List Value),d.ht≤n→Ccs ⟨r,[]⟩ d.cc cs→Rd r d.v cs:=by
 induction n with
 | zero=>intro d _ h;exact absurd h (by cases d;rw [D.ht];omega)
 | succ n ih =>
  intro d cs hh h
  have hd:∀x∈d.l,x.ht≤n:=fun x hx=>by
   obtain⟨i,hi,rfl⟩:=List.mem_iff_getElem.1 hx
   have:=D.ht_lt hi;omega
  rw [D.cc_eq] at h
  simp only [Ccs] at h
  obtain⟨_,_,rfl,h0,_,_,rfl,h1,_,_,rfl,h2,vm,_,rfl,h3,_,_,rfl,h4,vl,_,rfl,h5,rfl⟩:=h
  simp only [Cc] at h0 h1 h2 h4
  rw [h0.1,h1.1,h2.1,h4.1]
  have g1:IsMag r d.mag vm:=Cc.sl_rd (f:=fun n=>V.val (.int .u32 n)) (fun x _ cs hx=>by simp only [Ccs,Cc] at hx;obtain⟨_,_,rfl,hx,rfl⟩:=hx;simp only [Rd];rw [hx.1]) h3
  have g2:IsDs r d.l vl:=Cc.sl_rd (fun x hx cs hr=>ih x cs (hd x hx) hr) h5
  have:=IsD.mk' (d:=d) g1 g2
  obtain⟨cs',e,hr⟩:=this
  have:cs'=_:=(by simpa using (congrArg Array.toList (Value.agg.inj e)).symm:cs'=[_,_,_,_,_,_])
  subst this
  exact hr
theorem Ca.isD {r:World} {d:D} {v:Value} (h:Ca ⟨r,[]⟩ (.agg d.cc) v):IsD r d v:=by
 simp only [Ca] at h
 obtain⟨cs,rfl,h⟩:=h
 exact⟨cs,rfl,D.of_cc d.ht d cs (Nat.le_refl _) h⟩
theorem Ca.isDs {r:World} {l:List D} {v:Value} (h:Ca ⟨r,[]⟩ (.one (.sl 6 (l.map D.cc))) v):IsDs r l v:=by
 simp only [Ca] at h
 exact Cc.sl_rd (fun x _ cs hr=>D.of_cc x.ht x cs (Nat.le_refl _) hr) h
theorem yD (w:World):Keeps w (vis (fun _=>false) [] [] w):=fun p v h=>by
 unfold vis
 rw [cJ,if_pos (by simp [bv])];exact h
theorem Fr.ext {w w':World} {S0:Nat→Bool} (h:Fr S0 w w') (hs:∀b,S0 b=false):Ext w w':=⟨h.os,h.tape,h.output,h.size,fun b hb=>h.block b hb (hs b)⟩
theorem Ext.fr {w w':World} (S0:Nat→Bool) (h:Ext w w'):Fr S0 w w':=⟨h.os,h.tape,h.output,h.size,fun b hb _=>h.block b hb⟩
theorem Pure.calls {P:Program} {f:FuncId} {xs:List A} {u:Value} (h:Pure P f xs (.one (.v u))) {w:World} {vs:List Value} (hg:GL w) (hb:∀b,GBw w b→b<w.heap.size) (hv:Cas ⟨w,[]⟩ xs vs):Calls P f vs.toArray w fun e w'=>e=.returned u∧Ext w w':=by
 refine (h (fun _=>false) [] w vs ⟨rfl,by simp,by simp,by simp,fun b hb=>(by cases hb),fun b h=>⟨rfl,rfl,hb b h⟩,hg⟩ (Cas.keep (X:=⟨w,[]⟩) (X':=⟨vis (fun _=>false) [] [] w,[]⟩) (yD w) (Up.refl _) hv)).mono fun e w' ⟨v,m',r,s',he,⟨h1,h2⟩,_,hc,hf,_⟩=>?_
 subst h1 h2
 simp only [Ca,Cc] at hc
 rw [hc.1] at he
 exact⟨he,hf.ext fun _=>rfl⟩
theorem iE {P:Program} {f:FuncId} {xs:List A} {r:A} (h:∀(w:World) (vs:List Value),GL w→Cas ⟨w,[]⟩ xs vs→Calls P f vs.toArray w fun e w'=>∃v,e=.returned v∧Ext w w'∧Ca ⟨bF w' w.heap.size,[]⟩ r v):Pure P f xs r:=fun H m w vs hs hc=>by
 have hm:m=[]:=by have:=hs.len;simp at this;exact List.eq_nil_of_length_eq_zero (by omega)
 subst hm
 refine (h w vs hs.gl (Cas.keep (X:=⟨vis H [] [] w,[]⟩) (X':=⟨w,[]⟩) (iz _ _ _ _) (Up.refl _) hc)).mono fun e w' ⟨v,he,hx,hr⟩=>⟨v,[],r,[],he,⟨rfl,rfl⟩,⟨rfl,by simp,by simp,by simp,fun b hb=>Nat.lt_of_lt_of_le (hs.hlt b hb) hx.le,fun b hb'=>have hb:GBw w b:=hb'.back fun c hc=>hx.block c (hs.gb c (.inl hc)).2.2;⟨(hs.gb b hb).1,rfl,Nat.lt_of_lt_of_le (hs.gb b hb).2.2 hx.le⟩,GL.stays (fun b hb=>hx.block b (hs.gb b hb).2.2) hs.gl⟩,?_,hx.fr _,Up.refl _,by simp⟩
 refine Ca.keep (X:=⟨bF w' w.heap.size,[]⟩) (X':=⟨vis H [] [] w',[]⟩) (Keeps.only fun b hp hb=>?_) (Up.refl _) hr
 simp only [decide_eq_true_eq] at hp
 refine⟨?_,rfl⟩
 cases hH:H b with
 | false=>simp [bv]
 | true=>have:=hs.hlt b hH;omega
theorem tz {P:Program} {f:FuncId} {xs:List A} {r:A} (h:∀(w:World) (vs:List Value),GL w→Cas ⟨w,[]⟩ xs vs→Calls P f vs.toArray w fun e w'=>∃v,e=.returned v∧Ext w w'∧Ca ⟨only w' (fun b=>decide (w.heap.size≤b)||GB b),[]⟩ r v):Pure P f xs r:=fun H m w vs hs hc=>by
 have hm:m=[]:=by have:=hs.len;simp at this;exact List.eq_nil_of_length_eq_zero (by omega)
 subst hm
 refine (h w vs hs.gl (Cas.keep (X:=⟨vis H [] [] w,[]⟩) (X':=⟨w,[]⟩) (iz _ _ _ _) (Up.refl _) hc)).mono fun e w' ⟨v,he,hx,hr⟩=>?_
 have hgb:∀b,GBw w' b→H b=false∧b<w.heap.size:=fun b hb' =>
  have hb:GBw w b:=hb'.back fun c hc=>hx.block c (hs.gb c (.inl hc)).2.2
  ⟨(hs.gb b hb).1,(hs.gb b hb).2.2⟩
 refine⟨v,[],r,[],he,⟨rfl,rfl⟩,⟨rfl,by simp,by simp,by simp,fun b hb=>Nat.lt_of_lt_of_le (hs.hlt b hb) hx.le,fun b hb=>⟨(hgb b hb).1,rfl,Nat.lt_of_lt_of_le (hgb b hb).2 hx.le⟩,GL.stays (fun b hb=>hx.block b (hs.gb b hb).2.2) hs.gl⟩,?_,hx.fr _,Up.refl _,by simp⟩
 refine Ca.keep (X:=⟨only w' (fun b=>decide (w.heap.size≤b)||GB b),[]⟩) (X':=⟨vis H [] [] w',[]⟩) (Keeps.only fun b hp hb=>?_) (Up.refl _) hr
 simp only [Bool.or_eq_true,decide_eq_true_eq] at hp
 refine⟨?_,rfl⟩
 cases hH:H b with
 | false=>simp [bv]
 | true =>
  rcases hp with hp|hp
  ·have:=hs.hlt b hH;omega
  ·have:=(hgb b (.inl hp)).1;rw [hH] at this;cases this
theorem kB {P:Program} {f:FuncId} {xs:List A} {u:Value} (hu:u.oneCell'=true) (h:∀(w:World) (vs:List Value),GL w→Cas ⟨w,[]⟩ xs vs→Calls P f vs.toArray w fun e w'=>e=.returned u∧Ext w w'):Pure P f xs (.one (.v u)) :=
 iE fun w vs hg hv=>(h w vs hg hv).mono fun e w' ⟨he,hx⟩=>⟨u,he,hx,caV hu⟩
theorem Cas.one1 {X:Cx} {x:A} {vs:List Value} (h:Cas X [x] vs):∃v,vs=[v]∧Ca X x v:=by
 simp only [Cas] at h
 obtain⟨v,r,rfl,hv,rfl⟩:=h
 exact⟨v,rfl,hv⟩
theorem Cas.two {X:Cx} {x y:A} {vs:List Value} (h:Cas X [x,y] vs):∃v u,vs=[v,u]∧Ca X x v∧Ca X y u:=by
 simp only [Cas] at h
 obtain⟨v,r,rfl,hv,u,q,rfl,hu,rfl⟩:=h
 exact⟨v,u,rfl,hv,hu⟩
def Made (P:Program) (f:FuncId) (xs:List A) (r:A):Prop:=∀(w:World) (vs:List Value),GL w→Cas ⟨w,[]⟩ xs vs→Calls P f vs.toArray w fun e w'=>∃v,e=.returned v∧Ext w w'∧Ca ⟨bF w' w.heap.size,[]⟩ r v
theorem Made.pure {P:Program} {f:FuncId} {xs:List A} {r:A} (h:Made P f xs r):Pure P f xs r:=iE h
theorem StoOk.hid_lt {H:Nat→Bool} {s:List (Option Ob)} {m:List Lo} {w:World} (hs:StoOk H s m w) {b:Nat} (hb:bv s m b=true):b<w.heap.size:=by
 obtain⟨i,ob,l,h1,h2,rfl⟩:=ax.1 hb
 obtain⟨vs,rest,hm,-,-⟩:=(hs.ok i ob l h1 h2).mem
 exact (Array.getElem?_eq_some_iff.1 hm).1
theorem nr {P:Program} {f:FuncId} {xs xs':List A} {p:Prop} {r:A} {H:Nat→Bool} {s:List (Option Ob)} {m:List Lo} {w:World} (hv:dJ s xs=some (p,xs')) (hp:p) (hfn:Made P f xs' r) (hs:StoOk H s m w) (vs:List Value) (hvs:Cas ⟨vis H s m w,m⟩ xs vs) :
  Calls P f vs.toArray w fun e w'=>∃v,e=.returned v∧Fr (fun _=>false) w w'∧Ca ⟨vis H s m w',m⟩ r v:=by
 refine (hfn w vs hs.gl (Cas.keep (X:=⟨vis H [] [] w,[]⟩) (X':=⟨w,[]⟩) (iz _ _ _ _) (Up.refl _) (gr hs hv hp hvs))).mono fun e w' ⟨v,he,hx,hr⟩=>⟨v,he,hx.fr _,?_⟩
 refine Ca.keep (X:=⟨bF w' w.heap.size,[]⟩) (X':=⟨vis H s m w',m⟩) (Keeps.only fun b hp hb=>?_) (fun i l h=>by simp at h) hr
 simp only [decide_eq_true_eq] at hp
 refine⟨?_,rfl⟩
 cases hH:H b with
 | true=>have:=hs.hlt b hH;omega
 | false =>
  cases hB:bv s m b with
  | true=>have:=hs.hid_lt hB;omega
  | false=>rfl
theorem CallA.made {P:Program} {nt:Cf} {st:St} {fo:Operand} {args:List Operand} {f:FuncId} {caps:List C} {xs xs':List A} {K:A→Prop} {p:Prop} {r:A} (hf:rdA st.e fo=some (.one (.fn f caps))) (ha:fl st.e args=some xs) (hc:cj P f=true)
  (hv:dJ st.s (xs++caps.map .one)=some (p,xs')) (hp:p) (hfn:Made P f xs' r) (hK:K r):CallA P nt fo args st K :=
 ⟨f,caps,xs,hf,ha,hc,fun H w0 S0 m0 m a w hs vs hvs=>(nr hv hp hfn hs.sto vs hvs).mono fun e w' ⟨v,he,h1,h2⟩=>⟨v,r,he,hK,h1,h2⟩⟩
theorem OpS.made {P:Program} {nt:Cf} {ds:List (Option Tmp)} {e:List (Nat × A)} {s:List (Option Ob)} {d:Option Tmp} {ty:TypeId} {pos:String} {aft:Array Edge} {g:Option (Nat × Bool)} {fo:Operand} {args:List Operand} {tys:Array TypeId} {f:FuncId} {caps:List C} {xs xs':List A} {p:Prop} {r:A} (hg:cC ds e g=some true) (hf:rdA e fo=some (.one (.fn f caps))) (ha:fl e args=some xs) (hc:cj P f=true)
  (hv:dJ s (xs++caps.map .one)=some (p,xs')) (hp:p) (hfn:Made P f xs' r):OpS P nt ds ⟨d,.call { callee:=.value fo,args:=args.toArray,argTypes:=tys },ty,pos,aft,g⟩ e s r s :=
 OpS.call hg hf ha hc fun H w0 S0 m0 mm a w hs vs hvs=>nr hv hp hfn hs.sto vs hvs
end Go.Proofs.YtaeioidifpebdaaGreatDoor
end
