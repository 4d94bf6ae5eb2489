/-
 Laid together: Ty, DatC, Bridge, Made.
-/
import Derived.Test.YtaeioidifpebdaaGreatDoorG2
import Derived.Test.YtaeioidifpebdaaGreatDoorProg
import Derived.KernelRfl
import Derived.Test.YtaeioidifpebdaaGreatDoorPlain2
import Derived.Test.YtaeioidifpebdaaGreatDoorChecked
import Derived.Test.YtaeioidifpebdaaGreatDoorPhi
section
namespace Go.Proofs.YtaeioidifpebdaaGreatDoor
set_option linter.unusedVariables false
theorem jC:tyI Tryz.prog 3=some (false,1):=by kernel_rfl
theorem XE:tyI Tryz.prog 4=some (false,1):=by kernel_rfl
theorem QG:GF Tryz.prog 4=true:=by kernel_rfl
theorem XF:tyI Tryz.prog 5=some (false,1):=by kernel_rfl
theorem VC:PZ Tryz.prog 5=true:=by kernel_rfl
theorem lE:tyI Tryz.prog 9=some (false,1):=by kernel_rfl
theorem xF:DM Tryz.prog 9=true:=by kernel_rfl
theorem xG:vZ Tryz.prog 9=some true:=by kernel_rfl
theorem VD:tyI Tryz.prog 21=some (false,1):=by kernel_rfl
theorem QH:PY Tryz.prog 21=some .i32:=by kernel_rfl
theorem MH:tyI Tryz.prog 22=some (false,1):=by kernel_rfl
theorem dH:lN Tryz.prog 22=some (9,1):=by kernel_rfl
theorem eV:vZ Tryz.prog 22=some false:=by kernel_rfl
theorem dJ:sS Tryz.prog 22=some 16:=by kernel_rfl
theorem dK:lC Tryz.prog 9=some [.string ⟨#[]⟩]:=by kernel_rfl
theorem MI:tyI Tryz.prog 23=some (false,1):=by kernel_rfl
theorem DQ:lN Tryz.prog 23=some (96,1):=by kernel_rfl
theorem DR:vZ Tryz.prog 23=some false:=by kernel_rfl
theorem DS:sS Tryz.prog 23=some 4:=by kernel_rfl
theorem DT:lC Tryz.prog 96=some [.int .u32 0]:=by kernel_rfl
theorem CJ:tyI Tryz.prog 25=some (true,2):=by kernel_rfl
theorem MJ:CG Tryz.prog 25=true:=by kernel_rfl
theorem GS:hZ Tryz.prog 25 0=some (0,1):=by kernel_rfl
theorem uY:nM Tryz.prog 25 1=some (1,23):=by kernel_rfl
theorem GT:hZ Tryz.prog 25 1=some (1,1):=by kernel_rfl
theorem DU:lC Tryz.prog 25=some [.bool false,.slice none 0 0]:=by kernel_rfl
theorem kP:tyI Tryz.prog 26=some (false,1):=by kernel_rfl
theorem aM:lN Tryz.prog 26=some (28,6):=by kernel_rfl
theorem bS:vZ Tryz.prog 26=some false:=by kernel_rfl
theorem bA:sS Tryz.prog 26=some 88:=by kernel_rfl
theorem bB:lC Tryz.prog 28=some [.int .i64 0,.int .i32 0,.bool false,.slice none 0 0,.string ⟨#[]⟩,.slice none 0 0]:=by kernel_rfl
theorem aW:tyI Tryz.prog 28=some (true,6):=by kernel_rfl
theorem eY:CG Tryz.prog 28=true:=by kernel_rfl
theorem dG:nM Tryz.prog 28 0=some (0,3):=by kernel_rfl
theorem dT:hZ Tryz.prog 28 0=some (0,1):=by kernel_rfl
theorem GU:nM Tryz.prog 28 1=some (1,21):=by kernel_rfl
theorem dU:hZ Tryz.prog 28 1=some (1,1):=by kernel_rfl
theorem uZ:nM Tryz.prog 28 2=some (2,25):=by kernel_rfl
theorem dV:hZ Tryz.prog 28 2=some (2,2):=by kernel_rfl
theorem fX:nM Tryz.prog 28 3=some (4,9):=by kernel_rfl
theorem dW:hZ Tryz.prog 28 3=some (4,1):=by kernel_rfl
theorem eJ:nM Tryz.prog 28 4=some (5,26):=by kernel_rfl
theorem dX:hZ Tryz.prog 28 4=some (5,1):=by kernel_rfl
theorem cZ:lC Tryz.prog 28=some [.int .i64 0,.int .i32 0,.bool false,.slice none 0 0,.string ⟨#[]⟩,.slice none 0 0]:=by kernel_rfl
theorem CK:tyI Tryz.prog 29=some (false,1):=by kernel_rfl
theorem bM:lN Tryz.prog 29=some (31,11):=by kernel_rfl
theorem eG:vZ Tryz.prog 29=some false:=by kernel_rfl
theorem bO:sS Tryz.prog 29=some 176:=by kernel_rfl
theorem bP:lC Tryz.prog 31=some [.int .i64 0,.string ⟨#[]⟩,.string ⟨#[]⟩,.slice none 0 0,.int .i64 0,.int .i32 0,.bool false,.slice none 0 0,.string ⟨#[]⟩,.slice none 0 0,.slice none 0 0]:=by kernel_rfl
theorem bG:tyI Tryz.prog 31=some (true,11):=by kernel_rfl
theorem bI:CG Tryz.prog 31=true:=by kernel_rfl
theorem oK:nM Tryz.prog 31 0=some (0,3):=by kernel_rfl
theorem aO:hZ Tryz.prog 31 0=some (0,1):=by kernel_rfl
theorem vA:nM Tryz.prog 31 1=some (1,9):=by kernel_rfl
theorem aP:hZ Tryz.prog 31 1=some (1,1):=by kernel_rfl
theorem GV:nM Tryz.prog 31 2=some (2,9):=by kernel_rfl
theorem aQ:hZ Tryz.prog 31 2=some (2,1):=by kernel_rfl
theorem vB:nM Tryz.prog 31 3=some (3,22):=by kernel_rfl
theorem aR:hZ Tryz.prog 31 3=some (3,1):=by kernel_rfl
theorem vC:nM Tryz.prog 31 4=some (4,28):=by kernel_rfl
theorem aU:hZ Tryz.prog 31 4=some (4,6):=by kernel_rfl
theorem oL:nM Tryz.prog 31 5=some (10,29):=by kernel_rfl
theorem aV:hZ Tryz.prog 31 5=some (10,1):=by kernel_rfl
theorem aJ:lC Tryz.prog 31=some [.int .i64 0,.string ⟨#[]⟩,.string ⟨#[]⟩,.slice none 0 0,.int .i64 0,.int .i32 0,.bool false,.slice none 0 0,.string ⟨#[]⟩,.slice none 0 0,.slice none 0 0]:=by kernel_rfl
theorem VE:tyI Tryz.prog 53=some (false,1):=by kernel_rfl
theorem QI:lN Tryz.prog 53=some (3,1):=by kernel_rfl
theorem QJ:vZ Tryz.prog 53=some false:=by kernel_rfl
theorem QK:sS Tryz.prog 53=some 8:=by kernel_rfl
theorem QL:lC Tryz.prog 3=some [.int .i64 0]:=by kernel_rfl
theorem VF:tyI Tryz.prog 55=some (true,5):=by kernel_rfl
theorem GW:nM Tryz.prog 55 4=some (4,53):=by kernel_rfl
theorem QM:lC Tryz.prog 55=some [.slice none 0 0,.slice none 0 0,.slice none 0 0,.slice none 0 0,.slice none 0 0]:=by kernel_rfl
theorem eA:tyI Tryz.prog 62=some (false,1):=by kernel_rfl
theorem iV:VR Tryz.prog 62=true:=by kernel_rfl
theorem DV:lN Tryz.prog 93=some (21,1):=by kernel_rfl
theorem DW:vZ Tryz.prog 93=some false:=by kernel_rfl
theorem DX:sS Tryz.prog 93=some 4:=by kernel_rfl
theorem DY:lC Tryz.prog 21=some [.int .i32 0]:=by kernel_rfl
theorem VG:tyI Tryz.prog 96=some (false,1):=by kernel_rfl
theorem QN:tyI Tryz.prog 134=some (false,1):=by kernel_rfl
theorem MK:lN Tryz.prog 134=some (5,1):=by kernel_rfl
theorem ML:vZ Tryz.prog 134=some false:=by kernel_rfl
theorem MM:sS Tryz.prog 134=some 1:=by kernel_rfl
theorem MN:lC Tryz.prog 5=some [.int .u8 0]:=by kernel_rfl
theorem CL:nM Tryz.prog 136 0=some (0,4):=by kernel_rfl
theorem CM:nM Tryz.prog 136 1=some (1,134):=by kernel_rfl
theorem w3:type_of% (And.intro bG QG):=And.intro bG QG
theorem w4:type_of% (And.intro aW (And.intro aJ bG)):=And.intro aW (And.intro aJ bG)
theorem w5:type_of% (And.intro (And.intro (And.intro (And.intro aW xG) (And.intro xF cZ)) (And.intro (And.intro eY dT) (And.intro dU dV))) (And.intro (And.intro (And.intro dW dX) (And.intro aM bB)) (And.intro (And.intro bA dG) (And.intro jC (And.intro fX lE))))):=And.intro (And.intro (And.intro (And.intro aW xG) (And.intro xF cZ)) (And.intro (And.intro eY dT) (And.intro dU dV))) (And.intro (And.intro (And.intro dW dX) (And.intro aM bB)) (And.intro (And.intro bA dG) (And.intro jC (And.intro fX lE))))
theorem w6:type_of% (And.intro (And.intro aW (And.intro aM bB)) (And.intro (And.intro bA aJ) (And.intro bG cZ))):=And.intro (And.intro aW (And.intro aM bB)) (And.intro (And.intro bA aJ) (And.intro bG cZ))
theorem w7:type_of% (And.intro (And.intro (And.intro (And.intro aW aM) (And.intro bB (And.intro bA aJ))) (And.intro (And.intro bG oL) (And.intro CK (And.intro eG bM)))) (And.intro (And.intro (And.intro bO bP) (And.intro oK (And.intro jC vB))) (And.intro (And.intro MH eV) (And.intro dH (And.intro dJ dK))))):=And.intro (And.intro (And.intro (And.intro aW aM) (And.intro bB (And.intro bA aJ))) (And.intro (And.intro bG oL) (And.intro CK (And.intro eG bM)))) (And.intro (And.intro (And.intro bO bP) (And.intro oK (And.intro jC vB))) (And.intro (And.intro MH eV) (And.intro dH (And.intro dJ dK))))
theorem w8:type_of% (And.intro (And.intro aW (And.intro xG xF)) (And.intro aM (And.intro bB bA))):=And.intro (And.intro aW (And.intro xG xF)) (And.intro aM (And.intro bB bA))
theorem w9:type_of% (And.intro (And.intro (And.intro aW (And.intro aJ bG)) (And.intro (And.intro bM bP) (And.intro bO QM))) (And.intro (And.intro (And.intro VF GW) (And.intro VE QJ)) (And.intro (And.intro QI QK) (And.intro QL jC)))):=And.intro (And.intro (And.intro aW (And.intro aJ bG)) (And.intro (And.intro bM bP) (And.intro bO QM))) (And.intro (And.intro (And.intro VF GW) (And.intro VE QJ)) (And.intro (And.intro QI QK) (And.intro QL jC)))
theorem w11:type_of% (And.intro (And.intro (And.intro cZ (And.intro eY dT)) (And.intro dU (And.intro dV dW))) (And.intro (And.intro dX (And.intro aW aM)) (And.intro (And.intro bB bA) (And.intro aJ bG)))):=And.intro (And.intro (And.intro cZ (And.intro eY dT)) (And.intro dU (And.intro dV dW))) (And.intro (And.intro dX (And.intro aW aM)) (And.intro (And.intro bB bA) (And.intro aJ bG)))
theorem w14:type_of% (And.intro (And.intro (And.intro oK jC) (And.intro vA (And.intro lE GV))) (And.intro (And.intro vB (And.intro MH vC)) (And.intro aW (And.intro oL CK)))):=And.intro (And.intro (And.intro oK jC) (And.intro vA (And.intro lE GV))) (And.intro (And.intro vB (And.intro MH vC)) (And.intro aW (And.intro oL CK)))
theorem w17:type_of% (And.intro (And.intro (And.intro aJ (And.intro aW bI)) (And.intro aO (And.intro aP aQ))) (And.intro (And.intro aR (And.intro aU aV)) (And.intro bG (And.intro iV eA)))):=And.intro (And.intro (And.intro aJ (And.intro aW bI)) (And.intro aO (And.intro aP aQ))) (And.intro (And.intro aR (And.intro aU aV)) (And.intro bG (And.intro iV eA)))
theorem w21:type_of% (And.intro (And.intro (And.intro cZ eY) (And.intro dT dU)) (And.intro (And.intro dV dW) (And.intro dX aW))):=And.intro (And.intro (And.intro cZ eY) (And.intro dT dU)) (And.intro (And.intro dV dW) (And.intro dX aW))
theorem w23:type_of% (And.intro cZ aW):=And.intro cZ aW
theorem w25:type_of% (And.intro (And.intro (And.intro dG jC) (And.intro fX (And.intro lE eJ))) (And.intro (And.intro kP (And.intro bS aM)) (And.intro bA (And.intro bB aW)))):=And.intro (And.intro (And.intro dG jC) (And.intro fX (And.intro lE eJ))) (And.intro (And.intro kP (And.intro bS aM)) (And.intro bA (And.intro bB aW)))
theorem w26:type_of% (And.intro (And.intro (And.intro (And.intro cZ (And.intro oK jC)) (And.intro vC (And.intro aW oL))) (And.intro (And.intro CK (And.intro eG bM)) (And.intro bO (And.intro bP eY)))) (And.intro (And.intro (And.intro dT (And.intro dU dV)) (And.intro dW (And.intro dX bG))) (And.intro (And.intro aM (And.intro bB bA)) (And.intro bS (And.intro vA lE))))):=And.intro (And.intro (And.intro (And.intro cZ (And.intro oK jC)) (And.intro vC (And.intro aW oL))) (And.intro (And.intro CK (And.intro eG bM)) (And.intro bO (And.intro bP eY)))) (And.intro (And.intro (And.intro dT (And.intro dU dV)) (And.intro dW (And.intro dX bG))) (And.intro (And.intro aM (And.intro bB bA)) (And.intro bS (And.intro vA lE))))
theorem w35:type_of% (And.intro (And.intro eV dH) (And.intro dJ (And.intro dK lE))):=And.intro (And.intro eV dH) (And.intro dJ (And.intro dK lE))
theorem w37:type_of% (And.intro (And.intro eG (And.intro bM bO)) (And.intro bP (And.intro bG aJ))):=And.intro (And.intro eG (And.intro bM bO)) (And.intro bP (And.intro bG aJ))
theorem w38:type_of% (And.intro (And.intro (And.intro (And.intro fX lE) (And.intro xG xF)) (And.intro (And.intro uZ uY) (And.intro MI (And.intro DR DQ)))) (And.intro (And.intro (And.intro DS DT) (And.intro eJ kP)) (And.intro (And.intro bS aM) (And.intro bA (And.intro bB aW))))):=And.intro (And.intro (And.intro (And.intro fX lE) (And.intro xG xF)) (And.intro (And.intro uZ uY) (And.intro MI (And.intro DR DQ)))) (And.intro (And.intro (And.intro DS DT) (And.intro eJ kP)) (And.intro (And.intro bS aM) (And.intro bA (And.intro bB aW))))
theorem w40:type_of% (And.intro (And.intro (And.intro (And.intro aJ aW) (And.intro bG bM)) (And.intro (And.intro bP bO) (And.intro bI (And.intro aO aP)))) (And.intro (And.intro (And.intro aQ aR) (And.intro aU (And.intro aV bS))) (And.intro (And.intro aM bA) (And.intro bB (And.intro cZ eG))))):=And.intro (And.intro (And.intro (And.intro aJ aW) (And.intro bG bM)) (And.intro (And.intro bP bO) (And.intro bI (And.intro aO aP)))) (And.intro (And.intro (And.intro aQ aR) (And.intro aU (And.intro aV bS))) (And.intro (And.intro aM bA) (And.intro bB (And.intro cZ eG))))
theorem w43:type_of% (And.intro (And.intro (And.intro (And.intro dG jC) (And.intro aW GU)) (And.intro (And.intro VD uZ) (And.intro CJ (And.intro fX lE)))) (And.intro (And.intro (And.intro DW DV) (And.intro DX (And.intro DY eJ))) (And.intro (And.intro kP bS) (And.intro aM (And.intro bA bB))))):=And.intro (And.intro (And.intro (And.intro dG jC) (And.intro aW GU)) (And.intro (And.intro VD uZ) (And.intro CJ (And.intro fX lE)))) (And.intro (And.intro (And.intro DW DV) (And.intro DX (And.intro DY eJ))) (And.intro (And.intro kP bS) (And.intro aM (And.intro bA bB))))
theorem w44:type_of% (And.intro (And.intro (And.intro cZ (And.intro eY dT)) (And.intro dU (And.intro dV dW))) (And.intro (And.intro dX (And.intro aW bS)) (And.intro aM (And.intro bA bB)))):=And.intro (And.intro (And.intro cZ (And.intro eY dT)) (And.intro dU (And.intro dV dW))) (And.intro (And.intro dX (And.intro aW bS)) (And.intro aM (And.intro bA bB)))
theorem w45:type_of% (And.intro (And.intro (And.intro dG jC) (And.intro eJ kP)) (And.intro (And.intro bS aM) (And.intro bA (And.intro bB aW)))):=And.intro (And.intro (And.intro dG jC) (And.intro eJ kP)) (And.intro (And.intro bS aM) (And.intro bA (And.intro bB aW)))
theorem w55:type_of% (And.intro (And.intro dG (And.intro jC eJ)) (And.intro kP (And.intro aM aW))):=And.intro (And.intro dG (And.intro jC eJ)) (And.intro kP (And.intro aM aW))
theorem w56:type_of% (And.intro (And.intro (And.intro (And.intro aJ bS) (And.intro aM bA)) (And.intro (And.intro bB bI) (And.intro aO (And.intro aP aQ)))) (And.intro (And.intro (And.intro aR aU) (And.intro aV (And.intro eA bG))) (And.intro (And.intro dG jC) (And.intro eJ (And.intro kP aW))))):=And.intro (And.intro (And.intro (And.intro aJ bS) (And.intro aM bA)) (And.intro (And.intro bB bI) (And.intro aO (And.intro aP aQ)))) (And.intro (And.intro (And.intro aR aU) (And.intro aV (And.intro eA bG))) (And.intro (And.intro dG jC) (And.intro eJ (And.intro kP aW))))
theorem w57:type_of% (And.intro (And.intro (And.intro (And.intro aJ dG) (And.intro jC bI)) (And.intro (And.intro aO aP) (And.intro aQ aR))) (And.intro (And.intro (And.intro aU aV) (And.intro eA bG)) (And.intro (And.intro aW iV) (And.intro aM (And.intro fX lE))))):=And.intro (And.intro (And.intro (And.intro aJ dG) (And.intro jC bI)) (And.intro (And.intro aO aP) (And.intro aQ aR))) (And.intro (And.intro (And.intro aU aV) (And.intro eA bG)) (And.intro (And.intro aW iV) (And.intro aM (And.intro fX lE))))
theorem w58:type_of% (And.intro (And.intro (And.intro aJ cZ) (And.intro eY dT)) (And.intro (And.intro dU dV) (And.intro dW (And.intro dX bG)))):=And.intro (And.intro (And.intro aJ cZ) (And.intro eY dT)) (And.intro (And.intro dU dV) (And.intro dW (And.intro dX bG)))
theorem w59:type_of% (And.intro iV eA):=And.intro iV eA
theorem w60:type_of% (And.intro (And.intro (And.intro aJ (And.intro eG bM)) (And.intro bO (And.intro bP bG))) (And.intro (And.intro bI (And.intro aO aP)) (And.intro (And.intro aQ aR) (And.intro aU aV)))):=And.intro (And.intro (And.intro aJ (And.intro eG bM)) (And.intro bO (And.intro bP bG))) (And.intro (And.intro bI (And.intro aO aP)) (And.intro (And.intro aQ aR) (And.intro aU aV)))
theorem w65:type_of% (And.intro CJ DU):=And.intro CJ DU
theorem w66:type_of% (And.intro (And.intro (And.intro xG xF) (And.intro VC QH)) (And.intro (And.intro DV DY) (And.intro DX DW))):=And.intro (And.intro (And.intro xG xF) (And.intro VC QH)) (And.intro (And.intro DV DY) (And.intro DX DW))
theorem w82:type_of% (And.intro (And.intro dG jC) (And.intro fX lE)):=And.intro (And.intro dG jC) (And.intro fX lE)
theorem w85:type_of% (And.intro (And.intro dG jC) (And.intro fX (And.intro lE eA))):=And.intro (And.intro dG jC) (And.intro fX (And.intro lE eA))
theorem w86:type_of% (And.intro aJ (And.intro aW bG)):=And.intro aJ (And.intro aW bG)
theorem w87:type_of% (And.intro (And.intro (And.intro aJ bI) (And.intro aO aP)) (And.intro (And.intro aQ aR) (And.intro aU (And.intro aV bG)))):=And.intro (And.intro (And.intro aJ bI) (And.intro aO aP)) (And.intro (And.intro aQ aR) (And.intro aU (And.intro aV bG)))
theorem w88:type_of% (And.intro aW eA):=And.intro aW eA
theorem w89:type_of% (And.intro (And.intro (And.intro (And.intro aJ bS) (And.intro aM bA)) (And.intro (And.intro bB aW) (And.intro bG (And.intro bM bP)))) (And.intro (And.intro (And.intro bO bI) (And.intro aO aP)) (And.intro (And.intro aQ aR) (And.intro aU (And.intro aV eG))))):=And.intro (And.intro (And.intro (And.intro aJ bS) (And.intro aM bA)) (And.intro (And.intro bB aW) (And.intro bG (And.intro bM bP)))) (And.intro (And.intro (And.intro bO bI) (And.intro aO aP)) (And.intro (And.intro aQ aR) (And.intro aU (And.intro aV eG))))
theorem w90:type_of% (And.intro (And.intro (And.intro bS (And.intro aM bA)) (And.intro bB (And.intro aW cZ))) (And.intro (And.intro aJ (And.intro bG bM)) (And.intro bP (And.intro bO eG)))):=And.intro (And.intro (And.intro bS (And.intro aM bA)) (And.intro bB (And.intro aW cZ))) (And.intro (And.intro aJ (And.intro bG bM)) (And.intro bP (And.intro bO eG)))
theorem w91:type_of% (And.intro (And.intro (And.intro aJ (And.intro eG bM)) (And.intro (And.intro bO bP) (And.intro bI aO))) (And.intro (And.intro aP (And.intro aQ aR)) (And.intro (And.intro aU aV) (And.intro eA bG)))):=And.intro (And.intro (And.intro aJ (And.intro eG bM)) (And.intro (And.intro bO bP) (And.intro bI aO))) (And.intro (And.intro aP (And.intro aQ aR)) (And.intro (And.intro aU aV) (And.intro eA bG)))
theorem w92:type_of% (And.intro (And.intro (And.intro aJ aW) (And.intro bI (And.intro aO aP))) (And.intro (And.intro aQ aR) (And.intro aU (And.intro aV bG)))):=And.intro (And.intro (And.intro aJ aW) (And.intro bI (And.intro aO aP))) (And.intro (And.intro aQ aR) (And.intro aU (And.intro aV bG)))
theorem w93:type_of% (And.intro (And.intro (And.intro (And.intro DU CM) (And.intro QN (And.intro ML MK))) (And.intro (And.intro MM MN) (And.intro MJ (And.intro GS GT)))) (And.intro (And.intro (And.intro CJ CL) (And.intro XE (And.intro uY MI))) (And.intro (And.intro DQ (And.intro DT DS)) (And.intro DR (And.intro XF VG))))):=And.intro (And.intro (And.intro (And.intro DU CM) (And.intro QN (And.intro ML MK))) (And.intro (And.intro MM MN) (And.intro MJ (And.intro GS GT)))) (And.intro (And.intro (And.intro CJ CL) (And.intro XE (And.intro uY MI))) (And.intro (And.intro DQ (And.intro DT DS)) (And.intro DR (And.intro XF VG))))
theorem w98:type_of% (And.intro (And.intro dH dK) (And.intro dJ eV)):=And.intro (And.intro dH dK) (And.intro dJ eV)
theorem pS:type_of% (And.intro (And.intro (And.intro dG jC) (And.intro eJ (And.intro kP aM))) (And.intro (And.intro aW dH) (And.intro dK (And.intro dJ eV)))):=And.intro (And.intro (And.intro dG jC) (And.intro eJ (And.intro kP aM))) (And.intro (And.intro aW dH) (And.intro dK (And.intro dJ eV)))
theorem jY:type_of% (And.intro (And.intro (And.intro (And.intro aJ (And.intro bS aM)) (And.intro bA (And.intro bB aW))) (And.intro (And.intro cZ (And.intro bG bM)) (And.intro bP (And.intro bO eG)))) (And.intro (And.intro (And.intro eA (And.intro dH dK)) (And.intro dJ (And.intro eV bI))) (And.intro (And.intro aO (And.intro aP aQ)) (And.intro aR (And.intro aU aV))))):=And.intro (And.intro (And.intro (And.intro aJ (And.intro bS aM)) (And.intro bA (And.intro bB aW))) (And.intro (And.intro cZ (And.intro bG bM)) (And.intro bP (And.intro bO eG)))) (And.intro (And.intro (And.intro eA (And.intro dH dK)) (And.intro dJ (And.intro eV bI))) (And.intro (And.intro aO (And.intro aP aQ)) (And.intro aR (And.intro aU aV))))
theorem GX:type_of% (And.intro (And.intro (And.intro (And.intro aJ eV) (And.intro dH dJ)) (And.intro (And.intro dK bI) (And.intro aO aP))) (And.intro (And.intro (And.intro aQ aR) (And.intro aU aV)) (And.intro (And.intro eA bG) (And.intro bM (And.intro bP bO))))):=And.intro (And.intro (And.intro (And.intro aJ eV) (And.intro dH dJ)) (And.intro (And.intro dK bI) (And.intro aO aP))) (And.intro (And.intro (And.intro aQ aR) (And.intro aU aV)) (And.intro (And.intro eA bG) (And.intro bM (And.intro bP bO))))
theorem fO:type_of% (And.intro (And.intro (And.intro aJ (And.intro aW cZ)) (And.intro bG (And.intro dG jC))) (And.intro (And.intro eJ (And.intro kP bM)) (And.intro bP (And.intro bO aM)))):=And.intro (And.intro (And.intro aJ (And.intro aW cZ)) (And.intro bG (And.intro dG jC))) (And.intro (And.intro eJ (And.intro kP bM)) (And.intro bP (And.intro bO aM)))
theorem XG:type_of% (And.intro (And.intro (And.intro aJ (And.intro bG bM)) (And.intro bP (And.intro bO bI))) (And.intro (And.intro aO (And.intro aP aQ)) (And.intro aR (And.intro aU aV)))):=And.intro (And.intro (And.intro aJ (And.intro bG bM)) (And.intro bP (And.intro bO bI))) (And.intro (And.intro aO (And.intro aP aQ)) (And.intro aR (And.intro aU aV)))
theorem TP:type_of% (And.intro (And.intro (And.intro aJ (And.intro bS aM)) (And.intro (And.intro bA bB) (And.intro bI aO))) (And.intro (And.intro aP (And.intro aQ aR)) (And.intro (And.intro aU aV) (And.intro eA bG)))):=And.intro (And.intro (And.intro aJ (And.intro bS aM)) (And.intro (And.intro bA bB) (And.intro bI aO))) (And.intro (And.intro aP (And.intro aQ aR)) (And.intro (And.intro aU aV) (And.intro eA bG)))
theorem pT:type_of% (And.intro (And.intro (And.intro (And.intro aJ bS) (And.intro aM bA)) (And.intro (And.intro bB bG) (And.intro aW iV))) (And.intro (And.intro (And.intro bI aO) (And.intro aP aQ)) (And.intro (And.intro aR aU) (And.intro aV eA)))):=And.intro (And.intro (And.intro (And.intro aJ bS) (And.intro aM bA)) (And.intro (And.intro bB bG) (And.intro aW iV))) (And.intro (And.intro (And.intro bI aO) (And.intro aP aQ)) (And.intro (And.intro aR aU) (And.intro aV eA)))
theorem VT:type_of% (And.intro (And.intro (And.intro aJ dH) (And.intro dK dJ)) (And.intro (And.intro bG aW) (And.intro aM (And.intro bB bA)))):=And.intro (And.intro (And.intro aJ dH) (And.intro dK dJ)) (And.intro (And.intro bG aW) (And.intro aM (And.intro bB bA)))
theorem qT:type_of% (And.intro (And.intro (And.intro aJ bG) (And.intro bI (And.intro aO aP))) (And.intro (And.intro aQ aR) (And.intro aU (And.intro aV eA)))):=And.intro (And.intro (And.intro aJ bG) (And.intro bI (And.intro aO aP))) (And.intro (And.intro aQ aR) (And.intro aU (And.intro aV eA)))
theorem VU:type_of% (And.intro (And.intro (And.intro cZ aW) (And.intro eY (And.intro dT dU))) (And.intro (And.intro dV (And.intro dW dX)) (And.intro eJ (And.intro kP aM)))):=And.intro (And.intro (And.intro cZ aW) (And.intro eY (And.intro dT dU))) (And.intro (And.intro dV (And.intro dW dX)) (And.intro eJ (And.intro kP aM)))
theorem KC:type_of% (And.intro (And.intro eV dH) (And.intro dJ (And.intro dK lE))):=And.intro (And.intro eV dH) (And.intro dJ (And.intro dK lE))
theorem KD:type_of% (And.intro (And.intro eV (And.intro dH dJ)) (And.intro dK (And.intro lE eA))):=And.intro (And.intro eV (And.intro dH dJ)) (And.intro dK (And.intro lE eA))
theorem vD:type_of% (And.intro (And.intro bS (And.intro aM bA)) (And.intro bB (And.intro aW cZ))):=And.intro (And.intro bS (And.intro aM bA)) (And.intro bB (And.intro aW cZ))
theorem jD:type_of% (And.intro (And.intro (And.intro (And.intro aJ eV) (And.intro dH dJ)) (And.intro (And.intro dK lE) (And.intro bM (And.intro bG bP)))) (And.intro (And.intro (And.intro bO bI) (And.intro aO aP)) (And.intro (And.intro aQ aR) (And.intro aU (And.intro aV eG))))):=And.intro (And.intro (And.intro (And.intro aJ eV) (And.intro dH dJ)) (And.intro (And.intro dK lE) (And.intro bM (And.intro bG bP)))) (And.intro (And.intro (And.intro bO bI) (And.intro aO aP)) (And.intro (And.intro aQ aR) (And.intro aU (And.intro aV eG))))
theorem GY:type_of% (And.intro (And.intro (And.intro cZ (And.intro aW bS)) (And.intro aM (And.intro bA bB))) (And.intro (And.intro eY (And.intro dT dU)) (And.intro dV (And.intro dW dX)))):=And.intro (And.intro (And.intro cZ (And.intro aW bS)) (And.intro aM (And.intro bA bB))) (And.intro (And.intro eY (And.intro dT dU)) (And.intro dV (And.intro dW dX)))
theorem DZ:type_of% (And.intro (And.intro (And.intro aJ bG) (And.intro cZ eY)) (And.intro (And.intro dT dU) (And.intro dV (And.intro dW dX)))):=And.intro (And.intro (And.intro aJ bG) (And.intro cZ eY)) (And.intro (And.intro dT dU) (And.intro dV (And.intro dW dX)))
theorem XH:type_of% (And.intro (And.intro (And.intro aJ bI) (And.intro aO aP)) (And.intro (And.intro aQ aR) (And.intro aU (And.intro aV bG)))):=And.intro (And.intro (And.intro aJ bI) (And.intro aO aP)) (And.intro (And.intro aQ aR) (And.intro aU (And.intro aV bG)))
theorem xY:type_of% (And.intro (And.intro aJ bG) (And.intro bM (And.intro bP bO))):=And.intro (And.intro aJ bG) (And.intro bM (And.intro bP bO))
theorem oB:type_of% (And.intro (And.intro (And.intro aJ bS) (And.intro aM (And.intro bA bB))) (And.intro (And.intro bG aW) (And.intro bM (And.intro bP bO)))):=And.intro (And.intro (And.intro aJ bS) (And.intro aM (And.intro bA bB))) (And.intro (And.intro bG aW) (And.intro bM (And.intro bP bO)))
theorem NT:type_of% (And.intro (And.intro aJ (And.intro bG bM)) (And.intro bP (And.intro bO eG))):=And.intro (And.intro aJ (And.intro bG bM)) (And.intro bP (And.intro bO eG))
theorem EA:type_of% (And.intro (And.intro (And.intro (And.intro aJ bS) (And.intro aM bA)) (And.intro (And.intro bB dG) (And.intro jC bG))) (And.intro (And.intro (And.intro bI aO) (And.intro aP aQ)) (And.intro (And.intro aR aU) (And.intro aV (And.intro eA aW))))):=And.intro (And.intro (And.intro (And.intro aJ bS) (And.intro aM bA)) (And.intro (And.intro bB dG) (And.intro jC bG))) (And.intro (And.intro (And.intro bI aO) (And.intro aP aQ)) (And.intro (And.intro aR aU) (And.intro aV (And.intro eA aW))))
theorem iW:type_of% (And.intro (And.intro (And.intro (And.intro aJ bS) (And.intro aM bA)) (And.intro (And.intro bB bI) (And.intro aO (And.intro aP aQ)))) (And.intro (And.intro (And.intro aR aU) (And.intro aV (And.intro eA bG))) (And.intro (And.intro aW eV) (And.intro dH (And.intro dJ dK))))):=And.intro (And.intro (And.intro (And.intro aJ bS) (And.intro aM bA)) (And.intro (And.intro bB bI) (And.intro aO (And.intro aP aQ)))) (And.intro (And.intro (And.intro aR aU) (And.intro aV (And.intro eA bG))) (And.intro (And.intro aW eV) (And.intro dH (And.intro dJ dK))))
theorem xZ:type_of% (And.intro (And.intro (And.intro (And.intro aJ (And.intro bS aM)) (And.intro bA (And.intro bB bI))) (And.intro (And.intro aO (And.intro aP aQ)) (And.intro aR (And.intro aU aV)))) (And.intro (And.intro (And.intro eA (And.intro bG aW)) (And.intro iV (And.intro eG bM))) (And.intro (And.intro bO (And.intro bP eV)) (And.intro dH (And.intro dJ dK))))):=And.intro (And.intro (And.intro (And.intro aJ (And.intro bS aM)) (And.intro bA (And.intro bB bI))) (And.intro (And.intro aO (And.intro aP aQ)) (And.intro aR (And.intro aU aV)))) (And.intro (And.intro (And.intro eA (And.intro bG aW)) (And.intro iV (And.intro eG bM))) (And.intro (And.intro bO (And.intro bP eV)) (And.intro dH (And.intro dJ dK))))
theorem eD:type_of% (And.intro (And.intro (And.intro (And.intro aJ bS) (And.intro aM bA)) (And.intro (And.intro bB bG) (And.intro aW (And.intro iV bI)))) (And.intro (And.intro (And.intro aO aP) (And.intro aQ (And.intro aR aU))) (And.intro (And.intro aV eA) (And.intro bM (And.intro bP bO))))):=And.intro (And.intro (And.intro (And.intro aJ bS) (And.intro aM bA)) (And.intro (And.intro bB bG) (And.intro aW (And.intro iV bI)))) (And.intro (And.intro (And.intro aO aP) (And.intro aQ (And.intro aR aU))) (And.intro (And.intro aV eA) (And.intro bM (And.intro bP bO))))
theorem aL:type_of% (And.intro (And.intro (And.intro (And.intro aJ (And.intro bS aM)) (And.intro bA (And.intro bB bI))) (And.intro (And.intro aO (And.intro aP aQ)) (And.intro aR (And.intro aU aV)))) (And.intro (And.intro (And.intro eA (And.intro bG aW)) (And.intro cZ (And.intro iV dH))) (And.intro (And.intro dK (And.intro dJ eV)) (And.intro (And.intro bM bP) (And.intro bO eG))))):=And.intro (And.intro (And.intro (And.intro aJ (And.intro bS aM)) (And.intro bA (And.intro bB bI))) (And.intro (And.intro aO (And.intro aP aQ)) (And.intro aR (And.intro aU aV)))) (And.intro (And.intro (And.intro eA (And.intro bG aW)) (And.intro cZ (And.intro iV dH))) (And.intro (And.intro dK (And.intro dJ eV)) (And.intro (And.intro bM bP) (And.intro bO eG))))
theorem kC:type_of% (And.intro (And.intro aJ (And.intro bS aM)) (And.intro (And.intro bA bB) (And.intro bG aW))):=And.intro (And.intro aJ (And.intro bS aM)) (And.intro (And.intro bA bB) (And.intro bG aW))
theorem VV:type_of% (And.intro (And.intro (And.intro aJ cZ) (And.intro eY dT)) (And.intro (And.intro dU dV) (And.intro dW (And.intro dX bG)))):=And.intro (And.intro (And.intro aJ cZ) (And.intro eY dT)) (And.intro (And.intro dU dV) (And.intro dW (And.intro dX bG)))
theorem nN:type_of% (And.intro (And.intro (And.intro (And.intro aJ aM) (And.intro aW (And.intro bS bA))) (And.intro (And.intro bB (And.intro bI aO)) (And.intro aP (And.intro aQ aR)))) (And.intro (And.intro (And.intro aU aV) (And.intro eA (And.intro bG dH))) (And.intro (And.intro dK (And.intro dJ bM)) (And.intro bP (And.intro bO eG))))):=And.intro (And.intro (And.intro (And.intro aJ aM) (And.intro aW (And.intro bS bA))) (And.intro (And.intro bB (And.intro bI aO)) (And.intro aP (And.intro aQ aR)))) (And.intro (And.intro (And.intro aU aV) (And.intro eA (And.intro bG dH))) (And.intro (And.intro dK (And.intro dJ bM)) (And.intro bP (And.intro bO eG))))
theorem rI:type_of% (And.intro (And.intro (And.intro aW (And.intro bS aM)) (And.intro bA (And.intro bB cZ))) (And.intro (And.intro iV (And.intro eA dH)) (And.intro dK (And.intro dJ eV)))):=And.intro (And.intro (And.intro aW (And.intro bS aM)) (And.intro bA (And.intro bB cZ))) (And.intro (And.intro iV (And.intro eA dH)) (And.intro dK (And.intro dJ eV)))
end Go.Proofs.YtaeioidifpebdaaGreatDoor
end
section
namespace Go.Proofs.YtaeioidifpebdaaGreatDoor
open Go Go.RowKit
set_option linter.unusedSimpArgs false
set_option linter.unusedVariables false
def D.cc:D→List C
 | mk k c neg mag t l=>[.v (.int .i64 k),.v (.int .i32 c),.v (.bool neg),.sl 1 (mag.map fun n=>[.v (.int .u32 n)]),.v (.string t),.sl 6 (l.map D.cc)]
theorem D.cc_eq (d:D):d.cc=[.v (.int .i64 d.k),.v (.int .i32 d.c),.v (.bool d.neg),.sl 1 (d.mag.map fun n=>[.v (.int .u32 n)]),.v (.string d.t),.sl 6 (d.l.map D.cc)]:=by
 cases d;rw [D.cc];rfl
theorem vF {l:List D} {k:Nat} (h:k<l.length):(l.map D.cc)[k]?=some (l[k]).cc:=by simp [h]
theorem Rd.sl_cc {r:World} {α:Type} {f:α→V} {g:α→List C} {wd:Nat} {l:List α} {u:Value} (hfg:∀x∈l,∀(cs:List Value),Rd r (f x) cs→Ccs ⟨r,[]⟩ (g x) cs) (hw:∀x,(g x).length=wd) (h:Rd r (.sl (l.map f)) [u]):Cc ⟨r,[]⟩ (.sl wd (l.map g)) u:=by
 simp only [Rd] at h
 obtain⟨v,e,h⟩:=h
 cases e
 simp only [Cc,List.length_map]
 refine⟨fun e he=>by obtain⟨x,_,rfl⟩:=List.mem_map.1 he;exact hw x,?_⟩
 rcases h with ⟨h0,h1⟩|⟨b,o,cap,e,l1,l2,hr⟩
 ·exact .inl ⟨by simpa using h0,h1⟩
 ·rw [List.length_map] at e l1
  refine .inr ⟨b,o,cap,e,l1,l2,?_⟩
  clear e l1 l2
  clear hw
  induction l generalizing o with
  | nil=>simp [Crow]
  | cons x l ih =>
   simp only [List.map_cons,RdRow] at hr
   obtain⟨cs,h1,h2,h3⟩:=hr
   simp only [List.map_cons,Crow]
   exact⟨cs,h1,hfg x (by simp) cs h2,ih (fun y hy=>hfg y (by simp [hy])) _ h3⟩
theorem D.cc_len (d:D):d.cc.length=6:=by rw [D.cc_eq];rfl
theorem D.cc_of {r:World} (n:Nat):∀(d:D) (cs:List Value),d.ht≤n→Rd r d.v cs→Ccs ⟨r,[]⟩ d.cc cs:=by
 induction n with
 | zero=>intro d _ h;exact absurd h (by cases d;rw [D.ht];omega)
 | succ n ih =>
  intro d cs hh h
  have hd:∀x∈d.l,x.ht≤n:=fun x hx=>by
   obtain⟨i,hi,rfl⟩:=List.mem_iff_getElem.1 hx
   have:=D.ht_lt hi;omega
  obtain⟨am,cm,al,cl,e,hm,hl,-⟩:=IsD.open ⟨cs,rfl,h⟩
  have e':cs=[.int .i64 d.k,.int .i32 d.c,.bool d.neg,.slice am d.mag.length cm,.string d.t,.slice al d.l.length cl]:=by
   simpa using congrArg Array.toList (Value.agg.inj e)
  subst e'
  rw [D.cc_eq]
  have g1:Cc ⟨r,[]⟩ (.sl 1 (d.mag.map fun n=>[.v (.int .u32 n)])) (.slice am d.mag.length cm):=Rd.sl_cc (fun x _ cs hx=>by simp only [Rd] at hx;subst hx;simp [Ccs,Cc,Value.oneCell']) (fun _=>rfl) hm
  have g2:Cc ⟨r,[]⟩ (.sl 6 (d.l.map D.cc)) (.slice al d.l.length cl):=Rd.sl_cc (fun x hx cs hr=>ih x cs (hd x hx) hr) D.cc_len hl
  simp only [Ccs]
  exact⟨_,_,rfl,by simp [Cc,Value.oneCell'],_,_,rfl,by simp [Cc,Value.oneCell'],_,_,rfl,by simp [Cc,Value.oneCell'],_,_,rfl,g1,_,_,rfl,by simp [Cc,Value.oneCell'],_,_,rfl,g2,rfl⟩
theorem IsD.ca {r:World} {d:D} {v:Value} (h:IsD r d v):Ca ⟨r,[]⟩ (.agg d.cc) v:=by
 obtain⟨cs,rfl,h⟩:=h
 simp only [Ca]
 exact⟨cs,rfl,D.cc_of d.ht d cs (Nat.le_refl _) h⟩
theorem IsDs.ca {r:World} {l:List D} {v:Value} (h:IsDs r l v):Ca ⟨r,[]⟩ (.one (.sl 6 (l.map D.cc))) v:=by
 simp only [Ca]
 exact Rd.sl_cc (fun x _ cs hr=>D.cc_of x.ht x cs (Nat.le_refl _) hr) D.cc_len h
theorem Cc.sl_rd {r:World} {α:Type} {f:α→V} {g:α→List C} {wd:Nat} {l:List α} {u:Value} (hfg:∀x∈l,∀(cs:List Value),Ccs ⟨r,[]⟩ (g x) cs→Rd r (f x) cs) (h:Cc ⟨r,[]⟩ (.sl wd (l.map g)) u):Rd r (.sl (l.map f)) [u]:=by
 simp only [Cc,List.length_map] at h
 simp only [Rd,List.length_map]
 refine⟨u,rfl,?_⟩
 rcases h with ⟨-,⟨h0,h1⟩|⟨b,o,cap,e,l1,l2,hr⟩⟩
 ·exact .inl ⟨by simpa using h0,h1⟩
 ·refine .inr ⟨b,o,cap,e,l1,l2,?_⟩
  clear e l1 l2
  induction l generalizing o with
  | nil=>simp [RdRow]
  | cons x l ih =>
   simp only [List.map_cons,Crow] at hr
   obtain⟨cs,h1,h2,h3⟩:=hr
   simp only [List.map_cons,RdRow]
   exact⟨cs,h1,hfg x (by simp) cs h2,ih (fun y hy=>hfg y (by simp [hy])) _ h3⟩
theorem D.of_cc {r:World} (n:Nat):∀(d:D) (cs:List Value),d.ht≤n→Ccs ⟨r,[]⟩ d.cc cs→Rd r d.v cs:=by
 induction n with
 | zero=>intro d _ h;exact absurd h (by cases d;rw [D.ht];omega)
 | succ n ih =>
  intro d cs hh h
  have hd:∀x∈d.l,x.ht≤n:=fun x hx=>by
   obtain⟨i,hi,rfl⟩:=List.mem_iff_getElem.1 hx
   have:=D.ht_lt hi;omega
  rw [D.cc_eq] at h
  simp only [Ccs] at h
  obtain⟨_,_,rfl,h0,_,_,rfl,h1,_,_,rfl,h2,vm,_,rfl,h3,_,_,rfl,h4,vl,_,rfl,h5,rfl⟩:=h
  simp only [Cc] at h0 h1 h2 h4
  rw [h0.1,h1.1,h2.1,h4.1]
  have g1:IsMag r d.mag vm:=Cc.sl_rd (f:=fun n=>V.val (.int .u32 n)) (fun x _ cs hx=>by simp only [Ccs,Cc] at hx;obtain⟨_,_,rfl,hx,rfl⟩:=hx;simp only [Rd];rw [hx.1]) h3
  have g2:IsDs r d.l vl:=Cc.sl_rd (fun x hx cs hr=>ih x cs (hd x hx) hr) h5
  have:=IsD.mk' (d:=d) g1 g2
  obtain⟨cs',e,hr⟩:=this
  have:cs'=_:=(by simpa using (congrArg Array.toList (Value.agg.inj e)).symm:cs'=[_,_,_,_,_,_])
  subst this
  exact hr
theorem Ca.isD {r:World} {d:D} {v:Value} (h:Ca ⟨r,[]⟩ (.agg d.cc) v):IsD r d v:=by
 simp only [Ca] at h
 obtain⟨cs,rfl,h⟩:=h
 exact⟨cs,rfl,D.of_cc d.ht d cs (Nat.le_refl _) h⟩
theorem Ca.isDs {r:World} {l:List D} {v:Value} (h:Ca ⟨r,[]⟩ (.one (.sl 6 (l.map D.cc))) v):IsDs r l v:=by
 simp only [Ca] at h
 exact Cc.sl_rd (fun x _ cs hr=>D.of_cc x.ht x cs (Nat.le_refl _) hr) h
theorem YC (w:World):Keeps w (vis (fun _=>false) [] [] w):=fun p v h=>by
 unfold vis
 rw [eX,if_pos (by simp [bZ])];exact h
theorem Fr.ext {w w':World} {S0:Nat→Bool} (h:Fr S0 w w') (hs:∀b,S0 b=false):Ext w w':=⟨h.os,h.tape,h.output,h.size,fun b hb=>h.block b hb (hs b)⟩
theorem Ext.fr {w w':World} (S0:Nat→Bool) (h:Ext w w'):Fr S0 w w':=⟨h.os,h.tape,h.output,h.size,fun b hb _=>h.block b hb⟩
theorem Pure.calls {P:Program} {f:FuncId} {xs:List A} {u:Value} (h:Pure P f xs (.one (.v u))) {w:World} {vs:List Value} (hg:GL w) (hb:∀b,GBw w b→b<w.heap.size) (hv:Cas ⟨w,[]⟩ xs vs):Calls P f vs.toArray w fun e w'=>e=.returned u∧Ext w w':=by
 refine (h (fun _=>false) [] w vs ⟨rfl,by simp,by simp,by simp,fun b hb=>(by cases hb),fun b h=>⟨rfl,rfl,hb b h⟩,hg⟩ (Cas.keep (X:=⟨w,[]⟩) (X':=⟨vis (fun _=>false) [] [] w,[]⟩) (YC w) (Up.refl _) hv)).mono fun e w' ⟨v,m',r,s',he,⟨h1,h2⟩,_,hc,hf,_⟩=>?_
 subst h1 h2
 simp only [Ca,Cc] at hc
 rw [hc.1] at he
 exact⟨he,hf.ext fun _=>rfl⟩
theorem mP {P:Program} {f:FuncId} {xs:List A} {r:A} (h:∀(w:World) (vs:List Value),GL w→Cas ⟨w,[]⟩ xs vs→Calls P f vs.toArray w fun e w'=>∃v,e=.returned v∧Ext w w'∧Ca ⟨cM w' w.heap.size,[]⟩ r v):Pure P f xs r:=fun H m w vs hs hc=>by
 have hm:m=[]:=by have:=hs.len;simp at this;exact List.eq_nil_of_length_eq_zero (by omega)
 subst hm
 refine (h w vs hs.gl (Cas.keep (X:=⟨vis H [] [] w,[]⟩) (X':=⟨w,[]⟩) (oI _ _ _ _) (Up.refl _) hc)).mono fun e w' ⟨v,he,hx,hr⟩=>⟨v,[],r,[],he,⟨rfl,rfl⟩,⟨rfl,by simp,by simp,by simp,fun b hb=>Nat.lt_of_lt_of_le (hs.hlt b hb) hx.le,fun b hb'=>have hb:GBw w b:=hb'.back fun c hc=>hx.block c (hs.gb c (.inl hc)).2.2;⟨(hs.gb b hb).1,rfl,Nat.lt_of_lt_of_le (hs.gb b hb).2.2 hx.le⟩,GL.stays (fun b hb=>hx.block b (hs.gb b hb).2.2) hs.gl⟩,?_,hx.fr _,Up.refl _,by simp⟩
 refine Ca.keep (X:=⟨cM w' w.heap.size,[]⟩) (X':=⟨vis H [] [] w',[]⟩) (Keeps.only fun b hp hb=>?_) (Up.refl _) hr
 simp only [decide_eq_true_eq] at hp
 refine⟨?_,rfl⟩
 cases hH:H b with
 | false=>simp [bZ]
 | true=>have:=hs.hlt b hH;omega
theorem NU {P:Program} {f:FuncId} {xs:List A} {r:A} (h:∀(w:World) (vs:List Value),GL w→Cas ⟨w,[]⟩ xs vs→Calls P f vs.toArray w fun e w'=>∃v,e=.returned v∧Ext w w'∧Ca ⟨only w' (fun b=>decide (w.heap.size≤b)||GB b),[]⟩ r v):Pure P f xs r:=fun H m w vs hs hc=>by
 have hm:m=[]:=by have:=hs.len;simp at this;exact List.eq_nil_of_length_eq_zero (by omega)
 subst hm
 refine (h w vs hs.gl (Cas.keep (X:=⟨vis H [] [] w,[]⟩) (X':=⟨w,[]⟩) (oI _ _ _ _) (Up.refl _) hc)).mono fun e w' ⟨v,he,hx,hr⟩=>?_
 have hgb:∀b,GBw w' b→H b=false∧b<w.heap.size:=fun b hb' =>
  have hb:GBw w b:=hb'.back fun c hc=>hx.block c (hs.gb c (.inl hc)).2.2
  ⟨(hs.gb b hb).1,(hs.gb b hb).2.2⟩
 refine⟨v,[],r,[],he,⟨rfl,rfl⟩,⟨rfl,by simp,by simp,by simp,fun b hb=>Nat.lt_of_lt_of_le (hs.hlt b hb) hx.le,fun b hb=>⟨(hgb b hb).1,rfl,Nat.lt_of_lt_of_le (hgb b hb).2 hx.le⟩,GL.stays (fun b hb=>hx.block b (hs.gb b hb).2.2) hs.gl⟩,?_,hx.fr _,Up.refl _,by simp⟩
 refine Ca.keep (X:=⟨only w' (fun b=>decide (w.heap.size≤b)||GB b),[]⟩) (X':=⟨vis H [] [] w',[]⟩) (Keeps.only fun b hp hb=>?_) (Up.refl _) hr
 simp only [Bool.or_eq_true,decide_eq_true_eq] at hp
 refine⟨?_,rfl⟩
 cases hH:H b with
 | false=>simp [bZ]
 | true =>
  rcases hp with hp|hp
  ·have:=hs.hlt b hH;omega
  ·have:=(hgb b (.inl hp)).1;rw [hH] at this;cases this
theorem fB {P:Program} {f:FuncId} {xs:List A} {u:Value} (hu:u.oneCell'=true) (h:∀(w:World) (vs:List Value),GL w→Cas ⟨w,[]⟩ xs vs→Calls P f vs.toArray w fun e w'=>e=.returned u∧Ext w w'):Pure P f xs (.one (.v u)) :=
 mP fun w vs hg hv=>(h w vs hg hv).mono fun e w' ⟨he,hx⟩=>⟨u,he,hx,caV hu⟩
theorem Cas.one1 {X:Cx} {x:A} {vs:List Value} (h:Cas X [x] vs):∃v,vs=[v]∧Ca X x v:=by
 simp only [Cas] at h
 obtain⟨v,r,rfl,hv,rfl⟩:=h
 exact⟨v,rfl,hv⟩
theorem Cas.two {X:Cx} {x y:A} {vs:List Value} (h:Cas X [x,y] vs):∃v u,vs=[v,u]∧Ca X x v∧Ca X y u:=by
 simp only [Cas] at h
 obtain⟨v,r,rfl,hv,u,q,rfl,hu,rfl⟩:=h
 exact⟨v,u,rfl,hv,hu⟩
def Made (P:Program) (f:FuncId) (xs:List A) (r:A):Prop:=∀(w:World) (vs:List Value),GL w→Cas ⟨w,[]⟩ xs vs→Calls P f vs.toArray w fun e w'=>∃v,e=.returned v∧Ext w w'∧Ca ⟨cM w' w.heap.size,[]⟩ r v
theorem Made.pure {P:Program} {f:FuncId} {xs:List A} {r:A} (h:Made P f xs r):Pure P f xs r:=mP h
theorem StoOk.hid_lt {H:Nat→Bool} {s:List (Option Ob)} {m:List Lo} {w:World} (hs:StoOk H s m w) {b:Nat} (hb:bZ s m b=true):b<w.heap.size:=by
 obtain⟨i,ob,l,h1,h2,rfl⟩:=aN.1 hb
 obtain⟨vs,rest,hm,-,-⟩:=(hs.ok i ob l h1 h2).mem
 exact (Array.getElem?_eq_some_iff.1 hm).1
theorem zS {P:Program} {f:FuncId} {xs xs':List A} {p:Prop} {r:A} {H:Nat→Bool} {s:List (Option Ob)} {m:List Lo} {w:World} (hv:gO s xs=some (p,xs')) (hp:p) (hfn:Made P f xs' r) (hs:StoOk H s m w) (vs:List Value) (hvs:Cas ⟨vis H s m w,m⟩ xs vs) :
  Calls P f vs.toArray w fun e w'=>∃v,e=.returned v∧Fr (fun _=>false) w w'∧Ca ⟨vis H s m w',m⟩ r v:=by
 refine (hfn w vs hs.gl (Cas.keep (X:=⟨vis H [] [] w,[]⟩) (X':=⟨w,[]⟩) (oI _ _ _ _) (Up.refl _) (mB hs hv hp hvs))).mono fun e w' ⟨v,he,hx,hr⟩=>⟨v,he,hx.fr _,?_⟩
 refine Ca.keep (X:=⟨cM w' w.heap.size,[]⟩) (X':=⟨vis H s m w',m⟩) (Keeps.only fun b hp hb=>?_) (fun i l h=>by simp at h) hr
 simp only [decide_eq_true_eq] at hp
 refine⟨?_,rfl⟩
 cases hH:H b with
 | true=>have:=hs.hlt b hH;omega
 | false =>
  cases hB:bZ s m b with
  | true=>have:=hs.hid_lt hB;omega
  | false=>rfl
theorem CallA.made {P:Program} {nt:Cf} {st:St} {fo:Operand} {args:List Operand} {f:FuncId} {caps:List C} {xs xs':List A} {K:A→Prop} {p:Prop} {r:A} (hf:rdA st.e fo=some (.one (.fn f caps))) (ha:kM st.e args=some xs) (hc:eC P f=true)
  (hv:gO st.s (xs++caps.map .one)=some (p,xs')) (hp:p) (hfn:Made P f xs' r) (hK:K r):CallA P nt fo args st K :=
 ⟨f,caps,xs,hf,ha,hc,fun H w0 S0 m0 m a w hs vs hvs=>(zS hv hp hfn hs.sto vs hvs).mono fun e w' ⟨v,he,h1,h2⟩=>⟨v,r,he,hK,h1,h2⟩⟩
theorem OpS.made {P:Program} {nt:Cf} {ds:List (Option Tmp)} {e:List (Nat × A)} {s:List (Option Ob)} {d:Option Tmp} {ty:TypeId} {pos:String} {aft:Array Edge} {g:Option (Nat × Bool)} {fo:Operand} {args:List Operand} {tys:Array TypeId} {f:FuncId} {caps:List C} {xs xs':List A} {p:Prop} {r:A} (hg:eP ds e g=some true) (hf:rdA e fo=some (.one (.fn f caps))) (ha:kM e args=some xs) (hc:eC P f=true)
  (hv:gO s (xs++caps.map .one)=some (p,xs')) (hp:p) (hfn:Made P f xs' r):OpS P nt ds ⟨d,.call { callee:=.value fo,args:=args.toArray,argTypes:=tys },ty,pos,aft,g⟩ e s r s :=
 OpS.call hg hf ha hc fun H w0 S0 m0 mm a w hs vs hvs=>zS hv hp hfn hs.sto vs hvs
end Go.Proofs.YtaeioidifpebdaaGreatDoor
end
