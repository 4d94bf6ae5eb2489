/-
 Laid together: Ty, DatC, Bridge, Made.
-/
import Derived.Test.YtaeioidifpebdaaGreatDoorG2
import Derived.Test.YtaeioidifpebdaaGreatDoorProg
import Derived.KernelRfl
import Derived.Test.YtaeioidifpebdaaGreatDoorPlain2
import Derived.Test.YtaeioidifpebdaaGreatDoorChecked
import Derived.Test.YtaeioidifpebdaaGreatDoorPhi
section
namespace Go.Proofs.YtaeioidifpebdaaGreatDoor
set_option linter.unusedVariables false
theorem lQ:tyI Tryz.prog 3=some (false,1):=by kernel_rfl
theorem MN:DR Tryz.prog 4=true:=by kernel_rfl
theorem nY:tyI Tryz.prog 9=some (false,1):=by kernel_rfl
theorem AM:BU Tryz.prog 9=true:=by kernel_rfl
theorem AO:xV Tryz.prog 9=some true:=by kernel_rfl
theorem JD:tyI Tryz.prog 22=some (false,1):=by kernel_rfl
theorem dC:mC Tryz.prog 22=some (9,1):=by kernel_rfl
theorem eK:xV Tryz.prog 22=some false:=by kernel_rfl
theorem dF:tQ Tryz.prog 22=some 16:=by kernel_rfl
theorem dG:mF Tryz.prog 9=some [.string ⟨#[]⟩]:=by kernel_rfl
theorem QY:tyI Tryz.prog 23=some (false,1):=by kernel_rfl
theorem MO:mC Tryz.prog 23=some (96,1):=by kernel_rfl
theorem MP:xV Tryz.prog 23=some false:=by kernel_rfl
theorem MQ:tQ Tryz.prog 23=some 4:=by kernel_rfl
theorem MR:mF Tryz.prog 96=some [.int .u32 0]:=by kernel_rfl
theorem EE:oW Tryz.prog 25 1=some (1,23):=by kernel_rfl
theorem pY:tyI Tryz.prog 26=some (false,1):=by kernel_rfl
theorem aX:mC Tryz.prog 26=some (28,6):=by kernel_rfl
theorem cG:xV Tryz.prog 26=some false:=by kernel_rfl
theorem bJ:tQ Tryz.prog 26=some 88:=by kernel_rfl
theorem bK:mF Tryz.prog 28=some [.int .i64 0,.int .i32 0,.bool false,.slice none 0 0,.string ⟨#[]⟩,.slice none 0 0]:=by kernel_rfl
theorem bF:tyI Tryz.prog 28=some (true,6):=by kernel_rfl
theorem fD:DT Tryz.prog 28=true:=by kernel_rfl
theorem dZ:oW Tryz.prog 28 0=some (0,3):=by kernel_rfl
theorem eA:iM Tryz.prog 28 0=some (0,1):=by kernel_rfl
theorem eB:iM Tryz.prog 28 1=some (1,1):=by kernel_rfl
theorem EF:oW Tryz.prog 28 2=some (2,25):=by kernel_rfl
theorem eC:iM Tryz.prog 28 2=some (2,2):=by kernel_rfl
theorem iV:oW Tryz.prog 28 3=some (4,9):=by kernel_rfl
theorem eD:iM Tryz.prog 28 3=some (4,1):=by kernel_rfl
theorem gN:oW Tryz.prog 28 4=some (5,26):=by kernel_rfl
theorem eE:iM Tryz.prog 28 4=some (5,1):=by kernel_rfl
theorem dD:mF Tryz.prog 28=some [.int .i64 0,.int .i32 0,.bool false,.slice none 0 0,.string ⟨#[]⟩,.slice none 0 0]:=by kernel_rfl
theorem JE:tyI Tryz.prog 29=some (false,1):=by kernel_rfl
theorem bP:mC Tryz.prog 29=some (31,11):=by kernel_rfl
theorem eL:xV Tryz.prog 29=some false:=by kernel_rfl
theorem bQ:tQ Tryz.prog 29=some 176:=by kernel_rfl
theorem bR:mF Tryz.prog 31=some [.int .i64 0,.string ⟨#[]⟩,.string ⟨#[]⟩,.slice none 0 0,.int .i64 0,.int .i32 0,.bool false,.slice none 0 0,.string ⟨#[]⟩,.slice none 0 0,.slice none 0 0]:=by kernel_rfl
theorem bC:tyI Tryz.prog 31=some (true,11):=by kernel_rfl
theorem bH:DT Tryz.prog 31=true:=by kernel_rfl
theorem tW:oW Tryz.prog 31 0=some (0,3):=by kernel_rfl
theorem aP:iM Tryz.prog 31 0=some (0,1):=by kernel_rfl
theorem EH:oW Tryz.prog 31 1=some (1,9):=by kernel_rfl
theorem aQ:iM Tryz.prog 31 1=some (1,1):=by kernel_rfl
theorem EI:oW Tryz.prog 31 2=some (2,9):=by kernel_rfl
theorem aR:iM Tryz.prog 31 2=some (2,1):=by kernel_rfl
theorem tX:oW Tryz.prog 31 3=some (3,22):=by kernel_rfl
theorem aU:iM Tryz.prog 31 3=some (3,1):=by kernel_rfl
theorem EJ:oW Tryz.prog 31 4=some (4,28):=by kernel_rfl
theorem aV:iM Tryz.prog 31 4=some (4,6):=by kernel_rfl
theorem tY:oW Tryz.prog 31 5=some (10,29):=by kernel_rfl
theorem aW:iM Tryz.prog 31 5=some (10,1):=by kernel_rfl
theorem aJ:mF Tryz.prog 31=some [.int .i64 0,.string ⟨#[]⟩,.string ⟨#[]⟩,.slice none 0 0,.int .i64 0,.int .i32 0,.bool false,.slice none 0 0,.string ⟨#[]⟩,.slice none 0 0,.slice none 0 0]:=by kernel_rfl
theorem QZ:tyI Tryz.prog 53=some (false,1):=by kernel_rfl
theorem MS:mC Tryz.prog 53=some (3,1):=by kernel_rfl
theorem MT:xV Tryz.prog 53=some false:=by kernel_rfl
theorem MU:tQ Tryz.prog 53=some 8:=by kernel_rfl
theorem MV:mF Tryz.prog 3=some [.int .i64 0]:=by kernel_rfl
theorem RA:tyI Tryz.prog 55=some (true,5):=by kernel_rfl
theorem EK:oW Tryz.prog 55 4=some (4,53):=by kernel_rfl
theorem MW:mF Tryz.prog 55=some [.slice none 0 0,.slice none 0 0,.slice none 0 0,.slice none 0 0,.slice none 0 0]:=by kernel_rfl
theorem dS:tyI Tryz.prog 62=some (false,1):=by kernel_rfl
theorem iO:RM Tryz.prog 62=true:=by kernel_rfl
theorem w3:type_of% (And.intro bC MN):=And.intro bC MN
theorem w4:type_of% (And.intro bF (And.intro aJ bC)):=And.intro bF (And.intro aJ bC)
theorem w5:type_of% (And.intro (And.intro (And.intro (And.intro bF AO) (And.intro AM dD)) (And.intro (And.intro fD eA) (And.intro eB eC))) (And.intro (And.intro (And.intro eD eE) (And.intro aX bK)) (And.intro (And.intro bJ dZ) (And.intro lQ (And.intro iV nY))))):=And.intro (And.intro (And.intro (And.intro bF AO) (And.intro AM dD)) (And.intro (And.intro fD eA) (And.intro eB eC))) (And.intro (And.intro (And.intro eD eE) (And.intro aX bK)) (And.intro (And.intro bJ dZ) (And.intro lQ (And.intro iV nY))))
theorem w6:type_of% (And.intro (And.intro bF (And.intro aX bK)) (And.intro (And.intro bJ aJ) (And.intro bC dD))):=And.intro (And.intro bF (And.intro aX bK)) (And.intro (And.intro bJ aJ) (And.intro bC dD))
theorem w7:type_of% (And.intro (And.intro (And.intro (And.intro bF aX) (And.intro bK (And.intro bJ aJ))) (And.intro (And.intro bC tY) (And.intro JE (And.intro eL bP)))) (And.intro (And.intro (And.intro bQ bR) (And.intro tW (And.intro lQ tX))) (And.intro (And.intro JD eK) (And.intro dC (And.intro dF dG))))):=And.intro (And.intro (And.intro (And.intro bF aX) (And.intro bK (And.intro bJ aJ))) (And.intro (And.intro bC tY) (And.intro JE (And.intro eL bP)))) (And.intro (And.intro (And.intro bQ bR) (And.intro tW (And.intro lQ tX))) (And.intro (And.intro JD eK) (And.intro dC (And.intro dF dG))))
theorem w8:type_of% (And.intro (And.intro bF (And.intro AO AM)) (And.intro aX (And.intro bK bJ))):=And.intro (And.intro bF (And.intro AO AM)) (And.intro aX (And.intro bK bJ))
theorem w9:type_of% (And.intro (And.intro (And.intro bF (And.intro aJ bC)) (And.intro (And.intro bP bR) (And.intro bQ MW))) (And.intro (And.intro (And.intro RA EK) (And.intro QZ MT)) (And.intro (And.intro MS MU) (And.intro MV lQ)))):=And.intro (And.intro (And.intro bF (And.intro aJ bC)) (And.intro (And.intro bP bR) (And.intro bQ MW))) (And.intro (And.intro (And.intro RA EK) (And.intro QZ MT)) (And.intro (And.intro MS MU) (And.intro MV lQ)))
theorem w11:type_of% (And.intro (And.intro (And.intro dD (And.intro fD eA)) (And.intro eB (And.intro eC eD))) (And.intro (And.intro eE (And.intro bF aX)) (And.intro (And.intro bK bJ) (And.intro aJ bC)))):=And.intro (And.intro (And.intro dD (And.intro fD eA)) (And.intro eB (And.intro eC eD))) (And.intro (And.intro eE (And.intro bF aX)) (And.intro (And.intro bK bJ) (And.intro aJ bC)))
theorem w14:type_of% (And.intro (And.intro (And.intro tW lQ) (And.intro EH (And.intro nY EI))) (And.intro (And.intro tX (And.intro JD EJ)) (And.intro bF (And.intro tY JE)))):=And.intro (And.intro (And.intro tW lQ) (And.intro EH (And.intro nY EI))) (And.intro (And.intro tX (And.intro JD EJ)) (And.intro bF (And.intro tY JE)))
theorem w17:type_of% (And.intro (And.intro (And.intro aJ (And.intro bF bH)) (And.intro aP (And.intro aQ aR))) (And.intro (And.intro aU (And.intro aV aW)) (And.intro bC (And.intro iO dS)))):=And.intro (And.intro (And.intro aJ (And.intro bF bH)) (And.intro aP (And.intro aQ aR))) (And.intro (And.intro aU (And.intro aV aW)) (And.intro bC (And.intro iO dS)))
theorem w21:type_of% (And.intro (And.intro (And.intro dD fD) (And.intro eA eB)) (And.intro (And.intro eC eD) (And.intro eE bF))):=And.intro (And.intro (And.intro dD fD) (And.intro eA eB)) (And.intro (And.intro eC eD) (And.intro eE bF))
theorem w23:type_of% (And.intro dD bF):=And.intro dD bF
theorem w35:type_of% (And.intro (And.intro eK dC) (And.intro dF (And.intro dG nY))):=And.intro (And.intro eK dC) (And.intro dF (And.intro dG nY))
theorem w37:type_of% (And.intro (And.intro eL (And.intro bP bQ)) (And.intro bR (And.intro bC aJ))):=And.intro (And.intro eL (And.intro bP bQ)) (And.intro bR (And.intro bC aJ))
theorem w38:type_of% (And.intro (And.intro (And.intro (And.intro iV nY) (And.intro AO AM)) (And.intro (And.intro EF EE) (And.intro QY (And.intro MP MO)))) (And.intro (And.intro (And.intro MQ MR) (And.intro gN pY)) (And.intro (And.intro cG aX) (And.intro bJ (And.intro bK bF))))):=And.intro (And.intro (And.intro (And.intro iV nY) (And.intro AO AM)) (And.intro (And.intro EF EE) (And.intro QY (And.intro MP MO)))) (And.intro (And.intro (And.intro MQ MR) (And.intro gN pY)) (And.intro (And.intro cG aX) (And.intro bJ (And.intro bK bF))))
theorem w40:type_of% (And.intro (And.intro (And.intro (And.intro aJ bF) (And.intro bC bP)) (And.intro (And.intro bR bQ) (And.intro bH (And.intro aP aQ)))) (And.intro (And.intro (And.intro aR aU) (And.intro aV (And.intro aW cG))) (And.intro (And.intro aX bJ) (And.intro bK (And.intro dD eL))))):=And.intro (And.intro (And.intro (And.intro aJ bF) (And.intro bC bP)) (And.intro (And.intro bR bQ) (And.intro bH (And.intro aP aQ)))) (And.intro (And.intro (And.intro aR aU) (And.intro aV (And.intro aW cG))) (And.intro (And.intro aX bJ) (And.intro bK (And.intro dD eL))))
theorem w44:type_of% (And.intro (And.intro (And.intro dD (And.intro fD eA)) (And.intro eB (And.intro eC eD))) (And.intro (And.intro eE (And.intro bF cG)) (And.intro aX (And.intro bJ bK)))):=And.intro (And.intro (And.intro dD (And.intro fD eA)) (And.intro eB (And.intro eC eD))) (And.intro (And.intro eE (And.intro bF cG)) (And.intro aX (And.intro bJ bK)))
theorem w55:type_of% (And.intro (And.intro dZ (And.intro lQ gN)) (And.intro pY (And.intro aX bF))):=And.intro (And.intro dZ (And.intro lQ gN)) (And.intro pY (And.intro aX bF))
theorem w56:type_of% (And.intro (And.intro (And.intro (And.intro aJ cG) (And.intro aX bJ)) (And.intro (And.intro bK bH) (And.intro aP (And.intro aQ aR)))) (And.intro (And.intro (And.intro aU aV) (And.intro aW (And.intro dS bC))) (And.intro (And.intro dZ lQ) (And.intro gN (And.intro pY bF))))):=And.intro (And.intro (And.intro (And.intro aJ cG) (And.intro aX bJ)) (And.intro (And.intro bK bH) (And.intro aP (And.intro aQ aR)))) (And.intro (And.intro (And.intro aU aV) (And.intro aW (And.intro dS bC))) (And.intro (And.intro dZ lQ) (And.intro gN (And.intro pY bF))))
theorem w57:type_of% (And.intro (And.intro (And.intro (And.intro aJ dZ) (And.intro lQ bH)) (And.intro (And.intro aP aQ) (And.intro aR aU))) (And.intro (And.intro (And.intro aV aW) (And.intro dS bC)) (And.intro (And.intro bF iO) (And.intro aX (And.intro iV nY))))):=And.intro (And.intro (And.intro (And.intro aJ dZ) (And.intro lQ bH)) (And.intro (And.intro aP aQ) (And.intro aR aU))) (And.intro (And.intro (And.intro aV aW) (And.intro dS bC)) (And.intro (And.intro bF iO) (And.intro aX (And.intro iV nY))))
theorem w58:type_of% (And.intro (And.intro (And.intro aJ dD) (And.intro fD eA)) (And.intro (And.intro eB eC) (And.intro eD (And.intro eE bC)))):=And.intro (And.intro (And.intro aJ dD) (And.intro fD eA)) (And.intro (And.intro eB eC) (And.intro eD (And.intro eE bC)))
theorem w59:type_of% (And.intro iO dS):=And.intro iO dS
theorem w60:type_of% (And.intro (And.intro (And.intro aJ (And.intro eL bP)) (And.intro bQ (And.intro bR bC))) (And.intro (And.intro bH (And.intro aP aQ)) (And.intro (And.intro aR aU) (And.intro aV aW)))):=And.intro (And.intro (And.intro aJ (And.intro eL bP)) (And.intro bQ (And.intro bR bC))) (And.intro (And.intro bH (And.intro aP aQ)) (And.intro (And.intro aR aU) (And.intro aV aW)))
theorem w82:type_of% (And.intro (And.intro dZ lQ) (And.intro iV nY)):=And.intro (And.intro dZ lQ) (And.intro iV nY)
theorem w85:type_of% (And.intro (And.intro dZ lQ) (And.intro iV (And.intro nY dS))):=And.intro (And.intro dZ lQ) (And.intro iV (And.intro nY dS))
theorem w86:type_of% (And.intro aJ (And.intro bF bC)):=And.intro aJ (And.intro bF bC)
theorem w87:type_of% (And.intro (And.intro (And.intro aJ bH) (And.intro aP aQ)) (And.intro (And.intro aR aU) (And.intro aV (And.intro aW bC)))):=And.intro (And.intro (And.intro aJ bH) (And.intro aP aQ)) (And.intro (And.intro aR aU) (And.intro aV (And.intro aW bC)))
theorem w88:type_of% (And.intro bF dS):=And.intro bF dS
theorem w89:type_of% (And.intro (And.intro (And.intro (And.intro aJ cG) (And.intro aX bJ)) (And.intro (And.intro bK bF) (And.intro bC (And.intro bP bR)))) (And.intro (And.intro (And.intro bQ bH) (And.intro aP aQ)) (And.intro (And.intro aR aU) (And.intro aV (And.intro aW eL))))):=And.intro (And.intro (And.intro (And.intro aJ cG) (And.intro aX bJ)) (And.intro (And.intro bK bF) (And.intro bC (And.intro bP bR)))) (And.intro (And.intro (And.intro bQ bH) (And.intro aP aQ)) (And.intro (And.intro aR aU) (And.intro aV (And.intro aW eL))))
theorem w90:type_of% (And.intro (And.intro (And.intro cG (And.intro aX bJ)) (And.intro bK (And.intro bF dD))) (And.intro (And.intro aJ (And.intro bC bP)) (And.intro bR (And.intro bQ eL)))):=And.intro (And.intro (And.intro cG (And.intro aX bJ)) (And.intro bK (And.intro bF dD))) (And.intro (And.intro aJ (And.intro bC bP)) (And.intro bR (And.intro bQ eL)))
theorem w91:type_of% (And.intro (And.intro (And.intro aJ (And.intro eL bP)) (And.intro (And.intro bQ bR) (And.intro bH aP))) (And.intro (And.intro aQ (And.intro aR aU)) (And.intro (And.intro aV aW) (And.intro dS bC)))):=And.intro (And.intro (And.intro aJ (And.intro eL bP)) (And.intro (And.intro bQ bR) (And.intro bH aP))) (And.intro (And.intro aQ (And.intro aR aU)) (And.intro (And.intro aV aW) (And.intro dS bC)))
theorem w92:type_of% (And.intro (And.intro (And.intro aJ bF) (And.intro bH (And.intro aP aQ))) (And.intro (And.intro aR aU) (And.intro aV (And.intro aW bC)))):=And.intro (And.intro (And.intro aJ bF) (And.intro bH (And.intro aP aQ))) (And.intro (And.intro aR aU) (And.intro aV (And.intro aW bC)))
theorem w98:type_of% (And.intro (And.intro dC dG) (And.intro dF eK)):=And.intro (And.intro dC dG) (And.intro dF eK)
theorem lR:type_of% (And.intro (And.intro (And.intro dZ lQ) (And.intro gN (And.intro pY aX))) (And.intro (And.intro bF dC) (And.intro dG (And.intro dF eK)))):=And.intro (And.intro (And.intro dZ lQ) (And.intro gN (And.intro pY aX))) (And.intro (And.intro bF dC) (And.intro dG (And.intro dF eK)))
theorem eO:type_of% (And.intro (And.intro (And.intro (And.intro aJ (And.intro cG aX)) (And.intro bJ (And.intro bK bF))) (And.intro (And.intro dD (And.intro bC bP)) (And.intro bR (And.intro bQ eL)))) (And.intro (And.intro (And.intro dS (And.intro dC dG)) (And.intro dF (And.intro eK bH))) (And.intro (And.intro aP (And.intro aQ aR)) (And.intro aU (And.intro aV aW))))):=And.intro (And.intro (And.intro (And.intro aJ (And.intro cG aX)) (And.intro bJ (And.intro bK bF))) (And.intro (And.intro dD (And.intro bC bP)) (And.intro bR (And.intro bQ eL)))) (And.intro (And.intro (And.intro dS (And.intro dC dG)) (And.intro dF (And.intro eK bH))) (And.intro (And.intro aP (And.intro aQ aR)) (And.intro aU (And.intro aV aW))))
theorem zW:type_of% (And.intro (And.intro (And.intro (And.intro aJ eK) (And.intro dC dF)) (And.intro (And.intro dG bH) (And.intro aP aQ))) (And.intro (And.intro (And.intro aR aU) (And.intro aV aW)) (And.intro (And.intro dS bC) (And.intro bP (And.intro bR bQ))))):=And.intro (And.intro (And.intro (And.intro aJ eK) (And.intro dC dF)) (And.intro (And.intro dG bH) (And.intro aP aQ))) (And.intro (And.intro (And.intro aR aU) (And.intro aV aW)) (And.intro (And.intro dS bC) (And.intro bP (And.intro bR bQ))))
theorem bW:type_of% (And.intro (And.intro (And.intro aJ (And.intro bF dD)) (And.intro bC (And.intro dZ lQ))) (And.intro (And.intro gN (And.intro pY bP)) (And.intro bR (And.intro bQ aX)))):=And.intro (And.intro (And.intro aJ (And.intro bF dD)) (And.intro bC (And.intro dZ lQ))) (And.intro (And.intro gN (And.intro pY bP)) (And.intro bR (And.intro bQ aX)))
theorem TA:type_of% (And.intro (And.intro (And.intro aJ (And.intro bC bP)) (And.intro bR (And.intro bQ bH))) (And.intro (And.intro aP (And.intro aQ aR)) (And.intro aU (And.intro aV aW)))):=And.intro (And.intro (And.intro aJ (And.intro bC bP)) (And.intro bR (And.intro bQ bH))) (And.intro (And.intro aP (And.intro aQ aR)) (And.intro aU (And.intro aV aW)))
theorem GM:type_of% (And.intro (And.intro (And.intro aJ (And.intro cG aX)) (And.intro (And.intro bJ bK) (And.intro bH aP))) (And.intro (And.intro aQ (And.intro aR aU)) (And.intro (And.intro aV aW) (And.intro dS bC)))):=And.intro (And.intro (And.intro aJ (And.intro cG aX)) (And.intro (And.intro bJ bK) (And.intro bH aP))) (And.intro (And.intro aQ (And.intro aR aU)) (And.intro (And.intro aV aW) (And.intro dS bC)))
theorem fW:type_of% (And.intro (And.intro (And.intro (And.intro aJ cG) (And.intro aX bJ)) (And.intro (And.intro bK bC) (And.intro bF iO))) (And.intro (And.intro (And.intro bH aP) (And.intro aQ aR)) (And.intro (And.intro aU aV) (And.intro aW dS)))):=And.intro (And.intro (And.intro (And.intro aJ cG) (And.intro aX bJ)) (And.intro (And.intro bK bC) (And.intro bF iO))) (And.intro (And.intro (And.intro bH aP) (And.intro aQ aR)) (And.intro (And.intro aU aV) (And.intro aW dS)))
theorem RN:type_of% (And.intro (And.intro (And.intro aJ dC) (And.intro dG dF)) (And.intro (And.intro bC bF) (And.intro aX (And.intro bK bJ)))):=And.intro (And.intro (And.intro aJ dC) (And.intro dG dF)) (And.intro (And.intro bC bF) (And.intro aX (And.intro bK bJ)))
theorem kD:type_of% (And.intro (And.intro (And.intro aJ bC) (And.intro bH (And.intro aP aQ))) (And.intro (And.intro aR aU) (And.intro aV (And.intro aW dS)))):=And.intro (And.intro (And.intro aJ bC) (And.intro bH (And.intro aP aQ))) (And.intro (And.intro aR aU) (And.intro aV (And.intro aW dS)))
theorem RO:type_of% (And.intro (And.intro (And.intro dD bF) (And.intro fD (And.intro eA eB))) (And.intro (And.intro eC (And.intro eD eE)) (And.intro gN (And.intro pY aX)))):=And.intro (And.intro (And.intro dD bF) (And.intro fD (And.intro eA eB))) (And.intro (And.intro eC (And.intro eD eE)) (And.intro gN (And.intro pY aX)))
theorem GN:type_of% (And.intro (And.intro eK dC) (And.intro dF (And.intro dG nY))):=And.intro (And.intro eK dC) (And.intro dF (And.intro dG nY))
theorem zX:type_of% (And.intro (And.intro eK (And.intro dC dF)) (And.intro dG (And.intro nY dS))):=And.intro (And.intro eK (And.intro dC dF)) (And.intro dG (And.intro nY dS))
theorem rV:type_of% (And.intro (And.intro cG (And.intro aX bJ)) (And.intro bK (And.intro bF dD))):=And.intro (And.intro cG (And.intro aX bJ)) (And.intro bK (And.intro bF dD))
theorem gX:type_of% (And.intro (And.intro (And.intro (And.intro aJ eK) (And.intro dC dF)) (And.intro (And.intro dG nY) (And.intro bP (And.intro bC bR)))) (And.intro (And.intro (And.intro bQ bH) (And.intro aP aQ)) (And.intro (And.intro aR aU) (And.intro aV (And.intro aW eL))))):=And.intro (And.intro (And.intro (And.intro aJ eK) (And.intro dC dF)) (And.intro (And.intro dG nY) (And.intro bP (And.intro bC bR)))) (And.intro (And.intro (And.intro bQ bH) (And.intro aP aQ)) (And.intro (And.intro aR aU) (And.intro aV (And.intro aW eL))))
theorem wY:type_of% (And.intro (And.intro (And.intro dD (And.intro bF cG)) (And.intro aX (And.intro bJ bK))) (And.intro (And.intro fD (And.intro eA eB)) (And.intro eC (And.intro eD eE)))):=And.intro (And.intro (And.intro dD (And.intro bF cG)) (And.intro aX (And.intro bJ bK))) (And.intro (And.intro fD (And.intro eA eB)) (And.intro eC (And.intro eD eE)))
theorem tZ:type_of% (And.intro (And.intro (And.intro aJ bC) (And.intro dD fD)) (And.intro (And.intro eA eB) (And.intro eC (And.intro eD eE)))):=And.intro (And.intro (And.intro aJ bC) (And.intro dD fD)) (And.intro (And.intro eA eB) (And.intro eC (And.intro eD eE)))
theorem TB:type_of% (And.intro (And.intro (And.intro aJ bH) (And.intro aP aQ)) (And.intro (And.intro aR aU) (And.intro aV (And.intro aW bC)))):=And.intro (And.intro (And.intro aJ bH) (And.intro aP aQ)) (And.intro (And.intro aR aU) (And.intro aV (And.intro aW bC)))
theorem sQ:type_of% (And.intro (And.intro aJ bC) (And.intro bP (And.intro bR bQ))):=And.intro (And.intro aJ bC) (And.intro bP (And.intro bR bQ))
theorem jM:type_of% (And.intro (And.intro (And.intro aJ cG) (And.intro aX (And.intro bJ bK))) (And.intro (And.intro bC bF) (And.intro bP (And.intro bR bQ)))):=And.intro (And.intro (And.intro aJ cG) (And.intro aX (And.intro bJ bK))) (And.intro (And.intro bC bF) (And.intro bP (And.intro bR bQ)))
theorem zY:type_of% (And.intro (And.intro aJ (And.intro bC bP)) (And.intro bR (And.intro bQ eL))):=And.intro (And.intro aJ (And.intro bC bP)) (And.intro bR (And.intro bQ eL))
theorem qC:type_of% (And.intro (And.intro (And.intro (And.intro aJ cG) (And.intro aX bJ)) (And.intro (And.intro bK dZ) (And.intro lQ bC))) (And.intro (And.intro (And.intro bH aP) (And.intro aQ aR)) (And.intro (And.intro aU aV) (And.intro aW (And.intro dS bF))))):=And.intro (And.intro (And.intro (And.intro aJ cG) (And.intro aX bJ)) (And.intro (And.intro bK dZ) (And.intro lQ bC))) (And.intro (And.intro (And.intro bH aP) (And.intro aQ aR)) (And.intro (And.intro aU aV) (And.intro aW (And.intro dS bF))))
theorem hO:type_of% (And.intro (And.intro (And.intro (And.intro aJ cG) (And.intro aX bJ)) (And.intro (And.intro bK bH) (And.intro aP (And.intro aQ aR)))) (And.intro (And.intro (And.intro aU aV) (And.intro aW (And.intro dS bC))) (And.intro (And.intro bF eK) (And.intro dC (And.intro dF dG))))):=And.intro (And.intro (And.intro (And.intro aJ cG) (And.intro aX bJ)) (And.intro (And.intro bK bH) (And.intro aP (And.intro aQ aR)))) (And.intro (And.intro (And.intro aU aV) (And.intro aW (And.intro dS bC))) (And.intro (And.intro bF eK) (And.intro dC (And.intro dF dG))))
theorem kE:type_of% (And.intro (And.intro (And.intro (And.intro aJ (And.intro cG aX)) (And.intro bJ (And.intro bK bH))) (And.intro (And.intro aP (And.intro aQ aR)) (And.intro aU (And.intro aV aW)))) (And.intro (And.intro (And.intro dS (And.intro bC bF)) (And.intro iO (And.intro eL bP))) (And.intro (And.intro bQ (And.intro bR eK)) (And.intro dC (And.intro dF dG))))):=And.intro (And.intro (And.intro (And.intro aJ (And.intro cG aX)) (And.intro bJ (And.intro bK bH))) (And.intro (And.intro aP (And.intro aQ aR)) (And.intro aU (And.intro aV aW)))) (And.intro (And.intro (And.intro dS (And.intro bC bF)) (And.intro iO (And.intro eL bP))) (And.intro (And.intro bQ (And.intro bR eK)) (And.intro dC (And.intro dF dG))))
theorem bO:type_of% (And.intro (And.intro (And.intro (And.intro aJ cG) (And.intro aX bJ)) (And.intro (And.intro bK bC) (And.intro bF (And.intro iO bH)))) (And.intro (And.intro (And.intro aP aQ) (And.intro aR (And.intro aU aV))) (And.intro (And.intro aW dS) (And.intro bP (And.intro bR bQ))))):=And.intro (And.intro (And.intro (And.intro aJ cG) (And.intro aX bJ)) (And.intro (And.intro bK bC) (And.intro bF (And.intro iO bH)))) (And.intro (And.intro (And.intro aP aQ) (And.intro aR (And.intro aU aV))) (And.intro (And.intro aW dS) (And.intro bP (And.intro bR bQ))))
theorem aI:type_of% (And.intro (And.intro (And.intro (And.intro aJ (And.intro cG aX)) (And.intro bJ (And.intro bK bH))) (And.intro (And.intro aP (And.intro aQ aR)) (And.intro aU (And.intro aV aW)))) (And.intro (And.intro (And.intro dS (And.intro bC bF)) (And.intro dD (And.intro iO dC))) (And.intro (And.intro dG (And.intro dF eK)) (And.intro (And.intro bP bR) (And.intro bQ eL))))):=And.intro (And.intro (And.intro (And.intro aJ (And.intro cG aX)) (And.intro bJ (And.intro bK bH))) (And.intro (And.intro aP (And.intro aQ aR)) (And.intro aU (And.intro aV aW)))) (And.intro (And.intro (And.intro dS (And.intro bC bF)) (And.intro dD (And.intro iO dC))) (And.intro (And.intro dG (And.intro dF eK)) (And.intro (And.intro bP bR) (And.intro bQ eL))))
theorem fK:type_of% (And.intro (And.intro aJ (And.intro cG aX)) (And.intro (And.intro bJ bK) (And.intro bC bF))):=And.intro (And.intro aJ (And.intro cG aX)) (And.intro (And.intro bJ bK) (And.intro bC bF))
theorem RP:type_of% (And.intro (And.intro (And.intro aJ dD) (And.intro fD eA)) (And.intro (And.intro eB eC) (And.intro eD (And.intro eE bC)))):=And.intro (And.intro (And.intro aJ dD) (And.intro fD eA)) (And.intro (And.intro eB eC) (And.intro eD (And.intro eE bC)))
theorem fX:type_of% (And.intro (And.intro (And.intro (And.intro aJ aX) (And.intro bF (And.intro cG bJ))) (And.intro (And.intro bK (And.intro bH aP)) (And.intro aQ (And.intro aR aU)))) (And.intro (And.intro (And.intro aV aW) (And.intro dS (And.intro bC dC))) (And.intro (And.intro dG (And.intro dF bP)) (And.intro bR (And.intro bQ eL))))):=And.intro (And.intro (And.intro (And.intro aJ aX) (And.intro bF (And.intro cG bJ))) (And.intro (And.intro bK (And.intro bH aP)) (And.intro aQ (And.intro aR aU)))) (And.intro (And.intro (And.intro aV aW) (And.intro dS (And.intro bC dC))) (And.intro (And.intro dG (And.intro dF bP)) (And.intro bR (And.intro bQ eL))))
theorem kF:type_of% (And.intro (And.intro (And.intro bF (And.intro cG aX)) (And.intro bJ (And.intro bK dD))) (And.intro (And.intro iO (And.intro dS dC)) (And.intro dG (And.intro dF eK)))):=And.intro (And.intro (And.intro bF (And.intro cG aX)) (And.intro bJ (And.intro bK dD))) (And.intro (And.intro iO (And.intro dS dC)) (And.intro dG (And.intro dF eK)))
end Go.Proofs.YtaeioidifpebdaaGreatDoor
end
section
namespace Go.Proofs.YtaeioidifpebdaaGreatDoor
open Go Go.RowKit
set_option linter.unusedSimpArgs false
set_option linter.unusedVariables false
def D.cc:D→List C
 | mk k c neg mag t l=>[.v (.int .i64 k),.v (.int .i32 c),.v (.bool neg),.sl 1 (mag.map fun n=>[.v (.int .u32 n)]),.v (.string t),.sl 6 (l.map D.cc)]
theorem D.cc_eq (d:D):d.cc=[.v (.int .i64 d.k),.v (.int .i32 d.c),.v (.bool d.neg),.sl 1 (d.mag.map fun n=>[.v (.int .u32 n)]),.v (.string d.t),.sl 6 (d.l.map D.cc)]:=by
 cases d;rw [D.cc];rfl
theorem zZ {l:List D} {k:Nat} (h:k<l.length):(l.map D.cc)[k]?=some (l[k]).cc:=by simp [h]
theorem Rd.sl_cc {r:World} {α:Type} {f:α→V} {g:α→List C} {wd:Nat} {l:List α} {u:Value} (hfg:∀x∈l,∀(cs:List Value),Rd r (f x) cs→Ccs ⟨r,[]⟩ (g x) cs) (hw:∀x,(g x).length=wd) (h:Rd r (.sl (l.map f)) [u]):Cc ⟨r,[]⟩ (.sl wd (l.map g)) u:=by
 simp only [Rd] at h
 obtain⟨v,e,h⟩:=h
 cases e
 simp only [Cc,List.length_map]
 refine⟨fun e he=>by obtain⟨x,_,rfl⟩:=List.mem_map.1 he;exact hw x,?_⟩
 rcases h with ⟨h0,h1⟩|⟨b,o,cap,e,l1,l2,hr⟩
 ·exact .inl ⟨by simpa using h0,h1⟩
 ·rw [List.length_map] at e l1
  refine .inr ⟨b,o,cap,e,l1,l2,?_⟩
  clear e l1 l2
  clear hw
  induction l generalizing o with
  | nil=>simp [Crow]
  | cons x l ih =>
   simp only [List.map_cons,RdRow] at hr
   obtain⟨cs,h1,h2,h3⟩:=hr
   simp only [List.map_cons,Crow]
   exact⟨cs,h1,hfg x (by simp) cs h2,ih (fun y hy=>hfg y (by simp [hy])) _ h3⟩
theorem D.cc_len (d:D):d.cc.length=6:=by rw [D.cc_eq];rfl
theorem D.cc_of {r:World} (n:Nat):∀(d:D) (cs:List Value),d.ht≤n→Rd r d.v cs→Ccs ⟨r,[]⟩ d.cc cs:=by
 induction n with
 | zero=>intro d _ h;exact absurd h (by cases d;rw [D.ht];omega)
 | succ n ih =>
  intro d cs hh h
  have hd:∀x∈d.l,x.ht≤n:=fun x hx=>by
   obtain⟨i,hi,rfl⟩:=List.mem_iff_getElem.1 hx
   have:=D.ht_lt hi;omega
  obtain⟨am,cm,al,cl,e,hm,hl,-⟩:=IsD.open ⟨cs,rfl,h⟩
  have e':cs=[.int .i64 d.k,.int .i32 d.c,.bool d.neg,.slice am d.mag.length cm,.string d.t,.slice al d.l.length cl]:=by
   simpa using congrArg Array.toList (Value.agg.inj e)
  subst e'
  rw [D.cc_eq]
  have g1:Cc ⟨r,[]⟩ (.sl 1 (d.mag.map fun n=>[.v (.int .u32 n)])) (.slice am d.mag.length cm):=Rd.sl_cc (fun x _ cs hx=>by simp only [Rd] at hx;subst hx;simp [Ccs,Cc,Value.oneCell']) (fun _=>rfl) hm
  have g2:Cc ⟨r,[]⟩ (.sl 6 (d.l.map D.cc)) (.slice al d.l.length cl):=Rd.sl_cc (fun x hx cs hr=>ih x cs (hd x hx) hr) D.cc_len hl
  simp only [Ccs]
  exact⟨_,_,rfl,by simp [Cc,Value.oneCell'],_,_,rfl,by simp [Cc,Value.oneCell'],_,_,rfl,by simp [Cc,Value.oneCell'],_,_,rfl,g1,_,_,rfl,by simp [Cc,Value.oneCell'],_,_,rfl,g2,rfl⟩
theorem IsD.ca {r:World} {d:D} {v:Value} (h:IsD r d v):Ca ⟨r,[]⟩ (.agg d.cc) v:=by
 obtain⟨cs,rfl,h⟩:=h
 simp only [Ca]
 exact⟨cs,rfl,D.cc_of d.ht d cs (Nat.le_refl _) h⟩
theorem IsDs.ca {r:World} {l:List D} {v:Value} (h:IsDs r l v):Ca ⟨r,[]⟩ (.one (.sl 6 (l.map D.cc))) v:=by
 simp only [Ca]
 exact Rd.sl_cc (fun x _ cs hr=>D.cc_of x.ht x cs (Nat.le_refl _) hr) D.cc_len h
theorem Cc.sl_rd {r:World} {α:Type} {f:α→V} {g:α→List C} {wd:Nat} {l:List α} {u:Value} (hfg:∀x∈l,∀(cs:List Value),Ccs ⟨r,[]⟩ (g x) cs→Rd r (f x) cs) (h:Cc ⟨r,[]⟩ (.sl wd (l.map g)) u):Rd r (.sl (l.map f)) [u]:=by
 simp only [Cc,List.length_map] at h
 simp only [Rd,List.length_map]
 refine⟨u,rfl,?_⟩
 rcases h with ⟨-,⟨h0,h1⟩|⟨b,o,cap,e,l1,l2,hr⟩⟩
 ·exact .inl ⟨by simpa using h0,h1⟩
 ·refine .inr ⟨b,o,cap,e,l1,l2,?_⟩
  clear e l1 l2
  induction l generalizing o with
  | nil=>simp [RdRow]
  | cons x l ih =>
   simp only [List.map_cons,Crow] at hr
   obtain⟨cs,h1,h2,h3⟩:=hr
   simp only [List.map_cons,RdRow]
   exact⟨cs,h1,hfg x (by simp) cs h2,ih (fun y hy=>hfg y (by simp [hy])) _ h3⟩
theorem D.of_cc {r:World} (n:Nat):∀(d:D) (cs:List Value),d.ht≤n→Ccs ⟨r,[]⟩ d.cc cs→Rd r d.v cs:=by
 induction n with
 | zero=>intro d _ h;exact absurd h (by cases d;rw [D.ht];omega)
 | succ n ih =>
  intro d cs hh h
  have hd:∀x∈d.l,x.ht≤n:=fun x hx=>by
   obtain⟨i,hi,rfl⟩:=List.mem_iff_getElem.1 hx
   have:=D.ht_lt hi;omega
  rw [D.cc_eq] at h
  simp only [Ccs] at h
  obtain⟨_,_,rfl,h0,_,_,rfl,h1,_,_,rfl,h2,vm,_,rfl,h3,_,_,rfl,h4,vl,_,rfl,h5,rfl⟩:=h
  simp only [Cc] at h0 h1 h2 h4
  rw [h0.1,h1.1,h2.1,h4.1]
  have g1:IsMag r d.mag vm:=Cc.sl_rd (f:=fun n=>V.val (.int .u32 n)) (fun x _ cs hx=>by simp only [Ccs,Cc] at hx;obtain⟨_,_,rfl,hx,rfl⟩:=hx;simp only [Rd];rw [hx.1]) h3
  have g2:IsDs r d.l vl:=Cc.sl_rd (fun x hx cs hr=>ih x cs (hd x hx) hr) h5
  have:=IsD.mk' (d:=d) g1 g2
  obtain⟨cs',e,hr⟩:=this
  have:cs'=_:=(by simpa using (congrArg Array.toList (Value.agg.inj e)).symm:cs'=[_,_,_,_,_,_])
  subst this
  exact hr
theorem Ca.isD {r:World} {d:D} {v:Value} (h:Ca ⟨r,[]⟩ (.agg d.cc) v):IsD r d v:=by
 simp only [Ca] at h
 obtain⟨cs,rfl,h⟩:=h
 exact⟨cs,rfl,D.of_cc d.ht d cs (Nat.le_refl _) h⟩
theorem Ca.isDs {r:World} {l:List D} {v:Value} (h:Ca ⟨r,[]⟩ (.one (.sl 6 (l.map D.cc))) v):IsDs r l v:=by
 simp only [Ca] at h
 exact Cc.sl_rd (fun x _ cs hr=>D.of_cc x.ht x cs (Nat.le_refl _) hr) h
theorem TQ (w:World):Keeps w (vis (fun _=>false) [] [] w):=fun p v h=>by
 unfold vis
 rw [eP,if_pos (by simp [cC])];exact h
theorem Fr.ext {w w':World} {S0:Nat→Bool} (h:Fr S0 w w') (hs:∀b,S0 b=false):Ext w w':=⟨h.os,h.tape,h.output,h.size,fun b hb=>h.block b hb (hs b)⟩
theorem Ext.fr {w w':World} (S0:Nat→Bool) (h:Ext w w'):Fr S0 w w':=⟨h.os,h.tape,h.output,h.size,fun b hb _=>h.block b hb⟩
theorem Pure.calls {P:Program} {f:FuncId} {xs:List A} {u:Value} (h:Pure P f xs (.one (.v u))) {w:World} {vs:List Value} (hg:GL w) (hb:∀b,GBw w b→b<w.heap.size) (hv:Cas ⟨w,[]⟩ xs vs):Calls P f vs.toArray w fun e w'=>e=.returned u∧Ext w w':=by
 refine (h (fun _=>false) [] w vs ⟨rfl,by simp,by simp,by simp,fun b hb=>(by cases hb),fun b h=>⟨rfl,rfl,hb b h⟩,hg⟩ (Cas.keep (X:=⟨w,[]⟩) (X':=⟨vis (fun _=>false) [] [] w,[]⟩) (TQ w) (Up.refl _) hv)).mono fun e w' ⟨v,m',r,s',he,⟨h1,h2⟩,_,hc,hf,_⟩=>?_
 subst h1 h2
 simp only [Ca,Cc] at hc
 rw [hc.1] at he
 exact⟨he,hf.ext fun _=>rfl⟩
theorem nZ {P:Program} {f:FuncId} {xs:List A} {r:A} (h:∀(w:World) (vs:List Value),GL w→Cas ⟨w,[]⟩ xs vs→Calls P f vs.toArray w fun e w'=>∃v,e=.returned v∧Ext w w'∧Ca ⟨cK w' w.heap.size,[]⟩ r v):Pure P f xs r:=fun H m w vs hs hc=>by
 have hm:m=[]:=by have:=hs.len;simp at this;exact List.eq_nil_of_length_eq_zero (by omega)
 subst hm
 refine (h w vs hs.gl (Cas.keep (X:=⟨vis H [] [] w,[]⟩) (X':=⟨w,[]⟩) (nV _ _ _ _) (Up.refl _) hc)).mono fun e w' ⟨v,he,hx,hr⟩=>⟨v,[],r,[],he,⟨rfl,rfl⟩,⟨rfl,by simp,by simp,by simp,fun b hb=>Nat.lt_of_lt_of_le (hs.hlt b hb) hx.le,fun b hb'=>have hb:GBw w b:=hb'.back fun c hc=>hx.block c (hs.gb c (.inl hc)).2.2;⟨(hs.gb b hb).1,rfl,Nat.lt_of_lt_of_le (hs.gb b hb).2.2 hx.le⟩,GL.stays (fun b hb=>hx.block b (hs.gb b hb).2.2) hs.gl⟩,?_,hx.fr _,Up.refl _,by simp⟩
 refine Ca.keep (X:=⟨cK w' w.heap.size,[]⟩) (X':=⟨vis H [] [] w',[]⟩) (Keeps.only fun b hp hb=>?_) (Up.refl _) hr
 simp only [decide_eq_true_eq] at hp
 refine⟨?_,rfl⟩
 cases hH:H b with
 | false=>simp [cC]
 | true=>have:=hs.hlt b hH;omega
theorem KH {P:Program} {f:FuncId} {xs:List A} {r:A} (h:∀(w:World) (vs:List Value),GL w→Cas ⟨w,[]⟩ xs vs→Calls P f vs.toArray w fun e w'=>∃v,e=.returned v∧Ext w w'∧Ca ⟨only w' (fun b=>decide (w.heap.size≤b)||GB b),[]⟩ r v):Pure P f xs r:=fun H m w vs hs hc=>by
 have hm:m=[]:=by have:=hs.len;simp at this;exact List.eq_nil_of_length_eq_zero (by omega)
 subst hm
 refine (h w vs hs.gl (Cas.keep (X:=⟨vis H [] [] w,[]⟩) (X':=⟨w,[]⟩) (nV _ _ _ _) (Up.refl _) hc)).mono fun e w' ⟨v,he,hx,hr⟩=>?_
 have hgb:∀b,GBw w' b→H b=false∧b<w.heap.size:=fun b hb' =>
  have hb:GBw w b:=hb'.back fun c hc=>hx.block c (hs.gb c (.inl hc)).2.2
  ⟨(hs.gb b hb).1,(hs.gb b hb).2.2⟩
 refine⟨v,[],r,[],he,⟨rfl,rfl⟩,⟨rfl,by simp,by simp,by simp,fun b hb=>Nat.lt_of_lt_of_le (hs.hlt b hb) hx.le,fun b hb=>⟨(hgb b hb).1,rfl,Nat.lt_of_lt_of_le (hgb b hb).2 hx.le⟩,GL.stays (fun b hb=>hx.block b (hs.gb b hb).2.2) hs.gl⟩,?_,hx.fr _,Up.refl _,by simp⟩
 refine Ca.keep (X:=⟨only w' (fun b=>decide (w.heap.size≤b)||GB b),[]⟩) (X':=⟨vis H [] [] w',[]⟩) (Keeps.only fun b hp hb=>?_) (Up.refl _) hr
 simp only [Bool.or_eq_true,decide_eq_true_eq] at hp
 refine⟨?_,rfl⟩
 cases hH:H b with
 | false=>simp [cC]
 | true =>
  rcases hp with hp|hp
  ·have:=hs.hlt b hH;omega
  ·have:=(hgb b (.inl hp)).1;rw [hH] at this;cases this
theorem pD {P:Program} {f:FuncId} {xs:List A} {u:Value} (hu:u.oneCell'=true) (h:∀(w:World) (vs:List Value),GL w→Cas ⟨w,[]⟩ xs vs→Calls P f vs.toArray w fun e w'=>e=.returned u∧Ext w w'):Pure P f xs (.one (.v u)) :=
 nZ fun w vs hg hv=>(h w vs hg hv).mono fun e w' ⟨he,hx⟩=>⟨u,he,hx,caV hu⟩
theorem Cas.one1 {X:Cx} {x:A} {vs:List Value} (h:Cas X [x] vs):∃v,vs=[v]∧Ca X x v:=by
 simp only [Cas] at h
 obtain⟨v,r,rfl,hv,rfl⟩:=h
 exact⟨v,rfl,hv⟩
theorem Cas.two {X:Cx} {x y:A} {vs:List Value} (h:Cas X [x,y] vs):∃v u,vs=[v,u]∧Ca X x v∧Ca X y u:=by
 simp only [Cas] at h
 obtain⟨v,r,rfl,hv,u,q,rfl,hu,rfl⟩:=h
 exact⟨v,u,rfl,hv,hu⟩
def Made (P:Program) (f:FuncId) (xs:List A) (r:A):Prop:=∀(w:World) (vs:List Value),GL w→Cas ⟨w,[]⟩ xs vs→Calls P f vs.toArray w fun e w'=>∃v,e=.returned v∧Ext w w'∧Ca ⟨cK w' w.heap.size,[]⟩ r v
theorem Made.pure {P:Program} {f:FuncId} {xs:List A} {r:A} (h:Made P f xs r):Pure P f xs r:=nZ h
theorem StoOk.hid_lt {H:Nat→Bool} {s:List (Option Ob)} {m:List Lo} {w:World} (hs:StoOk H s m w) {b:Nat} (hb:cC s m b=true):b<w.heap.size:=by
 obtain⟨i,ob,l,h1,h2,rfl⟩:=aO.1 hb
 obtain⟨vs,rest,hm,-,-⟩:=(hs.ok i ob l h1 h2).mem
 exact (Array.getElem?_eq_some_iff.1 hm).1
theorem yJ {P:Program} {f:FuncId} {xs xs':List A} {p:Prop} {r:A} {H:Nat→Bool} {s:List (Option Ob)} {m:List Lo} {w:World} (hv:gE s xs=some (p,xs')) (hp:p) (hfn:Made P f xs' r) (hs:StoOk H s m w) (vs:List Value) (hvs:Cas ⟨vis H s m w,m⟩ xs vs) :
  Calls P f vs.toArray w fun e w'=>∃v,e=.returned v∧Fr (fun _=>false) w w'∧Ca ⟨vis H s m w',m⟩ r v:=by
 refine (hfn w vs hs.gl (Cas.keep (X:=⟨vis H [] [] w,[]⟩) (X':=⟨w,[]⟩) (nV _ _ _ _) (Up.refl _) (lP hs hv hp hvs))).mono fun e w' ⟨v,he,hx,hr⟩=>⟨v,he,hx.fr _,?_⟩
 refine Ca.keep (X:=⟨cK w' w.heap.size,[]⟩) (X':=⟨vis H s m w',m⟩) (Keeps.only fun b hp hb=>?_) (fun i l h=>by simp at h) hr
 simp only [decide_eq_true_eq] at hp
 refine⟨?_,rfl⟩
 cases hH:H b with
 | true=>have:=hs.hlt b hH;omega
 | false =>
  cases hB:cC s m b with
  | true=>have:=hs.hid_lt hB;omega
  | false=>rfl
theorem CallA.made {P:Program} {nt:Cf} {st:St} {fo:Operand} {args:List Operand} {f:FuncId} {caps:List C} {xs xs':List A} {K:A→Prop} {p:Prop} {r:A} (hf:rdA st.e fo=some (.one (.fn f caps))) (ha:jX st.e args=some xs) (hc:dU P f=true)
  (hv:gE st.s (xs++caps.map .one)=some (p,xs')) (hp:p) (hfn:Made P f xs' r) (hK:K r):CallA P nt fo args st K :=
 ⟨f,caps,xs,hf,ha,hc,fun H w0 S0 m0 m a w hs vs hvs=>(yJ hv hp hfn hs.sto vs hvs).mono fun e w' ⟨v,he,h1,h2⟩=>⟨v,r,he,hK,h1,h2⟩⟩
theorem OpS.made {P:Program} {nt:Cf} {ds:List (Option Tmp)} {e:List (Nat × A)} {s:List (Option Ob)} {d:Option Tmp} {ty:TypeId} {pos:String} {aft:Array Edge} {g:Option (Nat × Bool)} {fo:Operand} {args:List Operand} {tys:Array TypeId} {f:FuncId} {caps:List C} {xs xs':List A} {p:Prop} {r:A} (hg:eG ds e g=some true) (hf:rdA e fo=some (.one (.fn f caps))) (ha:jX e args=some xs) (hc:dU P f=true)
  (hv:gE s (xs++caps.map .one)=some (p,xs')) (hp:p) (hfn:Made P f xs' r):OpS P nt ds ⟨d,.call { callee:=.value fo,args:=args.toArray,argTypes:=tys },ty,pos,aft,g⟩ e s r s :=
 OpS.call hg hf ha hc fun H w0 S0 m0 mm a w hs vs hvs=>yJ hv hp hfn hs.sto vs hvs
end Go.Proofs.YtaeioidifpebdaaGreatDoor
end
