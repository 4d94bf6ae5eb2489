/-
 Laid together: Ty, DatC, Bridge, Made.
-/
import Derived.Test.YtaeioidifpebdaaGreatDoorG2
import Derived.Test.YtaeioidifpebdaaGreatDoorProg
import Derived.KernelRfl
import Derived.Test.YtaeioidifpebdaaGreatDoorPlain2
import Derived.Test.YtaeioidifpebdaaGreatDoorChecked
import Derived.Test.YtaeioidifpebdaaGreatDoorPhi
section
namespace Go.Proofs.YtaeioidifpebdaaGreatDoor
set_option linter.unusedVariables false
theorem kT:tyI Tryz.prog 3=some (false,1):=by kernel_rfl
theorem YV:tyI Tryz.prog 4=some (false,1):=by kernel_rfl
theorem FI:IR Tryz.prog 4=true:=by kernel_rfl
theorem YW:tyI Tryz.prog 5=some (false,1):=by kernel_rfl
theorem WQ:RR Tryz.prog 5=true:=by kernel_rfl
theorem nC:tyI Tryz.prog 9=some (false,1):=by kernel_rfl
theorem yU:FF Tryz.prog 9=true:=by kernel_rfl
theorem yV:xQ Tryz.prog 9=some true:=by kernel_rfl
theorem WR:tyI Tryz.prog 21=some (false,1):=by kernel_rfl
theorem RZ:RQ Tryz.prog 21=some .i32:=by kernel_rfl
theorem NZ:tyI Tryz.prog 22=some (false,1):=by kernel_rfl
theorem dH:mH Tryz.prog 22=some (9,1):=by kernel_rfl
theorem eP:xQ Tryz.prog 22=some false:=by kernel_rfl
theorem dK:uD Tryz.prog 22=some 16:=by kernel_rfl
theorem dL:lV Tryz.prog 9=some [.string ⟨#[]⟩]:=by kernel_rfl
theorem OA:tyI Tryz.prog 23=some (false,1):=by kernel_rfl
theorem FJ:mH Tryz.prog 23=some (96,1):=by kernel_rfl
theorem FK:xQ Tryz.prog 23=some false:=by kernel_rfl
theorem FL:uD Tryz.prog 23=some 4:=by kernel_rfl
theorem FM:lV Tryz.prog 96=some [.int .u32 0]:=by kernel_rfl
theorem DX:tyI Tryz.prog 25=some (true,2):=by kernel_rfl
theorem OB:DU Tryz.prog 25=true:=by kernel_rfl
theorem JF:iB Tryz.prog 25 0=some (0,1):=by kernel_rfl
theorem wH:oO Tryz.prog 25 1=some (1,23):=by kernel_rfl
theorem JG:iB Tryz.prog 25 1=some (1,1):=by kernel_rfl
theorem FN:lV Tryz.prog 25=some [.bool false,.slice none 0 0]:=by kernel_rfl
theorem mQ:tyI Tryz.prog 26=some (false,1):=by kernel_rfl
theorem aO:mH Tryz.prog 26=some (28,6):=by kernel_rfl
theorem bW:xQ Tryz.prog 26=some false:=by kernel_rfl
theorem bD:uD Tryz.prog 26=some 88:=by kernel_rfl
theorem bF:lV Tryz.prog 28=some [.int .i64 0,.int .i32 0,.bool false,.slice none 0 0,.string ⟨#[]⟩,.slice none 0 0]:=by kernel_rfl
theorem bA:tyI Tryz.prog 28=some (true,6):=by kernel_rfl
theorem fP:DU Tryz.prog 28=true:=by kernel_rfl
theorem dP:oO Tryz.prog 28 0=some (0,3):=by kernel_rfl
theorem eD:iB Tryz.prog 28 0=some (0,1):=by kernel_rfl
theorem JH:oO Tryz.prog 28 1=some (1,21):=by kernel_rfl
theorem eE:iB Tryz.prog 28 1=some (1,1):=by kernel_rfl
theorem wJ:oO Tryz.prog 28 2=some (2,25):=by kernel_rfl
theorem eF:iB Tryz.prog 28 2=some (2,2):=by kernel_rfl
theorem fU:oO Tryz.prog 28 3=some (4,9):=by kernel_rfl
theorem eG:iB Tryz.prog 28 3=some (4,1):=by kernel_rfl
theorem fB:oO Tryz.prog 28 4=some (5,26):=by kernel_rfl
theorem eH:iB Tryz.prog 28 4=some (5,1):=by kernel_rfl
theorem cZ:lV Tryz.prog 28=some [.int .i64 0,.int .i32 0,.bool false,.slice none 0 0,.string ⟨#[]⟩,.slice none 0 0]:=by kernel_rfl
theorem OC:tyI Tryz.prog 29=some (false,1):=by kernel_rfl
theorem bQ:mH Tryz.prog 29=some (31,11):=by kernel_rfl
theorem eR:xQ Tryz.prog 29=some false:=by kernel_rfl
theorem bR:uD Tryz.prog 29=some 176:=by kernel_rfl
theorem bS:lV Tryz.prog 31=some [.int .i64 0,.string ⟨#[]⟩,.string ⟨#[]⟩,.slice none 0 0,.int .i64 0,.int .i32 0,.bool false,.slice none 0 0,.string ⟨#[]⟩,.slice none 0 0,.slice none 0 0]:=by kernel_rfl
theorem bG:tyI Tryz.prog 31=some (true,11):=by kernel_rfl
theorem bL:DU Tryz.prog 31=true:=by kernel_rfl
theorem wK:oO Tryz.prog 31 0=some (0,3):=by kernel_rfl
theorem aR:iB Tryz.prog 31 0=some (0,1):=by kernel_rfl
theorem JI:oO Tryz.prog 31 1=some (1,9):=by kernel_rfl
theorem aU:iB Tryz.prog 31 1=some (1,1):=by kernel_rfl
theorem JJ:oO Tryz.prog 31 2=some (2,9):=by kernel_rfl
theorem aV:iB Tryz.prog 31 2=some (2,1):=by kernel_rfl
theorem wL:oO Tryz.prog 31 3=some (3,22):=by kernel_rfl
theorem aW:iB Tryz.prog 31 3=some (3,1):=by kernel_rfl
theorem JK:oO Tryz.prog 31 4=some (4,28):=by kernel_rfl
theorem aX:iB Tryz.prog 31 4=some (4,6):=by kernel_rfl
theorem wM:oO Tryz.prog 31 5=some (10,29):=by kernel_rfl
theorem aY:iB Tryz.prog 31 5=some (10,1):=by kernel_rfl
theorem aJ:lV Tryz.prog 31=some [.int .i64 0,.string ⟨#[]⟩,.string ⟨#[]⟩,.slice none 0 0,.int .i64 0,.int .i32 0,.bool false,.slice none 0 0,.string ⟨#[]⟩,.slice none 0 0,.slice none 0 0]:=by kernel_rfl
theorem WS:tyI Tryz.prog 53=some (false,1):=by kernel_rfl
theorem SA:mH Tryz.prog 53=some (3,1):=by kernel_rfl
theorem SB:xQ Tryz.prog 53=some false:=by kernel_rfl
theorem SC:uD Tryz.prog 53=some 8:=by kernel_rfl
theorem SD:lV Tryz.prog 3=some [.int .i64 0]:=by kernel_rfl
theorem WT:tyI Tryz.prog 55=some (true,5):=by kernel_rfl
theorem JL:oO Tryz.prog 55 4=some (4,53):=by kernel_rfl
theorem SE:lV Tryz.prog 55=some [.slice none 0 0,.slice none 0 0,.slice none 0 0,.slice none 0 0,.slice none 0 0]:=by kernel_rfl
theorem dX:tyI Tryz.prog 62=some (false,1):=by kernel_rfl
theorem jE:XF Tryz.prog 62=true:=by kernel_rfl
theorem FO:mH Tryz.prog 93=some (21,1):=by kernel_rfl
theorem FP:xQ Tryz.prog 93=some false:=by kernel_rfl
theorem FQ:uD Tryz.prog 93=some 4:=by kernel_rfl
theorem FR:lV Tryz.prog 21=some [.int .i32 0]:=by kernel_rfl
theorem WU:tyI Tryz.prog 96=some (false,1):=by kernel_rfl
theorem SF:tyI Tryz.prog 134=some (false,1):=by kernel_rfl
theorem OD:mH Tryz.prog 134=some (5,1):=by kernel_rfl
theorem OE:xQ Tryz.prog 134=some false:=by kernel_rfl
theorem OG:uD Tryz.prog 134=some 1:=by kernel_rfl
theorem OH:lV Tryz.prog 5=some [.int .u8 0]:=by kernel_rfl
theorem DY:oO Tryz.prog 136 0=some (0,4):=by kernel_rfl
theorem DZ:oO Tryz.prog 136 1=some (1,134):=by kernel_rfl
theorem w3:type_of% (And.intro bG FI):=And.intro bG FI
theorem w4:type_of% (And.intro bA (And.intro aJ bG)):=And.intro bA (And.intro aJ bG)
theorem w5:type_of% (And.intro (And.intro (And.intro (And.intro bA yV) (And.intro yU cZ)) (And.intro (And.intro fP eD) (And.intro eE eF))) (And.intro (And.intro (And.intro eG eH) (And.intro aO bF)) (And.intro (And.intro bD dP) (And.intro kT (And.intro fU nC))))):=And.intro (And.intro (And.intro (And.intro bA yV) (And.intro yU cZ)) (And.intro (And.intro fP eD) (And.intro eE eF))) (And.intro (And.intro (And.intro eG eH) (And.intro aO bF)) (And.intro (And.intro bD dP) (And.intro kT (And.intro fU nC))))
theorem w6:type_of% (And.intro (And.intro bA (And.intro aO bF)) (And.intro (And.intro bD aJ) (And.intro bG cZ))):=And.intro (And.intro bA (And.intro aO bF)) (And.intro (And.intro bD aJ) (And.intro bG cZ))
theorem w7:type_of% (And.intro (And.intro (And.intro (And.intro bA aO) (And.intro bF (And.intro bD aJ))) (And.intro (And.intro bG wM) (And.intro OC (And.intro eR bQ)))) (And.intro (And.intro (And.intro bR bS) (And.intro wK (And.intro kT wL))) (And.intro (And.intro NZ eP) (And.intro dH (And.intro dK dL))))):=And.intro (And.intro (And.intro (And.intro bA aO) (And.intro bF (And.intro bD aJ))) (And.intro (And.intro bG wM) (And.intro OC (And.intro eR bQ)))) (And.intro (And.intro (And.intro bR bS) (And.intro wK (And.intro kT wL))) (And.intro (And.intro NZ eP) (And.intro dH (And.intro dK dL))))
theorem w8:type_of% (And.intro (And.intro bA (And.intro yV yU)) (And.intro aO (And.intro bF bD))):=And.intro (And.intro bA (And.intro yV yU)) (And.intro aO (And.intro bF bD))
theorem w9:type_of% (And.intro (And.intro (And.intro bA (And.intro aJ bG)) (And.intro (And.intro bQ bS) (And.intro bR SE))) (And.intro (And.intro (And.intro WT JL) (And.intro WS SB)) (And.intro (And.intro SA SC) (And.intro SD kT)))):=And.intro (And.intro (And.intro bA (And.intro aJ bG)) (And.intro (And.intro bQ bS) (And.intro bR SE))) (And.intro (And.intro (And.intro WT JL) (And.intro WS SB)) (And.intro (And.intro SA SC) (And.intro SD kT)))
theorem w11:type_of% (And.intro (And.intro (And.intro cZ (And.intro fP eD)) (And.intro eE (And.intro eF eG))) (And.intro (And.intro eH (And.intro bA aO)) (And.intro (And.intro bF bD) (And.intro aJ bG)))):=And.intro (And.intro (And.intro cZ (And.intro fP eD)) (And.intro eE (And.intro eF eG))) (And.intro (And.intro eH (And.intro bA aO)) (And.intro (And.intro bF bD) (And.intro aJ bG)))
theorem w14:type_of% (And.intro (And.intro (And.intro wK kT) (And.intro JI (And.intro nC JJ))) (And.intro (And.intro wL (And.intro NZ JK)) (And.intro bA (And.intro wM OC)))):=And.intro (And.intro (And.intro wK kT) (And.intro JI (And.intro nC JJ))) (And.intro (And.intro wL (And.intro NZ JK)) (And.intro bA (And.intro wM OC)))
theorem w17:type_of% (And.intro (And.intro (And.intro aJ (And.intro bA bL)) (And.intro aR (And.intro aU aV))) (And.intro (And.intro aW (And.intro aX aY)) (And.intro bG (And.intro jE dX)))):=And.intro (And.intro (And.intro aJ (And.intro bA bL)) (And.intro aR (And.intro aU aV))) (And.intro (And.intro aW (And.intro aX aY)) (And.intro bG (And.intro jE dX)))
theorem w21:type_of% (And.intro (And.intro (And.intro cZ fP) (And.intro eD eE)) (And.intro (And.intro eF eG) (And.intro eH bA))):=And.intro (And.intro (And.intro cZ fP) (And.intro eD eE)) (And.intro (And.intro eF eG) (And.intro eH bA))
theorem w23:type_of% (And.intro cZ bA):=And.intro cZ bA
theorem w24:type_of% (And.intro (And.intro bA aJ) (And.intro bG FI)):=And.intro (And.intro bA aJ) (And.intro bG FI)
theorem w28:type_of% (And.intro (And.intro cZ (And.intro aO bF)) (And.intro bD (And.intro bW bA))):=And.intro (And.intro cZ (And.intro aO bF)) (And.intro bD (And.intro bW bA))
theorem w29:type_of% (And.intro (And.intro (And.intro dP kT) (And.intro fB (And.intro mQ bW))) (And.intro (And.intro aO bD) (And.intro bF (And.intro fU nC)))):=And.intro (And.intro (And.intro dP kT) (And.intro fB (And.intro mQ bW))) (And.intro (And.intro aO bD) (And.intro bF (And.intro fU nC)))
theorem w35:type_of% (And.intro (And.intro eP dH) (And.intro dK (And.intro dL nC))):=And.intro (And.intro eP dH) (And.intro dK (And.intro dL nC))
theorem w37:type_of% (And.intro (And.intro eR (And.intro bQ bR)) (And.intro bS (And.intro bG aJ))):=And.intro (And.intro eR (And.intro bQ bR)) (And.intro bS (And.intro bG aJ))
theorem w38:type_of% (And.intro (And.intro (And.intro (And.intro fU nC) (And.intro yV yU)) (And.intro (And.intro wJ wH) (And.intro OA (And.intro FK FJ)))) (And.intro (And.intro (And.intro FL FM) (And.intro fB mQ)) (And.intro (And.intro bW aO) (And.intro bD (And.intro bF bA))))):=And.intro (And.intro (And.intro (And.intro fU nC) (And.intro yV yU)) (And.intro (And.intro wJ wH) (And.intro OA (And.intro FK FJ)))) (And.intro (And.intro (And.intro FL FM) (And.intro fB mQ)) (And.intro (And.intro bW aO) (And.intro bD (And.intro bF bA))))
theorem w40:type_of% (And.intro (And.intro (And.intro (And.intro aJ bA) (And.intro bG bQ)) (And.intro (And.intro bS bR) (And.intro bL (And.intro aR aU)))) (And.intro (And.intro (And.intro aV aW) (And.intro aX (And.intro aY bW))) (And.intro (And.intro aO bD) (And.intro bF (And.intro cZ eR))))):=And.intro (And.intro (And.intro (And.intro aJ bA) (And.intro bG bQ)) (And.intro (And.intro bS bR) (And.intro bL (And.intro aR aU)))) (And.intro (And.intro (And.intro aV aW) (And.intro aX (And.intro aY bW))) (And.intro (And.intro aO bD) (And.intro bF (And.intro cZ eR))))
theorem w43:type_of% (And.intro (And.intro (And.intro (And.intro dP kT) (And.intro bA JH)) (And.intro (And.intro WR wJ) (And.intro DX (And.intro fU nC)))) (And.intro (And.intro (And.intro FP FO) (And.intro FQ (And.intro FR fB))) (And.intro (And.intro mQ bW) (And.intro aO (And.intro bD bF))))):=And.intro (And.intro (And.intro (And.intro dP kT) (And.intro bA JH)) (And.intro (And.intro WR wJ) (And.intro DX (And.intro fU nC)))) (And.intro (And.intro (And.intro FP FO) (And.intro FQ (And.intro FR fB))) (And.intro (And.intro mQ bW) (And.intro aO (And.intro bD bF))))
theorem w44:type_of% (And.intro (And.intro (And.intro cZ (And.intro fP eD)) (And.intro eE (And.intro eF eG))) (And.intro (And.intro eH (And.intro bA bW)) (And.intro aO (And.intro bD bF)))):=And.intro (And.intro (And.intro cZ (And.intro fP eD)) (And.intro eE (And.intro eF eG))) (And.intro (And.intro eH (And.intro bA bW)) (And.intro aO (And.intro bD bF)))
theorem w55:type_of% (And.intro (And.intro dP (And.intro kT fB)) (And.intro mQ (And.intro aO bA))):=And.intro (And.intro dP (And.intro kT fB)) (And.intro mQ (And.intro aO bA))
theorem w56:type_of% (And.intro (And.intro (And.intro (And.intro aJ bW) (And.intro aO bD)) (And.intro (And.intro bF bL) (And.intro aR (And.intro aU aV)))) (And.intro (And.intro (And.intro aW aX) (And.intro aY (And.intro dX bG))) (And.intro (And.intro dP kT) (And.intro fB (And.intro mQ bA))))):=And.intro (And.intro (And.intro (And.intro aJ bW) (And.intro aO bD)) (And.intro (And.intro bF bL) (And.intro aR (And.intro aU aV)))) (And.intro (And.intro (And.intro aW aX) (And.intro aY (And.intro dX bG))) (And.intro (And.intro dP kT) (And.intro fB (And.intro mQ bA))))
theorem w57:type_of% (And.intro (And.intro (And.intro (And.intro aJ dP) (And.intro kT bL)) (And.intro (And.intro aR aU) (And.intro aV aW))) (And.intro (And.intro (And.intro aX aY) (And.intro dX bG)) (And.intro (And.intro bA jE) (And.intro aO (And.intro fU nC))))):=And.intro (And.intro (And.intro (And.intro aJ dP) (And.intro kT bL)) (And.intro (And.intro aR aU) (And.intro aV aW))) (And.intro (And.intro (And.intro aX aY) (And.intro dX bG)) (And.intro (And.intro bA jE) (And.intro aO (And.intro fU nC))))
theorem w58:type_of% (And.intro (And.intro (And.intro aJ cZ) (And.intro fP eD)) (And.intro (And.intro eE eF) (And.intro eG (And.intro eH bG)))):=And.intro (And.intro (And.intro aJ cZ) (And.intro fP eD)) (And.intro (And.intro eE eF) (And.intro eG (And.intro eH bG)))
theorem w59:type_of% (And.intro jE dX):=And.intro jE dX
theorem w60:type_of% (And.intro (And.intro (And.intro aJ (And.intro eR bQ)) (And.intro bR (And.intro bS bG))) (And.intro (And.intro bL (And.intro aR aU)) (And.intro (And.intro aV aW) (And.intro aX aY)))):=And.intro (And.intro (And.intro aJ (And.intro eR bQ)) (And.intro bR (And.intro bS bG))) (And.intro (And.intro bL (And.intro aR aU)) (And.intro (And.intro aV aW) (And.intro aX aY)))
theorem w65:type_of% (And.intro DX FN):=And.intro DX FN
theorem w66:type_of% (And.intro (And.intro (And.intro yV yU) (And.intro WQ RZ)) (And.intro (And.intro FO FR) (And.intro FQ FP))):=And.intro (And.intro (And.intro yV yU) (And.intro WQ RZ)) (And.intro (And.intro FO FR) (And.intro FQ FP))
theorem w82:type_of% (And.intro (And.intro dP kT) (And.intro fU nC)):=And.intro (And.intro dP kT) (And.intro fU nC)
theorem w85:type_of% (And.intro (And.intro dP kT) (And.intro fU (And.intro nC dX))):=And.intro (And.intro dP kT) (And.intro fU (And.intro nC dX))
theorem w86:type_of% (And.intro aJ (And.intro bA bG)):=And.intro aJ (And.intro bA bG)
theorem w87:type_of% (And.intro (And.intro (And.intro aJ bL) (And.intro aR aU)) (And.intro (And.intro aV aW) (And.intro aX (And.intro aY bG)))):=And.intro (And.intro (And.intro aJ bL) (And.intro aR aU)) (And.intro (And.intro aV aW) (And.intro aX (And.intro aY bG)))
theorem w88:type_of% (And.intro bA dX):=And.intro bA dX
theorem w89:type_of% (And.intro (And.intro (And.intro (And.intro aJ bW) (And.intro aO bD)) (And.intro (And.intro bF bA) (And.intro bG (And.intro bQ bS)))) (And.intro (And.intro (And.intro bR bL) (And.intro aR aU)) (And.intro (And.intro aV aW) (And.intro aX (And.intro aY eR))))):=And.intro (And.intro (And.intro (And.intro aJ bW) (And.intro aO bD)) (And.intro (And.intro bF bA) (And.intro bG (And.intro bQ bS)))) (And.intro (And.intro (And.intro bR bL) (And.intro aR aU)) (And.intro (And.intro aV aW) (And.intro aX (And.intro aY eR))))
theorem w90:type_of% (And.intro (And.intro (And.intro bW (And.intro aO bD)) (And.intro bF (And.intro bA cZ))) (And.intro (And.intro aJ (And.intro bG bQ)) (And.intro bS (And.intro bR eR)))):=And.intro (And.intro (And.intro bW (And.intro aO bD)) (And.intro bF (And.intro bA cZ))) (And.intro (And.intro aJ (And.intro bG bQ)) (And.intro bS (And.intro bR eR)))
theorem w91:type_of% (And.intro (And.intro (And.intro aJ (And.intro eR bQ)) (And.intro (And.intro bR bS) (And.intro bL aR))) (And.intro (And.intro aU (And.intro aV aW)) (And.intro (And.intro aX aY) (And.intro dX bG)))):=And.intro (And.intro (And.intro aJ (And.intro eR bQ)) (And.intro (And.intro bR bS) (And.intro bL aR))) (And.intro (And.intro aU (And.intro aV aW)) (And.intro (And.intro aX aY) (And.intro dX bG)))
theorem w92:type_of% (And.intro (And.intro (And.intro aJ bA) (And.intro bL (And.intro aR aU))) (And.intro (And.intro aV aW) (And.intro aX (And.intro aY bG)))):=And.intro (And.intro (And.intro aJ bA) (And.intro bL (And.intro aR aU))) (And.intro (And.intro aV aW) (And.intro aX (And.intro aY bG)))
theorem w93:type_of% (And.intro (And.intro (And.intro (And.intro FN DZ) (And.intro SF (And.intro OE OD))) (And.intro (And.intro OG OH) (And.intro OB (And.intro JF JG)))) (And.intro (And.intro (And.intro DX DY) (And.intro YV (And.intro wH OA))) (And.intro (And.intro FJ (And.intro FM FL)) (And.intro FK (And.intro YW WU))))):=And.intro (And.intro (And.intro (And.intro FN DZ) (And.intro SF (And.intro OE OD))) (And.intro (And.intro OG OH) (And.intro OB (And.intro JF JG)))) (And.intro (And.intro (And.intro DX DY) (And.intro YV (And.intro wH OA))) (And.intro (And.intro FJ (And.intro FM FL)) (And.intro FK (And.intro YW WU))))
theorem w98:type_of% (And.intro (And.intro dH dL) (And.intro dK eP)):=And.intro (And.intro dH dL) (And.intro dK eP)
theorem qQ:type_of% (And.intro (And.intro (And.intro dP kT) (And.intro fB (And.intro mQ aO))) (And.intro (And.intro bA dH) (And.intro dL (And.intro dK eP)))):=And.intro (And.intro (And.intro dP kT) (And.intro fB (And.intro mQ aO))) (And.intro (And.intro bA dH) (And.intro dL (And.intro dK eP)))
theorem kG:type_of% (And.intro (And.intro (And.intro (And.intro aJ (And.intro bW aO)) (And.intro bD (And.intro bF bA))) (And.intro (And.intro cZ (And.intro bG bQ)) (And.intro bS (And.intro bR eR)))) (And.intro (And.intro (And.intro dX (And.intro dH dL)) (And.intro dK (And.intro eP bL))) (And.intro (And.intro aR (And.intro aU aV)) (And.intro aW (And.intro aX aY))))):=And.intro (And.intro (And.intro (And.intro aJ (And.intro bW aO)) (And.intro bD (And.intro bF bA))) (And.intro (And.intro cZ (And.intro bG bQ)) (And.intro bS (And.intro bR eR)))) (And.intro (And.intro (And.intro dX (And.intro dH dL)) (And.intro dK (And.intro eP bL))) (And.intro (And.intro aR (And.intro aU aV)) (And.intro aW (And.intro aX aY))))
theorem JM:type_of% (And.intro (And.intro (And.intro (And.intro aJ eP) (And.intro dH dK)) (And.intro (And.intro dL bL) (And.intro aR aU))) (And.intro (And.intro (And.intro aV aW) (And.intro aX aY)) (And.intro (And.intro dX bG) (And.intro bQ (And.intro bS bR))))):=And.intro (And.intro (And.intro (And.intro aJ eP) (And.intro dH dK)) (And.intro (And.intro dL bL) (And.intro aR aU))) (And.intro (And.intro (And.intro aV aW) (And.intro aX aY)) (And.intro (And.intro dX bG) (And.intro bQ (And.intro bS bR))))
theorem fN:type_of% (And.intro (And.intro (And.intro aJ (And.intro bA cZ)) (And.intro bG (And.intro dP kT))) (And.intro (And.intro fB (And.intro mQ bQ)) (And.intro bS (And.intro bR aO)))):=And.intro (And.intro (And.intro aJ (And.intro bA cZ)) (And.intro bG (And.intro dP kT))) (And.intro (And.intro fB (And.intro mQ bQ)) (And.intro bS (And.intro bR aO)))
theorem YX:type_of% (And.intro (And.intro (And.intro aJ (And.intro bG bQ)) (And.intro bS (And.intro bR bL))) (And.intro (And.intro aR (And.intro aU aV)) (And.intro aW (And.intro aX aY)))):=And.intro (And.intro (And.intro aJ (And.intro bG bQ)) (And.intro bS (And.intro bR bL))) (And.intro (And.intro aR (And.intro aU aV)) (And.intro aW (And.intro aX aY)))
theorem VC:type_of% (And.intro (And.intro (And.intro aJ (And.intro bW aO)) (And.intro (And.intro bD bF) (And.intro bL aR))) (And.intro (And.intro aU (And.intro aV aW)) (And.intro (And.intro aX aY) (And.intro dX bG)))):=And.intro (And.intro (And.intro aJ (And.intro bW aO)) (And.intro (And.intro bD bF) (And.intro bL aR))) (And.intro (And.intro aU (And.intro aV aW)) (And.intro (And.intro aX aY) (And.intro dX bG)))
theorem qR:type_of% (And.intro (And.intro (And.intro (And.intro aJ bW) (And.intro aO bD)) (And.intro (And.intro bF bG) (And.intro bA jE))) (And.intro (And.intro (And.intro bL aR) (And.intro aU aV)) (And.intro (And.intro aW aX) (And.intro aY dX)))):=And.intro (And.intro (And.intro (And.intro aJ bW) (And.intro aO bD)) (And.intro (And.intro bF bG) (And.intro bA jE))) (And.intro (And.intro (And.intro bL aR) (And.intro aU aV)) (And.intro (And.intro aW aX) (And.intro aY dX)))
theorem XH:type_of% (And.intro (And.intro (And.intro aJ dH) (And.intro dL dK)) (And.intro (And.intro bG bA) (And.intro aO (And.intro bF bD)))):=And.intro (And.intro (And.intro aJ dH) (And.intro dL dK)) (And.intro (And.intro bG bA) (And.intro aO (And.intro bF bD)))
theorem rS:type_of% (And.intro (And.intro (And.intro aJ bG) (And.intro bL (And.intro aR aU))) (And.intro (And.intro aV aW) (And.intro aX (And.intro aY dX)))):=And.intro (And.intro (And.intro aJ bG) (And.intro bL (And.intro aR aU))) (And.intro (And.intro aV aW) (And.intro aX (And.intro aY dX)))
theorem XI:type_of% (And.intro (And.intro (And.intro cZ bA) (And.intro fP (And.intro eD eE))) (And.intro (And.intro eF (And.intro eG eH)) (And.intro fB (And.intro mQ aO)))):=And.intro (And.intro (And.intro cZ bA) (And.intro fP (And.intro eD eE))) (And.intro (And.intro eF (And.intro eG eH)) (And.intro fB (And.intro mQ aO)))
theorem LX:type_of% (And.intro (And.intro eP dH) (And.intro dK (And.intro dL nC))):=And.intro (And.intro eP dH) (And.intro dK (And.intro dL nC))
theorem LY:type_of% (And.intro (And.intro eP (And.intro dH dK)) (And.intro dL (And.intro nC dX))):=And.intro (And.intro eP (And.intro dH dK)) (And.intro dL (And.intro nC dX))
theorem wN:type_of% (And.intro (And.intro bW (And.intro aO bD)) (And.intro bF (And.intro bA cZ))):=And.intro (And.intro bW (And.intro aO bD)) (And.intro bF (And.intro bA cZ))
theorem jL:type_of% (And.intro (And.intro (And.intro (And.intro aJ eP) (And.intro dH dK)) (And.intro (And.intro dL nC) (And.intro bQ (And.intro bG bS)))) (And.intro (And.intro (And.intro bR bL) (And.intro aR aU)) (And.intro (And.intro aV aW) (And.intro aX (And.intro aY eR))))):=And.intro (And.intro (And.intro (And.intro aJ eP) (And.intro dH dK)) (And.intro (And.intro dL nC) (And.intro bQ (And.intro bG bS)))) (And.intro (And.intro (And.intro bR bL) (And.intro aR aU)) (And.intro (And.intro aV aW) (And.intro aX (And.intro aY eR))))
theorem JN:type_of% (And.intro (And.intro (And.intro cZ (And.intro bA bW)) (And.intro aO (And.intro bD bF))) (And.intro (And.intro fP (And.intro eD eE)) (And.intro eF (And.intro eG eH)))):=And.intro (And.intro (And.intro cZ (And.intro bA bW)) (And.intro aO (And.intro bD bF))) (And.intro (And.intro fP (And.intro eD eE)) (And.intro eF (And.intro eG eH)))
theorem FS:type_of% (And.intro (And.intro (And.intro aJ bG) (And.intro cZ fP)) (And.intro (And.intro eD eE) (And.intro eF (And.intro eG eH)))):=And.intro (And.intro (And.intro aJ bG) (And.intro cZ fP)) (And.intro (And.intro eD eE) (And.intro eF (And.intro eG eH)))
theorem YY:type_of% (And.intro (And.intro (And.intro aJ bL) (And.intro aR aU)) (And.intro (And.intro aV aW) (And.intro aX (And.intro aY bG)))):=And.intro (And.intro (And.intro aJ bL) (And.intro aR aU)) (And.intro (And.intro aV aW) (And.intro aX (And.intro aY bG)))
theorem zO:type_of% (And.intro (And.intro aJ bG) (And.intro bQ (And.intro bS bR))):=And.intro (And.intro aJ bG) (And.intro bQ (And.intro bS bR))
theorem pD:type_of% (And.intro (And.intro (And.intro aJ bW) (And.intro aO (And.intro bD bF))) (And.intro (And.intro bG bA) (And.intro bQ (And.intro bS bR)))):=And.intro (And.intro (And.intro aJ bW) (And.intro aO (And.intro bD bF))) (And.intro (And.intro bG bA) (And.intro bQ (And.intro bS bR)))
theorem PQ:type_of% (And.intro (And.intro aJ (And.intro bG bQ)) (And.intro bS (And.intro bR eR))):=And.intro (And.intro aJ (And.intro bG bQ)) (And.intro bS (And.intro bR eR))
theorem FT:type_of% (And.intro (And.intro (And.intro (And.intro aJ bW) (And.intro aO bD)) (And.intro (And.intro bF dP) (And.intro kT bG))) (And.intro (And.intro (And.intro bL aR) (And.intro aU aV)) (And.intro (And.intro aW aX) (And.intro aY (And.intro dX bA))))):=And.intro (And.intro (And.intro (And.intro aJ bW) (And.intro aO bD)) (And.intro (And.intro bF dP) (And.intro kT bG))) (And.intro (And.intro (And.intro bL aR) (And.intro aU aV)) (And.intro (And.intro aW aX) (And.intro aY (And.intro dX bA))))
theorem jF:type_of% (And.intro (And.intro (And.intro (And.intro aJ bW) (And.intro aO bD)) (And.intro (And.intro bF bL) (And.intro aR (And.intro aU aV)))) (And.intro (And.intro (And.intro aW aX) (And.intro aY (And.intro dX bG))) (And.intro (And.intro bA eP) (And.intro dH (And.intro dK dL))))):=And.intro (And.intro (And.intro (And.intro aJ bW) (And.intro aO bD)) (And.intro (And.intro bF bL) (And.intro aR (And.intro aU aV)))) (And.intro (And.intro (And.intro aW aX) (And.intro aY (And.intro dX bG))) (And.intro (And.intro bA eP) (And.intro dH (And.intro dK dL))))
theorem zP:type_of% (And.intro (And.intro (And.intro (And.intro aJ (And.intro bW aO)) (And.intro bD (And.intro bF bL))) (And.intro (And.intro aR (And.intro aU aV)) (And.intro aW (And.intro aX aY)))) (And.intro (And.intro (And.intro dX (And.intro bG bA)) (And.intro jE (And.intro eR bQ))) (And.intro (And.intro bR (And.intro bS eP)) (And.intro dH (And.intro dK dL))))):=And.intro (And.intro (And.intro (And.intro aJ (And.intro bW aO)) (And.intro bD (And.intro bF bL))) (And.intro (And.intro aR (And.intro aU aV)) (And.intro aW (And.intro aX aY)))) (And.intro (And.intro (And.intro dX (And.intro bG bA)) (And.intro jE (And.intro eR bQ))) (And.intro (And.intro bR (And.intro bS eP)) (And.intro dH (And.intro dK dL))))
theorem eA:type_of% (And.intro (And.intro (And.intro (And.intro aJ bW) (And.intro aO bD)) (And.intro (And.intro bF bG) (And.intro bA (And.intro jE bL)))) (And.intro (And.intro (And.intro aR aU) (And.intro aV (And.intro aW aX))) (And.intro (And.intro aY dX) (And.intro bQ (And.intro bS bR))))):=And.intro (And.intro (And.intro (And.intro aJ bW) (And.intro aO bD)) (And.intro (And.intro bF bG) (And.intro bA (And.intro jE bL)))) (And.intro (And.intro (And.intro aR aU) (And.intro aV (And.intro aW aX))) (And.intro (And.intro aY dX) (And.intro bQ (And.intro bS bR))))
theorem aL:type_of% (And.intro (And.intro (And.intro (And.intro aJ (And.intro bW aO)) (And.intro bD (And.intro bF bL))) (And.intro (And.intro aR (And.intro aU aV)) (And.intro aW (And.intro aX aY)))) (And.intro (And.intro (And.intro dX (And.intro bG bA)) (And.intro cZ (And.intro jE dH))) (And.intro (And.intro dL (And.intro dK eP)) (And.intro (And.intro bQ bS) (And.intro bR eR))))):=And.intro (And.intro (And.intro (And.intro aJ (And.intro bW aO)) (And.intro bD (And.intro bF bL))) (And.intro (And.intro aR (And.intro aU aV)) (And.intro aW (And.intro aX aY)))) (And.intro (And.intro (And.intro dX (And.intro bG bA)) (And.intro cZ (And.intro jE dH))) (And.intro (And.intro dL (And.intro dK eP)) (And.intro (And.intro bQ bS) (And.intro bR eR))))
theorem kJ:type_of% (And.intro (And.intro aJ (And.intro bW aO)) (And.intro (And.intro bD bF) (And.intro bG bA))):=And.intro (And.intro aJ (And.intro bW aO)) (And.intro (And.intro bD bF) (And.intro bG bA))
theorem XJ:type_of% (And.intro (And.intro (And.intro aJ cZ) (And.intro fP eD)) (And.intro (And.intro eE eF) (And.intro eG (And.intro eH bG)))):=And.intro (And.intro (And.intro aJ cZ) (And.intro fP eD)) (And.intro (And.intro eE eF) (And.intro eG (And.intro eH bG)))
theorem oP:type_of% (And.intro (And.intro (And.intro (And.intro aJ aO) (And.intro bA (And.intro bW bD))) (And.intro (And.intro bF (And.intro bL aR)) (And.intro aU (And.intro aV aW)))) (And.intro (And.intro (And.intro aX aY) (And.intro dX (And.intro bG dH))) (And.intro (And.intro dL (And.intro dK bQ)) (And.intro bS (And.intro bR eR))))):=And.intro (And.intro (And.intro (And.intro aJ aO) (And.intro bA (And.intro bW bD))) (And.intro (And.intro bF (And.intro bL aR)) (And.intro aU (And.intro aV aW)))) (And.intro (And.intro (And.intro aX aY) (And.intro dX (And.intro bG dH))) (And.intro (And.intro dL (And.intro dK bQ)) (And.intro bS (And.intro bR eR))))
theorem sH:type_of% (And.intro (And.intro (And.intro bA (And.intro bW aO)) (And.intro bD (And.intro bF cZ))) (And.intro (And.intro jE (And.intro dX dH)) (And.intro dL (And.intro dK eP)))):=And.intro (And.intro (And.intro bA (And.intro bW aO)) (And.intro bD (And.intro bF cZ))) (And.intro (And.intro jE (And.intro dX dH)) (And.intro dL (And.intro dK eP)))
end Go.Proofs.YtaeioidifpebdaaGreatDoor
end
section
namespace Go.Proofs.YtaeioidifpebdaaGreatDoor
open Go Go.RowKit
set_option linter.unusedSimpArgs false
set_option linter.unusedVariables false
def D.cc:D→List C
 | mk k c neg mag t l=>[.v (.int .i64 k),.v (.int .i32 c),.v (.bool neg),.sl 1 (mag.map fun n=>[.v (.int .u32 n)]),.v (.string t),.sl 6 (l.map D.cc)]
theorem D.cc_eq (d:D):d.cc=[.v (.int .i64 d.k),.v (.int .i32 d.c),.v (.bool d.neg),.sl 1 (d.mag.map fun n=>[.v (.int .u32 n)]),.v (.string d.t),.sl 6 (d.l.map D.cc)]:=by
 cases d;rw [D.cc];rfl
theorem zQ {l:List D} {k:Nat} (h:k<l.length):(l.map D.cc)[k]?=some (l[k]).cc:=by simp [h]
theorem Rd.sl_cc {r:World} {α:Type} {f:α→V} {g:α→List C} {wd:Nat} {l:List α} {u:Value} (hfg:∀x∈l,∀(cs:List Value),Rd r (f x) cs→Ccs ⟨r,[]⟩ (g x) cs) (hw:∀x,(g x).length=wd) (h:Rd r (.sl (l.map f)) [u]):Cc ⟨r,[]⟩ (.sl wd (l.map g)) u:=by
 simp only [Rd] at h
 obtain⟨v,e,h⟩:=h
 cases e
 simp only [Cc,List.length_map]
 refine⟨fun e he=>by obtain⟨x,_,rfl⟩:=List.mem_map.1 he;exact hw x,?_⟩
 rcases h with ⟨h0,h1⟩|⟨b,o,cap,e,l1,l2,hr⟩
 ·exact .inl ⟨by simpa using h0,h1⟩
 ·rw [List.length_map] at e l1
  refine .inr ⟨b,o,cap,e,l1,l2,?_⟩
  clear e l1 l2
  clear hw
  induction l generalizing o with
  | nil=>simp [Crow]
  | cons x l ih =>
   simp only [List.map_cons,RdRow] at hr
   obtain⟨cs,h1,h2,h3⟩:=hr
   simp only [List.map_cons,Crow]
   exact⟨cs,h1,hfg x (by simp) cs h2,ih (fun y hy=>hfg y (by simp [hy])) _ h3⟩
theorem D.cc_len (d:D):d.cc.length=6:=by rw [D.cc_eq];rfl
theorem D.cc_of {r:World} (n:Nat):∀(d:D) (cs:List Value),d.ht≤n→Rd r d.v cs→Ccs ⟨r,[]⟩ d.cc cs:=by
 induction n with
 | zero=>intro d _ h;exact absurd h (by cases d;rw [D.ht];omega)
 | succ n ih =>
  intro d cs hh h
  have hd:∀x∈d.l,x.ht≤n:=fun x hx=>by
   obtain⟨i,hi,rfl⟩:=List.mem_iff_getElem.1 hx
   have:=D.ht_lt hi;omega
  obtain⟨am,cm,al,cl,e,hm,hl,-⟩:=IsD.open ⟨cs,rfl,h⟩
  have e':cs=[.int .i64 d.k,.int .i32 d.c,.bool d.neg,.slice am d.mag.length cm,.string d.t,.slice al d.l.length cl]:=by
   simpa using congrArg Array.toList (Value.agg.inj e)
  subst e'
  rw [D.cc_eq]
  have g1:Cc ⟨r,[]⟩ (.sl 1 (d.mag.map fun n=>[.v (.int .u32 n)])) (.slice am d.mag.length cm):=Rd.sl_cc (fun x _ cs hx=>by simp only [Rd] at hx;subst hx;simp [Ccs,Cc,Value.oneCell']) (fun _=>rfl) hm
  have g2:Cc ⟨r,[]⟩ (.sl 6 (d.l.map D.cc)) (.slice al d.l.length cl):=Rd.sl_cc (fun x hx cs hr=>ih x cs (hd x hx) hr) D.cc_len hl
  simp only [Ccs]
  exact⟨_,_,rfl,by simp [Cc,Value.oneCell'],_,_,rfl,by simp [Cc,Value.oneCell'],_,_,rfl,by simp [Cc,Value.oneCell'],_,_,rfl,g1,_,_,rfl,by simp [Cc,Value.oneCell'],_,_,rfl,g2,rfl⟩
theorem IsD.ca {r:World} {d:D} {v:Value} (h:IsD r d v):Ca ⟨r,[]⟩ (.agg d.cc) v:=by
 obtain⟨cs,rfl,h⟩:=h
 simp only [Ca]
 exact⟨cs,rfl,D.cc_of d.ht d cs (Nat.le_refl _) h⟩
theorem IsDs.ca {r:World} {l:List D} {v:Value} (h:IsDs r l v):Ca ⟨r,[]⟩ (.one (.sl 6 (l.map D.cc))) v:=by
 simp only [Ca]
 exact Rd.sl_cc (fun x _ cs hr=>D.cc_of x.ht x cs (Nat.le_refl _) hr) D.cc_len h
theorem Cc.sl_rd {r:World} {α:Type} {f:α→V} {g:α→List C} {wd:Nat} {l:List α} {u:Value} (hfg:∀x∈l,∀(cs:List Value),Ccs ⟨r,[]⟩ (g x) cs→Rd r (f x) cs) (h:Cc ⟨r,[]⟩ (.sl wd (l.map g)) u):Rd r (.sl (l.map f)) [u]:=by
 simp only [Cc,List.length_map] at h
 simp only [Rd,List.length_map]
 refine⟨u,rfl,?_⟩
 rcases h with ⟨-,⟨h0,h1⟩|⟨b,o,cap,e,l1,l2,hr⟩⟩
 ·exact .inl ⟨by simpa using h0,h1⟩
 ·refine .inr ⟨b,o,cap,e,l1,l2,?_⟩
  clear e l1 l2
  induction l generalizing o with
  | nil=>simp [RdRow]
  | cons x l ih =>
   simp only [List.map_cons,Crow] at hr
   obtain⟨cs,h1,h2,h3⟩:=hr
   simp only [List.map_cons,RdRow]
   exact⟨cs,h1,hfg x (by simp) cs h2,ih (fun y hy=>hfg y (by simp [hy])) _ h3⟩
theorem D.of_cc {r:World} (n:Nat):∀(d:D) (cs:List Value),d.ht≤n→Ccs ⟨r,[]⟩ d.cc cs→Rd r d.v cs:=by
 induction n with
 | zero=>intro d _ h;exact absurd h (by cases d;rw [D.ht];omega)
 | succ n ih =>
  intro d cs hh h
  have hd:∀x∈d.l,x.ht≤n:=fun x hx=>by
   obtain⟨i,hi,rfl⟩:=List.mem_iff_getElem.1 hx
   have:=D.ht_lt hi;omega
  rw [D.cc_eq] at h
  simp only [Ccs] at h
  obtain⟨_,_,rfl,h0,_,_,rfl,h1,_,_,rfl,h2,vm,_,rfl,h3,_,_,rfl,h4,vl,_,rfl,h5,rfl⟩:=h
  simp only [Cc] at h0 h1 h2 h4
  rw [h0.1,h1.1,h2.1,h4.1]
  have g1:IsMag r d.mag vm:=Cc.sl_rd (f:=fun n=>V.val (.int .u32 n)) (fun x _ cs hx=>by simp only [Ccs,Cc] at hx;obtain⟨_,_,rfl,hx,rfl⟩:=hx;simp only [Rd];rw [hx.1]) h3
  have g2:IsDs r d.l vl:=Cc.sl_rd (fun x hx cs hr=>ih x cs (hd x hx) hr) h5
  have:=IsD.mk' (d:=d) g1 g2
  obtain⟨cs',e,hr⟩:=this
  have:cs'=_:=(by simpa using (congrArg Array.toList (Value.agg.inj e)).symm:cs'=[_,_,_,_,_,_])
  subst this
  exact hr
theorem Ca.isD {r:World} {d:D} {v:Value} (h:Ca ⟨r,[]⟩ (.agg d.cc) v):IsD r d v:=by
 simp only [Ca] at h
 obtain⟨cs,rfl,h⟩:=h
 exact⟨cs,rfl,D.of_cc d.ht d cs (Nat.le_refl _) h⟩
theorem Ca.isDs {r:World} {l:List D} {v:Value} (h:Ca ⟨r,[]⟩ (.one (.sl 6 (l.map D.cc))) v):IsDs r l v:=by
 simp only [Ca] at h
 exact Cc.sl_rd (fun x _ cs hr=>D.of_cc x.ht x cs (Nat.le_refl _) hr) h
theorem ZQ (w:World):Keeps w (vis (fun _=>false) [] [] w):=fun p v h=>by
 unfold vis
 rw [eV,if_pos (by simp [bZ])];exact h
theorem Fr.ext {w w':World} {S0:Nat→Bool} (h:Fr S0 w w') (hs:∀b,S0 b=false):Ext w w':=⟨h.os,h.tape,h.output,h.size,fun b hb=>h.block b hb (hs b)⟩
theorem Ext.fr {w w':World} (S0:Nat→Bool) (h:Ext w w'):Fr S0 w w':=⟨h.os,h.tape,h.output,h.size,fun b hb _=>h.block b hb⟩
theorem Pure.calls {P:Program} {f:FuncId} {xs:List A} {u:Value} (h:Pure P f xs (.one (.v u))) {w:World} {vs:List Value} (hg:GL w) (hb:∀b,GBw w b→b<w.heap.size) (hv:Cas ⟨w,[]⟩ xs vs):Calls P f vs.toArray w fun e w'=>e=.returned u∧Ext w w':=by
 refine (h (fun _=>false) [] w vs ⟨rfl,by simp,by simp,by simp,fun b hb=>(by cases hb),fun b h=>⟨rfl,rfl,hb b h⟩,hg⟩ (Cas.keep (X:=⟨w,[]⟩) (X':=⟨vis (fun _=>false) [] [] w,[]⟩) (ZQ w) (Up.refl _) hv)).mono fun e w' ⟨v,m',r,s',he,⟨h1,h2⟩,_,hc,hf,_⟩=>?_
 subst h1 h2
 simp only [Ca,Cc] at hc
 rw [hc.1] at he
 exact⟨he,hf.ext fun _=>rfl⟩
theorem nQ {P:Program} {f:FuncId} {xs:List A} {r:A} (h:∀(w:World) (vs:List Value),GL w→Cas ⟨w,[]⟩ xs vs→Calls P f vs.toArray w fun e w'=>∃v,e=.returned v∧Ext w w'∧Ca ⟨cM w' w.heap.size,[]⟩ r v):Pure P f xs r:=fun H m w vs hs hc=>by
 have hm:m=[]:=by have:=hs.len;simp at this;exact List.eq_nil_of_length_eq_zero (by omega)
 subst hm
 refine (h w vs hs.gl (Cas.keep (X:=⟨vis H [] [] w,[]⟩) (X':=⟨w,[]⟩) (pJ _ _ _ _) (Up.refl _) hc)).mono fun e w' ⟨v,he,hx,hr⟩=>⟨v,[],r,[],he,⟨rfl,rfl⟩,⟨rfl,by simp,by simp,by simp,fun b hb=>Nat.lt_of_lt_of_le (hs.hlt b hb) hx.le,fun b hb'=>have hb:GBw w b:=hb'.back fun c hc=>hx.block c (hs.gb c (.inl hc)).2.2;⟨(hs.gb b hb).1,rfl,Nat.lt_of_lt_of_le (hs.gb b hb).2.2 hx.le⟩,GL.stays (fun b hb=>hx.block b (hs.gb b hb).2.2) hs.gl⟩,?_,hx.fr _,Up.refl _,by simp⟩
 refine Ca.keep (X:=⟨cM w' w.heap.size,[]⟩) (X':=⟨vis H [] [] w',[]⟩) (Keeps.only fun b hp hb=>?_) (Up.refl _) hr
 simp only [decide_eq_true_eq] at hp
 refine⟨?_,rfl⟩
 cases hH:H b with
 | false=>simp [bZ]
 | true=>have:=hs.hlt b hH;omega
theorem PR {P:Program} {f:FuncId} {xs:List A} {r:A} (h:∀(w:World) (vs:List Value),GL w→Cas ⟨w,[]⟩ xs vs→Calls P f vs.toArray w fun e w'=>∃v,e=.returned v∧Ext w w'∧Ca ⟨only w' (fun b=>decide (w.heap.size≤b)||GB b),[]⟩ r v):Pure P f xs r:=fun H m w vs hs hc=>by
 have hm:m=[]:=by have:=hs.len;simp at this;exact List.eq_nil_of_length_eq_zero (by omega)
 subst hm
 refine (h w vs hs.gl (Cas.keep (X:=⟨vis H [] [] w,[]⟩) (X':=⟨w,[]⟩) (pJ _ _ _ _) (Up.refl _) hc)).mono fun e w' ⟨v,he,hx,hr⟩=>?_
 have hgb:∀b,GBw w' b→H b=false∧b<w.heap.size:=fun b hb' =>
  have hb:GBw w b:=hb'.back fun c hc=>hx.block c (hs.gb c (.inl hc)).2.2
  ⟨(hs.gb b hb).1,(hs.gb b hb).2.2⟩
 refine⟨v,[],r,[],he,⟨rfl,rfl⟩,⟨rfl,by simp,by simp,by simp,fun b hb=>Nat.lt_of_lt_of_le (hs.hlt b hb) hx.le,fun b hb=>⟨(hgb b hb).1,rfl,Nat.lt_of_lt_of_le (hgb b hb).2 hx.le⟩,GL.stays (fun b hb=>hx.block b (hs.gb b hb).2.2) hs.gl⟩,?_,hx.fr _,Up.refl _,by simp⟩
 refine Ca.keep (X:=⟨only w' (fun b=>decide (w.heap.size≤b)||GB b),[]⟩) (X':=⟨vis H [] [] w',[]⟩) (Keeps.only fun b hp hb=>?_) (Up.refl _) hr
 simp only [Bool.or_eq_true,decide_eq_true_eq] at hp
 refine⟨?_,rfl⟩
 cases hH:H b with
 | false=>simp [bZ]
 | true =>
  rcases hp with hp|hp
  ·have:=hs.hlt b hH;omega
  ·have:=(hgb b (.inl hp)).1;rw [hH] at this;cases this
theorem fO {P:Program} {f:FuncId} {xs:List A} {u:Value} (hu:u.oneCell'=true) (h:∀(w:World) (vs:List Value),GL w→Cas ⟨w,[]⟩ xs vs→Calls P f vs.toArray w fun e w'=>e=.returned u∧Ext w w'):Pure P f xs (.one (.v u)) :=
 nQ fun w vs hg hv=>(h w vs hg hv).mono fun e w' ⟨he,hx⟩=>⟨u,he,hx,caV hu⟩
theorem Cas.one1 {X:Cx} {x:A} {vs:List Value} (h:Cas X [x] vs):∃v,vs=[v]∧Ca X x v:=by
 simp only [Cas] at h
 obtain⟨v,r,rfl,hv,rfl⟩:=h
 exact⟨v,rfl,hv⟩
theorem Cas.two {X:Cx} {x y:A} {vs:List Value} (h:Cas X [x,y] vs):∃v u,vs=[v,u]∧Ca X x v∧Ca X y u:=by
 simp only [Cas] at h
 obtain⟨v,r,rfl,hv,u,q,rfl,hu,rfl⟩:=h
 exact⟨v,u,rfl,hv,hu⟩
def Made (P:Program) (f:FuncId) (xs:List A) (r:A):Prop:=∀(w:World) (vs:List Value),GL w→Cas ⟨w,[]⟩ xs vs→Calls P f vs.toArray w fun e w'=>∃v,e=.returned v∧Ext w w'∧Ca ⟨cM w' w.heap.size,[]⟩ r v
theorem Made.pure {P:Program} {f:FuncId} {xs:List A} {r:A} (h:Made P f xs r):Pure P f xs r:=nQ h
theorem StoOk.hid_lt {H:Nat→Bool} {s:List (Option Ob)} {m:List Lo} {w:World} (hs:StoOk H s m w) {b:Nat} (hb:bZ s m b=true):b<w.heap.size:=by
 obtain⟨i,ob,l,h1,h2,rfl⟩:=aQ.1 hb
 obtain⟨vs,rest,hm,-,-⟩:=(hs.ok i ob l h1 h2).mem
 exact (Array.getElem?_eq_some_iff.1 hm).1
theorem BN {P:Program} {f:FuncId} {xs xs':List A} {p:Prop} {r:A} {H:Nat→Bool} {s:List (Option Ob)} {m:List Lo} {w:World} (hv:gO s xs=some (p,xs')) (hp:p) (hfn:Made P f xs' r) (hs:StoOk H s m w) (vs:List Value) (hvs:Cas ⟨vis H s m w,m⟩ xs vs) :
  Calls P f vs.toArray w fun e w'=>∃v,e=.returned v∧Fr (fun _=>false) w w'∧Ca ⟨vis H s m w',m⟩ r v:=by
 refine (hfn w vs hs.gl (Cas.keep (X:=⟨vis H [] [] w,[]⟩) (X':=⟨w,[]⟩) (pJ _ _ _ _) (Up.refl _) (nB hs hv hp hvs))).mono fun e w' ⟨v,he,hx,hr⟩=>⟨v,he,hx.fr _,?_⟩
 refine Ca.keep (X:=⟨cM w' w.heap.size,[]⟩) (X':=⟨vis H s m w',m⟩) (Keeps.only fun b hp hb=>?_) (fun i l h=>by simp at h) hr
 simp only [decide_eq_true_eq] at hp
 refine⟨?_,rfl⟩
 cases hH:H b with
 | true=>have:=hs.hlt b hH;omega
 | false =>
  cases hB:bZ s m b with
  | true=>have:=hs.hid_lt hB;omega
  | false=>rfl
theorem CallA.made {P:Program} {nt:Cf} {st:St} {fo:Operand} {args:List Operand} {f:FuncId} {caps:List C} {xs xs':List A} {K:A→Prop} {p:Prop} {r:A} (hf:rdA st.e fo=some (.one (.fn f caps))) (ha:kS st.e args=some xs) (hc:dZ P f=true)
  (hv:gO st.s (xs++caps.map .one)=some (p,xs')) (hp:p) (hfn:Made P f xs' r) (hK:K r):CallA P nt fo args st K :=
 ⟨f,caps,xs,hf,ha,hc,fun H w0 S0 m0 m a w hs vs hvs=>(BN hv hp hfn hs.sto vs hvs).mono fun e w' ⟨v,he,h1,h2⟩=>⟨v,r,he,hK,h1,h2⟩⟩
theorem OpS.made {P:Program} {nt:Cf} {ds:List (Option Tmp)} {e:List (Nat × A)} {s:List (Option Ob)} {d:Option Tmp} {ty:TypeId} {pos:String} {aft:Array Edge} {g:Option (Nat × Bool)} {fo:Operand} {args:List Operand} {tys:Array TypeId} {f:FuncId} {caps:List C} {xs xs':List A} {p:Prop} {r:A} (hg:eK ds e g=some true) (hf:rdA e fo=some (.one (.fn f caps))) (ha:kS e args=some xs) (hc:dZ P f=true)
  (hv:gO s (xs++caps.map .one)=some (p,xs')) (hp:p) (hfn:Made P f xs' r):OpS P nt ds ⟨d,.call { callee:=.value fo,args:=args.toArray,argTypes:=tys },ty,pos,aft,g⟩ e s r s :=
 OpS.call hg hf ha hc fun H w0 S0 m0 mm a w hs vs hvs=>BN hv hp hfn hs.sto vs hvs
end Go.Proofs.YtaeioidifpebdaaGreatDoor
end
