/-
 Laid together: Ty, DatC, Bridge, Made.
-/
import Derived.Test.YtaeioidifpebdaaGreatDoorG2
import Derived.Test.YtaeioidifpebdaaGreatDoorProg
import Derived.KernelRfl
import Derived.Test.YtaeioidifpebdaaGreatDoorPlain2
import Derived.Test.YtaeioidifpebdaaGreatDoorChecked
import Derived.Test.YtaeioidifpebdaaGreatDoorPhi
section
namespace Go.Proofs.YtaeioidifpebdaaGreatDoor
set_option linter.unusedVariables false
theorem mE:tyI Tryz.prog 3=some (false,1):=by kernel_rfl
theorem ZN:tyI Tryz.prog 4=some (false,1):=by kernel_rfl
theorem FK:IW Tryz.prog 4=true:=by kernel_rfl
theorem ZO:tyI Tryz.prog 5=some (false,1):=by kernel_rfl
theorem XG:SF Tryz.prog 5=true:=by kernel_rfl
theorem oM:tyI Tryz.prog 9=some (false,1):=by kernel_rfl
theorem yU:FH Tryz.prog 9=true:=by kernel_rfl
theorem yV:xU Tryz.prog 9=some true:=by kernel_rfl
theorem XH:tyI Tryz.prog 21=some (false,1):=by kernel_rfl
theorem SM:SE Tryz.prog 21=some .i32:=by kernel_rfl
theorem OM:tyI Tryz.prog 22=some (false,1):=by kernel_rfl
theorem dG:mL Tryz.prog 22=some (9,1):=by kernel_rfl
theorem eX:xU Tryz.prog 22=some false:=by kernel_rfl
theorem dJ:uF Tryz.prog 22=some 16:=by kernel_rfl
theorem dK:mC Tryz.prog 9=some [.string ⟨#[]⟩]:=by kernel_rfl
theorem OO:tyI Tryz.prog 23=some (false,1):=by kernel_rfl
theorem FL:mL Tryz.prog 23=some (96,1):=by kernel_rfl
theorem FM:xU Tryz.prog 23=some false:=by kernel_rfl
theorem FN:uF Tryz.prog 23=some 4:=by kernel_rfl
theorem FO:mC Tryz.prog 96=some [.int .u32 0]:=by kernel_rfl
theorem DX:tyI Tryz.prog 25=some (true,2):=by kernel_rfl
theorem OP:DU Tryz.prog 25=true:=by kernel_rfl
theorem JI:iM Tryz.prog 25 0=some (0,1):=by kernel_rfl
theorem wL:oL Tryz.prog 25 1=some (1,23):=by kernel_rfl
theorem JJ:iM Tryz.prog 25 1=some (1,1):=by kernel_rfl
theorem FP:mC Tryz.prog 25=some [.bool false,.slice none 0 0]:=by kernel_rfl
theorem oW:tyI Tryz.prog 26=some (false,1):=by kernel_rfl
theorem bB:mL Tryz.prog 26=some (28,6):=by kernel_rfl
theorem cH:xU Tryz.prog 26=some false:=by kernel_rfl
theorem bM:uF Tryz.prog 26=some 88:=by kernel_rfl
theorem bO:mC Tryz.prog 28=some [.int .i64 0,.int .i32 0,.bool false,.slice none 0 0,.string ⟨#[]⟩,.slice none 0 0]:=by kernel_rfl
theorem bG:tyI Tryz.prog 28=some (true,6):=by kernel_rfl
theorem fW:DU Tryz.prog 28=true:=by kernel_rfl
theorem dZ:oL Tryz.prog 28 0=some (0,3):=by kernel_rfl
theorem eK:iM Tryz.prog 28 0=some (0,1):=by kernel_rfl
theorem JK:oL Tryz.prog 28 1=some (1,21):=by kernel_rfl
theorem eL:iM Tryz.prog 28 1=some (1,1):=by kernel_rfl
theorem wM:oL Tryz.prog 28 2=some (2,25):=by kernel_rfl
theorem eM:iM Tryz.prog 28 2=some (2,2):=by kernel_rfl
theorem iA:oL Tryz.prog 28 3=some (4,9):=by kernel_rfl
theorem eN:iM Tryz.prog 28 3=some (4,1):=by kernel_rfl
theorem gD:oL Tryz.prog 28 4=some (5,26):=by kernel_rfl
theorem eO:iM Tryz.prog 28 4=some (5,1):=by kernel_rfl
theorem dH:mC Tryz.prog 28=some [.int .i64 0,.int .i32 0,.bool false,.slice none 0 0,.string ⟨#[]⟩,.slice none 0 0]:=by kernel_rfl
theorem OQ:tyI Tryz.prog 29=some (false,1):=by kernel_rfl
theorem bT:mL Tryz.prog 29=some (31,11):=by kernel_rfl
theorem eY:xU Tryz.prog 29=some false:=by kernel_rfl
theorem bU:uF Tryz.prog 29=some 176:=by kernel_rfl
theorem bW:mC Tryz.prog 31=some [.int .i64 0,.string ⟨#[]⟩,.string ⟨#[]⟩,.slice none 0 0,.int .i64 0,.int .i32 0,.bool false,.slice none 0 0,.string ⟨#[]⟩,.slice none 0 0,.slice none 0 0]:=by kernel_rfl
theorem bJ:tyI Tryz.prog 31=some (true,11):=by kernel_rfl
theorem bQ:DU Tryz.prog 31=true:=by kernel_rfl
theorem wN:oL Tryz.prog 31 0=some (0,3):=by kernel_rfl
theorem aV:iM Tryz.prog 31 0=some (0,1):=by kernel_rfl
theorem JL:oL Tryz.prog 31 1=some (1,9):=by kernel_rfl
theorem aW:iM Tryz.prog 31 1=some (1,1):=by kernel_rfl
theorem JM:oL Tryz.prog 31 2=some (2,9):=by kernel_rfl
theorem aX:iM Tryz.prog 31 2=some (2,1):=by kernel_rfl
theorem wO:oL Tryz.prog 31 3=some (3,22):=by kernel_rfl
theorem aY:iM Tryz.prog 31 3=some (3,1):=by kernel_rfl
theorem JN:oL Tryz.prog 31 4=some (4,28):=by kernel_rfl
theorem aZ:iM Tryz.prog 31 4=some (4,6):=by kernel_rfl
theorem wP:oL Tryz.prog 31 5=some (10,29):=by kernel_rfl
theorem bA:iM Tryz.prog 31 5=some (10,1):=by kernel_rfl
theorem aM:mC Tryz.prog 31=some [.int .i64 0,.string ⟨#[]⟩,.string ⟨#[]⟩,.slice none 0 0,.int .i64 0,.int .i32 0,.bool false,.slice none 0 0,.string ⟨#[]⟩,.slice none 0 0,.slice none 0 0]:=by kernel_rfl
theorem XI:tyI Tryz.prog 53=some (false,1):=by kernel_rfl
theorem SN:mL Tryz.prog 53=some (3,1):=by kernel_rfl
theorem SO:xU Tryz.prog 53=some false:=by kernel_rfl
theorem SP:uF Tryz.prog 53=some 8:=by kernel_rfl
theorem SQ:mC Tryz.prog 3=some [.int .i64 0]:=by kernel_rfl
theorem XJ:tyI Tryz.prog 55=some (true,5):=by kernel_rfl
theorem JO:oL Tryz.prog 55 4=some (4,53):=by kernel_rfl
theorem SR:mC Tryz.prog 55=some [.slice none 0 0,.slice none 0 0,.slice none 0 0,.slice none 0 0,.slice none 0 0]:=by kernel_rfl
theorem eC:tyI Tryz.prog 62=some (false,1):=by kernel_rfl
theorem jS:XW Tryz.prog 62=true:=by kernel_rfl
theorem FQ:mL Tryz.prog 93=some (21,1):=by kernel_rfl
theorem FR:xU Tryz.prog 93=some false:=by kernel_rfl
theorem FS:uF Tryz.prog 93=some 4:=by kernel_rfl
theorem FT:mC Tryz.prog 21=some [.int .i32 0]:=by kernel_rfl
theorem XK:tyI Tryz.prog 96=some (false,1):=by kernel_rfl
theorem ST:tyI Tryz.prog 134=some (false,1):=by kernel_rfl
theorem OS:mL Tryz.prog 134=some (5,1):=by kernel_rfl
theorem OT:xU Tryz.prog 134=some false:=by kernel_rfl
theorem OU:uF Tryz.prog 134=some 1:=by kernel_rfl
theorem OV:mC Tryz.prog 5=some [.int .u8 0]:=by kernel_rfl
theorem DY:oL Tryz.prog 136 0=some (0,4):=by kernel_rfl
theorem DZ:oL Tryz.prog 136 1=some (1,134):=by kernel_rfl
theorem w3:type_of% (And.intro bJ FK):=And.intro bJ FK
theorem w4:type_of% (And.intro bG (And.intro aM bJ)):=And.intro bG (And.intro aM bJ)
theorem w5:type_of% (And.intro (And.intro (And.intro (And.intro bG yV) (And.intro yU dH)) (And.intro (And.intro fW eK) (And.intro eL eM))) (And.intro (And.intro (And.intro eN eO) (And.intro bB bO)) (And.intro (And.intro bM dZ) (And.intro mE (And.intro iA oM))))):=And.intro (And.intro (And.intro (And.intro bG yV) (And.intro yU dH)) (And.intro (And.intro fW eK) (And.intro eL eM))) (And.intro (And.intro (And.intro eN eO) (And.intro bB bO)) (And.intro (And.intro bM dZ) (And.intro mE (And.intro iA oM))))
theorem w6:type_of% (And.intro (And.intro bG (And.intro bB bO)) (And.intro (And.intro bM aM) (And.intro bJ dH))):=And.intro (And.intro bG (And.intro bB bO)) (And.intro (And.intro bM aM) (And.intro bJ dH))
theorem w7:type_of% (And.intro (And.intro (And.intro (And.intro bG bB) (And.intro bO (And.intro bM aM))) (And.intro (And.intro bJ wP) (And.intro OQ (And.intro eY bT)))) (And.intro (And.intro (And.intro bU bW) (And.intro wN (And.intro mE wO))) (And.intro (And.intro OM eX) (And.intro dG (And.intro dJ dK))))):=And.intro (And.intro (And.intro (And.intro bG bB) (And.intro bO (And.intro bM aM))) (And.intro (And.intro bJ wP) (And.intro OQ (And.intro eY bT)))) (And.intro (And.intro (And.intro bU bW) (And.intro wN (And.intro mE wO))) (And.intro (And.intro OM eX) (And.intro dG (And.intro dJ dK))))
theorem w8:type_of% (And.intro (And.intro bG (And.intro yV yU)) (And.intro bB (And.intro bO bM))):=And.intro (And.intro bG (And.intro yV yU)) (And.intro bB (And.intro bO bM))
theorem w9:type_of% (And.intro (And.intro (And.intro bG (And.intro aM bJ)) (And.intro (And.intro bT bW) (And.intro bU SR))) (And.intro (And.intro (And.intro XJ JO) (And.intro XI SO)) (And.intro (And.intro SN SP) (And.intro SQ mE)))):=And.intro (And.intro (And.intro bG (And.intro aM bJ)) (And.intro (And.intro bT bW) (And.intro bU SR))) (And.intro (And.intro (And.intro XJ JO) (And.intro XI SO)) (And.intro (And.intro SN SP) (And.intro SQ mE)))
theorem w11:type_of% (And.intro (And.intro (And.intro dH (And.intro fW eK)) (And.intro eL (And.intro eM eN))) (And.intro (And.intro eO (And.intro bG bB)) (And.intro (And.intro bO bM) (And.intro aM bJ)))):=And.intro (And.intro (And.intro dH (And.intro fW eK)) (And.intro eL (And.intro eM eN))) (And.intro (And.intro eO (And.intro bG bB)) (And.intro (And.intro bO bM) (And.intro aM bJ)))
theorem w14:type_of% (And.intro (And.intro (And.intro wN mE) (And.intro JL (And.intro oM JM))) (And.intro (And.intro wO (And.intro OM JN)) (And.intro bG (And.intro wP OQ)))):=And.intro (And.intro (And.intro wN mE) (And.intro JL (And.intro oM JM))) (And.intro (And.intro wO (And.intro OM JN)) (And.intro bG (And.intro wP OQ)))
theorem w17:type_of% (And.intro (And.intro (And.intro aM (And.intro bG bQ)) (And.intro aV (And.intro aW aX))) (And.intro (And.intro aY (And.intro aZ bA)) (And.intro bJ (And.intro jS eC)))):=And.intro (And.intro (And.intro aM (And.intro bG bQ)) (And.intro aV (And.intro aW aX))) (And.intro (And.intro aY (And.intro aZ bA)) (And.intro bJ (And.intro jS eC)))
theorem w21:type_of% (And.intro (And.intro (And.intro dH fW) (And.intro eK eL)) (And.intro (And.intro eM eN) (And.intro eO bG))):=And.intro (And.intro (And.intro dH fW) (And.intro eK eL)) (And.intro (And.intro eM eN) (And.intro eO bG))
theorem w23:type_of% (And.intro dH bG):=And.intro dH bG
theorem w24:type_of% (And.intro (And.intro bG aM) (And.intro bJ FK)):=And.intro (And.intro bG aM) (And.intro bJ FK)
theorem w35:type_of% (And.intro (And.intro eX dG) (And.intro dJ (And.intro dK oM))):=And.intro (And.intro eX dG) (And.intro dJ (And.intro dK oM))
theorem w37:type_of% (And.intro (And.intro eY (And.intro bT bU)) (And.intro bW (And.intro bJ aM))):=And.intro (And.intro eY (And.intro bT bU)) (And.intro bW (And.intro bJ aM))
theorem w38:type_of% (And.intro (And.intro (And.intro (And.intro iA oM) (And.intro yV yU)) (And.intro (And.intro wM wL) (And.intro OO (And.intro FM FL)))) (And.intro (And.intro (And.intro FN FO) (And.intro gD oW)) (And.intro (And.intro cH bB) (And.intro bM (And.intro bO bG))))):=And.intro (And.intro (And.intro (And.intro iA oM) (And.intro yV yU)) (And.intro (And.intro wM wL) (And.intro OO (And.intro FM FL)))) (And.intro (And.intro (And.intro FN FO) (And.intro gD oW)) (And.intro (And.intro cH bB) (And.intro bM (And.intro bO bG))))
theorem w40:type_of% (And.intro (And.intro (And.intro (And.intro aM bG) (And.intro bJ bT)) (And.intro (And.intro bW bU) (And.intro bQ (And.intro aV aW)))) (And.intro (And.intro (And.intro aX aY) (And.intro aZ (And.intro bA cH))) (And.intro (And.intro bB bM) (And.intro bO (And.intro dH eY))))):=And.intro (And.intro (And.intro (And.intro aM bG) (And.intro bJ bT)) (And.intro (And.intro bW bU) (And.intro bQ (And.intro aV aW)))) (And.intro (And.intro (And.intro aX aY) (And.intro aZ (And.intro bA cH))) (And.intro (And.intro bB bM) (And.intro bO (And.intro dH eY))))
theorem w43:type_of% (And.intro (And.intro (And.intro (And.intro dZ mE) (And.intro bG JK)) (And.intro (And.intro XH wM) (And.intro DX (And.intro iA oM)))) (And.intro (And.intro (And.intro FR FQ) (And.intro FS (And.intro FT gD))) (And.intro (And.intro oW cH) (And.intro bB (And.intro bM bO))))):=And.intro (And.intro (And.intro (And.intro dZ mE) (And.intro bG JK)) (And.intro (And.intro XH wM) (And.intro DX (And.intro iA oM)))) (And.intro (And.intro (And.intro FR FQ) (And.intro FS (And.intro FT gD))) (And.intro (And.intro oW cH) (And.intro bB (And.intro bM bO))))
theorem w44:type_of% (And.intro (And.intro (And.intro dH (And.intro fW eK)) (And.intro eL (And.intro eM eN))) (And.intro (And.intro eO (And.intro bG cH)) (And.intro bB (And.intro bM bO)))):=And.intro (And.intro (And.intro dH (And.intro fW eK)) (And.intro eL (And.intro eM eN))) (And.intro (And.intro eO (And.intro bG cH)) (And.intro bB (And.intro bM bO)))
theorem w55:type_of% (And.intro (And.intro dZ (And.intro mE gD)) (And.intro oW (And.intro bB bG))):=And.intro (And.intro dZ (And.intro mE gD)) (And.intro oW (And.intro bB bG))
theorem w56:type_of% (And.intro (And.intro (And.intro (And.intro aM cH) (And.intro bB bM)) (And.intro (And.intro bO bQ) (And.intro aV (And.intro aW aX)))) (And.intro (And.intro (And.intro aY aZ) (And.intro bA (And.intro eC bJ))) (And.intro (And.intro dZ mE) (And.intro gD (And.intro oW bG))))):=And.intro (And.intro (And.intro (And.intro aM cH) (And.intro bB bM)) (And.intro (And.intro bO bQ) (And.intro aV (And.intro aW aX)))) (And.intro (And.intro (And.intro aY aZ) (And.intro bA (And.intro eC bJ))) (And.intro (And.intro dZ mE) (And.intro gD (And.intro oW bG))))
theorem w57:type_of% (And.intro (And.intro (And.intro (And.intro aM dZ) (And.intro mE bQ)) (And.intro (And.intro aV aW) (And.intro aX aY))) (And.intro (And.intro (And.intro aZ bA) (And.intro eC bJ)) (And.intro (And.intro bG jS) (And.intro bB (And.intro iA oM))))):=And.intro (And.intro (And.intro (And.intro aM dZ) (And.intro mE bQ)) (And.intro (And.intro aV aW) (And.intro aX aY))) (And.intro (And.intro (And.intro aZ bA) (And.intro eC bJ)) (And.intro (And.intro bG jS) (And.intro bB (And.intro iA oM))))
theorem w58:type_of% (And.intro (And.intro (And.intro aM dH) (And.intro fW eK)) (And.intro (And.intro eL eM) (And.intro eN (And.intro eO bJ)))):=And.intro (And.intro (And.intro aM dH) (And.intro fW eK)) (And.intro (And.intro eL eM) (And.intro eN (And.intro eO bJ)))
theorem w59:type_of% (And.intro jS eC):=And.intro jS eC
theorem w60:type_of% (And.intro (And.intro (And.intro aM (And.intro eY bT)) (And.intro bU (And.intro bW bJ))) (And.intro (And.intro bQ (And.intro aV aW)) (And.intro (And.intro aX aY) (And.intro aZ bA)))):=And.intro (And.intro (And.intro aM (And.intro eY bT)) (And.intro bU (And.intro bW bJ))) (And.intro (And.intro bQ (And.intro aV aW)) (And.intro (And.intro aX aY) (And.intro aZ bA)))
theorem w65:type_of% (And.intro DX FP):=And.intro DX FP
theorem w66:type_of% (And.intro (And.intro (And.intro yV yU) (And.intro XG SM)) (And.intro (And.intro FQ FT) (And.intro FS FR))):=And.intro (And.intro (And.intro yV yU) (And.intro XG SM)) (And.intro (And.intro FQ FT) (And.intro FS FR))
theorem w82:type_of% (And.intro (And.intro dZ mE) (And.intro iA oM)):=And.intro (And.intro dZ mE) (And.intro iA oM)
theorem w85:type_of% (And.intro (And.intro dZ mE) (And.intro iA (And.intro oM eC))):=And.intro (And.intro dZ mE) (And.intro iA (And.intro oM eC))
theorem w86:type_of% (And.intro aM (And.intro bG bJ)):=And.intro aM (And.intro bG bJ)
theorem w87:type_of% (And.intro (And.intro (And.intro aM bQ) (And.intro aV aW)) (And.intro (And.intro aX aY) (And.intro aZ (And.intro bA bJ)))):=And.intro (And.intro (And.intro aM bQ) (And.intro aV aW)) (And.intro (And.intro aX aY) (And.intro aZ (And.intro bA bJ)))
theorem w88:type_of% (And.intro bG eC):=And.intro bG eC
theorem w89:type_of% (And.intro (And.intro (And.intro (And.intro aM cH) (And.intro bB bM)) (And.intro (And.intro bO bG) (And.intro bJ (And.intro bT bW)))) (And.intro (And.intro (And.intro bU bQ) (And.intro aV aW)) (And.intro (And.intro aX aY) (And.intro aZ (And.intro bA eY))))):=And.intro (And.intro (And.intro (And.intro aM cH) (And.intro bB bM)) (And.intro (And.intro bO bG) (And.intro bJ (And.intro bT bW)))) (And.intro (And.intro (And.intro bU bQ) (And.intro aV aW)) (And.intro (And.intro aX aY) (And.intro aZ (And.intro bA eY))))
theorem w90:type_of% (And.intro (And.intro (And.intro cH (And.intro bB bM)) (And.intro bO (And.intro bG dH))) (And.intro (And.intro aM (And.intro bJ bT)) (And.intro bW (And.intro bU eY)))):=And.intro (And.intro (And.intro cH (And.intro bB bM)) (And.intro bO (And.intro bG dH))) (And.intro (And.intro aM (And.intro bJ bT)) (And.intro bW (And.intro bU eY)))
theorem w91:type_of% (And.intro (And.intro (And.intro aM (And.intro eY bT)) (And.intro (And.intro bU bW) (And.intro bQ aV))) (And.intro (And.intro aW (And.intro aX aY)) (And.intro (And.intro aZ bA) (And.intro eC bJ)))):=And.intro (And.intro (And.intro aM (And.intro eY bT)) (And.intro (And.intro bU bW) (And.intro bQ aV))) (And.intro (And.intro aW (And.intro aX aY)) (And.intro (And.intro aZ bA) (And.intro eC bJ)))
theorem w92:type_of% (And.intro (And.intro (And.intro aM bG) (And.intro bQ (And.intro aV aW))) (And.intro (And.intro aX aY) (And.intro aZ (And.intro bA bJ)))):=And.intro (And.intro (And.intro aM bG) (And.intro bQ (And.intro aV aW))) (And.intro (And.intro aX aY) (And.intro aZ (And.intro bA bJ)))
theorem w93:type_of% (And.intro (And.intro (And.intro (And.intro FP DZ) (And.intro ST (And.intro OT OS))) (And.intro (And.intro OU OV) (And.intro OP (And.intro JI JJ)))) (And.intro (And.intro (And.intro DX DY) (And.intro ZN (And.intro wL OO))) (And.intro (And.intro FL (And.intro FO FN)) (And.intro FM (And.intro ZO XK))))):=And.intro (And.intro (And.intro (And.intro FP DZ) (And.intro ST (And.intro OT OS))) (And.intro (And.intro OU OV) (And.intro OP (And.intro JI JJ)))) (And.intro (And.intro (And.intro DX DY) (And.intro ZN (And.intro wL OO))) (And.intro (And.intro FL (And.intro FO FN)) (And.intro FM (And.intro ZO XK))))
theorem w98:type_of% (And.intro (And.intro dG dK) (And.intro dJ eX)):=And.intro (And.intro dG dK) (And.intro dJ eX)
theorem qP:type_of% (And.intro (And.intro (And.intro dZ mE) (And.intro gD (And.intro oW bB))) (And.intro (And.intro bG dG) (And.intro dK (And.intro dJ eX)))):=And.intro (And.intro (And.intro dZ mE) (And.intro gD (And.intro oW bB))) (And.intro (And.intro bG dG) (And.intro dK (And.intro dJ eX)))
theorem kW:type_of% (And.intro (And.intro (And.intro (And.intro aM (And.intro cH bB)) (And.intro bM (And.intro bO bG))) (And.intro (And.intro dH (And.intro bJ bT)) (And.intro bW (And.intro bU eY)))) (And.intro (And.intro (And.intro eC (And.intro dG dK)) (And.intro dJ (And.intro eX bQ))) (And.intro (And.intro aV (And.intro aW aX)) (And.intro aY (And.intro aZ bA))))):=And.intro (And.intro (And.intro (And.intro aM (And.intro cH bB)) (And.intro bM (And.intro bO bG))) (And.intro (And.intro dH (And.intro bJ bT)) (And.intro bW (And.intro bU eY)))) (And.intro (And.intro (And.intro eC (And.intro dG dK)) (And.intro dJ (And.intro eX bQ))) (And.intro (And.intro aV (And.intro aW aX)) (And.intro aY (And.intro aZ bA))))
theorem JP:type_of% (And.intro (And.intro (And.intro (And.intro aM eX) (And.intro dG dJ)) (And.intro (And.intro dK bQ) (And.intro aV aW))) (And.intro (And.intro (And.intro aX aY) (And.intro aZ bA)) (And.intro (And.intro eC bJ) (And.intro bT (And.intro bW bU))))):=And.intro (And.intro (And.intro (And.intro aM eX) (And.intro dG dJ)) (And.intro (And.intro dK bQ) (And.intro aV aW))) (And.intro (And.intro (And.intro aX aY) (And.intro aZ bA)) (And.intro (And.intro eC bJ) (And.intro bT (And.intro bW bU))))
theorem fT:type_of% (And.intro (And.intro (And.intro aM (And.intro bG dH)) (And.intro bJ (And.intro dZ mE))) (And.intro (And.intro gD (And.intro oW bT)) (And.intro bW (And.intro bU bB)))):=And.intro (And.intro (And.intro aM (And.intro bG dH)) (And.intro bJ (And.intro dZ mE))) (And.intro (And.intro gD (And.intro oW bT)) (And.intro bW (And.intro bU bB)))
theorem ZP:type_of% (And.intro (And.intro (And.intro aM (And.intro bJ bT)) (And.intro bW (And.intro bU bQ))) (And.intro (And.intro aV (And.intro aW aX)) (And.intro aY (And.intro aZ bA)))):=And.intro (And.intro (And.intro aM (And.intro bJ bT)) (And.intro bW (And.intro bU bQ))) (And.intro (And.intro aV (And.intro aW aX)) (And.intro aY (And.intro aZ bA)))
theorem VS:type_of% (And.intro (And.intro (And.intro aM (And.intro cH bB)) (And.intro (And.intro bM bO) (And.intro bQ aV))) (And.intro (And.intro aW (And.intro aX aY)) (And.intro (And.intro aZ bA) (And.intro eC bJ)))):=And.intro (And.intro (And.intro aM (And.intro cH bB)) (And.intro (And.intro bM bO) (And.intro bQ aV))) (And.intro (And.intro aW (And.intro aX aY)) (And.intro (And.intro aZ bA) (And.intro eC bJ)))
theorem qQ:type_of% (And.intro (And.intro (And.intro (And.intro aM cH) (And.intro bB bM)) (And.intro (And.intro bO bJ) (And.intro bG jS))) (And.intro (And.intro (And.intro bQ aV) (And.intro aW aX)) (And.intro (And.intro aY aZ) (And.intro bA eC)))):=And.intro (And.intro (And.intro (And.intro aM cH) (And.intro bB bM)) (And.intro (And.intro bO bJ) (And.intro bG jS))) (And.intro (And.intro (And.intro bQ aV) (And.intro aW aX)) (And.intro (And.intro aY aZ) (And.intro bA eC)))
theorem XY:type_of% (And.intro (And.intro (And.intro aM dG) (And.intro dK dJ)) (And.intro (And.intro bJ bG) (And.intro bB (And.intro bO bM)))):=And.intro (And.intro (And.intro aM dG) (And.intro dK dJ)) (And.intro (And.intro bJ bG) (And.intro bB (And.intro bO bM)))
theorem rR:type_of% (And.intro (And.intro (And.intro aM bJ) (And.intro bQ (And.intro aV aW))) (And.intro (And.intro aX aY) (And.intro aZ (And.intro bA eC)))):=And.intro (And.intro (And.intro aM bJ) (And.intro bQ (And.intro aV aW))) (And.intro (And.intro aX aY) (And.intro aZ (And.intro bA eC)))
theorem XZ:type_of% (And.intro (And.intro (And.intro dH bG) (And.intro fW (And.intro eK eL))) (And.intro (And.intro eM (And.intro eN eO)) (And.intro gD (And.intro oW bB)))):=And.intro (And.intro (And.intro dH bG) (And.intro fW (And.intro eK eL))) (And.intro (And.intro eM (And.intro eN eO)) (And.intro gD (And.intro oW bB)))
theorem MG:type_of% (And.intro (And.intro eX dG) (And.intro dJ (And.intro dK oM))):=And.intro (And.intro eX dG) (And.intro dJ (And.intro dK oM))
theorem MH:type_of% (And.intro (And.intro eX (And.intro dG dJ)) (And.intro dK (And.intro oM eC))):=And.intro (And.intro eX (And.intro dG dJ)) (And.intro dK (And.intro oM eC))
theorem wQ:type_of% (And.intro (And.intro cH (And.intro bB bM)) (And.intro bO (And.intro bG dH))):=And.intro (And.intro cH (And.intro bB bM)) (And.intro bO (And.intro bG dH))
theorem jY:type_of% (And.intro (And.intro (And.intro (And.intro aM eX) (And.intro dG dJ)) (And.intro (And.intro dK oM) (And.intro bT (And.intro bJ bW)))) (And.intro (And.intro (And.intro bU bQ) (And.intro aV aW)) (And.intro (And.intro aX aY) (And.intro aZ (And.intro bA eY))))):=And.intro (And.intro (And.intro (And.intro aM eX) (And.intro dG dJ)) (And.intro (And.intro dK oM) (And.intro bT (And.intro bJ bW)))) (And.intro (And.intro (And.intro bU bQ) (And.intro aV aW)) (And.intro (And.intro aX aY) (And.intro aZ (And.intro bA eY))))
theorem JQ:type_of% (And.intro (And.intro (And.intro dH (And.intro bG cH)) (And.intro bB (And.intro bM bO))) (And.intro (And.intro fW (And.intro eK eL)) (And.intro eM (And.intro eN eO)))):=And.intro (And.intro (And.intro dH (And.intro bG cH)) (And.intro bB (And.intro bM bO))) (And.intro (And.intro fW (And.intro eK eL)) (And.intro eM (And.intro eN eO)))
theorem FU:type_of% (And.intro (And.intro (And.intro aM bJ) (And.intro dH fW)) (And.intro (And.intro eK eL) (And.intro eM (And.intro eN eO)))):=And.intro (And.intro (And.intro aM bJ) (And.intro dH fW)) (And.intro (And.intro eK eL) (And.intro eM (And.intro eN eO)))
theorem ZQ:type_of% (And.intro (And.intro (And.intro aM bQ) (And.intro aV aW)) (And.intro (And.intro aX aY) (And.intro aZ (And.intro bA bJ)))):=And.intro (And.intro (And.intro aM bQ) (And.intro aV aW)) (And.intro (And.intro aX aY) (And.intro aZ (And.intro bA bJ)))
theorem zO:type_of% (And.intro (And.intro aM bJ) (And.intro bT (And.intro bW bU))):=And.intro (And.intro aM bJ) (And.intro bT (And.intro bW bU))
theorem pE:type_of% (And.intro (And.intro (And.intro aM cH) (And.intro bB (And.intro bM bO))) (And.intro (And.intro bJ bG) (And.intro bT (And.intro bW bU)))):=And.intro (And.intro (And.intro aM cH) (And.intro bB (And.intro bM bO))) (And.intro (And.intro bJ bG) (And.intro bT (And.intro bW bU)))
theorem QD:type_of% (And.intro (And.intro aM (And.intro bJ bT)) (And.intro bW (And.intro bU eY))):=And.intro (And.intro aM (And.intro bJ bT)) (And.intro bW (And.intro bU eY))
theorem FV:type_of% (And.intro (And.intro (And.intro (And.intro aM cH) (And.intro bB bM)) (And.intro (And.intro bO dZ) (And.intro mE bJ))) (And.intro (And.intro (And.intro bQ aV) (And.intro aW aX)) (And.intro (And.intro aY aZ) (And.intro bA (And.intro eC bG))))):=And.intro (And.intro (And.intro (And.intro aM cH) (And.intro bB bM)) (And.intro (And.intro bO dZ) (And.intro mE bJ))) (And.intro (And.intro (And.intro bQ aV) (And.intro aW aX)) (And.intro (And.intro aY aZ) (And.intro bA (And.intro eC bG))))
theorem jT:type_of% (And.intro (And.intro (And.intro (And.intro aM cH) (And.intro bB bM)) (And.intro (And.intro bO bQ) (And.intro aV (And.intro aW aX)))) (And.intro (And.intro (And.intro aY aZ) (And.intro bA (And.intro eC bJ))) (And.intro (And.intro bG eX) (And.intro dG (And.intro dJ dK))))):=And.intro (And.intro (And.intro (And.intro aM cH) (And.intro bB bM)) (And.intro (And.intro bO bQ) (And.intro aV (And.intro aW aX)))) (And.intro (And.intro (And.intro aY aZ) (And.intro bA (And.intro eC bJ))) (And.intro (And.intro bG eX) (And.intro dG (And.intro dJ dK))))
theorem zP:type_of% (And.intro (And.intro (And.intro (And.intro aM (And.intro cH bB)) (And.intro bM (And.intro bO bQ))) (And.intro (And.intro aV (And.intro aW aX)) (And.intro aY (And.intro aZ bA)))) (And.intro (And.intro (And.intro eC (And.intro bJ bG)) (And.intro jS (And.intro eY bT))) (And.intro (And.intro bU (And.intro bW eX)) (And.intro dG (And.intro dJ dK))))):=And.intro (And.intro (And.intro (And.intro aM (And.intro cH bB)) (And.intro bM (And.intro bO bQ))) (And.intro (And.intro aV (And.intro aW aX)) (And.intro aY (And.intro aZ bA)))) (And.intro (And.intro (And.intro eC (And.intro bJ bG)) (And.intro jS (And.intro eY bT))) (And.intro (And.intro bU (And.intro bW eX)) (And.intro dG (And.intro dJ dK))))
theorem eG:type_of% (And.intro (And.intro (And.intro (And.intro aM cH) (And.intro bB bM)) (And.intro (And.intro bO bJ) (And.intro bG (And.intro jS bQ)))) (And.intro (And.intro (And.intro aV aW) (And.intro aX (And.intro aY aZ))) (And.intro (And.intro bA eC) (And.intro bT (And.intro bW bU))))):=And.intro (And.intro (And.intro (And.intro aM cH) (And.intro bB bM)) (And.intro (And.intro bO bJ) (And.intro bG (And.intro jS bQ)))) (And.intro (And.intro (And.intro aV aW) (And.intro aX (And.intro aY aZ))) (And.intro (And.intro bA eC) (And.intro bT (And.intro bW bU))))
theorem aP:type_of% (And.intro (And.intro (And.intro (And.intro aM (And.intro cH bB)) (And.intro bM (And.intro bO bQ))) (And.intro (And.intro aV (And.intro aW aX)) (And.intro aY (And.intro aZ bA)))) (And.intro (And.intro (And.intro eC (And.intro bJ bG)) (And.intro dH (And.intro jS dG))) (And.intro (And.intro dK (And.intro dJ eX)) (And.intro (And.intro bT bW) (And.intro bU eY))))):=And.intro (And.intro (And.intro (And.intro aM (And.intro cH bB)) (And.intro bM (And.intro bO bQ))) (And.intro (And.intro aV (And.intro aW aX)) (And.intro aY (And.intro aZ bA)))) (And.intro (And.intro (And.intro eC (And.intro bJ bG)) (And.intro dH (And.intro jS dG))) (And.intro (And.intro dK (And.intro dJ eX)) (And.intro (And.intro bT bW) (And.intro bU eY))))
theorem kZ:type_of% (And.intro (And.intro aM (And.intro cH bB)) (And.intro (And.intro bM bO) (And.intro bJ bG))):=And.intro (And.intro aM (And.intro cH bB)) (And.intro (And.intro bM bO) (And.intro bJ bG))
theorem YA:type_of% (And.intro (And.intro (And.intro aM dH) (And.intro fW eK)) (And.intro (And.intro eL eM) (And.intro eN (And.intro eO bJ)))):=And.intro (And.intro (And.intro aM dH) (And.intro fW eK)) (And.intro (And.intro eL eM) (And.intro eN (And.intro eO bJ)))
theorem oO:type_of% (And.intro (And.intro (And.intro (And.intro aM bB) (And.intro bG (And.intro cH bM))) (And.intro (And.intro bO (And.intro bQ aV)) (And.intro aW (And.intro aX aY)))) (And.intro (And.intro (And.intro aZ bA) (And.intro eC (And.intro bJ dG))) (And.intro (And.intro dK (And.intro dJ bT)) (And.intro bW (And.intro bU eY))))):=And.intro (And.intro (And.intro (And.intro aM bB) (And.intro bG (And.intro cH bM))) (And.intro (And.intro bO (And.intro bQ aV)) (And.intro aW (And.intro aX aY)))) (And.intro (And.intro (And.intro aZ bA) (And.intro eC (And.intro bJ dG))) (And.intro (And.intro dK (And.intro dJ bT)) (And.intro bW (And.intro bU eY))))
theorem sH:type_of% (And.intro (And.intro (And.intro bG (And.intro cH bB)) (And.intro bM (And.intro bO dH))) (And.intro (And.intro jS (And.intro eC dG)) (And.intro dK (And.intro dJ eX)))):=And.intro (And.intro (And.intro bG (And.intro cH bB)) (And.intro bM (And.intro bO dH))) (And.intro (And.intro jS (And.intro eC dG)) (And.intro dK (And.intro dJ eX)))
end Go.Proofs.YtaeioidifpebdaaGreatDoor
end
section
namespace Go.Proofs.YtaeioidifpebdaaGreatDoor
open Go Go.RowKit
set_option linter.unusedSimpArgs false
set_option linter.unusedVariables false
def D.cc:D→List C
 | mk k c neg mag t l=>[.v (.int .i64 k),.v (.int .i32 c),.v (.bool neg),.sl 1 (mag.map fun n=>[.v (.int .u32 n)]),.v (.string t),.sl 6 (l.map D.cc)]
theorem D.cc_eq (d:D):d.cc=[.v (.int .i64 d.k),.v (.int .i32 d.c),.v (.bool d.neg),.sl 1 (d.mag.map fun n=>[.v (.int .u32 n)]),.v (.string d.t),.sl 6 (d.l.map D.cc)]:=by
 cases d;rw [D.cc];rfl
theorem zQ {l:List D} {k:Nat} (h:k<l.length):(l.map D.cc)[k]?=some (l[k]).cc:=by simp [h]
theorem Rd.sl_cc {r:World} {α:Type} {f:α→V} {g:α→List C} {wd:Nat} {l:List α} {u:Value} (hfg:∀x∈l,∀(cs:List Value),Rd r (f x) cs→Ccs ⟨r,[]⟩ (g x) cs) (hw:∀x,(g x).length=wd) (h:Rd r (.sl (l.map f)) [u]):Cc ⟨r,[]⟩ (.sl wd (l.map g)) u:=by
 simp only [Rd] at h
 obtain⟨v,e,h⟩:=h
 cases e
 simp only [Cc,List.length_map]
 refine⟨fun e he=>by obtain⟨x,_,rfl⟩:=List.mem_map.1 he;exact hw x,?_⟩
 rcases h with ⟨h0,h1⟩|⟨b,o,cap,e,l1,l2,hr⟩
 ·exact .inl ⟨by simpa using h0,h1⟩
 ·rw [List.length_map] at e l1
  refine .inr ⟨b,o,cap,e,l1,l2,?_⟩
  clear e l1 l2
  clear hw
  induction l generalizing o with
  | nil=>simp [Crow]
  | cons x l ih =>
   simp only [List.map_cons,RdRow] at hr
   obtain⟨cs,h1,h2,h3⟩:=hr
   simp only [List.map_cons,Crow]
   exact⟨cs,h1,hfg x (by simp) cs h2,ih (fun y hy=>hfg y (by simp [hy])) _ h3⟩
theorem D.cc_len (d:D):d.cc.length=6:=by rw [D.cc_eq];rfl
theorem D.cc_of {r:World} (n:Nat):∀(d:D) (cs:List Value),d.ht≤n→Rd r d.v cs→Ccs ⟨r,[]⟩ d.cc cs:=by
 induction n with
 | zero=>intro d _ h;exact absurd h (by cases d;rw [D.ht];omega)
 | succ n ih =>
  intro d cs hh h
  have hd:∀x∈d.l,x.ht≤n:=fun x hx=>by
   obtain⟨i,hi,rfl⟩:=List.mem_iff_getElem.1 hx
   have:=D.ht_lt hi;omega
  obtain⟨am,cm,al,cl,e,hm,hl,-⟩:=IsD.open ⟨cs,rfl,h⟩
  have e':cs=[.int .i64 d.k,.int .i32 d.c,.bool d.neg,.slice am d.mag.length cm,.string d.t,.slice al d.l.length cl]:=by
   simpa using congrArg Array.toList (Value.agg.inj e)
  subst e'
  rw [D.cc_eq]
  have g1:Cc ⟨r,[]⟩ (.sl 1 (d.mag.map fun n=>[.v (.int .u32 n)])) (.slice am d.mag.length cm):=Rd.sl_cc (fun x _ cs hx=>by simp only [Rd] at hx;subst hx;simp [Ccs,Cc,Value.oneCell']) (fun _=>rfl) hm
  have g2:Cc ⟨r,[]⟩ (.sl 6 (d.l.map D.cc)) (.slice al d.l.length cl):=Rd.sl_cc (fun x hx cs hr=>ih x cs (hd x hx) hr) D.cc_len hl
  simp only [Ccs]
  exact⟨_,_,rfl,by simp [Cc,Value.oneCell'],_,_,rfl,by simp [Cc,Value.oneCell'],_,_,rfl,by simp [Cc,Value.oneCell'],_,_,rfl,g1,_,_,rfl,by simp [Cc,Value.oneCell'],_,_,rfl,g2,rfl⟩
theorem IsD.ca {r:World} {d:D} {v:Value} (h:IsD r d v):Ca ⟨r,[]⟩ (.agg d.cc) v:=by
 obtain⟨cs,rfl,h⟩:=h
 simp only [Ca]
 exact⟨cs,rfl,D.cc_of d.ht d cs (Nat.le_refl _) h⟩
theorem IsDs.ca {r:World} {l:List D} {v:Value} (h:IsDs r l v):Ca ⟨r,[]⟩ (.one (.sl 6 (l.map D.cc))) v:=by
 simp only [Ca]
 exact Rd.sl_cc (fun x _ cs hr=>D.cc_of x.ht x cs (Nat.le_refl _) hr) D.cc_len h
theorem Cc.sl_rd {r:World} {α:Type} {f:α→V} {g:α→List C} {wd:Nat} {l:List α} {u:Value} (hfg:∀x∈l,∀(cs:List Value),Ccs ⟨r,[]⟩ (g x) cs→Rd r (f x) cs) (h:Cc ⟨r,[]⟩ (.sl wd (l.map g)) u):Rd r (.sl (l.map f)) [u]:=by
 simp only [Cc,List.length_map] at h
 simp only [Rd,List.length_map]
 refine⟨u,rfl,?_⟩
 rcases h with ⟨-,⟨h0,h1⟩|⟨b,o,cap,e,l1,l2,hr⟩⟩
 ·exact .inl ⟨by simpa using h0,h1⟩
 ·refine .inr ⟨b,o,cap,e,l1,l2,?_⟩
  clear e l1 l2
  induction l generalizing o with
  | nil=>simp [RdRow]
  | cons x l ih =>
   simp only [List.map_cons,Crow] at hr
   obtain⟨cs,h1,h2,h3⟩:=hr
   simp only [List.map_cons,RdRow]
   exact⟨cs,h1,hfg x (by simp) cs h2,ih (fun y hy=>hfg y (by simp [hy])) _ h3⟩
theorem D.of_cc {r:World} (n:Nat):∀(d:D) (cs:List Value),d.ht≤n→Ccs ⟨r,[]⟩ d.cc cs→Rd r d.v cs:=by
 induction n with
 | zero=>intro d _ h;exact absurd h (by cases d;rw [D.ht];omega)
 | succ n ih =>
  intro d cs hh h
  have hd:∀x∈d.l,x.ht≤n:=fun x hx=>by
   obtain⟨i,hi,rfl⟩:=List.mem_iff_getElem.1 hx
   have:=D.ht_lt hi;omega
  rw [D.cc_eq] at h
  simp only [Ccs] at h
  obtain⟨_,_,rfl,h0,_,_,rfl,h1,_,_,rfl,h2,vm,_,rfl,h3,_,_,rfl,h4,vl,_,rfl,h5,rfl⟩:=h
  simp only [Cc] at h0 h1 h2 h4
  rw [h0.1,h1.1,h2.1,h4.1]
  have g1:IsMag r d.mag vm:=Cc.sl_rd (f:=fun n=>V.val (.int .u32 n)) (fun x _ cs hx=>by simp only [Ccs,Cc] at hx;obtain⟨_,_,rfl,hx,rfl⟩:=hx;simp only [Rd];rw [hx.1]) h3
  have g2:IsDs r d.l vl:=Cc.sl_rd (fun x hx cs hr=>ih x cs (hd x hx) hr) h5
  have:=IsD.mk' (d:=d) g1 g2
  obtain⟨cs',e,hr⟩:=this
  have:cs'=_:=(by simpa using (congrArg Array.toList (Value.agg.inj e)).symm:cs'=[_,_,_,_,_,_])
  subst this
  exact hr
theorem Ca.isD {r:World} {d:D} {v:Value} (h:Ca ⟨r,[]⟩ (.agg d.cc) v):IsD r d v:=by
 simp only [Ca] at h
 obtain⟨cs,rfl,h⟩:=h
 exact⟨cs,rfl,D.of_cc d.ht d cs (Nat.le_refl _) h⟩
theorem Ca.isDs {r:World} {l:List D} {v:Value} (h:Ca ⟨r,[]⟩ (.one (.sl 6 (l.map D.cc))) v):IsDs r l v:=by
 simp only [Ca] at h
 exact Cc.sl_rd (fun x _ cs hr=>D.of_cc x.ht x cs (Nat.le_refl _) hr) h
theorem aAH (w:World):Keeps w (vis (fun _=>false) [] [] w):=fun p v h=>by
 unfold vis
 rw [fA,if_pos (by simp [cD])];exact h
theorem Fr.ext {w w':World} {S0:Nat→Bool} (h:Fr S0 w w') (hs:∀b,S0 b=false):Ext w w':=⟨h.os,h.tape,h.output,h.size,fun b hb=>h.block b hb (hs b)⟩
theorem Ext.fr {w w':World} (S0:Nat→Bool) (h:Ext w w'):Fr S0 w w':=⟨h.os,h.tape,h.output,h.size,fun b hb _=>h.block b hb⟩
theorem Pure.calls {P:Program} {f:FuncId} {xs:List A} {u:Value} (h:Pure P f xs (.one (.v u))) {w:World} {vs:List Value} (hg:GL w) (hb:∀b,GBw w b→b<w.heap.size) (hv:Cas ⟨w,[]⟩ xs vs):Calls P f vs.toArray w fun e w'=>e=.returned u∧Ext w w':=by
 refine (h (fun _=>false) [] w vs ⟨rfl,by simp,by simp,by simp,fun b hb=>(by cases hb),fun b h=>⟨rfl,rfl,hb b h⟩,hg⟩ (Cas.keep (X:=⟨w,[]⟩) (X':=⟨vis (fun _=>false) [] [] w,[]⟩) (aAH w) (Up.refl _) hv)).mono fun e w' ⟨v,m',r,s',he,⟨h1,h2⟩,_,hc,hf,_⟩=>?_
 subst h1 h2
 simp only [Ca,Cc] at hc
 rw [hc.1] at he
 exact⟨he,hf.ext fun _=>rfl⟩
theorem nS {P:Program} {f:FuncId} {xs:List A} {r:A} (h:∀(w:World) (vs:List Value),GL w→Cas ⟨w,[]⟩ xs vs→Calls P f vs.toArray w fun e w'=>∃v,e=.returned v∧Ext w w'∧Ca ⟨cQ w' w.heap.size,[]⟩ r v):Pure P f xs r:=fun H m w vs hs hc=>by
 have hm:m=[]:=by have:=hs.len;simp at this;exact List.eq_nil_of_length_eq_zero (by omega)
 subst hm
 refine (h w vs hs.gl (Cas.keep (X:=⟨vis H [] [] w,[]⟩) (X':=⟨w,[]⟩) (pJ _ _ _ _) (Up.refl _) hc)).mono fun e w' ⟨v,he,hx,hr⟩=>⟨v,[],r,[],he,⟨rfl,rfl⟩,⟨rfl,by simp,by simp,by simp,fun b hb=>Nat.lt_of_lt_of_le (hs.hlt b hb) hx.le,fun b hb'=>have hb:GBw w b:=hb'.back fun c hc=>hx.block c (hs.gb c (.inl hc)).2.2;⟨(hs.gb b hb).1,rfl,Nat.lt_of_lt_of_le (hs.gb b hb).2.2 hx.le⟩,GL.stays (fun b hb=>hx.block b (hs.gb b hb).2.2) hs.gl⟩,?_,hx.fr _,Up.refl _,by simp⟩
 refine Ca.keep (X:=⟨cQ w' w.heap.size,[]⟩) (X':=⟨vis H [] [] w',[]⟩) (Keeps.only fun b hp hb=>?_) (Up.refl _) hr
 simp only [decide_eq_true_eq] at hp
 refine⟨?_,rfl⟩
 cases hH:H b with
 | false=>simp [cD]
 | true=>have:=hs.hlt b hH;omega
theorem QE {P:Program} {f:FuncId} {xs:List A} {r:A} (h:∀(w:World) (vs:List Value),GL w→Cas ⟨w,[]⟩ xs vs→Calls P f vs.toArray w fun e w'=>∃v,e=.returned v∧Ext w w'∧Ca ⟨only w' (fun b=>decide (w.heap.size≤b)||GB b),[]⟩ r v):Pure P f xs r:=fun H m w vs hs hc=>by
 have hm:m=[]:=by have:=hs.len;simp at this;exact List.eq_nil_of_length_eq_zero (by omega)
 subst hm
 refine (h w vs hs.gl (Cas.keep (X:=⟨vis H [] [] w,[]⟩) (X':=⟨w,[]⟩) (pJ _ _ _ _) (Up.refl _) hc)).mono fun e w' ⟨v,he,hx,hr⟩=>?_
 have hgb:∀b,GBw w' b→H b=false∧b<w.heap.size:=fun b hb' =>
  have hb:GBw w b:=hb'.back fun c hc=>hx.block c (hs.gb c (.inl hc)).2.2
  ⟨(hs.gb b hb).1,(hs.gb b hb).2.2⟩
 refine⟨v,[],r,[],he,⟨rfl,rfl⟩,⟨rfl,by simp,by simp,by simp,fun b hb=>Nat.lt_of_lt_of_le (hs.hlt b hb) hx.le,fun b hb=>⟨(hgb b hb).1,rfl,Nat.lt_of_lt_of_le (hgb b hb).2 hx.le⟩,GL.stays (fun b hb=>hx.block b (hs.gb b hb).2.2) hs.gl⟩,?_,hx.fr _,Up.refl _,by simp⟩
 refine Ca.keep (X:=⟨only w' (fun b=>decide (w.heap.size≤b)||GB b),[]⟩) (X':=⟨vis H [] [] w',[]⟩) (Keeps.only fun b hp hb=>?_) (Up.refl _) hr
 simp only [Bool.or_eq_true,decide_eq_true_eq] at hp
 refine⟨?_,rfl⟩
 cases hH:H b with
 | false=>simp [cD]
 | true =>
  rcases hp with hp|hp
  ·have:=hs.hlt b hH;omega
  ·have:=(hgb b (.inl hp)).1;rw [hH] at this;cases this
theorem fU {P:Program} {f:FuncId} {xs:List A} {u:Value} (hu:u.oneCell'=true) (h:∀(w:World) (vs:List Value),GL w→Cas ⟨w,[]⟩ xs vs→Calls P f vs.toArray w fun e w'=>e=.returned u∧Ext w w'):Pure P f xs (.one (.v u)) :=
 nS fun w vs hg hv=>(h w vs hg hv).mono fun e w' ⟨he,hx⟩=>⟨u,he,hx,caV hu⟩
theorem Cas.one1 {X:Cx} {x:A} {vs:List Value} (h:Cas X [x] vs):∃v,vs=[v]∧Ca X x v:=by
 simp only [Cas] at h
 obtain⟨v,r,rfl,hv,rfl⟩:=h
 exact⟨v,rfl,hv⟩
theorem Cas.two {X:Cx} {x y:A} {vs:List Value} (h:Cas X [x,y] vs):∃v u,vs=[v,u]∧Ca X x v∧Ca X y u:=by
 simp only [Cas] at h
 obtain⟨v,r,rfl,hv,u,q,rfl,hu,rfl⟩:=h
 exact⟨v,u,rfl,hv,hu⟩
def Made (P:Program) (f:FuncId) (xs:List A) (r:A):Prop:=∀(w:World) (vs:List Value),GL w→Cas ⟨w,[]⟩ xs vs→Calls P f vs.toArray w fun e w'=>∃v,e=.returned v∧Ext w w'∧Ca ⟨cQ w' w.heap.size,[]⟩ r v
theorem Made.pure {P:Program} {f:FuncId} {xs:List A} {r:A} (h:Made P f xs r):Pure P f xs r:=nS h
theorem StoOk.hid_lt {H:Nat→Bool} {s:List (Option Ob)} {m:List Lo} {w:World} (hs:StoOk H s m w) {b:Nat} (hb:cD s m b=true):b<w.heap.size:=by
 obtain⟨i,ob,l,h1,h2,rfl⟩:=aU.1 hb
 obtain⟨vs,rest,hm,-,-⟩:=(hs.ok i ob l h1 h2).mem
 exact (Array.getElem?_eq_some_iff.1 hm).1
theorem BN {P:Program} {f:FuncId} {xs xs':List A} {p:Prop} {r:A} {H:Nat→Bool} {s:List (Option Ob)} {m:List Lo} {w:World} (hv:gZ s xs=some (p,xs')) (hp:p) (hfn:Made P f xs' r) (hs:StoOk H s m w) (vs:List Value) (hvs:Cas ⟨vis H s m w,m⟩ xs vs) :
  Calls P f vs.toArray w fun e w'=>∃v,e=.returned v∧Fr (fun _=>false) w w'∧Ca ⟨vis H s m w',m⟩ r v:=by
 refine (hfn w vs hs.gl (Cas.keep (X:=⟨vis H [] [] w,[]⟩) (X':=⟨w,[]⟩) (pJ _ _ _ _) (Up.refl _) (nC hs hv hp hvs))).mono fun e w' ⟨v,he,hx,hr⟩=>⟨v,he,hx.fr _,?_⟩
 refine Ca.keep (X:=⟨cQ w' w.heap.size,[]⟩) (X':=⟨vis H s m w',m⟩) (Keeps.only fun b hp hb=>?_) (fun i l h=>by simp at h) hr
 simp only [decide_eq_true_eq] at hp
 refine⟨?_,rfl⟩
 cases hH:H b with
 | true=>have:=hs.hlt b hH;omega
 | false =>
  cases hB:cD s m b with
  | true=>have:=hs.hid_lt hB;omega
  | false=>rfl
theorem CallA.made {P:Program} {nt:Cf} {st:St} {fo:Operand} {args:List Operand} {f:FuncId} {caps:List C} {xs xs':List A} {K:A→Prop} {p:Prop} {r:A} (hf:rdA st.e fo=some (.one (.fn f caps))) (ha:lH st.e args=some xs) (hc:eF P f=true)
  (hv:gZ st.s (xs++caps.map .one)=some (p,xs')) (hp:p) (hfn:Made P f xs' r) (hK:K r):CallA P nt fo args st K :=
 ⟨f,caps,xs,hf,ha,hc,fun H w0 S0 m0 m a w hs vs hvs=>(BN hv hp hfn hs.sto vs hvs).mono fun e w' ⟨v,he,h1,h2⟩=>⟨v,r,he,hK,h1,h2⟩⟩
theorem OpS.made {P:Program} {nt:Cf} {ds:List (Option Tmp)} {e:List (Nat × A)} {s:List (Option Ob)} {d:Option Tmp} {ty:TypeId} {pos:String} {aft:Array Edge} {g:Option (Nat × Bool)} {fo:Operand} {args:List Operand} {tys:Array TypeId} {f:FuncId} {caps:List C} {xs xs':List A} {p:Prop} {r:A} (hg:eS ds e g=some true) (hf:rdA e fo=some (.one (.fn f caps))) (ha:lH e args=some xs) (hc:eF P f=true)
  (hv:gZ s (xs++caps.map .one)=some (p,xs')) (hp:p) (hfn:Made P f xs' r):OpS P nt ds ⟨d,.call { callee:=.value fo,args:=args.toArray,argTypes:=tys },ty,pos,aft,g⟩ e s r s :=
 OpS.call hg hf ha hc fun H w0 S0 m0 mm a w hs vs hvs=>BN hv hp hfn hs.sto vs hvs
end Go.Proofs.YtaeioidifpebdaaGreatDoor
end
