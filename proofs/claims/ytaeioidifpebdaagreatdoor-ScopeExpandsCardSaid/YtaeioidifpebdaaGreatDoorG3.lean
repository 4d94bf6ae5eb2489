/-
 Laid together: Ty, DatC, Bridge, Made.
-/
import Derived.Test.YtaeioidifpebdaaGreatDoorG2
import Derived.Test.YtaeioidifpebdaaGreatDoorProg
import Derived.KernelRfl
import Derived.Test.YtaeioidifpebdaaGreatDoorPlain2
import Derived.Test.YtaeioidifpebdaaGreatDoorChecked
import Derived.Test.YtaeioidifpebdaaGreatDoorPhi
section
namespace Go.Proofs.YtaeioidifpebdaaGreatDoor
set_option linter.unusedVariables false
theorem iG:tyI Tryz.prog 3=some (false,1):=by kernel_rfl
theorem UC:tyI Tryz.prog 4=some (false,1):=by kernel_rfl
theorem QX:GN Tryz.prog 4=true:=by kernel_rfl
theorem jD:tyI Tryz.prog 9=some (false,1):=by kernel_rfl
theorem CK:EI Tryz.prog 9=true:=by kernel_rfl
theorem CL:wH Tryz.prog 9=some true:=by kernel_rfl
theorem mE:tyI Tryz.prog 22=some (false,1):=by kernel_rfl
theorem cH:lV Tryz.prog 22=some (9,1):=by kernel_rfl
theorem dG:wH Tryz.prog 22=some false:=by kernel_rfl
theorem cJ:sN Tryz.prog 22=some 16:=by kernel_rfl
theorem cK:kS Tryz.prog 9=some [.string ⟨#[]⟩]:=by kernel_rfl
theorem VM:tyI Tryz.prog 23=some (false,1):=by kernel_rfl
theorem QY:lV Tryz.prog 23=some (96,1):=by kernel_rfl
theorem QZ:wH Tryz.prog 23=some false:=by kernel_rfl
theorem RA:sN Tryz.prog 23=some 4:=by kernel_rfl
theorem RB:kS Tryz.prog 96=some [.int .u32 0]:=by kernel_rfl
theorem GY:kM Tryz.prog 25 1=some (1,23):=by kernel_rfl
theorem nT:tyI Tryz.prog 26=some (false,1):=by kernel_rfl
theorem bD:lV Tryz.prog 26=some (28,6):=by kernel_rfl
theorem cY:wH Tryz.prog 26=some false:=by kernel_rfl
theorem bQ:sN Tryz.prog 26=some 88:=by kernel_rfl
theorem bR:kS Tryz.prog 28=some [.int .i64 0,.int .i32 0,.bool false,.slice none 0 0,.string ⟨#[]⟩,.slice none 0 0]:=by kernel_rfl
theorem bT:tyI Tryz.prog 28=some (true,6):=by kernel_rfl
theorem gF:xJ Tryz.prog 28=true:=by kernel_rfl
theorem eH:kM Tryz.prog 28 0=some (0,3):=by kernel_rfl
theorem eT:eL Tryz.prog 28 0=some (0,1):=by kernel_rfl
theorem eU:eL Tryz.prog 28 1=some (1,1):=by kernel_rfl
theorem GZ:kM Tryz.prog 28 2=some (2,25):=by kernel_rfl
theorem eV:eL Tryz.prog 28 2=some (2,2):=by kernel_rfl
theorem jE:kM Tryz.prog 28 3=some (4,9):=by kernel_rfl
theorem eW:eL Tryz.prog 28 3=some (4,1):=by kernel_rfl
theorem fQ:kM Tryz.prog 28 4=some (5,26):=by kernel_rfl
theorem eX:eL Tryz.prog 28 4=some (5,1):=by kernel_rfl
theorem dR:kS Tryz.prog 28=some [.int .i64 0,.int .i32 0,.bool false,.slice none 0 0,.string ⟨#[]⟩,.slice none 0 0]:=by kernel_rfl
theorem qI:tyI Tryz.prog 29=some (false,1):=by kernel_rfl
theorem bL:lV Tryz.prog 29=some (31,11):=by kernel_rfl
theorem dI:wH Tryz.prog 29=some false:=by kernel_rfl
theorem bM:sN Tryz.prog 29=some 176:=by kernel_rfl
theorem bO:kS Tryz.prog 31=some [.int .i64 0,.string ⟨#[]⟩,.string ⟨#[]⟩,.slice none 0 0,.int .i64 0,.int .i32 0,.bool false,.slice none 0 0,.string ⟨#[]⟩,.slice none 0 0,.slice none 0 0]:=by kernel_rfl
theorem aX:tyI Tryz.prog 31=some (true,11):=by kernel_rfl
theorem bI:xJ Tryz.prog 31=true:=by kernel_rfl
theorem fR:kM Tryz.prog 31 0=some (0,3):=by kernel_rfl
theorem aN:eL Tryz.prog 31 0=some (0,1):=by kernel_rfl
theorem lN:kM Tryz.prog 31 1=some (1,9):=by kernel_rfl
theorem aO:eL Tryz.prog 31 1=some (1,1):=by kernel_rfl
theorem kC:kM Tryz.prog 31 2=some (2,9):=by kernel_rfl
theorem aP:eL Tryz.prog 31 2=some (2,1):=by kernel_rfl
theorem iJ:kM Tryz.prog 31 3=some (3,22):=by kernel_rfl
theorem aQ:eL Tryz.prog 31 3=some (3,1):=by kernel_rfl
theorem lO:kM Tryz.prog 31 4=some (4,28):=by kernel_rfl
theorem aR:eL Tryz.prog 31 4=some (4,6):=by kernel_rfl
theorem gV:kM Tryz.prog 31 5=some (10,29):=by kernel_rfl
theorem aU:eL Tryz.prog 31 5=some (10,1):=by kernel_rfl
theorem aH:kS Tryz.prog 31=some [.int .i64 0,.string ⟨#[]⟩,.string ⟨#[]⟩,.slice none 0 0,.int .i64 0,.int .i32 0,.bool false,.slice none 0 0,.string ⟨#[]⟩,.slice none 0 0,.slice none 0 0]:=by kernel_rfl
theorem MX:tyI Tryz.prog 52=some (false,1):=by kernel_rfl
theorem zZ:lV Tryz.prog 52=some (72,4):=by kernel_rfl
theorem EL:wH Tryz.prog 52=some false:=by kernel_rfl
theorem AA:sN Tryz.prog 52=some 48:=by kernel_rfl
theorem AB:kS Tryz.prog 72=some [.int .i64 0,.int .i64 0,.int .i64 0,.slice none 0 0]:=by kernel_rfl
theorem xO:tyI Tryz.prog 53=some (false,1):=by kernel_rfl
theorem oI:lV Tryz.prog 53=some (3,1):=by kernel_rfl
theorem rD:wH Tryz.prog 53=some false:=by kernel_rfl
theorem oJ:sN Tryz.prog 53=some 8:=by kernel_rfl
theorem oK:kS Tryz.prog 3=some [.int .i64 0]:=by kernel_rfl
theorem CM:tyI Tryz.prog 55=some (true,5):=by kernel_rfl
theorem MY:xJ Tryz.prog 55=true:=by kernel_rfl
theorem uP:kM Tryz.prog 55 0=some (0,52):=by kernel_rfl
theorem HG:eL Tryz.prog 55 0=some (0,1):=by kernel_rfl
theorem HJ:kM Tryz.prog 55 1=some (1,26):=by kernel_rfl
theorem HK:eL Tryz.prog 55 1=some (1,1):=by kernel_rfl
theorem uQ:kM Tryz.prog 55 2=some (2,22):=by kernel_rfl
theorem HQ:eL Tryz.prog 55 2=some (2,1):=by kernel_rfl
theorem HS:kM Tryz.prog 55 3=some (3,22):=by kernel_rfl
theorem HU:eL Tryz.prog 55 3=some (3,1):=by kernel_rfl
theorem oU:kM Tryz.prog 55 4=some (4,53):=by kernel_rfl
theorem HW:eL Tryz.prog 55 4=some (4,1):=by kernel_rfl
theorem wK:kS Tryz.prog 55=some [.slice none 0 0,.slice none 0 0,.slice none 0 0,.slice none 0 0,.slice none 0 0]:=by kernel_rfl
theorem dX:tyI Tryz.prog 62=some (false,1):=by kernel_rfl
theorem iX:VY Tryz.prog 62=true:=by kernel_rfl
theorem CN:tyI Tryz.prog 72=some (true,4):=by kernel_rfl
theorem yU:xJ Tryz.prog 72=true:=by kernel_rfl
theorem uR:kM Tryz.prog 72 0=some (0,3):=by kernel_rfl
theorem uS:eL Tryz.prog 72 0=some (0,1):=by kernel_rfl
theorem IA:kM Tryz.prog 72 1=some (1,3):=by kernel_rfl
theorem uT:eL Tryz.prog 72 1=some (1,1):=by kernel_rfl
theorem uU:kM Tryz.prog 72 2=some (2,3):=by kernel_rfl
theorem uV:eL Tryz.prog 72 2=some (2,1):=by kernel_rfl
theorem IC:kM Tryz.prog 72 3=some (3,53):=by kernel_rfl
theorem uX:eL Tryz.prog 72 3=some (3,1):=by kernel_rfl
theorem wL:kS Tryz.prog 72=some [.int .i64 0,.int .i64 0,.int .i64 0,.slice none 0 0]:=by kernel_rfl
theorem MZ:xJ Tryz.prog 76=true:=by kernel_rfl
theorem lP:kM Tryz.prog 76 0=some (0,55):=by kernel_rfl
theorem ID:eL Tryz.prog 76 0=some (0,5):=by kernel_rfl
theorem RC:kS Tryz.prog 76=some [.slice none 0 0,.slice none 0 0,.slice none 0 0,.slice none 0 0,.slice none 0 0]:=by kernel_rfl
theorem tH:lV Tryz.prog 98=some (22,1):=by kernel_rfl
theorem wM:wH Tryz.prog 98=some false:=by kernel_rfl
theorem tJ:sN Tryz.prog 98=some 24:=by kernel_rfl
theorem tL:kS Tryz.prog 22=some [.slice none 0 0]:=by kernel_rfl
theorem w3:type_of% (And.intro aX QX):=And.intro aX QX
theorem w4:type_of% (And.intro bT (And.intro aH aX)):=And.intro bT (And.intro aH aX)
theorem w5:type_of% (And.intro (And.intro (And.intro (And.intro bT CL) (And.intro CK dR)) (And.intro (And.intro gF eT) (And.intro eU eV))) (And.intro (And.intro (And.intro eW eX) (And.intro bD bR)) (And.intro (And.intro bQ eH) (And.intro iG (And.intro jE jD))))):=And.intro (And.intro (And.intro (And.intro bT CL) (And.intro CK dR)) (And.intro (And.intro gF eT) (And.intro eU eV))) (And.intro (And.intro (And.intro eW eX) (And.intro bD bR)) (And.intro (And.intro bQ eH) (And.intro iG (And.intro jE jD))))
theorem w6:type_of% (And.intro (And.intro bT (And.intro bD bR)) (And.intro (And.intro bQ aH) (And.intro aX dR))):=And.intro (And.intro bT (And.intro bD bR)) (And.intro (And.intro bQ aH) (And.intro aX dR))
theorem w7:type_of% (And.intro (And.intro (And.intro (And.intro bT bD) (And.intro bR (And.intro bQ aH))) (And.intro (And.intro aX gV) (And.intro qI (And.intro dI bL)))) (And.intro (And.intro (And.intro bM bO) (And.intro fR (And.intro iG iJ))) (And.intro (And.intro mE dG) (And.intro cH (And.intro cJ cK))))):=And.intro (And.intro (And.intro (And.intro bT bD) (And.intro bR (And.intro bQ aH))) (And.intro (And.intro aX gV) (And.intro qI (And.intro dI bL)))) (And.intro (And.intro (And.intro bM bO) (And.intro fR (And.intro iG iJ))) (And.intro (And.intro mE dG) (And.intro cH (And.intro cJ cK))))
theorem w8:type_of% (And.intro (And.intro bT (And.intro CL CK)) (And.intro bD (And.intro bR bQ))):=And.intro (And.intro bT (And.intro CL CK)) (And.intro bD (And.intro bR bQ))
theorem w9:type_of% (And.intro (And.intro (And.intro bT (And.intro aH aX)) (And.intro (And.intro bL bO) (And.intro bM wK))) (And.intro (And.intro (And.intro CM oU) (And.intro xO rD)) (And.intro (And.intro oI oJ) (And.intro oK iG)))):=And.intro (And.intro (And.intro bT (And.intro aH aX)) (And.intro (And.intro bL bO) (And.intro bM wK))) (And.intro (And.intro (And.intro CM oU) (And.intro xO rD)) (And.intro (And.intro oI oJ) (And.intro oK iG)))
theorem w14:type_of% (And.intro (And.intro (And.intro fR iG) (And.intro lN (And.intro jD kC))) (And.intro (And.intro iJ (And.intro mE lO)) (And.intro bT (And.intro gV qI)))):=And.intro (And.intro (And.intro fR iG) (And.intro lN (And.intro jD kC))) (And.intro (And.intro iJ (And.intro mE lO)) (And.intro bT (And.intro gV qI)))
theorem w17:type_of% (And.intro (And.intro (And.intro aH (And.intro bT bI)) (And.intro aN (And.intro aO aP))) (And.intro (And.intro aQ (And.intro aR aU)) (And.intro aX (And.intro iX dX)))):=And.intro (And.intro (And.intro aH (And.intro bT bI)) (And.intro aN (And.intro aO aP))) (And.intro (And.intro aQ (And.intro aR aU)) (And.intro aX (And.intro iX dX)))
theorem w30:type_of% (And.intro (And.intro (And.intro (And.intro jE jD) (And.intro CL CK)) (And.intro (And.intro GZ GY) (And.intro VM (And.intro QZ QY)))) (And.intro (And.intro (And.intro RA RB) (And.intro fQ nT)) (And.intro (And.intro cY bD) (And.intro bQ (And.intro bR bT))))):=And.intro (And.intro (And.intro (And.intro jE jD) (And.intro CL CK)) (And.intro (And.intro GZ GY) (And.intro VM (And.intro QZ QY)))) (And.intro (And.intro (And.intro RA RB) (And.intro fQ nT)) (And.intro (And.intro cY bD) (And.intro bQ (And.intro bR bT))))
theorem w31:type_of% (And.intro (And.intro (And.intro (And.intro (And.intro aH bI) (And.intro aN aO)) (And.intro (And.intro aP aQ) (And.intro aR (And.intro aU bL)))) (And.intro (And.intro (And.intro bO bM) (And.intro aX cH)) (And.intro (And.intro cK cJ) (And.intro wK (And.intro CM uP))))) (And.intro (And.intro (And.intro (And.intro MX EL) (And.intro zZ AA)) (And.intro (And.intro AB uR) (And.intro iG (And.intro uU uQ)))) (And.intro (And.intro (And.intro mE dG) (And.intro jD oU)) (And.intro (And.intro xO rD) (And.intro oI (And.intro oJ oK)))))):=And.intro (And.intro (And.intro (And.intro (And.intro aH bI) (And.intro aN aO)) (And.intro (And.intro aP aQ) (And.intro aR (And.intro aU bL)))) (And.intro (And.intro (And.intro bO bM) (And.intro aX cH)) (And.intro (And.intro cK cJ) (And.intro wK (And.intro CM uP))))) (And.intro (And.intro (And.intro (And.intro MX EL) (And.intro zZ AA)) (And.intro (And.intro AB uR) (And.intro iG (And.intro uU uQ)))) (And.intro (And.intro (And.intro mE dG) (And.intro jD oU)) (And.intro (And.intro xO rD) (And.intro oI (And.intro oJ oK)))))
theorem w32:type_of% (And.intro (And.intro (And.intro (And.intro wK (And.intro MY HG)) (And.intro HK (And.intro HQ HU))) (And.intro (And.intro HW (And.intro CM RC)) (And.intro MZ (And.intro ID dI)))) (And.intro (And.intro (And.intro bL (And.intro bM bO)) (And.intro aX (And.intro aH lP))) (And.intro (And.intro oU (And.intro xO oI)) (And.intro oK (And.intro oJ rD))))):=And.intro (And.intro (And.intro (And.intro wK (And.intro MY HG)) (And.intro HK (And.intro HQ HU))) (And.intro (And.intro HW (And.intro CM RC)) (And.intro MZ (And.intro ID dI)))) (And.intro (And.intro (And.intro bL (And.intro bM bO)) (And.intro aX (And.intro aH lP))) (And.intro (And.intro oU (And.intro xO oI)) (And.intro oK (And.intro oJ rD))))
theorem w35:type_of% (And.intro (And.intro dG cH) (And.intro cJ (And.intro cK jD))):=And.intro (And.intro dG cH) (And.intro cJ (And.intro cK jD))
theorem w37:type_of% (And.intro (And.intro dI (And.intro bL bM)) (And.intro bO (And.intro aX aH))):=And.intro (And.intro dI (And.intro bL bM)) (And.intro bO (And.intro aX aH))
theorem w40:type_of% (And.intro (And.intro (And.intro (And.intro aH bT) (And.intro aX bL)) (And.intro (And.intro bO bM) (And.intro bI (And.intro aN aO)))) (And.intro (And.intro (And.intro aP aQ) (And.intro aR (And.intro aU cY))) (And.intro (And.intro bD bQ) (And.intro bR (And.intro dR dI))))):=And.intro (And.intro (And.intro (And.intro aH bT) (And.intro aX bL)) (And.intro (And.intro bO bM) (And.intro bI (And.intro aN aO)))) (And.intro (And.intro (And.intro aP aQ) (And.intro aR (And.intro aU cY))) (And.intro (And.intro bD bQ) (And.intro bR (And.intro dR dI))))
theorem w49:type_of% (And.intro (And.intro (And.intro (And.intro lP (And.intro uP MX)) (And.intro (And.intro EL zZ) (And.intro AA AB))) (And.intro (And.intro aX (And.intro wL CN)) (And.intro (And.intro fR iG) (And.intro tH tL)))) (And.intro (And.intro (And.intro tJ (And.intro wM gV)) (And.intro (And.intro qI dI) (And.intro bL bM))) (And.intro (And.intro (And.intro bO aH) (And.intro oI oK)) (And.intro (And.intro oJ rD) (And.intro IC xO))))):=And.intro (And.intro (And.intro (And.intro lP (And.intro uP MX)) (And.intro (And.intro EL zZ) (And.intro AA AB))) (And.intro (And.intro aX (And.intro wL CN)) (And.intro (And.intro fR iG) (And.intro tH tL)))) (And.intro (And.intro (And.intro tJ (And.intro wM gV)) (And.intro (And.intro qI dI) (And.intro bL bM))) (And.intro (And.intro (And.intro bO aH) (And.intro oI oK)) (And.intro (And.intro oJ rD) (And.intro IC xO))))
theorem w50:type_of% (And.intro (And.intro (And.intro aX fR) (And.intro iG (And.intro lO bT))) (And.intro (And.intro UC lN) (And.intro jD (And.intro gV qI)))):=And.intro (And.intro (And.intro aX fR) (And.intro iG (And.intro lO bT))) (And.intro (And.intro UC lN) (And.intro jD (And.intro gV qI)))
theorem w55:type_of% (And.intro (And.intro eH (And.intro iG fQ)) (And.intro nT (And.intro bD bT))):=And.intro (And.intro eH (And.intro iG fQ)) (And.intro nT (And.intro bD bT))
theorem w56:type_of% (And.intro (And.intro (And.intro (And.intro aH cY) (And.intro bD bQ)) (And.intro (And.intro bR bI) (And.intro aN (And.intro aO aP)))) (And.intro (And.intro (And.intro aQ aR) (And.intro aU (And.intro dX aX))) (And.intro (And.intro eH iG) (And.intro fQ (And.intro nT bT))))):=And.intro (And.intro (And.intro (And.intro aH cY) (And.intro bD bQ)) (And.intro (And.intro bR bI) (And.intro aN (And.intro aO aP)))) (And.intro (And.intro (And.intro aQ aR) (And.intro aU (And.intro dX aX))) (And.intro (And.intro eH iG) (And.intro fQ (And.intro nT bT))))
theorem w57:type_of% (And.intro (And.intro (And.intro (And.intro aH eH) (And.intro iG bI)) (And.intro (And.intro aN aO) (And.intro aP aQ))) (And.intro (And.intro (And.intro aR aU) (And.intro dX aX)) (And.intro (And.intro bT iX) (And.intro bD (And.intro jE jD))))):=And.intro (And.intro (And.intro (And.intro aH eH) (And.intro iG bI)) (And.intro (And.intro aN aO) (And.intro aP aQ))) (And.intro (And.intro (And.intro aR aU) (And.intro dX aX)) (And.intro (And.intro bT iX) (And.intro bD (And.intro jE jD))))
theorem w58:type_of% (And.intro (And.intro (And.intro aH dR) (And.intro gF eT)) (And.intro (And.intro eU eV) (And.intro eW (And.intro eX aX)))):=And.intro (And.intro (And.intro aH dR) (And.intro gF eT)) (And.intro (And.intro eU eV) (And.intro eW (And.intro eX aX)))
theorem w59:type_of% (And.intro iX dX):=And.intro iX dX
theorem w60:type_of% (And.intro (And.intro (And.intro aH (And.intro dI bL)) (And.intro bM (And.intro bO aX))) (And.intro (And.intro bI (And.intro aN aO)) (And.intro (And.intro aP aQ) (And.intro aR aU)))):=And.intro (And.intro (And.intro aH (And.intro dI bL)) (And.intro bM (And.intro bO aX))) (And.intro (And.intro bI (And.intro aN aO)) (And.intro (And.intro aP aQ) (And.intro aR aU)))
theorem w67:type_of% (And.intro (And.intro dI bL) (And.intro bM (And.intro bO aX))):=And.intro (And.intro dI bL) (And.intro bM (And.intro bO aX))
theorem w68:type_of% (And.intro (And.intro (And.intro (And.intro (And.intro wL yU) (And.intro uS uT)) (And.intro (And.intro uV uX) (And.intro CN (And.intro fR iG)))) (And.intro (And.intro (And.intro lP HJ) (And.intro nT (And.intro cY bD))) (And.intro (And.intro bQ bR) (And.intro uR (And.intro IA lO))))) (And.intro (And.intro (And.intro (And.intro bT dR) (And.intro gF (And.intro eT eU))) (And.intro (And.intro eV eW) (And.intro eX (And.intro fQ lN)))) (And.intro (And.intro (And.intro jD iJ) (And.intro mE (And.intro dG cH))) (And.intro (And.intro cJ cK) (And.intro kC (And.intro uU HS)))))):=And.intro (And.intro (And.intro (And.intro (And.intro wL yU) (And.intro uS uT)) (And.intro (And.intro uV uX) (And.intro CN (And.intro fR iG)))) (And.intro (And.intro (And.intro lP HJ) (And.intro nT (And.intro cY bD))) (And.intro (And.intro bQ bR) (And.intro uR (And.intro IA lO))))) (And.intro (And.intro (And.intro (And.intro bT dR) (And.intro gF (And.intro eT eU))) (And.intro (And.intro eV eW) (And.intro eX (And.intro fQ lN)))) (And.intro (And.intro (And.intro jD iJ) (And.intro mE (And.intro dG cH))) (And.intro (And.intro cJ cK) (And.intro kC (And.intro uU HS)))))
theorem w69:type_of% (And.intro (And.intro tH tL) (And.intro tJ wM)):=And.intro (And.intro tH tL) (And.intro tJ wM)
theorem w70:type_of% (And.intro (And.intro (And.intro iJ mE) (And.intro kC jD)) (And.intro (And.intro cH cK) (And.intro cJ dG))):=And.intro (And.intro (And.intro iJ mE) (And.intro kC jD)) (And.intro (And.intro cH cK) (And.intro cJ dG))
theorem w71:type_of% (And.intro (And.intro (And.intro gV qI) (And.intro dI bL)) (And.intro (And.intro bM bO) (And.intro fR iG))):=And.intro (And.intro (And.intro gV qI) (And.intro dI bL)) (And.intro (And.intro bM bO) (And.intro fR iG))
theorem w72:type_of% (And.intro (And.intro (And.intro (And.intro aH fR) (And.intro iG (And.intro gV qI))) (And.intro (And.intro bI aN) (And.intro aO (And.intro aP aQ)))) (And.intro (And.intro (And.intro aR aU) (And.intro aX (And.intro lO bT))) (And.intro (And.intro iJ mE) (And.intro kC (And.intro jD lN))))):=And.intro (And.intro (And.intro (And.intro aH fR) (And.intro iG (And.intro gV qI))) (And.intro (And.intro bI aN) (And.intro aO (And.intro aP aQ)))) (And.intro (And.intro (And.intro aR aU) (And.intro aX (And.intro lO bT))) (And.intro (And.intro iJ mE) (And.intro kC (And.intro jD lN))))
theorem w73:type_of% (And.intro (And.intro dG cH) (And.intro cJ (And.intro cK jD))):=And.intro (And.intro dG cH) (And.intro cJ (And.intro cK jD))
theorem w74:type_of% (And.intro aX UC):=And.intro aX UC
theorem w82:type_of% (And.intro (And.intro eH iG) (And.intro jE jD)):=And.intro (And.intro eH iG) (And.intro jE jD)
theorem w85:type_of% (And.intro (And.intro eH iG) (And.intro jE (And.intro jD dX))):=And.intro (And.intro eH iG) (And.intro jE (And.intro jD dX))
theorem w86:type_of% (And.intro aH (And.intro bT aX)):=And.intro aH (And.intro bT aX)
theorem w87:type_of% (And.intro (And.intro (And.intro aH bI) (And.intro aN aO)) (And.intro (And.intro aP aQ) (And.intro aR (And.intro aU aX)))):=And.intro (And.intro (And.intro aH bI) (And.intro aN aO)) (And.intro (And.intro aP aQ) (And.intro aR (And.intro aU aX)))
theorem w88:type_of% (And.intro bT dX):=And.intro bT dX
theorem w89:type_of% (And.intro (And.intro (And.intro (And.intro aH cY) (And.intro bD bQ)) (And.intro (And.intro bR bT) (And.intro aX (And.intro bL bO)))) (And.intro (And.intro (And.intro bM bI) (And.intro aN aO)) (And.intro (And.intro aP aQ) (And.intro aR (And.intro aU dI))))):=And.intro (And.intro (And.intro (And.intro aH cY) (And.intro bD bQ)) (And.intro (And.intro bR bT) (And.intro aX (And.intro bL bO)))) (And.intro (And.intro (And.intro bM bI) (And.intro aN aO)) (And.intro (And.intro aP aQ) (And.intro aR (And.intro aU dI))))
theorem w90:type_of% (And.intro (And.intro (And.intro cY (And.intro bD bQ)) (And.intro bR (And.intro bT dR))) (And.intro (And.intro aH (And.intro aX bL)) (And.intro bO (And.intro bM dI)))):=And.intro (And.intro (And.intro cY (And.intro bD bQ)) (And.intro bR (And.intro bT dR))) (And.intro (And.intro aH (And.intro aX bL)) (And.intro bO (And.intro bM dI)))
theorem w91:type_of% (And.intro (And.intro (And.intro aH (And.intro dI bL)) (And.intro (And.intro bM bO) (And.intro bI aN))) (And.intro (And.intro aO (And.intro aP aQ)) (And.intro (And.intro aR aU) (And.intro dX aX)))):=And.intro (And.intro (And.intro aH (And.intro dI bL)) (And.intro (And.intro bM bO) (And.intro bI aN))) (And.intro (And.intro aO (And.intro aP aQ)) (And.intro (And.intro aR aU) (And.intro dX aX)))
theorem w92:type_of% (And.intro (And.intro (And.intro aH bT) (And.intro bI (And.intro aN aO))) (And.intro (And.intro aP aQ) (And.intro aR (And.intro aU aX)))):=And.intro (And.intro (And.intro aH bT) (And.intro bI (And.intro aN aO))) (And.intro (And.intro aP aQ) (And.intro aR (And.intro aU aX)))
theorem w95:type_of% (And.intro (And.intro (And.intro dR bT) (And.intro bD (And.intro bR bQ))) (And.intro (And.intro gF (And.intro eT eU)) (And.intro eV (And.intro eW eX)))):=And.intro (And.intro (And.intro dR bT) (And.intro bD (And.intro bR bQ))) (And.intro (And.intro gF (And.intro eT eU)) (And.intro eV (And.intro eW eX)))
theorem w96:type_of% (And.intro (And.intro (And.intro wL yU) (And.intro uS (And.intro uT uV))) (And.intro (And.intro uX CN) (And.intro lP (And.intro uQ mE)))):=And.intro (And.intro (And.intro wL yU) (And.intro uS (And.intro uT uV))) (And.intro (And.intro uX CN) (And.intro lP (And.intro uQ mE)))
theorem w97:type_of% (And.intro (And.intro cH cK) (And.intro cJ dG)):=And.intro (And.intro cH cK) (And.intro cJ dG)
theorem w98:type_of% (And.intro (And.intro cH cK) (And.intro cJ dG)):=And.intro (And.intro cH cK) (And.intro cJ dG)
theorem pM:type_of% (And.intro (And.intro (And.intro eH iG) (And.intro fQ (And.intro nT bD))) (And.intro (And.intro bT cH) (And.intro cK (And.intro cJ dG)))):=And.intro (And.intro (And.intro eH iG) (And.intro fQ (And.intro nT bD))) (And.intro (And.intro bT cH) (And.intro cK (And.intro cJ dG)))
theorem kA:type_of% (And.intro (And.intro (And.intro (And.intro aH (And.intro cY bD)) (And.intro bQ (And.intro bR bT))) (And.intro (And.intro dR (And.intro aX bL)) (And.intro bO (And.intro bM dI)))) (And.intro (And.intro (And.intro dX (And.intro cH cK)) (And.intro cJ (And.intro dG bI))) (And.intro (And.intro aN (And.intro aO aP)) (And.intro aQ (And.intro aR aU))))):=And.intro (And.intro (And.intro (And.intro aH (And.intro cY bD)) (And.intro bQ (And.intro bR bT))) (And.intro (And.intro dR (And.intro aX bL)) (And.intro bO (And.intro bM dI)))) (And.intro (And.intro (And.intro dX (And.intro cH cK)) (And.intro cJ (And.intro dG bI))) (And.intro (And.intro aN (And.intro aO aP)) (And.intro aQ (And.intro aR aU))))
theorem IE:type_of% (And.intro (And.intro (And.intro (And.intro aH dG) (And.intro cH cJ)) (And.intro (And.intro cK bI) (And.intro aN aO))) (And.intro (And.intro (And.intro aP aQ) (And.intro aR aU)) (And.intro (And.intro dX aX) (And.intro bL (And.intro bO bM))))):=And.intro (And.intro (And.intro (And.intro aH dG) (And.intro cH cJ)) (And.intro (And.intro cK bI) (And.intro aN aO))) (And.intro (And.intro (And.intro aP aQ) (And.intro aR aU)) (And.intro (And.intro dX aX) (And.intro bL (And.intro bO bM))))
theorem fG:type_of% (And.intro (And.intro (And.intro aH (And.intro bT dR)) (And.intro aX (And.intro eH iG))) (And.intro (And.intro fQ (And.intro nT bL)) (And.intro bO (And.intro bM bD)))):=And.intro (And.intro (And.intro aH (And.intro bT dR)) (And.intro aX (And.intro eH iG))) (And.intro (And.intro fQ (And.intro nT bL)) (And.intro bO (And.intro bM bD)))
theorem XL:type_of% (And.intro (And.intro (And.intro aH (And.intro aX bL)) (And.intro bO (And.intro bM bI))) (And.intro (And.intro aN (And.intro aO aP)) (And.intro aQ (And.intro aR aU)))):=And.intro (And.intro (And.intro aH (And.intro aX bL)) (And.intro bO (And.intro bM bI))) (And.intro (And.intro aN (And.intro aO aP)) (And.intro aQ (And.intro aR aU)))
theorem UD:type_of% (And.intro (And.intro (And.intro aH (And.intro cY bD)) (And.intro (And.intro bQ bR) (And.intro bI aN))) (And.intro (And.intro aO (And.intro aP aQ)) (And.intro (And.intro aR aU) (And.intro dX aX)))):=And.intro (And.intro (And.intro aH (And.intro cY bD)) (And.intro (And.intro bQ bR) (And.intro bI aN))) (And.intro (And.intro aO (And.intro aP aQ)) (And.intro (And.intro aR aU) (And.intro dX aX)))
theorem pN:type_of% (And.intro (And.intro (And.intro (And.intro aH cY) (And.intro bD bQ)) (And.intro (And.intro bR aX) (And.intro bT iX))) (And.intro (And.intro (And.intro bI aN) (And.intro aO aP)) (And.intro (And.intro aQ aR) (And.intro aU dX)))):=And.intro (And.intro (And.intro (And.intro aH cY) (And.intro bD bQ)) (And.intro (And.intro bR aX) (And.intro bT iX))) (And.intro (And.intro (And.intro bI aN) (And.intro aO aP)) (And.intro (And.intro aQ aR) (And.intro aU dX)))
theorem VZ:type_of% (And.intro (And.intro (And.intro aH cH) (And.intro cK cJ)) (And.intro (And.intro aX bT) (And.intro bD (And.intro bR bQ)))):=And.intro (And.intro (And.intro aH cH) (And.intro cK cJ)) (And.intro (And.intro aX bT) (And.intro bD (And.intro bR bQ)))
theorem qN:type_of% (And.intro (And.intro (And.intro aH aX) (And.intro bI (And.intro aN aO))) (And.intro (And.intro aP aQ) (And.intro aR (And.intro aU dX)))):=And.intro (And.intro (And.intro aH aX) (And.intro bI (And.intro aN aO))) (And.intro (And.intro aP aQ) (And.intro aR (And.intro aU dX)))
theorem WA:type_of% (And.intro (And.intro (And.intro dR bT) (And.intro gF (And.intro eT eU))) (And.intro (And.intro eV (And.intro eW eX)) (And.intro fQ (And.intro nT bD)))):=And.intro (And.intro (And.intro dR bT) (And.intro gF (And.intro eT eU))) (And.intro (And.intro eV (And.intro eW eX)) (And.intro fQ (And.intro nT bD)))
theorem EM:type_of% (And.intro (And.intro wM tH) (And.intro tJ (And.intro tL mE))):=And.intro (And.intro wM tH) (And.intro tJ (And.intro tL mE))
theorem KU:type_of% (And.intro (And.intro dG cH) (And.intro cJ (And.intro cK jD))):=And.intro (And.intro dG cH) (And.intro cJ (And.intro cK jD))
theorem KV:type_of% (And.intro (And.intro dG (And.intro cH cJ)) (And.intro cK (And.intro jD dX))):=And.intro (And.intro dG (And.intro cH cJ)) (And.intro cK (And.intro jD dX))
theorem uY:type_of% (And.intro (And.intro cY (And.intro bD bQ)) (And.intro bR (And.intro bT dR))):=And.intro (And.intro cY (And.intro bD bQ)) (And.intro bR (And.intro bT dR))
theorem jF:type_of% (And.intro (And.intro (And.intro (And.intro aH dG) (And.intro cH cJ)) (And.intro (And.intro cK jD) (And.intro bL (And.intro aX bO)))) (And.intro (And.intro (And.intro bM bI) (And.intro aN aO)) (And.intro (And.intro aP aQ) (And.intro aR (And.intro aU dI))))):=And.intro (And.intro (And.intro (And.intro aH dG) (And.intro cH cJ)) (And.intro (And.intro cK jD) (And.intro bL (And.intro aX bO)))) (And.intro (And.intro (And.intro bM bI) (And.intro aN aO)) (And.intro (And.intro aP aQ) (And.intro aR (And.intro aU dI))))
theorem IG:type_of% (And.intro (And.intro (And.intro dR (And.intro bT cY)) (And.intro bD (And.intro bQ bR))) (And.intro (And.intro gF (And.intro eT eU)) (And.intro eV (And.intro eW eX)))):=And.intro (And.intro (And.intro dR (And.intro bT cY)) (And.intro bD (And.intro bQ bR))) (And.intro (And.intro gF (And.intro eT eU)) (And.intro eV (And.intro eW eX)))
theorem EN:type_of% (And.intro (And.intro (And.intro aH aX) (And.intro dR gF)) (And.intro (And.intro eT eU) (And.intro eV (And.intro eW eX)))):=And.intro (And.intro (And.intro aH aX) (And.intro dR gF)) (And.intro (And.intro eT eU) (And.intro eV (And.intro eW eX)))
theorem XM:type_of% (And.intro (And.intro (And.intro aH bI) (And.intro aN aO)) (And.intro (And.intro aP aQ) (And.intro aR (And.intro aU aX)))):=And.intro (And.intro (And.intro aH bI) (And.intro aN aO)) (And.intro (And.intro aP aQ) (And.intro aR (And.intro aU aX)))
theorem yD:type_of% (And.intro (And.intro aH aX) (And.intro bL (And.intro bO bM))):=And.intro (And.intro aH aX) (And.intro bL (And.intro bO bM))
theorem oL:type_of% (And.intro (And.intro (And.intro aH cY) (And.intro bD (And.intro bQ bR))) (And.intro (And.intro aX bT) (And.intro bL (And.intro bO bM)))):=And.intro (And.intro (And.intro aH cY) (And.intro bD (And.intro bQ bR))) (And.intro (And.intro aX bT) (And.intro bL (And.intro bO bM)))
theorem OG:type_of% (And.intro (And.intro aH (And.intro aX bL)) (And.intro bO (And.intro bM dI))):=And.intro (And.intro aH (And.intro aX bL)) (And.intro bO (And.intro bM dI))
theorem EO:type_of% (And.intro (And.intro (And.intro (And.intro aH cY) (And.intro bD bQ)) (And.intro (And.intro bR eH) (And.intro iG aX))) (And.intro (And.intro (And.intro bI aN) (And.intro aO aP)) (And.intro (And.intro aQ aR) (And.intro aU (And.intro dX bT))))):=And.intro (And.intro (And.intro (And.intro aH cY) (And.intro bD bQ)) (And.intro (And.intro bR eH) (And.intro iG aX))) (And.intro (And.intro (And.intro bI aN) (And.intro aO aP)) (And.intro (And.intro aQ aR) (And.intro aU (And.intro dX bT))))
theorem iY:type_of% (And.intro (And.intro (And.intro (And.intro aH cY) (And.intro bD bQ)) (And.intro (And.intro bR bI) (And.intro aN (And.intro aO aP)))) (And.intro (And.intro (And.intro aQ aR) (And.intro aU (And.intro dX aX))) (And.intro (And.intro bT dG) (And.intro cH (And.intro cJ cK))))):=And.intro (And.intro (And.intro (And.intro aH cY) (And.intro bD bQ)) (And.intro (And.intro bR bI) (And.intro aN (And.intro aO aP)))) (And.intro (And.intro (And.intro aQ aR) (And.intro aU (And.intro dX aX))) (And.intro (And.intro bT dG) (And.intro cH (And.intro cJ cK))))
theorem yE:type_of% (And.intro (And.intro (And.intro (And.intro aH (And.intro cY bD)) (And.intro bQ (And.intro bR bI))) (And.intro (And.intro aN (And.intro aO aP)) (And.intro aQ (And.intro aR aU)))) (And.intro (And.intro (And.intro dX (And.intro aX bT)) (And.intro iX (And.intro dI bL))) (And.intro (And.intro bM (And.intro bO dG)) (And.intro cH (And.intro cJ cK))))):=And.intro (And.intro (And.intro (And.intro aH (And.intro cY bD)) (And.intro bQ (And.intro bR bI))) (And.intro (And.intro aN (And.intro aO aP)) (And.intro aQ (And.intro aR aU)))) (And.intro (And.intro (And.intro dX (And.intro aX bT)) (And.intro iX (And.intro dI bL))) (And.intro (And.intro bM (And.intro bO dG)) (And.intro cH (And.intro cJ cK))))
theorem eA:type_of% (And.intro (And.intro (And.intro (And.intro aH cY) (And.intro bD bQ)) (And.intro (And.intro bR aX) (And.intro bT (And.intro iX bI)))) (And.intro (And.intro (And.intro aN aO) (And.intro aP (And.intro aQ aR))) (And.intro (And.intro aU dX) (And.intro bL (And.intro bO bM))))):=And.intro (And.intro (And.intro (And.intro aH cY) (And.intro bD bQ)) (And.intro (And.intro bR aX) (And.intro bT (And.intro iX bI)))) (And.intro (And.intro (And.intro aN aO) (And.intro aP (And.intro aQ aR))) (And.intro (And.intro aU dX) (And.intro bL (And.intro bO bM))))
theorem aL:type_of% (And.intro (And.intro (And.intro (And.intro aH (And.intro cY bD)) (And.intro bQ (And.intro bR bI))) (And.intro (And.intro aN (And.intro aO aP)) (And.intro aQ (And.intro aR aU)))) (And.intro (And.intro (And.intro dX (And.intro aX bT)) (And.intro dR (And.intro iX cH))) (And.intro (And.intro cK (And.intro cJ dG)) (And.intro (And.intro bL bO) (And.intro bM dI))))):=And.intro (And.intro (And.intro (And.intro aH (And.intro cY bD)) (And.intro bQ (And.intro bR bI))) (And.intro (And.intro aN (And.intro aO aP)) (And.intro aQ (And.intro aR aU)))) (And.intro (And.intro (And.intro dX (And.intro aX bT)) (And.intro dR (And.intro iX cH))) (And.intro (And.intro cK (And.intro cJ dG)) (And.intro (And.intro bL bO) (And.intro bM dI))))
theorem kD:type_of% (And.intro (And.intro aH (And.intro cY bD)) (And.intro (And.intro bQ bR) (And.intro aX bT))):=And.intro (And.intro aH (And.intro cY bD)) (And.intro (And.intro bQ bR) (And.intro aX bT))
theorem WB:type_of% (And.intro (And.intro (And.intro aH dR) (And.intro gF eT)) (And.intro (And.intro eU eV) (And.intro eW (And.intro eX aX)))):=And.intro (And.intro (And.intro aH dR) (And.intro gF eT)) (And.intro (And.intro eU eV) (And.intro eW (And.intro eX aX)))
theorem nM:type_of% (And.intro (And.intro (And.intro (And.intro aH bD) (And.intro bT (And.intro cY bQ))) (And.intro (And.intro bR (And.intro bI aN)) (And.intro aO (And.intro aP aQ)))) (And.intro (And.intro (And.intro aR aU) (And.intro dX (And.intro aX cH))) (And.intro (And.intro cK (And.intro cJ bL)) (And.intro bO (And.intro bM dI))))):=And.intro (And.intro (And.intro (And.intro aH bD) (And.intro bT (And.intro cY bQ))) (And.intro (And.intro bR (And.intro bI aN)) (And.intro aO (And.intro aP aQ)))) (And.intro (And.intro (And.intro aR aU) (And.intro dX (And.intro aX cH))) (And.intro (And.intro cK (And.intro cJ bL)) (And.intro bO (And.intro bM dI))))
theorem rE:type_of% (And.intro (And.intro (And.intro bT (And.intro cY bD)) (And.intro bQ (And.intro bR dR))) (And.intro (And.intro iX (And.intro dX cH)) (And.intro cK (And.intro cJ dG)))):=And.intro (And.intro (And.intro bT (And.intro cY bD)) (And.intro bQ (And.intro bR dR))) (And.intro (And.intro iX (And.intro dX cH)) (And.intro cK (And.intro cJ dG)))
end Go.Proofs.YtaeioidifpebdaaGreatDoor
end
section
namespace Go.Proofs.YtaeioidifpebdaaGreatDoor
open Go Go.RowKit
set_option linter.unusedSimpArgs false
set_option linter.unusedVariables false
def D.cc:D→List C
 | mk k c neg mag t l=>[.v (.int .i64 k),.v (.int .i32 c),.v (.bool neg),.sl 1 (mag.map fun n=>[.v (.int .u32 n)]),.v (.string t),.sl 6 (l.map D.cc)]
theorem D.cc_eq (d:D):d.cc=[.v (.int .i64 d.k),.v (.int .i32 d.c),.v (.bool d.neg),.sl 1 (d.mag.map fun n=>[.v (.int .u32 n)]),.v (.string d.t),.sl 6 (d.l.map D.cc)]:=by
 cases d;rw [D.cc];rfl
theorem EP {l:List D} {k:Nat} (h:k<l.length):(l.map D.cc)[k]?=some (l[k]).cc:=by simp [h]
theorem Rd.sl_cc {r:World} {α:Type} {f:α→V} {g:α→List C} {wd:Nat} {l:List α} {u:Value} (hfg:∀x∈l,∀(cs:List Value),Rd r (f x) cs→Ccs ⟨r,[]⟩ (g x) cs) (hw:∀x,(g x).length=wd) (h:Rd r (.sl (l.map f)) [u]):Cc ⟨r,[]⟩ (.sl wd (l.map g)) u:=by
 simp only [Rd] at h
 obtain⟨v,e,h⟩:=h
 cases e
 simp only [Cc,List.length_map]
 refine⟨fun e he=>by obtain⟨x,_,rfl⟩:=List.mem_map.1 he;exact hw x,?_⟩
 rcases h with ⟨h0,h1⟩|⟨b,o,cap,e,l1,l2,hr⟩
 ·exact .inl ⟨by simpa using h0,h1⟩
 ·rw [List.length_map] at e l1
  refine .inr ⟨b,o,cap,e,l1,l2,?_⟩
  clear e l1 l2
  clear hw
  induction l generalizing o with
  | nil=>simp [Crow]
  | cons x l ih =>
   simp only [List.map_cons,RdRow] at hr
   obtain⟨cs,h1,h2,h3⟩:=hr
   simp only [List.map_cons,Crow]
   exact⟨cs,h1,hfg x (by simp) cs h2,ih (fun y hy=>hfg y (by simp [hy])) _ h3⟩
theorem D.cc_len (d:D):d.cc.length=6:=by rw [D.cc_eq];rfl
theorem D.cc_of {r:World} (n:Nat):∀(d:D) (cs:List Value),d.ht≤n→Rd r d.v cs→Ccs ⟨r,[]⟩ d.cc cs:=by
 induction n with
 | zero=>intro d _ h;exact absurd h (by cases d;rw [D.ht];omega)
 | succ n ih =>
  intro d cs hh h
  have hd:∀x∈d.l,x.ht≤n:=fun x hx=>by
   obtain⟨i,hi,rfl⟩:=List.mem_iff_getElem.1 hx
   have:=D.ht_lt hi;omega
  obtain⟨am,cm,al,cl,e,hm,hl,-⟩:=IsD.open ⟨cs,rfl,h⟩
  have e':cs=[.int .i64 d.k,.int .i32 d.c,.bool d.neg,.slice am d.mag.length cm,.string d.t,.slice al d.l.length cl]:=by
   simpa using congrArg Array.toList (Value.agg.inj e)
  subst e'
  rw [D.cc_eq]
  have g1:Cc ⟨r,[]⟩ (.sl 1 (d.mag.map fun n=>[.v (.int .u32 n)])) (.slice am d.mag.length cm):=Rd.sl_cc (fun x _ cs hx=>by simp only [Rd] at hx;subst hx;simp [Ccs,Cc,Value.oneCell']) (fun _=>rfl) hm
  have g2:Cc ⟨r,[]⟩ (.sl 6 (d.l.map D.cc)) (.slice al d.l.length cl):=Rd.sl_cc (fun x hx cs hr=>ih x cs (hd x hx) hr) D.cc_len hl
  simp only [Ccs]
  exact⟨_,_,rfl,by simp [Cc,Value.oneCell'],_,_,rfl,by simp [Cc,Value.oneCell'],_,_,rfl,by simp [Cc,Value.oneCell'],_,_,rfl,g1,_,_,rfl,by simp [Cc,Value.oneCell'],_,_,rfl,g2,rfl⟩
theorem IsD.ca {r:World} {d:D} {v:Value} (h:IsD r d v):Ca ⟨r,[]⟩ (.agg d.cc) v:=by
 obtain⟨cs,rfl,h⟩:=h
 simp only [Ca]
 exact⟨cs,rfl,D.cc_of d.ht d cs (Nat.le_refl _) h⟩
theorem IsDs.ca {r:World} {l:List D} {v:Value} (h:IsDs r l v):Ca ⟨r,[]⟩ (.one (.sl 6 (l.map D.cc))) v:=by
 simp only [Ca]
 exact Rd.sl_cc (fun x _ cs hr=>D.cc_of x.ht x cs (Nat.le_refl _) hr) D.cc_len h
theorem Cc.sl_rd {r:World} {α:Type} {f:α→V} {g:α→List C} {wd:Nat} {l:List α} {u:Value} (hfg:∀x∈l,∀(cs:List Value),Ccs ⟨r,[]⟩ (g x) cs→Rd r (f x) cs) (h:Cc ⟨r,[]⟩ (.sl wd (l.map g)) u):Rd r (.sl (l.map f)) [u]:=by
 simp only [Cc,List.length_map] at h
 simp only [Rd,List.length_map]
 refine⟨u,rfl,?_⟩
 rcases h with ⟨-,⟨h0,h1⟩|⟨b,o,cap,e,l1,l2,hr⟩⟩
 ·exact .inl ⟨by simpa using h0,h1⟩
 ·refine .inr ⟨b,o,cap,e,l1,l2,?_⟩
  clear e l1 l2
  induction l generalizing o with
  | nil=>simp [RdRow]
  | cons x l ih =>
   simp only [List.map_cons,Crow] at hr
   obtain⟨cs,h1,h2,h3⟩:=hr
   simp only [List.map_cons,RdRow]
   exact⟨cs,h1,hfg x (by simp) cs h2,ih (fun y hy=>hfg y (by simp [hy])) _ h3⟩
theorem D.of_cc {r:World} (n:Nat):∀(d:D) (cs:List Value),d.ht≤n→Ccs ⟨r,[]⟩ d.cc cs→Rd r d.v cs:=by
 induction n with
 | zero=>intro d _ h;exact absurd h (by cases d;rw [D.ht];omega)
 | succ n ih =>
  intro d cs hh h
  have hd:∀x∈d.l,x.ht≤n:=fun x hx=>by
   obtain⟨i,hi,rfl⟩:=List.mem_iff_getElem.1 hx
   have:=D.ht_lt hi;omega
  rw [D.cc_eq] at h
  simp only [Ccs] at h
  obtain⟨_,_,rfl,h0,_,_,rfl,h1,_,_,rfl,h2,vm,_,rfl,h3,_,_,rfl,h4,vl,_,rfl,h5,rfl⟩:=h
  simp only [Cc] at h0 h1 h2 h4
  rw [h0.1,h1.1,h2.1,h4.1]
  have g1:IsMag r d.mag vm:=Cc.sl_rd (f:=fun n=>V.val (.int .u32 n)) (fun x _ cs hx=>by simp only [Ccs,Cc] at hx;obtain⟨_,_,rfl,hx,rfl⟩:=hx;simp only [Rd];rw [hx.1]) h3
  have g2:IsDs r d.l vl:=Cc.sl_rd (fun x hx cs hr=>ih x cs (hd x hx) hr) h5
  have:=IsD.mk' (d:=d) g1 g2
  obtain⟨cs',e,hr⟩:=this
  have:cs'=_:=(by simpa using (congrArg Array.toList (Value.agg.inj e)).symm:cs'=[_,_,_,_,_,_])
  subst this
  exact hr
theorem Ca.isD {r:World} {d:D} {v:Value} (h:Ca ⟨r,[]⟩ (.agg d.cc) v):IsD r d v:=by
 simp only [Ca] at h
 obtain⟨cs,rfl,h⟩:=h
 exact⟨cs,rfl,D.of_cc d.ht d cs (Nat.le_refl _) h⟩
theorem Ca.isDs {r:World} {l:List D} {v:Value} (h:Ca ⟨r,[]⟩ (.one (.sl 6 (l.map D.cc))) v):IsDs r l v:=by
 simp only [Ca] at h
 exact Cc.sl_rd (fun x _ cs hr=>D.of_cc x.ht x cs (Nat.le_refl _) hr) h
theorem YI (w:World):Keeps w (vis (fun _=>false) [] [] w):=fun p v h=>by
 unfold vis
 rw [eN,if_pos (by simp [cM])];exact h
theorem Fr.ext {w w':World} {S0:Nat→Bool} (h:Fr S0 w w') (hs:∀b,S0 b=false):Ext w w':=⟨h.os,h.tape,h.output,h.size,fun b hb=>h.block b hb (hs b)⟩
theorem Ext.fr {w w':World} (S0:Nat→Bool) (h:Ext w w'):Fr S0 w w':=⟨h.os,h.tape,h.output,h.size,fun b hb _=>h.block b hb⟩
theorem Pure.calls {P:Program} {f:FuncId} {xs:List A} {u:Value} (h:Pure P f xs (.one (.v u))) {w:World} {vs:List Value} (hg:GL w) (hb:∀b,GBw w b→b<w.heap.size) (hv:Cas ⟨w,[]⟩ xs vs):Calls P f vs.toArray w fun e w'=>e=.returned u∧Ext w w':=by
 refine (h (fun _=>false) [] w vs ⟨rfl,by simp,by simp,by simp,fun b hb=>(by cases hb),fun b h=>⟨rfl,rfl,hb b h⟩,hg⟩ (Cas.keep (X:=⟨w,[]⟩) (X':=⟨vis (fun _=>false) [] [] w,[]⟩) (YI w) (Up.refl _) hv)).mono fun e w' ⟨v,m',r,s',he,⟨h1,h2⟩,_,hc,hf,_⟩=>?_
 subst h1 h2
 simp only [Ca,Cc] at hc
 rw [hc.1] at he
 exact⟨he,hf.ext fun _=>rfl⟩
theorem nA {P:Program} {f:FuncId} {xs:List A} {r:A} (h:∀(w:World) (vs:List Value),GL w→Cas ⟨w,[]⟩ xs vs→Calls P f vs.toArray w fun e w'=>∃v,e=.returned v∧Ext w w'∧Ca ⟨cZ w' w.heap.size,[]⟩ r v):Pure P f xs r:=fun H m w vs hs hc=>by
 have hm:m=[]:=by have:=hs.len;simp at this;exact List.eq_nil_of_length_eq_zero (by omega)
 subst hm
 refine (h w vs hs.gl (Cas.keep (X:=⟨vis H [] [] w,[]⟩) (X':=⟨w,[]⟩) (oS _ _ _ _) (Up.refl _) hc)).mono fun e w' ⟨v,he,hx,hr⟩=>⟨v,[],r,[],he,⟨rfl,rfl⟩,⟨rfl,by simp,by simp,by simp,fun b hb=>Nat.lt_of_lt_of_le (hs.hlt b hb) hx.le,fun b hb'=>have hb:GBw w b:=hb'.back fun c hc=>hx.block c (hs.gb c (.inl hc)).2.2;⟨(hs.gb b hb).1,rfl,Nat.lt_of_lt_of_le (hs.gb b hb).2.2 hx.le⟩,GL.stays (fun b hb=>hx.block b (hs.gb b hb).2.2) hs.gl⟩,?_,hx.fr _,Up.refl _,by simp⟩
 refine Ca.keep (X:=⟨cZ w' w.heap.size,[]⟩) (X':=⟨vis H [] [] w',[]⟩) (Keeps.only fun b hp hb=>?_) (Up.refl _) hr
 simp only [decide_eq_true_eq] at hp
 refine⟨?_,rfl⟩
 cases hH:H b with
 | false=>simp [cM]
 | true=>have:=hs.hlt b hH;omega
theorem OH {P:Program} {f:FuncId} {xs:List A} {r:A} (h:∀(w:World) (vs:List Value),GL w→Cas ⟨w,[]⟩ xs vs→Calls P f vs.toArray w fun e w'=>∃v,e=.returned v∧Ext w w'∧Ca ⟨only w' (fun b=>decide (w.heap.size≤b)||GB b),[]⟩ r v):Pure P f xs r:=fun H m w vs hs hc=>by
 have hm:m=[]:=by have:=hs.len;simp at this;exact List.eq_nil_of_length_eq_zero (by omega)
 subst hm
 refine (h w vs hs.gl (Cas.keep (X:=⟨vis H [] [] w,[]⟩) (X':=⟨w,[]⟩) (oS _ _ _ _) (Up.refl _) hc)).mono fun e w' ⟨v,he,hx,hr⟩=>?_
 have hgb:∀b,GBw w' b→H b=false∧b<w.heap.size:=fun b hb' =>
  have hb:GBw w b:=hb'.back fun c hc=>hx.block c (hs.gb c (.inl hc)).2.2
  ⟨(hs.gb b hb).1,(hs.gb b hb).2.2⟩
 refine⟨v,[],r,[],he,⟨rfl,rfl⟩,⟨rfl,by simp,by simp,by simp,fun b hb=>Nat.lt_of_lt_of_le (hs.hlt b hb) hx.le,fun b hb=>⟨(hgb b hb).1,rfl,Nat.lt_of_lt_of_le (hgb b hb).2 hx.le⟩,GL.stays (fun b hb=>hx.block b (hs.gb b hb).2.2) hs.gl⟩,?_,hx.fr _,Up.refl _,by simp⟩
 refine Ca.keep (X:=⟨only w' (fun b=>decide (w.heap.size≤b)||GB b),[]⟩) (X':=⟨vis H [] [] w',[]⟩) (Keeps.only fun b hp hb=>?_) (Up.refl _) hr
 simp only [Bool.or_eq_true,decide_eq_true_eq] at hp
 refine⟨?_,rfl⟩
 cases hH:H b with
 | false=>simp [cM]
 | true =>
  rcases hp with hp|hp
  ·have:=hs.hlt b hH;omega
  ·have:=(hgb b (.inl hp)).1;rw [hH] at this;cases this
theorem tM {P:Program} {f:FuncId} {xs:List A} {u:Value} (hu:u.oneCell'=true) (h:∀(w:World) (vs:List Value),GL w→Cas ⟨w,[]⟩ xs vs→Calls P f vs.toArray w fun e w'=>e=.returned u∧Ext w w'):Pure P f xs (.one (.v u)) :=
 nA fun w vs hg hv=>(h w vs hg hv).mono fun e w' ⟨he,hx⟩=>⟨u,he,hx,caV hu⟩
theorem Cas.one1 {X:Cx} {x:A} {vs:List Value} (h:Cas X [x] vs):∃v,vs=[v]∧Ca X x v:=by
 simp only [Cas] at h
 obtain⟨v,r,rfl,hv,rfl⟩:=h
 exact⟨v,rfl,hv⟩
theorem Cas.two {X:Cx} {x y:A} {vs:List Value} (h:Cas X [x,y] vs):∃v u,vs=[v,u]∧Ca X x v∧Ca X y u:=by
 simp only [Cas] at h
 obtain⟨v,r,rfl,hv,u,q,rfl,hu,rfl⟩:=h
 exact⟨v,u,rfl,hv,hu⟩
def Made (P:Program) (f:FuncId) (xs:List A) (r:A):Prop:=∀(w:World) (vs:List Value),GL w→Cas ⟨w,[]⟩ xs vs→Calls P f vs.toArray w fun e w'=>∃v,e=.returned v∧Ext w w'∧Ca ⟨cZ w' w.heap.size,[]⟩ r v
theorem Made.pure {P:Program} {f:FuncId} {xs:List A} {r:A} (h:Made P f xs r):Pure P f xs r:=nA h
theorem StoOk.hid_lt {H:Nat→Bool} {s:List (Option Ob)} {m:List Lo} {w:World} (hs:StoOk H s m w) {b:Nat} (hb:cM s m b=true):b<w.heap.size:=by
 obtain⟨i,ob,l,h1,h2,rfl⟩:=bC.1 hb
 obtain⟨vs,rest,hm,-,-⟩:=(hs.ok i ob l h1 h2).mem
 exact (Array.getElem?_eq_some_iff.1 hm).1
theorem AE {P:Program} {f:FuncId} {xs xs':List A} {p:Prop} {r:A} {H:Nat→Bool} {s:List (Option Ob)} {m:List Lo} {w:World} (hv:fL s xs=some (p,xs')) (hp:p) (hfn:Made P f xs' r) (hs:StoOk H s m w) (vs:List Value) (hvs:Cas ⟨vis H s m w,m⟩ xs vs) :
  Calls P f vs.toArray w fun e w'=>∃v,e=.returned v∧Fr (fun _=>false) w w'∧Ca ⟨vis H s m w',m⟩ r v:=by
 refine (hfn w vs hs.gl (Cas.keep (X:=⟨vis H [] [] w,[]⟩) (X':=⟨w,[]⟩) (oS _ _ _ _) (Up.refl _) (mJ hs hv hp hvs))).mono fun e w' ⟨v,he,hx,hr⟩=>⟨v,he,hx.fr _,?_⟩
 refine Ca.keep (X:=⟨cZ w' w.heap.size,[]⟩) (X':=⟨vis H s m w',m⟩) (Keeps.only fun b hp hb=>?_) (fun i l h=>by simp at h) hr
 simp only [decide_eq_true_eq] at hp
 refine⟨?_,rfl⟩
 cases hH:H b with
 | true=>have:=hs.hlt b hH;omega
 | false =>
  cases hB:cM s m b with
  | true=>have:=hs.hid_lt hB;omega
  | false=>rfl
theorem CallA.made {P:Program} {nt:Cf} {st:St} {fo:Operand} {args:List Operand} {f:FuncId} {caps:List C} {xs xs':List A} {K:A→Prop} {p:Prop} {r:A} (hf:rdA st.e fo=some (.one (.fn f caps))) (ha:iW st.e args=some xs) (hc:dH P f=true)
  (hv:fL st.s (xs++caps.map .one)=some (p,xs')) (hp:p) (hfn:Made P f xs' r) (hK:K r):CallA P nt fo args st K :=
 ⟨f,caps,xs,hf,ha,hc,fun H w0 S0 m0 m a w hs vs hvs=>(AE hv hp hfn hs.sto vs hvs).mono fun e w' ⟨v,he,h1,h2⟩=>⟨v,r,he,hK,h1,h2⟩⟩
theorem OpS.made {P:Program} {nt:Cf} {ds:List (Option Tmp)} {e:List (Nat × A)} {s:List (Option Ob)} {d:Option Tmp} {ty:TypeId} {pos:String} {aft:Array Edge} {g:Option (Nat × Bool)} {fo:Operand} {args:List Operand} {tys:Array TypeId} {f:FuncId} {caps:List C} {xs xs':List A} {p:Prop} {r:A} (hg:dY ds e g=some true) (hf:rdA e fo=some (.one (.fn f caps))) (ha:iW e args=some xs) (hc:dH P f=true)
  (hv:fL s (xs++caps.map .one)=some (p,xs')) (hp:p) (hfn:Made P f xs' r):OpS P nt ds ⟨d,.call { callee:=.value fo,args:=args.toArray,argTypes:=tys },ty,pos,aft,g⟩ e s r s :=
 OpS.call hg hf ha hc fun H w0 S0 m0 mm a w hs vs hvs=>AE hv hp hfn hs.sto vs hvs
end Go.Proofs.YtaeioidifpebdaaGreatDoor
end
