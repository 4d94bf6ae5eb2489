/-
 Laid together: Ty, DatC, Bridge, Made.
-/
import Derived.Test.YtaeioidifpebdaaGreatDoorG2
import Derived.Test.YtaeioidifpebdaaGreatDoorProg
import Derived.KernelRfl
import Derived.Test.YtaeioidifpebdaaGreatDoorPlain2
import Derived.Test.YtaeioidifpebdaaGreatDoorChecked
import Derived.Test.YtaeioidifpebdaaGreatDoorPhi
section
namespace Go.Proofs.YtaeioidifpebdaaGreatDoor
set_option linter.unusedVariables false
theorem jT:tyI Tryz.prog 3=some (false,1):=by kernel_rfl
theorem MM:DR Tryz.prog 4=true:=by kernel_rfl
theorem kV:tyI Tryz.prog 9=some (false,1):=by kernel_rfl
theorem zZ:BQ Tryz.prog 9=true:=by kernel_rfl
theorem AA:xF Tryz.prog 9=some true:=by kernel_rfl
theorem AB:tyI Tryz.prog 22=some (false,1):=by kernel_rfl
theorem bW:mA Tryz.prog 22=some (9,1):=by kernel_rfl
theorem dJ:xF Tryz.prog 22=some false:=by kernel_rfl
theorem cA:sW Tryz.prog 22=some 16:=by kernel_rfl
theorem cC:mD Tryz.prog 9=some [.string ⟨#[]⟩]:=by kernel_rfl
theorem RA:tyI Tryz.prog 23=some (false,1):=by kernel_rfl
theorem MN:mA Tryz.prog 23=some (96,1):=by kernel_rfl
theorem MO:xF Tryz.prog 23=some false:=by kernel_rfl
theorem MP:sW Tryz.prog 23=some 4:=by kernel_rfl
theorem MQ:mD Tryz.prog 96=some [.int .u32 0]:=by kernel_rfl
theorem EE:oL Tryz.prog 25 1=some (1,23):=by kernel_rfl
theorem mX:tyI Tryz.prog 26=some (false,1):=by kernel_rfl
theorem aW:mA Tryz.prog 26=some (28,6):=by kernel_rfl
theorem cF:xF Tryz.prog 26=some false:=by kernel_rfl
theorem bF:sW Tryz.prog 26=some 88:=by kernel_rfl
theorem bG:mD Tryz.prog 28=some [.int .i64 0,.int .i32 0,.bool false,.slice none 0 0,.string ⟨#[]⟩,.slice none 0 0]:=by kernel_rfl
theorem bB:tyI Tryz.prog 28=some (true,6):=by kernel_rfl
theorem fA:DT Tryz.prog 28=true:=by kernel_rfl
theorem dQ:oL Tryz.prog 28 0=some (0,3):=by kernel_rfl
theorem eA:iD Tryz.prog 28 0=some (0,1):=by kernel_rfl
theorem eB:iD Tryz.prog 28 1=some (1,1):=by kernel_rfl
theorem EF:oL Tryz.prog 28 2=some (2,25):=by kernel_rfl
theorem eC:iD Tryz.prog 28 2=some (2,2):=by kernel_rfl
theorem gG:oL Tryz.prog 28 3=some (4,9):=by kernel_rfl
theorem eD:iD Tryz.prog 28 3=some (4,1):=by kernel_rfl
theorem fH:oL Tryz.prog 28 4=some (5,26):=by kernel_rfl
theorem eE:iD Tryz.prog 28 4=some (5,1):=by kernel_rfl
theorem dC:mD Tryz.prog 28=some [.int .i64 0,.int .i32 0,.bool false,.slice none 0 0,.string ⟨#[]⟩,.slice none 0 0]:=by kernel_rfl
theorem AE:tyI Tryz.prog 29=some (false,1):=by kernel_rfl
theorem bM:mA Tryz.prog 29=some (31,11):=by kernel_rfl
theorem dY:xF Tryz.prog 29=some false:=by kernel_rfl
theorem bO:sW Tryz.prog 29=some 176:=by kernel_rfl
theorem bP:mD Tryz.prog 31=some [.int .i64 0,.string ⟨#[]⟩,.string ⟨#[]⟩,.slice none 0 0,.int .i64 0,.int .i32 0,.bool false,.slice none 0 0,.string ⟨#[]⟩,.slice none 0 0,.slice none 0 0]:=by kernel_rfl
theorem aZ:tyI Tryz.prog 31=some (true,11):=by kernel_rfl
theorem bJ:DT Tryz.prog 31=true:=by kernel_rfl
theorem nS:oL Tryz.prog 31 0=some (0,3):=by kernel_rfl
theorem aO:iD Tryz.prog 31 0=some (0,1):=by kernel_rfl
theorem tA:oL Tryz.prog 31 1=some (1,9):=by kernel_rfl
theorem aP:iD Tryz.prog 31 1=some (1,1):=by kernel_rfl
theorem tB:oL Tryz.prog 31 2=some (2,9):=by kernel_rfl
theorem aQ:iD Tryz.prog 31 2=some (2,1):=by kernel_rfl
theorem nT:oL Tryz.prog 31 3=some (3,22):=by kernel_rfl
theorem aR:iD Tryz.prog 31 3=some (3,1):=by kernel_rfl
theorem EH:oL Tryz.prog 31 4=some (4,28):=by kernel_rfl
theorem aU:iD Tryz.prog 31 4=some (4,6):=by kernel_rfl
theorem nU:oL Tryz.prog 31 5=some (10,29):=by kernel_rfl
theorem aV:iD Tryz.prog 31 5=some (10,1):=by kernel_rfl
theorem aJ:mD Tryz.prog 31=some [.int .i64 0,.string ⟨#[]⟩,.string ⟨#[]⟩,.slice none 0 0,.int .i64 0,.int .i32 0,.bool false,.slice none 0 0,.string ⟨#[]⟩,.slice none 0 0,.slice none 0 0]:=by kernel_rfl
theorem RB:tyI Tryz.prog 53=some (false,1):=by kernel_rfl
theorem MR:mA Tryz.prog 53=some (3,1):=by kernel_rfl
theorem MS:xF Tryz.prog 53=some false:=by kernel_rfl
theorem MT:sW Tryz.prog 53=some 8:=by kernel_rfl
theorem MU:mD Tryz.prog 3=some [.int .i64 0]:=by kernel_rfl
theorem RC:tyI Tryz.prog 55=some (true,5):=by kernel_rfl
theorem EI:oL Tryz.prog 55 4=some (4,53):=by kernel_rfl
theorem MV:mD Tryz.prog 55=some [.slice none 0 0,.slice none 0 0,.slice none 0 0,.slice none 0 0,.slice none 0 0]:=by kernel_rfl
theorem dV:tyI Tryz.prog 62=some (false,1):=by kernel_rfl
theorem iE:RO Tryz.prog 62=true:=by kernel_rfl
theorem w3:type_of% (And.intro aZ MM):=And.intro aZ MM
theorem w4:type_of% (And.intro bB (And.intro aJ aZ)):=And.intro bB (And.intro aJ aZ)
theorem w5:type_of% (And.intro (And.intro (And.intro (And.intro bB AA) (And.intro zZ dC)) (And.intro (And.intro fA eA) (And.intro eB eC))) (And.intro (And.intro (And.intro eD eE) (And.intro aW bG)) (And.intro (And.intro bF dQ) (And.intro jT (And.intro gG kV))))):=And.intro (And.intro (And.intro (And.intro bB AA) (And.intro zZ dC)) (And.intro (And.intro fA eA) (And.intro eB eC))) (And.intro (And.intro (And.intro eD eE) (And.intro aW bG)) (And.intro (And.intro bF dQ) (And.intro jT (And.intro gG kV))))
theorem w6:type_of% (And.intro (And.intro bB (And.intro aW bG)) (And.intro (And.intro bF aJ) (And.intro aZ dC))):=And.intro (And.intro bB (And.intro aW bG)) (And.intro (And.intro bF aJ) (And.intro aZ dC))
theorem w7:type_of% (And.intro (And.intro (And.intro (And.intro bB aW) (And.intro bG (And.intro bF aJ))) (And.intro (And.intro aZ nU) (And.intro AE (And.intro dY bM)))) (And.intro (And.intro (And.intro bO bP) (And.intro nS (And.intro jT nT))) (And.intro (And.intro AB dJ) (And.intro bW (And.intro cA cC))))):=And.intro (And.intro (And.intro (And.intro bB aW) (And.intro bG (And.intro bF aJ))) (And.intro (And.intro aZ nU) (And.intro AE (And.intro dY bM)))) (And.intro (And.intro (And.intro bO bP) (And.intro nS (And.intro jT nT))) (And.intro (And.intro AB dJ) (And.intro bW (And.intro cA cC))))
theorem w8:type_of% (And.intro (And.intro bB (And.intro AA zZ)) (And.intro aW (And.intro bG bF))):=And.intro (And.intro bB (And.intro AA zZ)) (And.intro aW (And.intro bG bF))
theorem w9:type_of% (And.intro (And.intro (And.intro bB (And.intro aJ aZ)) (And.intro (And.intro bM bP) (And.intro bO MV))) (And.intro (And.intro (And.intro RC EI) (And.intro RB MS)) (And.intro (And.intro MR MT) (And.intro MU jT)))):=And.intro (And.intro (And.intro bB (And.intro aJ aZ)) (And.intro (And.intro bM bP) (And.intro bO MV))) (And.intro (And.intro (And.intro RC EI) (And.intro RB MS)) (And.intro (And.intro MR MT) (And.intro MU jT)))
theorem w11:type_of% (And.intro (And.intro (And.intro dC (And.intro fA eA)) (And.intro eB (And.intro eC eD))) (And.intro (And.intro eE (And.intro bB aW)) (And.intro (And.intro bG bF) (And.intro aJ aZ)))):=And.intro (And.intro (And.intro dC (And.intro fA eA)) (And.intro eB (And.intro eC eD))) (And.intro (And.intro eE (And.intro bB aW)) (And.intro (And.intro bG bF) (And.intro aJ aZ)))
theorem w14:type_of% (And.intro (And.intro (And.intro nS jT) (And.intro tA (And.intro kV tB))) (And.intro (And.intro nT (And.intro AB EH)) (And.intro bB (And.intro nU AE)))):=And.intro (And.intro (And.intro nS jT) (And.intro tA (And.intro kV tB))) (And.intro (And.intro nT (And.intro AB EH)) (And.intro bB (And.intro nU AE)))
theorem w17:type_of% (And.intro (And.intro (And.intro aJ (And.intro bB bJ)) (And.intro aO (And.intro aP aQ))) (And.intro (And.intro aR (And.intro aU aV)) (And.intro aZ (And.intro iE dV)))):=And.intro (And.intro (And.intro aJ (And.intro bB bJ)) (And.intro aO (And.intro aP aQ))) (And.intro (And.intro aR (And.intro aU aV)) (And.intro aZ (And.intro iE dV)))
theorem w18:type_of% (And.intro (And.intro (And.intro (And.intro nS jT) (And.intro tA kV)) (And.intro (And.intro bW cC) (And.intro cA (And.intro dJ nT)))) (And.intro (And.intro (And.intro AB tB) (And.intro nU AE)) (And.intro (And.intro dY bM) (And.intro bO (And.intro bP aZ))))):=And.intro (And.intro (And.intro (And.intro nS jT) (And.intro tA kV)) (And.intro (And.intro bW cC) (And.intro cA (And.intro dJ nT)))) (And.intro (And.intro (And.intro AB tB) (And.intro nU AE)) (And.intro (And.intro dY bM) (And.intro bO (And.intro bP aZ))))
theorem w19:type_of% (And.intro (And.intro (And.intro dQ (And.intro jT gG)) (And.intro (And.intro kV bW) (And.intro cC cA))) (And.intro (And.intro (And.intro dJ fH) (And.intro mX cF)) (And.intro (And.intro aW bF) (And.intro bG bB)))):=And.intro (And.intro (And.intro dQ (And.intro jT gG)) (And.intro (And.intro kV bW) (And.intro cC cA))) (And.intro (And.intro (And.intro dJ fH) (And.intro mX cF)) (And.intro (And.intro aW bF) (And.intro bG bB)))
theorem w21:type_of% (And.intro (And.intro (And.intro dC fA) (And.intro eA eB)) (And.intro (And.intro eC eD) (And.intro eE bB))):=And.intro (And.intro (And.intro dC fA) (And.intro eA eB)) (And.intro (And.intro eC eD) (And.intro eE bB))
theorem w23:type_of% (And.intro dC bB):=And.intro dC bB
theorem w35:type_of% (And.intro (And.intro dJ bW) (And.intro cA (And.intro cC kV))):=And.intro (And.intro dJ bW) (And.intro cA (And.intro cC kV))
theorem w37:type_of% (And.intro (And.intro dY (And.intro bM bO)) (And.intro bP (And.intro aZ aJ))):=And.intro (And.intro dY (And.intro bM bO)) (And.intro bP (And.intro aZ aJ))
theorem w38:type_of% (And.intro (And.intro (And.intro (And.intro gG kV) (And.intro AA zZ)) (And.intro (And.intro EF EE) (And.intro RA (And.intro MO MN)))) (And.intro (And.intro (And.intro MP MQ) (And.intro fH mX)) (And.intro (And.intro cF aW) (And.intro bF (And.intro bG bB))))):=And.intro (And.intro (And.intro (And.intro gG kV) (And.intro AA zZ)) (And.intro (And.intro EF EE) (And.intro RA (And.intro MO MN)))) (And.intro (And.intro (And.intro MP MQ) (And.intro fH mX)) (And.intro (And.intro cF aW) (And.intro bF (And.intro bG bB))))
theorem w40:type_of% (And.intro (And.intro (And.intro (And.intro aJ bB) (And.intro aZ bM)) (And.intro (And.intro bP bO) (And.intro bJ (And.intro aO aP)))) (And.intro (And.intro (And.intro aQ aR) (And.intro aU (And.intro aV cF))) (And.intro (And.intro aW bF) (And.intro bG (And.intro dC dY))))):=And.intro (And.intro (And.intro (And.intro aJ bB) (And.intro aZ bM)) (And.intro (And.intro bP bO) (And.intro bJ (And.intro aO aP)))) (And.intro (And.intro (And.intro aQ aR) (And.intro aU (And.intro aV cF))) (And.intro (And.intro aW bF) (And.intro bG (And.intro dC dY))))
theorem w42:type_of% (And.intro (And.intro dJ bW) (And.intro cA (And.intro cC kV))):=And.intro (And.intro dJ bW) (And.intro cA (And.intro cC kV))
theorem w44:type_of% (And.intro (And.intro (And.intro dC (And.intro fA eA)) (And.intro eB (And.intro eC eD))) (And.intro (And.intro eE (And.intro bB cF)) (And.intro aW (And.intro bF bG)))):=And.intro (And.intro (And.intro dC (And.intro fA eA)) (And.intro eB (And.intro eC eD))) (And.intro (And.intro eE (And.intro bB cF)) (And.intro aW (And.intro bF bG)))
theorem w55:type_of% (And.intro (And.intro dQ (And.intro jT fH)) (And.intro mX (And.intro aW bB))):=And.intro (And.intro dQ (And.intro jT fH)) (And.intro mX (And.intro aW bB))
theorem w56:type_of% (And.intro (And.intro (And.intro (And.intro aJ cF) (And.intro aW bF)) (And.intro (And.intro bG bJ) (And.intro aO (And.intro aP aQ)))) (And.intro (And.intro (And.intro aR aU) (And.intro aV (And.intro dV aZ))) (And.intro (And.intro dQ jT) (And.intro fH (And.intro mX bB))))):=And.intro (And.intro (And.intro (And.intro aJ cF) (And.intro aW bF)) (And.intro (And.intro bG bJ) (And.intro aO (And.intro aP aQ)))) (And.intro (And.intro (And.intro aR aU) (And.intro aV (And.intro dV aZ))) (And.intro (And.intro dQ jT) (And.intro fH (And.intro mX bB))))
theorem w57:type_of% (And.intro (And.intro (And.intro (And.intro aJ dQ) (And.intro jT bJ)) (And.intro (And.intro aO aP) (And.intro aQ aR))) (And.intro (And.intro (And.intro aU aV) (And.intro dV aZ)) (And.intro (And.intro bB iE) (And.intro aW (And.intro gG kV))))):=And.intro (And.intro (And.intro (And.intro aJ dQ) (And.intro jT bJ)) (And.intro (And.intro aO aP) (And.intro aQ aR))) (And.intro (And.intro (And.intro aU aV) (And.intro dV aZ)) (And.intro (And.intro bB iE) (And.intro aW (And.intro gG kV))))
theorem w58:type_of% (And.intro (And.intro (And.intro aJ dC) (And.intro fA eA)) (And.intro (And.intro eB eC) (And.intro eD (And.intro eE aZ)))):=And.intro (And.intro (And.intro aJ dC) (And.intro fA eA)) (And.intro (And.intro eB eC) (And.intro eD (And.intro eE aZ)))
theorem w59:type_of% (And.intro iE dV):=And.intro iE dV
theorem w60:type_of% (And.intro (And.intro (And.intro aJ (And.intro dY bM)) (And.intro bO (And.intro bP aZ))) (And.intro (And.intro bJ (And.intro aO aP)) (And.intro (And.intro aQ aR) (And.intro aU aV)))):=And.intro (And.intro (And.intro aJ (And.intro dY bM)) (And.intro bO (And.intro bP aZ))) (And.intro (And.intro bJ (And.intro aO aP)) (And.intro (And.intro aQ aR) (And.intro aU aV)))
theorem w82:type_of% (And.intro (And.intro dQ jT) (And.intro gG kV)):=And.intro (And.intro dQ jT) (And.intro gG kV)
theorem w85:type_of% (And.intro (And.intro dQ jT) (And.intro gG (And.intro kV dV))):=And.intro (And.intro dQ jT) (And.intro gG (And.intro kV dV))
theorem w86:type_of% (And.intro aJ (And.intro bB aZ)):=And.intro aJ (And.intro bB aZ)
theorem w87:type_of% (And.intro (And.intro (And.intro aJ bJ) (And.intro aO aP)) (And.intro (And.intro aQ aR) (And.intro aU (And.intro aV aZ)))):=And.intro (And.intro (And.intro aJ bJ) (And.intro aO aP)) (And.intro (And.intro aQ aR) (And.intro aU (And.intro aV aZ)))
theorem w88:type_of% (And.intro bB dV):=And.intro bB dV
theorem w89:type_of% (And.intro (And.intro (And.intro (And.intro aJ cF) (And.intro aW bF)) (And.intro (And.intro bG bB) (And.intro aZ (And.intro bM bP)))) (And.intro (And.intro (And.intro bO bJ) (And.intro aO aP)) (And.intro (And.intro aQ aR) (And.intro aU (And.intro aV dY))))):=And.intro (And.intro (And.intro (And.intro aJ cF) (And.intro aW bF)) (And.intro (And.intro bG bB) (And.intro aZ (And.intro bM bP)))) (And.intro (And.intro (And.intro bO bJ) (And.intro aO aP)) (And.intro (And.intro aQ aR) (And.intro aU (And.intro aV dY))))
theorem w90:type_of% (And.intro (And.intro (And.intro cF (And.intro aW bF)) (And.intro bG (And.intro bB dC))) (And.intro (And.intro aJ (And.intro aZ bM)) (And.intro bP (And.intro bO dY)))):=And.intro (And.intro (And.intro cF (And.intro aW bF)) (And.intro bG (And.intro bB dC))) (And.intro (And.intro aJ (And.intro aZ bM)) (And.intro bP (And.intro bO dY)))
theorem w91:type_of% (And.intro (And.intro (And.intro aJ (And.intro dY bM)) (And.intro (And.intro bO bP) (And.intro bJ aO))) (And.intro (And.intro aP (And.intro aQ aR)) (And.intro (And.intro aU aV) (And.intro dV aZ)))):=And.intro (And.intro (And.intro aJ (And.intro dY bM)) (And.intro (And.intro bO bP) (And.intro bJ aO))) (And.intro (And.intro aP (And.intro aQ aR)) (And.intro (And.intro aU aV) (And.intro dV aZ)))
theorem w92:type_of% (And.intro (And.intro (And.intro aJ bB) (And.intro bJ (And.intro aO aP))) (And.intro (And.intro aQ aR) (And.intro aU (And.intro aV aZ)))):=And.intro (And.intro (And.intro aJ bB) (And.intro bJ (And.intro aO aP))) (And.intro (And.intro aQ aR) (And.intro aU (And.intro aV aZ)))
theorem w98:type_of% (And.intro (And.intro bW cC) (And.intro cA dJ)):=And.intro (And.intro bW cC) (And.intro cA dJ)
theorem lR:type_of% (And.intro (And.intro (And.intro dQ jT) (And.intro fH (And.intro mX aW))) (And.intro (And.intro bB bW) (And.intro cC (And.intro cA dJ)))):=And.intro (And.intro (And.intro dQ jT) (And.intro fH (And.intro mX aW))) (And.intro (And.intro bB bW) (And.intro cC (And.intro cA dJ)))
theorem eK:type_of% (And.intro (And.intro (And.intro (And.intro aJ (And.intro cF aW)) (And.intro bF (And.intro bG bB))) (And.intro (And.intro dC (And.intro aZ bM)) (And.intro bP (And.intro bO dY)))) (And.intro (And.intro (And.intro dV (And.intro bW cC)) (And.intro cA (And.intro dJ bJ))) (And.intro (And.intro aO (And.intro aP aQ)) (And.intro aR (And.intro aU aV))))):=And.intro (And.intro (And.intro (And.intro aJ (And.intro cF aW)) (And.intro bF (And.intro bG bB))) (And.intro (And.intro dC (And.intro aZ bM)) (And.intro bP (And.intro bO dY)))) (And.intro (And.intro (And.intro dV (And.intro bW cC)) (And.intro cA (And.intro dJ bJ))) (And.intro (And.intro aO (And.intro aP aQ)) (And.intro aR (And.intro aU aV))))
theorem zL:type_of% (And.intro (And.intro (And.intro (And.intro aJ dJ) (And.intro bW cA)) (And.intro (And.intro cC bJ) (And.intro aO aP))) (And.intro (And.intro (And.intro aQ aR) (And.intro aU aV)) (And.intro (And.intro dV aZ) (And.intro bM (And.intro bP bO))))):=And.intro (And.intro (And.intro (And.intro aJ dJ) (And.intro bW cA)) (And.intro (And.intro cC bJ) (And.intro aO aP))) (And.intro (And.intro (And.intro aQ aR) (And.intro aU aV)) (And.intro (And.intro dV aZ) (And.intro bM (And.intro bP bO))))
theorem bU:type_of% (And.intro (And.intro (And.intro aJ (And.intro bB dC)) (And.intro aZ (And.intro dQ jT))) (And.intro (And.intro fH (And.intro mX bM)) (And.intro bP (And.intro bO aW)))):=And.intro (And.intro (And.intro aJ (And.intro bB dC)) (And.intro aZ (And.intro dQ jT))) (And.intro (And.intro fH (And.intro mX bM)) (And.intro bP (And.intro bO aW)))
theorem SY:type_of% (And.intro (And.intro (And.intro aJ (And.intro aZ bM)) (And.intro bP (And.intro bO bJ))) (And.intro (And.intro aO (And.intro aP aQ)) (And.intro aR (And.intro aU aV)))):=And.intro (And.intro (And.intro aJ (And.intro aZ bM)) (And.intro bP (And.intro bO bJ))) (And.intro (And.intro aO (And.intro aP aQ)) (And.intro aR (And.intro aU aV)))
theorem GK:type_of% (And.intro (And.intro (And.intro aJ (And.intro cF aW)) (And.intro (And.intro bF bG) (And.intro bJ aO))) (And.intro (And.intro aP (And.intro aQ aR)) (And.intro (And.intro aU aV) (And.intro dV aZ)))):=And.intro (And.intro (And.intro aJ (And.intro cF aW)) (And.intro (And.intro bF bG) (And.intro bJ aO))) (And.intro (And.intro aP (And.intro aQ aR)) (And.intro (And.intro aU aV) (And.intro dV aZ)))
theorem fT:type_of% (And.intro (And.intro (And.intro (And.intro aJ cF) (And.intro aW bF)) (And.intro (And.intro bG aZ) (And.intro bB iE))) (And.intro (And.intro (And.intro bJ aO) (And.intro aP aQ)) (And.intro (And.intro aR aU) (And.intro aV dV)))):=And.intro (And.intro (And.intro (And.intro aJ cF) (And.intro aW bF)) (And.intro (And.intro bG aZ) (And.intro bB iE))) (And.intro (And.intro (And.intro bJ aO) (And.intro aP aQ)) (And.intro (And.intro aR aU) (And.intro aV dV)))
theorem RP:type_of% (And.intro (And.intro (And.intro aJ bW) (And.intro cC cA)) (And.intro (And.intro aZ bB) (And.intro aW (And.intro bG bF)))):=And.intro (And.intro (And.intro aJ bW) (And.intro cC cA)) (And.intro (And.intro aZ bB) (And.intro aW (And.intro bG bF)))
theorem kB:type_of% (And.intro (And.intro (And.intro aJ aZ) (And.intro bJ (And.intro aO aP))) (And.intro (And.intro aQ aR) (And.intro aU (And.intro aV dV)))):=And.intro (And.intro (And.intro aJ aZ) (And.intro bJ (And.intro aO aP))) (And.intro (And.intro aQ aR) (And.intro aU (And.intro aV dV)))
theorem RQ:type_of% (And.intro (And.intro (And.intro dC bB) (And.intro fA (And.intro eA eB))) (And.intro (And.intro eC (And.intro eD eE)) (And.intro fH (And.intro mX aW)))):=And.intro (And.intro (And.intro dC bB) (And.intro fA (And.intro eA eB))) (And.intro (And.intro eC (And.intro eD eE)) (And.intro fH (And.intro mX aW)))
theorem GM:type_of% (And.intro (And.intro dJ bW) (And.intro cA (And.intro cC kV))):=And.intro (And.intro dJ bW) (And.intro cA (And.intro cC kV))
theorem zM:type_of% (And.intro (And.intro dJ (And.intro bW cA)) (And.intro cC (And.intro kV dV))):=And.intro (And.intro dJ (And.intro bW cA)) (And.intro cC (And.intro kV dV))
theorem rH:type_of% (And.intro (And.intro cF (And.intro aW bF)) (And.intro bG (And.intro bB dC))):=And.intro (And.intro cF (And.intro aW bF)) (And.intro bG (And.intro bB dC))
theorem gP:type_of% (And.intro (And.intro (And.intro (And.intro aJ dJ) (And.intro bW cA)) (And.intro (And.intro cC kV) (And.intro bM (And.intro aZ bP)))) (And.intro (And.intro (And.intro bO bJ) (And.intro aO aP)) (And.intro (And.intro aQ aR) (And.intro aU (And.intro aV dY))))):=And.intro (And.intro (And.intro (And.intro aJ dJ) (And.intro bW cA)) (And.intro (And.intro cC kV) (And.intro bM (And.intro aZ bP)))) (And.intro (And.intro (And.intro bO bJ) (And.intro aO aP)) (And.intro (And.intro aQ aR) (And.intro aU (And.intro aV dY))))
theorem wJ:type_of% (And.intro (And.intro (And.intro dC (And.intro bB cF)) (And.intro aW (And.intro bF bG))) (And.intro (And.intro fA (And.intro eA eB)) (And.intro eC (And.intro eD eE)))):=And.intro (And.intro (And.intro dC (And.intro bB cF)) (And.intro aW (And.intro bF bG))) (And.intro (And.intro fA (And.intro eA eB)) (And.intro eC (And.intro eD eE)))
theorem tC:type_of% (And.intro (And.intro (And.intro aJ aZ) (And.intro dC fA)) (And.intro (And.intro eA eB) (And.intro eC (And.intro eD eE)))):=And.intro (And.intro (And.intro aJ aZ) (And.intro dC fA)) (And.intro (And.intro eA eB) (And.intro eC (And.intro eD eE)))
theorem SZ:type_of% (And.intro (And.intro (And.intro aJ bJ) (And.intro aO aP)) (And.intro (And.intro aQ aR) (And.intro aU (And.intro aV aZ)))):=And.intro (And.intro (And.intro aJ bJ) (And.intro aO aP)) (And.intro (And.intro aQ aR) (And.intro aU (And.intro aV aZ)))
theorem sC:type_of% (And.intro (And.intro aJ aZ) (And.intro bM (And.intro bP bO))):=And.intro (And.intro aJ aZ) (And.intro bM (And.intro bP bO))
theorem jJ:type_of% (And.intro (And.intro (And.intro aJ cF) (And.intro aW (And.intro bF bG))) (And.intro (And.intro aZ bB) (And.intro bM (And.intro bP bO)))):=And.intro (And.intro (And.intro aJ cF) (And.intro aW (And.intro bF bG))) (And.intro (And.intro aZ bB) (And.intro bM (And.intro bP bO)))
theorem zN:type_of% (And.intro (And.intro aJ (And.intro aZ bM)) (And.intro bP (And.intro bO dY))):=And.intro (And.intro aJ (And.intro aZ bM)) (And.intro bP (And.intro bO dY))
theorem pO:type_of% (And.intro (And.intro (And.intro (And.intro aJ cF) (And.intro aW bF)) (And.intro (And.intro bG dQ) (And.intro jT aZ))) (And.intro (And.intro (And.intro bJ aO) (And.intro aP aQ)) (And.intro (And.intro aR aU) (And.intro aV (And.intro dV bB))))):=And.intro (And.intro (And.intro (And.intro aJ cF) (And.intro aW bF)) (And.intro (And.intro bG dQ) (And.intro jT aZ))) (And.intro (And.intro (And.intro bJ aO) (And.intro aP aQ)) (And.intro (And.intro aR aU) (And.intro aV (And.intro dV bB))))
theorem gW:type_of% (And.intro (And.intro (And.intro (And.intro aJ cF) (And.intro aW bF)) (And.intro (And.intro bG bJ) (And.intro aO (And.intro aP aQ)))) (And.intro (And.intro (And.intro aR aU) (And.intro aV (And.intro dV aZ))) (And.intro (And.intro bB dJ) (And.intro bW (And.intro cA cC))))):=And.intro (And.intro (And.intro (And.intro aJ cF) (And.intro aW bF)) (And.intro (And.intro bG bJ) (And.intro aO (And.intro aP aQ)))) (And.intro (And.intro (And.intro aR aU) (And.intro aV (And.intro dV aZ))) (And.intro (And.intro bB dJ) (And.intro bW (And.intro cA cC))))
theorem kC:type_of% (And.intro (And.intro (And.intro (And.intro aJ (And.intro cF aW)) (And.intro bF (And.intro bG bJ))) (And.intro (And.intro aO (And.intro aP aQ)) (And.intro aR (And.intro aU aV)))) (And.intro (And.intro (And.intro dV (And.intro aZ bB)) (And.intro iE (And.intro dY bM))) (And.intro (And.intro bO (And.intro bP dJ)) (And.intro bW (And.intro cA cC))))):=And.intro (And.intro (And.intro (And.intro aJ (And.intro cF aW)) (And.intro bF (And.intro bG bJ))) (And.intro (And.intro aO (And.intro aP aQ)) (And.intro aR (And.intro aU aV)))) (And.intro (And.intro (And.intro dV (And.intro aZ bB)) (And.intro iE (And.intro dY bM))) (And.intro (And.intro bO (And.intro bP dJ)) (And.intro bW (And.intro cA cC))))
theorem bL:type_of% (And.intro (And.intro (And.intro (And.intro aJ cF) (And.intro aW bF)) (And.intro (And.intro bG aZ) (And.intro bB (And.intro iE bJ)))) (And.intro (And.intro (And.intro aO aP) (And.intro aQ (And.intro aR aU))) (And.intro (And.intro aV dV) (And.intro bM (And.intro bP bO))))):=And.intro (And.intro (And.intro (And.intro aJ cF) (And.intro aW bF)) (And.intro (And.intro bG aZ) (And.intro bB (And.intro iE bJ)))) (And.intro (And.intro (And.intro aO aP) (And.intro aQ (And.intro aR aU))) (And.intro (And.intro aV dV) (And.intro bM (And.intro bP bO))))
theorem aI:type_of% (And.intro (And.intro (And.intro (And.intro aJ (And.intro cF aW)) (And.intro bF (And.intro bG bJ))) (And.intro (And.intro aO (And.intro aP aQ)) (And.intro aR (And.intro aU aV)))) (And.intro (And.intro (And.intro dV (And.intro aZ bB)) (And.intro dC (And.intro iE bW))) (And.intro (And.intro cC (And.intro cA dJ)) (And.intro (And.intro bM bP) (And.intro bO dY))))):=And.intro (And.intro (And.intro (And.intro aJ (And.intro cF aW)) (And.intro bF (And.intro bG bJ))) (And.intro (And.intro aO (And.intro aP aQ)) (And.intro aR (And.intro aU aV)))) (And.intro (And.intro (And.intro dV (And.intro aZ bB)) (And.intro dC (And.intro iE bW))) (And.intro (And.intro cC (And.intro cA dJ)) (And.intro (And.intro bM bP) (And.intro bO dY))))
theorem fI:type_of% (And.intro (And.intro aJ (And.intro cF aW)) (And.intro (And.intro bF bG) (And.intro aZ bB))):=And.intro (And.intro aJ (And.intro cF aW)) (And.intro (And.intro bF bG) (And.intro aZ bB))
theorem RR:type_of% (And.intro (And.intro (And.intro aJ dC) (And.intro fA eA)) (And.intro (And.intro eB eC) (And.intro eD (And.intro eE aZ)))):=And.intro (And.intro (And.intro aJ dC) (And.intro fA eA)) (And.intro (And.intro eB eC) (And.intro eD (And.intro eE aZ)))
theorem fU:type_of% (And.intro (And.intro (And.intro (And.intro aJ aW) (And.intro bB (And.intro cF bF))) (And.intro (And.intro bG (And.intro bJ aO)) (And.intro aP (And.intro aQ aR)))) (And.intro (And.intro (And.intro aU aV) (And.intro dV (And.intro aZ bW))) (And.intro (And.intro cC (And.intro cA bM)) (And.intro bP (And.intro bO dY))))):=And.intro (And.intro (And.intro (And.intro aJ aW) (And.intro bB (And.intro cF bF))) (And.intro (And.intro bG (And.intro bJ aO)) (And.intro aP (And.intro aQ aR)))) (And.intro (And.intro (And.intro aU aV) (And.intro dV (And.intro aZ bW))) (And.intro (And.intro cC (And.intro cA bM)) (And.intro bP (And.intro bO dY))))
theorem kD:type_of% (And.intro (And.intro (And.intro bB (And.intro cF aW)) (And.intro bF (And.intro bG dC))) (And.intro (And.intro iE (And.intro dV bW)) (And.intro cC (And.intro cA dJ)))):=And.intro (And.intro (And.intro bB (And.intro cF aW)) (And.intro bF (And.intro bG dC))) (And.intro (And.intro iE (And.intro dV bW)) (And.intro cC (And.intro cA dJ)))
end Go.Proofs.YtaeioidifpebdaaGreatDoor
end
section
namespace Go.Proofs.YtaeioidifpebdaaGreatDoor
open Go Go.RowKit
set_option linter.unusedSimpArgs false
set_option linter.unusedVariables false
def D.cc:D→List C
 | mk k c neg mag t l=>[.v (.int .i64 k),.v (.int .i32 c),.v (.bool neg),.sl 1 (mag.map fun n=>[.v (.int .u32 n)]),.v (.string t),.sl 6 (l.map D.cc)]
theorem D.cc_eq (d:D):d.cc=[.v (.int .i64 d.k),.v (.int .i32 d.c),.v (.bool d.neg),.sl 1 (d.mag.map fun n=>[.v (.int .u32 n)]),.v (.string d.t),.sl 6 (d.l.map D.cc)]:=by
 cases d;rw [D.cc];rfl
theorem xU {l:List D} {k:Nat} (h:k<l.length):(l.map D.cc)[k]?=some (l[k]).cc:=by simp [h]
theorem Rd.sl_cc {r:World} {α:Type} {f:α→V} {g:α→List C} {wd:Nat} {l:List α} {u:Value} (hfg:∀x∈l,∀(cs:List Value),Rd r (f x) cs→Ccs ⟨r,[]⟩ (g x) cs) (hw:∀x,(g x).length=wd) (h:Rd r (.sl (l.map f)) [u]):Cc ⟨r,[]⟩ (.sl wd (l.map g)) u:=by
 simp only [Rd] at h
 obtain⟨v,e,h⟩:=h
 cases e
 simp only [Cc,List.length_map]
 refine⟨fun e he=>by obtain⟨x,_,rfl⟩:=List.mem_map.1 he;exact hw x,?_⟩
 rcases h with ⟨h0,h1⟩|⟨b,o,cap,e,l1,l2,hr⟩
 ·exact .inl ⟨by simpa using h0,h1⟩
 ·rw [List.length_map] at e l1
  refine .inr ⟨b,o,cap,e,l1,l2,?_⟩
  clear e l1 l2
  clear hw
  induction l generalizing o with
  | nil=>simp [Crow]
  | cons x l ih =>
   simp only [List.map_cons,RdRow] at hr
   obtain⟨cs,h1,h2,h3⟩:=hr
   simp only [List.map_cons,Crow]
   exact⟨cs,h1,hfg x (by simp) cs h2,ih (fun y hy=>hfg y (by simp [hy])) _ h3⟩
theorem D.cc_len (d:D):d.cc.length=6:=by rw [D.cc_eq];rfl
theorem D.cc_of {r:World} (n:Nat):∀(d:D) (cs:List Value),d.ht≤n→Rd r d.v cs→Ccs ⟨r,[]⟩ d.cc cs:=by
 induction n with
 | zero=>intro d _ h;exact absurd h (by cases d;rw [D.ht];omega)
 | succ n ih =>
  intro d cs hh h
  have hd:∀x∈d.l,x.ht≤n:=fun x hx=>by
   obtain⟨i,hi,rfl⟩:=List.mem_iff_getElem.1 hx
   have:=D.ht_lt hi;omega
  obtain⟨am,cm,al,cl,e,hm,hl,-⟩:=IsD.open ⟨cs,rfl,h⟩
  have e':cs=[.int .i64 d.k,.int .i32 d.c,.bool d.neg,.slice am d.mag.length cm,.string d.t,.slice al d.l.length cl]:=by
   simpa using congrArg Array.toList (Value.agg.inj e)
  subst e'
  rw [D.cc_eq]
  have g1:Cc ⟨r,[]⟩ (.sl 1 (d.mag.map fun n=>[.v (.int .u32 n)])) (.slice am d.mag.length cm):=Rd.sl_cc (fun x _ cs hx=>by simp only [Rd] at hx;subst hx;simp [Ccs,Cc,Value.oneCell']) (fun _=>rfl) hm
  have g2:Cc ⟨r,[]⟩ (.sl 6 (d.l.map D.cc)) (.slice al d.l.length cl):=Rd.sl_cc (fun x hx cs hr=>ih x cs (hd x hx) hr) D.cc_len hl
  simp only [Ccs]
  exact⟨_,_,rfl,by simp [Cc,Value.oneCell'],_,_,rfl,by simp [Cc,Value.oneCell'],_,_,rfl,by simp [Cc,Value.oneCell'],_,_,rfl,g1,_,_,rfl,by simp [Cc,Value.oneCell'],_,_,rfl,g2,rfl⟩
theorem IsD.ca {r:World} {d:D} {v:Value} (h:IsD r d v):Ca ⟨r,[]⟩ (.agg d.cc) v:=by
 obtain⟨cs,rfl,h⟩:=h
 simp only [Ca]
 exact⟨cs,rfl,D.cc_of d.ht d cs (Nat.le_refl _) h⟩
theorem IsDs.ca {r:World} {l:List D} {v:Value} (h:IsDs r l v):Ca ⟨r,[]⟩ (.one (.sl 6 (l.map D.cc))) v:=by
 simp only [Ca]
 exact Rd.sl_cc (fun x _ cs hr=>D.cc_of x.ht x cs (Nat.le_refl _) hr) D.cc_len h
theorem Cc.sl_rd {r:World} {α:Type} {f:α→V} {g:α→List C} {wd:Nat} {l:List α} {u:Value} (hfg:∀x∈l,∀(cs:List Value),Ccs ⟨r,[]⟩ (g x) cs→Rd r (f x) cs) (h:Cc ⟨r,[]⟩ (.sl wd (l.map g)) u):Rd r (.sl (l.map f)) [u]:=by
 simp only [Cc,List.length_map] at h
 simp only [Rd,List.length_map]
 refine⟨u,rfl,?_⟩
 rcases h with ⟨-,⟨h0,h1⟩|⟨b,o,cap,e,l1,l2,hr⟩⟩
 ·exact .inl ⟨by simpa using h0,h1⟩
 ·refine .inr ⟨b,o,cap,e,l1,l2,?_⟩
  clear e l1 l2
  induction l generalizing o with
  | nil=>simp [RdRow]
  | cons x l ih =>
   simp only [List.map_cons,Crow] at hr
   obtain⟨cs,h1,h2,h3⟩:=hr
   simp only [List.map_cons,RdRow]
   exact⟨cs,h1,hfg x (by simp) cs h2,ih (fun y hy=>hfg y (by simp [hy])) _ h3⟩
theorem D.of_cc {r:World} (n:Nat):∀(d:D) (cs:List Value),d.ht≤n→Ccs ⟨r,[]⟩ d.cc cs→Rd r d.v cs:=by
 induction n with
 | zero=>intro d _ h;exact absurd h (by cases d;rw [D.ht];omega)
 | succ n ih =>
  intro d cs hh h
  have hd:∀x∈d.l,x.ht≤n:=fun x hx=>by
   obtain⟨i,hi,rfl⟩:=List.mem_iff_getElem.1 hx
   have:=D.ht_lt hi;omega
  rw [D.cc_eq] at h
  simp only [Ccs] at h
  obtain⟨_,_,rfl,h0,_,_,rfl,h1,_,_,rfl,h2,vm,_,rfl,h3,_,_,rfl,h4,vl,_,rfl,h5,rfl⟩:=h
  simp only [Cc] at h0 h1 h2 h4
  rw [h0.1,h1.1,h2.1,h4.1]
  have g1:IsMag r d.mag vm:=Cc.sl_rd (f:=fun n=>V.val (.int .u32 n)) (fun x _ cs hx=>by simp only [Ccs,Cc] at hx;obtain⟨_,_,rfl,hx,rfl⟩:=hx;simp only [Rd];rw [hx.1]) h3
  have g2:IsDs r d.l vl:=Cc.sl_rd (fun x hx cs hr=>ih x cs (hd x hx) hr) h5
  have:=IsD.mk' (d:=d) g1 g2
  obtain⟨cs',e,hr⟩:=this
  have:cs'=_:=(by simpa using (congrArg Array.toList (Value.agg.inj e)).symm:cs'=[_,_,_,_,_,_])
  subst this
  exact hr
theorem Ca.isD {r:World} {d:D} {v:Value} (h:Ca ⟨r,[]⟩ (.agg d.cc) v):IsD r d v:=by
 simp only [Ca] at h
 obtain⟨cs,rfl,h⟩:=h
 exact⟨cs,rfl,D.of_cc d.ht d cs (Nat.le_refl _) h⟩
theorem Ca.isDs {r:World} {l:List D} {v:Value} (h:Ca ⟨r,[]⟩ (.one (.sl 6 (l.map D.cc))) v):IsDs r l v:=by
 simp only [Ca] at h
 exact Cc.sl_rd (fun x _ cs hr=>D.of_cc x.ht x cs (Nat.le_refl _) hr) h
theorem TR (w:World):Keeps w (vis (fun _=>false) [] [] w):=fun p v h=>by
 unfold vis
 rw [eM,if_pos (by simp [cE])];exact h
theorem Fr.ext {w w':World} {S0:Nat→Bool} (h:Fr S0 w w') (hs:∀b,S0 b=false):Ext w w':=⟨h.os,h.tape,h.output,h.size,fun b hb=>h.block b hb (hs b)⟩
theorem Ext.fr {w w':World} (S0:Nat→Bool) (h:Ext w w'):Fr S0 w w':=⟨h.os,h.tape,h.output,h.size,fun b hb _=>h.block b hb⟩
theorem Pure.calls {P:Program} {f:FuncId} {xs:List A} {u:Value} (h:Pure P f xs (.one (.v u))) {w:World} {vs:List Value} (hg:GL w) (hb:∀b,GBw w b→b<w.heap.size) (hv:Cas ⟨w,[]⟩ xs vs):Calls P f vs.toArray w fun e w'=>e=.returned u∧Ext w w':=by
 refine (h (fun _=>false) [] w vs ⟨rfl,by simp,by simp,by simp,fun b hb=>(by cases hb),fun b h=>⟨rfl,rfl,hb b h⟩,hg⟩ (Cas.keep (X:=⟨w,[]⟩) (X':=⟨vis (fun _=>false) [] [] w,[]⟩) (TR w) (Up.refl _) hv)).mono fun e w' ⟨v,m',r,s',he,⟨h1,h2⟩,_,hc,hf,_⟩=>?_
 subst h1 h2
 simp only [Ca,Cc] at hc
 rw [hc.1] at he
 exact⟨he,hf.ext fun _=>rfl⟩
theorem nV {P:Program} {f:FuncId} {xs:List A} {r:A} (h:∀(w:World) (vs:List Value),GL w→Cas ⟨w,[]⟩ xs vs→Calls P f vs.toArray w fun e w'=>∃v,e=.returned v∧Ext w w'∧Ca ⟨cY w' w.heap.size,[]⟩ r v):Pure P f xs r:=fun H m w vs hs hc=>by
 have hm:m=[]:=by have:=hs.len;simp at this;exact List.eq_nil_of_length_eq_zero (by omega)
 subst hm
 refine (h w vs hs.gl (Cas.keep (X:=⟨vis H [] [] w,[]⟩) (X':=⟨w,[]⟩) (nQ _ _ _ _) (Up.refl _) hc)).mono fun e w' ⟨v,he,hx,hr⟩=>⟨v,[],r,[],he,⟨rfl,rfl⟩,⟨rfl,by simp,by simp,by simp,fun b hb=>Nat.lt_of_lt_of_le (hs.hlt b hb) hx.le,fun b hb'=>have hb:GBw w b:=hb'.back fun c hc=>hx.block c (hs.gb c (.inl hc)).2.2;⟨(hs.gb b hb).1,rfl,Nat.lt_of_lt_of_le (hs.gb b hb).2.2 hx.le⟩,GL.stays (fun b hb=>hx.block b (hs.gb b hb).2.2) hs.gl⟩,?_,hx.fr _,Up.refl _,by simp⟩
 refine Ca.keep (X:=⟨cY w' w.heap.size,[]⟩) (X':=⟨vis H [] [] w',[]⟩) (Keeps.only fun b hp hb=>?_) (Up.refl _) hr
 simp only [decide_eq_true_eq] at hp
 refine⟨?_,rfl⟩
 cases hH:H b with
 | false=>simp [cE]
 | true=>have:=hs.hlt b hH;omega
theorem KI {P:Program} {f:FuncId} {xs:List A} {r:A} (h:∀(w:World) (vs:List Value),GL w→Cas ⟨w,[]⟩ xs vs→Calls P f vs.toArray w fun e w'=>∃v,e=.returned v∧Ext w w'∧Ca ⟨only w' (fun b=>decide (w.heap.size≤b)||GB b),[]⟩ r v):Pure P f xs r:=fun H m w vs hs hc=>by
 have hm:m=[]:=by have:=hs.len;simp at this;exact List.eq_nil_of_length_eq_zero (by omega)
 subst hm
 refine (h w vs hs.gl (Cas.keep (X:=⟨vis H [] [] w,[]⟩) (X':=⟨w,[]⟩) (nQ _ _ _ _) (Up.refl _) hc)).mono fun e w' ⟨v,he,hx,hr⟩=>?_
 have hgb:∀b,GBw w' b→H b=false∧b<w.heap.size:=fun b hb' =>
  have hb:GBw w b:=hb'.back fun c hc=>hx.block c (hs.gb c (.inl hc)).2.2
  ⟨(hs.gb b hb).1,(hs.gb b hb).2.2⟩
 refine⟨v,[],r,[],he,⟨rfl,rfl⟩,⟨rfl,by simp,by simp,by simp,fun b hb=>Nat.lt_of_lt_of_le (hs.hlt b hb) hx.le,fun b hb=>⟨(hgb b hb).1,rfl,Nat.lt_of_lt_of_le (hgb b hb).2 hx.le⟩,GL.stays (fun b hb=>hx.block b (hs.gb b hb).2.2) hs.gl⟩,?_,hx.fr _,Up.refl _,by simp⟩
 refine Ca.keep (X:=⟨only w' (fun b=>decide (w.heap.size≤b)||GB b),[]⟩) (X':=⟨vis H [] [] w',[]⟩) (Keeps.only fun b hp hb=>?_) (Up.refl _) hr
 simp only [Bool.or_eq_true,decide_eq_true_eq] at hp
 refine⟨?_,rfl⟩
 cases hH:H b with
 | false=>simp [cE]
 | true =>
  rcases hp with hp|hp
  ·have:=hs.hlt b hH;omega
  ·have:=(hgb b (.inl hp)).1;rw [hH] at this;cases this
theorem sD {P:Program} {f:FuncId} {xs:List A} {u:Value} (hu:u.oneCell'=true) (h:∀(w:World) (vs:List Value),GL w→Cas ⟨w,[]⟩ xs vs→Calls P f vs.toArray w fun e w'=>e=.returned u∧Ext w w'):Pure P f xs (.one (.v u)) :=
 nV fun w vs hg hv=>(h w vs hg hv).mono fun e w' ⟨he,hx⟩=>⟨u,he,hx,caV hu⟩
theorem Cas.one1 {X:Cx} {x:A} {vs:List Value} (h:Cas X [x] vs):∃v,vs=[v]∧Ca X x v:=by
 simp only [Cas] at h
 obtain⟨v,r,rfl,hv,rfl⟩:=h
 exact⟨v,rfl,hv⟩
theorem Cas.two {X:Cx} {x y:A} {vs:List Value} (h:Cas X [x,y] vs):∃v u,vs=[v,u]∧Ca X x v∧Ca X y u:=by
 simp only [Cas] at h
 obtain⟨v,r,rfl,hv,u,q,rfl,hu,rfl⟩:=h
 exact⟨v,u,rfl,hv,hu⟩
def Made (P:Program) (f:FuncId) (xs:List A) (r:A):Prop:=∀(w:World) (vs:List Value),GL w→Cas ⟨w,[]⟩ xs vs→Calls P f vs.toArray w fun e w'=>∃v,e=.returned v∧Ext w w'∧Ca ⟨cY w' w.heap.size,[]⟩ r v
theorem Made.pure {P:Program} {f:FuncId} {xs:List A} {r:A} (h:Made P f xs r):Pure P f xs r:=nV h
theorem StoOk.hid_lt {H:Nat→Bool} {s:List (Option Ob)} {m:List Lo} {w:World} (hs:StoOk H s m w) {b:Nat} (hb:cE s m b=true):b<w.heap.size:=by
 obtain⟨i,ob,l,h1,h2,rfl⟩:=aN.1 hb
 obtain⟨vs,rest,hm,-,-⟩:=(hs.ok i ob l h1 h2).mem
 exact (Array.getElem?_eq_some_iff.1 hm).1
theorem xV {P:Program} {f:FuncId} {xs xs':List A} {p:Prop} {r:A} {H:Nat→Bool} {s:List (Option Ob)} {m:List Lo} {w:World} (hv:fZ s xs=some (p,xs')) (hp:p) (hfn:Made P f xs' r) (hs:StoOk H s m w) (vs:List Value) (hvs:Cas ⟨vis H s m w,m⟩ xs vs) :
  Calls P f vs.toArray w fun e w'=>∃v,e=.returned v∧Fr (fun _=>false) w w'∧Ca ⟨vis H s m w',m⟩ r v:=by
 refine (hfn w vs hs.gl (Cas.keep (X:=⟨vis H [] [] w,[]⟩) (X':=⟨w,[]⟩) (nQ _ _ _ _) (Up.refl _) (lQ hs hv hp hvs))).mono fun e w' ⟨v,he,hx,hr⟩=>⟨v,he,hx.fr _,?_⟩
 refine Ca.keep (X:=⟨cY w' w.heap.size,[]⟩) (X':=⟨vis H s m w',m⟩) (Keeps.only fun b hp hb=>?_) (fun i l h=>by simp at h) hr
 simp only [decide_eq_true_eq] at hp
 refine⟨?_,rfl⟩
 cases hH:H b with
 | true=>have:=hs.hlt b hH;omega
 | false =>
  cases hB:cE s m b with
  | true=>have:=hs.hid_lt hB;omega
  | false=>rfl
theorem CallA.made {P:Program} {nt:Cf} {st:St} {fo:Operand} {args:List Operand} {f:FuncId} {caps:List C} {xs xs':List A} {K:A→Prop} {p:Prop} {r:A} (hf:rdA st.e fo=some (.one (.fn f caps))) (ha:jS st.e args=some xs) (hc:dW P f=true)
  (hv:fZ st.s (xs++caps.map .one)=some (p,xs')) (hp:p) (hfn:Made P f xs' r) (hK:K r):CallA P nt fo args st K :=
 ⟨f,caps,xs,hf,ha,hc,fun H w0 S0 m0 m a w hs vs hvs=>(xV hv hp hfn hs.sto vs hvs).mono fun e w' ⟨v,he,h1,h2⟩=>⟨v,r,he,hK,h1,h2⟩⟩
theorem OpS.made {P:Program} {nt:Cf} {ds:List (Option Tmp)} {e:List (Nat × A)} {s:List (Option Ob)} {d:Option Tmp} {ty:TypeId} {pos:String} {aft:Array Edge} {g:Option (Nat × Bool)} {fo:Operand} {args:List Operand} {tys:Array TypeId} {f:FuncId} {caps:List C} {xs xs':List A} {p:Prop} {r:A} (hg:eG ds e g=some true) (hf:rdA e fo=some (.one (.fn f caps))) (ha:jS e args=some xs) (hc:dW P f=true)
  (hv:fZ s (xs++caps.map .one)=some (p,xs')) (hp:p) (hfn:Made P f xs' r):OpS P nt ds ⟨d,.call { callee:=.value fo,args:=args.toArray,argTypes:=tys },ty,pos,aft,g⟩ e s r s :=
 OpS.call hg hf ha hc fun H w0 S0 m0 mm a w hs vs hvs=>xV hv hp hfn hs.sto vs hvs
end Go.Proofs.YtaeioidifpebdaaGreatDoor
end
