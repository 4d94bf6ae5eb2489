/-
 Laid together: Ty, DatC, Bridge, Made.
-/
import Derived.Test.YtaeioidifpebdaaGreatDoorG2
import Derived.Test.YtaeioidifpebdaaGreatDoorProg
import Derived.KernelRfl
import Derived.Test.YtaeioidifpebdaaGreatDoorPlain2
import Derived.Test.YtaeioidifpebdaaGreatDoorChecked
import Derived.Test.YtaeioidifpebdaaGreatDoorPhi
section
namespace Go.Proofs.YtaeioidifpebdaaGreatDoor
set_option linter.unusedVariables false
theorem ty_3 : tyI Tryz.prog 3 = some (false, 1) := by kernel_rfl
theorem bool_4 : boolI Tryz.prog 4 = true := by kernel_rfl
theorem ty_9 : tyI Tryz.prog 9 = some (false, 1) := by kernel_rfl
theorem str_9 : strI Tryz.prog 9 = true := by kernel_rfl
theorem len_9 : lenT Tryz.prog 9 = some true := by kernel_rfl
theorem ty_22 : tyI Tryz.prog 22 = some (false, 1) := by kernel_rfl
theorem elt_22 : eltI Tryz.prog 22 = some (9, 1) := by kernel_rfl
theorem len_22 : lenT Tryz.prog 22 = some false := by kernel_rfl
theorem byt_22 : bytI Tryz.prog 22 = some 16 := by kernel_rfl
theorem zel_22 : zerI Tryz.prog 9 = some [.string ⟨#[]⟩] := by kernel_rfl
theorem ty_23 : tyI Tryz.prog 23 = some (false, 1) := by kernel_rfl
theorem elt_23 : eltI Tryz.prog 23 = some (96, 1) := by kernel_rfl
theorem len_23 : lenT Tryz.prog 23 = some false := by kernel_rfl
theorem byt_23 : bytI Tryz.prog 23 = some 4 := by kernel_rfl
theorem zel_23 : zerI Tryz.prog 96 = some [.int .u32 0] := by kernel_rfl
theorem fld_25_1 : fldI Tryz.prog 25 1 = some (1, 23) := by kernel_rfl
theorem ty_26 : tyI Tryz.prog 26 = some (false, 1) := by kernel_rfl
theorem elt_26 : eltI Tryz.prog 26 = some (28, 6) := by kernel_rfl
theorem len_26 : lenT Tryz.prog 26 = some false := by kernel_rfl
theorem byt_26 : bytI Tryz.prog 26 = some 88 := by kernel_rfl
theorem zel_26 : zerI Tryz.prog 28 = some [.int .i64 0, .int .i32 0, .bool false, .slice none 0 0, .string ⟨#[]⟩, .slice none 0 0] := by kernel_rfl
theorem ty_28 : tyI Tryz.prog 28 = some (true, 6) := by kernel_rfl
theorem flds_28 : fldsI Tryz.prog 28 = true := by kernel_rfl
theorem fld_28_0 : fldI Tryz.prog 28 0 = some (0, 3) := by kernel_rfl
theorem plc_28_0 : placeI Tryz.prog 28 0 = some (0, 1) := by kernel_rfl
theorem plc_28_1 : placeI Tryz.prog 28 1 = some (1, 1) := by kernel_rfl
theorem fld_28_2 : fldI Tryz.prog 28 2 = some (2, 25) := by kernel_rfl
theorem plc_28_2 : placeI Tryz.prog 28 2 = some (2, 2) := by kernel_rfl
theorem fld_28_3 : fldI Tryz.prog 28 3 = some (4, 9) := by kernel_rfl
theorem plc_28_3 : placeI Tryz.prog 28 3 = some (4, 1) := by kernel_rfl
theorem fld_28_4 : fldI Tryz.prog 28 4 = some (5, 26) := by kernel_rfl
theorem plc_28_4 : placeI Tryz.prog 28 4 = some (5, 1) := by kernel_rfl
theorem zer_28 : zerI Tryz.prog 28 = some [.int .i64 0, .int .i32 0, .bool false, .slice none 0 0, .string ⟨#[]⟩, .slice none 0 0] := by kernel_rfl
theorem ty_29 : tyI Tryz.prog 29 = some (false, 1) := by kernel_rfl
theorem elt_29 : eltI Tryz.prog 29 = some (31, 11) := by kernel_rfl
theorem len_29 : lenT Tryz.prog 29 = some false := by kernel_rfl
theorem byt_29 : bytI Tryz.prog 29 = some 176 := by kernel_rfl
theorem zel_29 : zerI Tryz.prog 31 = some [.int .i64 0, .string ⟨#[]⟩, .string ⟨#[]⟩, .slice none 0 0, .int .i64 0, .int .i32 0, .bool false, .slice none 0 0, .string ⟨#[]⟩, .slice none 0 0, .slice none 0 0] := by kernel_rfl
theorem ty_31 : tyI Tryz.prog 31 = some (true, 11) := by kernel_rfl
theorem flds_31 : fldsI Tryz.prog 31 = true := by kernel_rfl
theorem fld_31_0 : fldI Tryz.prog 31 0 = some (0, 3) := by kernel_rfl
theorem plc_31_0 : placeI Tryz.prog 31 0 = some (0, 1) := by kernel_rfl
theorem fld_31_1 : fldI Tryz.prog 31 1 = some (1, 9) := by kernel_rfl
theorem plc_31_1 : placeI Tryz.prog 31 1 = some (1, 1) := by kernel_rfl
theorem fld_31_2 : fldI Tryz.prog 31 2 = some (2, 9) := by kernel_rfl
theorem plc_31_2 : placeI Tryz.prog 31 2 = some (2, 1) := by kernel_rfl
theorem fld_31_3 : fldI Tryz.prog 31 3 = some (3, 22) := by kernel_rfl
theorem plc_31_3 : placeI Tryz.prog 31 3 = some (3, 1) := by kernel_rfl
theorem fld_31_4 : fldI Tryz.prog 31 4 = some (4, 28) := by kernel_rfl
theorem plc_31_4 : placeI Tryz.prog 31 4 = some (4, 6) := by kernel_rfl
theorem fld_31_5 : fldI Tryz.prog 31 5 = some (10, 29) := by kernel_rfl
theorem plc_31_5 : placeI Tryz.prog 31 5 = some (10, 1) := by kernel_rfl
theorem zer_31 : zerI Tryz.prog 31 = some [.int .i64 0, .string ⟨#[]⟩, .string ⟨#[]⟩, .slice none 0 0, .int .i64 0, .int .i32 0, .bool false, .slice none 0 0, .string ⟨#[]⟩, .slice none 0 0, .slice none 0 0] := by kernel_rfl
theorem ty_53 : tyI Tryz.prog 53 = some (false, 1) := by kernel_rfl
theorem elt_53 : eltI Tryz.prog 53 = some (3, 1) := by kernel_rfl
theorem len_53 : lenT Tryz.prog 53 = some false := by kernel_rfl
theorem byt_53 : bytI Tryz.prog 53 = some 8 := by kernel_rfl
theorem zel_53 : zerI Tryz.prog 3 = some [.int .i64 0] := by kernel_rfl
theorem ty_55 : tyI Tryz.prog 55 = some (true, 5) := by kernel_rfl
theorem fld_55_4 : fldI Tryz.prog 55 4 = some (4, 53) := by kernel_rfl
theorem zer_55 : zerI Tryz.prog 55 = some [.slice none 0 0, .slice none 0 0, .slice none 0 0, .slice none 0 0, .slice none 0 0] := by kernel_rfl
theorem ty_62 : tyI Tryz.prog 62 = some (false, 1) := by kernel_rfl
theorem ifc_62 : ifcI Tryz.prog 62 = true := by kernel_rfl
theorem w3 : type_of% (And.intro ty_31 bool_4) := And.intro ty_31 bool_4
theorem w4 : type_of% (And.intro ty_28 (And.intro zer_31 ty_31)) := And.intro ty_28 (And.intro zer_31 ty_31)
theorem w5 : type_of% (And.intro (And.intro (And.intro (And.intro ty_28 len_9) (And.intro str_9 zer_28)) (And.intro (And.intro flds_28 plc_28_0) (And.intro plc_28_1 plc_28_2))) (And.intro (And.intro (And.intro plc_28_3 plc_28_4) (And.intro elt_26 zel_26)) (And.intro (And.intro byt_26 fld_28_0) (And.intro ty_3 (And.intro fld_28_3 ty_9))))) := And.intro (And.intro (And.intro (And.intro ty_28 len_9) (And.intro str_9 zer_28)) (And.intro (And.intro flds_28 plc_28_0) (And.intro plc_28_1 plc_28_2))) (And.intro (And.intro (And.intro plc_28_3 plc_28_4) (And.intro elt_26 zel_26)) (And.intro (And.intro byt_26 fld_28_0) (And.intro ty_3 (And.intro fld_28_3 ty_9))))
theorem w6 : type_of% (And.intro (And.intro ty_28 (And.intro elt_26 zel_26)) (And.intro (And.intro byt_26 zer_31) (And.intro ty_31 zer_28))) := And.intro (And.intro ty_28 (And.intro elt_26 zel_26)) (And.intro (And.intro byt_26 zer_31) (And.intro ty_31 zer_28))
theorem w7 : type_of% (And.intro (And.intro (And.intro (And.intro ty_28 elt_26) (And.intro zel_26 (And.intro byt_26 zer_31))) (And.intro (And.intro ty_31 fld_31_5) (And.intro ty_29 (And.intro len_29 elt_29)))) (And.intro (And.intro (And.intro byt_29 zel_29) (And.intro fld_31_0 (And.intro ty_3 fld_31_3))) (And.intro (And.intro ty_22 len_22) (And.intro elt_22 (And.intro byt_22 zel_22))))) := And.intro (And.intro (And.intro (And.intro ty_28 elt_26) (And.intro zel_26 (And.intro byt_26 zer_31))) (And.intro (And.intro ty_31 fld_31_5) (And.intro ty_29 (And.intro len_29 elt_29)))) (And.intro (And.intro (And.intro byt_29 zel_29) (And.intro fld_31_0 (And.intro ty_3 fld_31_3))) (And.intro (And.intro ty_22 len_22) (And.intro elt_22 (And.intro byt_22 zel_22))))
theorem w8 : type_of% (And.intro (And.intro ty_28 (And.intro len_9 str_9)) (And.intro elt_26 (And.intro zel_26 byt_26))) := And.intro (And.intro ty_28 (And.intro len_9 str_9)) (And.intro elt_26 (And.intro zel_26 byt_26))
theorem w9 : type_of% (And.intro (And.intro (And.intro ty_28 (And.intro zer_31 ty_31)) (And.intro (And.intro elt_29 zel_29) (And.intro byt_29 zer_55))) (And.intro (And.intro (And.intro ty_55 fld_55_4) (And.intro ty_53 len_53)) (And.intro (And.intro elt_53 byt_53) (And.intro zel_53 ty_3)))) := And.intro (And.intro (And.intro ty_28 (And.intro zer_31 ty_31)) (And.intro (And.intro elt_29 zel_29) (And.intro byt_29 zer_55))) (And.intro (And.intro (And.intro ty_55 fld_55_4) (And.intro ty_53 len_53)) (And.intro (And.intro elt_53 byt_53) (And.intro zel_53 ty_3)))
theorem w11 : type_of% (And.intro (And.intro (And.intro zer_28 (And.intro flds_28 plc_28_0)) (And.intro plc_28_1 (And.intro plc_28_2 plc_28_3))) (And.intro (And.intro plc_28_4 (And.intro ty_28 elt_26)) (And.intro (And.intro zel_26 byt_26) (And.intro zer_31 ty_31)))) := And.intro (And.intro (And.intro zer_28 (And.intro flds_28 plc_28_0)) (And.intro plc_28_1 (And.intro plc_28_2 plc_28_3))) (And.intro (And.intro plc_28_4 (And.intro ty_28 elt_26)) (And.intro (And.intro zel_26 byt_26) (And.intro zer_31 ty_31)))
theorem w13 : type_of% (And.intro (And.intro elt_22 zel_22) (And.intro byt_22 (And.intro len_22 ty_9))) := And.intro (And.intro elt_22 zel_22) (And.intro byt_22 (And.intro len_22 ty_9))
theorem w14 : type_of% (And.intro (And.intro (And.intro fld_31_0 ty_3) (And.intro fld_31_1 (And.intro ty_9 fld_31_2))) (And.intro (And.intro fld_31_3 (And.intro ty_22 fld_31_4)) (And.intro ty_28 (And.intro fld_31_5 ty_29)))) := And.intro (And.intro (And.intro fld_31_0 ty_3) (And.intro fld_31_1 (And.intro ty_9 fld_31_2))) (And.intro (And.intro fld_31_3 (And.intro ty_22 fld_31_4)) (And.intro ty_28 (And.intro fld_31_5 ty_29)))
theorem w15 : type_of% (And.intro (And.intro (And.intro (And.intro fld_31_0 ty_3) (And.intro fld_31_1 (And.intro ty_9 fld_31_2))) (And.intro (And.intro fld_31_4 ty_28) (And.intro fld_31_3 (And.intro ty_22 len_22)))) (And.intro (And.intro (And.intro elt_22 byt_22) (And.intro zel_22 (And.intro fld_31_5 ty_29))) (And.intro (And.intro len_29 elt_29) (And.intro byt_29 (And.intro zel_29 ty_31))))) := And.intro (And.intro (And.intro (And.intro fld_31_0 ty_3) (And.intro fld_31_1 (And.intro ty_9 fld_31_2))) (And.intro (And.intro fld_31_4 ty_28) (And.intro fld_31_3 (And.intro ty_22 len_22)))) (And.intro (And.intro (And.intro elt_22 byt_22) (And.intro zel_22 (And.intro fld_31_5 ty_29))) (And.intro (And.intro len_29 elt_29) (And.intro byt_29 (And.intro zel_29 ty_31))))
theorem w17 : type_of% (And.intro (And.intro (And.intro zer_31 (And.intro ty_28 flds_31)) (And.intro plc_31_0 (And.intro plc_31_1 plc_31_2))) (And.intro (And.intro plc_31_3 (And.intro plc_31_4 plc_31_5)) (And.intro ty_31 (And.intro ifc_62 ty_62)))) := And.intro (And.intro (And.intro zer_31 (And.intro ty_28 flds_31)) (And.intro plc_31_0 (And.intro plc_31_1 plc_31_2))) (And.intro (And.intro plc_31_3 (And.intro plc_31_4 plc_31_5)) (And.intro ty_31 (And.intro ifc_62 ty_62)))
theorem w21 : type_of% (And.intro (And.intro (And.intro zer_28 flds_28) (And.intro plc_28_0 plc_28_1)) (And.intro (And.intro plc_28_2 plc_28_3) (And.intro plc_28_4 ty_28))) := And.intro (And.intro (And.intro zer_28 flds_28) (And.intro plc_28_0 plc_28_1)) (And.intro (And.intro plc_28_2 plc_28_3) (And.intro plc_28_4 ty_28))
theorem w23 : type_of% (And.intro zer_28 ty_28) := And.intro zer_28 ty_28
theorem w34 : type_of% (And.intro (And.intro (And.intro (And.intro fld_31_3 ty_22) (And.intro len_22 elt_22)) (And.intro (And.intro byt_22 zel_22) (And.intro fld_31_4 (And.intro ty_28 fld_31_1)))) (And.intro (And.intro (And.intro ty_9 len_9) (And.intro str_9 (And.intro fld_31_5 ty_29))) (And.intro (And.intro len_29 elt_29) (And.intro byt_29 (And.intro zel_29 ty_31))))) := And.intro (And.intro (And.intro (And.intro fld_31_3 ty_22) (And.intro len_22 elt_22)) (And.intro (And.intro byt_22 zel_22) (And.intro fld_31_4 (And.intro ty_28 fld_31_1)))) (And.intro (And.intro (And.intro ty_9 len_9) (And.intro str_9 (And.intro fld_31_5 ty_29))) (And.intro (And.intro len_29 elt_29) (And.intro byt_29 (And.intro zel_29 ty_31))))
theorem w35 : type_of% (And.intro (And.intro len_22 elt_22) (And.intro byt_22 (And.intro zel_22 ty_9))) := And.intro (And.intro len_22 elt_22) (And.intro byt_22 (And.intro zel_22 ty_9))
theorem w37 : type_of% (And.intro (And.intro len_29 (And.intro elt_29 byt_29)) (And.intro zel_29 (And.intro ty_31 zer_31))) := And.intro (And.intro len_29 (And.intro elt_29 byt_29)) (And.intro zel_29 (And.intro ty_31 zer_31))
theorem w38 : type_of% (And.intro (And.intro (And.intro (And.intro fld_28_3 ty_9) (And.intro len_9 str_9)) (And.intro (And.intro fld_28_2 fld_25_1) (And.intro ty_23 (And.intro len_23 elt_23)))) (And.intro (And.intro (And.intro byt_23 zel_23) (And.intro fld_28_4 ty_26)) (And.intro (And.intro len_26 elt_26) (And.intro byt_26 (And.intro zel_26 ty_28))))) := And.intro (And.intro (And.intro (And.intro fld_28_3 ty_9) (And.intro len_9 str_9)) (And.intro (And.intro fld_28_2 fld_25_1) (And.intro ty_23 (And.intro len_23 elt_23)))) (And.intro (And.intro (And.intro byt_23 zel_23) (And.intro fld_28_4 ty_26)) (And.intro (And.intro len_26 elt_26) (And.intro byt_26 (And.intro zel_26 ty_28))))
theorem w40 : type_of% (And.intro (And.intro (And.intro (And.intro zer_31 ty_28) (And.intro ty_31 elt_29)) (And.intro (And.intro zel_29 byt_29) (And.intro flds_31 (And.intro plc_31_0 plc_31_1)))) (And.intro (And.intro (And.intro plc_31_2 plc_31_3) (And.intro plc_31_4 (And.intro plc_31_5 len_26))) (And.intro (And.intro elt_26 byt_26) (And.intro zel_26 (And.intro zer_28 len_29))))) := And.intro (And.intro (And.intro (And.intro zer_31 ty_28) (And.intro ty_31 elt_29)) (And.intro (And.intro zel_29 byt_29) (And.intro flds_31 (And.intro plc_31_0 plc_31_1)))) (And.intro (And.intro (And.intro plc_31_2 plc_31_3) (And.intro plc_31_4 (And.intro plc_31_5 len_26))) (And.intro (And.intro elt_26 byt_26) (And.intro zel_26 (And.intro zer_28 len_29))))
theorem w44 : type_of% (And.intro (And.intro (And.intro zer_28 (And.intro flds_28 plc_28_0)) (And.intro plc_28_1 (And.intro plc_28_2 plc_28_3))) (And.intro (And.intro plc_28_4 (And.intro ty_28 len_26)) (And.intro elt_26 (And.intro byt_26 zel_26)))) := And.intro (And.intro (And.intro zer_28 (And.intro flds_28 plc_28_0)) (And.intro plc_28_1 (And.intro plc_28_2 plc_28_3))) (And.intro (And.intro plc_28_4 (And.intro ty_28 len_26)) (And.intro elt_26 (And.intro byt_26 zel_26)))
theorem w55 : type_of% (And.intro (And.intro fld_28_0 (And.intro ty_3 fld_28_4)) (And.intro ty_26 (And.intro elt_26 ty_28))) := And.intro (And.intro fld_28_0 (And.intro ty_3 fld_28_4)) (And.intro ty_26 (And.intro elt_26 ty_28))
theorem w56 : type_of% (And.intro (And.intro (And.intro (And.intro zer_31 len_26) (And.intro elt_26 byt_26)) (And.intro (And.intro zel_26 flds_31) (And.intro plc_31_0 (And.intro plc_31_1 plc_31_2)))) (And.intro (And.intro (And.intro plc_31_3 plc_31_4) (And.intro plc_31_5 (And.intro ty_62 ty_31))) (And.intro (And.intro fld_28_0 ty_3) (And.intro fld_28_4 (And.intro ty_26 ty_28))))) := And.intro (And.intro (And.intro (And.intro zer_31 len_26) (And.intro elt_26 byt_26)) (And.intro (And.intro zel_26 flds_31) (And.intro plc_31_0 (And.intro plc_31_1 plc_31_2)))) (And.intro (And.intro (And.intro plc_31_3 plc_31_4) (And.intro plc_31_5 (And.intro ty_62 ty_31))) (And.intro (And.intro fld_28_0 ty_3) (And.intro fld_28_4 (And.intro ty_26 ty_28))))
theorem w57 : type_of% (And.intro (And.intro (And.intro (And.intro zer_31 fld_28_0) (And.intro ty_3 flds_31)) (And.intro (And.intro plc_31_0 plc_31_1) (And.intro plc_31_2 plc_31_3))) (And.intro (And.intro (And.intro plc_31_4 plc_31_5) (And.intro ty_62 ty_31)) (And.intro (And.intro ty_28 ifc_62) (And.intro elt_26 (And.intro fld_28_3 ty_9))))) := And.intro (And.intro (And.intro (And.intro zer_31 fld_28_0) (And.intro ty_3 flds_31)) (And.intro (And.intro plc_31_0 plc_31_1) (And.intro plc_31_2 plc_31_3))) (And.intro (And.intro (And.intro plc_31_4 plc_31_5) (And.intro ty_62 ty_31)) (And.intro (And.intro ty_28 ifc_62) (And.intro elt_26 (And.intro fld_28_3 ty_9))))
theorem w58 : type_of% (And.intro (And.intro (And.intro zer_31 zer_28) (And.intro flds_28 plc_28_0)) (And.intro (And.intro plc_28_1 plc_28_2) (And.intro plc_28_3 (And.intro plc_28_4 ty_31)))) := And.intro (And.intro (And.intro zer_31 zer_28) (And.intro flds_28 plc_28_0)) (And.intro (And.intro plc_28_1 plc_28_2) (And.intro plc_28_3 (And.intro plc_28_4 ty_31)))
theorem w59 : type_of% (And.intro ifc_62 ty_62) := And.intro ifc_62 ty_62
theorem w60 : type_of% (And.intro (And.intro (And.intro zer_31 (And.intro len_29 elt_29)) (And.intro byt_29 (And.intro zel_29 ty_31))) (And.intro (And.intro flds_31 (And.intro plc_31_0 plc_31_1)) (And.intro (And.intro plc_31_2 plc_31_3) (And.intro plc_31_4 plc_31_5)))) := And.intro (And.intro (And.intro zer_31 (And.intro len_29 elt_29)) (And.intro byt_29 (And.intro zel_29 ty_31))) (And.intro (And.intro flds_31 (And.intro plc_31_0 plc_31_1)) (And.intro (And.intro plc_31_2 plc_31_3) (And.intro plc_31_4 plc_31_5)))
theorem w82 : type_of% (And.intro (And.intro fld_28_0 ty_3) (And.intro fld_28_3 ty_9)) := And.intro (And.intro fld_28_0 ty_3) (And.intro fld_28_3 ty_9)
theorem w85 : type_of% (And.intro (And.intro fld_28_0 ty_3) (And.intro fld_28_3 (And.intro ty_9 ty_62))) := And.intro (And.intro fld_28_0 ty_3) (And.intro fld_28_3 (And.intro ty_9 ty_62))
theorem w86 : type_of% (And.intro zer_31 (And.intro ty_28 ty_31)) := And.intro zer_31 (And.intro ty_28 ty_31)
theorem w87 : type_of% (And.intro (And.intro (And.intro zer_31 flds_31) (And.intro plc_31_0 plc_31_1)) (And.intro (And.intro plc_31_2 plc_31_3) (And.intro plc_31_4 (And.intro plc_31_5 ty_31)))) := And.intro (And.intro (And.intro zer_31 flds_31) (And.intro plc_31_0 plc_31_1)) (And.intro (And.intro plc_31_2 plc_31_3) (And.intro plc_31_4 (And.intro plc_31_5 ty_31)))
theorem w88 : type_of% (And.intro ty_28 ty_62) := And.intro ty_28 ty_62
theorem w89 : type_of% (And.intro (And.intro (And.intro (And.intro zer_31 len_26) (And.intro elt_26 byt_26)) (And.intro (And.intro zel_26 ty_28) (And.intro ty_31 (And.intro elt_29 zel_29)))) (And.intro (And.intro (And.intro byt_29 flds_31) (And.intro plc_31_0 plc_31_1)) (And.intro (And.intro plc_31_2 plc_31_3) (And.intro plc_31_4 (And.intro plc_31_5 len_29))))) := And.intro (And.intro (And.intro (And.intro zer_31 len_26) (And.intro elt_26 byt_26)) (And.intro (And.intro zel_26 ty_28) (And.intro ty_31 (And.intro elt_29 zel_29)))) (And.intro (And.intro (And.intro byt_29 flds_31) (And.intro plc_31_0 plc_31_1)) (And.intro (And.intro plc_31_2 plc_31_3) (And.intro plc_31_4 (And.intro plc_31_5 len_29))))
theorem w90 : type_of% (And.intro (And.intro (And.intro len_26 (And.intro elt_26 byt_26)) (And.intro zel_26 (And.intro ty_28 zer_28))) (And.intro (And.intro zer_31 (And.intro ty_31 elt_29)) (And.intro zel_29 (And.intro byt_29 len_29)))) := And.intro (And.intro (And.intro len_26 (And.intro elt_26 byt_26)) (And.intro zel_26 (And.intro ty_28 zer_28))) (And.intro (And.intro zer_31 (And.intro ty_31 elt_29)) (And.intro zel_29 (And.intro byt_29 len_29)))
theorem w91 : type_of% (And.intro (And.intro (And.intro zer_31 (And.intro len_29 elt_29)) (And.intro (And.intro byt_29 zel_29) (And.intro flds_31 plc_31_0))) (And.intro (And.intro plc_31_1 (And.intro plc_31_2 plc_31_3)) (And.intro (And.intro plc_31_4 plc_31_5) (And.intro ty_62 ty_31)))) := And.intro (And.intro (And.intro zer_31 (And.intro len_29 elt_29)) (And.intro (And.intro byt_29 zel_29) (And.intro flds_31 plc_31_0))) (And.intro (And.intro plc_31_1 (And.intro plc_31_2 plc_31_3)) (And.intro (And.intro plc_31_4 plc_31_5) (And.intro ty_62 ty_31)))
theorem w92 : type_of% (And.intro (And.intro (And.intro zer_31 ty_28) (And.intro flds_31 (And.intro plc_31_0 plc_31_1))) (And.intro (And.intro plc_31_2 plc_31_3) (And.intro plc_31_4 (And.intro plc_31_5 ty_31)))) := And.intro (And.intro (And.intro zer_31 ty_28) (And.intro flds_31 (And.intro plc_31_0 plc_31_1))) (And.intro (And.intro plc_31_2 plc_31_3) (And.intro plc_31_4 (And.intro plc_31_5 ty_31)))
theorem w98 : type_of% (And.intro (And.intro elt_22 zel_22) (And.intro byt_22 len_22)) := And.intro (And.intro elt_22 zel_22) (And.intro byt_22 len_22)
theorem w105 : type_of% (And.intro (And.intro (And.intro fld_28_0 ty_3) (And.intro fld_28_4 (And.intro ty_26 elt_26))) (And.intro (And.intro ty_28 elt_22) (And.intro zel_22 (And.intro byt_22 len_22)))) := And.intro (And.intro (And.intro fld_28_0 ty_3) (And.intro fld_28_4 (And.intro ty_26 elt_26))) (And.intro (And.intro ty_28 elt_22) (And.intro zel_22 (And.intro byt_22 len_22)))
theorem w106 : type_of% (And.intro (And.intro (And.intro (And.intro zer_31 (And.intro len_26 elt_26)) (And.intro byt_26 (And.intro zel_26 ty_28))) (And.intro (And.intro zer_28 (And.intro ty_31 elt_29)) (And.intro zel_29 (And.intro byt_29 len_29)))) (And.intro (And.intro (And.intro ty_62 (And.intro elt_22 zel_22)) (And.intro byt_22 (And.intro len_22 flds_31))) (And.intro (And.intro plc_31_0 (And.intro plc_31_1 plc_31_2)) (And.intro plc_31_3 (And.intro plc_31_4 plc_31_5))))) := And.intro (And.intro (And.intro (And.intro zer_31 (And.intro len_26 elt_26)) (And.intro byt_26 (And.intro zel_26 ty_28))) (And.intro (And.intro zer_28 (And.intro ty_31 elt_29)) (And.intro zel_29 (And.intro byt_29 len_29)))) (And.intro (And.intro (And.intro ty_62 (And.intro elt_22 zel_22)) (And.intro byt_22 (And.intro len_22 flds_31))) (And.intro (And.intro plc_31_0 (And.intro plc_31_1 plc_31_2)) (And.intro plc_31_3 (And.intro plc_31_4 plc_31_5))))
theorem w107 : type_of% (And.intro (And.intro (And.intro (And.intro zer_31 len_22) (And.intro elt_22 byt_22)) (And.intro (And.intro zel_22 flds_31) (And.intro plc_31_0 plc_31_1))) (And.intro (And.intro (And.intro plc_31_2 plc_31_3) (And.intro plc_31_4 plc_31_5)) (And.intro (And.intro ty_62 ty_31) (And.intro elt_29 (And.intro zel_29 byt_29))))) := And.intro (And.intro (And.intro (And.intro zer_31 len_22) (And.intro elt_22 byt_22)) (And.intro (And.intro zel_22 flds_31) (And.intro plc_31_0 plc_31_1))) (And.intro (And.intro (And.intro plc_31_2 plc_31_3) (And.intro plc_31_4 plc_31_5)) (And.intro (And.intro ty_62 ty_31) (And.intro elt_29 (And.intro zel_29 byt_29))))
theorem w108 : type_of% (And.intro (And.intro (And.intro zer_31 (And.intro ty_28 zer_28)) (And.intro ty_31 (And.intro fld_28_0 ty_3))) (And.intro (And.intro fld_28_4 (And.intro ty_26 elt_29)) (And.intro zel_29 (And.intro byt_29 elt_26)))) := And.intro (And.intro (And.intro zer_31 (And.intro ty_28 zer_28)) (And.intro ty_31 (And.intro fld_28_0 ty_3))) (And.intro (And.intro fld_28_4 (And.intro ty_26 elt_29)) (And.intro zel_29 (And.intro byt_29 elt_26)))
theorem w109 : type_of% (And.intro (And.intro (And.intro zer_31 (And.intro ty_31 elt_29)) (And.intro zel_29 (And.intro byt_29 flds_31))) (And.intro (And.intro plc_31_0 (And.intro plc_31_1 plc_31_2)) (And.intro plc_31_3 (And.intro plc_31_4 plc_31_5)))) := And.intro (And.intro (And.intro zer_31 (And.intro ty_31 elt_29)) (And.intro zel_29 (And.intro byt_29 flds_31))) (And.intro (And.intro plc_31_0 (And.intro plc_31_1 plc_31_2)) (And.intro plc_31_3 (And.intro plc_31_4 plc_31_5)))
theorem w110 : type_of% (And.intro (And.intro (And.intro zer_31 (And.intro len_26 elt_26)) (And.intro (And.intro byt_26 zel_26) (And.intro flds_31 plc_31_0))) (And.intro (And.intro plc_31_1 (And.intro plc_31_2 plc_31_3)) (And.intro (And.intro plc_31_4 plc_31_5) (And.intro ty_62 ty_31)))) := And.intro (And.intro (And.intro zer_31 (And.intro len_26 elt_26)) (And.intro (And.intro byt_26 zel_26) (And.intro flds_31 plc_31_0))) (And.intro (And.intro plc_31_1 (And.intro plc_31_2 plc_31_3)) (And.intro (And.intro plc_31_4 plc_31_5) (And.intro ty_62 ty_31)))
theorem w111 : type_of% (And.intro (And.intro (And.intro (And.intro zer_31 len_26) (And.intro elt_26 byt_26)) (And.intro (And.intro zel_26 ty_31) (And.intro ty_28 ifc_62))) (And.intro (And.intro (And.intro flds_31 plc_31_0) (And.intro plc_31_1 plc_31_2)) (And.intro (And.intro plc_31_3 plc_31_4) (And.intro plc_31_5 ty_62)))) := And.intro (And.intro (And.intro (And.intro zer_31 len_26) (And.intro elt_26 byt_26)) (And.intro (And.intro zel_26 ty_31) (And.intro ty_28 ifc_62))) (And.intro (And.intro (And.intro flds_31 plc_31_0) (And.intro plc_31_1 plc_31_2)) (And.intro (And.intro plc_31_3 plc_31_4) (And.intro plc_31_5 ty_62)))
theorem w112 : type_of% (And.intro (And.intro (And.intro zer_31 elt_22) (And.intro zel_22 byt_22)) (And.intro (And.intro ty_31 ty_28) (And.intro elt_26 (And.intro zel_26 byt_26)))) := And.intro (And.intro (And.intro zer_31 elt_22) (And.intro zel_22 byt_22)) (And.intro (And.intro ty_31 ty_28) (And.intro elt_26 (And.intro zel_26 byt_26)))
theorem w113 : type_of% (And.intro (And.intro (And.intro zer_31 ty_31) (And.intro flds_31 (And.intro plc_31_0 plc_31_1))) (And.intro (And.intro plc_31_2 plc_31_3) (And.intro plc_31_4 (And.intro plc_31_5 ty_62)))) := And.intro (And.intro (And.intro zer_31 ty_31) (And.intro flds_31 (And.intro plc_31_0 plc_31_1))) (And.intro (And.intro plc_31_2 plc_31_3) (And.intro plc_31_4 (And.intro plc_31_5 ty_62)))
theorem w114 : type_of% (And.intro (And.intro (And.intro zer_28 ty_28) (And.intro flds_28 (And.intro plc_28_0 plc_28_1))) (And.intro (And.intro plc_28_2 (And.intro plc_28_3 plc_28_4)) (And.intro fld_28_4 (And.intro ty_26 elt_26)))) := And.intro (And.intro (And.intro zer_28 ty_28) (And.intro flds_28 (And.intro plc_28_0 plc_28_1))) (And.intro (And.intro plc_28_2 (And.intro plc_28_3 plc_28_4)) (And.intro fld_28_4 (And.intro ty_26 elt_26)))
theorem w117 : type_of% (And.intro (And.intro len_22 elt_22) (And.intro byt_22 (And.intro zel_22 ty_9))) := And.intro (And.intro len_22 elt_22) (And.intro byt_22 (And.intro zel_22 ty_9))
theorem w120 : type_of% (And.intro (And.intro len_22 (And.intro elt_22 byt_22)) (And.intro zel_22 (And.intro ty_9 ty_62))) := And.intro (And.intro len_22 (And.intro elt_22 byt_22)) (And.intro zel_22 (And.intro ty_9 ty_62))
theorem w121 : type_of% (And.intro (And.intro len_26 (And.intro elt_26 byt_26)) (And.intro zel_26 (And.intro ty_28 zer_28))) := And.intro (And.intro len_26 (And.intro elt_26 byt_26)) (And.intro zel_26 (And.intro ty_28 zer_28))
theorem w122 : type_of% (And.intro (And.intro (And.intro (And.intro zer_31 len_22) (And.intro elt_22 byt_22)) (And.intro (And.intro zel_22 ty_9) (And.intro elt_29 (And.intro ty_31 zel_29)))) (And.intro (And.intro (And.intro byt_29 flds_31) (And.intro plc_31_0 plc_31_1)) (And.intro (And.intro plc_31_2 plc_31_3) (And.intro plc_31_4 (And.intro plc_31_5 len_29))))) := And.intro (And.intro (And.intro (And.intro zer_31 len_22) (And.intro elt_22 byt_22)) (And.intro (And.intro zel_22 ty_9) (And.intro elt_29 (And.intro ty_31 zel_29)))) (And.intro (And.intro (And.intro byt_29 flds_31) (And.intro plc_31_0 plc_31_1)) (And.intro (And.intro plc_31_2 plc_31_3) (And.intro plc_31_4 (And.intro plc_31_5 len_29))))
theorem w123 : type_of% (And.intro (And.intro (And.intro zer_28 (And.intro ty_28 len_26)) (And.intro elt_26 (And.intro byt_26 zel_26))) (And.intro (And.intro flds_28 (And.intro plc_28_0 plc_28_1)) (And.intro plc_28_2 (And.intro plc_28_3 plc_28_4)))) := And.intro (And.intro (And.intro zer_28 (And.intro ty_28 len_26)) (And.intro elt_26 (And.intro byt_26 zel_26))) (And.intro (And.intro flds_28 (And.intro plc_28_0 plc_28_1)) (And.intro plc_28_2 (And.intro plc_28_3 plc_28_4)))
theorem w124 : type_of% (And.intro (And.intro (And.intro zer_31 ty_31) (And.intro zer_28 flds_28)) (And.intro (And.intro plc_28_0 plc_28_1) (And.intro plc_28_2 (And.intro plc_28_3 plc_28_4)))) := And.intro (And.intro (And.intro zer_31 ty_31) (And.intro zer_28 flds_28)) (And.intro (And.intro plc_28_0 plc_28_1) (And.intro plc_28_2 (And.intro plc_28_3 plc_28_4)))
theorem w126 : type_of% (And.intro (And.intro (And.intro zer_31 flds_31) (And.intro plc_31_0 plc_31_1)) (And.intro (And.intro plc_31_2 plc_31_3) (And.intro plc_31_4 (And.intro plc_31_5 ty_31)))) := And.intro (And.intro (And.intro zer_31 flds_31) (And.intro plc_31_0 plc_31_1)) (And.intro (And.intro plc_31_2 plc_31_3) (And.intro plc_31_4 (And.intro plc_31_5 ty_31)))
theorem w127 : type_of% (And.intro (And.intro zer_31 ty_31) (And.intro elt_29 (And.intro zel_29 byt_29))) := And.intro (And.intro zer_31 ty_31) (And.intro elt_29 (And.intro zel_29 byt_29))
theorem w128 : type_of% (And.intro (And.intro (And.intro zer_31 len_26) (And.intro elt_26 (And.intro byt_26 zel_26))) (And.intro (And.intro ty_31 ty_28) (And.intro elt_29 (And.intro zel_29 byt_29)))) := And.intro (And.intro (And.intro zer_31 len_26) (And.intro elt_26 (And.intro byt_26 zel_26))) (And.intro (And.intro ty_31 ty_28) (And.intro elt_29 (And.intro zel_29 byt_29)))
theorem w129 : type_of% (And.intro (And.intro zer_31 (And.intro ty_31 elt_29)) (And.intro zel_29 (And.intro byt_29 len_29))) := And.intro (And.intro zer_31 (And.intro ty_31 elt_29)) (And.intro zel_29 (And.intro byt_29 len_29))
theorem w130 : type_of% (And.intro (And.intro (And.intro (And.intro zer_31 len_26) (And.intro elt_26 byt_26)) (And.intro (And.intro zel_26 fld_28_0) (And.intro ty_3 ty_31))) (And.intro (And.intro (And.intro flds_31 plc_31_0) (And.intro plc_31_1 plc_31_2)) (And.intro (And.intro plc_31_3 plc_31_4) (And.intro plc_31_5 (And.intro ty_62 ty_28))))) := And.intro (And.intro (And.intro (And.intro zer_31 len_26) (And.intro elt_26 byt_26)) (And.intro (And.intro zel_26 fld_28_0) (And.intro ty_3 ty_31))) (And.intro (And.intro (And.intro flds_31 plc_31_0) (And.intro plc_31_1 plc_31_2)) (And.intro (And.intro plc_31_3 plc_31_4) (And.intro plc_31_5 (And.intro ty_62 ty_28))))
theorem w131 : type_of% (And.intro (And.intro (And.intro (And.intro zer_31 len_26) (And.intro elt_26 byt_26)) (And.intro (And.intro zel_26 flds_31) (And.intro plc_31_0 (And.intro plc_31_1 plc_31_2)))) (And.intro (And.intro (And.intro plc_31_3 plc_31_4) (And.intro plc_31_5 (And.intro ty_62 ty_31))) (And.intro (And.intro ty_28 len_22) (And.intro elt_22 (And.intro byt_22 zel_22))))) := And.intro (And.intro (And.intro (And.intro zer_31 len_26) (And.intro elt_26 byt_26)) (And.intro (And.intro zel_26 flds_31) (And.intro plc_31_0 (And.intro plc_31_1 plc_31_2)))) (And.intro (And.intro (And.intro plc_31_3 plc_31_4) (And.intro plc_31_5 (And.intro ty_62 ty_31))) (And.intro (And.intro ty_28 len_22) (And.intro elt_22 (And.intro byt_22 zel_22))))
theorem w132 : type_of% (And.intro (And.intro (And.intro (And.intro zer_31 (And.intro len_26 elt_26)) (And.intro byt_26 (And.intro zel_26 flds_31))) (And.intro (And.intro plc_31_0 (And.intro plc_31_1 plc_31_2)) (And.intro plc_31_3 (And.intro plc_31_4 plc_31_5)))) (And.intro (And.intro (And.intro ty_62 (And.intro ty_31 ty_28)) (And.intro ifc_62 (And.intro len_29 elt_29))) (And.intro (And.intro byt_29 (And.intro zel_29 len_22)) (And.intro elt_22 (And.intro byt_22 zel_22))))) := And.intro (And.intro (And.intro (And.intro zer_31 (And.intro len_26 elt_26)) (And.intro byt_26 (And.intro zel_26 flds_31))) (And.intro (And.intro plc_31_0 (And.intro plc_31_1 plc_31_2)) (And.intro plc_31_3 (And.intro plc_31_4 plc_31_5)))) (And.intro (And.intro (And.intro ty_62 (And.intro ty_31 ty_28)) (And.intro ifc_62 (And.intro len_29 elt_29))) (And.intro (And.intro byt_29 (And.intro zel_29 len_22)) (And.intro elt_22 (And.intro byt_22 zel_22))))
theorem w133 : type_of% (And.intro (And.intro (And.intro (And.intro zer_31 len_26) (And.intro elt_26 byt_26)) (And.intro (And.intro zel_26 ty_31) (And.intro ty_28 (And.intro ifc_62 flds_31)))) (And.intro (And.intro (And.intro plc_31_0 plc_31_1) (And.intro plc_31_2 (And.intro plc_31_3 plc_31_4))) (And.intro (And.intro plc_31_5 ty_62) (And.intro elt_29 (And.intro zel_29 byt_29))))) := And.intro (And.intro (And.intro (And.intro zer_31 len_26) (And.intro elt_26 byt_26)) (And.intro (And.intro zel_26 ty_31) (And.intro ty_28 (And.intro ifc_62 flds_31)))) (And.intro (And.intro (And.intro plc_31_0 plc_31_1) (And.intro plc_31_2 (And.intro plc_31_3 plc_31_4))) (And.intro (And.intro plc_31_5 ty_62) (And.intro elt_29 (And.intro zel_29 byt_29))))
theorem w134 : type_of% (And.intro (And.intro (And.intro (And.intro zer_31 (And.intro len_26 elt_26)) (And.intro byt_26 (And.intro zel_26 flds_31))) (And.intro (And.intro plc_31_0 (And.intro plc_31_1 plc_31_2)) (And.intro plc_31_3 (And.intro plc_31_4 plc_31_5)))) (And.intro (And.intro (And.intro ty_62 (And.intro ty_31 ty_28)) (And.intro zer_28 (And.intro ifc_62 elt_22))) (And.intro (And.intro zel_22 (And.intro byt_22 len_22)) (And.intro (And.intro elt_29 zel_29) (And.intro byt_29 len_29))))) := And.intro (And.intro (And.intro (And.intro zer_31 (And.intro len_26 elt_26)) (And.intro byt_26 (And.intro zel_26 flds_31))) (And.intro (And.intro plc_31_0 (And.intro plc_31_1 plc_31_2)) (And.intro plc_31_3 (And.intro plc_31_4 plc_31_5)))) (And.intro (And.intro (And.intro ty_62 (And.intro ty_31 ty_28)) (And.intro zer_28 (And.intro ifc_62 elt_22))) (And.intro (And.intro zel_22 (And.intro byt_22 len_22)) (And.intro (And.intro elt_29 zel_29) (And.intro byt_29 len_29))))
theorem w135 : type_of% (And.intro (And.intro zer_31 (And.intro len_26 elt_26)) (And.intro (And.intro byt_26 zel_26) (And.intro ty_31 ty_28))) := And.intro (And.intro zer_31 (And.intro len_26 elt_26)) (And.intro (And.intro byt_26 zel_26) (And.intro ty_31 ty_28))
theorem w139 : type_of% (And.intro (And.intro (And.intro zer_31 zer_28) (And.intro flds_28 plc_28_0)) (And.intro (And.intro plc_28_1 plc_28_2) (And.intro plc_28_3 (And.intro plc_28_4 ty_31)))) := And.intro (And.intro (And.intro zer_31 zer_28) (And.intro flds_28 plc_28_0)) (And.intro (And.intro plc_28_1 plc_28_2) (And.intro plc_28_3 (And.intro plc_28_4 ty_31)))
theorem w140 : type_of% (And.intro (And.intro (And.intro (And.intro zer_31 elt_26) (And.intro ty_28 (And.intro len_26 byt_26))) (And.intro (And.intro zel_26 (And.intro flds_31 plc_31_0)) (And.intro plc_31_1 (And.intro plc_31_2 plc_31_3)))) (And.intro (And.intro (And.intro plc_31_4 plc_31_5) (And.intro ty_62 (And.intro ty_31 elt_22))) (And.intro (And.intro zel_22 (And.intro byt_22 elt_29)) (And.intro zel_29 (And.intro byt_29 len_29))))) := And.intro (And.intro (And.intro (And.intro zer_31 elt_26) (And.intro ty_28 (And.intro len_26 byt_26))) (And.intro (And.intro zel_26 (And.intro flds_31 plc_31_0)) (And.intro plc_31_1 (And.intro plc_31_2 plc_31_3)))) (And.intro (And.intro (And.intro plc_31_4 plc_31_5) (And.intro ty_62 (And.intro ty_31 elt_22))) (And.intro (And.intro zel_22 (And.intro byt_22 elt_29)) (And.intro zel_29 (And.intro byt_29 len_29))))
theorem w141 : type_of% (And.intro (And.intro (And.intro ty_28 (And.intro len_26 elt_26)) (And.intro byt_26 (And.intro zel_26 zer_28))) (And.intro (And.intro ifc_62 (And.intro ty_62 elt_22)) (And.intro zel_22 (And.intro byt_22 len_22)))) := And.intro (And.intro (And.intro ty_28 (And.intro len_26 elt_26)) (And.intro byt_26 (And.intro zel_26 zer_28))) (And.intro (And.intro ifc_62 (And.intro ty_62 elt_22)) (And.intro zel_22 (And.intro byt_22 len_22)))
end Go.Proofs.YtaeioidifpebdaaGreatDoor
end
section
namespace Go.Proofs.YtaeioidifpebdaaGreatDoor
open Go Go.RowKit
set_option linter.unusedSimpArgs false
set_option linter.unusedVariables false
def D.cc : D → List C
 | mk k c neg mag t l => [.v (.int .i64 k), .v (.int .i32 c), .v (.bool neg), .sl 1 (mag.map fun n => [.v (.int .u32 n)]), .v (.string t), .sl 6 (l.map D.cc)]
theorem D.cc_eq (d : D) : d.cc = [.v (.int .i64 d.k), .v (.int .i32 d.c), .v (.bool d.neg), .sl 1 (d.mag.map fun n => [.v (.int .u32 n)]), .v (.string d.t), .sl 6 (d.l.map D.cc)] := by
 cases d; rw [D.cc]; rfl
theorem getC {l : List D} {k : Nat} (h : k < l.length) : (l.map D.cc)[k]? = some (l[k]).cc := by simp [h]
theorem Rd.sl_cc {r : World} {α : Type} {f : α → V} {g : α → List C} {wd : Nat} {l : List α} {u : Value} (hfg : ∀ x ∈ l, ∀ (cs : List Value), Rd r (f x) cs → Ccs ⟨r, []⟩ (g x) cs) (hw : ∀ x, (g x).length = wd) (h : Rd r (.sl (l.map f)) [u]) : Cc ⟨r, []⟩ (.sl wd (l.map g)) u := by
 simp only [Rd] at h
 obtain ⟨v, e, h⟩ := h
 cases e
 simp only [Cc, List.length_map]
 refine ⟨fun e he => by obtain ⟨x, _, rfl⟩ := List.mem_map.1 he; exact hw x, ?_⟩
 rcases h with ⟨h0, h1⟩ | ⟨b, o, cap, e, l1, l2, hr⟩
 ·exact .inl ⟨by simpa using h0, h1⟩
 ·rw [List.length_map] at e l1
  refine .inr ⟨b, o, cap, e, l1, l2, ?_⟩
  clear e l1 l2
  clear hw
  induction l generalizing o with
  | nil => simp [Crow]
  | cons x l ih =>
   simp only [List.map_cons, RdRow] at hr
   obtain ⟨cs, h1, h2, h3⟩ := hr
   simp only [List.map_cons, Crow]
   exact ⟨cs, h1, hfg x (by simp) cs h2, ih (fun y hy => hfg y (by simp [hy])) _ h3⟩
theorem D.cc_len (d : D) : d.cc.length = 6 := by rw [D.cc_eq]; rfl
theorem D.cc_of {r : World} (n : Nat) : ∀ (d : D) (cs : List Value), d.ht ≤ n → Rd r d.v cs → Ccs ⟨r, []⟩ d.cc cs := by
 induction n with
 | zero => intro d _ h; exact absurd h (by cases d; rw [D.ht]; omega)
 | succ n ih =>
  intro d cs hh h
  have hd : ∀ x ∈ d.l, x.ht ≤ n := fun x hx => by
   obtain ⟨i, hi, rfl⟩ := List.mem_iff_getElem.1 hx
   have := D.ht_lt hi; omega
  obtain ⟨am, cm, al, cl, e, hm, hl, -⟩ := IsD.open ⟨cs, rfl, h⟩
  have e' : cs = [.int .i64 d.k, .int .i32 d.c, .bool d.neg, .slice am d.mag.length cm, .string d.t, .slice al d.l.length cl] := by
   simpa using congrArg Array.toList (Value.agg.inj e)
  subst e'
  rw [D.cc_eq]
  have g1 : Cc ⟨r, []⟩ (.sl 1 (d.mag.map fun n => [.v (.int .u32 n)])) (.slice am d.mag.length cm) := Rd.sl_cc (fun x _ cs hx => by simp only [Rd] at hx; subst hx; simp [Ccs, Cc, Value.oneCell']) (fun _ => rfl) hm
  have g2 : Cc ⟨r, []⟩ (.sl 6 (d.l.map D.cc)) (.slice al d.l.length cl) := Rd.sl_cc (fun x hx cs hr => ih x cs (hd x hx) hr) D.cc_len hl
  simp only [Ccs]
  exact ⟨_, _, rfl, by simp [Cc, Value.oneCell'], _, _, rfl, by simp [Cc, Value.oneCell'], _, _, rfl, by simp [Cc, Value.oneCell'], _, _, rfl, g1, _, _, rfl, by simp [Cc, Value.oneCell'], _, _, rfl, g2, rfl⟩
theorem IsD.ca {r : World} {d : D} {v : Value} (h : IsD r d v) : Ca ⟨r, []⟩ (.agg d.cc) v := by
 obtain ⟨cs, rfl, h⟩ := h
 simp only [Ca]
 exact ⟨cs, rfl, D.cc_of d.ht d cs (Nat.le_refl _) h⟩
theorem IsDs.ca {r : World} {l : List D} {v : Value} (h : IsDs r l v) : Ca ⟨r, []⟩ (.one (.sl 6 (l.map D.cc))) v := by
 simp only [Ca]
 exact Rd.sl_cc (fun x _ cs hr => D.cc_of x.ht x cs (Nat.le_refl _) hr) D.cc_len h
theorem Cc.sl_rd {r : World} {α : Type} {f : α → V} {g : α → List C} {wd : Nat} {l : List α} {u : Value} (hfg : ∀ x ∈ l, ∀ (cs : List Value), Ccs ⟨r, []⟩ (g x) cs → Rd r (f x) cs) (h : Cc ⟨r, []⟩ (.sl wd (l.map g)) u) : Rd r (.sl (l.map f)) [u] := by
 simp only [Cc, List.length_map] at h
 simp only [Rd, List.length_map]
 refine ⟨u, rfl, ?_⟩
 rcases h with ⟨-, ⟨h0, h1⟩ | ⟨b, o, cap, e, l1, l2, hr⟩⟩
 ·exact .inl ⟨by simpa using h0, h1⟩
 ·refine .inr ⟨b, o, cap, e, l1, l2, ?_⟩
  clear e l1 l2
  induction l generalizing o with
  | nil => simp [RdRow]
  | cons x l ih =>
   simp only [List.map_cons, Crow] at hr
   obtain ⟨cs, h1, h2, h3⟩ := hr
   simp only [List.map_cons, RdRow]
   exact ⟨cs, h1, hfg x (by simp) cs h2, ih (fun y hy => hfg y (by simp [hy])) _ h3⟩
theorem D.of_cc {r : World} (n : Nat) : ∀ (d : D) (cs : List Value), d.ht ≤ n → Ccs ⟨r, []⟩ d.cc cs → Rd r d.v cs := by
 induction n with
 | zero => intro d _ h; exact absurd h (by cases d; rw [D.ht]; omega)
 | succ n ih =>
  intro d cs hh h
  have hd : ∀ x ∈ d.l, x.ht ≤ n := fun x hx => by
   obtain ⟨i, hi, rfl⟩ := List.mem_iff_getElem.1 hx
   have := D.ht_lt hi; omega
  rw [D.cc_eq] at h
  simp only [Ccs] at h
  obtain ⟨_, _, rfl, h0, _, _, rfl, h1, _, _, rfl, h2, vm, _, rfl, h3, _, _, rfl, h4, vl, _, rfl, h5, rfl⟩ := h
  simp only [Cc] at h0 h1 h2 h4
  rw [h0.1, h1.1, h2.1, h4.1]
  have g1 : IsMag r d.mag vm := Cc.sl_rd (f := fun n => V.val (.int .u32 n)) (fun x _ cs hx => by simp only [Ccs, Cc] at hx; obtain ⟨_, _, rfl, hx, rfl⟩ := hx; simp only [Rd]; rw [hx.1]) h3
  have g2 : IsDs r d.l vl := Cc.sl_rd (fun x hx cs hr => ih x cs (hd x hx) hr) h5
  have := IsD.mk' (d := d) g1 g2
  obtain ⟨cs', e, hr⟩ := this
  have : cs' = _ := (by simpa using (congrArg Array.toList (Value.agg.inj e)).symm : cs' = [_, _, _, _, _, _])
  subst this
  exact hr
theorem Ca.isD {r : World} {d : D} {v : Value} (h : Ca ⟨r, []⟩ (.agg d.cc) v) : IsD r d v := by
 simp only [Ca] at h
 obtain ⟨cs, rfl, h⟩ := h
 exact ⟨cs, rfl, D.of_cc d.ht d cs (Nat.le_refl _) h⟩
theorem Ca.isDs {r : World} {l : List D} {v : Value} (h : Ca ⟨r, []⟩ (.one (.sl 6 (l.map D.cc))) v) : IsDs r l v := by
 simp only [Ca] at h
 exact Cc.sl_rd (fun x _ cs hr => D.of_cc x.ht x cs (Nat.le_refl _) hr) h
theorem vis0 (w : World) : Keeps w (vis (fun _ => false) [] [] w) := fun p v h => by
 unfold vis
 rw [only_cell, if_pos (by simp [hidB])]; exact h
theorem Fr.ext {w w' : World} {S0 : Nat → Bool} (h : Fr S0 w w') (hs : ∀ b, S0 b = false) : Ext w w' := ⟨h.os, h.tape, h.output, h.size, fun b hb => h.block b hb (hs b)⟩
theorem Ext.fr {w w' : World} (S0 : Nat → Bool) (h : Ext w w') : Fr S0 w w' := ⟨h.os, h.tape, h.output, h.size, fun b hb _ => h.block b hb⟩
theorem Pure.calls {P : Program} {f : FuncId} {xs : List A} {u : Value} (h : Pure P f xs (.one (.v u))) {w : World} {vs : List Value} (hg : GL w) (hb : ∀ b, GBw w b → b < w.heap.size) (hv : Cas ⟨w, []⟩ xs vs) : Calls P f vs.toArray w fun e w' => e = .returned u ∧ Ext w w' := by
 refine (h (fun _ => false) [] w vs ⟨rfl, by simp, by simp, by simp, fun b hb => (by cases hb), fun b h => ⟨rfl, rfl, hb b h⟩, hg⟩ (Cas.keep (X := ⟨w, []⟩) (X' := ⟨vis (fun _ => false) [] [] w, []⟩) (vis0 w) (Up.refl _) hv)).mono fun e w' ⟨v, m', r, s', he, ⟨h1, h2⟩, _, hc, hf, _⟩ => ?_
 subst h1 h2
 simp only [Ca, Cc] at hc
 rw [hc.1] at he
 exact ⟨he, hf.ext fun _ => rfl⟩
theorem pure_old {P : Program} {f : FuncId} {xs : List A} {r : A} (h : ∀ (w : World) (vs : List Value), GL w → Cas ⟨w, []⟩ xs vs → Calls P f vs.toArray w fun e w' => ∃ v, e = .returned v ∧ Ext w w' ∧ Ca ⟨since w' w.heap.size, []⟩ r v) : Pure P f xs r := fun H m w vs hs hc => by
 have hm : m = [] := by have := hs.len; simp at this; exact List.eq_nil_of_length_eq_zero (by omega)
 subst hm
 refine (h w vs hs.gl (Cas.keep (X := ⟨vis H [] [] w, []⟩) (X' := ⟨w, []⟩) (vis_keeps _ _ _ _) (Up.refl _) hc)).mono fun e w' ⟨v, he, hx, hr⟩ => ⟨v, [], r, [], he, ⟨rfl, rfl⟩, ⟨rfl, by simp, by simp, by simp, fun b hb => Nat.lt_of_lt_of_le (hs.hlt b hb) hx.le, fun b hb' => have hb : GBw w b := hb'.back fun c hc => hx.block c (hs.gb c (.inl hc)).2.2; ⟨(hs.gb b hb).1, rfl, Nat.lt_of_lt_of_le (hs.gb b hb).2.2 hx.le⟩, GL.stays (fun b hb => hx.block b (hs.gb b hb).2.2) hs.gl⟩, ?_, hx.fr _, Up.refl _, by simp⟩
 refine Ca.keep (X := ⟨since w' w.heap.size, []⟩) (X' := ⟨vis H [] [] w', []⟩) (Keeps.only fun b hp hb => ?_) (Up.refl _) hr
 simp only [decide_eq_true_eq] at hp
 refine ⟨?_, rfl⟩
 cases hH : H b with
 | false => simp [hidB]
 | true => have := hs.hlt b hH; omega
theorem pure_oldG {P : Program} {f : FuncId} {xs : List A} {r : A} (h : ∀ (w : World) (vs : List Value), GL w → Cas ⟨w, []⟩ xs vs → Calls P f vs.toArray w fun e w' => ∃ v, e = .returned v ∧ Ext w w' ∧ Ca ⟨only w' (fun b => decide (w.heap.size ≤ b) || GB b), []⟩ r v) : Pure P f xs r := fun H m w vs hs hc => by
 have hm : m = [] := by have := hs.len; simp at this; exact List.eq_nil_of_length_eq_zero (by omega)
 subst hm
 refine (h w vs hs.gl (Cas.keep (X := ⟨vis H [] [] w, []⟩) (X' := ⟨w, []⟩) (vis_keeps _ _ _ _) (Up.refl _) hc)).mono fun e w' ⟨v, he, hx, hr⟩ => ?_
 have hgb : ∀ b, GBw w' b → H b = false ∧ b < w.heap.size := fun b hb' =>
  have hb : GBw w b := hb'.back fun c hc => hx.block c (hs.gb c (.inl hc)).2.2
  ⟨(hs.gb b hb).1, (hs.gb b hb).2.2⟩
 refine ⟨v, [], r, [], he, ⟨rfl, rfl⟩, ⟨rfl, by simp, by simp, by simp, fun b hb => Nat.lt_of_lt_of_le (hs.hlt b hb) hx.le, fun b hb => ⟨(hgb b hb).1, rfl, Nat.lt_of_lt_of_le (hgb b hb).2 hx.le⟩, GL.stays (fun b hb => hx.block b (hs.gb b hb).2.2) hs.gl⟩, ?_, hx.fr _, Up.refl _, by simp⟩
 refine Ca.keep (X := ⟨only w' (fun b => decide (w.heap.size ≤ b) || GB b), []⟩) (X' := ⟨vis H [] [] w', []⟩) (Keeps.only fun b hp hb => ?_) (Up.refl _) hr
 simp only [Bool.or_eq_true, decide_eq_true_eq] at hp
 refine ⟨?_, rfl⟩
 cases hH : H b with
 | false => simp [hidB]
 | true =>
  rcases hp with hp | hp
  ·have := hs.hlt b hH; omega
  ·have := (hgb b (.inl hp)).1; rw [hH] at this; cases this
theorem pure_old_v {P : Program} {f : FuncId} {xs : List A} {u : Value} (hu : u.oneCell' = true) (h : ∀ (w : World) (vs : List Value), GL w → Cas ⟨w, []⟩ xs vs → Calls P f vs.toArray w fun e w' => e = .returned u ∧ Ext w w') : Pure P f xs (.one (.v u)) :=
 pure_old fun w vs hg hv => (h w vs hg hv).mono fun e w' ⟨he, hx⟩ => ⟨u, he, hx, caV hu⟩
theorem Cas.one1 {X : Cx} {x : A} {vs : List Value} (h : Cas X [x] vs) : ∃ v, vs = [v] ∧ Ca X x v := by
 simp only [Cas] at h
 obtain ⟨v, r, rfl, hv, rfl⟩ := h
 exact ⟨v, rfl, hv⟩
theorem Cas.two {X : Cx} {x y : A} {vs : List Value} (h : Cas X [x, y] vs) : ∃ v u, vs = [v, u] ∧ Ca X x v ∧ Ca X y u := by
 simp only [Cas] at h
 obtain ⟨v, r, rfl, hv, u, q, rfl, hu, rfl⟩ := h
 exact ⟨v, u, rfl, hv, hu⟩
def Made (P : Program) (f : FuncId) (xs : List A) (r : A) : Prop := ∀ (w : World) (vs : List Value), GL w → Cas ⟨w, []⟩ xs vs → Calls P f vs.toArray w fun e w' => ∃ v, e = .returned v ∧ Ext w w' ∧ Ca ⟨since w' w.heap.size, []⟩ r v
theorem Made.pure {P : Program} {f : FuncId} {xs : List A} {r : A} (h : Made P f xs r) : Pure P f xs r := pure_old h
theorem StoOk.hid_lt {H : Nat → Bool} {s : List (Option Ob)} {m : List Lo} {w : World} (hs : StoOk H s m w) {b : Nat} (hb : hidB s m b = true) : b < w.heap.size := by
 obtain ⟨i, ob, l, h1, h2, rfl⟩ := hidB_iff.1 hb
 obtain ⟨vs, rest, hm, -, -⟩ := (hs.ok i ob l h1 h2).mem
 exact (Array.getElem?_eq_some_iff.1 hm).1
theorem made_calls {P : Program} {f : FuncId} {xs xs' : List A} {p : Prop} {r : A} {H : Nat → Bool} {s : List (Option Ob)} {m : List Lo} {w : World} (hv : viewAs s xs = some (p, xs')) (hp : p) (hfn : Made P f xs' r) (hs : StoOk H s m w) (vs : List Value) (hvs : Cas ⟨vis H s m w, m⟩ xs vs) :
  Calls P f vs.toArray w fun e w' => ∃ v, e = .returned v ∧ Fr (fun _ => false) w w' ∧ Ca ⟨vis H s m w', m⟩ r v := by
 refine (hfn w vs hs.gl (Cas.keep (X := ⟨vis H [] [] w, []⟩) (X' := ⟨w, []⟩) (vis_keeps _ _ _ _) (Up.refl _) (viewAs_sound hs hv hp hvs))).mono fun e w' ⟨v, he, hx, hr⟩ => ⟨v, he, hx.fr _, ?_⟩
 refine Ca.keep (X := ⟨since w' w.heap.size, []⟩) (X' := ⟨vis H s m w', m⟩) (Keeps.only fun b hp hb => ?_) (fun i l h => by simp at h) hr
 simp only [decide_eq_true_eq] at hp
 refine ⟨?_, rfl⟩
 cases hH : H b with
 | true => have := hs.hlt b hH; omega
 | false =>
  cases hB : hidB s m b with
  | true => have := hs.hid_lt hB; omega
  | false => rfl
theorem CallA.made {P : Program} {nt : Cf} {st : St} {fo : Operand} {args : List Operand} {f : FuncId} {caps : List C} {xs xs' : List A} {K : A → Prop} {p : Prop} {r : A} (hf : rdA st.e fo = some (.one (.fn f caps))) (ha : rdAs st.e args = some xs) (hc : callable P f = true)
  (hv : viewAs st.s (xs ++ caps.map .one) = some (p, xs')) (hp : p) (hfn : Made P f xs' r) (hK : K r) : CallA P nt fo args st K :=
 ⟨f, caps, xs, hf, ha, hc, fun H w0 S0 m0 m a w hs vs hvs => (made_calls hv hp hfn hs.sto vs hvs).mono fun e w' ⟨v, he, h1, h2⟩ => ⟨v, r, he, hK, h1, h2⟩⟩
theorem OpS.made {P : Program} {nt : Cf} {ds : List (Option Tmp)} {e : List (Nat × A)} {s : List (Option Ob)} {d : Option Tmp} {ty : TypeId} {pos : String} {aft : Array Edge} {g : Option (Nat × Bool)} {fo : Operand} {args : List Operand} {tys : Array TypeId} {f : FuncId} {caps : List C} {xs xs' : List A} {p : Prop} {r : A} (hg : guardA ds e g = some true) (hf : rdA e fo = some (.one (.fn f caps))) (ha : rdAs e args = some xs) (hc : callable P f = true)
  (hv : viewAs s (xs ++ caps.map .one) = some (p, xs')) (hp : p) (hfn : Made P f xs' r) : OpS P nt ds ⟨d, .call { callee := .value fo, args := args.toArray, argTypes := tys }, ty, pos, aft, g⟩ e s r s :=
 OpS.call hg hf ha hc fun H w0 S0 m0 mm a w hs vs hvs => made_calls hv hp hfn hs.sto vs hvs
end Go.Proofs.YtaeioidifpebdaaGreatDoor
end
