/-
  Laid together: Ty, DatC, Bridge, Made.
-/
import Derived.Test.YtdcmihhcpgkgiaaDoorG2
import Derived.Test.YtdcmihhcpgkgiaaDoorProg
import Derived.KernelRfl
import Derived.Test.YtdcmihhcpgkgiaaDoorChecked
import Derived.Test.YtdcmihhcpgkgiaaDoorPhi
import Derived.Test.YtdcmihhcpgkgiaaDoorKit

section
namespace Go.Proofs.YtdcmihhcpgkgiaaDoor
set_option linter.unusedVariables false
theorem ty_2 : tyI Tryd.prog 2 = some (false, 1) := by kernel_rfl
theorem any_2 : anyI Tryd.prog 2 = true := by kernel_rfl
theorem int_2 : intI Tryd.prog 2 = some .i64 := by kernel_rfl
theorem zer_2 : zerI Tryd.prog 2 = some [.int .i64 0] := by kernel_rfl
theorem ty_3 : tyI Tryd.prog 3 = some (false, 1) := by kernel_rfl
theorem any_3 : anyI Tryd.prog 3 = true := by kernel_rfl
theorem int_3 : intI Tryd.prog 3 = some .i64 := by kernel_rfl
theorem zer_3 : zerI Tryd.prog 3 = some [.int .i64 0] := by kernel_rfl
theorem ty_4 : tyI Tryd.prog 4 = some (false, 1) := by kernel_rfl
theorem any_4 : anyI Tryd.prog 4 = true := by kernel_rfl
theorem bool_4 : boolI Tryd.prog 4 = true := by kernel_rfl
theorem zer_4 : zerI Tryd.prog 4 = some [.bool false] := by kernel_rfl
theorem ty_5 : tyI Tryd.prog 5 = some (false, 1) := by kernel_rfl
theorem any_5 : anyI Tryd.prog 5 = true := by kernel_rfl
theorem int_5 : intI Tryd.prog 5 = some .u8 := by kernel_rfl
theorem zer_5 : zerI Tryd.prog 5 = some [.int .u8 0] := by kernel_rfl
theorem ty_6 : tyI Tryd.prog 6 = some (false, 1) := by kernel_rfl
theorem any_6 : anyI Tryd.prog 6 = true := by kernel_rfl
theorem int_6 : intI Tryd.prog 6 = some .u8 := by kernel_rfl
theorem zer_6 : zerI Tryd.prog 6 = some [.int .u8 0] := by kernel_rfl
theorem ty_7 : tyI Tryd.prog 7 = some (true, 4) := by kernel_rfl
theorem any_7 : anyI Tryd.prog 7 = true := by kernel_rfl
theorem flds_7 : fldsI Tryd.prog 7 = true := by kernel_rfl
theorem fld_7_0 : fldI Tryd.prog 7 0 = some (0, 2) := by kernel_rfl
theorem plc_7_0 : placeI Tryd.prog 7 0 = some (0, 1) := by kernel_rfl
theorem fld_7_1 : fldI Tryd.prog 7 1 = some (1, 3) := by kernel_rfl
theorem plc_7_1 : placeI Tryd.prog 7 1 = some (1, 1) := by kernel_rfl
theorem fld_7_2 : fldI Tryd.prog 7 2 = some (2, 4) := by kernel_rfl
theorem plc_7_2 : placeI Tryd.prog 7 2 = some (2, 1) := by kernel_rfl
theorem fld_7_3 : fldI Tryd.prog 7 3 = some (3, 6) := by kernel_rfl
theorem plc_7_3 : placeI Tryd.prog 7 3 = some (3, 1) := by kernel_rfl
theorem zer_7 : zerI Tryd.prog 7 = some [.int .i64 0, .int .i64 0, .bool false, .int .u8 0] := by kernel_rfl
theorem ty_8 : tyI Tryd.prog 8 = some (true, 4) := by kernel_rfl
theorem any_8 : anyI Tryd.prog 8 = true := by kernel_rfl
theorem flds_8 : fldsI Tryd.prog 8 = true := by kernel_rfl
theorem fld_8_0 : fldI Tryd.prog 8 0 = some (0, 2) := by kernel_rfl
theorem plc_8_0 : placeI Tryd.prog 8 0 = some (0, 1) := by kernel_rfl
theorem fld_8_1 : fldI Tryd.prog 8 1 = some (1, 3) := by kernel_rfl
theorem plc_8_1 : placeI Tryd.prog 8 1 = some (1, 1) := by kernel_rfl
theorem fld_8_2 : fldI Tryd.prog 8 2 = some (2, 4) := by kernel_rfl
theorem plc_8_2 : placeI Tryd.prog 8 2 = some (2, 1) := by kernel_rfl
theorem fld_8_3 : fldI Tryd.prog 8 3 = some (3, 6) := by kernel_rfl
theorem plc_8_3 : placeI Tryd.prog 8 3 = some (3, 1) := by kernel_rfl
theorem zer_8 : zerI Tryd.prog 8 = some [.int .i64 0, .int .i64 0, .bool false, .int .u8 0] := by kernel_rfl
theorem ty_9 : tyI Tryd.prog 9 = some (false, 1) := by kernel_rfl
theorem any_9 : anyI Tryd.prog 9 = true := by kernel_rfl
theorem str_9 : strI Tryd.prog 9 = true := by kernel_rfl
theorem len_9 : lenT Tryd.prog 9 = some true := by kernel_rfl
theorem zer_9 : zerI Tryd.prog 9 = some [.string ⟨#[]⟩] := by kernel_rfl
theorem ty_10 : tyI Tryd.prog 10 = some (false, 1) := by kernel_rfl
theorem any_10 : anyI Tryd.prog 10 = true := by kernel_rfl
theorem str_10 : strI Tryd.prog 10 = true := by kernel_rfl
theorem len_10 : lenT Tryd.prog 10 = some true := by kernel_rfl
theorem zer_10 : zerI Tryd.prog 10 = some [.string ⟨#[]⟩] := by kernel_rfl
theorem ty_11 : tyI Tryd.prog 11 = some (false, 1) := by kernel_rfl
theorem any_11 : anyI Tryd.prog 11 = true := by kernel_rfl
theorem str_11 : strI Tryd.prog 11 = true := by kernel_rfl
theorem len_11 : lenT Tryd.prog 11 = some true := by kernel_rfl
theorem zer_11 : zerI Tryd.prog 11 = some [.string ⟨#[]⟩] := by kernel_rfl
theorem ty_12 : tyI Tryd.prog 12 = some (false, 1) := by kernel_rfl
theorem any_12 : anyI Tryd.prog 12 = true := by kernel_rfl
theorem int_12 : intI Tryd.prog 12 = some .u64 := by kernel_rfl
theorem zer_12 : zerI Tryd.prog 12 = some [.int .u64 0] := by kernel_rfl
theorem ty_13 : tyI Tryd.prog 13 = some (true, 2) := by kernel_rfl
theorem any_13 : anyI Tryd.prog 13 = true := by kernel_rfl
theorem flds_13 : fldsI Tryd.prog 13 = true := by kernel_rfl
theorem fld_13_0 : fldI Tryd.prog 13 0 = some (0, 9) := by kernel_rfl
theorem plc_13_0 : placeI Tryd.prog 13 0 = some (0, 1) := by kernel_rfl
theorem fld_13_1 : fldI Tryd.prog 13 1 = some (1, 12) := by kernel_rfl
theorem plc_13_1 : placeI Tryd.prog 13 1 = some (1, 1) := by kernel_rfl
theorem zer_13 : zerI Tryd.prog 13 = some [.string ⟨#[]⟩, .int .u64 0] := by kernel_rfl
theorem ty_14 : tyI Tryd.prog 14 = some (true, 2) := by kernel_rfl
theorem any_14 : anyI Tryd.prog 14 = true := by kernel_rfl
theorem flds_14 : fldsI Tryd.prog 14 = true := by kernel_rfl
theorem fld_14_0 : fldI Tryd.prog 14 0 = some (0, 9) := by kernel_rfl
theorem plc_14_0 : placeI Tryd.prog 14 0 = some (0, 1) := by kernel_rfl
theorem fld_14_1 : fldI Tryd.prog 14 1 = some (1, 12) := by kernel_rfl
theorem plc_14_1 : placeI Tryd.prog 14 1 = some (1, 1) := by kernel_rfl
theorem zer_14 : zerI Tryd.prog 14 = some [.string ⟨#[]⟩, .int .u64 0] := by kernel_rfl
theorem ty_15 : tyI Tryd.prog 15 = some (false, 1) := by kernel_rfl
theorem any_15 : anyI Tryd.prog 15 = true := by kernel_rfl
theorem ptr_15 : ptrI Tryd.prog 15 = true := by kernel_rfl
theorem zer_15 : zerI Tryd.prog 15 = some [.pointer none] := by kernel_rfl
theorem ty_16 : tyI Tryd.prog 16 = some (false, 1) := by kernel_rfl
theorem any_16 : anyI Tryd.prog 16 = true := by kernel_rfl
theorem ptr_16 : ptrI Tryd.prog 16 = true := by kernel_rfl
theorem zer_16 : zerI Tryd.prog 16 = some [.pointer none] := by kernel_rfl
theorem ty_17 : tyI Tryd.prog 17 = some (false, 1) := by kernel_rfl
theorem any_17 : anyI Tryd.prog 17 = true := by kernel_rfl
theorem ptr_17 : ptrI Tryd.prog 17 = true := by kernel_rfl
theorem zer_17 : zerI Tryd.prog 17 = some [.pointer none] := by kernel_rfl
theorem ty_18 : tyI Tryd.prog 18 = some (true, 1) := by kernel_rfl
theorem any_18 : anyI Tryd.prog 18 = true := by kernel_rfl
theorem flds_18 : fldsI Tryd.prog 18 = true := by kernel_rfl
theorem fld_18_0 : fldI Tryd.prog 18 0 = some (0, 17) := by kernel_rfl
theorem plc_18_0 : placeI Tryd.prog 18 0 = some (0, 1) := by kernel_rfl
theorem zer_18 : zerI Tryd.prog 18 = some [.pointer none] := by kernel_rfl
theorem ty_19 : tyI Tryd.prog 19 = some (true, 1) := by kernel_rfl
theorem any_19 : anyI Tryd.prog 19 = true := by kernel_rfl
theorem flds_19 : fldsI Tryd.prog 19 = true := by kernel_rfl
theorem fld_19_0 : fldI Tryd.prog 19 0 = some (0, 17) := by kernel_rfl
theorem plc_19_0 : placeI Tryd.prog 19 0 = some (0, 1) := by kernel_rfl
theorem zer_19 : zerI Tryd.prog 19 = some [.pointer none] := by kernel_rfl
theorem ty_21 : tyI Tryd.prog 21 = some (false, 1) := by kernel_rfl
theorem any_21 : anyI Tryd.prog 21 = true := by kernel_rfl
theorem int_21 : intI Tryd.prog 21 = some .i32 := by kernel_rfl
theorem zer_21 : zerI Tryd.prog 21 = some [.int .i32 0] := by kernel_rfl
theorem ty_22 : tyI Tryd.prog 22 = some (false, 1) := by kernel_rfl
theorem any_22 : anyI Tryd.prog 22 = true := by kernel_rfl
theorem elt_22 : eltI Tryd.prog 22 = some (48, 3) := by kernel_rfl
theorem len_22 : lenT Tryd.prog 22 = some false := by kernel_rfl
theorem byt_22 : bytI Tryd.prog 22 = some 24 := by kernel_rfl
theorem zel_22 : zerI Tryd.prog 48 = some [.int .i64 0, .int .i64 0, .int .i64 0] := by kernel_rfl
theorem zer_22 : zerI Tryd.prog 22 = some [.slice none 0 0] := by kernel_rfl
theorem ty_23 : tyI Tryd.prog 23 = some (true, 5) := by kernel_rfl
theorem any_23 : anyI Tryd.prog 23 = true := by kernel_rfl
theorem flds_23 : fldsI Tryd.prog 23 = true := by kernel_rfl
theorem fld_23_0 : fldI Tryd.prog 23 0 = some (0, 9) := by kernel_rfl
theorem plc_23_0 : placeI Tryd.prog 23 0 = some (0, 1) := by kernel_rfl
theorem fld_23_1 : fldI Tryd.prog 23 1 = some (1, 9) := by kernel_rfl
theorem plc_23_1 : placeI Tryd.prog 23 1 = some (1, 1) := by kernel_rfl
theorem fld_23_2 : fldI Tryd.prog 23 2 = some (2, 3) := by kernel_rfl
theorem plc_23_2 : placeI Tryd.prog 23 2 = some (2, 1) := by kernel_rfl
theorem fld_23_3 : fldI Tryd.prog 23 3 = some (3, 3) := by kernel_rfl
theorem plc_23_3 : placeI Tryd.prog 23 3 = some (3, 1) := by kernel_rfl
theorem fld_23_4 : fldI Tryd.prog 23 4 = some (4, 22) := by kernel_rfl
theorem plc_23_4 : placeI Tryd.prog 23 4 = some (4, 1) := by kernel_rfl
theorem zer_23 : zerI Tryd.prog 23 = some [.string ⟨#[]⟩, .string ⟨#[]⟩, .int .i64 0, .int .i64 0, .slice none 0 0] := by kernel_rfl
theorem ty_24 : tyI Tryd.prog 24 = some (true, 5) := by kernel_rfl
theorem any_24 : anyI Tryd.prog 24 = true := by kernel_rfl
theorem flds_24 : fldsI Tryd.prog 24 = true := by kernel_rfl
theorem fld_24_0 : fldI Tryd.prog 24 0 = some (0, 9) := by kernel_rfl
theorem plc_24_0 : placeI Tryd.prog 24 0 = some (0, 1) := by kernel_rfl
theorem fld_24_1 : fldI Tryd.prog 24 1 = some (1, 9) := by kernel_rfl
theorem plc_24_1 : placeI Tryd.prog 24 1 = some (1, 1) := by kernel_rfl
theorem fld_24_2 : fldI Tryd.prog 24 2 = some (2, 3) := by kernel_rfl
theorem plc_24_2 : placeI Tryd.prog 24 2 = some (2, 1) := by kernel_rfl
theorem fld_24_3 : fldI Tryd.prog 24 3 = some (3, 3) := by kernel_rfl
theorem plc_24_3 : placeI Tryd.prog 24 3 = some (3, 1) := by kernel_rfl
theorem fld_24_4 : fldI Tryd.prog 24 4 = some (4, 22) := by kernel_rfl
theorem plc_24_4 : placeI Tryd.prog 24 4 = some (4, 1) := by kernel_rfl
theorem zer_24 : zerI Tryd.prog 24 = some [.string ⟨#[]⟩, .string ⟨#[]⟩, .int .i64 0, .int .i64 0, .slice none 0 0] := by kernel_rfl
theorem ty_27 : tyI Tryd.prog 27 = some (false, 1) := by kernel_rfl
theorem any_27 : anyI Tryd.prog 27 = true := by kernel_rfl
theorem int_27 : intI Tryd.prog 27 = some .i64 := by kernel_rfl
theorem zer_27 : zerI Tryd.prog 27 = some [.int .i64 0] := by kernel_rfl
theorem ty_30 : tyI Tryd.prog 30 = some (true, 5) := by kernel_rfl
theorem any_30 : anyI Tryd.prog 30 = true := by kernel_rfl
theorem flds_30 : fldsI Tryd.prog 30 = true := by kernel_rfl
theorem fld_30_0 : fldI Tryd.prog 30 0 = some (0, 9) := by kernel_rfl
theorem plc_30_0 : placeI Tryd.prog 30 0 = some (0, 1) := by kernel_rfl
theorem fld_30_1 : fldI Tryd.prog 30 1 = some (1, 27) := by kernel_rfl
theorem plc_30_1 : placeI Tryd.prog 30 1 = some (1, 1) := by kernel_rfl
theorem fld_30_2 : fldI Tryd.prog 30 2 = some (2, 3) := by kernel_rfl
theorem plc_30_2 : placeI Tryd.prog 30 2 = some (2, 1) := by kernel_rfl
theorem fld_30_3 : fldI Tryd.prog 30 3 = some (3, 3) := by kernel_rfl
theorem plc_30_3 : placeI Tryd.prog 30 3 = some (3, 1) := by kernel_rfl
theorem fld_30_4 : fldI Tryd.prog 30 4 = some (4, 22) := by kernel_rfl
theorem plc_30_4 : placeI Tryd.prog 30 4 = some (4, 1) := by kernel_rfl
theorem zer_30 : zerI Tryd.prog 30 = some [.string ⟨#[]⟩, .int .i64 0, .int .i64 0, .int .i64 0, .slice none 0 0] := by kernel_rfl
theorem ty_31 : tyI Tryd.prog 31 = some (true, 5) := by kernel_rfl
theorem any_31 : anyI Tryd.prog 31 = true := by kernel_rfl
theorem flds_31 : fldsI Tryd.prog 31 = true := by kernel_rfl
theorem fld_31_0 : fldI Tryd.prog 31 0 = some (0, 9) := by kernel_rfl
theorem plc_31_0 : placeI Tryd.prog 31 0 = some (0, 1) := by kernel_rfl
theorem fld_31_1 : fldI Tryd.prog 31 1 = some (1, 27) := by kernel_rfl
theorem plc_31_1 : placeI Tryd.prog 31 1 = some (1, 1) := by kernel_rfl
theorem fld_31_2 : fldI Tryd.prog 31 2 = some (2, 3) := by kernel_rfl
theorem plc_31_2 : placeI Tryd.prog 31 2 = some (2, 1) := by kernel_rfl
theorem fld_31_3 : fldI Tryd.prog 31 3 = some (3, 3) := by kernel_rfl
theorem plc_31_3 : placeI Tryd.prog 31 3 = some (3, 1) := by kernel_rfl
theorem fld_31_4 : fldI Tryd.prog 31 4 = some (4, 22) := by kernel_rfl
theorem plc_31_4 : placeI Tryd.prog 31 4 = some (4, 1) := by kernel_rfl
theorem zer_31 : zerI Tryd.prog 31 = some [.string ⟨#[]⟩, .int .i64 0, .int .i64 0, .int .i64 0, .slice none 0 0] := by kernel_rfl
theorem ty_41 : tyI Tryd.prog 41 = some (false, 1) := by kernel_rfl
theorem any_41 : anyI Tryd.prog 41 = true := by kernel_rfl
theorem ptr_41 : ptrI Tryd.prog 41 = true := by kernel_rfl
theorem zer_41 : zerI Tryd.prog 41 = some [.pointer none] := by kernel_rfl
theorem ty_42 : tyI Tryd.prog 42 = some (false, 1) := by kernel_rfl
theorem any_42 : anyI Tryd.prog 42 = true := by kernel_rfl
theorem elt_42 : eltI Tryd.prog 42 = some (5, 1) := by kernel_rfl
theorem len_42 : lenT Tryd.prog 42 = some false := by kernel_rfl
theorem sl8_42 : sl8 Tryd.prog 42 = true := by kernel_rfl
theorem nst_42 : strI Tryd.prog 42 = false := by kernel_rfl
theorem byt_42 : bytI Tryd.prog 42 = some 1 := by kernel_rfl
theorem zel_42 : zerI Tryd.prog 5 = some [.int .u8 0] := by kernel_rfl
theorem zer_42 : zerI Tryd.prog 42 = some [.slice none 0 0] := by kernel_rfl
theorem ty_43 : tyI Tryd.prog 43 = some (true, 1) := by kernel_rfl
theorem any_43 : anyI Tryd.prog 43 = true := by kernel_rfl
theorem flds_43 : fldsI Tryd.prog 43 = true := by kernel_rfl
theorem fld_43_0 : fldI Tryd.prog 43 0 = some (0, 42) := by kernel_rfl
theorem plc_43_0 : placeI Tryd.prog 43 0 = some (0, 1) := by kernel_rfl
theorem zer_43 : zerI Tryd.prog 43 = some [.slice none 0 0] := by kernel_rfl
theorem ty_44 : tyI Tryd.prog 44 = some (true, 1) := by kernel_rfl
theorem any_44 : anyI Tryd.prog 44 = true := by kernel_rfl
theorem flds_44 : fldsI Tryd.prog 44 = true := by kernel_rfl
theorem fld_44_0 : fldI Tryd.prog 44 0 = some (0, 42) := by kernel_rfl
theorem plc_44_0 : placeI Tryd.prog 44 0 = some (0, 1) := by kernel_rfl
theorem zer_44 : zerI Tryd.prog 44 = some [.slice none 0 0] := by kernel_rfl
theorem ty_47 : tyI Tryd.prog 47 = some (true, 3) := by kernel_rfl
theorem any_47 : anyI Tryd.prog 47 = true := by kernel_rfl
theorem flds_47 : fldsI Tryd.prog 47 = true := by kernel_rfl
theorem fld_47_0 : fldI Tryd.prog 47 0 = some (0, 3) := by kernel_rfl
theorem plc_47_0 : placeI Tryd.prog 47 0 = some (0, 1) := by kernel_rfl
theorem fld_47_1 : fldI Tryd.prog 47 1 = some (1, 3) := by kernel_rfl
theorem plc_47_1 : placeI Tryd.prog 47 1 = some (1, 1) := by kernel_rfl
theorem fld_47_2 : fldI Tryd.prog 47 2 = some (2, 3) := by kernel_rfl
theorem plc_47_2 : placeI Tryd.prog 47 2 = some (2, 1) := by kernel_rfl
theorem zer_47 : zerI Tryd.prog 47 = some [.int .i64 0, .int .i64 0, .int .i64 0] := by kernel_rfl
theorem ty_48 : tyI Tryd.prog 48 = some (true, 3) := by kernel_rfl
theorem any_48 : anyI Tryd.prog 48 = true := by kernel_rfl
theorem flds_48 : fldsI Tryd.prog 48 = true := by kernel_rfl
theorem fld_48_0 : fldI Tryd.prog 48 0 = some (0, 3) := by kernel_rfl
theorem plc_48_0 : placeI Tryd.prog 48 0 = some (0, 1) := by kernel_rfl
theorem fld_48_1 : fldI Tryd.prog 48 1 = some (1, 3) := by kernel_rfl
theorem plc_48_1 : placeI Tryd.prog 48 1 = some (1, 1) := by kernel_rfl
theorem fld_48_2 : fldI Tryd.prog 48 2 = some (2, 3) := by kernel_rfl
theorem plc_48_2 : placeI Tryd.prog 48 2 = some (2, 1) := by kernel_rfl
theorem zer_48 : zerI Tryd.prog 48 = some [.int .i64 0, .int .i64 0, .int .i64 0] := by kernel_rfl
theorem ty_53 : tyI Tryd.prog 53 = some (false, 1) := by kernel_rfl
theorem any_53 : anyI Tryd.prog 53 = true := by kernel_rfl
theorem elt_53 : eltI Tryd.prog 53 = some (3, 1) := by kernel_rfl
theorem len_53 : lenT Tryd.prog 53 = some false := by kernel_rfl
theorem byt_53 : bytI Tryd.prog 53 = some 8 := by kernel_rfl
theorem zel_53 : zerI Tryd.prog 3 = some [.int .i64 0] := by kernel_rfl
theorem zer_53 : zerI Tryd.prog 53 = some [.slice none 0 0] := by kernel_rfl
theorem ty_54 : tyI Tryd.prog 54 = some (false, 1) := by kernel_rfl
theorem any_54 : anyI Tryd.prog 54 = true := by kernel_rfl
theorem ptr_54 : ptrI Tryd.prog 54 = true := by kernel_rfl
theorem zer_54 : zerI Tryd.prog 54 = some [.pointer none] := by kernel_rfl
theorem ty_55 : tyI Tryd.prog 55 = some (true, 2) := by kernel_rfl
theorem any_55 : anyI Tryd.prog 55 = true := by kernel_rfl
theorem flds_55 : fldsI Tryd.prog 55 = true := by kernel_rfl
theorem fld_55_0 : fldI Tryd.prog 55 0 = some (0, 9) := by kernel_rfl
theorem plc_55_0 : placeI Tryd.prog 55 0 = some (0, 1) := by kernel_rfl
theorem fld_55_1 : fldI Tryd.prog 55 1 = some (1, 3) := by kernel_rfl
theorem plc_55_1 : placeI Tryd.prog 55 1 = some (1, 1) := by kernel_rfl
theorem zer_55 : zerI Tryd.prog 55 = some [.string ⟨#[]⟩, .int .i64 0] := by kernel_rfl
theorem ty_56 : tyI Tryd.prog 56 = some (true, 2) := by kernel_rfl
theorem any_56 : anyI Tryd.prog 56 = true := by kernel_rfl
theorem flds_56 : fldsI Tryd.prog 56 = true := by kernel_rfl
theorem fld_56_0 : fldI Tryd.prog 56 0 = some (0, 9) := by kernel_rfl
theorem plc_56_0 : placeI Tryd.prog 56 0 = some (0, 1) := by kernel_rfl
theorem fld_56_1 : fldI Tryd.prog 56 1 = some (1, 3) := by kernel_rfl
theorem plc_56_1 : placeI Tryd.prog 56 1 = some (1, 1) := by kernel_rfl
theorem zer_56 : zerI Tryd.prog 56 = some [.string ⟨#[]⟩, .int .i64 0] := by kernel_rfl
theorem ty_57 : tyI Tryd.prog 57 = some (true, 2) := by kernel_rfl
theorem any_57 : anyI Tryd.prog 57 = true := by kernel_rfl
theorem flds_57 : fldsI Tryd.prog 57 = true := by kernel_rfl
theorem fld_57_0 : fldI Tryd.prog 57 0 = some (0, 56) := by kernel_rfl
theorem plc_57_0 : placeI Tryd.prog 57 0 = some (0, 2) := by kernel_rfl
theorem zer_57 : zerI Tryd.prog 57 = some [.string ⟨#[]⟩, .int .i64 0] := by kernel_rfl
theorem ty_58 : tyI Tryd.prog 58 = some (true, 2) := by kernel_rfl
theorem any_58 : anyI Tryd.prog 58 = true := by kernel_rfl
theorem flds_58 : fldsI Tryd.prog 58 = true := by kernel_rfl
theorem fld_58_0 : fldI Tryd.prog 58 0 = some (0, 56) := by kernel_rfl
theorem plc_58_0 : placeI Tryd.prog 58 0 = some (0, 2) := by kernel_rfl
theorem zer_58 : zerI Tryd.prog 58 = some [.string ⟨#[]⟩, .int .i64 0] := by kernel_rfl
theorem ty_63 : tyI Tryd.prog 63 = some (false, 1) := by kernel_rfl
theorem any_63 : anyI Tryd.prog 63 = true := by kernel_rfl
theorem zer_63 : zerI Tryd.prog 63 = some [.map none] := by kernel_rfl
theorem ty_65 : tyI Tryd.prog 65 = some (false, 1) := by kernel_rfl
theorem any_65 : anyI Tryd.prog 65 = true := by kernel_rfl
theorem zer_65 : zerI Tryd.prog 65 = some [.nilFunc] := by kernel_rfl
theorem ty_67 : tyI Tryd.prog 67 = some (true, 2) := by kernel_rfl
theorem any_67 : anyI Tryd.prog 67 = true := by kernel_rfl
theorem arr_67 : arrI Tryd.prog 67 = some (2, 9, 1) := by kernel_rfl
theorem zer_67 : zerI Tryd.prog 67 = some [.string ⟨#[]⟩, .string ⟨#[]⟩] := by kernel_rfl
theorem ty_69 : tyI Tryd.prog 69 = some (false, 1) := by kernel_rfl
theorem any_69 : anyI Tryd.prog 69 = true := by kernel_rfl
theorem ptr_69 : ptrI Tryd.prog 69 = true := by kernel_rfl
theorem zer_69 : zerI Tryd.prog 69 = some [.pointer none] := by kernel_rfl
theorem ty_70 : tyI Tryd.prog 70 = some (false, 1) := by kernel_rfl
theorem any_70 : anyI Tryd.prog 70 = true := by kernel_rfl
theorem int_70 : intI Tryd.prog 70 = some .u64 := by kernel_rfl
theorem zer_70 : zerI Tryd.prog 70 = some [.int .u64 0] := by kernel_rfl
theorem ty_71 : tyI Tryd.prog 71 = some (false, 1) := by kernel_rfl
theorem any_71 : anyI Tryd.prog 71 = true := by kernel_rfl
theorem int_71 : intI Tryd.prog 71 = some .u64 := by kernel_rfl
theorem zer_71 : zerI Tryd.prog 71 = some [.int .u64 0] := by kernel_rfl
theorem ty_74 : tyI Tryd.prog 74 = some (false, 1) := by kernel_rfl
theorem any_74 : anyI Tryd.prog 74 = true := by kernel_rfl
theorem ptr_74 : ptrI Tryd.prog 74 = true := by kernel_rfl
theorem zer_74 : zerI Tryd.prog 74 = some [.pointer none] := by kernel_rfl
theorem ty_78 : tyI Tryd.prog 78 = some (false, 1) := by kernel_rfl
theorem any_78 : anyI Tryd.prog 78 = true := by kernel_rfl
theorem elt_78 : eltI Tryd.prog 78 = some (9, 1) := by kernel_rfl
theorem len_78 : lenT Tryd.prog 78 = some false := by kernel_rfl
theorem byt_78 : bytI Tryd.prog 78 = some 16 := by kernel_rfl
theorem zel_78 : zerI Tryd.prog 9 = some [.string ⟨#[]⟩] := by kernel_rfl
theorem zer_78 : zerI Tryd.prog 78 = some [.slice none 0 0] := by kernel_rfl
theorem ty_87 : tyI Tryd.prog 87 = some (false, 1) := by kernel_rfl
theorem any_87 : anyI Tryd.prog 87 = true := by kernel_rfl
theorem zer_87 : zerI Tryd.prog 87 = some [.nilIface] := by kernel_rfl
theorem ty_94 : tyI Tryd.prog 94 = some (true, 24) := by kernel_rfl
theorem any_94 : anyI Tryd.prog 94 = true := by kernel_rfl
theorem arr_94 : arrI Tryd.prog 94 = some (24, 5, 1) := by kernel_rfl
theorem zer_94 : zerI Tryd.prog 94 = some [.int .u8 0, .int .u8 0, .int .u8 0, .int .u8 0, .int .u8 0, .int .u8 0, .int .u8 0, .int .u8 0, .int .u8 0, .int .u8 0, .int .u8 0, .int .u8 0, .int .u8 0, .int .u8 0, .int .u8 0, .int .u8 0, .int .u8 0, .int .u8 0, .int .u8 0, .int .u8 0, .int .u8 0, .int .u8 0, .int .u8 0, .int .u8 0] := by kernel_rfl
theorem ty_103 : tyI Tryd.prog 103 = some (false, 1) := by kernel_rfl
theorem any_103 : anyI Tryd.prog 103 = true := by kernel_rfl
theorem int_103 : intI Tryd.prog 103 = some .i64 := by kernel_rfl
theorem zer_103 : zerI Tryd.prog 103 = some [.int .i64 0] := by kernel_rfl
theorem ty_106 : tyI Tryd.prog 106 = some (false, 1) := by kernel_rfl
theorem any_106 : anyI Tryd.prog 106 = true := by kernel_rfl
theorem ptr_106 : ptrI Tryd.prog 106 = true := by kernel_rfl
theorem zer_106 : zerI Tryd.prog 106 = some [.pointer none] := by kernel_rfl
theorem ty_110 : tyI Tryd.prog 110 = some (true, 20) := by kernel_rfl
theorem any_110 : anyI Tryd.prog 110 = true := by kernel_rfl
theorem arr_110 : arrI Tryd.prog 110 = some (20, 70, 1) := by kernel_rfl
theorem zer_110 : zerI Tryd.prog 110 = some [.int .u64 0, .int .u64 0, .int .u64 0, .int .u64 0, .int .u64 0, .int .u64 0, .int .u64 0, .int .u64 0, .int .u64 0, .int .u64 0, .int .u64 0, .int .u64 0, .int .u64 0, .int .u64 0, .int .u64 0, .int .u64 0, .int .u64 0, .int .u64 0, .int .u64 0, .int .u64 0] := by kernel_rfl
theorem ty_111 : tyI Tryd.prog 111 = some (false, 1) := by kernel_rfl
theorem any_111 : anyI Tryd.prog 111 = true := by kernel_rfl
theorem int_111 : intI Tryd.prog 111 = some .u32 := by kernel_rfl
theorem zer_111 : zerI Tryd.prog 111 = some [.int .u32 0] := by kernel_rfl
theorem ty_112 : tyI Tryd.prog 112 = some (true, 65) := by kernel_rfl
theorem any_112 : anyI Tryd.prog 112 = true := by kernel_rfl
theorem arr_112 : arrI Tryd.prog 112 = some (65, 5, 1) := by kernel_rfl
theorem zer_112 : zerI Tryd.prog 112 = some [.int .u8 0, .int .u8 0, .int .u8 0, .int .u8 0, .int .u8 0, .int .u8 0, .int .u8 0, .int .u8 0, .int .u8 0, .int .u8 0, .int .u8 0, .int .u8 0, .int .u8 0, .int .u8 0, .int .u8 0, .int .u8 0, .int .u8 0, .int .u8 0, .int .u8 0, .int .u8 0, .int .u8 0, .int .u8 0, .int .u8 0, .int .u8 0, .int .u8 0, .int .u8 0, .int .u8 0, .int .u8 0, .int .u8 0, .int .u8 0, .int .u8 0, .int .u8 0, .int .u8 0, .int .u8 0, .int .u8 0, .int .u8 0, .int .u8 0, .int .u8 0, .int .u8 0, .int .u8 0, .int .u8 0, .int .u8 0, .int .u8 0, .int .u8 0, .int .u8 0, .int .u8 0, .int .u8 0, .int .u8 0, .int .u8 0, .int .u8 0, .int .u8 0, .int .u8 0, .int .u8 0, .int .u8 0, .int .u8 0, .int .u8 0, .int .u8 0, .int .u8 0, .int .u8 0, .int .u8 0, .int .u8 0, .int .u8 0, .int .u8 0, .int .u8 0, .int .u8 0] := by kernel_rfl
theorem ty_118 : tyI Tryd.prog 118 = some (true, 3) := by kernel_rfl
theorem any_118 : anyI Tryd.prog 118 = true := by kernel_rfl
theorem flds_118 : fldsI Tryd.prog 118 = true := by kernel_rfl
theorem fld_118_0 : fldI Tryd.prog 118 0 = some (0, 9) := by kernel_rfl
theorem plc_118_0 : placeI Tryd.prog 118 0 = some (0, 1) := by kernel_rfl
theorem fld_118_1 : fldI Tryd.prog 118 1 = some (1, 9) := by kernel_rfl
theorem plc_118_1 : placeI Tryd.prog 118 1 = some (1, 1) := by kernel_rfl
theorem fld_118_2 : fldI Tryd.prog 118 2 = some (2, 87) := by kernel_rfl
theorem plc_118_2 : placeI Tryd.prog 118 2 = some (2, 1) := by kernel_rfl
theorem zer_118 : zerI Tryd.prog 118 = some [.string ⟨#[]⟩, .string ⟨#[]⟩, .nilIface] := by kernel_rfl
theorem ty_119 : tyI Tryd.prog 119 = some (true, 3) := by kernel_rfl
theorem any_119 : anyI Tryd.prog 119 = true := by kernel_rfl
theorem flds_119 : fldsI Tryd.prog 119 = true := by kernel_rfl
theorem fld_119_0 : fldI Tryd.prog 119 0 = some (0, 9) := by kernel_rfl
theorem plc_119_0 : placeI Tryd.prog 119 0 = some (0, 1) := by kernel_rfl
theorem fld_119_1 : fldI Tryd.prog 119 1 = some (1, 9) := by kernel_rfl
theorem plc_119_1 : placeI Tryd.prog 119 1 = some (1, 1) := by kernel_rfl
theorem fld_119_2 : fldI Tryd.prog 119 2 = some (2, 87) := by kernel_rfl
theorem plc_119_2 : placeI Tryd.prog 119 2 = some (2, 1) := by kernel_rfl
theorem zer_119 : zerI Tryd.prog 119 = some [.string ⟨#[]⟩, .string ⟨#[]⟩, .nilIface] := by kernel_rfl
theorem ty_122 : tyI Tryd.prog 122 = some (true, 256) := by kernel_rfl
theorem any_122 : anyI Tryd.prog 122 = true := by kernel_rfl
theorem arr_122 : arrI Tryd.prog 122 = some (256, 5, 1) := by kernel_rfl
theorem zer_122 : zerI Tryd.prog 122 = some [.int .u8 0, .int .u8 0, .int .u8 0, .int .u8 0, .int .u8 0, .int .u8 0, .int .u8 0, .int .u8 0, .int .u8 0, .int .u8 0, .int .u8 0, .int .u8 0, .int .u8 0, .int .u8 0, .int .u8 0, .int .u8 0, .int .u8 0, .int .u8 0, .int .u8 0, .int .u8 0, .int .u8 0, .int .u8 0, .int .u8 0, .int .u8 0, .int .u8 0, .int .u8 0, .int .u8 0, .int .u8 0, .int .u8 0, .int .u8 0, .int .u8 0, .int .u8 0, .int .u8 0, .int .u8 0, .int .u8 0, .int .u8 0, .int .u8 0, .int .u8 0, .int .u8 0, .int .u8 0, .int .u8 0, .int .u8 0, .int .u8 0, .int .u8 0, .int .u8 0, .int .u8 0, .int .u8 0, .int .u8 0, .int .u8 0, .int .u8 0, .int .u8 0, .int .u8 0, .int .u8 0, .int .u8 0, .int .u8 0, .int .u8 0, .int .u8 0, .int .u8 0, .int .u8 0, .int .u8 0, .int .u8 0, .int .u8 0, .int .u8 0, .int .u8 0, .int .u8 0, .int .u8 0, .int .u8 0, .int .u8 0, .int .u8 0, .int .u8 0, .int .u8 0, .int .u8 0, .int .u8 0, .int .u8 0, .int .u8 0, .int .u8 0, .int .u8 0, .int .u8 0, .int .u8 0, .int .u8 0, .int .u8 0, .int .u8 0, .int .u8 0, .int .u8 0, .int .u8 0, .int .u8 0, .int .u8 0, .int .u8 0, .int .u8 0, .int .u8 0, .int .u8 0, .int .u8 0, .int .u8 0, .int .u8 0, .int .u8 0, .int .u8 0, .int .u8 0, .int .u8 0, .int .u8 0, .int .u8 0, .int .u8 0, .int .u8 0, .int .u8 0, .int .u8 0, .int .u8 0, .int .u8 0, .int .u8 0, .int .u8 0, .int .u8 0, .int .u8 0, .int .u8 0, .int .u8 0, .int .u8 0, .int .u8 0, .int .u8 0, .int .u8 0, .int .u8 0, .int .u8 0, .int .u8 0, .int .u8 0, .int .u8 0, .int .u8 0, .int .u8 0, .int .u8 0, .int .u8 0, .int .u8 0, .int .u8 0, .int .u8 0, .int .u8 0, .int .u8 0, .int .u8 0, .int .u8 0, .int .u8 0, .int .u8 0, .int .u8 0, .int .u8 0, .int .u8 0, .int .u8 0, .int .u8 0, .int .u8 0, .int .u8 0, .int .u8 0, .int .u8 0, .int .u8 0, .int .u8 0, .int .u8 0, .int .u8 0, .int .u8 0, .int .u8 0, .int .u8 0, .int .u8 0, .int .u8 0, .int .u8 0, .int .u8 0, .int .u8 0, .int .u8 0, .int .u8 0, .int .u8 0, .int .u8 0, .int .u8 0, .int .u8 0, .int .u8 0, .int .u8 0, .int .u8 0, .int .u8 0, .int .u8 0, .int .u8 0, .int .u8 0, .int .u8 0, .int .u8 0, .int .u8 0, .int .u8 0, .int .u8 0, .int .u8 0, .int .u8 0, .int .u8 0, .int .u8 0, .int .u8 0, .int .u8 0, .int .u8 0, .int .u8 0, .int .u8 0, .int .u8 0, .int .u8 0, .int .u8 0, .int .u8 0, .int .u8 0, .int .u8 0, .int .u8 0, .int .u8 0, .int .u8 0, .int .u8 0, .int .u8 0, .int .u8 0, .int .u8 0, .int .u8 0, .int .u8 0, .int .u8 0, .int .u8 0, .int .u8 0, .int .u8 0, .int .u8 0, .int .u8 0, .int .u8 0, .int .u8 0, .int .u8 0, .int .u8 0, .int .u8 0, .int .u8 0, .int .u8 0, .int .u8 0, .int .u8 0, .int .u8 0, .int .u8 0, .int .u8 0, .int .u8 0, .int .u8 0, .int .u8 0, .int .u8 0, .int .u8 0, .int .u8 0, .int .u8 0, .int .u8 0, .int .u8 0, .int .u8 0, .int .u8 0, .int .u8 0, .int .u8 0, .int .u8 0, .int .u8 0, .int .u8 0, .int .u8 0, .int .u8 0, .int .u8 0, .int .u8 0, .int .u8 0, .int .u8 0, .int .u8 0, .int .u8 0, .int .u8 0, .int .u8 0, .int .u8 0, .int .u8 0, .int .u8 0, .int .u8 0, .int .u8 0, .int .u8 0, .int .u8 0, .int .u8 0, .int .u8 0, .int .u8 0, .int .u8 0, .int .u8 0, .int .u8 0, .int .u8 0, .int .u8 0] := by kernel_rfl
theorem ty_123 : tyI Tryd.prog 123 = some (true, 2) := by kernel_rfl
theorem any_123 : anyI Tryd.prog 123 = true := by kernel_rfl
theorem flds_123 : fldsI Tryd.prog 123 = true := by kernel_rfl
theorem fld_123_0 : fldI Tryd.prog 123 0 = some (0, 5) := by kernel_rfl
theorem plc_123_0 : placeI Tryd.prog 123 0 = some (0, 1) := by kernel_rfl
theorem fld_123_1 : fldI Tryd.prog 123 1 = some (1, 5) := by kernel_rfl
theorem plc_123_1 : placeI Tryd.prog 123 1 = some (1, 1) := by kernel_rfl
theorem zer_123 : zerI Tryd.prog 123 = some [.int .u8 0, .int .u8 0] := by kernel_rfl
theorem ty_124 : tyI Tryd.prog 124 = some (true, 2) := by kernel_rfl
theorem any_124 : anyI Tryd.prog 124 = true := by kernel_rfl
theorem flds_124 : fldsI Tryd.prog 124 = true := by kernel_rfl
theorem fld_124_0 : fldI Tryd.prog 124 0 = some (0, 5) := by kernel_rfl
theorem plc_124_0 : placeI Tryd.prog 124 0 = some (0, 1) := by kernel_rfl
theorem fld_124_1 : fldI Tryd.prog 124 1 = some (1, 5) := by kernel_rfl
theorem plc_124_1 : placeI Tryd.prog 124 1 = some (1, 1) := by kernel_rfl
theorem zer_124 : zerI Tryd.prog 124 = some [.int .u8 0, .int .u8 0] := by kernel_rfl
theorem ty_125 : tyI Tryd.prog 125 = some (true, 32) := by kernel_rfl
theorem any_125 : anyI Tryd.prog 125 = true := by kernel_rfl
theorem arr_125 : arrI Tryd.prog 125 = some (16, 124, 2) := by kernel_rfl
theorem zer_125 : zerI Tryd.prog 125 = some [.int .u8 0, .int .u8 0, .int .u8 0, .int .u8 0, .int .u8 0, .int .u8 0, .int .u8 0, .int .u8 0, .int .u8 0, .int .u8 0, .int .u8 0, .int .u8 0, .int .u8 0, .int .u8 0, .int .u8 0, .int .u8 0, .int .u8 0, .int .u8 0, .int .u8 0, .int .u8 0, .int .u8 0, .int .u8 0, .int .u8 0, .int .u8 0, .int .u8 0, .int .u8 0, .int .u8 0, .int .u8 0, .int .u8 0, .int .u8 0, .int .u8 0, .int .u8 0] := by kernel_rfl
theorem ty_126 : tyI Tryd.prog 126 = some (false, 1) := by kernel_rfl
theorem any_126 : anyI Tryd.prog 126 = true := by kernel_rfl
theorem ptr_126 : ptrI Tryd.prog 126 = true := by kernel_rfl
theorem zer_126 : zerI Tryd.prog 126 = some [.pointer none] := by kernel_rfl
theorem ty_127 : tyI Tryd.prog 127 = some (false, 1) := by kernel_rfl
theorem any_127 : anyI Tryd.prog 127 = true := by kernel_rfl
theorem ptr_127 : ptrI Tryd.prog 127 = true := by kernel_rfl
theorem zer_127 : zerI Tryd.prog 127 = some [.pointer none] := by kernel_rfl
theorem ty_128 : tyI Tryd.prog 128 = some (true, 1) := by kernel_rfl
theorem any_128 : anyI Tryd.prog 128 = true := by kernel_rfl
theorem flds_128 : fldsI Tryd.prog 128 = true := by kernel_rfl
theorem fld_128_0 : fldI Tryd.prog 128 0 = some (0, 9) := by kernel_rfl
theorem plc_128_0 : placeI Tryd.prog 128 0 = some (0, 1) := by kernel_rfl
theorem zer_128 : zerI Tryd.prog 128 = some [.string ⟨#[]⟩] := by kernel_rfl
theorem ty_129 : tyI Tryd.prog 129 = some (true, 1) := by kernel_rfl
theorem any_129 : anyI Tryd.prog 129 = true := by kernel_rfl
theorem flds_129 : fldsI Tryd.prog 129 = true := by kernel_rfl
theorem fld_129_0 : fldI Tryd.prog 129 0 = some (0, 9) := by kernel_rfl
theorem plc_129_0 : placeI Tryd.prog 129 0 = some (0, 1) := by kernel_rfl
theorem zer_129 : zerI Tryd.prog 129 = some [.string ⟨#[]⟩] := by kernel_rfl
theorem ty_130 : tyI Tryd.prog 130 = some (true, 32) := by kernel_rfl
theorem any_130 : anyI Tryd.prog 130 = true := by kernel_rfl
theorem arr_130 : arrI Tryd.prog 130 = some (32, 5, 1) := by kernel_rfl
theorem zer_130 : zerI Tryd.prog 130 = some [.int .u8 0, .int .u8 0, .int .u8 0, .int .u8 0, .int .u8 0, .int .u8 0, .int .u8 0, .int .u8 0, .int .u8 0, .int .u8 0, .int .u8 0, .int .u8 0, .int .u8 0, .int .u8 0, .int .u8 0, .int .u8 0, .int .u8 0, .int .u8 0, .int .u8 0, .int .u8 0, .int .u8 0, .int .u8 0, .int .u8 0, .int .u8 0, .int .u8 0, .int .u8 0, .int .u8 0, .int .u8 0, .int .u8 0, .int .u8 0, .int .u8 0, .int .u8 0] := by kernel_rfl
theorem ty_131 : tyI Tryd.prog 131 = some (true, 64) := by kernel_rfl
theorem any_131 : anyI Tryd.prog 131 = true := by kernel_rfl
theorem arr_131 : arrI Tryd.prog 131 = some (64, 5, 1) := by kernel_rfl
theorem zer_131 : zerI Tryd.prog 131 = some [.int .u8 0, .int .u8 0, .int .u8 0, .int .u8 0, .int .u8 0, .int .u8 0, .int .u8 0, .int .u8 0, .int .u8 0, .int .u8 0, .int .u8 0, .int .u8 0, .int .u8 0, .int .u8 0, .int .u8 0, .int .u8 0, .int .u8 0, .int .u8 0, .int .u8 0, .int .u8 0, .int .u8 0, .int .u8 0, .int .u8 0, .int .u8 0, .int .u8 0, .int .u8 0, .int .u8 0, .int .u8 0, .int .u8 0, .int .u8 0, .int .u8 0, .int .u8 0, .int .u8 0, .int .u8 0, .int .u8 0, .int .u8 0, .int .u8 0, .int .u8 0, .int .u8 0, .int .u8 0, .int .u8 0, .int .u8 0, .int .u8 0, .int .u8 0, .int .u8 0, .int .u8 0, .int .u8 0, .int .u8 0, .int .u8 0, .int .u8 0, .int .u8 0, .int .u8 0, .int .u8 0, .int .u8 0, .int .u8 0, .int .u8 0, .int .u8 0, .int .u8 0, .int .u8 0, .int .u8 0, .int .u8 0, .int .u8 0, .int .u8 0, .int .u8 0] := by kernel_rfl
theorem ty_132 : tyI Tryd.prog 132 = some (true, 4) := by kernel_rfl
theorem any_132 : anyI Tryd.prog 132 = true := by kernel_rfl
theorem flds_132 : fldsI Tryd.prog 132 = true := by kernel_rfl
theorem fld_132_0 : fldI Tryd.prog 132 0 = some (0, 17) := by kernel_rfl
theorem plc_132_0 : placeI Tryd.prog 132 0 = some (0, 1) := by kernel_rfl
theorem fld_132_1 : fldI Tryd.prog 132 1 = some (1, 17) := by kernel_rfl
theorem plc_132_1 : placeI Tryd.prog 132 1 = some (1, 1) := by kernel_rfl
theorem fld_132_2 : fldI Tryd.prog 132 2 = some (2, 17) := by kernel_rfl
theorem plc_132_2 : placeI Tryd.prog 132 2 = some (2, 1) := by kernel_rfl
theorem fld_132_3 : fldI Tryd.prog 132 3 = some (3, 9) := by kernel_rfl
theorem plc_132_3 : placeI Tryd.prog 132 3 = some (3, 1) := by kernel_rfl
theorem zer_132 : zerI Tryd.prog 132 = some [.pointer none, .pointer none, .pointer none, .string ⟨#[]⟩] := by kernel_rfl
theorem ty_133 : tyI Tryd.prog 133 = some (true, 4) := by kernel_rfl
theorem any_133 : anyI Tryd.prog 133 = true := by kernel_rfl
theorem flds_133 : fldsI Tryd.prog 133 = true := by kernel_rfl
theorem fld_133_0 : fldI Tryd.prog 133 0 = some (0, 17) := by kernel_rfl
theorem plc_133_0 : placeI Tryd.prog 133 0 = some (0, 1) := by kernel_rfl
theorem fld_133_1 : fldI Tryd.prog 133 1 = some (1, 17) := by kernel_rfl
theorem plc_133_1 : placeI Tryd.prog 133 1 = some (1, 1) := by kernel_rfl
theorem fld_133_2 : fldI Tryd.prog 133 2 = some (2, 17) := by kernel_rfl
theorem plc_133_2 : placeI Tryd.prog 133 2 = some (2, 1) := by kernel_rfl
theorem fld_133_3 : fldI Tryd.prog 133 3 = some (3, 9) := by kernel_rfl
theorem plc_133_3 : placeI Tryd.prog 133 3 = some (3, 1) := by kernel_rfl
theorem zer_133 : zerI Tryd.prog 133 = some [.pointer none, .pointer none, .pointer none, .string ⟨#[]⟩] := by kernel_rfl
theorem ty_134 : tyI Tryd.prog 134 = some (true, 0) := by kernel_rfl
theorem any_134 : anyI Tryd.prog 134 = true := by kernel_rfl
theorem arr_134 : arrI Tryd.prog 134 = some (0, 16, 1) := by kernel_rfl
theorem zer_134 : zerI Tryd.prog 134 = some [] := by kernel_rfl
theorem ty_135 : tyI Tryd.prog 135 = some (true, 0) := by kernel_rfl
theorem any_135 : anyI Tryd.prog 135 = true := by kernel_rfl
theorem flds_135 : fldsI Tryd.prog 135 = true := by kernel_rfl
theorem plc_135_0 : placeI Tryd.prog 135 0 = some (0, 0) := by kernel_rfl
theorem zer_135 : zerI Tryd.prog 135 = some [] := by kernel_rfl
theorem ty_136 : tyI Tryd.prog 136 = some (true, 0) := by kernel_rfl
theorem any_136 : anyI Tryd.prog 136 = true := by kernel_rfl
theorem flds_136 : fldsI Tryd.prog 136 = true := by kernel_rfl
theorem plc_136_0 : placeI Tryd.prog 136 0 = some (0, 0) := by kernel_rfl
theorem zer_136 : zerI Tryd.prog 136 = some [] := by kernel_rfl
theorem ty_137 : tyI Tryd.prog 137 = some (false, 1) := by kernel_rfl
theorem any_137 : anyI Tryd.prog 137 = true := by kernel_rfl
theorem int_137 : intI Tryd.prog 137 = some .u8 := by kernel_rfl
theorem zer_137 : zerI Tryd.prog 137 = some [.int .u8 0] := by kernel_rfl
theorem ty_138 : tyI Tryd.prog 138 = some (false, 1) := by kernel_rfl
theorem any_138 : anyI Tryd.prog 138 = true := by kernel_rfl
theorem int_138 : intI Tryd.prog 138 = some .u8 := by kernel_rfl
theorem zer_138 : zerI Tryd.prog 138 = some [.int .u8 0] := by kernel_rfl
theorem ty_140 : tyI Tryd.prog 140 = some (false, 1) := by kernel_rfl
theorem any_140 : anyI Tryd.prog 140 = true := by kernel_rfl
theorem int_140 : intI Tryd.prog 140 = some .i32 := by kernel_rfl
theorem zer_140 : zerI Tryd.prog 140 = some [.int .i32 0] := by kernel_rfl
theorem ty_141 : tyI Tryd.prog 141 = some (false, 1) := by kernel_rfl
theorem any_141 : anyI Tryd.prog 141 = true := by kernel_rfl
theorem int_141 : intI Tryd.prog 141 = some .i32 := by kernel_rfl
theorem zer_141 : zerI Tryd.prog 141 = some [.int .i32 0] := by kernel_rfl
theorem ty_142 : tyI Tryd.prog 142 = some (true, 11) := by kernel_rfl
theorem any_142 : anyI Tryd.prog 142 = true := by kernel_rfl
theorem flds_142 : fldsI Tryd.prog 142 = true := by kernel_rfl
theorem fld_142_0 : fldI Tryd.prog 142 0 = some (0, 12) := by kernel_rfl
theorem plc_142_0 : placeI Tryd.prog 142 0 = some (0, 1) := by kernel_rfl
theorem fld_142_1 : fldI Tryd.prog 142 1 = some (1, 12) := by kernel_rfl
theorem plc_142_1 : placeI Tryd.prog 142 1 = some (1, 1) := by kernel_rfl
theorem fld_142_2 : fldI Tryd.prog 142 2 = some (2, 111) := by kernel_rfl
theorem plc_142_2 : placeI Tryd.prog 142 2 = some (2, 1) := by kernel_rfl
theorem fld_142_3 : fldI Tryd.prog 142 3 = some (3, 137) := by kernel_rfl
theorem plc_142_3 : placeI Tryd.prog 142 3 = some (3, 1) := by kernel_rfl
theorem fld_142_4 : fldI Tryd.prog 142 4 = some (4, 5) := by kernel_rfl
theorem plc_142_4 : placeI Tryd.prog 142 4 = some (4, 1) := by kernel_rfl
theorem fld_142_5 : fldI Tryd.prog 142 5 = some (5, 5) := by kernel_rfl
theorem plc_142_5 : placeI Tryd.prog 142 5 = some (5, 1) := by kernel_rfl
theorem fld_142_6 : fldI Tryd.prog 142 6 = some (6, 138) := by kernel_rfl
theorem plc_142_6 : placeI Tryd.prog 142 6 = some (6, 1) := by kernel_rfl
theorem fld_142_7 : fldI Tryd.prog 142 7 = some (7, 139) := by kernel_rfl
theorem plc_142_7 : placeI Tryd.prog 142 7 = some (7, 1) := by kernel_rfl
theorem fld_142_8 : fldI Tryd.prog 142 8 = some (8, 126) := by kernel_rfl
theorem plc_142_8 : placeI Tryd.prog 142 8 = some (8, 1) := by kernel_rfl
theorem fld_142_9 : fldI Tryd.prog 142 9 = some (9, 140) := by kernel_rfl
theorem plc_142_9 : placeI Tryd.prog 142 9 = some (9, 1) := by kernel_rfl
theorem fld_142_10 : fldI Tryd.prog 142 10 = some (10, 141) := by kernel_rfl
theorem plc_142_10 : placeI Tryd.prog 142 10 = some (10, 1) := by kernel_rfl
theorem zer_142 : zerI Tryd.prog 142 = some [.int .u64 0, .int .u64 0, .int .u32 0, .int .u8 0, .int .u8 0, .int .u8 0, .int .u8 0, .nilFunc, .pointer none, .int .i32 0, .int .i32 0] := by kernel_rfl
theorem ty_143 : tyI Tryd.prog 143 = some (true, 11) := by kernel_rfl
theorem any_143 : anyI Tryd.prog 143 = true := by kernel_rfl
theorem flds_143 : fldsI Tryd.prog 143 = true := by kernel_rfl
theorem fld_143_0 : fldI Tryd.prog 143 0 = some (0, 12) := by kernel_rfl
theorem plc_143_0 : placeI Tryd.prog 143 0 = some (0, 1) := by kernel_rfl
theorem fld_143_1 : fldI Tryd.prog 143 1 = some (1, 12) := by kernel_rfl
theorem plc_143_1 : placeI Tryd.prog 143 1 = some (1, 1) := by kernel_rfl
theorem fld_143_2 : fldI Tryd.prog 143 2 = some (2, 111) := by kernel_rfl
theorem plc_143_2 : placeI Tryd.prog 143 2 = some (2, 1) := by kernel_rfl
theorem fld_143_3 : fldI Tryd.prog 143 3 = some (3, 137) := by kernel_rfl
theorem plc_143_3 : placeI Tryd.prog 143 3 = some (3, 1) := by kernel_rfl
theorem fld_143_4 : fldI Tryd.prog 143 4 = some (4, 5) := by kernel_rfl
theorem plc_143_4 : placeI Tryd.prog 143 4 = some (4, 1) := by kernel_rfl
theorem fld_143_5 : fldI Tryd.prog 143 5 = some (5, 5) := by kernel_rfl
theorem plc_143_5 : placeI Tryd.prog 143 5 = some (5, 1) := by kernel_rfl
theorem fld_143_6 : fldI Tryd.prog 143 6 = some (6, 138) := by kernel_rfl
theorem plc_143_6 : placeI Tryd.prog 143 6 = some (6, 1) := by kernel_rfl
theorem fld_143_7 : fldI Tryd.prog 143 7 = some (7, 139) := by kernel_rfl
theorem plc_143_7 : placeI Tryd.prog 143 7 = some (7, 1) := by kernel_rfl
theorem fld_143_8 : fldI Tryd.prog 143 8 = some (8, 126) := by kernel_rfl
theorem plc_143_8 : placeI Tryd.prog 143 8 = some (8, 1) := by kernel_rfl
theorem fld_143_9 : fldI Tryd.prog 143 9 = some (9, 140) := by kernel_rfl
theorem plc_143_9 : placeI Tryd.prog 143 9 = some (9, 1) := by kernel_rfl
theorem fld_143_10 : fldI Tryd.prog 143 10 = some (10, 141) := by kernel_rfl
theorem plc_143_10 : placeI Tryd.prog 143 10 = some (10, 1) := by kernel_rfl
theorem zer_143 : zerI Tryd.prog 143 = some [.int .u64 0, .int .u64 0, .int .u32 0, .int .u8 0, .int .u8 0, .int .u8 0, .int .u8 0, .nilFunc, .pointer none, .int .i32 0, .int .i32 0] := by kernel_rfl
theorem ty_144 : tyI Tryd.prog 144 = some (false, 1) := by kernel_rfl
theorem any_144 : anyI Tryd.prog 144 = true := by kernel_rfl
theorem w4 : type_of% (And.intro (And.intro (And.intro fld_31_4 ty_22) (And.intro len_22 (And.intro elt_22 byt_22))) (And.intro (And.intro zel_22 (And.intro fld_31_0 ty_9)) (And.intro len_9 (And.intro str_9 ty_31)))) := And.intro (And.intro (And.intro fld_31_4 ty_22) (And.intro len_22 (And.intro elt_22 byt_22))) (And.intro (And.intro zel_22 (And.intro fld_31_0 ty_9)) (And.intro len_9 (And.intro str_9 ty_31)))
theorem w6 : type_of% (And.intro (And.intro len_9 str_9) (And.intro zer_24 ty_24)) := And.intro (And.intro len_9 str_9) (And.intro zer_24 ty_24)
theorem w7 : type_of% (And.intro (And.intro ty_24 zer_24) (And.intro len_9 str_9)) := And.intro (And.intro ty_24 zer_24) (And.intro len_9 str_9)
theorem w8 : type_of% (And.intro (And.intro len_9 str_9) (And.intro zer_24 ty_24)) := And.intro (And.intro len_9 str_9) (And.intro zer_24 ty_24)
theorem w9 : type_of% (And.intro (And.intro (And.intro fld_24_4 ty_22) (And.intro len_22 (And.intro elt_22 byt_22))) (And.intro (And.intro zel_22 (And.intro fld_24_0 ty_9)) (And.intro len_9 (And.intro str_9 fld_24_1)))) := And.intro (And.intro (And.intro fld_24_4 ty_22) (And.intro len_22 (And.intro elt_22 byt_22))) (And.intro (And.intro zel_22 (And.intro fld_24_0 ty_9)) (And.intro len_9 (And.intro str_9 fld_24_1)))
theorem w10 : type_of% (And.intro (And.intro (And.intro zer_24 (And.intro ty_24 flds_24)) (And.intro plc_24_0 (And.intro plc_24_1 plc_24_2))) (And.intro (And.intro plc_24_3 (And.intro plc_24_4 fld_24_2)) (And.intro (And.intro ty_3 fld_24_3) (And.intro fld_24_0 ty_9)))) := And.intro (And.intro (And.intro zer_24 (And.intro ty_24 flds_24)) (And.intro plc_24_0 (And.intro plc_24_1 plc_24_2))) (And.intro (And.intro plc_24_3 (And.intro plc_24_4 fld_24_2)) (And.intro (And.intro ty_3 fld_24_3) (And.intro fld_24_0 ty_9)))
theorem w11 : type_of% (And.intro (And.intro (And.intro (And.intro (And.intro fld_24_4 ty_22) (And.intro len_22 elt_22)) (And.intro (And.intro byt_22 zel_22) (And.intro fld_24_0 ty_9))) (And.intro (And.intro (And.intro len_9 str_9) (And.intro fld_24_1 zer_44)) (And.intro (And.intro flds_44 plc_44_0) (And.intro fld_24_2 ty_3)))) (And.intro (And.intro (And.intro (And.intro fld_24_3 elt_53) (And.intro zel_53 byt_53)) (And.intro (And.intro ty_48 zer_48) (And.intro fld_48_0 fld_48_1))) (And.intro (And.intro (And.intro fld_48_2 fld_44_0) (And.intro ty_42 len_42)) (And.intro (And.intro elt_42 byt_42) (And.intro zel_42 (And.intro any_42 sl8_42)))))) := And.intro (And.intro (And.intro (And.intro (And.intro fld_24_4 ty_22) (And.intro len_22 elt_22)) (And.intro (And.intro byt_22 zel_22) (And.intro fld_24_0 ty_9))) (And.intro (And.intro (And.intro len_9 str_9) (And.intro fld_24_1 zer_44)) (And.intro (And.intro flds_44 plc_44_0) (And.intro fld_24_2 ty_3)))) (And.intro (And.intro (And.intro (And.intro fld_24_3 elt_53) (And.intro zel_53 byt_53)) (And.intro (And.intro ty_48 zer_48) (And.intro fld_48_0 fld_48_1))) (And.intro (And.intro (And.intro fld_48_2 fld_44_0) (And.intro ty_42 len_42)) (And.intro (And.intro elt_42 byt_42) (And.intro zel_42 (And.intro any_42 sl8_42)))))
theorem w12 : type_of% (And.intro (And.intro (And.intro (And.intro fld_24_4 (And.intro ty_22 len_22)) (And.intro elt_22 (And.intro byt_22 zel_22))) (And.intro (And.intro fld_24_0 (And.intro ty_9 len_9)) (And.intro str_9 (And.intro fld_24_1 fld_24_2)))) (And.intro (And.intro (And.intro ty_3 (And.intro fld_24_3 len_42)) (And.intro elt_42 (And.intro byt_42 zel_42))) (And.intro (And.intro ty_48 (And.intro zer_48 fld_48_0)) (And.intro (And.intro fld_48_1 fld_48_2) (And.intro any_42 sl8_42))))) := And.intro (And.intro (And.intro (And.intro fld_24_4 (And.intro ty_22 len_22)) (And.intro elt_22 (And.intro byt_22 zel_22))) (And.intro (And.intro fld_24_0 (And.intro ty_9 len_9)) (And.intro str_9 (And.intro fld_24_1 fld_24_2)))) (And.intro (And.intro (And.intro ty_3 (And.intro fld_24_3 len_42)) (And.intro elt_42 (And.intro byt_42 zel_42))) (And.intro (And.intro ty_48 (And.intro zer_48 fld_48_0)) (And.intro (And.intro fld_48_1 fld_48_2) (And.intro any_42 sl8_42))))
theorem w13 : type_of% (And.intro (And.intro (And.intro (And.intro fld_31_0 ty_9) (And.intro fld_31_1 (And.intro ty_27 fld_31_2))) (And.intro (And.intro ty_3 elt_53) (And.intro zel_53 (And.intro byt_53 fld_31_3)))) (And.intro (And.intro (And.intro fld_31_4 ty_22) (And.intro len_22 (And.intro elt_22 byt_22))) (And.intro (And.intro zel_22 (And.intro ty_48 zer_48)) (And.intro fld_48_0 (And.intro fld_48_1 fld_48_2))))) := And.intro (And.intro (And.intro (And.intro fld_31_0 ty_9) (And.intro fld_31_1 (And.intro ty_27 fld_31_2))) (And.intro (And.intro ty_3 elt_53) (And.intro zel_53 (And.intro byt_53 fld_31_3)))) (And.intro (And.intro (And.intro fld_31_4 ty_22) (And.intro len_22 (And.intro elt_22 byt_22))) (And.intro (And.intro zel_22 (And.intro ty_48 zer_48)) (And.intro fld_48_0 (And.intro fld_48_1 fld_48_2))))
theorem w14 : type_of% (And.intro (And.intro (And.intro (And.intro fld_31_0 ty_9) (And.intro fld_31_1 ty_27)) (And.intro (And.intro fld_31_2 ty_3) (And.intro elt_53 (And.intro zel_53 byt_53)))) (And.intro (And.intro (And.intro fld_31_3 fld_31_4) (And.intro ty_22 (And.intro len_22 elt_22))) (And.intro (And.intro byt_22 zel_22) (And.intro fld_48_0 (And.intro fld_48_1 fld_48_2))))) := And.intro (And.intro (And.intro (And.intro fld_31_0 ty_9) (And.intro fld_31_1 ty_27)) (And.intro (And.intro fld_31_2 ty_3) (And.intro elt_53 (And.intro zel_53 byt_53)))) (And.intro (And.intro (And.intro fld_31_3 fld_31_4) (And.intro ty_22 (And.intro len_22 elt_22))) (And.intro (And.intro byt_22 zel_22) (And.intro fld_48_0 (And.intro fld_48_1 fld_48_2))))
theorem w15 : type_of% (And.intro (And.intro (And.intro (And.intro fld_24_4 ty_22) (And.intro len_22 (And.intro elt_22 byt_22))) (And.intro (And.intro zel_22 (And.intro fld_24_0 ty_9)) (And.intro len_9 (And.intro str_9 fld_24_1)))) (And.intro (And.intro (And.intro fld_24_2 ty_3) (And.intro elt_53 (And.intro zel_53 byt_53))) (And.intro (And.intro fld_24_3 (And.intro ty_48 zer_48)) (And.intro fld_48_0 (And.intro fld_48_1 fld_48_2))))) := And.intro (And.intro (And.intro (And.intro fld_24_4 ty_22) (And.intro len_22 (And.intro elt_22 byt_22))) (And.intro (And.intro zel_22 (And.intro fld_24_0 ty_9)) (And.intro len_9 (And.intro str_9 fld_24_1)))) (And.intro (And.intro (And.intro fld_24_2 ty_3) (And.intro elt_53 (And.intro zel_53 byt_53))) (And.intro (And.intro fld_24_3 (And.intro ty_48 zer_48)) (And.intro fld_48_0 (And.intro fld_48_1 fld_48_2))))
theorem w16 : type_of% (And.intro (And.intro (And.intro (And.intro fld_24_4 ty_22) (And.intro len_22 (And.intro elt_22 byt_22))) (And.intro (And.intro zel_22 (And.intro fld_24_0 ty_9)) (And.intro len_9 (And.intro str_9 fld_24_1)))) (And.intro (And.intro (And.intro fld_24_2 ty_3) (And.intro elt_53 (And.intro zel_53 byt_53))) (And.intro (And.intro fld_24_3 (And.intro ty_48 zer_48)) (And.intro fld_48_0 (And.intro fld_48_1 fld_48_2))))) := And.intro (And.intro (And.intro (And.intro fld_24_4 ty_22) (And.intro len_22 (And.intro elt_22 byt_22))) (And.intro (And.intro zel_22 (And.intro fld_24_0 ty_9)) (And.intro len_9 (And.intro str_9 fld_24_1)))) (And.intro (And.intro (And.intro fld_24_2 ty_3) (And.intro elt_53 (And.intro zel_53 byt_53))) (And.intro (And.intro fld_24_3 (And.intro ty_48 zer_48)) (And.intro fld_48_0 (And.intro fld_48_1 fld_48_2))))
theorem w17 : type_of% (And.intro (And.intro (And.intro (And.intro (And.intro zer_24 len_9) (And.intro str_9 flds_24)) (And.intro (And.intro plc_24_0 plc_24_1) (And.intro plc_24_2 plc_24_3))) (And.intro (And.intro (And.intro plc_24_4 ty_24) (And.intro zer_56 flds_56)) (And.intro (And.intro plc_56_0 plc_56_1) (And.intro zer_58 (And.intro flds_58 plc_58_0))))) (And.intro (And.intro (And.intro (And.intro fld_58_0 fld_24_1) (And.intro ty_9 fld_24_4)) (And.intro (And.intro ty_22 zer_48) (And.intro flds_48 (And.intro plc_48_0 plc_48_1)))) (And.intro (And.intro (And.intro plc_48_2 elt_22) (And.intro zel_22 byt_22)) (And.intro (And.intro len_22 fld_24_0) (And.intro fld_56_1 (And.intro ty_3 fld_56_0)))))) := And.intro (And.intro (And.intro (And.intro (And.intro zer_24 len_9) (And.intro str_9 flds_24)) (And.intro (And.intro plc_24_0 plc_24_1) (And.intro plc_24_2 plc_24_3))) (And.intro (And.intro (And.intro plc_24_4 ty_24) (And.intro zer_56 flds_56)) (And.intro (And.intro plc_56_0 plc_56_1) (And.intro zer_58 (And.intro flds_58 plc_58_0))))) (And.intro (And.intro (And.intro (And.intro fld_58_0 fld_24_1) (And.intro ty_9 fld_24_4)) (And.intro (And.intro ty_22 zer_48) (And.intro flds_48 (And.intro plc_48_0 plc_48_1)))) (And.intro (And.intro (And.intro plc_48_2 elt_22) (And.intro zel_22 byt_22)) (And.intro (And.intro len_22 fld_24_0) (And.intro fld_56_1 (And.intro ty_3 fld_56_0)))))
theorem w18 : type_of% (And.intro (And.intro (And.intro (And.intro zer_24 (And.intro len_9 str_9)) (And.intro flds_24 (And.intro plc_24_0 plc_24_1))) (And.intro (And.intro plc_24_2 (And.intro plc_24_3 plc_24_4)) (And.intro (And.intro ty_24 fld_24_2) (And.intro ty_3 fld_24_3)))) (And.intro (And.intro (And.intro fld_24_1 (And.intro ty_9 zer_48)) (And.intro (And.intro fld_48_0 fld_48_1) (And.intro fld_48_2 fld_24_4))) (And.intro (And.intro ty_22 (And.intro ty_48 elt_22)) (And.intro (And.intro zel_22 byt_22) (And.intro len_22 fld_24_0))))) := And.intro (And.intro (And.intro (And.intro zer_24 (And.intro len_9 str_9)) (And.intro flds_24 (And.intro plc_24_0 plc_24_1))) (And.intro (And.intro plc_24_2 (And.intro plc_24_3 plc_24_4)) (And.intro (And.intro ty_24 fld_24_2) (And.intro ty_3 fld_24_3)))) (And.intro (And.intro (And.intro fld_24_1 (And.intro ty_9 zer_48)) (And.intro (And.intro fld_48_0 fld_48_1) (And.intro fld_48_2 fld_24_4))) (And.intro (And.intro ty_22 (And.intro ty_48 elt_22)) (And.intro (And.intro zel_22 byt_22) (And.intro len_22 fld_24_0))))
theorem w19 : type_of% (And.intro (And.intro (And.intro fld_24_0 (And.intro ty_9 fld_24_1)) (And.intro fld_24_2 (And.intro ty_3 fld_24_3))) (And.intro (And.intro fld_24_4 (And.intro ty_22 len_22)) (And.intro (And.intro elt_22 byt_22) (And.intro zel_22 ty_48)))) := And.intro (And.intro (And.intro fld_24_0 (And.intro ty_9 fld_24_1)) (And.intro fld_24_2 (And.intro ty_3 fld_24_3))) (And.intro (And.intro fld_24_4 (And.intro ty_22 len_22)) (And.intro (And.intro elt_22 byt_22) (And.intro zel_22 ty_48)))
theorem w20 : type_of% (And.intro (And.intro (And.intro (And.intro zer_24 zer_3) (And.intro zer_27 (And.intro len_9 str_9))) (And.intro (And.intro flds_24 plc_24_0) (And.intro plc_24_1 (And.intro plc_24_2 plc_24_3)))) (And.intro (And.intro (And.intro plc_24_4 ty_24) (And.intro ty_3 (And.intro ty_27 zer_63))) (And.intro (And.intro ty_63 (And.intro zer_67 ty_67)) (And.intro arr_67 (And.intro ty_9 fld_24_0))))) := And.intro (And.intro (And.intro (And.intro zer_24 zer_3) (And.intro zer_27 (And.intro len_9 str_9))) (And.intro (And.intro flds_24 plc_24_0) (And.intro plc_24_1 (And.intro plc_24_2 plc_24_3)))) (And.intro (And.intro (And.intro plc_24_4 ty_24) (And.intro ty_3 (And.intro ty_27 zer_63))) (And.intro (And.intro ty_63 (And.intro zer_67 ty_67)) (And.intro arr_67 (And.intro ty_9 fld_24_0))))
theorem w21 : type_of% (And.intro (And.intro (And.intro len_53 (And.intro elt_53 byt_53)) (And.intro (And.intro zel_53 ty_3) (And.intro any_3 int_70))) (And.intro (And.intro (And.intro fld_44_0 ty_42) (And.intro any_70 int_5)) (And.intro (And.intro elt_42 zel_42) (And.intro byt_42 len_42)))) := And.intro (And.intro (And.intro len_53 (And.intro elt_53 byt_53)) (And.intro (And.intro zel_53 ty_3) (And.intro any_3 int_70))) (And.intro (And.intro (And.intro fld_44_0 ty_42) (And.intro any_70 int_5)) (And.intro (And.intro elt_42 zel_42) (And.intro byt_42 len_42)))
theorem w22 : type_of% (And.intro (And.intro (And.intro len_9 str_9) (And.intro elt_53 (And.intro zel_53 byt_53))) (And.intro (And.intro fld_44_0 (And.intro ty_42 len_42)) (And.intro elt_42 (And.intro byt_42 zel_42)))) := And.intro (And.intro (And.intro len_9 str_9) (And.intro elt_53 (And.intro zel_53 byt_53))) (And.intro (And.intro fld_44_0 (And.intro ty_42 len_42)) (And.intro elt_42 (And.intro byt_42 zel_42)))
theorem w23 : type_of% (And.intro (And.intro (And.intro any_3 int_70) (And.intro any_70 int_5)) (And.intro (And.intro elt_42 zel_42) (And.intro byt_42 len_42))) := And.intro (And.intro (And.intro any_3 int_70) (And.intro any_70 int_5)) (And.intro (And.intro elt_42 zel_42) (And.intro byt_42 len_42))
theorem w24 : type_of% (And.intro (And.intro (And.intro any_9 str_9) (And.intro elt_42 (And.intro sl8_42 nst_42))) (And.intro (And.intro len_42 byt_42) (And.intro zel_42 (And.intro ty_5 any_42)))) := And.intro (And.intro (And.intro any_9 str_9) (And.intro elt_42 (And.intro sl8_42 nst_42))) (And.intro (And.intro len_42 byt_42) (And.intro zel_42 (And.intro ty_5 any_42)))
theorem w25 : type_of% (And.intro (And.intro len_53 elt_53) (And.intro byt_53 (And.intro zel_53 ty_3))) := And.intro (And.intro len_53 elt_53) (And.intro byt_53 (And.intro zel_53 ty_3))
theorem w26 : type_of% (And.intro (And.intro (And.intro len_9 str_9) (And.intro len_42 elt_42)) (And.intro (And.intro byt_42 zel_42) (And.intro any_42 sl8_42))) := And.intro (And.intro (And.intro len_9 str_9) (And.intro len_42 elt_42)) (And.intro (And.intro byt_42 zel_42) (And.intro any_42 sl8_42))
theorem w27 : type_of% (And.intro (And.intro len_53 elt_53) (And.intro byt_53 (And.intro zel_53 ty_3))) := And.intro (And.intro len_53 elt_53) (And.intro byt_53 (And.intro zel_53 ty_3))
theorem w28 : type_of% (And.intro (And.intro (And.intro fld_56_0 ty_9) (And.intro len_9 (And.intro str_9 fld_56_1))) (And.intro (And.intro ty_3 any_5) (And.intro int_70 (And.intro any_70 int_3)))) := And.intro (And.intro (And.intro fld_56_0 ty_9) (And.intro len_9 (And.intro str_9 fld_56_1))) (And.intro (And.intro ty_3 any_5) (And.intro int_70 (And.intro any_70 int_3)))
theorem w29 : type_of% (And.intro (And.intro fld_58_0 fld_56_0) (And.intro ty_9 str_9)) := And.intro (And.intro fld_58_0 fld_56_0) (And.intro ty_9 str_9)
theorem w30 : type_of% (And.intro (And.intro fld_58_0 (And.intro fld_56_0 ty_9)) (And.intro (And.intro len_9 str_9) (And.intro fld_56_1 ty_3))) := And.intro (And.intro fld_58_0 (And.intro fld_56_0 ty_9)) (And.intro (And.intro len_9 str_9) (And.intro fld_56_1 ty_3))
theorem w31 : type_of% (And.intro (And.intro len_9 (And.intro str_9 any_5)) (And.intro int_70 (And.intro any_70 int_3))) := And.intro (And.intro len_9 (And.intro str_9 any_5)) (And.intro int_70 (And.intro any_70 int_3))
theorem w33 : type_of% (And.intro (And.intro (And.intro (And.intro str_9 elt_78) (And.intro ty_9 (And.intro len_78 byt_78))) (And.intro (And.intro zel_78 (And.intro fld_24_1 elt_53)) (And.intro ty_3 (And.intro fld_24_2 fld_24_3)))) (And.intro (And.intro (And.intro fld_24_4 ty_22) (And.intro len_22 (And.intro elt_22 byt_22))) (And.intro (And.intro zel_22 (And.intro zer_48 flds_48)) (And.intro plc_48_0 (And.intro plc_48_1 plc_48_2))))) := And.intro (And.intro (And.intro (And.intro str_9 elt_78) (And.intro ty_9 (And.intro len_78 byt_78))) (And.intro (And.intro zel_78 (And.intro fld_24_1 elt_53)) (And.intro ty_3 (And.intro fld_24_2 fld_24_3)))) (And.intro (And.intro (And.intro fld_24_4 ty_22) (And.intro len_22 (And.intro elt_22 byt_22))) (And.intro (And.intro zel_22 (And.intro zer_48 flds_48)) (And.intro plc_48_0 (And.intro plc_48_1 plc_48_2))))
theorem w36 : type_of% (And.intro (And.intro (And.intro any_3 int_5) (And.intro elt_42 zel_42)) (And.intro (And.intro byt_42 len_42) (And.intro any_42 (And.intro sl8_42 str_9)))) := And.intro (And.intro (And.intro any_3 int_5) (And.intro elt_42 zel_42)) (And.intro (And.intro byt_42 len_42) (And.intro any_42 (And.intro sl8_42 str_9)))
theorem w37 : type_of% (And.intro ty_9 zer_67) := And.intro ty_9 zer_67
theorem w40 : type_of% (And.intro (And.intro (And.intro len_9 str_9) (And.intro any_3 (And.intro int_5 elt_42))) (And.intro (And.intro zel_42 byt_42) (And.intro len_42 (And.intro any_42 sl8_42)))) := And.intro (And.intro (And.intro len_9 str_9) (And.intro any_3 (And.intro int_5 elt_42))) (And.intro (And.intro zel_42 byt_42) (And.intro len_42 (And.intro any_42 sl8_42)))
theorem w41 : type_of% (And.intro (And.intro (And.intro len_78 elt_78) (And.intro byt_78 zel_78)) (And.intro (And.intro ty_9 elt_53) (And.intro zel_53 (And.intro byt_53 len_53)))) := And.intro (And.intro (And.intro len_78 elt_78) (And.intro byt_78 zel_78)) (And.intro (And.intro ty_9 elt_53) (And.intro zel_53 (And.intro byt_53 len_53)))
theorem w43 : type_of% (And.intro str_9 len_9) := And.intro str_9 len_9
theorem w44 : type_of% (And.intro (And.intro len_9 (And.intro str_9 elt_78)) (And.intro zel_78 (And.intro byt_78 ty_9))) := And.intro (And.intro len_9 (And.intro str_9 elt_78)) (And.intro zel_78 (And.intro byt_78 ty_9))
theorem w48 : type_of% (And.intro (And.intro (And.intro zer_94 any_2) (And.intro int_70 arr_94)) (And.intro (And.intro ty_5 any_42) (And.intro elt_42 (And.intro sl8_42 str_9)))) := And.intro (And.intro (And.intro zer_94 any_2) (And.intro int_70 arr_94)) (And.intro (And.intro ty_5 any_42) (And.intro elt_42 (And.intro sl8_42 str_9)))
theorem w49 : type_of% (And.intro len_9 (And.intro str_9 ty_3)) := And.intro len_9 (And.intro str_9 ty_3)
theorem w50 : type_of% (And.intro (And.intro elt_78 zel_78) (And.intro byt_78 (And.intro str_9 ty_9))) := And.intro (And.intro elt_78 zel_78) (And.intro byt_78 (And.intro str_9 ty_9))
theorem w51 : type_of% (And.intro len_9 str_9) := And.intro len_9 str_9
theorem w54 : type_of% (And.intro (And.intro str_9 any_3) (And.intro int_71 (And.intro any_70 int_2))) := And.intro (And.intro str_9 any_3) (And.intro int_71 (And.intro any_70 int_2))
theorem w57 : type_of% (And.intro arr_110 ty_70) := And.intro arr_110 ty_70
theorem w58 : type_of% (And.intro (And.intro (And.intro len_42 elt_42) (And.intro byt_42 (And.intro zel_42 any_70))) (And.intro (And.intro int_111 str_9) (And.intro ty_5 (And.intro any_111 int_5)))) := And.intro (And.intro (And.intro len_42 elt_42) (And.intro byt_42 (And.intro zel_42 any_70))) (And.intro (And.intro int_111 str_9) (And.intro ty_5 (And.intro any_111 int_5)))
theorem w59 : type_of% (And.intro (And.intro (And.intro zer_112 (And.intro any_3 int_71)) (And.intro int_70 (And.intro str_9 arr_112))) (And.intro (And.intro ty_5 (And.intro len_42 elt_42)) (And.intro (And.intro byt_42 zel_42) (And.intro any_42 sl8_42)))) := And.intro (And.intro (And.intro zer_112 (And.intro any_3 int_71)) (And.intro int_70 (And.intro str_9 arr_112))) (And.intro (And.intro ty_5 (And.intro len_42 elt_42)) (And.intro (And.intro byt_42 zel_42) (And.intro any_42 sl8_42)))
theorem w62 : type_of% (And.intro (And.intro len_9 str_9) (And.intro any_5 int_111)) := And.intro (And.intro len_9 str_9) (And.intro any_5 int_111)
theorem w64 : type_of% (And.intro str_9 (And.intro any_5 int_21)) := And.intro str_9 (And.intro any_5 int_21)
theorem w67 : type_of% (And.intro (And.intro (And.intro str_9 (And.intro len_9 any_3)) (And.intro (And.intro int_70 int_71) (And.intro any_9 elt_42))) (And.intro (And.intro (And.intro sl8_42 nst_42) (And.intro len_42 byt_42)) (And.intro (And.intro zel_42 ty_5) (And.intro int_5 any_5)))) := And.intro (And.intro (And.intro str_9 (And.intro len_9 any_3)) (And.intro (And.intro int_70 int_71) (And.intro any_9 elt_42))) (And.intro (And.intro (And.intro sl8_42 nst_42) (And.intro len_42 byt_42)) (And.intro (And.intro zel_42 ty_5) (And.intro int_5 any_5)))
theorem w68 : type_of% (And.intro (And.intro ty_87 (And.intro zer_119 flds_119)) (And.intro plc_119_0 (And.intro plc_119_1 plc_119_2))) := And.intro (And.intro ty_87 (And.intro zer_119 flds_119)) (And.intro plc_119_0 (And.intro plc_119_1 plc_119_2))
theorem w69 : type_of% (And.intro (And.intro ty_87 (And.intro zer_119 flds_119)) (And.intro plc_119_0 (And.intro plc_119_1 plc_119_2))) := And.intro (And.intro ty_87 (And.intro zer_119 flds_119)) (And.intro plc_119_0 (And.intro plc_119_1 plc_119_2))
theorem w70 : type_of% (And.intro (And.intro zer_119 flds_119) (And.intro plc_119_0 (And.intro plc_119_1 plc_119_2))) := And.intro (And.intro zer_119 flds_119) (And.intro plc_119_0 (And.intro plc_119_1 plc_119_2))
theorem w71 : type_of% (And.intro (And.intro zer_119 flds_119) (And.intro plc_119_0 (And.intro plc_119_1 plc_119_2))) := And.intro (And.intro zer_119 flds_119) (And.intro plc_119_0 (And.intro plc_119_1 plc_119_2))
theorem w73 : type_of% (And.intro (And.intro any_70 int_5) (And.intro str_9 (And.intro any_5 int_3))) := And.intro (And.intro any_70 int_5) (And.intro str_9 (And.intro any_5 int_3))
theorem w76 : type_of% (And.intro any_71 int_111) := And.intro any_71 int_111
theorem w77 : type_of% (And.intro (And.intro len_9 str_9) (And.intro any_5 int_111)) := And.intro (And.intro len_9 str_9) (And.intro any_5 int_111)
theorem w78 : type_of% (And.intro (And.intro (And.intro len_9 (And.intro str_9 arr_122)) (And.intro ty_5 (And.intro any_5 int_21))) (And.intro (And.intro int_3 (And.intro arr_125 ty_124)) (And.intro zer_124 (And.intro fld_124_0 fld_124_1)))) := And.intro (And.intro (And.intro len_9 (And.intro str_9 arr_122)) (And.intro ty_5 (And.intro any_5 int_21))) (And.intro (And.intro int_3 (And.intro arr_125 ty_124)) (And.intro zer_124 (And.intro fld_124_0 fld_124_1)))
theorem w80 : type_of% (And.intro len_9 str_9) := And.intro len_9 str_9
theorem w81 : type_of% (And.intro (And.intro len_9 (And.intro str_9 elt_42)) (And.intro zel_42 (And.intro byt_42 len_42))) := And.intro (And.intro len_9 (And.intro str_9 elt_42)) (And.intro zel_42 (And.intro byt_42 len_42))
theorem w82 : type_of% (And.intro zer_129 (And.intro flds_129 plc_129_0)) := And.intro zer_129 (And.intro flds_129 plc_129_0)
theorem w83 : type_of% (And.intro (And.intro arr_130 ty_5) (And.intro any_5 int_3)) := And.intro (And.intro arr_130 ty_5) (And.intro any_5 int_3)
theorem w84 : type_of% (And.intro (And.intro arr_131 ty_5) (And.intro any_5 int_3)) := And.intro (And.intro arr_131 ty_5) (And.intro any_5 int_3)
theorem w113 : type_of% (And.intro (And.intro (And.intro zer_130 (And.intro ty_130 zer_131)) (And.intro ty_131 (And.intro zer_110 ty_110))) (And.intro (And.intro zer_124 (And.intro flds_124 plc_124_0)) (And.intro (And.intro plc_124_1 zer_125) (And.intro ty_125 ty_87)))) := And.intro (And.intro (And.intro zer_130 (And.intro ty_130 zer_131)) (And.intro ty_131 (And.intro zer_110 ty_110))) (And.intro (And.intro zer_124 (And.intro flds_124 plc_124_0)) (And.intro (And.intro plc_124_1 zer_125) (And.intro ty_125 ty_87)))
end Go.Proofs.YtdcmihhcpgkgiaaDoor
end

section
/-
  (No data in this layer: what the next texts import.)
-/
end

section
namespace Go.Proofs.YtdcmihhcpgkgiaaDoor
open Go Go.RowKit
set_option linter.unusedSimpArgs false
set_option linter.unusedVariables false
theorem Ccs.of_rd {r : World} : ∀ {ps : List V} {us : List Value} {cs : List C}, (∀ (i : Nat) (p : V), ps[i]? = some p → ∃ c, cs[i]? = some c ∧ ∀ u, Rd r p u → ∃ x, u = [x] ∧ Cc ⟨r, []⟩ c x) → ps.length = cs.length → RdAll r ps us → Ccs ⟨r, []⟩ cs us
  | [], us, [], _, _, h => by simp only [RdAll] at h; subst h; simp [Ccs]
  | [], us, c :: cs, _, hl, h => by simp at hl
  | p :: ps, us, [], _, hl, h => by simp at hl
  | p :: ps, us, c :: cs, hp, hl, h => by
    simp only [RdAll] at h
    obtain ⟨c1, c2, rfl, h1, h2⟩ := h
    obtain ⟨c', hc', hcc⟩ := hp 0 p rfl
    simp at hc'; subst hc'
    obtain ⟨x, rfl, hx⟩ := hcc c1 h1
    simp only [Ccs]
    exact ⟨x, c2, rfl, hx, Ccs.of_rd (fun i q hq => by simpa using hp (i + 1) q (by simpa using hq)) (by simpa using hl) h2⟩
theorem RdRow.crow {r : World} {b : Nat} {α : Type} {f : α → V} {g : α → List C} (hfg : ∀ (x : α) (cs : List Value), Rd r (f x) cs → Ccs ⟨r, []⟩ (g x) cs) : ∀ {l : List α} {o : Nat}, RdRow r b o (l.map f) → Crow ⟨r, []⟩ (l.map g) b o
  | [], o, _ => by simp [Crow]
  | x :: l, o, h => by
    simp only [List.map_cons, RdRow] at h
    obtain ⟨cs, h1, h2, h3⟩ := h
    simp only [List.map_cons, Crow]
    exact ⟨cs, h1, hfg x cs h2, RdRow.crow hfg h3⟩
theorem Rd.sl_cc {r : World} {α : Type} {f : α → V} {g : α → List C} {wd : Nat} {l : List α} {u : Value} (hfg : ∀ x ∈ l, ∀ (cs : List Value), Rd r (f x) cs → Ccs ⟨r, []⟩ (g x) cs) (hw : ∀ x, (g x).length = wd) (h : Rd r (.sl (l.map f)) [u]) : Cc ⟨r, []⟩ (.sl wd (l.map g)) u := by
  simp only [Rd] at h
  obtain ⟨v, e, h⟩ := h
  cases e
  simp only [Cc, List.length_map]
  refine ⟨fun e he => by obtain ⟨x, _, rfl⟩ := List.mem_map.1 he; exact hw x, ?_⟩
  rcases h with ⟨h0, h1⟩ | ⟨b, o, cap, e, l1, l2, hr⟩
  · exact .inl ⟨by simpa using h0, h1⟩
  · rw [List.length_map] at e l1
    refine .inr ⟨b, o, cap, e, l1, l2, ?_⟩
    clear e l1 l2
    clear hw
    induction l generalizing o with
    | nil => simp [Crow]
    | cons x l ih =>
      simp only [List.map_cons, RdRow] at hr
      obtain ⟨cs, h1, h2, h3⟩ := hr
      simp only [List.map_cons, Crow]
      exact ⟨cs, h1, hfg x (by simp) cs h2, ih (fun y hy => hfg y (by simp [hy])) _ h3⟩
theorem Cc.sl_rd {r : World} {α : Type} {f : α → V} {g : α → List C} {wd : Nat} {l : List α} {u : Value} (hfg : ∀ x ∈ l, ∀ (cs : List Value), Ccs ⟨r, []⟩ (g x) cs → Rd r (f x) cs) (h : Cc ⟨r, []⟩ (.sl wd (l.map g)) u) : Rd r (.sl (l.map f)) [u] := by
  simp only [Cc, List.length_map] at h
  simp only [Rd, List.length_map]
  refine ⟨u, rfl, ?_⟩
  rcases h with ⟨-, ⟨h0, h1⟩ | ⟨b, o, cap, e, l1, l2, hr⟩⟩
  · exact .inl ⟨by simpa using h0, h1⟩
  · refine .inr ⟨b, o, cap, e, l1, l2, ?_⟩
    clear e l1 l2
    induction l generalizing o with
    | nil => simp [RdRow]
    | cons x l ih =>
      simp only [List.map_cons, Crow] at hr
      obtain ⟨cs, h1, h2, h3⟩ := hr
      simp only [List.map_cons, RdRow]
      exact ⟨cs, h1, hfg x (by simp) cs h2, ih (fun y hy => hfg y (by simp [hy])) _ h3⟩
theorem vis0 (w : World) : Keeps w (vis (fun _ => false) [] [] w) := fun p v h => by
  unfold vis
  rw [only_cell, if_pos (by simp [hidB])]; exact h
theorem Fr.ext {w w' : World} {S0 : Nat → Bool} (h : Fr S0 w w') (hs : ∀ b, S0 b = false) : Ext w w' := ⟨h.os, h.tape, h.output, h.size, fun b hb => h.block b hb (hs b)⟩
theorem Ext.fr {w w' : World} (S0 : Nat → Bool) (h : Ext w w') : Fr S0 w w' := ⟨h.os, h.tape, h.output, h.size, fun b hb _ => h.block b hb⟩
/-- Out of what is known: a contract in worlds, of one that answers a number, a text, a truth. -/
theorem Pure.calls {P : Program} {f : FuncId} {xs : List A} {u : Value} (h : Pure P f xs (.one (.v u))) {w : World} {vs : List Value} (hg : GL w) (hb : ∀ b, GB b = true → b < w.heap.size) (hv : Cas ⟨w, []⟩ xs vs) : Calls P f vs.toArray w fun e w' => e = .returned u ∧ Ext w w' := by
  refine (h (fun _ => false) [] w vs ⟨rfl, by simp, by simp, by simp, fun b hb => (by cases hb), fun b h => ⟨rfl, rfl, hb b h⟩, hg⟩ (Cas.keep (X := ⟨w, []⟩) (X' := ⟨vis (fun _ => false) [] [] w, []⟩) (vis0 w) (Up.refl _) hv)).mono fun e w' ⟨v, m', r, s', he, ⟨h1, h2⟩, _, hc, hf, _⟩ => ?_
  subst h1 h2
  simp only [Ca, Cc] at hc
  rw [hc.1] at he
  exact ⟨he, hf.ext fun _ => rfl⟩
/-- The other way round. -/
theorem pure_old {P : Program} {f : FuncId} {xs : List A} {r : A} (h : ∀ (w : World) (vs : List Value), GL w → Cas ⟨w, []⟩ xs vs → Calls P f vs.toArray w fun e w' => ∃ v, e = .returned v ∧ Ext w w' ∧ Ca ⟨since w' w.heap.size, []⟩ r v) : Pure P f xs r := fun H m w vs hs hc => by
  have hm : m = [] := by have := hs.len; simp at this; exact List.eq_nil_of_length_eq_zero (by omega)
  subst hm
  refine (h w vs hs.gl (Cas.keep (X := ⟨vis H [] [] w, []⟩) (X' := ⟨w, []⟩) (vis_keeps _ _ _ _) (Up.refl _) hc)).mono fun e w' ⟨v, he, hx, hr⟩ => ⟨v, [], r, [], he, ⟨rfl, rfl⟩, ⟨rfl, by simp, by simp, by simp, fun b hb => Nat.lt_of_lt_of_le (hs.hlt b hb) hx.le, fun b hb => ⟨(hs.gb b hb).1, rfl, Nat.lt_of_lt_of_le (hs.gb b hb).2.2 hx.le⟩, GL.stays (fun b hb => hx.block b (hs.gb b hb).2.2) hs.gl⟩, ?_, hx.fr _, Up.refl _, by simp⟩
  refine Ca.keep (X := ⟨since w' w.heap.size, []⟩) (X' := ⟨vis H [] [] w', []⟩) (Keeps.only fun b hp hb => ?_) (Up.refl _) hr
  simp only [decide_eq_true_eq] at hp
  refine ⟨?_, rfl⟩
  cases hH : H b with
  | false => simp [hidB]
  | true => have := hs.hlt b hH; omega
theorem pure_old_v {P : Program} {f : FuncId} {xs : List A} {u : Value} (hu : u.oneCell' = true) (h : ∀ (w : World) (vs : List Value), GL w → Cas ⟨w, []⟩ xs vs → Calls P f vs.toArray w fun e w' => e = .returned u ∧ Ext w w') : Pure P f xs (.one (.v u)) :=
  pure_old fun w vs hg hv => (h w vs hg hv).mono fun e w' ⟨he, hx⟩ => ⟨u, he, hx, caV hu⟩
theorem Cas.one1 {X : Cx} {x : A} {vs : List Value} (h : Cas X [x] vs) : ∃ v, vs = [v] ∧ Ca X x v := by
  simp only [Cas] at h
  obtain ⟨v, r, rfl, hv, rfl⟩ := h
  exact ⟨v, rfl, hv⟩
theorem Cas.two {X : Cx} {x y : A} {vs : List Value} (h : Cas X [x, y] vs) : ∃ v u, vs = [v, u] ∧ Ca X x v ∧ Ca X y u := by
  simp only [Cas] at h
  obtain ⟨v, r, rfl, hv, u, q, rfl, hu, rfl⟩ := h
  exact ⟨v, u, rfl, hv, hu⟩
/-- One that writes nothing, and whose answer is new memory. -/
def Made (P : Program) (f : FuncId) (xs : List A) (r : A) : Prop := ∀ (w : World) (vs : List Value), GL w → Cas ⟨w, []⟩ xs vs → Calls P f vs.toArray w fun e w' => ∃ v, e = .returned v ∧ Ext w w' ∧ Ca ⟨since w' w.heap.size, []⟩ r v
theorem Made.pure {P : Program} {f : FuncId} {xs : List A} {r : A} (h : Made P f xs r) : Pure P f xs r := pure_old h
theorem StoOk.hid_lt {H : Nat → Bool} {s : List (Option Ob)} {m : List Lo} {w : World} (hs : StoOk H s m w) {b : Nat} (hb : hidB s m b = true) : b < w.heap.size := by
  obtain ⟨i, ob, l, h1, h2, rfl⟩ := hidB_iff.1 hb
  obtain ⟨vs, rest, hm, -, -⟩ := (hs.ok i ob l h1 h2).mem
  exact (Array.getElem?_eq_some_iff.1 hm).1
theorem made_calls {P : Program} {f : FuncId} {xs xs' : List A} {p : Prop} {r : A} {H : Nat → Bool} {s : List (Option Ob)} {m : List Lo} {w : World} (hv : viewAs s xs = some (p, xs')) (hp : p) (hfn : Made P f xs' r) (hs : StoOk H s m w) (vs : List Value) (hvs : Cas ⟨vis H s m w, m⟩ xs vs) :
    Calls P f vs.toArray w fun e w' => ∃ v, e = .returned v ∧ Fr (fun _ => false) w w' ∧ Ca ⟨vis H s m w', m⟩ r v := by
  refine (hfn w vs hs.gl (Cas.keep (X := ⟨vis H [] [] w, []⟩) (X' := ⟨w, []⟩) (vis_keeps _ _ _ _) (Up.refl _) (viewAs_sound hs hv hp hvs))).mono fun e w' ⟨v, he, hx, hr⟩ => ⟨v, he, hx.fr _, ?_⟩
  refine Ca.keep (X := ⟨since w' w.heap.size, []⟩) (X' := ⟨vis H s m w', m⟩) (Keeps.only fun b hp hb => ?_) (fun i l h => by simp at h) hr
  simp only [decide_eq_true_eq] at hp
  refine ⟨?_, rfl⟩
  cases hH : H b with
  | true => have := hs.hlt b hH; omega
  | false =>
    cases hB : hidB s m b with
    | true => have := hs.hid_lt hB; omega
    | false => rfl
theorem CallA.made {P : Program} {nt : Cf} {st : St} {fo : Operand} {args : List Operand} {f : FuncId} {caps : List C} {xs xs' : List A} {K : A → Prop} {p : Prop} {r : A} (hf : rdA st.e fo = some (.one (.fn f caps))) (ha : rdAs st.e args = some xs) (hc : callable P f = true)
    (hv : viewAs st.s (xs ++ caps.map .one) = some (p, xs')) (hp : p) (hfn : Made P f xs' r) (hK : K r) : CallA P nt fo args st K :=
  ⟨f, caps, xs, hf, ha, hc, fun H w0 S0 m0 m a w hs vs hvs => (made_calls hv hp hfn hs.sto vs hvs).mono fun e w' ⟨v, he, h1, h2⟩ => ⟨v, r, he, hK, h1, h2⟩⟩
theorem OpS.made {P : Program} {nt : Cf} {ds : List (Option Tmp)} {e : List (Nat × A)} {s : List (Option Ob)} {d : Option Tmp} {ty : TypeId} {pos : String} {aft : Array Edge} {g : Option (Nat × Bool)} {fo : Operand} {args : List Operand} {tys : Array TypeId} {f : FuncId} {caps : List C} {xs xs' : List A} {p : Prop} {r : A} (hg : guardA ds e g = some true) (hf : rdA e fo = some (.one (.fn f caps))) (ha : rdAs e args = some xs) (hc : callable P f = true)
    (hv : viewAs s (xs ++ caps.map .one) = some (p, xs')) (hp : p) (hfn : Made P f xs' r) : OpS P nt ds ⟨d, .call { callee := .value fo, args := args.toArray, argTypes := tys }, ty, pos, aft, g⟩ e s r s :=
  OpS.call hg hf ha hc fun H w0 S0 m0 mm a w hs vs hvs => made_calls hv hp hfn hs.sto vs hvs
end Go.Proofs.YtdcmihhcpgkgiaaDoor
end
