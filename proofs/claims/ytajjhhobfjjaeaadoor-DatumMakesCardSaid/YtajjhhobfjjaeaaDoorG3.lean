/-
  Laid together: Ty, DatC, Bridge, Made.
-/
import Derived.Test.YtajjhhobfjjaeaaDoorG2
import Derived.Test.YtajjhhobfjjaeaaDoorProg
import Derived.KernelRfl
import Derived.Test.YtajjhhobfjjaeaaDoorPlain2
import Derived.Test.YtajjhhobfjjaeaaDoorChecked
import Derived.Test.YtajjhhobfjjaeaaDoorPhi

section
namespace Go.Proofs.YtajjhhobfjjaeaaDoor
theorem ty_2 : tyI Tryd.prog 2 = some (false, 1) := by kernel_rfl
theorem any_2 : anyI Tryd.prog 2 = true := by kernel_rfl
theorem int_2 : intI Tryd.prog 2 = some .i64 := by kernel_rfl
theorem zer_2 : zerI Tryd.prog 2 = some [.int .i64 0] := by kernel_rfl
theorem ty_3 : tyI Tryd.prog 3 = some (false, 1) := by kernel_rfl
theorem any_3 : anyI Tryd.prog 3 = true := by kernel_rfl
theorem int_3 : intI Tryd.prog 3 = some .i64 := by kernel_rfl
theorem zer_3 : zerI Tryd.prog 3 = some [.int .i64 0] := by kernel_rfl
theorem ty_4 : tyI Tryd.prog 4 = some (false, 1) := by kernel_rfl
theorem any_4 : anyI Tryd.prog 4 = true := by kernel_rfl
theorem bool_4 : boolI Tryd.prog 4 = true := by kernel_rfl
theorem zer_4 : zerI Tryd.prog 4 = some [.bool false] := by kernel_rfl
theorem ty_5 : tyI Tryd.prog 5 = some (false, 1) := by kernel_rfl
theorem any_5 : anyI Tryd.prog 5 = true := by kernel_rfl
theorem int_5 : intI Tryd.prog 5 = some .u8 := by kernel_rfl
theorem zer_5 : zerI Tryd.prog 5 = some [.int .u8 0] := by kernel_rfl
theorem ty_6 : tyI Tryd.prog 6 = some (false, 1) := by kernel_rfl
theorem any_6 : anyI Tryd.prog 6 = true := by kernel_rfl
theorem int_6 : intI Tryd.prog 6 = some .u8 := by kernel_rfl
theorem zer_6 : zerI Tryd.prog 6 = some [.int .u8 0] := by kernel_rfl
theorem ty_7 : tyI Tryd.prog 7 = some (true, 4) := by kernel_rfl
theorem any_7 : anyI Tryd.prog 7 = true := by kernel_rfl
theorem flds_7 : fldsI Tryd.prog 7 = true := by kernel_rfl
theorem fld_7_0 : fldI Tryd.prog 7 0 = some (0, 2) := by kernel_rfl
theorem plc_7_0 : placeI Tryd.prog 7 0 = some (0, 1) := by kernel_rfl
theorem fld_7_1 : fldI Tryd.prog 7 1 = some (1, 3) := by kernel_rfl
theorem plc_7_1 : placeI Tryd.prog 7 1 = some (1, 1) := by kernel_rfl
theorem fld_7_2 : fldI Tryd.prog 7 2 = some (2, 4) := by kernel_rfl
theorem plc_7_2 : placeI Tryd.prog 7 2 = some (2, 1) := by kernel_rfl
theorem fld_7_3 : fldI Tryd.prog 7 3 = some (3, 6) := by kernel_rfl
theorem plc_7_3 : placeI Tryd.prog 7 3 = some (3, 1) := by kernel_rfl
theorem zer_7 : zerI Tryd.prog 7 = some [.int .i64 0, .int .i64 0, .bool false, .int .u8 0] := by kernel_rfl
theorem ty_8 : tyI Tryd.prog 8 = some (true, 4) := by kernel_rfl
theorem any_8 : anyI Tryd.prog 8 = true := by kernel_rfl
theorem flds_8 : fldsI Tryd.prog 8 = true := by kernel_rfl
theorem fld_8_0 : fldI Tryd.prog 8 0 = some (0, 2) := by kernel_rfl
theorem plc_8_0 : placeI Tryd.prog 8 0 = some (0, 1) := by kernel_rfl
theorem fld_8_1 : fldI Tryd.prog 8 1 = some (1, 3) := by kernel_rfl
theorem plc_8_1 : placeI Tryd.prog 8 1 = some (1, 1) := by kernel_rfl
theorem fld_8_2 : fldI Tryd.prog 8 2 = some (2, 4) := by kernel_rfl
theorem plc_8_2 : placeI Tryd.prog 8 2 = some (2, 1) := by kernel_rfl
theorem fld_8_3 : fldI Tryd.prog 8 3 = some (3, 6) := by kernel_rfl
theorem plc_8_3 : placeI Tryd.prog 8 3 = some (3, 1) := by kernel_rfl
theorem zer_8 : zerI Tryd.prog 8 = some [.int .i64 0, .int .i64 0, .bool false, .int .u8 0] := by kernel_rfl
theorem ty_9 : tyI Tryd.prog 9 = some (false, 1) := by kernel_rfl
theorem any_9 : anyI Tryd.prog 9 = true := by kernel_rfl
theorem str_9 : strI Tryd.prog 9 = true := by kernel_rfl
theorem len_9 : lenT Tryd.prog 9 = some true := by kernel_rfl
theorem zer_9 : zerI Tryd.prog 9 = some [.string ⟨#[]⟩] := by kernel_rfl
theorem ty_10 : tyI Tryd.prog 10 = some (false, 1) := by kernel_rfl
theorem any_10 : anyI Tryd.prog 10 = true := by kernel_rfl
theorem str_10 : strI Tryd.prog 10 = true := by kernel_rfl
theorem len_10 : lenT Tryd.prog 10 = some true := by kernel_rfl
theorem zer_10 : zerI Tryd.prog 10 = some [.string ⟨#[]⟩] := by kernel_rfl
theorem ty_11 : tyI Tryd.prog 11 = some (false, 1) := by kernel_rfl
theorem any_11 : anyI Tryd.prog 11 = true := by kernel_rfl
theorem str_11 : strI Tryd.prog 11 = true := by kernel_rfl
theorem len_11 : lenT Tryd.prog 11 = some true := by kernel_rfl
theorem zer_11 : zerI Tryd.prog 11 = some [.string ⟨#[]⟩] := by kernel_rfl
theorem ty_12 : tyI Tryd.prog 12 = some (false, 1) := by kernel_rfl
theorem any_12 : anyI Tryd.prog 12 = true := by kernel_rfl
theorem int_12 : intI Tryd.prog 12 = some .u64 := by kernel_rfl
theorem zer_12 : zerI Tryd.prog 12 = some [.int .u64 0] := by kernel_rfl
theorem ty_13 : tyI Tryd.prog 13 = some (true, 2) := by kernel_rfl
theorem any_13 : anyI Tryd.prog 13 = true := by kernel_rfl
theorem flds_13 : fldsI Tryd.prog 13 = true := by kernel_rfl
theorem fld_13_0 : fldI Tryd.prog 13 0 = some (0, 9) := by kernel_rfl
theorem plc_13_0 : placeI Tryd.prog 13 0 = some (0, 1) := by kernel_rfl
theorem fld_13_1 : fldI Tryd.prog 13 1 = some (1, 12) := by kernel_rfl
theorem plc_13_1 : placeI Tryd.prog 13 1 = some (1, 1) := by kernel_rfl
theorem zer_13 : zerI Tryd.prog 13 = some [.string ⟨#[]⟩, .int .u64 0] := by kernel_rfl
theorem ty_14 : tyI Tryd.prog 14 = some (true, 2) := by kernel_rfl
theorem any_14 : anyI Tryd.prog 14 = true := by kernel_rfl
theorem flds_14 : fldsI Tryd.prog 14 = true := by kernel_rfl
theorem fld_14_0 : fldI Tryd.prog 14 0 = some (0, 9) := by kernel_rfl
theorem plc_14_0 : placeI Tryd.prog 14 0 = some (0, 1) := by kernel_rfl
theorem fld_14_1 : fldI Tryd.prog 14 1 = some (1, 12) := by kernel_rfl
theorem plc_14_1 : placeI Tryd.prog 14 1 = some (1, 1) := by kernel_rfl
theorem zer_14 : zerI Tryd.prog 14 = some [.string ⟨#[]⟩, .int .u64 0] := by kernel_rfl
theorem ty_15 : tyI Tryd.prog 15 = some (false, 1) := by kernel_rfl
theorem any_15 : anyI Tryd.prog 15 = true := by kernel_rfl
theorem ptr_15 : ptrI Tryd.prog 15 = true := by kernel_rfl
theorem zer_15 : zerI Tryd.prog 15 = some [.pointer none] := by kernel_rfl
theorem ty_16 : tyI Tryd.prog 16 = some (false, 1) := by kernel_rfl
theorem any_16 : anyI Tryd.prog 16 = true := by kernel_rfl
theorem ptr_16 : ptrI Tryd.prog 16 = true := by kernel_rfl
theorem zer_16 : zerI Tryd.prog 16 = some [.pointer none] := by kernel_rfl
theorem ty_17 : tyI Tryd.prog 17 = some (false, 1) := by kernel_rfl
theorem any_17 : anyI Tryd.prog 17 = true := by kernel_rfl
theorem ptr_17 : ptrI Tryd.prog 17 = true := by kernel_rfl
theorem zer_17 : zerI Tryd.prog 17 = some [.pointer none] := by kernel_rfl
theorem ty_18 : tyI Tryd.prog 18 = some (true, 1) := by kernel_rfl
theorem any_18 : anyI Tryd.prog 18 = true := by kernel_rfl
theorem flds_18 : fldsI Tryd.prog 18 = true := by kernel_rfl
theorem fld_18_0 : fldI Tryd.prog 18 0 = some (0, 17) := by kernel_rfl
theorem plc_18_0 : placeI Tryd.prog 18 0 = some (0, 1) := by kernel_rfl
theorem zer_18 : zerI Tryd.prog 18 = some [.pointer none] := by kernel_rfl
theorem ty_19 : tyI Tryd.prog 19 = some (true, 1) := by kernel_rfl
theorem any_19 : anyI Tryd.prog 19 = true := by kernel_rfl
theorem flds_19 : fldsI Tryd.prog 19 = true := by kernel_rfl
theorem fld_19_0 : fldI Tryd.prog 19 0 = some (0, 17) := by kernel_rfl
theorem plc_19_0 : placeI Tryd.prog 19 0 = some (0, 1) := by kernel_rfl
theorem zer_19 : zerI Tryd.prog 19 = some [.pointer none] := by kernel_rfl
theorem ty_21 : tyI Tryd.prog 21 = some (false, 1) := by kernel_rfl
theorem any_21 : anyI Tryd.prog 21 = true := by kernel_rfl
theorem int_21 : intI Tryd.prog 21 = some .i32 := by kernel_rfl
theorem zer_21 : zerI Tryd.prog 21 = some [.int .i32 0] := by kernel_rfl
theorem ty_22 : tyI Tryd.prog 22 = some (false, 1) := by kernel_rfl
theorem any_22 : anyI Tryd.prog 22 = true := by kernel_rfl
theorem elt_22 : eltI Tryd.prog 22 = some (51, 1) := by kernel_rfl
theorem len_22 : lenT Tryd.prog 22 = some false := by kernel_rfl
theorem byt_22 : bytI Tryd.prog 22 = some 4 := by kernel_rfl
theorem zel_22 : zerI Tryd.prog 51 = some [.int .u32 0] := by kernel_rfl
theorem zer_22 : zerI Tryd.prog 22 = some [.slice none 0 0] := by kernel_rfl
theorem ty_23 : tyI Tryd.prog 23 = some (true, 2) := by kernel_rfl
theorem any_23 : anyI Tryd.prog 23 = true := by kernel_rfl
theorem flds_23 : fldsI Tryd.prog 23 = true := by kernel_rfl
theorem fld_23_0 : fldI Tryd.prog 23 0 = some (0, 4) := by kernel_rfl
theorem plc_23_0 : placeI Tryd.prog 23 0 = some (0, 1) := by kernel_rfl
theorem fld_23_1 : fldI Tryd.prog 23 1 = some (1, 22) := by kernel_rfl
theorem plc_23_1 : placeI Tryd.prog 23 1 = some (1, 1) := by kernel_rfl
theorem zer_23 : zerI Tryd.prog 23 = some [.bool false, .slice none 0 0] := by kernel_rfl
theorem ty_24 : tyI Tryd.prog 24 = some (true, 2) := by kernel_rfl
theorem any_24 : anyI Tryd.prog 24 = true := by kernel_rfl
theorem flds_24 : fldsI Tryd.prog 24 = true := by kernel_rfl
theorem fld_24_0 : fldI Tryd.prog 24 0 = some (0, 4) := by kernel_rfl
theorem plc_24_0 : placeI Tryd.prog 24 0 = some (0, 1) := by kernel_rfl
theorem fld_24_1 : fldI Tryd.prog 24 1 = some (1, 22) := by kernel_rfl
theorem plc_24_1 : placeI Tryd.prog 24 1 = some (1, 1) := by kernel_rfl
theorem zer_24 : zerI Tryd.prog 24 = some [.bool false, .slice none 0 0] := by kernel_rfl
theorem ty_25 : tyI Tryd.prog 25 = some (false, 1) := by kernel_rfl
theorem any_25 : anyI Tryd.prog 25 = true := by kernel_rfl
theorem elt_25 : eltI Tryd.prog 25 = some (27, 6) := by kernel_rfl
theorem len_25 : lenT Tryd.prog 25 = some false := by kernel_rfl
theorem byt_25 : bytI Tryd.prog 25 = some 88 := by kernel_rfl
theorem zel_25 : zerI Tryd.prog 27 = some [.int .i64 0, .int .i32 0, .bool false, .slice none 0 0, .string ⟨#[]⟩, .slice none 0 0] := by kernel_rfl
theorem zer_25 : zerI Tryd.prog 25 = some [.slice none 0 0] := by kernel_rfl
theorem ty_26 : tyI Tryd.prog 26 = some (true, 6) := by kernel_rfl
theorem any_26 : anyI Tryd.prog 26 = true := by kernel_rfl
theorem flds_26 : fldsI Tryd.prog 26 = true := by kernel_rfl
theorem fld_26_0 : fldI Tryd.prog 26 0 = some (0, 3) := by kernel_rfl
theorem plc_26_0 : placeI Tryd.prog 26 0 = some (0, 1) := by kernel_rfl
theorem fld_26_1 : fldI Tryd.prog 26 1 = some (1, 21) := by kernel_rfl
theorem plc_26_1 : placeI Tryd.prog 26 1 = some (1, 1) := by kernel_rfl
theorem fld_26_2 : fldI Tryd.prog 26 2 = some (2, 24) := by kernel_rfl
theorem plc_26_2 : placeI Tryd.prog 26 2 = some (2, 2) := by kernel_rfl
theorem fld_26_3 : fldI Tryd.prog 26 3 = some (4, 9) := by kernel_rfl
theorem plc_26_3 : placeI Tryd.prog 26 3 = some (4, 1) := by kernel_rfl
theorem fld_26_4 : fldI Tryd.prog 26 4 = some (5, 25) := by kernel_rfl
theorem plc_26_4 : placeI Tryd.prog 26 4 = some (5, 1) := by kernel_rfl
theorem zer_26 : zerI Tryd.prog 26 = some [.int .i64 0, .int .i32 0, .bool false, .slice none 0 0, .string ⟨#[]⟩, .slice none 0 0] := by kernel_rfl
theorem ty_27 : tyI Tryd.prog 27 = some (true, 6) := by kernel_rfl
theorem any_27 : anyI Tryd.prog 27 = true := by kernel_rfl
theorem flds_27 : fldsI Tryd.prog 27 = true := by kernel_rfl
theorem fld_27_0 : fldI Tryd.prog 27 0 = some (0, 3) := by kernel_rfl
theorem plc_27_0 : placeI Tryd.prog 27 0 = some (0, 1) := by kernel_rfl
theorem fld_27_1 : fldI Tryd.prog 27 1 = some (1, 21) := by kernel_rfl
theorem plc_27_1 : placeI Tryd.prog 27 1 = some (1, 1) := by kernel_rfl
theorem fld_27_2 : fldI Tryd.prog 27 2 = some (2, 24) := by kernel_rfl
theorem plc_27_2 : placeI Tryd.prog 27 2 = some (2, 2) := by kernel_rfl
theorem fld_27_3 : fldI Tryd.prog 27 3 = some (4, 9) := by kernel_rfl
theorem plc_27_3 : placeI Tryd.prog 27 3 = some (4, 1) := by kernel_rfl
theorem fld_27_4 : fldI Tryd.prog 27 4 = some (5, 25) := by kernel_rfl
theorem plc_27_4 : placeI Tryd.prog 27 4 = some (5, 1) := by kernel_rfl
theorem zer_27 : zerI Tryd.prog 27 = some [.int .i64 0, .int .i32 0, .bool false, .slice none 0 0, .string ⟨#[]⟩, .slice none 0 0] := by kernel_rfl
theorem ty_49 : tyI Tryd.prog 49 = some (false, 1) := by kernel_rfl
theorem any_49 : anyI Tryd.prog 49 = true := by kernel_rfl
theorem zer_49 : zerI Tryd.prog 49 = some [.nilFunc] := by kernel_rfl
theorem ty_51 : tyI Tryd.prog 51 = some (false, 1) := by kernel_rfl
theorem any_51 : anyI Tryd.prog 51 = true := by kernel_rfl
theorem int_51 : intI Tryd.prog 51 = some .u32 := by kernel_rfl
theorem zer_51 : zerI Tryd.prog 51 = some [.int .u32 0] := by kernel_rfl
theorem ty_52 : tyI Tryd.prog 52 = some (false, 1) := by kernel_rfl
theorem any_52 : anyI Tryd.prog 52 = true := by kernel_rfl
theorem int_52 : intI Tryd.prog 52 = some .u64 := by kernel_rfl
theorem zer_52 : zerI Tryd.prog 52 = some [.int .u64 0] := by kernel_rfl
theorem ty_53 : tyI Tryd.prog 53 = some (false, 1) := by kernel_rfl
theorem any_53 : anyI Tryd.prog 53 = true := by kernel_rfl
theorem int_53 : intI Tryd.prog 53 = some .i64 := by kernel_rfl
theorem zer_53 : zerI Tryd.prog 53 = some [.int .i64 0] := by kernel_rfl
theorem ty_56 : tyI Tryd.prog 56 = some (false, 1) := by kernel_rfl
theorem any_56 : anyI Tryd.prog 56 = true := by kernel_rfl
theorem elt_56 : eltI Tryd.prog 56 = some (5, 1) := by kernel_rfl
theorem len_56 : lenT Tryd.prog 56 = some false := by kernel_rfl
theorem byt_56 : bytI Tryd.prog 56 = some 1 := by kernel_rfl
theorem zel_56 : zerI Tryd.prog 5 = some [.int .u8 0] := by kernel_rfl
theorem zer_56 : zerI Tryd.prog 56 = some [.slice none 0 0] := by kernel_rfl
theorem ty_57 : tyI Tryd.prog 57 = some (true, 2) := by kernel_rfl
theorem any_57 : anyI Tryd.prog 57 = true := by kernel_rfl
theorem flds_57 : fldsI Tryd.prog 57 = true := by kernel_rfl
theorem fld_57_0 : fldI Tryd.prog 57 0 = some (0, 4) := by kernel_rfl
theorem plc_57_0 : placeI Tryd.prog 57 0 = some (0, 1) := by kernel_rfl
theorem fld_57_1 : fldI Tryd.prog 57 1 = some (1, 56) := by kernel_rfl
theorem plc_57_1 : placeI Tryd.prog 57 1 = some (1, 1) := by kernel_rfl
theorem zer_57 : zerI Tryd.prog 57 = some [.bool false, .slice none 0 0] := by kernel_rfl
theorem ty_58 : tyI Tryd.prog 58 = some (true, 2) := by kernel_rfl
theorem any_58 : anyI Tryd.prog 58 = true := by kernel_rfl
theorem flds_58 : fldsI Tryd.prog 58 = true := by kernel_rfl
theorem fld_58_0 : fldI Tryd.prog 58 0 = some (0, 4) := by kernel_rfl
theorem plc_58_0 : placeI Tryd.prog 58 0 = some (0, 1) := by kernel_rfl
theorem fld_58_1 : fldI Tryd.prog 58 1 = some (1, 56) := by kernel_rfl
theorem plc_58_1 : placeI Tryd.prog 58 1 = some (1, 1) := by kernel_rfl
theorem zer_58 : zerI Tryd.prog 58 = some [.bool false, .slice none 0 0] := by kernel_rfl
theorem ty_60 : tyI Tryd.prog 60 = some (false, 1) := by kernel_rfl
theorem any_60 : anyI Tryd.prog 60 = true := by kernel_rfl
theorem int_60 : intI Tryd.prog 60 = some .u64 := by kernel_rfl
theorem zer_60 : zerI Tryd.prog 60 = some [.int .u64 0] := by kernel_rfl
theorem ty_66 : tyI Tryd.prog 66 = some (false, 1) := by kernel_rfl
theorem any_66 : anyI Tryd.prog 66 = true := by kernel_rfl
theorem elt_66 : eltI Tryd.prog 66 = some (21, 1) := by kernel_rfl
theorem len_66 : lenT Tryd.prog 66 = some false := by kernel_rfl
theorem byt_66 : bytI Tryd.prog 66 = some 4 := by kernel_rfl
theorem zel_66 : zerI Tryd.prog 21 = some [.int .i32 0] := by kernel_rfl
theorem zer_66 : zerI Tryd.prog 66 = some [.slice none 0 0] := by kernel_rfl
theorem ty_79 : tyI Tryd.prog 79 = some (true, 256) := by kernel_rfl
theorem any_79 : anyI Tryd.prog 79 = true := by kernel_rfl
theorem arr_79 : arrI Tryd.prog 79 = some (256, 5, 1) := by kernel_rfl
theorem zer_79 : zerI Tryd.prog 79 = some [.int .u8 0, .int .u8 0, .int .u8 0, .int .u8 0, .int .u8 0, .int .u8 0, .int .u8 0, .int .u8 0, .int .u8 0, .int .u8 0, .int .u8 0, .int .u8 0, .int .u8 0, .int .u8 0, .int .u8 0, .int .u8 0, .int .u8 0, .int .u8 0, .int .u8 0, .int .u8 0, .int .u8 0, .int .u8 0, .int .u8 0, .int .u8 0, .int .u8 0, .int .u8 0, .int .u8 0, .int .u8 0, .int .u8 0, .int .u8 0, .int .u8 0, .int .u8 0, .int .u8 0, .int .u8 0, .int .u8 0, .int .u8 0, .int .u8 0, .int .u8 0, .int .u8 0, .int .u8 0, .int .u8 0, .int .u8 0, .int .u8 0, .int .u8 0, .int .u8 0, .int .u8 0, .int .u8 0, .int .u8 0, .int .u8 0, .int .u8 0, .int .u8 0, .int .u8 0, .int .u8 0, .int .u8 0, .int .u8 0, .int .u8 0, .int .u8 0, .int .u8 0, .int .u8 0, .int .u8 0, .int .u8 0, .int .u8 0, .int .u8 0, .int .u8 0, .int .u8 0, .int .u8 0, .int .u8 0, .int .u8 0, .int .u8 0, .int .u8 0, .int .u8 0, .int .u8 0, .int .u8 0, .int .u8 0, .int .u8 0, .int .u8 0, .int .u8 0, .int .u8 0, .int .u8 0, .int .u8 0, .int .u8 0, .int .u8 0, .int .u8 0, .int .u8 0, .int .u8 0, .int .u8 0, .int .u8 0, .int .u8 0, .int .u8 0, .int .u8 0, .int .u8 0, .int .u8 0, .int .u8 0, .int .u8 0, .int .u8 0, .int .u8 0, .int .u8 0, .int .u8 0, .int .u8 0, .int .u8 0, .int .u8 0, .int .u8 0, .int .u8 0, .int .u8 0, .int .u8 0, .int .u8 0, .int .u8 0, .int .u8 0, .int .u8 0, .int .u8 0, .int .u8 0, .int .u8 0, .int .u8 0, .int .u8 0, .int .u8 0, .int .u8 0, .int .u8 0, .int .u8 0, .int .u8 0, .int .u8 0, .int .u8 0, .int .u8 0, .int .u8 0, .int .u8 0, .int .u8 0, .int .u8 0, .int .u8 0, .int .u8 0, .int .u8 0, .int .u8 0, .int .u8 0, .int .u8 0, .int .u8 0, .int .u8 0, .int .u8 0, .int .u8 0, .int .u8 0, .int .u8 0, .int .u8 0, .int .u8 0, .int .u8 0, .int .u8 0, .int .u8 0, .int .u8 0, .int .u8 0, .int .u8 0, .int .u8 0, .int .u8 0, .int .u8 0, .int .u8 0, .int .u8 0, .int .u8 0, .int .u8 0, .int .u8 0, .int .u8 0, .int .u8 0, .int .u8 0, .int .u8 0, .int .u8 0, .int .u8 0, .int .u8 0, .int .u8 0, .int .u8 0, .int .u8 0, .int .u8 0, .int .u8 0, .int .u8 0, .int .u8 0, .int .u8 0, .int .u8 0, .int .u8 0, .int .u8 0, .int .u8 0, .int .u8 0, .int .u8 0, .int .u8 0, .int .u8 0, .int .u8 0, .int .u8 0, .int .u8 0, .int .u8 0, .int .u8 0, .int .u8 0, .int .u8 0, .int .u8 0, .int .u8 0, .int .u8 0, .int .u8 0, .int .u8 0, .int .u8 0, .int .u8 0, .int .u8 0, .int .u8 0, .int .u8 0, .int .u8 0, .int .u8 0, .int .u8 0, .int .u8 0, .int .u8 0, .int .u8 0, .int .u8 0, .int .u8 0, .int .u8 0, .int .u8 0, .int .u8 0, .int .u8 0, .int .u8 0, .int .u8 0, .int .u8 0, .int .u8 0, .int .u8 0, .int .u8 0, .int .u8 0, .int .u8 0, .int .u8 0, .int .u8 0, .int .u8 0, .int .u8 0, .int .u8 0, .int .u8 0, .int .u8 0, .int .u8 0, .int .u8 0, .int .u8 0, .int .u8 0, .int .u8 0, .int .u8 0, .int .u8 0, .int .u8 0, .int .u8 0, .int .u8 0, .int .u8 0, .int .u8 0, .int .u8 0, .int .u8 0, .int .u8 0, .int .u8 0, .int .u8 0, .int .u8 0, .int .u8 0, .int .u8 0, .int .u8 0, .int .u8 0, .int .u8 0, .int .u8 0, .int .u8 0, .int .u8 0, .int .u8 0, .int .u8 0, .int .u8 0, .int .u8 0, .int .u8 0, .int .u8 0, .int .u8 0, .int .u8 0, .int .u8 0] := by kernel_rfl
theorem ty_80 : tyI Tryd.prog 80 = some (true, 2) := by kernel_rfl
theorem any_80 : anyI Tryd.prog 80 = true := by kernel_rfl
theorem flds_80 : fldsI Tryd.prog 80 = true := by kernel_rfl
theorem fld_80_0 : fldI Tryd.prog 80 0 = some (0, 5) := by kernel_rfl
theorem plc_80_0 : placeI Tryd.prog 80 0 = some (0, 1) := by kernel_rfl
theorem fld_80_1 : fldI Tryd.prog 80 1 = some (1, 5) := by kernel_rfl
theorem plc_80_1 : placeI Tryd.prog 80 1 = some (1, 1) := by kernel_rfl
theorem zer_80 : zerI Tryd.prog 80 = some [.int .u8 0, .int .u8 0] := by kernel_rfl
theorem ty_81 : tyI Tryd.prog 81 = some (true, 2) := by kernel_rfl
theorem any_81 : anyI Tryd.prog 81 = true := by kernel_rfl
theorem flds_81 : fldsI Tryd.prog 81 = true := by kernel_rfl
theorem fld_81_0 : fldI Tryd.prog 81 0 = some (0, 5) := by kernel_rfl
theorem plc_81_0 : placeI Tryd.prog 81 0 = some (0, 1) := by kernel_rfl
theorem fld_81_1 : fldI Tryd.prog 81 1 = some (1, 5) := by kernel_rfl
theorem plc_81_1 : placeI Tryd.prog 81 1 = some (1, 1) := by kernel_rfl
theorem zer_81 : zerI Tryd.prog 81 = some [.int .u8 0, .int .u8 0] := by kernel_rfl
theorem ty_82 : tyI Tryd.prog 82 = some (true, 32) := by kernel_rfl
theorem any_82 : anyI Tryd.prog 82 = true := by kernel_rfl
theorem arr_82 : arrI Tryd.prog 82 = some (16, 81, 2) := by kernel_rfl
theorem zer_82 : zerI Tryd.prog 82 = some [.int .u8 0, .int .u8 0, .int .u8 0, .int .u8 0, .int .u8 0, .int .u8 0, .int .u8 0, .int .u8 0, .int .u8 0, .int .u8 0, .int .u8 0, .int .u8 0, .int .u8 0, .int .u8 0, .int .u8 0, .int .u8 0, .int .u8 0, .int .u8 0, .int .u8 0, .int .u8 0, .int .u8 0, .int .u8 0, .int .u8 0, .int .u8 0, .int .u8 0, .int .u8 0, .int .u8 0, .int .u8 0, .int .u8 0, .int .u8 0, .int .u8 0, .int .u8 0] := by kernel_rfl
theorem ty_84 : tyI Tryd.prog 84 = some (true, 4) := by kernel_rfl
theorem any_84 : anyI Tryd.prog 84 = true := by kernel_rfl
theorem flds_84 : fldsI Tryd.prog 84 = true := by kernel_rfl
theorem fld_84_0 : fldI Tryd.prog 84 0 = some (0, 17) := by kernel_rfl
theorem plc_84_0 : placeI Tryd.prog 84 0 = some (0, 1) := by kernel_rfl
theorem fld_84_1 : fldI Tryd.prog 84 1 = some (1, 17) := by kernel_rfl
theorem plc_84_1 : placeI Tryd.prog 84 1 = some (1, 1) := by kernel_rfl
theorem fld_84_2 : fldI Tryd.prog 84 2 = some (2, 17) := by kernel_rfl
theorem plc_84_2 : placeI Tryd.prog 84 2 = some (2, 1) := by kernel_rfl
theorem fld_84_3 : fldI Tryd.prog 84 3 = some (3, 9) := by kernel_rfl
theorem plc_84_3 : placeI Tryd.prog 84 3 = some (3, 1) := by kernel_rfl
theorem zer_84 : zerI Tryd.prog 84 = some [.pointer none, .pointer none, .pointer none, .string ⟨#[]⟩] := by kernel_rfl
theorem ty_85 : tyI Tryd.prog 85 = some (true, 4) := by kernel_rfl
theorem any_85 : anyI Tryd.prog 85 = true := by kernel_rfl
theorem flds_85 : fldsI Tryd.prog 85 = true := by kernel_rfl
theorem fld_85_0 : fldI Tryd.prog 85 0 = some (0, 17) := by kernel_rfl
theorem plc_85_0 : placeI Tryd.prog 85 0 = some (0, 1) := by kernel_rfl
theorem fld_85_1 : fldI Tryd.prog 85 1 = some (1, 17) := by kernel_rfl
theorem plc_85_1 : placeI Tryd.prog 85 1 = some (1, 1) := by kernel_rfl
theorem fld_85_2 : fldI Tryd.prog 85 2 = some (2, 17) := by kernel_rfl
theorem plc_85_2 : placeI Tryd.prog 85 2 = some (2, 1) := by kernel_rfl
theorem fld_85_3 : fldI Tryd.prog 85 3 = some (3, 9) := by kernel_rfl
theorem plc_85_3 : placeI Tryd.prog 85 3 = some (3, 1) := by kernel_rfl
theorem zer_85 : zerI Tryd.prog 85 = some [.pointer none, .pointer none, .pointer none, .string ⟨#[]⟩] := by kernel_rfl
theorem ty_86 : tyI Tryd.prog 86 = some (true, 0) := by kernel_rfl
theorem any_86 : anyI Tryd.prog 86 = true := by kernel_rfl
theorem arr_86 : arrI Tryd.prog 86 = some (0, 16, 1) := by kernel_rfl
theorem zer_86 : zerI Tryd.prog 86 = some [] := by kernel_rfl
theorem ty_87 : tyI Tryd.prog 87 = some (true, 0) := by kernel_rfl
theorem any_87 : anyI Tryd.prog 87 = true := by kernel_rfl
theorem flds_87 : fldsI Tryd.prog 87 = true := by kernel_rfl
theorem plc_87_0 : placeI Tryd.prog 87 0 = some (0, 0) := by kernel_rfl
theorem zer_87 : zerI Tryd.prog 87 = some [] := by kernel_rfl
theorem ty_88 : tyI Tryd.prog 88 = some (true, 0) := by kernel_rfl
theorem any_88 : anyI Tryd.prog 88 = true := by kernel_rfl
theorem flds_88 : fldsI Tryd.prog 88 = true := by kernel_rfl
theorem plc_88_0 : placeI Tryd.prog 88 0 = some (0, 0) := by kernel_rfl
theorem zer_88 : zerI Tryd.prog 88 = some [] := by kernel_rfl
theorem ty_90 : tyI Tryd.prog 90 = some (false, 1) := by kernel_rfl
theorem any_90 : anyI Tryd.prog 90 = true := by kernel_rfl
theorem int_90 : intI Tryd.prog 90 = some .u8 := by kernel_rfl
theorem zer_90 : zerI Tryd.prog 90 = some [.int .u8 0] := by kernel_rfl
theorem ty_91 : tyI Tryd.prog 91 = some (false, 1) := by kernel_rfl
theorem any_91 : anyI Tryd.prog 91 = true := by kernel_rfl
theorem int_91 : intI Tryd.prog 91 = some .u8 := by kernel_rfl
theorem zer_91 : zerI Tryd.prog 91 = some [.int .u8 0] := by kernel_rfl
theorem ty_93 : tyI Tryd.prog 93 = some (false, 1) := by kernel_rfl
theorem any_93 : anyI Tryd.prog 93 = true := by kernel_rfl
theorem ptr_93 : ptrI Tryd.prog 93 = true := by kernel_rfl
theorem zer_93 : zerI Tryd.prog 93 = some [.pointer none] := by kernel_rfl
theorem ty_94 : tyI Tryd.prog 94 = some (false, 1) := by kernel_rfl
theorem any_94 : anyI Tryd.prog 94 = true := by kernel_rfl
theorem int_94 : intI Tryd.prog 94 = some .i32 := by kernel_rfl
theorem zer_94 : zerI Tryd.prog 94 = some [.int .i32 0] := by kernel_rfl
theorem ty_95 : tyI Tryd.prog 95 = some (false, 1) := by kernel_rfl
theorem any_95 : anyI Tryd.prog 95 = true := by kernel_rfl
theorem int_95 : intI Tryd.prog 95 = some .i32 := by kernel_rfl
theorem zer_95 : zerI Tryd.prog 95 = some [.int .i32 0] := by kernel_rfl
theorem ty_96 : tyI Tryd.prog 96 = some (true, 11) := by kernel_rfl
theorem any_96 : anyI Tryd.prog 96 = true := by kernel_rfl
theorem flds_96 : fldsI Tryd.prog 96 = true := by kernel_rfl
theorem fld_96_0 : fldI Tryd.prog 96 0 = some (0, 12) := by kernel_rfl
theorem plc_96_0 : placeI Tryd.prog 96 0 = some (0, 1) := by kernel_rfl
theorem fld_96_1 : fldI Tryd.prog 96 1 = some (1, 12) := by kernel_rfl
theorem plc_96_1 : placeI Tryd.prog 96 1 = some (1, 1) := by kernel_rfl
theorem fld_96_2 : fldI Tryd.prog 96 2 = some (2, 51) := by kernel_rfl
theorem plc_96_2 : placeI Tryd.prog 96 2 = some (2, 1) := by kernel_rfl
theorem fld_96_3 : fldI Tryd.prog 96 3 = some (3, 90) := by kernel_rfl
theorem plc_96_3 : placeI Tryd.prog 96 3 = some (3, 1) := by kernel_rfl
theorem fld_96_4 : fldI Tryd.prog 96 4 = some (4, 5) := by kernel_rfl
theorem plc_96_4 : placeI Tryd.prog 96 4 = some (4, 1) := by kernel_rfl
theorem fld_96_5 : fldI Tryd.prog 96 5 = some (5, 5) := by kernel_rfl
theorem plc_96_5 : placeI Tryd.prog 96 5 = some (5, 1) := by kernel_rfl
theorem fld_96_6 : fldI Tryd.prog 96 6 = some (6, 91) := by kernel_rfl
theorem plc_96_6 : placeI Tryd.prog 96 6 = some (6, 1) := by kernel_rfl
theorem fld_96_7 : fldI Tryd.prog 96 7 = some (7, 92) := by kernel_rfl
theorem plc_96_7 : placeI Tryd.prog 96 7 = some (7, 1) := by kernel_rfl
theorem fld_96_8 : fldI Tryd.prog 96 8 = some (8, 93) := by kernel_rfl
theorem plc_96_8 : placeI Tryd.prog 96 8 = some (8, 1) := by kernel_rfl
theorem fld_96_9 : fldI Tryd.prog 96 9 = some (9, 94) := by kernel_rfl
theorem plc_96_9 : placeI Tryd.prog 96 9 = some (9, 1) := by kernel_rfl
theorem fld_96_10 : fldI Tryd.prog 96 10 = some (10, 95) := by kernel_rfl
theorem plc_96_10 : placeI Tryd.prog 96 10 = some (10, 1) := by kernel_rfl
theorem zer_96 : zerI Tryd.prog 96 = some [.int .u64 0, .int .u64 0, .int .u32 0, .int .u8 0, .int .u8 0, .int .u8 0, .int .u8 0, .nilFunc, .pointer none, .int .i32 0, .int .i32 0] := by kernel_rfl
theorem ty_97 : tyI Tryd.prog 97 = some (true, 11) := by kernel_rfl
theorem any_97 : anyI Tryd.prog 97 = true := by kernel_rfl
theorem flds_97 : fldsI Tryd.prog 97 = true := by kernel_rfl
theorem fld_97_0 : fldI Tryd.prog 97 0 = some (0, 12) := by kernel_rfl
theorem plc_97_0 : placeI Tryd.prog 97 0 = some (0, 1) := by kernel_rfl
theorem fld_97_1 : fldI Tryd.prog 97 1 = some (1, 12) := by kernel_rfl
theorem plc_97_1 : placeI Tryd.prog 97 1 = some (1, 1) := by kernel_rfl
theorem fld_97_2 : fldI Tryd.prog 97 2 = some (2, 51) := by kernel_rfl
theorem plc_97_2 : placeI Tryd.prog 97 2 = some (2, 1) := by kernel_rfl
theorem fld_97_3 : fldI Tryd.prog 97 3 = some (3, 90) := by kernel_rfl
theorem plc_97_3 : placeI Tryd.prog 97 3 = some (3, 1) := by kernel_rfl
theorem fld_97_4 : fldI Tryd.prog 97 4 = some (4, 5) := by kernel_rfl
theorem plc_97_4 : placeI Tryd.prog 97 4 = some (4, 1) := by kernel_rfl
theorem fld_97_5 : fldI Tryd.prog 97 5 = some (5, 5) := by kernel_rfl
theorem plc_97_5 : placeI Tryd.prog 97 5 = some (5, 1) := by kernel_rfl
theorem fld_97_6 : fldI Tryd.prog 97 6 = some (6, 91) := by kernel_rfl
theorem plc_97_6 : placeI Tryd.prog 97 6 = some (6, 1) := by kernel_rfl
theorem fld_97_7 : fldI Tryd.prog 97 7 = some (7, 92) := by kernel_rfl
theorem plc_97_7 : placeI Tryd.prog 97 7 = some (7, 1) := by kernel_rfl
theorem fld_97_8 : fldI Tryd.prog 97 8 = some (8, 93) := by kernel_rfl
theorem plc_97_8 : placeI Tryd.prog 97 8 = some (8, 1) := by kernel_rfl
theorem fld_97_9 : fldI Tryd.prog 97 9 = some (9, 94) := by kernel_rfl
theorem plc_97_9 : placeI Tryd.prog 97 9 = some (9, 1) := by kernel_rfl
theorem fld_97_10 : fldI Tryd.prog 97 10 = some (10, 95) := by kernel_rfl
theorem plc_97_10 : placeI Tryd.prog 97 10 = some (10, 1) := by kernel_rfl
theorem zer_97 : zerI Tryd.prog 97 = some [.int .u64 0, .int .u64 0, .int .u32 0, .int .u8 0, .int .u8 0, .int .u8 0, .int .u8 0, .nilFunc, .pointer none, .int .i32 0, .int .i32 0] := by kernel_rfl
theorem ty_98 : tyI Tryd.prog 98 = some (false, 1) := by kernel_rfl
theorem any_98 : anyI Tryd.prog 98 = true := by kernel_rfl
end Go.Proofs.YtajjhhobfjjaeaaDoor
end

section
/-
  Data as rows of cells.
-/
namespace Go.Proofs.YtajjhhobfjjaeaaDoor
open Go Go.RowKit
set_option linter.unusedSimpArgs false
set_option linter.unusedVariables false
/-- A datum's cells. -/
def D.cc : D → List C
  | mk k c neg mag t l => [.v (.int .i64 k), .v (.int .i32 c), .v (.bool neg), .sl 1 (mag.map fun n => [.v (.int .u32 n)]), .v (.string t), .sl 6 (l.map D.cc)]
theorem D.cc_eq (d : D) : d.cc = [.v (.int .i64 d.k), .v (.int .i32 d.c), .v (.bool d.neg), .sl 1 (d.mag.map fun n => [.v (.int .u32 n)]), .v (.string d.t), .sl 6 (d.l.map D.cc)] := by
  cases d; rw [D.cc]; rfl
theorem getC {l : List D} {k : Nat} (h : k < l.length) : (l.map D.cc)[k]? = some (l[k]).cc := by simp [h]
end Go.Proofs.YtajjhhobfjjaeaaDoor
end

section
/-
  Contracts in worlds, and contracts over what is known: each out of the other. Data.
-/
namespace Go.Proofs.YtajjhhobfjjaeaaDoor
open Go Go.RowKit
set_option linter.unusedSimpArgs false
set_option linter.unusedVariables false

theorem Ccs.of_rd {r : World} : ∀ {ps : List V} {us : List Value} {cs : List C}, (∀ (i : Nat) (p : V), ps[i]? = some p → ∃ c, cs[i]? = some c ∧ ∀ u, Rd r p u → ∃ x, u = [x] ∧ Cc ⟨r, []⟩ c x) → ps.length = cs.length → RdAll r ps us → Ccs ⟨r, []⟩ cs us
  | [], us, [], _, _, h => by simp only [RdAll] at h; subst h; simp [Ccs]
  | [], us, c :: cs, _, hl, h => by simp at hl
  | p :: ps, us, [], _, hl, h => by simp at hl
  | p :: ps, us, c :: cs, hp, hl, h => by
    simp only [RdAll] at h
    obtain ⟨c1, c2, rfl, h1, h2⟩ := h
    obtain ⟨c', hc', hcc⟩ := hp 0 p rfl
    simp at hc'; subst hc'
    obtain ⟨x, rfl, hx⟩ := hcc c1 h1
    simp only [Ccs]
    exact ⟨x, c2, rfl, hx, Ccs.of_rd (fun i q hq => by simpa using hp (i + 1) q (by simpa using hq)) (by simpa using hl) h2⟩
theorem RdRow.crow {r : World} {b : Nat} {α : Type} {f : α → V} {g : α → List C} (hfg : ∀ (x : α) (cs : List Value), Rd r (f x) cs → Ccs ⟨r, []⟩ (g x) cs) : ∀ {l : List α} {o : Nat}, RdRow r b o (l.map f) → Crow ⟨r, []⟩ (l.map g) b o
  | [], o, _ => by simp [Crow]
  | x :: l, o, h => by
    simp only [List.map_cons, RdRow] at h
    obtain ⟨cs, h1, h2, h3⟩ := h
    simp only [List.map_cons, Crow]
    exact ⟨cs, h1, hfg x cs h2, RdRow.crow hfg h3⟩
theorem Rd.sl_cc {r : World} {α : Type} {f : α → V} {g : α → List C} {wd : Nat} {l : List α} {u : Value} (hfg : ∀ x ∈ l, ∀ (cs : List Value), Rd r (f x) cs → Ccs ⟨r, []⟩ (g x) cs) (hw : ∀ x, (g x).length = wd) (h : Rd r (.sl (l.map f)) [u]) : Cc ⟨r, []⟩ (.sl wd (l.map g)) u := by
  simp only [Rd] at h
  obtain ⟨v, e, h⟩ := h
  cases e
  simp only [Cc, List.length_map]
  refine ⟨fun e he => by obtain ⟨x, _, rfl⟩ := List.mem_map.1 he; exact hw x, ?_⟩
  rcases h with ⟨h0, h1⟩ | ⟨b, o, cap, e, l1, l2, hr⟩
  · exact .inl ⟨by simpa using h0, h1⟩
  · rw [List.length_map] at e l1
    refine .inr ⟨b, o, cap, e, l1, l2, ?_⟩
    clear e l1 l2
    clear hw
    induction l generalizing o with
    | nil => simp [Crow]
    | cons x l ih =>
      simp only [List.map_cons, RdRow] at hr
      obtain ⟨cs, h1, h2, h3⟩ := hr
      simp only [List.map_cons, Crow]
      exact ⟨cs, h1, hfg x (by simp) cs h2, ih (fun y hy => hfg y (by simp [hy])) _ h3⟩
theorem D.cc_len (d : D) : d.cc.length = 6 := by rw [D.cc_eq]; rfl
/-- A datum that is read, cell by cell. -/
theorem D.cc_of {r : World} (n : Nat) : ∀ (d : D) (cs : List Value), d.ht ≤ n → Rd r d.v cs → Ccs ⟨r, []⟩ d.cc cs := by
  induction n with
  | zero => intro d _ h; exact absurd h (by cases d; rw [D.ht]; omega)
  | succ n ih =>
    intro d cs hh h
    have hd : ∀ x ∈ d.l, x.ht ≤ n := fun x hx => by
      obtain ⟨i, hi, rfl⟩ := List.mem_iff_getElem.1 hx
      have := D.ht_lt hi; omega
    obtain ⟨am, cm, al, cl, e, hm, hl, -⟩ := IsD.open ⟨cs, rfl, h⟩
    have e' : cs = [.int .i64 d.k, .int .i32 d.c, .bool d.neg, .slice am d.mag.length cm, .string d.t, .slice al d.l.length cl] := by
      simpa using congrArg Array.toList (Value.agg.inj e)
    subst e'
    rw [D.cc_eq]
    have g1 : Cc ⟨r, []⟩ (.sl 1 (d.mag.map fun n => [.v (.int .u32 n)])) (.slice am d.mag.length cm) := Rd.sl_cc (fun x _ cs hx => by simp only [Rd] at hx; subst hx; simp [Ccs, Cc, Value.oneCell']) (fun _ => rfl) hm
    have g2 : Cc ⟨r, []⟩ (.sl 6 (d.l.map D.cc)) (.slice al d.l.length cl) := Rd.sl_cc (fun x hx cs hr => ih x cs (hd x hx) hr) D.cc_len hl
    simp only [Ccs]
    exact ⟨_, _, rfl, by simp [Cc, Value.oneCell'], _, _, rfl, by simp [Cc, Value.oneCell'], _, _, rfl, by simp [Cc, Value.oneCell'], _, _, rfl, g1, _, _, rfl, by simp [Cc, Value.oneCell'], _, _, rfl, g2, rfl⟩
theorem IsD.ca {r : World} {d : D} {v : Value} (h : IsD r d v) : Ca ⟨r, []⟩ (.agg d.cc) v := by
  obtain ⟨cs, rfl, h⟩ := h
  simp only [Ca]
  exact ⟨cs, rfl, D.cc_of d.ht d cs (Nat.le_refl _) h⟩
theorem IsDs.ca {r : World} {l : List D} {v : Value} (h : IsDs r l v) : Ca ⟨r, []⟩ (.one (.sl 6 (l.map D.cc))) v := by
  simp only [Ca]
  exact Rd.sl_cc (fun x _ cs hr => D.cc_of x.ht x cs (Nat.le_refl _) hr) D.cc_len h
theorem Cc.sl_rd {r : World} {α : Type} {f : α → V} {g : α → List C} {wd : Nat} {l : List α} {u : Value} (hfg : ∀ x ∈ l, ∀ (cs : List Value), Ccs ⟨r, []⟩ (g x) cs → Rd r (f x) cs) (h : Cc ⟨r, []⟩ (.sl wd (l.map g)) u) : Rd r (.sl (l.map f)) [u] := by
  simp only [Cc, List.length_map] at h
  simp only [Rd, List.length_map]
  refine ⟨u, rfl, ?_⟩
  rcases h with ⟨-, ⟨h0, h1⟩ | ⟨b, o, cap, e, l1, l2, hr⟩⟩
  · exact .inl ⟨by simpa using h0, h1⟩
  · refine .inr ⟨b, o, cap, e, l1, l2, ?_⟩
    clear e l1 l2
    induction l generalizing o with
    | nil => simp [RdRow]
    | cons x l ih =>
      simp only [List.map_cons, Crow] at hr
      obtain ⟨cs, h1, h2, h3⟩ := hr
      simp only [List.map_cons, RdRow]
      exact ⟨cs, h1, hfg x (by simp) cs h2, ih (fun y hy => hfg y (by simp [hy])) _ h3⟩
theorem D.of_cc {r : World} (n : Nat) : ∀ (d : D) (cs : List Value), d.ht ≤ n → Ccs ⟨r, []⟩ d.cc cs → Rd r d.v cs := by
  induction n with
  | zero => intro d _ h; exact absurd h (by cases d; rw [D.ht]; omega)
  | succ n ih =>
    intro d cs hh h
    have hd : ∀ x ∈ d.l, x.ht ≤ n := fun x hx => by
      obtain ⟨i, hi, rfl⟩ := List.mem_iff_getElem.1 hx
      have := D.ht_lt hi; omega
    rw [D.cc_eq] at h
    simp only [Ccs] at h
    obtain ⟨_, _, rfl, h0, _, _, rfl, h1, _, _, rfl, h2, vm, _, rfl, h3, _, _, rfl, h4, vl, _, rfl, h5, rfl⟩ := h
    simp only [Cc] at h0 h1 h2 h4
    rw [h0.1, h1.1, h2.1, h4.1]
    have g1 : IsMag r d.mag vm := Cc.sl_rd (f := fun n => V.val (.int .u32 n)) (fun x _ cs hx => by simp only [Ccs, Cc] at hx; obtain ⟨_, _, rfl, hx, rfl⟩ := hx; simp only [Rd]; rw [hx.1]) h3
    have g2 : IsDs r d.l vl := Cc.sl_rd (fun x hx cs hr => ih x cs (hd x hx) hr) h5
    have := IsD.mk' (d := d) g1 g2
    obtain ⟨cs', e, hr⟩ := this
    have : cs' = _ := (by simpa using (congrArg Array.toList (Value.agg.inj e)).symm : cs' = [_, _, _, _, _, _])
    subst this
    exact hr
theorem Ca.isD {r : World} {d : D} {v : Value} (h : Ca ⟨r, []⟩ (.agg d.cc) v) : IsD r d v := by
  simp only [Ca] at h
  obtain ⟨cs, rfl, h⟩ := h
  exact ⟨cs, rfl, D.of_cc d.ht d cs (Nat.le_refl _) h⟩
theorem Ca.isDs {r : World} {l : List D} {v : Value} (h : Ca ⟨r, []⟩ (.one (.sl 6 (l.map D.cc))) v) : IsDs r l v := by
  simp only [Ca] at h
  exact Cc.sl_rd (fun x _ cs hr => D.of_cc x.ht x cs (Nat.le_refl _) hr) h

theorem vis0 (w : World) : Keeps w (vis (fun _ => false) [] [] w) := fun p v h => by
  unfold vis
  rw [only_cell, if_pos (by simp [hidB])]; exact h
theorem Fr.ext {w w' : World} {S0 : Nat → Bool} (h : Fr S0 w w') (hs : ∀ b, S0 b = false) : Ext w w' := ⟨h.os, h.tape, h.output, h.size, fun b hb => h.block b hb (hs b)⟩
theorem Ext.fr {w w' : World} (S0 : Nat → Bool) (h : Ext w w') : Fr S0 w w' := ⟨h.os, h.tape, h.output, h.size, fun b hb _ => h.block b hb⟩
/-- Out of what is known: a contract in worlds, of one that answers a number, a text, a truth. -/
theorem Pure.calls {P : Program} {f : FuncId} {xs : List A} {u : Value} (h : Pure P f xs (.one (.v u))) {w : World} {vs : List Value} (hg : GL w) (hb : ∀ b, GB b = true → b < w.heap.size) (hv : Cas ⟨w, []⟩ xs vs) : Calls P f vs.toArray w fun e w' => e = .returned u ∧ Ext w w' := by
  refine (h (fun _ => false) [] w vs ⟨rfl, by simp, by simp, by simp, fun b hb => (by cases hb), fun b h => ⟨rfl, rfl, hb b h⟩, hg⟩ (Cas.keep (X := ⟨w, []⟩) (X' := ⟨vis (fun _ => false) [] [] w, []⟩) (vis0 w) (Up.refl _) hv)).mono fun e w' ⟨v, m', r, s', he, ⟨h1, h2⟩, _, hc, hf, _⟩ => ?_
  subst h1 h2
  simp only [Ca, Cc] at hc
  rw [hc.1] at he
  exact ⟨he, hf.ext fun _ => rfl⟩
/-- The other way round. -/
theorem pure_old {P : Program} {f : FuncId} {xs : List A} {r : A} (h : ∀ (w : World) (vs : List Value), GL w → Cas ⟨w, []⟩ xs vs → Calls P f vs.toArray w fun e w' => ∃ v, e = .returned v ∧ Ext w w' ∧ Ca ⟨since w' w.heap.size, []⟩ r v) : Pure P f xs r := fun H m w vs hs hc => by
  have hm : m = [] := by have := hs.len; simp at this; exact List.eq_nil_of_length_eq_zero (by omega)
  subst hm
  refine (h w vs hs.gl (Cas.keep (X := ⟨vis H [] [] w, []⟩) (X' := ⟨w, []⟩) (vis_keeps _ _ _ _) (Up.refl _) hc)).mono fun e w' ⟨v, he, hx, hr⟩ => ⟨v, [], r, [], he, ⟨rfl, rfl⟩, ⟨rfl, by simp, by simp, by simp, fun b hb => Nat.lt_of_lt_of_le (hs.hlt b hb) hx.le, fun b hb => ⟨(hs.gb b hb).1, rfl, Nat.lt_of_lt_of_le (hs.gb b hb).2.2 hx.le⟩, GL.stays (fun b hb => hx.block b (hs.gb b hb).2.2) hs.gl⟩, ?_, hx.fr _, Up.refl _, by simp⟩
  refine Ca.keep (X := ⟨since w' w.heap.size, []⟩) (X' := ⟨vis H [] [] w', []⟩) (Keeps.only fun b hp hb => ?_) (Up.refl _) hr
  simp only [decide_eq_true_eq] at hp
  refine ⟨?_, rfl⟩
  cases hH : H b with
  | false => simp [hidB]
  | true => have := hs.hlt b hH; omega
theorem pure_old_v {P : Program} {f : FuncId} {xs : List A} {u : Value} (hu : u.oneCell' = true) (h : ∀ (w : World) (vs : List Value), GL w → Cas ⟨w, []⟩ xs vs → Calls P f vs.toArray w fun e w' => e = .returned u ∧ Ext w w') : Pure P f xs (.one (.v u)) :=
  pure_old fun w vs hg hv => (h w vs hg hv).mono fun e w' ⟨he, hx⟩ => ⟨u, he, hx, caV hu⟩
theorem Cas.one1 {X : Cx} {x : A} {vs : List Value} (h : Cas X [x] vs) : ∃ v, vs = [v] ∧ Ca X x v := by
  simp only [Cas] at h
  obtain ⟨v, r, rfl, hv, rfl⟩ := h
  exact ⟨v, rfl, hv⟩
theorem Cas.two {X : Cx} {x y : A} {vs : List Value} (h : Cas X [x, y] vs) : ∃ v u, vs = [v, u] ∧ Ca X x v ∧ Ca X y u := by
  simp only [Cas] at h
  obtain ⟨v, r, rfl, hv, u, q, rfl, hu, rfl⟩ := h
  exact ⟨v, u, rfl, hv, hu⟩
end Go.Proofs.YtajjhhobfjjaeaaDoor
end

section
/-
  Contracts of functions whose answer is memory of its own.
-/
namespace Go.Proofs.YtajjhhobfjjaeaaDoor
open Go Go.RowKit
set_option linter.unusedSimpArgs false
set_option linter.unusedVariables false
/-- One that writes nothing, and whose answer is new memory. -/
def Made (P : Program) (f : FuncId) (xs : List A) (r : A) : Prop := ∀ (w : World) (vs : List Value), GL w → Cas ⟨w, []⟩ xs vs → Calls P f vs.toArray w fun e w' => ∃ v, e = .returned v ∧ Ext w w' ∧ Ca ⟨since w' w.heap.size, []⟩ r v
theorem Made.pure {P : Program} {f : FuncId} {xs : List A} {r : A} (h : Made P f xs r) : Pure P f xs r := pure_old h
theorem StoOk.hid_lt {H : Nat → Bool} {s : List (Option Ob)} {m : List Lo} {w : World} (hs : StoOk H s m w) {b : Nat} (hb : hidB s m b = true) : b < w.heap.size := by
  obtain ⟨i, ob, l, h1, h2, rfl⟩ := hidB_iff.1 hb
  obtain ⟨vs, rest, hm, -, -⟩ := (hs.ok i ob l h1 h2).mem
  exact (Array.getElem?_eq_some_iff.1 hm).1
theorem made_calls {P : Program} {f : FuncId} {xs xs' : List A} {p : Prop} {r : A} {H : Nat → Bool} {s : List (Option Ob)} {m : List Lo} {w : World} (hv : viewAs s xs = some (p, xs')) (hp : p) (hfn : Made P f xs' r) (hs : StoOk H s m w) (vs : List Value) (hvs : Cas ⟨vis H s m w, m⟩ xs vs) :
    Calls P f vs.toArray w fun e w' => ∃ v, e = .returned v ∧ Fr (fun _ => false) w w' ∧ Ca ⟨vis H s m w', m⟩ r v := by
  refine (hfn w vs hs.gl (Cas.keep (X := ⟨vis H [] [] w, []⟩) (X' := ⟨w, []⟩) (vis_keeps _ _ _ _) (Up.refl _) (viewAs_sound hs hv hp hvs))).mono fun e w' ⟨v, he, hx, hr⟩ => ⟨v, he, hx.fr _, ?_⟩
  refine Ca.keep (X := ⟨since w' w.heap.size, []⟩) (X' := ⟨vis H s m w', m⟩) (Keeps.only fun b hp hb => ?_) (fun i l h => by simp at h) hr
  simp only [decide_eq_true_eq] at hp
  refine ⟨?_, rfl⟩
  cases hH : H b with
  | true => have := hs.hlt b hH; omega
  | false =>
    cases hB : hidB s m b with
    | true => have := hs.hid_lt hB; omega
    | false => rfl
theorem CallA.made {P : Program} {nt : Cf} {st : St} {fo : Operand} {args : List Operand} {f : FuncId} {caps : List C} {xs xs' : List A} {K : A → Prop} {p : Prop} {r : A} (hf : rdA st.e fo = some (.one (.fn f caps))) (ha : rdAs st.e args = some xs) (hc : callable P f = true)
    (hv : viewAs st.s (xs ++ caps.map .one) = some (p, xs')) (hp : p) (hfn : Made P f xs' r) (hK : K r) : CallA P nt fo args st K :=
  ⟨f, caps, xs, hf, ha, hc, fun H w0 S0 m0 m a w hs vs hvs => (made_calls hv hp hfn hs.sto vs hvs).mono fun e w' ⟨v, he, h1, h2⟩ => ⟨v, r, he, hK, h1, h2⟩⟩
theorem OpS.made {P : Program} {nt : Cf} {ds : List (Option Tmp)} {e : List (Nat × A)} {s : List (Option Ob)} {d : Option Tmp} {ty : TypeId} {pos : String} {aft : Array Edge} {g : Option (Nat × Bool)} {fo : Operand} {args : List Operand} {tys : Array TypeId} {f : FuncId} {caps : List C} {xs xs' : List A} {p : Prop} {r : A} (hg : guardA ds e g = some true) (hf : rdA e fo = some (.one (.fn f caps))) (ha : rdAs e args = some xs) (hc : callable P f = true)
    (hv : viewAs s (xs ++ caps.map .one) = some (p, xs')) (hp : p) (hfn : Made P f xs' r) : OpS P nt ds ⟨d, .call { callee := .value fo, args := args.toArray, argTypes := tys }, ty, pos, aft, g⟩ e s r s :=
  OpS.call hg hf ha hc fun H w0 S0 m0 mm a w hs vs hvs => made_calls hv hp hfn hs.sto vs hvs
end Go.Proofs.YtajjhhobfjjaeaaDoor
end
