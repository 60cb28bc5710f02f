/- Facts on the types of the seat's program, each by the kernel. -/
import Derived.Test.YtkbcgcmklmelbaaDoorPlR
import Derived.Test.YtkbcgcmklmelbaaDoorRows
namespace Go.PL
open Go Go.RowKit Go.Proofs
set_option maxRecDepth 100000
theorem tsz2 : tsz Tryd.prog 2 = some (false, 1) := by kernel_rfl
theorem ikind2 : ikind Tryd.prog 2 = some .i64 := by kernel_rfl
theorem hasU2 : hasU Tryd.prog 2 = true := by kernel_rfl
theorem zeroL2 : zeroL Tryd.prog 2 = some [.int .i64 0] := by kernel_rfl
theorem tsz3 : tsz Tryd.prog 3 = some (false, 1) := by kernel_rfl
theorem ikind3 : ikind Tryd.prog 3 = some .i64 := by kernel_rfl
theorem hasU3 : hasU Tryd.prog 3 = true := by kernel_rfl
theorem zeroL3 : zeroL Tryd.prog 3 = some [.int .i64 0] := by kernel_rfl
theorem tsz4 : tsz Tryd.prog 4 = some (false, 1) := by kernel_rfl
theorem isBool4 : isBool Tryd.prog 4 = true := by kernel_rfl
theorem zeroL4 : zeroL Tryd.prog 4 = some [.bool false] := by kernel_rfl
theorem tsz5 : tsz Tryd.prog 5 = some (false, 1) := by kernel_rfl
theorem ikind5 : ikind Tryd.prog 5 = some .u8 := by kernel_rfl
theorem hasU5 : hasU Tryd.prog 5 = true := by kernel_rfl
theorem zeroL5 : zeroL Tryd.prog 5 = some [.int .u8 0] := by kernel_rfl
theorem tsz6 : tsz Tryd.prog 6 = some (false, 1) := by kernel_rfl
theorem ikind6 : ikind Tryd.prog 6 = some .u8 := by kernel_rfl
theorem hasU6 : hasU Tryd.prog 6 = true := by kernel_rfl
theorem zeroL6 : zeroL Tryd.prog 6 = some [.int .u8 0] := by kernel_rfl
theorem tsz7 : tsz Tryd.prog 7 = some (true, 4) := by kernel_rfl
theorem okPlc7 : okPlc Tryd.prog 7 = true := by kernel_rfl
theorem fld7_0 : fld Tryd.prog 7 0 = some (0, false, 1) := by kernel_rfl
theorem plc7_0 : plc Tryd.prog 7 0 = some (0, 1) := by kernel_rfl
theorem fld7_1 : fld Tryd.prog 7 1 = some (1, false, 1) := by kernel_rfl
theorem plc7_1 : plc Tryd.prog 7 1 = some (1, 1) := by kernel_rfl
theorem fld7_2 : fld Tryd.prog 7 2 = some (2, false, 1) := by kernel_rfl
theorem plc7_2 : plc Tryd.prog 7 2 = some (2, 1) := by kernel_rfl
theorem fld7_3 : fld Tryd.prog 7 3 = some (3, false, 1) := by kernel_rfl
theorem plc7_3 : plc Tryd.prog 7 3 = some (3, 1) := by kernel_rfl
theorem zeroL7 : zeroL Tryd.prog 7 = some [.int .i64 0, .int .i64 0, .bool false, .int .u8 0] := by kernel_rfl
theorem tsz8 : tsz Tryd.prog 8 = some (true, 4) := by kernel_rfl
theorem zeroL8 : zeroL Tryd.prog 8 = some [.int .i64 0, .int .i64 0, .bool false, .int .u8 0] := by kernel_rfl
theorem tsz9 : tsz Tryd.prog 9 = some (false, 1) := by kernel_rfl
theorem isStr9 : isStr Tryd.prog 9 = true := by kernel_rfl
theorem zeroL9 : zeroL Tryd.prog 9 = some [.str []] := by kernel_rfl
theorem tsz10 : tsz Tryd.prog 10 = some (false, 1) := by kernel_rfl
theorem isStr10 : isStr Tryd.prog 10 = true := by kernel_rfl
theorem zeroL10 : zeroL Tryd.prog 10 = some [.str []] := by kernel_rfl
theorem tsz11 : tsz Tryd.prog 11 = some (false, 1) := by kernel_rfl
theorem isStr11 : isStr Tryd.prog 11 = true := by kernel_rfl
theorem zeroL11 : zeroL Tryd.prog 11 = some [.str []] := by kernel_rfl
theorem tsz12 : tsz Tryd.prog 12 = some (false, 1) := by kernel_rfl
theorem ikind12 : ikind Tryd.prog 12 = some .u64 := by kernel_rfl
theorem hasU12 : hasU Tryd.prog 12 = true := by kernel_rfl
theorem zeroL12 : zeroL Tryd.prog 12 = some [.int .u64 0] := by kernel_rfl
theorem tsz13 : tsz Tryd.prog 13 = some (true, 2) := by kernel_rfl
theorem okPlc13 : okPlc Tryd.prog 13 = true := by kernel_rfl
theorem fld13_0 : fld Tryd.prog 13 0 = some (0, false, 1) := by kernel_rfl
theorem plc13_0 : plc Tryd.prog 13 0 = some (0, 1) := by kernel_rfl
theorem fld13_1 : fld Tryd.prog 13 1 = some (1, false, 1) := by kernel_rfl
theorem plc13_1 : plc Tryd.prog 13 1 = some (1, 1) := by kernel_rfl
theorem zeroL13 : zeroL Tryd.prog 13 = some [.str [], .int .u64 0] := by kernel_rfl
theorem tsz14 : tsz Tryd.prog 14 = some (true, 2) := by kernel_rfl
theorem zeroL14 : zeroL Tryd.prog 14 = some [.str [], .int .u64 0] := by kernel_rfl
theorem tsz15 : tsz Tryd.prog 15 = some (false, 1) := by kernel_rfl
theorem zeroL15 : zeroL Tryd.prog 15 = some [.nilp] := by kernel_rfl
theorem tsz16 : tsz Tryd.prog 16 = some (false, 1) := by kernel_rfl
theorem zeroL16 : zeroL Tryd.prog 16 = some [.nilp] := by kernel_rfl
theorem tsz17 : tsz Tryd.prog 17 = some (false, 1) := by kernel_rfl
theorem zeroL17 : zeroL Tryd.prog 17 = some [.nilp] := by kernel_rfl
theorem tsz18 : tsz Tryd.prog 18 = some (true, 1) := by kernel_rfl
theorem okPlc18 : okPlc Tryd.prog 18 = true := by kernel_rfl
theorem fld18_0 : fld Tryd.prog 18 0 = some (0, false, 1) := by kernel_rfl
theorem plc18_0 : plc Tryd.prog 18 0 = some (0, 1) := by kernel_rfl
theorem zeroL18 : zeroL Tryd.prog 18 = some [.nilp] := by kernel_rfl
theorem tsz19 : tsz Tryd.prog 19 = some (true, 1) := by kernel_rfl
theorem okPlc19 : okPlc Tryd.prog 19 = true := by kernel_rfl
theorem fld19_0 : fld Tryd.prog 19 0 = some (0, false, 1) := by kernel_rfl
theorem plc19_0 : plc Tryd.prog 19 0 = some (0, 1) := by kernel_rfl
theorem zeroL19 : zeroL Tryd.prog 19 = some [.nilp] := by kernel_rfl
theorem tsz21 : tsz Tryd.prog 21 = some (false, 1) := by kernel_rfl
theorem ikind21 : ikind Tryd.prog 21 = some .i32 := by kernel_rfl
theorem hasU21 : hasU Tryd.prog 21 = true := by kernel_rfl
theorem zeroL21 : zeroL Tryd.prog 21 = some [.int .i32 0] := by kernel_rfl
theorem tsz22 : tsz Tryd.prog 22 = some (false, 1) := by kernel_rfl
theorem selem22 : selem Tryd.prog 22 = some (3, 1) := by kernel_rfl
theorem isSlice22 : isSlice Tryd.prog 22 = true := by kernel_rfl
theorem selemB22 : selemB Tryd.prog 22 = some (3, 1, 8) := by kernel_rfl
theorem zeroL22 : zeroL Tryd.prog 22 = some [.sl 0 []] := by kernel_rfl
theorem tsz30 : tsz Tryd.prog 30 = some (true, 2) := by kernel_rfl
theorem okPlc30 : okPlc Tryd.prog 30 = true := by kernel_rfl
theorem fld30_0 : fld Tryd.prog 30 0 = some (0, false, 1) := by kernel_rfl
theorem plc30_0 : plc Tryd.prog 30 0 = some (0, 1) := by kernel_rfl
theorem fld30_1 : fld Tryd.prog 30 1 = some (1, false, 1) := by kernel_rfl
theorem plc30_1 : plc Tryd.prog 30 1 = some (1, 1) := by kernel_rfl
theorem zeroL30 : zeroL Tryd.prog 30 = some [.int .i64 0, .int .i64 0] := by kernel_rfl
theorem tsz31 : tsz Tryd.prog 31 = some (true, 2) := by kernel_rfl
theorem okPlc31 : okPlc Tryd.prog 31 = true := by kernel_rfl
theorem fld31_0 : fld Tryd.prog 31 0 = some (0, false, 1) := by kernel_rfl
theorem plc31_0 : plc Tryd.prog 31 0 = some (0, 1) := by kernel_rfl
theorem fld31_1 : fld Tryd.prog 31 1 = some (1, false, 1) := by kernel_rfl
theorem plc31_1 : plc Tryd.prog 31 1 = some (1, 1) := by kernel_rfl
theorem zeroL31 : zeroL Tryd.prog 31 = some [.int .i64 0, .int .i64 0] := by kernel_rfl
theorem tsz39 : tsz Tryd.prog 39 = some (false, 1) := by kernel_rfl
theorem zeroL39 : zeroL Tryd.prog 39 = some [.niface] := by kernel_rfl
theorem tsz43 : tsz Tryd.prog 43 = some (false, 1) := by kernel_rfl
theorem ikind43 : ikind Tryd.prog 43 = some .u64 := by kernel_rfl
theorem hasU43 : hasU Tryd.prog 43 = true := by kernel_rfl
theorem zeroL43 : zeroL Tryd.prog 43 = some [.int .u64 0] := by kernel_rfl
theorem tsz45 : tsz Tryd.prog 45 = some (false, 1) := by kernel_rfl
theorem selem45 : selem Tryd.prog 45 = some (5, 1) := by kernel_rfl
theorem isSlice45 : isSlice Tryd.prog 45 = true := by kernel_rfl
theorem selemB45 : selemB Tryd.prog 45 = some (5, 1, 1) := by kernel_rfl
theorem isBytes45 : isByteSlice Tryd.prog 45 = true := by kernel_rfl
theorem zeroL45 : zeroL Tryd.prog 45 = some [.sl 0 []] := by kernel_rfl
theorem tsz46 : tsz Tryd.prog 46 = some (false, 1) := by kernel_rfl
theorem ikind46 : ikind Tryd.prog 46 = some .i64 := by kernel_rfl
theorem hasU46 : hasU Tryd.prog 46 = true := by kernel_rfl
theorem zeroL46 : zeroL Tryd.prog 46 = some [.int .i64 0] := by kernel_rfl
theorem tsz49 : tsz Tryd.prog 49 = some (false, 1) := by kernel_rfl
theorem zeroL49 : zeroL Tryd.prog 49 = some [.nilp] := by kernel_rfl
theorem tsz55 : tsz Tryd.prog 55 = some (false, 1) := by kernel_rfl
theorem ikind55 : ikind Tryd.prog 55 = some .u64 := by kernel_rfl
theorem hasU55 : hasU Tryd.prog 55 = true := by kernel_rfl
theorem zeroL55 : zeroL Tryd.prog 55 = some [.int .u64 0] := by kernel_rfl
theorem tsz57 : tsz Tryd.prog 57 = some (true, 3) := by kernel_rfl
theorem okPlc57 : okPlc Tryd.prog 57 = true := by kernel_rfl
theorem fld57_0 : fld Tryd.prog 57 0 = some (0, false, 1) := by kernel_rfl
theorem plc57_0 : plc Tryd.prog 57 0 = some (0, 1) := by kernel_rfl
theorem fld57_1 : fld Tryd.prog 57 1 = some (1, false, 1) := by kernel_rfl
theorem plc57_1 : plc Tryd.prog 57 1 = some (1, 1) := by kernel_rfl
theorem fld57_2 : fld Tryd.prog 57 2 = some (2, false, 1) := by kernel_rfl
theorem plc57_2 : plc Tryd.prog 57 2 = some (2, 1) := by kernel_rfl
theorem zeroL57 : zeroL Tryd.prog 57 = some [.str [], .str [], .niface] := by kernel_rfl
theorem tsz58 : tsz Tryd.prog 58 = some (true, 3) := by kernel_rfl
theorem okPlc58 : okPlc Tryd.prog 58 = true := by kernel_rfl
theorem fld58_0 : fld Tryd.prog 58 0 = some (0, false, 1) := by kernel_rfl
theorem plc58_0 : plc Tryd.prog 58 0 = some (0, 1) := by kernel_rfl
theorem fld58_1 : fld Tryd.prog 58 1 = some (1, false, 1) := by kernel_rfl
theorem plc58_1 : plc Tryd.prog 58 1 = some (1, 1) := by kernel_rfl
theorem fld58_2 : fld Tryd.prog 58 2 = some (2, false, 1) := by kernel_rfl
theorem plc58_2 : plc Tryd.prog 58 2 = some (2, 1) := by kernel_rfl
theorem zeroL58 : zeroL Tryd.prog 58 = some [.str [], .str [], .niface] := by kernel_rfl
theorem tsz60 : tsz Tryd.prog 60 = some (true, 24) := by kernel_rfl
theorem aelem60 : aelem Tryd.prog 60 = some (24, 5, 1) := by kernel_rfl
theorem okPlc60 : okPlc Tryd.prog 60 = true := by kernel_rfl
theorem plc60_0 : plc Tryd.prog 60 0 = some (0, 1) := by kernel_rfl
theorem plc60_1 : plc Tryd.prog 60 1 = some (1, 1) := by kernel_rfl
theorem plc60_2 : plc Tryd.prog 60 2 = some (2, 1) := by kernel_rfl
theorem plc60_3 : plc Tryd.prog 60 3 = some (3, 1) := by kernel_rfl
theorem plc60_4 : plc Tryd.prog 60 4 = some (4, 1) := by kernel_rfl
theorem plc60_5 : plc Tryd.prog 60 5 = some (5, 1) := by kernel_rfl
theorem plc60_6 : plc Tryd.prog 60 6 = some (6, 1) := by kernel_rfl
theorem plc60_7 : plc Tryd.prog 60 7 = some (7, 1) := by kernel_rfl
theorem plc60_8 : plc Tryd.prog 60 8 = some (8, 1) := by kernel_rfl
theorem plc60_9 : plc Tryd.prog 60 9 = some (9, 1) := by kernel_rfl
theorem plc60_10 : plc Tryd.prog 60 10 = some (10, 1) := by kernel_rfl
theorem plc60_11 : plc Tryd.prog 60 11 = some (11, 1) := by kernel_rfl
theorem plc60_12 : plc Tryd.prog 60 12 = some (12, 1) := by kernel_rfl
theorem plc60_13 : plc Tryd.prog 60 13 = some (13, 1) := by kernel_rfl
theorem plc60_14 : plc Tryd.prog 60 14 = some (14, 1) := by kernel_rfl
theorem plc60_15 : plc Tryd.prog 60 15 = some (15, 1) := by kernel_rfl
theorem plc60_16 : plc Tryd.prog 60 16 = some (16, 1) := by kernel_rfl
theorem plc60_17 : plc Tryd.prog 60 17 = some (17, 1) := by kernel_rfl
theorem plc60_18 : plc Tryd.prog 60 18 = some (18, 1) := by kernel_rfl
theorem plc60_19 : plc Tryd.prog 60 19 = some (19, 1) := by kernel_rfl
theorem plc60_20 : plc Tryd.prog 60 20 = some (20, 1) := by kernel_rfl
theorem plc60_21 : plc Tryd.prog 60 21 = some (21, 1) := by kernel_rfl
theorem plc60_22 : plc Tryd.prog 60 22 = some (22, 1) := by kernel_rfl
theorem plc60_23 : plc Tryd.prog 60 23 = some (23, 1) := by kernel_rfl
theorem zeroL60 : zeroL Tryd.prog 60 = some [.int .u8 0, .int .u8 0, .int .u8 0, .int .u8 0, .int .u8 0, .int .u8 0, .int .u8 0, .int .u8 0, .int .u8 0, .int .u8 0, .int .u8 0, .int .u8 0, .int .u8 0, .int .u8 0, .int .u8 0, .int .u8 0, .int .u8 0, .int .u8 0, .int .u8 0, .int .u8 0, .int .u8 0, .int .u8 0, .int .u8 0, .int .u8 0] := by kernel_rfl
theorem tsz67 : tsz Tryd.prog 67 = some (false, 1) := by kernel_rfl
theorem zeroL67 : zeroL Tryd.prog 67 = some [.nilp] := by kernel_rfl
theorem tsz68 : tsz Tryd.prog 68 = some (false, 1) := by kernel_rfl
theorem zeroL68 : zeroL Tryd.prog 68 = some [.nilp] := by kernel_rfl
theorem tsz69 : tsz Tryd.prog 69 = some (true, 1) := by kernel_rfl
theorem okPlc69 : okPlc Tryd.prog 69 = true := by kernel_rfl
theorem fld69_0 : fld Tryd.prog 69 0 = some (0, false, 1) := by kernel_rfl
theorem plc69_0 : plc Tryd.prog 69 0 = some (0, 1) := by kernel_rfl
theorem zeroL69 : zeroL Tryd.prog 69 = some [.str []] := by kernel_rfl
theorem tsz70 : tsz Tryd.prog 70 = some (true, 1) := by kernel_rfl
theorem okPlc70 : okPlc Tryd.prog 70 = true := by kernel_rfl
theorem fld70_0 : fld Tryd.prog 70 0 = some (0, false, 1) := by kernel_rfl
theorem plc70_0 : plc Tryd.prog 70 0 = some (0, 1) := by kernel_rfl
theorem zeroL70 : zeroL Tryd.prog 70 = some [.str []] := by kernel_rfl
theorem tsz72 : tsz Tryd.prog 72 = some (true, 20) := by kernel_rfl
theorem aelem72 : aelem Tryd.prog 72 = some (20, 43, 1) := by kernel_rfl
theorem okPlc72 : okPlc Tryd.prog 72 = true := by kernel_rfl
theorem plc72_0 : plc Tryd.prog 72 0 = some (0, 1) := by kernel_rfl
theorem plc72_1 : plc Tryd.prog 72 1 = some (1, 1) := by kernel_rfl
theorem plc72_2 : plc Tryd.prog 72 2 = some (2, 1) := by kernel_rfl
theorem plc72_3 : plc Tryd.prog 72 3 = some (3, 1) := by kernel_rfl
theorem plc72_4 : plc Tryd.prog 72 4 = some (4, 1) := by kernel_rfl
theorem plc72_5 : plc Tryd.prog 72 5 = some (5, 1) := by kernel_rfl
theorem plc72_6 : plc Tryd.prog 72 6 = some (6, 1) := by kernel_rfl
theorem plc72_7 : plc Tryd.prog 72 7 = some (7, 1) := by kernel_rfl
theorem plc72_8 : plc Tryd.prog 72 8 = some (8, 1) := by kernel_rfl
theorem plc72_9 : plc Tryd.prog 72 9 = some (9, 1) := by kernel_rfl
theorem plc72_10 : plc Tryd.prog 72 10 = some (10, 1) := by kernel_rfl
theorem plc72_11 : plc Tryd.prog 72 11 = some (11, 1) := by kernel_rfl
theorem plc72_12 : plc Tryd.prog 72 12 = some (12, 1) := by kernel_rfl
theorem plc72_13 : plc Tryd.prog 72 13 = some (13, 1) := by kernel_rfl
theorem plc72_14 : plc Tryd.prog 72 14 = some (14, 1) := by kernel_rfl
theorem plc72_15 : plc Tryd.prog 72 15 = some (15, 1) := by kernel_rfl
theorem plc72_16 : plc Tryd.prog 72 16 = some (16, 1) := by kernel_rfl
theorem plc72_17 : plc Tryd.prog 72 17 = some (17, 1) := by kernel_rfl
theorem plc72_18 : plc Tryd.prog 72 18 = some (18, 1) := by kernel_rfl
theorem plc72_19 : plc Tryd.prog 72 19 = some (19, 1) := by kernel_rfl
theorem zeroL72 : zeroL Tryd.prog 72 = some [.int .u64 0, .int .u64 0, .int .u64 0, .int .u64 0, .int .u64 0, .int .u64 0, .int .u64 0, .int .u64 0, .int .u64 0, .int .u64 0, .int .u64 0, .int .u64 0, .int .u64 0, .int .u64 0, .int .u64 0, .int .u64 0, .int .u64 0, .int .u64 0, .int .u64 0, .int .u64 0] := by kernel_rfl
theorem tsz73 : tsz Tryd.prog 73 = some (false, 1) := by kernel_rfl
theorem ikind73 : ikind Tryd.prog 73 = some .u32 := by kernel_rfl
theorem hasU73 : hasU Tryd.prog 73 = true := by kernel_rfl
theorem zeroL73 : zeroL Tryd.prog 73 = some [.int .u32 0] := by kernel_rfl
theorem tsz74 : tsz Tryd.prog 74 = some (true, 65) := by kernel_rfl
theorem zeroL74 : zeroL Tryd.prog 74 = some [.int .u8 0, .int .u8 0, .int .u8 0, .int .u8 0, .int .u8 0, .int .u8 0, .int .u8 0, .int .u8 0, .int .u8 0, .int .u8 0, .int .u8 0, .int .u8 0, .int .u8 0, .int .u8 0, .int .u8 0, .int .u8 0, .int .u8 0, .int .u8 0, .int .u8 0, .int .u8 0, .int .u8 0, .int .u8 0, .int .u8 0, .int .u8 0, .int .u8 0, .int .u8 0, .int .u8 0, .int .u8 0, .int .u8 0, .int .u8 0, .int .u8 0, .int .u8 0, .int .u8 0, .int .u8 0, .int .u8 0, .int .u8 0, .int .u8 0, .int .u8 0, .int .u8 0, .int .u8 0, .int .u8 0, .int .u8 0, .int .u8 0, .int .u8 0, .int .u8 0, .int .u8 0, .int .u8 0, .int .u8 0, .int .u8 0, .int .u8 0, .int .u8 0, .int .u8 0, .int .u8 0, .int .u8 0, .int .u8 0, .int .u8 0, .int .u8 0, .int .u8 0, .int .u8 0, .int .u8 0, .int .u8 0, .int .u8 0, .int .u8 0, .int .u8 0, .int .u8 0] := by kernel_rfl
theorem tsz77 : tsz Tryd.prog 77 = some (true, 32) := by kernel_rfl
theorem aelem77 : aelem Tryd.prog 77 = some (32, 5, 1) := by kernel_rfl
theorem okPlc77 : okPlc Tryd.prog 77 = true := by kernel_rfl
theorem plc77_0 : plc Tryd.prog 77 0 = some (0, 1) := by kernel_rfl
theorem plc77_1 : plc Tryd.prog 77 1 = some (1, 1) := by kernel_rfl
theorem plc77_2 : plc Tryd.prog 77 2 = some (2, 1) := by kernel_rfl
theorem plc77_3 : plc Tryd.prog 77 3 = some (3, 1) := by kernel_rfl
theorem plc77_4 : plc Tryd.prog 77 4 = some (4, 1) := by kernel_rfl
theorem plc77_5 : plc Tryd.prog 77 5 = some (5, 1) := by kernel_rfl
theorem plc77_6 : plc Tryd.prog 77 6 = some (6, 1) := by kernel_rfl
theorem plc77_7 : plc Tryd.prog 77 7 = some (7, 1) := by kernel_rfl
theorem plc77_8 : plc Tryd.prog 77 8 = some (8, 1) := by kernel_rfl
theorem plc77_9 : plc Tryd.prog 77 9 = some (9, 1) := by kernel_rfl
theorem plc77_10 : plc Tryd.prog 77 10 = some (10, 1) := by kernel_rfl
theorem plc77_11 : plc Tryd.prog 77 11 = some (11, 1) := by kernel_rfl
theorem plc77_12 : plc Tryd.prog 77 12 = some (12, 1) := by kernel_rfl
theorem plc77_13 : plc Tryd.prog 77 13 = some (13, 1) := by kernel_rfl
theorem plc77_14 : plc Tryd.prog 77 14 = some (14, 1) := by kernel_rfl
theorem plc77_15 : plc Tryd.prog 77 15 = some (15, 1) := by kernel_rfl
theorem plc77_16 : plc Tryd.prog 77 16 = some (16, 1) := by kernel_rfl
theorem plc77_17 : plc Tryd.prog 77 17 = some (17, 1) := by kernel_rfl
theorem plc77_18 : plc Tryd.prog 77 18 = some (18, 1) := by kernel_rfl
theorem plc77_19 : plc Tryd.prog 77 19 = some (19, 1) := by kernel_rfl
theorem plc77_20 : plc Tryd.prog 77 20 = some (20, 1) := by kernel_rfl
theorem plc77_21 : plc Tryd.prog 77 21 = some (21, 1) := by kernel_rfl
theorem plc77_22 : plc Tryd.prog 77 22 = some (22, 1) := by kernel_rfl
theorem plc77_23 : plc Tryd.prog 77 23 = some (23, 1) := by kernel_rfl
theorem plc77_24 : plc Tryd.prog 77 24 = some (24, 1) := by kernel_rfl
theorem plc77_25 : plc Tryd.prog 77 25 = some (25, 1) := by kernel_rfl
theorem plc77_26 : plc Tryd.prog 77 26 = some (26, 1) := by kernel_rfl
theorem plc77_27 : plc Tryd.prog 77 27 = some (27, 1) := by kernel_rfl
theorem plc77_28 : plc Tryd.prog 77 28 = some (28, 1) := by kernel_rfl
theorem plc77_29 : plc Tryd.prog 77 29 = some (29, 1) := by kernel_rfl
theorem plc77_30 : plc Tryd.prog 77 30 = some (30, 1) := by kernel_rfl
theorem plc77_31 : plc Tryd.prog 77 31 = some (31, 1) := by kernel_rfl
theorem zeroL77 : zeroL Tryd.prog 77 = some [.int .u8 0, .int .u8 0, .int .u8 0, .int .u8 0, .int .u8 0, .int .u8 0, .int .u8 0, .int .u8 0, .int .u8 0, .int .u8 0, .int .u8 0, .int .u8 0, .int .u8 0, .int .u8 0, .int .u8 0, .int .u8 0, .int .u8 0, .int .u8 0, .int .u8 0, .int .u8 0, .int .u8 0, .int .u8 0, .int .u8 0, .int .u8 0, .int .u8 0, .int .u8 0, .int .u8 0, .int .u8 0, .int .u8 0, .int .u8 0, .int .u8 0, .int .u8 0] := by kernel_rfl
theorem tsz78 : tsz Tryd.prog 78 = some (true, 64) := by kernel_rfl
theorem aelem78 : aelem Tryd.prog 78 = some (64, 5, 1) := by kernel_rfl
theorem okPlc78 : okPlc Tryd.prog 78 = true := by kernel_rfl
theorem plc78_0 : plc Tryd.prog 78 0 = some (0, 1) := by kernel_rfl
theorem plc78_1 : plc Tryd.prog 78 1 = some (1, 1) := by kernel_rfl
theorem plc78_2 : plc Tryd.prog 78 2 = some (2, 1) := by kernel_rfl
theorem plc78_3 : plc Tryd.prog 78 3 = some (3, 1) := by kernel_rfl
theorem plc78_4 : plc Tryd.prog 78 4 = some (4, 1) := by kernel_rfl
theorem plc78_5 : plc Tryd.prog 78 5 = some (5, 1) := by kernel_rfl
theorem plc78_6 : plc Tryd.prog 78 6 = some (6, 1) := by kernel_rfl
theorem plc78_7 : plc Tryd.prog 78 7 = some (7, 1) := by kernel_rfl
theorem plc78_8 : plc Tryd.prog 78 8 = some (8, 1) := by kernel_rfl
theorem plc78_9 : plc Tryd.prog 78 9 = some (9, 1) := by kernel_rfl
theorem plc78_10 : plc Tryd.prog 78 10 = some (10, 1) := by kernel_rfl
theorem plc78_11 : plc Tryd.prog 78 11 = some (11, 1) := by kernel_rfl
theorem plc78_12 : plc Tryd.prog 78 12 = some (12, 1) := by kernel_rfl
theorem plc78_13 : plc Tryd.prog 78 13 = some (13, 1) := by kernel_rfl
theorem plc78_14 : plc Tryd.prog 78 14 = some (14, 1) := by kernel_rfl
theorem plc78_15 : plc Tryd.prog 78 15 = some (15, 1) := by kernel_rfl
theorem plc78_16 : plc Tryd.prog 78 16 = some (16, 1) := by kernel_rfl
theorem plc78_17 : plc Tryd.prog 78 17 = some (17, 1) := by kernel_rfl
theorem plc78_18 : plc Tryd.prog 78 18 = some (18, 1) := by kernel_rfl
theorem plc78_19 : plc Tryd.prog 78 19 = some (19, 1) := by kernel_rfl
theorem plc78_20 : plc Tryd.prog 78 20 = some (20, 1) := by kernel_rfl
theorem plc78_21 : plc Tryd.prog 78 21 = some (21, 1) := by kernel_rfl
theorem plc78_22 : plc Tryd.prog 78 22 = some (22, 1) := by kernel_rfl
theorem plc78_23 : plc Tryd.prog 78 23 = some (23, 1) := by kernel_rfl
theorem plc78_24 : plc Tryd.prog 78 24 = some (24, 1) := by kernel_rfl
theorem plc78_25 : plc Tryd.prog 78 25 = some (25, 1) := by kernel_rfl
theorem plc78_26 : plc Tryd.prog 78 26 = some (26, 1) := by kernel_rfl
theorem plc78_27 : plc Tryd.prog 78 27 = some (27, 1) := by kernel_rfl
theorem plc78_28 : plc Tryd.prog 78 28 = some (28, 1) := by kernel_rfl
theorem plc78_29 : plc Tryd.prog 78 29 = some (29, 1) := by kernel_rfl
theorem plc78_30 : plc Tryd.prog 78 30 = some (30, 1) := by kernel_rfl
theorem plc78_31 : plc Tryd.prog 78 31 = some (31, 1) := by kernel_rfl
theorem plc78_32 : plc Tryd.prog 78 32 = some (32, 1) := by kernel_rfl
theorem plc78_33 : plc Tryd.prog 78 33 = some (33, 1) := by kernel_rfl
theorem plc78_34 : plc Tryd.prog 78 34 = some (34, 1) := by kernel_rfl
theorem plc78_35 : plc Tryd.prog 78 35 = some (35, 1) := by kernel_rfl
theorem plc78_36 : plc Tryd.prog 78 36 = some (36, 1) := by kernel_rfl
theorem plc78_37 : plc Tryd.prog 78 37 = some (37, 1) := by kernel_rfl
theorem plc78_38 : plc Tryd.prog 78 38 = some (38, 1) := by kernel_rfl
theorem plc78_39 : plc Tryd.prog 78 39 = some (39, 1) := by kernel_rfl
theorem plc78_40 : plc Tryd.prog 78 40 = some (40, 1) := by kernel_rfl
theorem plc78_41 : plc Tryd.prog 78 41 = some (41, 1) := by kernel_rfl
theorem plc78_42 : plc Tryd.prog 78 42 = some (42, 1) := by kernel_rfl
theorem plc78_43 : plc Tryd.prog 78 43 = some (43, 1) := by kernel_rfl
theorem plc78_44 : plc Tryd.prog 78 44 = some (44, 1) := by kernel_rfl
theorem plc78_45 : plc Tryd.prog 78 45 = some (45, 1) := by kernel_rfl
theorem plc78_46 : plc Tryd.prog 78 46 = some (46, 1) := by kernel_rfl
theorem plc78_47 : plc Tryd.prog 78 47 = some (47, 1) := by kernel_rfl
theorem plc78_48 : plc Tryd.prog 78 48 = some (48, 1) := by kernel_rfl
theorem plc78_49 : plc Tryd.prog 78 49 = some (49, 1) := by kernel_rfl
theorem plc78_50 : plc Tryd.prog 78 50 = some (50, 1) := by kernel_rfl
theorem plc78_51 : plc Tryd.prog 78 51 = some (51, 1) := by kernel_rfl
theorem plc78_52 : plc Tryd.prog 78 52 = some (52, 1) := by kernel_rfl
theorem plc78_53 : plc Tryd.prog 78 53 = some (53, 1) := by kernel_rfl
theorem plc78_54 : plc Tryd.prog 78 54 = some (54, 1) := by kernel_rfl
theorem plc78_55 : plc Tryd.prog 78 55 = some (55, 1) := by kernel_rfl
theorem plc78_56 : plc Tryd.prog 78 56 = some (56, 1) := by kernel_rfl
theorem plc78_57 : plc Tryd.prog 78 57 = some (57, 1) := by kernel_rfl
theorem plc78_58 : plc Tryd.prog 78 58 = some (58, 1) := by kernel_rfl
theorem plc78_59 : plc Tryd.prog 78 59 = some (59, 1) := by kernel_rfl
theorem plc78_60 : plc Tryd.prog 78 60 = some (60, 1) := by kernel_rfl
theorem plc78_61 : plc Tryd.prog 78 61 = some (61, 1) := by kernel_rfl
theorem plc78_62 : plc Tryd.prog 78 62 = some (62, 1) := by kernel_rfl
theorem plc78_63 : plc Tryd.prog 78 63 = some (63, 1) := by kernel_rfl
theorem zeroL78 : zeroL Tryd.prog 78 = some [.int .u8 0, .int .u8 0, .int .u8 0, .int .u8 0, .int .u8 0, .int .u8 0, .int .u8 0, .int .u8 0, .int .u8 0, .int .u8 0, .int .u8 0, .int .u8 0, .int .u8 0, .int .u8 0, .int .u8 0, .int .u8 0, .int .u8 0, .int .u8 0, .int .u8 0, .int .u8 0, .int .u8 0, .int .u8 0, .int .u8 0, .int .u8 0, .int .u8 0, .int .u8 0, .int .u8 0, .int .u8 0, .int .u8 0, .int .u8 0, .int .u8 0, .int .u8 0, .int .u8 0, .int .u8 0, .int .u8 0, .int .u8 0, .int .u8 0, .int .u8 0, .int .u8 0, .int .u8 0, .int .u8 0, .int .u8 0, .int .u8 0, .int .u8 0, .int .u8 0, .int .u8 0, .int .u8 0, .int .u8 0, .int .u8 0, .int .u8 0, .int .u8 0, .int .u8 0, .int .u8 0, .int .u8 0, .int .u8 0, .int .u8 0, .int .u8 0, .int .u8 0, .int .u8 0, .int .u8 0, .int .u8 0, .int .u8 0, .int .u8 0, .int .u8 0] := by kernel_rfl
theorem tsz80 : tsz Tryd.prog 80 = some (true, 4) := by kernel_rfl
theorem okPlc80 : okPlc Tryd.prog 80 = true := by kernel_rfl
theorem fld80_0 : fld Tryd.prog 80 0 = some (0, false, 1) := by kernel_rfl
theorem plc80_0 : plc Tryd.prog 80 0 = some (0, 1) := by kernel_rfl
theorem fld80_1 : fld Tryd.prog 80 1 = some (1, false, 1) := by kernel_rfl
theorem plc80_1 : plc Tryd.prog 80 1 = some (1, 1) := by kernel_rfl
theorem fld80_2 : fld Tryd.prog 80 2 = some (2, false, 1) := by kernel_rfl
theorem plc80_2 : plc Tryd.prog 80 2 = some (2, 1) := by kernel_rfl
theorem fld80_3 : fld Tryd.prog 80 3 = some (3, false, 1) := by kernel_rfl
theorem plc80_3 : plc Tryd.prog 80 3 = some (3, 1) := by kernel_rfl
theorem zeroL80 : zeroL Tryd.prog 80 = some [.nilp, .nilp, .nilp, .str []] := by kernel_rfl
theorem tsz81 : tsz Tryd.prog 81 = some (true, 4) := by kernel_rfl
theorem zeroL81 : zeroL Tryd.prog 81 = some [.nilp, .nilp, .nilp, .str []] := by kernel_rfl
theorem tsz82 : tsz Tryd.prog 82 = some (true, 0) := by kernel_rfl
theorem aelem82 : aelem Tryd.prog 82 = some (0, 16, 1) := by kernel_rfl
theorem okPlc82 : okPlc Tryd.prog 82 = true := by kernel_rfl
theorem zeroL82 : zeroL Tryd.prog 82 = some [] := by kernel_rfl
theorem tsz83 : tsz Tryd.prog 83 = some (true, 0) := by kernel_rfl
theorem okPlc83 : okPlc Tryd.prog 83 = true := by kernel_rfl
theorem fld83_0 : fld Tryd.prog 83 0 = some (0, true, 0) := by kernel_rfl
theorem plc83_0 : plc Tryd.prog 83 0 = some (0, 0) := by kernel_rfl
theorem zeroL83 : zeroL Tryd.prog 83 = some [] := by kernel_rfl
theorem tsz84 : tsz Tryd.prog 84 = some (true, 0) := by kernel_rfl
theorem zeroL84 : zeroL Tryd.prog 84 = some [] := by kernel_rfl
theorem tsz86 : tsz Tryd.prog 86 = some (false, 1) := by kernel_rfl
theorem ikind86 : ikind Tryd.prog 86 = some .u8 := by kernel_rfl
theorem hasU86 : hasU Tryd.prog 86 = true := by kernel_rfl
theorem zeroL86 : zeroL Tryd.prog 86 = some [.int .u8 0] := by kernel_rfl
theorem tsz87 : tsz Tryd.prog 87 = some (false, 1) := by kernel_rfl
theorem ikind87 : ikind Tryd.prog 87 = some .u8 := by kernel_rfl
theorem hasU87 : hasU Tryd.prog 87 = true := by kernel_rfl
theorem zeroL87 : zeroL Tryd.prog 87 = some [.int .u8 0] := by kernel_rfl
theorem tsz89 : tsz Tryd.prog 89 = some (false, 1) := by kernel_rfl
theorem ikind89 : ikind Tryd.prog 89 = some .i32 := by kernel_rfl
theorem hasU89 : hasU Tryd.prog 89 = true := by kernel_rfl
theorem zeroL89 : zeroL Tryd.prog 89 = some [.int .i32 0] := by kernel_rfl
theorem tsz90 : tsz Tryd.prog 90 = some (false, 1) := by kernel_rfl
theorem ikind90 : ikind Tryd.prog 90 = some .i32 := by kernel_rfl
theorem hasU90 : hasU Tryd.prog 90 = true := by kernel_rfl
theorem zeroL90 : zeroL Tryd.prog 90 = some [.int .i32 0] := by kernel_rfl
theorem tsz91 : tsz Tryd.prog 91 = some (true, 11) := by kernel_rfl
theorem tsz92 : tsz Tryd.prog 92 = some (true, 11) := by kernel_rfl
theorem tsz93 : tsz Tryd.prog 93 = some (false, 1) := by kernel_rfl
theorem zeroL93 : zeroL Tryd.prog 93 = some [.nilp] := by kernel_rfl
attribute [go_sem] tsz2 ikind2 hasU2 zeroL2 tsz3 ikind3 hasU3 zeroL3 tsz4 isBool4 zeroL4 tsz5 ikind5 hasU5 zeroL5 tsz6 ikind6 hasU6 zeroL6 tsz7
  okPlc7 fld7_0 plc7_0 fld7_1 plc7_1 fld7_2 plc7_2 fld7_3 plc7_3 zeroL7 tsz8 zeroL8 tsz9 isStr9 zeroL9 tsz10 isStr10 zeroL10 tsz11 isStr11
  zeroL11 tsz12 ikind12 hasU12 zeroL12 tsz13 okPlc13 fld13_0 plc13_0 fld13_1 plc13_1 zeroL13 tsz14 zeroL14 tsz15 zeroL15 tsz16 zeroL16 tsz17 zeroL17
  tsz18 okPlc18 fld18_0 plc18_0 zeroL18 tsz19 okPlc19 fld19_0 plc19_0 zeroL19 tsz21 ikind21 hasU21 zeroL21 tsz22 selem22 isSlice22 selemB22 zeroL22 tsz30
  okPlc30 fld30_0 plc30_0 fld30_1 plc30_1 zeroL30 tsz31 okPlc31 fld31_0 plc31_0 fld31_1 plc31_1 zeroL31 tsz39 zeroL39 tsz43 ikind43 hasU43 zeroL43 tsz45
  selem45 isSlice45 selemB45 isBytes45 zeroL45 tsz46 ikind46 hasU46 zeroL46 tsz49 zeroL49 tsz55 ikind55 hasU55 zeroL55 tsz57 okPlc57 fld57_0 plc57_0 fld57_1
  plc57_1 fld57_2 plc57_2 zeroL57 tsz58 okPlc58 fld58_0 plc58_0 fld58_1 plc58_1 fld58_2 plc58_2 zeroL58 tsz60 aelem60 okPlc60 plc60_0 plc60_1 plc60_2 plc60_3
  plc60_4 plc60_5 plc60_6 plc60_7 plc60_8 plc60_9 plc60_10 plc60_11 plc60_12 plc60_13 plc60_14 plc60_15 plc60_16 plc60_17 plc60_18 plc60_19 plc60_20 plc60_21 plc60_22 plc60_23
  zeroL60 tsz67 zeroL67 tsz68 zeroL68 tsz69 okPlc69 fld69_0 plc69_0 zeroL69 tsz70 okPlc70 fld70_0 plc70_0 zeroL70 tsz72 aelem72 okPlc72 plc72_0 plc72_1
  plc72_2 plc72_3 plc72_4 plc72_5 plc72_6 plc72_7 plc72_8 plc72_9 plc72_10 plc72_11 plc72_12 plc72_13 plc72_14 plc72_15 plc72_16 plc72_17 plc72_18 plc72_19 zeroL72 tsz73
  ikind73 hasU73 zeroL73 tsz74 zeroL74 tsz77 aelem77 okPlc77 plc77_0 plc77_1 plc77_2 plc77_3 plc77_4 plc77_5 plc77_6 plc77_7 plc77_8 plc77_9 plc77_10 plc77_11
  plc77_12 plc77_13 plc77_14 plc77_15 plc77_16 plc77_17 plc77_18 plc77_19 plc77_20 plc77_21 plc77_22 plc77_23 plc77_24 plc77_25 plc77_26 plc77_27 plc77_28 plc77_29 plc77_30 plc77_31
  zeroL77 tsz78 aelem78 okPlc78 plc78_0 plc78_1 plc78_2 plc78_3 plc78_4 plc78_5 plc78_6 plc78_7 plc78_8 plc78_9 plc78_10 plc78_11 plc78_12 plc78_13 plc78_14 plc78_15
  plc78_16 plc78_17 plc78_18 plc78_19 plc78_20 plc78_21 plc78_22 plc78_23 plc78_24 plc78_25 plc78_26 plc78_27 plc78_28 plc78_29 plc78_30 plc78_31 plc78_32 plc78_33 plc78_34 plc78_35
  plc78_36 plc78_37 plc78_38 plc78_39 plc78_40 plc78_41 plc78_42 plc78_43 plc78_44 plc78_45 plc78_46 plc78_47 plc78_48 plc78_49 plc78_50 plc78_51 plc78_52 plc78_53 plc78_54 plc78_55
  plc78_56 plc78_57 plc78_58 plc78_59 plc78_60 plc78_61 plc78_62 plc78_63 zeroL78 tsz80 okPlc80 fld80_0 plc80_0 fld80_1 plc80_1 fld80_2 plc80_2 fld80_3 plc80_3 zeroL80
  tsz81 zeroL81 tsz82 aelem82 okPlc82 zeroL82 tsz83 okPlc83 fld83_0 plc83_0 zeroL83 tsz84 zeroL84 tsz86 ikind86 hasU86 zeroL86 tsz87 ikind87 hasU87
  zeroL87 tsz89 ikind89 hasU89 zeroL89 tsz90 ikind90 hasU90 zeroL90 tsz91 tsz92 tsz93 zeroL93
end Go.PL
