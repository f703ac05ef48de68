/-
  The seat's types, as the rules ask for them.
-/
import Derived.Test.YtilhofhoebpcgaaDoorPart5
import Derived.Test.YtilhofhoebpcgaaDoorProg
import Derived.KernelRfl
namespace Go.Am
open Go Go.Proofs
instance : HasLd Tryd.prog 1 false 1 := ⟨by kernel_rfl⟩
instance : HasZe Tryd.prog 1 [.nilFunc] := ⟨by kernel_rfl⟩
instance : HasLd Tryd.prog 2 false 1 := ⟨by kernel_rfl⟩
instance : HasInt Tryd.prog 2 .i64 := ⟨by kernel_rfl⟩
instance : HasZe Tryd.prog 2 [.int .i64 0] := ⟨by kernel_rfl⟩
instance : HasLd Tryd.prog 3 false 1 := ⟨by kernel_rfl⟩
instance : HasInt Tryd.prog 3 .i64 := ⟨by kernel_rfl⟩
instance : HasZe Tryd.prog 3 [.int .i64 0] := ⟨by kernel_rfl⟩
instance : HasLd Tryd.prog 4 false 1 := ⟨by kernel_rfl⟩
instance : HasZe Tryd.prog 4 [.bool false] := ⟨by kernel_rfl⟩
instance : HasLd Tryd.prog 5 false 1 := ⟨by kernel_rfl⟩
instance : HasInt Tryd.prog 5 .u8 := ⟨by kernel_rfl⟩
instance : HasZe Tryd.prog 5 [.int .u8 0] := ⟨by kernel_rfl⟩
instance : HasLd Tryd.prog 6 false 1 := ⟨by kernel_rfl⟩
instance : HasInt Tryd.prog 6 .u8 := ⟨by kernel_rfl⟩
instance : HasZe Tryd.prog 6 [.int .u8 0] := ⟨by kernel_rfl⟩
instance : HasLd Tryd.prog 7 true 4 := ⟨by kernel_rfl⟩
instance : HasZe Tryd.prog 7 [.int .i64 0, .int .i64 0, .bool false, .int .u8 0] := ⟨by kernel_rfl⟩
instance : HasFld Tryd.prog 7 0 0 := ⟨by kernel_rfl⟩
instance : HasFldT Tryd.prog 7 0 0 false 1 := ⟨by kernel_rfl⟩
instance : HasFld Tryd.prog 7 1 1 := ⟨by kernel_rfl⟩
instance : HasFldT Tryd.prog 7 1 1 false 1 := ⟨by kernel_rfl⟩
instance : HasFld Tryd.prog 7 2 2 := ⟨by kernel_rfl⟩
instance : HasFldT Tryd.prog 7 2 2 false 1 := ⟨by kernel_rfl⟩
instance : HasFld Tryd.prog 7 3 3 := ⟨by kernel_rfl⟩
instance : HasFldT Tryd.prog 7 3 3 false 1 := ⟨by kernel_rfl⟩
instance : HasFl Tryd.prog 7 [(0, 1), (1, 1), (2, 1), (3, 1)] := ⟨by kernel_rfl⟩
instance : HasLd Tryd.prog 8 true 4 := ⟨by kernel_rfl⟩
instance : HasZe Tryd.prog 8 [.int .i64 0, .int .i64 0, .bool false, .int .u8 0] := ⟨by kernel_rfl⟩
instance : HasFld Tryd.prog 8 0 0 := ⟨by kernel_rfl⟩
instance : HasFldT Tryd.prog 8 0 0 false 1 := ⟨by kernel_rfl⟩
instance : HasFld Tryd.prog 8 1 1 := ⟨by kernel_rfl⟩
instance : HasFldT Tryd.prog 8 1 1 false 1 := ⟨by kernel_rfl⟩
instance : HasFld Tryd.prog 8 2 2 := ⟨by kernel_rfl⟩
instance : HasFldT Tryd.prog 8 2 2 false 1 := ⟨by kernel_rfl⟩
instance : HasFld Tryd.prog 8 3 3 := ⟨by kernel_rfl⟩
instance : HasFldT Tryd.prog 8 3 3 false 1 := ⟨by kernel_rfl⟩
instance : HasFl Tryd.prog 8 [(0, 1), (1, 1), (2, 1), (3, 1)] := ⟨by kernel_rfl⟩
instance : HasLd Tryd.prog 9 false 1 := ⟨by kernel_rfl⟩
instance : HasStr Tryd.prog 9 := ⟨by kernel_rfl⟩
instance : HasZe Tryd.prog 9 [.string ⟨#[]⟩] := ⟨by kernel_rfl⟩
instance : HasLd Tryd.prog 10 false 1 := ⟨by kernel_rfl⟩
instance : HasStr Tryd.prog 10 := ⟨by kernel_rfl⟩
instance : HasZe Tryd.prog 10 [.string ⟨#[]⟩] := ⟨by kernel_rfl⟩
instance : HasLd Tryd.prog 11 false 1 := ⟨by kernel_rfl⟩
instance : HasStr Tryd.prog 11 := ⟨by kernel_rfl⟩
instance : HasZe Tryd.prog 11 [.string ⟨#[]⟩] := ⟨by kernel_rfl⟩
instance : HasLd Tryd.prog 12 false 1 := ⟨by kernel_rfl⟩
instance : HasInt Tryd.prog 12 .u64 := ⟨by kernel_rfl⟩
instance : HasZe Tryd.prog 12 [.int .u64 0] := ⟨by kernel_rfl⟩
instance : HasLd Tryd.prog 13 true 2 := ⟨by kernel_rfl⟩
instance : HasZe Tryd.prog 13 [.string ⟨#[]⟩, .int .u64 0] := ⟨by kernel_rfl⟩
instance : HasFld Tryd.prog 13 0 0 := ⟨by kernel_rfl⟩
instance : HasFldT Tryd.prog 13 0 0 false 1 := ⟨by kernel_rfl⟩
instance : HasFld Tryd.prog 13 1 1 := ⟨by kernel_rfl⟩
instance : HasFldT Tryd.prog 13 1 1 false 1 := ⟨by kernel_rfl⟩
instance : HasFl Tryd.prog 13 [(0, 1), (1, 1)] := ⟨by kernel_rfl⟩
instance : HasLd Tryd.prog 14 true 2 := ⟨by kernel_rfl⟩
instance : HasZe Tryd.prog 14 [.string ⟨#[]⟩, .int .u64 0] := ⟨by kernel_rfl⟩
instance : HasFld Tryd.prog 14 0 0 := ⟨by kernel_rfl⟩
instance : HasFldT Tryd.prog 14 0 0 false 1 := ⟨by kernel_rfl⟩
instance : HasFld Tryd.prog 14 1 1 := ⟨by kernel_rfl⟩
instance : HasFldT Tryd.prog 14 1 1 false 1 := ⟨by kernel_rfl⟩
instance : HasFl Tryd.prog 14 [(0, 1), (1, 1)] := ⟨by kernel_rfl⟩
instance : HasLd Tryd.prog 15 false 1 := ⟨by kernel_rfl⟩
instance : HasZe Tryd.prog 15 [.pointer none] := ⟨by kernel_rfl⟩
instance : HasPtr Tryd.prog 15 := ⟨135, by kernel_rfl⟩
instance : HasLd Tryd.prog 16 false 1 := ⟨by kernel_rfl⟩
instance : HasZe Tryd.prog 16 [.pointer none] := ⟨by kernel_rfl⟩
instance : HasPtr Tryd.prog 16 := ⟨138, by kernel_rfl⟩
instance : HasLd Tryd.prog 17 false 1 := ⟨by kernel_rfl⟩
instance : HasZe Tryd.prog 17 [.pointer none] := ⟨by kernel_rfl⟩
instance : HasPtr Tryd.prog 17 := ⟨146, by kernel_rfl⟩
instance : HasLd Tryd.prog 18 true 1 := ⟨by kernel_rfl⟩
instance : HasZe Tryd.prog 18 [.pointer none] := ⟨by kernel_rfl⟩
instance : HasFld Tryd.prog 18 0 0 := ⟨by kernel_rfl⟩
instance : HasFldT Tryd.prog 18 0 0 false 1 := ⟨by kernel_rfl⟩
instance : HasFl Tryd.prog 18 [(0, 1)] := ⟨by kernel_rfl⟩
instance : HasLd Tryd.prog 19 true 1 := ⟨by kernel_rfl⟩
instance : HasZe Tryd.prog 19 [.pointer none] := ⟨by kernel_rfl⟩
instance : HasFld Tryd.prog 19 0 0 := ⟨by kernel_rfl⟩
instance : HasFldT Tryd.prog 19 0 0 false 1 := ⟨by kernel_rfl⟩
instance : HasFl Tryd.prog 19 [(0, 1)] := ⟨by kernel_rfl⟩
instance : HasLd Tryd.prog 21 false 1 := ⟨by kernel_rfl⟩
instance : HasInt Tryd.prog 21 .i32 := ⟨by kernel_rfl⟩
instance : HasZe Tryd.prog 21 [.int .i32 0] := ⟨by kernel_rfl⟩
instance : HasLd Tryd.prog 22 false 1 := ⟨by kernel_rfl⟩
instance : HasZe Tryd.prog 22 [.slice none 0 0] := ⟨by kernel_rfl⟩
instance : HasSl Tryd.prog 22 67 3 24 := ⟨by kernel_rfl⟩
instance : HasLd Tryd.prog 23 true 3 := ⟨by kernel_rfl⟩
instance : HasZe Tryd.prog 23 [.int .i64 0, .int .i64 0, .slice none 0 0] := ⟨by kernel_rfl⟩
instance : HasFld Tryd.prog 23 0 0 := ⟨by kernel_rfl⟩
instance : HasFldT Tryd.prog 23 0 0 false 1 := ⟨by kernel_rfl⟩
instance : HasFld Tryd.prog 23 1 1 := ⟨by kernel_rfl⟩
instance : HasFldT Tryd.prog 23 1 1 false 1 := ⟨by kernel_rfl⟩
instance : HasFld Tryd.prog 23 2 2 := ⟨by kernel_rfl⟩
instance : HasFldT Tryd.prog 23 2 2 false 1 := ⟨by kernel_rfl⟩
instance : HasFl Tryd.prog 23 [(0, 1), (1, 1), (2, 1)] := ⟨by kernel_rfl⟩
instance : HasLd Tryd.prog 24 true 3 := ⟨by kernel_rfl⟩
instance : HasZe Tryd.prog 24 [.int .i64 0, .int .i64 0, .slice none 0 0] := ⟨by kernel_rfl⟩
instance : HasFld Tryd.prog 24 0 0 := ⟨by kernel_rfl⟩
instance : HasFldT Tryd.prog 24 0 0 false 1 := ⟨by kernel_rfl⟩
instance : HasFld Tryd.prog 24 1 1 := ⟨by kernel_rfl⟩
instance : HasFldT Tryd.prog 24 1 1 false 1 := ⟨by kernel_rfl⟩
instance : HasFld Tryd.prog 24 2 2 := ⟨by kernel_rfl⟩
instance : HasFldT Tryd.prog 24 2 2 false 1 := ⟨by kernel_rfl⟩
instance : HasFl Tryd.prog 24 [(0, 1), (1, 1), (2, 1)] := ⟨by kernel_rfl⟩
instance : HasLd Tryd.prog 25 false 1 := ⟨by kernel_rfl⟩
instance : HasZe Tryd.prog 25 [.slice none 0 0] := ⟨by kernel_rfl⟩
instance : HasSl Tryd.prog 25 55 1 24 := ⟨by kernel_rfl⟩
instance : HasLd Tryd.prog 26 false 1 := ⟨by kernel_rfl⟩
instance : HasZe Tryd.prog 26 [.slice none 0 0] := ⟨by kernel_rfl⟩
instance : HasSl Tryd.prog 26 4 1 1 := ⟨by kernel_rfl⟩
instance : HasLd Tryd.prog 27 true 3 := ⟨by kernel_rfl⟩
instance : HasZe Tryd.prog 27 [.int .i64 0, .slice none 0 0, .slice none 0 0] := ⟨by kernel_rfl⟩
instance : HasFld Tryd.prog 27 0 0 := ⟨by kernel_rfl⟩
instance : HasFldT Tryd.prog 27 0 0 false 1 := ⟨by kernel_rfl⟩
instance : HasFld Tryd.prog 27 1 1 := ⟨by kernel_rfl⟩
instance : HasFldT Tryd.prog 27 1 1 false 1 := ⟨by kernel_rfl⟩
instance : HasFld Tryd.prog 27 2 2 := ⟨by kernel_rfl⟩
instance : HasFldT Tryd.prog 27 2 2 false 1 := ⟨by kernel_rfl⟩
instance : HasFl Tryd.prog 27 [(0, 1), (1, 1), (2, 1)] := ⟨by kernel_rfl⟩
instance : HasLd Tryd.prog 28 true 3 := ⟨by kernel_rfl⟩
instance : HasZe Tryd.prog 28 [.int .i64 0, .slice none 0 0, .slice none 0 0] := ⟨by kernel_rfl⟩
instance : HasFld Tryd.prog 28 0 0 := ⟨by kernel_rfl⟩
instance : HasFldT Tryd.prog 28 0 0 false 1 := ⟨by kernel_rfl⟩
instance : HasFld Tryd.prog 28 1 1 := ⟨by kernel_rfl⟩
instance : HasFldT Tryd.prog 28 1 1 false 1 := ⟨by kernel_rfl⟩
instance : HasFld Tryd.prog 28 2 2 := ⟨by kernel_rfl⟩
instance : HasFldT Tryd.prog 28 2 2 false 1 := ⟨by kernel_rfl⟩
instance : HasFl Tryd.prog 28 [(0, 1), (1, 1), (2, 1)] := ⟨by kernel_rfl⟩
instance : HasLd Tryd.prog 29 false 1 := ⟨by kernel_rfl⟩
instance : HasZe Tryd.prog 29 [.nilFunc] := ⟨by kernel_rfl⟩
instance : HasLd Tryd.prog 30 false 1 := ⟨by kernel_rfl⟩
instance : HasZe Tryd.prog 30 [.nilFunc] := ⟨by kernel_rfl⟩
instance : HasLd Tryd.prog 31 false 1 := ⟨by kernel_rfl⟩
instance : HasZe Tryd.prog 31 [.nilFunc] := ⟨by kernel_rfl⟩
instance : HasLd Tryd.prog 32 false 1 := ⟨by kernel_rfl⟩
instance : HasZe Tryd.prog 32 [.slice none 0 0] := ⟨by kernel_rfl⟩
instance : HasSl Tryd.prog 32 65 3 24 := ⟨by kernel_rfl⟩
instance : HasLd Tryd.prog 33 true 3 := ⟨by kernel_rfl⟩
instance : HasZe Tryd.prog 33 [.int .i64 0, .int .i64 0, .slice none 0 0] := ⟨by kernel_rfl⟩
instance : HasFld Tryd.prog 33 0 0 := ⟨by kernel_rfl⟩
instance : HasFldT Tryd.prog 33 0 0 false 1 := ⟨by kernel_rfl⟩
instance : HasFld Tryd.prog 33 1 1 := ⟨by kernel_rfl⟩
instance : HasFldT Tryd.prog 33 1 1 false 1 := ⟨by kernel_rfl⟩
instance : HasFld Tryd.prog 33 2 2 := ⟨by kernel_rfl⟩
instance : HasFldT Tryd.prog 33 2 2 false 1 := ⟨by kernel_rfl⟩
instance : HasFl Tryd.prog 33 [(0, 1), (1, 1), (2, 1)] := ⟨by kernel_rfl⟩
instance : HasLd Tryd.prog 34 true 3 := ⟨by kernel_rfl⟩
instance : HasZe Tryd.prog 34 [.int .i64 0, .int .i64 0, .slice none 0 0] := ⟨by kernel_rfl⟩
instance : HasFld Tryd.prog 34 0 0 := ⟨by kernel_rfl⟩
instance : HasFldT Tryd.prog 34 0 0 false 1 := ⟨by kernel_rfl⟩
instance : HasFld Tryd.prog 34 1 1 := ⟨by kernel_rfl⟩
instance : HasFldT Tryd.prog 34 1 1 false 1 := ⟨by kernel_rfl⟩
instance : HasFld Tryd.prog 34 2 2 := ⟨by kernel_rfl⟩
instance : HasFldT Tryd.prog 34 2 2 false 1 := ⟨by kernel_rfl⟩
instance : HasFl Tryd.prog 34 [(0, 1), (1, 1), (2, 1)] := ⟨by kernel_rfl⟩
instance : HasLd Tryd.prog 35 false 1 := ⟨by kernel_rfl⟩
instance : HasZe Tryd.prog 35 [.nilFunc] := ⟨by kernel_rfl⟩
instance : HasLd Tryd.prog 36 true 3 := ⟨by kernel_rfl⟩
instance : HasZe Tryd.prog 36 [.int .i64 0, .slice none 0 0, .slice none 0 0] := ⟨by kernel_rfl⟩
instance : HasFld Tryd.prog 36 0 0 := ⟨by kernel_rfl⟩
instance : HasFldT Tryd.prog 36 0 0 false 1 := ⟨by kernel_rfl⟩
instance : HasFld Tryd.prog 36 1 1 := ⟨by kernel_rfl⟩
instance : HasFldT Tryd.prog 36 1 1 false 1 := ⟨by kernel_rfl⟩
instance : HasFld Tryd.prog 36 2 2 := ⟨by kernel_rfl⟩
instance : HasFldT Tryd.prog 36 2 2 false 1 := ⟨by kernel_rfl⟩
instance : HasFl Tryd.prog 36 [(0, 1), (1, 1), (2, 1)] := ⟨by kernel_rfl⟩
instance : HasLd Tryd.prog 37 false 1 := ⟨by kernel_rfl⟩
instance : HasZe Tryd.prog 37 [.nilFunc] := ⟨by kernel_rfl⟩
instance : HasLd Tryd.prog 38 false 1 := ⟨by kernel_rfl⟩
instance : HasZe Tryd.prog 38 [.nilFunc] := ⟨by kernel_rfl⟩
instance : HasLd Tryd.prog 39 false 1 := ⟨by kernel_rfl⟩
instance : HasZe Tryd.prog 39 [.nilFunc] := ⟨by kernel_rfl⟩
instance : HasLd Tryd.prog 40 false 1 := ⟨by kernel_rfl⟩
instance : HasZe Tryd.prog 40 [.nilFunc] := ⟨by kernel_rfl⟩
instance : HasLd Tryd.prog 41 false 1 := ⟨by kernel_rfl⟩
instance : HasZe Tryd.prog 41 [.nilFunc] := ⟨by kernel_rfl⟩
instance : HasLd Tryd.prog 42 false 1 := ⟨by kernel_rfl⟩
instance : HasZe Tryd.prog 42 [.nilFunc] := ⟨by kernel_rfl⟩
instance : HasLd Tryd.prog 43 false 1 := ⟨by kernel_rfl⟩
instance : HasZe Tryd.prog 43 [.nilFunc] := ⟨by kernel_rfl⟩
instance : HasLd Tryd.prog 44 false 1 := ⟨by kernel_rfl⟩
instance : HasZe Tryd.prog 44 [.nilFunc] := ⟨by kernel_rfl⟩
instance : HasLd Tryd.prog 45 false 1 := ⟨by kernel_rfl⟩
instance : HasZe Tryd.prog 45 [.nilFunc] := ⟨by kernel_rfl⟩
instance : HasLd Tryd.prog 46 false 1 := ⟨by kernel_rfl⟩
instance : HasZe Tryd.prog 46 [.nilFunc] := ⟨by kernel_rfl⟩
instance : HasLd Tryd.prog 47 false 1 := ⟨by kernel_rfl⟩
instance : HasZe Tryd.prog 47 [.nilFunc] := ⟨by kernel_rfl⟩
instance : HasLd Tryd.prog 48 false 1 := ⟨by kernel_rfl⟩
instance : HasZe Tryd.prog 48 [.nilFunc] := ⟨by kernel_rfl⟩
instance : HasLd Tryd.prog 49 false 1 := ⟨by kernel_rfl⟩
instance : HasZe Tryd.prog 49 [.nilFunc] := ⟨by kernel_rfl⟩
instance : HasLd Tryd.prog 50 false 1 := ⟨by kernel_rfl⟩
instance : HasZe Tryd.prog 50 [.nilFunc] := ⟨by kernel_rfl⟩
instance : HasLd Tryd.prog 51 false 1 := ⟨by kernel_rfl⟩
instance : HasZe Tryd.prog 51 [.nilFunc] := ⟨by kernel_rfl⟩
instance : HasLd Tryd.prog 52 false 1 := ⟨by kernel_rfl⟩
instance : HasZe Tryd.prog 52 [.nilFunc] := ⟨by kernel_rfl⟩
instance : HasLd Tryd.prog 53 false 1 := ⟨by kernel_rfl⟩
instance : HasZe Tryd.prog 53 [.nilFunc] := ⟨by kernel_rfl⟩
instance : HasLd Tryd.prog 54 false 1 := ⟨by kernel_rfl⟩
instance : HasZe Tryd.prog 54 [.nilFunc] := ⟨by kernel_rfl⟩
instance : HasLd Tryd.prog 55 false 1 := ⟨by kernel_rfl⟩
instance : HasZe Tryd.prog 55 [.slice none 0 0] := ⟨by kernel_rfl⟩
instance : HasSl Tryd.prog 55 3 1 8 := ⟨by kernel_rfl⟩
instance : HasLd Tryd.prog 56 false 1 := ⟨by kernel_rfl⟩
instance : HasZe Tryd.prog 56 [.nilFunc] := ⟨by kernel_rfl⟩
instance : HasLd Tryd.prog 57 false 1 := ⟨by kernel_rfl⟩
instance : HasZe Tryd.prog 57 [.nilFunc] := ⟨by kernel_rfl⟩
instance : HasLd Tryd.prog 58 false 1 := ⟨by kernel_rfl⟩
instance : HasZe Tryd.prog 58 [.nilFunc] := ⟨by kernel_rfl⟩
instance : HasLd Tryd.prog 59 false 1 := ⟨by kernel_rfl⟩
instance : HasZe Tryd.prog 59 [.nilFunc] := ⟨by kernel_rfl⟩
instance : HasLd Tryd.prog 61 false 1 := ⟨by kernel_rfl⟩
instance : HasZe Tryd.prog 61 [.nilFunc] := ⟨by kernel_rfl⟩
instance : HasLd Tryd.prog 62 false 1 := ⟨by kernel_rfl⟩
instance : HasZe Tryd.prog 62 [.nilFunc] := ⟨by kernel_rfl⟩
instance : HasLd Tryd.prog 63 false 1 := ⟨by kernel_rfl⟩
instance : HasZe Tryd.prog 63 [.slice none 0 0] := ⟨by kernel_rfl⟩
instance : HasSl Tryd.prog 63 34 3 40 := ⟨by kernel_rfl⟩
instance : HasLd Tryd.prog 64 true 3 := ⟨by kernel_rfl⟩
instance : HasZe Tryd.prog 64 [.int .i64 0, .int .i64 0, .int .i64 0] := ⟨by kernel_rfl⟩
instance : HasFld Tryd.prog 64 0 0 := ⟨by kernel_rfl⟩
instance : HasFldT Tryd.prog 64 0 0 false 1 := ⟨by kernel_rfl⟩
instance : HasFld Tryd.prog 64 1 1 := ⟨by kernel_rfl⟩
instance : HasFldT Tryd.prog 64 1 1 false 1 := ⟨by kernel_rfl⟩
instance : HasFld Tryd.prog 64 2 2 := ⟨by kernel_rfl⟩
instance : HasFldT Tryd.prog 64 2 2 false 1 := ⟨by kernel_rfl⟩
instance : HasFl Tryd.prog 64 [(0, 1), (1, 1), (2, 1)] := ⟨by kernel_rfl⟩
instance : HasLd Tryd.prog 65 true 3 := ⟨by kernel_rfl⟩
instance : HasZe Tryd.prog 65 [.int .i64 0, .int .i64 0, .int .i64 0] := ⟨by kernel_rfl⟩
instance : HasFld Tryd.prog 65 0 0 := ⟨by kernel_rfl⟩
instance : HasFldT Tryd.prog 65 0 0 false 1 := ⟨by kernel_rfl⟩
instance : HasFld Tryd.prog 65 1 1 := ⟨by kernel_rfl⟩
instance : HasFldT Tryd.prog 65 1 1 false 1 := ⟨by kernel_rfl⟩
instance : HasFld Tryd.prog 65 2 2 := ⟨by kernel_rfl⟩
instance : HasFldT Tryd.prog 65 2 2 false 1 := ⟨by kernel_rfl⟩
instance : HasFl Tryd.prog 65 [(0, 1), (1, 1), (2, 1)] := ⟨by kernel_rfl⟩
instance : HasLd Tryd.prog 66 false 1 := ⟨by kernel_rfl⟩
instance : HasZe Tryd.prog 66 [.nilFunc] := ⟨by kernel_rfl⟩
instance : HasLd Tryd.prog 67 true 3 := ⟨by kernel_rfl⟩
instance : HasZe Tryd.prog 67 [.int .i64 0, .int .i64 0, .int .i64 0] := ⟨by kernel_rfl⟩
instance : HasFld Tryd.prog 67 0 0 := ⟨by kernel_rfl⟩
instance : HasFldT Tryd.prog 67 0 0 false 1 := ⟨by kernel_rfl⟩
instance : HasFld Tryd.prog 67 1 1 := ⟨by kernel_rfl⟩
instance : HasFldT Tryd.prog 67 1 1 false 1 := ⟨by kernel_rfl⟩
instance : HasFld Tryd.prog 67 2 2 := ⟨by kernel_rfl⟩
instance : HasFldT Tryd.prog 67 2 2 false 1 := ⟨by kernel_rfl⟩
instance : HasFl Tryd.prog 67 [(0, 1), (1, 1), (2, 1)] := ⟨by kernel_rfl⟩
instance : HasLd Tryd.prog 68 false 1 := ⟨by kernel_rfl⟩
instance : HasZe Tryd.prog 68 [.nilFunc] := ⟨by kernel_rfl⟩
instance : HasLd Tryd.prog 69 false 1 := ⟨by kernel_rfl⟩
instance : HasZe Tryd.prog 69 [.nilFunc] := ⟨by kernel_rfl⟩
instance : HasLd Tryd.prog 70 false 1 := ⟨by kernel_rfl⟩
instance : HasZe Tryd.prog 70 [.nilFunc] := ⟨by kernel_rfl⟩
instance : HasLd Tryd.prog 71 false 1 := ⟨by kernel_rfl⟩
instance : HasZe Tryd.prog 71 [.nilFunc] := ⟨by kernel_rfl⟩
instance : HasLd Tryd.prog 72 false 1 := ⟨by kernel_rfl⟩
instance : HasZe Tryd.prog 72 [.nilFunc] := ⟨by kernel_rfl⟩
instance : HasLd Tryd.prog 73 false 1 := ⟨by kernel_rfl⟩
instance : HasZe Tryd.prog 73 [.nilFunc] := ⟨by kernel_rfl⟩
instance : HasLd Tryd.prog 74 false 1 := ⟨by kernel_rfl⟩
instance : HasZe Tryd.prog 74 [.slice none 0 0] := ⟨by kernel_rfl⟩
instance : HasSl Tryd.prog 74 36 3 56 := ⟨by kernel_rfl⟩
instance : HasLd Tryd.prog 75 true 6 := ⟨by kernel_rfl⟩
instance : HasZe Tryd.prog 75 [.slice none 0 0, .slice none 0 0, .slice none 0 0, .int .i64 0, .int .i64 0, .int .i64 0] := ⟨by kernel_rfl⟩
instance : HasFld Tryd.prog 75 0 0 := ⟨by kernel_rfl⟩
instance : HasFldT Tryd.prog 75 0 0 false 1 := ⟨by kernel_rfl⟩
instance : HasFld Tryd.prog 75 1 1 := ⟨by kernel_rfl⟩
instance : HasFldT Tryd.prog 75 1 1 false 1 := ⟨by kernel_rfl⟩
instance : HasFld Tryd.prog 75 2 2 := ⟨by kernel_rfl⟩
instance : HasFldT Tryd.prog 75 2 2 false 1 := ⟨by kernel_rfl⟩
instance : HasFld Tryd.prog 75 3 3 := ⟨by kernel_rfl⟩
instance : HasFldT Tryd.prog 75 3 3 false 1 := ⟨by kernel_rfl⟩
instance : HasFld Tryd.prog 75 4 4 := ⟨by kernel_rfl⟩
instance : HasFldT Tryd.prog 75 4 4 false 1 := ⟨by kernel_rfl⟩
instance : HasFld Tryd.prog 75 5 5 := ⟨by kernel_rfl⟩
instance : HasFldT Tryd.prog 75 5 5 false 1 := ⟨by kernel_rfl⟩
instance : HasFl Tryd.prog 75 [(0, 1), (1, 1), (2, 1), (3, 1), (4, 1), (5, 1)] := ⟨by kernel_rfl⟩
instance : HasLd Tryd.prog 76 true 6 := ⟨by kernel_rfl⟩
instance : HasZe Tryd.prog 76 [.slice none 0 0, .slice none 0 0, .slice none 0 0, .int .i64 0, .int .i64 0, .int .i64 0] := ⟨by kernel_rfl⟩
instance : HasFld Tryd.prog 76 0 0 := ⟨by kernel_rfl⟩
instance : HasFldT Tryd.prog 76 0 0 false 1 := ⟨by kernel_rfl⟩
instance : HasFld Tryd.prog 76 1 1 := ⟨by kernel_rfl⟩
instance : HasFldT Tryd.prog 76 1 1 false 1 := ⟨by kernel_rfl⟩
instance : HasFld Tryd.prog 76 2 2 := ⟨by kernel_rfl⟩
instance : HasFldT Tryd.prog 76 2 2 false 1 := ⟨by kernel_rfl⟩
instance : HasFld Tryd.prog 76 3 3 := ⟨by kernel_rfl⟩
instance : HasFldT Tryd.prog 76 3 3 false 1 := ⟨by kernel_rfl⟩
instance : HasFld Tryd.prog 76 4 4 := ⟨by kernel_rfl⟩
instance : HasFldT Tryd.prog 76 4 4 false 1 := ⟨by kernel_rfl⟩
instance : HasFld Tryd.prog 76 5 5 := ⟨by kernel_rfl⟩
instance : HasFldT Tryd.prog 76 5 5 false 1 := ⟨by kernel_rfl⟩
instance : HasFl Tryd.prog 76 [(0, 1), (1, 1), (2, 1), (3, 1), (4, 1), (5, 1)] := ⟨by kernel_rfl⟩
instance : HasLd Tryd.prog 77 false 1 := ⟨by kernel_rfl⟩
instance : HasZe Tryd.prog 77 [.nilFunc] := ⟨by kernel_rfl⟩
instance : HasLd Tryd.prog 78 false 1 := ⟨by kernel_rfl⟩
instance : HasZe Tryd.prog 78 [.nilFunc] := ⟨by kernel_rfl⟩
instance : HasLd Tryd.prog 79 false 1 := ⟨by kernel_rfl⟩
instance : HasZe Tryd.prog 79 [.nilFunc] := ⟨by kernel_rfl⟩
instance : HasLd Tryd.prog 80 false 1 := ⟨by kernel_rfl⟩
instance : HasZe Tryd.prog 80 [.nilFunc] := ⟨by kernel_rfl⟩
instance : HasLd Tryd.prog 81 false 1 := ⟨by kernel_rfl⟩
instance : HasZe Tryd.prog 81 [.nilFunc] := ⟨by kernel_rfl⟩
instance : HasLd Tryd.prog 82 false 1 := ⟨by kernel_rfl⟩
instance : HasZe Tryd.prog 82 [.pointer none] := ⟨by kernel_rfl⟩
instance : HasPtr Tryd.prog 82 := ⟨36, by kernel_rfl⟩
instance : HasLd Tryd.prog 83 false 1 := ⟨by kernel_rfl⟩
instance : HasZe Tryd.prog 83 [.nilFunc] := ⟨by kernel_rfl⟩
instance : HasLd Tryd.prog 84 false 1 := ⟨by kernel_rfl⟩
instance : HasInt Tryd.prog 84 .u64 := ⟨by kernel_rfl⟩
instance : HasZe Tryd.prog 84 [.int .u64 0] := ⟨by kernel_rfl⟩
instance : HasLd Tryd.prog 85 false 1 := ⟨by kernel_rfl⟩
instance : HasZe Tryd.prog 85 [.nilFunc] := ⟨by kernel_rfl⟩
instance : HasLd Tryd.prog 86 false 1 := ⟨by kernel_rfl⟩
instance : HasZe Tryd.prog 86 [.slice none 0 0] := ⟨by kernel_rfl⟩
instance : HasSl Tryd.prog 86 25 1 24 := ⟨by kernel_rfl⟩
instance : HasLd Tryd.prog 87 false 1 := ⟨by kernel_rfl⟩
instance : HasZe Tryd.prog 87 [.nilFunc] := ⟨by kernel_rfl⟩
instance : HasLd Tryd.prog 88 false 1 := ⟨by kernel_rfl⟩
instance : HasZe Tryd.prog 88 [.nilFunc] := ⟨by kernel_rfl⟩
instance : HasLd Tryd.prog 89 false 1 := ⟨by kernel_rfl⟩
instance : HasZe Tryd.prog 89 [.nilFunc] := ⟨by kernel_rfl⟩
instance : HasLd Tryd.prog 90 false 1 := ⟨by kernel_rfl⟩
instance : HasZe Tryd.prog 90 [.nilFunc] := ⟨by kernel_rfl⟩
instance : HasLd Tryd.prog 91 false 1 := ⟨by kernel_rfl⟩
instance : HasZe Tryd.prog 91 [.nilFunc] := ⟨by kernel_rfl⟩
instance : HasLd Tryd.prog 92 false 1 := ⟨by kernel_rfl⟩
instance : HasZe Tryd.prog 92 [.nilFunc] := ⟨by kernel_rfl⟩
instance : HasLd Tryd.prog 93 false 1 := ⟨by kernel_rfl⟩
instance : HasZe Tryd.prog 93 [.nilFunc] := ⟨by kernel_rfl⟩
instance : HasLd Tryd.prog 94 false 1 := ⟨by kernel_rfl⟩
instance : HasZe Tryd.prog 94 [.nilFunc] := ⟨by kernel_rfl⟩
instance : HasLd Tryd.prog 95 false 1 := ⟨by kernel_rfl⟩
instance : HasZe Tryd.prog 95 [.nilFunc] := ⟨by kernel_rfl⟩
instance : HasLd Tryd.prog 96 false 1 := ⟨by kernel_rfl⟩
instance : HasZe Tryd.prog 96 [.slice none 0 0] := ⟨by kernel_rfl⟩
instance : HasSl Tryd.prog 96 112 1 8 := ⟨by kernel_rfl⟩
instance : HasLd Tryd.prog 97 true 2 := ⟨by kernel_rfl⟩
instance : HasZe Tryd.prog 97 [.slice none 0 0, .slice none 0 0] := ⟨by kernel_rfl⟩
instance : HasFld Tryd.prog 97 0 0 := ⟨by kernel_rfl⟩
instance : HasFldT Tryd.prog 97 0 0 false 1 := ⟨by kernel_rfl⟩
instance : HasFld Tryd.prog 97 1 1 := ⟨by kernel_rfl⟩
instance : HasFldT Tryd.prog 97 1 1 false 1 := ⟨by kernel_rfl⟩
instance : HasFl Tryd.prog 97 [(0, 1), (1, 1)] := ⟨by kernel_rfl⟩
instance : HasLd Tryd.prog 98 true 2 := ⟨by kernel_rfl⟩
instance : HasZe Tryd.prog 98 [.slice none 0 0, .slice none 0 0] := ⟨by kernel_rfl⟩
instance : HasFld Tryd.prog 98 0 0 := ⟨by kernel_rfl⟩
instance : HasFldT Tryd.prog 98 0 0 false 1 := ⟨by kernel_rfl⟩
instance : HasFld Tryd.prog 98 1 1 := ⟨by kernel_rfl⟩
instance : HasFldT Tryd.prog 98 1 1 false 1 := ⟨by kernel_rfl⟩
instance : HasFl Tryd.prog 98 [(0, 1), (1, 1)] := ⟨by kernel_rfl⟩
instance : HasLd Tryd.prog 99 false 1 := ⟨by kernel_rfl⟩
instance : HasZe Tryd.prog 99 [.nilFunc] := ⟨by kernel_rfl⟩
instance : HasLd Tryd.prog 100 false 1 := ⟨by kernel_rfl⟩
instance : HasZe Tryd.prog 100 [.slice none 0 0] := ⟨by kernel_rfl⟩
instance : HasSl Tryd.prog 100 102 6 48 := ⟨by kernel_rfl⟩
instance : HasLd Tryd.prog 101 false 1 := ⟨by kernel_rfl⟩
instance : HasZe Tryd.prog 101 [.nilFunc] := ⟨by kernel_rfl⟩
instance : HasLd Tryd.prog 102 true 6 := ⟨by kernel_rfl⟩
instance : HasZe Tryd.prog 102 [.int .i64 0, .int .i64 0, .int .i64 0, .int .i64 0, .int .i64 0, .int .i64 0] := ⟨by kernel_rfl⟩
instance : HasAr Tryd.prog 102 6 1 := ⟨by kernel_rfl⟩
instance : HasFl Tryd.prog 102 [(0, 1), (1, 1), (2, 1), (3, 1), (4, 1), (5, 1)] := ⟨by kernel_rfl⟩
instance : HasLd Tryd.prog 103 false 1 := ⟨by kernel_rfl⟩
instance : HasZe Tryd.prog 103 [.nilFunc] := ⟨by kernel_rfl⟩
instance : HasLd Tryd.prog 104 false 1 := ⟨by kernel_rfl⟩
instance : HasZe Tryd.prog 104 [.nilFunc] := ⟨by kernel_rfl⟩
instance : HasLd Tryd.prog 105 false 1 := ⟨by kernel_rfl⟩
instance : HasZe Tryd.prog 105 [.nilFunc] := ⟨by kernel_rfl⟩
instance : HasLd Tryd.prog 106 false 1 := ⟨by kernel_rfl⟩
instance : HasZe Tryd.prog 106 [.nilFunc] := ⟨by kernel_rfl⟩
instance : HasLd Tryd.prog 107 false 1 := ⟨by kernel_rfl⟩
instance : HasZe Tryd.prog 107 [.nilFunc] := ⟨by kernel_rfl⟩
instance : HasLd Tryd.prog 108 false 1 := ⟨by kernel_rfl⟩
instance : HasZe Tryd.prog 108 [.nilFunc] := ⟨by kernel_rfl⟩
instance : HasLd Tryd.prog 109 false 1 := ⟨by kernel_rfl⟩
instance : HasZe Tryd.prog 109 [.nilFunc] := ⟨by kernel_rfl⟩
instance : HasLd Tryd.prog 110 false 1 := ⟨by kernel_rfl⟩
instance : HasZe Tryd.prog 110 [.nilFunc] := ⟨by kernel_rfl⟩
instance : HasLd Tryd.prog 111 false 1 := ⟨by kernel_rfl⟩
instance : HasZe Tryd.prog 111 [.slice none 0 0] := ⟨by kernel_rfl⟩
instance : HasBy Tryd.prog 111 := ⟨5, by kernel_rfl, by kernel_rfl⟩
instance : HasSl Tryd.prog 111 5 1 1 := ⟨by kernel_rfl⟩
instance : HasLd Tryd.prog 112 false 1 := ⟨by kernel_rfl⟩
instance : HasZe Tryd.prog 112 [.pointer none] := ⟨by kernel_rfl⟩
instance : HasPtr Tryd.prog 112 := ⟨122, by kernel_rfl⟩
instance : HasLd Tryd.prog 113 false 1 := ⟨by kernel_rfl⟩
instance : HasZe Tryd.prog 113 [.nilFunc] := ⟨by kernel_rfl⟩
instance : HasLd Tryd.prog 114 false 1 := ⟨by kernel_rfl⟩
instance : HasZe Tryd.prog 114 [.slice none 0 0] := ⟨by kernel_rfl⟩
instance : HasSl Tryd.prog 114 116 3 40 := ⟨by kernel_rfl⟩
instance : HasLd Tryd.prog 115 true 3 := ⟨by kernel_rfl⟩
instance : HasZe Tryd.prog 115 [.int .i64 0, .int .i64 0, .slice none 0 0] := ⟨by kernel_rfl⟩
instance : HasFld Tryd.prog 115 0 0 := ⟨by kernel_rfl⟩
instance : HasFldT Tryd.prog 115 0 0 false 1 := ⟨by kernel_rfl⟩
instance : HasFld Tryd.prog 115 1 1 := ⟨by kernel_rfl⟩
instance : HasFldT Tryd.prog 115 1 1 false 1 := ⟨by kernel_rfl⟩
instance : HasFld Tryd.prog 115 2 2 := ⟨by kernel_rfl⟩
instance : HasFldT Tryd.prog 115 2 2 false 1 := ⟨by kernel_rfl⟩
instance : HasFl Tryd.prog 115 [(0, 1), (1, 1), (2, 1)] := ⟨by kernel_rfl⟩
instance : HasLd Tryd.prog 116 true 3 := ⟨by kernel_rfl⟩
instance : HasZe Tryd.prog 116 [.int .i64 0, .int .i64 0, .slice none 0 0] := ⟨by kernel_rfl⟩
instance : HasFld Tryd.prog 116 0 0 := ⟨by kernel_rfl⟩
instance : HasFldT Tryd.prog 116 0 0 false 1 := ⟨by kernel_rfl⟩
instance : HasFld Tryd.prog 116 1 1 := ⟨by kernel_rfl⟩
instance : HasFldT Tryd.prog 116 1 1 false 1 := ⟨by kernel_rfl⟩
instance : HasFld Tryd.prog 116 2 2 := ⟨by kernel_rfl⟩
instance : HasFldT Tryd.prog 116 2 2 false 1 := ⟨by kernel_rfl⟩
instance : HasFl Tryd.prog 116 [(0, 1), (1, 1), (2, 1)] := ⟨by kernel_rfl⟩
instance : HasLd Tryd.prog 117 false 1 := ⟨by kernel_rfl⟩
instance : HasZe Tryd.prog 117 [.nilFunc] := ⟨by kernel_rfl⟩
instance : HasLd Tryd.prog 118 false 1 := ⟨by kernel_rfl⟩
instance : HasZe Tryd.prog 118 [.nilFunc] := ⟨by kernel_rfl⟩
instance : HasLd Tryd.prog 119 false 1 := ⟨by kernel_rfl⟩
instance : HasZe Tryd.prog 119 [.nilFunc] := ⟨by kernel_rfl⟩
instance : HasLd Tryd.prog 120 false 1 := ⟨by kernel_rfl⟩
instance : HasZe Tryd.prog 120 [.nilFunc] := ⟨by kernel_rfl⟩
instance : HasLd Tryd.prog 121 true 96 := ⟨by kernel_rfl⟩
instance : HasZe Tryd.prog 121 [.int .i64 0, .int .i64 0, .int .i64 0, .int .i64 0, .int .i64 0, .int .i64 0, .int .i64 0, .int .i64 0, .int .i64 0, .int .i64 0, .int .i64 0, .int .i64 0, .int .i64 0, .int .i64 0, .int .i64 0, .int .i64 0, .int .i64 0, .int .i64 0, .int .i64 0, .int .i64 0, .int .i64 0, .int .i64 0, .int .i64 0, .int .i64 0, .int .i64 0, .int .i64 0, .int .i64 0, .int .i64 0, .int .i64 0, .int .i64 0, .int .i64 0, .int .i64 0, .int .i64 0, .int .i64 0, .int .i64 0, .int .i64 0, .int .i64 0, .int .i64 0, .int .i64 0, .int .i64 0, .int .i64 0, .int .i64 0, .int .i64 0, .int .i64 0, .int .i64 0, .int .i64 0, .int .i64 0, .int .i64 0, .int .i64 0, .int .i64 0, .int .i64 0, .int .i64 0, .int .i64 0, .int .i64 0, .int .i64 0, .int .i64 0, .int .i64 0, .int .i64 0, .int .i64 0, .int .i64 0, .int .i64 0, .int .i64 0, .int .i64 0, .int .i64 0, .int .i64 0, .int .i64 0, .int .i64 0, .int .i64 0, .int .i64 0, .int .i64 0, .int .i64 0, .int .i64 0, .int .i64 0, .int .i64 0, .int .i64 0, .int .i64 0, .int .i64 0, .int .i64 0, .int .i64 0, .int .i64 0, .int .i64 0, .int .i64 0, .int .i64 0, .int .i64 0, .int .i64 0, .int .i64 0, .int .i64 0, .int .i64 0, .int .i64 0, .int .i64 0, .int .i64 0, .int .i64 0, .int .i64 0, .int .i64 0, .int .i64 0, .int .i64 0] := ⟨by kernel_rfl⟩
instance : HasAr Tryd.prog 121 16 6 := ⟨by kernel_rfl⟩
instance : HasFl Tryd.prog 121 [(0, 6), (6, 6), (12, 6), (18, 6), (24, 6), (30, 6), (36, 6), (42, 6), (48, 6), (54, 6), (60, 6), (66, 6), (72, 6), (78, 6), (84, 6), (90, 6)] := ⟨by kernel_rfl⟩
instance : HasLd Tryd.prog 122 true 96 := ⟨by kernel_rfl⟩
instance : HasZe Tryd.prog 122 [.int .i64 0, .int .i64 0, .int .i64 0, .int .i64 0, .int .i64 0, .int .i64 0, .int .i64 0, .int .i64 0, .int .i64 0, .int .i64 0, .int .i64 0, .int .i64 0, .int .i64 0, .int .i64 0, .int .i64 0, .int .i64 0, .int .i64 0, .int .i64 0, .int .i64 0, .int .i64 0, .int .i64 0, .int .i64 0, .int .i64 0, .int .i64 0, .int .i64 0, .int .i64 0, .int .i64 0, .int .i64 0, .int .i64 0, .int .i64 0, .int .i64 0, .int .i64 0, .int .i64 0, .int .i64 0, .int .i64 0, .int .i64 0, .int .i64 0, .int .i64 0, .int .i64 0, .int .i64 0, .int .i64 0, .int .i64 0, .int .i64 0, .int .i64 0, .int .i64 0, .int .i64 0, .int .i64 0, .int .i64 0, .int .i64 0, .int .i64 0, .int .i64 0, .int .i64 0, .int .i64 0, .int .i64 0, .int .i64 0, .int .i64 0, .int .i64 0, .int .i64 0, .int .i64 0, .int .i64 0, .int .i64 0, .int .i64 0, .int .i64 0, .int .i64 0, .int .i64 0, .int .i64 0, .int .i64 0, .int .i64 0, .int .i64 0, .int .i64 0, .int .i64 0, .int .i64 0, .int .i64 0, .int .i64 0, .int .i64 0, .int .i64 0, .int .i64 0, .int .i64 0, .int .i64 0, .int .i64 0, .int .i64 0, .int .i64 0, .int .i64 0, .int .i64 0, .int .i64 0, .int .i64 0, .int .i64 0, .int .i64 0, .int .i64 0, .int .i64 0, .int .i64 0, .int .i64 0, .int .i64 0, .int .i64 0, .int .i64 0, .int .i64 0] := ⟨by kernel_rfl⟩
instance : HasAr Tryd.prog 122 16 6 := ⟨by kernel_rfl⟩
instance : HasFl Tryd.prog 122 [(0, 6), (6, 6), (12, 6), (18, 6), (24, 6), (30, 6), (36, 6), (42, 6), (48, 6), (54, 6), (60, 6), (66, 6), (72, 6), (78, 6), (84, 6), (90, 6)] := ⟨by kernel_rfl⟩
instance : HasLd Tryd.prog 123 false 1 := ⟨by kernel_rfl⟩
instance : HasZe Tryd.prog 123 [.nilFunc] := ⟨by kernel_rfl⟩
instance : HasLd Tryd.prog 124 false 1 := ⟨by kernel_rfl⟩
instance : HasZe Tryd.prog 124 [.nilFunc] := ⟨by kernel_rfl⟩
instance : HasLd Tryd.prog 125 false 1 := ⟨by kernel_rfl⟩
instance : HasZe Tryd.prog 125 [.nilFunc] := ⟨by kernel_rfl⟩
instance : HasLd Tryd.prog 126 false 1 := ⟨by kernel_rfl⟩
instance : HasZe Tryd.prog 126 [.nilFunc] := ⟨by kernel_rfl⟩
instance : HasLd Tryd.prog 127 false 1 := ⟨by kernel_rfl⟩
instance : HasZe Tryd.prog 127 [.nilFunc] := ⟨by kernel_rfl⟩
instance : HasLd Tryd.prog 128 false 1 := ⟨by kernel_rfl⟩
instance : HasInt Tryd.prog 128 .u32 := ⟨by kernel_rfl⟩
instance : HasZe Tryd.prog 128 [.int .u32 0] := ⟨by kernel_rfl⟩
instance : HasLd Tryd.prog 129 false 1 := ⟨by kernel_rfl⟩
instance : HasZe Tryd.prog 129 [.nilFunc] := ⟨by kernel_rfl⟩
instance : HasLd Tryd.prog 130 false 1 := ⟨by kernel_rfl⟩
instance : HasInt Tryd.prog 130 .u64 := ⟨by kernel_rfl⟩
instance : HasZe Tryd.prog 130 [.int .u64 0] := ⟨by kernel_rfl⟩
instance : HasLd Tryd.prog 131 true 32 := ⟨by kernel_rfl⟩
instance : HasZe Tryd.prog 131 [.int .u8 0, .int .u8 0, .int .u8 0, .int .u8 0, .int .u8 0, .int .u8 0, .int .u8 0, .int .u8 0, .int .u8 0, .int .u8 0, .int .u8 0, .int .u8 0, .int .u8 0, .int .u8 0, .int .u8 0, .int .u8 0, .int .u8 0, .int .u8 0, .int .u8 0, .int .u8 0, .int .u8 0, .int .u8 0, .int .u8 0, .int .u8 0, .int .u8 0, .int .u8 0, .int .u8 0, .int .u8 0, .int .u8 0, .int .u8 0, .int .u8 0, .int .u8 0] := ⟨by kernel_rfl⟩
instance : HasAr Tryd.prog 131 32 1 := ⟨by kernel_rfl⟩
instance : HasFl Tryd.prog 131 [(0, 1), (1, 1), (2, 1), (3, 1), (4, 1), (5, 1), (6, 1), (7, 1), (8, 1), (9, 1), (10, 1), (11, 1), (12, 1), (13, 1), (14, 1), (15, 1), (16, 1), (17, 1), (18, 1), (19, 1), (20, 1), (21, 1), (22, 1), (23, 1), (24, 1), (25, 1), (26, 1), (27, 1), (28, 1), (29, 1), (30, 1), (31, 1)] := ⟨by kernel_rfl⟩
instance : HasLd Tryd.prog 132 true 64 := ⟨by kernel_rfl⟩
instance : HasZe Tryd.prog 132 [.int .u8 0, .int .u8 0, .int .u8 0, .int .u8 0, .int .u8 0, .int .u8 0, .int .u8 0, .int .u8 0, .int .u8 0, .int .u8 0, .int .u8 0, .int .u8 0, .int .u8 0, .int .u8 0, .int .u8 0, .int .u8 0, .int .u8 0, .int .u8 0, .int .u8 0, .int .u8 0, .int .u8 0, .int .u8 0, .int .u8 0, .int .u8 0, .int .u8 0, .int .u8 0, .int .u8 0, .int .u8 0, .int .u8 0, .int .u8 0, .int .u8 0, .int .u8 0, .int .u8 0, .int .u8 0, .int .u8 0, .int .u8 0, .int .u8 0, .int .u8 0, .int .u8 0, .int .u8 0, .int .u8 0, .int .u8 0, .int .u8 0, .int .u8 0, .int .u8 0, .int .u8 0, .int .u8 0, .int .u8 0, .int .u8 0, .int .u8 0, .int .u8 0, .int .u8 0, .int .u8 0, .int .u8 0, .int .u8 0, .int .u8 0, .int .u8 0, .int .u8 0, .int .u8 0, .int .u8 0, .int .u8 0, .int .u8 0, .int .u8 0, .int .u8 0] := ⟨by kernel_rfl⟩
instance : HasAr Tryd.prog 132 64 1 := ⟨by kernel_rfl⟩
instance : HasFl Tryd.prog 132 [(0, 1), (1, 1), (2, 1), (3, 1), (4, 1), (5, 1), (6, 1), (7, 1), (8, 1), (9, 1), (10, 1), (11, 1), (12, 1), (13, 1), (14, 1), (15, 1), (16, 1), (17, 1), (18, 1), (19, 1), (20, 1), (21, 1), (22, 1), (23, 1), (24, 1), (25, 1), (26, 1), (27, 1), (28, 1), (29, 1), (30, 1), (31, 1), (32, 1), (33, 1), (34, 1), (35, 1), (36, 1), (37, 1), (38, 1), (39, 1), (40, 1), (41, 1), (42, 1), (43, 1), (44, 1), (45, 1), (46, 1), (47, 1), (48, 1), (49, 1), (50, 1), (51, 1), (52, 1), (53, 1), (54, 1), (55, 1), (56, 1), (57, 1), (58, 1), (59, 1), (60, 1), (61, 1), (62, 1), (63, 1)] := ⟨by kernel_rfl⟩
instance : HasLd Tryd.prog 133 false 1 := ⟨by kernel_rfl⟩
instance : HasZe Tryd.prog 133 [.nilFunc] := ⟨by kernel_rfl⟩
instance : HasLd Tryd.prog 134 true 4 := ⟨by kernel_rfl⟩
instance : HasZe Tryd.prog 134 [.pointer none, .pointer none, .pointer none, .string ⟨#[]⟩] := ⟨by kernel_rfl⟩
instance : HasFld Tryd.prog 134 0 0 := ⟨by kernel_rfl⟩
instance : HasFldT Tryd.prog 134 0 0 false 1 := ⟨by kernel_rfl⟩
instance : HasFld Tryd.prog 134 1 1 := ⟨by kernel_rfl⟩
instance : HasFldT Tryd.prog 134 1 1 false 1 := ⟨by kernel_rfl⟩
instance : HasFld Tryd.prog 134 2 2 := ⟨by kernel_rfl⟩
instance : HasFldT Tryd.prog 134 2 2 false 1 := ⟨by kernel_rfl⟩
instance : HasFld Tryd.prog 134 3 3 := ⟨by kernel_rfl⟩
instance : HasFldT Tryd.prog 134 3 3 false 1 := ⟨by kernel_rfl⟩
instance : HasFl Tryd.prog 134 [(0, 1), (1, 1), (2, 1), (3, 1)] := ⟨by kernel_rfl⟩
instance : HasLd Tryd.prog 135 true 4 := ⟨by kernel_rfl⟩
instance : HasZe Tryd.prog 135 [.pointer none, .pointer none, .pointer none, .string ⟨#[]⟩] := ⟨by kernel_rfl⟩
instance : HasFld Tryd.prog 135 0 0 := ⟨by kernel_rfl⟩
instance : HasFldT Tryd.prog 135 0 0 false 1 := ⟨by kernel_rfl⟩
instance : HasFld Tryd.prog 135 1 1 := ⟨by kernel_rfl⟩
instance : HasFldT Tryd.prog 135 1 1 false 1 := ⟨by kernel_rfl⟩
instance : HasFld Tryd.prog 135 2 2 := ⟨by kernel_rfl⟩
instance : HasFldT Tryd.prog 135 2 2 false 1 := ⟨by kernel_rfl⟩
instance : HasFld Tryd.prog 135 3 3 := ⟨by kernel_rfl⟩
instance : HasFldT Tryd.prog 135 3 3 false 1 := ⟨by kernel_rfl⟩
instance : HasFl Tryd.prog 135 [(0, 1), (1, 1), (2, 1), (3, 1)] := ⟨by kernel_rfl⟩
instance : HasLd Tryd.prog 136 true 0 := ⟨by kernel_rfl⟩
instance : HasAr Tryd.prog 136 0 1 := ⟨by kernel_rfl⟩
instance : HasFl Tryd.prog 136 [] := ⟨by kernel_rfl⟩
instance : HasLd Tryd.prog 137 true 0 := ⟨by kernel_rfl⟩
instance : HasFl Tryd.prog 137 [(0, 0)] := ⟨by kernel_rfl⟩
instance : HasLd Tryd.prog 138 true 0 := ⟨by kernel_rfl⟩
instance : HasFl Tryd.prog 138 [(0, 0)] := ⟨by kernel_rfl⟩
instance : HasLd Tryd.prog 139 false 1 := ⟨by kernel_rfl⟩
instance : HasInt Tryd.prog 139 .u8 := ⟨by kernel_rfl⟩
instance : HasZe Tryd.prog 139 [.int .u8 0] := ⟨by kernel_rfl⟩
instance : HasLd Tryd.prog 140 false 1 := ⟨by kernel_rfl⟩
instance : HasInt Tryd.prog 140 .u8 := ⟨by kernel_rfl⟩
instance : HasZe Tryd.prog 140 [.int .u8 0] := ⟨by kernel_rfl⟩
instance : HasLd Tryd.prog 141 false 1 := ⟨by kernel_rfl⟩
instance : HasZe Tryd.prog 141 [.nilFunc] := ⟨by kernel_rfl⟩
instance : HasLd Tryd.prog 142 false 1 := ⟨by kernel_rfl⟩
instance : HasZe Tryd.prog 142 [.pointer none] := ⟨by kernel_rfl⟩
instance : HasPtr Tryd.prog 142 := ⟨5, by kernel_rfl⟩
instance : HasLd Tryd.prog 143 false 1 := ⟨by kernel_rfl⟩
instance : HasInt Tryd.prog 143 .i32 := ⟨by kernel_rfl⟩
instance : HasZe Tryd.prog 143 [.int .i32 0] := ⟨by kernel_rfl⟩
instance : HasLd Tryd.prog 144 false 1 := ⟨by kernel_rfl⟩
instance : HasInt Tryd.prog 144 .i32 := ⟨by kernel_rfl⟩
instance : HasZe Tryd.prog 144 [.int .i32 0] := ⟨by kernel_rfl⟩
instance : HasLd Tryd.prog 145 true 11 := ⟨by kernel_rfl⟩
instance : HasZe Tryd.prog 145 [.int .u64 0, .int .u64 0, .int .u32 0, .int .u8 0, .int .u8 0, .int .u8 0, .int .u8 0, .nilFunc, .pointer none, .int .i32 0, .int .i32 0] := ⟨by kernel_rfl⟩
instance : HasFld Tryd.prog 145 0 0 := ⟨by kernel_rfl⟩
instance : HasFldT Tryd.prog 145 0 0 false 1 := ⟨by kernel_rfl⟩
instance : HasFld Tryd.prog 145 1 1 := ⟨by kernel_rfl⟩
instance : HasFldT Tryd.prog 145 1 1 false 1 := ⟨by kernel_rfl⟩
instance : HasFld Tryd.prog 145 2 2 := ⟨by kernel_rfl⟩
instance : HasFldT Tryd.prog 145 2 2 false 1 := ⟨by kernel_rfl⟩
instance : HasFld Tryd.prog 145 3 3 := ⟨by kernel_rfl⟩
instance : HasFldT Tryd.prog 145 3 3 false 1 := ⟨by kernel_rfl⟩
instance : HasFld Tryd.prog 145 4 4 := ⟨by kernel_rfl⟩
instance : HasFldT Tryd.prog 145 4 4 false 1 := ⟨by kernel_rfl⟩
instance : HasFld Tryd.prog 145 5 5 := ⟨by kernel_rfl⟩
instance : HasFldT Tryd.prog 145 5 5 false 1 := ⟨by kernel_rfl⟩
instance : HasFld Tryd.prog 145 6 6 := ⟨by kernel_rfl⟩
instance : HasFldT Tryd.prog 145 6 6 false 1 := ⟨by kernel_rfl⟩
instance : HasFld Tryd.prog 145 7 7 := ⟨by kernel_rfl⟩
instance : HasFldT Tryd.prog 145 7 7 false 1 := ⟨by kernel_rfl⟩
instance : HasFld Tryd.prog 145 8 8 := ⟨by kernel_rfl⟩
instance : HasFldT Tryd.prog 145 8 8 false 1 := ⟨by kernel_rfl⟩
instance : HasFld Tryd.prog 145 9 9 := ⟨by kernel_rfl⟩
instance : HasFldT Tryd.prog 145 9 9 false 1 := ⟨by kernel_rfl⟩
instance : HasFld Tryd.prog 145 10 10 := ⟨by kernel_rfl⟩
instance : HasFldT Tryd.prog 145 10 10 false 1 := ⟨by kernel_rfl⟩
instance : HasFl Tryd.prog 145 [(0, 1), (1, 1), (2, 1), (3, 1), (4, 1), (5, 1), (6, 1), (7, 1), (8, 1), (9, 1), (10, 1)] := ⟨by kernel_rfl⟩
instance : HasLd Tryd.prog 146 true 11 := ⟨by kernel_rfl⟩
instance : HasZe Tryd.prog 146 [.int .u64 0, .int .u64 0, .int .u32 0, .int .u8 0, .int .u8 0, .int .u8 0, .int .u8 0, .nilFunc, .pointer none, .int .i32 0, .int .i32 0] := ⟨by kernel_rfl⟩
instance : HasFld Tryd.prog 146 0 0 := ⟨by kernel_rfl⟩
instance : HasFldT Tryd.prog 146 0 0 false 1 := ⟨by kernel_rfl⟩
instance : HasFld Tryd.prog 146 1 1 := ⟨by kernel_rfl⟩
instance : HasFldT Tryd.prog 146 1 1 false 1 := ⟨by kernel_rfl⟩
instance : HasFld Tryd.prog 146 2 2 := ⟨by kernel_rfl⟩
instance : HasFldT Tryd.prog 146 2 2 false 1 := ⟨by kernel_rfl⟩
instance : HasFld Tryd.prog 146 3 3 := ⟨by kernel_rfl⟩
instance : HasFldT Tryd.prog 146 3 3 false 1 := ⟨by kernel_rfl⟩
instance : HasFld Tryd.prog 146 4 4 := ⟨by kernel_rfl⟩
instance : HasFldT Tryd.prog 146 4 4 false 1 := ⟨by kernel_rfl⟩
instance : HasFld Tryd.prog 146 5 5 := ⟨by kernel_rfl⟩
instance : HasFldT Tryd.prog 146 5 5 false 1 := ⟨by kernel_rfl⟩
instance : HasFld Tryd.prog 146 6 6 := ⟨by kernel_rfl⟩
instance : HasFldT Tryd.prog 146 6 6 false 1 := ⟨by kernel_rfl⟩
instance : HasFld Tryd.prog 146 7 7 := ⟨by kernel_rfl⟩
instance : HasFldT Tryd.prog 146 7 7 false 1 := ⟨by kernel_rfl⟩
instance : HasFld Tryd.prog 146 8 8 := ⟨by kernel_rfl⟩
instance : HasFldT Tryd.prog 146 8 8 false 1 := ⟨by kernel_rfl⟩
instance : HasFld Tryd.prog 146 9 9 := ⟨by kernel_rfl⟩
instance : HasFldT Tryd.prog 146 9 9 false 1 := ⟨by kernel_rfl⟩
instance : HasFld Tryd.prog 146 10 10 := ⟨by kernel_rfl⟩
instance : HasFldT Tryd.prog 146 10 10 false 1 := ⟨by kernel_rfl⟩
instance : HasFl Tryd.prog 146 [(0, 1), (1, 1), (2, 1), (3, 1), (4, 1), (5, 1), (6, 1), (7, 1), (8, 1), (9, 1), (10, 1)] := ⟨by kernel_rfl⟩
def ti1 : TI := { ld := some (false, 1), ze := some [.nilFunc] }
theorem ti1ok : TIok Tryd.prog 1 ti1 := ⟨.inr (by kernel_rfl), .inl rfl, .inl rfl, .inl rfl, .inl rfl, trivial, .inl rfl, .inl rfl, .inr (by kernel_rfl)⟩
def ti2 : TI := { ld := some (false, 1), ik := some .i64, ze := some [.int .i64 0] }
theorem ti2ok : TIok Tryd.prog 2 ti2 := ⟨.inr (by kernel_rfl), .inr (by kernel_rfl), .inl rfl, .inl rfl, .inl rfl, trivial, .inl rfl, .inl rfl, .inr (by kernel_rfl)⟩
def ti3 : TI := { ld := some (false, 1), ik := some .i64, ze := some [.int .i64 0] }
theorem ti3ok : TIok Tryd.prog 3 ti3 := ⟨.inr (by kernel_rfl), .inr (by kernel_rfl), .inl rfl, .inl rfl, .inl rfl, trivial, .inl rfl, .inl rfl, .inr (by kernel_rfl)⟩
def ti4 : TI := { ld := some (false, 1), bo := true, ze := some [.bool false] }
theorem ti4ok : TIok Tryd.prog 4 ti4 := ⟨.inr (by kernel_rfl), .inl rfl, .inl rfl, .inl rfl, .inl rfl, trivial, .inl rfl, .inr (by kernel_rfl), .inr (by kernel_rfl)⟩
def ti5 : TI := { ld := some (false, 1), ik := some .u8, ze := some [.int .u8 0] }
theorem ti5ok : TIok Tryd.prog 5 ti5 := ⟨.inr (by kernel_rfl), .inr (by kernel_rfl), .inl rfl, .inl rfl, .inl rfl, trivial, .inl rfl, .inl rfl, .inr (by kernel_rfl)⟩
def ti6 : TI := { ld := some (false, 1), ik := some .u8, ze := some [.int .u8 0] }
theorem ti6ok : TIok Tryd.prog 6 ti6 := ⟨.inr (by kernel_rfl), .inr (by kernel_rfl), .inl rfl, .inl rfl, .inl rfl, trivial, .inl rfl, .inl rfl, .inr (by kernel_rfl)⟩
def ti7 : TI := { ld := some (true, 4), fl := [some (0, false, 1), some (1, false, 1), some (2, false, 1), some (3, false, 1)], ze := some [.int .i64 0, .int .i64 0, .bool false, .int .u8 0] }
theorem ti7ok : TIok Tryd.prog 7 ti7 := ⟨.inr (by kernel_rfl), .inl rfl, .inl rfl, .inl rfl, .inl rfl, ⟨⟨by kernel_rfl, by kernel_rfl⟩, ⟨by kernel_rfl, by kernel_rfl⟩, ⟨by kernel_rfl, by kernel_rfl⟩, ⟨by kernel_rfl, by kernel_rfl⟩, trivial⟩, .inl rfl, .inl rfl, .inr (by kernel_rfl)⟩
def ti8 : TI := { ld := some (true, 4), fl := [some (0, false, 1), some (1, false, 1), some (2, false, 1), some (3, false, 1)], ze := some [.int .i64 0, .int .i64 0, .bool false, .int .u8 0] }
theorem ti8ok : TIok Tryd.prog 8 ti8 := ⟨.inr (by kernel_rfl), .inl rfl, .inl rfl, .inl rfl, .inl rfl, ⟨⟨by kernel_rfl, by kernel_rfl⟩, ⟨by kernel_rfl, by kernel_rfl⟩, ⟨by kernel_rfl, by kernel_rfl⟩, ⟨by kernel_rfl, by kernel_rfl⟩, trivial⟩, .inl rfl, .inl rfl, .inr (by kernel_rfl)⟩
def ti9 : TI := { ld := some (false, 1), st := true, ze := some [.string ⟨#[]⟩] }
theorem ti9ok : TIok Tryd.prog 9 ti9 := ⟨.inr (by kernel_rfl), .inl rfl, .inr (by kernel_rfl), .inl rfl, .inl rfl, trivial, .inl rfl, .inl rfl, .inr (by kernel_rfl)⟩
def ti10 : TI := { ld := some (false, 1), st := true, ze := some [.string ⟨#[]⟩] }
theorem ti10ok : TIok Tryd.prog 10 ti10 := ⟨.inr (by kernel_rfl), .inl rfl, .inr (by kernel_rfl), .inl rfl, .inl rfl, trivial, .inl rfl, .inl rfl, .inr (by kernel_rfl)⟩
def ti11 : TI := { ld := some (false, 1), st := true, ze := some [.string ⟨#[]⟩] }
theorem ti11ok : TIok Tryd.prog 11 ti11 := ⟨.inr (by kernel_rfl), .inl rfl, .inr (by kernel_rfl), .inl rfl, .inl rfl, trivial, .inl rfl, .inl rfl, .inr (by kernel_rfl)⟩
def ti12 : TI := { ld := some (false, 1), ik := some .u64, ze := some [.int .u64 0] }
theorem ti12ok : TIok Tryd.prog 12 ti12 := ⟨.inr (by kernel_rfl), .inr (by kernel_rfl), .inl rfl, .inl rfl, .inl rfl, trivial, .inl rfl, .inl rfl, .inr (by kernel_rfl)⟩
def ti13 : TI := { ld := some (true, 2), fl := [some (0, false, 1), some (1, false, 1)], ze := some [.string ⟨#[]⟩, .int .u64 0] }
theorem ti13ok : TIok Tryd.prog 13 ti13 := ⟨.inr (by kernel_rfl), .inl rfl, .inl rfl, .inl rfl, .inl rfl, ⟨⟨by kernel_rfl, by kernel_rfl⟩, ⟨by kernel_rfl, by kernel_rfl⟩, trivial⟩, .inl rfl, .inl rfl, .inr (by kernel_rfl)⟩
def ti14 : TI := { ld := some (true, 2), fl := [some (0, false, 1), some (1, false, 1)], ze := some [.string ⟨#[]⟩, .int .u64 0] }
theorem ti14ok : TIok Tryd.prog 14 ti14 := ⟨.inr (by kernel_rfl), .inl rfl, .inl rfl, .inl rfl, .inl rfl, ⟨⟨by kernel_rfl, by kernel_rfl⟩, ⟨by kernel_rfl, by kernel_rfl⟩, trivial⟩, .inl rfl, .inl rfl, .inr (by kernel_rfl)⟩
def ti15 : TI := { ld := some (false, 1), pt := true, ze := some [.pointer none] }
theorem ti15ok : TIok Tryd.prog 15 ti15 := ⟨.inr (by kernel_rfl), .inl rfl, .inl rfl, .inl rfl, .inl rfl, trivial, .inr ⟨135, by kernel_rfl⟩, .inl rfl, .inr (by kernel_rfl)⟩
def ti16 : TI := { ld := some (false, 1), pt := true, ze := some [.pointer none] }
theorem ti16ok : TIok Tryd.prog 16 ti16 := ⟨.inr (by kernel_rfl), .inl rfl, .inl rfl, .inl rfl, .inl rfl, trivial, .inr ⟨138, by kernel_rfl⟩, .inl rfl, .inr (by kernel_rfl)⟩
def ti17 : TI := { ld := some (false, 1), pt := true, ze := some [.pointer none] }
theorem ti17ok : TIok Tryd.prog 17 ti17 := ⟨.inr (by kernel_rfl), .inl rfl, .inl rfl, .inl rfl, .inl rfl, trivial, .inr ⟨146, by kernel_rfl⟩, .inl rfl, .inr (by kernel_rfl)⟩
def ti18 : TI := { ld := some (true, 1), fl := [some (0, false, 1)], ze := some [.pointer none] }
theorem ti18ok : TIok Tryd.prog 18 ti18 := ⟨.inr (by kernel_rfl), .inl rfl, .inl rfl, .inl rfl, .inl rfl, ⟨⟨by kernel_rfl, by kernel_rfl⟩, trivial⟩, .inl rfl, .inl rfl, .inr (by kernel_rfl)⟩
def ti19 : TI := { ld := some (true, 1), fl := [some (0, false, 1)], ze := some [.pointer none] }
theorem ti19ok : TIok Tryd.prog 19 ti19 := ⟨.inr (by kernel_rfl), .inl rfl, .inl rfl, .inl rfl, .inl rfl, ⟨⟨by kernel_rfl, by kernel_rfl⟩, trivial⟩, .inl rfl, .inl rfl, .inr (by kernel_rfl)⟩
def ti21 : TI := { ld := some (false, 1), ik := some .i32, ze := some [.int .i32 0] }
theorem ti21ok : TIok Tryd.prog 21 ti21 := ⟨.inr (by kernel_rfl), .inr (by kernel_rfl), .inl rfl, .inl rfl, .inl rfl, trivial, .inl rfl, .inl rfl, .inr (by kernel_rfl)⟩
def ti22 : TI := { ld := some (false, 1), sl := some (67, 3, 24), ze := some [.slice none 0 0] }
theorem ti22ok : TIok Tryd.prog 22 ti22 := ⟨.inr (by kernel_rfl), .inl rfl, .inl rfl, .inr (by kernel_rfl), .inl rfl, trivial, .inl rfl, .inl rfl, .inr (by kernel_rfl)⟩
def ti23 : TI := { ld := some (true, 3), fl := [some (0, false, 1), some (1, false, 1), some (2, false, 1)], ze := some [.int .i64 0, .int .i64 0, .slice none 0 0] }
theorem ti23ok : TIok Tryd.prog 23 ti23 := ⟨.inr (by kernel_rfl), .inl rfl, .inl rfl, .inl rfl, .inl rfl, ⟨⟨by kernel_rfl, by kernel_rfl⟩, ⟨by kernel_rfl, by kernel_rfl⟩, ⟨by kernel_rfl, by kernel_rfl⟩, trivial⟩, .inl rfl, .inl rfl, .inr (by kernel_rfl)⟩
def ti24 : TI := { ld := some (true, 3), fl := [some (0, false, 1), some (1, false, 1), some (2, false, 1)], ze := some [.int .i64 0, .int .i64 0, .slice none 0 0] }
theorem ti24ok : TIok Tryd.prog 24 ti24 := ⟨.inr (by kernel_rfl), .inl rfl, .inl rfl, .inl rfl, .inl rfl, ⟨⟨by kernel_rfl, by kernel_rfl⟩, ⟨by kernel_rfl, by kernel_rfl⟩, ⟨by kernel_rfl, by kernel_rfl⟩, trivial⟩, .inl rfl, .inl rfl, .inr (by kernel_rfl)⟩
def ti25 : TI := { ld := some (false, 1), sl := some (55, 1, 24), ze := some [.slice none 0 0] }
theorem ti25ok : TIok Tryd.prog 25 ti25 := ⟨.inr (by kernel_rfl), .inl rfl, .inl rfl, .inr (by kernel_rfl), .inl rfl, trivial, .inl rfl, .inl rfl, .inr (by kernel_rfl)⟩
def ti26 : TI := { ld := some (false, 1), sl := some (4, 1, 1), ze := some [.slice none 0 0] }
theorem ti26ok : TIok Tryd.prog 26 ti26 := ⟨.inr (by kernel_rfl), .inl rfl, .inl rfl, .inr (by kernel_rfl), .inl rfl, trivial, .inl rfl, .inl rfl, .inr (by kernel_rfl)⟩
def ti27 : TI := { ld := some (true, 3), fl := [some (0, false, 1), some (1, false, 1), some (2, false, 1)], ze := some [.int .i64 0, .slice none 0 0, .slice none 0 0] }
theorem ti27ok : TIok Tryd.prog 27 ti27 := ⟨.inr (by kernel_rfl), .inl rfl, .inl rfl, .inl rfl, .inl rfl, ⟨⟨by kernel_rfl, by kernel_rfl⟩, ⟨by kernel_rfl, by kernel_rfl⟩, ⟨by kernel_rfl, by kernel_rfl⟩, trivial⟩, .inl rfl, .inl rfl, .inr (by kernel_rfl)⟩
def ti28 : TI := { ld := some (true, 3), fl := [some (0, false, 1), some (1, false, 1), some (2, false, 1)], ze := some [.int .i64 0, .slice none 0 0, .slice none 0 0] }
theorem ti28ok : TIok Tryd.prog 28 ti28 := ⟨.inr (by kernel_rfl), .inl rfl, .inl rfl, .inl rfl, .inl rfl, ⟨⟨by kernel_rfl, by kernel_rfl⟩, ⟨by kernel_rfl, by kernel_rfl⟩, ⟨by kernel_rfl, by kernel_rfl⟩, trivial⟩, .inl rfl, .inl rfl, .inr (by kernel_rfl)⟩
def ti29 : TI := { ld := some (false, 1), ze := some [.nilFunc] }
theorem ti29ok : TIok Tryd.prog 29 ti29 := ⟨.inr (by kernel_rfl), .inl rfl, .inl rfl, .inl rfl, .inl rfl, trivial, .inl rfl, .inl rfl, .inr (by kernel_rfl)⟩
def ti30 : TI := { ld := some (false, 1), ze := some [.nilFunc] }
theorem ti30ok : TIok Tryd.prog 30 ti30 := ⟨.inr (by kernel_rfl), .inl rfl, .inl rfl, .inl rfl, .inl rfl, trivial, .inl rfl, .inl rfl, .inr (by kernel_rfl)⟩
def ti31 : TI := { ld := some (false, 1), ze := some [.nilFunc] }
theorem ti31ok : TIok Tryd.prog 31 ti31 := ⟨.inr (by kernel_rfl), .inl rfl, .inl rfl, .inl rfl, .inl rfl, trivial, .inl rfl, .inl rfl, .inr (by kernel_rfl)⟩
def ti32 : TI := { ld := some (false, 1), sl := some (65, 3, 24), ze := some [.slice none 0 0] }
theorem ti32ok : TIok Tryd.prog 32 ti32 := ⟨.inr (by kernel_rfl), .inl rfl, .inl rfl, .inr (by kernel_rfl), .inl rfl, trivial, .inl rfl, .inl rfl, .inr (by kernel_rfl)⟩
def ti33 : TI := { ld := some (true, 3), fl := [some (0, false, 1), some (1, false, 1), some (2, false, 1)], ze := some [.int .i64 0, .int .i64 0, .slice none 0 0] }
theorem ti33ok : TIok Tryd.prog 33 ti33 := ⟨.inr (by kernel_rfl), .inl rfl, .inl rfl, .inl rfl, .inl rfl, ⟨⟨by kernel_rfl, by kernel_rfl⟩, ⟨by kernel_rfl, by kernel_rfl⟩, ⟨by kernel_rfl, by kernel_rfl⟩, trivial⟩, .inl rfl, .inl rfl, .inr (by kernel_rfl)⟩
def ti34 : TI := { ld := some (true, 3), fl := [some (0, false, 1), some (1, false, 1), some (2, false, 1)], ze := some [.int .i64 0, .int .i64 0, .slice none 0 0] }
theorem ti34ok : TIok Tryd.prog 34 ti34 := ⟨.inr (by kernel_rfl), .inl rfl, .inl rfl, .inl rfl, .inl rfl, ⟨⟨by kernel_rfl, by kernel_rfl⟩, ⟨by kernel_rfl, by kernel_rfl⟩, ⟨by kernel_rfl, by kernel_rfl⟩, trivial⟩, .inl rfl, .inl rfl, .inr (by kernel_rfl)⟩
def ti35 : TI := { ld := some (false, 1), ze := some [.nilFunc] }
theorem ti35ok : TIok Tryd.prog 35 ti35 := ⟨.inr (by kernel_rfl), .inl rfl, .inl rfl, .inl rfl, .inl rfl, trivial, .inl rfl, .inl rfl, .inr (by kernel_rfl)⟩
def ti36 : TI := { ld := some (true, 3), fl := [some (0, false, 1), some (1, false, 1), some (2, false, 1)], ze := some [.int .i64 0, .slice none 0 0, .slice none 0 0] }
theorem ti36ok : TIok Tryd.prog 36 ti36 := ⟨.inr (by kernel_rfl), .inl rfl, .inl rfl, .inl rfl, .inl rfl, ⟨⟨by kernel_rfl, by kernel_rfl⟩, ⟨by kernel_rfl, by kernel_rfl⟩, ⟨by kernel_rfl, by kernel_rfl⟩, trivial⟩, .inl rfl, .inl rfl, .inr (by kernel_rfl)⟩
def ti37 : TI := { ld := some (false, 1), ze := some [.nilFunc] }
theorem ti37ok : TIok Tryd.prog 37 ti37 := ⟨.inr (by kernel_rfl), .inl rfl, .inl rfl, .inl rfl, .inl rfl, trivial, .inl rfl, .inl rfl, .inr (by kernel_rfl)⟩
def ti38 : TI := { ld := some (false, 1), ze := some [.nilFunc] }
theorem ti38ok : TIok Tryd.prog 38 ti38 := ⟨.inr (by kernel_rfl), .inl rfl, .inl rfl, .inl rfl, .inl rfl, trivial, .inl rfl, .inl rfl, .inr (by kernel_rfl)⟩
def ti39 : TI := { ld := some (false, 1), ze := some [.nilFunc] }
theorem ti39ok : TIok Tryd.prog 39 ti39 := ⟨.inr (by kernel_rfl), .inl rfl, .inl rfl, .inl rfl, .inl rfl, trivial, .inl rfl, .inl rfl, .inr (by kernel_rfl)⟩
def ti40 : TI := { ld := some (false, 1), ze := some [.nilFunc] }
theorem ti40ok : TIok Tryd.prog 40 ti40 := ⟨.inr (by kernel_rfl), .inl rfl, .inl rfl, .inl rfl, .inl rfl, trivial, .inl rfl, .inl rfl, .inr (by kernel_rfl)⟩
def ti41 : TI := { ld := some (false, 1), ze := some [.nilFunc] }
theorem ti41ok : TIok Tryd.prog 41 ti41 := ⟨.inr (by kernel_rfl), .inl rfl, .inl rfl, .inl rfl, .inl rfl, trivial, .inl rfl, .inl rfl, .inr (by kernel_rfl)⟩
def ti42 : TI := { ld := some (false, 1), ze := some [.nilFunc] }
theorem ti42ok : TIok Tryd.prog 42 ti42 := ⟨.inr (by kernel_rfl), .inl rfl, .inl rfl, .inl rfl, .inl rfl, trivial, .inl rfl, .inl rfl, .inr (by kernel_rfl)⟩
def ti43 : TI := { ld := some (false, 1), ze := some [.nilFunc] }
theorem ti43ok : TIok Tryd.prog 43 ti43 := ⟨.inr (by kernel_rfl), .inl rfl, .inl rfl, .inl rfl, .inl rfl, trivial, .inl rfl, .inl rfl, .inr (by kernel_rfl)⟩
def ti44 : TI := { ld := some (false, 1), ze := some [.nilFunc] }
theorem ti44ok : TIok Tryd.prog 44 ti44 := ⟨.inr (by kernel_rfl), .inl rfl, .inl rfl, .inl rfl, .inl rfl, trivial, .inl rfl, .inl rfl, .inr (by kernel_rfl)⟩
def ti45 : TI := { ld := some (false, 1), ze := some [.nilFunc] }
theorem ti45ok : TIok Tryd.prog 45 ti45 := ⟨.inr (by kernel_rfl), .inl rfl, .inl rfl, .inl rfl, .inl rfl, trivial, .inl rfl, .inl rfl, .inr (by kernel_rfl)⟩
def ti46 : TI := { ld := some (false, 1), ze := some [.nilFunc] }
theorem ti46ok : TIok Tryd.prog 46 ti46 := ⟨.inr (by kernel_rfl), .inl rfl, .inl rfl, .inl rfl, .inl rfl, trivial, .inl rfl, .inl rfl, .inr (by kernel_rfl)⟩
def ti47 : TI := { ld := some (false, 1), ze := some [.nilFunc] }
theorem ti47ok : TIok Tryd.prog 47 ti47 := ⟨.inr (by kernel_rfl), .inl rfl, .inl rfl, .inl rfl, .inl rfl, trivial, .inl rfl, .inl rfl, .inr (by kernel_rfl)⟩
def ti48 : TI := { ld := some (false, 1), ze := some [.nilFunc] }
theorem ti48ok : TIok Tryd.prog 48 ti48 := ⟨.inr (by kernel_rfl), .inl rfl, .inl rfl, .inl rfl, .inl rfl, trivial, .inl rfl, .inl rfl, .inr (by kernel_rfl)⟩
def ti49 : TI := { ld := some (false, 1), ze := some [.nilFunc] }
theorem ti49ok : TIok Tryd.prog 49 ti49 := ⟨.inr (by kernel_rfl), .inl rfl, .inl rfl, .inl rfl, .inl rfl, trivial, .inl rfl, .inl rfl, .inr (by kernel_rfl)⟩
def ti50 : TI := { ld := some (false, 1), ze := some [.nilFunc] }
theorem ti50ok : TIok Tryd.prog 50 ti50 := ⟨.inr (by kernel_rfl), .inl rfl, .inl rfl, .inl rfl, .inl rfl, trivial, .inl rfl, .inl rfl, .inr (by kernel_rfl)⟩
def ti51 : TI := { ld := some (false, 1), ze := some [.nilFunc] }
theorem ti51ok : TIok Tryd.prog 51 ti51 := ⟨.inr (by kernel_rfl), .inl rfl, .inl rfl, .inl rfl, .inl rfl, trivial, .inl rfl, .inl rfl, .inr (by kernel_rfl)⟩
def ti52 : TI := { ld := some (false, 1), ze := some [.nilFunc] }
theorem ti52ok : TIok Tryd.prog 52 ti52 := ⟨.inr (by kernel_rfl), .inl rfl, .inl rfl, .inl rfl, .inl rfl, trivial, .inl rfl, .inl rfl, .inr (by kernel_rfl)⟩
def ti53 : TI := { ld := some (false, 1), ze := some [.nilFunc] }
theorem ti53ok : TIok Tryd.prog 53 ti53 := ⟨.inr (by kernel_rfl), .inl rfl, .inl rfl, .inl rfl, .inl rfl, trivial, .inl rfl, .inl rfl, .inr (by kernel_rfl)⟩
def ti54 : TI := { ld := some (false, 1), ze := some [.nilFunc] }
theorem ti54ok : TIok Tryd.prog 54 ti54 := ⟨.inr (by kernel_rfl), .inl rfl, .inl rfl, .inl rfl, .inl rfl, trivial, .inl rfl, .inl rfl, .inr (by kernel_rfl)⟩
def ti55 : TI := { ld := some (false, 1), sl := some (3, 1, 8), ze := some [.slice none 0 0] }
theorem ti55ok : TIok Tryd.prog 55 ti55 := ⟨.inr (by kernel_rfl), .inl rfl, .inl rfl, .inr (by kernel_rfl), .inl rfl, trivial, .inl rfl, .inl rfl, .inr (by kernel_rfl)⟩
def ti56 : TI := { ld := some (false, 1), ze := some [.nilFunc] }
theorem ti56ok : TIok Tryd.prog 56 ti56 := ⟨.inr (by kernel_rfl), .inl rfl, .inl rfl, .inl rfl, .inl rfl, trivial, .inl rfl, .inl rfl, .inr (by kernel_rfl)⟩
def ti57 : TI := { ld := some (false, 1), ze := some [.nilFunc] }
theorem ti57ok : TIok Tryd.prog 57 ti57 := ⟨.inr (by kernel_rfl), .inl rfl, .inl rfl, .inl rfl, .inl rfl, trivial, .inl rfl, .inl rfl, .inr (by kernel_rfl)⟩
def ti58 : TI := { ld := some (false, 1), ze := some [.nilFunc] }
theorem ti58ok : TIok Tryd.prog 58 ti58 := ⟨.inr (by kernel_rfl), .inl rfl, .inl rfl, .inl rfl, .inl rfl, trivial, .inl rfl, .inl rfl, .inr (by kernel_rfl)⟩
def ti59 : TI := { ld := some (false, 1), ze := some [.nilFunc] }
theorem ti59ok : TIok Tryd.prog 59 ti59 := ⟨.inr (by kernel_rfl), .inl rfl, .inl rfl, .inl rfl, .inl rfl, trivial, .inl rfl, .inl rfl, .inr (by kernel_rfl)⟩
def ti61 : TI := { ld := some (false, 1), ze := some [.nilFunc] }
theorem ti61ok : TIok Tryd.prog 61 ti61 := ⟨.inr (by kernel_rfl), .inl rfl, .inl rfl, .inl rfl, .inl rfl, trivial, .inl rfl, .inl rfl, .inr (by kernel_rfl)⟩
def ti62 : TI := { ld := some (false, 1), ze := some [.nilFunc] }
theorem ti62ok : TIok Tryd.prog 62 ti62 := ⟨.inr (by kernel_rfl), .inl rfl, .inl rfl, .inl rfl, .inl rfl, trivial, .inl rfl, .inl rfl, .inr (by kernel_rfl)⟩
def ti63 : TI := { ld := some (false, 1), sl := some (34, 3, 40), ze := some [.slice none 0 0] }
theorem ti63ok : TIok Tryd.prog 63 ti63 := ⟨.inr (by kernel_rfl), .inl rfl, .inl rfl, .inr (by kernel_rfl), .inl rfl, trivial, .inl rfl, .inl rfl, .inr (by kernel_rfl)⟩
def ti64 : TI := { ld := some (true, 3), fl := [some (0, false, 1), some (1, false, 1), some (2, false, 1)], ze := some [.int .i64 0, .int .i64 0, .int .i64 0] }
theorem ti64ok : TIok Tryd.prog 64 ti64 := ⟨.inr (by kernel_rfl), .inl rfl, .inl rfl, .inl rfl, .inl rfl, ⟨⟨by kernel_rfl, by kernel_rfl⟩, ⟨by kernel_rfl, by kernel_rfl⟩, ⟨by kernel_rfl, by kernel_rfl⟩, trivial⟩, .inl rfl, .inl rfl, .inr (by kernel_rfl)⟩
def ti65 : TI := { ld := some (true, 3), fl := [some (0, false, 1), some (1, false, 1), some (2, false, 1)], ze := some [.int .i64 0, .int .i64 0, .int .i64 0] }
theorem ti65ok : TIok Tryd.prog 65 ti65 := ⟨.inr (by kernel_rfl), .inl rfl, .inl rfl, .inl rfl, .inl rfl, ⟨⟨by kernel_rfl, by kernel_rfl⟩, ⟨by kernel_rfl, by kernel_rfl⟩, ⟨by kernel_rfl, by kernel_rfl⟩, trivial⟩, .inl rfl, .inl rfl, .inr (by kernel_rfl)⟩
def ti66 : TI := { ld := some (false, 1), ze := some [.nilFunc] }
theorem ti66ok : TIok Tryd.prog 66 ti66 := ⟨.inr (by kernel_rfl), .inl rfl, .inl rfl, .inl rfl, .inl rfl, trivial, .inl rfl, .inl rfl, .inr (by kernel_rfl)⟩
def ti67 : TI := { ld := some (true, 3), fl := [some (0, false, 1), some (1, false, 1), some (2, false, 1)], ze := some [.int .i64 0, .int .i64 0, .int .i64 0] }
theorem ti67ok : TIok Tryd.prog 67 ti67 := ⟨.inr (by kernel_rfl), .inl rfl, .inl rfl, .inl rfl, .inl rfl, ⟨⟨by kernel_rfl, by kernel_rfl⟩, ⟨by kernel_rfl, by kernel_rfl⟩, ⟨by kernel_rfl, by kernel_rfl⟩, trivial⟩, .inl rfl, .inl rfl, .inr (by kernel_rfl)⟩
def ti68 : TI := { ld := some (false, 1), ze := some [.nilFunc] }
theorem ti68ok : TIok Tryd.prog 68 ti68 := ⟨.inr (by kernel_rfl), .inl rfl, .inl rfl, .inl rfl, .inl rfl, trivial, .inl rfl, .inl rfl, .inr (by kernel_rfl)⟩
def ti69 : TI := { ld := some (false, 1), ze := some [.nilFunc] }
theorem ti69ok : TIok Tryd.prog 69 ti69 := ⟨.inr (by kernel_rfl), .inl rfl, .inl rfl, .inl rfl, .inl rfl, trivial, .inl rfl, .inl rfl, .inr (by kernel_rfl)⟩
def ti70 : TI := { ld := some (false, 1), ze := some [.nilFunc] }
theorem ti70ok : TIok Tryd.prog 70 ti70 := ⟨.inr (by kernel_rfl), .inl rfl, .inl rfl, .inl rfl, .inl rfl, trivial, .inl rfl, .inl rfl, .inr (by kernel_rfl)⟩
def ti71 : TI := { ld := some (false, 1), ze := some [.nilFunc] }
theorem ti71ok : TIok Tryd.prog 71 ti71 := ⟨.inr (by kernel_rfl), .inl rfl, .inl rfl, .inl rfl, .inl rfl, trivial, .inl rfl, .inl rfl, .inr (by kernel_rfl)⟩
def ti72 : TI := { ld := some (false, 1), ze := some [.nilFunc] }
theorem ti72ok : TIok Tryd.prog 72 ti72 := ⟨.inr (by kernel_rfl), .inl rfl, .inl rfl, .inl rfl, .inl rfl, trivial, .inl rfl, .inl rfl, .inr (by kernel_rfl)⟩
def ti73 : TI := { ld := some (false, 1), ze := some [.nilFunc] }
theorem ti73ok : TIok Tryd.prog 73 ti73 := ⟨.inr (by kernel_rfl), .inl rfl, .inl rfl, .inl rfl, .inl rfl, trivial, .inl rfl, .inl rfl, .inr (by kernel_rfl)⟩
def ti74 : TI := { ld := some (false, 1), sl := some (36, 3, 56), ze := some [.slice none 0 0] }
theorem ti74ok : TIok Tryd.prog 74 ti74 := ⟨.inr (by kernel_rfl), .inl rfl, .inl rfl, .inr (by kernel_rfl), .inl rfl, trivial, .inl rfl, .inl rfl, .inr (by kernel_rfl)⟩
def ti75 : TI := { ld := some (true, 6), fl := [some (0, false, 1), some (1, false, 1), some (2, false, 1), some (3, false, 1), some (4, false, 1), some (5, false, 1)], ze := some [.slice none 0 0, .slice none 0 0, .slice none 0 0, .int .i64 0, .int .i64 0, .int .i64 0] }
theorem ti75ok : TIok Tryd.prog 75 ti75 := ⟨.inr (by kernel_rfl), .inl rfl, .inl rfl, .inl rfl, .inl rfl, ⟨⟨by kernel_rfl, by kernel_rfl⟩, ⟨by kernel_rfl, by kernel_rfl⟩, ⟨by kernel_rfl, by kernel_rfl⟩, ⟨by kernel_rfl, by kernel_rfl⟩, ⟨by kernel_rfl, by kernel_rfl⟩, ⟨by kernel_rfl, by kernel_rfl⟩, trivial⟩, .inl rfl, .inl rfl, .inr (by kernel_rfl)⟩
def ti76 : TI := { ld := some (true, 6), fl := [some (0, false, 1), some (1, false, 1), some (2, false, 1), some (3, false, 1), some (4, false, 1), some (5, false, 1)], ze := some [.slice none 0 0, .slice none 0 0, .slice none 0 0, .int .i64 0, .int .i64 0, .int .i64 0] }
theorem ti76ok : TIok Tryd.prog 76 ti76 := ⟨.inr (by kernel_rfl), .inl rfl, .inl rfl, .inl rfl, .inl rfl, ⟨⟨by kernel_rfl, by kernel_rfl⟩, ⟨by kernel_rfl, by kernel_rfl⟩, ⟨by kernel_rfl, by kernel_rfl⟩, ⟨by kernel_rfl, by kernel_rfl⟩, ⟨by kernel_rfl, by kernel_rfl⟩, ⟨by kernel_rfl, by kernel_rfl⟩, trivial⟩, .inl rfl, .inl rfl, .inr (by kernel_rfl)⟩
def ti77 : TI := { ld := some (false, 1), ze := some [.nilFunc] }
theorem ti77ok : TIok Tryd.prog 77 ti77 := ⟨.inr (by kernel_rfl), .inl rfl, .inl rfl, .inl rfl, .inl rfl, trivial, .inl rfl, .inl rfl, .inr (by kernel_rfl)⟩
def ti78 : TI := { ld := some (false, 1), ze := some [.nilFunc] }
theorem ti78ok : TIok Tryd.prog 78 ti78 := ⟨.inr (by kernel_rfl), .inl rfl, .inl rfl, .inl rfl, .inl rfl, trivial, .inl rfl, .inl rfl, .inr (by kernel_rfl)⟩
def ti79 : TI := { ld := some (false, 1), ze := some [.nilFunc] }
theorem ti79ok : TIok Tryd.prog 79 ti79 := ⟨.inr (by kernel_rfl), .inl rfl, .inl rfl, .inl rfl, .inl rfl, trivial, .inl rfl, .inl rfl, .inr (by kernel_rfl)⟩
def ti80 : TI := { ld := some (false, 1), ze := some [.nilFunc] }
theorem ti80ok : TIok Tryd.prog 80 ti80 := ⟨.inr (by kernel_rfl), .inl rfl, .inl rfl, .inl rfl, .inl rfl, trivial, .inl rfl, .inl rfl, .inr (by kernel_rfl)⟩
def ti81 : TI := { ld := some (false, 1), ze := some [.nilFunc] }
theorem ti81ok : TIok Tryd.prog 81 ti81 := ⟨.inr (by kernel_rfl), .inl rfl, .inl rfl, .inl rfl, .inl rfl, trivial, .inl rfl, .inl rfl, .inr (by kernel_rfl)⟩
def ti82 : TI := { ld := some (false, 1), pt := true, ze := some [.pointer none] }
theorem ti82ok : TIok Tryd.prog 82 ti82 := ⟨.inr (by kernel_rfl), .inl rfl, .inl rfl, .inl rfl, .inl rfl, trivial, .inr ⟨36, by kernel_rfl⟩, .inl rfl, .inr (by kernel_rfl)⟩
def ti83 : TI := { ld := some (false, 1), ze := some [.nilFunc] }
theorem ti83ok : TIok Tryd.prog 83 ti83 := ⟨.inr (by kernel_rfl), .inl rfl, .inl rfl, .inl rfl, .inl rfl, trivial, .inl rfl, .inl rfl, .inr (by kernel_rfl)⟩
def ti84 : TI := { ld := some (false, 1), ik := some .u64, ze := some [.int .u64 0] }
theorem ti84ok : TIok Tryd.prog 84 ti84 := ⟨.inr (by kernel_rfl), .inr (by kernel_rfl), .inl rfl, .inl rfl, .inl rfl, trivial, .inl rfl, .inl rfl, .inr (by kernel_rfl)⟩
def ti85 : TI := { ld := some (false, 1), ze := some [.nilFunc] }
theorem ti85ok : TIok Tryd.prog 85 ti85 := ⟨.inr (by kernel_rfl), .inl rfl, .inl rfl, .inl rfl, .inl rfl, trivial, .inl rfl, .inl rfl, .inr (by kernel_rfl)⟩
def ti86 : TI := { ld := some (false, 1), sl := some (25, 1, 24), ze := some [.slice none 0 0] }
theorem ti86ok : TIok Tryd.prog 86 ti86 := ⟨.inr (by kernel_rfl), .inl rfl, .inl rfl, .inr (by kernel_rfl), .inl rfl, trivial, .inl rfl, .inl rfl, .inr (by kernel_rfl)⟩
def ti87 : TI := { ld := some (false, 1), ze := some [.nilFunc] }
theorem ti87ok : TIok Tryd.prog 87 ti87 := ⟨.inr (by kernel_rfl), .inl rfl, .inl rfl, .inl rfl, .inl rfl, trivial, .inl rfl, .inl rfl, .inr (by kernel_rfl)⟩
def ti88 : TI := { ld := some (false, 1), ze := some [.nilFunc] }
theorem ti88ok : TIok Tryd.prog 88 ti88 := ⟨.inr (by kernel_rfl), .inl rfl, .inl rfl, .inl rfl, .inl rfl, trivial, .inl rfl, .inl rfl, .inr (by kernel_rfl)⟩
def ti89 : TI := { ld := some (false, 1), ze := some [.nilFunc] }
theorem ti89ok : TIok Tryd.prog 89 ti89 := ⟨.inr (by kernel_rfl), .inl rfl, .inl rfl, .inl rfl, .inl rfl, trivial, .inl rfl, .inl rfl, .inr (by kernel_rfl)⟩
def ti90 : TI := { ld := some (false, 1), ze := some [.nilFunc] }
theorem ti90ok : TIok Tryd.prog 90 ti90 := ⟨.inr (by kernel_rfl), .inl rfl, .inl rfl, .inl rfl, .inl rfl, trivial, .inl rfl, .inl rfl, .inr (by kernel_rfl)⟩
def ti91 : TI := { ld := some (false, 1), ze := some [.nilFunc] }
theorem ti91ok : TIok Tryd.prog 91 ti91 := ⟨.inr (by kernel_rfl), .inl rfl, .inl rfl, .inl rfl, .inl rfl, trivial, .inl rfl, .inl rfl, .inr (by kernel_rfl)⟩
def ti92 : TI := { ld := some (false, 1), ze := some [.nilFunc] }
theorem ti92ok : TIok Tryd.prog 92 ti92 := ⟨.inr (by kernel_rfl), .inl rfl, .inl rfl, .inl rfl, .inl rfl, trivial, .inl rfl, .inl rfl, .inr (by kernel_rfl)⟩
def ti93 : TI := { ld := some (false, 1), ze := some [.nilFunc] }
theorem ti93ok : TIok Tryd.prog 93 ti93 := ⟨.inr (by kernel_rfl), .inl rfl, .inl rfl, .inl rfl, .inl rfl, trivial, .inl rfl, .inl rfl, .inr (by kernel_rfl)⟩
def ti94 : TI := { ld := some (false, 1), ze := some [.nilFunc] }
theorem ti94ok : TIok Tryd.prog 94 ti94 := ⟨.inr (by kernel_rfl), .inl rfl, .inl rfl, .inl rfl, .inl rfl, trivial, .inl rfl, .inl rfl, .inr (by kernel_rfl)⟩
def ti95 : TI := { ld := some (false, 1), ze := some [.nilFunc] }
theorem ti95ok : TIok Tryd.prog 95 ti95 := ⟨.inr (by kernel_rfl), .inl rfl, .inl rfl, .inl rfl, .inl rfl, trivial, .inl rfl, .inl rfl, .inr (by kernel_rfl)⟩
def ti96 : TI := { ld := some (false, 1), sl := some (112, 1, 8), ze := some [.slice none 0 0] }
theorem ti96ok : TIok Tryd.prog 96 ti96 := ⟨.inr (by kernel_rfl), .inl rfl, .inl rfl, .inr (by kernel_rfl), .inl rfl, trivial, .inl rfl, .inl rfl, .inr (by kernel_rfl)⟩
def ti97 : TI := { ld := some (true, 2), fl := [some (0, false, 1), some (1, false, 1)], ze := some [.slice none 0 0, .slice none 0 0] }
theorem ti97ok : TIok Tryd.prog 97 ti97 := ⟨.inr (by kernel_rfl), .inl rfl, .inl rfl, .inl rfl, .inl rfl, ⟨⟨by kernel_rfl, by kernel_rfl⟩, ⟨by kernel_rfl, by kernel_rfl⟩, trivial⟩, .inl rfl, .inl rfl, .inr (by kernel_rfl)⟩
def ti98 : TI := { ld := some (true, 2), fl := [some (0, false, 1), some (1, false, 1)], ze := some [.slice none 0 0, .slice none 0 0] }
theorem ti98ok : TIok Tryd.prog 98 ti98 := ⟨.inr (by kernel_rfl), .inl rfl, .inl rfl, .inl rfl, .inl rfl, ⟨⟨by kernel_rfl, by kernel_rfl⟩, ⟨by kernel_rfl, by kernel_rfl⟩, trivial⟩, .inl rfl, .inl rfl, .inr (by kernel_rfl)⟩
def ti99 : TI := { ld := some (false, 1), ze := some [.nilFunc] }
theorem ti99ok : TIok Tryd.prog 99 ti99 := ⟨.inr (by kernel_rfl), .inl rfl, .inl rfl, .inl rfl, .inl rfl, trivial, .inl rfl, .inl rfl, .inr (by kernel_rfl)⟩
def ti100 : TI := { ld := some (false, 1), sl := some (102, 6, 48), ze := some [.slice none 0 0] }
theorem ti100ok : TIok Tryd.prog 100 ti100 := ⟨.inr (by kernel_rfl), .inl rfl, .inl rfl, .inr (by kernel_rfl), .inl rfl, trivial, .inl rfl, .inl rfl, .inr (by kernel_rfl)⟩
def ti101 : TI := { ld := some (false, 1), ze := some [.nilFunc] }
theorem ti101ok : TIok Tryd.prog 101 ti101 := ⟨.inr (by kernel_rfl), .inl rfl, .inl rfl, .inl rfl, .inl rfl, trivial, .inl rfl, .inl rfl, .inr (by kernel_rfl)⟩
def ti102 : TI := { ld := some (true, 6), ar := some (6, 1), ze := some [.int .i64 0, .int .i64 0, .int .i64 0, .int .i64 0, .int .i64 0, .int .i64 0] }
theorem ti102ok : TIok Tryd.prog 102 ti102 := ⟨.inr (by kernel_rfl), .inl rfl, .inl rfl, .inl rfl, .inr (by kernel_rfl), trivial, .inl rfl, .inl rfl, .inr (by kernel_rfl)⟩
def ti103 : TI := { ld := some (false, 1), ze := some [.nilFunc] }
theorem ti103ok : TIok Tryd.prog 103 ti103 := ⟨.inr (by kernel_rfl), .inl rfl, .inl rfl, .inl rfl, .inl rfl, trivial, .inl rfl, .inl rfl, .inr (by kernel_rfl)⟩
def ti104 : TI := { ld := some (false, 1), ze := some [.nilFunc] }
theorem ti104ok : TIok Tryd.prog 104 ti104 := ⟨.inr (by kernel_rfl), .inl rfl, .inl rfl, .inl rfl, .inl rfl, trivial, .inl rfl, .inl rfl, .inr (by kernel_rfl)⟩
def ti105 : TI := { ld := some (false, 1), ze := some [.nilFunc] }
theorem ti105ok : TIok Tryd.prog 105 ti105 := ⟨.inr (by kernel_rfl), .inl rfl, .inl rfl, .inl rfl, .inl rfl, trivial, .inl rfl, .inl rfl, .inr (by kernel_rfl)⟩
def ti106 : TI := { ld := some (false, 1), ze := some [.nilFunc] }
theorem ti106ok : TIok Tryd.prog 106 ti106 := ⟨.inr (by kernel_rfl), .inl rfl, .inl rfl, .inl rfl, .inl rfl, trivial, .inl rfl, .inl rfl, .inr (by kernel_rfl)⟩
def ti107 : TI := { ld := some (false, 1), ze := some [.nilFunc] }
theorem ti107ok : TIok Tryd.prog 107 ti107 := ⟨.inr (by kernel_rfl), .inl rfl, .inl rfl, .inl rfl, .inl rfl, trivial, .inl rfl, .inl rfl, .inr (by kernel_rfl)⟩
def ti108 : TI := { ld := some (false, 1), ze := some [.nilFunc] }
theorem ti108ok : TIok Tryd.prog 108 ti108 := ⟨.inr (by kernel_rfl), .inl rfl, .inl rfl, .inl rfl, .inl rfl, trivial, .inl rfl, .inl rfl, .inr (by kernel_rfl)⟩
def ti109 : TI := { ld := some (false, 1), ze := some [.nilFunc] }
theorem ti109ok : TIok Tryd.prog 109 ti109 := ⟨.inr (by kernel_rfl), .inl rfl, .inl rfl, .inl rfl, .inl rfl, trivial, .inl rfl, .inl rfl, .inr (by kernel_rfl)⟩
def ti110 : TI := { ld := some (false, 1), ze := some [.nilFunc] }
theorem ti110ok : TIok Tryd.prog 110 ti110 := ⟨.inr (by kernel_rfl), .inl rfl, .inl rfl, .inl rfl, .inl rfl, trivial, .inl rfl, .inl rfl, .inr (by kernel_rfl)⟩
def ti111 : TI := { ld := some (false, 1), sl := some (5, 1, 1), ze := some [.slice none 0 0] }
theorem ti111ok : TIok Tryd.prog 111 ti111 := ⟨.inr (by kernel_rfl), .inl rfl, .inl rfl, .inr (by kernel_rfl), .inl rfl, trivial, .inl rfl, .inl rfl, .inr (by kernel_rfl)⟩
def ti112 : TI := { ld := some (false, 1), pt := true, ze := some [.pointer none] }
theorem ti112ok : TIok Tryd.prog 112 ti112 := ⟨.inr (by kernel_rfl), .inl rfl, .inl rfl, .inl rfl, .inl rfl, trivial, .inr ⟨122, by kernel_rfl⟩, .inl rfl, .inr (by kernel_rfl)⟩
def ti113 : TI := { ld := some (false, 1), ze := some [.nilFunc] }
theorem ti113ok : TIok Tryd.prog 113 ti113 := ⟨.inr (by kernel_rfl), .inl rfl, .inl rfl, .inl rfl, .inl rfl, trivial, .inl rfl, .inl rfl, .inr (by kernel_rfl)⟩
def ti114 : TI := { ld := some (false, 1), sl := some (116, 3, 40), ze := some [.slice none 0 0] }
theorem ti114ok : TIok Tryd.prog 114 ti114 := ⟨.inr (by kernel_rfl), .inl rfl, .inl rfl, .inr (by kernel_rfl), .inl rfl, trivial, .inl rfl, .inl rfl, .inr (by kernel_rfl)⟩
def ti115 : TI := { ld := some (true, 3), fl := [some (0, false, 1), some (1, false, 1), some (2, false, 1)], ze := some [.int .i64 0, .int .i64 0, .slice none 0 0] }
theorem ti115ok : TIok Tryd.prog 115 ti115 := ⟨.inr (by kernel_rfl), .inl rfl, .inl rfl, .inl rfl, .inl rfl, ⟨⟨by kernel_rfl, by kernel_rfl⟩, ⟨by kernel_rfl, by kernel_rfl⟩, ⟨by kernel_rfl, by kernel_rfl⟩, trivial⟩, .inl rfl, .inl rfl, .inr (by kernel_rfl)⟩
def ti116 : TI := { ld := some (true, 3), fl := [some (0, false, 1), some (1, false, 1), some (2, false, 1)], ze := some [.int .i64 0, .int .i64 0, .slice none 0 0] }
theorem ti116ok : TIok Tryd.prog 116 ti116 := ⟨.inr (by kernel_rfl), .inl rfl, .inl rfl, .inl rfl, .inl rfl, ⟨⟨by kernel_rfl, by kernel_rfl⟩, ⟨by kernel_rfl, by kernel_rfl⟩, ⟨by kernel_rfl, by kernel_rfl⟩, trivial⟩, .inl rfl, .inl rfl, .inr (by kernel_rfl)⟩
def ti117 : TI := { ld := some (false, 1), ze := some [.nilFunc] }
theorem ti117ok : TIok Tryd.prog 117 ti117 := ⟨.inr (by kernel_rfl), .inl rfl, .inl rfl, .inl rfl, .inl rfl, trivial, .inl rfl, .inl rfl, .inr (by kernel_rfl)⟩
def ti118 : TI := { ld := some (false, 1), ze := some [.nilFunc] }
theorem ti118ok : TIok Tryd.prog 118 ti118 := ⟨.inr (by kernel_rfl), .inl rfl, .inl rfl, .inl rfl, .inl rfl, trivial, .inl rfl, .inl rfl, .inr (by kernel_rfl)⟩
def ti119 : TI := { ld := some (false, 1), ze := some [.nilFunc] }
theorem ti119ok : TIok Tryd.prog 119 ti119 := ⟨.inr (by kernel_rfl), .inl rfl, .inl rfl, .inl rfl, .inl rfl, trivial, .inl rfl, .inl rfl, .inr (by kernel_rfl)⟩
def ti120 : TI := { ld := some (false, 1), ze := some [.nilFunc] }
theorem ti120ok : TIok Tryd.prog 120 ti120 := ⟨.inr (by kernel_rfl), .inl rfl, .inl rfl, .inl rfl, .inl rfl, trivial, .inl rfl, .inl rfl, .inr (by kernel_rfl)⟩
def ti121 : TI := { ld := some (true, 96), ar := some (16, 6), ze := some [.int .i64 0, .int .i64 0, .int .i64 0, .int .i64 0, .int .i64 0, .int .i64 0, .int .i64 0, .int .i64 0, .int .i64 0, .int .i64 0, .int .i64 0, .int .i64 0, .int .i64 0, .int .i64 0, .int .i64 0, .int .i64 0, .int .i64 0, .int .i64 0, .int .i64 0, .int .i64 0, .int .i64 0, .int .i64 0, .int .i64 0, .int .i64 0, .int .i64 0, .int .i64 0, .int .i64 0, .int .i64 0, .int .i64 0, .int .i64 0, .int .i64 0, .int .i64 0, .int .i64 0, .int .i64 0, .int .i64 0, .int .i64 0, .int .i64 0, .int .i64 0, .int .i64 0, .int .i64 0, .int .i64 0, .int .i64 0, .int .i64 0, .int .i64 0, .int .i64 0, .int .i64 0, .int .i64 0, .int .i64 0, .int .i64 0, .int .i64 0, .int .i64 0, .int .i64 0, .int .i64 0, .int .i64 0, .int .i64 0, .int .i64 0, .int .i64 0, .int .i64 0, .int .i64 0, .int .i64 0, .int .i64 0, .int .i64 0, .int .i64 0, .int .i64 0, .int .i64 0, .int .i64 0, .int .i64 0, .int .i64 0, .int .i64 0, .int .i64 0, .int .i64 0, .int .i64 0, .int .i64 0, .int .i64 0, .int .i64 0, .int .i64 0, .int .i64 0, .int .i64 0, .int .i64 0, .int .i64 0, .int .i64 0, .int .i64 0, .int .i64 0, .int .i64 0, .int .i64 0, .int .i64 0, .int .i64 0, .int .i64 0, .int .i64 0, .int .i64 0, .int .i64 0, .int .i64 0, .int .i64 0, .int .i64 0, .int .i64 0, .int .i64 0] }
theorem ti121ok : TIok Tryd.prog 121 ti121 := ⟨.inr (by kernel_rfl), .inl rfl, .inl rfl, .inl rfl, .inr (by kernel_rfl), trivial, .inl rfl, .inl rfl, .inr (by kernel_rfl)⟩
def ti122 : TI := { ld := some (true, 96), ar := some (16, 6), ze := some [.int .i64 0, .int .i64 0, .int .i64 0, .int .i64 0, .int .i64 0, .int .i64 0, .int .i64 0, .int .i64 0, .int .i64 0, .int .i64 0, .int .i64 0, .int .i64 0, .int .i64 0, .int .i64 0, .int .i64 0, .int .i64 0, .int .i64 0, .int .i64 0, .int .i64 0, .int .i64 0, .int .i64 0, .int .i64 0, .int .i64 0, .int .i64 0, .int .i64 0, .int .i64 0, .int .i64 0, .int .i64 0, .int .i64 0, .int .i64 0, .int .i64 0, .int .i64 0, .int .i64 0, .int .i64 0, .int .i64 0, .int .i64 0, .int .i64 0, .int .i64 0, .int .i64 0, .int .i64 0, .int .i64 0, .int .i64 0, .int .i64 0, .int .i64 0, .int .i64 0, .int .i64 0, .int .i64 0, .int .i64 0, .int .i64 0, .int .i64 0, .int .i64 0, .int .i64 0, .int .i64 0, .int .i64 0, .int .i64 0, .int .i64 0, .int .i64 0, .int .i64 0, .int .i64 0, .int .i64 0, .int .i64 0, .int .i64 0, .int .i64 0, .int .i64 0, .int .i64 0, .int .i64 0, .int .i64 0, .int .i64 0, .int .i64 0, .int .i64 0, .int .i64 0, .int .i64 0, .int .i64 0, .int .i64 0, .int .i64 0, .int .i64 0, .int .i64 0, .int .i64 0, .int .i64 0, .int .i64 0, .int .i64 0, .int .i64 0, .int .i64 0, .int .i64 0, .int .i64 0, .int .i64 0, .int .i64 0, .int .i64 0, .int .i64 0, .int .i64 0, .int .i64 0, .int .i64 0, .int .i64 0, .int .i64 0, .int .i64 0, .int .i64 0] }
theorem ti122ok : TIok Tryd.prog 122 ti122 := ⟨.inr (by kernel_rfl), .inl rfl, .inl rfl, .inl rfl, .inr (by kernel_rfl), trivial, .inl rfl, .inl rfl, .inr (by kernel_rfl)⟩
def ti123 : TI := { ld := some (false, 1), ze := some [.nilFunc] }
theorem ti123ok : TIok Tryd.prog 123 ti123 := ⟨.inr (by kernel_rfl), .inl rfl, .inl rfl, .inl rfl, .inl rfl, trivial, .inl rfl, .inl rfl, .inr (by kernel_rfl)⟩
def ti124 : TI := { ld := some (false, 1), ze := some [.nilFunc] }
theorem ti124ok : TIok Tryd.prog 124 ti124 := ⟨.inr (by kernel_rfl), .inl rfl, .inl rfl, .inl rfl, .inl rfl, trivial, .inl rfl, .inl rfl, .inr (by kernel_rfl)⟩
def ti125 : TI := { ld := some (false, 1), ze := some [.nilFunc] }
theorem ti125ok : TIok Tryd.prog 125 ti125 := ⟨.inr (by kernel_rfl), .inl rfl, .inl rfl, .inl rfl, .inl rfl, trivial, .inl rfl, .inl rfl, .inr (by kernel_rfl)⟩
def ti126 : TI := { ld := some (false, 1), ze := some [.nilFunc] }
theorem ti126ok : TIok Tryd.prog 126 ti126 := ⟨.inr (by kernel_rfl), .inl rfl, .inl rfl, .inl rfl, .inl rfl, trivial, .inl rfl, .inl rfl, .inr (by kernel_rfl)⟩
def ti127 : TI := { ld := some (false, 1), ze := some [.nilFunc] }
theorem ti127ok : TIok Tryd.prog 127 ti127 := ⟨.inr (by kernel_rfl), .inl rfl, .inl rfl, .inl rfl, .inl rfl, trivial, .inl rfl, .inl rfl, .inr (by kernel_rfl)⟩
def ti128 : TI := { ld := some (false, 1), ik := some .u32, ze := some [.int .u32 0] }
theorem ti128ok : TIok Tryd.prog 128 ti128 := ⟨.inr (by kernel_rfl), .inr (by kernel_rfl), .inl rfl, .inl rfl, .inl rfl, trivial, .inl rfl, .inl rfl, .inr (by kernel_rfl)⟩
def ti129 : TI := { ld := some (false, 1), ze := some [.nilFunc] }
theorem ti129ok : TIok Tryd.prog 129 ti129 := ⟨.inr (by kernel_rfl), .inl rfl, .inl rfl, .inl rfl, .inl rfl, trivial, .inl rfl, .inl rfl, .inr (by kernel_rfl)⟩
def ti130 : TI := { ld := some (false, 1), ik := some .u64, ze := some [.int .u64 0] }
theorem ti130ok : TIok Tryd.prog 130 ti130 := ⟨.inr (by kernel_rfl), .inr (by kernel_rfl), .inl rfl, .inl rfl, .inl rfl, trivial, .inl rfl, .inl rfl, .inr (by kernel_rfl)⟩
def ti131 : TI := { ld := some (true, 32), ar := some (32, 1), ze := some [.int .u8 0, .int .u8 0, .int .u8 0, .int .u8 0, .int .u8 0, .int .u8 0, .int .u8 0, .int .u8 0, .int .u8 0, .int .u8 0, .int .u8 0, .int .u8 0, .int .u8 0, .int .u8 0, .int .u8 0, .int .u8 0, .int .u8 0, .int .u8 0, .int .u8 0, .int .u8 0, .int .u8 0, .int .u8 0, .int .u8 0, .int .u8 0, .int .u8 0, .int .u8 0, .int .u8 0, .int .u8 0, .int .u8 0, .int .u8 0, .int .u8 0, .int .u8 0] }
theorem ti131ok : TIok Tryd.prog 131 ti131 := ⟨.inr (by kernel_rfl), .inl rfl, .inl rfl, .inl rfl, .inr (by kernel_rfl), trivial, .inl rfl, .inl rfl, .inr (by kernel_rfl)⟩
def ti132 : TI := { ld := some (true, 64), ar := some (64, 1), ze := some [.int .u8 0, .int .u8 0, .int .u8 0, .int .u8 0, .int .u8 0, .int .u8 0, .int .u8 0, .int .u8 0, .int .u8 0, .int .u8 0, .int .u8 0, .int .u8 0, .int .u8 0, .int .u8 0, .int .u8 0, .int .u8 0, .int .u8 0, .int .u8 0, .int .u8 0, .int .u8 0, .int .u8 0, .int .u8 0, .int .u8 0, .int .u8 0, .int .u8 0, .int .u8 0, .int .u8 0, .int .u8 0, .int .u8 0, .int .u8 0, .int .u8 0, .int .u8 0, .int .u8 0, .int .u8 0, .int .u8 0, .int .u8 0, .int .u8 0, .int .u8 0, .int .u8 0, .int .u8 0, .int .u8 0, .int .u8 0, .int .u8 0, .int .u8 0, .int .u8 0, .int .u8 0, .int .u8 0, .int .u8 0, .int .u8 0, .int .u8 0, .int .u8 0, .int .u8 0, .int .u8 0, .int .u8 0, .int .u8 0, .int .u8 0, .int .u8 0, .int .u8 0, .int .u8 0, .int .u8 0, .int .u8 0, .int .u8 0, .int .u8 0, .int .u8 0] }
theorem ti132ok : TIok Tryd.prog 132 ti132 := ⟨.inr (by kernel_rfl), .inl rfl, .inl rfl, .inl rfl, .inr (by kernel_rfl), trivial, .inl rfl, .inl rfl, .inr (by kernel_rfl)⟩
def ti133 : TI := { ld := some (false, 1), ze := some [.nilFunc] }
theorem ti133ok : TIok Tryd.prog 133 ti133 := ⟨.inr (by kernel_rfl), .inl rfl, .inl rfl, .inl rfl, .inl rfl, trivial, .inl rfl, .inl rfl, .inr (by kernel_rfl)⟩
def ti134 : TI := { ld := some (true, 4), fl := [some (0, false, 1), some (1, false, 1), some (2, false, 1), some (3, false, 1)], ze := some [.pointer none, .pointer none, .pointer none, .string ⟨#[]⟩] }
theorem ti134ok : TIok Tryd.prog 134 ti134 := ⟨.inr (by kernel_rfl), .inl rfl, .inl rfl, .inl rfl, .inl rfl, ⟨⟨by kernel_rfl, by kernel_rfl⟩, ⟨by kernel_rfl, by kernel_rfl⟩, ⟨by kernel_rfl, by kernel_rfl⟩, ⟨by kernel_rfl, by kernel_rfl⟩, trivial⟩, .inl rfl, .inl rfl, .inr (by kernel_rfl)⟩
def ti135 : TI := { ld := some (true, 4), fl := [some (0, false, 1), some (1, false, 1), some (2, false, 1), some (3, false, 1)], ze := some [.pointer none, .pointer none, .pointer none, .string ⟨#[]⟩] }
theorem ti135ok : TIok Tryd.prog 135 ti135 := ⟨.inr (by kernel_rfl), .inl rfl, .inl rfl, .inl rfl, .inl rfl, ⟨⟨by kernel_rfl, by kernel_rfl⟩, ⟨by kernel_rfl, by kernel_rfl⟩, ⟨by kernel_rfl, by kernel_rfl⟩, ⟨by kernel_rfl, by kernel_rfl⟩, trivial⟩, .inl rfl, .inl rfl, .inr (by kernel_rfl)⟩
def ti136 : TI := { ld := some (true, 0), ar := some (0, 1) }
theorem ti136ok : TIok Tryd.prog 136 ti136 := ⟨.inr (by kernel_rfl), .inl rfl, .inl rfl, .inl rfl, .inr (by kernel_rfl), trivial, .inl rfl, .inl rfl, .inl rfl⟩
def ti137 : TI := { ld := some (true, 0), fl := [none] }
theorem ti137ok : TIok Tryd.prog 137 ti137 := ⟨.inr (by kernel_rfl), .inl rfl, .inl rfl, .inl rfl, .inl rfl, trivial, .inl rfl, .inl rfl, .inl rfl⟩
def ti138 : TI := { ld := some (true, 0), fl := [none] }
theorem ti138ok : TIok Tryd.prog 138 ti138 := ⟨.inr (by kernel_rfl), .inl rfl, .inl rfl, .inl rfl, .inl rfl, trivial, .inl rfl, .inl rfl, .inl rfl⟩
def ti139 : TI := { ld := some (false, 1), ik := some .u8, ze := some [.int .u8 0] }
theorem ti139ok : TIok Tryd.prog 139 ti139 := ⟨.inr (by kernel_rfl), .inr (by kernel_rfl), .inl rfl, .inl rfl, .inl rfl, trivial, .inl rfl, .inl rfl, .inr (by kernel_rfl)⟩
def ti140 : TI := { ld := some (false, 1), ik := some .u8, ze := some [.int .u8 0] }
theorem ti140ok : TIok Tryd.prog 140 ti140 := ⟨.inr (by kernel_rfl), .inr (by kernel_rfl), .inl rfl, .inl rfl, .inl rfl, trivial, .inl rfl, .inl rfl, .inr (by kernel_rfl)⟩
def ti141 : TI := { ld := some (false, 1), ze := some [.nilFunc] }
theorem ti141ok : TIok Tryd.prog 141 ti141 := ⟨.inr (by kernel_rfl), .inl rfl, .inl rfl, .inl rfl, .inl rfl, trivial, .inl rfl, .inl rfl, .inr (by kernel_rfl)⟩
def ti142 : TI := { ld := some (false, 1), pt := true, ze := some [.pointer none] }
theorem ti142ok : TIok Tryd.prog 142 ti142 := ⟨.inr (by kernel_rfl), .inl rfl, .inl rfl, .inl rfl, .inl rfl, trivial, .inr ⟨5, by kernel_rfl⟩, .inl rfl, .inr (by kernel_rfl)⟩
def ti143 : TI := { ld := some (false, 1), ik := some .i32, ze := some [.int .i32 0] }
theorem ti143ok : TIok Tryd.prog 143 ti143 := ⟨.inr (by kernel_rfl), .inr (by kernel_rfl), .inl rfl, .inl rfl, .inl rfl, trivial, .inl rfl, .inl rfl, .inr (by kernel_rfl)⟩
def ti144 : TI := { ld := some (false, 1), ik := some .i32, ze := some [.int .i32 0] }
theorem ti144ok : TIok Tryd.prog 144 ti144 := ⟨.inr (by kernel_rfl), .inr (by kernel_rfl), .inl rfl, .inl rfl, .inl rfl, trivial, .inl rfl, .inl rfl, .inr (by kernel_rfl)⟩
def ti145 : TI := { ld := some (true, 11), fl := [some (0, false, 1), some (1, false, 1), some (2, false, 1), some (3, false, 1), some (4, false, 1), some (5, false, 1), some (6, false, 1), some (7, false, 1), some (8, false, 1), some (9, false, 1), some (10, false, 1)], ze := some [.int .u64 0, .int .u64 0, .int .u32 0, .int .u8 0, .int .u8 0, .int .u8 0, .int .u8 0, .nilFunc, .pointer none, .int .i32 0, .int .i32 0] }
theorem ti145ok : TIok Tryd.prog 145 ti145 := ⟨.inr (by kernel_rfl), .inl rfl, .inl rfl, .inl rfl, .inl rfl, ⟨⟨by kernel_rfl, by kernel_rfl⟩, ⟨by kernel_rfl, by kernel_rfl⟩, ⟨by kernel_rfl, by kernel_rfl⟩, ⟨by kernel_rfl, by kernel_rfl⟩, ⟨by kernel_rfl, by kernel_rfl⟩, ⟨by kernel_rfl, by kernel_rfl⟩, ⟨by kernel_rfl, by kernel_rfl⟩, ⟨by kernel_rfl, by kernel_rfl⟩, ⟨by kernel_rfl, by kernel_rfl⟩, ⟨by kernel_rfl, by kernel_rfl⟩, ⟨by kernel_rfl, by kernel_rfl⟩, trivial⟩, .inl rfl, .inl rfl, .inr (by kernel_rfl)⟩
def ti146 : TI := { ld := some (true, 11), fl := [some (0, false, 1), some (1, false, 1), some (2, false, 1), some (3, false, 1), some (4, false, 1), some (5, false, 1), some (6, false, 1), some (7, false, 1), some (8, false, 1), some (9, false, 1), some (10, false, 1)], ze := some [.int .u64 0, .int .u64 0, .int .u32 0, .int .u8 0, .int .u8 0, .int .u8 0, .int .u8 0, .nilFunc, .pointer none, .int .i32 0, .int .i32 0] }
theorem ti146ok : TIok Tryd.prog 146 ti146 := ⟨.inr (by kernel_rfl), .inl rfl, .inl rfl, .inl rfl, .inl rfl, ⟨⟨by kernel_rfl, by kernel_rfl⟩, ⟨by kernel_rfl, by kernel_rfl⟩, ⟨by kernel_rfl, by kernel_rfl⟩, ⟨by kernel_rfl, by kernel_rfl⟩, ⟨by kernel_rfl, by kernel_rfl⟩, ⟨by kernel_rfl, by kernel_rfl⟩, ⟨by kernel_rfl, by kernel_rfl⟩, ⟨by kernel_rfl, by kernel_rfl⟩, ⟨by kernel_rfl, by kernel_rfl⟩, ⟨by kernel_rfl, by kernel_rfl⟩, ⟨by kernel_rfl, by kernel_rfl⟩, trivial⟩, .inl rfl, .inl rfl, .inr (by kernel_rfl)⟩
def tyT : List (Nat × TI) := [(1, ti1), (2, ti2), (3, ti3), (4, ti4), (5, ti5), (6, ti6), (7, ti7), (8, ti8), (9, ti9), (10, ti10), (11, ti11), (12, ti12), (13, ti13), (14, ti14), (15, ti15), (16, ti16), (17, ti17), (18, ti18), (19, ti19), (21, ti21), (22, ti22), (23, ti23), (24, ti24), (25, ti25), (26, ti26), (27, ti27), (28, ti28), (29, ti29), (30, ti30), (31, ti31), (32, ti32), (33, ti33), (34, ti34), (35, ti35), (36, ti36), (37, ti37), (38, ti38), (39, ti39), (40, ti40), (41, ti41), (42, ti42), (43, ti43), (44, ti44), (45, ti45), (46, ti46), (47, ti47), (48, ti48), (49, ti49), (50, ti50), (51, ti51), (52, ti52), (53, ti53), (54, ti54), (55, ti55), (56, ti56), (57, ti57), (58, ti58), (59, ti59), (61, ti61), (62, ti62), (63, ti63), (64, ti64), (65, ti65), (66, ti66), (67, ti67), (68, ti68), (69, ti69), (70, ti70), (71, ti71), (72, ti72), (73, ti73), (74, ti74), (75, ti75), (76, ti76), (77, ti77), (78, ti78), (79, ti79), (80, ti80), (81, ti81), (82, ti82), (83, ti83), (84, ti84), (85, ti85), (86, ti86), (87, ti87), (88, ti88), (89, ti89), (90, ti90), (91, ti91), (92, ti92), (93, ti93), (94, ti94), (95, ti95), (96, ti96), (97, ti97), (98, ti98), (99, ti99), (100, ti100), (101, ti101), (102, ti102), (103, ti103), (104, ti104), (105, ti105), (106, ti106), (107, ti107), (108, ti108), (109, ti109), (110, ti110), (111, ti111), (112, ti112), (113, ti113), (114, ti114), (115, ti115), (116, ti116), (117, ti117), (118, ti118), (119, ti119), (120, ti120), (121, ti121), (122, ti122), (123, ti123), (124, ti124), (125, ti125), (126, ti126), (127, ti127), (128, ti128), (129, ti129), (130, ti130), (131, ti131), (132, ti132), (133, ti133), (134, ti134), (135, ti135), (136, ti136), (137, ti137), (138, ti138), (139, ti139), (140, ti140), (141, ti141), (142, ti142), (143, ti143), (144, ti144), (145, ti145), (146, ti146)]
instance : HasT Tryd.prog := ⟨tyT, ⟨ti1ok, ⟨ti2ok, ⟨ti3ok, ⟨ti4ok, ⟨ti5ok, ⟨ti6ok, ⟨ti7ok, ⟨ti8ok, ⟨ti9ok, ⟨ti10ok, ⟨ti11ok, ⟨ti12ok, ⟨ti13ok, ⟨ti14ok, ⟨ti15ok, ⟨ti16ok, ⟨ti17ok, ⟨ti18ok, ⟨ti19ok, ⟨ti21ok, ⟨ti22ok, ⟨ti23ok, ⟨ti24ok, ⟨ti25ok, ⟨ti26ok, ⟨ti27ok, ⟨ti28ok, ⟨ti29ok, ⟨ti30ok, ⟨ti31ok, ⟨ti32ok, ⟨ti33ok, ⟨ti34ok, ⟨ti35ok, ⟨ti36ok, ⟨ti37ok, ⟨ti38ok, ⟨ti39ok, ⟨ti40ok, ⟨ti41ok, ⟨ti42ok, ⟨ti43ok, ⟨ti44ok, ⟨ti45ok, ⟨ti46ok, ⟨ti47ok, ⟨ti48ok, ⟨ti49ok, ⟨ti50ok, ⟨ti51ok, ⟨ti52ok, ⟨ti53ok, ⟨ti54ok, ⟨ti55ok, ⟨ti56ok, ⟨ti57ok, ⟨ti58ok, ⟨ti59ok, ⟨ti61ok, ⟨ti62ok, ⟨ti63ok, ⟨ti64ok, ⟨ti65ok, ⟨ti66ok, ⟨ti67ok, ⟨ti68ok, ⟨ti69ok, ⟨ti70ok, ⟨ti71ok, ⟨ti72ok, ⟨ti73ok, ⟨ti74ok, ⟨ti75ok, ⟨ti76ok, ⟨ti77ok, ⟨ti78ok, ⟨ti79ok, ⟨ti80ok, ⟨ti81ok, ⟨ti82ok, ⟨ti83ok, ⟨ti84ok, ⟨ti85ok, ⟨ti86ok, ⟨ti87ok, ⟨ti88ok, ⟨ti89ok, ⟨ti90ok, ⟨ti91ok, ⟨ti92ok, ⟨ti93ok, ⟨ti94ok, ⟨ti95ok, ⟨ti96ok, ⟨ti97ok, ⟨ti98ok, ⟨ti99ok, ⟨ti100ok, ⟨ti101ok, ⟨ti102ok, ⟨ti103ok, ⟨ti104ok, ⟨ti105ok, ⟨ti106ok, ⟨ti107ok, ⟨ti108ok, ⟨ti109ok, ⟨ti110ok, ⟨ti111ok, ⟨ti112ok, ⟨ti113ok, ⟨ti114ok, ⟨ti115ok, ⟨ti116ok, ⟨ti117ok, ⟨ti118ok, ⟨ti119ok, ⟨ti120ok, ⟨ti121ok, ⟨ti122ok, ⟨ti123ok, ⟨ti124ok, ⟨ti125ok, ⟨ti126ok, ⟨ti127ok, ⟨ti128ok, ⟨ti129ok, ⟨ti130ok, ⟨ti131ok, ⟨ti132ok, ⟨ti133ok, ⟨ti134ok, ⟨ti135ok, ⟨ti136ok, ⟨ti137ok, ⟨ti138ok, ⟨ti139ok, ⟨ti140ok, ⟨ti141ok, ⟨ti142ok, ⟨ti143ok, ⟨ti144ok, ⟨ti145ok, ⟨ti146ok, trivial⟩⟩⟩⟩⟩⟩⟩⟩⟩⟩⟩⟩⟩⟩⟩⟩⟩⟩⟩⟩⟩⟩⟩⟩⟩⟩⟩⟩⟩⟩⟩⟩⟩⟩⟩⟩⟩⟩⟩⟩⟩⟩⟩⟩⟩⟩⟩⟩⟩⟩⟩⟩⟩⟩⟩⟩⟩⟩⟩⟩⟩⟩⟩⟩⟩⟩⟩⟩⟩⟩⟩⟩⟩⟩⟩⟩⟩⟩⟩⟩⟩⟩⟩⟩⟩⟩⟩⟩⟩⟩⟩⟩⟩⟩⟩⟩⟩⟩⟩⟩⟩⟩⟩⟩⟩⟩⟩⟩⟩⟩⟩⟩⟩⟩⟩⟩⟩⟩⟩⟩⟩⟩⟩⟩⟩⟩⟩⟩⟩⟩⟩⟩⟩⟩⟩⟩⟩⟩⟩⟩⟩⟩⟩⟩⟩
def tab0 : List Value := [.int .u8 0, .int .u8 1, .int .u8 28, .int .u8 2, .int .u8 29, .int .u8 14, .int .u8 24, .int .u8 3, .int .u8 30, .int .u8 22, .int .u8 20, .int .u8 15, .int .u8 25, .int .u8 17, .int .u8 4, .int .u8 8, .int .u8 31, .int .u8 27, .int .u8 13, .int .u8 23, .int .u8 21, .int .u8 19, .int .u8 16, .int .u8 7, .int .u8 26, .int .u8 12, .int .u8 18, .int .u8 6, .int .u8 11, .int .u8 5, .int .u8 10, .int .u8 9]
def tab1 : List Value := [.int .u8 0, .int .u8 1, .int .u8 56, .int .u8 2, .int .u8 57, .int .u8 49, .int .u8 28, .int .u8 3, .int .u8 61, .int .u8 58, .int .u8 42, .int .u8 50, .int .u8 38, .int .u8 29, .int .u8 17, .int .u8 4, .int .u8 62, .int .u8 47, .int .u8 59, .int .u8 36, .int .u8 45, .int .u8 43, .int .u8 51, .int .u8 22, .int .u8 53, .int .u8 39, .int .u8 33, .int .u8 30, .int .u8 24, .int .u8 18, .int .u8 12, .int .u8 5, .int .u8 63, .int .u8 55, .int .u8 48, .int .u8 27, .int .u8 60, .int .u8 41, .int .u8 37, .int .u8 16, .int .u8 46, .int .u8 35, .int .u8 44, .int .u8 21, .int .u8 52, .int .u8 32, .int .u8 23, .int .u8 11, .int .u8 54, .int .u8 26, .int .u8 40, .int .u8 15, .int .u8 34, .int .u8 20, .int .u8 31, .int .u8 10, .int .u8 25, .int .u8 14, .int .u8 19, .int .u8 9, .int .u8 13, .int .u8 8, .int .u8 7, .int .u8 6]
class Tabs (TB : List (Nat × Obj)) : Prop where
  t0 : HasTab TB 0 tab0
  t1 : HasTab TB 1 tab1
instance {TB : List (Nat × Obj)} [h : Tabs TB] : HasTab TB 0 tab0 := h.t0
instance {TB : List (Nat × Obj)} [h : Tabs TB] : HasTab TB 1 tab1 := h.t1
theorem mixed : Tryd.prog.follows .mixedOrders = true := by kernel_rfl
end Go.Am
