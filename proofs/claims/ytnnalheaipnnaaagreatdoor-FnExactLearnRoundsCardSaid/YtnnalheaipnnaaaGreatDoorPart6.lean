/-
  The seat's types, as the rules ask for them.
-/
import Derived.Test.YtnnalheaipnnaaaGreatDoorPart5
import Derived.Test.YtnnalheaipnnaaaGreatDoorProg
import Derived.KernelRfl
set_option linter.constructorNameAsVariable false
set_option linter.unusedSimpArgs false
set_option linter.unusedVariables false
namespace Go.Am
open Go Go.Proofs
instance : HasLd Tryz.prog 3 false 1 := ⟨by kernel_rfl⟩
instance : HasZ1 Tryz.prog 3 (.int .i64 0) := ⟨by kernel_rfl⟩
instance : HasZe Tryz.prog 3 [.int .i64 0] := ⟨by kernel_rfl⟩
instance : HasZe Tryz.prog 4 [.bool false] := ⟨by kernel_rfl⟩
instance : HasZe Tryz.prog 5 [.int .u8 0] := ⟨by kernel_rfl⟩
instance : HasStr Tryz.prog 9 := ⟨by kernel_rfl⟩
instance : HasZe Tryz.prog 9 [.string ⟨#[]⟩] := ⟨by kernel_rfl⟩
instance : HasInt Tryz.prog 21 .i32 := ⟨by kernel_rfl⟩
instance : HasZe Tryz.prog 22 [.slice none 0 0] := ⟨by kernel_rfl⟩
instance : HasSl Tryz.prog 22 46 1 24 := ⟨by kernel_rfl⟩
instance : HasSl Tryz.prog 23 4 1 1 := ⟨by kernel_rfl⟩
instance : HasLd Tryz.prog 28 true 3 := ⟨by kernel_rfl⟩
instance : HasZe Tryz.prog 28 [.int .i64 0, .slice none 0 0, .slice none 0 0] := ⟨by kernel_rfl⟩
instance : HasFl Tryz.prog 28 [(0, 1), (1, 1), (2, 1)] := ⟨by kernel_rfl⟩
instance : HasSl Tryz.prog 35 9 1 16 := ⟨by kernel_rfl⟩
instance : HasLd Tryz.prog 37 true 2 := ⟨by kernel_rfl⟩
instance : HasZe Tryz.prog 37 [.slice none 0 0, .slice none 0 0] := ⟨by kernel_rfl⟩
instance : HasFl Tryz.prog 37 [(0, 1), (1, 1)] := ⟨by kernel_rfl⟩
instance : HasZe Tryz.prog 46 [.slice none 0 0] := ⟨by kernel_rfl⟩
instance : HasSl Tryz.prog 46 3 1 8 := ⟨by kernel_rfl⟩
instance : HasZe Tryz.prog 56 [.bool false, .int .i64 0, .slice none 0 0, .slice none 0 0, .int .i64 0, .int .i64 0, .slice none 0 0, .int .i64 0, .slice none 0 0, .slice none 0 0, .int .i64 0] := ⟨by kernel_rfl⟩
instance : HasFl Tryz.prog 56 [(0, 1), (1, 3), (4, 7)] := ⟨by kernel_rfl⟩
instance : HasZe Tryz.prog 68 [.int .i64 0, .nilFunc] := ⟨by kernel_rfl⟩
instance : HasFl Tryz.prog 68 [(0, 1), (1, 1)] := ⟨by kernel_rfl⟩
instance : HasZe Tryz.prog 87 [.slice none 0 0, .slice none 0 0, .slice none 0 0, .int .i64 0, .int .i64 0, .int .i64 0] := ⟨by kernel_rfl⟩
instance : HasFl Tryz.prog 87 [(0, 1), (1, 1), (2, 1), (3, 1), (4, 1), (5, 1)] := ⟨by kernel_rfl⟩
instance : HasSl Tryz.prog 89 91 6 48 := ⟨by kernel_rfl⟩
instance : HasZe Tryz.prog 91 [.int .i64 0, .int .i64 0, .int .i64 0, .int .i64 0, .int .i64 0, .int .i64 0] := ⟨by kernel_rfl⟩
instance : HasMp Tryz.prog 96 9 3 := ⟨by kernel_rfl⟩
instance : HasBy Tryz.prog 107 := ⟨5, by kernel_rfl, by kernel_rfl⟩
instance : HasSl Tryz.prog 107 5 1 1 := ⟨by kernel_rfl⟩
instance : HasSl Tryz.prog 109 22 1 24 := ⟨by kernel_rfl⟩
instance : HasZe Tryz.prog 150 [.slice none 0 0] := ⟨by kernel_rfl⟩
instance : HasSl Tryz.prog 150 152 3 40 := ⟨by kernel_rfl⟩
instance : HasZe Tryz.prog 152 [.int .i64 0, .int .i64 0, .slice none 0 0] := ⟨by kernel_rfl⟩
instance : HasFl Tryz.prog 152 [(0, 1), (1, 1), (2, 1)] := ⟨by kernel_rfl⟩
def tyT : List (Nat × TI) := [(1, { ld := some (false, 1), ze := some [.nilFunc] }),
(2, { ld := some (false, 1), ik := some .i64, ze := some [.int .i64 0] }),
(3, { ld := some (false, 1), ik := some .i64, ze := some [.int .i64 0] }),
(4, { ld := some (false, 1), bo := true, ze := some [.bool false] }),
(5, { ld := some (false, 1), ik := some .u8, ze := some [.int .u8 0] }),
(6, { ld := some (false, 1), ik := some .u8, ze := some [.int .u8 0] }),
(7, { ld := some (true, 4), fl := [some (0, false, 1), some (1, false, 1), some (2, false, 1), some (3, false, 1)], ze := some [.int .i64 0, .int .i64 0, .bool false, .int .u8 0] }),
(8, { ld := some (true, 4), fl := [some (0, false, 1), some (1, false, 1), some (2, false, 1), some (3, false, 1)], ze := some [.int .i64 0, .int .i64 0, .bool false, .int .u8 0] }),
(9, { ld := some (false, 1), st := true, ze := some [.string ⟨#[]⟩] }),
(10, { ld := some (false, 1), st := true, ze := some [.string ⟨#[]⟩] }),
(11, { ld := some (false, 1), st := true, ze := some [.string ⟨#[]⟩] }),
(12, { ld := some (false, 1), ik := some .u64, ze := some [.int .u64 0] }),
(13, { ld := some (true, 2), fl := [some (0, false, 1), some (1, false, 1)], ze := some [.string ⟨#[]⟩, .int .u64 0] }),
(14, { ld := some (true, 2), fl := [some (0, false, 1), some (1, false, 1)], ze := some [.string ⟨#[]⟩, .int .u64 0] }),
(15, { ld := some (false, 1), pt := true, ze := some [.pointer none] }),
(16, { ld := some (false, 1), pt := true, ze := some [.pointer none] }),
(17, { ld := some (false, 1), pt := true, ze := some [.pointer none] }),
(18, { ld := some (true, 1), fl := [some (0, false, 1)], ze := some [.pointer none] }),
(19, { ld := some (true, 1), fl := [some (0, false, 1)], ze := some [.pointer none] }),
(21, { ld := some (false, 1), ik := some .i32, ze := some [.int .i32 0] }),
(22, { ld := some (false, 1), sl := some (46, 1, 24), ze := some [.slice none 0 0] }),
(23, { ld := some (false, 1), sl := some (4, 1, 1), ze := some [.slice none 0 0] }),
(24, { ld := some (true, 3), fl := [some (0, false, 1), some (1, false, 1), some (2, false, 1)], ze := some [.int .i64 0, .slice none 0 0, .slice none 0 0] }),
(25, { ld := some (true, 3), fl := [some (0, false, 1), some (1, false, 1), some (2, false, 1)], ze := some [.int .i64 0, .slice none 0 0, .slice none 0 0] }),
(26, { ld := some (false, 1), ze := some [.nilFunc] }),
(27, { ld := some (false, 1), ze := some [.nilFunc] }),
(28, { ld := some (true, 3), fl := [some (0, false, 1), some (1, false, 1), some (2, false, 1)], ze := some [.int .i64 0, .slice none 0 0, .slice none 0 0] }),
(29, { ld := some (false, 1), ze := some [.nilFunc] }),
(30, { ld := some (false, 1), ze := some [.nilFunc] }),
(31, { ld := some (false, 1), ze := some [.nilFunc] }),
(32, { ld := some (false, 1), ze := some [.nilFunc] }),
(33, { ld := some (false, 1), ze := some [.nilFunc] }),
(34, { ld := some (false, 1), ze := some [.nilFunc] }),
(35, { ld := some (false, 1), sl := some (9, 1, 16), ze := some [.slice none 0 0] }),
(36, { ld := some (true, 2), fl := [some (0, false, 1), some (1, false, 1)], ze := some [.slice none 0 0, .slice none 0 0] }),
(37, { ld := some (true, 2), fl := [some (0, false, 1), some (1, false, 1)], ze := some [.slice none 0 0, .slice none 0 0] }),
(39, { ld := some (false, 1), ze := some [.nilFunc] }),
(40, { ld := some (false, 1), ze := some [.nilFunc] }),
(41, { ld := some (false, 1), ze := some [.nilFunc] }),
(42, { ld := some (false, 1), ze := some [.nilFunc] }),
(43, { ld := some (false, 1), ze := some [.nilFunc] }),
(44, { ld := some (false, 1), ze := some [.nilFunc] }),
(45, { ld := some (false, 1), ze := some [.nilFunc] }),
(46, { ld := some (false, 1), sl := some (3, 1, 8), ze := some [.slice none 0 0] }),
(47, { ld := some (false, 1), ze := some [.nilFunc] }),
(48, { ld := some (false, 1), ze := some [.nilFunc] }),
(49, { ld := some (false, 1), ze := some [.nilFunc] }),
(50, { ld := some (false, 1), sl := some (148, 3, 24), ze := some [.slice none 0 0] }),
(51, { ld := some (true, 3), fl := [some (0, false, 1), some (1, false, 1), some (2, false, 1)], ze := some [.int .i64 0, .int .i64 0, .slice none 0 0] }),
(52, { ld := some (true, 3), fl := [some (0, false, 1), some (1, false, 1), some (2, false, 1)], ze := some [.int .i64 0, .int .i64 0, .slice none 0 0] }),
(53, { ld := some (true, 7), fl := [some (0, true, 3), some (3, true, 3), some (6, false, 1)], ze := some [.int .i64 0, .int .i64 0, .slice none 0 0, .int .i64 0, .slice none 0 0, .slice none 0 0, .int .i64 0] }),
(54, { ld := some (true, 7), fl := [some (0, true, 3), some (3, true, 3), some (6, false, 1)], ze := some [.int .i64 0, .int .i64 0, .slice none 0 0, .int .i64 0, .slice none 0 0, .slice none 0 0, .int .i64 0] }),
(55, { ld := some (true, 11), fl := [some (0, false, 1), some (1, true, 3), some (4, true, 7)], ze := some [.bool false, .int .i64 0, .slice none 0 0, .slice none 0 0, .int .i64 0, .int .i64 0, .slice none 0 0, .int .i64 0, .slice none 0 0, .slice none 0 0, .int .i64 0] }),
(56, { ld := some (true, 11), fl := [some (0, false, 1), some (1, true, 3), some (4, true, 7)], ze := some [.bool false, .int .i64 0, .slice none 0 0, .slice none 0 0, .int .i64 0, .int .i64 0, .slice none 0 0, .int .i64 0, .slice none 0 0, .slice none 0 0, .int .i64 0] }),
(58, { ld := some (false, 1), ze := some [.nilFunc] }),
(60, { ld := some (false, 1), ze := some [.nilFunc] }),
(62, { ld := some (false, 1), ze := some [.nilFunc] }),
(63, { ld := some (false, 1), ze := some [.nilFunc] }),
(64, { ld := some (false, 1), ze := some [.nilFunc] }),
(65, { ld := some (false, 1), ze := some [.nilFunc] }),
(66, { ld := some (false, 1), ze := some [.nilFunc] }),
(67, { ld := some (true, 2), fl := [some (0, false, 1), some (1, false, 1)], ze := some [.int .i64 0, .nilFunc] }),
(68, { ld := some (true, 2), fl := [some (0, false, 1), some (1, false, 1)], ze := some [.int .i64 0, .nilFunc] }),
(70, { ld := some (false, 1), ze := some [.nilFunc] }),
(71, { ld := some (false, 1), ze := some [.nilFunc] }),
(72, { ld := some (false, 1), ze := some [.nilFunc] }),
(73, { ld := some (false, 1), ze := some [.nilFunc] }),
(74, { ld := some (false, 1), ze := some [.nilFunc] }),
(75, { ld := some (false, 1), ze := some [.nilFunc] }),
(76, { ld := some (false, 1), ze := some [.nilFunc] }),
(77, { ld := some (false, 1), ze := some [.nilFunc] }),
(78, { ld := some (false, 1), ze := some [.nilFunc] }),
(79, { ld := some (false, 1), ze := some [.nilFunc] }),
(80, { ld := some (false, 1), ze := some [.nilFunc] }),
(81, { ld := some (false, 1), ze := some [.nilFunc] }),
(82, { ld := some (false, 1), ze := some [.nilFunc] }),
(83, { ld := some (false, 1), ze := some [.nilFunc] }),
(84, { ld := some (false, 1), sl := some (28, 3, 56), ze := some [.slice none 0 0] }),
(85, { ld := some (false, 1), sl := some (52, 3, 40), ze := some [.slice none 0 0] }),
(86, { ld := some (true, 6), fl := [some (0, false, 1), some (1, false, 1), some (2, false, 1), some (3, false, 1), some (4, false, 1), some (5, false, 1)], ze := some [.slice none 0 0, .slice none 0 0, .slice none 0 0, .int .i64 0, .int .i64 0, .int .i64 0] }),
(87, { ld := some (true, 6), fl := [some (0, false, 1), some (1, false, 1), some (2, false, 1), some (3, false, 1), some (4, false, 1), some (5, false, 1)], ze := some [.slice none 0 0, .slice none 0 0, .slice none 0 0, .int .i64 0, .int .i64 0, .int .i64 0] }),
(88, { ld := some (false, 1), ze := some [.nilFunc] }),
(89, { ld := some (false, 1), sl := some (91, 6, 48), ze := some [.slice none 0 0] }),
(90, { ld := some (false, 1), ze := some [.nilFunc] }),
(91, { ld := some (true, 6), ar := some (6, 1), ze := some [.int .i64 0, .int .i64 0, .int .i64 0, .int .i64 0, .int .i64 0, .int .i64 0] }),
(92, { ld := some (false, 1), ze := some [.nilFunc] }),
(93, { ld := some (false, 1), pt := true, ze := some [.pointer none] }),
(94, { ld := some (false, 1), ze := some [.nilFunc] }),
(95, { ld := some (false, 1), ze := some [.nilFunc] }),
(96, { ld := some (false, 1), ze := some [.map none] }),
(97, { ld := some (false, 1), ze := some [.nilFunc] }),
(98, { ld := some (false, 1), ze := some [.nilFunc] }),
(99, { ld := some (false, 1), ze := some [.nilFunc] }),
(100, { ld := some (false, 1), ze := some [.nilFunc] }),
(101, { ld := some (false, 1), ze := some [.nilFunc] }),
(102, { ld := some (false, 1), ze := some [.nilFunc] }),
(103, { ld := some (false, 1), ik := some .u64, ze := some [.int .u64 0] }),
(104, { ld := some (false, 1), ze := some [.nilFunc] }),
(105, { ld := some (false, 1), ze := some [.nilFunc] }),
(106, { ld := some (false, 1), ze := some [.nilFunc] }),
(107, { ld := some (false, 1), sl := some (5, 1, 1), ze := some [.slice none 0 0] }),
(108, { ld := some (false, 1), ze := some [.nilFunc] }),
(109, { ld := some (false, 1), sl := some (22, 1, 24), ze := some [.slice none 0 0] }),
(110, { ld := some (false, 1), ze := some [.nilFunc] }),
(111, { ld := some (false, 1), ze := some [.nilFunc] }),
(112, { ld := some (false, 1), ze := some [.nilFunc] }),
(113, { ld := some (false, 1), ze := some [.nilFunc] }),
(114, { ld := some (false, 1), ze := some [.nilFunc] }),
(115, { ld := some (false, 1), ze := some [.nilFunc] }),
(116, { ld := some (false, 1), ze := some [.nilFunc] }),
(117, { ld := some (false, 1), ze := some [.nilFunc] }),
(118, { ld := some (false, 1), ze := some [.nilFunc] }),
(119, { ld := some (false, 1), pt := true, ze := some [.pointer none] }),
(120, { ld := some (false, 1), ze := some [.nilFunc] }),
(121, { ld := some (false, 1), ze := some [.map none] }),
(122, { ld := some (false, 1), sl := some (128, 12, 24), ze := some [.slice none 0 0] }),
(123, { ld := some (true, 14), fl := [some (0, true, 7), some (7, false, 1), some (8, false, 1), some (9, false, 1), some (10, false, 1), some (11, false, 1), some (12, false, 1), some (13, false, 1)], ze := some [.int .i64 0, .int .i64 0, .slice none 0 0, .int .i64 0, .slice none 0 0, .slice none 0 0, .int .i64 0, .pointer none, .slice none 0 0, .slice none 0 0, .slice none 0 0, .map none, .slice none 0 0, .slice none 0 0] }),
(124, { ld := some (true, 14), fl := [some (0, true, 7), some (7, false, 1), some (8, false, 1), some (9, false, 1), some (10, false, 1), some (11, false, 1), some (12, false, 1), some (13, false, 1)], ze := some [.int .i64 0, .int .i64 0, .slice none 0 0, .int .i64 0, .slice none 0 0, .slice none 0 0, .int .i64 0, .pointer none, .slice none 0 0, .slice none 0 0, .slice none 0 0, .map none, .slice none 0 0, .slice none 0 0] }),
(125, { ld := some (false, 1), ze := some [.nilFunc] }),
(126, { ld := some (false, 1), ik := some .u16, ze := some [.int .u16 0] }),
(127, { ld := some (true, 12), ar := some (12, 1), ze := some [.int .u16 0, .int .u16 0, .int .u16 0, .int .u16 0, .int .u16 0, .int .u16 0, .int .u16 0, .int .u16 0, .int .u16 0, .int .u16 0, .int .u16 0, .int .u16 0] }),
(128, { ld := some (true, 12), ar := some (12, 1), ze := some [.int .u16 0, .int .u16 0, .int .u16 0, .int .u16 0, .int .u16 0, .int .u16 0, .int .u16 0, .int .u16 0, .int .u16 0, .int .u16 0, .int .u16 0, .int .u16 0] }),
(129, { ld := some (false, 1), ze := some [.nilFunc] }),
(130, { ld := some (false, 1), ze := some [.nilFunc] }),
(131, { ld := some (false, 1), ze := some [.nilFunc] }),
(132, { ld := some (false, 1), ze := some [.nilFunc] }),
(134, { ld := some (false, 1), ze := some [.nilFunc] }),
(135, { ld := some (false, 1), ze := some [.nilFunc] }),
(136, { ld := some (false, 1), ze := some [.nilFunc] }),
(137, { ld := some (false, 1), ze := some [.nilFunc] }),
(138, { ld := some (false, 1), ze := some [.nilFunc] }),
(139, { ld := some (false, 1), ze := some [.nilFunc] }),
(140, { ld := some (false, 1), ze := some [.nilFunc] }),
(141, { ld := some (false, 1), ze := some [.nilFunc] }),
(142, { ld := some (false, 1), ze := some [.nilFunc] }),
(143, { ld := some (false, 1), ze := some [.nilFunc] }),
(144, { ld := some (false, 1), ze := some [.nilFunc] }),
(145, { ld := some (true, 96), ar := some (16, 6), ze := some [.int .i64 0, .int .i64 0, .int .i64 0, .int .i64 0, .int .i64 0, .int .i64 0, .int .i64 0, .int .i64 0, .int .i64 0, .int .i64 0, .int .i64 0, .int .i64 0, .int .i64 0, .int .i64 0, .int .i64 0, .int .i64 0, .int .i64 0, .int .i64 0, .int .i64 0, .int .i64 0, .int .i64 0, .int .i64 0, .int .i64 0, .int .i64 0, .int .i64 0, .int .i64 0, .int .i64 0, .int .i64 0, .int .i64 0, .int .i64 0, .int .i64 0, .int .i64 0, .int .i64 0, .int .i64 0, .int .i64 0, .int .i64 0, .int .i64 0, .int .i64 0, .int .i64 0, .int .i64 0, .int .i64 0, .int .i64 0, .int .i64 0, .int .i64 0, .int .i64 0, .int .i64 0, .int .i64 0, .int .i64 0, .int .i64 0, .int .i64 0, .int .i64 0, .int .i64 0, .int .i64 0, .int .i64 0, .int .i64 0, .int .i64 0, .int .i64 0, .int .i64 0, .int .i64 0, .int .i64 0, .int .i64 0, .int .i64 0, .int .i64 0, .int .i64 0, .int .i64 0, .int .i64 0, .int .i64 0, .int .i64 0, .int .i64 0, .int .i64 0, .int .i64 0, .int .i64 0, .int .i64 0, .int .i64 0, .int .i64 0, .int .i64 0, .int .i64 0, .int .i64 0, .int .i64 0, .int .i64 0, .int .i64 0, .int .i64 0, .int .i64 0, .int .i64 0, .int .i64 0, .int .i64 0, .int .i64 0, .int .i64 0, .int .i64 0, .int .i64 0, .int .i64 0, .int .i64 0, .int .i64 0, .int .i64 0, .int .i64 0, .int .i64 0] }),
(146, { ld := some (true, 96), ar := some (16, 6), ze := some [.int .i64 0, .int .i64 0, .int .i64 0, .int .i64 0, .int .i64 0, .int .i64 0, .int .i64 0, .int .i64 0, .int .i64 0, .int .i64 0, .int .i64 0, .int .i64 0, .int .i64 0, .int .i64 0, .int .i64 0, .int .i64 0, .int .i64 0, .int .i64 0, .int .i64 0, .int .i64 0, .int .i64 0, .int .i64 0, .int .i64 0, .int .i64 0, .int .i64 0, .int .i64 0, .int .i64 0, .int .i64 0, .int .i64 0, .int .i64 0, .int .i64 0, .int .i64 0, .int .i64 0, .int .i64 0, .int .i64 0, .int .i64 0, .int .i64 0, .int .i64 0, .int .i64 0, .int .i64 0, .int .i64 0, .int .i64 0, .int .i64 0, .int .i64 0, .int .i64 0, .int .i64 0, .int .i64 0, .int .i64 0, .int .i64 0, .int .i64 0, .int .i64 0, .int .i64 0, .int .i64 0, .int .i64 0, .int .i64 0, .int .i64 0, .int .i64 0, .int .i64 0, .int .i64 0, .int .i64 0, .int .i64 0, .int .i64 0, .int .i64 0, .int .i64 0, .int .i64 0, .int .i64 0, .int .i64 0, .int .i64 0, .int .i64 0, .int .i64 0, .int .i64 0, .int .i64 0, .int .i64 0, .int .i64 0, .int .i64 0, .int .i64 0, .int .i64 0, .int .i64 0, .int .i64 0, .int .i64 0, .int .i64 0, .int .i64 0, .int .i64 0, .int .i64 0, .int .i64 0, .int .i64 0, .int .i64 0, .int .i64 0, .int .i64 0, .int .i64 0, .int .i64 0, .int .i64 0, .int .i64 0, .int .i64 0, .int .i64 0, .int .i64 0] }),
(147, { ld := some (true, 3), fl := [some (0, false, 1), some (1, false, 1), some (2, false, 1)], ze := some [.int .i64 0, .int .i64 0, .int .i64 0] }),
(148, { ld := some (true, 3), fl := [some (0, false, 1), some (1, false, 1), some (2, false, 1)], ze := some [.int .i64 0, .int .i64 0, .int .i64 0] }),
(149, { ld := some (false, 1), ze := some [.nilFunc] }),
(150, { ld := some (false, 1), sl := some (152, 3, 40), ze := some [.slice none 0 0] }),
(151, { ld := some (true, 3), fl := [some (0, false, 1), some (1, false, 1), some (2, false, 1)], ze := some [.int .i64 0, .int .i64 0, .slice none 0 0] }),
(152, { ld := some (true, 3), fl := [some (0, false, 1), some (1, false, 1), some (2, false, 1)], ze := some [.int .i64 0, .int .i64 0, .slice none 0 0] }),
(153, { ld := some (false, 1), ze := some [.nilFunc] }),
(154, { ld := some (false, 1), ze := some [.nilFunc] }),
(155, { ld := some (false, 1), ze := some [.nilFunc] }),
(156, { ld := some (false, 1), ze := some [.nilFunc] }),
(157, { ld := some (false, 1), ze := some [.nilFunc] }),
(158, { ld := some (false, 1), ze := some [.nilFunc] }),
(159, { ld := some (false, 1), ze := some [.nilFunc] }),
(160, { ld := some (false, 1), ze := some [.nilFunc] }),
(161, { ld := some (false, 1), ze := some [.nilFunc] }),
(162, { ld := some (false, 1), ze := some [.nilFunc] }),
(163, { ld := some (false, 1), ze := some [.nilFunc] }),
(164, { ld := some (false, 1), ze := some [.nilFunc] }),
(165, { ld := some (false, 1), ze := some [.nilFunc] }),
(166, { ld := some (false, 1), ze := some [.nilFunc] }),
(167, { ld := some (false, 1), ze := some [.nilFunc] }),
(168, { ld := some (false, 1), ze := some [.nilFunc] }),
(169, { ld := some (false, 1), ze := some [.nilFunc] }),
(170, { ld := some (false, 1), ze := some [.nilFunc] }),
(171, { ld := some (false, 1), ze := some [.nilFunc] }),
(172, { ld := some (false, 1), ik := some .u32, ze := some [.int .u32 0] }),
(173, { ld := some (false, 1), ze := some [.nilFunc] }),
(174, { ld := some (false, 1), ik := some .u64, ze := some [.int .u64 0] }),
(175, { ld := some (true, 32), ar := some (32, 1), ze := some [.int .u8 0, .int .u8 0, .int .u8 0, .int .u8 0, .int .u8 0, .int .u8 0, .int .u8 0, .int .u8 0, .int .u8 0, .int .u8 0, .int .u8 0, .int .u8 0, .int .u8 0, .int .u8 0, .int .u8 0, .int .u8 0, .int .u8 0, .int .u8 0, .int .u8 0, .int .u8 0, .int .u8 0, .int .u8 0, .int .u8 0, .int .u8 0, .int .u8 0, .int .u8 0, .int .u8 0, .int .u8 0, .int .u8 0, .int .u8 0, .int .u8 0, .int .u8 0] }),
(176, { ld := some (true, 64), ar := some (64, 1), ze := some [.int .u8 0, .int .u8 0, .int .u8 0, .int .u8 0, .int .u8 0, .int .u8 0, .int .u8 0, .int .u8 0, .int .u8 0, .int .u8 0, .int .u8 0, .int .u8 0, .int .u8 0, .int .u8 0, .int .u8 0, .int .u8 0, .int .u8 0, .int .u8 0, .int .u8 0, .int .u8 0, .int .u8 0, .int .u8 0, .int .u8 0, .int .u8 0, .int .u8 0, .int .u8 0, .int .u8 0, .int .u8 0, .int .u8 0, .int .u8 0, .int .u8 0, .int .u8 0, .int .u8 0, .int .u8 0, .int .u8 0, .int .u8 0, .int .u8 0, .int .u8 0, .int .u8 0, .int .u8 0, .int .u8 0, .int .u8 0, .int .u8 0, .int .u8 0, .int .u8 0, .int .u8 0, .int .u8 0, .int .u8 0, .int .u8 0, .int .u8 0, .int .u8 0, .int .u8 0, .int .u8 0, .int .u8 0, .int .u8 0, .int .u8 0, .int .u8 0, .int .u8 0, .int .u8 0, .int .u8 0, .int .u8 0, .int .u8 0, .int .u8 0, .int .u8 0] }),
(177, { ld := some (false, 1), ze := some [.nilFunc] }),
(178, { ld := some (true, 4), fl := [some (0, false, 1), some (1, false, 1), some (2, false, 1), some (3, false, 1)], ze := some [.pointer none, .pointer none, .pointer none, .string ⟨#[]⟩] }),
(179, { ld := some (true, 4), fl := [some (0, false, 1), some (1, false, 1), some (2, false, 1), some (3, false, 1)], ze := some [.pointer none, .pointer none, .pointer none, .string ⟨#[]⟩] }),
(180, { ld := some (true, 0), ar := some (0, 1) }),
(181, { ld := some (true, 0), fl := [none] }),
(182, { ld := some (true, 0), fl := [none] }),
(183, { ld := some (false, 1), ze := some [.nilFunc] }),
(184, { ld := some (false, 1), ik := some .u8, ze := some [.int .u8 0] }),
(185, { ld := some (false, 1), ik := some .u8, ze := some [.int .u8 0] }),
(186, { ld := some (false, 1), ze := some [.nilFunc] }),
(187, { ld := some (false, 1), pt := true, ze := some [.pointer none] }),
(188, { ld := some (false, 1), ik := some .i32, ze := some [.int .i32 0] }),
(189, { ld := some (false, 1), ik := some .i32, ze := some [.int .i32 0] }),
(190, { ld := some (true, 11), fl := [some (0, false, 1), some (1, false, 1), some (2, false, 1), some (3, false, 1), some (4, false, 1), some (5, false, 1), some (6, false, 1), some (7, false, 1), some (8, false, 1), some (9, false, 1), some (10, false, 1)], ze := some [.int .u64 0, .int .u64 0, .int .u32 0, .int .u8 0, .int .u8 0, .int .u8 0, .int .u8 0, .nilFunc, .pointer none, .int .i32 0, .int .i32 0] }),
(191, { ld := some (true, 11), fl := [some (0, false, 1), some (1, false, 1), some (2, false, 1), some (3, false, 1), some (4, false, 1), some (5, false, 1), some (6, false, 1), some (7, false, 1), some (8, false, 1), some (9, false, 1), some (10, false, 1)], ze := some [.int .u64 0, .int .u64 0, .int .u32 0, .int .u8 0, .int .u8 0, .int .u8 0, .int .u8 0, .nilFunc, .pointer none, .int .i32 0, .int .i32 0] })]
instance : HasT Tryz.prog := ⟨tyT, allB_ok (by kernel_rfl)⟩
def tabdeBruijn32tab : List Value := [.int .u8 0, .int .u8 1, .int .u8 28, .int .u8 2, .int .u8 29, .int .u8 14, .int .u8 24, .int .u8 3, .int .u8 30, .int .u8 22, .int .u8 20, .int .u8 15, .int .u8 25, .int .u8 17, .int .u8 4, .int .u8 8, .int .u8 31, .int .u8 27, .int .u8 13, .int .u8 23, .int .u8 21, .int .u8 19, .int .u8 16, .int .u8 7, .int .u8 26, .int .u8 12, .int .u8 18, .int .u8 6, .int .u8 11, .int .u8 5, .int .u8 10, .int .u8 9]
def tabdeBruijn64tab : List Value := [.int .u8 0, .int .u8 1, .int .u8 56, .int .u8 2, .int .u8 57, .int .u8 49, .int .u8 28, .int .u8 3, .int .u8 61, .int .u8 58, .int .u8 42, .int .u8 50, .int .u8 38, .int .u8 29, .int .u8 17, .int .u8 4, .int .u8 62, .int .u8 47, .int .u8 59, .int .u8 36, .int .u8 45, .int .u8 43, .int .u8 51, .int .u8 22, .int .u8 53, .int .u8 39, .int .u8 33, .int .u8 30, .int .u8 24, .int .u8 18, .int .u8 12, .int .u8 5, .int .u8 63, .int .u8 55, .int .u8 48, .int .u8 27, .int .u8 60, .int .u8 41, .int .u8 37, .int .u8 16, .int .u8 46, .int .u8 35, .int .u8 44, .int .u8 21, .int .u8 52, .int .u8 32, .int .u8 23, .int .u8 11, .int .u8 54, .int .u8 26, .int .u8 40, .int .u8 15, .int .u8 34, .int .u8 20, .int .u8 31, .int .u8 10, .int .u8 25, .int .u8 14, .int .u8 19, .int .u8 9, .int .u8 13, .int .u8 8, .int .u8 7, .int .u8 6]
class Tabs (TB : List (Nat × Obj)) : Prop where
  t0 : HasTab TB 0 tabdeBruijn32tab
  t1 : HasTab TB 1 tabdeBruijn64tab
theorem mixed : Tryz.prog.follows .mixedOrders = true := by kernel_rfl
end Go.Am
