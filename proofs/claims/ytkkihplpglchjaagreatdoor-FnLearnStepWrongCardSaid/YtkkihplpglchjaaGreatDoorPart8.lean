/-
  The seat's types, as the rules ask for them.
-/
import Derived.Test.YtkkihplpglchjaaGreatDoorPart7
import Derived.Test.YtkkihplpglchjaaGreatDoorProg
import Derived.KernelRfl
set_option linter.constructorNameAsVariable false
set_option linter.unusedSimpArgs false
set_option linter.unusedVariables false
namespace Go.Am
open Go Go.Proofs
instance:DJ Tryz.prog 3 false 1:=⟨by kernel_rfl⟩
instance:Ix Tryz.prog 3 .i64:=⟨by kernel_rfl⟩
instance:NH Tryz.prog 3 (.int .i64 0):=⟨by kernel_rfl⟩
instance:BO Tryz.prog 3 [.int .i64 0]:=⟨by kernel_rfl⟩
instance:BO Tryz.prog 4 [.bool false]:=⟨by kernel_rfl⟩
instance:BO Tryz.prog 5 [.int .u8 0]:=⟨by kernel_rfl⟩
instance:Dq Tryz.prog 9:=⟨by kernel_rfl⟩
instance:BO Tryz.prog 9 [.string ⟨#[]⟩]:=⟨by kernel_rfl⟩
instance:Ix Tryz.prog 21 .i32:=⟨by kernel_rfl⟩
instance:Sq Tryz.prog 22:=⟨5,by kernel_rfl,by kernel_rfl⟩
instance:Cb Tryz.prog 22 5 1 1:=⟨by kernel_rfl⟩
instance:BO Tryz.prog 23 [.slice none 0 0]:=⟨by kernel_rfl⟩
instance:Cb Tryz.prog 23 90 1 24:=⟨by kernel_rfl⟩
instance:Cb Tryz.prog 24 4 1 1:=⟨by kernel_rfl⟩
instance:DJ Tryz.prog 26 true 3:=⟨by kernel_rfl⟩
instance:BO Tryz.prog 26 [.int .i64 0,.slice none 0 0,.slice none 0 0]:=⟨by kernel_rfl⟩
instance:Ev Tryz.prog 26 [(0,1),(1,1),(2,1)]:=⟨by kernel_rfl⟩
instance:Cb Tryz.prog 27 163 3 24:=⟨by kernel_rfl⟩
instance:DJ Tryz.prog 29 true 3:=⟨by kernel_rfl⟩
instance:BO Tryz.prog 29 [.int .i64 0,.int .i64 0,.slice none 0 0]:=⟨by kernel_rfl⟩
instance:Ev Tryz.prog 29 [(0,1),(1,1),(2,1)]:=⟨by kernel_rfl⟩
instance:BO Tryz.prog 31 [.int .i64 0,.int .i64 0,.slice none 0 0,.int .i64 0,.slice none 0 0,.slice none 0 0,.int .i64 0]:=⟨by kernel_rfl⟩
instance:Ev Tryz.prog 31 [(0,3),(3,3),(6,1)]:=⟨by kernel_rfl⟩
instance:DJ Tryz.prog 33 true 11:=⟨by kernel_rfl⟩
instance:BO Tryz.prog 33 [.bool false,.int .i64 0,.slice none 0 0,.slice none 0 0,.int .i64 0,.int .i64 0,.slice none 0 0,.int .i64 0,.slice none 0 0,.slice none 0 0,.int .i64 0]:=⟨by kernel_rfl⟩
instance:Ev Tryz.prog 33 [(0,1),(1,3),(4,7)]:=⟨by kernel_rfl⟩
instance:Cb Tryz.prog 34 9 1 16:=⟨by kernel_rfl⟩
instance:DJ Tryz.prog 36 true 2:=⟨by kernel_rfl⟩
instance:BO Tryz.prog 36 [.slice none 0 0,.slice none 0 0]:=⟨by kernel_rfl⟩
instance:Ev Tryz.prog 36 [(0,1),(1,1)]:=⟨by kernel_rfl⟩
instance:BO Tryz.prog 71 [.int .i64 0,.nilFunc]:=⟨by kernel_rfl⟩
instance:Ev Tryz.prog 71 [(0,1),(1,1)]:=⟨by kernel_rfl⟩
instance:BO Tryz.prog 90 [.slice none 0 0]:=⟨by kernel_rfl⟩
instance:Cb Tryz.prog 90 3 1 8:=⟨by kernel_rfl⟩
instance:Cb Tryz.prog 94 96 6 48:=⟨by kernel_rfl⟩
instance:BO Tryz.prog 96 [.int .i64 0,.int .i64 0,.int .i64 0,.int .i64 0,.int .i64 0,.int .i64 0]:=⟨by kernel_rfl⟩
instance:Ev Tryz.prog 96 [(0,1),(1,1),(2,1),(3,1),(4,1),(5,1)]:=⟨by kernel_rfl⟩
instance:BO Tryz.prog 112 [.slice none 0 0,.int .i64 0]:=⟨by kernel_rfl⟩
instance:Ev Tryz.prog 112 [(0,1),(1,1)]:=⟨by kernel_rfl⟩
instance:Ik Tryz.prog 115 9 3:=⟨by kernel_rfl⟩
instance:BO Tryz.prog 137 [.slice none 0 0,.slice none 0 0,.slice none 0 0,.int .i64 0,.int .i64 0,.int .i64 0]:=⟨by kernel_rfl⟩
instance:Ev Tryz.prog 137 [(0,1),(1,1),(2,1),(3,1),(4,1),(5,1)]:=⟨by kernel_rfl⟩
instance:Ik Tryz.prog 140 147 3:=⟨by kernel_rfl⟩
instance:Cb Tryz.prog 141 147 12 24:=⟨by kernel_rfl⟩
instance:BO Tryz.prog 143 [.int .i64 0,.int .i64 0,.slice none 0 0,.int .i64 0,.slice none 0 0,.slice none 0 0,.int .i64 0,.pointer none,.slice none 0 0,.slice none 0 0,.slice none 0 0,.map none,.slice none 0 0,.slice none 0 0]:=⟨by kernel_rfl⟩
instance:Ev Tryz.prog 143 [(0,7),(7,1),(8,1),(9,1),(10,1),(11,1),(12,1),(13,1)]:=⟨by kernel_rfl⟩
instance:DJ Tryz.prog 145 false 1:=⟨by kernel_rfl⟩
instance:Ix Tryz.prog 145 .u16:=⟨by kernel_rfl⟩
instance:BO Tryz.prog 147 [.int .u16 0,.int .u16 0,.int .u16 0,.int .u16 0,.int .u16 0,.int .u16 0,.int .u16 0,.int .u16 0,.int .u16 0,.int .u16 0,.int .u16 0,.int .u16 0]:=⟨by kernel_rfl⟩
instance:Ev Tryz.prog 147 [(0,1),(1,1),(2,1),(3,1),(4,1),(5,1),(6,1),(7,1),(8,1),(9,1),(10,1),(11,1)]:=⟨by kernel_rfl⟩
instance:BO Tryz.prog 163 [.int .i64 0,.int .i64 0,.int .i64 0]:=⟨by kernel_rfl⟩
instance:Ev Tryz.prog 163 [(0,1),(1,1),(2,1)]:=⟨by kernel_rfl⟩
instance:Cb Tryz.prog 173 23 1 24:=⟨by kernel_rfl⟩
instance:NG Tryz.prog 214 64 1:=⟨by kernel_rfl⟩
def dT:List (Nat×TI):=[(1,{ ld:=some (false,1),ze:=some [.nilFunc] }),
(2,{ ld:=some (false,1),ik:=some .i64,ze:=some [.int .i64 0] }),
(3,{ ld:=some (false,1),ik:=some .i64,ze:=some [.int .i64 0] }),
(4,{ ld:=some (false,1),bo:=true,ze:=some [.bool false] }),
(5,{ ld:=some (false,1),ik:=some .u8,ze:=some [.int .u8 0] }),
(6,{ ld:=some (false,1),ik:=some .u8,ze:=some [.int .u8 0] }),
(7,{ ld:=some (true,4),fl:=[some (0,false,1),some (1,false,1),some (2,false,1),some (3,false,1)],ze:=some [.int .i64 0,.int .i64 0,.bool false,.int .u8 0] }),
(8,{ ld:=some (true,4),fl:=[some (0,false,1),some (1,false,1),some (2,false,1),some (3,false,1)],ze:=some [.int .i64 0,.int .i64 0,.bool false,.int .u8 0] }),
(9,{ ld:=some (false,1),st:=true,ze:=some [.string ⟨#[]⟩] }),
(10,{ ld:=some (false,1),st:=true,ze:=some [.string ⟨#[]⟩] }),
(11,{ ld:=some (false,1),st:=true,ze:=some [.string ⟨#[]⟩] }),
(12,{ ld:=some (false,1),ik:=some .u64,ze:=some [.int .u64 0] }),
(13,{ ld:=some (true,2),fl:=[some (0,false,1),some (1,false,1)],ze:=some [.string ⟨#[]⟩,.int .u64 0] }),
(14,{ ld:=some (true,2),fl:=[some (0,false,1),some (1,false,1)],ze:=some [.string ⟨#[]⟩,.int .u64 0] }),
(15,{ ld:=some (false,1),pt:=true,ze:=some [.pointer none] }),
(16,{ ld:=some (false,1),pt:=true,ze:=some [.pointer none] }),
(17,{ ld:=some (false,1),pt:=true,ze:=some [.pointer none] }),
(18,{ ld:=some (true,1),fl:=[some (0,false,1)],ze:=some [.pointer none] }),
(19,{ ld:=some (true,1),fl:=[some (0,false,1)],ze:=some [.pointer none] }),
(21,{ ld:=some (false,1),ik:=some .i32,ze:=some [.int .i32 0] }),
(22,{ ld:=some (false,1),sl:=some (5,1,1),ze:=some [.slice none 0 0] }),
(23,{ ld:=some (false,1),sl:=some (90,1,24),ze:=some [.slice none 0 0] }),
(24,{ ld:=some (false,1),sl:=some (4,1,1),ze:=some [.slice none 0 0] }),
(25,{ ld:=some (true,3),fl:=[some (0,false,1),some (1,false,1),some (2,false,1)],ze:=some [.int .i64 0,.slice none 0 0,.slice none 0 0] }),
(26,{ ld:=some (true,3),fl:=[some (0,false,1),some (1,false,1),some (2,false,1)],ze:=some [.int .i64 0,.slice none 0 0,.slice none 0 0] }),
(27,{ ld:=some (false,1),sl:=some (163,3,24),ze:=some [.slice none 0 0] }),
(28,{ ld:=some (true,3),fl:=[some (0,false,1),some (1,false,1),some (2,false,1)],ze:=some [.int .i64 0,.int .i64 0,.slice none 0 0] }),
(29,{ ld:=some (true,3),fl:=[some (0,false,1),some (1,false,1),some (2,false,1)],ze:=some [.int .i64 0,.int .i64 0,.slice none 0 0] }),
(30,{ ld:=some (true,7),fl:=[some (0,true,3),some (3,true,3),some (6,false,1)],ze:=some [.int .i64 0,.int .i64 0,.slice none 0 0,.int .i64 0,.slice none 0 0,.slice none 0 0,.int .i64 0] }),
(31,{ ld:=some (true,7),fl:=[some (0,true,3),some (3,true,3),some (6,false,1)],ze:=some [.int .i64 0,.int .i64 0,.slice none 0 0,.int .i64 0,.slice none 0 0,.slice none 0 0,.int .i64 0] }),
(32,{ ld:=some (true,11),fl:=[some (0,false,1),some (1,true,3),some (4,true,7)],ze:=some [.bool false,.int .i64 0,.slice none 0 0,.slice none 0 0,.int .i64 0,.int .i64 0,.slice none 0 0,.int .i64 0,.slice none 0 0,.slice none 0 0,.int .i64 0] }),
(33,{ ld:=some (true,11),fl:=[some (0,false,1),some (1,true,3),some (4,true,7)],ze:=some [.bool false,.int .i64 0,.slice none 0 0,.slice none 0 0,.int .i64 0,.int .i64 0,.slice none 0 0,.int .i64 0,.slice none 0 0,.slice none 0 0,.int .i64 0] }),
(34,{ ld:=some (false,1),sl:=some (9,1,16),ze:=some [.slice none 0 0] }),
(35,{ ld:=some (true,2),fl:=[some (0,false,1),some (1,false,1)],ze:=some [.slice none 0 0,.slice none 0 0] }),
(36,{ ld:=some (true,2),fl:=[some (0,false,1),some (1,false,1)],ze:=some [.slice none 0 0,.slice none 0 0] }),
(38,{ ld:=some (false,1),ze:=some [.nilFunc] }),
(39,{ ld:=some (false,1),ze:=some [.nilFunc] }),
(40,{ ld:=some (false,1),ze:=some [.nilFunc] }),
(42,{ ld:=some (false,1),ze:=some [.nilFunc] }),
(43,{ ld:=some (false,1),ze:=some [.nilFunc] }),
(45,{ ld:=some (false,1),ze:=some [.nilFunc] }),
(46,{ ld:=some (false,1),ze:=some [.nilFunc] }),
(47,{ ld:=some (false,1),ze:=some [.nilFunc] }),
(49,{ ld:=some (false,1),ze:=some [.nilFunc] }),
(50,{ ld:=some (false,1),ze:=some [.nilFunc] }),
(51,{ ld:=some (false,1),ze:=some [.nilFunc] }),
(53,{ ld:=some (false,1),ze:=some [.nilFunc] }),
(54,{ ld:=some (false,1),ze:=some [.nilFunc] }),
(55,{ ld:=some (false,1),ze:=some [.nilFunc] }),
(56,{ ld:=some (false,1),ze:=some [.nilFunc] }),
(57,{ ld:=some (false,1),ze:=some [.nilFunc] }),
(58,{ ld:=some (false,1),ze:=some [.nilFunc] }),
(59,{ ld:=some (false,1),ze:=some [.nilFunc] }),
(60,{ ld:=some (false,1),ze:=some [.nilFunc] }),
(61,{ ld:=some (false,1),ze:=some [.nilFunc] }),
(62,{ ld:=some (false,1),ze:=some [.nilFunc] }),
(63,{ ld:=some (false,1),ze:=some [.nilFunc] }),
(64,{ ld:=some (false,1),ze:=some [.nilFunc] }),
(65,{ ld:=some (false,1),pt:=true,ze:=some [.pointer none] }),
(66,{ ld:=some (false,1),ze:=some [.nilFunc] }),
(67,{ ld:=some (false,1),ze:=some [.nilFunc] }),
(68,{ ld:=some (false,1),ze:=some [.nilFunc] }),
(69,{ ld:=some (false,1),ze:=some [.nilFunc] }),
(70,{ ld:=some (true,2),fl:=[some (0,false,1),some (1,false,1)],ze:=some [.int .i64 0,.nilFunc] }),
(71,{ ld:=some (true,2),fl:=[some (0,false,1),some (1,false,1)],ze:=some [.int .i64 0,.nilFunc] }),
(73,{ ld:=some (false,1),ze:=some [.nilFunc] }),
(74,{ ld:=some (false,1),ze:=some [.nilFunc] }),
(75,{ ld:=some (false,1),ze:=some [.nilFunc] }),
(76,{ ld:=some (false,1),ze:=some [.nilFunc] }),
(77,{ ld:=some (false,1),ze:=some [.nilFunc] }),
(78,{ ld:=some (false,1),ze:=some [.nilFunc] }),
(79,{ ld:=some (false,1),ze:=some [.nilFunc] }),
(80,{ ld:=some (false,1),ze:=some [.nilFunc] }),
(81,{ ld:=some (false,1),ze:=some [.nilFunc] }),
(82,{ ld:=some (false,1),ze:=some [.nilFunc] }),
(83,{ ld:=some (false,1),ze:=some [.nilFunc] }),
(84,{ ld:=some (false,1),ze:=some [.nilFunc] }),
(85,{ ld:=some (false,1),ze:=some [.nilFunc] }),
(86,{ ld:=some (false,1),ze:=some [.nilFunc] }),
(87,{ ld:=some (false,1),ze:=some [.nilFunc] }),
(88,{ ld:=some (false,1),ze:=some [.nilFunc] }),
(89,{ ld:=some (false,1),ze:=some [.nilFunc] }),
(90,{ ld:=some (false,1),sl:=some (3,1,8),ze:=some [.slice none 0 0] }),
(91,{ ld:=some (false,1),ze:=some [.nilFunc] }),
(92,{ ld:=some (false,1),ze:=some [.nilFunc] }),
(93,{ ld:=some (false,1),ze:=some [.nilFunc] }),
(94,{ ld:=some (false,1),sl:=some (96,6,48),ze:=some [.slice none 0 0] }),
(95,{ ld:=some (false,1),ze:=some [.nilFunc] }),
(96,{ ld:=some (true,6),ar:=some (6,1),ze:=some [.int .i64 0,.int .i64 0,.int .i64 0,.int .i64 0,.int .i64 0,.int .i64 0] }),
(97,{ ld:=some (false,1),ze:=some [.nilFunc] }),
(98,{ ld:=some (false,1),ze:=some [.nilFunc] }),
(99,{ ld:=some (false,1),ze:=some [.nilFunc] }),
(100,{ ld:=some (false,1),ze:=some [.nilFunc] }),
(101,{ ld:=some (false,1),ze:=some [.nilFunc] }),
(102,{ ld:=some (false,1),ze:=some [.nilFunc] }),
(103,{ ld:=some (false,1),ze:=some [.nilFunc] }),
(104,{ ld:=some (false,1),ik:=some .u64,ze:=some [.int .u64 0] }),
(105,{ ld:=some (false,1),ze:=some [.nilFunc] }),
(106,{ ld:=some (false,1),ze:=some [.nilFunc] }),
(107,{ ld:=some (false,1),ze:=some [.nilFunc] }),
(108,{ ld:=some (false,1),ze:=some [.nilFunc] }),
(109,{ ld:=some (false,1),ze:=some [.nilFunc] }),
(110,{ ld:=some (false,1),ze:=some [.nilFunc] }),
(111,{ ld:=some (true,2),fl:=[some (0,false,1),some (1,false,1)],ze:=some [.slice none 0 0,.int .i64 0] }),
(112,{ ld:=some (true,2),fl:=[some (0,false,1),some (1,false,1)],ze:=some [.slice none 0 0,.int .i64 0] }),
(113,{ ld:=some (false,1),pt:=true,ze:=some [.pointer none] }),
(114,{ ld:=some (false,1),ze:=some [.nilFunc] }),
(115,{ ld:=some (false,1),ze:=some [.map none] }),
(116,{ ld:=some (false,1),ze:=some [.nilFunc] }),
(117,{ ld:=some (false,1),ze:=some [.nilFunc] }),
(119,{ ld:=some (false,1),ze:=some [.nilFunc] }),
(121,{ ld:=some (false,1),ze:=some [.nilFunc] }),
(123,{ ld:=some (false,1),ze:=some [.nilFunc] }),
(124,{ ld:=some (false,1),ze:=some [.nilFunc] }),
(125,{ ld:=some (false,1),ze:=some [.nilFunc] }),
(126,{ ld:=some (false,1),ze:=some [.nilFunc] }),
(127,{ ld:=some (false,1),ze:=some [.nilFunc] }),
(128,{ ld:=some (false,1),ze:=some [.nilFunc] }),
(129,{ ld:=some (false,1),ze:=some [.nilFunc] }),
(131,{ ld:=some (false,1),ze:=some [.nilFunc] }),
(132,{ ld:=some (false,1),ze:=some [.nilFunc] }),
(133,{ ld:=some (false,1),ze:=some [.nilFunc] }),
(134,{ ld:=some (false,1),sl:=some (26,3,56),ze:=some [.slice none 0 0] }),
(135,{ ld:=some (false,1),sl:=some (29,3,40),ze:=some [.slice none 0 0] }),
(136,{ ld:=some (true,6),fl:=[some (0,false,1),some (1,false,1),some (2,false,1),some (3,false,1),some (4,false,1),some (5,false,1)],ze:=some [.slice none 0 0,.slice none 0 0,.slice none 0 0,.int .i64 0,.int .i64 0,.int .i64 0] }),
(137,{ ld:=some (true,6),fl:=[some (0,false,1),some (1,false,1),some (2,false,1),some (3,false,1),some (4,false,1),some (5,false,1)],ze:=some [.slice none 0 0,.slice none 0 0,.slice none 0 0,.int .i64 0,.int .i64 0,.int .i64 0] }),
(138,{ ld:=some (false,1),pt:=true,ze:=some [.pointer none] }),
(139,{ ld:=some (false,1),ze:=some [.nilFunc] }),
(140,{ ld:=some (false,1),ze:=some [.map none] }),
(141,{ ld:=some (false,1),sl:=some (147,12,24),ze:=some [.slice none 0 0] }),
(142,{ ld:=some (true,14),fl:=[some (0,true,7),some (7,false,1),some (8,false,1),some (9,false,1),some (10,false,1),some (11,false,1),some (12,false,1),some (13,false,1)],ze:=some [.int .i64 0,.int .i64 0,.slice none 0 0,.int .i64 0,.slice none 0 0,.slice none 0 0,.int .i64 0,.pointer none,.slice none 0 0,.slice none 0 0,.slice none 0 0,.map none,.slice none 0 0,.slice none 0 0] }),
(143,{ ld:=some (true,14),fl:=[some (0,true,7),some (7,false,1),some (8,false,1),some (9,false,1),some (10,false,1),some (11,false,1),some (12,false,1),some (13,false,1)],ze:=some [.int .i64 0,.int .i64 0,.slice none 0 0,.int .i64 0,.slice none 0 0,.slice none 0 0,.int .i64 0,.pointer none,.slice none 0 0,.slice none 0 0,.slice none 0 0,.map none,.slice none 0 0,.slice none 0 0] }),
(144,{ ld:=some (false,1),ze:=some [.nilFunc] }),
(145,{ ld:=some (false,1),ik:=some .u16,ze:=some [.int .u16 0] }),
(146,{ ld:=some (true,12),ar:=some (12,1),ze:=some [.int .u16 0,.int .u16 0,.int .u16 0,.int .u16 0,.int .u16 0,.int .u16 0,.int .u16 0,.int .u16 0,.int .u16 0,.int .u16 0,.int .u16 0,.int .u16 0] }),
(147,{ ld:=some (true,12),ar:=some (12,1),ze:=some [.int .u16 0,.int .u16 0,.int .u16 0,.int .u16 0,.int .u16 0,.int .u16 0,.int .u16 0,.int .u16 0,.int .u16 0,.int .u16 0,.int .u16 0,.int .u16 0] }),
(148,{ ld:=some (false,1),ze:=some [.nilFunc] }),
(149,{ ld:=some (false,1),ze:=some [.nilFunc] }),
(150,{ ld:=some (false,1),ze:=some [.nilFunc] }),
(151,{ ld:=some (false,1),ze:=some [.nilFunc] }),
(152,{ ld:=some (false,1),ze:=some [.nilFunc] }),
(153,{ ld:=some (false,1),ze:=some [.nilFunc] }),
(154,{ ld:=some (false,1),ze:=some [.nilFunc] }),
(155,{ ld:=some (false,1),ze:=some [.nilFunc] }),
(157,{ ld:=some (false,1),ze:=some [.nilFunc] }),
(158,{ ld:=some (false,1),ze:=some [.nilFunc] }),
(159,{ ld:=some (false,1),ze:=some [.nilFunc] }),
(160,{ ld:=some (false,1),ze:=some [.nilFunc] }),
(161,{ ld:=some (false,1),ze:=some [.nilFunc] }),
(162,{ ld:=some (true,3),fl:=[some (0,false,1),some (1,false,1),some (2,false,1)],ze:=some [.int .i64 0,.int .i64 0,.int .i64 0] }),
(163,{ ld:=some (true,3),fl:=[some (0,false,1),some (1,false,1),some (2,false,1)],ze:=some [.int .i64 0,.int .i64 0,.int .i64 0] }),
(164,{ ld:=some (false,1),ze:=some [.nilFunc] }),
(165,{ ld:=some (false,1),ze:=some [.nilFunc] }),
(166,{ ld:=some (false,1),sl:=some (168,3,40),ze:=some [.slice none 0 0] }),
(167,{ ld:=some (true,3),fl:=[some (0,false,1),some (1,false,1),some (2,false,1)],ze:=some [.int .i64 0,.int .i64 0,.slice none 0 0] }),
(168,{ ld:=some (true,3),fl:=[some (0,false,1),some (1,false,1),some (2,false,1)],ze:=some [.int .i64 0,.int .i64 0,.slice none 0 0] }),
(169,{ ld:=some (false,1),ze:=some [.nilFunc] }),
(170,{ ld:=some (false,1),ze:=some [.nilFunc] }),
(171,{ ld:=some (false,1),ze:=some [.map none] }),
(172,{ ld:=some (false,1),ze:=some [.nilFunc] }),
(173,{ ld:=some (false,1),sl:=some (23,1,24),ze:=some [.slice none 0 0] }),
(174,{ ld:=some (false,1),ze:=some [.nilFunc] }),
(175,{ ld:=some (false,1),ze:=some [.nilFunc] }),
(176,{ ld:=some (false,1),ze:=some [.nilFunc] }),
(177,{ ld:=some (false,1),ze:=some [.nilFunc] }),
(178,{ ld:=some (false,1),ze:=some [.nilFunc] }),
(179,{ ld:=some (false,1),ze:=some [.nilFunc] }),
(180,{ ld:=some (false,1),ze:=some [.nilFunc] }),
(181,{ ld:=some (false,1),ze:=some [.nilFunc] }),
(182,{ ld:=some (false,1),ze:=some [.nilFunc] }),
(183,{ ld:=some (false,1),ze:=some [.nilFunc] }),
(184,{ ld:=some (true,96),ar:=some (16,6),ze:=some [.int .i64 0,.int .i64 0,.int .i64 0,.int .i64 0,.int .i64 0,.int .i64 0,.int .i64 0,.int .i64 0,.int .i64 0,.int .i64 0,.int .i64 0,.int .i64 0,.int .i64 0,.int .i64 0,.int .i64 0,.int .i64 0,.int .i64 0,.int .i64 0,.int .i64 0,.int .i64 0,.int .i64 0,.int .i64 0,.int .i64 0,.int .i64 0,.int .i64 0,.int .i64 0,.int .i64 0,.int .i64 0,.int .i64 0,.int .i64 0,.int .i64 0,.int .i64 0,.int .i64 0,.int .i64 0,.int .i64 0,.int .i64 0,.int .i64 0,.int .i64 0,.int .i64 0,.int .i64 0,.int .i64 0,.int .i64 0,.int .i64 0,.int .i64 0,.int .i64 0,.int .i64 0,.int .i64 0,.int .i64 0,.int .i64 0,.int .i64 0,.int .i64 0,.int .i64 0,.int .i64 0,.int .i64 0,.int .i64 0,.int .i64 0,.int .i64 0,.int .i64 0,.int .i64 0,.int .i64 0,.int .i64 0,.int .i64 0,.int .i64 0,.int .i64 0,.int .i64 0,.int .i64 0,.int .i64 0,.int .i64 0,.int .i64 0,.int .i64 0,.int .i64 0,.int .i64 0,.int .i64 0,.int .i64 0,.int .i64 0,.int .i64 0,.int .i64 0,.int .i64 0,.int .i64 0,.int .i64 0,.int .i64 0,.int .i64 0,.int .i64 0,.int .i64 0,.int .i64 0,.int .i64 0,.int .i64 0,.int .i64 0,.int .i64 0,.int .i64 0,.int .i64 0,.int .i64 0,.int .i64 0,.int .i64 0,.int .i64 0,.int .i64 0] }),
(185,{ ld:=some (true,96),ar:=some (16,6),ze:=some [.int .i64 0,.int .i64 0,.int .i64 0,.int .i64 0,.int .i64 0,.int .i64 0,.int .i64 0,.int .i64 0,.int .i64 0,.int .i64 0,.int .i64 0,.int .i64 0,.int .i64 0,.int .i64 0,.int .i64 0,.int .i64 0,.int .i64 0,.int .i64 0,.int .i64 0,.int .i64 0,.int .i64 0,.int .i64 0,.int .i64 0,.int .i64 0,.int .i64 0,.int .i64 0,.int .i64 0,.int .i64 0,.int .i64 0,.int .i64 0,.int .i64 0,.int .i64 0,.int .i64 0,.int .i64 0,.int .i64 0,.int .i64 0,.int .i64 0,.int .i64 0,.int .i64 0,.int .i64 0,.int .i64 0,.int .i64 0,.int .i64 0,.int .i64 0,.int .i64 0,.int .i64 0,.int .i64 0,.int .i64 0,.int .i64 0,.int .i64 0,.int .i64 0,.int .i64 0,.int .i64 0,.int .i64 0,.int .i64 0,.int .i64 0,.int .i64 0,.int .i64 0,.int .i64 0,.int .i64 0,.int .i64 0,.int .i64 0,.int .i64 0,.int .i64 0,.int .i64 0,.int .i64 0,.int .i64 0,.int .i64 0,.int .i64 0,.int .i64 0,.int .i64 0,.int .i64 0,.int .i64 0,.int .i64 0,.int .i64 0,.int .i64 0,.int .i64 0,.int .i64 0,.int .i64 0,.int .i64 0,.int .i64 0,.int .i64 0,.int .i64 0,.int .i64 0,.int .i64 0,.int .i64 0,.int .i64 0,.int .i64 0,.int .i64 0,.int .i64 0,.int .i64 0,.int .i64 0,.int .i64 0,.int .i64 0,.int .i64 0,.int .i64 0] }),
(186,{ ld:=some (false,1),ze:=some [.nilFunc] }),
(187,{ ld:=some (false,1),ze:=some [.nilFunc] }),
(188,{ ld:=some (false,1),ze:=some [.nilFunc] }),
(189,{ ld:=some (false,1),ze:=some [.nilFunc] }),
(190,{ ld:=some (false,1),ze:=some [.nilFunc] }),
(191,{ ld:=some (false,1),ze:=some [.nilFunc] }),
(192,{ ld:=some (false,1),ze:=some [.nilFunc] }),
(194,{ ld:=some (false,1),ze:=some [.nilFunc] }),
(195,{ ld:=some (false,1),ze:=some [.nilFunc] }),
(197,{ ld:=some (false,1),ze:=some [.nilFunc] }),
(198,{ ld:=some (false,1),ze:=some [.nilFunc] }),
(199,{ ld:=some (false,1),ze:=some [.nilFunc] }),
(200,{ ld:=some (false,1),ze:=some [.nilFunc] }),
(201,{ ld:=some (false,1),ze:=some [.nilFunc] }),
(202,{ ld:=some (false,1),ze:=some [.nilFunc] }),
(203,{ ld:=some (false,1),ze:=some [.nilFunc] }),
(204,{ ld:=some (false,1),ze:=some [.nilFunc] }),
(205,{ ld:=some (false,1),ze:=some [.nilFunc] }),
(206,{ ld:=some (false,1),ze:=some [.nilFunc] }),
(207,{ ld:=some (false,1),ze:=some [.nilFunc] }),
(208,{ ld:=some (false,1),ze:=some [.nilFunc] }),
(209,{ ld:=some (false,1),ze:=some [.nilFunc] }),
(210,{ ld:=some (false,1),ik:=some .u32,ze:=some [.int .u32 0] }),
(211,{ ld:=some (false,1),ze:=some [.nilFunc] }),
(212,{ ld:=some (false,1),ik:=some .u64,ze:=some [.int .u64 0] }),
(213,{ ld:=some (true,32),ar:=some (32,1),ze:=some [.int .u8 0,.int .u8 0,.int .u8 0,.int .u8 0,.int .u8 0,.int .u8 0,.int .u8 0,.int .u8 0,.int .u8 0,.int .u8 0,.int .u8 0,.int .u8 0,.int .u8 0,.int .u8 0,.int .u8 0,.int .u8 0,.int .u8 0,.int .u8 0,.int .u8 0,.int .u8 0,.int .u8 0,.int .u8 0,.int .u8 0,.int .u8 0,.int .u8 0,.int .u8 0,.int .u8 0,.int .u8 0,.int .u8 0,.int .u8 0,.int .u8 0,.int .u8 0] }),
(214,{ ld:=some (true,64),ar:=some (64,1),ze:=some [.int .u8 0,.int .u8 0,.int .u8 0,.int .u8 0,.int .u8 0,.int .u8 0,.int .u8 0,.int .u8 0,.int .u8 0,.int .u8 0,.int .u8 0,.int .u8 0,.int .u8 0,.int .u8 0,.int .u8 0,.int .u8 0,.int .u8 0,.int .u8 0,.int .u8 0,.int .u8 0,.int .u8 0,.int .u8 0,.int .u8 0,.int .u8 0,.int .u8 0,.int .u8 0,.int .u8 0,.int .u8 0,.int .u8 0,.int .u8 0,.int .u8 0,.int .u8 0,.int .u8 0,.int .u8 0,.int .u8 0,.int .u8 0,.int .u8 0,.int .u8 0,.int .u8 0,.int .u8 0,.int .u8 0,.int .u8 0,.int .u8 0,.int .u8 0,.int .u8 0,.int .u8 0,.int .u8 0,.int .u8 0,.int .u8 0,.int .u8 0,.int .u8 0,.int .u8 0,.int .u8 0,.int .u8 0,.int .u8 0,.int .u8 0,.int .u8 0,.int .u8 0,.int .u8 0,.int .u8 0,.int .u8 0,.int .u8 0,.int .u8 0,.int .u8 0] }),
(215,{ ld:=some (false,1),ze:=some [.nilFunc] }),
(216,{ ld:=some (true,4),fl:=[some (0,false,1),some (1,false,1),some (2,false,1),some (3,false,1)],ze:=some [.pointer none,.pointer none,.pointer none,.string ⟨#[]⟩] }),
(217,{ ld:=some (true,4),fl:=[some (0,false,1),some (1,false,1),some (2,false,1),some (3,false,1)],ze:=some [.pointer none,.pointer none,.pointer none,.string ⟨#[]⟩] }),
(218,{ ld:=some (true,0),ar:=some (0,1) }),
(219,{ ld:=some (true,0),fl:=[none] }),
(220,{ ld:=some (true,0),fl:=[none] }),
(221,{ ld:=some (false,1),ze:=some [.nilFunc] }),
(222,{ ld:=some (false,1),ik:=some .u8,ze:=some [.int .u8 0] }),
(223,{ ld:=some (false,1),ik:=some .u8,ze:=some [.int .u8 0] }),
(224,{ ld:=some (false,1),ze:=some [.nilFunc] }),
(225,{ ld:=some (false,1),pt:=true,ze:=some [.pointer none] }),
(226,{ ld:=some (false,1),ik:=some .i32,ze:=some [.int .i32 0] }),
(227,{ ld:=some (false,1),ik:=some .i32,ze:=some [.int .i32 0] }),
(228,{ ld:=some (true,11),fl:=[some (0,false,1),some (1,false,1),some (2,false,1),some (3,false,1),some (4,false,1),some (5,false,1),some (6,false,1),some (7,false,1),some (8,false,1),some (9,false,1),some (10,false,1)],ze:=some [.int .u64 0,.int .u64 0,.int .u32 0,.int .u8 0,.int .u8 0,.int .u8 0,.int .u8 0,.nilFunc,.pointer none,.int .i32 0,.int .i32 0] }),
(229,{ ld:=some (true,11),fl:=[some (0,false,1),some (1,false,1),some (2,false,1),some (3,false,1),some (4,false,1),some (5,false,1),some (6,false,1),some (7,false,1),some (8,false,1),some (9,false,1),some (10,false,1)],ze:=some [.int .u64 0,.int .u64 0,.int .u32 0,.int .u8 0,.int .u8 0,.int .u8 0,.int .u8 0,.nilFunc,.pointer none,.int .i32 0,.int .i32 0] }),
(230,{ ld:=some (false,1),ze:=some [.nilFunc] })]
instance:CN Tryz.prog:=⟨dT,Sy (by kernel_rfl)⟩
def B5:List Value:=[.int .u8 0,.int .u8 1,.int .u8 28,.int .u8 2,.int .u8 29,.int .u8 14,.int .u8 24,.int .u8 3,.int .u8 30,.int .u8 22,.int .u8 20,.int .u8 15,.int .u8 25,.int .u8 17,.int .u8 4,.int .u8 8,.int .u8 31,.int .u8 27,.int .u8 13,.int .u8 23,.int .u8 21,.int .u8 19,.int .u8 16,.int .u8 7,.int .u8 26,.int .u8 12,.int .u8 18,.int .u8 6,.int .u8 11,.int .u8 5,.int .u8 10,.int .u8 9]
def Bq:List Value:=[.int .u8 0,.int .u8 1,.int .u8 56,.int .u8 2,.int .u8 57,.int .u8 49,.int .u8 28,.int .u8 3,.int .u8 61,.int .u8 58,.int .u8 42,.int .u8 50,.int .u8 38,.int .u8 29,.int .u8 17,.int .u8 4,.int .u8 62,.int .u8 47,.int .u8 59,.int .u8 36,.int .u8 45,.int .u8 43,.int .u8 51,.int .u8 22,.int .u8 53,.int .u8 39,.int .u8 33,.int .u8 30,.int .u8 24,.int .u8 18,.int .u8 12,.int .u8 5,.int .u8 63,.int .u8 55,.int .u8 48,.int .u8 27,.int .u8 60,.int .u8 41,.int .u8 37,.int .u8 16,.int .u8 46,.int .u8 35,.int .u8 44,.int .u8 21,.int .u8 52,.int .u8 32,.int .u8 23,.int .u8 11,.int .u8 54,.int .u8 26,.int .u8 40,.int .u8 15,.int .u8 34,.int .u8 20,.int .u8 31,.int .u8 10,.int .u8 25,.int .u8 14,.int .u8 19,.int .u8 9,.int .u8 13,.int .u8 8,.int .u8 7,.int .u8 6]
class Eh (TB:Bh):Prop where
 t0:JU TB 0 B5
 t1:JU TB 1 Bq
instance {TB:Bh}[h:Eh TB]:JU TB 1 Bq:=h.t1
theorem mixed:Tryz.prog.follows .mixedOrders=true:=by kernel_rfl
theorem rE{TB:Bh}{Γ:Ctx}{N:Nat}{ops:Array Oper}{Q:Exit→Env→Ab→Nat→Prop}{id:Nat}{f:Env}{σ:Ab}{nx:Nat}(ho:(Fw N ops && (Bd ops (Al (HN []) 0 ops.size) (Array.replicate ops.size false) && Kp ops (Al (HN []) 0 ops.size)))=true)
 (h:Lex Tryz.prog TB Γ ops (Al (HN []) 0 ops.size) (fun f σ nx=>Q .normal f σ nx) f σ nx):Ai Tryz.prog TB Γ N (.region id ops true) Q f σ nx:=by rw [Bool.and_eq_true] at ho;exact bU (HN []) mixed ho.1 ho.2 h
theorem rG{TB:Bh}{Γ:Ctx}{N:Nat}{ops:Array Oper}{Q:Exit→Env→Ab→Nat→Prop}{id:Nat}{f:Env}{σ:Ab}{nx:Nat}(fl:Fl)(ho:(Fw N ops && (Bd ops (Al fl 0 ops.size) (Array.replicate ops.size false) && Kp ops (Al fl 0 ops.size)))=true)
 (h:Lex Tryz.prog TB Γ ops (Al fl 0 ops.size) (fun f σ nx=>Q .normal f σ nx) f σ nx):Ai Tryz.prog TB Γ N (.region id ops true) Q f σ nx:=by rw [Bool.and_eq_true] at ho;exact bU fl mixed ho.1 ho.2 h
end Go.Am
