/-
  The seat's types, as the rules ask for them.
-/
import Derived.Test.YtdipaikojjjebaaGreatDoorPart10
import Derived.Test.YtdipaikojjjebaaGreatDoorProg
set_option linter.all false
namespace Go.Am
open Go Go.Proofs
instance:Eg Tryz.prog 3 false 1:=⟨by kernel_rfl⟩
instance:KK Tryz.prog 3 .i64:=⟨by kernel_rfl⟩
instance:RH Tryz.prog 3 (.int .i64 0):=⟨by kernel_rfl⟩
instance:BM Tryz.prog 3 [.int .i64 0]:=⟨by kernel_rfl⟩
instance:BM Tryz.prog 4 [.bool false]:=⟨by kernel_rfl⟩
instance:BM Tryz.prog 5 [.int .u8 0]:=⟨by kernel_rfl⟩
instance:Ek Tryz.prog 9:=⟨by kernel_rfl⟩
instance:BM Tryz.prog 9 [.string ⟨#[]⟩]:=⟨by kernel_rfl⟩
instance:KK Tryz.prog 21 .i32:=⟨by kernel_rfl⟩
instance:YC Tryz.prog 22:=⟨5,by kernel_rfl,by kernel_rfl⟩
instance:CT Tryz.prog 22 5 1 1:=⟨by kernel_rfl⟩
instance:CT Tryz.prog 23 78 3 24:=⟨by kernel_rfl⟩
instance:Eg Tryz.prog 25 true 3:=⟨by kernel_rfl⟩
instance:BM Tryz.prog 25 [.int .i64 0,.int .i64 0,.slice none 0 0]:=⟨by kernel_rfl⟩
instance:Ep Tryz.prog 25 [(0,1),(1,1),(2,1)]:=⟨by kernel_rfl⟩
instance:BM Tryz.prog 26 [.slice none 0 0]:=⟨by kernel_rfl⟩
instance:CT Tryz.prog 26 63 1 24:=⟨by kernel_rfl⟩
instance:CT Tryz.prog 27 4 1 1:=⟨by kernel_rfl⟩
instance:Eg Tryz.prog 29 true 3:=⟨by kernel_rfl⟩
instance:BM Tryz.prog 29 [.int .i64 0,.slice none 0 0,.slice none 0 0]:=⟨by kernel_rfl⟩
instance:Ep Tryz.prog 29 [(0,1),(1,1),(2,1)]:=⟨by kernel_rfl⟩
instance:BM Tryz.prog 33 [.int .i64 0,.int .i64 0,.slice none 0 0,.slice none 0 0,.string ⟨#[]⟩,.int .i64 0]:=⟨by kernel_rfl⟩
instance:Ep Tryz.prog 33 [(0,1),(1,3),(4,1),(5,1)]:=⟨by kernel_rfl⟩
instance:BM Tryz.prog 49 [.int .i64 0,.int .i64 0,.slice none 0 0,.int .i64 0,.slice none 0 0,.slice none 0 0,.int .i64 0]:=⟨by kernel_rfl⟩
instance:Ep Tryz.prog 49 [(0,3),(3,3),(6,1)]:=⟨by kernel_rfl⟩
instance:BM Tryz.prog 63 [.slice none 0 0]:=⟨by kernel_rfl⟩
instance:CT Tryz.prog 63 3 1 8:=⟨by kernel_rfl⟩
instance:BM Tryz.prog 78 [.int .i64 0,.int .i64 0,.int .i64 0]:=⟨by kernel_rfl⟩
instance:Ep Tryz.prog 78 [(0,1),(1,1),(2,1)]:=⟨by kernel_rfl⟩
instance:BM Tryz.prog 84 [.pointer none]:=⟨by kernel_rfl⟩
instance:CT Tryz.prog 85 94 6 48:=⟨by kernel_rfl⟩
instance:CT Tryz.prog 86 150 12 24:=⟨by kernel_rfl⟩
instance:Lw Tryz.prog 87 150 3:=⟨by kernel_rfl⟩
instance:BM Tryz.prog 89 [.int .i64 0,.int .i64 0,.slice none 0 0,.int .i64 0,.slice none 0 0,.slice none 0 0,.int .i64 0,.pointer none,.slice none 0 0,.slice none 0 0,.slice none 0 0,.map none,.slice none 0 0,.slice none 0 0]:=⟨by kernel_rfl⟩
instance:Ep Tryz.prog 89 [(0,7),(7,1),(8,1),(9,1),(10,1),(11,1),(12,1),(13,1)]:=⟨by kernel_rfl⟩
instance:BM Tryz.prog 94 [.int .i64 0,.int .i64 0,.int .i64 0,.int .i64 0,.int .i64 0,.int .i64 0]:=⟨by kernel_rfl⟩
instance:Ep Tryz.prog 94 [(0,1),(1,1),(2,1),(3,1),(4,1),(5,1)]:=⟨by kernel_rfl⟩
instance:BM Tryz.prog 98 [.slice none 0 0,.int .i64 0]:=⟨by kernel_rfl⟩
instance:Ep Tryz.prog 98 [(0,1),(1,1)]:=⟨by kernel_rfl⟩
instance:BM Tryz.prog 102 [.int .i64 0,.nilFunc]:=⟨by kernel_rfl⟩
instance:Ep Tryz.prog 102 [(0,1),(1,1)]:=⟨by kernel_rfl⟩
instance:BM Tryz.prog 106 [.bool false,.int .i64 0,.slice none 0 0,.slice none 0 0,.int .i64 0,.int .i64 0,.slice none 0 0,.int .i64 0,.slice none 0 0,.slice none 0 0,.int .i64 0]:=⟨by kernel_rfl⟩
instance:Ep Tryz.prog 106 [(0,1),(1,3),(4,7)]:=⟨by kernel_rfl⟩
instance:CT Tryz.prog 107 9 1 16:=⟨by kernel_rfl⟩
instance:Eg Tryz.prog 109 true 2:=⟨by kernel_rfl⟩
instance:BM Tryz.prog 109 [.slice none 0 0,.slice none 0 0]:=⟨by kernel_rfl⟩
instance:Ep Tryz.prog 109 [(0,1),(1,1)]:=⟨by kernel_rfl⟩
instance:BM Tryz.prog 136 [.int .i64 0,.int .i64 0]:=⟨by kernel_rfl⟩
instance:Ep Tryz.prog 136 [(0,1),(1,1)]:=⟨by kernel_rfl⟩
instance:CT Tryz.prog 137 136 2 16:=⟨by kernel_rfl⟩
instance:Eg Tryz.prog 148 false 1:=⟨by kernel_rfl⟩
instance:KK Tryz.prog 148 .u16:=⟨by kernel_rfl⟩
instance:BM Tryz.prog 150 [.int .u16 0,.int .u16 0,.int .u16 0,.int .u16 0,.int .u16 0,.int .u16 0,.int .u16 0,.int .u16 0,.int .u16 0,.int .u16 0,.int .u16 0,.int .u16 0]:=⟨by kernel_rfl⟩
instance:Ep Tryz.prog 150 [(0,1),(1,1),(2,1),(3,1),(4,1),(5,1),(6,1),(7,1),(8,1),(9,1),(10,1),(11,1)]:=⟨by kernel_rfl⟩
instance:Lw Tryz.prog 167 9 3:=⟨by kernel_rfl⟩
instance:BM Tryz.prog 184 [.slice none 0 0,.slice none 0 0,.slice none 0 0,.int .i64 0,.int .i64 0,.int .i64 0]:=⟨by kernel_rfl⟩
instance:Ep Tryz.prog 184 [(0,1),(1,1),(2,1),(3,1),(4,1),(5,1)]:=⟨by kernel_rfl⟩
instance:BM Tryz.prog 191 [.slice none 0 0]:=⟨by kernel_rfl⟩
instance:CT Tryz.prog 191 193 3 40:=⟨by kernel_rfl⟩
instance:BM Tryz.prog 193 [.int .i64 0,.int .i64 0,.slice none 0 0]:=⟨by kernel_rfl⟩
instance:Ep Tryz.prog 193 [(0,1),(1,1),(2,1)]:=⟨by kernel_rfl⟩
instance:CT Tryz.prog 199 84 1 8:=⟨by kernel_rfl⟩
instance:Eg Tryz.prog 201 true 2:=⟨by kernel_rfl⟩
instance:BM Tryz.prog 201 [.slice none 0 0,.slice none 0 0]:=⟨by kernel_rfl⟩
instance:Ep Tryz.prog 201 [(0,1),(1,1)]:=⟨by kernel_rfl⟩
instance:CT Tryz.prog 223 26 1 24:=⟨by kernel_rfl⟩
instance:RG Tryz.prog 246 64 1:=⟨by kernel_rfl⟩
def Bt:TI:={ ld:=some (false,1),ze:=some [.nilFunc] }
def ot:TI:={ ld:=some (false,1),ik:=some .i64,ze:=some [.int .i64 0] }
def nI:TI:={ ld:=some (false,1),ik:=some .u64,ze:=some [.int .u64 0] }
def mS:TI:={ ld:=some (true,3),fl:=[some (0,false,1),some (1,false,1),some (2,false,1)],ze:=some [.int .i64 0,.int .i64 0,.slice none 0 0] }
def ou:TI:={ ld:=some (true,3),fl:=[some (0,false,1),some (1,false,1),some (2,false,1)],ze:=some [.int .i64 0,.slice none 0 0,.slice none 0 0] }
def ow:TI:={ ld:=some (true,6),fl:=[some (0,false,1),some (1,true,3),some (4,false,1),some (5,false,1)],ze:=some [.int .i64 0,.int .i64 0,.slice none 0 0,.slice none 0 0,.string ⟨#[]⟩,.int .i64 0] }
def ox:TI:={ ld:=some (true,7),fl:=[some (0,true,3),some (3,true,3),some (6,false,1)],ze:=some [.int .i64 0,.int .i64 0,.slice none 0 0,.int .i64 0,.slice none 0 0,.slice none 0 0,.int .i64 0] }
def mF:TI:={ ld:=some (false,1),pt:=true,ze:=some [.pointer none] }
def oy:TI:={ ld:=some (true,3),fl:=[some (0,false,1),some (1,false,1),some (2,false,1)],ze:=some [.int .i64 0,.int .i64 0,.int .i64 0] }
def nJ:TI:={ ld:=some (false,1),ze:=some [.map none] }
def mw:TI:={ ld:=some (true,14),fl:=[some (0,true,7),some (7,false,1),some (8,false,1),some (9,false,1),some (10,false,1),some (11,false,1),some (12,false,1),some (13,false,1)],ze:=some [.int .i64 0,.int .i64 0,.slice none 0 0,.int .i64 0,.slice none 0 0,.slice none 0 0,.int .i64 0,.pointer none,.slice none 0 0,.slice none 0 0,.slice none 0 0,.map none,.slice none 0 0,.slice none 0 0] }
def mx:TI:={ ld:=some (true,2),fl:=[some (0,false,1),some (1,false,1)],ze:=some [.slice none 0 0,.int .i64 0] }
def mz:TI:={ ld:=some (true,2),fl:=[some (0,false,1),some (1,false,1)],ze:=some [.int .i64 0,.nilFunc] }
def mA:TI:={ ld:=some (true,11),fl:=[some (0,false,1),some (1,true,3),some (4,true,7)],ze:=some [.bool false,.int .i64 0,.slice none 0 0,.slice none 0 0,.int .i64 0,.int .i64 0,.slice none 0 0,.int .i64 0,.slice none 0 0,.slice none 0 0,.int .i64 0] }
def iv:TI:={ ld:=some (true,2),fl:=[some (0,false,1),some (1,false,1)],ze:=some [.slice none 0 0,.slice none 0 0] }
def mB:TI:={ ld:=some (true,2),fl:=[some (0,false,1),some (1,false,1)],ze:=some [.int .i64 0,.int .i64 0] }
def mC:TI:={ ld:=some (true,12),ar:=some (12,1),ze:=some [.int .u16 0,.int .u16 0,.int .u16 0,.int .u16 0,.int .u16 0,.int .u16 0,.int .u16 0,.int .u16 0,.int .u16 0,.int .u16 0,.int .u16 0,.int .u16 0] }
def mD:TI:={ ld:=some (true,6),fl:=[some (0,false,1),some (1,false,1),some (2,false,1),some (3,false,1),some (4,false,1),some (5,false,1)],ze:=some [.slice none 0 0,.slice none 0 0,.slice none 0 0,.int .i64 0,.int .i64 0,.int .i64 0] }
def mE:TI:={ ld:=some (true,96),ar:=some (16,6),ze:=some [.int .i64 0,.int .i64 0,.int .i64 0,.int .i64 0,.int .i64 0,.int .i64 0,.int .i64 0,.int .i64 0,.int .i64 0,.int .i64 0,.int .i64 0,.int .i64 0,.int .i64 0,.int .i64 0,.int .i64 0,.int .i64 0,.int .i64 0,.int .i64 0,.int .i64 0,.int .i64 0,.int .i64 0,.int .i64 0,.int .i64 0,.int .i64 0,.int .i64 0,.int .i64 0,.int .i64 0,.int .i64 0,.int .i64 0,.int .i64 0,.int .i64 0,.int .i64 0,.int .i64 0,.int .i64 0,.int .i64 0,.int .i64 0,.int .i64 0,.int .i64 0,.int .i64 0,.int .i64 0,.int .i64 0,.int .i64 0,.int .i64 0,.int .i64 0,.int .i64 0,.int .i64 0,.int .i64 0,.int .i64 0,.int .i64 0,.int .i64 0,.int .i64 0,.int .i64 0,.int .i64 0,.int .i64 0,.int .i64 0,.int .i64 0,.int .i64 0,.int .i64 0,.int .i64 0,.int .i64 0,.int .i64 0,.int .i64 0,.int .i64 0,.int .i64 0,.int .i64 0,.int .i64 0,.int .i64 0,.int .i64 0,.int .i64 0,.int .i64 0,.int .i64 0,.int .i64 0,.int .i64 0,.int .i64 0,.int .i64 0,.int .i64 0,.int .i64 0,.int .i64 0,.int .i64 0,.int .i64 0,.int .i64 0,.int .i64 0,.int .i64 0,.int .i64 0,.int .i64 0,.int .i64 0,.int .i64 0,.int .i64 0,.int .i64 0,.int .i64 0,.int .i64 0,.int .i64 0,.int .i64 0,.int .i64 0,.int .i64 0,.int .i64 0] }
def oT:List (Nat×TI):=[(1,Bt),
(2,ot),
(3,ot),
(4,{ ld:=some (false,1),bo:=true,ze:=some [.bool false] }),
(5,{ ld:=some (false,1),ik:=some .u8,ze:=some [.int .u8 0] }),
(9,{ ld:=some (false,1),st:=true,ze:=some [.string ⟨#[]⟩] }),
(12,nI),
(13,{ ld:=some (true,2),fl:=[some (0,false,1),some (1,false,1)],ze:=some [.string ⟨#[]⟩,.int .u64 0] }),
(21,{ ld:=some (false,1),ik:=some .i32,ze:=some [.int .i32 0] }),
(22,{ ld:=some (false,1),sl:=some (5,1,1),ze:=some [.slice none 0 0] }),
(23,{ ld:=some (false,1),sl:=some (78,3,24),ze:=some [.slice none 0 0] }),
(24,mS),
(25,mS),
(26,{ ld:=some (false,1),sl:=some (63,1,24),ze:=some [.slice none 0 0] }),
(27,{ ld:=some (false,1),sl:=some (4,1,1),ze:=some [.slice none 0 0] }),
(28,ou),
(29,ou),
(31,Bt),
(32,ow),
(33,ow),
(34,Bt),
(35,Bt),
(37,Bt),
(38,Bt),
(40,Bt),
(41,Bt),
(42,Bt),
(43,Bt),
(44,Bt),
(45,{ ld:=some (false,1),sl:=some (25,3,40),ze:=some [.slice none 0 0] }),
(47,Bt),
(48,ox),
(49,ox),
(51,Bt),
(52,Bt),
(53,Bt),
(54,Bt),
(55,mF),
(56,Bt),
(57,Bt),
(58,Bt),
(60,Bt),
(61,Bt),
(62,Bt),
(63,{ ld:=some (false,1),sl:=some (3,1,8),ze:=some [.slice none 0 0] }),
(64,Bt),
(66,Bt),
(67,Bt),
(68,Bt),
(69,Bt),
(70,Bt),
(71,Bt),
(72,Bt),
(73,Bt),
(74,Bt),
(75,Bt),
(76,Bt),
(77,oy),
(78,oy),
(79,Bt),
(80,mF),
(81,Bt),
(82,Bt),
(83,Bt),
(84,mF),
(85,{ ld:=some (false,1),sl:=some (94,6,48),ze:=some [.slice none 0 0] }),
(86,{ ld:=some (false,1),sl:=some (150,12,24),ze:=some [.slice none 0 0] }),
(87,nJ),
(88,mw),
(89,mw),
(91,Bt),
(92,Bt),
(93,Bt),
(94,{ ld:=some (true,6),ar:=some (6,1),ze:=some [.int .i64 0,.int .i64 0,.int .i64 0,.int .i64 0,.int .i64 0,.int .i64 0] }),
(96,Bt),
(97,mx),
(98,mx),
(99,Bt),
(100,Bt),
(101,mz),
(102,mz),
(104,Bt),
(105,mA),
(106,mA),
(107,{ ld:=some (false,1),sl:=some (9,1,16),ze:=some [.slice none 0 0] }),
(108,iv),
(109,iv),
(111,Bt),
(112,Bt),
(113,Bt),
(114,Bt),
(115,Bt),
(116,Bt),
(117,Bt),
(118,Bt),
(119,Bt),
(120,Bt),
(122,Bt),
(123,Bt),
(124,Bt),
(125,Bt),
(126,Bt),
(127,Bt),
(128,Bt),
(129,Bt),
(130,Bt),
(131,Bt),
(132,Bt),
(133,Bt),
(134,Bt),
(135,mB),
(136,mB),
(137,{ ld:=some (false,1),sl:=some (136,2,16),ze:=some [.slice none 0 0] }),
(138,Bt),
(139,Bt),
(140,Bt),
(141,Bt),
(142,Bt),
(143,Bt),
(144,Bt),
(145,Bt),
(146,Bt),
(147,Bt),
(148,{ ld:=some (false,1),ik:=some .u16,ze:=some [.int .u16 0] }),
(149,mC),
(150,mC),
(151,Bt),
(152,Bt),
(153,Bt),
(154,nJ),
(156,Bt),
(157,Bt),
(158,Bt),
(159,Bt),
(160,{ ld:=some (false,1),sl:=some (107,1,24),ze:=some [.slice none 0 0] }),
(161,Bt),
(163,Bt),
(164,Bt),
(165,Bt),
(166,Bt),
(167,nJ),
(168,Bt),
(169,Bt),
(170,Bt),
(171,mF),
(172,Bt),
(173,Bt),
(174,Bt),
(175,Bt),
(176,Bt),
(177,Bt),
(178,Bt),
(179,Bt),
(180,Bt),
(181,Bt),
(182,{ ld:=some (false,1),sl:=some (29,3,56),ze:=some [.slice none 0 0] }),
(183,mD),
(184,mD),
(185,Bt),
(186,Bt),
(187,mE),
(188,mE),
(189,Bt),
(190,nI),
(191,{ ld:=some (false,1),sl:=some (193,3,40),ze:=some [.slice none 0 0] }),
(192,mS),
(193,mS),
(194,Bt),
(195,Bt),
(196,Bt),
(197,Bt),
(198,Bt),
(199,{ ld:=some (false,1),sl:=some (84,1,8),ze:=some [.slice none 0 0] }),
(200,iv),
(201,iv),
(202,Bt),
(203,Bt),
(204,Bt),
(205,Bt),
(206,Bt),
(208,Bt),
(209,Bt),
(211,Bt),
(212,Bt),
(213,Bt),
(214,Bt),
(215,Bt),
(216,Bt),
(217,Bt),
(218,Bt),
(219,Bt),
(220,Bt),
(221,Bt),
(222,Bt),
(223,{ ld:=some (false,1),sl:=some (26,1,24),ze:=some [.slice none 0 0] }),
(224,Bt),
(225,Bt),
(226,Bt),
(227,Bt),
(228,Bt),
(229,Bt),
(230,Bt),
(231,Bt),
(232,Bt),
(233,{ ld:=some (false,1),ik:=some .u32,ze:=some [.int .u32 0] }),
(234,Bt),
(235,nI),
(236,Bt),
(237,Bt),
(238,Bt),
(239,Bt),
(240,Bt),
(241,Bt),
(242,Bt),
(243,Bt),
(244,Bt),
(247,Bt),
(248,Bt),
(249,Bt),
(250,{ ld:=some (true,24),ar:=some (24,1),ze:=some [.int .u8 0,.int .u8 0,.int .u8 0,.int .u8 0,.int .u8 0,.int .u8 0,.int .u8 0,.int .u8 0,.int .u8 0,.int .u8 0,.int .u8 0,.int .u8 0,.int .u8 0,.int .u8 0,.int .u8 0,.int .u8 0,.int .u8 0,.int .u8 0,.int .u8 0,.int .u8 0,.int .u8 0,.int .u8 0,.int .u8 0,.int .u8 0] }),
(251,Bt),
(253,Bt),
(254,Bt),
(255,{ ld:=some (true,20),ar:=some (20,1),ze:=some [.int .u64 0,.int .u64 0,.int .u64 0,.int .u64 0,.int .u64 0,.int .u64 0,.int .u64 0,.int .u64 0,.int .u64 0,.int .u64 0,.int .u64 0,.int .u64 0,.int .u64 0,.int .u64 0,.int .u64 0,.int .u64 0,.int .u64 0,.int .u64 0,.int .u64 0,.int .u64 0] }),
(256,{ ld:=some (true,65),ar:=some (65,1),ze:=some [.int .u8 0,.int .u8 0,.int .u8 0,.int .u8 0,.int .u8 0,.int .u8 0,.int .u8 0,.int .u8 0,.int .u8 0,.int .u8 0,.int .u8 0,.int .u8 0,.int .u8 0,.int .u8 0,.int .u8 0,.int .u8 0,.int .u8 0,.int .u8 0,.int .u8 0,.int .u8 0,.int .u8 0,.int .u8 0,.int .u8 0,.int .u8 0,.int .u8 0,.int .u8 0,.int .u8 0,.int .u8 0,.int .u8 0,.int .u8 0,.int .u8 0,.int .u8 0,.int .u8 0,.int .u8 0,.int .u8 0,.int .u8 0,.int .u8 0,.int .u8 0,.int .u8 0,.int .u8 0,.int .u8 0,.int .u8 0,.int .u8 0,.int .u8 0,.int .u8 0,.int .u8 0,.int .u8 0,.int .u8 0,.int .u8 0,.int .u8 0,.int .u8 0,.int .u8 0,.int .u8 0,.int .u8 0,.int .u8 0,.int .u8 0,.int .u8 0,.int .u8 0,.int .u8 0,.int .u8 0,.int .u8 0,.int .u8 0,.int .u8 0,.int .u8 0,.int .u8 0] }),
(257,Bt),
(266,mF),
(271,Bt)]
instance:Dp Tryz.prog:=⟨oT,YJ (by kernel_rfl)⟩
def CN:List Value:=[.int .u8 0,.int .u8 1,.int .u8 28,.int .u8 2,.int .u8 29,.int .u8 14,.int .u8 24,.int .u8 3,.int .u8 30,.int .u8 22,.int .u8 20,.int .u8 15,.int .u8 25,.int .u8 17,.int .u8 4,.int .u8 8,.int .u8 31,.int .u8 27,.int .u8 13,.int .u8 23,.int .u8 21,.int .u8 19,.int .u8 16,.int .u8 7,.int .u8 26,.int .u8 12,.int .u8 18,.int .u8 6,.int .u8 11,.int .u8 5,.int .u8 10,.int .u8 9]
def BG:List Value:=[.int .u8 0,.int .u8 1,.int .u8 56,.int .u8 2,.int .u8 57,.int .u8 49,.int .u8 28,.int .u8 3,.int .u8 61,.int .u8 58,.int .u8 42,.int .u8 50,.int .u8 38,.int .u8 29,.int .u8 17,.int .u8 4,.int .u8 62,.int .u8 47,.int .u8 59,.int .u8 36,.int .u8 45,.int .u8 43,.int .u8 51,.int .u8 22,.int .u8 53,.int .u8 39,.int .u8 33,.int .u8 30,.int .u8 24,.int .u8 18,.int .u8 12,.int .u8 5,.int .u8 63,.int .u8 55,.int .u8 48,.int .u8 27,.int .u8 60,.int .u8 41,.int .u8 37,.int .u8 16,.int .u8 46,.int .u8 35,.int .u8 44,.int .u8 21,.int .u8 52,.int .u8 32,.int .u8 23,.int .u8 11,.int .u8 54,.int .u8 26,.int .u8 40,.int .u8 15,.int .u8 34,.int .u8 20,.int .u8 31,.int .u8 10,.int .u8 25,.int .u8 14,.int .u8 19,.int .u8 9,.int .u8 13,.int .u8 8,.int .u8 7,.int .u8 6]
def QD:List Value:=[.int .u64 1,.int .u64 10,.int .u64 100,.int .u64 1000,.int .u64 10000,.int .u64 100000,.int .u64 1000000,.int .u64 10000000,.int .u64 100000000,.int .u64 1000000000,.int .u64 10000000000,.int .u64 100000000000,.int .u64 1000000000000,.int .u64 10000000000000,.int .u64 100000000000000,.int .u64 1000000000000000,.int .u64 10000000000000000,.int .u64 100000000000000000,.int .u64 1000000000000000000,.int .u64 10000000000000000000]
class Dl (TB:BJ):Prop where
 t0:MY TB 0 CN
 t1:MY TB 1 BG
instance {TB:BJ}[h:Dl TB]:MY TB 1 BG:=h.t1
theorem mixed:Tryz.prog.follows .mixedOrders=true:=by kernel_rfl
theorem rE{TB:BJ}{Γ:Ctx}{N:Nat}{ops:Array Oper}{Q:Exit->Env->Ab->Nat->Prop}{id:Nat}{f:Env}{σ:Ab}{nx:Nat}(a:(Hr N ops && (Bu ops (Av (Hm []) 0 ops.size) (Array.replicate ops.size false) && Ny ops (Av (Hm []) 0 ops.size)))=true)
 (h:Lex Tryz.prog TB Γ ops (Av (Hm []) 0 ops.size) (λf σ nx=>Q .normal f σ nx) f σ nx):Ak Tryz.prog TB Γ N (.region id ops true) Q f σ nx:=by rw[d4]at a;exact mn (Hm []) mixed a.1 a.2 h
theorem rG{TB:BJ}{Γ:Ctx}{N:Nat}{ops:Array Oper}{Q:Exit->Env->Ab->Nat->Prop}{id:Nat}{f:Env}{σ:Ab}{nx:Nat}(fl:Fl)(a:(Hr N ops && (Bu ops (Av fl 0 ops.size) (Array.replicate ops.size false) && Ny ops (Av fl 0 ops.size)))=true)
 (h:Lex Tryz.prog TB Γ ops (Av fl 0 ops.size) (λf σ nx=>Q .normal f σ nx) f σ nx):Ak Tryz.prog TB Γ N (.region id ops true) Q f σ nx:=by rw[d4]at a;exact mn fl mixed a.1 a.2 h
end Go.Am
