/-
  The seat's types, as the rules ask for them.
-/
import Derived.Test.YtkdilmleinnfiaaGreatDoorPart7
import Derived.Test.YtkdilmleinnfiaaGreatDoorProg
import Derived.KernelRfl
set_option linter.constructorNameAsVariable false
set_option linter.unusedSectionVars false
set_option linter.unusedSimpArgs false
set_option linter.unusedVariables false
namespace Go.Am
open Go Go.Proofs
instance:Cu Tryz.prog 3 false 1:=⟨by kernel_rfl⟩
instance:Ii Tryz.prog 3 .i64:=⟨by kernel_rfl⟩
instance:Ny Tryz.prog 3 (.int .i64 0):=⟨by kernel_rfl⟩
instance:BL Tryz.prog 3 [.int .i64 0]:=⟨by kernel_rfl⟩
instance:BL Tryz.prog 4 [.bool false]:=⟨by kernel_rfl⟩
instance:BL Tryz.prog 5 [.int .u8 0]:=⟨by kernel_rfl⟩
instance:CW Tryz.prog 9:=⟨by kernel_rfl⟩
instance:BL Tryz.prog 9 [.string ⟨#[]⟩]:=⟨by kernel_rfl⟩
instance:Ii Tryz.prog 21 .i32:=⟨by kernel_rfl⟩
instance:BL Tryz.prog 22 [.slice none 0 0]:=⟨by kernel_rfl⟩
instance:B0 Tryz.prog 22 84 1 24:=⟨by kernel_rfl⟩
instance:B0 Tryz.prog 23 4 1 1:=⟨by kernel_rfl⟩
instance:B0 Tryz.prog 33 9 1 16:=⟨by kernel_rfl⟩
instance:Cu Tryz.prog 38 true 2:=⟨by kernel_rfl⟩
instance:BL Tryz.prog 38 [.slice none 0 0,.slice none 0 0]:=⟨by kernel_rfl⟩
instance:GI Tryz.prog 38 [(0,1),(1,1)]:=⟨by kernel_rfl⟩
instance:Cu Tryz.prog 41 true 3:=⟨by kernel_rfl⟩
instance:BL Tryz.prog 41 [.int .i64 0,.slice none 0 0,.slice none 0 0]:=⟨by kernel_rfl⟩
instance:GI Tryz.prog 41 [(0,1),(1,1),(2,1)]:=⟨by kernel_rfl⟩
instance:B0 Tryz.prog 42 189 3 24:=⟨by kernel_rfl⟩
instance:Cu Tryz.prog 44 true 3:=⟨by kernel_rfl⟩
instance:Cu Tryz.prog 46 true 7:=⟨by kernel_rfl⟩
instance:Cu Tryz.prog 48 true 11:=⟨by kernel_rfl⟩
instance:BL Tryz.prog 48 [.bool false,.int .i64 0,.slice none 0 0,.slice none 0 0,.int .i64 0,.int .i64 0,.slice none 0 0,.int .i64 0,.slice none 0 0,.slice none 0 0,.int .i64 0]:=⟨by kernel_rfl⟩
instance:GI Tryz.prog 48 [(0,1),(1,3),(4,7)]:=⟨by kernel_rfl⟩
instance:SH Tryz.prog 64:=⟨5,by kernel_rfl,by kernel_rfl⟩
instance:B0 Tryz.prog 64 5 1 1:=⟨by kernel_rfl⟩
instance:BL Tryz.prog 84 [.slice none 0 0]:=⟨by kernel_rfl⟩
instance:B0 Tryz.prog 84 3 1 8:=⟨by kernel_rfl⟩
instance:BL Tryz.prog 100 [.int .i64 0,.nilFunc]:=⟨by kernel_rfl⟩
instance:GI Tryz.prog 100 [(0,1),(1,1)]:=⟨by kernel_rfl⟩
instance:B0 Tryz.prog 146 148 6 48:=⟨by kernel_rfl⟩
instance:BL Tryz.prog 148 [.int .i64 0,.int .i64 0,.int .i64 0,.int .i64 0,.int .i64 0,.int .i64 0]:=⟨by kernel_rfl⟩
instance:GI Tryz.prog 148 [(0,1),(1,1),(2,1),(3,1),(4,1),(5,1)]:=⟨by kernel_rfl⟩
instance:HS Tryz.prog 156 9 3:=⟨by kernel_rfl⟩
instance:Cu Tryz.prog 189 true 3:=⟨by kernel_rfl⟩
instance:BL Tryz.prog 189 [.int .i64 0,.int .i64 0,.int .i64 0]:=⟨by kernel_rfl⟩
instance:HS Tryz.prog 206 213 3:=⟨by kernel_rfl⟩
instance:B0 Tryz.prog 207 213 12 24:=⟨by kernel_rfl⟩
instance:BL Tryz.prog 209 [.int .i64 0,.int .i64 0,.slice none 0 0,.int .i64 0,.slice none 0 0,.slice none 0 0,.int .i64 0,.pointer none,.slice none 0 0,.slice none 0 0,.slice none 0 0,.map none,.slice none 0 0,.slice none 0 0]:=⟨by kernel_rfl⟩
instance:GI Tryz.prog 209 [(0,7),(7,1),(8,1),(9,1),(10,1),(11,1),(12,1),(13,1)]:=⟨by kernel_rfl⟩
instance:Cu Tryz.prog 211 false 1:=⟨by kernel_rfl⟩
instance:Ii Tryz.prog 211 .u16:=⟨by kernel_rfl⟩
instance:BL Tryz.prog 213 [.int .u16 0,.int .u16 0,.int .u16 0,.int .u16 0,.int .u16 0,.int .u16 0,.int .u16 0,.int .u16 0,.int .u16 0,.int .u16 0,.int .u16 0,.int .u16 0]:=⟨by kernel_rfl⟩
instance:GI Tryz.prog 213 [(0,1),(1,1),(2,1),(3,1),(4,1),(5,1),(6,1),(7,1),(8,1),(9,1),(10,1),(11,1)]:=⟨by kernel_rfl⟩
instance:BL Tryz.prog 238 [.slice none 0 0,.slice none 0 0,.slice none 0 0,.int .i64 0,.int .i64 0,.int .i64 0]:=⟨by kernel_rfl⟩
instance:GI Tryz.prog 238 [(0,1),(1,1),(2,1),(3,1),(4,1),(5,1)]:=⟨by kernel_rfl⟩
instance:BL Tryz.prog 240 [.slice none 0 0]:=⟨by kernel_rfl⟩
instance:B0 Tryz.prog 240 242 3 40:=⟨by kernel_rfl⟩
instance:BL Tryz.prog 242 [.int .i64 0,.int .i64 0,.slice none 0 0]:=⟨by kernel_rfl⟩
instance:GI Tryz.prog 242 [(0,1),(1,1),(2,1)]:=⟨by kernel_rfl⟩
instance:B0 Tryz.prog 274 22 1 24:=⟨by kernel_rfl⟩
instance:Nx Tryz.prog 307 64 1:=⟨by kernel_rfl⟩
def AP:TI:={ ld:=some (false,1),ze:=some [.nilFunc] }
def fZ:TI:={ ld:=some (false,1),ik:=some .i64,ze:=some [.int .i64 0] }
def fy:TI:={ ld:=some (false,1),ik:=some .u64,ze:=some [.int .u64 0] }
def fz:TI:={ ld:=some (true,3),fl:=[some (0,false,1),some (1,false,1),some (2,false,1)],ze:=some [.int .i64 0,.slice none 0 0,.slice none 0 0] }
def bU:TI:={ ld:=some (true,3),fl:=[some (0,false,1),some (1,false,1),some (2,false,1)],ze:=some [.int .i64 0,.int .i64 0,.slice none 0 0] }
def en:TI:={ ld:=some (true,7),fl:=[some (0,true,3),some (3,true,3),some (6,false,1)],ze:=some [.int .i64 0,.int .i64 0,.slice none 0 0,.int .i64 0,.slice none 0 0,.slice none 0 0,.int .i64 0] }
def eo:TI:={ ld:=some (true,11),fl:=[some (0,false,1),some (1,true,3),some (4,true,7)],ze:=some [.bool false,.int .i64 0,.slice none 0 0,.slice none 0 0,.int .i64 0,.int .i64 0,.slice none 0 0,.int .i64 0,.slice none 0 0,.slice none 0 0,.int .i64 0] }
def dO:TI:={ ld:=some (true,2),fl:=[some (0,false,1),some (1,false,1)],ze:=some [.slice none 0 0,.slice none 0 0] }
def ga:TI:={ ld:=some (true,6),fl:=[some (0,false,1),some (1,true,3),some (4,false,1),some (5,false,1)],ze:=some [.int .i64 0,.int .i64 0,.slice none 0 0,.slice none 0 0,.string ⟨#[]⟩,.int .i64 0] }
def gb:TI:={ ld:=some (true,2),fl:=[some (0,false,1),some (1,false,1)],ze:=some [.int .i64 0,.nilFunc] }
def XJ:TI:={ ld:=some (false,1),pt:=true,ze:=some [.pointer none] }
def bA:TI:={ ld:=some (false,1),ze:=some [.map none] }
def dJ:TI:={ ld:=some (true,2),fl:=[some (0,false,1),some (1,false,1)],ze:=some [.slice none 0 0,.int .i64 0] }
def bB:TI:={ ld:=some (true,3),fl:=[some (0,false,1),some (1,false,1),some (2,false,1)],ze:=some [.int .i64 0,.int .i64 0,.int .i64 0] }
def dK:TI:={ ld:=some (true,14),fl:=[some (0,true,7),some (7,false,1),some (8,false,1),some (9,false,1),some (10,false,1),some (11,false,1),some (12,false,1),some (13,false,1)],ze:=some [.int .i64 0,.int .i64 0,.slice none 0 0,.int .i64 0,.slice none 0 0,.slice none 0 0,.int .i64 0,.pointer none,.slice none 0 0,.slice none 0 0,.slice none 0 0,.map none,.slice none 0 0,.slice none 0 0] }
def dL:TI:={ ld:=some (true,12),ar:=some (12,1),ze:=some [.int .u16 0,.int .u16 0,.int .u16 0,.int .u16 0,.int .u16 0,.int .u16 0,.int .u16 0,.int .u16 0,.int .u16 0,.int .u16 0,.int .u16 0,.int .u16 0] }
def dM:TI:={ ld:=some (true,6),fl:=[some (0,false,1),some (1,false,1),some (2,false,1),some (3,false,1),some (4,false,1),some (5,false,1)],ze:=some [.slice none 0 0,.slice none 0 0,.slice none 0 0,.int .i64 0,.int .i64 0,.int .i64 0] }
def dN:TI:={ ld:=some (true,96),ar:=some (16,6),ze:=some [.int .i64 0,.int .i64 0,.int .i64 0,.int .i64 0,.int .i64 0,.int .i64 0,.int .i64 0,.int .i64 0,.int .i64 0,.int .i64 0,.int .i64 0,.int .i64 0,.int .i64 0,.int .i64 0,.int .i64 0,.int .i64 0,.int .i64 0,.int .i64 0,.int .i64 0,.int .i64 0,.int .i64 0,.int .i64 0,.int .i64 0,.int .i64 0,.int .i64 0,.int .i64 0,.int .i64 0,.int .i64 0,.int .i64 0,.int .i64 0,.int .i64 0,.int .i64 0,.int .i64 0,.int .i64 0,.int .i64 0,.int .i64 0,.int .i64 0,.int .i64 0,.int .i64 0,.int .i64 0,.int .i64 0,.int .i64 0,.int .i64 0,.int .i64 0,.int .i64 0,.int .i64 0,.int .i64 0,.int .i64 0,.int .i64 0,.int .i64 0,.int .i64 0,.int .i64 0,.int .i64 0,.int .i64 0,.int .i64 0,.int .i64 0,.int .i64 0,.int .i64 0,.int .i64 0,.int .i64 0,.int .i64 0,.int .i64 0,.int .i64 0,.int .i64 0,.int .i64 0,.int .i64 0,.int .i64 0,.int .i64 0,.int .i64 0,.int .i64 0,.int .i64 0,.int .i64 0,.int .i64 0,.int .i64 0,.int .i64 0,.int .i64 0,.int .i64 0,.int .i64 0,.int .i64 0,.int .i64 0,.int .i64 0,.int .i64 0,.int .i64 0,.int .i64 0,.int .i64 0,.int .i64 0,.int .i64 0,.int .i64 0,.int .i64 0,.int .i64 0,.int .i64 0,.int .i64 0,.int .i64 0,.int .i64 0,.int .i64 0,.int .i64 0] }
def gr:List (Nat×TI):=[(1,AP),
(2,fZ),
(3,fZ),
(4,{ ld:=some (false,1),bo:=true,ze:=some [.bool false] }),
(5,{ ld:=some (false,1),ik:=some .u8,ze:=some [.int .u8 0] }),
(9,{ ld:=some (false,1),st:=true,ze:=some [.string ⟨#[]⟩] }),
(12,fy),
(13,{ ld:=some (true,2),fl:=[some (0,false,1),some (1,false,1)],ze:=some [.string ⟨#[]⟩,.int .u64 0] }),
(21,{ ld:=some (false,1),ik:=some .i32,ze:=some [.int .i32 0] }),
(22,{ ld:=some (false,1),sl:=some (84,1,24),ze:=some [.slice none 0 0] }),
(23,{ ld:=some (false,1),sl:=some (4,1,1),ze:=some [.slice none 0 0] }),
(24,fz),
(25,fz),
(26,{ ld:=some (false,1),sl:=some (253,3,24),ze:=some [.slice none 0 0] }),
(27,bU),
(28,bU),
(29,en),
(30,en),
(31,eo),
(32,eo),
(33,{ ld:=some (false,1),sl:=some (9,1,16),ze:=some [.slice none 0 0] }),
(34,dO),
(35,dO),
(36,AP),
(37,AP),
(38,dO),
(40,AP),
(41,fz),
(42,{ ld:=some (false,1),sl:=some (189,3,24),ze:=some [.slice none 0 0] }),
(43,bU),
(44,bU),
(45,en),
(46,en),
(47,eo),
(48,eo),
(49,AP),
(50,AP),
(51,AP),
(52,AP),
(53,AP),
(54,AP),
(55,AP),
(57,AP),
(58,AP),
(59,AP),
(61,AP),
(62,AP),
(63,AP),
(64,{ ld:=some (false,1),sl:=some (5,1,1),ze:=some [.slice none 0 0] }),
(66,AP),
(67,AP),
(68,ga),
(69,ga),
(70,AP),
(71,AP),
(72,AP),
(73,AP),
(74,AP),
(75,AP),
(76,AP),
(77,AP),
(78,AP),
(79,AP),
(80,AP),
(82,AP),
(83,AP),
(84,{ ld:=some (false,1),sl:=some (3,1,8),ze:=some [.slice none 0 0] }),
(85,AP),
(86,AP),
(87,AP),
(88,AP),
(90,AP),
(91,AP),
(92,AP),
(93,AP),
(94,AP),
(95,AP),
(96,AP),
(97,AP),
(98,AP),
(99,gb),
(100,gb),
(102,AP),
(103,AP),
(104,AP),
(105,AP),
(106,AP),
(107,AP),
(108,AP),
(109,AP),
(110,AP),
(111,AP),
(112,AP),
(113,AP),
(114,AP),
(115,AP),
(116,AP),
(117,AP),
(118,AP),
(119,AP),
(120,AP),
(121,AP),
(122,AP),
(123,AP),
(124,AP),
(125,XJ),
(126,AP),
(127,AP),
(128,AP),
(129,AP),
(130,AP),
(132,AP),
(133,AP),
(134,AP),
(135,AP),
(136,AP),
(137,AP),
(138,AP),
(140,AP),
(141,AP),
(142,AP),
(143,AP),
(144,AP),
(145,AP),
(146,{ ld:=some (false,1),sl:=some (148,6,48),ze:=some [.slice none 0 0] }),
(147,AP),
(148,{ ld:=some (true,6),ar:=some (6,1),ze:=some [.int .i64 0,.int .i64 0,.int .i64 0,.int .i64 0,.int .i64 0,.int .i64 0] }),
(149,AP),
(150,AP),
(151,AP),
(152,AP),
(153,AP),
(154,XJ),
(155,AP),
(156,bA),
(157,AP),
(158,AP),
(159,AP),
(160,AP),
(161,AP),
(162,AP),
(163,AP),
(164,AP),
(165,AP),
(166,AP),
(167,AP),
(168,dJ),
(169,dJ),
(171,AP),
(172,AP),
(174,AP),
(175,AP),
(176,AP),
(177,AP),
(178,AP),
(179,AP),
(180,{ ld:=some (false,1),sl:=some (44,3,40),ze:=some [.slice none 0 0] }),
(181,AP),
(183,AP),
(185,AP),
(186,AP),
(187,AP),
(188,bB),
(189,bB),
(190,AP),
(191,AP),
(192,AP),
(193,AP),
(194,AP),
(195,AP),
(196,AP),
(198,AP),
(199,AP),
(200,AP),
(201,AP),
(202,AP),
(203,AP),
(204,XJ),
(205,AP),
(206,bA),
(207,{ ld:=some (false,1),sl:=some (213,12,24),ze:=some [.slice none 0 0] }),
(208,dK),
(209,dK),
(210,AP),
(211,{ ld:=some (false,1),ik:=some .u16,ze:=some [.int .u16 0] }),
(212,dL),
(213,dL),
(214,AP),
(215,AP),
(216,AP),
(217,AP),
(218,AP),
(219,AP),
(220,AP),
(221,fy),
(222,AP),
(223,{ ld:=some (false,1),sl:=some (33,1,24),ze:=some [.slice none 0 0] }),
(224,AP),
(226,AP),
(227,AP),
(228,AP),
(229,AP),
(230,AP),
(231,XJ),
(232,AP),
(233,AP),
(234,AP),
(235,AP),
(236,{ ld:=some (false,1),sl:=some (41,3,56),ze:=some [.slice none 0 0] }),
(237,dM),
(238,dM),
(239,bA),
(240,{ ld:=some (false,1),sl:=some (242,3,40),ze:=some [.slice none 0 0] }),
(241,bU),
(242,bU),
(243,AP),
(244,AP),
(245,AP),
(246,AP),
(247,AP),
(248,AP),
(250,AP),
(251,AP),
(252,AP),
(253,bB),
(254,dN),
(255,dN),
(256,AP),
(257,AP),
(258,AP),
(259,AP),
(260,AP),
(261,AP),
(262,AP),
(264,AP),
(265,AP),
(266,{ ld:=some (false,1),sl:=some (204,1,8),ze:=some [.slice none 0 0] }),
(267,dO),
(268,dO),
(269,AP),
(270,AP),
(271,AP),
(272,AP),
(273,AP),
(274,{ ld:=some (false,1),sl:=some (22,1,24),ze:=some [.slice none 0 0] }),
(275,AP),
(276,AP),
(277,AP),
(278,AP),
(279,AP),
(280,AP),
(281,AP),
(282,AP),
(283,AP),
(284,AP),
(285,AP),
(286,AP),
(287,AP),
(288,AP),
(289,AP),
(290,AP),
(291,AP),
(292,AP),
(293,{ ld:=some (true,24),ar:=some (24,1),ze:=some [.int .u8 0,.int .u8 0,.int .u8 0,.int .u8 0,.int .u8 0,.int .u8 0,.int .u8 0,.int .u8 0,.int .u8 0,.int .u8 0,.int .u8 0,.int .u8 0,.int .u8 0,.int .u8 0,.int .u8 0,.int .u8 0,.int .u8 0,.int .u8 0,.int .u8 0,.int .u8 0,.int .u8 0,.int .u8 0,.int .u8 0,.int .u8 0] }),
(294,fy),
(295,AP),
(296,AP),
(298,AP),
(299,AP),
(300,AP),
(301,AP),
(302,{ ld:=some (true,20),ar:=some (20,1),ze:=some [.int .u64 0,.int .u64 0,.int .u64 0,.int .u64 0,.int .u64 0,.int .u64 0,.int .u64 0,.int .u64 0,.int .u64 0,.int .u64 0,.int .u64 0,.int .u64 0,.int .u64 0,.int .u64 0,.int .u64 0,.int .u64 0,.int .u64 0,.int .u64 0,.int .u64 0,.int .u64 0] }),
(303,{ ld:=some (false,1),ik:=some .u32,ze:=some [.int .u32 0] }),
(304,{ ld:=some (true,65),ar:=some (65,1),ze:=some [.int .u8 0,.int .u8 0,.int .u8 0,.int .u8 0,.int .u8 0,.int .u8 0,.int .u8 0,.int .u8 0,.int .u8 0,.int .u8 0,.int .u8 0,.int .u8 0,.int .u8 0,.int .u8 0,.int .u8 0,.int .u8 0,.int .u8 0,.int .u8 0,.int .u8 0,.int .u8 0,.int .u8 0,.int .u8 0,.int .u8 0,.int .u8 0,.int .u8 0,.int .u8 0,.int .u8 0,.int .u8 0,.int .u8 0,.int .u8 0,.int .u8 0,.int .u8 0,.int .u8 0,.int .u8 0,.int .u8 0,.int .u8 0,.int .u8 0,.int .u8 0,.int .u8 0,.int .u8 0,.int .u8 0,.int .u8 0,.int .u8 0,.int .u8 0,.int .u8 0,.int .u8 0,.int .u8 0,.int .u8 0,.int .u8 0,.int .u8 0,.int .u8 0,.int .u8 0,.int .u8 0,.int .u8 0,.int .u8 0,.int .u8 0,.int .u8 0,.int .u8 0,.int .u8 0,.int .u8 0,.int .u8 0,.int .u8 0,.int .u8 0,.int .u8 0,.int .u8 0] }),
(305,AP),
(308,AP),
(317,XJ),
(322,AP)]
instance:Ci Tryz.prog:=⟨gr,SP (by kernel_rfl)⟩
def FY:List Value:=[.int .u8 0,.int .u8 1,.int .u8 28,.int .u8 2,.int .u8 29,.int .u8 14,.int .u8 24,.int .u8 3,.int .u8 30,.int .u8 22,.int .u8 20,.int .u8 15,.int .u8 25,.int .u8 17,.int .u8 4,.int .u8 8,.int .u8 31,.int .u8 27,.int .u8 13,.int .u8 23,.int .u8 21,.int .u8 19,.int .u8 16,.int .u8 7,.int .u8 26,.int .u8 12,.int .u8 18,.int .u8 6,.int .u8 11,.int .u8 5,.int .u8 10,.int .u8 9]
def B7:List Value:=[.int .u8 0,.int .u8 1,.int .u8 56,.int .u8 2,.int .u8 57,.int .u8 49,.int .u8 28,.int .u8 3,.int .u8 61,.int .u8 58,.int .u8 42,.int .u8 50,.int .u8 38,.int .u8 29,.int .u8 17,.int .u8 4,.int .u8 62,.int .u8 47,.int .u8 59,.int .u8 36,.int .u8 45,.int .u8 43,.int .u8 51,.int .u8 22,.int .u8 53,.int .u8 39,.int .u8 33,.int .u8 30,.int .u8 24,.int .u8 18,.int .u8 12,.int .u8 5,.int .u8 63,.int .u8 55,.int .u8 48,.int .u8 27,.int .u8 60,.int .u8 41,.int .u8 37,.int .u8 16,.int .u8 46,.int .u8 35,.int .u8 44,.int .u8 21,.int .u8 52,.int .u8 32,.int .u8 23,.int .u8 11,.int .u8 54,.int .u8 26,.int .u8 40,.int .u8 15,.int .u8 34,.int .u8 20,.int .u8 31,.int .u8 10,.int .u8 25,.int .u8 14,.int .u8 19,.int .u8 9,.int .u8 13,.int .u8 8,.int .u8 7,.int .u8 6]
def MR:List Value:=[.int .u64 1,.int .u64 10,.int .u64 100,.int .u64 1000,.int .u64 10000,.int .u64 100000,.int .u64 1000000,.int .u64 10000000,.int .u64 100000000,.int .u64 1000000000,.int .u64 10000000000,.int .u64 100000000000,.int .u64 1000000000000,.int .u64 10000000000000,.int .u64 100000000000000,.int .u64 1000000000000000,.int .u64 10000000000000000,.int .u64 100000000000000000,.int .u64 1000000000000000000,.int .u64 10000000000000000000]
class Fo (TB:Be):Prop where
 t1:JR TB 1 FY
 t2:JR TB 2 B7
instance {TB:Be}[h:Fo TB]:JR TB 2 B7:=h.t2
theorem mixed:Tryz.prog.follows .mixedOrders=true:=by kernel_rfl
theorem rE{TB:Be}{Γ:Ctx}{N:Nat}{ops:Array Oper}{Q:Exit→Env→Ab→Nat→Prop}{id:Nat}{f:Env}{σ:Ab}{nx:Nat}(ho:(Fa N ops && (A4 ops (Af (J6 []) 0 ops.size) (Array.replicate ops.size false) && Ki ops (Af (J6 []) 0 ops.size)))=true)
 (h:Lex Tryz.prog TB Γ ops (Af (J6 []) 0 ops.size) (fun f σ nx=>Q .normal f σ nx) f σ nx):Av Tryz.prog TB Γ N (.region id ops true) Q f σ nx:=by rw [Bool.and_eq_true] at ho;exact dC (J6 []) mixed ho.1 ho.2 h
theorem rG{TB:Be}{Γ:Ctx}{N:Nat}{ops:Array Oper}{Q:Exit→Env→Ab→Nat→Prop}{id:Nat}{f:Env}{σ:Ab}{nx:Nat}(fl:Fl)(ho:(Fa N ops && (A4 ops (Af fl 0 ops.size) (Array.replicate ops.size false) && Ki ops (Af fl 0 ops.size)))=true)
 (h:Lex Tryz.prog TB Γ ops (Af fl 0 ops.size) (fun f σ nx=>Q .normal f σ nx) f σ nx):Av Tryz.prog TB Γ N (.region id ops true) Q f σ nx:=by rw [Bool.and_eq_true] at ho;exact dC fl mixed ho.1 ho.2 h
end Go.Am
