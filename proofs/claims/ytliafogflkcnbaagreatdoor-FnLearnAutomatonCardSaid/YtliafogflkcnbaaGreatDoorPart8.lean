/-
  The seat's types, as the rules ask for them.
-/
import Derived.Test.YtliafogflkcnbaaGreatDoorPart7
import Derived.Test.YtliafogflkcnbaaGreatDoorProg
import Derived.KernelRfl
set_option linter.constructorNameAsVariable false
set_option linter.unusedSectionVars false
set_option linter.unusedSimpArgs false
set_option linter.unusedVariables false
namespace Go.Am
open Go Go.Proofs
instance:DE Tryz.prog 3 false 1:=⟨by kernel_rfl⟩
instance:Eh Tryz.prog 3 .i64:=⟨by kernel_rfl⟩
instance:JJ Tryz.prog 3 (.int .i64 0):=⟨by kernel_rfl⟩
instance:BF Tryz.prog 3 [.int .i64 0]:=⟨by kernel_rfl⟩
instance:BF Tryz.prog 4 [.bool false]:=⟨by kernel_rfl⟩
instance:BF Tryz.prog 5 [.int .u8 0]:=⟨by kernel_rfl⟩
instance:B6 Tryz.prog 9:=⟨by kernel_rfl⟩
instance:BF Tryz.prog 9 [.string ⟨#[]⟩]:=⟨by kernel_rfl⟩
instance:Eh Tryz.prog 21 .i32:=⟨by kernel_rfl⟩
instance:BF Tryz.prog 22 [.slice none 0 0]:=⟨by kernel_rfl⟩
instance:BY Tryz.prog 22 75 1 24:=⟨by kernel_rfl⟩
instance:BY Tryz.prog 23 4 1 1:=⟨by kernel_rfl⟩
instance:BY Tryz.prog 33 9 1 16:=⟨by kernel_rfl⟩
instance:DE Tryz.prog 38 true 2:=⟨by kernel_rfl⟩
instance:BF Tryz.prog 38 [.slice none 0 0,.slice none 0 0]:=⟨by kernel_rfl⟩
instance:EE Tryz.prog 38 [(0,1),(1,1)]:=⟨by kernel_rfl⟩
instance:DE Tryz.prog 41 true 3:=⟨by kernel_rfl⟩
instance:BF Tryz.prog 41 [.int .i64 0,.slice none 0 0,.slice none 0 0]:=⟨by kernel_rfl⟩
instance:EE Tryz.prog 41 [(0,1),(1,1),(2,1)]:=⟨by kernel_rfl⟩
instance:BF Tryz.prog 48 [.bool false,.int .i64 0,.slice none 0 0,.slice none 0 0,.int .i64 0,.int .i64 0,.slice none 0 0,.int .i64 0,.slice none 0 0,.slice none 0 0,.int .i64 0]:=⟨by kernel_rfl⟩
instance:EE Tryz.prog 48 [(0,1),(1,3),(4,7)]:=⟨by kernel_rfl⟩
instance:RF Tryz.prog 71:=⟨5,by kernel_rfl,by kernel_rfl⟩
instance:BY Tryz.prog 71 5 1 1:=⟨by kernel_rfl⟩
instance:BF Tryz.prog 75 [.slice none 0 0]:=⟨by kernel_rfl⟩
instance:BY Tryz.prog 75 3 1 8:=⟨by kernel_rfl⟩
instance:BF Tryz.prog 90 [.int .i64 0,.nilFunc]:=⟨by kernel_rfl⟩
instance:EE Tryz.prog 90 [(0,1),(1,1)]:=⟨by kernel_rfl⟩
instance:BY Tryz.prog 127 129 6 48:=⟨by kernel_rfl⟩
instance:BF Tryz.prog 129 [.int .i64 0,.int .i64 0,.int .i64 0,.int .i64 0,.int .i64 0,.int .i64 0]:=⟨by kernel_rfl⟩
instance:EE Tryz.prog 129 [(0,1),(1,1),(2,1),(3,1),(4,1),(5,1)]:=⟨by kernel_rfl⟩
instance:EF Tryz.prog 139 9 3:=⟨by kernel_rfl⟩
instance:BF Tryz.prog 156 [.slice none 0 0,.int .i64 0]:=⟨by kernel_rfl⟩
instance:EE Tryz.prog 156 [(0,1),(1,1)]:=⟨by kernel_rfl⟩
instance:EF Tryz.prog 174 181 3:=⟨by kernel_rfl⟩
instance:BY Tryz.prog 175 181 12 24:=⟨by kernel_rfl⟩
instance:BF Tryz.prog 177 [.int .i64 0,.int .i64 0,.slice none 0 0,.int .i64 0,.slice none 0 0,.slice none 0 0,.int .i64 0,.pointer none,.slice none 0 0,.slice none 0 0,.slice none 0 0,.map none,.slice none 0 0,.slice none 0 0]:=⟨by kernel_rfl⟩
instance:EE Tryz.prog 177 [(0,7),(7,1),(8,1),(9,1),(10,1),(11,1),(12,1),(13,1)]:=⟨by kernel_rfl⟩
instance:DE Tryz.prog 179 false 1:=⟨by kernel_rfl⟩
instance:Eh Tryz.prog 179 .u16:=⟨by kernel_rfl⟩
instance:BF Tryz.prog 181 [.int .u16 0,.int .u16 0,.int .u16 0,.int .u16 0,.int .u16 0,.int .u16 0,.int .u16 0,.int .u16 0,.int .u16 0,.int .u16 0,.int .u16 0,.int .u16 0]:=⟨by kernel_rfl⟩
instance:EE Tryz.prog 181 [(0,1),(1,1),(2,1),(3,1),(4,1),(5,1),(6,1),(7,1),(8,1),(9,1),(10,1),(11,1)]:=⟨by kernel_rfl⟩
instance:BF Tryz.prog 195 [.slice none 0 0,.slice none 0 0,.slice none 0 0,.int .i64 0,.int .i64 0,.int .i64 0]:=⟨by kernel_rfl⟩
instance:EE Tryz.prog 195 [(0,1),(1,1),(2,1),(3,1),(4,1),(5,1)]:=⟨by kernel_rfl⟩
instance:EF Tryz.prog 209 3 3:=⟨by kernel_rfl⟩
instance:BY Tryz.prog 222 22 1 24:=⟨by kernel_rfl⟩
instance:BF Tryz.prog 236 [.slice none 0 0]:=⟨by kernel_rfl⟩
instance:BY Tryz.prog 236 238 3 40:=⟨by kernel_rfl⟩
instance:BF Tryz.prog 238 [.int .i64 0,.int .i64 0,.slice none 0 0]:=⟨by kernel_rfl⟩
instance:EE Tryz.prog 238 [(0,1),(1,1),(2,1)]:=⟨by kernel_rfl⟩
instance:MD Tryz.prog 272 64 1:=⟨by kernel_rfl⟩
def AV:TI:={ ld:=some (false,1),ze:=some [.nilFunc] }
def dT:TI:={ ld:=some (false,1),ik:=some .i64,ze:=some [.int .i64 0] }
def dB:TI:={ ld:=some (false,1),ik:=some .u64,ze:=some [.int .u64 0] }
def dC:TI:={ ld:=some (true,3),fl:=[some (0,false,1),some (1,false,1),some (2,false,1)],ze:=some [.int .i64 0,.slice none 0 0,.slice none 0 0] }
def av:TI:={ ld:=some (true,3),fl:=[some (0,false,1),some (1,false,1),some (2,false,1)],ze:=some [.int .i64 0,.int .i64 0,.slice none 0 0] }
def cO:TI:={ ld:=some (true,7),fl:=[some (0,true,3),some (3,true,3),some (6,false,1)],ze:=some [.int .i64 0,.int .i64 0,.slice none 0 0,.int .i64 0,.slice none 0 0,.slice none 0 0,.int .i64 0] }
def cP:TI:={ ld:=some (true,11),fl:=[some (0,false,1),some (1,true,3),some (4,true,7)],ze:=some [.bool false,.int .i64 0,.slice none 0 0,.slice none 0 0,.int .i64 0,.int .i64 0,.slice none 0 0,.int .i64 0,.slice none 0 0,.slice none 0 0,.int .i64 0] }
def dD:TI:={ ld:=some (true,2),fl:=[some (0,false,1),some (1,false,1)],ze:=some [.slice none 0 0,.slice none 0 0] }
def dU:TI:={ ld:=some (true,2),fl:=[some (0,false,1),some (1,false,1)],ze:=some [.int .i64 0,.nilFunc] }
def cQ:TI:={ ld:=some (false,1),pt:=true,ze:=some [.pointer none] }
def ZR:TI:={ ld:=some (false,1),ze:=some [.map none] }
def cn:TI:={ ld:=some (true,2),fl:=[some (0,false,1),some (1,false,1)],ze:=some [.slice none 0 0,.int .i64 0] }
def cp:TI:={ ld:=some (true,14),fl:=[some (0,true,7),some (7,false,1),some (8,false,1),some (9,false,1),some (10,false,1),some (11,false,1),some (12,false,1),some (13,false,1)],ze:=some [.int .i64 0,.int .i64 0,.slice none 0 0,.int .i64 0,.slice none 0 0,.slice none 0 0,.int .i64 0,.pointer none,.slice none 0 0,.slice none 0 0,.slice none 0 0,.map none,.slice none 0 0,.slice none 0 0] }
def cq:TI:={ ld:=some (true,12),ar:=some (12,1),ze:=some [.int .u16 0,.int .u16 0,.int .u16 0,.int .u16 0,.int .u16 0,.int .u16 0,.int .u16 0,.int .u16 0,.int .u16 0,.int .u16 0,.int .u16 0,.int .u16 0] }
def cr:TI:={ ld:=some (true,6),fl:=[some (0,false,1),some (1,false,1),some (2,false,1),some (3,false,1),some (4,false,1),some (5,false,1)],ze:=some [.slice none 0 0,.slice none 0 0,.slice none 0 0,.int .i64 0,.int .i64 0,.int .i64 0] }
def ZS:TI:={ ld:=some (true,3),fl:=[some (0,false,1),some (1,false,1),some (2,false,1)],ze:=some [.int .i64 0,.int .i64 0,.int .i64 0] }
def cu:TI:={ ld:=some (true,96),ar:=some (16,6),ze:=some [.int .i64 0,.int .i64 0,.int .i64 0,.int .i64 0,.int .i64 0,.int .i64 0,.int .i64 0,.int .i64 0,.int .i64 0,.int .i64 0,.int .i64 0,.int .i64 0,.int .i64 0,.int .i64 0,.int .i64 0,.int .i64 0,.int .i64 0,.int .i64 0,.int .i64 0,.int .i64 0,.int .i64 0,.int .i64 0,.int .i64 0,.int .i64 0,.int .i64 0,.int .i64 0,.int .i64 0,.int .i64 0,.int .i64 0,.int .i64 0,.int .i64 0,.int .i64 0,.int .i64 0,.int .i64 0,.int .i64 0,.int .i64 0,.int .i64 0,.int .i64 0,.int .i64 0,.int .i64 0,.int .i64 0,.int .i64 0,.int .i64 0,.int .i64 0,.int .i64 0,.int .i64 0,.int .i64 0,.int .i64 0,.int .i64 0,.int .i64 0,.int .i64 0,.int .i64 0,.int .i64 0,.int .i64 0,.int .i64 0,.int .i64 0,.int .i64 0,.int .i64 0,.int .i64 0,.int .i64 0,.int .i64 0,.int .i64 0,.int .i64 0,.int .i64 0,.int .i64 0,.int .i64 0,.int .i64 0,.int .i64 0,.int .i64 0,.int .i64 0,.int .i64 0,.int .i64 0,.int .i64 0,.int .i64 0,.int .i64 0,.int .i64 0,.int .i64 0,.int .i64 0,.int .i64 0,.int .i64 0,.int .i64 0,.int .i64 0,.int .i64 0,.int .i64 0,.int .i64 0,.int .i64 0,.int .i64 0,.int .i64 0,.int .i64 0,.int .i64 0,.int .i64 0,.int .i64 0,.int .i64 0,.int .i64 0,.int .i64 0,.int .i64 0] }
def eo:List (Nat×TI):=[(1,AV),
(2,dT),
(3,dT),
(4,{ ld:=some (false,1),bo:=true,ze:=some [.bool false] }),
(5,{ ld:=some (false,1),ik:=some .u8,ze:=some [.int .u8 0] }),
(9,{ ld:=some (false,1),st:=true,ze:=some [.string ⟨#[]⟩] }),
(12,dB),
(13,{ ld:=some (true,2),fl:=[some (0,false,1),some (1,false,1)],ze:=some [.string ⟨#[]⟩,.int .u64 0] }),
(21,{ ld:=some (false,1),ik:=some .i32,ze:=some [.int .i32 0] }),
(22,{ ld:=some (false,1),sl:=some (75,1,24),ze:=some [.slice none 0 0] }),
(23,{ ld:=some (false,1),sl:=some (4,1,1),ze:=some [.slice none 0 0] }),
(24,dC),
(25,dC),
(26,{ ld:=some (false,1),sl:=some (213,3,24),ze:=some [.slice none 0 0] }),
(27,av),
(28,av),
(29,cO),
(30,cO),
(31,cP),
(32,cP),
(33,{ ld:=some (false,1),sl:=some (9,1,16),ze:=some [.slice none 0 0] }),
(34,dD),
(35,dD),
(36,AV),
(37,AV),
(38,dD),
(40,AV),
(41,dC),
(42,{ ld:=some (false,1),sl:=some (211,3,24),ze:=some [.slice none 0 0] }),
(43,av),
(44,av),
(45,cO),
(46,cO),
(47,cP),
(48,cP),
(49,AV),
(50,AV),
(51,AV),
(52,AV),
(53,AV),
(54,AV),
(55,AV),
(57,AV),
(58,AV),
(59,AV),
(61,AV),
(62,AV),
(63,AV),
(64,AV),
(65,AV),
(66,AV),
(67,AV),
(68,AV),
(69,AV),
(70,AV),
(71,{ ld:=some (false,1),sl:=some (5,1,1),ze:=some [.slice none 0 0] }),
(73,AV),
(74,AV),
(75,{ ld:=some (false,1),sl:=some (3,1,8),ze:=some [.slice none 0 0] }),
(76,AV),
(77,AV),
(78,AV),
(79,AV),
(80,AV),
(81,AV),
(82,AV),
(83,AV),
(84,AV),
(85,AV),
(86,AV),
(87,AV),
(88,AV),
(89,dU),
(90,dU),
(92,AV),
(93,AV),
(94,AV),
(95,AV),
(96,AV),
(97,AV),
(98,AV),
(99,AV),
(100,AV),
(101,AV),
(102,AV),
(103,AV),
(104,AV),
(105,AV),
(106,AV),
(107,AV),
(108,AV),
(109,AV),
(110,AV),
(111,AV),
(112,AV),
(113,AV),
(114,AV),
(115,AV),
(116,AV),
(118,AV),
(119,AV),
(120,AV),
(121,cQ),
(122,AV),
(123,AV),
(124,AV),
(125,AV),
(126,AV),
(127,{ ld:=some (false,1),sl:=some (129,6,48),ze:=some [.slice none 0 0] }),
(128,AV),
(129,{ ld:=some (true,6),ar:=some (6,1),ze:=some [.int .i64 0,.int .i64 0,.int .i64 0,.int .i64 0,.int .i64 0,.int .i64 0] }),
(130,AV),
(131,AV),
(132,AV),
(133,AV),
(134,AV),
(135,AV),
(136,AV),
(137,cQ),
(138,AV),
(139,ZR),
(140,AV),
(141,AV),
(142,AV),
(143,AV),
(144,AV),
(145,AV),
(146,AV),
(147,AV),
(148,AV),
(149,AV),
(150,AV),
(151,AV),
(152,AV),
(153,AV),
(154,AV),
(155,cn),
(156,cn),
(157,AV),
(158,AV),
(159,AV),
(160,AV),
(161,AV),
(162,AV),
(164,AV),
(165,AV),
(166,AV),
(168,AV),
(169,AV),
(170,AV),
(171,AV),
(172,cQ),
(173,AV),
(174,ZR),
(175,{ ld:=some (false,1),sl:=some (181,12,24),ze:=some [.slice none 0 0] }),
(176,cp),
(177,cp),
(178,AV),
(179,{ ld:=some (false,1),ik:=some .u16,ze:=some [.int .u16 0] }),
(180,cq),
(181,cq),
(182,AV),
(183,AV),
(184,AV),
(185,AV),
(186,AV),
(187,AV),
(188,AV),
(189,dB),
(190,AV),
(191,AV),
(192,{ ld:=some (false,1),sl:=some (41,3,56),ze:=some [.slice none 0 0] }),
(193,{ ld:=some (false,1),sl:=some (44,3,40),ze:=some [.slice none 0 0] }),
(194,cr),
(195,cr),
(197,AV),
(199,AV),
(200,AV),
(201,AV),
(202,AV),
(203,AV),
(204,AV),
(206,AV),
(207,AV),
(208,AV),
(209,ZR),
(210,ZS),
(211,ZS),
(212,AV),
(213,ZS),
(214,cu),
(215,cu),
(216,AV),
(217,AV),
(218,AV),
(219,AV),
(220,AV),
(221,AV),
(222,{ ld:=some (false,1),sl:=some (22,1,24),ze:=some [.slice none 0 0] }),
(223,AV),
(224,AV),
(225,AV),
(226,AV),
(227,AV),
(228,AV),
(229,AV),
(230,AV),
(231,AV),
(232,AV),
(234,AV),
(235,AV),
(236,{ ld:=some (false,1),sl:=some (238,3,40),ze:=some [.slice none 0 0] }),
(237,av),
(238,av),
(239,AV),
(240,AV),
(241,AV),
(242,AV),
(243,AV),
(244,AV),
(245,AV),
(246,AV),
(247,AV),
(248,AV),
(249,AV),
(250,AV),
(251,AV),
(252,AV),
(254,AV),
(255,AV),
(256,{ ld:=some (true,24),ar:=some (24,1),ze:=some [.int .u8 0,.int .u8 0,.int .u8 0,.int .u8 0,.int .u8 0,.int .u8 0,.int .u8 0,.int .u8 0,.int .u8 0,.int .u8 0,.int .u8 0,.int .u8 0,.int .u8 0,.int .u8 0,.int .u8 0,.int .u8 0,.int .u8 0,.int .u8 0,.int .u8 0,.int .u8 0,.int .u8 0,.int .u8 0,.int .u8 0,.int .u8 0] }),
(257,dB),
(258,AV),
(259,AV),
(261,AV),
(262,AV),
(263,AV),
(264,AV),
(265,AV),
(266,AV),
(267,{ ld:=some (true,20),ar:=some (20,1),ze:=some [.int .u64 0,.int .u64 0,.int .u64 0,.int .u64 0,.int .u64 0,.int .u64 0,.int .u64 0,.int .u64 0,.int .u64 0,.int .u64 0,.int .u64 0,.int .u64 0,.int .u64 0,.int .u64 0,.int .u64 0,.int .u64 0,.int .u64 0,.int .u64 0,.int .u64 0,.int .u64 0] }),
(268,{ ld:=some (false,1),ik:=some .u32,ze:=some [.int .u32 0] }),
(269,{ ld:=some (true,65),ar:=some (65,1),ze:=some [.int .u8 0,.int .u8 0,.int .u8 0,.int .u8 0,.int .u8 0,.int .u8 0,.int .u8 0,.int .u8 0,.int .u8 0,.int .u8 0,.int .u8 0,.int .u8 0,.int .u8 0,.int .u8 0,.int .u8 0,.int .u8 0,.int .u8 0,.int .u8 0,.int .u8 0,.int .u8 0,.int .u8 0,.int .u8 0,.int .u8 0,.int .u8 0,.int .u8 0,.int .u8 0,.int .u8 0,.int .u8 0,.int .u8 0,.int .u8 0,.int .u8 0,.int .u8 0,.int .u8 0,.int .u8 0,.int .u8 0,.int .u8 0,.int .u8 0,.int .u8 0,.int .u8 0,.int .u8 0,.int .u8 0,.int .u8 0,.int .u8 0,.int .u8 0,.int .u8 0,.int .u8 0,.int .u8 0,.int .u8 0,.int .u8 0,.int .u8 0,.int .u8 0,.int .u8 0,.int .u8 0,.int .u8 0,.int .u8 0,.int .u8 0,.int .u8 0,.int .u8 0,.int .u8 0,.int .u8 0,.int .u8 0,.int .u8 0,.int .u8 0,.int .u8 0,.int .u8 0] }),
(270,AV),
(273,AV),
(279,AV),
(283,cQ),
(288,AV)]
instance:B7 Tryz.prog:=⟨eo,RL (by kernel_rfl)⟩
def Ft:List Value:=[.int .u8 0,.int .u8 1,.int .u8 28,.int .u8 2,.int .u8 29,.int .u8 14,.int .u8 24,.int .u8 3,.int .u8 30,.int .u8 22,.int .u8 20,.int .u8 15,.int .u8 25,.int .u8 17,.int .u8 4,.int .u8 8,.int .u8 31,.int .u8 27,.int .u8 13,.int .u8 23,.int .u8 21,.int .u8 19,.int .u8 16,.int .u8 7,.int .u8 26,.int .u8 12,.int .u8 18,.int .u8 6,.int .u8 11,.int .u8 5,.int .u8 10,.int .u8 9]
def B1:List Value:=[.int .u8 0,.int .u8 1,.int .u8 56,.int .u8 2,.int .u8 57,.int .u8 49,.int .u8 28,.int .u8 3,.int .u8 61,.int .u8 58,.int .u8 42,.int .u8 50,.int .u8 38,.int .u8 29,.int .u8 17,.int .u8 4,.int .u8 62,.int .u8 47,.int .u8 59,.int .u8 36,.int .u8 45,.int .u8 43,.int .u8 51,.int .u8 22,.int .u8 53,.int .u8 39,.int .u8 33,.int .u8 30,.int .u8 24,.int .u8 18,.int .u8 12,.int .u8 5,.int .u8 63,.int .u8 55,.int .u8 48,.int .u8 27,.int .u8 60,.int .u8 41,.int .u8 37,.int .u8 16,.int .u8 46,.int .u8 35,.int .u8 44,.int .u8 21,.int .u8 52,.int .u8 32,.int .u8 23,.int .u8 11,.int .u8 54,.int .u8 26,.int .u8 40,.int .u8 15,.int .u8 34,.int .u8 20,.int .u8 31,.int .u8 10,.int .u8 25,.int .u8 14,.int .u8 19,.int .u8 9,.int .u8 13,.int .u8 8,.int .u8 7,.int .u8 6]
def LX:List Value:=[.int .u64 1,.int .u64 10,.int .u64 100,.int .u64 1000,.int .u64 10000,.int .u64 100000,.int .u64 1000000,.int .u64 10000000,.int .u64 100000000,.int .u64 1000000000,.int .u64 10000000000,.int .u64 100000000000,.int .u64 1000000000000,.int .u64 10000000000000,.int .u64 100000000000000,.int .u64 1000000000000000,.int .u64 10000000000000000,.int .u64 100000000000000000,.int .u64 1000000000000000000,.int .u64 10000000000000000000]
class YH (TB:Bu):Prop where
 t1:Ny TB 1 Ft
 t2:Ny TB 2 B1
instance {TB:Bu}[h:YH TB]:Ny TB 2 B1:=h.t2
theorem mixed:Tryz.prog.follows .mixedOrders=true:=by kernel_rfl
theorem rE{TB:Bu}{Γ:Ctx}{N:Nat}{ops:Array Oper}{Q:Exit→Env→Ab→Nat→Prop}{id:Nat}{f:Env}{σ:Ab}{nx:Nat}(ho:(EL N ops && (A4 ops (Af (HW []) 0 ops.size) (Array.replicate ops.size false) && Js ops (Af (HW []) 0 ops.size)))=true)
 (h:Lex Tryz.prog TB Γ ops (Af (HW []) 0 ops.size) (fun f σ nx=>Q .normal f σ nx) f σ nx):Ak Tryz.prog TB Γ N (.region id ops true) Q f σ nx:=by rw [Bool.and_eq_true] at ho;exact cf (HW []) mixed ho.1 ho.2 h
theorem rG{TB:Bu}{Γ:Ctx}{N:Nat}{ops:Array Oper}{Q:Exit→Env→Ab→Nat→Prop}{id:Nat}{f:Env}{σ:Ab}{nx:Nat}(fl:Fl)(ho:(EL N ops && (A4 ops (Af fl 0 ops.size) (Array.replicate ops.size false) && Js ops (Af fl 0 ops.size)))=true)
 (h:Lex Tryz.prog TB Γ ops (Af fl 0 ops.size) (fun f σ nx=>Q .normal f σ nx) f σ nx):Ak Tryz.prog TB Γ N (.region id ops true) Q f σ nx:=by rw [Bool.and_eq_true] at ho;exact cf fl mixed ho.1 ho.2 h
end Go.Am
