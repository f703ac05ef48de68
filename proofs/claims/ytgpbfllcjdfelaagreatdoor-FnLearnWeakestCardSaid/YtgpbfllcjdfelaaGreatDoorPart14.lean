/-
  The seat's types, as the rules ask for them.
-/
import Derived.Test.YtgpbfllcjdfelaaGreatDoorPart12
import Derived.Test.YtgpbfllcjdfelaaGreatDoorProg
set_option linter.all false
namespace Go.Am
open Go Go.Proofs
instance:DU Tryz.prog 3 false 1:=⟨by kernel_rfl⟩
instance:Fq Tryz.prog 3 .i64:=⟨by kernel_rfl⟩
instance:HD Tryz.prog 3 (.int .i64 0):=⟨by kernel_rfl⟩
instance:BU Tryz.prog 3 [.int .i64 0]:=⟨by kernel_rfl⟩
instance:BU Tryz.prog 4 [.bool false]:=⟨by kernel_rfl⟩
instance:BU Tryz.prog 5 [.int .u8 0]:=⟨by kernel_rfl⟩
instance:CR Tryz.prog 9:=⟨by kernel_rfl⟩
instance:BU Tryz.prog 9 [.string ⟨#[]⟩]:=⟨by kernel_rfl⟩
instance:Fq Tryz.prog 21 .i32:=⟨by kernel_rfl⟩
instance:Vt Tryz.prog 22:=⟨5,by kernel_rfl,by kernel_rfl⟩
instance:CO Tryz.prog 22 5 1 1:=⟨by kernel_rfl⟩
instance:CO Tryz.prog 23 158 3 24:=⟨by kernel_rfl⟩
instance:DU Tryz.prog 25 true 3:=⟨by kernel_rfl⟩
instance:BU Tryz.prog 25 [.int .i64 0,.int .i64 0,.slice none 0 0]:=⟨by kernel_rfl⟩
instance:EC Tryz.prog 25 [(0,1),(1,1),(2,1)]:=⟨by kernel_rfl⟩
instance:CO Tryz.prog 26 53 1 24:=⟨by kernel_rfl⟩
instance:CO Tryz.prog 27 4 1 1:=⟨by kernel_rfl⟩
instance:DU Tryz.prog 29 true 3:=⟨by kernel_rfl⟩
instance:BU Tryz.prog 29 [.int .i64 0,.slice none 0 0,.slice none 0 0]:=⟨by kernel_rfl⟩
instance:EC Tryz.prog 29 [(0,1),(1,1),(2,1)]:=⟨by kernel_rfl⟩
instance:BU Tryz.prog 42 [.int .i64 0,.int .i64 0,.slice none 0 0,.int .i64 0,.slice none 0 0,.slice none 0 0,.int .i64 0]:=⟨by kernel_rfl⟩
instance:EC Tryz.prog 42 [(0,3),(3,3),(6,1)]:=⟨by kernel_rfl⟩
instance:BU Tryz.prog 44 [.bool false,.int .i64 0,.slice none 0 0,.slice none 0 0,.int .i64 0,.int .i64 0,.slice none 0 0,.int .i64 0,.slice none 0 0,.slice none 0 0,.int .i64 0]:=⟨by kernel_rfl⟩
instance:EC Tryz.prog 44 [(0,1),(1,3),(4,7)]:=⟨by kernel_rfl⟩
instance:CO Tryz.prog 45 9 1 16:=⟨by kernel_rfl⟩
instance:DU Tryz.prog 47 true 2:=⟨by kernel_rfl⟩
instance:BU Tryz.prog 47 [.slice none 0 0,.slice none 0 0]:=⟨by kernel_rfl⟩
instance:EC Tryz.prog 47 [(0,1),(1,1)]:=⟨by kernel_rfl⟩
instance:BU Tryz.prog 53 [.slice none 0 0]:=⟨by kernel_rfl⟩
instance:CO Tryz.prog 53 3 1 8:=⟨by kernel_rfl⟩
instance:BU Tryz.prog 90 [.int .i64 0,.nilFunc]:=⟨by kernel_rfl⟩
instance:EC Tryz.prog 90 [(0,1),(1,1)]:=⟨by kernel_rfl⟩
instance:CO Tryz.prog 107 109 6 48:=⟨by kernel_rfl⟩
instance:BU Tryz.prog 109 [.int .i64 0,.int .i64 0,.int .i64 0,.int .i64 0,.int .i64 0,.int .i64 0]:=⟨by kernel_rfl⟩
instance:EC Tryz.prog 109 [(0,1),(1,1),(2,1),(3,1),(4,1),(5,1)]:=⟨by kernel_rfl⟩
instance:CO Tryz.prog 128 189 12 24:=⟨by kernel_rfl⟩
instance:DV Tryz.prog 129 189 3:=⟨by kernel_rfl⟩
instance:BU Tryz.prog 131 [.int .i64 0,.int .i64 0,.slice none 0 0,.int .i64 0,.slice none 0 0,.slice none 0 0,.int .i64 0,.pointer none,.slice none 0 0,.slice none 0 0,.slice none 0 0,.map none,.slice none 0 0,.slice none 0 0]:=⟨by kernel_rfl⟩
instance:EC Tryz.prog 131 [(0,7),(7,1),(8,1),(9,1),(10,1),(11,1),(12,1),(13,1)]:=⟨by kernel_rfl⟩
instance:BU Tryz.prog 137 [.slice none 0 0,.int .i64 0]:=⟨by kernel_rfl⟩
instance:EC Tryz.prog 137 [(0,1),(1,1)]:=⟨by kernel_rfl⟩
instance:BU Tryz.prog 158 [.int .i64 0,.int .i64 0,.int .i64 0]:=⟨by kernel_rfl⟩
instance:EC Tryz.prog 158 [(0,1),(1,1),(2,1)]:=⟨by kernel_rfl⟩
instance:DV Tryz.prog 164 9 3:=⟨by kernel_rfl⟩
instance:DU Tryz.prog 187 false 1:=⟨by kernel_rfl⟩
instance:Fq Tryz.prog 187 .u16:=⟨by kernel_rfl⟩
instance:BU Tryz.prog 189 [.int .u16 0,.int .u16 0,.int .u16 0,.int .u16 0,.int .u16 0,.int .u16 0,.int .u16 0,.int .u16 0,.int .u16 0,.int .u16 0,.int .u16 0,.int .u16 0]:=⟨by kernel_rfl⟩
instance:EC Tryz.prog 189 [(0,1),(1,1),(2,1),(3,1),(4,1),(5,1),(6,1),(7,1),(8,1),(9,1),(10,1),(11,1)]:=⟨by kernel_rfl⟩
instance:DV Tryz.prog 192 3 3:=⟨by kernel_rfl⟩
instance:BU Tryz.prog 216 [.slice none 0 0]:=⟨by kernel_rfl⟩
instance:CO Tryz.prog 216 218 3 40:=⟨by kernel_rfl⟩
instance:BU Tryz.prog 218 [.int .i64 0,.int .i64 0,.slice none 0 0]:=⟨by kernel_rfl⟩
instance:EC Tryz.prog 218 [(0,1),(1,1),(2,1)]:=⟨by kernel_rfl⟩
instance:OR Tryz.prog 284 64 1:=⟨by kernel_rfl⟩
def AV:TI:={ ld:=some (false,1),ze:=some [.nilFunc] }
def mz:TI:={ ld:=some (false,1),ik:=some .i64,ze:=some [.int .i64 0] }
def l5:TI:={ ld:=some (false,1),ik:=some .u64,ze:=some [.int .u64 0] }
def k9:TI:={ ld:=some (true,3),fl:=[some (0,false,1),some (1,false,1),some (2,false,1)],ze:=some [.int .i64 0,.int .i64 0,.slice none 0 0] }
def l6:TI:={ ld:=some (true,3),fl:=[some (0,false,1),some (1,false,1),some (2,false,1)],ze:=some [.int .i64 0,.slice none 0 0,.slice none 0 0] }
def mA:TI:={ ld:=some (true,6),fl:=[some (0,false,1),some (1,true,3),some (4,false,1),some (5,false,1)],ze:=some [.int .i64 0,.int .i64 0,.slice none 0 0,.slice none 0 0,.string ⟨#[]⟩,.int .i64 0] }
def mB:TI:={ ld:=some (true,7),fl:=[some (0,true,3),some (3,true,3),some (6,false,1)],ze:=some [.int .i64 0,.int .i64 0,.slice none 0 0,.int .i64 0,.slice none 0 0,.slice none 0 0,.int .i64 0] }
def mC:TI:={ ld:=some (true,11),fl:=[some (0,false,1),some (1,true,3),some (4,true,7)],ze:=some [.bool false,.int .i64 0,.slice none 0 0,.slice none 0 0,.int .i64 0,.int .i64 0,.slice none 0 0,.int .i64 0,.slice none 0 0,.slice none 0 0,.int .i64 0] }
def lf:TI:={ ld:=some (true,2),fl:=[some (0,false,1),some (1,false,1)],ze:=some [.slice none 0 0,.slice none 0 0] }
def kL:TI:={ ld:=some (false,1),pt:=true,ze:=some [.pointer none] }
def kE:TI:={ ld:=some (true,2),fl:=[some (0,false,1),some (1,false,1)],ze:=some [.int .i64 0,.nilFunc] }
def iK:TI:={ ld:=some (false,1),ze:=some [.map none] }
def kF:TI:={ ld:=some (true,14),fl:=[some (0,true,7),some (7,false,1),some (8,false,1),some (9,false,1),some (10,false,1),some (11,false,1),some (12,false,1),some (13,false,1)],ze:=some [.int .i64 0,.int .i64 0,.slice none 0 0,.int .i64 0,.slice none 0 0,.slice none 0 0,.int .i64 0,.pointer none,.slice none 0 0,.slice none 0 0,.slice none 0 0,.map none,.slice none 0 0,.slice none 0 0] }
def kG:TI:={ ld:=some (true,2),fl:=[some (0,false,1),some (1,false,1)],ze:=some [.slice none 0 0,.int .i64 0] }
def kH:TI:={ ld:=some (true,3),fl:=[some (0,false,1),some (1,false,1),some (2,false,1)],ze:=some [.int .i64 0,.int .i64 0,.int .i64 0] }
def kI:TI:={ ld:=some (true,6),fl:=[some (0,false,1),some (1,false,1),some (2,false,1),some (3,false,1),some (4,false,1),some (5,false,1)],ze:=some [.slice none 0 0,.slice none 0 0,.slice none 0 0,.int .i64 0,.int .i64 0,.int .i64 0] }
def kJ:TI:={ ld:=some (true,12),ar:=some (12,1),ze:=some [.int .u16 0,.int .u16 0,.int .u16 0,.int .u16 0,.int .u16 0,.int .u16 0,.int .u16 0,.int .u16 0,.int .u16 0,.int .u16 0,.int .u16 0,.int .u16 0] }
def kK:TI:={ ld:=some (true,96),ar:=some (16,6),ze:=some [.int .i64 0,.int .i64 0,.int .i64 0,.int .i64 0,.int .i64 0,.int .i64 0,.int .i64 0,.int .i64 0,.int .i64 0,.int .i64 0,.int .i64 0,.int .i64 0,.int .i64 0,.int .i64 0,.int .i64 0,.int .i64 0,.int .i64 0,.int .i64 0,.int .i64 0,.int .i64 0,.int .i64 0,.int .i64 0,.int .i64 0,.int .i64 0,.int .i64 0,.int .i64 0,.int .i64 0,.int .i64 0,.int .i64 0,.int .i64 0,.int .i64 0,.int .i64 0,.int .i64 0,.int .i64 0,.int .i64 0,.int .i64 0,.int .i64 0,.int .i64 0,.int .i64 0,.int .i64 0,.int .i64 0,.int .i64 0,.int .i64 0,.int .i64 0,.int .i64 0,.int .i64 0,.int .i64 0,.int .i64 0,.int .i64 0,.int .i64 0,.int .i64 0,.int .i64 0,.int .i64 0,.int .i64 0,.int .i64 0,.int .i64 0,.int .i64 0,.int .i64 0,.int .i64 0,.int .i64 0,.int .i64 0,.int .i64 0,.int .i64 0,.int .i64 0,.int .i64 0,.int .i64 0,.int .i64 0,.int .i64 0,.int .i64 0,.int .i64 0,.int .i64 0,.int .i64 0,.int .i64 0,.int .i64 0,.int .i64 0,.int .i64 0,.int .i64 0,.int .i64 0,.int .i64 0,.int .i64 0,.int .i64 0,.int .i64 0,.int .i64 0,.int .i64 0,.int .i64 0,.int .i64 0,.int .i64 0,.int .i64 0,.int .i64 0,.int .i64 0,.int .i64 0,.int .i64 0,.int .i64 0,.int .i64 0,.int .i64 0,.int .i64 0] }
def mS:List (Nat×TI):=[(1,AV),
(2,mz),
(3,mz),
(4,{ ld:=some (false,1),bo:=true,ze:=some [.bool false] }),
(5,{ ld:=some (false,1),ik:=some .u8,ze:=some [.int .u8 0] }),
(9,{ ld:=some (false,1),st:=true,ze:=some [.string ⟨#[]⟩] }),
(12,l5),
(13,{ ld:=some (true,2),fl:=[some (0,false,1),some (1,false,1)],ze:=some [.string ⟨#[]⟩,.int .u64 0] }),
(21,{ ld:=some (false,1),ik:=some .i32,ze:=some [.int .i32 0] }),
(22,{ ld:=some (false,1),sl:=some (5,1,1),ze:=some [.slice none 0 0] }),
(23,{ ld:=some (false,1),sl:=some (158,3,24),ze:=some [.slice none 0 0] }),
(24,k9),
(25,k9),
(26,{ ld:=some (false,1),sl:=some (53,1,24),ze:=some [.slice none 0 0] }),
(27,{ ld:=some (false,1),sl:=some (4,1,1),ze:=some [.slice none 0 0] }),
(28,l6),
(29,l6),
(31,AV),
(33,AV),
(34,mA),
(35,mA),
(36,AV),
(37,AV),
(38,AV),
(39,AV),
(40,AV),
(41,mB),
(42,mB),
(43,mC),
(44,mC),
(45,{ ld:=some (false,1),sl:=some (9,1,16),ze:=some [.slice none 0 0] }),
(46,lf),
(47,lf),
(49,AV),
(50,AV),
(51,AV),
(52,AV),
(53,{ ld:=some (false,1),sl:=some (3,1,8),ze:=some [.slice none 0 0] }),
(54,AV),
(55,AV),
(56,l6),
(57,AV),
(58,AV),
(59,AV),
(60,AV),
(61,AV),
(62,AV),
(64,AV),
(66,AV),
(67,AV),
(69,AV),
(70,AV),
(71,AV),
(72,AV),
(73,AV),
(74,kL),
(75,AV),
(76,AV),
(77,AV),
(78,AV),
(79,AV),
(81,AV),
(82,AV),
(83,AV),
(84,AV),
(85,AV),
(86,AV),
(87,AV),
(88,AV),
(89,kE),
(90,kE),
(92,AV),
(93,AV),
(94,AV),
(95,AV),
(96,AV),
(97,AV),
(98,AV),
(99,AV),
(100,AV),
(102,AV),
(103,AV),
(104,AV),
(105,AV),
(106,AV),
(107,{ ld:=some (false,1),sl:=some (109,6,48),ze:=some [.slice none 0 0] }),
(108,AV),
(109,{ ld:=some (true,6),ar:=some (6,1),ze:=some [.int .i64 0,.int .i64 0,.int .i64 0,.int .i64 0,.int .i64 0,.int .i64 0] }),
(110,AV),
(111,AV),
(112,AV),
(113,AV),
(114,AV),
(116,AV),
(117,AV),
(118,AV),
(119,AV),
(120,AV),
(121,AV),
(122,AV),
(123,AV),
(124,kL),
(125,AV),
(126,AV),
(127,kL),
(128,{ ld:=some (false,1),sl:=some (189,12,24),ze:=some [.slice none 0 0] }),
(129,iK),
(130,kF),
(131,kF),
(133,AV),
(134,AV),
(135,AV),
(136,kG),
(137,kG),
(139,AV),
(140,AV),
(142,AV),
(143,AV),
(144,AV),
(145,AV),
(146,AV),
(147,AV),
(148,{ ld:=some (false,1),sl:=some (25,3,40),ze:=some [.slice none 0 0] }),
(149,AV),
(150,AV),
(152,AV),
(153,AV),
(154,AV),
(155,AV),
(156,AV),
(157,kH),
(158,kH),
(159,AV),
(160,AV),
(161,AV),
(162,AV),
(163,AV),
(164,iK),
(165,AV),
(166,AV),
(167,AV),
(168,AV),
(169,AV),
(170,AV),
(171,AV),
(172,AV),
(174,AV),
(175,AV),
(176,AV),
(177,AV),
(178,AV),
(179,AV),
(180,AV),
(181,{ ld:=some (false,1),sl:=some (29,3,56),ze:=some [.slice none 0 0] }),
(182,kI),
(183,kI),
(184,AV),
(185,AV),
(186,AV),
(187,{ ld:=some (false,1),ik:=some .u16,ze:=some [.int .u16 0] }),
(188,kJ),
(189,kJ),
(190,AV),
(191,AV),
(192,iK),
(194,AV),
(195,AV),
(196,AV),
(197,AV),
(198,AV),
(199,AV),
(200,AV),
(202,AV),
(203,AV),
(204,{ ld:=some (false,1),sl:=some (45,1,24),ze:=some [.slice none 0 0] }),
(205,AV),
(206,AV),
(207,AV),
(208,AV),
(209,kL),
(210,AV),
(211,AV),
(212,AV),
(213,AV),
(214,AV),
(215,AV),
(216,{ ld:=some (false,1),sl:=some (218,3,40),ze:=some [.slice none 0 0] }),
(217,k9),
(218,k9),
(219,AV),
(220,AV),
(221,AV),
(222,AV),
(223,l5),
(224,AV),
(225,AV),
(226,AV),
(227,AV),
(228,AV),
(229,{ ld:=some (false,1),sl:=some (26,1,24),ze:=some [.slice none 0 0] }),
(230,AV),
(231,AV),
(232,AV),
(233,AV),
(234,AV),
(235,AV),
(236,kK),
(237,kK),
(238,AV),
(239,AV),
(240,AV),
(242,AV),
(243,AV),
(245,AV),
(246,AV),
(247,AV),
(248,AV),
(249,AV),
(250,AV),
(251,AV),
(252,AV),
(253,AV),
(254,{ ld:=some (false,1),sl:=some (127,1,8),ze:=some [.slice none 0 0] }),
(255,lf),
(256,lf),
(257,AV),
(258,AV),
(259,AV),
(260,AV),
(261,AV),
(262,AV),
(263,AV),
(264,AV),
(265,AV),
(266,AV),
(267,AV),
(268,AV),
(269,AV),
(270,AV),
(271,{ ld:=some (true,24),ar:=some (24,1),ze:=some [.int .u8 0,.int .u8 0,.int .u8 0,.int .u8 0,.int .u8 0,.int .u8 0,.int .u8 0,.int .u8 0,.int .u8 0,.int .u8 0,.int .u8 0,.int .u8 0,.int .u8 0,.int .u8 0,.int .u8 0,.int .u8 0,.int .u8 0,.int .u8 0,.int .u8 0,.int .u8 0,.int .u8 0,.int .u8 0,.int .u8 0,.int .u8 0] }),
(272,l5),
(273,AV),
(274,AV),
(276,AV),
(277,AV),
(278,AV),
(279,{ ld:=some (false,1),ik:=some .u32,ze:=some [.int .u32 0] }),
(280,AV),
(281,{ ld:=some (true,20),ar:=some (20,1),ze:=some [.int .u64 0,.int .u64 0,.int .u64 0,.int .u64 0,.int .u64 0,.int .u64 0,.int .u64 0,.int .u64 0,.int .u64 0,.int .u64 0,.int .u64 0,.int .u64 0,.int .u64 0,.int .u64 0,.int .u64 0,.int .u64 0,.int .u64 0,.int .u64 0,.int .u64 0,.int .u64 0] }),
(282,{ ld:=some (true,65),ar:=some (65,1),ze:=some [.int .u8 0,.int .u8 0,.int .u8 0,.int .u8 0,.int .u8 0,.int .u8 0,.int .u8 0,.int .u8 0,.int .u8 0,.int .u8 0,.int .u8 0,.int .u8 0,.int .u8 0,.int .u8 0,.int .u8 0,.int .u8 0,.int .u8 0,.int .u8 0,.int .u8 0,.int .u8 0,.int .u8 0,.int .u8 0,.int .u8 0,.int .u8 0,.int .u8 0,.int .u8 0,.int .u8 0,.int .u8 0,.int .u8 0,.int .u8 0,.int .u8 0,.int .u8 0,.int .u8 0,.int .u8 0,.int .u8 0,.int .u8 0,.int .u8 0,.int .u8 0,.int .u8 0,.int .u8 0,.int .u8 0,.int .u8 0,.int .u8 0,.int .u8 0,.int .u8 0,.int .u8 0,.int .u8 0,.int .u8 0,.int .u8 0,.int .u8 0,.int .u8 0,.int .u8 0,.int .u8 0,.int .u8 0,.int .u8 0,.int .u8 0,.int .u8 0,.int .u8 0,.int .u8 0,.int .u8 0,.int .u8 0,.int .u8 0,.int .u8 0,.int .u8 0,.int .u8 0] }),
(285,AV),
(294,kL),
(299,AV)]
instance:CS Tryz.prog:=⟨mS,VB (by kernel_rfl)⟩
def Cf:List Value:=[.int .u8 0,.int .u8 1,.int .u8 28,.int .u8 2,.int .u8 29,.int .u8 14,.int .u8 24,.int .u8 3,.int .u8 30,.int .u8 22,.int .u8 20,.int .u8 15,.int .u8 25,.int .u8 17,.int .u8 4,.int .u8 8,.int .u8 31,.int .u8 27,.int .u8 13,.int .u8 23,.int .u8 21,.int .u8 19,.int .u8 16,.int .u8 7,.int .u8 26,.int .u8 12,.int .u8 18,.int .u8 6,.int .u8 11,.int .u8 5,.int .u8 10,.int .u8 9]
def Bk:List Value:=[.int .u8 0,.int .u8 1,.int .u8 56,.int .u8 2,.int .u8 57,.int .u8 49,.int .u8 28,.int .u8 3,.int .u8 61,.int .u8 58,.int .u8 42,.int .u8 50,.int .u8 38,.int .u8 29,.int .u8 17,.int .u8 4,.int .u8 62,.int .u8 47,.int .u8 59,.int .u8 36,.int .u8 45,.int .u8 43,.int .u8 51,.int .u8 22,.int .u8 53,.int .u8 39,.int .u8 33,.int .u8 30,.int .u8 24,.int .u8 18,.int .u8 12,.int .u8 5,.int .u8 63,.int .u8 55,.int .u8 48,.int .u8 27,.int .u8 60,.int .u8 41,.int .u8 37,.int .u8 16,.int .u8 46,.int .u8 35,.int .u8 44,.int .u8 21,.int .u8 52,.int .u8 32,.int .u8 23,.int .u8 11,.int .u8 54,.int .u8 26,.int .u8 40,.int .u8 15,.int .u8 34,.int .u8 20,.int .u8 31,.int .u8 10,.int .u8 25,.int .u8 14,.int .u8 19,.int .u8 9,.int .u8 13,.int .u8 8,.int .u8 7,.int .u8 6]
def N8:List Value:=[.int .u64 1,.int .u64 10,.int .u64 100,.int .u64 1000,.int .u64 10000,.int .u64 100000,.int .u64 1000000,.int .u64 10000000,.int .u64 100000000,.int .u64 1000000000,.int .u64 10000000000,.int .u64 100000000000,.int .u64 1000000000000,.int .u64 10000000000000,.int .u64 100000000000000,.int .u64 1000000000000000,.int .u64 10000000000000000,.int .u64 100000000000000000,.int .u64 1000000000000000000,.int .u64 10000000000000000000]
class Fa (TB:Bi):Prop where
 t1:Kl TB 1 Cf
 t2:Kl TB 2 Bk
instance {TB:Bi}[h:Fa TB]:Kl TB 2 Bk:=h.t2
theorem mixed:Tryz.prog.follows .mixedOrders=true:=by kernel_rfl
theorem rE{TB:Bi}{Γ:Ctx}{N:Nat}{ops:Array Oper}{Q:Exit->Env->Ab->Nat->Prop}{id:Nat}{f:Env}{σ:Ab}{nx:Nat}(a:(Ga N ops && (A5 ops (Ak (Ha []) 0 ops.size) (Array.replicate ops.size false) && KN ops (Ak (Ha []) 0 ops.size)))=true)
 (h:Lex Tryz.prog TB Γ ops (Ak (Ha []) 0 ops.size) (λf σ nx=>Q .normal f σ nx) f σ nx):Au Tryz.prog TB Γ N (.region id ops true) Q f σ nx:=by rw [d6] at a;exact kx (Ha []) mixed a.1 a.2 h
theorem rG{TB:Bi}{Γ:Ctx}{N:Nat}{ops:Array Oper}{Q:Exit->Env->Ab->Nat->Prop}{id:Nat}{f:Env}{σ:Ab}{nx:Nat}(fl:Fl)(a:(Ga N ops && (A5 ops (Ak fl 0 ops.size) (Array.replicate ops.size false) && KN ops (Ak fl 0 ops.size)))=true)
 (h:Lex Tryz.prog TB Γ ops (Ak fl 0 ops.size) (λf σ nx=>Q .normal f σ nx) f σ nx):Au Tryz.prog TB Γ N (.region id ops true) Q f σ nx:=by rw [d6] at a;exact kx fl mixed a.1 a.2 h
end Go.Am
