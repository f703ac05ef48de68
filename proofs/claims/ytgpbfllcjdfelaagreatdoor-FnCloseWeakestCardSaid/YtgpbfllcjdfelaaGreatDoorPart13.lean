/-
  The seat's types, as the rules ask for them.
-/
import Derived.Test.YtgpbfllcjdfelaaGreatDoorPart11
import Derived.Test.YtgpbfllcjdfelaaGreatDoorProg
set_option linter.all false
namespace Go.Am
open Go Go.Proofs
instance:DH Tryz.prog 3 false 1:=⟨by kernel_rfl⟩
instance:E4 Tryz.prog 3 .i64:=⟨by kernel_rfl⟩
instance:Hl Tryz.prog 3 (.int .i64 0):=⟨by kernel_rfl⟩
instance:BM Tryz.prog 3 [.int .i64 0]:=⟨by kernel_rfl⟩
instance:BM Tryz.prog 4 [.bool false]:=⟨by kernel_rfl⟩
instance:BM Tryz.prog 5 [.int .u8 0]:=⟨by kernel_rfl⟩
instance:CK Tryz.prog 9:=⟨by kernel_rfl⟩
instance:BM Tryz.prog 9 [.string ⟨#[]⟩]:=⟨by kernel_rfl⟩
instance:E4 Tryz.prog 21 .i32:=⟨by kernel_rfl⟩
instance:TP Tryz.prog 22:=⟨5,by kernel_rfl,by kernel_rfl⟩
instance:Ci Tryz.prog 22 5 1 1:=⟨by kernel_rfl⟩
instance:Ci Tryz.prog 23 158 3 24:=⟨by kernel_rfl⟩
instance:DH Tryz.prog 25 true 3:=⟨by kernel_rfl⟩
instance:BM Tryz.prog 25 [.int .i64 0,.int .i64 0,.slice none 0 0]:=⟨by kernel_rfl⟩
instance:Eu Tryz.prog 25 [(0,1),(1,1),(2,1)]:=⟨by kernel_rfl⟩
instance:Ci Tryz.prog 26 53 1 24:=⟨by kernel_rfl⟩
instance:Ci Tryz.prog 27 4 1 1:=⟨by kernel_rfl⟩
instance:DH Tryz.prog 29 true 3:=⟨by kernel_rfl⟩
instance:BM Tryz.prog 29 [.int .i64 0,.slice none 0 0,.slice none 0 0]:=⟨by kernel_rfl⟩
instance:Eu Tryz.prog 29 [(0,1),(1,1),(2,1)]:=⟨by kernel_rfl⟩
instance:BM Tryz.prog 42 [.int .i64 0,.int .i64 0,.slice none 0 0,.int .i64 0,.slice none 0 0,.slice none 0 0,.int .i64 0]:=⟨by kernel_rfl⟩
instance:Eu Tryz.prog 42 [(0,3),(3,3),(6,1)]:=⟨by kernel_rfl⟩
instance:BM Tryz.prog 44 [.bool false,.int .i64 0,.slice none 0 0,.slice none 0 0,.int .i64 0,.int .i64 0,.slice none 0 0,.int .i64 0,.slice none 0 0,.slice none 0 0,.int .i64 0]:=⟨by kernel_rfl⟩
instance:Eu Tryz.prog 44 [(0,1),(1,3),(4,7)]:=⟨by kernel_rfl⟩
instance:Ci Tryz.prog 45 9 1 16:=⟨by kernel_rfl⟩
instance:DH Tryz.prog 47 true 2:=⟨by kernel_rfl⟩
instance:BM Tryz.prog 47 [.slice none 0 0,.slice none 0 0]:=⟨by kernel_rfl⟩
instance:Eu Tryz.prog 47 [(0,1),(1,1)]:=⟨by kernel_rfl⟩
instance:BM Tryz.prog 53 [.slice none 0 0]:=⟨by kernel_rfl⟩
instance:Ci Tryz.prog 53 3 1 8:=⟨by kernel_rfl⟩
instance:BM Tryz.prog 90 [.int .i64 0,.nilFunc]:=⟨by kernel_rfl⟩
instance:Eu Tryz.prog 90 [(0,1),(1,1)]:=⟨by kernel_rfl⟩
instance:Ci Tryz.prog 107 109 6 48:=⟨by kernel_rfl⟩
instance:BM Tryz.prog 109 [.int .i64 0,.int .i64 0,.int .i64 0,.int .i64 0,.int .i64 0,.int .i64 0]:=⟨by kernel_rfl⟩
instance:Eu Tryz.prog 109 [(0,1),(1,1),(2,1),(3,1),(4,1),(5,1)]:=⟨by kernel_rfl⟩
instance:Ci Tryz.prog 128 189 12 24:=⟨by kernel_rfl⟩
instance:DJ Tryz.prog 129 189 3:=⟨by kernel_rfl⟩
instance:BM Tryz.prog 131 [.int .i64 0,.int .i64 0,.slice none 0 0,.int .i64 0,.slice none 0 0,.slice none 0 0,.int .i64 0,.pointer none,.slice none 0 0,.slice none 0 0,.slice none 0 0,.map none,.slice none 0 0,.slice none 0 0]:=⟨by kernel_rfl⟩
instance:Eu Tryz.prog 131 [(0,7),(7,1),(8,1),(9,1),(10,1),(11,1),(12,1),(13,1)]:=⟨by kernel_rfl⟩
instance:BM Tryz.prog 137 [.slice none 0 0,.int .i64 0]:=⟨by kernel_rfl⟩
instance:Eu Tryz.prog 137 [(0,1),(1,1)]:=⟨by kernel_rfl⟩
instance:BM Tryz.prog 158 [.int .i64 0,.int .i64 0,.int .i64 0]:=⟨by kernel_rfl⟩
instance:Eu Tryz.prog 158 [(0,1),(1,1),(2,1)]:=⟨by kernel_rfl⟩
instance:DJ Tryz.prog 164 9 3:=⟨by kernel_rfl⟩
instance:DH Tryz.prog 187 false 1:=⟨by kernel_rfl⟩
instance:E4 Tryz.prog 187 .u16:=⟨by kernel_rfl⟩
instance:BM Tryz.prog 189 [.int .u16 0,.int .u16 0,.int .u16 0,.int .u16 0,.int .u16 0,.int .u16 0,.int .u16 0,.int .u16 0,.int .u16 0,.int .u16 0,.int .u16 0,.int .u16 0]:=⟨by kernel_rfl⟩
instance:Eu Tryz.prog 189 [(0,1),(1,1),(2,1),(3,1),(4,1),(5,1),(6,1),(7,1),(8,1),(9,1),(10,1),(11,1)]:=⟨by kernel_rfl⟩
instance:DJ Tryz.prog 192 3 3:=⟨by kernel_rfl⟩
instance:BM Tryz.prog 216 [.slice none 0 0]:=⟨by kernel_rfl⟩
instance:Ci Tryz.prog 216 218 3 40:=⟨by kernel_rfl⟩
instance:BM Tryz.prog 218 [.int .i64 0,.int .i64 0,.slice none 0 0]:=⟨by kernel_rfl⟩
instance:Eu Tryz.prog 218 [(0,1),(1,1),(2,1)]:=⟨by kernel_rfl⟩
instance:Of Tryz.prog 284 64 1:=⟨by kernel_rfl⟩
def AX:TI:={ ld:=some (false,1),ze:=some [.nilFunc] }
def j9:TI:={ ld:=some (false,1),ik:=some .i64,ze:=some [.int .i64 0] }
def jJ:TI:={ ld:=some (false,1),ik:=some .u64,ze:=some [.int .u64 0] }
def iV:TI:={ ld:=some (true,3),fl:=[some (0,false,1),some (1,false,1),some (2,false,1)],ze:=some [.int .i64 0,.int .i64 0,.slice none 0 0] }
def jK:TI:={ ld:=some (true,3),fl:=[some (0,false,1),some (1,false,1),some (2,false,1)],ze:=some [.int .i64 0,.slice none 0 0,.slice none 0 0] }
def ka:TI:={ ld:=some (true,6),fl:=[some (0,false,1),some (1,true,3),some (4,false,1),some (5,false,1)],ze:=some [.int .i64 0,.int .i64 0,.slice none 0 0,.slice none 0 0,.string ⟨#[]⟩,.int .i64 0] }
def kc:TI:={ ld:=some (true,7),fl:=[some (0,true,3),some (3,true,3),some (6,false,1)],ze:=some [.int .i64 0,.int .i64 0,.slice none 0 0,.int .i64 0,.slice none 0 0,.slice none 0 0,.int .i64 0] }
def kg:TI:={ ld:=some (true,11),fl:=[some (0,false,1),some (1,true,3),some (4,true,7)],ze:=some [.bool false,.int .i64 0,.slice none 0 0,.slice none 0 0,.int .i64 0,.int .i64 0,.slice none 0 0,.int .i64 0,.slice none 0 0,.slice none 0 0,.int .i64 0] }
def iW:TI:={ ld:=some (true,2),fl:=[some (0,false,1),some (1,false,1)],ze:=some [.slice none 0 0,.slice none 0 0] }
def iy:TI:={ ld:=some (false,1),pt:=true,ze:=some [.pointer none] }
def im:TI:={ ld:=some (true,2),fl:=[some (0,false,1),some (1,false,1)],ze:=some [.int .i64 0,.nilFunc] }
def eP:TI:={ ld:=some (false,1),ze:=some [.map none] }
def iq:TI:={ ld:=some (true,14),fl:=[some (0,true,7),some (7,false,1),some (8,false,1),some (9,false,1),some (10,false,1),some (11,false,1),some (12,false,1),some (13,false,1)],ze:=some [.int .i64 0,.int .i64 0,.slice none 0 0,.int .i64 0,.slice none 0 0,.slice none 0 0,.int .i64 0,.pointer none,.slice none 0 0,.slice none 0 0,.slice none 0 0,.map none,.slice none 0 0,.slice none 0 0] }
def ir:TI:={ ld:=some (true,2),fl:=[some (0,false,1),some (1,false,1)],ze:=some [.slice none 0 0,.int .i64 0] }
def iu:TI:={ ld:=some (true,3),fl:=[some (0,false,1),some (1,false,1),some (2,false,1)],ze:=some [.int .i64 0,.int .i64 0,.int .i64 0] }
def iv:TI:={ ld:=some (true,6),fl:=[some (0,false,1),some (1,false,1),some (2,false,1),some (3,false,1),some (4,false,1),some (5,false,1)],ze:=some [.slice none 0 0,.slice none 0 0,.slice none 0 0,.int .i64 0,.int .i64 0,.int .i64 0] }
def iw:TI:={ ld:=some (true,12),ar:=some (12,1),ze:=some [.int .u16 0,.int .u16 0,.int .u16 0,.int .u16 0,.int .u16 0,.int .u16 0,.int .u16 0,.int .u16 0,.int .u16 0,.int .u16 0,.int .u16 0,.int .u16 0] }
def ix:TI:={ ld:=some (true,96),ar:=some (16,6),ze:=some [.int .i64 0,.int .i64 0,.int .i64 0,.int .i64 0,.int .i64 0,.int .i64 0,.int .i64 0,.int .i64 0,.int .i64 0,.int .i64 0,.int .i64 0,.int .i64 0,.int .i64 0,.int .i64 0,.int .i64 0,.int .i64 0,.int .i64 0,.int .i64 0,.int .i64 0,.int .i64 0,.int .i64 0,.int .i64 0,.int .i64 0,.int .i64 0,.int .i64 0,.int .i64 0,.int .i64 0,.int .i64 0,.int .i64 0,.int .i64 0,.int .i64 0,.int .i64 0,.int .i64 0,.int .i64 0,.int .i64 0,.int .i64 0,.int .i64 0,.int .i64 0,.int .i64 0,.int .i64 0,.int .i64 0,.int .i64 0,.int .i64 0,.int .i64 0,.int .i64 0,.int .i64 0,.int .i64 0,.int .i64 0,.int .i64 0,.int .i64 0,.int .i64 0,.int .i64 0,.int .i64 0,.int .i64 0,.int .i64 0,.int .i64 0,.int .i64 0,.int .i64 0,.int .i64 0,.int .i64 0,.int .i64 0,.int .i64 0,.int .i64 0,.int .i64 0,.int .i64 0,.int .i64 0,.int .i64 0,.int .i64 0,.int .i64 0,.int .i64 0,.int .i64 0,.int .i64 0,.int .i64 0,.int .i64 0,.int .i64 0,.int .i64 0,.int .i64 0,.int .i64 0,.int .i64 0,.int .i64 0,.int .i64 0,.int .i64 0,.int .i64 0,.int .i64 0,.int .i64 0,.int .i64 0,.int .i64 0,.int .i64 0,.int .i64 0,.int .i64 0,.int .i64 0,.int .i64 0,.int .i64 0,.int .i64 0,.int .i64 0,.int .i64 0] }
def kx:List (Nat×TI):=[(1,AX),
(2,j9),
(3,j9),
(4,{ ld:=some (false,1),bo:=true,ze:=some [.bool false] }),
(5,{ ld:=some (false,1),ik:=some .u8,ze:=some [.int .u8 0] }),
(9,{ ld:=some (false,1),st:=true,ze:=some [.string ⟨#[]⟩] }),
(12,jJ),
(13,{ ld:=some (true,2),fl:=[some (0,false,1),some (1,false,1)],ze:=some [.string ⟨#[]⟩,.int .u64 0] }),
(21,{ ld:=some (false,1),ik:=some .i32,ze:=some [.int .i32 0] }),
(22,{ ld:=some (false,1),sl:=some (5,1,1),ze:=some [.slice none 0 0] }),
(23,{ ld:=some (false,1),sl:=some (158,3,24),ze:=some [.slice none 0 0] }),
(24,iV),
(25,iV),
(26,{ ld:=some (false,1),sl:=some (53,1,24),ze:=some [.slice none 0 0] }),
(27,{ ld:=some (false,1),sl:=some (4,1,1),ze:=some [.slice none 0 0] }),
(28,jK),
(29,jK),
(31,AX),
(33,AX),
(34,ka),
(35,ka),
(36,AX),
(37,AX),
(38,AX),
(39,AX),
(40,AX),
(41,kc),
(42,kc),
(43,kg),
(44,kg),
(45,{ ld:=some (false,1),sl:=some (9,1,16),ze:=some [.slice none 0 0] }),
(46,iW),
(47,iW),
(49,AX),
(50,AX),
(51,AX),
(52,AX),
(53,{ ld:=some (false,1),sl:=some (3,1,8),ze:=some [.slice none 0 0] }),
(54,AX),
(55,AX),
(56,jK),
(57,AX),
(58,AX),
(59,AX),
(60,AX),
(61,AX),
(62,AX),
(64,AX),
(66,AX),
(67,AX),
(69,AX),
(70,AX),
(71,AX),
(72,AX),
(73,AX),
(74,iy),
(75,AX),
(76,AX),
(77,AX),
(78,AX),
(79,AX),
(81,AX),
(82,AX),
(83,AX),
(84,AX),
(85,AX),
(86,AX),
(87,AX),
(88,AX),
(89,im),
(90,im),
(92,AX),
(93,AX),
(94,AX),
(95,AX),
(96,AX),
(97,AX),
(98,AX),
(99,AX),
(100,AX),
(102,AX),
(103,AX),
(104,AX),
(105,AX),
(106,AX),
(107,{ ld:=some (false,1),sl:=some (109,6,48),ze:=some [.slice none 0 0] }),
(108,AX),
(109,{ ld:=some (true,6),ar:=some (6,1),ze:=some [.int .i64 0,.int .i64 0,.int .i64 0,.int .i64 0,.int .i64 0,.int .i64 0] }),
(110,AX),
(111,AX),
(112,AX),
(113,AX),
(114,AX),
(116,AX),
(117,AX),
(118,AX),
(119,AX),
(120,AX),
(121,AX),
(122,AX),
(123,AX),
(124,iy),
(125,AX),
(126,AX),
(127,iy),
(128,{ ld:=some (false,1),sl:=some (189,12,24),ze:=some [.slice none 0 0] }),
(129,eP),
(130,iq),
(131,iq),
(133,AX),
(134,AX),
(135,AX),
(136,ir),
(137,ir),
(139,AX),
(140,AX),
(142,AX),
(143,AX),
(144,AX),
(145,AX),
(146,AX),
(147,AX),
(148,{ ld:=some (false,1),sl:=some (25,3,40),ze:=some [.slice none 0 0] }),
(149,AX),
(150,AX),
(152,AX),
(153,AX),
(154,AX),
(155,AX),
(156,AX),
(157,iu),
(158,iu),
(159,AX),
(160,AX),
(161,AX),
(162,AX),
(163,AX),
(164,eP),
(165,AX),
(166,AX),
(167,AX),
(168,AX),
(169,AX),
(170,AX),
(171,AX),
(172,AX),
(174,AX),
(175,AX),
(176,AX),
(177,AX),
(178,AX),
(179,AX),
(180,AX),
(181,{ ld:=some (false,1),sl:=some (29,3,56),ze:=some [.slice none 0 0] }),
(182,iv),
(183,iv),
(184,AX),
(185,AX),
(186,AX),
(187,{ ld:=some (false,1),ik:=some .u16,ze:=some [.int .u16 0] }),
(188,iw),
(189,iw),
(190,AX),
(191,AX),
(192,eP),
(194,AX),
(195,AX),
(196,AX),
(197,AX),
(198,AX),
(199,AX),
(200,AX),
(202,AX),
(203,AX),
(204,{ ld:=some (false,1),sl:=some (45,1,24),ze:=some [.slice none 0 0] }),
(205,AX),
(206,AX),
(207,AX),
(208,AX),
(209,iy),
(210,AX),
(211,AX),
(212,AX),
(213,AX),
(214,AX),
(215,AX),
(216,{ ld:=some (false,1),sl:=some (218,3,40),ze:=some [.slice none 0 0] }),
(217,iV),
(218,iV),
(219,AX),
(220,AX),
(221,AX),
(222,AX),
(223,jJ),
(224,AX),
(225,AX),
(226,AX),
(227,AX),
(228,AX),
(229,{ ld:=some (false,1),sl:=some (26,1,24),ze:=some [.slice none 0 0] }),
(230,AX),
(231,AX),
(232,AX),
(233,AX),
(234,AX),
(235,AX),
(236,ix),
(237,ix),
(238,AX),
(239,AX),
(240,AX),
(242,AX),
(243,AX),
(245,AX),
(246,AX),
(247,AX),
(248,AX),
(249,AX),
(250,AX),
(251,AX),
(252,AX),
(253,AX),
(254,{ ld:=some (false,1),sl:=some (127,1,8),ze:=some [.slice none 0 0] }),
(255,iW),
(256,iW),
(257,AX),
(258,AX),
(259,AX),
(260,AX),
(261,AX),
(262,AX),
(263,AX),
(264,AX),
(265,AX),
(266,AX),
(267,AX),
(268,AX),
(269,AX),
(270,AX),
(271,{ ld:=some (true,24),ar:=some (24,1),ze:=some [.int .u8 0,.int .u8 0,.int .u8 0,.int .u8 0,.int .u8 0,.int .u8 0,.int .u8 0,.int .u8 0,.int .u8 0,.int .u8 0,.int .u8 0,.int .u8 0,.int .u8 0,.int .u8 0,.int .u8 0,.int .u8 0,.int .u8 0,.int .u8 0,.int .u8 0,.int .u8 0,.int .u8 0,.int .u8 0,.int .u8 0,.int .u8 0] }),
(272,jJ),
(273,AX),
(274,AX),
(276,AX),
(277,AX),
(278,AX),
(279,{ ld:=some (false,1),ik:=some .u32,ze:=some [.int .u32 0] }),
(280,AX),
(281,{ ld:=some (true,20),ar:=some (20,1),ze:=some [.int .u64 0,.int .u64 0,.int .u64 0,.int .u64 0,.int .u64 0,.int .u64 0,.int .u64 0,.int .u64 0,.int .u64 0,.int .u64 0,.int .u64 0,.int .u64 0,.int .u64 0,.int .u64 0,.int .u64 0,.int .u64 0,.int .u64 0,.int .u64 0,.int .u64 0,.int .u64 0] }),
(282,{ ld:=some (true,65),ar:=some (65,1),ze:=some [.int .u8 0,.int .u8 0,.int .u8 0,.int .u8 0,.int .u8 0,.int .u8 0,.int .u8 0,.int .u8 0,.int .u8 0,.int .u8 0,.int .u8 0,.int .u8 0,.int .u8 0,.int .u8 0,.int .u8 0,.int .u8 0,.int .u8 0,.int .u8 0,.int .u8 0,.int .u8 0,.int .u8 0,.int .u8 0,.int .u8 0,.int .u8 0,.int .u8 0,.int .u8 0,.int .u8 0,.int .u8 0,.int .u8 0,.int .u8 0,.int .u8 0,.int .u8 0,.int .u8 0,.int .u8 0,.int .u8 0,.int .u8 0,.int .u8 0,.int .u8 0,.int .u8 0,.int .u8 0,.int .u8 0,.int .u8 0,.int .u8 0,.int .u8 0,.int .u8 0,.int .u8 0,.int .u8 0,.int .u8 0,.int .u8 0,.int .u8 0,.int .u8 0,.int .u8 0,.int .u8 0,.int .u8 0,.int .u8 0,.int .u8 0,.int .u8 0,.int .u8 0,.int .u8 0,.int .u8 0,.int .u8 0,.int .u8 0,.int .u8 0,.int .u8 0,.int .u8 0] }),
(285,AX),
(294,iy),
(299,AX)]
instance:CL Tryz.prog:=⟨kx,TW (by kernel_rfl)⟩
def BY:List Value:=[.int .u8 0,.int .u8 1,.int .u8 28,.int .u8 2,.int .u8 29,.int .u8 14,.int .u8 24,.int .u8 3,.int .u8 30,.int .u8 22,.int .u8 20,.int .u8 15,.int .u8 25,.int .u8 17,.int .u8 4,.int .u8 8,.int .u8 31,.int .u8 27,.int .u8 13,.int .u8 23,.int .u8 21,.int .u8 19,.int .u8 16,.int .u8 7,.int .u8 26,.int .u8 12,.int .u8 18,.int .u8 6,.int .u8 11,.int .u8 5,.int .u8 10,.int .u8 9]
def Bm:List Value:=[.int .u8 0,.int .u8 1,.int .u8 56,.int .u8 2,.int .u8 57,.int .u8 49,.int .u8 28,.int .u8 3,.int .u8 61,.int .u8 58,.int .u8 42,.int .u8 50,.int .u8 38,.int .u8 29,.int .u8 17,.int .u8 4,.int .u8 62,.int .u8 47,.int .u8 59,.int .u8 36,.int .u8 45,.int .u8 43,.int .u8 51,.int .u8 22,.int .u8 53,.int .u8 39,.int .u8 33,.int .u8 30,.int .u8 24,.int .u8 18,.int .u8 12,.int .u8 5,.int .u8 63,.int .u8 55,.int .u8 48,.int .u8 27,.int .u8 60,.int .u8 41,.int .u8 37,.int .u8 16,.int .u8 46,.int .u8 35,.int .u8 44,.int .u8 21,.int .u8 52,.int .u8 32,.int .u8 23,.int .u8 11,.int .u8 54,.int .u8 26,.int .u8 40,.int .u8 15,.int .u8 34,.int .u8 20,.int .u8 31,.int .u8 10,.int .u8 25,.int .u8 14,.int .u8 19,.int .u8 9,.int .u8 13,.int .u8 8,.int .u8 7,.int .u8 6]
def Nx:List Value:=[.int .u64 1,.int .u64 10,.int .u64 100,.int .u64 1000,.int .u64 10000,.int .u64 100000,.int .u64 1000000,.int .u64 10000000,.int .u64 100000000,.int .u64 1000000000,.int .u64 10000000000,.int .u64 100000000000,.int .u64 1000000000000,.int .u64 10000000000000,.int .u64 100000000000000,.int .u64 1000000000000000,.int .u64 10000000000000000,.int .u64 100000000000000000,.int .u64 1000000000000000000,.int .u64 10000000000000000000]
class FA (TB:Bp):Prop where
 t1:JU TB 1 BY
 t2:JU TB 2 Bm
instance {TB:Bp}[h:FA TB]:JU TB 2 Bm:=h.t2
theorem mixed:Tryz.prog.follows .mixedOrders=true:=by kernel_rfl
theorem rE{TB:Bp}{Γ:Ctx}{N:Nat}{ops:Array Oper}{Q:Exit->Env->Ab->Nat->Prop}{id:Nat}{f:Env}{σ:Ab}{nx:Nat}(a:(FN N ops && (A6 ops (Ai (It []) 0 ops.size) (Array.replicate ops.size false) && Kw ops (Ai (It []) 0 ops.size)))=true)
 (h:Lex Tryz.prog TB Γ ops (Ai (It []) 0 ops.size) (λf σ nx=>Q .normal f σ nx) f σ nx):Aj Tryz.prog TB Γ N (.region id ops true) Q f σ nx:=by rw [d5] at a;exact ib (It []) mixed a.1 a.2 h
theorem rG{TB:Bp}{Γ:Ctx}{N:Nat}{ops:Array Oper}{Q:Exit->Env->Ab->Nat->Prop}{id:Nat}{f:Env}{σ:Ab}{nx:Nat}(fl:Fl)(a:(FN N ops && (A6 ops (Ai fl 0 ops.size) (Array.replicate ops.size false) && Kw ops (Ai fl 0 ops.size)))=true)
 (h:Lex Tryz.prog TB Γ ops (Ai fl 0 ops.size) (λf σ nx=>Q .normal f σ nx) f σ nx):Aj Tryz.prog TB Γ N (.region id ops true) Q f σ nx:=by rw [d5] at a;exact ib fl mixed a.1 a.2 h
end Go.Am
