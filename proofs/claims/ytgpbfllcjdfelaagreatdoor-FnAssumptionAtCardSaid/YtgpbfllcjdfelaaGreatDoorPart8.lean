/-
  The seat's types, as the rules ask for them.
-/
import Derived.Test.YtgpbfllcjdfelaaGreatDoorPart7
import Derived.Test.YtgpbfllcjdfelaaGreatDoorProg
set_option linter.all false
namespace Go.Am
open Go Go.Proofs
instance:D0 Tryz.prog 3 false 1:=⟨by kernel_rfl⟩
instance:GK Tryz.prog 3 .i64:=⟨by kernel_rfl⟩
instance:Lv Tryz.prog 3 (.int .i64 0):=⟨by kernel_rfl⟩
instance:BQ Tryz.prog 3 [.int .i64 0]:=⟨by kernel_rfl⟩
instance:BQ Tryz.prog 4 [.bool false]:=⟨by kernel_rfl⟩
instance:BQ Tryz.prog 5 [.int .u8 0]:=⟨by kernel_rfl⟩
instance:Ee Tryz.prog 9:=⟨by kernel_rfl⟩
instance:BQ Tryz.prog 9 [.string ⟨#[]⟩]:=⟨by kernel_rfl⟩
instance:GK Tryz.prog 21 .i32:=⟨by kernel_rfl⟩
instance:YI Tryz.prog 22:=⟨5,by kernel_rfl,by kernel_rfl⟩
instance:CS Tryz.prog 22 5 1 1:=⟨by kernel_rfl⟩
instance:CS Tryz.prog 23 158 3 24:=⟨by kernel_rfl⟩
instance:D0 Tryz.prog 25 true 3:=⟨by kernel_rfl⟩
instance:BQ Tryz.prog 25 [.int .i64 0,.int .i64 0,.slice none 0 0]:=⟨by kernel_rfl⟩
instance:EL Tryz.prog 25 [(0,1),(1,1),(2,1)]:=⟨by kernel_rfl⟩
instance:BQ Tryz.prog 26 [.slice none 0 0]:=⟨by kernel_rfl⟩
instance:CS Tryz.prog 26 53 1 24:=⟨by kernel_rfl⟩
instance:CS Tryz.prog 27 4 1 1:=⟨by kernel_rfl⟩
instance:D0 Tryz.prog 29 true 3:=⟨by kernel_rfl⟩
instance:BQ Tryz.prog 29 [.int .i64 0,.slice none 0 0,.slice none 0 0]:=⟨by kernel_rfl⟩
instance:EL Tryz.prog 29 [(0,1),(1,1),(2,1)]:=⟨by kernel_rfl⟩
instance:BQ Tryz.prog 35 [.int .i64 0,.int .i64 0,.slice none 0 0,.slice none 0 0,.string ⟨#[]⟩,.int .i64 0]:=⟨by kernel_rfl⟩
instance:EL Tryz.prog 35 [(0,1),(1,3),(4,1),(5,1)]:=⟨by kernel_rfl⟩
instance:BQ Tryz.prog 42 [.int .i64 0,.int .i64 0,.slice none 0 0,.int .i64 0,.slice none 0 0,.slice none 0 0,.int .i64 0]:=⟨by kernel_rfl⟩
instance:EL Tryz.prog 42 [(0,3),(3,3),(6,1)]:=⟨by kernel_rfl⟩
instance:BQ Tryz.prog 44 [.bool false,.int .i64 0,.slice none 0 0,.slice none 0 0,.int .i64 0,.int .i64 0,.slice none 0 0,.int .i64 0,.slice none 0 0,.slice none 0 0,.int .i64 0]:=⟨by kernel_rfl⟩
instance:EL Tryz.prog 44 [(0,1),(1,3),(4,7)]:=⟨by kernel_rfl⟩
instance:CS Tryz.prog 45 9 1 16:=⟨by kernel_rfl⟩
instance:D0 Tryz.prog 47 true 2:=⟨by kernel_rfl⟩
instance:BQ Tryz.prog 47 [.slice none 0 0,.slice none 0 0]:=⟨by kernel_rfl⟩
instance:EL Tryz.prog 47 [(0,1),(1,1)]:=⟨by kernel_rfl⟩
instance:BQ Tryz.prog 53 [.slice none 0 0]:=⟨by kernel_rfl⟩
instance:CS Tryz.prog 53 3 1 8:=⟨by kernel_rfl⟩
instance:BQ Tryz.prog 90 [.int .i64 0,.nilFunc]:=⟨by kernel_rfl⟩
instance:EL Tryz.prog 90 [(0,1),(1,1)]:=⟨by kernel_rfl⟩
instance:CS Tryz.prog 107 109 6 48:=⟨by kernel_rfl⟩
instance:BQ Tryz.prog 109 [.int .i64 0,.int .i64 0,.int .i64 0,.int .i64 0,.int .i64 0,.int .i64 0]:=⟨by kernel_rfl⟩
instance:EL Tryz.prog 109 [(0,1),(1,1),(2,1),(3,1),(4,1),(5,1)]:=⟨by kernel_rfl⟩
instance:BQ Tryz.prog 127 [.pointer none]:=⟨by kernel_rfl⟩
instance:CS Tryz.prog 128 189 12 24:=⟨by kernel_rfl⟩
instance:Hs Tryz.prog 129 189 3:=⟨by kernel_rfl⟩
instance:BQ Tryz.prog 131 [.int .i64 0,.int .i64 0,.slice none 0 0,.int .i64 0,.slice none 0 0,.slice none 0 0,.int .i64 0,.pointer none,.slice none 0 0,.slice none 0 0,.slice none 0 0,.map none,.slice none 0 0,.slice none 0 0]:=⟨by kernel_rfl⟩
instance:EL Tryz.prog 131 [(0,7),(7,1),(8,1),(9,1),(10,1),(11,1),(12,1),(13,1)]:=⟨by kernel_rfl⟩
instance:BQ Tryz.prog 137 [.slice none 0 0,.int .i64 0]:=⟨by kernel_rfl⟩
instance:EL Tryz.prog 137 [(0,1),(1,1)]:=⟨by kernel_rfl⟩
instance:BQ Tryz.prog 158 [.int .i64 0,.int .i64 0,.int .i64 0]:=⟨by kernel_rfl⟩
instance:EL Tryz.prog 158 [(0,1),(1,1),(2,1)]:=⟨by kernel_rfl⟩
instance:Hs Tryz.prog 164 9 3:=⟨by kernel_rfl⟩
instance:BQ Tryz.prog 183 [.slice none 0 0,.slice none 0 0,.slice none 0 0,.int .i64 0,.int .i64 0,.int .i64 0]:=⟨by kernel_rfl⟩
instance:EL Tryz.prog 183 [(0,1),(1,1),(2,1),(3,1),(4,1),(5,1)]:=⟨by kernel_rfl⟩
instance:D0 Tryz.prog 187 false 1:=⟨by kernel_rfl⟩
instance:GK Tryz.prog 187 .u16:=⟨by kernel_rfl⟩
instance:BQ Tryz.prog 189 [.int .u16 0,.int .u16 0,.int .u16 0,.int .u16 0,.int .u16 0,.int .u16 0,.int .u16 0,.int .u16 0,.int .u16 0,.int .u16 0,.int .u16 0,.int .u16 0]:=⟨by kernel_rfl⟩
instance:EL Tryz.prog 189 [(0,1),(1,1),(2,1),(3,1),(4,1),(5,1),(6,1),(7,1),(8,1),(9,1),(10,1),(11,1)]:=⟨by kernel_rfl⟩
instance:Hs Tryz.prog 192 3 3:=⟨by kernel_rfl⟩
instance:BQ Tryz.prog 216 [.slice none 0 0]:=⟨by kernel_rfl⟩
instance:CS Tryz.prog 216 218 3 40:=⟨by kernel_rfl⟩
instance:BQ Tryz.prog 218 [.int .i64 0,.int .i64 0,.slice none 0 0]:=⟨by kernel_rfl⟩
instance:EL Tryz.prog 218 [(0,1),(1,1),(2,1)]:=⟨by kernel_rfl⟩
instance:CS Tryz.prog 229 26 1 24:=⟨by kernel_rfl⟩
instance:CS Tryz.prog 254 127 1 8:=⟨by kernel_rfl⟩
instance:D0 Tryz.prog 256 true 2:=⟨by kernel_rfl⟩
instance:BQ Tryz.prog 256 [.slice none 0 0,.slice none 0 0]:=⟨by kernel_rfl⟩
instance:EL Tryz.prog 256 [(0,1),(1,1)]:=⟨by kernel_rfl⟩
instance:RF Tryz.prog 284 64 1:=⟨by kernel_rfl⟩
def Bn:TI:={ ld:=some (false,1),ze:=some [.nilFunc] }
def o4:TI:={ ld:=some (false,1),ik:=some .i64,ze:=some [.int .i64 0] }
def oq:TI:={ ld:=some (false,1),ik:=some .u64,ze:=some [.int .u64 0] }
def nE:TI:={ ld:=some (true,3),fl:=[some (0,false,1),some (1,false,1),some (2,false,1)],ze:=some [.int .i64 0,.int .i64 0,.slice none 0 0] }
def ot:TI:={ ld:=some (true,3),fl:=[some (0,false,1),some (1,false,1),some (2,false,1)],ze:=some [.int .i64 0,.slice none 0 0,.slice none 0 0] }
def o5:TI:={ ld:=some (true,6),fl:=[some (0,false,1),some (1,true,3),some (4,false,1),some (5,false,1)],ze:=some [.int .i64 0,.int .i64 0,.slice none 0 0,.slice none 0 0,.string ⟨#[]⟩,.int .i64 0] }
def o6:TI:={ ld:=some (true,7),fl:=[some (0,true,3),some (3,true,3),some (6,false,1)],ze:=some [.int .i64 0,.int .i64 0,.slice none 0 0,.int .i64 0,.slice none 0 0,.slice none 0 0,.int .i64 0] }
def o7:TI:={ ld:=some (true,11),fl:=[some (0,false,1),some (1,true,3),some (4,true,7)],ze:=some [.bool false,.int .i64 0,.slice none 0 0,.slice none 0 0,.int .i64 0,.int .i64 0,.slice none 0 0,.int .i64 0,.slice none 0 0,.slice none 0 0,.int .i64 0] }
def nF:TI:={ ld:=some (true,2),fl:=[some (0,false,1),some (1,false,1)],ze:=some [.slice none 0 0,.slice none 0 0] }
def nt:TI:={ ld:=some (false,1),pt:=true,ze:=some [.pointer none] }
def ng:TI:={ ld:=some (true,2),fl:=[some (0,false,1),some (1,false,1)],ze:=some [.int .i64 0,.nilFunc] }
def lq:TI:={ ld:=some (false,1),ze:=some [.map none] }
def nh:TI:={ ld:=some (true,14),fl:=[some (0,true,7),some (7,false,1),some (8,false,1),some (9,false,1),some (10,false,1),some (11,false,1),some (12,false,1),some (13,false,1)],ze:=some [.int .i64 0,.int .i64 0,.slice none 0 0,.int .i64 0,.slice none 0 0,.slice none 0 0,.int .i64 0,.pointer none,.slice none 0 0,.slice none 0 0,.slice none 0 0,.map none,.slice none 0 0,.slice none 0 0] }
def nj:TI:={ ld:=some (true,2),fl:=[some (0,false,1),some (1,false,1)],ze:=some [.slice none 0 0,.int .i64 0] }
def nk:TI:={ ld:=some (true,3),fl:=[some (0,false,1),some (1,false,1),some (2,false,1)],ze:=some [.int .i64 0,.int .i64 0,.int .i64 0] }
def nn:TI:={ ld:=some (true,6),fl:=[some (0,false,1),some (1,false,1),some (2,false,1),some (3,false,1),some (4,false,1),some (5,false,1)],ze:=some [.slice none 0 0,.slice none 0 0,.slice none 0 0,.int .i64 0,.int .i64 0,.int .i64 0] }
def nq:TI:={ ld:=some (true,12),ar:=some (12,1),ze:=some [.int .u16 0,.int .u16 0,.int .u16 0,.int .u16 0,.int .u16 0,.int .u16 0,.int .u16 0,.int .u16 0,.int .u16 0,.int .u16 0,.int .u16 0,.int .u16 0] }
def nr:TI:={ ld:=some (true,96),ar:=some (16,6),ze:=some [.int .i64 0,.int .i64 0,.int .i64 0,.int .i64 0,.int .i64 0,.int .i64 0,.int .i64 0,.int .i64 0,.int .i64 0,.int .i64 0,.int .i64 0,.int .i64 0,.int .i64 0,.int .i64 0,.int .i64 0,.int .i64 0,.int .i64 0,.int .i64 0,.int .i64 0,.int .i64 0,.int .i64 0,.int .i64 0,.int .i64 0,.int .i64 0,.int .i64 0,.int .i64 0,.int .i64 0,.int .i64 0,.int .i64 0,.int .i64 0,.int .i64 0,.int .i64 0,.int .i64 0,.int .i64 0,.int .i64 0,.int .i64 0,.int .i64 0,.int .i64 0,.int .i64 0,.int .i64 0,.int .i64 0,.int .i64 0,.int .i64 0,.int .i64 0,.int .i64 0,.int .i64 0,.int .i64 0,.int .i64 0,.int .i64 0,.int .i64 0,.int .i64 0,.int .i64 0,.int .i64 0,.int .i64 0,.int .i64 0,.int .i64 0,.int .i64 0,.int .i64 0,.int .i64 0,.int .i64 0,.int .i64 0,.int .i64 0,.int .i64 0,.int .i64 0,.int .i64 0,.int .i64 0,.int .i64 0,.int .i64 0,.int .i64 0,.int .i64 0,.int .i64 0,.int .i64 0,.int .i64 0,.int .i64 0,.int .i64 0,.int .i64 0,.int .i64 0,.int .i64 0,.int .i64 0,.int .i64 0,.int .i64 0,.int .i64 0,.int .i64 0,.int .i64 0,.int .i64 0,.int .i64 0,.int .i64 0,.int .i64 0,.int .i64 0,.int .i64 0,.int .i64 0,.int .i64 0,.int .i64 0,.int .i64 0,.int .i64 0,.int .i64 0] }
def pC:List (Nat×TI):=[(1,Bn),
(2,o4),
(3,o4),
(4,{ ld:=some (false,1),bo:=true,ze:=some [.bool false] }),
(5,{ ld:=some (false,1),ik:=some .u8,ze:=some [.int .u8 0] }),
(9,{ ld:=some (false,1),st:=true,ze:=some [.string ⟨#[]⟩] }),
(12,oq),
(13,{ ld:=some (true,2),fl:=[some (0,false,1),some (1,false,1)],ze:=some [.string ⟨#[]⟩,.int .u64 0] }),
(21,{ ld:=some (false,1),ik:=some .i32,ze:=some [.int .i32 0] }),
(22,{ ld:=some (false,1),sl:=some (5,1,1),ze:=some [.slice none 0 0] }),
(23,{ ld:=some (false,1),sl:=some (158,3,24),ze:=some [.slice none 0 0] }),
(24,nE),
(25,nE),
(26,{ ld:=some (false,1),sl:=some (53,1,24),ze:=some [.slice none 0 0] }),
(27,{ ld:=some (false,1),sl:=some (4,1,1),ze:=some [.slice none 0 0] }),
(28,ot),
(29,ot),
(31,Bn),
(33,Bn),
(34,o5),
(35,o5),
(36,Bn),
(37,Bn),
(38,Bn),
(39,Bn),
(40,Bn),
(41,o6),
(42,o6),
(43,o7),
(44,o7),
(45,{ ld:=some (false,1),sl:=some (9,1,16),ze:=some [.slice none 0 0] }),
(46,nF),
(47,nF),
(49,Bn),
(50,Bn),
(51,Bn),
(52,Bn),
(53,{ ld:=some (false,1),sl:=some (3,1,8),ze:=some [.slice none 0 0] }),
(54,Bn),
(55,Bn),
(56,ot),
(57,Bn),
(58,Bn),
(59,Bn),
(60,Bn),
(61,Bn),
(62,Bn),
(64,Bn),
(66,Bn),
(67,Bn),
(69,Bn),
(70,Bn),
(71,Bn),
(72,Bn),
(73,Bn),
(74,nt),
(75,Bn),
(76,Bn),
(77,Bn),
(78,Bn),
(79,Bn),
(81,Bn),
(82,Bn),
(83,Bn),
(84,Bn),
(85,Bn),
(86,Bn),
(87,Bn),
(88,Bn),
(89,ng),
(90,ng),
(92,Bn),
(93,Bn),
(94,Bn),
(95,Bn),
(96,Bn),
(97,Bn),
(98,Bn),
(99,Bn),
(100,Bn),
(102,Bn),
(103,Bn),
(104,Bn),
(105,Bn),
(106,Bn),
(107,{ ld:=some (false,1),sl:=some (109,6,48),ze:=some [.slice none 0 0] }),
(108,Bn),
(109,{ ld:=some (true,6),ar:=some (6,1),ze:=some [.int .i64 0,.int .i64 0,.int .i64 0,.int .i64 0,.int .i64 0,.int .i64 0] }),
(110,Bn),
(111,Bn),
(112,Bn),
(113,Bn),
(114,Bn),
(116,Bn),
(117,Bn),
(118,Bn),
(119,Bn),
(120,Bn),
(121,Bn),
(122,Bn),
(123,Bn),
(124,nt),
(125,Bn),
(126,Bn),
(127,nt),
(128,{ ld:=some (false,1),sl:=some (189,12,24),ze:=some [.slice none 0 0] }),
(129,lq),
(130,nh),
(131,nh),
(133,Bn),
(134,Bn),
(135,Bn),
(136,nj),
(137,nj),
(139,Bn),
(140,Bn),
(142,Bn),
(143,Bn),
(144,Bn),
(145,Bn),
(146,Bn),
(147,Bn),
(148,{ ld:=some (false,1),sl:=some (25,3,40),ze:=some [.slice none 0 0] }),
(149,Bn),
(150,Bn),
(152,Bn),
(153,Bn),
(154,Bn),
(155,Bn),
(156,Bn),
(157,nk),
(158,nk),
(159,Bn),
(160,Bn),
(161,Bn),
(162,Bn),
(163,Bn),
(164,lq),
(165,Bn),
(166,Bn),
(167,Bn),
(168,Bn),
(169,Bn),
(170,Bn),
(171,Bn),
(172,Bn),
(174,Bn),
(175,Bn),
(176,Bn),
(177,Bn),
(178,Bn),
(179,Bn),
(180,Bn),
(181,{ ld:=some (false,1),sl:=some (29,3,56),ze:=some [.slice none 0 0] }),
(182,nn),
(183,nn),
(184,Bn),
(185,Bn),
(186,Bn),
(187,{ ld:=some (false,1),ik:=some .u16,ze:=some [.int .u16 0] }),
(188,nq),
(189,nq),
(190,Bn),
(191,Bn),
(192,lq),
(194,Bn),
(195,Bn),
(196,Bn),
(197,Bn),
(198,Bn),
(199,Bn),
(200,Bn),
(202,Bn),
(203,Bn),
(204,{ ld:=some (false,1),sl:=some (45,1,24),ze:=some [.slice none 0 0] }),
(205,Bn),
(206,Bn),
(207,Bn),
(208,Bn),
(209,nt),
(210,Bn),
(211,Bn),
(212,Bn),
(213,Bn),
(214,Bn),
(215,Bn),
(216,{ ld:=some (false,1),sl:=some (218,3,40),ze:=some [.slice none 0 0] }),
(217,nE),
(218,nE),
(219,Bn),
(220,Bn),
(221,Bn),
(222,Bn),
(223,oq),
(224,Bn),
(225,Bn),
(226,Bn),
(227,Bn),
(228,Bn),
(229,{ ld:=some (false,1),sl:=some (26,1,24),ze:=some [.slice none 0 0] }),
(230,Bn),
(231,Bn),
(232,Bn),
(233,Bn),
(234,Bn),
(235,Bn),
(236,nr),
(237,nr),
(238,Bn),
(239,Bn),
(240,Bn),
(242,Bn),
(243,Bn),
(245,Bn),
(246,Bn),
(247,Bn),
(248,Bn),
(249,Bn),
(250,Bn),
(251,Bn),
(252,Bn),
(253,Bn),
(254,{ ld:=some (false,1),sl:=some (127,1,8),ze:=some [.slice none 0 0] }),
(255,nF),
(256,nF),
(257,Bn),
(258,Bn),
(259,Bn),
(260,Bn),
(261,Bn),
(262,Bn),
(263,Bn),
(264,Bn),
(265,Bn),
(266,Bn),
(267,Bn),
(268,Bn),
(269,Bn),
(270,Bn),
(271,{ ld:=some (true,24),ar:=some (24,1),ze:=some [.int .u8 0,.int .u8 0,.int .u8 0,.int .u8 0,.int .u8 0,.int .u8 0,.int .u8 0,.int .u8 0,.int .u8 0,.int .u8 0,.int .u8 0,.int .u8 0,.int .u8 0,.int .u8 0,.int .u8 0,.int .u8 0,.int .u8 0,.int .u8 0,.int .u8 0,.int .u8 0,.int .u8 0,.int .u8 0,.int .u8 0,.int .u8 0] }),
(272,oq),
(273,Bn),
(274,Bn),
(276,Bn),
(277,Bn),
(278,Bn),
(279,{ ld:=some (false,1),ik:=some .u32,ze:=some [.int .u32 0] }),
(280,Bn),
(281,{ ld:=some (true,20),ar:=some (20,1),ze:=some [.int .u64 0,.int .u64 0,.int .u64 0,.int .u64 0,.int .u64 0,.int .u64 0,.int .u64 0,.int .u64 0,.int .u64 0,.int .u64 0,.int .u64 0,.int .u64 0,.int .u64 0,.int .u64 0,.int .u64 0,.int .u64 0,.int .u64 0,.int .u64 0,.int .u64 0,.int .u64 0] }),
(282,{ ld:=some (true,65),ar:=some (65,1),ze:=some [.int .u8 0,.int .u8 0,.int .u8 0,.int .u8 0,.int .u8 0,.int .u8 0,.int .u8 0,.int .u8 0,.int .u8 0,.int .u8 0,.int .u8 0,.int .u8 0,.int .u8 0,.int .u8 0,.int .u8 0,.int .u8 0,.int .u8 0,.int .u8 0,.int .u8 0,.int .u8 0,.int .u8 0,.int .u8 0,.int .u8 0,.int .u8 0,.int .u8 0,.int .u8 0,.int .u8 0,.int .u8 0,.int .u8 0,.int .u8 0,.int .u8 0,.int .u8 0,.int .u8 0,.int .u8 0,.int .u8 0,.int .u8 0,.int .u8 0,.int .u8 0,.int .u8 0,.int .u8 0,.int .u8 0,.int .u8 0,.int .u8 0,.int .u8 0,.int .u8 0,.int .u8 0,.int .u8 0,.int .u8 0,.int .u8 0,.int .u8 0,.int .u8 0,.int .u8 0,.int .u8 0,.int .u8 0,.int .u8 0,.int .u8 0,.int .u8 0,.int .u8 0,.int .u8 0,.int .u8 0,.int .u8 0,.int .u8 0,.int .u8 0,.int .u8 0,.int .u8 0] }),
(285,Bn),
(294,nt),
(299,Bn)]
instance:Dj Tryz.prog:=⟨pC,YP (by kernel_rfl)⟩
def CI:List Value:=[.int .u8 0,.int .u8 1,.int .u8 28,.int .u8 2,.int .u8 29,.int .u8 14,.int .u8 24,.int .u8 3,.int .u8 30,.int .u8 22,.int .u8 20,.int .u8 15,.int .u8 25,.int .u8 17,.int .u8 4,.int .u8 8,.int .u8 31,.int .u8 27,.int .u8 13,.int .u8 23,.int .u8 21,.int .u8 19,.int .u8 16,.int .u8 7,.int .u8 26,.int .u8 12,.int .u8 18,.int .u8 6,.int .u8 11,.int .u8 5,.int .u8 10,.int .u8 9]
def BF:List Value:=[.int .u8 0,.int .u8 1,.int .u8 56,.int .u8 2,.int .u8 57,.int .u8 49,.int .u8 28,.int .u8 3,.int .u8 61,.int .u8 58,.int .u8 42,.int .u8 50,.int .u8 38,.int .u8 29,.int .u8 17,.int .u8 4,.int .u8 62,.int .u8 47,.int .u8 59,.int .u8 36,.int .u8 45,.int .u8 43,.int .u8 51,.int .u8 22,.int .u8 53,.int .u8 39,.int .u8 33,.int .u8 30,.int .u8 24,.int .u8 18,.int .u8 12,.int .u8 5,.int .u8 63,.int .u8 55,.int .u8 48,.int .u8 27,.int .u8 60,.int .u8 41,.int .u8 37,.int .u8 16,.int .u8 46,.int .u8 35,.int .u8 44,.int .u8 21,.int .u8 52,.int .u8 32,.int .u8 23,.int .u8 11,.int .u8 54,.int .u8 26,.int .u8 40,.int .u8 15,.int .u8 34,.int .u8 20,.int .u8 31,.int .u8 10,.int .u8 25,.int .u8 14,.int .u8 19,.int .u8 9,.int .u8 13,.int .u8 8,.int .u8 7,.int .u8 6]
def QB:List Value:=[.int .u64 1,.int .u64 10,.int .u64 100,.int .u64 1000,.int .u64 10000,.int .u64 100000,.int .u64 1000000,.int .u64 10000000,.int .u64 100000000,.int .u64 1000000000,.int .u64 10000000000,.int .u64 100000000000,.int .u64 1000000000000,.int .u64 10000000000000,.int .u64 100000000000000,.int .u64 1000000000000000,.int .u64 10000000000000000,.int .u64 100000000000000000,.int .u64 1000000000000000000,.int .u64 10000000000000000000]
class Dp (TB:BR):Prop where
 t1:MW TB 1 CI
 t2:MW TB 2 BF
instance {TB:BR}[h:Dp TB]:MW TB 2 BF:=h.t2
theorem mixed:Tryz.prog.follows .mixedOrders=true:=by kernel_rfl
theorem rE{TB:BR}{Z:Ctx}{N:Nat}{ops:Array Oper}{Q:Exit->Env->Ab->Nat->Prop}{id:Nat}{f:Env}{σ:Ab}{nx:Nat}(a:(Hv N ops && (Bx ops (Av (Gk []) 0 ops.size) (Array.replicate ops.size false) && Ny ops (Av (Gk []) 0 ops.size)))=true)
 (h:Lex Tryz.prog TB Z ops (Av (Gk []) 0 ops.size) (λf σ nx=>Q .normal f σ nx) f σ nx):Ak Tryz.prog TB Z N (.region id ops true) Q f σ nx:=by rw[d4]at a;exact m8 (Gk []) mixed a.1 a.2 h
theorem rG{TB:BR}{Z:Ctx}{N:Nat}{ops:Array Oper}{Q:Exit->Env->Ab->Nat->Prop}{id:Nat}{f:Env}{σ:Ab}{nx:Nat}(fl:Fl)(a:(Hv N ops && (Bx ops (Av fl 0 ops.size) (Array.replicate ops.size false) && Ny ops (Av fl 0 ops.size)))=true)
 (h:Lex Tryz.prog TB Z ops (Av fl 0 ops.size) (λf σ nx=>Q .normal f σ nx) f σ nx):Ak Tryz.prog TB Z N (.region id ops true) Q f σ nx:=by rw[d4]at a;exact m8 fl mixed a.1 a.2 h
end Go.Am
