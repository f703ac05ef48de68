/-
  The seat's types, as the rules ask for them.
-/
import Derived.Test.YtgpbfllcjdfelaaGreatDoorPart12
import Derived.Test.YtgpbfllcjdfelaaGreatDoorProg
set_option linter.all false
namespace Go.Am
open Go Go.Proofs
instance:DC Tryz.prog 3 false 1:=⟨by kernel_rfl⟩
instance:Jq Tryz.prog 3 .i64:=⟨by kernel_rfl⟩
instance:Po Tryz.prog 3 (.int .i64 0):=⟨by kernel_rfl⟩
instance:BJ Tryz.prog 3 [.int .i64 0]:=⟨by kernel_rfl⟩
instance:BJ Tryz.prog 4 [.bool false]:=⟨by kernel_rfl⟩
instance:BJ Tryz.prog 5 [.int .u8 0]:=⟨by kernel_rfl⟩
instance:DF Tryz.prog 9:=⟨by kernel_rfl⟩
instance:BJ Tryz.prog 9 [.string ⟨#[]⟩]:=⟨by kernel_rfl⟩
instance:Jq Tryz.prog 21 .i32:=⟨by kernel_rfl⟩
instance:Vn Tryz.prog 22:=⟨5,by kernel_rfl,by kernel_rfl⟩
instance:CL Tryz.prog 22 5 1 1:=⟨by kernel_rfl⟩
instance:CL Tryz.prog 23 158 3 24:=⟨by kernel_rfl⟩
instance:DC Tryz.prog 25 true 3:=⟨by kernel_rfl⟩
instance:BJ Tryz.prog 25 [.int .i64 0,.int .i64 0,.slice none 0 0]:=⟨by kernel_rfl⟩
instance:D0 Tryz.prog 25 [(0,1),(1,1),(2,1)]:=⟨by kernel_rfl⟩
instance:BJ Tryz.prog 26 [.slice none 0 0]:=⟨by kernel_rfl⟩
instance:CL Tryz.prog 26 53 1 24:=⟨by kernel_rfl⟩
instance:CL Tryz.prog 27 4 1 1:=⟨by kernel_rfl⟩
instance:DC Tryz.prog 29 true 3:=⟨by kernel_rfl⟩
instance:BJ Tryz.prog 29 [.int .i64 0,.slice none 0 0,.slice none 0 0]:=⟨by kernel_rfl⟩
instance:D0 Tryz.prog 29 [(0,1),(1,1),(2,1)]:=⟨by kernel_rfl⟩
instance:BJ Tryz.prog 35 [.int .i64 0,.int .i64 0,.slice none 0 0,.slice none 0 0,.string ⟨#[]⟩,.int .i64 0]:=⟨by kernel_rfl⟩
instance:D0 Tryz.prog 35 [(0,1),(1,3),(4,1),(5,1)]:=⟨by kernel_rfl⟩
instance:BJ Tryz.prog 42 [.int .i64 0,.int .i64 0,.slice none 0 0,.int .i64 0,.slice none 0 0,.slice none 0 0,.int .i64 0]:=⟨by kernel_rfl⟩
instance:D0 Tryz.prog 42 [(0,3),(3,3),(6,1)]:=⟨by kernel_rfl⟩
instance:BJ Tryz.prog 44 [.bool false,.int .i64 0,.slice none 0 0,.slice none 0 0,.int .i64 0,.int .i64 0,.slice none 0 0,.int .i64 0,.slice none 0 0,.slice none 0 0,.int .i64 0]:=⟨by kernel_rfl⟩
instance:D0 Tryz.prog 44 [(0,1),(1,3),(4,7)]:=⟨by kernel_rfl⟩
instance:CL Tryz.prog 45 9 1 16:=⟨by kernel_rfl⟩
instance:DC Tryz.prog 47 true 2:=⟨by kernel_rfl⟩
instance:BJ Tryz.prog 47 [.slice none 0 0,.slice none 0 0]:=⟨by kernel_rfl⟩
instance:D0 Tryz.prog 47 [(0,1),(1,1)]:=⟨by kernel_rfl⟩
instance:BJ Tryz.prog 53 [.slice none 0 0]:=⟨by kernel_rfl⟩
instance:CL Tryz.prog 53 3 1 8:=⟨by kernel_rfl⟩
instance:BJ Tryz.prog 90 [.int .i64 0,.nilFunc]:=⟨by kernel_rfl⟩
instance:D0 Tryz.prog 90 [(0,1),(1,1)]:=⟨by kernel_rfl⟩
instance:CL Tryz.prog 107 109 6 48:=⟨by kernel_rfl⟩
instance:BJ Tryz.prog 109 [.int .i64 0,.int .i64 0,.int .i64 0,.int .i64 0,.int .i64 0,.int .i64 0]:=⟨by kernel_rfl⟩
instance:D0 Tryz.prog 109 [(0,1),(1,1),(2,1),(3,1),(4,1),(5,1)]:=⟨by kernel_rfl⟩
instance:BJ Tryz.prog 127 [.pointer none]:=⟨by kernel_rfl⟩
instance:CL Tryz.prog 128 189 12 24:=⟨by kernel_rfl⟩
instance:JV Tryz.prog 129 189 3:=⟨by kernel_rfl⟩
instance:BJ Tryz.prog 131 [.int .i64 0,.int .i64 0,.slice none 0 0,.int .i64 0,.slice none 0 0,.slice none 0 0,.int .i64 0,.pointer none,.slice none 0 0,.slice none 0 0,.slice none 0 0,.map none,.slice none 0 0,.slice none 0 0]:=⟨by kernel_rfl⟩
instance:D0 Tryz.prog 131 [(0,7),(7,1),(8,1),(9,1),(10,1),(11,1),(12,1),(13,1)]:=⟨by kernel_rfl⟩
instance:BJ Tryz.prog 137 [.slice none 0 0,.int .i64 0]:=⟨by kernel_rfl⟩
instance:D0 Tryz.prog 137 [(0,1),(1,1)]:=⟨by kernel_rfl⟩
instance:BJ Tryz.prog 158 [.int .i64 0,.int .i64 0,.int .i64 0]:=⟨by kernel_rfl⟩
instance:D0 Tryz.prog 158 [(0,1),(1,1),(2,1)]:=⟨by kernel_rfl⟩
instance:JV Tryz.prog 164 9 3:=⟨by kernel_rfl⟩
instance:BJ Tryz.prog 183 [.slice none 0 0,.slice none 0 0,.slice none 0 0,.int .i64 0,.int .i64 0,.int .i64 0]:=⟨by kernel_rfl⟩
instance:D0 Tryz.prog 183 [(0,1),(1,1),(2,1),(3,1),(4,1),(5,1)]:=⟨by kernel_rfl⟩
instance:DC Tryz.prog 187 false 1:=⟨by kernel_rfl⟩
instance:Jq Tryz.prog 187 .u16:=⟨by kernel_rfl⟩
instance:BJ Tryz.prog 189 [.int .u16 0,.int .u16 0,.int .u16 0,.int .u16 0,.int .u16 0,.int .u16 0,.int .u16 0,.int .u16 0,.int .u16 0,.int .u16 0,.int .u16 0,.int .u16 0]:=⟨by kernel_rfl⟩
instance:D0 Tryz.prog 189 [(0,1),(1,1),(2,1),(3,1),(4,1),(5,1),(6,1),(7,1),(8,1),(9,1),(10,1),(11,1)]:=⟨by kernel_rfl⟩
instance:BJ Tryz.prog 216 [.slice none 0 0]:=⟨by kernel_rfl⟩
instance:CL Tryz.prog 216 218 3 40:=⟨by kernel_rfl⟩
instance:BJ Tryz.prog 218 [.int .i64 0,.int .i64 0,.slice none 0 0]:=⟨by kernel_rfl⟩
instance:D0 Tryz.prog 218 [(0,1),(1,1),(2,1)]:=⟨by kernel_rfl⟩
instance:CL Tryz.prog 229 26 1 24:=⟨by kernel_rfl⟩
instance:CL Tryz.prog 254 127 1 8:=⟨by kernel_rfl⟩
instance:DC Tryz.prog 256 true 2:=⟨by kernel_rfl⟩
instance:BJ Tryz.prog 256 [.slice none 0 0,.slice none 0 0]:=⟨by kernel_rfl⟩
instance:D0 Tryz.prog 256 [(0,1),(1,1)]:=⟨by kernel_rfl⟩
instance:Pn Tryz.prog 284 64 1:=⟨by kernel_rfl⟩
def A8:TI:={ ld:=some (false,1),ze:=some [.nilFunc] }
def kL:TI:={ ld:=some (false,1),ik:=some .i64,ze:=some [.int .i64 0] }
def kk:TI:={ ld:=some (false,1),ik:=some .u64,ze:=some [.int .u64 0] }
def jC:TI:={ ld:=some (true,3),fl:=[some (0,false,1),some (1,false,1),some (2,false,1)],ze:=some [.int .i64 0,.int .i64 0,.slice none 0 0] }
def kl:TI:={ ld:=some (true,3),fl:=[some (0,false,1),some (1,false,1),some (2,false,1)],ze:=some [.int .i64 0,.slice none 0 0,.slice none 0 0] }
def kM:TI:={ ld:=some (true,6),fl:=[some (0,false,1),some (1,true,3),some (4,false,1),some (5,false,1)],ze:=some [.int .i64 0,.int .i64 0,.slice none 0 0,.slice none 0 0,.string ⟨#[]⟩,.int .i64 0] }
def kN:TI:={ ld:=some (true,7),fl:=[some (0,true,3),some (3,true,3),some (6,false,1)],ze:=some [.int .i64 0,.int .i64 0,.slice none 0 0,.int .i64 0,.slice none 0 0,.slice none 0 0,.int .i64 0] }
def kO:TI:={ ld:=some (true,11),fl:=[some (0,false,1),some (1,true,3),some (4,true,7)],ze:=some [.bool false,.int .i64 0,.slice none 0 0,.slice none 0 0,.int .i64 0,.int .i64 0,.slice none 0 0,.int .i64 0,.slice none 0 0,.slice none 0 0,.int .i64 0] }
def jD:TI:={ ld:=some (true,2),fl:=[some (0,false,1),some (1,false,1)],ze:=some [.slice none 0 0,.slice none 0 0] }
def jr:TI:={ ld:=some (false,1),pt:=true,ze:=some [.pointer none] }
def jj:TI:={ ld:=some (true,2),fl:=[some (0,false,1),some (1,false,1)],ze:=some [.int .i64 0,.nilFunc] }
def gn:TI:={ ld:=some (false,1),ze:=some [.map none] }
def jk:TI:={ ld:=some (true,14),fl:=[some (0,true,7),some (7,false,1),some (8,false,1),some (9,false,1),some (10,false,1),some (11,false,1),some (12,false,1),some (13,false,1)],ze:=some [.int .i64 0,.int .i64 0,.slice none 0 0,.int .i64 0,.slice none 0 0,.slice none 0 0,.int .i64 0,.pointer none,.slice none 0 0,.slice none 0 0,.slice none 0 0,.map none,.slice none 0 0,.slice none 0 0] }
def jl:TI:={ ld:=some (true,2),fl:=[some (0,false,1),some (1,false,1)],ze:=some [.slice none 0 0,.int .i64 0] }
def jm:TI:={ ld:=some (true,3),fl:=[some (0,false,1),some (1,false,1),some (2,false,1)],ze:=some [.int .i64 0,.int .i64 0,.int .i64 0] }
def jn:TI:={ ld:=some (true,6),fl:=[some (0,false,1),some (1,false,1),some (2,false,1),some (3,false,1),some (4,false,1),some (5,false,1)],ze:=some [.slice none 0 0,.slice none 0 0,.slice none 0 0,.int .i64 0,.int .i64 0,.int .i64 0] }
def jo:TI:={ ld:=some (true,12),ar:=some (12,1),ze:=some [.int .u16 0,.int .u16 0,.int .u16 0,.int .u16 0,.int .u16 0,.int .u16 0,.int .u16 0,.int .u16 0,.int .u16 0,.int .u16 0,.int .u16 0,.int .u16 0] }
def jq:TI:={ ld:=some (true,96),ar:=some (16,6),ze:=some [.int .i64 0,.int .i64 0,.int .i64 0,.int .i64 0,.int .i64 0,.int .i64 0,.int .i64 0,.int .i64 0,.int .i64 0,.int .i64 0,.int .i64 0,.int .i64 0,.int .i64 0,.int .i64 0,.int .i64 0,.int .i64 0,.int .i64 0,.int .i64 0,.int .i64 0,.int .i64 0,.int .i64 0,.int .i64 0,.int .i64 0,.int .i64 0,.int .i64 0,.int .i64 0,.int .i64 0,.int .i64 0,.int .i64 0,.int .i64 0,.int .i64 0,.int .i64 0,.int .i64 0,.int .i64 0,.int .i64 0,.int .i64 0,.int .i64 0,.int .i64 0,.int .i64 0,.int .i64 0,.int .i64 0,.int .i64 0,.int .i64 0,.int .i64 0,.int .i64 0,.int .i64 0,.int .i64 0,.int .i64 0,.int .i64 0,.int .i64 0,.int .i64 0,.int .i64 0,.int .i64 0,.int .i64 0,.int .i64 0,.int .i64 0,.int .i64 0,.int .i64 0,.int .i64 0,.int .i64 0,.int .i64 0,.int .i64 0,.int .i64 0,.int .i64 0,.int .i64 0,.int .i64 0,.int .i64 0,.int .i64 0,.int .i64 0,.int .i64 0,.int .i64 0,.int .i64 0,.int .i64 0,.int .i64 0,.int .i64 0,.int .i64 0,.int .i64 0,.int .i64 0,.int .i64 0,.int .i64 0,.int .i64 0,.int .i64 0,.int .i64 0,.int .i64 0,.int .i64 0,.int .i64 0,.int .i64 0,.int .i64 0,.int .i64 0,.int .i64 0,.int .i64 0,.int .i64 0,.int .i64 0,.int .i64 0,.int .i64 0,.int .i64 0] }
def lr:List (Nat×TI):=[(1,A8),
(2,kL),
(3,kL),
(4,{ ld:=some (false,1),bo:=true,ze:=some [.bool false] }),
(5,{ ld:=some (false,1),ik:=some .u8,ze:=some [.int .u8 0] }),
(9,{ ld:=some (false,1),st:=true,ze:=some [.string ⟨#[]⟩] }),
(12,kk),
(13,{ ld:=some (true,2),fl:=[some (0,false,1),some (1,false,1)],ze:=some [.string ⟨#[]⟩,.int .u64 0] }),
(21,{ ld:=some (false,1),ik:=some .i32,ze:=some [.int .i32 0] }),
(22,{ ld:=some (false,1),sl:=some (5,1,1),ze:=some [.slice none 0 0] }),
(23,{ ld:=some (false,1),sl:=some (158,3,24),ze:=some [.slice none 0 0] }),
(24,jC),
(25,jC),
(26,{ ld:=some (false,1),sl:=some (53,1,24),ze:=some [.slice none 0 0] }),
(27,{ ld:=some (false,1),sl:=some (4,1,1),ze:=some [.slice none 0 0] }),
(28,kl),
(29,kl),
(31,A8),
(33,A8),
(34,kM),
(35,kM),
(36,A8),
(37,A8),
(38,A8),
(39,A8),
(40,A8),
(41,kN),
(42,kN),
(43,kO),
(44,kO),
(45,{ ld:=some (false,1),sl:=some (9,1,16),ze:=some [.slice none 0 0] }),
(46,jD),
(47,jD),
(49,A8),
(50,A8),
(51,A8),
(52,A8),
(53,{ ld:=some (false,1),sl:=some (3,1,8),ze:=some [.slice none 0 0] }),
(54,A8),
(55,A8),
(56,kl),
(57,A8),
(58,A8),
(59,A8),
(60,A8),
(61,A8),
(62,A8),
(64,A8),
(66,A8),
(67,A8),
(69,A8),
(70,A8),
(71,A8),
(72,A8),
(73,A8),
(74,jr),
(75,A8),
(76,A8),
(77,A8),
(78,A8),
(79,A8),
(81,A8),
(82,A8),
(83,A8),
(84,A8),
(85,A8),
(86,A8),
(87,A8),
(88,A8),
(89,jj),
(90,jj),
(92,A8),
(93,A8),
(94,A8),
(95,A8),
(96,A8),
(97,A8),
(98,A8),
(99,A8),
(100,A8),
(102,A8),
(103,A8),
(104,A8),
(105,A8),
(106,A8),
(107,{ ld:=some (false,1),sl:=some (109,6,48),ze:=some [.slice none 0 0] }),
(108,A8),
(109,{ ld:=some (true,6),ar:=some (6,1),ze:=some [.int .i64 0,.int .i64 0,.int .i64 0,.int .i64 0,.int .i64 0,.int .i64 0] }),
(110,A8),
(111,A8),
(112,A8),
(113,A8),
(114,A8),
(116,A8),
(117,A8),
(118,A8),
(119,A8),
(120,A8),
(121,A8),
(122,A8),
(123,A8),
(124,jr),
(125,A8),
(126,A8),
(127,jr),
(128,{ ld:=some (false,1),sl:=some (189,12,24),ze:=some [.slice none 0 0] }),
(129,gn),
(130,jk),
(131,jk),
(133,A8),
(134,A8),
(135,A8),
(136,jl),
(137,jl),
(139,A8),
(140,A8),
(142,A8),
(143,A8),
(144,A8),
(145,A8),
(146,A8),
(147,A8),
(148,{ ld:=some (false,1),sl:=some (25,3,40),ze:=some [.slice none 0 0] }),
(149,A8),
(150,A8),
(152,A8),
(153,A8),
(154,A8),
(155,A8),
(156,A8),
(157,jm),
(158,jm),
(159,A8),
(160,A8),
(161,A8),
(162,A8),
(163,A8),
(164,gn),
(165,A8),
(166,A8),
(167,A8),
(168,A8),
(169,A8),
(170,A8),
(171,A8),
(172,A8),
(174,A8),
(175,A8),
(176,A8),
(177,A8),
(178,A8),
(179,A8),
(180,A8),
(181,{ ld:=some (false,1),sl:=some (29,3,56),ze:=some [.slice none 0 0] }),
(182,jn),
(183,jn),
(184,A8),
(185,A8),
(186,A8),
(187,{ ld:=some (false,1),ik:=some .u16,ze:=some [.int .u16 0] }),
(188,jo),
(189,jo),
(190,A8),
(191,A8),
(192,gn),
(194,A8),
(195,A8),
(196,A8),
(197,A8),
(198,A8),
(199,A8),
(200,A8),
(202,A8),
(203,A8),
(204,{ ld:=some (false,1),sl:=some (45,1,24),ze:=some [.slice none 0 0] }),
(205,A8),
(206,A8),
(207,A8),
(208,A8),
(209,jr),
(210,A8),
(211,A8),
(212,A8),
(213,A8),
(214,A8),
(215,A8),
(216,{ ld:=some (false,1),sl:=some (218,3,40),ze:=some [.slice none 0 0] }),
(217,jC),
(218,jC),
(219,A8),
(220,A8),
(221,A8),
(222,A8),
(223,kk),
(224,A8),
(225,A8),
(226,A8),
(227,A8),
(228,A8),
(229,{ ld:=some (false,1),sl:=some (26,1,24),ze:=some [.slice none 0 0] }),
(230,A8),
(231,A8),
(232,A8),
(233,A8),
(234,A8),
(235,A8),
(236,jq),
(237,jq),
(238,A8),
(239,A8),
(240,A8),
(242,A8),
(243,A8),
(245,A8),
(246,A8),
(247,A8),
(248,A8),
(249,A8),
(250,A8),
(251,A8),
(252,A8),
(253,A8),
(254,{ ld:=some (false,1),sl:=some (127,1,8),ze:=some [.slice none 0 0] }),
(255,jD),
(256,jD),
(257,A8),
(258,A8),
(259,A8),
(260,A8),
(261,A8),
(262,A8),
(263,A8),
(264,A8),
(265,A8),
(266,A8),
(267,A8),
(268,A8),
(269,A8),
(270,A8),
(271,{ ld:=some (true,24),ar:=some (24,1),ze:=some [.int .u8 0,.int .u8 0,.int .u8 0,.int .u8 0,.int .u8 0,.int .u8 0,.int .u8 0,.int .u8 0,.int .u8 0,.int .u8 0,.int .u8 0,.int .u8 0,.int .u8 0,.int .u8 0,.int .u8 0,.int .u8 0,.int .u8 0,.int .u8 0,.int .u8 0,.int .u8 0,.int .u8 0,.int .u8 0,.int .u8 0,.int .u8 0] }),
(272,kk),
(273,A8),
(274,A8),
(276,A8),
(277,A8),
(278,A8),
(279,{ ld:=some (false,1),ik:=some .u32,ze:=some [.int .u32 0] }),
(280,A8),
(281,{ ld:=some (true,20),ar:=some (20,1),ze:=some [.int .u64 0,.int .u64 0,.int .u64 0,.int .u64 0,.int .u64 0,.int .u64 0,.int .u64 0,.int .u64 0,.int .u64 0,.int .u64 0,.int .u64 0,.int .u64 0,.int .u64 0,.int .u64 0,.int .u64 0,.int .u64 0,.int .u64 0,.int .u64 0,.int .u64 0,.int .u64 0] }),
(282,{ ld:=some (true,65),ar:=some (65,1),ze:=some [.int .u8 0,.int .u8 0,.int .u8 0,.int .u8 0,.int .u8 0,.int .u8 0,.int .u8 0,.int .u8 0,.int .u8 0,.int .u8 0,.int .u8 0,.int .u8 0,.int .u8 0,.int .u8 0,.int .u8 0,.int .u8 0,.int .u8 0,.int .u8 0,.int .u8 0,.int .u8 0,.int .u8 0,.int .u8 0,.int .u8 0,.int .u8 0,.int .u8 0,.int .u8 0,.int .u8 0,.int .u8 0,.int .u8 0,.int .u8 0,.int .u8 0,.int .u8 0,.int .u8 0,.int .u8 0,.int .u8 0,.int .u8 0,.int .u8 0,.int .u8 0,.int .u8 0,.int .u8 0,.int .u8 0,.int .u8 0,.int .u8 0,.int .u8 0,.int .u8 0,.int .u8 0,.int .u8 0,.int .u8 0,.int .u8 0,.int .u8 0,.int .u8 0,.int .u8 0,.int .u8 0,.int .u8 0,.int .u8 0,.int .u8 0,.int .u8 0,.int .u8 0,.int .u8 0,.int .u8 0,.int .u8 0,.int .u8 0,.int .u8 0,.int .u8 0,.int .u8 0] }),
(285,A8),
(294,jr),
(299,A8)]
instance:CX Tryz.prog:=⟨lr,Vu (by kernel_rfl)⟩
def Cr:List Value:=[.int .u8 0,.int .u8 1,.int .u8 28,.int .u8 2,.int .u8 29,.int .u8 14,.int .u8 24,.int .u8 3,.int .u8 30,.int .u8 22,.int .u8 20,.int .u8 15,.int .u8 25,.int .u8 17,.int .u8 4,.int .u8 8,.int .u8 31,.int .u8 27,.int .u8 13,.int .u8 23,.int .u8 21,.int .u8 19,.int .u8 16,.int .u8 7,.int .u8 26,.int .u8 12,.int .u8 18,.int .u8 6,.int .u8 11,.int .u8 5,.int .u8 10,.int .u8 9]
def Bt:List Value:=[.int .u8 0,.int .u8 1,.int .u8 56,.int .u8 2,.int .u8 57,.int .u8 49,.int .u8 28,.int .u8 3,.int .u8 61,.int .u8 58,.int .u8 42,.int .u8 50,.int .u8 38,.int .u8 29,.int .u8 17,.int .u8 4,.int .u8 62,.int .u8 47,.int .u8 59,.int .u8 36,.int .u8 45,.int .u8 43,.int .u8 51,.int .u8 22,.int .u8 53,.int .u8 39,.int .u8 33,.int .u8 30,.int .u8 24,.int .u8 18,.int .u8 12,.int .u8 5,.int .u8 63,.int .u8 55,.int .u8 48,.int .u8 27,.int .u8 60,.int .u8 41,.int .u8 37,.int .u8 16,.int .u8 46,.int .u8 35,.int .u8 44,.int .u8 21,.int .u8 52,.int .u8 32,.int .u8 23,.int .u8 11,.int .u8 54,.int .u8 26,.int .u8 40,.int .u8 15,.int .u8 34,.int .u8 20,.int .u8 31,.int .u8 10,.int .u8 25,.int .u8 14,.int .u8 19,.int .u8 9,.int .u8 13,.int .u8 8,.int .u8 7,.int .u8 6]
def OJ:List Value:=[.int .u64 1,.int .u64 10,.int .u64 100,.int .u64 1000,.int .u64 10000,.int .u64 100000,.int .u64 1000000,.int .u64 10000000,.int .u64 100000000,.int .u64 1000000000,.int .u64 10000000000,.int .u64 100000000000,.int .u64 1000000000000,.int .u64 10000000000000,.int .u64 100000000000000,.int .u64 1000000000000000,.int .u64 10000000000000000,.int .u64 100000000000000000,.int .u64 1000000000000000000,.int .u64 10000000000000000000]
class Dx (TB:Bp):Prop where
 t1:Li TB 1 Cr
 t2:Li TB 2 Bt
instance {TB:Bp}[h:Dx TB]:Li TB 2 Bt:=h.t2
theorem mixed:Tryz.prog.follows .mixedOrders=true:=by kernel_rfl
theorem rE{TB:Bp}{Z:Ctx}{N:Nat}{ops:Array Oper}{Q:Exit->Env->Ab->Nat->Prop}{id:Nat}{f:Env}{σ:Ab}{nx:Nat}(a:(Gs N ops && (Bk ops (Al (HQ []) 0 ops.size) (Array.replicate ops.size false) && LM ops (Al (HQ []) 0 ops.size)))=true)
 (h:Lex Tryz.prog TB Z ops (Al (HQ []) 0 ops.size) (λf σ nx=>Q .normal f σ nx) f σ nx):Aj Tryz.prog TB Z N (.region id ops true) Q f σ nx:=by rw [d4] at a;exact je (HQ []) mixed a.1 a.2 h
theorem rG{TB:Bp}{Z:Ctx}{N:Nat}{ops:Array Oper}{Q:Exit->Env->Ab->Nat->Prop}{id:Nat}{f:Env}{σ:Ab}{nx:Nat}(fl:Fl)(a:(Gs N ops && (Bk ops (Al fl 0 ops.size) (Array.replicate ops.size false) && LM ops (Al fl 0 ops.size)))=true)
 (h:Lex Tryz.prog TB Z ops (Al fl 0 ops.size) (λf σ nx=>Q .normal f σ nx) f σ nx):Aj Tryz.prog TB Z N (.region id ops true) Q f σ nx:=by rw [d4] at a;exact je fl mixed a.1 a.2 h
end Go.Am
