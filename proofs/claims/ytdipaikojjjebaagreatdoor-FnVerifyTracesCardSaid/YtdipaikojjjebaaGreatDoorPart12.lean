/-
  The seat's types, as the rules ask for them.
-/
import Derived.Test.YtdipaikojjjebaaGreatDoorPart10
import Derived.Test.YtdipaikojjjebaaGreatDoorProg
set_option linter.all false
namespace Go.Am
open Go Go.Proofs
instance:DB Tryz.prog 3 false 1:=⟨by kernel_rfl⟩
instance:Ji Tryz.prog 3 .i64:=⟨by kernel_rfl⟩
instance:Pn Tryz.prog 3 (.int .i64 0):=⟨by kernel_rfl⟩
instance:BM Tryz.prog 3 [.int .i64 0]:=⟨by kernel_rfl⟩
instance:BM Tryz.prog 4 [.bool false]:=⟨by kernel_rfl⟩
instance:BM Tryz.prog 5 [.int .u8 0]:=⟨by kernel_rfl⟩
instance:DE Tryz.prog 9:=⟨by kernel_rfl⟩
instance:BM Tryz.prog 9 [.string ⟨#[]⟩]:=⟨by kernel_rfl⟩
instance:Ji Tryz.prog 21 .i32:=⟨by kernel_rfl⟩
instance:UW Tryz.prog 22:=⟨5,by kernel_rfl,by kernel_rfl⟩
instance:CM Tryz.prog 22 5 1 1:=⟨by kernel_rfl⟩
instance:CM Tryz.prog 23 78 3 24:=⟨by kernel_rfl⟩
instance:DB Tryz.prog 25 true 3:=⟨by kernel_rfl⟩
instance:BM Tryz.prog 25 [.int .i64 0,.int .i64 0,.slice none 0 0]:=⟨by kernel_rfl⟩
instance:Eg Tryz.prog 25 [(0,1),(1,1),(2,1)]:=⟨by kernel_rfl⟩
instance:CM Tryz.prog 26 63 1 24:=⟨by kernel_rfl⟩
instance:CM Tryz.prog 27 4 1 1:=⟨by kernel_rfl⟩
instance:DB Tryz.prog 29 true 3:=⟨by kernel_rfl⟩
instance:BM Tryz.prog 29 [.int .i64 0,.slice none 0 0,.slice none 0 0]:=⟨by kernel_rfl⟩
instance:Eg Tryz.prog 29 [(0,1),(1,1),(2,1)]:=⟨by kernel_rfl⟩
instance:BM Tryz.prog 33 [.int .i64 0,.int .i64 0,.slice none 0 0,.slice none 0 0,.string ⟨#[]⟩,.int .i64 0]:=⟨by kernel_rfl⟩
instance:Eg Tryz.prog 33 [(0,1),(1,3),(4,1),(5,1)]:=⟨by kernel_rfl⟩
instance:BM Tryz.prog 49 [.int .i64 0,.int .i64 0,.slice none 0 0,.int .i64 0,.slice none 0 0,.slice none 0 0,.int .i64 0]:=⟨by kernel_rfl⟩
instance:Eg Tryz.prog 49 [(0,3),(3,3),(6,1)]:=⟨by kernel_rfl⟩
instance:BM Tryz.prog 63 [.slice none 0 0]:=⟨by kernel_rfl⟩
instance:CM Tryz.prog 63 3 1 8:=⟨by kernel_rfl⟩
instance:BM Tryz.prog 78 [.int .i64 0,.int .i64 0,.int .i64 0]:=⟨by kernel_rfl⟩
instance:Eg Tryz.prog 78 [(0,1),(1,1),(2,1)]:=⟨by kernel_rfl⟩
instance:BM Tryz.prog 84 [.pointer none]:=⟨by kernel_rfl⟩
instance:CM Tryz.prog 85 94 6 48:=⟨by kernel_rfl⟩
instance:CM Tryz.prog 86 150 12 24:=⟨by kernel_rfl⟩
instance:JJ Tryz.prog 87 150 3:=⟨by kernel_rfl⟩
instance:BM Tryz.prog 89 [.int .i64 0,.int .i64 0,.slice none 0 0,.int .i64 0,.slice none 0 0,.slice none 0 0,.int .i64 0,.pointer none,.slice none 0 0,.slice none 0 0,.slice none 0 0,.map none,.slice none 0 0,.slice none 0 0]:=⟨by kernel_rfl⟩
instance:Eg Tryz.prog 89 [(0,7),(7,1),(8,1),(9,1),(10,1),(11,1),(12,1),(13,1)]:=⟨by kernel_rfl⟩
instance:BM Tryz.prog 94 [.int .i64 0,.int .i64 0,.int .i64 0,.int .i64 0,.int .i64 0,.int .i64 0]:=⟨by kernel_rfl⟩
instance:Eg Tryz.prog 94 [(0,1),(1,1),(2,1),(3,1),(4,1),(5,1)]:=⟨by kernel_rfl⟩
instance:BM Tryz.prog 98 [.slice none 0 0,.int .i64 0]:=⟨by kernel_rfl⟩
instance:Eg Tryz.prog 98 [(0,1),(1,1)]:=⟨by kernel_rfl⟩
instance:BM Tryz.prog 102 [.int .i64 0,.nilFunc]:=⟨by kernel_rfl⟩
instance:Eg Tryz.prog 102 [(0,1),(1,1)]:=⟨by kernel_rfl⟩
instance:BM Tryz.prog 106 [.bool false,.int .i64 0,.slice none 0 0,.slice none 0 0,.int .i64 0,.int .i64 0,.slice none 0 0,.int .i64 0,.slice none 0 0,.slice none 0 0,.int .i64 0]:=⟨by kernel_rfl⟩
instance:Eg Tryz.prog 106 [(0,1),(1,3),(4,7)]:=⟨by kernel_rfl⟩
instance:CM Tryz.prog 107 9 1 16:=⟨by kernel_rfl⟩
instance:DB Tryz.prog 109 true 2:=⟨by kernel_rfl⟩
instance:BM Tryz.prog 109 [.slice none 0 0,.slice none 0 0]:=⟨by kernel_rfl⟩
instance:Eg Tryz.prog 109 [(0,1),(1,1)]:=⟨by kernel_rfl⟩
instance:BM Tryz.prog 136 [.int .i64 0,.int .i64 0]:=⟨by kernel_rfl⟩
instance:Eg Tryz.prog 136 [(0,1),(1,1)]:=⟨by kernel_rfl⟩
instance:CM Tryz.prog 137 136 2 16:=⟨by kernel_rfl⟩
instance:DB Tryz.prog 148 false 1:=⟨by kernel_rfl⟩
instance:Ji Tryz.prog 148 .u16:=⟨by kernel_rfl⟩
instance:BM Tryz.prog 150 [.int .u16 0,.int .u16 0,.int .u16 0,.int .u16 0,.int .u16 0,.int .u16 0,.int .u16 0,.int .u16 0,.int .u16 0,.int .u16 0,.int .u16 0,.int .u16 0]:=⟨by kernel_rfl⟩
instance:Eg Tryz.prog 150 [(0,1),(1,1),(2,1),(3,1),(4,1),(5,1),(6,1),(7,1),(8,1),(9,1),(10,1),(11,1)]:=⟨by kernel_rfl⟩
instance:JJ Tryz.prog 167 9 3:=⟨by kernel_rfl⟩
instance:BM Tryz.prog 191 [.slice none 0 0]:=⟨by kernel_rfl⟩
instance:CM Tryz.prog 191 193 3 40:=⟨by kernel_rfl⟩
instance:BM Tryz.prog 193 [.int .i64 0,.int .i64 0,.slice none 0 0]:=⟨by kernel_rfl⟩
instance:Eg Tryz.prog 193 [(0,1),(1,1),(2,1)]:=⟨by kernel_rfl⟩
instance:CM Tryz.prog 199 84 1 8:=⟨by kernel_rfl⟩
instance:DB Tryz.prog 201 true 2:=⟨by kernel_rfl⟩
instance:BM Tryz.prog 201 [.slice none 0 0,.slice none 0 0]:=⟨by kernel_rfl⟩
instance:Eg Tryz.prog 201 [(0,1),(1,1)]:=⟨by kernel_rfl⟩
instance:Pm Tryz.prog 246 64 1:=⟨by kernel_rfl⟩
def Bj:TI:={ ld:=some (false,1),ze:=some [.nilFunc] }
def kR:TI:={ ld:=some (false,1),ik:=some .i64,ze:=some [.int .i64 0] }
def ko:TI:={ ld:=some (false,1),ik:=some .u64,ze:=some [.int .u64 0] }
def jG:TI:={ ld:=some (true,3),fl:=[some (0,false,1),some (1,false,1),some (2,false,1)],ze:=some [.int .i64 0,.int .i64 0,.slice none 0 0] }
def kS:TI:={ ld:=some (true,3),fl:=[some (0,false,1),some (1,false,1),some (2,false,1)],ze:=some [.int .i64 0,.slice none 0 0,.slice none 0 0] }
def kT:TI:={ ld:=some (true,6),fl:=[some (0,false,1),some (1,true,3),some (4,false,1),some (5,false,1)],ze:=some [.int .i64 0,.int .i64 0,.slice none 0 0,.slice none 0 0,.string ⟨#[]⟩,.int .i64 0] }
def kU:TI:={ ld:=some (true,7),fl:=[some (0,true,3),some (3,true,3),some (6,false,1)],ze:=some [.int .i64 0,.int .i64 0,.slice none 0 0,.int .i64 0,.slice none 0 0,.slice none 0 0,.int .i64 0] }
def js:TI:={ ld:=some (false,1),pt:=true,ze:=some [.pointer none] }
def kV:TI:={ ld:=some (true,3),fl:=[some (0,false,1),some (1,false,1),some (2,false,1)],ze:=some [.int .i64 0,.int .i64 0,.int .i64 0] }
def kq:TI:={ ld:=some (false,1),ze:=some [.map none] }
def jj:TI:={ ld:=some (true,14),fl:=[some (0,true,7),some (7,false,1),some (8,false,1),some (9,false,1),some (10,false,1),some (11,false,1),some (12,false,1),some (13,false,1)],ze:=some [.int .i64 0,.int .i64 0,.slice none 0 0,.int .i64 0,.slice none 0 0,.slice none 0 0,.int .i64 0,.pointer none,.slice none 0 0,.slice none 0 0,.slice none 0 0,.map none,.slice none 0 0,.slice none 0 0] }
def jk:TI:={ ld:=some (true,2),fl:=[some (0,false,1),some (1,false,1)],ze:=some [.slice none 0 0,.int .i64 0] }
def jl:TI:={ ld:=some (true,2),fl:=[some (0,false,1),some (1,false,1)],ze:=some [.int .i64 0,.nilFunc] }
def jm:TI:={ ld:=some (true,11),fl:=[some (0,false,1),some (1,true,3),some (4,true,7)],ze:=some [.bool false,.int .i64 0,.slice none 0 0,.slice none 0 0,.int .i64 0,.int .i64 0,.slice none 0 0,.int .i64 0,.slice none 0 0,.slice none 0 0,.int .i64 0] }
def dB:TI:={ ld:=some (true,2),fl:=[some (0,false,1),some (1,false,1)],ze:=some [.slice none 0 0,.slice none 0 0] }
def jn:TI:={ ld:=some (true,2),fl:=[some (0,false,1),some (1,false,1)],ze:=some [.int .i64 0,.int .i64 0] }
def jo:TI:={ ld:=some (true,12),ar:=some (12,1),ze:=some [.int .u16 0,.int .u16 0,.int .u16 0,.int .u16 0,.int .u16 0,.int .u16 0,.int .u16 0,.int .u16 0,.int .u16 0,.int .u16 0,.int .u16 0,.int .u16 0] }
def jq:TI:={ ld:=some (true,6),fl:=[some (0,false,1),some (1,false,1),some (2,false,1),some (3,false,1),some (4,false,1),some (5,false,1)],ze:=some [.slice none 0 0,.slice none 0 0,.slice none 0 0,.int .i64 0,.int .i64 0,.int .i64 0] }
def jr:TI:={ ld:=some (true,96),ar:=some (16,6),ze:=some [.int .i64 0,.int .i64 0,.int .i64 0,.int .i64 0,.int .i64 0,.int .i64 0,.int .i64 0,.int .i64 0,.int .i64 0,.int .i64 0,.int .i64 0,.int .i64 0,.int .i64 0,.int .i64 0,.int .i64 0,.int .i64 0,.int .i64 0,.int .i64 0,.int .i64 0,.int .i64 0,.int .i64 0,.int .i64 0,.int .i64 0,.int .i64 0,.int .i64 0,.int .i64 0,.int .i64 0,.int .i64 0,.int .i64 0,.int .i64 0,.int .i64 0,.int .i64 0,.int .i64 0,.int .i64 0,.int .i64 0,.int .i64 0,.int .i64 0,.int .i64 0,.int .i64 0,.int .i64 0,.int .i64 0,.int .i64 0,.int .i64 0,.int .i64 0,.int .i64 0,.int .i64 0,.int .i64 0,.int .i64 0,.int .i64 0,.int .i64 0,.int .i64 0,.int .i64 0,.int .i64 0,.int .i64 0,.int .i64 0,.int .i64 0,.int .i64 0,.int .i64 0,.int .i64 0,.int .i64 0,.int .i64 0,.int .i64 0,.int .i64 0,.int .i64 0,.int .i64 0,.int .i64 0,.int .i64 0,.int .i64 0,.int .i64 0,.int .i64 0,.int .i64 0,.int .i64 0,.int .i64 0,.int .i64 0,.int .i64 0,.int .i64 0,.int .i64 0,.int .i64 0,.int .i64 0,.int .i64 0,.int .i64 0,.int .i64 0,.int .i64 0,.int .i64 0,.int .i64 0,.int .i64 0,.int .i64 0,.int .i64 0,.int .i64 0,.int .i64 0,.int .i64 0,.int .i64 0,.int .i64 0,.int .i64 0,.int .i64 0,.int .i64 0] }
def lz:List (Nat×TI):=[(1,Bj),
(2,kR),
(3,kR),
(4,{ ld:=some (false,1),bo:=true,ze:=some [.bool false] }),
(5,{ ld:=some (false,1),ik:=some .u8,ze:=some [.int .u8 0] }),
(9,{ ld:=some (false,1),st:=true,ze:=some [.string ⟨#[]⟩] }),
(12,ko),
(13,{ ld:=some (true,2),fl:=[some (0,false,1),some (1,false,1)],ze:=some [.string ⟨#[]⟩,.int .u64 0] }),
(21,{ ld:=some (false,1),ik:=some .i32,ze:=some [.int .i32 0] }),
(22,{ ld:=some (false,1),sl:=some (5,1,1),ze:=some [.slice none 0 0] }),
(23,{ ld:=some (false,1),sl:=some (78,3,24),ze:=some [.slice none 0 0] }),
(24,jG),
(25,jG),
(26,{ ld:=some (false,1),sl:=some (63,1,24),ze:=some [.slice none 0 0] }),
(27,{ ld:=some (false,1),sl:=some (4,1,1),ze:=some [.slice none 0 0] }),
(28,kS),
(29,kS),
(31,Bj),
(32,kT),
(33,kT),
(34,Bj),
(35,Bj),
(37,Bj),
(38,Bj),
(40,Bj),
(41,Bj),
(42,Bj),
(43,Bj),
(44,Bj),
(45,{ ld:=some (false,1),sl:=some (25,3,40),ze:=some [.slice none 0 0] }),
(47,Bj),
(48,kU),
(49,kU),
(51,Bj),
(52,Bj),
(53,Bj),
(54,Bj),
(55,js),
(56,Bj),
(57,Bj),
(58,Bj),
(60,Bj),
(61,Bj),
(62,Bj),
(63,{ ld:=some (false,1),sl:=some (3,1,8),ze:=some [.slice none 0 0] }),
(64,Bj),
(66,Bj),
(67,Bj),
(68,Bj),
(69,Bj),
(70,Bj),
(71,Bj),
(72,Bj),
(73,Bj),
(74,Bj),
(75,Bj),
(76,Bj),
(77,kV),
(78,kV),
(79,Bj),
(80,js),
(81,Bj),
(82,Bj),
(83,Bj),
(84,js),
(85,{ ld:=some (false,1),sl:=some (94,6,48),ze:=some [.slice none 0 0] }),
(86,{ ld:=some (false,1),sl:=some (150,12,24),ze:=some [.slice none 0 0] }),
(87,kq),
(88,jj),
(89,jj),
(91,Bj),
(92,Bj),
(93,Bj),
(94,{ ld:=some (true,6),ar:=some (6,1),ze:=some [.int .i64 0,.int .i64 0,.int .i64 0,.int .i64 0,.int .i64 0,.int .i64 0] }),
(96,Bj),
(97,jk),
(98,jk),
(99,Bj),
(100,Bj),
(101,jl),
(102,jl),
(104,Bj),
(105,jm),
(106,jm),
(107,{ ld:=some (false,1),sl:=some (9,1,16),ze:=some [.slice none 0 0] }),
(108,dB),
(109,dB),
(111,Bj),
(112,Bj),
(113,Bj),
(114,Bj),
(115,Bj),
(116,Bj),
(117,Bj),
(118,Bj),
(119,Bj),
(120,Bj),
(122,Bj),
(123,Bj),
(124,Bj),
(125,Bj),
(126,Bj),
(127,Bj),
(128,Bj),
(129,Bj),
(130,Bj),
(131,Bj),
(132,Bj),
(133,Bj),
(134,Bj),
(135,jn),
(136,jn),
(137,{ ld:=some (false,1),sl:=some (136,2,16),ze:=some [.slice none 0 0] }),
(138,Bj),
(139,Bj),
(140,Bj),
(141,Bj),
(142,Bj),
(143,Bj),
(144,Bj),
(145,Bj),
(146,Bj),
(147,Bj),
(148,{ ld:=some (false,1),ik:=some .u16,ze:=some [.int .u16 0] }),
(149,jo),
(150,jo),
(151,Bj),
(152,Bj),
(153,Bj),
(154,kq),
(156,Bj),
(157,Bj),
(158,Bj),
(159,Bj),
(160,{ ld:=some (false,1),sl:=some (107,1,24),ze:=some [.slice none 0 0] }),
(161,Bj),
(163,Bj),
(164,Bj),
(165,Bj),
(166,Bj),
(167,kq),
(168,Bj),
(169,Bj),
(170,Bj),
(171,js),
(172,Bj),
(173,Bj),
(174,Bj),
(175,Bj),
(176,Bj),
(177,Bj),
(178,Bj),
(179,Bj),
(180,Bj),
(181,Bj),
(182,{ ld:=some (false,1),sl:=some (29,3,56),ze:=some [.slice none 0 0] }),
(183,jq),
(184,jq),
(185,Bj),
(186,Bj),
(187,jr),
(188,jr),
(189,Bj),
(190,ko),
(191,{ ld:=some (false,1),sl:=some (193,3,40),ze:=some [.slice none 0 0] }),
(192,jG),
(193,jG),
(194,Bj),
(195,Bj),
(196,Bj),
(197,Bj),
(198,Bj),
(199,{ ld:=some (false,1),sl:=some (84,1,8),ze:=some [.slice none 0 0] }),
(200,dB),
(201,dB),
(202,Bj),
(203,Bj),
(204,Bj),
(205,Bj),
(206,Bj),
(208,Bj),
(209,Bj),
(211,Bj),
(212,Bj),
(213,Bj),
(214,Bj),
(215,Bj),
(216,Bj),
(217,Bj),
(218,Bj),
(219,Bj),
(220,Bj),
(221,Bj),
(222,Bj),
(223,{ ld:=some (false,1),sl:=some (26,1,24),ze:=some [.slice none 0 0] }),
(224,Bj),
(225,Bj),
(226,Bj),
(227,Bj),
(228,Bj),
(229,Bj),
(230,Bj),
(231,Bj),
(232,Bj),
(233,{ ld:=some (false,1),ik:=some .u32,ze:=some [.int .u32 0] }),
(234,Bj),
(235,ko),
(236,Bj),
(237,Bj),
(238,Bj),
(239,Bj),
(240,Bj),
(241,Bj),
(242,Bj),
(243,Bj),
(244,Bj),
(247,Bj),
(248,Bj),
(249,Bj),
(250,{ ld:=some (true,24),ar:=some (24,1),ze:=some [.int .u8 0,.int .u8 0,.int .u8 0,.int .u8 0,.int .u8 0,.int .u8 0,.int .u8 0,.int .u8 0,.int .u8 0,.int .u8 0,.int .u8 0,.int .u8 0,.int .u8 0,.int .u8 0,.int .u8 0,.int .u8 0,.int .u8 0,.int .u8 0,.int .u8 0,.int .u8 0,.int .u8 0,.int .u8 0,.int .u8 0,.int .u8 0] }),
(251,Bj),
(253,Bj),
(254,Bj),
(255,{ ld:=some (true,20),ar:=some (20,1),ze:=some [.int .u64 0,.int .u64 0,.int .u64 0,.int .u64 0,.int .u64 0,.int .u64 0,.int .u64 0,.int .u64 0,.int .u64 0,.int .u64 0,.int .u64 0,.int .u64 0,.int .u64 0,.int .u64 0,.int .u64 0,.int .u64 0,.int .u64 0,.int .u64 0,.int .u64 0,.int .u64 0] }),
(256,{ ld:=some (true,65),ar:=some (65,1),ze:=some [.int .u8 0,.int .u8 0,.int .u8 0,.int .u8 0,.int .u8 0,.int .u8 0,.int .u8 0,.int .u8 0,.int .u8 0,.int .u8 0,.int .u8 0,.int .u8 0,.int .u8 0,.int .u8 0,.int .u8 0,.int .u8 0,.int .u8 0,.int .u8 0,.int .u8 0,.int .u8 0,.int .u8 0,.int .u8 0,.int .u8 0,.int .u8 0,.int .u8 0,.int .u8 0,.int .u8 0,.int .u8 0,.int .u8 0,.int .u8 0,.int .u8 0,.int .u8 0,.int .u8 0,.int .u8 0,.int .u8 0,.int .u8 0,.int .u8 0,.int .u8 0,.int .u8 0,.int .u8 0,.int .u8 0,.int .u8 0,.int .u8 0,.int .u8 0,.int .u8 0,.int .u8 0,.int .u8 0,.int .u8 0,.int .u8 0,.int .u8 0,.int .u8 0,.int .u8 0,.int .u8 0,.int .u8 0,.int .u8 0,.int .u8 0,.int .u8 0,.int .u8 0,.int .u8 0,.int .u8 0,.int .u8 0,.int .u8 0,.int .u8 0,.int .u8 0,.int .u8 0] }),
(257,Bj),
(266,js),
(271,Bj)]
instance:C0 Tryz.prog:=⟨lz,Vi (by kernel_rfl)⟩
def Cq:List Value:=[.int .u8 0,.int .u8 1,.int .u8 28,.int .u8 2,.int .u8 29,.int .u8 14,.int .u8 24,.int .u8 3,.int .u8 30,.int .u8 22,.int .u8 20,.int .u8 15,.int .u8 25,.int .u8 17,.int .u8 4,.int .u8 8,.int .u8 31,.int .u8 27,.int .u8 13,.int .u8 23,.int .u8 21,.int .u8 19,.int .u8 16,.int .u8 7,.int .u8 26,.int .u8 12,.int .u8 18,.int .u8 6,.int .u8 11,.int .u8 5,.int .u8 10,.int .u8 9]
def Bv:List Value:=[.int .u8 0,.int .u8 1,.int .u8 56,.int .u8 2,.int .u8 57,.int .u8 49,.int .u8 28,.int .u8 3,.int .u8 61,.int .u8 58,.int .u8 42,.int .u8 50,.int .u8 38,.int .u8 29,.int .u8 17,.int .u8 4,.int .u8 62,.int .u8 47,.int .u8 59,.int .u8 36,.int .u8 45,.int .u8 43,.int .u8 51,.int .u8 22,.int .u8 53,.int .u8 39,.int .u8 33,.int .u8 30,.int .u8 24,.int .u8 18,.int .u8 12,.int .u8 5,.int .u8 63,.int .u8 55,.int .u8 48,.int .u8 27,.int .u8 60,.int .u8 41,.int .u8 37,.int .u8 16,.int .u8 46,.int .u8 35,.int .u8 44,.int .u8 21,.int .u8 52,.int .u8 32,.int .u8 23,.int .u8 11,.int .u8 54,.int .u8 26,.int .u8 40,.int .u8 15,.int .u8 34,.int .u8 20,.int .u8 31,.int .u8 10,.int .u8 25,.int .u8 14,.int .u8 19,.int .u8 9,.int .u8 13,.int .u8 8,.int .u8 7,.int .u8 6]
def OM:List Value:=[.int .u64 1,.int .u64 10,.int .u64 100,.int .u64 1000,.int .u64 10000,.int .u64 100000,.int .u64 1000000,.int .u64 10000000,.int .u64 100000000,.int .u64 1000000000,.int .u64 10000000000,.int .u64 100000000000,.int .u64 1000000000000,.int .u64 10000000000000,.int .u64 100000000000000,.int .u64 1000000000000000,.int .u64 10000000000000000,.int .u64 100000000000000000,.int .u64 1000000000000000000,.int .u64 10000000000000000000]
class CG (TB:BA):Prop where
 t0:La TB 0 Cq
 t1:La TB 1 Bv
instance {TB:BA}[h:CG TB]:La TB 1 Bv:=h.t1
theorem mixed:Tryz.prog.follows .mixedOrders=true:=by kernel_rfl
theorem rE{TB:BA}{Γ:Ctx}{N:Nat}{ops:Array Oper}{Q:Exit->Env->Ab->Nat->Prop}{id:Nat}{f:Env}{σ:Ab}{nx:Nat}(a:(Gh N ops && (Bk ops (Ak (Hf []) 0 ops.size) (Array.replicate ops.size false) && Lz ops (Ak (Hf []) 0 ops.size)))=true)
 (h:Lex Tryz.prog TB Γ ops (Ak (Hf []) 0 ops.size) (λf σ nx=>Q .normal f σ nx) f σ nx):Aj Tryz.prog TB Γ N (.region id ops true) Q f σ nx:=by rw[d4]at a;exact je (Hf []) mixed a.1 a.2 h
theorem rG{TB:BA}{Γ:Ctx}{N:Nat}{ops:Array Oper}{Q:Exit->Env->Ab->Nat->Prop}{id:Nat}{f:Env}{σ:Ab}{nx:Nat}(fl:Fl)(a:(Gh N ops && (Bk ops (Ak fl 0 ops.size) (Array.replicate ops.size false) && Lz ops (Ak fl 0 ops.size)))=true)
 (h:Lex Tryz.prog TB Γ ops (Ak fl 0 ops.size) (λf σ nx=>Q .normal f σ nx) f σ nx):Aj Tryz.prog TB Γ N (.region id ops true) Q f σ nx:=by rw[d4]at a;exact je fl mixed a.1 a.2 h
end Go.Am
