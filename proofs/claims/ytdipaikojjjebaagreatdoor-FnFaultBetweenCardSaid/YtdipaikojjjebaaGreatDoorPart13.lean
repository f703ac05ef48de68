/-
  The seat's types, as the rules ask for them.
-/
import Derived.Test.YtdipaikojjjebaaGreatDoorPart11
import Derived.Test.YtdipaikojjjebaaGreatDoorProg
set_option linter.all false
namespace Go.Am
open Go Go.Proofs
instance:Fa Tryz.prog 3 false 1:=⟨by kernel_rfl⟩
instance:Iv Tryz.prog 3 .i64:=⟨by kernel_rfl⟩
instance:KC Tryz.prog 3 (.int .i64 0):=⟨by kernel_rfl⟩
instance:BN Tryz.prog 3 [.int .i64 0]:=⟨by kernel_rfl⟩
instance:BN Tryz.prog 4 [.bool false]:=⟨by kernel_rfl⟩
instance:BN Tryz.prog 5 [.int .u8 0]:=⟨by kernel_rfl⟩
instance:Dx Tryz.prog 9:=⟨by kernel_rfl⟩
instance:BN Tryz.prog 9 [.string ⟨#[]⟩]:=⟨by kernel_rfl⟩
instance:YZ Tryz.prog 22:=⟨5,by kernel_rfl,by kernel_rfl⟩
instance:CE Tryz.prog 22 5 1 1:=⟨by kernel_rfl⟩
instance:CE Tryz.prog 23 78 3 24:=⟨by kernel_rfl⟩
instance:Fa Tryz.prog 25 true 3:=⟨by kernel_rfl⟩
instance:BN Tryz.prog 25 [.int .i64 0,.int .i64 0,.slice none 0 0]:=⟨by kernel_rfl⟩
instance:EJ Tryz.prog 25 [(0,1),(1,1),(2,1)]:=⟨by kernel_rfl⟩
instance:BN Tryz.prog 26 [.slice none 0 0]:=⟨by kernel_rfl⟩
instance:CE Tryz.prog 26 63 1 24:=⟨by kernel_rfl⟩
instance:CE Tryz.prog 27 4 1 1:=⟨by kernel_rfl⟩
instance:Fa Tryz.prog 29 true 3:=⟨by kernel_rfl⟩
instance:BN Tryz.prog 29 [.int .i64 0,.slice none 0 0,.slice none 0 0]:=⟨by kernel_rfl⟩
instance:EJ Tryz.prog 29 [(0,1),(1,1),(2,1)]:=⟨by kernel_rfl⟩
instance:BN Tryz.prog 33 [.int .i64 0,.int .i64 0,.slice none 0 0,.slice none 0 0,.string ⟨#[]⟩,.int .i64 0]:=⟨by kernel_rfl⟩
instance:EJ Tryz.prog 33 [(0,1),(1,3),(4,1),(5,1)]:=⟨by kernel_rfl⟩
instance:BN Tryz.prog 49 [.int .i64 0,.int .i64 0,.slice none 0 0,.int .i64 0,.slice none 0 0,.slice none 0 0,.int .i64 0]:=⟨by kernel_rfl⟩
instance:EJ Tryz.prog 49 [(0,3),(3,3),(6,1)]:=⟨by kernel_rfl⟩
instance:BN Tryz.prog 63 [.slice none 0 0]:=⟨by kernel_rfl⟩
instance:CE Tryz.prog 63 3 1 8:=⟨by kernel_rfl⟩
instance:BN Tryz.prog 78 [.int .i64 0,.int .i64 0,.int .i64 0]:=⟨by kernel_rfl⟩
instance:EJ Tryz.prog 78 [(0,1),(1,1),(2,1)]:=⟨by kernel_rfl⟩
instance:BN Tryz.prog 84 [.pointer none]:=⟨by kernel_rfl⟩
instance:CE Tryz.prog 85 94 6 48:=⟨by kernel_rfl⟩
instance:CE Tryz.prog 86 150 12 24:=⟨by kernel_rfl⟩
instance:FN Tryz.prog 87 150 3:=⟨by kernel_rfl⟩
instance:BN Tryz.prog 89 [.int .i64 0,.int .i64 0,.slice none 0 0,.int .i64 0,.slice none 0 0,.slice none 0 0,.int .i64 0,.pointer none,.slice none 0 0,.slice none 0 0,.slice none 0 0,.map none,.slice none 0 0,.slice none 0 0]:=⟨by kernel_rfl⟩
instance:EJ Tryz.prog 89 [(0,7),(7,1),(8,1),(9,1),(10,1),(11,1),(12,1),(13,1)]:=⟨by kernel_rfl⟩
instance:BN Tryz.prog 94 [.int .i64 0,.int .i64 0,.int .i64 0,.int .i64 0,.int .i64 0,.int .i64 0]:=⟨by kernel_rfl⟩
instance:EJ Tryz.prog 94 [(0,1),(1,1),(2,1),(3,1),(4,1),(5,1)]:=⟨by kernel_rfl⟩
instance:BN Tryz.prog 98 [.slice none 0 0,.int .i64 0]:=⟨by kernel_rfl⟩
instance:EJ Tryz.prog 98 [(0,1),(1,1)]:=⟨by kernel_rfl⟩
instance:BN Tryz.prog 106 [.bool false,.int .i64 0,.slice none 0 0,.slice none 0 0,.int .i64 0,.int .i64 0,.slice none 0 0,.int .i64 0,.slice none 0 0,.slice none 0 0,.int .i64 0]:=⟨by kernel_rfl⟩
instance:EJ Tryz.prog 106 [(0,1),(1,3),(4,7)]:=⟨by kernel_rfl⟩
instance:CE Tryz.prog 107 9 1 16:=⟨by kernel_rfl⟩
instance:BN Tryz.prog 109 [.slice none 0 0,.slice none 0 0]:=⟨by kernel_rfl⟩
instance:EJ Tryz.prog 109 [(0,1),(1,1)]:=⟨by kernel_rfl⟩
instance:Fa Tryz.prog 148 false 1:=⟨by kernel_rfl⟩
instance:Iv Tryz.prog 148 .u16:=⟨by kernel_rfl⟩
instance:BN Tryz.prog 150 [.int .u16 0,.int .u16 0,.int .u16 0,.int .u16 0,.int .u16 0,.int .u16 0,.int .u16 0,.int .u16 0,.int .u16 0,.int .u16 0,.int .u16 0,.int .u16 0]:=⟨by kernel_rfl⟩
instance:EJ Tryz.prog 150 [(0,1),(1,1),(2,1),(3,1),(4,1),(5,1),(6,1),(7,1),(8,1),(9,1),(10,1),(11,1)]:=⟨by kernel_rfl⟩
instance:FN Tryz.prog 154 3 3:=⟨by kernel_rfl⟩
instance:FN Tryz.prog 167 9 3:=⟨by kernel_rfl⟩
instance:BN Tryz.prog 184 [.slice none 0 0,.slice none 0 0,.slice none 0 0,.int .i64 0,.int .i64 0,.int .i64 0]:=⟨by kernel_rfl⟩
instance:EJ Tryz.prog 184 [(0,1),(1,1),(2,1),(3,1),(4,1),(5,1)]:=⟨by kernel_rfl⟩
instance:BN Tryz.prog 191 [.slice none 0 0]:=⟨by kernel_rfl⟩
instance:CE Tryz.prog 191 193 3 40:=⟨by kernel_rfl⟩
instance:BN Tryz.prog 193 [.int .i64 0,.int .i64 0,.slice none 0 0]:=⟨by kernel_rfl⟩
instance:EJ Tryz.prog 193 [(0,1),(1,1),(2,1)]:=⟨by kernel_rfl⟩
instance:CE Tryz.prog 199 84 1 8:=⟨by kernel_rfl⟩
instance:Fa Tryz.prog 201 true 2:=⟨by kernel_rfl⟩
instance:BN Tryz.prog 201 [.slice none 0 0,.slice none 0 0]:=⟨by kernel_rfl⟩
instance:EJ Tryz.prog 201 [(0,1),(1,1)]:=⟨by kernel_rfl⟩
instance:CE Tryz.prog 223 26 1 24:=⟨by kernel_rfl⟩
instance:RJ Tryz.prog 246 64 1:=⟨by kernel_rfl⟩
def Bn:TI:={ ld:=some (false,1),ze:=some [.nilFunc] }
def qt:TI:={ ld:=some (false,1),ik:=some .i64,ze:=some [.int .i64 0] }
def pT:TI:={ ld:=some (false,1),ik:=some .u64,ze:=some [.int .u64 0] }
def pg:TI:={ ld:=some (true,3),fl:=[some (0,false,1),some (1,false,1),some (2,false,1)],ze:=some [.int .i64 0,.int .i64 0,.slice none 0 0] }
def qu:TI:={ ld:=some (true,3),fl:=[some (0,false,1),some (1,false,1),some (2,false,1)],ze:=some [.int .i64 0,.slice none 0 0,.slice none 0 0] }
def qv:TI:={ ld:=some (true,6),fl:=[some (0,false,1),some (1,true,3),some (4,false,1),some (5,false,1)],ze:=some [.int .i64 0,.int .i64 0,.slice none 0 0,.slice none 0 0,.string ⟨#[]⟩,.int .i64 0] }
def qw:TI:={ ld:=some (true,7),fl:=[some (0,true,3),some (3,true,3),some (6,false,1)],ze:=some [.int .i64 0,.int .i64 0,.slice none 0 0,.int .i64 0,.slice none 0 0,.slice none 0 0,.int .i64 0] }
def oW:TI:={ ld:=some (false,1),pt:=true,ze:=some [.pointer none] }
def qx:TI:={ ld:=some (true,3),fl:=[some (0,false,1),some (1,false,1),some (2,false,1)],ze:=some [.int .i64 0,.int .i64 0,.int .i64 0] }
def pU:TI:={ ld:=some (false,1),ze:=some [.map none] }
def oO:TI:={ ld:=some (true,14),fl:=[some (0,true,7),some (7,false,1),some (8,false,1),some (9,false,1),some (10,false,1),some (11,false,1),some (12,false,1),some (13,false,1)],ze:=some [.int .i64 0,.int .i64 0,.slice none 0 0,.int .i64 0,.slice none 0 0,.slice none 0 0,.int .i64 0,.pointer none,.slice none 0 0,.slice none 0 0,.slice none 0 0,.map none,.slice none 0 0,.slice none 0 0] }
def oP:TI:={ ld:=some (true,2),fl:=[some (0,false,1),some (1,false,1)],ze:=some [.slice none 0 0,.int .i64 0] }
def oQ:TI:={ ld:=some (true,2),fl:=[some (0,false,1),some (1,false,1)],ze:=some [.int .i64 0,.nilFunc] }
def oR:TI:={ ld:=some (true,11),fl:=[some (0,false,1),some (1,true,3),some (4,true,7)],ze:=some [.bool false,.int .i64 0,.slice none 0 0,.slice none 0 0,.int .i64 0,.int .i64 0,.slice none 0 0,.int .i64 0,.slice none 0 0,.slice none 0 0,.int .i64 0] }
def kh:TI:={ ld:=some (true,2),fl:=[some (0,false,1),some (1,false,1)],ze:=some [.slice none 0 0,.slice none 0 0] }
def oS:TI:={ ld:=some (true,2),fl:=[some (0,false,1),some (1,false,1)],ze:=some [.int .i64 0,.int .i64 0] }
def oT:TI:={ ld:=some (true,12),ar:=some (12,1),ze:=some [.int .u16 0,.int .u16 0,.int .u16 0,.int .u16 0,.int .u16 0,.int .u16 0,.int .u16 0,.int .u16 0,.int .u16 0,.int .u16 0,.int .u16 0,.int .u16 0] }
def oU:TI:={ ld:=some (true,6),fl:=[some (0,false,1),some (1,false,1),some (2,false,1),some (3,false,1),some (4,false,1),some (5,false,1)],ze:=some [.slice none 0 0,.slice none 0 0,.slice none 0 0,.int .i64 0,.int .i64 0,.int .i64 0] }
def oV:TI:={ ld:=some (true,96),ar:=some (16,6),ze:=some [.int .i64 0,.int .i64 0,.int .i64 0,.int .i64 0,.int .i64 0,.int .i64 0,.int .i64 0,.int .i64 0,.int .i64 0,.int .i64 0,.int .i64 0,.int .i64 0,.int .i64 0,.int .i64 0,.int .i64 0,.int .i64 0,.int .i64 0,.int .i64 0,.int .i64 0,.int .i64 0,.int .i64 0,.int .i64 0,.int .i64 0,.int .i64 0,.int .i64 0,.int .i64 0,.int .i64 0,.int .i64 0,.int .i64 0,.int .i64 0,.int .i64 0,.int .i64 0,.int .i64 0,.int .i64 0,.int .i64 0,.int .i64 0,.int .i64 0,.int .i64 0,.int .i64 0,.int .i64 0,.int .i64 0,.int .i64 0,.int .i64 0,.int .i64 0,.int .i64 0,.int .i64 0,.int .i64 0,.int .i64 0,.int .i64 0,.int .i64 0,.int .i64 0,.int .i64 0,.int .i64 0,.int .i64 0,.int .i64 0,.int .i64 0,.int .i64 0,.int .i64 0,.int .i64 0,.int .i64 0,.int .i64 0,.int .i64 0,.int .i64 0,.int .i64 0,.int .i64 0,.int .i64 0,.int .i64 0,.int .i64 0,.int .i64 0,.int .i64 0,.int .i64 0,.int .i64 0,.int .i64 0,.int .i64 0,.int .i64 0,.int .i64 0,.int .i64 0,.int .i64 0,.int .i64 0,.int .i64 0,.int .i64 0,.int .i64 0,.int .i64 0,.int .i64 0,.int .i64 0,.int .i64 0,.int .i64 0,.int .i64 0,.int .i64 0,.int .i64 0,.int .i64 0,.int .i64 0,.int .i64 0,.int .i64 0,.int .i64 0,.int .i64 0] }
def qQ:List (Nat×TI):=[(1,Bn),
(2,qt),
(3,qt),
(4,{ ld:=some (false,1),bo:=true,ze:=some [.bool false] }),
(5,{ ld:=some (false,1),ik:=some .u8,ze:=some [.int .u8 0] }),
(9,{ ld:=some (false,1),st:=true,ze:=some [.string ⟨#[]⟩] }),
(12,pT),
(13,{ ld:=some (true,2),fl:=[some (0,false,1),some (1,false,1)],ze:=some [.string ⟨#[]⟩,.int .u64 0] }),
(21,{ ld:=some (false,1),ik:=some .i32,ze:=some [.int .i32 0] }),
(22,{ ld:=some (false,1),sl:=some (5,1,1),ze:=some [.slice none 0 0] }),
(23,{ ld:=some (false,1),sl:=some (78,3,24),ze:=some [.slice none 0 0] }),
(24,pg),
(25,pg),
(26,{ ld:=some (false,1),sl:=some (63,1,24),ze:=some [.slice none 0 0] }),
(27,{ ld:=some (false,1),sl:=some (4,1,1),ze:=some [.slice none 0 0] }),
(28,qu),
(29,qu),
(31,Bn),
(32,qv),
(33,qv),
(34,Bn),
(35,Bn),
(37,Bn),
(38,Bn),
(40,Bn),
(41,Bn),
(42,Bn),
(43,Bn),
(44,Bn),
(45,{ ld:=some (false,1),sl:=some (25,3,40),ze:=some [.slice none 0 0] }),
(47,Bn),
(48,qw),
(49,qw),
(51,Bn),
(52,Bn),
(53,Bn),
(54,Bn),
(55,oW),
(56,Bn),
(57,Bn),
(58,Bn),
(60,Bn),
(61,Bn),
(62,Bn),
(63,{ ld:=some (false,1),sl:=some (3,1,8),ze:=some [.slice none 0 0] }),
(64,Bn),
(66,Bn),
(67,Bn),
(68,Bn),
(69,Bn),
(70,Bn),
(71,Bn),
(72,Bn),
(73,Bn),
(74,Bn),
(75,Bn),
(76,Bn),
(77,qx),
(78,qx),
(79,Bn),
(80,oW),
(81,Bn),
(82,Bn),
(83,Bn),
(84,oW),
(85,{ ld:=some (false,1),sl:=some (94,6,48),ze:=some [.slice none 0 0] }),
(86,{ ld:=some (false,1),sl:=some (150,12,24),ze:=some [.slice none 0 0] }),
(87,pU),
(88,oO),
(89,oO),
(91,Bn),
(92,Bn),
(93,Bn),
(94,{ ld:=some (true,6),ar:=some (6,1),ze:=some [.int .i64 0,.int .i64 0,.int .i64 0,.int .i64 0,.int .i64 0,.int .i64 0] }),
(96,Bn),
(97,oP),
(98,oP),
(99,Bn),
(100,Bn),
(101,oQ),
(102,oQ),
(104,Bn),
(105,oR),
(106,oR),
(107,{ ld:=some (false,1),sl:=some (9,1,16),ze:=some [.slice none 0 0] }),
(108,kh),
(109,kh),
(111,Bn),
(112,Bn),
(113,Bn),
(114,Bn),
(115,Bn),
(116,Bn),
(117,Bn),
(118,Bn),
(119,Bn),
(120,Bn),
(122,Bn),
(123,Bn),
(124,Bn),
(125,Bn),
(126,Bn),
(127,Bn),
(128,Bn),
(129,Bn),
(130,Bn),
(131,Bn),
(132,Bn),
(133,Bn),
(134,Bn),
(135,oS),
(136,oS),
(137,{ ld:=some (false,1),sl:=some (136,2,16),ze:=some [.slice none 0 0] }),
(138,Bn),
(139,Bn),
(140,Bn),
(141,Bn),
(142,Bn),
(143,Bn),
(144,Bn),
(145,Bn),
(146,Bn),
(147,Bn),
(148,{ ld:=some (false,1),ik:=some .u16,ze:=some [.int .u16 0] }),
(149,oT),
(150,oT),
(151,Bn),
(152,Bn),
(153,Bn),
(154,pU),
(156,Bn),
(157,Bn),
(158,Bn),
(159,Bn),
(160,{ ld:=some (false,1),sl:=some (107,1,24),ze:=some [.slice none 0 0] }),
(161,Bn),
(163,Bn),
(164,Bn),
(165,Bn),
(166,Bn),
(167,pU),
(168,Bn),
(169,Bn),
(170,Bn),
(171,oW),
(172,Bn),
(173,Bn),
(174,Bn),
(175,Bn),
(176,Bn),
(177,Bn),
(178,Bn),
(179,Bn),
(180,Bn),
(181,Bn),
(182,{ ld:=some (false,1),sl:=some (29,3,56),ze:=some [.slice none 0 0] }),
(183,oU),
(184,oU),
(185,Bn),
(186,Bn),
(187,oV),
(188,oV),
(189,Bn),
(190,pT),
(191,{ ld:=some (false,1),sl:=some (193,3,40),ze:=some [.slice none 0 0] }),
(192,pg),
(193,pg),
(194,Bn),
(195,Bn),
(196,Bn),
(197,Bn),
(198,Bn),
(199,{ ld:=some (false,1),sl:=some (84,1,8),ze:=some [.slice none 0 0] }),
(200,kh),
(201,kh),
(202,Bn),
(203,Bn),
(204,Bn),
(205,Bn),
(206,Bn),
(208,Bn),
(209,Bn),
(211,Bn),
(212,Bn),
(213,Bn),
(214,Bn),
(215,Bn),
(216,Bn),
(217,Bn),
(218,Bn),
(219,Bn),
(220,Bn),
(221,Bn),
(222,Bn),
(223,{ ld:=some (false,1),sl:=some (26,1,24),ze:=some [.slice none 0 0] }),
(224,Bn),
(225,Bn),
(226,Bn),
(227,Bn),
(228,Bn),
(229,Bn),
(230,Bn),
(231,Bn),
(232,Bn),
(233,{ ld:=some (false,1),ik:=some .u32,ze:=some [.int .u32 0] }),
(234,Bn),
(235,pT),
(236,Bn),
(237,Bn),
(238,Bn),
(239,Bn),
(240,Bn),
(241,Bn),
(242,Bn),
(243,Bn),
(244,Bn),
(247,Bn),
(248,Bn),
(249,Bn),
(250,{ ld:=some (true,24),ar:=some (24,1),ze:=some [.int .u8 0,.int .u8 0,.int .u8 0,.int .u8 0,.int .u8 0,.int .u8 0,.int .u8 0,.int .u8 0,.int .u8 0,.int .u8 0,.int .u8 0,.int .u8 0,.int .u8 0,.int .u8 0,.int .u8 0,.int .u8 0,.int .u8 0,.int .u8 0,.int .u8 0,.int .u8 0,.int .u8 0,.int .u8 0,.int .u8 0,.int .u8 0] }),
(251,Bn),
(253,Bn),
(254,Bn),
(255,{ ld:=some (true,20),ar:=some (20,1),ze:=some [.int .u64 0,.int .u64 0,.int .u64 0,.int .u64 0,.int .u64 0,.int .u64 0,.int .u64 0,.int .u64 0,.int .u64 0,.int .u64 0,.int .u64 0,.int .u64 0,.int .u64 0,.int .u64 0,.int .u64 0,.int .u64 0,.int .u64 0,.int .u64 0,.int .u64 0,.int .u64 0] }),
(256,{ ld:=some (true,65),ar:=some (65,1),ze:=some [.int .u8 0,.int .u8 0,.int .u8 0,.int .u8 0,.int .u8 0,.int .u8 0,.int .u8 0,.int .u8 0,.int .u8 0,.int .u8 0,.int .u8 0,.int .u8 0,.int .u8 0,.int .u8 0,.int .u8 0,.int .u8 0,.int .u8 0,.int .u8 0,.int .u8 0,.int .u8 0,.int .u8 0,.int .u8 0,.int .u8 0,.int .u8 0,.int .u8 0,.int .u8 0,.int .u8 0,.int .u8 0,.int .u8 0,.int .u8 0,.int .u8 0,.int .u8 0,.int .u8 0,.int .u8 0,.int .u8 0,.int .u8 0,.int .u8 0,.int .u8 0,.int .u8 0,.int .u8 0,.int .u8 0,.int .u8 0,.int .u8 0,.int .u8 0,.int .u8 0,.int .u8 0,.int .u8 0,.int .u8 0,.int .u8 0,.int .u8 0,.int .u8 0,.int .u8 0,.int .u8 0,.int .u8 0,.int .u8 0,.int .u8 0,.int .u8 0,.int .u8 0,.int .u8 0,.int .u8 0,.int .u8 0,.int .u8 0,.int .u8 0,.int .u8 0,.int .u8 0] }),
(257,Bn),
(266,oW),
(271,Bn)]
instance:C1 Tryz.prog:=⟨qQ,Zb (by kernel_rfl)⟩
def Cv:List Value:=[.int .u8 0,.int .u8 1,.int .u8 28,.int .u8 2,.int .u8 29,.int .u8 14,.int .u8 24,.int .u8 3,.int .u8 30,.int .u8 22,.int .u8 20,.int .u8 15,.int .u8 25,.int .u8 17,.int .u8 4,.int .u8 8,.int .u8 31,.int .u8 27,.int .u8 13,.int .u8 23,.int .u8 21,.int .u8 19,.int .u8 16,.int .u8 7,.int .u8 26,.int .u8 12,.int .u8 18,.int .u8 6,.int .u8 11,.int .u8 5,.int .u8 10,.int .u8 9]
def Bx:List Value:=[.int .u8 0,.int .u8 1,.int .u8 56,.int .u8 2,.int .u8 57,.int .u8 49,.int .u8 28,.int .u8 3,.int .u8 61,.int .u8 58,.int .u8 42,.int .u8 50,.int .u8 38,.int .u8 29,.int .u8 17,.int .u8 4,.int .u8 62,.int .u8 47,.int .u8 59,.int .u8 36,.int .u8 45,.int .u8 43,.int .u8 51,.int .u8 22,.int .u8 53,.int .u8 39,.int .u8 33,.int .u8 30,.int .u8 24,.int .u8 18,.int .u8 12,.int .u8 5,.int .u8 63,.int .u8 55,.int .u8 48,.int .u8 27,.int .u8 60,.int .u8 41,.int .u8 37,.int .u8 16,.int .u8 46,.int .u8 35,.int .u8 44,.int .u8 21,.int .u8 52,.int .u8 32,.int .u8 23,.int .u8 11,.int .u8 54,.int .u8 26,.int .u8 40,.int .u8 15,.int .u8 34,.int .u8 20,.int .u8 31,.int .u8 10,.int .u8 25,.int .u8 14,.int .u8 19,.int .u8 9,.int .u8 13,.int .u8 8,.int .u8 7,.int .u8 6]
def Qx:List Value:=[.int .u64 1,.int .u64 10,.int .u64 100,.int .u64 1000,.int .u64 10000,.int .u64 100000,.int .u64 1000000,.int .u64 10000000,.int .u64 100000000,.int .u64 1000000000,.int .u64 10000000000,.int .u64 100000000000,.int .u64 1000000000000,.int .u64 10000000000000,.int .u64 100000000000000,.int .u64 1000000000000000,.int .u64 10000000000000000,.int .u64 100000000000000000,.int .u64 1000000000000000000,.int .u64 10000000000000000000]
class EK (TB:BJ):Prop where
 t0:SG TB 0 Cv
 t1:SG TB 1 Bx
instance {TB:BJ}[h:EK TB]:SG TB 1 Bx:=h.t1
theorem mixed:Tryz.prog.follows .mixedOrders=true:=by kernel_rfl
theorem rE{TB:BJ}{U:Ctx}{N:Nat}{ops:Array Oper}{Q:Exit->Env->Ac->Nat->Prop}{id:Nat}{f:Env}{σ:Ac}{nx:Nat}(a:(Hm N ops && (Bo ops (Aw (Hz []) 0 ops.size) (Array.replicate ops.size false) && Nr ops (Aw (Hz []) 0 ops.size)))=true)
 (h:Lex Tryz.prog TB U ops (Aw (Hz []) 0 ops.size) (λf σ nx=>Q .normal f σ nx) f σ nx):Aj Tryz.prog TB U N (.region id ops true) Q f σ nx:=by rw[d4]at a;exact oL (Hz []) mixed a.1 a.2 h
theorem rG{TB:BJ}{U:Ctx}{N:Nat}{ops:Array Oper}{Q:Exit->Env->Ac->Nat->Prop}{id:Nat}{f:Env}{σ:Ac}{nx:Nat}(fl:Fl)(a:(Hm N ops && (Bo ops (Aw fl 0 ops.size) (Array.replicate ops.size false) && Nr ops (Aw fl 0 ops.size)))=true)
 (h:Lex Tryz.prog TB U ops (Aw fl 0 ops.size) (λf σ nx=>Q .normal f σ nx) f σ nx):Aj Tryz.prog TB U N (.region id ops true) Q f σ nx:=by rw[d4]at a;exact oL fl mixed a.1 a.2 h
end Go.Am
