/-
  The seat's types, as the rules ask for them.
-/
import Derived.Test.YtkdilmleinnfiaaGreatDoorPart7
import Derived.Test.YtkdilmleinnfiaaGreatDoorProg
import Derived.KernelRfl
set_option linter.constructorNameAsVariable false
set_option linter.unusedSectionVars false
set_option linter.unusedSimpArgs false
set_option linter.unusedVariables false
namespace Go.Am
open Go Go.Proofs
instance:DM Tryz.prog 3 false 1:=⟨by kernel_rfl⟩
instance:EK Tryz.prog 3 .i64:=⟨by kernel_rfl⟩
instance:JD Tryz.prog 3 (.int .i64 0):=⟨by kernel_rfl⟩
instance:BR Tryz.prog 3 [.int .i64 0]:=⟨by kernel_rfl⟩
instance:BR Tryz.prog 4 [.bool false]:=⟨by kernel_rfl⟩
instance:BR Tryz.prog 5 [.int .u8 0]:=⟨by kernel_rfl⟩
instance:B6 Tryz.prog 9:=⟨by kernel_rfl⟩
instance:BR Tryz.prog 9 [.string ⟨#[]⟩]:=⟨by kernel_rfl⟩
instance:EK Tryz.prog 21 .i32:=⟨by kernel_rfl⟩
instance:BR Tryz.prog 22 [.slice none 0 0]:=⟨by kernel_rfl⟩
instance:B3 Tryz.prog 22 84 1 24:=⟨by kernel_rfl⟩
instance:B3 Tryz.prog 23 4 1 1:=⟨by kernel_rfl⟩
instance:B3 Tryz.prog 33 9 1 16:=⟨by kernel_rfl⟩
instance:DM Tryz.prog 38 true 2:=⟨by kernel_rfl⟩
instance:BR Tryz.prog 38 [.slice none 0 0,.slice none 0 0]:=⟨by kernel_rfl⟩
instance:Gk Tryz.prog 38 [(0,1),(1,1)]:=⟨by kernel_rfl⟩
instance:DM Tryz.prog 41 true 3:=⟨by kernel_rfl⟩
instance:BR Tryz.prog 41 [.int .i64 0,.slice none 0 0,.slice none 0 0]:=⟨by kernel_rfl⟩
instance:Gk Tryz.prog 41 [(0,1),(1,1),(2,1)]:=⟨by kernel_rfl⟩
instance:BR Tryz.prog 48 [.bool false,.int .i64 0,.slice none 0 0,.slice none 0 0,.int .i64 0,.int .i64 0,.slice none 0 0,.int .i64 0,.slice none 0 0,.slice none 0 0,.int .i64 0]:=⟨by kernel_rfl⟩
instance:Gk Tryz.prog 48 [(0,1),(1,3),(4,7)]:=⟨by kernel_rfl⟩
instance:QO Tryz.prog 64:=⟨5,by kernel_rfl,by kernel_rfl⟩
instance:B3 Tryz.prog 64 5 1 1:=⟨by kernel_rfl⟩
instance:BR Tryz.prog 84 [.slice none 0 0]:=⟨by kernel_rfl⟩
instance:B3 Tryz.prog 84 3 1 8:=⟨by kernel_rfl⟩
instance:BR Tryz.prog 100 [.int .i64 0,.nilFunc]:=⟨by kernel_rfl⟩
instance:Gk Tryz.prog 100 [(0,1),(1,1)]:=⟨by kernel_rfl⟩
instance:B3 Tryz.prog 146 148 6 48:=⟨by kernel_rfl⟩
instance:BR Tryz.prog 148 [.int .i64 0,.int .i64 0,.int .i64 0,.int .i64 0,.int .i64 0,.int .i64 0]:=⟨by kernel_rfl⟩
instance:Ey Tryz.prog 156 9 3:=⟨by kernel_rfl⟩
instance:BR Tryz.prog 169 [.slice none 0 0,.int .i64 0]:=⟨by kernel_rfl⟩
instance:Gk Tryz.prog 169 [(0,1),(1,1)]:=⟨by kernel_rfl⟩
instance:BR Tryz.prog 238 [.slice none 0 0,.slice none 0 0,.slice none 0 0,.int .i64 0,.int .i64 0,.int .i64 0]:=⟨by kernel_rfl⟩
instance:Gk Tryz.prog 238 [(0,1),(1,1),(2,1),(3,1),(4,1),(5,1)]:=⟨by kernel_rfl⟩
instance:Ey Tryz.prog 239 3 3:=⟨by kernel_rfl⟩
instance:BR Tryz.prog 240 [.slice none 0 0]:=⟨by kernel_rfl⟩
instance:B3 Tryz.prog 240 242 3 40:=⟨by kernel_rfl⟩
instance:BR Tryz.prog 242 [.int .i64 0,.int .i64 0,.slice none 0 0]:=⟨by kernel_rfl⟩
instance:Gk Tryz.prog 242 [(0,1),(1,1),(2,1)]:=⟨by kernel_rfl⟩
instance:B3 Tryz.prog 274 22 1 24:=⟨by kernel_rfl⟩
def AN:TI:={ ld:=some (false,1),ze:=some [.nilFunc] }
def cS:TI:={ ld:=some (false,1),ik:=some .i64,ze:=some [.int .i64 0] }
def cv:TI:={ ld:=some (false,1),ik:=some .u64,ze:=some [.int .u64 0] }
def cx:TI:={ ld:=some (true,3),fl:=[some (0,false,1),some (1,false,1),some (2,false,1)],ze:=some [.int .i64 0,.slice none 0 0,.slice none 0 0] }
def Zs:TI:={ ld:=some (true,3),fl:=[some (0,false,1),some (1,false,1),some (2,false,1)],ze:=some [.int .i64 0,.int .i64 0,.slice none 0 0] }
def bG:TI:={ ld:=some (true,7),fl:=[some (0,true,3),some (3,true,3),some (6,false,1)],ze:=some [.int .i64 0,.int .i64 0,.slice none 0 0,.int .i64 0,.slice none 0 0,.slice none 0 0,.int .i64 0] }
def bH:TI:={ ld:=some (true,11),fl:=[some (0,false,1),some (1,true,3),some (4,true,7)],ze:=some [.bool false,.int .i64 0,.slice none 0 0,.slice none 0 0,.int .i64 0,.int .i64 0,.slice none 0 0,.int .i64 0,.slice none 0 0,.slice none 0 0,.int .i64 0] }
def bp:TI:={ ld:=some (true,2),fl:=[some (0,false,1),some (1,false,1)],ze:=some [.slice none 0 0,.slice none 0 0] }
def cT:TI:={ ld:=some (true,6),fl:=[some (0,false,1),some (1,true,3),some (4,false,1),some (5,false,1)],ze:=some [.int .i64 0,.int .i64 0,.slice none 0 0,.slice none 0 0,.string ⟨#[]⟩,.int .i64 0] }
def cU:TI:={ ld:=some (true,2),fl:=[some (0,false,1),some (1,false,1)],ze:=some [.int .i64 0,.nilFunc] }
def VX:TI:={ ld:=some (false,1),pt:=true,ze:=some [.pointer none] }
def Zf:TI:={ ld:=some (false,1),ze:=some [.map none] }
def bh:TI:={ ld:=some (true,2),fl:=[some (0,false,1),some (1,false,1)],ze:=some [.slice none 0 0,.int .i64 0] }
def Zg:TI:={ ld:=some (true,3),fl:=[some (0,false,1),some (1,false,1),some (2,false,1)],ze:=some [.int .i64 0,.int .i64 0,.int .i64 0] }
def bj:TI:={ ld:=some (true,14),fl:=[some (0,true,7),some (7,false,1),some (8,false,1),some (9,false,1),some (10,false,1),some (11,false,1),some (12,false,1),some (13,false,1)],ze:=some [.int .i64 0,.int .i64 0,.slice none 0 0,.int .i64 0,.slice none 0 0,.slice none 0 0,.int .i64 0,.pointer none,.slice none 0 0,.slice none 0 0,.slice none 0 0,.map none,.slice none 0 0,.slice none 0 0] }
def bk:TI:={ ld:=some (true,12),ar:=some (12,1),ze:=some [.int .u16 0,.int .u16 0,.int .u16 0,.int .u16 0,.int .u16 0,.int .u16 0,.int .u16 0,.int .u16 0,.int .u16 0,.int .u16 0,.int .u16 0,.int .u16 0] }
def bm:TI:={ ld:=some (true,6),fl:=[some (0,false,1),some (1,false,1),some (2,false,1),some (3,false,1),some (4,false,1),some (5,false,1)],ze:=some [.slice none 0 0,.slice none 0 0,.slice none 0 0,.int .i64 0,.int .i64 0,.int .i64 0] }
def bn:TI:={ ld:=some (true,96),ar:=some (16,6),ze:=some [.int .i64 0,.int .i64 0,.int .i64 0,.int .i64 0,.int .i64 0,.int .i64 0,.int .i64 0,.int .i64 0,.int .i64 0,.int .i64 0,.int .i64 0,.int .i64 0,.int .i64 0,.int .i64 0,.int .i64 0,.int .i64 0,.int .i64 0,.int .i64 0,.int .i64 0,.int .i64 0,.int .i64 0,.int .i64 0,.int .i64 0,.int .i64 0,.int .i64 0,.int .i64 0,.int .i64 0,.int .i64 0,.int .i64 0,.int .i64 0,.int .i64 0,.int .i64 0,.int .i64 0,.int .i64 0,.int .i64 0,.int .i64 0,.int .i64 0,.int .i64 0,.int .i64 0,.int .i64 0,.int .i64 0,.int .i64 0,.int .i64 0,.int .i64 0,.int .i64 0,.int .i64 0,.int .i64 0,.int .i64 0,.int .i64 0,.int .i64 0,.int .i64 0,.int .i64 0,.int .i64 0,.int .i64 0,.int .i64 0,.int .i64 0,.int .i64 0,.int .i64 0,.int .i64 0,.int .i64 0,.int .i64 0,.int .i64 0,.int .i64 0,.int .i64 0,.int .i64 0,.int .i64 0,.int .i64 0,.int .i64 0,.int .i64 0,.int .i64 0,.int .i64 0,.int .i64 0,.int .i64 0,.int .i64 0,.int .i64 0,.int .i64 0,.int .i64 0,.int .i64 0,.int .i64 0,.int .i64 0,.int .i64 0,.int .i64 0,.int .i64 0,.int .i64 0,.int .i64 0,.int .i64 0,.int .i64 0,.int .i64 0,.int .i64 0,.int .i64 0,.int .i64 0,.int .i64 0,.int .i64 0,.int .i64 0,.int .i64 0,.int .i64 0] }
def dk:List (Nat×TI):=[(1,AN),
(2,cS),
(3,cS),
(4,{ ld:=some (false,1),bo:=true,ze:=some [.bool false] }),
(5,{ ld:=some (false,1),ik:=some .u8,ze:=some [.int .u8 0] }),
(9,{ ld:=some (false,1),st:=true,ze:=some [.string ⟨#[]⟩] }),
(12,cv),
(13,{ ld:=some (true,2),fl:=[some (0,false,1),some (1,false,1)],ze:=some [.string ⟨#[]⟩,.int .u64 0] }),
(21,{ ld:=some (false,1),ik:=some .i32,ze:=some [.int .i32 0] }),
(22,{ ld:=some (false,1),sl:=some (84,1,24),ze:=some [.slice none 0 0] }),
(23,{ ld:=some (false,1),sl:=some (4,1,1),ze:=some [.slice none 0 0] }),
(24,cx),
(25,cx),
(26,{ ld:=some (false,1),sl:=some (253,3,24),ze:=some [.slice none 0 0] }),
(27,Zs),
(28,Zs),
(29,bG),
(30,bG),
(31,bH),
(32,bH),
(33,{ ld:=some (false,1),sl:=some (9,1,16),ze:=some [.slice none 0 0] }),
(34,bp),
(35,bp),
(36,AN),
(37,AN),
(38,bp),
(40,AN),
(41,cx),
(42,{ ld:=some (false,1),sl:=some (189,3,24),ze:=some [.slice none 0 0] }),
(43,Zs),
(44,Zs),
(45,bG),
(46,bG),
(47,bH),
(48,bH),
(49,AN),
(50,AN),
(51,AN),
(52,AN),
(53,AN),
(54,AN),
(55,AN),
(57,AN),
(58,AN),
(59,AN),
(61,AN),
(62,AN),
(63,AN),
(64,{ ld:=some (false,1),sl:=some (5,1,1),ze:=some [.slice none 0 0] }),
(66,AN),
(67,AN),
(68,cT),
(69,cT),
(70,AN),
(71,AN),
(72,AN),
(73,AN),
(74,AN),
(75,AN),
(76,AN),
(77,AN),
(78,AN),
(79,AN),
(80,AN),
(82,AN),
(83,AN),
(84,{ ld:=some (false,1),sl:=some (3,1,8),ze:=some [.slice none 0 0] }),
(85,AN),
(86,AN),
(87,AN),
(88,AN),
(90,AN),
(91,AN),
(92,AN),
(93,AN),
(94,AN),
(95,AN),
(96,AN),
(97,AN),
(98,AN),
(99,cU),
(100,cU),
(102,AN),
(103,AN),
(104,AN),
(105,AN),
(106,AN),
(107,AN),
(108,AN),
(109,AN),
(110,AN),
(111,AN),
(112,AN),
(113,AN),
(114,AN),
(115,AN),
(116,AN),
(117,AN),
(118,AN),
(119,AN),
(120,AN),
(121,AN),
(122,AN),
(123,AN),
(124,AN),
(125,VX),
(126,AN),
(127,AN),
(128,AN),
(129,AN),
(130,AN),
(132,AN),
(133,AN),
(134,AN),
(135,AN),
(136,AN),
(137,AN),
(138,AN),
(140,AN),
(141,AN),
(142,AN),
(143,AN),
(144,AN),
(145,AN),
(146,{ ld:=some (false,1),sl:=some (148,6,48),ze:=some [.slice none 0 0] }),
(147,AN),
(148,{ ld:=some (true,6),ar:=some (6,1),ze:=some [.int .i64 0,.int .i64 0,.int .i64 0,.int .i64 0,.int .i64 0,.int .i64 0] }),
(149,AN),
(150,AN),
(151,AN),
(152,AN),
(153,AN),
(154,VX),
(155,AN),
(156,Zf),
(157,AN),
(158,AN),
(159,AN),
(160,AN),
(161,AN),
(162,AN),
(163,AN),
(164,AN),
(165,AN),
(166,AN),
(167,AN),
(168,bh),
(169,bh),
(171,AN),
(172,AN),
(174,AN),
(175,AN),
(176,AN),
(177,AN),
(178,AN),
(179,AN),
(180,{ ld:=some (false,1),sl:=some (44,3,40),ze:=some [.slice none 0 0] }),
(181,AN),
(183,AN),
(185,AN),
(186,AN),
(187,AN),
(188,Zg),
(189,Zg),
(190,AN),
(191,AN),
(192,AN),
(193,AN),
(194,AN),
(195,AN),
(196,AN),
(198,AN),
(199,AN),
(200,AN),
(201,AN),
(202,AN),
(203,AN),
(204,VX),
(205,AN),
(206,Zf),
(207,{ ld:=some (false,1),sl:=some (213,12,24),ze:=some [.slice none 0 0] }),
(208,bj),
(209,bj),
(210,AN),
(211,{ ld:=some (false,1),ik:=some .u16,ze:=some [.int .u16 0] }),
(212,bk),
(213,bk),
(214,AN),
(215,AN),
(216,AN),
(217,AN),
(218,AN),
(219,AN),
(220,AN),
(221,cv),
(222,AN),
(223,{ ld:=some (false,1),sl:=some (33,1,24),ze:=some [.slice none 0 0] }),
(224,AN),
(226,AN),
(227,AN),
(228,AN),
(229,AN),
(230,AN),
(231,VX),
(232,AN),
(233,AN),
(234,AN),
(235,AN),
(236,{ ld:=some (false,1),sl:=some (41,3,56),ze:=some [.slice none 0 0] }),
(237,bm),
(238,bm),
(239,Zf),
(240,{ ld:=some (false,1),sl:=some (242,3,40),ze:=some [.slice none 0 0] }),
(241,Zs),
(242,Zs),
(243,AN),
(244,AN),
(245,AN),
(246,AN),
(247,AN),
(248,AN),
(250,AN),
(251,AN),
(252,AN),
(253,Zg),
(254,bn),
(255,bn),
(256,AN),
(257,AN),
(258,AN),
(259,AN),
(260,AN),
(261,AN),
(262,AN),
(264,AN),
(265,AN),
(266,{ ld:=some (false,1),sl:=some (204,1,8),ze:=some [.slice none 0 0] }),
(267,bp),
(268,bp),
(269,AN),
(270,AN),
(271,AN),
(272,AN),
(273,AN),
(274,{ ld:=some (false,1),sl:=some (22,1,24),ze:=some [.slice none 0 0] }),
(275,AN),
(276,AN),
(277,AN),
(278,AN),
(279,AN),
(280,AN),
(281,AN),
(282,AN),
(283,AN),
(284,AN),
(285,AN),
(286,AN),
(287,AN),
(288,AN),
(289,AN),
(290,AN),
(291,AN),
(292,AN),
(293,{ ld:=some (true,24),ar:=some (24,1),ze:=some [.int .u8 0,.int .u8 0,.int .u8 0,.int .u8 0,.int .u8 0,.int .u8 0,.int .u8 0,.int .u8 0,.int .u8 0,.int .u8 0,.int .u8 0,.int .u8 0,.int .u8 0,.int .u8 0,.int .u8 0,.int .u8 0,.int .u8 0,.int .u8 0,.int .u8 0,.int .u8 0,.int .u8 0,.int .u8 0,.int .u8 0,.int .u8 0] }),
(294,cv),
(295,AN),
(296,AN),
(298,AN),
(299,AN),
(300,AN),
(301,AN),
(302,{ ld:=some (true,20),ar:=some (20,1),ze:=some [.int .u64 0,.int .u64 0,.int .u64 0,.int .u64 0,.int .u64 0,.int .u64 0,.int .u64 0,.int .u64 0,.int .u64 0,.int .u64 0,.int .u64 0,.int .u64 0,.int .u64 0,.int .u64 0,.int .u64 0,.int .u64 0,.int .u64 0,.int .u64 0,.int .u64 0,.int .u64 0] }),
(303,{ ld:=some (false,1),ik:=some .u32,ze:=some [.int .u32 0] }),
(304,{ ld:=some (true,65),ar:=some (65,1),ze:=some [.int .u8 0,.int .u8 0,.int .u8 0,.int .u8 0,.int .u8 0,.int .u8 0,.int .u8 0,.int .u8 0,.int .u8 0,.int .u8 0,.int .u8 0,.int .u8 0,.int .u8 0,.int .u8 0,.int .u8 0,.int .u8 0,.int .u8 0,.int .u8 0,.int .u8 0,.int .u8 0,.int .u8 0,.int .u8 0,.int .u8 0,.int .u8 0,.int .u8 0,.int .u8 0,.int .u8 0,.int .u8 0,.int .u8 0,.int .u8 0,.int .u8 0,.int .u8 0,.int .u8 0,.int .u8 0,.int .u8 0,.int .u8 0,.int .u8 0,.int .u8 0,.int .u8 0,.int .u8 0,.int .u8 0,.int .u8 0,.int .u8 0,.int .u8 0,.int .u8 0,.int .u8 0,.int .u8 0,.int .u8 0,.int .u8 0,.int .u8 0,.int .u8 0,.int .u8 0,.int .u8 0,.int .u8 0,.int .u8 0,.int .u8 0,.int .u8 0,.int .u8 0,.int .u8 0,.int .u8 0,.int .u8 0,.int .u8 0,.int .u8 0,.int .u8 0,.int .u8 0] }),
(305,AN),
(308,AN),
(317,VX),
(322,AN)]
instance:B7 Tryz.prog:=⟨dk,QU (by kernel_rfl)⟩
def Fj:List Value:=[.int .u8 0,.int .u8 1,.int .u8 28,.int .u8 2,.int .u8 29,.int .u8 14,.int .u8 24,.int .u8 3,.int .u8 30,.int .u8 22,.int .u8 20,.int .u8 15,.int .u8 25,.int .u8 17,.int .u8 4,.int .u8 8,.int .u8 31,.int .u8 27,.int .u8 13,.int .u8 23,.int .u8 21,.int .u8 19,.int .u8 16,.int .u8 7,.int .u8 26,.int .u8 12,.int .u8 18,.int .u8 6,.int .u8 11,.int .u8 5,.int .u8 10,.int .u8 9]
def Fk:List Value:=[.int .u8 0,.int .u8 1,.int .u8 56,.int .u8 2,.int .u8 57,.int .u8 49,.int .u8 28,.int .u8 3,.int .u8 61,.int .u8 58,.int .u8 42,.int .u8 50,.int .u8 38,.int .u8 29,.int .u8 17,.int .u8 4,.int .u8 62,.int .u8 47,.int .u8 59,.int .u8 36,.int .u8 45,.int .u8 43,.int .u8 51,.int .u8 22,.int .u8 53,.int .u8 39,.int .u8 33,.int .u8 30,.int .u8 24,.int .u8 18,.int .u8 12,.int .u8 5,.int .u8 63,.int .u8 55,.int .u8 48,.int .u8 27,.int .u8 60,.int .u8 41,.int .u8 37,.int .u8 16,.int .u8 46,.int .u8 35,.int .u8 44,.int .u8 21,.int .u8 52,.int .u8 32,.int .u8 23,.int .u8 11,.int .u8 54,.int .u8 26,.int .u8 40,.int .u8 15,.int .u8 34,.int .u8 20,.int .u8 31,.int .u8 10,.int .u8 25,.int .u8 14,.int .u8 19,.int .u8 9,.int .u8 13,.int .u8 8,.int .u8 7,.int .u8 6]
def Lx:List Value:=[.int .u64 1,.int .u64 10,.int .u64 100,.int .u64 1000,.int .u64 10000,.int .u64 100000,.int .u64 1000000,.int .u64 10000000,.int .u64 100000000,.int .u64 1000000000,.int .u64 10000000000,.int .u64 100000000000,.int .u64 1000000000000,.int .u64 10000000000000,.int .u64 100000000000000,.int .u64 1000000000000000,.int .u64 10000000000000000,.int .u64 100000000000000000,.int .u64 1000000000000000000,.int .u64 10000000000000000000]
class cY (TB:Bw):Prop where
 t1:TH TB 1 Fj
 t2:TH TB 2 Fk
theorem mixed:Tryz.prog.follows .mixedOrders=true:=by kernel_rfl
theorem rE{TB:Bw}{Γ:Ctx}{N:Nat}{ops:Array Oper}{Q:Exit→Env→Ab→Nat→Prop}{id:Nat}{f:Env}{σ:Ab}{nx:Nat}(ho:(EC N ops && (A3 ops (Af (IY []) 0 ops.size) (Array.replicate ops.size false) && Jp ops (Af (IY []) 0 ops.size)))=true)
 (h:Lex Tryz.prog TB Γ ops (Af (IY []) 0 ops.size) (fun f σ nx=>Q .normal f σ nx) f σ nx):Ak Tryz.prog TB Γ N (.region id ops true) Q f σ nx:=by rw [Bool.and_eq_true] at ho;exact ba (IY []) mixed ho.1 ho.2 h
theorem rG{TB:Bw}{Γ:Ctx}{N:Nat}{ops:Array Oper}{Q:Exit→Env→Ab→Nat→Prop}{id:Nat}{f:Env}{σ:Ab}{nx:Nat}(fl:Fl)(ho:(EC N ops && (A3 ops (Af fl 0 ops.size) (Array.replicate ops.size false) && Jp ops (Af fl 0 ops.size)))=true)
 (h:Lex Tryz.prog TB Γ ops (Af fl 0 ops.size) (fun f σ nx=>Q .normal f σ nx) f σ nx):Ak Tryz.prog TB Γ N (.region id ops true) Q f σ nx:=by rw [Bool.and_eq_true] at ho;exact ba fl mixed ho.1 ho.2 h
end Go.Am
