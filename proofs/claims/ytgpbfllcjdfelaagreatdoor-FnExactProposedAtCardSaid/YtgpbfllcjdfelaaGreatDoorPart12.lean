/-
  The seat's types, as the rules ask for them.
-/
import Derived.Test.YtgpbfllcjdfelaaGreatDoorPart10
import Derived.Test.YtgpbfllcjdfelaaGreatDoorProg
set_option linter.all false
namespace Go.Am
open Go Go.Proofs
instance:Dl Tryz.prog 3 false 1:=⟨by kernel_rfl⟩
instance:Se Tryz.prog 3 (.int .i64 0):=⟨by kernel_rfl⟩
instance:BQ Tryz.prog 3 [.int .i64 0]:=⟨by kernel_rfl⟩
instance:BQ Tryz.prog 4 [.bool false]:=⟨by kernel_rfl⟩
instance:BQ Tryz.prog 5 [.int .u8 0]:=⟨by kernel_rfl⟩
instance:CD Tryz.prog 9:=⟨by kernel_rfl⟩
instance:BQ Tryz.prog 9 [.string ⟨#[]⟩]:=⟨by kernel_rfl⟩
instance:JN Tryz.prog 21 .i32:=⟨by kernel_rfl⟩
instance:P8 Tryz.prog 22:=⟨5,by kernel_rfl,by kernel_rfl⟩
instance:Ch Tryz.prog 22 5 1 1:=⟨by kernel_rfl⟩
instance:BQ Tryz.prog 26 [.slice none 0 0]:=⟨by kernel_rfl⟩
instance:Ch Tryz.prog 26 53 1 24:=⟨by kernel_rfl⟩
instance:Ch Tryz.prog 27 4 1 1:=⟨by kernel_rfl⟩
instance:Dl Tryz.prog 29 true 3:=⟨by kernel_rfl⟩
instance:BQ Tryz.prog 29 [.int .i64 0,.slice none 0 0,.slice none 0 0]:=⟨by kernel_rfl⟩
instance:IW Tryz.prog 29 [(0,1),(1,1),(2,1)]:=⟨by kernel_rfl⟩
instance:BQ Tryz.prog 44 [.bool false,.int .i64 0,.slice none 0 0,.slice none 0 0,.int .i64 0,.int .i64 0,.slice none 0 0,.int .i64 0,.slice none 0 0,.slice none 0 0,.int .i64 0]:=⟨by kernel_rfl⟩
instance:IW Tryz.prog 44 [(0,1),(1,3),(4,7)]:=⟨by kernel_rfl⟩
instance:Ch Tryz.prog 45 9 1 16:=⟨by kernel_rfl⟩
instance:Dl Tryz.prog 47 true 2:=⟨by kernel_rfl⟩
instance:BQ Tryz.prog 47 [.slice none 0 0,.slice none 0 0]:=⟨by kernel_rfl⟩
instance:IW Tryz.prog 47 [(0,1),(1,1)]:=⟨by kernel_rfl⟩
instance:BQ Tryz.prog 53 [.slice none 0 0]:=⟨by kernel_rfl⟩
instance:Ch Tryz.prog 53 3 1 8:=⟨by kernel_rfl⟩
instance:BQ Tryz.prog 90 [.int .i64 0,.nilFunc]:=⟨by kernel_rfl⟩
instance:IW Tryz.prog 90 [(0,1),(1,1)]:=⟨by kernel_rfl⟩
instance:Ch Tryz.prog 107 109 6 48:=⟨by kernel_rfl⟩
instance:BQ Tryz.prog 109 [.int .i64 0,.int .i64 0,.int .i64 0,.int .i64 0,.int .i64 0,.int .i64 0]:=⟨by kernel_rfl⟩
instance:P9 Tryz.prog 164 9 3:=⟨by kernel_rfl⟩
instance:BQ Tryz.prog 183 [.slice none 0 0,.slice none 0 0,.slice none 0 0,.int .i64 0,.int .i64 0,.int .i64 0]:=⟨by kernel_rfl⟩
instance:IW Tryz.prog 183 [(0,1),(1,1),(2,1),(3,1),(4,1),(5,1)]:=⟨by kernel_rfl⟩
instance:BQ Tryz.prog 216 [.slice none 0 0]:=⟨by kernel_rfl⟩
instance:Ch Tryz.prog 216 218 3 40:=⟨by kernel_rfl⟩
instance:BQ Tryz.prog 218 [.int .i64 0,.int .i64 0,.slice none 0 0]:=⟨by kernel_rfl⟩
instance:IW Tryz.prog 218 [(0,1),(1,1),(2,1)]:=⟨by kernel_rfl⟩
instance:Ch Tryz.prog 229 26 1 24:=⟨by kernel_rfl⟩
def AM:TI:={ ld:=some (false,1),ze:=some [.nilFunc] }
def aA:TI:={ ld:=some (false,1),ik:=some .i64,ze:=some [.int .i64 0] }
def ZP:TI:={ ld:=some (false,1),ik:=some .u64,ze:=some [.int .u64 0] }
def Zh:TI:={ ld:=some (true,3),fl:=[some (0,false,1),some (1,false,1),some (2,false,1)],ze:=some [.int .i64 0,.int .i64 0,.slice none 0 0] }
def ZQ:TI:={ ld:=some (true,3),fl:=[some (0,false,1),some (1,false,1),some (2,false,1)],ze:=some [.int .i64 0,.slice none 0 0,.slice none 0 0] }
def aD:TI:={ ld:=some (true,6),fl:=[some (0,false,1),some (1,true,3),some (4,false,1),some (5,false,1)],ze:=some [.int .i64 0,.int .i64 0,.slice none 0 0,.slice none 0 0,.string ⟨#[]⟩,.int .i64 0] }
def aF:TI:={ ld:=some (true,7),fl:=[some (0,true,3),some (3,true,3),some (6,false,1)],ze:=some [.int .i64 0,.int .i64 0,.slice none 0 0,.int .i64 0,.slice none 0 0,.slice none 0 0,.int .i64 0] }
def aG:TI:={ ld:=some (true,11),fl:=[some (0,false,1),some (1,true,3),some (4,true,7)],ze:=some [.bool false,.int .i64 0,.slice none 0 0,.slice none 0 0,.int .i64 0,.int .i64 0,.slice none 0 0,.int .i64 0,.slice none 0 0,.slice none 0 0,.int .i64 0] }
def Zi:TI:={ ld:=some (true,2),fl:=[some (0,false,1),some (1,false,1)],ze:=some [.slice none 0 0,.slice none 0 0] }
def Y0:TI:={ ld:=some (false,1),pt:=true,ze:=some [.pointer none] }
def YT:TI:={ ld:=some (true,2),fl:=[some (0,false,1),some (1,false,1)],ze:=some [.int .i64 0,.nilFunc] }
def WZ:TI:={ ld:=some (false,1),ze:=some [.map none] }
def YU:TI:={ ld:=some (true,14),fl:=[some (0,true,7),some (7,false,1),some (8,false,1),some (9,false,1),some (10,false,1),some (11,false,1),some (12,false,1),some (13,false,1)],ze:=some [.int .i64 0,.int .i64 0,.slice none 0 0,.int .i64 0,.slice none 0 0,.slice none 0 0,.int .i64 0,.pointer none,.slice none 0 0,.slice none 0 0,.slice none 0 0,.map none,.slice none 0 0,.slice none 0 0] }
def YV:TI:={ ld:=some (true,2),fl:=[some (0,false,1),some (1,false,1)],ze:=some [.slice none 0 0,.int .i64 0] }
def YW:TI:={ ld:=some (true,3),fl:=[some (0,false,1),some (1,false,1),some (2,false,1)],ze:=some [.int .i64 0,.int .i64 0,.int .i64 0] }
def YX:TI:={ ld:=some (true,6),fl:=[some (0,false,1),some (1,false,1),some (2,false,1),some (3,false,1),some (4,false,1),some (5,false,1)],ze:=some [.slice none 0 0,.slice none 0 0,.slice none 0 0,.int .i64 0,.int .i64 0,.int .i64 0] }
def YY:TI:={ ld:=some (true,12),ar:=some (12,1),ze:=some [.int .u16 0,.int .u16 0,.int .u16 0,.int .u16 0,.int .u16 0,.int .u16 0,.int .u16 0,.int .u16 0,.int .u16 0,.int .u16 0,.int .u16 0,.int .u16 0] }
def YZ:TI:={ ld:=some (true,96),ar:=some (16,6),ze:=some [.int .i64 0,.int .i64 0,.int .i64 0,.int .i64 0,.int .i64 0,.int .i64 0,.int .i64 0,.int .i64 0,.int .i64 0,.int .i64 0,.int .i64 0,.int .i64 0,.int .i64 0,.int .i64 0,.int .i64 0,.int .i64 0,.int .i64 0,.int .i64 0,.int .i64 0,.int .i64 0,.int .i64 0,.int .i64 0,.int .i64 0,.int .i64 0,.int .i64 0,.int .i64 0,.int .i64 0,.int .i64 0,.int .i64 0,.int .i64 0,.int .i64 0,.int .i64 0,.int .i64 0,.int .i64 0,.int .i64 0,.int .i64 0,.int .i64 0,.int .i64 0,.int .i64 0,.int .i64 0,.int .i64 0,.int .i64 0,.int .i64 0,.int .i64 0,.int .i64 0,.int .i64 0,.int .i64 0,.int .i64 0,.int .i64 0,.int .i64 0,.int .i64 0,.int .i64 0,.int .i64 0,.int .i64 0,.int .i64 0,.int .i64 0,.int .i64 0,.int .i64 0,.int .i64 0,.int .i64 0,.int .i64 0,.int .i64 0,.int .i64 0,.int .i64 0,.int .i64 0,.int .i64 0,.int .i64 0,.int .i64 0,.int .i64 0,.int .i64 0,.int .i64 0,.int .i64 0,.int .i64 0,.int .i64 0,.int .i64 0,.int .i64 0,.int .i64 0,.int .i64 0,.int .i64 0,.int .i64 0,.int .i64 0,.int .i64 0,.int .i64 0,.int .i64 0,.int .i64 0,.int .i64 0,.int .i64 0,.int .i64 0,.int .i64 0,.int .i64 0,.int .i64 0,.int .i64 0,.int .i64 0,.int .i64 0,.int .i64 0,.int .i64 0] }
def aZ:List (Nat×TI):=[(1,AM),
(2,aA),
(3,aA),
(4,{ ld:=some (false,1),bo:=true,ze:=some [.bool false] }),
(5,{ ld:=some (false,1),ik:=some .u8,ze:=some [.int .u8 0] }),
(9,{ ld:=some (false,1),st:=true,ze:=some [.string ⟨#[]⟩] }),
(12,ZP),
(13,{ ld:=some (true,2),fl:=[some (0,false,1),some (1,false,1)],ze:=some [.string ⟨#[]⟩,.int .u64 0] }),
(21,{ ld:=some (false,1),ik:=some .i32,ze:=some [.int .i32 0] }),
(22,{ ld:=some (false,1),sl:=some (5,1,1),ze:=some [.slice none 0 0] }),
(23,{ ld:=some (false,1),sl:=some (158,3,24),ze:=some [.slice none 0 0] }),
(24,Zh),
(25,Zh),
(26,{ ld:=some (false,1),sl:=some (53,1,24),ze:=some [.slice none 0 0] }),
(27,{ ld:=some (false,1),sl:=some (4,1,1),ze:=some [.slice none 0 0] }),
(28,ZQ),
(29,ZQ),
(31,AM),
(33,AM),
(34,aD),
(35,aD),
(36,AM),
(37,AM),
(38,AM),
(39,AM),
(40,AM),
(41,aF),
(42,aF),
(43,aG),
(44,aG),
(45,{ ld:=some (false,1),sl:=some (9,1,16),ze:=some [.slice none 0 0] }),
(46,Zi),
(47,Zi),
(49,AM),
(50,AM),
(51,AM),
(52,AM),
(53,{ ld:=some (false,1),sl:=some (3,1,8),ze:=some [.slice none 0 0] }),
(54,AM),
(55,AM),
(56,ZQ),
(57,AM),
(58,AM),
(59,AM),
(60,AM),
(61,AM),
(62,AM),
(64,AM),
(66,AM),
(67,AM),
(69,AM),
(70,AM),
(71,AM),
(72,AM),
(73,AM),
(74,Y0),
(75,AM),
(76,AM),
(77,AM),
(78,AM),
(79,AM),
(81,AM),
(82,AM),
(83,AM),
(84,AM),
(85,AM),
(86,AM),
(87,AM),
(88,AM),
(89,YT),
(90,YT),
(92,AM),
(93,AM),
(94,AM),
(95,AM),
(96,AM),
(97,AM),
(98,AM),
(99,AM),
(100,AM),
(102,AM),
(103,AM),
(104,AM),
(105,AM),
(106,AM),
(107,{ ld:=some (false,1),sl:=some (109,6,48),ze:=some [.slice none 0 0] }),
(108,AM),
(109,{ ld:=some (true,6),ar:=some (6,1),ze:=some [.int .i64 0,.int .i64 0,.int .i64 0,.int .i64 0,.int .i64 0,.int .i64 0] }),
(110,AM),
(111,AM),
(112,AM),
(113,AM),
(114,AM),
(116,AM),
(117,AM),
(118,AM),
(119,AM),
(120,AM),
(121,AM),
(122,AM),
(123,AM),
(124,Y0),
(125,AM),
(126,AM),
(127,Y0),
(128,{ ld:=some (false,1),sl:=some (189,12,24),ze:=some [.slice none 0 0] }),
(129,WZ),
(130,YU),
(131,YU),
(133,AM),
(134,AM),
(135,AM),
(136,YV),
(137,YV),
(139,AM),
(140,AM),
(142,AM),
(143,AM),
(144,AM),
(145,AM),
(146,AM),
(147,AM),
(148,{ ld:=some (false,1),sl:=some (25,3,40),ze:=some [.slice none 0 0] }),
(149,AM),
(150,AM),
(152,AM),
(153,AM),
(154,AM),
(155,AM),
(156,AM),
(157,YW),
(158,YW),
(159,AM),
(160,AM),
(161,AM),
(162,AM),
(163,AM),
(164,WZ),
(165,AM),
(166,AM),
(167,AM),
(168,AM),
(169,AM),
(170,AM),
(171,AM),
(172,AM),
(174,AM),
(175,AM),
(176,AM),
(177,AM),
(178,AM),
(179,AM),
(180,AM),
(181,{ ld:=some (false,1),sl:=some (29,3,56),ze:=some [.slice none 0 0] }),
(182,YX),
(183,YX),
(184,AM),
(185,AM),
(186,AM),
(187,{ ld:=some (false,1),ik:=some .u16,ze:=some [.int .u16 0] }),
(188,YY),
(189,YY),
(190,AM),
(191,AM),
(192,WZ),
(194,AM),
(195,AM),
(196,AM),
(197,AM),
(198,AM),
(199,AM),
(200,AM),
(202,AM),
(203,AM),
(204,{ ld:=some (false,1),sl:=some (45,1,24),ze:=some [.slice none 0 0] }),
(205,AM),
(206,AM),
(207,AM),
(208,AM),
(209,Y0),
(210,AM),
(211,AM),
(212,AM),
(213,AM),
(214,AM),
(215,AM),
(216,{ ld:=some (false,1),sl:=some (218,3,40),ze:=some [.slice none 0 0] }),
(217,Zh),
(218,Zh),
(219,AM),
(220,AM),
(221,AM),
(222,AM),
(223,ZP),
(224,AM),
(225,AM),
(226,AM),
(227,AM),
(228,AM),
(229,{ ld:=some (false,1),sl:=some (26,1,24),ze:=some [.slice none 0 0] }),
(230,AM),
(231,AM),
(232,AM),
(233,AM),
(234,AM),
(235,AM),
(236,YZ),
(237,YZ),
(238,AM),
(239,AM),
(240,AM),
(242,AM),
(243,AM),
(245,AM),
(246,AM),
(247,AM),
(248,AM),
(249,AM),
(250,AM),
(251,AM),
(252,AM),
(253,AM),
(254,{ ld:=some (false,1),sl:=some (127,1,8),ze:=some [.slice none 0 0] }),
(255,Zi),
(256,Zi),
(257,AM),
(258,AM),
(259,AM),
(260,AM),
(261,AM),
(262,AM),
(263,AM),
(264,AM),
(265,AM),
(266,AM),
(267,AM),
(268,AM),
(269,AM),
(270,AM),
(271,{ ld:=some (true,24),ar:=some (24,1),ze:=some [.int .u8 0,.int .u8 0,.int .u8 0,.int .u8 0,.int .u8 0,.int .u8 0,.int .u8 0,.int .u8 0,.int .u8 0,.int .u8 0,.int .u8 0,.int .u8 0,.int .u8 0,.int .u8 0,.int .u8 0,.int .u8 0,.int .u8 0,.int .u8 0,.int .u8 0,.int .u8 0,.int .u8 0,.int .u8 0,.int .u8 0,.int .u8 0] }),
(272,ZP),
(273,AM),
(274,AM),
(276,AM),
(277,AM),
(278,AM),
(279,{ ld:=some (false,1),ik:=some .u32,ze:=some [.int .u32 0] }),
(280,AM),
(281,{ ld:=some (true,20),ar:=some (20,1),ze:=some [.int .u64 0,.int .u64 0,.int .u64 0,.int .u64 0,.int .u64 0,.int .u64 0,.int .u64 0,.int .u64 0,.int .u64 0,.int .u64 0,.int .u64 0,.int .u64 0,.int .u64 0,.int .u64 0,.int .u64 0,.int .u64 0,.int .u64 0,.int .u64 0,.int .u64 0,.int .u64 0] }),
(282,{ ld:=some (true,65),ar:=some (65,1),ze:=some [.int .u8 0,.int .u8 0,.int .u8 0,.int .u8 0,.int .u8 0,.int .u8 0,.int .u8 0,.int .u8 0,.int .u8 0,.int .u8 0,.int .u8 0,.int .u8 0,.int .u8 0,.int .u8 0,.int .u8 0,.int .u8 0,.int .u8 0,.int .u8 0,.int .u8 0,.int .u8 0,.int .u8 0,.int .u8 0,.int .u8 0,.int .u8 0,.int .u8 0,.int .u8 0,.int .u8 0,.int .u8 0,.int .u8 0,.int .u8 0,.int .u8 0,.int .u8 0,.int .u8 0,.int .u8 0,.int .u8 0,.int .u8 0,.int .u8 0,.int .u8 0,.int .u8 0,.int .u8 0,.int .u8 0,.int .u8 0,.int .u8 0,.int .u8 0,.int .u8 0,.int .u8 0,.int .u8 0,.int .u8 0,.int .u8 0,.int .u8 0,.int .u8 0,.int .u8 0,.int .u8 0,.int .u8 0,.int .u8 0,.int .u8 0,.int .u8 0,.int .u8 0,.int .u8 0,.int .u8 0,.int .u8 0,.int .u8 0,.int .u8 0,.int .u8 0,.int .u8 0] }),
(285,AM),
(294,Y0),
(299,AM)]
instance:BY Tryz.prog:=⟨aZ,Qg (by kernel_rfl)⟩
def EX:List Value:=[.int .u8 0,.int .u8 1,.int .u8 28,.int .u8 2,.int .u8 29,.int .u8 14,.int .u8 24,.int .u8 3,.int .u8 30,.int .u8 22,.int .u8 20,.int .u8 15,.int .u8 25,.int .u8 17,.int .u8 4,.int .u8 8,.int .u8 31,.int .u8 27,.int .u8 13,.int .u8 23,.int .u8 21,.int .u8 19,.int .u8 16,.int .u8 7,.int .u8 26,.int .u8 12,.int .u8 18,.int .u8 6,.int .u8 11,.int .u8 5,.int .u8 10,.int .u8 9]
def EY:List Value:=[.int .u8 0,.int .u8 1,.int .u8 56,.int .u8 2,.int .u8 57,.int .u8 49,.int .u8 28,.int .u8 3,.int .u8 61,.int .u8 58,.int .u8 42,.int .u8 50,.int .u8 38,.int .u8 29,.int .u8 17,.int .u8 4,.int .u8 62,.int .u8 47,.int .u8 59,.int .u8 36,.int .u8 45,.int .u8 43,.int .u8 51,.int .u8 22,.int .u8 53,.int .u8 39,.int .u8 33,.int .u8 30,.int .u8 24,.int .u8 18,.int .u8 12,.int .u8 5,.int .u8 63,.int .u8 55,.int .u8 48,.int .u8 27,.int .u8 60,.int .u8 41,.int .u8 37,.int .u8 16,.int .u8 46,.int .u8 35,.int .u8 44,.int .u8 21,.int .u8 52,.int .u8 32,.int .u8 23,.int .u8 11,.int .u8 54,.int .u8 26,.int .u8 40,.int .u8 15,.int .u8 34,.int .u8 20,.int .u8 31,.int .u8 10,.int .u8 25,.int .u8 14,.int .u8 19,.int .u8 9,.int .u8 13,.int .u8 8,.int .u8 7,.int .u8 6]
def Lb:List Value:=[.int .u64 1,.int .u64 10,.int .u64 100,.int .u64 1000,.int .u64 10000,.int .u64 100000,.int .u64 1000000,.int .u64 10000000,.int .u64 100000000,.int .u64 1000000000,.int .u64 10000000000,.int .u64 100000000000,.int .u64 1000000000000,.int .u64 10000000000000,.int .u64 100000000000000,.int .u64 1000000000000000,.int .u64 10000000000000000,.int .u64 100000000000000000,.int .u64 1000000000000000000,.int .u64 10000000000000000000]
class Um (TB:Bg):Prop where
 t1:Sd TB 1 EX
 t2:Sd TB 2 EY
theorem mixed:Tryz.prog.follows .mixedOrders=true:=by kernel_rfl
theorem rE{TB:Bg}{Z:Ctx}{N:Nat}{ops:Array Oper}{Q:Exit->Env->Ab->Nat->Prop}{id:Nat}{f:Env}{σ:Ab}{nx:Nat}(a:(Es N ops && (AY ops (Af (LU []) 0 ops.size) (Array.replicate ops.size false) && ID ops (Af (LU []) 0 ops.size)))=true)
 (h:Lex Tryz.prog TB Z ops (Af (LU []) 0 ops.size) (λf σ nx=>Q .normal f σ nx) f σ nx):Al Tryz.prog TB Z N (.region id ops true) Q f σ nx:=by rw [bu] at a;exact YO (LU []) mixed a.1 a.2 h
theorem rG{TB:Bg}{Z:Ctx}{N:Nat}{ops:Array Oper}{Q:Exit->Env->Ab->Nat->Prop}{id:Nat}{f:Env}{σ:Ab}{nx:Nat}(fl:Fl)(a:(Es N ops && (AY ops (Af fl 0 ops.size) (Array.replicate ops.size false) && ID ops (Af fl 0 ops.size)))=true)
 (h:Lex Tryz.prog TB Z ops (Af fl 0 ops.size) (λf σ nx=>Q .normal f σ nx) f σ nx):Al Tryz.prog TB Z N (.region id ops true) Q f σ nx:=by rw [bu] at a;exact YO fl mixed a.1 a.2 h
end Go.Am
