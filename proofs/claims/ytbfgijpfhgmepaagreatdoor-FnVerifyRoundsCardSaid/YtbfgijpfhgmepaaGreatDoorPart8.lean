/-
  The seat's types, as the rules ask for them.
-/
import Derived.Test.YtbfgijpfhgmepaaGreatDoorPart7
import Derived.Test.YtbfgijpfhgmepaaGreatDoorProg
import Derived.KernelRfl
set_option linter.constructorNameAsVariable false
set_option linter.unusedSectionVars false
set_option linter.unusedSimpArgs false
set_option linter.unusedVariables false
namespace Go.Am
open Go Go.Proofs
instance:DL Tryz.prog 3 false 1:=⟨by kernel_rfl⟩
instance:J7 Tryz.prog 3 .i64:=⟨by kernel_rfl⟩
instance:Qq Tryz.prog 3 (.int .i64 0):=⟨by kernel_rfl⟩
instance:BM Tryz.prog 3 [.int .i64 0]:=⟨by kernel_rfl⟩
instance:BM Tryz.prog 4 [.bool false]:=⟨by kernel_rfl⟩
instance:BM Tryz.prog 5 [.int .u8 0]:=⟨by kernel_rfl⟩
instance:DQ Tryz.prog 9:=⟨by kernel_rfl⟩
instance:BM Tryz.prog 9 [.string ⟨#[]⟩]:=⟨by kernel_rfl⟩
instance:J7 Tryz.prog 21 .i32:=⟨by kernel_rfl⟩
instance:Xi Tryz.prog 22:=⟨5,by kernel_rfl,by kernel_rfl⟩
instance:CO Tryz.prog 22 5 1 1:=⟨by kernel_rfl⟩
instance:CO Tryz.prog 23 126 3 24:=⟨by kernel_rfl⟩
instance:DL Tryz.prog 25 true 3:=⟨by kernel_rfl⟩
instance:BM Tryz.prog 25 [.int .i64 0,.int .i64 0,.slice none 0 0]:=⟨by kernel_rfl⟩
instance:Ez Tryz.prog 25 [(0,1),(1,1),(2,1)]:=⟨by kernel_rfl⟩
instance:BM Tryz.prog 26 [.slice none 0 0]:=⟨by kernel_rfl⟩
instance:CO Tryz.prog 26 62 1 24:=⟨by kernel_rfl⟩
instance:CO Tryz.prog 27 4 1 1:=⟨by kernel_rfl⟩
instance:DL Tryz.prog 29 true 3:=⟨by kernel_rfl⟩
instance:BM Tryz.prog 29 [.int .i64 0,.slice none 0 0,.slice none 0 0]:=⟨by kernel_rfl⟩
instance:Ez Tryz.prog 29 [(0,1),(1,1),(2,1)]:=⟨by kernel_rfl⟩
instance:BM Tryz.prog 35 [.int .i64 0,.int .i64 0,.slice none 0 0,.slice none 0 0,.string ⟨#[]⟩,.int .i64 0]:=⟨by kernel_rfl⟩
instance:Ez Tryz.prog 35 [(0,1),(1,3),(4,1),(5,1)]:=⟨by kernel_rfl⟩
instance:BM Tryz.prog 62 [.slice none 0 0]:=⟨by kernel_rfl⟩
instance:CO Tryz.prog 62 3 1 8:=⟨by kernel_rfl⟩
instance:BM Tryz.prog 82 [.slice none 0 0,.int .i64 0]:=⟨by kernel_rfl⟩
instance:Ez Tryz.prog 82 [(0,1),(1,1)]:=⟨by kernel_rfl⟩
instance:BM Tryz.prog 87 [.int .i64 0,.int .i64 0,.slice none 0 0,.int .i64 0,.slice none 0 0,.slice none 0 0,.int .i64 0]:=⟨by kernel_rfl⟩
instance:Ez Tryz.prog 87 [(0,3),(3,3),(6,1)]:=⟨by kernel_rfl⟩
instance:BM Tryz.prog 92 [.int .i64 0,.nilFunc]:=⟨by kernel_rfl⟩
instance:Ez Tryz.prog 92 [(0,1),(1,1)]:=⟨by kernel_rfl⟩
instance:BM Tryz.prog 96 [.bool false,.int .i64 0,.slice none 0 0,.slice none 0 0,.int .i64 0,.int .i64 0,.slice none 0 0,.int .i64 0,.slice none 0 0,.slice none 0 0,.int .i64 0]:=⟨by kernel_rfl⟩
instance:Ez Tryz.prog 96 [(0,1),(1,3),(4,7)]:=⟨by kernel_rfl⟩
instance:CO Tryz.prog 97 9 1 16:=⟨by kernel_rfl⟩
instance:DL Tryz.prog 99 true 2:=⟨by kernel_rfl⟩
instance:BM Tryz.prog 99 [.slice none 0 0,.slice none 0 0]:=⟨by kernel_rfl⟩
instance:Ez Tryz.prog 99 [(0,1),(1,1)]:=⟨by kernel_rfl⟩
instance:CO Tryz.prog 117 121 6 48:=⟨by kernel_rfl⟩
instance:BM Tryz.prog 121 [.int .i64 0,.int .i64 0,.int .i64 0,.int .i64 0,.int .i64 0,.int .i64 0]:=⟨by kernel_rfl⟩
instance:Ez Tryz.prog 121 [(0,1),(1,1),(2,1),(3,1),(4,1),(5,1)]:=⟨by kernel_rfl⟩
instance:BM Tryz.prog 126 [.int .i64 0,.int .i64 0,.int .i64 0]:=⟨by kernel_rfl⟩
instance:Ez Tryz.prog 126 [(0,1),(1,1),(2,1)]:=⟨by kernel_rfl⟩
instance:KH Tryz.prog 149 9 3:=⟨by kernel_rfl⟩
instance:BM Tryz.prog 169 [.slice none 0 0,.slice none 0 0,.slice none 0 0,.int .i64 0,.int .i64 0,.int .i64 0]:=⟨by kernel_rfl⟩
instance:Ez Tryz.prog 169 [(0,1),(1,1),(2,1),(3,1),(4,1),(5,1)]:=⟨by kernel_rfl⟩
instance:BM Tryz.prog 173 [.slice none 0 0]:=⟨by kernel_rfl⟩
instance:CO Tryz.prog 173 175 3 40:=⟨by kernel_rfl⟩
instance:BM Tryz.prog 175 [.int .i64 0,.int .i64 0,.slice none 0 0]:=⟨by kernel_rfl⟩
instance:Ez Tryz.prog 175 [(0,1),(1,1),(2,1)]:=⟨by kernel_rfl⟩
instance:BM Tryz.prog 190 [.pointer none]:=⟨by kernel_rfl⟩
instance:KH Tryz.prog 192 199 3:=⟨by kernel_rfl⟩
instance:CO Tryz.prog 193 199 12 24:=⟨by kernel_rfl⟩
instance:BM Tryz.prog 195 [.int .i64 0,.int .i64 0,.slice none 0 0,.int .i64 0,.slice none 0 0,.slice none 0 0,.int .i64 0,.pointer none,.slice none 0 0,.slice none 0 0,.slice none 0 0,.map none,.slice none 0 0,.slice none 0 0]:=⟨by kernel_rfl⟩
instance:Ez Tryz.prog 195 [(0,7),(7,1),(8,1),(9,1),(10,1),(11,1),(12,1),(13,1)]:=⟨by kernel_rfl⟩
instance:DL Tryz.prog 197 false 1:=⟨by kernel_rfl⟩
instance:J7 Tryz.prog 197 .u16:=⟨by kernel_rfl⟩
instance:BM Tryz.prog 199 [.int .u16 0,.int .u16 0,.int .u16 0,.int .u16 0,.int .u16 0,.int .u16 0,.int .u16 0,.int .u16 0,.int .u16 0,.int .u16 0,.int .u16 0,.int .u16 0]:=⟨by kernel_rfl⟩
instance:Ez Tryz.prog 199 [(0,1),(1,1),(2,1),(3,1),(4,1),(5,1),(6,1),(7,1),(8,1),(9,1),(10,1),(11,1)]:=⟨by kernel_rfl⟩
instance:CO Tryz.prog 203 190 1 8:=⟨by kernel_rfl⟩
instance:DL Tryz.prog 205 true 2:=⟨by kernel_rfl⟩
instance:BM Tryz.prog 205 [.slice none 0 0,.slice none 0 0]:=⟨by kernel_rfl⟩
instance:Ez Tryz.prog 205 [(0,1),(1,1)]:=⟨by kernel_rfl⟩
instance:CO Tryz.prog 220 26 1 24:=⟨by kernel_rfl⟩
instance:Qp Tryz.prog 256 64 1:=⟨by kernel_rfl⟩
def Bp:TI:={ ld:=some (false,1),ze:=some [.nilFunc] }
def mB:TI:={ ld:=some (false,1),ik:=some .i64,ze:=some [.int .i64 0] }
def lY:TI:={ ld:=some (false,1),ik:=some .u64,ze:=some [.int .u64 0] }
def jv:TI:={ ld:=some (true,3),fl:=[some (0,false,1),some (1,false,1),some (2,false,1)],ze:=some [.int .i64 0,.int .i64 0,.slice none 0 0] }
def lZ:TI:={ ld:=some (true,3),fl:=[some (0,false,1),some (1,false,1),some (2,false,1)],ze:=some [.int .i64 0,.slice none 0 0,.slice none 0 0] }
def mC:TI:={ ld:=some (true,6),fl:=[some (0,false,1),some (1,true,3),some (4,false,1),some (5,false,1)],ze:=some [.int .i64 0,.int .i64 0,.slice none 0 0,.slice none 0 0,.string ⟨#[]⟩,.int .i64 0] }
def kX:TI:={ ld:=some (false,1),pt:=true,ze:=some [.pointer none] }
def mD:TI:={ ld:=some (true,2),fl:=[some (0,false,1),some (1,false,1)],ze:=some [.slice none 0 0,.int .i64 0] }
def mE:TI:={ ld:=some (true,7),fl:=[some (0,true,3),some (3,true,3),some (6,false,1)],ze:=some [.int .i64 0,.int .i64 0,.slice none 0 0,.int .i64 0,.slice none 0 0,.slice none 0 0,.int .i64 0] }
def mF:TI:={ ld:=some (true,2),fl:=[some (0,false,1),some (1,false,1)],ze:=some [.int .i64 0,.nilFunc] }
def kS:TI:={ ld:=some (true,11),fl:=[some (0,false,1),some (1,true,3),some (4,true,7)],ze:=some [.bool false,.int .i64 0,.slice none 0 0,.slice none 0 0,.int .i64 0,.int .i64 0,.slice none 0 0,.int .i64 0,.slice none 0 0,.slice none 0 0,.int .i64 0] }
def fV:TI:={ ld:=some (true,2),fl:=[some (0,false,1),some (1,false,1)],ze:=some [.slice none 0 0,.slice none 0 0] }
def jg:TI:={ ld:=some (true,3),fl:=[some (0,false,1),some (1,false,1),some (2,false,1)],ze:=some [.int .i64 0,.int .i64 0,.int .i64 0] }
def jh:TI:={ ld:=some (false,1),ze:=some [.map none] }
def kT:TI:={ ld:=some (true,6),fl:=[some (0,false,1),some (1,false,1),some (2,false,1),some (3,false,1),some (4,false,1),some (5,false,1)],ze:=some [.slice none 0 0,.slice none 0 0,.slice none 0 0,.int .i64 0,.int .i64 0,.int .i64 0] }
def kU:TI:={ ld:=some (true,14),fl:=[some (0,true,7),some (7,false,1),some (8,false,1),some (9,false,1),some (10,false,1),some (11,false,1),some (12,false,1),some (13,false,1)],ze:=some [.int .i64 0,.int .i64 0,.slice none 0 0,.int .i64 0,.slice none 0 0,.slice none 0 0,.int .i64 0,.pointer none,.slice none 0 0,.slice none 0 0,.slice none 0 0,.map none,.slice none 0 0,.slice none 0 0] }
def kV:TI:={ ld:=some (true,12),ar:=some (12,1),ze:=some [.int .u16 0,.int .u16 0,.int .u16 0,.int .u16 0,.int .u16 0,.int .u16 0,.int .u16 0,.int .u16 0,.int .u16 0,.int .u16 0,.int .u16 0,.int .u16 0] }
def kW:TI:={ ld:=some (true,96),ar:=some (16,6),ze:=some [.int .i64 0,.int .i64 0,.int .i64 0,.int .i64 0,.int .i64 0,.int .i64 0,.int .i64 0,.int .i64 0,.int .i64 0,.int .i64 0,.int .i64 0,.int .i64 0,.int .i64 0,.int .i64 0,.int .i64 0,.int .i64 0,.int .i64 0,.int .i64 0,.int .i64 0,.int .i64 0,.int .i64 0,.int .i64 0,.int .i64 0,.int .i64 0,.int .i64 0,.int .i64 0,.int .i64 0,.int .i64 0,.int .i64 0,.int .i64 0,.int .i64 0,.int .i64 0,.int .i64 0,.int .i64 0,.int .i64 0,.int .i64 0,.int .i64 0,.int .i64 0,.int .i64 0,.int .i64 0,.int .i64 0,.int .i64 0,.int .i64 0,.int .i64 0,.int .i64 0,.int .i64 0,.int .i64 0,.int .i64 0,.int .i64 0,.int .i64 0,.int .i64 0,.int .i64 0,.int .i64 0,.int .i64 0,.int .i64 0,.int .i64 0,.int .i64 0,.int .i64 0,.int .i64 0,.int .i64 0,.int .i64 0,.int .i64 0,.int .i64 0,.int .i64 0,.int .i64 0,.int .i64 0,.int .i64 0,.int .i64 0,.int .i64 0,.int .i64 0,.int .i64 0,.int .i64 0,.int .i64 0,.int .i64 0,.int .i64 0,.int .i64 0,.int .i64 0,.int .i64 0,.int .i64 0,.int .i64 0,.int .i64 0,.int .i64 0,.int .i64 0,.int .i64 0,.int .i64 0,.int .i64 0,.int .i64 0,.int .i64 0,.int .i64 0,.int .i64 0,.int .i64 0,.int .i64 0,.int .i64 0,.int .i64 0,.int .i64 0,.int .i64 0] }
def mZ:List (Nat×TI):=[(1,Bp),
(2,mB),
(3,mB),
(4,{ ld:=some (false,1),bo:=true,ze:=some [.bool false] }),
(5,{ ld:=some (false,1),ik:=some .u8,ze:=some [.int .u8 0] }),
(9,{ ld:=some (false,1),st:=true,ze:=some [.string ⟨#[]⟩] }),
(12,lY),
(13,{ ld:=some (true,2),fl:=[some (0,false,1),some (1,false,1)],ze:=some [.string ⟨#[]⟩,.int .u64 0] }),
(21,{ ld:=some (false,1),ik:=some .i32,ze:=some [.int .i32 0] }),
(22,{ ld:=some (false,1),sl:=some (5,1,1),ze:=some [.slice none 0 0] }),
(23,{ ld:=some (false,1),sl:=some (126,3,24),ze:=some [.slice none 0 0] }),
(24,jv),
(25,jv),
(26,{ ld:=some (false,1),sl:=some (62,1,24),ze:=some [.slice none 0 0] }),
(27,{ ld:=some (false,1),sl:=some (4,1,1),ze:=some [.slice none 0 0] }),
(28,lZ),
(29,lZ),
(31,Bp),
(33,Bp),
(34,mC),
(35,mC),
(36,Bp),
(37,Bp),
(38,Bp),
(39,Bp),
(40,Bp),
(41,{ ld:=some (false,1),sl:=some (132,3,24),ze:=some [.slice none 0 0] }),
(42,jv),
(43,jv),
(44,lZ),
(45,Bp),
(46,Bp),
(47,Bp),
(48,Bp),
(49,Bp),
(50,Bp),
(51,Bp),
(52,Bp),
(53,Bp),
(54,Bp),
(55,Bp),
(57,Bp),
(58,kX),
(59,Bp),
(60,Bp),
(61,Bp),
(62,{ ld:=some (false,1),sl:=some (3,1,8),ze:=some [.slice none 0 0] }),
(63,Bp),
(64,Bp),
(66,Bp),
(67,Bp),
(68,Bp),
(69,Bp),
(70,Bp),
(71,Bp),
(72,Bp),
(73,Bp),
(74,Bp),
(75,Bp),
(76,Bp),
(77,Bp),
(78,Bp),
(79,Bp),
(80,Bp),
(81,mD),
(82,mD),
(84,Bp),
(85,Bp),
(86,mE),
(87,mE),
(89,Bp),
(90,Bp),
(91,mF),
(92,mF),
(94,Bp),
(95,kS),
(96,kS),
(97,{ ld:=some (false,1),sl:=some (9,1,16),ze:=some [.slice none 0 0] }),
(98,fV),
(99,fV),
(101,Bp),
(102,Bp),
(104,Bp),
(105,Bp),
(106,Bp),
(107,Bp),
(108,{ ld:=some (false,1),sl:=some (25,3,40),ze:=some [.slice none 0 0] }),
(109,Bp),
(110,Bp),
(111,Bp),
(113,Bp),
(114,Bp),
(115,Bp),
(116,Bp),
(117,{ ld:=some (false,1),sl:=some (121,6,48),ze:=some [.slice none 0 0] }),
(118,Bp),
(120,Bp),
(121,{ ld:=some (true,6),ar:=some (6,1),ze:=some [.int .i64 0,.int .i64 0,.int .i64 0,.int .i64 0,.int .i64 0,.int .i64 0] }),
(122,Bp),
(123,Bp),
(124,Bp),
(125,jg),
(126,jg),
(127,Bp),
(128,Bp),
(129,Bp),
(130,Bp),
(131,Bp),
(132,jg),
(133,Bp),
(134,Bp),
(135,Bp),
(136,{ ld:=some (false,1),sl:=some (97,1,24),ze:=some [.slice none 0 0] }),
(137,Bp),
(139,Bp),
(140,Bp),
(141,Bp),
(142,Bp),
(143,Bp),
(144,Bp),
(145,Bp),
(146,kX),
(147,Bp),
(148,Bp),
(149,jh),
(150,Bp),
(151,Bp),
(152,Bp),
(153,Bp),
(154,kX),
(155,Bp),
(156,Bp),
(157,Bp),
(158,Bp),
(159,Bp),
(160,Bp),
(161,Bp),
(162,Bp),
(163,Bp),
(164,Bp),
(165,Bp),
(166,Bp),
(167,{ ld:=some (false,1),sl:=some (29,3,56),ze:=some [.slice none 0 0] }),
(168,kT),
(169,kT),
(170,Bp),
(171,jh),
(173,{ ld:=some (false,1),sl:=some (175,3,40),ze:=some [.slice none 0 0] }),
(174,jv),
(175,jv),
(176,Bp),
(177,Bp),
(178,Bp),
(179,Bp),
(180,Bp),
(181,Bp),
(182,Bp),
(184,Bp),
(185,Bp),
(187,Bp),
(188,Bp),
(189,Bp),
(190,kX),
(191,Bp),
(192,jh),
(193,{ ld:=some (false,1),sl:=some (199,12,24),ze:=some [.slice none 0 0] }),
(194,kU),
(195,kU),
(196,Bp),
(197,{ ld:=some (false,1),ik:=some .u16,ze:=some [.int .u16 0] }),
(198,kV),
(199,kV),
(200,Bp),
(201,Bp),
(202,Bp),
(203,{ ld:=some (false,1),sl:=some (190,1,8),ze:=some [.slice none 0 0] }),
(204,fV),
(205,fV),
(206,Bp),
(207,Bp),
(208,Bp),
(209,Bp),
(210,lY),
(211,Bp),
(212,Bp),
(213,Bp),
(214,Bp),
(215,Bp),
(216,Bp),
(217,Bp),
(218,Bp),
(219,Bp),
(220,{ ld:=some (false,1),sl:=some (26,1,24),ze:=some [.slice none 0 0] }),
(221,Bp),
(222,Bp),
(223,Bp),
(224,Bp),
(225,Bp),
(226,Bp),
(227,Bp),
(228,Bp),
(229,Bp),
(230,Bp),
(231,Bp),
(232,Bp),
(233,Bp),
(234,Bp),
(235,kW),
(236,kW),
(237,Bp),
(238,Bp),
(239,Bp),
(240,Bp),
(241,Bp),
(242,Bp),
(243,Bp),
(244,Bp),
(245,Bp),
(246,Bp),
(247,Bp),
(248,Bp),
(249,Bp),
(250,Bp),
(251,Bp),
(252,{ ld:=some (false,1),ik:=some .u32,ze:=some [.int .u32 0] }),
(253,Bp),
(254,lY),
(257,Bp),
(266,kX),
(271,Bp)]
instance:C7 Tryz.prog:=⟨mZ,Xp (by kernel_rfl)⟩
def CC:List Value:=[.int .u8 0,.int .u8 1,.int .u8 28,.int .u8 2,.int .u8 29,.int .u8 14,.int .u8 24,.int .u8 3,.int .u8 30,.int .u8 22,.int .u8 20,.int .u8 15,.int .u8 25,.int .u8 17,.int .u8 4,.int .u8 8,.int .u8 31,.int .u8 27,.int .u8 13,.int .u8 23,.int .u8 21,.int .u8 19,.int .u8 16,.int .u8 7,.int .u8 26,.int .u8 12,.int .u8 18,.int .u8 6,.int .u8 11,.int .u8 5,.int .u8 10,.int .u8 9]
def BC:List Value:=[.int .u8 0,.int .u8 1,.int .u8 56,.int .u8 2,.int .u8 57,.int .u8 49,.int .u8 28,.int .u8 3,.int .u8 61,.int .u8 58,.int .u8 42,.int .u8 50,.int .u8 38,.int .u8 29,.int .u8 17,.int .u8 4,.int .u8 62,.int .u8 47,.int .u8 59,.int .u8 36,.int .u8 45,.int .u8 43,.int .u8 51,.int .u8 22,.int .u8 53,.int .u8 39,.int .u8 33,.int .u8 30,.int .u8 24,.int .u8 18,.int .u8 12,.int .u8 5,.int .u8 63,.int .u8 55,.int .u8 48,.int .u8 27,.int .u8 60,.int .u8 41,.int .u8 37,.int .u8 16,.int .u8 46,.int .u8 35,.int .u8 44,.int .u8 21,.int .u8 52,.int .u8 32,.int .u8 23,.int .u8 11,.int .u8 54,.int .u8 26,.int .u8 40,.int .u8 15,.int .u8 34,.int .u8 20,.int .u8 31,.int .u8 10,.int .u8 25,.int .u8 14,.int .u8 19,.int .u8 9,.int .u8 13,.int .u8 8,.int .u8 7,.int .u8 6]
class Dt (TB:Bz):Prop where
 t0:Mb TB 0 CC
 t1:Mb TB 1 BC
instance {TB:Bz}[h:Dt TB]:Mb TB 1 BC:=h.t1
theorem mixed:Tryz.prog.follows .mixedOrders=true:=by kernel_rfl
theorem rE{TB:Bz}{Z:Ctx}{N:Nat}{ops:Array Oper}{Q:Exit->Env->Ab->Nat->Prop}{id:Nat}{f:Env}{σ:Ab}{nx:Nat}(a:(GZ N ops && (Bs ops (Av (Gj []) 0 ops.size) (Array.replicate ops.size false) && MC ops (Av (Gj []) 0 ops.size)))=true)
 (h:Lex Tryz.prog TB Z ops (Av (Gj []) 0 ops.size) (λf σ nx=>Q .normal f σ nx) f σ nx):Aj Tryz.prog TB Z N (.region id ops true) Q f σ nx:=by rw [d4] at a;exact kO (Gj []) mixed a.1 a.2 h
theorem rG{TB:Bz}{Z:Ctx}{N:Nat}{ops:Array Oper}{Q:Exit->Env->Ab->Nat->Prop}{id:Nat}{f:Env}{σ:Ab}{nx:Nat}(fl:Fl)(a:(GZ N ops && (Bs ops (Av fl 0 ops.size) (Array.replicate ops.size false) && MC ops (Av fl 0 ops.size)))=true)
 (h:Lex Tryz.prog TB Z ops (Av fl 0 ops.size) (λf σ nx=>Q .normal f σ nx) f σ nx):Aj Tryz.prog TB Z N (.region id ops true) Q f σ nx:=by rw [d4] at a;exact kO fl mixed a.1 a.2 h
end Go.Am
