/-
  The seat's types, as the rules ask for them.
-/
import Derived.Test.YtbfgijpfhgmepaaGreatDoorPart7
import Derived.Test.YtbfgijpfhgmepaaGreatDoorProg
import Derived.KernelRfl
set_option linter.constructorNameAsVariable false
set_option linter.unusedSectionVars false
set_option linter.unusedSimpArgs false
set_option linter.unusedVariables false
namespace Go.Am
open Go Go.Proofs
instance:Dp Tryz.prog 3 false 1:=⟨by kernel_rfl⟩
instance:JV Tryz.prog 3 .i64:=⟨by kernel_rfl⟩
instance:Qt Tryz.prog 3 (.int .i64 0):=⟨by kernel_rfl⟩
instance:BI Tryz.prog 3 [.int .i64 0]:=⟨by kernel_rfl⟩
instance:BI Tryz.prog 4 [.bool false]:=⟨by kernel_rfl⟩
instance:BI Tryz.prog 5 [.int .u8 0]:=⟨by kernel_rfl⟩
instance:DJ Tryz.prog 9:=⟨by kernel_rfl⟩
instance:BI Tryz.prog 9 [.string ⟨#[]⟩]:=⟨by kernel_rfl⟩
instance:JV Tryz.prog 21 .i32:=⟨by kernel_rfl⟩
instance:Xu Tryz.prog 22:=⟨5,by kernel_rfl,by kernel_rfl⟩
instance:CG Tryz.prog 22 5 1 1:=⟨by kernel_rfl⟩
instance:CG Tryz.prog 23 126 3 24:=⟨by kernel_rfl⟩
instance:Dp Tryz.prog 25 true 3:=⟨by kernel_rfl⟩
instance:BI Tryz.prog 25 [.int .i64 0,.int .i64 0,.slice none 0 0]:=⟨by kernel_rfl⟩
instance:Ey Tryz.prog 25 [(0,1),(1,1),(2,1)]:=⟨by kernel_rfl⟩
instance:BI Tryz.prog 26 [.slice none 0 0]:=⟨by kernel_rfl⟩
instance:CG Tryz.prog 26 62 1 24:=⟨by kernel_rfl⟩
instance:CG Tryz.prog 27 4 1 1:=⟨by kernel_rfl⟩
instance:Dp Tryz.prog 29 true 3:=⟨by kernel_rfl⟩
instance:BI Tryz.prog 29 [.int .i64 0,.slice none 0 0,.slice none 0 0]:=⟨by kernel_rfl⟩
instance:Ey Tryz.prog 29 [(0,1),(1,1),(2,1)]:=⟨by kernel_rfl⟩
instance:BI Tryz.prog 35 [.int .i64 0,.int .i64 0,.slice none 0 0,.slice none 0 0,.string ⟨#[]⟩,.int .i64 0]:=⟨by kernel_rfl⟩
instance:Ey Tryz.prog 35 [(0,1),(1,3),(4,1),(5,1)]:=⟨by kernel_rfl⟩
instance:BI Tryz.prog 62 [.slice none 0 0]:=⟨by kernel_rfl⟩
instance:CG Tryz.prog 62 3 1 8:=⟨by kernel_rfl⟩
instance:BI Tryz.prog 87 [.int .i64 0,.int .i64 0,.slice none 0 0,.int .i64 0,.slice none 0 0,.slice none 0 0,.int .i64 0]:=⟨by kernel_rfl⟩
instance:Ey Tryz.prog 87 [(0,3),(3,3),(6,1)]:=⟨by kernel_rfl⟩
instance:BI Tryz.prog 92 [.int .i64 0,.nilFunc]:=⟨by kernel_rfl⟩
instance:Ey Tryz.prog 92 [(0,1),(1,1)]:=⟨by kernel_rfl⟩
instance:BI Tryz.prog 96 [.bool false,.int .i64 0,.slice none 0 0,.slice none 0 0,.int .i64 0,.int .i64 0,.slice none 0 0,.int .i64 0,.slice none 0 0,.slice none 0 0,.int .i64 0]:=⟨by kernel_rfl⟩
instance:Ey Tryz.prog 96 [(0,1),(1,3),(4,7)]:=⟨by kernel_rfl⟩
instance:CG Tryz.prog 97 9 1 16:=⟨by kernel_rfl⟩
instance:Dp Tryz.prog 99 true 2:=⟨by kernel_rfl⟩
instance:BI Tryz.prog 99 [.slice none 0 0,.slice none 0 0]:=⟨by kernel_rfl⟩
instance:Ey Tryz.prog 99 [(0,1),(1,1)]:=⟨by kernel_rfl⟩
instance:CG Tryz.prog 117 121 6 48:=⟨by kernel_rfl⟩
instance:BI Tryz.prog 121 [.int .i64 0,.int .i64 0,.int .i64 0,.int .i64 0,.int .i64 0,.int .i64 0]:=⟨by kernel_rfl⟩
instance:Ey Tryz.prog 121 [(0,1),(1,1),(2,1),(3,1),(4,1),(5,1)]:=⟨by kernel_rfl⟩
instance:Dp Tryz.prog 126 true 3:=⟨by kernel_rfl⟩
instance:BI Tryz.prog 126 [.int .i64 0,.int .i64 0,.int .i64 0]:=⟨by kernel_rfl⟩
instance:Ey Tryz.prog 126 [(0,1),(1,1),(2,1)]:=⟨by kernel_rfl⟩
instance:Ku Tryz.prog 149 9 3:=⟨by kernel_rfl⟩
instance:BI Tryz.prog 169 [.slice none 0 0,.slice none 0 0,.slice none 0 0,.int .i64 0,.int .i64 0,.int .i64 0]:=⟨by kernel_rfl⟩
instance:Ey Tryz.prog 169 [(0,1),(1,1),(2,1),(3,1),(4,1),(5,1)]:=⟨by kernel_rfl⟩
instance:BI Tryz.prog 173 [.slice none 0 0]:=⟨by kernel_rfl⟩
instance:CG Tryz.prog 173 175 3 40:=⟨by kernel_rfl⟩
instance:BI Tryz.prog 175 [.int .i64 0,.int .i64 0,.slice none 0 0]:=⟨by kernel_rfl⟩
instance:Ey Tryz.prog 175 [(0,1),(1,1),(2,1)]:=⟨by kernel_rfl⟩
instance:BI Tryz.prog 190 [.pointer none]:=⟨by kernel_rfl⟩
instance:Ku Tryz.prog 192 199 3:=⟨by kernel_rfl⟩
instance:CG Tryz.prog 193 199 12 24:=⟨by kernel_rfl⟩
instance:BI Tryz.prog 195 [.int .i64 0,.int .i64 0,.slice none 0 0,.int .i64 0,.slice none 0 0,.slice none 0 0,.int .i64 0,.pointer none,.slice none 0 0,.slice none 0 0,.slice none 0 0,.map none,.slice none 0 0,.slice none 0 0]:=⟨by kernel_rfl⟩
instance:Ey Tryz.prog 195 [(0,7),(7,1),(8,1),(9,1),(10,1),(11,1),(12,1),(13,1)]:=⟨by kernel_rfl⟩
instance:Dp Tryz.prog 197 false 1:=⟨by kernel_rfl⟩
instance:JV Tryz.prog 197 .u16:=⟨by kernel_rfl⟩
instance:BI Tryz.prog 199 [.int .u16 0,.int .u16 0,.int .u16 0,.int .u16 0,.int .u16 0,.int .u16 0,.int .u16 0,.int .u16 0,.int .u16 0,.int .u16 0,.int .u16 0,.int .u16 0]:=⟨by kernel_rfl⟩
instance:Ey Tryz.prog 199 [(0,1),(1,1),(2,1),(3,1),(4,1),(5,1),(6,1),(7,1),(8,1),(9,1),(10,1),(11,1)]:=⟨by kernel_rfl⟩
instance:CG Tryz.prog 203 190 1 8:=⟨by kernel_rfl⟩
instance:Dp Tryz.prog 205 true 2:=⟨by kernel_rfl⟩
instance:BI Tryz.prog 205 [.slice none 0 0,.slice none 0 0]:=⟨by kernel_rfl⟩
instance:Ey Tryz.prog 205 [(0,1),(1,1)]:=⟨by kernel_rfl⟩
instance:CG Tryz.prog 220 26 1 24:=⟨by kernel_rfl⟩
instance:Qs Tryz.prog 256 64 1:=⟨by kernel_rfl⟩
def Bf:TI:={ ld:=some (false,1),ze:=some [.nilFunc] }
def mI:TI:={ ld:=some (false,1),ik:=some .i64,ze:=some [.int .i64 0] }
def l7:TI:={ ld:=some (false,1),ik:=some .u64,ze:=some [.int .u64 0] }
def jA:TI:={ ld:=some (true,3),fl:=[some (0,false,1),some (1,false,1),some (2,false,1)],ze:=some [.int .i64 0,.int .i64 0,.slice none 0 0] }
def l8:TI:={ ld:=some (true,3),fl:=[some (0,false,1),some (1,false,1),some (2,false,1)],ze:=some [.int .i64 0,.slice none 0 0,.slice none 0 0] }
def mJ:TI:={ ld:=some (true,6),fl:=[some (0,false,1),some (1,true,3),some (4,false,1),some (5,false,1)],ze:=some [.int .i64 0,.int .i64 0,.slice none 0 0,.slice none 0 0,.string ⟨#[]⟩,.int .i64 0] }
def k9:TI:={ ld:=some (false,1),pt:=true,ze:=some [.pointer none] }
def mK:TI:={ ld:=some (true,2),fl:=[some (0,false,1),some (1,false,1)],ze:=some [.slice none 0 0,.int .i64 0] }
def mL:TI:={ ld:=some (true,7),fl:=[some (0,true,3),some (3,true,3),some (6,false,1)],ze:=some [.int .i64 0,.int .i64 0,.slice none 0 0,.int .i64 0,.slice none 0 0,.slice none 0 0,.int .i64 0] }
def mM:TI:={ ld:=some (true,2),fl:=[some (0,false,1),some (1,false,1)],ze:=some [.int .i64 0,.nilFunc] }
def kW:TI:={ ld:=some (true,11),fl:=[some (0,false,1),some (1,true,3),some (4,true,7)],ze:=some [.bool false,.int .i64 0,.slice none 0 0,.slice none 0 0,.int .i64 0,.int .i64 0,.slice none 0 0,.int .i64 0,.slice none 0 0,.slice none 0 0,.int .i64 0] }
def ga:TI:={ ld:=some (true,2),fl:=[some (0,false,1),some (1,false,1)],ze:=some [.slice none 0 0,.slice none 0 0] }
def jl:TI:={ ld:=some (true,3),fl:=[some (0,false,1),some (1,false,1),some (2,false,1)],ze:=some [.int .i64 0,.int .i64 0,.int .i64 0] }
def jm:TI:={ ld:=some (false,1),ze:=some [.map none] }
def kX:TI:={ ld:=some (true,6),fl:=[some (0,false,1),some (1,false,1),some (2,false,1),some (3,false,1),some (4,false,1),some (5,false,1)],ze:=some [.slice none 0 0,.slice none 0 0,.slice none 0 0,.int .i64 0,.int .i64 0,.int .i64 0] }
def kY:TI:={ ld:=some (true,14),fl:=[some (0,true,7),some (7,false,1),some (8,false,1),some (9,false,1),some (10,false,1),some (11,false,1),some (12,false,1),some (13,false,1)],ze:=some [.int .i64 0,.int .i64 0,.slice none 0 0,.int .i64 0,.slice none 0 0,.slice none 0 0,.int .i64 0,.pointer none,.slice none 0 0,.slice none 0 0,.slice none 0 0,.map none,.slice none 0 0,.slice none 0 0] }
def kZ:TI:={ ld:=some (true,12),ar:=some (12,1),ze:=some [.int .u16 0,.int .u16 0,.int .u16 0,.int .u16 0,.int .u16 0,.int .u16 0,.int .u16 0,.int .u16 0,.int .u16 0,.int .u16 0,.int .u16 0,.int .u16 0] }
def k8:TI:={ ld:=some (true,96),ar:=some (16,6),ze:=some [.int .i64 0,.int .i64 0,.int .i64 0,.int .i64 0,.int .i64 0,.int .i64 0,.int .i64 0,.int .i64 0,.int .i64 0,.int .i64 0,.int .i64 0,.int .i64 0,.int .i64 0,.int .i64 0,.int .i64 0,.int .i64 0,.int .i64 0,.int .i64 0,.int .i64 0,.int .i64 0,.int .i64 0,.int .i64 0,.int .i64 0,.int .i64 0,.int .i64 0,.int .i64 0,.int .i64 0,.int .i64 0,.int .i64 0,.int .i64 0,.int .i64 0,.int .i64 0,.int .i64 0,.int .i64 0,.int .i64 0,.int .i64 0,.int .i64 0,.int .i64 0,.int .i64 0,.int .i64 0,.int .i64 0,.int .i64 0,.int .i64 0,.int .i64 0,.int .i64 0,.int .i64 0,.int .i64 0,.int .i64 0,.int .i64 0,.int .i64 0,.int .i64 0,.int .i64 0,.int .i64 0,.int .i64 0,.int .i64 0,.int .i64 0,.int .i64 0,.int .i64 0,.int .i64 0,.int .i64 0,.int .i64 0,.int .i64 0,.int .i64 0,.int .i64 0,.int .i64 0,.int .i64 0,.int .i64 0,.int .i64 0,.int .i64 0,.int .i64 0,.int .i64 0,.int .i64 0,.int .i64 0,.int .i64 0,.int .i64 0,.int .i64 0,.int .i64 0,.int .i64 0,.int .i64 0,.int .i64 0,.int .i64 0,.int .i64 0,.int .i64 0,.int .i64 0,.int .i64 0,.int .i64 0,.int .i64 0,.int .i64 0,.int .i64 0,.int .i64 0,.int .i64 0,.int .i64 0,.int .i64 0,.int .i64 0,.int .i64 0,.int .i64 0] }
def nf:List (Nat×TI):=[(1,Bf),
(2,mI),
(3,mI),
(4,{ ld:=some (false,1),bo:=true,ze:=some [.bool false] }),
(5,{ ld:=some (false,1),ik:=some .u8,ze:=some [.int .u8 0] }),
(9,{ ld:=some (false,1),st:=true,ze:=some [.string ⟨#[]⟩] }),
(12,l7),
(13,{ ld:=some (true,2),fl:=[some (0,false,1),some (1,false,1)],ze:=some [.string ⟨#[]⟩,.int .u64 0] }),
(21,{ ld:=some (false,1),ik:=some .i32,ze:=some [.int .i32 0] }),
(22,{ ld:=some (false,1),sl:=some (5,1,1),ze:=some [.slice none 0 0] }),
(23,{ ld:=some (false,1),sl:=some (126,3,24),ze:=some [.slice none 0 0] }),
(24,jA),
(25,jA),
(26,{ ld:=some (false,1),sl:=some (62,1,24),ze:=some [.slice none 0 0] }),
(27,{ ld:=some (false,1),sl:=some (4,1,1),ze:=some [.slice none 0 0] }),
(28,l8),
(29,l8),
(31,Bf),
(33,Bf),
(34,mJ),
(35,mJ),
(36,Bf),
(37,Bf),
(38,Bf),
(39,Bf),
(40,Bf),
(41,{ ld:=some (false,1),sl:=some (132,3,24),ze:=some [.slice none 0 0] }),
(42,jA),
(43,jA),
(44,l8),
(45,Bf),
(46,Bf),
(47,Bf),
(48,Bf),
(49,Bf),
(50,Bf),
(51,Bf),
(52,Bf),
(53,Bf),
(54,Bf),
(55,Bf),
(57,Bf),
(58,k9),
(59,Bf),
(60,Bf),
(61,Bf),
(62,{ ld:=some (false,1),sl:=some (3,1,8),ze:=some [.slice none 0 0] }),
(63,Bf),
(64,Bf),
(66,Bf),
(67,Bf),
(68,Bf),
(69,Bf),
(70,Bf),
(71,Bf),
(72,Bf),
(73,Bf),
(74,Bf),
(75,Bf),
(76,Bf),
(77,Bf),
(78,Bf),
(79,Bf),
(80,Bf),
(81,mK),
(82,mK),
(84,Bf),
(85,Bf),
(86,mL),
(87,mL),
(89,Bf),
(90,Bf),
(91,mM),
(92,mM),
(94,Bf),
(95,kW),
(96,kW),
(97,{ ld:=some (false,1),sl:=some (9,1,16),ze:=some [.slice none 0 0] }),
(98,ga),
(99,ga),
(101,Bf),
(102,Bf),
(104,Bf),
(105,Bf),
(106,Bf),
(107,Bf),
(108,{ ld:=some (false,1),sl:=some (25,3,40),ze:=some [.slice none 0 0] }),
(109,Bf),
(110,Bf),
(111,Bf),
(113,Bf),
(114,Bf),
(115,Bf),
(116,Bf),
(117,{ ld:=some (false,1),sl:=some (121,6,48),ze:=some [.slice none 0 0] }),
(118,Bf),
(120,Bf),
(121,{ ld:=some (true,6),ar:=some (6,1),ze:=some [.int .i64 0,.int .i64 0,.int .i64 0,.int .i64 0,.int .i64 0,.int .i64 0] }),
(122,Bf),
(123,Bf),
(124,Bf),
(125,jl),
(126,jl),
(127,Bf),
(128,Bf),
(129,Bf),
(130,Bf),
(131,Bf),
(132,jl),
(133,Bf),
(134,Bf),
(135,Bf),
(136,{ ld:=some (false,1),sl:=some (97,1,24),ze:=some [.slice none 0 0] }),
(137,Bf),
(139,Bf),
(140,Bf),
(141,Bf),
(142,Bf),
(143,Bf),
(144,Bf),
(145,Bf),
(146,k9),
(147,Bf),
(148,Bf),
(149,jm),
(150,Bf),
(151,Bf),
(152,Bf),
(153,Bf),
(154,k9),
(155,Bf),
(156,Bf),
(157,Bf),
(158,Bf),
(159,Bf),
(160,Bf),
(161,Bf),
(162,Bf),
(163,Bf),
(164,Bf),
(165,Bf),
(166,Bf),
(167,{ ld:=some (false,1),sl:=some (29,3,56),ze:=some [.slice none 0 0] }),
(168,kX),
(169,kX),
(170,Bf),
(171,jm),
(173,{ ld:=some (false,1),sl:=some (175,3,40),ze:=some [.slice none 0 0] }),
(174,jA),
(175,jA),
(176,Bf),
(177,Bf),
(178,Bf),
(179,Bf),
(180,Bf),
(181,Bf),
(182,Bf),
(184,Bf),
(185,Bf),
(187,Bf),
(188,Bf),
(189,Bf),
(190,k9),
(191,Bf),
(192,jm),
(193,{ ld:=some (false,1),sl:=some (199,12,24),ze:=some [.slice none 0 0] }),
(194,kY),
(195,kY),
(196,Bf),
(197,{ ld:=some (false,1),ik:=some .u16,ze:=some [.int .u16 0] }),
(198,kZ),
(199,kZ),
(200,Bf),
(201,Bf),
(202,Bf),
(203,{ ld:=some (false,1),sl:=some (190,1,8),ze:=some [.slice none 0 0] }),
(204,ga),
(205,ga),
(206,Bf),
(207,Bf),
(208,Bf),
(209,Bf),
(210,l7),
(211,Bf),
(212,Bf),
(213,Bf),
(214,Bf),
(215,Bf),
(216,Bf),
(217,Bf),
(218,Bf),
(219,Bf),
(220,{ ld:=some (false,1),sl:=some (26,1,24),ze:=some [.slice none 0 0] }),
(221,Bf),
(222,Bf),
(223,Bf),
(224,Bf),
(225,Bf),
(226,Bf),
(227,Bf),
(228,Bf),
(229,Bf),
(230,Bf),
(231,Bf),
(232,Bf),
(233,Bf),
(234,Bf),
(235,k8),
(236,k8),
(237,Bf),
(238,Bf),
(239,Bf),
(240,Bf),
(241,Bf),
(242,Bf),
(243,Bf),
(244,Bf),
(245,Bf),
(246,Bf),
(247,Bf),
(248,Bf),
(249,Bf),
(250,Bf),
(251,Bf),
(252,{ ld:=some (false,1),ik:=some .u32,ze:=some [.int .u32 0] }),
(253,Bf),
(254,l7),
(257,Bf),
(266,k9),
(271,Bf)]
instance:CZ Tryz.prog:=⟨nf,XA (by kernel_rfl)⟩
def Cu:List Value:=[.int .u8 0,.int .u8 1,.int .u8 28,.int .u8 2,.int .u8 29,.int .u8 14,.int .u8 24,.int .u8 3,.int .u8 30,.int .u8 22,.int .u8 20,.int .u8 15,.int .u8 25,.int .u8 17,.int .u8 4,.int .u8 8,.int .u8 31,.int .u8 27,.int .u8 13,.int .u8 23,.int .u8 21,.int .u8 19,.int .u8 16,.int .u8 7,.int .u8 26,.int .u8 12,.int .u8 18,.int .u8 6,.int .u8 11,.int .u8 5,.int .u8 10,.int .u8 9]
def Br:List Value:=[.int .u8 0,.int .u8 1,.int .u8 56,.int .u8 2,.int .u8 57,.int .u8 49,.int .u8 28,.int .u8 3,.int .u8 61,.int .u8 58,.int .u8 42,.int .u8 50,.int .u8 38,.int .u8 29,.int .u8 17,.int .u8 4,.int .u8 62,.int .u8 47,.int .u8 59,.int .u8 36,.int .u8 45,.int .u8 43,.int .u8 51,.int .u8 22,.int .u8 53,.int .u8 39,.int .u8 33,.int .u8 30,.int .u8 24,.int .u8 18,.int .u8 12,.int .u8 5,.int .u8 63,.int .u8 55,.int .u8 48,.int .u8 27,.int .u8 60,.int .u8 41,.int .u8 37,.int .u8 16,.int .u8 46,.int .u8 35,.int .u8 44,.int .u8 21,.int .u8 52,.int .u8 32,.int .u8 23,.int .u8 11,.int .u8 54,.int .u8 26,.int .u8 40,.int .u8 15,.int .u8 34,.int .u8 20,.int .u8 31,.int .u8 10,.int .u8 25,.int .u8 14,.int .u8 19,.int .u8 9,.int .u8 13,.int .u8 8,.int .u8 7,.int .u8 6]
class Dl (TB:Bs):Prop where
 t0:LM TB 0 Cu
 t1:LM TB 1 Br
instance {TB:Bs}[h:Dl TB]:LM TB 1 Br:=h.t1
theorem mixed:Tryz.prog.follows .mixedOrders=true:=by kernel_rfl
theorem rE{TB:Bs}{Γ:Ctx}{N:Nat}{ops:Array Oper}{Q:Exit→Env→Ab→Nat→Prop}{id:Nat}{f:Env}{σ:Ab}{nx:Nat}(ho:(GY N ops && (Bh ops (Aj (IW []) 0 ops.size) (Array.replicate ops.size false) && Mn ops (Aj (IW []) 0 ops.size)))=true)
 (h:Lex Tryz.prog TB Γ ops (Aj (IW []) 0 ops.size) (fun f σ nx=>Q .normal f σ nx) f σ nx):Av Tryz.prog TB Γ N (.region id ops true) Q f σ nx:=by rw [Bool.and_eq_true] at ho;exact kS (IW []) mixed ho.1 ho.2 h
theorem rG{TB:Bs}{Γ:Ctx}{N:Nat}{ops:Array Oper}{Q:Exit→Env→Ab→Nat→Prop}{id:Nat}{f:Env}{σ:Ab}{nx:Nat}(fl:Fl)(ho:(GY N ops && (Bh ops (Aj fl 0 ops.size) (Array.replicate ops.size false) && Mn ops (Aj fl 0 ops.size)))=true)
 (h:Lex Tryz.prog TB Γ ops (Aj fl 0 ops.size) (fun f σ nx=>Q .normal f σ nx) f σ nx):Av Tryz.prog TB Γ N (.region id ops true) Q f σ nx:=by rw [Bool.and_eq_true] at ho;exact kS fl mixed ho.1 ho.2 h
end Go.Am
