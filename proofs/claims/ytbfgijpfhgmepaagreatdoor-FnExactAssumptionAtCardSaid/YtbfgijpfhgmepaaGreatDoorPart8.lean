/-
  The seat's types, as the rules ask for them.
-/
import Derived.Test.YtbfgijpfhgmepaaGreatDoorPart7
import Derived.Test.YtbfgijpfhgmepaaGreatDoorProg
import Derived.KernelRfl
set_option linter.constructorNameAsVariable false
set_option linter.unusedSectionVars false
set_option linter.unusedSimpArgs false
set_option linter.unusedVariables false
namespace Go.Am
open Go Go.Proofs
instance:Dt Tryz.prog 3 false 1:=⟨by kernel_rfl⟩
instance:J5 Tryz.prog 3 .i64:=⟨by kernel_rfl⟩
instance:QB Tryz.prog 3 (.int .i64 0):=⟨by kernel_rfl⟩
instance:BM Tryz.prog 3 [.int .i64 0]:=⟨by kernel_rfl⟩
instance:BM Tryz.prog 4 [.bool false]:=⟨by kernel_rfl⟩
instance:BM Tryz.prog 5 [.int .u8 0]:=⟨by kernel_rfl⟩
instance:DQ Tryz.prog 9:=⟨by kernel_rfl⟩
instance:BM Tryz.prog 9 [.string ⟨#[]⟩]:=⟨by kernel_rfl⟩
instance:J5 Tryz.prog 21 .i32:=⟨by kernel_rfl⟩
instance:XG Tryz.prog 22:=⟨5,by kernel_rfl,by kernel_rfl⟩
instance:CK Tryz.prog 22 5 1 1:=⟨by kernel_rfl⟩
instance:CK Tryz.prog 23 126 3 24:=⟨by kernel_rfl⟩
instance:Dt Tryz.prog 25 true 3:=⟨by kernel_rfl⟩
instance:BM Tryz.prog 25 [.int .i64 0,.int .i64 0,.slice none 0 0]:=⟨by kernel_rfl⟩
instance:ED Tryz.prog 25 [(0,1),(1,1),(2,1)]:=⟨by kernel_rfl⟩
instance:BM Tryz.prog 26 [.slice none 0 0]:=⟨by kernel_rfl⟩
instance:CK Tryz.prog 26 62 1 24:=⟨by kernel_rfl⟩
instance:CK Tryz.prog 27 4 1 1:=⟨by kernel_rfl⟩
instance:Dt Tryz.prog 29 true 3:=⟨by kernel_rfl⟩
instance:BM Tryz.prog 29 [.int .i64 0,.slice none 0 0,.slice none 0 0]:=⟨by kernel_rfl⟩
instance:ED Tryz.prog 29 [(0,1),(1,1),(2,1)]:=⟨by kernel_rfl⟩
instance:BM Tryz.prog 35 [.int .i64 0,.int .i64 0,.slice none 0 0,.slice none 0 0,.string ⟨#[]⟩,.int .i64 0]:=⟨by kernel_rfl⟩
instance:ED Tryz.prog 35 [(0,1),(1,3),(4,1),(5,1)]:=⟨by kernel_rfl⟩
instance:BM Tryz.prog 62 [.slice none 0 0]:=⟨by kernel_rfl⟩
instance:CK Tryz.prog 62 3 1 8:=⟨by kernel_rfl⟩
instance:BM Tryz.prog 87 [.int .i64 0,.int .i64 0,.slice none 0 0,.int .i64 0,.slice none 0 0,.slice none 0 0,.int .i64 0]:=⟨by kernel_rfl⟩
instance:ED Tryz.prog 87 [(0,3),(3,3),(6,1)]:=⟨by kernel_rfl⟩
instance:BM Tryz.prog 92 [.int .i64 0,.nilFunc]:=⟨by kernel_rfl⟩
instance:ED Tryz.prog 92 [(0,1),(1,1)]:=⟨by kernel_rfl⟩
instance:BM Tryz.prog 96 [.bool false,.int .i64 0,.slice none 0 0,.slice none 0 0,.int .i64 0,.int .i64 0,.slice none 0 0,.int .i64 0,.slice none 0 0,.slice none 0 0,.int .i64 0]:=⟨by kernel_rfl⟩
instance:ED Tryz.prog 96 [(0,1),(1,3),(4,7)]:=⟨by kernel_rfl⟩
instance:CK Tryz.prog 97 9 1 16:=⟨by kernel_rfl⟩
instance:Dt Tryz.prog 99 true 2:=⟨by kernel_rfl⟩
instance:BM Tryz.prog 99 [.slice none 0 0,.slice none 0 0]:=⟨by kernel_rfl⟩
instance:ED Tryz.prog 99 [(0,1),(1,1)]:=⟨by kernel_rfl⟩
instance:CK Tryz.prog 117 121 6 48:=⟨by kernel_rfl⟩
instance:BM Tryz.prog 121 [.int .i64 0,.int .i64 0,.int .i64 0,.int .i64 0,.int .i64 0,.int .i64 0]:=⟨by kernel_rfl⟩
instance:ED Tryz.prog 121 [(0,1),(1,1),(2,1),(3,1),(4,1),(5,1)]:=⟨by kernel_rfl⟩
instance:Dt Tryz.prog 126 true 3:=⟨by kernel_rfl⟩
instance:BM Tryz.prog 126 [.int .i64 0,.int .i64 0,.int .i64 0]:=⟨by kernel_rfl⟩
instance:ED Tryz.prog 126 [(0,1),(1,1),(2,1)]:=⟨by kernel_rfl⟩
instance:KB Tryz.prog 149 9 3:=⟨by kernel_rfl⟩
instance:BM Tryz.prog 169 [.slice none 0 0,.slice none 0 0,.slice none 0 0,.int .i64 0,.int .i64 0,.int .i64 0]:=⟨by kernel_rfl⟩
instance:ED Tryz.prog 169 [(0,1),(1,1),(2,1),(3,1),(4,1),(5,1)]:=⟨by kernel_rfl⟩
instance:BM Tryz.prog 173 [.slice none 0 0]:=⟨by kernel_rfl⟩
instance:CK Tryz.prog 173 175 3 40:=⟨by kernel_rfl⟩
instance:BM Tryz.prog 175 [.int .i64 0,.int .i64 0,.slice none 0 0]:=⟨by kernel_rfl⟩
instance:ED Tryz.prog 175 [(0,1),(1,1),(2,1)]:=⟨by kernel_rfl⟩
instance:BM Tryz.prog 190 [.pointer none]:=⟨by kernel_rfl⟩
instance:KB Tryz.prog 192 199 3:=⟨by kernel_rfl⟩
instance:CK Tryz.prog 193 199 12 24:=⟨by kernel_rfl⟩
instance:BM Tryz.prog 195 [.int .i64 0,.int .i64 0,.slice none 0 0,.int .i64 0,.slice none 0 0,.slice none 0 0,.int .i64 0,.pointer none,.slice none 0 0,.slice none 0 0,.slice none 0 0,.map none,.slice none 0 0,.slice none 0 0]:=⟨by kernel_rfl⟩
instance:ED Tryz.prog 195 [(0,7),(7,1),(8,1),(9,1),(10,1),(11,1),(12,1),(13,1)]:=⟨by kernel_rfl⟩
instance:Dt Tryz.prog 197 false 1:=⟨by kernel_rfl⟩
instance:J5 Tryz.prog 197 .u16:=⟨by kernel_rfl⟩
instance:BM Tryz.prog 199 [.int .u16 0,.int .u16 0,.int .u16 0,.int .u16 0,.int .u16 0,.int .u16 0,.int .u16 0,.int .u16 0,.int .u16 0,.int .u16 0,.int .u16 0,.int .u16 0]:=⟨by kernel_rfl⟩
instance:ED Tryz.prog 199 [(0,1),(1,1),(2,1),(3,1),(4,1),(5,1),(6,1),(7,1),(8,1),(9,1),(10,1),(11,1)]:=⟨by kernel_rfl⟩
instance:CK Tryz.prog 203 190 1 8:=⟨by kernel_rfl⟩
instance:Dt Tryz.prog 205 true 2:=⟨by kernel_rfl⟩
instance:BM Tryz.prog 205 [.slice none 0 0,.slice none 0 0]:=⟨by kernel_rfl⟩
instance:ED Tryz.prog 205 [(0,1),(1,1)]:=⟨by kernel_rfl⟩
instance:CK Tryz.prog 220 26 1 24:=⟨by kernel_rfl⟩
instance:QA Tryz.prog 256 64 1:=⟨by kernel_rfl⟩
def Bg:TI:={ ld:=some (false,1),ze:=some [.nilFunc] }
def mY:TI:={ ld:=some (false,1),ik:=some .i64,ze:=some [.int .i64 0] }
def mr:TI:={ ld:=some (false,1),ik:=some .u64,ze:=some [.int .u64 0] }
def jM:TI:={ ld:=some (true,3),fl:=[some (0,false,1),some (1,false,1),some (2,false,1)],ze:=some [.int .i64 0,.int .i64 0,.slice none 0 0] }
def mu:TI:={ ld:=some (true,3),fl:=[some (0,false,1),some (1,false,1),some (2,false,1)],ze:=some [.int .i64 0,.slice none 0 0,.slice none 0 0] }
def mZ:TI:={ ld:=some (true,6),fl:=[some (0,false,1),some (1,true,3),some (4,false,1),some (5,false,1)],ze:=some [.int .i64 0,.int .i64 0,.slice none 0 0,.slice none 0 0,.string ⟨#[]⟩,.int .i64 0] }
def lD:TI:={ ld:=some (false,1),pt:=true,ze:=some [.pointer none] }
def m7:TI:={ ld:=some (true,2),fl:=[some (0,false,1),some (1,false,1)],ze:=some [.slice none 0 0,.int .i64 0] }
def m8:TI:={ ld:=some (true,7),fl:=[some (0,true,3),some (3,true,3),some (6,false,1)],ze:=some [.int .i64 0,.int .i64 0,.slice none 0 0,.int .i64 0,.slice none 0 0,.slice none 0 0,.int .i64 0] }
def m9:TI:={ ld:=some (true,2),fl:=[some (0,false,1),some (1,false,1)],ze:=some [.int .i64 0,.nilFunc] }
def lv:TI:={ ld:=some (true,11),fl:=[some (0,false,1),some (1,true,3),some (4,true,7)],ze:=some [.bool false,.int .i64 0,.slice none 0 0,.slice none 0 0,.int .i64 0,.int .i64 0,.slice none 0 0,.int .i64 0,.slice none 0 0,.slice none 0 0,.int .i64 0] }
def gv:TI:={ ld:=some (true,2),fl:=[some (0,false,1),some (1,false,1)],ze:=some [.slice none 0 0,.slice none 0 0] }
def jz:TI:={ ld:=some (true,3),fl:=[some (0,false,1),some (1,false,1),some (2,false,1)],ze:=some [.int .i64 0,.int .i64 0,.int .i64 0] }
def jA:TI:={ ld:=some (false,1),ze:=some [.map none] }
def lz:TI:={ ld:=some (true,6),fl:=[some (0,false,1),some (1,false,1),some (2,false,1),some (3,false,1),some (4,false,1),some (5,false,1)],ze:=some [.slice none 0 0,.slice none 0 0,.slice none 0 0,.int .i64 0,.int .i64 0,.int .i64 0] }
def lA:TI:={ ld:=some (true,14),fl:=[some (0,true,7),some (7,false,1),some (8,false,1),some (9,false,1),some (10,false,1),some (11,false,1),some (12,false,1),some (13,false,1)],ze:=some [.int .i64 0,.int .i64 0,.slice none 0 0,.int .i64 0,.slice none 0 0,.slice none 0 0,.int .i64 0,.pointer none,.slice none 0 0,.slice none 0 0,.slice none 0 0,.map none,.slice none 0 0,.slice none 0 0] }
def lB:TI:={ ld:=some (true,12),ar:=some (12,1),ze:=some [.int .u16 0,.int .u16 0,.int .u16 0,.int .u16 0,.int .u16 0,.int .u16 0,.int .u16 0,.int .u16 0,.int .u16 0,.int .u16 0,.int .u16 0,.int .u16 0] }
def lC:TI:={ ld:=some (true,96),ar:=some (16,6),ze:=some [.int .i64 0,.int .i64 0,.int .i64 0,.int .i64 0,.int .i64 0,.int .i64 0,.int .i64 0,.int .i64 0,.int .i64 0,.int .i64 0,.int .i64 0,.int .i64 0,.int .i64 0,.int .i64 0,.int .i64 0,.int .i64 0,.int .i64 0,.int .i64 0,.int .i64 0,.int .i64 0,.int .i64 0,.int .i64 0,.int .i64 0,.int .i64 0,.int .i64 0,.int .i64 0,.int .i64 0,.int .i64 0,.int .i64 0,.int .i64 0,.int .i64 0,.int .i64 0,.int .i64 0,.int .i64 0,.int .i64 0,.int .i64 0,.int .i64 0,.int .i64 0,.int .i64 0,.int .i64 0,.int .i64 0,.int .i64 0,.int .i64 0,.int .i64 0,.int .i64 0,.int .i64 0,.int .i64 0,.int .i64 0,.int .i64 0,.int .i64 0,.int .i64 0,.int .i64 0,.int .i64 0,.int .i64 0,.int .i64 0,.int .i64 0,.int .i64 0,.int .i64 0,.int .i64 0,.int .i64 0,.int .i64 0,.int .i64 0,.int .i64 0,.int .i64 0,.int .i64 0,.int .i64 0,.int .i64 0,.int .i64 0,.int .i64 0,.int .i64 0,.int .i64 0,.int .i64 0,.int .i64 0,.int .i64 0,.int .i64 0,.int .i64 0,.int .i64 0,.int .i64 0,.int .i64 0,.int .i64 0,.int .i64 0,.int .i64 0,.int .i64 0,.int .i64 0,.int .i64 0,.int .i64 0,.int .i64 0,.int .i64 0,.int .i64 0,.int .i64 0,.int .i64 0,.int .i64 0,.int .i64 0,.int .i64 0,.int .i64 0,.int .i64 0] }
def nA:List (Nat×TI):=[(1,Bg),
(2,mY),
(3,mY),
(4,{ ld:=some (false,1),bo:=true,ze:=some [.bool false] }),
(5,{ ld:=some (false,1),ik:=some .u8,ze:=some [.int .u8 0] }),
(9,{ ld:=some (false,1),st:=true,ze:=some [.string ⟨#[]⟩] }),
(12,mr),
(13,{ ld:=some (true,2),fl:=[some (0,false,1),some (1,false,1)],ze:=some [.string ⟨#[]⟩,.int .u64 0] }),
(21,{ ld:=some (false,1),ik:=some .i32,ze:=some [.int .i32 0] }),
(22,{ ld:=some (false,1),sl:=some (5,1,1),ze:=some [.slice none 0 0] }),
(23,{ ld:=some (false,1),sl:=some (126,3,24),ze:=some [.slice none 0 0] }),
(24,jM),
(25,jM),
(26,{ ld:=some (false,1),sl:=some (62,1,24),ze:=some [.slice none 0 0] }),
(27,{ ld:=some (false,1),sl:=some (4,1,1),ze:=some [.slice none 0 0] }),
(28,mu),
(29,mu),
(31,Bg),
(33,Bg),
(34,mZ),
(35,mZ),
(36,Bg),
(37,Bg),
(38,Bg),
(39,Bg),
(40,Bg),
(41,{ ld:=some (false,1),sl:=some (132,3,24),ze:=some [.slice none 0 0] }),
(42,jM),
(43,jM),
(44,mu),
(45,Bg),
(46,Bg),
(47,Bg),
(48,Bg),
(49,Bg),
(50,Bg),
(51,Bg),
(52,Bg),
(53,Bg),
(54,Bg),
(55,Bg),
(57,Bg),
(58,lD),
(59,Bg),
(60,Bg),
(61,Bg),
(62,{ ld:=some (false,1),sl:=some (3,1,8),ze:=some [.slice none 0 0] }),
(63,Bg),
(64,Bg),
(66,Bg),
(67,Bg),
(68,Bg),
(69,Bg),
(70,Bg),
(71,Bg),
(72,Bg),
(73,Bg),
(74,Bg),
(75,Bg),
(76,Bg),
(77,Bg),
(78,Bg),
(79,Bg),
(80,Bg),
(81,m7),
(82,m7),
(84,Bg),
(85,Bg),
(86,m8),
(87,m8),
(89,Bg),
(90,Bg),
(91,m9),
(92,m9),
(94,Bg),
(95,lv),
(96,lv),
(97,{ ld:=some (false,1),sl:=some (9,1,16),ze:=some [.slice none 0 0] }),
(98,gv),
(99,gv),
(101,Bg),
(102,Bg),
(104,Bg),
(105,Bg),
(106,Bg),
(107,Bg),
(108,{ ld:=some (false,1),sl:=some (25,3,40),ze:=some [.slice none 0 0] }),
(109,Bg),
(110,Bg),
(111,Bg),
(113,Bg),
(114,Bg),
(115,Bg),
(116,Bg),
(117,{ ld:=some (false,1),sl:=some (121,6,48),ze:=some [.slice none 0 0] }),
(118,Bg),
(120,Bg),
(121,{ ld:=some (true,6),ar:=some (6,1),ze:=some [.int .i64 0,.int .i64 0,.int .i64 0,.int .i64 0,.int .i64 0,.int .i64 0] }),
(122,Bg),
(123,Bg),
(124,Bg),
(125,jz),
(126,jz),
(127,Bg),
(128,Bg),
(129,Bg),
(130,Bg),
(131,Bg),
(132,jz),
(133,Bg),
(134,Bg),
(135,Bg),
(136,{ ld:=some (false,1),sl:=some (97,1,24),ze:=some [.slice none 0 0] }),
(137,Bg),
(139,Bg),
(140,Bg),
(141,Bg),
(142,Bg),
(143,Bg),
(144,Bg),
(145,Bg),
(146,lD),
(147,Bg),
(148,Bg),
(149,jA),
(150,Bg),
(151,Bg),
(152,Bg),
(153,Bg),
(154,lD),
(155,Bg),
(156,Bg),
(157,Bg),
(158,Bg),
(159,Bg),
(160,Bg),
(161,Bg),
(162,Bg),
(163,Bg),
(164,Bg),
(165,Bg),
(166,Bg),
(167,{ ld:=some (false,1),sl:=some (29,3,56),ze:=some [.slice none 0 0] }),
(168,lz),
(169,lz),
(170,Bg),
(171,jA),
(173,{ ld:=some (false,1),sl:=some (175,3,40),ze:=some [.slice none 0 0] }),
(174,jM),
(175,jM),
(176,Bg),
(177,Bg),
(178,Bg),
(179,Bg),
(180,Bg),
(181,Bg),
(182,Bg),
(184,Bg),
(185,Bg),
(187,Bg),
(188,Bg),
(189,Bg),
(190,lD),
(191,Bg),
(192,jA),
(193,{ ld:=some (false,1),sl:=some (199,12,24),ze:=some [.slice none 0 0] }),
(194,lA),
(195,lA),
(196,Bg),
(197,{ ld:=some (false,1),ik:=some .u16,ze:=some [.int .u16 0] }),
(198,lB),
(199,lB),
(200,Bg),
(201,Bg),
(202,Bg),
(203,{ ld:=some (false,1),sl:=some (190,1,8),ze:=some [.slice none 0 0] }),
(204,gv),
(205,gv),
(206,Bg),
(207,Bg),
(208,Bg),
(209,Bg),
(210,mr),
(211,Bg),
(212,Bg),
(213,Bg),
(214,Bg),
(215,Bg),
(216,Bg),
(217,Bg),
(218,Bg),
(219,Bg),
(220,{ ld:=some (false,1),sl:=some (26,1,24),ze:=some [.slice none 0 0] }),
(221,Bg),
(222,Bg),
(223,Bg),
(224,Bg),
(225,Bg),
(226,Bg),
(227,Bg),
(228,Bg),
(229,Bg),
(230,Bg),
(231,Bg),
(232,Bg),
(233,Bg),
(234,Bg),
(235,lC),
(236,lC),
(237,Bg),
(238,Bg),
(239,Bg),
(240,Bg),
(241,Bg),
(242,Bg),
(243,Bg),
(244,Bg),
(245,Bg),
(246,Bg),
(247,Bg),
(248,Bg),
(249,Bg),
(250,Bg),
(251,Bg),
(252,{ ld:=some (false,1),ik:=some .u32,ze:=some [.int .u32 0] }),
(253,Bg),
(254,mr),
(257,Bg),
(266,lD),
(271,Bg)]
instance:C5 Tryz.prog:=⟨nA,XM (by kernel_rfl)⟩
def Cz:List Value:=[.int .u8 0,.int .u8 1,.int .u8 28,.int .u8 2,.int .u8 29,.int .u8 14,.int .u8 24,.int .u8 3,.int .u8 30,.int .u8 22,.int .u8 20,.int .u8 15,.int .u8 25,.int .u8 17,.int .u8 4,.int .u8 8,.int .u8 31,.int .u8 27,.int .u8 13,.int .u8 23,.int .u8 21,.int .u8 19,.int .u8 16,.int .u8 7,.int .u8 26,.int .u8 12,.int .u8 18,.int .u8 6,.int .u8 11,.int .u8 5,.int .u8 10,.int .u8 9]
def Bz:List Value:=[.int .u8 0,.int .u8 1,.int .u8 56,.int .u8 2,.int .u8 57,.int .u8 49,.int .u8 28,.int .u8 3,.int .u8 61,.int .u8 58,.int .u8 42,.int .u8 50,.int .u8 38,.int .u8 29,.int .u8 17,.int .u8 4,.int .u8 62,.int .u8 47,.int .u8 59,.int .u8 36,.int .u8 45,.int .u8 43,.int .u8 51,.int .u8 22,.int .u8 53,.int .u8 39,.int .u8 33,.int .u8 30,.int .u8 24,.int .u8 18,.int .u8 12,.int .u8 5,.int .u8 63,.int .u8 55,.int .u8 48,.int .u8 27,.int .u8 60,.int .u8 41,.int .u8 37,.int .u8 16,.int .u8 46,.int .u8 35,.int .u8 44,.int .u8 21,.int .u8 52,.int .u8 32,.int .u8 23,.int .u8 11,.int .u8 54,.int .u8 26,.int .u8 40,.int .u8 15,.int .u8 34,.int .u8 20,.int .u8 31,.int .u8 10,.int .u8 25,.int .u8 14,.int .u8 19,.int .u8 9,.int .u8 13,.int .u8 8,.int .u8 7,.int .u8 6]
class Df (TB:Bt):Prop where
 t0:LX TB 0 Cz
 t1:LX TB 1 Bz
instance {TB:Bt}[h:Df TB]:LX TB 1 Bz:=h.t1
theorem mixed:Tryz.prog.follows .mixedOrders=true:=by kernel_rfl
theorem rE{TB:Bt}{Γ:Ctx}{N:Nat}{ops:Array Oper}{Q:Exit→Env→Ab→Nat→Prop}{id:Nat}{f:Env}{σ:Ab}{nx:Nat}(ho:(Hg N ops && (Bj ops (Aj (IZ []) 0 ops.size) (Array.replicate ops.size false) && Mx ops (Aj (IZ []) 0 ops.size)))=true)
 (h:Lex Tryz.prog TB Γ ops (Aj (IZ []) 0 ops.size) (fun f σ nx=>Q .normal f σ nx) f σ nx):Au Tryz.prog TB Γ N (.region id ops true) Q f σ nx:=by rw [Bool.and_eq_true] at ho;exact lp (IZ []) mixed ho.1 ho.2 h
theorem rG{TB:Bt}{Γ:Ctx}{N:Nat}{ops:Array Oper}{Q:Exit→Env→Ab→Nat→Prop}{id:Nat}{f:Env}{σ:Ab}{nx:Nat}(fl:Fl)(ho:(Hg N ops && (Bj ops (Aj fl 0 ops.size) (Array.replicate ops.size false) && Mx ops (Aj fl 0 ops.size)))=true)
 (h:Lex Tryz.prog TB Γ ops (Aj fl 0 ops.size) (fun f σ nx=>Q .normal f σ nx) f σ nx):Au Tryz.prog TB Γ N (.region id ops true) Q f σ nx:=by rw [Bool.and_eq_true] at ho;exact lp fl mixed ho.1 ho.2 h
end Go.Am
