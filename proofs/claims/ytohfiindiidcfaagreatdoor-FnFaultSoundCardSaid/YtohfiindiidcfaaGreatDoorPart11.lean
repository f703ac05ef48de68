/-
  The seat's types, as the rules ask for them.
-/
import Derived.Test.YtohfiindiidcfaaGreatDoorPart10
import Derived.Test.YtohfiindiidcfaaGreatDoorProg
set_option linter.all false
namespace Go.Am
open Go Go.Proofs
instance:EX Tryz.prog 3 false 1:=⟨by kernel_rfl⟩
instance:BJ Tryz.prog 3 [.int .i64 0]:=⟨by kernel_rfl⟩
instance:BJ Tryz.prog 4 [.bool false]:=⟨by kernel_rfl⟩
instance:BJ Tryz.prog 5 [.int .u8 0]:=⟨by kernel_rfl⟩
instance:EP Tryz.prog 9:=⟨by kernel_rfl⟩
instance:BJ Tryz.prog 9 [.string ⟨#[]⟩]:=⟨by kernel_rfl⟩
instance:Uk Tryz.prog 22:=⟨5,by kernel_rfl,by kernel_rfl⟩
instance:Cs Tryz.prog 22 5 1 1:=⟨by kernel_rfl⟩
instance:Cs Tryz.prog 23 116 3 24:=⟨by kernel_rfl⟩
instance:EX Tryz.prog 25 true 3:=⟨by kernel_rfl⟩
instance:BJ Tryz.prog 25 [.int .i64 0,.int .i64 0,.slice none 0 0]:=⟨by kernel_rfl⟩
instance:Fj Tryz.prog 25 [(0,1),(1,1),(2,1)]:=⟨by kernel_rfl⟩
instance:BJ Tryz.prog 26 [.slice none 0 0]:=⟨by kernel_rfl⟩
instance:Cs Tryz.prog 26 64 1 24:=⟨by kernel_rfl⟩
instance:Cs Tryz.prog 27 4 1 1:=⟨by kernel_rfl⟩
instance:EX Tryz.prog 29 true 3:=⟨by kernel_rfl⟩
instance:BJ Tryz.prog 29 [.int .i64 0,.slice none 0 0,.slice none 0 0]:=⟨by kernel_rfl⟩
instance:Fj Tryz.prog 29 [(0,1),(1,1),(2,1)]:=⟨by kernel_rfl⟩
instance:BJ Tryz.prog 33 [.int .i64 0,.int .i64 0,.slice none 0 0,.slice none 0 0,.string ⟨#[]⟩,.int .i64 0]:=⟨by kernel_rfl⟩
instance:Fj Tryz.prog 33 [(0,1),(1,3),(4,1),(5,1)]:=⟨by kernel_rfl⟩
instance:BJ Tryz.prog 64 [.slice none 0 0]:=⟨by kernel_rfl⟩
instance:Cs Tryz.prog 64 3 1 8:=⟨by kernel_rfl⟩
instance:BJ Tryz.prog 85 [.slice none 0 0,.int .i64 0]:=⟨by kernel_rfl⟩
instance:Fj Tryz.prog 85 [(0,1),(1,1)]:=⟨by kernel_rfl⟩
instance:BJ Tryz.prog 87 [.int .i64 0,.int .i64 0,.slice none 0 0,.int .i64 0,.slice none 0 0,.slice none 0 0,.int .i64 0]:=⟨by kernel_rfl⟩
instance:Fj Tryz.prog 87 [(0,3),(3,3),(6,1)]:=⟨by kernel_rfl⟩
instance:BJ Tryz.prog 95 [.bool false,.int .i64 0,.slice none 0 0,.slice none 0 0,.int .i64 0,.int .i64 0,.slice none 0 0,.int .i64 0,.slice none 0 0,.slice none 0 0,.int .i64 0]:=⟨by kernel_rfl⟩
instance:Fj Tryz.prog 95 [(0,1),(1,3),(4,7)]:=⟨by kernel_rfl⟩
instance:Cs Tryz.prog 96 9 1 16:=⟨by kernel_rfl⟩
instance:BJ Tryz.prog 98 [.slice none 0 0,.slice none 0 0]:=⟨by kernel_rfl⟩
instance:Fj Tryz.prog 98 [(0,1),(1,1)]:=⟨by kernel_rfl⟩
instance:BJ Tryz.prog 116 [.int .i64 0,.int .i64 0,.int .i64 0]:=⟨by kernel_rfl⟩
instance:Fj Tryz.prog 116 [(0,1),(1,1),(2,1)]:=⟨by kernel_rfl⟩
instance:Cs Tryz.prog 121 174 1 8:=⟨by kernel_rfl⟩
instance:EX Tryz.prog 123 true 2:=⟨by kernel_rfl⟩
instance:BJ Tryz.prog 123 [.slice none 0 0,.slice none 0 0]:=⟨by kernel_rfl⟩
instance:Fj Tryz.prog 123 [(0,1),(1,1)]:=⟨by kernel_rfl⟩
instance:Cs Tryz.prog 125 127 6 48:=⟨by kernel_rfl⟩
instance:BJ Tryz.prog 127 [.int .i64 0,.int .i64 0,.int .i64 0,.int .i64 0,.int .i64 0,.int .i64 0]:=⟨by kernel_rfl⟩
instance:BJ Tryz.prog 161 [.slice none 0 0,.slice none 0 0,.slice none 0 0,.int .i64 0,.int .i64 0,.int .i64 0]:=⟨by kernel_rfl⟩
instance:Fj Tryz.prog 161 [(0,1),(1,1),(2,1),(3,1),(4,1),(5,1)]:=⟨by kernel_rfl⟩
instance:BJ Tryz.prog 174 [.pointer none]:=⟨by kernel_rfl⟩
instance:BJ Tryz.prog 176 [.slice none 0 0]:=⟨by kernel_rfl⟩
instance:Cs Tryz.prog 176 178 3 40:=⟨by kernel_rfl⟩
instance:BJ Tryz.prog 178 [.int .i64 0,.int .i64 0,.slice none 0 0]:=⟨by kernel_rfl⟩
instance:Fj Tryz.prog 178 [(0,1),(1,1),(2,1)]:=⟨by kernel_rfl⟩
instance:Cs Tryz.prog 207 26 1 24:=⟨by kernel_rfl⟩
instance:OB Tryz.prog 236 64 1:=⟨by kernel_rfl⟩
def Bi:TI:={ ld:=some (false,1),ze:=some [.nilFunc] }
def iu:TI:={ ld:=some (false,1),ik:=some .i64,ze:=some [.int .i64 0] }
def gM:TI:={ ld:=some (false,1),ik:=some .u64,ze:=some [.int .u64 0] }
def fZ:TI:={ ld:=some (true,3),fl:=[some (0,false,1),some (1,false,1),some (2,false,1)],ze:=some [.int .i64 0,.int .i64 0,.slice none 0 0] }
def iv:TI:={ ld:=some (true,3),fl:=[some (0,false,1),some (1,false,1),some (2,false,1)],ze:=some [.int .i64 0,.slice none 0 0,.slice none 0 0] }
def iw:TI:={ ld:=some (true,6),fl:=[some (0,false,1),some (1,true,3),some (4,false,1),some (5,false,1)],ze:=some [.int .i64 0,.int .i64 0,.slice none 0 0,.slice none 0 0,.string ⟨#[]⟩,.int .i64 0] }
def fQ:TI:={ ld:=some (false,1),pt:=true,ze:=some [.pointer none] }
def ix:TI:={ ld:=some (true,2),fl:=[some (0,false,1),some (1,false,1)],ze:=some [.slice none 0 0,.int .i64 0] }
def iy:TI:={ ld:=some (true,7),fl:=[some (0,true,3),some (3,true,3),some (6,false,1)],ze:=some [.int .i64 0,.int .i64 0,.slice none 0 0,.int .i64 0,.slice none 0 0,.slice none 0 0,.int .i64 0] }
def iz:TI:={ ld:=some (true,2),fl:=[some (0,false,1),some (1,false,1)],ze:=some [.int .i64 0,.nilFunc] }
def fI:TI:={ ld:=some (true,11),fl:=[some (0,false,1),some (1,true,3),some (4,true,7)],ze:=some [.bool false,.int .i64 0,.slice none 0 0,.slice none 0 0,.int .i64 0,.int .i64 0,.slice none 0 0,.int .i64 0,.slice none 0 0,.slice none 0 0,.int .i64 0] }
def bh:TI:={ ld:=some (true,2),fl:=[some (0,false,1),some (1,false,1)],ze:=some [.slice none 0 0,.slice none 0 0] }
def fJ:TI:={ ld:=some (true,3),fl:=[some (0,false,1),some (1,false,1),some (2,false,1)],ze:=some [.int .i64 0,.int .i64 0,.int .i64 0] }
def fK:TI:={ ld:=some (false,1),ze:=some [.map none] }
def fL:TI:={ ld:=some (true,6),fl:=[some (0,false,1),some (1,false,1),some (2,false,1),some (3,false,1),some (4,false,1),some (5,false,1)],ze:=some [.slice none 0 0,.slice none 0 0,.slice none 0 0,.int .i64 0,.int .i64 0,.int .i64 0] }
def fM:TI:={ ld:=some (true,14),fl:=[some (0,true,7),some (7,false,1),some (8,false,1),some (9,false,1),some (10,false,1),some (11,false,1),some (12,false,1),some (13,false,1)],ze:=some [.int .i64 0,.int .i64 0,.slice none 0 0,.int .i64 0,.slice none 0 0,.slice none 0 0,.int .i64 0,.pointer none,.slice none 0 0,.slice none 0 0,.slice none 0 0,.map none,.slice none 0 0,.slice none 0 0] }
def fN:TI:={ ld:=some (true,12),ar:=some (12,1),ze:=some [.int .u16 0,.int .u16 0,.int .u16 0,.int .u16 0,.int .u16 0,.int .u16 0,.int .u16 0,.int .u16 0,.int .u16 0,.int .u16 0,.int .u16 0,.int .u16 0] }
def fO:TI:={ ld:=some (true,96),ar:=some (16,6),ze:=some [.int .i64 0,.int .i64 0,.int .i64 0,.int .i64 0,.int .i64 0,.int .i64 0,.int .i64 0,.int .i64 0,.int .i64 0,.int .i64 0,.int .i64 0,.int .i64 0,.int .i64 0,.int .i64 0,.int .i64 0,.int .i64 0,.int .i64 0,.int .i64 0,.int .i64 0,.int .i64 0,.int .i64 0,.int .i64 0,.int .i64 0,.int .i64 0,.int .i64 0,.int .i64 0,.int .i64 0,.int .i64 0,.int .i64 0,.int .i64 0,.int .i64 0,.int .i64 0,.int .i64 0,.int .i64 0,.int .i64 0,.int .i64 0,.int .i64 0,.int .i64 0,.int .i64 0,.int .i64 0,.int .i64 0,.int .i64 0,.int .i64 0,.int .i64 0,.int .i64 0,.int .i64 0,.int .i64 0,.int .i64 0,.int .i64 0,.int .i64 0,.int .i64 0,.int .i64 0,.int .i64 0,.int .i64 0,.int .i64 0,.int .i64 0,.int .i64 0,.int .i64 0,.int .i64 0,.int .i64 0,.int .i64 0,.int .i64 0,.int .i64 0,.int .i64 0,.int .i64 0,.int .i64 0,.int .i64 0,.int .i64 0,.int .i64 0,.int .i64 0,.int .i64 0,.int .i64 0,.int .i64 0,.int .i64 0,.int .i64 0,.int .i64 0,.int .i64 0,.int .i64 0,.int .i64 0,.int .i64 0,.int .i64 0,.int .i64 0,.int .i64 0,.int .i64 0,.int .i64 0,.int .i64 0,.int .i64 0,.int .i64 0,.int .i64 0,.int .i64 0,.int .i64 0,.int .i64 0,.int .i64 0,.int .i64 0,.int .i64 0,.int .i64 0] }
def iR:List (Nat×TI):=[(1,Bi),
(2,iu),
(3,iu),
(4,{ ld:=some (false,1),bo:=true,ze:=some [.bool false] }),
(5,{ ld:=some (false,1),ik:=some .u8,ze:=some [.int .u8 0] }),
(9,{ ld:=some (false,1),st:=true,ze:=some [.string ⟨#[]⟩] }),
(12,gM),
(13,{ ld:=some (true,2),fl:=[some (0,false,1),some (1,false,1)],ze:=some [.string ⟨#[]⟩,.int .u64 0] }),
(21,{ ld:=some (false,1),ik:=some .i32,ze:=some [.int .i32 0] }),
(22,{ ld:=some (false,1),sl:=some (5,1,1),ze:=some [.slice none 0 0] }),
(23,{ ld:=some (false,1),sl:=some (116,3,24),ze:=some [.slice none 0 0] }),
(24,fZ),
(25,fZ),
(26,{ ld:=some (false,1),sl:=some (64,1,24),ze:=some [.slice none 0 0] }),
(27,{ ld:=some (false,1),sl:=some (4,1,1),ze:=some [.slice none 0 0] }),
(28,iv),
(29,iv),
(31,Bi),
(32,iw),
(33,iw),
(34,Bi),
(35,Bi),
(36,Bi),
(37,{ ld:=some (false,1),sl:=some (25,3,40),ze:=some [.slice none 0 0] }),
(38,Bi),
(39,Bi),
(41,Bi),
(42,Bi),
(44,Bi),
(46,Bi),
(47,Bi),
(49,Bi),
(50,Bi),
(51,Bi),
(52,Bi),
(53,Bi),
(54,Bi),
(55,Bi),
(56,Bi),
(57,fQ),
(58,Bi),
(59,Bi),
(61,Bi),
(62,Bi),
(63,Bi),
(64,{ ld:=some (false,1),sl:=some (3,1,8),ze:=some [.slice none 0 0] }),
(65,Bi),
(66,Bi),
(67,Bi),
(68,Bi),
(69,Bi),
(70,Bi),
(71,Bi),
(72,Bi),
(73,Bi),
(74,Bi),
(75,Bi),
(76,Bi),
(77,Bi),
(78,Bi),
(79,Bi),
(80,Bi),
(81,Bi),
(83,Bi),
(84,ix),
(85,ix),
(86,iy),
(87,iy),
(89,Bi),
(90,iz),
(91,iz),
(93,Bi),
(94,fI),
(95,fI),
(96,{ ld:=some (false,1),sl:=some (9,1,16),ze:=some [.slice none 0 0] }),
(97,bh),
(98,bh),
(100,Bi),
(101,Bi),
(102,Bi),
(103,Bi),
(104,Bi),
(106,Bi),
(107,Bi),
(108,Bi),
(109,Bi),
(110,Bi),
(111,Bi),
(112,Bi),
(113,Bi),
(114,Bi),
(115,fJ),
(116,fJ),
(117,Bi),
(118,Bi),
(119,Bi),
(120,fQ),
(121,{ ld:=some (false,1),sl:=some (174,1,8),ze:=some [.slice none 0 0] }),
(122,bh),
(123,bh),
(124,Bi),
(125,{ ld:=some (false,1),sl:=some (127,6,48),ze:=some [.slice none 0 0] }),
(126,Bi),
(127,{ ld:=some (true,6),ar:=some (6,1),ze:=some [.int .i64 0,.int .i64 0,.int .i64 0,.int .i64 0,.int .i64 0,.int .i64 0] }),
(128,Bi),
(129,Bi),
(130,Bi),
(131,Bi),
(132,Bi),
(133,Bi),
(134,Bi),
(135,{ ld:=some (false,1),sl:=some (96,1,24),ze:=some [.slice none 0 0] }),
(136,Bi),
(138,Bi),
(139,Bi),
(140,Bi),
(141,Bi),
(142,fQ),
(143,Bi),
(144,Bi),
(145,fK),
(146,Bi),
(147,Bi),
(148,Bi),
(149,Bi),
(150,Bi),
(151,Bi),
(152,Bi),
(153,Bi),
(154,Bi),
(155,Bi),
(156,Bi),
(157,Bi),
(158,Bi),
(159,{ ld:=some (false,1),sl:=some (29,3,56),ze:=some [.slice none 0 0] }),
(160,fL),
(161,fL),
(162,Bi),
(163,Bi),
(164,Bi),
(165,Bi),
(166,Bi),
(168,Bi),
(170,Bi),
(171,Bi),
(172,Bi),
(173,Bi),
(174,fQ),
(175,Bi),
(176,{ ld:=some (false,1),sl:=some (178,3,40),ze:=some [.slice none 0 0] }),
(177,fZ),
(178,fZ),
(179,Bi),
(180,Bi),
(181,Bi),
(183,Bi),
(184,Bi),
(185,Bi),
(186,Bi),
(187,Bi),
(188,fK),
(189,{ ld:=some (false,1),sl:=some (195,12,24),ze:=some [.slice none 0 0] }),
(190,fM),
(191,fM),
(192,Bi),
(193,{ ld:=some (false,1),ik:=some .u16,ze:=some [.int .u16 0] }),
(194,fN),
(195,fN),
(196,Bi),
(197,Bi),
(198,Bi),
(199,Bi),
(200,gM),
(201,Bi),
(202,Bi),
(203,Bi),
(204,Bi),
(205,Bi),
(206,Bi),
(207,{ ld:=some (false,1),sl:=some (26,1,24),ze:=some [.slice none 0 0] }),
(208,Bi),
(209,Bi),
(210,Bi),
(211,Bi),
(212,Bi),
(213,Bi),
(214,Bi),
(215,fO),
(216,fO),
(217,Bi),
(218,Bi),
(219,Bi),
(220,Bi),
(221,Bi),
(222,Bi),
(223,Bi),
(224,Bi),
(225,Bi),
(226,Bi),
(227,Bi),
(228,Bi),
(229,Bi),
(230,{ ld:=some (false,1),ik:=some .u32,ze:=some [.int .u32 0] }),
(231,Bi),
(232,gM),
(233,Bi),
(234,Bi),
(237,Bi),
(246,fQ),
(251,Bi)]
instance:CB Tryz.prog:=⟨iR,Up (by kernel_rfl)⟩
def BU:List Value:=[.int .u8 0,.int .u8 1,.int .u8 28,.int .u8 2,.int .u8 29,.int .u8 14,.int .u8 24,.int .u8 3,.int .u8 30,.int .u8 22,.int .u8 20,.int .u8 15,.int .u8 25,.int .u8 17,.int .u8 4,.int .u8 8,.int .u8 31,.int .u8 27,.int .u8 13,.int .u8 23,.int .u8 21,.int .u8 19,.int .u8 16,.int .u8 7,.int .u8 26,.int .u8 12,.int .u8 18,.int .u8 6,.int .u8 11,.int .u8 5,.int .u8 10,.int .u8 9]
def Bn:List Value:=[.int .u8 0,.int .u8 1,.int .u8 56,.int .u8 2,.int .u8 57,.int .u8 49,.int .u8 28,.int .u8 3,.int .u8 61,.int .u8 58,.int .u8 42,.int .u8 50,.int .u8 38,.int .u8 29,.int .u8 17,.int .u8 4,.int .u8 62,.int .u8 47,.int .u8 59,.int .u8 36,.int .u8 45,.int .u8 43,.int .u8 51,.int .u8 22,.int .u8 53,.int .u8 39,.int .u8 33,.int .u8 30,.int .u8 24,.int .u8 18,.int .u8 12,.int .u8 5,.int .u8 63,.int .u8 55,.int .u8 48,.int .u8 27,.int .u8 60,.int .u8 41,.int .u8 37,.int .u8 16,.int .u8 46,.int .u8 35,.int .u8 44,.int .u8 21,.int .u8 52,.int .u8 32,.int .u8 23,.int .u8 11,.int .u8 54,.int .u8 26,.int .u8 40,.int .u8 15,.int .u8 34,.int .u8 20,.int .u8 31,.int .u8 10,.int .u8 25,.int .u8 14,.int .u8 19,.int .u8 9,.int .u8 13,.int .u8 8,.int .u8 7,.int .u8 6]
class FV (TB:BA):Prop where
 t0:Ph TB 0 BU
 t1:Ph TB 1 Bn
instance {TB:BA}[h:FV TB]:Ph TB 1 Bn:=h.t1
theorem mixed:Tryz.prog.follows .mixedOrders=true:=by kernel_rfl
theorem rE{TB:BA}{Z:Ctx}{N:Nat}{ops:Array Oper}{Q:Exit->Env->Ab->Nat->Prop}{id:Nat}{f:Env}{σ:Ab}{nx:Nat}(a:(Gd N ops && (Bc ops (Ak (Ig []) 0 ops.size) (Array.replicate ops.size false) && KQ ops (Ak (Ig []) 0 ops.size)))=true)
 (h:Lex Tryz.prog TB Z ops (Ak (Ig []) 0 ops.size) (λf σ nx=>Q .normal f σ nx) f σ nx):Ai Tryz.prog TB Z N (.region id ops true) Q f σ nx:=by rw [d4] at a;exact fF (Ig []) mixed a.1 a.2 h
theorem rG{TB:BA}{Z:Ctx}{N:Nat}{ops:Array Oper}{Q:Exit->Env->Ab->Nat->Prop}{id:Nat}{f:Env}{σ:Ab}{nx:Nat}(fl:Fl)(a:(Gd N ops && (Bc ops (Ak fl 0 ops.size) (Array.replicate ops.size false) && KQ ops (Ak fl 0 ops.size)))=true)
 (h:Lex Tryz.prog TB Z ops (Ak fl 0 ops.size) (λf σ nx=>Q .normal f σ nx) f σ nx):Ai Tryz.prog TB Z N (.region id ops true) Q f σ nx:=by rw [d4] at a;exact fF fl mixed a.1 a.2 h
end Go.Am
