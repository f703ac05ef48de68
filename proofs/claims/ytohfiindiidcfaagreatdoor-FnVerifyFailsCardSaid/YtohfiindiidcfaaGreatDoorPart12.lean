/-
  The seat's types, as the rules ask for them.
-/
import Derived.Test.YtohfiindiidcfaaGreatDoorPart10
import Derived.Test.YtohfiindiidcfaaGreatDoorProg
set_option linter.all false
namespace Go.Am
open Go Go.Proofs
instance:DV Tryz.prog 3 false 1:=⟨by kernel_rfl⟩
instance:Kk Tryz.prog 3 .i64:=⟨by kernel_rfl⟩
instance:QP Tryz.prog 3 (.int .i64 0):=⟨by kernel_rfl⟩
instance:BQ Tryz.prog 3 [.int .i64 0]:=⟨by kernel_rfl⟩
instance:BQ Tryz.prog 4 [.bool false]:=⟨by kernel_rfl⟩
instance:BQ Tryz.prog 5 [.int .u8 0]:=⟨by kernel_rfl⟩
instance:D0 Tryz.prog 9:=⟨by kernel_rfl⟩
instance:BQ Tryz.prog 9 [.string ⟨#[]⟩]:=⟨by kernel_rfl⟩
instance:Kk Tryz.prog 21 .i32:=⟨by kernel_rfl⟩
instance:XN Tryz.prog 22:=⟨5,by kernel_rfl,by kernel_rfl⟩
instance:CS Tryz.prog 22 5 1 1:=⟨by kernel_rfl⟩
instance:CS Tryz.prog 23 116 3 24:=⟨by kernel_rfl⟩
instance:DV Tryz.prog 25 true 3:=⟨by kernel_rfl⟩
instance:BQ Tryz.prog 25 [.int .i64 0,.int .i64 0,.slice none 0 0]:=⟨by kernel_rfl⟩
instance:ED Tryz.prog 25 [(0,1),(1,1),(2,1)]:=⟨by kernel_rfl⟩
instance:BQ Tryz.prog 26 [.slice none 0 0]:=⟨by kernel_rfl⟩
instance:CS Tryz.prog 26 64 1 24:=⟨by kernel_rfl⟩
instance:CS Tryz.prog 27 4 1 1:=⟨by kernel_rfl⟩
instance:DV Tryz.prog 29 true 3:=⟨by kernel_rfl⟩
instance:BQ Tryz.prog 29 [.int .i64 0,.slice none 0 0,.slice none 0 0]:=⟨by kernel_rfl⟩
instance:ED Tryz.prog 29 [(0,1),(1,1),(2,1)]:=⟨by kernel_rfl⟩
instance:BQ Tryz.prog 33 [.int .i64 0,.int .i64 0,.slice none 0 0,.slice none 0 0,.string ⟨#[]⟩,.int .i64 0]:=⟨by kernel_rfl⟩
instance:ED Tryz.prog 33 [(0,1),(1,3),(4,1),(5,1)]:=⟨by kernel_rfl⟩
instance:BQ Tryz.prog 64 [.slice none 0 0]:=⟨by kernel_rfl⟩
instance:CS Tryz.prog 64 3 1 8:=⟨by kernel_rfl⟩
instance:BQ Tryz.prog 85 [.slice none 0 0,.int .i64 0]:=⟨by kernel_rfl⟩
instance:ED Tryz.prog 85 [(0,1),(1,1)]:=⟨by kernel_rfl⟩
instance:BQ Tryz.prog 87 [.int .i64 0,.int .i64 0,.slice none 0 0,.int .i64 0,.slice none 0 0,.slice none 0 0,.int .i64 0]:=⟨by kernel_rfl⟩
instance:ED Tryz.prog 87 [(0,3),(3,3),(6,1)]:=⟨by kernel_rfl⟩
instance:BQ Tryz.prog 91 [.int .i64 0,.nilFunc]:=⟨by kernel_rfl⟩
instance:ED Tryz.prog 91 [(0,1),(1,1)]:=⟨by kernel_rfl⟩
instance:BQ Tryz.prog 95 [.bool false,.int .i64 0,.slice none 0 0,.slice none 0 0,.int .i64 0,.int .i64 0,.slice none 0 0,.int .i64 0,.slice none 0 0,.slice none 0 0,.int .i64 0]:=⟨by kernel_rfl⟩
instance:ED Tryz.prog 95 [(0,1),(1,3),(4,7)]:=⟨by kernel_rfl⟩
instance:CS Tryz.prog 96 9 1 16:=⟨by kernel_rfl⟩
instance:DV Tryz.prog 98 true 2:=⟨by kernel_rfl⟩
instance:BQ Tryz.prog 98 [.slice none 0 0,.slice none 0 0]:=⟨by kernel_rfl⟩
instance:ED Tryz.prog 98 [(0,1),(1,1)]:=⟨by kernel_rfl⟩
instance:BQ Tryz.prog 116 [.int .i64 0,.int .i64 0,.int .i64 0]:=⟨by kernel_rfl⟩
instance:ED Tryz.prog 116 [(0,1),(1,1),(2,1)]:=⟨by kernel_rfl⟩
instance:CS Tryz.prog 121 174 1 8:=⟨by kernel_rfl⟩
instance:DV Tryz.prog 123 true 2:=⟨by kernel_rfl⟩
instance:BQ Tryz.prog 123 [.slice none 0 0,.slice none 0 0]:=⟨by kernel_rfl⟩
instance:ED Tryz.prog 123 [(0,1),(1,1)]:=⟨by kernel_rfl⟩
instance:CS Tryz.prog 125 127 6 48:=⟨by kernel_rfl⟩
instance:BQ Tryz.prog 127 [.int .i64 0,.int .i64 0,.int .i64 0,.int .i64 0,.int .i64 0,.int .i64 0]:=⟨by kernel_rfl⟩
instance:ED Tryz.prog 127 [(0,1),(1,1),(2,1),(3,1),(4,1),(5,1)]:=⟨by kernel_rfl⟩
instance:KU Tryz.prog 145 9 3:=⟨by kernel_rfl⟩
instance:BQ Tryz.prog 161 [.slice none 0 0,.slice none 0 0,.slice none 0 0,.int .i64 0,.int .i64 0,.int .i64 0]:=⟨by kernel_rfl⟩
instance:ED Tryz.prog 161 [(0,1),(1,1),(2,1),(3,1),(4,1),(5,1)]:=⟨by kernel_rfl⟩
instance:BQ Tryz.prog 174 [.pointer none]:=⟨by kernel_rfl⟩
instance:BQ Tryz.prog 176 [.slice none 0 0]:=⟨by kernel_rfl⟩
instance:CS Tryz.prog 176 178 3 40:=⟨by kernel_rfl⟩
instance:BQ Tryz.prog 178 [.int .i64 0,.int .i64 0,.slice none 0 0]:=⟨by kernel_rfl⟩
instance:ED Tryz.prog 178 [(0,1),(1,1),(2,1)]:=⟨by kernel_rfl⟩
instance:KU Tryz.prog 188 195 3:=⟨by kernel_rfl⟩
instance:CS Tryz.prog 189 195 12 24:=⟨by kernel_rfl⟩
instance:BQ Tryz.prog 191 [.int .i64 0,.int .i64 0,.slice none 0 0,.int .i64 0,.slice none 0 0,.slice none 0 0,.int .i64 0,.pointer none,.slice none 0 0,.slice none 0 0,.slice none 0 0,.map none,.slice none 0 0,.slice none 0 0]:=⟨by kernel_rfl⟩
instance:ED Tryz.prog 191 [(0,7),(7,1),(8,1),(9,1),(10,1),(11,1),(12,1),(13,1)]:=⟨by kernel_rfl⟩
instance:DV Tryz.prog 193 false 1:=⟨by kernel_rfl⟩
instance:Kk Tryz.prog 193 .u16:=⟨by kernel_rfl⟩
instance:BQ Tryz.prog 195 [.int .u16 0,.int .u16 0,.int .u16 0,.int .u16 0,.int .u16 0,.int .u16 0,.int .u16 0,.int .u16 0,.int .u16 0,.int .u16 0,.int .u16 0,.int .u16 0]:=⟨by kernel_rfl⟩
instance:ED Tryz.prog 195 [(0,1),(1,1),(2,1),(3,1),(4,1),(5,1),(6,1),(7,1),(8,1),(9,1),(10,1),(11,1)]:=⟨by kernel_rfl⟩
instance:CS Tryz.prog 207 26 1 24:=⟨by kernel_rfl⟩
instance:QO Tryz.prog 236 64 1:=⟨by kernel_rfl⟩
def Bx:TI:={ ld:=some (false,1),ze:=some [.nilFunc] }
def nC:TI:={ ld:=some (false,1),ik:=some .i64,ze:=some [.int .i64 0] }
def mU:TI:={ ld:=some (false,1),ik:=some .u64,ze:=some [.int .u64 0] }
def me:TI:={ ld:=some (true,3),fl:=[some (0,false,1),some (1,false,1),some (2,false,1)],ze:=some [.int .i64 0,.int .i64 0,.slice none 0 0] }
def nD:TI:={ ld:=some (true,3),fl:=[some (0,false,1),some (1,false,1),some (2,false,1)],ze:=some [.int .i64 0,.slice none 0 0,.slice none 0 0] }
def nE:TI:={ ld:=some (true,6),fl:=[some (0,false,1),some (1,true,3),some (4,false,1),some (5,false,1)],ze:=some [.int .i64 0,.int .i64 0,.slice none 0 0,.slice none 0 0,.string ⟨#[]⟩,.int .i64 0] }
def lY:TI:={ ld:=some (false,1),pt:=true,ze:=some [.pointer none] }
def nF:TI:={ ld:=some (true,2),fl:=[some (0,false,1),some (1,false,1)],ze:=some [.slice none 0 0,.int .i64 0] }
def nG:TI:={ ld:=some (true,7),fl:=[some (0,true,3),some (3,true,3),some (6,false,1)],ze:=some [.int .i64 0,.int .i64 0,.slice none 0 0,.int .i64 0,.slice none 0 0,.slice none 0 0,.int .i64 0] }
def nH:TI:={ ld:=some (true,2),fl:=[some (0,false,1),some (1,false,1)],ze:=some [.int .i64 0,.nilFunc] }
def lR:TI:={ ld:=some (true,11),fl:=[some (0,false,1),some (1,true,3),some (4,true,7)],ze:=some [.bool false,.int .i64 0,.slice none 0 0,.slice none 0 0,.int .i64 0,.int .i64 0,.slice none 0 0,.int .i64 0,.slice none 0 0,.slice none 0 0,.int .i64 0] }
def gU:TI:={ ld:=some (true,2),fl:=[some (0,false,1),some (1,false,1)],ze:=some [.slice none 0 0,.slice none 0 0] }
def lS:TI:={ ld:=some (true,3),fl:=[some (0,false,1),some (1,false,1),some (2,false,1)],ze:=some [.int .i64 0,.int .i64 0,.int .i64 0] }
def lT:TI:={ ld:=some (false,1),ze:=some [.map none] }
def lU:TI:={ ld:=some (true,6),fl:=[some (0,false,1),some (1,false,1),some (2,false,1),some (3,false,1),some (4,false,1),some (5,false,1)],ze:=some [.slice none 0 0,.slice none 0 0,.slice none 0 0,.int .i64 0,.int .i64 0,.int .i64 0] }
def lV:TI:={ ld:=some (true,14),fl:=[some (0,true,7),some (7,false,1),some (8,false,1),some (9,false,1),some (10,false,1),some (11,false,1),some (12,false,1),some (13,false,1)],ze:=some [.int .i64 0,.int .i64 0,.slice none 0 0,.int .i64 0,.slice none 0 0,.slice none 0 0,.int .i64 0,.pointer none,.slice none 0 0,.slice none 0 0,.slice none 0 0,.map none,.slice none 0 0,.slice none 0 0] }
def lW:TI:={ ld:=some (true,12),ar:=some (12,1),ze:=some [.int .u16 0,.int .u16 0,.int .u16 0,.int .u16 0,.int .u16 0,.int .u16 0,.int .u16 0,.int .u16 0,.int .u16 0,.int .u16 0,.int .u16 0,.int .u16 0] }
def lX:TI:={ ld:=some (true,96),ar:=some (16,6),ze:=some [.int .i64 0,.int .i64 0,.int .i64 0,.int .i64 0,.int .i64 0,.int .i64 0,.int .i64 0,.int .i64 0,.int .i64 0,.int .i64 0,.int .i64 0,.int .i64 0,.int .i64 0,.int .i64 0,.int .i64 0,.int .i64 0,.int .i64 0,.int .i64 0,.int .i64 0,.int .i64 0,.int .i64 0,.int .i64 0,.int .i64 0,.int .i64 0,.int .i64 0,.int .i64 0,.int .i64 0,.int .i64 0,.int .i64 0,.int .i64 0,.int .i64 0,.int .i64 0,.int .i64 0,.int .i64 0,.int .i64 0,.int .i64 0,.int .i64 0,.int .i64 0,.int .i64 0,.int .i64 0,.int .i64 0,.int .i64 0,.int .i64 0,.int .i64 0,.int .i64 0,.int .i64 0,.int .i64 0,.int .i64 0,.int .i64 0,.int .i64 0,.int .i64 0,.int .i64 0,.int .i64 0,.int .i64 0,.int .i64 0,.int .i64 0,.int .i64 0,.int .i64 0,.int .i64 0,.int .i64 0,.int .i64 0,.int .i64 0,.int .i64 0,.int .i64 0,.int .i64 0,.int .i64 0,.int .i64 0,.int .i64 0,.int .i64 0,.int .i64 0,.int .i64 0,.int .i64 0,.int .i64 0,.int .i64 0,.int .i64 0,.int .i64 0,.int .i64 0,.int .i64 0,.int .i64 0,.int .i64 0,.int .i64 0,.int .i64 0,.int .i64 0,.int .i64 0,.int .i64 0,.int .i64 0,.int .i64 0,.int .i64 0,.int .i64 0,.int .i64 0,.int .i64 0,.int .i64 0,.int .i64 0,.int .i64 0,.int .i64 0,.int .i64 0] }
def nV:List (Nat×TI):=[(1,Bx),
(2,nC),
(3,nC),
(4,{ ld:=some (false,1),bo:=true,ze:=some [.bool false] }),
(5,{ ld:=some (false,1),ik:=some .u8,ze:=some [.int .u8 0] }),
(9,{ ld:=some (false,1),st:=true,ze:=some [.string ⟨#[]⟩] }),
(12,mU),
(13,{ ld:=some (true,2),fl:=[some (0,false,1),some (1,false,1)],ze:=some [.string ⟨#[]⟩,.int .u64 0] }),
(21,{ ld:=some (false,1),ik:=some .i32,ze:=some [.int .i32 0] }),
(22,{ ld:=some (false,1),sl:=some (5,1,1),ze:=some [.slice none 0 0] }),
(23,{ ld:=some (false,1),sl:=some (116,3,24),ze:=some [.slice none 0 0] }),
(24,me),
(25,me),
(26,{ ld:=some (false,1),sl:=some (64,1,24),ze:=some [.slice none 0 0] }),
(27,{ ld:=some (false,1),sl:=some (4,1,1),ze:=some [.slice none 0 0] }),
(28,nD),
(29,nD),
(31,Bx),
(32,nE),
(33,nE),
(34,Bx),
(35,Bx),
(36,Bx),
(37,{ ld:=some (false,1),sl:=some (25,3,40),ze:=some [.slice none 0 0] }),
(38,Bx),
(39,Bx),
(41,Bx),
(42,Bx),
(44,Bx),
(46,Bx),
(47,Bx),
(49,Bx),
(50,Bx),
(51,Bx),
(52,Bx),
(53,Bx),
(54,Bx),
(55,Bx),
(56,Bx),
(57,lY),
(58,Bx),
(59,Bx),
(61,Bx),
(62,Bx),
(63,Bx),
(64,{ ld:=some (false,1),sl:=some (3,1,8),ze:=some [.slice none 0 0] }),
(65,Bx),
(66,Bx),
(67,Bx),
(68,Bx),
(69,Bx),
(70,Bx),
(71,Bx),
(72,Bx),
(73,Bx),
(74,Bx),
(75,Bx),
(76,Bx),
(77,Bx),
(78,Bx),
(79,Bx),
(80,Bx),
(81,Bx),
(83,Bx),
(84,nF),
(85,nF),
(86,nG),
(87,nG),
(89,Bx),
(90,nH),
(91,nH),
(93,Bx),
(94,lR),
(95,lR),
(96,{ ld:=some (false,1),sl:=some (9,1,16),ze:=some [.slice none 0 0] }),
(97,gU),
(98,gU),
(100,Bx),
(101,Bx),
(102,Bx),
(103,Bx),
(104,Bx),
(106,Bx),
(107,Bx),
(108,Bx),
(109,Bx),
(110,Bx),
(111,Bx),
(112,Bx),
(113,Bx),
(114,Bx),
(115,lS),
(116,lS),
(117,Bx),
(118,Bx),
(119,Bx),
(120,lY),
(121,{ ld:=some (false,1),sl:=some (174,1,8),ze:=some [.slice none 0 0] }),
(122,gU),
(123,gU),
(124,Bx),
(125,{ ld:=some (false,1),sl:=some (127,6,48),ze:=some [.slice none 0 0] }),
(126,Bx),
(127,{ ld:=some (true,6),ar:=some (6,1),ze:=some [.int .i64 0,.int .i64 0,.int .i64 0,.int .i64 0,.int .i64 0,.int .i64 0] }),
(128,Bx),
(129,Bx),
(130,Bx),
(131,Bx),
(132,Bx),
(133,Bx),
(134,Bx),
(135,{ ld:=some (false,1),sl:=some (96,1,24),ze:=some [.slice none 0 0] }),
(136,Bx),
(138,Bx),
(139,Bx),
(140,Bx),
(141,Bx),
(142,lY),
(143,Bx),
(144,Bx),
(145,lT),
(146,Bx),
(147,Bx),
(148,Bx),
(149,Bx),
(150,Bx),
(151,Bx),
(152,Bx),
(153,Bx),
(154,Bx),
(155,Bx),
(156,Bx),
(157,Bx),
(158,Bx),
(159,{ ld:=some (false,1),sl:=some (29,3,56),ze:=some [.slice none 0 0] }),
(160,lU),
(161,lU),
(162,Bx),
(163,Bx),
(164,Bx),
(165,Bx),
(166,Bx),
(168,Bx),
(170,Bx),
(171,Bx),
(172,Bx),
(173,Bx),
(174,lY),
(175,Bx),
(176,{ ld:=some (false,1),sl:=some (178,3,40),ze:=some [.slice none 0 0] }),
(177,me),
(178,me),
(179,Bx),
(180,Bx),
(181,Bx),
(183,Bx),
(184,Bx),
(185,Bx),
(186,Bx),
(187,Bx),
(188,lT),
(189,{ ld:=some (false,1),sl:=some (195,12,24),ze:=some [.slice none 0 0] }),
(190,lV),
(191,lV),
(192,Bx),
(193,{ ld:=some (false,1),ik:=some .u16,ze:=some [.int .u16 0] }),
(194,lW),
(195,lW),
(196,Bx),
(197,Bx),
(198,Bx),
(199,Bx),
(200,mU),
(201,Bx),
(202,Bx),
(203,Bx),
(204,Bx),
(205,Bx),
(206,Bx),
(207,{ ld:=some (false,1),sl:=some (26,1,24),ze:=some [.slice none 0 0] }),
(208,Bx),
(209,Bx),
(210,Bx),
(211,Bx),
(212,Bx),
(213,Bx),
(214,Bx),
(215,lX),
(216,lX),
(217,Bx),
(218,Bx),
(219,Bx),
(220,Bx),
(221,Bx),
(222,Bx),
(223,Bx),
(224,Bx),
(225,Bx),
(226,Bx),
(227,Bx),
(228,Bx),
(229,Bx),
(230,{ ld:=some (false,1),ik:=some .u32,ze:=some [.int .u32 0] }),
(231,Bx),
(232,mU),
(233,Bx),
(234,Bx),
(237,Bx),
(246,lY),
(251,Bx)]
instance:Db Tryz.prog:=⟨nV,XU (by kernel_rfl)⟩
def CG:List Value:=[.int .u8 0,.int .u8 1,.int .u8 28,.int .u8 2,.int .u8 29,.int .u8 14,.int .u8 24,.int .u8 3,.int .u8 30,.int .u8 22,.int .u8 20,.int .u8 15,.int .u8 25,.int .u8 17,.int .u8 4,.int .u8 8,.int .u8 31,.int .u8 27,.int .u8 13,.int .u8 23,.int .u8 21,.int .u8 19,.int .u8 16,.int .u8 7,.int .u8 26,.int .u8 12,.int .u8 18,.int .u8 6,.int .u8 11,.int .u8 5,.int .u8 10,.int .u8 9]
def BC:List Value:=[.int .u8 0,.int .u8 1,.int .u8 56,.int .u8 2,.int .u8 57,.int .u8 49,.int .u8 28,.int .u8 3,.int .u8 61,.int .u8 58,.int .u8 42,.int .u8 50,.int .u8 38,.int .u8 29,.int .u8 17,.int .u8 4,.int .u8 62,.int .u8 47,.int .u8 59,.int .u8 36,.int .u8 45,.int .u8 43,.int .u8 51,.int .u8 22,.int .u8 53,.int .u8 39,.int .u8 33,.int .u8 30,.int .u8 24,.int .u8 18,.int .u8 12,.int .u8 5,.int .u8 63,.int .u8 55,.int .u8 48,.int .u8 27,.int .u8 60,.int .u8 41,.int .u8 37,.int .u8 16,.int .u8 46,.int .u8 35,.int .u8 44,.int .u8 21,.int .u8 52,.int .u8 32,.int .u8 23,.int .u8 11,.int .u8 54,.int .u8 26,.int .u8 40,.int .u8 15,.int .u8 34,.int .u8 20,.int .u8 31,.int .u8 10,.int .u8 25,.int .u8 14,.int .u8 19,.int .u8 9,.int .u8 13,.int .u8 8,.int .u8 7,.int .u8 6]
class C8 (TB:BF):Prop where
 t0:MD TB 0 CG
 t1:MD TB 1 BC
instance {TB:BF}[h:C8 TB]:MD TB 1 BC:=h.t1
theorem mixed:Tryz.prog.follows .mixedOrders=true:=by kernel_rfl
theorem rE{TB:BF}{Γ:Ctx}{N:Nat}{ops:Array Oper}{Q:Exit->Env->Ab->Nat->Prop}{id:Nat}{f:Env}{σ:Ab}{nx:Nat}(a:(Hl N ops && (Bs ops (Av (He []) 0 ops.size) (Array.replicate ops.size false) && Na ops (Av (He []) 0 ops.size)))=true)
 (h:Lex Tryz.prog TB Γ ops (Av (He []) 0 ops.size) (λf σ nx=>Q .normal f σ nx) f σ nx):Aj Tryz.prog TB Γ N (.region id ops true) Q f σ nx:=by rw [d4] at a;exact lN (He []) mixed a.1 a.2 h
theorem rG{TB:BF}{Γ:Ctx}{N:Nat}{ops:Array Oper}{Q:Exit->Env->Ab->Nat->Prop}{id:Nat}{f:Env}{σ:Ab}{nx:Nat}(fl:Fl)(a:(Hl N ops && (Bs ops (Av fl 0 ops.size) (Array.replicate ops.size false) && Na ops (Av fl 0 ops.size)))=true)
 (h:Lex Tryz.prog TB Γ ops (Av fl 0 ops.size) (λf σ nx=>Q .normal f σ nx) f σ nx):Aj Tryz.prog TB Γ N (.region id ops true) Q f σ nx:=by rw [d4] at a;exact lN fl mixed a.1 a.2 h
end Go.Am
