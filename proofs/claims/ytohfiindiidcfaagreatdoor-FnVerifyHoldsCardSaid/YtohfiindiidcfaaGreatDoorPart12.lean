/-
  The seat's types, as the rules ask for them.
-/
import Derived.Test.YtohfiindiidcfaaGreatDoorPart11
import Derived.Test.YtohfiindiidcfaaGreatDoorProg
set_option linter.all false
namespace Go.Am
open Go Go.Proofs
instance:DV Tryz.prog 3 false 1:=⟨by kernel_rfl⟩
instance:Ks Tryz.prog 3 .i64:=⟨by kernel_rfl⟩
instance:Ru Tryz.prog 3 (.int .i64 0):=⟨by kernel_rfl⟩
instance:BT Tryz.prog 3 [.int .i64 0]:=⟨by kernel_rfl⟩
instance:BT Tryz.prog 4 [.bool false]:=⟨by kernel_rfl⟩
instance:BT Tryz.prog 5 [.int .u8 0]:=⟨by kernel_rfl⟩
instance:D0 Tryz.prog 9:=⟨by kernel_rfl⟩
instance:BT Tryz.prog 9 [.string ⟨#[]⟩]:=⟨by kernel_rfl⟩
instance:Ks Tryz.prog 21 .i32:=⟨by kernel_rfl⟩
instance:XX Tryz.prog 22:=⟨5,by kernel_rfl,by kernel_rfl⟩
instance:CX Tryz.prog 22 5 1 1:=⟨by kernel_rfl⟩
instance:CX Tryz.prog 23 116 3 24:=⟨by kernel_rfl⟩
instance:DV Tryz.prog 25 true 3:=⟨by kernel_rfl⟩
instance:BT Tryz.prog 25 [.int .i64 0,.int .i64 0,.slice none 0 0]:=⟨by kernel_rfl⟩
instance:EE Tryz.prog 25 [(0,1),(1,1),(2,1)]:=⟨by kernel_rfl⟩
instance:BT Tryz.prog 26 [.slice none 0 0]:=⟨by kernel_rfl⟩
instance:CX Tryz.prog 26 64 1 24:=⟨by kernel_rfl⟩
instance:CX Tryz.prog 27 4 1 1:=⟨by kernel_rfl⟩
instance:DV Tryz.prog 29 true 3:=⟨by kernel_rfl⟩
instance:BT Tryz.prog 29 [.int .i64 0,.slice none 0 0,.slice none 0 0]:=⟨by kernel_rfl⟩
instance:EE Tryz.prog 29 [(0,1),(1,1),(2,1)]:=⟨by kernel_rfl⟩
instance:BT Tryz.prog 33 [.int .i64 0,.int .i64 0,.slice none 0 0,.slice none 0 0,.string ⟨#[]⟩,.int .i64 0]:=⟨by kernel_rfl⟩
instance:EE Tryz.prog 33 [(0,1),(1,3),(4,1),(5,1)]:=⟨by kernel_rfl⟩
instance:BT Tryz.prog 64 [.slice none 0 0]:=⟨by kernel_rfl⟩
instance:CX Tryz.prog 64 3 1 8:=⟨by kernel_rfl⟩
instance:BT Tryz.prog 85 [.slice none 0 0,.int .i64 0]:=⟨by kernel_rfl⟩
instance:EE Tryz.prog 85 [(0,1),(1,1)]:=⟨by kernel_rfl⟩
instance:BT Tryz.prog 87 [.int .i64 0,.int .i64 0,.slice none 0 0,.int .i64 0,.slice none 0 0,.slice none 0 0,.int .i64 0]:=⟨by kernel_rfl⟩
instance:EE Tryz.prog 87 [(0,3),(3,3),(6,1)]:=⟨by kernel_rfl⟩
instance:BT Tryz.prog 91 [.int .i64 0,.nilFunc]:=⟨by kernel_rfl⟩
instance:EE Tryz.prog 91 [(0,1),(1,1)]:=⟨by kernel_rfl⟩
instance:BT Tryz.prog 95 [.bool false,.int .i64 0,.slice none 0 0,.slice none 0 0,.int .i64 0,.int .i64 0,.slice none 0 0,.int .i64 0,.slice none 0 0,.slice none 0 0,.int .i64 0]:=⟨by kernel_rfl⟩
instance:EE Tryz.prog 95 [(0,1),(1,3),(4,7)]:=⟨by kernel_rfl⟩
instance:CX Tryz.prog 96 9 1 16:=⟨by kernel_rfl⟩
instance:DV Tryz.prog 98 true 2:=⟨by kernel_rfl⟩
instance:BT Tryz.prog 98 [.slice none 0 0,.slice none 0 0]:=⟨by kernel_rfl⟩
instance:EE Tryz.prog 98 [(0,1),(1,1)]:=⟨by kernel_rfl⟩
instance:BT Tryz.prog 116 [.int .i64 0,.int .i64 0,.int .i64 0]:=⟨by kernel_rfl⟩
instance:EE Tryz.prog 116 [(0,1),(1,1),(2,1)]:=⟨by kernel_rfl⟩
instance:CX Tryz.prog 121 174 1 8:=⟨by kernel_rfl⟩
instance:DV Tryz.prog 123 true 2:=⟨by kernel_rfl⟩
instance:BT Tryz.prog 123 [.slice none 0 0,.slice none 0 0]:=⟨by kernel_rfl⟩
instance:EE Tryz.prog 123 [(0,1),(1,1)]:=⟨by kernel_rfl⟩
instance:CX Tryz.prog 125 127 6 48:=⟨by kernel_rfl⟩
instance:BT Tryz.prog 127 [.int .i64 0,.int .i64 0,.int .i64 0,.int .i64 0,.int .i64 0,.int .i64 0]:=⟨by kernel_rfl⟩
instance:EE Tryz.prog 127 [(0,1),(1,1),(2,1),(3,1),(4,1),(5,1)]:=⟨by kernel_rfl⟩
instance:Lf Tryz.prog 145 9 3:=⟨by kernel_rfl⟩
instance:BT Tryz.prog 161 [.slice none 0 0,.slice none 0 0,.slice none 0 0,.int .i64 0,.int .i64 0,.int .i64 0]:=⟨by kernel_rfl⟩
instance:EE Tryz.prog 161 [(0,1),(1,1),(2,1),(3,1),(4,1),(5,1)]:=⟨by kernel_rfl⟩
instance:BT Tryz.prog 174 [.pointer none]:=⟨by kernel_rfl⟩
instance:BT Tryz.prog 176 [.slice none 0 0]:=⟨by kernel_rfl⟩
instance:CX Tryz.prog 176 178 3 40:=⟨by kernel_rfl⟩
instance:BT Tryz.prog 178 [.int .i64 0,.int .i64 0,.slice none 0 0]:=⟨by kernel_rfl⟩
instance:EE Tryz.prog 178 [(0,1),(1,1),(2,1)]:=⟨by kernel_rfl⟩
instance:Lf Tryz.prog 188 195 3:=⟨by kernel_rfl⟩
instance:CX Tryz.prog 189 195 12 24:=⟨by kernel_rfl⟩
instance:BT Tryz.prog 191 [.int .i64 0,.int .i64 0,.slice none 0 0,.int .i64 0,.slice none 0 0,.slice none 0 0,.int .i64 0,.pointer none,.slice none 0 0,.slice none 0 0,.slice none 0 0,.map none,.slice none 0 0,.slice none 0 0]:=⟨by kernel_rfl⟩
instance:EE Tryz.prog 191 [(0,7),(7,1),(8,1),(9,1),(10,1),(11,1),(12,1),(13,1)]:=⟨by kernel_rfl⟩
instance:DV Tryz.prog 193 false 1:=⟨by kernel_rfl⟩
instance:Ks Tryz.prog 193 .u16:=⟨by kernel_rfl⟩
instance:BT Tryz.prog 195 [.int .u16 0,.int .u16 0,.int .u16 0,.int .u16 0,.int .u16 0,.int .u16 0,.int .u16 0,.int .u16 0,.int .u16 0,.int .u16 0,.int .u16 0,.int .u16 0]:=⟨by kernel_rfl⟩
instance:EE Tryz.prog 195 [(0,1),(1,1),(2,1),(3,1),(4,1),(5,1),(6,1),(7,1),(8,1),(9,1),(10,1),(11,1)]:=⟨by kernel_rfl⟩
instance:CX Tryz.prog 207 26 1 24:=⟨by kernel_rfl⟩
instance:Rt Tryz.prog 236 64 1:=⟨by kernel_rfl⟩
def BA:TI:={ ld:=some (false,1),ze:=some [.nilFunc] }
def nV:TI:={ ld:=some (false,1),ik:=some .i64,ze:=some [.int .i64 0] }
def nv:TI:={ ld:=some (false,1),ik:=some .u64,ze:=some [.int .u64 0] }
def mI:TI:={ ld:=some (true,3),fl:=[some (0,false,1),some (1,false,1),some (2,false,1)],ze:=some [.int .i64 0,.int .i64 0,.slice none 0 0] }
def nW:TI:={ ld:=some (true,3),fl:=[some (0,false,1),some (1,false,1),some (2,false,1)],ze:=some [.int .i64 0,.slice none 0 0,.slice none 0 0] }
def nX:TI:={ ld:=some (true,6),fl:=[some (0,false,1),some (1,true,3),some (4,false,1),some (5,false,1)],ze:=some [.int .i64 0,.int .i64 0,.slice none 0 0,.slice none 0 0,.string ⟨#[]⟩,.int .i64 0] }
def mu:TI:={ ld:=some (false,1),pt:=true,ze:=some [.pointer none] }
def nY:TI:={ ld:=some (true,2),fl:=[some (0,false,1),some (1,false,1)],ze:=some [.slice none 0 0,.int .i64 0] }
def nZ:TI:={ ld:=some (true,7),fl:=[some (0,true,3),some (3,true,3),some (6,false,1)],ze:=some [.int .i64 0,.int .i64 0,.slice none 0 0,.int .i64 0,.slice none 0 0,.slice none 0 0,.int .i64 0] }
def n7:TI:={ ld:=some (true,2),fl:=[some (0,false,1),some (1,false,1)],ze:=some [.int .i64 0,.nilFunc] }
def mg:TI:={ ld:=some (true,11),fl:=[some (0,false,1),some (1,true,3),some (4,true,7)],ze:=some [.bool false,.int .i64 0,.slice none 0 0,.slice none 0 0,.int .i64 0,.int .i64 0,.slice none 0 0,.int .i64 0,.slice none 0 0,.slice none 0 0,.int .i64 0] }
def il:TI:={ ld:=some (true,2),fl:=[some (0,false,1),some (1,false,1)],ze:=some [.slice none 0 0,.slice none 0 0] }
def mh:TI:={ ld:=some (true,3),fl:=[some (0,false,1),some (1,false,1),some (2,false,1)],ze:=some [.int .i64 0,.int .i64 0,.int .i64 0] }
def mj:TI:={ ld:=some (false,1),ze:=some [.map none] }
def ml:TI:={ ld:=some (true,6),fl:=[some (0,false,1),some (1,false,1),some (2,false,1),some (3,false,1),some (4,false,1),some (5,false,1)],ze:=some [.slice none 0 0,.slice none 0 0,.slice none 0 0,.int .i64 0,.int .i64 0,.int .i64 0] }
def mn:TI:={ ld:=some (true,14),fl:=[some (0,true,7),some (7,false,1),some (8,false,1),some (9,false,1),some (10,false,1),some (11,false,1),some (12,false,1),some (13,false,1)],ze:=some [.int .i64 0,.int .i64 0,.slice none 0 0,.int .i64 0,.slice none 0 0,.slice none 0 0,.int .i64 0,.pointer none,.slice none 0 0,.slice none 0 0,.slice none 0 0,.map none,.slice none 0 0,.slice none 0 0] }
def mq:TI:={ ld:=some (true,12),ar:=some (12,1),ze:=some [.int .u16 0,.int .u16 0,.int .u16 0,.int .u16 0,.int .u16 0,.int .u16 0,.int .u16 0,.int .u16 0,.int .u16 0,.int .u16 0,.int .u16 0,.int .u16 0] }
def mr:TI:={ ld:=some (true,96),ar:=some (16,6),ze:=some [.int .i64 0,.int .i64 0,.int .i64 0,.int .i64 0,.int .i64 0,.int .i64 0,.int .i64 0,.int .i64 0,.int .i64 0,.int .i64 0,.int .i64 0,.int .i64 0,.int .i64 0,.int .i64 0,.int .i64 0,.int .i64 0,.int .i64 0,.int .i64 0,.int .i64 0,.int .i64 0,.int .i64 0,.int .i64 0,.int .i64 0,.int .i64 0,.int .i64 0,.int .i64 0,.int .i64 0,.int .i64 0,.int .i64 0,.int .i64 0,.int .i64 0,.int .i64 0,.int .i64 0,.int .i64 0,.int .i64 0,.int .i64 0,.int .i64 0,.int .i64 0,.int .i64 0,.int .i64 0,.int .i64 0,.int .i64 0,.int .i64 0,.int .i64 0,.int .i64 0,.int .i64 0,.int .i64 0,.int .i64 0,.int .i64 0,.int .i64 0,.int .i64 0,.int .i64 0,.int .i64 0,.int .i64 0,.int .i64 0,.int .i64 0,.int .i64 0,.int .i64 0,.int .i64 0,.int .i64 0,.int .i64 0,.int .i64 0,.int .i64 0,.int .i64 0,.int .i64 0,.int .i64 0,.int .i64 0,.int .i64 0,.int .i64 0,.int .i64 0,.int .i64 0,.int .i64 0,.int .i64 0,.int .i64 0,.int .i64 0,.int .i64 0,.int .i64 0,.int .i64 0,.int .i64 0,.int .i64 0,.int .i64 0,.int .i64 0,.int .i64 0,.int .i64 0,.int .i64 0,.int .i64 0,.int .i64 0,.int .i64 0,.int .i64 0,.int .i64 0,.int .i64 0,.int .i64 0,.int .i64 0,.int .i64 0,.int .i64 0,.int .i64 0] }
def ow:List (Nat×TI):=[(1,BA),
(2,nV),
(3,nV),
(4,{ ld:=some (false,1),bo:=true,ze:=some [.bool false] }),
(5,{ ld:=some (false,1),ik:=some .u8,ze:=some [.int .u8 0] }),
(9,{ ld:=some (false,1),st:=true,ze:=some [.string ⟨#[]⟩] }),
(12,nv),
(13,{ ld:=some (true,2),fl:=[some (0,false,1),some (1,false,1)],ze:=some [.string ⟨#[]⟩,.int .u64 0] }),
(21,{ ld:=some (false,1),ik:=some .i32,ze:=some [.int .i32 0] }),
(22,{ ld:=some (false,1),sl:=some (5,1,1),ze:=some [.slice none 0 0] }),
(23,{ ld:=some (false,1),sl:=some (116,3,24),ze:=some [.slice none 0 0] }),
(24,mI),
(25,mI),
(26,{ ld:=some (false,1),sl:=some (64,1,24),ze:=some [.slice none 0 0] }),
(27,{ ld:=some (false,1),sl:=some (4,1,1),ze:=some [.slice none 0 0] }),
(28,nW),
(29,nW),
(31,BA),
(32,nX),
(33,nX),
(34,BA),
(35,BA),
(36,BA),
(37,{ ld:=some (false,1),sl:=some (25,3,40),ze:=some [.slice none 0 0] }),
(38,BA),
(39,BA),
(41,BA),
(42,BA),
(44,BA),
(46,BA),
(47,BA),
(49,BA),
(50,BA),
(51,BA),
(52,BA),
(53,BA),
(54,BA),
(55,BA),
(56,BA),
(57,mu),
(58,BA),
(59,BA),
(61,BA),
(62,BA),
(63,BA),
(64,{ ld:=some (false,1),sl:=some (3,1,8),ze:=some [.slice none 0 0] }),
(65,BA),
(66,BA),
(67,BA),
(68,BA),
(69,BA),
(70,BA),
(71,BA),
(72,BA),
(73,BA),
(74,BA),
(75,BA),
(76,BA),
(77,BA),
(78,BA),
(79,BA),
(80,BA),
(81,BA),
(83,BA),
(84,nY),
(85,nY),
(86,nZ),
(87,nZ),
(89,BA),
(90,n7),
(91,n7),
(93,BA),
(94,mg),
(95,mg),
(96,{ ld:=some (false,1),sl:=some (9,1,16),ze:=some [.slice none 0 0] }),
(97,il),
(98,il),
(100,BA),
(101,BA),
(102,BA),
(103,BA),
(104,BA),
(106,BA),
(107,BA),
(108,BA),
(109,BA),
(110,BA),
(111,BA),
(112,BA),
(113,BA),
(114,BA),
(115,mh),
(116,mh),
(117,BA),
(118,BA),
(119,BA),
(120,mu),
(121,{ ld:=some (false,1),sl:=some (174,1,8),ze:=some [.slice none 0 0] }),
(122,il),
(123,il),
(124,BA),
(125,{ ld:=some (false,1),sl:=some (127,6,48),ze:=some [.slice none 0 0] }),
(126,BA),
(127,{ ld:=some (true,6),ar:=some (6,1),ze:=some [.int .i64 0,.int .i64 0,.int .i64 0,.int .i64 0,.int .i64 0,.int .i64 0] }),
(128,BA),
(129,BA),
(130,BA),
(131,BA),
(132,BA),
(133,BA),
(134,BA),
(135,{ ld:=some (false,1),sl:=some (96,1,24),ze:=some [.slice none 0 0] }),
(136,BA),
(138,BA),
(139,BA),
(140,BA),
(141,BA),
(142,mu),
(143,BA),
(144,BA),
(145,mj),
(146,BA),
(147,BA),
(148,BA),
(149,BA),
(150,BA),
(151,BA),
(152,BA),
(153,BA),
(154,BA),
(155,BA),
(156,BA),
(157,BA),
(158,BA),
(159,{ ld:=some (false,1),sl:=some (29,3,56),ze:=some [.slice none 0 0] }),
(160,ml),
(161,ml),
(162,BA),
(163,BA),
(164,BA),
(165,BA),
(166,BA),
(168,BA),
(170,BA),
(171,BA),
(172,BA),
(173,BA),
(174,mu),
(175,BA),
(176,{ ld:=some (false,1),sl:=some (178,3,40),ze:=some [.slice none 0 0] }),
(177,mI),
(178,mI),
(179,BA),
(180,BA),
(181,BA),
(183,BA),
(184,BA),
(185,BA),
(186,BA),
(187,BA),
(188,mj),
(189,{ ld:=some (false,1),sl:=some (195,12,24),ze:=some [.slice none 0 0] }),
(190,mn),
(191,mn),
(192,BA),
(193,{ ld:=some (false,1),ik:=some .u16,ze:=some [.int .u16 0] }),
(194,mq),
(195,mq),
(196,BA),
(197,BA),
(198,BA),
(199,BA),
(200,nv),
(201,BA),
(202,BA),
(203,BA),
(204,BA),
(205,BA),
(206,BA),
(207,{ ld:=some (false,1),sl:=some (26,1,24),ze:=some [.slice none 0 0] }),
(208,BA),
(209,BA),
(210,BA),
(211,BA),
(212,BA),
(213,BA),
(214,BA),
(215,mr),
(216,mr),
(217,BA),
(218,BA),
(219,BA),
(220,BA),
(221,BA),
(222,BA),
(223,BA),
(224,BA),
(225,BA),
(226,BA),
(227,BA),
(228,BA),
(229,BA),
(230,{ ld:=some (false,1),ik:=some .u32,ze:=some [.int .u32 0] }),
(231,BA),
(232,nv),
(233,BA),
(234,BA),
(237,BA),
(246,mu),
(251,BA)]
instance:Dg Tryz.prog:=⟨ow,X9 (by kernel_rfl)⟩
def CJ:List Value:=[.int .u8 0,.int .u8 1,.int .u8 28,.int .u8 2,.int .u8 29,.int .u8 14,.int .u8 24,.int .u8 3,.int .u8 30,.int .u8 22,.int .u8 20,.int .u8 15,.int .u8 25,.int .u8 17,.int .u8 4,.int .u8 8,.int .u8 31,.int .u8 27,.int .u8 13,.int .u8 23,.int .u8 21,.int .u8 19,.int .u8 16,.int .u8 7,.int .u8 26,.int .u8 12,.int .u8 18,.int .u8 6,.int .u8 11,.int .u8 5,.int .u8 10,.int .u8 9]
def BF:List Value:=[.int .u8 0,.int .u8 1,.int .u8 56,.int .u8 2,.int .u8 57,.int .u8 49,.int .u8 28,.int .u8 3,.int .u8 61,.int .u8 58,.int .u8 42,.int .u8 50,.int .u8 38,.int .u8 29,.int .u8 17,.int .u8 4,.int .u8 62,.int .u8 47,.int .u8 59,.int .u8 36,.int .u8 45,.int .u8 43,.int .u8 51,.int .u8 22,.int .u8 53,.int .u8 39,.int .u8 33,.int .u8 30,.int .u8 24,.int .u8 18,.int .u8 12,.int .u8 5,.int .u8 63,.int .u8 55,.int .u8 48,.int .u8 27,.int .u8 60,.int .u8 41,.int .u8 37,.int .u8 16,.int .u8 46,.int .u8 35,.int .u8 44,.int .u8 21,.int .u8 52,.int .u8 32,.int .u8 23,.int .u8 11,.int .u8 54,.int .u8 26,.int .u8 40,.int .u8 15,.int .u8 34,.int .u8 20,.int .u8 31,.int .u8 10,.int .u8 25,.int .u8 14,.int .u8 19,.int .u8 9,.int .u8 13,.int .u8 8,.int .u8 7,.int .u8 6]
class Dc (TB:BC):Prop where
 t0:MJ TB 0 CJ
 t1:MJ TB 1 BF
instance {TB:BC}[h:Dc TB]:MJ TB 1 BF:=h.t1
theorem mixed:Tryz.prog.follows .mixedOrders=true:=by kernel_rfl
theorem rE{TB:BC}{Z:Ctx}{N:Nat}{ops:Array Oper}{Q:Exit->Env->Ab->Nat->Prop}{id:Nat}{f:Env}{σ:Ab}{nx:Nat}(a:(Hl N ops && (Bt ops (Av (Hg []) 0 ops.size) (Array.replicate ops.size false) && Nj ops (Av (Hg []) 0 ops.size)))=true)
 (h:Lex Tryz.prog TB Z ops (Av (Hg []) 0 ops.size) (λf σ nx=>Q .normal f σ nx) f σ nx):Aj Tryz.prog TB Z N (.region id ops true) Q f σ nx:=by rw [d4] at a;exact ma (Hg []) mixed a.1 a.2 h
theorem rG{TB:BC}{Z:Ctx}{N:Nat}{ops:Array Oper}{Q:Exit->Env->Ab->Nat->Prop}{id:Nat}{f:Env}{σ:Ab}{nx:Nat}(fl:Fl)(a:(Hl N ops && (Bt ops (Av fl 0 ops.size) (Array.replicate ops.size false) && Nj ops (Av fl 0 ops.size)))=true)
 (h:Lex Tryz.prog TB Z ops (Av fl 0 ops.size) (λf σ nx=>Q .normal f σ nx) f σ nx):Aj Tryz.prog TB Z N (.region id ops true) Q f σ nx:=by rw [d4] at a;exact ma fl mixed a.1 a.2 h
end Go.Am
