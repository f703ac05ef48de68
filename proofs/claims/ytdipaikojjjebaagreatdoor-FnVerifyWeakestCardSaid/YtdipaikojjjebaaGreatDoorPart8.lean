/-
  The seat's types, as the rules ask for them.
-/
import Derived.Test.YtdipaikojjjebaaGreatDoorPart7
import Derived.Test.YtdipaikojjjebaaGreatDoorProg
set_option linter.all false
namespace Go.Am
open Go Go.Proofs
instance:D0 Tryz.prog 3 false 1:=⟨by kernel_rfl⟩
instance:He Tryz.prog 3 .i64:=⟨by kernel_rfl⟩
instance:JE Tryz.prog 3 (.int .i64 0):=⟨by kernel_rfl⟩
instance:BP Tryz.prog 3 [.int .i64 0]:=⟨by kernel_rfl⟩
instance:BP Tryz.prog 4 [.bool false]:=⟨by kernel_rfl⟩
instance:BP Tryz.prog 5 [.int .u8 0]:=⟨by kernel_rfl⟩
instance:De Tryz.prog 9:=⟨by kernel_rfl⟩
instance:BP Tryz.prog 9 [.string ⟨#[]⟩]:=⟨by kernel_rfl⟩
instance:He Tryz.prog 21 .i32:=⟨by kernel_rfl⟩
instance:aH Tryz.prog 22:=⟨5,by kernel_rfl,by kernel_rfl⟩
instance:Dp Tryz.prog 22 5 1 1:=⟨by kernel_rfl⟩
instance:Dp Tryz.prog 23 78 3 24:=⟨by kernel_rfl⟩
instance:D0 Tryz.prog 25 true 3:=⟨by kernel_rfl⟩
instance:BP Tryz.prog 25 [.int .i64 0,.int .i64 0,.slice none 0 0]:=⟨by kernel_rfl⟩
instance:Ei Tryz.prog 25 [(0,1),(1,1),(2,1)]:=⟨by kernel_rfl⟩
instance:Dp Tryz.prog 26 63 1 24:=⟨by kernel_rfl⟩
instance:Dp Tryz.prog 27 4 1 1:=⟨by kernel_rfl⟩
instance:D0 Tryz.prog 29 true 3:=⟨by kernel_rfl⟩
instance:BP Tryz.prog 29 [.int .i64 0,.slice none 0 0,.slice none 0 0]:=⟨by kernel_rfl⟩
instance:Ei Tryz.prog 29 [(0,1),(1,1),(2,1)]:=⟨by kernel_rfl⟩
instance:BP Tryz.prog 33 [.int .i64 0,.int .i64 0,.slice none 0 0,.slice none 0 0,.string ⟨#[]⟩,.int .i64 0]:=⟨by kernel_rfl⟩
instance:Ei Tryz.prog 33 [(0,1),(1,3),(4,1),(5,1)]:=⟨by kernel_rfl⟩
instance:BP Tryz.prog 49 [.int .i64 0,.int .i64 0,.slice none 0 0,.int .i64 0,.slice none 0 0,.slice none 0 0,.int .i64 0]:=⟨by kernel_rfl⟩
instance:Ei Tryz.prog 49 [(0,3),(3,3),(6,1)]:=⟨by kernel_rfl⟩
instance:BP Tryz.prog 63 [.slice none 0 0]:=⟨by kernel_rfl⟩
instance:Dp Tryz.prog 63 3 1 8:=⟨by kernel_rfl⟩
instance:BP Tryz.prog 78 [.int .i64 0,.int .i64 0,.int .i64 0]:=⟨by kernel_rfl⟩
instance:Ei Tryz.prog 78 [(0,1),(1,1),(2,1)]:=⟨by kernel_rfl⟩
instance:Dp Tryz.prog 85 94 6 48:=⟨by kernel_rfl⟩
instance:Fy Tryz.prog 87 150 3:=⟨by kernel_rfl⟩
instance:BP Tryz.prog 89 [.int .i64 0,.int .i64 0,.slice none 0 0,.int .i64 0,.slice none 0 0,.slice none 0 0,.int .i64 0,.pointer none,.slice none 0 0,.slice none 0 0,.slice none 0 0,.map none,.slice none 0 0,.slice none 0 0]:=⟨by kernel_rfl⟩
instance:Ei Tryz.prog 89 [(0,7),(7,1),(8,1),(9,1),(10,1),(11,1),(12,1),(13,1)]:=⟨by kernel_rfl⟩
instance:BP Tryz.prog 94 [.int .i64 0,.int .i64 0,.int .i64 0,.int .i64 0,.int .i64 0,.int .i64 0]:=⟨by kernel_rfl⟩
instance:Ei Tryz.prog 94 [(0,1),(1,1),(2,1),(3,1),(4,1),(5,1)]:=⟨by kernel_rfl⟩
instance:BP Tryz.prog 98 [.slice none 0 0,.int .i64 0]:=⟨by kernel_rfl⟩
instance:Ei Tryz.prog 98 [(0,1),(1,1)]:=⟨by kernel_rfl⟩
instance:BP Tryz.prog 102 [.int .i64 0,.nilFunc]:=⟨by kernel_rfl⟩
instance:Ei Tryz.prog 102 [(0,1),(1,1)]:=⟨by kernel_rfl⟩
instance:BP Tryz.prog 106 [.bool false,.int .i64 0,.slice none 0 0,.slice none 0 0,.int .i64 0,.int .i64 0,.slice none 0 0,.int .i64 0,.slice none 0 0,.slice none 0 0,.int .i64 0]:=⟨by kernel_rfl⟩
instance:Ei Tryz.prog 106 [(0,1),(1,3),(4,7)]:=⟨by kernel_rfl⟩
instance:Dp Tryz.prog 107 9 1 16:=⟨by kernel_rfl⟩
instance:D0 Tryz.prog 109 true 2:=⟨by kernel_rfl⟩
instance:BP Tryz.prog 109 [.slice none 0 0,.slice none 0 0]:=⟨by kernel_rfl⟩
instance:Ei Tryz.prog 109 [(0,1),(1,1)]:=⟨by kernel_rfl⟩
instance:D0 Tryz.prog 148 false 1:=⟨by kernel_rfl⟩
instance:He Tryz.prog 148 .u16:=⟨by kernel_rfl⟩
instance:BP Tryz.prog 150 [.int .u16 0,.int .u16 0,.int .u16 0,.int .u16 0,.int .u16 0,.int .u16 0,.int .u16 0,.int .u16 0,.int .u16 0,.int .u16 0,.int .u16 0,.int .u16 0]:=⟨by kernel_rfl⟩
instance:Ei Tryz.prog 150 [(0,1),(1,1),(2,1),(3,1),(4,1),(5,1),(6,1),(7,1),(8,1),(9,1),(10,1),(11,1)]:=⟨by kernel_rfl⟩
instance:Fy Tryz.prog 154 3 3:=⟨by kernel_rfl⟩
instance:Fy Tryz.prog 167 9 3:=⟨by kernel_rfl⟩
instance:BP Tryz.prog 184 [.slice none 0 0,.slice none 0 0,.slice none 0 0,.int .i64 0,.int .i64 0,.int .i64 0]:=⟨by kernel_rfl⟩
instance:Ei Tryz.prog 184 [(0,1),(1,1),(2,1),(3,1),(4,1),(5,1)]:=⟨by kernel_rfl⟩
instance:BP Tryz.prog 191 [.slice none 0 0]:=⟨by kernel_rfl⟩
instance:BP Tryz.prog 193 [.int .i64 0,.int .i64 0,.slice none 0 0]:=⟨by kernel_rfl⟩
instance:Ei Tryz.prog 193 [(0,1),(1,1),(2,1)]:=⟨by kernel_rfl⟩
instance:D0 Tryz.prog 201 true 2:=⟨by kernel_rfl⟩
instance:BP Tryz.prog 201 [.slice none 0 0,.slice none 0 0]:=⟨by kernel_rfl⟩
instance:Ei Tryz.prog 201 [(0,1),(1,1)]:=⟨by kernel_rfl⟩
instance:SW Tryz.prog 246 64 1:=⟨by kernel_rfl⟩
def pJ:TI:={ ld:=some (false,1),ze:=some [.nilFunc] }
def tE:TI:={ ld:=some (false,1),ik:=some .i64,ze:=some [.int .i64 0] }
def tF:TI:={ ld:=some (false,1),ik:=some .u64,ze:=some [.int .u64 0] }
def rU:TI:={ ld:=some (true,3),fl:=[some (0,false,1),some (1,false,1),some (2,false,1)],ze:=some [.int .i64 0,.int .i64 0,.slice none 0 0] }
def tG:TI:={ ld:=some (true,3),fl:=[some (0,false,1),some (1,false,1),some (2,false,1)],ze:=some [.int .i64 0,.slice none 0 0,.slice none 0 0] }
def tH:TI:={ ld:=some (true,6),fl:=[some (0,false,1),some (1,true,3),some (4,false,1),some (5,false,1)],ze:=some [.int .i64 0,.int .i64 0,.slice none 0 0,.slice none 0 0,.string ⟨#[]⟩,.int .i64 0] }
def tJ:TI:={ ld:=some (true,7),fl:=[some (0,true,3),some (3,true,3),some (6,false,1)],ze:=some [.int .i64 0,.int .i64 0,.slice none 0 0,.int .i64 0,.slice none 0 0,.slice none 0 0,.int .i64 0] }
def rV:TI:={ ld:=some (false,1),pt:=true,ze:=some [.pointer none] }
def tK:TI:={ ld:=some (true,3),fl:=[some (0,false,1),some (1,false,1),some (2,false,1)],ze:=some [.int .i64 0,.int .i64 0,.int .i64 0] }
def sQ:TI:={ ld:=some (false,1),ze:=some [.map none] }
def rr:TI:={ ld:=some (true,14),fl:=[some (0,true,7),some (7,false,1),some (8,false,1),some (9,false,1),some (10,false,1),some (11,false,1),some (12,false,1),some (13,false,1)],ze:=some [.int .i64 0,.int .i64 0,.slice none 0 0,.int .i64 0,.slice none 0 0,.slice none 0 0,.int .i64 0,.pointer none,.slice none 0 0,.slice none 0 0,.slice none 0 0,.map none,.slice none 0 0,.slice none 0 0] }
def ru:TI:={ ld:=some (true,2),fl:=[some (0,false,1),some (1,false,1)],ze:=some [.slice none 0 0,.int .i64 0] }
def rv:TI:={ ld:=some (true,2),fl:=[some (0,false,1),some (1,false,1)],ze:=some [.int .i64 0,.nilFunc] }
def ry:TI:={ ld:=some (true,11),fl:=[some (0,false,1),some (1,true,3),some (4,true,7)],ze:=some [.bool false,.int .i64 0,.slice none 0 0,.slice none 0 0,.int .i64 0,.int .i64 0,.slice none 0 0,.int .i64 0,.slice none 0 0,.slice none 0 0,.int .i64 0] }
def mB:TI:={ ld:=some (true,2),fl:=[some (0,false,1),some (1,false,1)],ze:=some [.slice none 0 0,.slice none 0 0] }
def rz:TI:={ ld:=some (true,12),ar:=some (12,1),ze:=some [.int .u16 0,.int .u16 0,.int .u16 0,.int .u16 0,.int .u16 0,.int .u16 0,.int .u16 0,.int .u16 0,.int .u16 0,.int .u16 0,.int .u16 0,.int .u16 0] }
def rA:TI:={ ld:=some (true,6),fl:=[some (0,false,1),some (1,false,1),some (2,false,1),some (3,false,1),some (4,false,1),some (5,false,1)],ze:=some [.slice none 0 0,.slice none 0 0,.slice none 0 0,.int .i64 0,.int .i64 0,.int .i64 0] }
def rB:TI:={ ld:=some (true,96),ar:=some (16,6),ze:=some [.int .i64 0,.int .i64 0,.int .i64 0,.int .i64 0,.int .i64 0,.int .i64 0,.int .i64 0,.int .i64 0,.int .i64 0,.int .i64 0,.int .i64 0,.int .i64 0,.int .i64 0,.int .i64 0,.int .i64 0,.int .i64 0,.int .i64 0,.int .i64 0,.int .i64 0,.int .i64 0,.int .i64 0,.int .i64 0,.int .i64 0,.int .i64 0,.int .i64 0,.int .i64 0,.int .i64 0,.int .i64 0,.int .i64 0,.int .i64 0,.int .i64 0,.int .i64 0,.int .i64 0,.int .i64 0,.int .i64 0,.int .i64 0,.int .i64 0,.int .i64 0,.int .i64 0,.int .i64 0,.int .i64 0,.int .i64 0,.int .i64 0,.int .i64 0,.int .i64 0,.int .i64 0,.int .i64 0,.int .i64 0,.int .i64 0,.int .i64 0,.int .i64 0,.int .i64 0,.int .i64 0,.int .i64 0,.int .i64 0,.int .i64 0,.int .i64 0,.int .i64 0,.int .i64 0,.int .i64 0,.int .i64 0,.int .i64 0,.int .i64 0,.int .i64 0,.int .i64 0,.int .i64 0,.int .i64 0,.int .i64 0,.int .i64 0,.int .i64 0,.int .i64 0,.int .i64 0,.int .i64 0,.int .i64 0,.int .i64 0,.int .i64 0,.int .i64 0,.int .i64 0,.int .i64 0,.int .i64 0,.int .i64 0,.int .i64 0,.int .i64 0,.int .i64 0,.int .i64 0,.int .i64 0,.int .i64 0,.int .i64 0,.int .i64 0,.int .i64 0,.int .i64 0,.int .i64 0,.int .i64 0,.int .i64 0,.int .i64 0,.int .i64 0] }
def uf:List (Nat×TI):=[(2,tE),
(3,tE),
(4,{ ld:=some (false,1),bo:=true,ze:=some [.bool false] }),
(5,{ ld:=some (false,1),ik:=some .u8,ze:=some [.int .u8 0] }),
(9,{ ld:=some (false,1),st:=true,ze:=some [.string ⟨#[]⟩] }),
(21,{ ld:=some (false,1),ik:=some .i32,ze:=some [.int .i32 0] }),
(22,{ ld:=some (false,1),sl:=some (5,1,1),ze:=some [.slice none 0 0] }),
(23,{ ld:=some (false,1),sl:=some (78,3,24),ze:=some [.slice none 0 0] }),
(24,rU),
(25,rU),
(26,{ ld:=some (false,1),sl:=some (63,1,24),ze:=some [.slice none 0 0] }),
(27,{ ld:=some (false,1),sl:=some (4,1,1),ze:=some [.slice none 0 0] }),
(28,tG),
(29,tG),
(32,tH),
(33,tH),
(45,{ ld:=some (false,1),sl:=some (25,3,40),ze:=some [.slice none 0 0] }),
(48,tJ),
(49,tJ),
(55,rV),
(63,{ ld:=some (false,1),sl:=some (3,1,8),ze:=some [.slice none 0 0] }),
(77,tK),
(78,tK),
(80,rV),
(83,pJ),
(84,rV),
(85,{ ld:=some (false,1),sl:=some (94,6,48),ze:=some [.slice none 0 0] }),
(86,{ ld:=some (false,1),sl:=some (150,12,24),ze:=some [.slice none 0 0] }),
(87,sQ),
(88,rr),
(89,rr),
(94,{ ld:=some (true,6),ar:=some (6,1),ze:=some [.int .i64 0,.int .i64 0,.int .i64 0,.int .i64 0,.int .i64 0,.int .i64 0] }),
(97,ru),
(98,ru),
(99,pJ),
(100,pJ),
(101,rv),
(102,rv),
(105,ry),
(106,ry),
(107,{ ld:=some (false,1),sl:=some (9,1,16),ze:=some [.slice none 0 0] }),
(108,mB),
(109,mB),
(124,pJ),
(132,pJ),
(134,pJ),
(148,{ ld:=some (false,1),ik:=some .u16,ze:=some [.int .u16 0] }),
(149,rz),
(150,rz),
(154,sQ),
(160,{ ld:=some (false,1),sl:=some (107,1,24),ze:=some [.slice none 0 0] }),
(167,sQ),
(171,rV),
(182,{ ld:=some (false,1),sl:=some (29,3,56),ze:=some [.slice none 0 0] }),
(183,rA),
(184,rA),
(187,rB),
(188,rB),
(190,tF),
(191,{ ld:=some (false,1),sl:=some (193,3,40),ze:=some [.slice none 0 0] }),
(192,rU),
(193,rU),
(199,{ ld:=some (false,1),sl:=some (84,1,8),ze:=some [.slice none 0 0] }),
(200,mB),
(201,mB),
(223,{ ld:=some (false,1),sl:=some (26,1,24),ze:=some [.slice none 0 0] }),
(233,{ ld:=some (false,1),ik:=some .u32,ze:=some [.int .u32 0] }),
(235,tF),
(250,{ ld:=some (true,24),ar:=some (24,1),ze:=some [.int .u8 0,.int .u8 0,.int .u8 0,.int .u8 0,.int .u8 0,.int .u8 0,.int .u8 0,.int .u8 0,.int .u8 0,.int .u8 0,.int .u8 0,.int .u8 0,.int .u8 0,.int .u8 0,.int .u8 0,.int .u8 0,.int .u8 0,.int .u8 0,.int .u8 0,.int .u8 0,.int .u8 0,.int .u8 0,.int .u8 0,.int .u8 0] })]
instance:C4 Tryz.prog:=⟨uf,aQ (by kernel_rfl)⟩
def CK:List Value:=[.int .u8 0,.int .u8 1,.int .u8 28,.int .u8 2,.int .u8 29,.int .u8 14,.int .u8 24,.int .u8 3,.int .u8 30,.int .u8 22,.int .u8 20,.int .u8 15,.int .u8 25,.int .u8 17,.int .u8 4,.int .u8 8,.int .u8 31,.int .u8 27,.int .u8 13,.int .u8 23,.int .u8 21,.int .u8 19,.int .u8 16,.int .u8 7,.int .u8 26,.int .u8 12,.int .u8 18,.int .u8 6,.int .u8 11,.int .u8 5,.int .u8 10,.int .u8 9]
def Bw:List Value:=[.int .u8 0,.int .u8 1,.int .u8 56,.int .u8 2,.int .u8 57,.int .u8 49,.int .u8 28,.int .u8 3,.int .u8 61,.int .u8 58,.int .u8 42,.int .u8 50,.int .u8 38,.int .u8 29,.int .u8 17,.int .u8 4,.int .u8 62,.int .u8 47,.int .u8 59,.int .u8 36,.int .u8 45,.int .u8 43,.int .u8 51,.int .u8 22,.int .u8 53,.int .u8 39,.int .u8 33,.int .u8 30,.int .u8 24,.int .u8 18,.int .u8 12,.int .u8 5,.int .u8 63,.int .u8 55,.int .u8 48,.int .u8 27,.int .u8 60,.int .u8 41,.int .u8 37,.int .u8 16,.int .u8 46,.int .u8 35,.int .u8 44,.int .u8 21,.int .u8 52,.int .u8 32,.int .u8 23,.int .u8 11,.int .u8 54,.int .u8 26,.int .u8 40,.int .u8 15,.int .u8 34,.int .u8 20,.int .u8 31,.int .u8 10,.int .u8 25,.int .u8 14,.int .u8 19,.int .u8 9,.int .u8 13,.int .u8 8,.int .u8 7,.int .u8 6]
def RR:List Value:=[.int .u64 1,.int .u64 10,.int .u64 100,.int .u64 1000,.int .u64 10000,.int .u64 100000,.int .u64 1000000,.int .u64 10000000,.int .u64 100000000,.int .u64 1000000000,.int .u64 10000000000,.int .u64 100000000000,.int .u64 1000000000000,.int .u64 10000000000000,.int .u64 100000000000000,.int .u64 1000000000000000,.int .u64 10000000000000000,.int .u64 100000000000000000,.int .u64 1000000000000000000,.int .u64 10000000000000000000]
class Dy (TB:BB):Prop where
 t0:ND TB 0 CK
 t1:ND TB 1 Bw
instance {TB:BB}[h:Dy TB]:ND TB 1 Bw:=h.t1
theorem mixed:Tryz.prog.follows .mixedOrders=true:=by kernel_rfl
theorem rE{TB:BB}{Γ:Ctx}{N:Nat}{ops:Array Oper}{Q:Exit->Env->Ac->Nat->Prop}{id:Nat}{f:Env}{σ:Ac}{nx:Nat}(a:(HJ N ops && (Bq ops (Ak (GI []) 0 ops.size) (Array.replicate ops.size false) && Oe ops (Ak (GI []) 0 ops.size)))=true)
 (h:Lex Tryz.prog TB Γ ops (Ak (GI []) 0 ops.size) (λf σ nx=>Q .normal f σ nx) f σ nx):Al Tryz.prog TB Γ N (.region id ops true) Q f σ nx:=by rw[d4]at a;exact rf (GI []) mixed a.1 a.2 h
theorem rG{TB:BB}{Γ:Ctx}{N:Nat}{ops:Array Oper}{Q:Exit->Env->Ac->Nat->Prop}{id:Nat}{f:Env}{σ:Ac}{nx:Nat}(fl:Fl)(a:(HJ N ops && (Bq ops (Ak fl 0 ops.size) (Array.replicate ops.size false) && Oe ops (Ak fl 0 ops.size)))=true)
 (h:Lex Tryz.prog TB Γ ops (Ak fl 0 ops.size) (λf σ nx=>Q .normal f σ nx) f σ nx):Al Tryz.prog TB Γ N (.region id ops true) Q f σ nx:=by rw[d4]at a;exact rf fl mixed a.1 a.2 h
end Go.Am
