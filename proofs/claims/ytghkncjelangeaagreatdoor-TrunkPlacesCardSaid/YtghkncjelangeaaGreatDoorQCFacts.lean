import Derived.Test.YtghkncjelangeaaGreatDoorQCB5
import Derived.Test.YtghkncjelangeaaGreatDoorProg
set_option linter.unusedVariables false
set_option linter.unusedSimpArgs false
namespace Go.Proofs.YtghkncjelangeaaGreatDoor
open K Go Go.Proofs
theorem cp:Tryz.prog.follows .mixedOrders=true:=by kernel_rfl
theorem tw{n:Nat}:true=false→n=1:=fun h=>nomatch h
def J6:ByteArray:=⟨#[0,1,2,2,3,3,3,3,4,4,4,4,4,4,4,4,5,5,5,5,5,5,5,5,5,5,5,5,5,5,5,5,6,6,6,6,6,6,6,6,6,6,6,6,6,6,6,6,6,6,6,6,6,6,6,6,6,6,6,6,6,6,6,6,7,7,7,7,7,7,7,7,7,7,7,7,7,7,7,7,7,7,7,7,7,7,7,7,7,7,7,7,7,7,7,7,7,7,7,7,7,7,7,7,7,7,7,7,7,7,7,7,7,7,7,7,7,7,7,7,7,7,7,7,7,7,7,7,8,8,8,8,8,8,8,8,8,8,8,8,8,8,8,8,8,8,8,8,8,8,8,8,8,8,8,8,8,8,8,8,8,8,8,8,8,8,8,8,8,8,8,8,8,8,8,8,8,8,8,8,8,8,8,8,8,8,8,8,8,8,8,8,8,8,8,8,8,8,8,8,8,8,8,8,8,8,8,8,8,8,8,8,8,8,8,8,8,8,8,8,8,8,8,8,8,8,8,8,8,8,8,8,8,8,8,8,8,8,8,8,8,8,8,8,8,8,8,8,8,8,8,8,8,8,8,8]⟩
@[reducible] def aY:Ty:=.agg (.pair (.int .i64) (.slice (.int .i64)))
abbrev eO:=(Int×(List Int))
@[reducible] def av:Ty:=.agg (.pair (.int .i64) (.pair (.slice aY) (.slice (.int .i64))))
abbrev aO:=(Int×((List eO)×(List Int)))
@[reducible] def TJ:Ty:=.agg (.pair (.slice (.int .i64)) (.pair (.int .i64) (.int .u64)))
abbrev bR:=((List Int)×(Int×Int))
@[reducible] def Rr:Ty:=.agg (.int .i64)
@[reducible] def bM:Ty:=.agg (.pair av .ign)
abbrev dq:=(aO×Unit)
@[reducible] def TU:Ty:=.agg (.pair (.ptr bM) (.slice (.slice (.int .i64))))
@[reducible] def Oj:Ty:=.agg (.pair (.int .i64) (.int .i64))
@[reducible] def Gn:Ty:=.agg (.pair (.int .i64) (.lst (.int .i64)))
@[reducible] def Rt:Ty:=.agg (.pair .val (.pair .val (.int .u64)))
theorem bT:a9 Tryz.prog 25 1 1:=a9.of (by kernel_rfl)
theorem eX:dS Tryz.prog 22 1 false:=⟨fun w=>by kernel_rfl,fun w=>by kernel_rfl⟩
theorem cJ:a9 Tryz.prog 25 2 2:=a9.of (by kernel_rfl)
theorem bF:dS Tryz.prog 23 1 false:=⟨fun w=>by kernel_rfl,fun w=>by kernel_rfl⟩
theorem j7:dS Tryz.prog 27 2 true:=⟨fun w=>by kernel_rfl,fun w=>by kernel_rfl⟩
theorem ku:a9 Tryz.prog 27 1 1:=a9.of (by kernel_rfl)
theorem kL:a9 Tryz.prog 27 0 0:=a9.of (by kernel_rfl)
theorem cm:dS Tryz.prog 3 1 false:=⟨fun w=>by kernel_rfl,fun w=>by kernel_rfl⟩
theorem wF:ag Tryz.prog 53:=ag.of Tryz.func53 (by kernel_rfl) (by kernel_rfl)
theorem fD:a9 Tryz.prog 25 0 0:=a9.of (by kernel_rfl)
theorem ue:∀w,(zeroValue 27).run Tryz.prog w= .ok (.agg #[(.int .i64 (0)),(.slice none 0 0)]) w:=fun w=>by kernel_rfl
theorem La:∀S w,(A.cells S w (.agg (.pair (.eq (.int .i64 (0:Int))) (.eq (.slice none 0 0)))) (Value.cells (.agg #[(.int .i64 (0)),(.slice none 0 0)])).toList):=fun _ _=>⟨[_],_,rfl,⟨rfl,rfl⟩,⟨rfl,rfl⟩⟩
theorem dj:dS Tryz.prog 25 3 true:=⟨fun w=>by kernel_rfl,fun w=>by kernel_rfl⟩
theorem SJ:ag Tryz.prog 62:=ag.of Tryz.func62 (by kernel_rfl) (by kernel_rfl)
theorem EO:yS Tryz.prog 97 #[(0,1)]:=⟨_,Tryz.underlying97,fun _=>by kernel_rfl⟩
theorem Bc:∀w,(zeroValue 97).run Tryz.prog w= .ok (.agg #[(.int .i64 (0))]) w:=fun w=>by kernel_rfl
theorem xz:∀S w,(A.cells S w (.eq (.int .i64 (0:Int))) (Value.cells (.agg #[(.int .i64 (0))])).toList):=fun _ _=>⟨rfl,rfl⟩
theorem KQ:ag Tryz.prog 57:=ag.of Tryz.func57 (by kernel_rfl) (by kernel_rfl)
theorem DY:ag Tryz.prog 106:=ag.of Tryz.func106 (by kernel_rfl) (by kernel_rfl)
theorem LZ:ag Tryz.prog 107:=ag.of Tryz.func107 (by kernel_rfl) (by kernel_rfl)
theorem Qh:ag Tryz.prog 20:=ag.of Tryz.func20 (by kernel_rfl) (by kernel_rfl)
theorem Tm:∀S w,(A.cells S w (.agg (.eq (.int .i64 (0:Int)))) (Value.cells (.agg #[(.int .i64 (0))])).toList):=fun _ _=>⟨rfl,rfl⟩
theorem SI:ag Tryz.prog 64:=ag.of Tryz.func64 (by kernel_rfl) (by kernel_rfl)
theorem Qc:ag Tryz.prog 63:=ag.of Tryz.func63 (by kernel_rfl) (by kernel_rfl)
theorem Nk:a9 Tryz.prog 97 0 0:=a9.of (by kernel_rfl)
theorem Rw:dS Tryz.prog 41 1 false:=⟨fun w=>by kernel_rfl,fun w=>by kernel_rfl⟩
theorem sP:∀w,(zeroValue 86).run Tryz.prog w= .ok (.agg #[(.int .i64 (0)),(.int .i64 (0)),(.int .i64 (0)),(.int .i64 (0)),(.int .i64 (0)),(.int .i64 (0)),(.int .i64 (0)),(.int .i64 (0)),(.int .i64 (0)),(.int .i64 (0)),(.int .i64 (0)),(.int .i64 (0)),(.int .i64 (0)),(.int .i64 (0)),(.int .i64 (0))]) w:=fun w=>by kernel_rfl
theorem tR:∀S w,(A.cells S w (.rep (.arr 3 (.arr 5 (.int .i64))) [[(0:Int),(0:Int),(0:Int),(0:Int),(0:Int)],[(0:Int),(0:Int),(0:Int),(0:Int),(0:Int)],[(0:Int),(0:Int),(0:Int),(0:Int),(0:Int)]]) (Value.cells (.agg #[(.int .i64 (0)),(.int .i64 (0)),(.int .i64 (0)),(.int .i64 (0)),(.int .i64 (0)),(.int .i64 (0)),(.int .i64 (0)),(.int .i64 (0)),(.int .i64 (0)),(.int .i64 (0)),(.int .i64 (0)),(.int .i64 (0)),(.int .i64 (0)),(.int .i64 (0)),(.int .i64 (0))])).toList):=fun _ _=>⟨rfl,⟨[_,_,_,_,_],_,rfl,⟨rfl,⟨[_],_,rfl,rfl,⟨[_],_,rfl,rfl,⟨[_],_,rfl,rfl,⟨[_],_,rfl,rfl,⟨[_],_,rfl,rfl,rfl⟩⟩⟩⟩⟩⟩,⟨[_,_,_,_,_],_,rfl,⟨rfl,⟨[_],_,rfl,rfl,⟨[_],_,rfl,rfl,⟨[_],_,rfl,rfl,⟨[_],_,rfl,rfl,⟨[_],_,rfl,rfl,rfl⟩⟩⟩⟩⟩⟩,⟨[_,_,_,_,_],_,rfl,⟨rfl,⟨[_],_,rfl,rfl,⟨[_],_,rfl,rfl,⟨[_],_,rfl,rfl,⟨[_],_,rfl,rfl,⟨[_],_,rfl,rfl,rfl⟩⟩⟩⟩⟩⟩,rfl⟩⟩⟩⟩
theorem Gu:dS Tryz.prog 84 5 true:=⟨fun w=>by kernel_rfl,fun w=>by kernel_rfl⟩
theorem gq:dS Tryz.prog 86 15 true:=⟨fun w=>by kernel_rfl,fun w=>by kernel_rfl⟩
theorem dI:mn Tryz.prog 23 3 1 8:=.of (z:=(.int .i64 (0))) Tryz.underlying23 (by kernel_rfl) rfl rfl rfl
theorem Ov:∀w,(zeroValue 201).run Tryz.prog w= .ok (.pointer none) w:=fun w=>by kernel_rfl
theorem QL:∀S w,(A.cells S w (.eq (.pointer none)) (Value.cells (.pointer none)).toList):=fun _ _=>⟨rfl,rfl⟩
theorem Qn:ag Tryz.prog 162:=ag.of Tryz.func162 (by kernel_rfl) (by kernel_rfl)
theorem zn:dS Tryz.prog 201 1 false:=⟨fun w=>by kernel_rfl,fun w=>by kernel_rfl⟩
theorem OT:yS Tryz.prog 204 #[(0,1),(1,1)]:=⟨_,Tryz.underlying204,fun _=>by kernel_rfl⟩
theorem Ou:∀w,(zeroValue 204).run Tryz.prog w= .ok (.agg #[(.int .i64 (0)),(.pointer none)]) w:=fun w=>by kernel_rfl
theorem NW:∀S w,(A.cells S w (.pair (.eq (.int .i64 (0:Int))) (.eq (.pointer none))) (Value.cells (.agg #[(.int .i64 (0)),(.pointer none)])).toList):=fun _ _=>⟨[_],_,rfl,⟨rfl,rfl⟩,⟨rfl,rfl⟩⟩
theorem Qi:ag Tryz.prog 180:=ag.of Tryz.func180 (by kernel_rfl) (by kernel_rfl)
theorem Qw:ag Tryz.prog 129:=ag.of Tryz.func129 (by kernel_rfl) (by kernel_rfl)
theorem uD:a9 Tryz.prog 204 0 0:=a9.of (by kernel_rfl)
theorem DL:a9 Tryz.prog 204 1 1:=a9.of (by kernel_rfl)
theorem P5:ag Tryz.prog 87:=ag.of Tryz.func87 (by kernel_rfl) (by kernel_rfl)
theorem kw:a9 Tryz.prog 157 0 0:=a9.of (by kernel_rfl)
theorem Qv:ag Tryz.prog 130:=ag.of Tryz.func130 (by kernel_rfl) (by kernel_rfl)
theorem KO:ag Tryz.prog 80:=ag.of Tryz.func80 (by kernel_rfl) (by kernel_rfl)
theorem QG:ag Tryz.prog 100:=ag.of Tryz.func100 (by kernel_rfl) (by kernel_rfl)
theorem Sr:ag Tryz.prog 99:=ag.of Tryz.func99 (by kernel_rfl) (by kernel_rfl)
theorem oW:mn Tryz.prog 28 23 1 24:=.of (z:=(.slice none 0 0)) Tryz.underlying28 (by kernel_rfl) rfl rfl rfl
theorem CO:ag Tryz.prog 56:=ag.of Tryz.func56 (by kernel_rfl) (by kernel_rfl)
theorem Rn:∀i z,Tryz.prog.info? 23=some i→i.zero=some z→∀S w,rd S w (.slice (.int .i64)) [] z.cells.toList:=Ba (z0:=(.slice none 0 0)) (by kernel_rfl) fun _ _=>.inl ⟨_,_,rfl,rfl⟩
theorem It:ag Tryz.prog 22:=ag.of Tryz.func22 (by kernel_rfl) (by kernel_rfl)
theorem Ir:ag Tryz.prog 54:=ag.of Tryz.func54 (by kernel_rfl) (by kernel_rfl)
theorem Qe:ag Tryz.prog 55:=ag.of Tryz.func55 (by kernel_rfl) (by kernel_rfl)
theorem KP:ag Tryz.prog 58:=ag.of Tryz.func58 (by kernel_rfl) (by kernel_rfl)
theorem Is:ag Tryz.prog 24:=ag.of Tryz.func24 (by kernel_rfl) (by kernel_rfl)
theorem DO:a9 Tryz.prog 157 1 3:=a9.of (by kernel_rfl)
theorem LI:dS Tryz.prog 155 1 false:=⟨fun w=>by kernel_rfl,fun w=>by kernel_rfl⟩
theorem P8:ag Tryz.prog 75:=ag.of Tryz.func75 (by kernel_rfl) (by kernel_rfl)
theorem P6:ag Tryz.prog 83:=ag.of Tryz.func83 (by kernel_rfl) (by kernel_rfl)
theorem xQ:dS Tryz.prog 81 1 false:=⟨fun w=>by kernel_rfl,fun w=>by kernel_rfl⟩
theorem SG:ag Tryz.prog 74:=ag.of Tryz.func74 (by kernel_rfl) (by kernel_rfl)
theorem QD:ag Tryz.prog 115:=ag.of Tryz.func115 (by kernel_rfl) (by kernel_rfl)
theorem TR:∀w,(zeroValue 3).run Tryz.prog w= .ok (.int .i64 0) w:=fun w=>by kernel_rfl
theorem SH:ag Tryz.prog 67:=ag.of Tryz.func67 (by kernel_rfl) (by kernel_rfl)
theorem P7:ag Tryz.prog 77:=ag.of Tryz.func77 (by kernel_rfl) (by kernel_rfl)
theorem QA:ag Tryz.prog 118:=ag.of Tryz.func118 (by kernel_rfl) (by kernel_rfl)
theorem Qs:ag Tryz.prog 155:=ag.of Tryz.func155 (by kernel_rfl) (by kernel_rfl)
theorem LY:ag Tryz.prog 158:=ag.of Tryz.func158 (by kernel_rfl) (by kernel_rfl)
theorem Qk:ag Tryz.prog 174:=ag.of Tryz.func174 (by kernel_rfl) (by kernel_rfl)
theorem Qj:ag Tryz.prog 178:=ag.of Tryz.func178 (by kernel_rfl) (by kernel_rfl)
theorem Qm:ag Tryz.prog 168:=ag.of Tryz.func168 (by kernel_rfl) (by kernel_rfl)
theorem Qp:ag Tryz.prog 157:=ag.of Tryz.func157 (by kernel_rfl) (by kernel_rfl)
theorem Qq:ag Tryz.prog 156:=ag.of Tryz.func156 (by kernel_rfl) (by kernel_rfl)
theorem QC:ag Tryz.prog 116:=ag.of Tryz.func116 (by kernel_rfl) (by kernel_rfl)
theorem QB:ag Tryz.prog 117:=ag.of Tryz.func117 (by kernel_rfl) (by kernel_rfl)
theorem Ro:∀w,(zeroValue 81).run Tryz.prog w= .ok (.pointer none) w:=fun w=>by kernel_rfl
theorem Tn:∀S w,(A.cells S w (.eq (.pointer none)) (Value.cells (.pointer none)).toList):=fun _ _=>⟨rfl,rfl⟩
theorem P9:ag Tryz.prog 73:=ag.of Tryz.func73 (by kernel_rfl) (by kernel_rfl)
theorem SB:ag Tryz.prog 79:=ag.of Tryz.func79 (by kernel_rfl) (by kernel_rfl)
theorem SC:ag Tryz.prog 78:=ag.of Tryz.func78 (by kernel_rfl) (by kernel_rfl)
theorem SD:ag Tryz.prog 76:=ag.of Tryz.func76 (by kernel_rfl) (by kernel_rfl)
theorem OQ:dS Tryz.prog 195 1 false:=⟨fun w=>by kernel_rfl,fun w=>by kernel_rfl⟩
theorem Dj:dS Tryz.prog 196 1 false:=⟨fun w=>by kernel_rfl,fun w=>by kernel_rfl⟩
theorem Iu:ag Tryz.prog 121:=ag.of Tryz.func121 (by kernel_rfl) (by kernel_rfl)
theorem Ox:∀w,(zeroValue 196).run Tryz.prog w= .ok .nilFunc w:=fun w=>by kernel_rfl
theorem QM:∀S w,(A.cells S w (.eq .nilFunc) (Value.cells .nilFunc).toList):=fun _ _=>⟨rfl,rfl⟩
theorem Gw:dS Tryz.prog 132 1 false:=⟨fun w=>by kernel_rfl,fun w=>by kernel_rfl⟩
theorem LK:mn Tryz.prog 132 86 15 120:=.of (z:=(.agg #[(.int .i64 (0)),(.int .i64 (0)),(.int .i64 (0)),(.int .i64 (0)),(.int .i64 (0)),(.int .i64 (0)),(.int .i64 (0)),(.int .i64 (0)),(.int .i64 (0)),(.int .i64 (0)),(.int .i64 (0)),(.int .i64 (0)),(.int .i64 (0)),(.int .i64 (0)),(.int .i64 (0))])) Tryz.underlying132 (by kernel_rfl) rfl rfl rfl
theorem Qx:ag Tryz.prog 120:=ag.of Tryz.func120 (by kernel_rfl) (by kernel_rfl)
theorem Qz:ag Tryz.prog 119:=ag.of Tryz.func119 (by kernel_rfl) (by kernel_rfl)
theorem Sv:ag Tryz.prog 85:=ag.of Tryz.func85 (by kernel_rfl) (by kernel_rfl)
theorem Sz:ag Tryz.prog 84:=ag.of Tryz.func84 (by kernel_rfl) (by kernel_rfl)
theorem SA:ag Tryz.prog 82:=ag.of Tryz.func82 (by kernel_rfl) (by kernel_rfl)
theorem kA:∀w,(zeroValue 25).run Tryz.prog w= .ok (.agg #[(.int .i64 (0)),(.slice none 0 0),(.slice none 0 0)]) w:=fun w=>by kernel_rfl
theorem mC:∀S w,(A.cells S w (.agg (.pair (.eq (.int .i64 (0:Int))) (.pair (.eq (.slice none 0 0)) (.eq (.slice none 0 0))))) (Value.cells (.agg #[(.int .i64 (0)),(.slice none 0 0),(.slice none 0 0)])).toList):=fun _ _=>⟨[_],_,rfl,⟨rfl,rfl⟩,⟨[_],_,rfl,⟨rfl,rfl⟩,⟨rfl,rfl⟩⟩⟩
theorem zD:yS Tryz.prog 27 #[(0,1),(1,1)]:=⟨_,Tryz.underlying27,fun _=>by kernel_rfl⟩
theorem ub:∀S w,(A.cells S w (.pair (.eq (.int .i64 (0:Int))) (.eq (.slice none 0 0))) (Value.cells (.agg #[(.int .i64 (0)),(.slice none 0 0)])).toList):=fun _ _=>⟨[_],_,rfl,⟨rfl,rfl⟩,⟨rfl,rfl⟩⟩
theorem xR:mn Tryz.prog 22 27 2 32:=.of (z:=(.agg #[(.int .i64 (0)),(.slice none 0 0)])) Tryz.underlying22 (by kernel_rfl) rfl rfl rfl
theorem GR:yS Tryz.prog 25 #[(0,1),(1,1),(2,1)]:=⟨_,Tryz.underlying25,fun _=>by kernel_rfl⟩
theorem AN:∀S w,(A.cells S w (.pair (.eq (.int .i64 (0:Int))) (.pair (.eq (.slice none 0 0)) (.eq (.slice none 0 0)))) (Value.cells (.agg #[(.int .i64 (0)),(.slice none 0 0),(.slice none 0 0)])).toList):=fun _ _=>⟨[_],_,rfl,⟨rfl,rfl⟩,⟨[_],_,rfl,⟨rfl,rfl⟩,⟨rfl,rfl⟩⟩⟩
theorem Fg:ag Tryz.prog 45:=ag.of Tryz.func45 (by kernel_rfl) (by kernel_rfl)
theorem KR:ag Tryz.prog 46:=ag.of Tryz.func46 (by kernel_rfl) (by kernel_rfl)
theorem S8:ag Tryz.prog 18:=ag.of Tryz.func18 (by kernel_rfl) (by kernel_rfl)
theorem SU:ag Tryz.prog 35:=ag.of Tryz.func35 (by kernel_rfl) (by kernel_rfl)
theorem SV:ag Tryz.prog 31:=ag.of Tryz.func31 (by kernel_rfl) (by kernel_rfl)
theorem SO:ag Tryz.prog 47:=ag.of Tryz.func47 (by kernel_rfl) (by kernel_rfl)
theorem SY:ag Tryz.prog 27:=ag.of Tryz.func27 (by kernel_rfl) (by kernel_rfl)
theorem SX:ag Tryz.prog 29:=ag.of Tryz.func29 (by kernel_rfl) (by kernel_rfl)
theorem SN:ag Tryz.prog 48:=ag.of Tryz.func48 (by kernel_rfl) (by kernel_rfl)
theorem KT:ag Tryz.prog 25:=ag.of Tryz.func25 (by kernel_rfl) (by kernel_rfl)
theorem RF:yS Tryz.prog 75 #[(0,1),(1,1),(2,1)]:=⟨_,Tryz.underlying75,fun _=>by kernel_rfl⟩
theorem Rq:∀w,(zeroValue 75).run Tryz.prog w= .ok (.agg #[(.slice none 0 0),(.int .i64 (0)),(.int .u64 (0))]) w:=fun w=>by kernel_rfl
theorem QK:∀S w,(A.cells S w (.pair (.eq (.slice none 0 0)) (.pair (.eq (.int .i64 (0:Int))) (.eq (.int .u64 (0:Int))))) (Value.cells (.agg #[(.slice none 0 0),(.int .i64 (0)),(.int .u64 (0))])).toList):=fun _ _=>⟨[_],_,rfl,⟨rfl,rfl⟩,⟨[_],_,rfl,⟨rfl,rfl⟩,⟨rfl,rfl⟩⟩⟩
theorem ut:ag Tryz.prog 50:=ag.of Tryz.func50 (by kernel_rfl) (by kernel_rfl)
theorem tK:a9 Tryz.prog 75 2 2:=a9.of (by kernel_rfl)
theorem EB:dS Tryz.prog 73 1 false:=⟨fun w=>by kernel_rfl,fun w=>by kernel_rfl⟩
theorem yy:a9 Tryz.prog 75 1 1:=a9.of (by kernel_rfl)
theorem Ij:a9 Tryz.prog 75 0 0:=a9.of (by kernel_rfl)
theorem SK:ag Tryz.prog 52:=ag.of Tryz.func52 (by kernel_rfl) (by kernel_rfl)
theorem yB:ag Tryz.prog 15:=ag.of Tryz.func15 (by kernel_rfl) (by kernel_rfl)
theorem NF:ag Tryz.prog 94:=ag.of Tryz.func94 (by kernel_rfl) (by kernel_rfl)
theorem P4:ag Tryz.prog 95:=ag.of Tryz.func95 (by kernel_rfl) (by kernel_rfl)
theorem P3:ag Tryz.prog 96:=ag.of Tryz.func96 (by kernel_rfl) (by kernel_rfl)
theorem Ot:∀i z,Tryz.prog.info? 23=some i→i.zero=some z→∀S w,rd S w .val (.slice none 0 0) z.cells.toList:=Ba (t:=.val) (z0:=(.slice none 0 0)) (by kernel_rfl) fun _ _=>⟨rfl,rfl⟩
theorem Su:ag Tryz.prog 97:=ag.of Tryz.func97 (by kernel_rfl) (by kernel_rfl)
theorem Ss:ag Tryz.prog 98:=ag.of Tryz.func98 (by kernel_rfl) (by kernel_rfl)
theorem SL:ag Tryz.prog 49:=ag.of Tryz.func49 (by kernel_rfl) (by kernel_rfl)
theorem Qo:ag Tryz.prog 16:=ag.of Tryz.func16 (by kernel_rfl) (by kernel_rfl)
theorem Qf:ag Tryz.prog 51:=ag.of Tryz.func51 (by kernel_rfl) (by kernel_rfl)
theorem Ry:mn Tryz.prog 35 28 1 24:=.of (z:=(.slice none 0 0)) Tryz.underlying35 (by kernel_rfl) rfl rfl rfl
theorem qn:dS Tryz.prog 28 1 false:=⟨fun w=>by kernel_rfl,fun w=>by kernel_rfl⟩
theorem Ql:ag Tryz.prog 17:=ag.of Tryz.func17 (by kernel_rfl) (by kernel_rfl)
theorem Rz:mn Tryz.prog 34 25 3 56:=.of (z:=(.agg #[(.int .i64 (0)),(.slice none 0 0),(.slice none 0 0)])) Tryz.underlying34 (by kernel_rfl) rfl rfl rfl
theorem CN:ag Tryz.prog 60:=ag.of Tryz.func60 (by kernel_rfl) (by kernel_rfl)
theorem S7:ag Tryz.prog 21:=ag.of Tryz.func21 (by kernel_rfl) (by kernel_rfl)
theorem Qb:ag Tryz.prog 65:=ag.of Tryz.func65 (by kernel_rfl) (by kernel_rfl)
theorem Qa:ag Tryz.prog 66:=ag.of Tryz.func66 (by kernel_rfl) (by kernel_rfl)
theorem S5:ag Tryz.prog 23:=ag.of Tryz.func23 (by kernel_rfl) (by kernel_rfl)
theorem Qu:ag Tryz.prog 131:=ag.of Tryz.func131 (by kernel_rfl) (by kernel_rfl)
theorem TS:∀i z,Tryz.prog.info? 3=some i→i.zero=some z→∀S w,rd S w (.int .i64) (0:Int) z.cells.toList:=Ba (z0:=(.int .i64 (0))) (by kernel_rfl) fun _ _=>rfl
theorem QF:ag Tryz.prog 101:=ag.of Tryz.func101 (by kernel_rfl) (by kernel_rfl)
theorem NG:ag Tryz.prog 59:=ag.of Tryz.func59 (by kernel_rfl) (by kernel_rfl)
theorem Qd:ag Tryz.prog 61:=ag.of Tryz.func61 (by kernel_rfl) (by kernel_rfl)
theorem Tf:ag Tryz.prog 10:=ag.of Tryz.func10 (by kernel_rfl) (by kernel_rfl)
theorem Td:ag Tryz.prog 11:=ag.of Tryz.func11 (by kernel_rfl) (by kernel_rfl)
theorem Qy:ag Tryz.prog 12:=ag.of Tryz.func12 (by kernel_rfl) (by kernel_rfl)
theorem Ta:ag Tryz.prog 13:=ag.of Tryz.func13 (by kernel_rfl) (by kernel_rfl)
theorem S9:ag Tryz.prog 14:=ag.of Tryz.func14 (by kernel_rfl) (by kernel_rfl)
theorem SZ:ag Tryz.prog 26:=ag.of Tryz.func26 (by kernel_rfl) (by kernel_rfl)
theorem Qg:ag Tryz.prog 39:=ag.of Tryz.func39 (by kernel_rfl) (by kernel_rfl)
theorem SS:ag Tryz.prog 40:=ag.of Tryz.func40 (by kernel_rfl) (by kernel_rfl)
theorem SR:ag Tryz.prog 41:=ag.of Tryz.func41 (by kernel_rfl) (by kernel_rfl)
theorem SQ:ag Tryz.prog 42:=ag.of Tryz.func42 (by kernel_rfl) (by kernel_rfl)
abbrev Rs(t:Ty)(l:(Ty.slice t).den):A:=.rep (.slice t) l
abbrev Pv(b:Nat):Value:=.pointer (some ⟨b,0,none⟩)
abbrev TC:= @Tryz.underlying100
abbrev TB:= @Tryz.underlying102
abbrev TA:= @Tryz.underlying107
abbrev N3:= @Tryz.underlying108
abbrev Tz:= @Tryz.underlying110
abbrev QW:= @Tryz.underlying132
abbrev Tv:= @Tryz.underlying143
abbrev Tt:= @Tryz.underlying154
abbrev QV:= @Tryz.underlying155
abbrev To:= @Tryz.underlying201
abbrev Ub:= @Tryz.underlying21
abbrev mD:= @Tryz.underlying22
abbrev dw:= @Tryz.underlying23
abbrev lw:= @Tryz.underlying28
abbrev U3:= @Tryz.underlying3
abbrev QU:= @Tryz.underlying34
abbrev L1:= @Tryz.underlying35
abbrev U5:= @Tryz.underlying5
abbrev Rh:= @Tryz.underlying73
abbrev Rf:= @Tryz.underlying84
abbrev Re:= @Tryz.underlying86
abbrev U9:= @Tryz.underlying9
abbrev On:= @Tryz.underlying97
theorem jo:false=false→1=1:=fun _=>rfl
end Go.Proofs.YtghkncjelangeaaGreatDoor
