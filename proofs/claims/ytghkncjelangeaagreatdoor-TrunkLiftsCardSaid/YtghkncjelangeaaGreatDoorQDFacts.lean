import Derived.Test.YtghkncjelangeaaGreatDoorQDB5
import Derived.Test.YtghkncjelangeaaGreatDoorProg
set_option linter.unusedVariables false
set_option linter.unusedSimpArgs false
namespace Go.Proofs.YtghkncjelangeaaGreatDoor
open K Go Go.Proofs
theorem cD:Tryz.prog.follows .mixedOrders=true:=by kernel_rfl
theorem vX{n:Nat}:true=false→n=1:=fun h=>nomatch h
def Kt:ByteArray:=⟨#[0,1,2,2,3,3,3,3,4,4,4,4,4,4,4,4,5,5,5,5,5,5,5,5,5,5,5,5,5,5,5,5,6,6,6,6,6,6,6,6,6,6,6,6,6,6,6,6,6,6,6,6,6,6,6,6,6,6,6,6,6,6,6,6,7,7,7,7,7,7,7,7,7,7,7,7,7,7,7,7,7,7,7,7,7,7,7,7,7,7,7,7,7,7,7,7,7,7,7,7,7,7,7,7,7,7,7,7,7,7,7,7,7,7,7,7,7,7,7,7,7,7,7,7,7,7,7,7,8,8,8,8,8,8,8,8,8,8,8,8,8,8,8,8,8,8,8,8,8,8,8,8,8,8,8,8,8,8,8,8,8,8,8,8,8,8,8,8,8,8,8,8,8,8,8,8,8,8,8,8,8,8,8,8,8,8,8,8,8,8,8,8,8,8,8,8,8,8,8,8,8,8,8,8,8,8,8,8,8,8,8,8,8,8,8,8,8,8,8,8,8,8,8,8,8,8,8,8,8,8,8,8,8,8,8,8,8,8,8,8,8,8,8,8,8,8,8,8,8,8,8,8,8,8,8,8]⟩
@[reducible] def aH:Ty:=.agg (.pair (.int .i64) (.slice (.int .i64)))
abbrev eF:=(Int×(List Int))
@[reducible] def ap:Ty:=.agg (.pair (.int .i64) (.pair (.slice aH) (.slice (.int .i64))))
abbrev aP:=(Int×((List eF)×(List Int)))
@[reducible] def TS:Ty:=.agg (.pair (.slice (.int .i64)) (.pair (.int .i64) (.int .u64)))
abbrev bW:=((List Int)×(Int×Int))
@[reducible] def RA:Ty:=.agg (.int .i64)
@[reducible] def bL:Ty:=.agg (.pair ap .ign)
abbrev dp:=(aP×Unit)
@[reducible] def Ua:Ty:=.agg (.pair (.ptr bL) (.slice (.slice (.int .i64))))
@[reducible] def Oz:Ty:=.agg (.pair (.int .i64) (.int .i64))
@[reducible] def Gu:Ty:=.agg (.pair (.int .i64) (.lst (.int .i64)))
@[reducible] def RB:Ty:=.agg (.pair .val (.pair .val (.int .u64)))
theorem bU:ba Tryz.prog 25 1 1:=ba.of (by kernel_rfl)
theorem eR:dP Tryz.prog 22 1 false:=⟨fun w=>by kernel_rfl,fun w=>by kernel_rfl⟩
theorem cK:ba Tryz.prog 25 2 2:=ba.of (by kernel_rfl)
theorem bR:dP Tryz.prog 23 1 false:=⟨fun w=>by kernel_rfl,fun w=>by kernel_rfl⟩
theorem gC:dP Tryz.prog 27 2 true:=⟨fun w=>by kernel_rfl,fun w=>by kernel_rfl⟩
theorem j0:ba Tryz.prog 27 1 1:=ba.of (by kernel_rfl)
theorem kB:ba Tryz.prog 27 0 0:=ba.of (by kernel_rfl)
theorem cg:dP Tryz.prog 3 1 false:=⟨fun w=>by kernel_rfl,fun w=>by kernel_rfl⟩
theorem AB:ah Tryz.prog 53:=ah.of Tryz.func53 (by kernel_rfl) (by kernel_rfl)
theorem fp:ba Tryz.prog 25 0 0:=ba.of (by kernel_rfl)
theorem uc:∀w,(zeroValue 27).run Tryz.prog w= .ok (.agg #[(.int .i64 (0)),(.slice none 0 0)]) w:=fun w=>by kernel_rfl
theorem Lm:∀S w,(A.cells S w (.agg (.pair (.eq (.int .i64 (0:Int))) (.eq (.slice none 0 0)))) (Value.cells (.agg #[(.int .i64 (0)),(.slice none 0 0)])).toList):=fun _ _=>⟨[_],_,rfl,⟨rfl,rfl⟩,⟨rfl,rfl⟩⟩
theorem cJ:dP Tryz.prog 25 3 true:=⟨fun w=>by kernel_rfl,fun w=>by kernel_rfl⟩
theorem SX:ah Tryz.prog 62:=ah.of Tryz.func62 (by kernel_rfl) (by kernel_rfl)
theorem ER:yV Tryz.prog 97 #[(0,1)]:=⟨_,Tryz.underlying97,fun _=>by kernel_rfl⟩
theorem Bg:∀w,(zeroValue 97).run Tryz.prog w= .ok (.agg #[(.int .i64 (0))]) w:=fun w=>by kernel_rfl
theorem xx:∀S w,(A.cells S w (.eq (.int .i64 (0:Int))) (Value.cells (.agg #[(.int .i64 (0))])).toList):=fun _ _=>⟨rfl,rfl⟩
theorem Iy:ah Tryz.prog 57:=ah.of Tryz.func57 (by kernel_rfl) (by kernel_rfl)
theorem D1:ah Tryz.prog 106:=ah.of Tryz.func106 (by kernel_rfl) (by kernel_rfl)
theorem Mc:ah Tryz.prog 107:=ah.of Tryz.func107 (by kernel_rfl) (by kernel_rfl)
theorem Qo:ah Tryz.prog 20:=ah.of Tryz.func20 (by kernel_rfl) (by kernel_rfl)
theorem TB:∀S w,(A.cells S w (.agg (.eq (.int .i64 (0:Int)))) (Value.cells (.agg #[(.int .i64 (0))])).toList):=fun _ _=>⟨rfl,rfl⟩
theorem SV:ah Tryz.prog 64:=ah.of Tryz.func64 (by kernel_rfl) (by kernel_rfl)
theorem Qj:ah Tryz.prog 63:=ah.of Tryz.func63 (by kernel_rfl) (by kernel_rfl)
theorem Ny:ba Tryz.prog 97 0 0:=ba.of (by kernel_rfl)
theorem RE:dP Tryz.prog 41 1 false:=⟨fun w=>by kernel_rfl,fun w=>by kernel_rfl⟩
theorem qF:∀w,(zeroValue 86).run Tryz.prog w= .ok (.agg #[(.int .i64 (0)),(.int .i64 (0)),(.int .i64 (0)),(.int .i64 (0)),(.int .i64 (0)),(.int .i64 (0)),(.int .i64 (0)),(.int .i64 (0)),(.int .i64 (0)),(.int .i64 (0)),(.int .i64 (0)),(.int .i64 (0)),(.int .i64 (0)),(.int .i64 (0)),(.int .i64 (0))]) w:=fun w=>by kernel_rfl
theorem rh:∀S w,(A.cells S w (.rep (.arr 3 (.arr 5 (.int .i64))) [[(0:Int),(0:Int),(0:Int),(0:Int),(0:Int)],[(0:Int),(0:Int),(0:Int),(0:Int),(0:Int)],[(0:Int),(0:Int),(0:Int),(0:Int),(0:Int)]]) (Value.cells (.agg #[(.int .i64 (0)),(.int .i64 (0)),(.int .i64 (0)),(.int .i64 (0)),(.int .i64 (0)),(.int .i64 (0)),(.int .i64 (0)),(.int .i64 (0)),(.int .i64 (0)),(.int .i64 (0)),(.int .i64 (0)),(.int .i64 (0)),(.int .i64 (0)),(.int .i64 (0)),(.int .i64 (0))])).toList):=fun _ _=>⟨rfl,⟨[_,_,_,_,_],_,rfl,⟨rfl,⟨[_],_,rfl,rfl,⟨[_],_,rfl,rfl,⟨[_],_,rfl,rfl,⟨[_],_,rfl,rfl,⟨[_],_,rfl,rfl,rfl⟩⟩⟩⟩⟩⟩,⟨[_,_,_,_,_],_,rfl,⟨rfl,⟨[_],_,rfl,rfl,⟨[_],_,rfl,rfl,⟨[_],_,rfl,rfl,⟨[_],_,rfl,rfl,⟨[_],_,rfl,rfl,rfl⟩⟩⟩⟩⟩⟩,⟨[_,_,_,_,_],_,rfl,⟨rfl,⟨[_],_,rfl,rfl,⟨[_],_,rfl,rfl,⟨[_],_,rfl,rfl,⟨[_],_,rfl,rfl,⟨[_],_,rfl,rfl,rfl⟩⟩⟩⟩⟩⟩,rfl⟩⟩⟩⟩
theorem Gz:dP Tryz.prog 84 5 true:=⟨fun w=>by kernel_rfl,fun w=>by kernel_rfl⟩
theorem fm:dP Tryz.prog 86 15 true:=⟨fun w=>by kernel_rfl,fun w=>by kernel_rfl⟩
theorem dI:mj Tryz.prog 23 3 1 8:=.of (z:=(.int .i64 (0))) Tryz.underlying23 (by kernel_rfl) rfl rfl rfl
theorem OH:∀w,(zeroValue 201).run Tryz.prog w= .ok (.pointer none) w:=fun w=>by kernel_rfl
theorem QT:∀S w,(A.cells S w (.eq (.pointer none)) (Value.cells (.pointer none)).toList):=fun _ _=>⟨rfl,rfl⟩
theorem Qw:ah Tryz.prog 162:=ah.of Tryz.func162 (by kernel_rfl) (by kernel_rfl)
theorem zr:dP Tryz.prog 201 1 false:=⟨fun w=>by kernel_rfl,fun w=>by kernel_rfl⟩
theorem O4:yV Tryz.prog 204 #[(0,1),(1,1)]:=⟨_,Tryz.underlying204,fun _=>by kernel_rfl⟩
theorem OG:∀w,(zeroValue 204).run Tryz.prog w= .ok (.agg #[(.int .i64 (0)),(.pointer none)]) w:=fun w=>by kernel_rfl
theorem Oa:∀S w,(A.cells S w (.pair (.eq (.int .i64 (0:Int))) (.eq (.pointer none))) (Value.cells (.agg #[(.int .i64 (0)),(.pointer none)])).toList):=fun _ _=>⟨[_],_,rfl,⟨rfl,rfl⟩,⟨rfl,rfl⟩⟩
theorem Qp:ah Tryz.prog 180:=ah.of Tryz.func180 (by kernel_rfl) (by kernel_rfl)
theorem QD:ah Tryz.prog 129:=ah.of Tryz.func129 (by kernel_rfl) (by kernel_rfl)
theorem uA:ba Tryz.prog 204 0 0:=ba.of (by kernel_rfl)
theorem DT:ba Tryz.prog 204 1 1:=ba.of (by kernel_rfl)
theorem SG:ah Tryz.prog 87:=ah.of Tryz.func87 (by kernel_rfl) (by kernel_rfl)
theorem j7:ba Tryz.prog 157 0 0:=ba.of (by kernel_rfl)
theorem QC:ah Tryz.prog 130:=ah.of Tryz.func130 (by kernel_rfl) (by kernel_rfl)
theorem KY:ah Tryz.prog 80:=ah.of Tryz.func80 (by kernel_rfl) (by kernel_rfl)
theorem QN:ah Tryz.prog 100:=ah.of Tryz.func100 (by kernel_rfl) (by kernel_rfl)
theorem SB:ah Tryz.prog 99:=ah.of Tryz.func99 (by kernel_rfl) (by kernel_rfl)
theorem oV:mj Tryz.prog 28 23 1 24:=.of (z:=(.slice none 0 0)) Tryz.underlying28 (by kernel_rfl) rfl rfl rfl
theorem CU:ah Tryz.prog 56:=ah.of Tryz.func56 (by kernel_rfl) (by kernel_rfl)
theorem Rx:∀i z,Tryz.prog.info? 23=some i→i.zero=some z→∀S w,rd S w (.slice (.int .i64)) [] z.cells.toList:=Bf (z0:=(.slice none 0 0)) (by kernel_rfl) fun _ _=>.inl ⟨_,_,rfl,rfl⟩
theorem K0:ah Tryz.prog 22:=ah.of Tryz.func22 (by kernel_rfl) (by kernel_rfl)
theorem Iz:ah Tryz.prog 54:=ah.of Tryz.func54 (by kernel_rfl) (by kernel_rfl)
theorem NT:ah Tryz.prog 55:=ah.of Tryz.func55 (by kernel_rfl) (by kernel_rfl)
theorem NS:ah Tryz.prog 58:=ah.of Tryz.func58 (by kernel_rfl) (by kernel_rfl)
theorem Ft:ah Tryz.prog 24:=ah.of Tryz.func24 (by kernel_rfl) (by kernel_rfl)
theorem DU:ba Tryz.prog 157 1 3:=ba.of (by kernel_rfl)
theorem LP:dP Tryz.prog 155 1 false:=⟨fun w=>by kernel_rfl,fun w=>by kernel_rfl⟩
theorem Qh:ah Tryz.prog 75:=ah.of Tryz.func75 (by kernel_rfl) (by kernel_rfl)
theorem Qf:ah Tryz.prog 83:=ah.of Tryz.func83 (by kernel_rfl) (by kernel_rfl)
theorem xM:dP Tryz.prog 81 1 false:=⟨fun w=>by kernel_rfl,fun w=>by kernel_rfl⟩
theorem SO:ah Tryz.prog 74:=ah.of Tryz.func74 (by kernel_rfl) (by kernel_rfl)
theorem QK:ah Tryz.prog 115:=ah.of Tryz.func115 (by kernel_rfl) (by kernel_rfl)
theorem T9:∀w,(zeroValue 3).run Tryz.prog w= .ok (.int .i64 0) w:=fun w=>by kernel_rfl
theorem SS:ah Tryz.prog 67:=ah.of Tryz.func67 (by kernel_rfl) (by kernel_rfl)
theorem Qg:ah Tryz.prog 77:=ah.of Tryz.func77 (by kernel_rfl) (by kernel_rfl)
theorem QH:ah Tryz.prog 118:=ah.of Tryz.func118 (by kernel_rfl) (by kernel_rfl)
theorem QA:ah Tryz.prog 155:=ah.of Tryz.func155 (by kernel_rfl) (by kernel_rfl)
theorem L9:ah Tryz.prog 158:=ah.of Tryz.func158 (by kernel_rfl) (by kernel_rfl)
theorem Qs:ah Tryz.prog 174:=ah.of Tryz.func174 (by kernel_rfl) (by kernel_rfl)
theorem Qq:ah Tryz.prog 178:=ah.of Tryz.func178 (by kernel_rfl) (by kernel_rfl)
theorem Qv:ah Tryz.prog 168:=ah.of Tryz.func168 (by kernel_rfl) (by kernel_rfl)
theorem Qy:ah Tryz.prog 157:=ah.of Tryz.func157 (by kernel_rfl) (by kernel_rfl)
theorem Qz:ah Tryz.prog 156:=ah.of Tryz.func156 (by kernel_rfl) (by kernel_rfl)
theorem QJ:ah Tryz.prog 116:=ah.of Tryz.func116 (by kernel_rfl) (by kernel_rfl)
theorem QI:ah Tryz.prog 117:=ah.of Tryz.func117 (by kernel_rfl) (by kernel_rfl)
theorem Ry:∀w,(zeroValue 81).run Tryz.prog w= .ok (.pointer none) w:=fun w=>by kernel_rfl
theorem TC:∀S w,(A.cells S w (.eq (.pointer none)) (Value.cells (.pointer none)).toList):=fun _ _=>⟨rfl,rfl⟩
theorem SQ:ah Tryz.prog 73:=ah.of Tryz.func73 (by kernel_rfl) (by kernel_rfl)
theorem SK:ah Tryz.prog 79:=ah.of Tryz.func79 (by kernel_rfl) (by kernel_rfl)
theorem SL:ah Tryz.prog 78:=ah.of Tryz.func78 (by kernel_rfl) (by kernel_rfl)
theorem SN:ah Tryz.prog 76:=ah.of Tryz.func76 (by kernel_rfl) (by kernel_rfl)
theorem O2:dP Tryz.prog 195 1 false:=⟨fun w=>by kernel_rfl,fun w=>by kernel_rfl⟩
theorem Dj:dP Tryz.prog 196 1 false:=⟨fun w=>by kernel_rfl,fun w=>by kernel_rfl⟩
theorem IB:ah Tryz.prog 121:=ah.of Tryz.func121 (by kernel_rfl) (by kernel_rfl)
theorem OI:∀w,(zeroValue 196).run Tryz.prog w= .ok .nilFunc w:=fun w=>by kernel_rfl
theorem QU:∀S w,(A.cells S w (.eq .nilFunc) (Value.cells .nilFunc).toList):=fun _ _=>⟨rfl,rfl⟩
theorem GA:dP Tryz.prog 132 1 false:=⟨fun w=>by kernel_rfl,fun w=>by kernel_rfl⟩
theorem LR:mj Tryz.prog 132 86 15 120:=.of (z:=(.agg #[(.int .i64 (0)),(.int .i64 (0)),(.int .i64 (0)),(.int .i64 (0)),(.int .i64 (0)),(.int .i64 (0)),(.int .i64 (0)),(.int .i64 (0)),(.int .i64 (0)),(.int .i64 (0)),(.int .i64 (0)),(.int .i64 (0)),(.int .i64 (0)),(.int .i64 (0)),(.int .i64 (0))])) Tryz.underlying132 (by kernel_rfl) rfl rfl rfl
theorem QE:ah Tryz.prog 120:=ah.of Tryz.func120 (by kernel_rfl) (by kernel_rfl)
theorem QG:ah Tryz.prog 119:=ah.of Tryz.func119 (by kernel_rfl) (by kernel_rfl)
theorem SH:ah Tryz.prog 85:=ah.of Tryz.func85 (by kernel_rfl) (by kernel_rfl)
theorem SI:ah Tryz.prog 84:=ah.of Tryz.func84 (by kernel_rfl) (by kernel_rfl)
theorem SJ:ah Tryz.prog 82:=ah.of Tryz.func82 (by kernel_rfl) (by kernel_rfl)
theorem kh:∀w,(zeroValue 25).run Tryz.prog w= .ok (.agg #[(.int .i64 (0)),(.slice none 0 0),(.slice none 0 0)]) w:=fun w=>by kernel_rfl
theorem mz:∀S w,(A.cells S w (.agg (.pair (.eq (.int .i64 (0:Int))) (.pair (.eq (.slice none 0 0)) (.eq (.slice none 0 0))))) (Value.cells (.agg #[(.int .i64 (0)),(.slice none 0 0),(.slice none 0 0)])).toList):=fun _ _=>⟨[_],_,rfl,⟨rfl,rfl⟩,⟨[_],_,rfl,⟨rfl,rfl⟩,⟨rfl,rfl⟩⟩⟩
theorem zG:yV Tryz.prog 27 #[(0,1),(1,1)]:=⟨_,Tryz.underlying27,fun _=>by kernel_rfl⟩
theorem t9:∀S w,(A.cells S w (.pair (.eq (.int .i64 (0:Int))) (.eq (.slice none 0 0))) (Value.cells (.agg #[(.int .i64 (0)),(.slice none 0 0)])).toList):=fun _ _=>⟨[_],_,rfl,⟨rfl,rfl⟩,⟨rfl,rfl⟩⟩
theorem xN:mj Tryz.prog 22 27 2 32:=.of (z:=(.agg #[(.int .i64 (0)),(.slice none 0 0)])) Tryz.underlying22 (by kernel_rfl) rfl rfl rfl
theorem GW:yV Tryz.prog 25 #[(0,1),(1,1),(2,1)]:=⟨_,Tryz.underlying25,fun _=>by kernel_rfl⟩
theorem AQ:∀S w,(A.cells S w (.pair (.eq (.int .i64 (0:Int))) (.pair (.eq (.slice none 0 0)) (.eq (.slice none 0 0)))) (Value.cells (.agg #[(.int .i64 (0)),(.slice none 0 0),(.slice none 0 0)])).toList):=fun _ _=>⟨[_],_,rfl,⟨rfl,rfl⟩,⟨[_],_,rfl,⟨rfl,rfl⟩,⟨rfl,rfl⟩⟩⟩
theorem Fq:ah Tryz.prog 45:=ah.of Tryz.func45 (by kernel_rfl) (by kernel_rfl)
theorem KZ:ah Tryz.prog 46:=ah.of Tryz.func46 (by kernel_rfl) (by kernel_rfl)
theorem Tn:ah Tryz.prog 18:=ah.of Tryz.func18 (by kernel_rfl) (by kernel_rfl)
theorem Qm:ah Tryz.prog 35:=ah.of Tryz.func35 (by kernel_rfl) (by kernel_rfl)
theorem Td:ah Tryz.prog 31:=ah.of Tryz.func31 (by kernel_rfl) (by kernel_rfl)
theorem S7:ah Tryz.prog 47:=ah.of Tryz.func47 (by kernel_rfl) (by kernel_rfl)
theorem Ti:ah Tryz.prog 27:=ah.of Tryz.func27 (by kernel_rfl) (by kernel_rfl)
theorem Tf:ah Tryz.prog 29:=ah.of Tryz.func29 (by kernel_rfl) (by kernel_rfl)
theorem S5:ah Tryz.prog 48:=ah.of Tryz.func48 (by kernel_rfl) (by kernel_rfl)
theorem NU:ah Tryz.prog 25:=ah.of Tryz.func25 (by kernel_rfl) (by kernel_rfl)
theorem RO:yV Tryz.prog 75 #[(0,1),(1,1),(2,1)]:=⟨_,Tryz.underlying75,fun _=>by kernel_rfl⟩
theorem Rz:∀w,(zeroValue 75).run Tryz.prog w= .ok (.agg #[(.slice none 0 0),(.int .i64 (0)),(.int .u64 (0))]) w:=fun w=>by kernel_rfl
theorem QR:∀S w,(A.cells S w (.pair (.eq (.slice none 0 0)) (.pair (.eq (.int .i64 (0:Int))) (.eq (.int .u64 (0:Int))))) (Value.cells (.agg #[(.slice none 0 0),(.int .i64 (0)),(.int .u64 (0))])).toList):=fun _ _=>⟨[_],_,rfl,⟨rfl,rfl⟩,⟨[_],_,rfl,⟨rfl,rfl⟩,⟨rfl,rfl⟩⟩⟩
theorem ul:ah Tryz.prog 50:=ah.of Tryz.func50 (by kernel_rfl) (by kernel_rfl)
theorem tI:ba Tryz.prog 75 2 2:=ba.of (by kernel_rfl)
theorem ED:dP Tryz.prog 73 1 false:=⟨fun w=>by kernel_rfl,fun w=>by kernel_rfl⟩
theorem yB:ba Tryz.prog 75 1 1:=ba.of (by kernel_rfl)
theorem Ip:ba Tryz.prog 75 0 0:=ba.of (by kernel_rfl)
theorem SY:ah Tryz.prog 52:=ah.of Tryz.func52 (by kernel_rfl) (by kernel_rfl)
theorem IA:ah Tryz.prog 15:=ah.of Tryz.func15 (by kernel_rfl) (by kernel_rfl)
theorem NR:ah Tryz.prog 94:=ah.of Tryz.func94 (by kernel_rfl) (by kernel_rfl)
theorem Qe:ah Tryz.prog 95:=ah.of Tryz.func95 (by kernel_rfl) (by kernel_rfl)
theorem Qd:ah Tryz.prog 96:=ah.of Tryz.func96 (by kernel_rfl) (by kernel_rfl)
theorem OF:∀i z,Tryz.prog.info? 23=some i→i.zero=some z→∀S w,rd S w .val (.slice none 0 0) z.cells.toList:=Bf (t:=.val) (z0:=(.slice none 0 0)) (by kernel_rfl) fun _ _=>⟨rfl,rfl⟩
theorem SD:ah Tryz.prog 97:=ah.of Tryz.func97 (by kernel_rfl) (by kernel_rfl)
theorem SC:ah Tryz.prog 98:=ah.of Tryz.func98 (by kernel_rfl) (by kernel_rfl)
theorem SZ:ah Tryz.prog 49:=ah.of Tryz.func49 (by kernel_rfl) (by kernel_rfl)
theorem Qx:ah Tryz.prog 16:=ah.of Tryz.func16 (by kernel_rfl) (by kernel_rfl)
theorem Ql:ah Tryz.prog 51:=ah.of Tryz.func51 (by kernel_rfl) (by kernel_rfl)
theorem RG:mj Tryz.prog 35 28 1 24:=.of (z:=(.slice none 0 0)) Tryz.underlying35 (by kernel_rfl) rfl rfl rfl
theorem qh:dP Tryz.prog 28 1 false:=⟨fun w=>by kernel_rfl,fun w=>by kernel_rfl⟩
theorem Qu:ah Tryz.prog 17:=ah.of Tryz.func17 (by kernel_rfl) (by kernel_rfl)
theorem RH:mj Tryz.prog 34 25 3 56:=.of (z:=(.agg #[(.int .i64 (0)),(.slice none 0 0),(.slice none 0 0)])) Tryz.underlying34 (by kernel_rfl) rfl rfl rfl
theorem Ix:ah Tryz.prog 60:=ah.of Tryz.func60 (by kernel_rfl) (by kernel_rfl)
theorem Tm:ah Tryz.prog 21:=ah.of Tryz.func21 (by kernel_rfl) (by kernel_rfl)
theorem SU:ah Tryz.prog 65:=ah.of Tryz.func65 (by kernel_rfl) (by kernel_rfl)
theorem Qi:ah Tryz.prog 66:=ah.of Tryz.func66 (by kernel_rfl) (by kernel_rfl)
theorem Qn:ah Tryz.prog 23:=ah.of Tryz.func23 (by kernel_rfl) (by kernel_rfl)
theorem QB:ah Tryz.prog 131:=ah.of Tryz.func131 (by kernel_rfl) (by kernel_rfl)
theorem TP:∀i z,Tryz.prog.info? 3=some i→i.zero=some z→∀S w,rd S w (.int .i64) (0:Int) z.cells.toList:=Bf (z0:=(.int .i64 (0))) (by kernel_rfl) fun _ _=>rfl
theorem QM:ah Tryz.prog 101:=ah.of Tryz.func101 (by kernel_rfl) (by kernel_rfl)
theorem Qk:ah Tryz.prog 61:=ah.of Tryz.func61 (by kernel_rfl) (by kernel_rfl)
theorem Tv:ah Tryz.prog 10:=ah.of Tryz.func10 (by kernel_rfl) (by kernel_rfl)
theorem Tt:ah Tryz.prog 11:=ah.of Tryz.func11 (by kernel_rfl) (by kernel_rfl)
theorem QF:ah Tryz.prog 12:=ah.of Tryz.func12 (by kernel_rfl) (by kernel_rfl)
theorem AC:ah Tryz.prog 13:=ah.of Tryz.func13 (by kernel_rfl) (by kernel_rfl)
theorem To:ah Tryz.prog 14:=ah.of Tryz.func14 (by kernel_rfl) (by kernel_rfl)
theorem Tj:ah Tryz.prog 26:=ah.of Tryz.func26 (by kernel_rfl) (by kernel_rfl)
theorem SR:ah Tryz.prog 71:=ah.of Tryz.func71 (by kernel_rfl) (by kernel_rfl)
theorem Ta:ah Tryz.prog 36:=ah.of Tryz.func36 (by kernel_rfl) (by kernel_rfl)
theorem S9:ah Tryz.prog 37:=ah.of Tryz.func37 (by kernel_rfl) (by kernel_rfl)
theorem S8:ah Tryz.prog 38:=ah.of Tryz.func38 (by kernel_rfl) (by kernel_rfl)
abbrev Rs(t:Ty)(l:(Ty.slice t).den):A:=.rep (.slice t) l
abbrev Pv(b:Nat):Value:=.pointer (some ⟨b,0,none⟩)
abbrev TM:= @Tryz.underlying100
abbrev TL:= @Tryz.underlying102
abbrev TK:= @Tryz.underlying107
abbrev Of:= @Tryz.underlying108
abbrev TJ:= @Tryz.underlying110
abbrev Q3:= @Tryz.underlying132
abbrev TG:= @Tryz.underlying143
abbrev TF:= @Tryz.underlying154
abbrev Q2:= @Tryz.underlying155
abbrev TD:= @Tryz.underlying201
abbrev Ui:= @Tryz.underlying21
abbrev mB:= @Tryz.underlying22
abbrev dA:= @Tryz.underlying23
abbrev mA:= @Tryz.underlying28
abbrev U3:= @Tryz.underlying3
abbrev Q1:= @Tryz.underlying34
abbrev MA:= @Tryz.underlying35
abbrev U5:= @Tryz.underlying5
abbrev Rq:= @Tryz.underlying73
abbrev Ro:= @Tryz.underlying84
abbrev Rn:= @Tryz.underlying86
abbrev U9:= @Tryz.underlying9
abbrev OC:= @Tryz.underlying97
theorem jt:false=false→1=1:=fun _=>rfl
end Go.Proofs.YtghkncjelangeaaGreatDoor
