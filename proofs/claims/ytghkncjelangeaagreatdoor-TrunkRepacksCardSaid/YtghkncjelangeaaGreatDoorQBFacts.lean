import Derived.Test.YtghkncjelangeaaGreatDoorQBB5
import Derived.Test.YtghkncjelangeaaGreatDoorProg
set_option linter.unusedVariables false
set_option linter.unusedSimpArgs false
namespace Go.Proofs.YtghkncjelangeaaGreatDoor
open K Go Go.Proofs
theorem cD:Tryz.prog.follows .mixedOrders=true:=by kernel_rfl
theorem uD{n:Nat}:true=false→n=1:=fun h=>nomatch h
def KL:ByteArray:=⟨#[0,1,2,2,3,3,3,3,4,4,4,4,4,4,4,4,5,5,5,5,5,5,5,5,5,5,5,5,5,5,5,5,6,6,6,6,6,6,6,6,6,6,6,6,6,6,6,6,6,6,6,6,6,6,6,6,6,6,6,6,6,6,6,6,7,7,7,7,7,7,7,7,7,7,7,7,7,7,7,7,7,7,7,7,7,7,7,7,7,7,7,7,7,7,7,7,7,7,7,7,7,7,7,7,7,7,7,7,7,7,7,7,7,7,7,7,7,7,7,7,7,7,7,7,7,7,7,7,8,8,8,8,8,8,8,8,8,8,8,8,8,8,8,8,8,8,8,8,8,8,8,8,8,8,8,8,8,8,8,8,8,8,8,8,8,8,8,8,8,8,8,8,8,8,8,8,8,8,8,8,8,8,8,8,8,8,8,8,8,8,8,8,8,8,8,8,8,8,8,8,8,8,8,8,8,8,8,8,8,8,8,8,8,8,8,8,8,8,8,8,8,8,8,8,8,8,8,8,8,8,8,8,8,8,8,8,8,8,8,8,8,8,8,8,8,8,8,8,8,8,8,8,8,8,8,8]⟩
@[reducible] def aZ:Ty:=.agg (.pair (.int .i64) (.slice (.int .i64)))
abbrev eM:=(Int×(List Int))
@[reducible] def av:Ty:=.agg (.pair (.int .i64) (.pair (.slice aZ) (.slice (.int .i64))))
abbrev aQ:=(Int×((List eM)×(List Int)))
@[reducible] def Um:Ty:=.agg (.pair (.slice (.int .i64)) (.pair (.int .i64) (.int .u64)))
abbrev bR:=((List Int)×(Int×Int))
@[reducible] def RZ:Ty:=.agg (.int .i64)
@[reducible] def bO:Ty:=.agg (.pair av .ign)
abbrev du:=(aQ×Unit)
@[reducible] def Ux:Ty:=.agg (.pair (.ptr bO) (.slice (.slice (.int .i64))))
@[reducible] def OQ:Ty:=.agg (.pair (.int .i64) (.int .i64))
@[reducible] def GP:Ty:=.agg (.pair (.int .i64) (.lst (.int .i64)))
@[reducible] def R2:Ty:=.agg (.pair .val (.pair .val (.int .u64)))
theorem bV:a8 Tryz.prog 25 1 1:=a8.of (by kernel_rfl)
theorem eU:dR Tryz.prog 22 1 false:=⟨fun w=>by kernel_rfl,fun w=>by kernel_rfl⟩
theorem cK:a8 Tryz.prog 25 2 2:=a8.of (by kernel_rfl)
theorem bG:dR Tryz.prog 23 1 false:=⟨fun w=>by kernel_rfl,fun w=>by kernel_rfl⟩
theorem kh:dR Tryz.prog 27 2 true:=⟨fun w=>by kernel_rfl,fun w=>by kernel_rfl⟩
theorem kz:a8 Tryz.prog 27 1 1:=a8.of (by kernel_rfl)
theorem kQ:a8 Tryz.prog 27 0 0:=a8.of (by kernel_rfl)
theorem co:dR Tryz.prog 3 1 false:=⟨fun w=>by kernel_rfl,fun w=>by kernel_rfl⟩
theorem AP:ah Tryz.prog 53:=ah.of Tryz.func53 (by kernel_rfl) (by kernel_rfl)
theorem fP:a8 Tryz.prog 25 0 0:=a8.of (by kernel_rfl)
theorem ug:∀w,(zeroValue 27).run Tryz.prog w= .ok (.agg #[(.int .i64 (0)),(.slice none 0 0)]) w:=fun w=>by kernel_rfl
theorem LK:∀S w,(A.cells S w (.agg (.pair (.eq (.int .i64 (0:Int))) (.eq (.slice none 0 0)))) (Value.cells (.agg #[(.int .i64 (0)),(.slice none 0 0)])).toList):=fun _ _=>⟨[_],_,rfl,⟨rfl,rfl⟩,⟨rfl,rfl⟩⟩
theorem dQ:dR Tryz.prog 25 3 true:=⟨fun w=>by kernel_rfl,fun w=>by kernel_rfl⟩
theorem TC:ah Tryz.prog 62:=ah.of Tryz.func62 (by kernel_rfl) (by kernel_rfl)
theorem E3:zf Tryz.prog 97 #[(0,1)]:=⟨_,Tryz.underlying97,fun _=>by kernel_rfl⟩
theorem Bv:∀w,(zeroValue 97).run Tryz.prog w= .ok (.agg #[(.int .i64 (0))]) w:=fun w=>by kernel_rfl
theorem xJ:∀S w,(A.cells S w (.eq (.int .i64 (0:Int))) (Value.cells (.agg #[(.int .i64 (0))])).toList):=fun _ _=>⟨rfl,rfl⟩
theorem Lm:ah Tryz.prog 57:=ah.of Tryz.func57 (by kernel_rfl) (by kernel_rfl)
theorem Ee:ah Tryz.prog 106:=ah.of Tryz.func106 (by kernel_rfl) (by kernel_rfl)
theorem MR:ah Tryz.prog 107:=ah.of Tryz.func107 (by kernel_rfl) (by kernel_rfl)
theorem QK:ah Tryz.prog 20:=ah.of Tryz.func20 (by kernel_rfl) (by kernel_rfl)
theorem Ua:∀S w,(A.cells S w (.agg (.eq (.int .i64 (0:Int)))) (Value.cells (.agg #[(.int .i64 (0))])).toList):=fun _ _=>⟨rfl,rfl⟩
theorem TB:ah Tryz.prog 64:=ah.of Tryz.func64 (by kernel_rfl) (by kernel_rfl)
theorem QE:ah Tryz.prog 63:=ah.of Tryz.func63 (by kernel_rfl) (by kernel_rfl)
theorem NS:a8 Tryz.prog 97 0 0:=a8.of (by kernel_rfl)
theorem R9:dR Tryz.prog 41 1 false:=⟨fun w=>by kernel_rfl,fun w=>by kernel_rfl⟩
theorem sS:∀w,(zeroValue 86).run Tryz.prog w= .ok (.agg #[(.int .i64 (0)),(.int .i64 (0)),(.int .i64 (0)),(.int .i64 (0)),(.int .i64 (0)),(.int .i64 (0)),(.int .i64 (0)),(.int .i64 (0)),(.int .i64 (0)),(.int .i64 (0)),(.int .i64 (0)),(.int .i64 (0)),(.int .i64 (0)),(.int .i64 (0)),(.int .i64 (0))]) w:=fun w=>by kernel_rfl
theorem tV:∀S w,(A.cells S w (.rep (.arr 3 (.arr 5 (.int .i64))) [[(0:Int),(0:Int),(0:Int),(0:Int),(0:Int)],[(0:Int),(0:Int),(0:Int),(0:Int),(0:Int)],[(0:Int),(0:Int),(0:Int),(0:Int),(0:Int)]]) (Value.cells (.agg #[(.int .i64 (0)),(.int .i64 (0)),(.int .i64 (0)),(.int .i64 (0)),(.int .i64 (0)),(.int .i64 (0)),(.int .i64 (0)),(.int .i64 (0)),(.int .i64 (0)),(.int .i64 (0)),(.int .i64 (0)),(.int .i64 (0)),(.int .i64 (0)),(.int .i64 (0)),(.int .i64 (0))])).toList):=fun _ _=>⟨rfl,⟨[_,_,_,_,_],_,rfl,⟨rfl,⟨[_],_,rfl,rfl,⟨[_],_,rfl,rfl,⟨[_],_,rfl,rfl,⟨[_],_,rfl,rfl,⟨[_],_,rfl,rfl,rfl⟩⟩⟩⟩⟩⟩,⟨[_,_,_,_,_],_,rfl,⟨rfl,⟨[_],_,rfl,rfl,⟨[_],_,rfl,rfl,⟨[_],_,rfl,rfl,⟨[_],_,rfl,rfl,⟨[_],_,rfl,rfl,rfl⟩⟩⟩⟩⟩⟩,⟨[_,_,_,_,_],_,rfl,⟨rfl,⟨[_],_,rfl,rfl,⟨[_],_,rfl,rfl,⟨[_],_,rfl,rfl,⟨[_],_,rfl,rfl,⟨[_],_,rfl,rfl,rfl⟩⟩⟩⟩⟩⟩,rfl⟩⟩⟩⟩
theorem GU:dR Tryz.prog 84 5 true:=⟨fun w=>by kernel_rfl,fun w=>by kernel_rfl⟩
theorem gu:dR Tryz.prog 86 15 true:=⟨fun w=>by kernel_rfl,fun w=>by kernel_rfl⟩
theorem dw:mt Tryz.prog 23 3 1 8:=.of (z:=(.int .i64 (0))) Tryz.underlying23 (by kernel_rfl) rfl rfl rfl
theorem OZ:∀w,(zeroValue 201).run Tryz.prog w= .ok (.pointer none) w:=fun w=>by kernel_rfl
theorem Rh:∀S w,(A.cells S w (.eq (.pointer none)) (Value.cells (.pointer none)).toList):=fun _ _=>⟨rfl,rfl⟩
theorem QQ:ah Tryz.prog 162:=ah.of Tryz.func162 (by kernel_rfl) (by kernel_rfl)
theorem zD:dR Tryz.prog 201 1 false:=⟨fun w=>by kernel_rfl,fun w=>by kernel_rfl⟩
theorem PD:zf Tryz.prog 204 #[(0,1),(1,1)]:=⟨_,Tryz.underlying204,fun _=>by kernel_rfl⟩
theorem OY:∀w,(zeroValue 204).run Tryz.prog w= .ok (.agg #[(.int .i64 (0)),(.pointer none)]) w:=fun w=>by kernel_rfl
theorem Ov:∀S w,(A.cells S w (.pair (.eq (.int .i64 (0:Int))) (.eq (.pointer none))) (Value.cells (.agg #[(.int .i64 (0)),(.pointer none)])).toList):=fun _ _=>⟨[_],_,rfl,⟨rfl,rfl⟩,⟨rfl,rfl⟩⟩
theorem QL:ah Tryz.prog 180:=ah.of Tryz.func180 (by kernel_rfl) (by kernel_rfl)
theorem QY:ah Tryz.prog 129:=ah.of Tryz.func129 (by kernel_rfl) (by kernel_rfl)
theorem uH:a8 Tryz.prog 204 0 0:=a8.of (by kernel_rfl)
theorem D9:a8 Tryz.prog 204 1 1:=a8.of (by kernel_rfl)
theorem Ta:ah Tryz.prog 87:=ah.of Tryz.func87 (by kernel_rfl) (by kernel_rfl)
theorem kA:a8 Tryz.prog 157 0 0:=a8.of (by kernel_rfl)
theorem QX:ah Tryz.prog 130:=ah.of Tryz.func130 (by kernel_rfl) (by kernel_rfl)
theorem Lj:ah Tryz.prog 80:=ah.of Tryz.func80 (by kernel_rfl) (by kernel_rfl)
theorem Q8:ah Tryz.prog 100:=ah.of Tryz.func100 (by kernel_rfl) (by kernel_rfl)
theorem S7:ah Tryz.prog 99:=ah.of Tryz.func99 (by kernel_rfl) (by kernel_rfl)
theorem m7:mt Tryz.prog 28 23 1 24:=.of (z:=(.slice none 0 0)) Tryz.underlying28 (by kernel_rfl) rfl rfl rfl
theorem FO:ah Tryz.prog 56:=ah.of Tryz.func56 (by kernel_rfl) (by kernel_rfl)
theorem RV:∀i z,Tryz.prog.info? 23=some i→i.zero=some z→∀S w,rd S w (.slice (.int .i64)) [] z.cells.toList:=Bt (z0:=(.slice none 0 0)) (by kernel_rfl) fun _ _=>.inl ⟨_,_,rfl,rfl⟩
theorem Oe:ah Tryz.prog 22:=ah.of Tryz.func22 (by kernel_rfl) (by kernel_rfl)
theorem Ln:ah Tryz.prog 54:=ah.of Tryz.func54 (by kernel_rfl) (by kernel_rfl)
theorem QH:ah Tryz.prog 55:=ah.of Tryz.func55 (by kernel_rfl) (by kernel_rfl)
theorem Ob:ah Tryz.prog 58:=ah.of Tryz.func58 (by kernel_rfl) (by kernel_rfl)
theorem FQ:ah Tryz.prog 24:=ah.of Tryz.func24 (by kernel_rfl) (by kernel_rfl)
theorem Ea:a8 Tryz.prog 157 1 3:=a8.of (by kernel_rfl)
theorem MB:dR Tryz.prog 155 1 false:=⟨fun w=>by kernel_rfl,fun w=>by kernel_rfl⟩
theorem QD:ah Tryz.prog 75:=ah.of Tryz.func75 (by kernel_rfl) (by kernel_rfl)
theorem QA:ah Tryz.prog 83:=ah.of Tryz.func83 (by kernel_rfl) (by kernel_rfl)
theorem xZ:dR Tryz.prog 81 1 false:=⟨fun w=>by kernel_rfl,fun w=>by kernel_rfl⟩
theorem To:ah Tryz.prog 74:=ah.of Tryz.func74 (by kernel_rfl) (by kernel_rfl)
theorem Q5:ah Tryz.prog 115:=ah.of Tryz.func115 (by kernel_rfl) (by kernel_rfl)
theorem Uu:∀w,(zeroValue 3).run Tryz.prog w= .ok (.int .i64 0) w:=fun w=>by kernel_rfl
theorem Tz:ah Tryz.prog 67:=ah.of Tryz.func67 (by kernel_rfl) (by kernel_rfl)
theorem QC:ah Tryz.prog 77:=ah.of Tryz.func77 (by kernel_rfl) (by kernel_rfl)
theorem Q2:ah Tryz.prog 118:=ah.of Tryz.func118 (by kernel_rfl) (by kernel_rfl)
theorem QV:ah Tryz.prog 155:=ah.of Tryz.func155 (by kernel_rfl) (by kernel_rfl)
theorem MQ:ah Tryz.prog 158:=ah.of Tryz.func158 (by kernel_rfl) (by kernel_rfl)
theorem QN:ah Tryz.prog 174:=ah.of Tryz.func174 (by kernel_rfl) (by kernel_rfl)
theorem QM:ah Tryz.prog 178:=ah.of Tryz.func178 (by kernel_rfl) (by kernel_rfl)
theorem QP:ah Tryz.prog 168:=ah.of Tryz.func168 (by kernel_rfl) (by kernel_rfl)
theorem QT:ah Tryz.prog 157:=ah.of Tryz.func157 (by kernel_rfl) (by kernel_rfl)
theorem QU:ah Tryz.prog 156:=ah.of Tryz.func156 (by kernel_rfl) (by kernel_rfl)
theorem Q4:ah Tryz.prog 116:=ah.of Tryz.func116 (by kernel_rfl) (by kernel_rfl)
theorem Q3:ah Tryz.prog 117:=ah.of Tryz.func117 (by kernel_rfl) (by kernel_rfl)
theorem RX:∀w,(zeroValue 81).run Tryz.prog w= .ok (.pointer none) w:=fun w=>by kernel_rfl
theorem Ub:∀S w,(A.cells S w (.eq (.pointer none)) (Value.cells (.pointer none)).toList):=fun _ _=>⟨rfl,rfl⟩
theorem Tt:ah Tryz.prog 73:=ah.of Tryz.func73 (by kernel_rfl) (by kernel_rfl)
theorem Tj:ah Tryz.prog 79:=ah.of Tryz.func79 (by kernel_rfl) (by kernel_rfl)
theorem Tm:ah Tryz.prog 78:=ah.of Tryz.func78 (by kernel_rfl) (by kernel_rfl)
theorem Tn:ah Tryz.prog 76:=ah.of Tryz.func76 (by kernel_rfl) (by kernel_rfl)
theorem Py:dR Tryz.prog 195 1 false:=⟨fun w=>by kernel_rfl,fun w=>by kernel_rfl⟩
theorem Dy:dR Tryz.prog 196 1 false:=⟨fun w=>by kernel_rfl,fun w=>by kernel_rfl⟩
theorem IP:ah Tryz.prog 121:=ah.of Tryz.func121 (by kernel_rfl) (by kernel_rfl)
theorem O0:∀w,(zeroValue 196).run Tryz.prog w= .ok .nilFunc w:=fun w=>by kernel_rfl
theorem Rj:∀S w,(A.cells S w (.eq .nilFunc) (Value.cells .nilFunc).toList):=fun _ _=>⟨rfl,rfl⟩
theorem GV:dR Tryz.prog 132 1 false:=⟨fun w=>by kernel_rfl,fun w=>by kernel_rfl⟩
theorem MD:mt Tryz.prog 132 86 15 120:=.of (z:=(.agg #[(.int .i64 (0)),(.int .i64 (0)),(.int .i64 (0)),(.int .i64 (0)),(.int .i64 (0)),(.int .i64 (0)),(.int .i64 (0)),(.int .i64 (0)),(.int .i64 (0)),(.int .i64 (0)),(.int .i64 (0)),(.int .i64 (0)),(.int .i64 (0)),(.int .i64 (0)),(.int .i64 (0))])) Tryz.underlying132 (by kernel_rfl) rfl rfl rfl
theorem QZ:ah Tryz.prog 120:=ah.of Tryz.func120 (by kernel_rfl) (by kernel_rfl)
theorem Q1:ah Tryz.prog 119:=ah.of Tryz.func119 (by kernel_rfl) (by kernel_rfl)
theorem Td:ah Tryz.prog 85:=ah.of Tryz.func85 (by kernel_rfl) (by kernel_rfl)
theorem Tf:ah Tryz.prog 84:=ah.of Tryz.func84 (by kernel_rfl) (by kernel_rfl)
theorem Ti:ah Tryz.prog 82:=ah.of Tryz.func82 (by kernel_rfl) (by kernel_rfl)
theorem kE:∀w,(zeroValue 25).run Tryz.prog w= .ok (.agg #[(.int .i64 (0)),(.slice none 0 0),(.slice none 0 0)]) w:=fun w=>by kernel_rfl
theorem mF:∀S w,(A.cells S w (.agg (.pair (.eq (.int .i64 (0:Int))) (.pair (.eq (.slice none 0 0)) (.eq (.slice none 0 0))))) (Value.cells (.agg #[(.int .i64 (0)),(.slice none 0 0),(.slice none 0 0)])).toList):=fun _ _=>⟨[_],_,rfl,⟨rfl,rfl⟩,⟨[_],_,rfl,⟨rfl,rfl⟩,⟨rfl,rfl⟩⟩⟩
theorem zQ:zf Tryz.prog 27 #[(0,1),(1,1)]:=⟨_,Tryz.underlying27,fun _=>by kernel_rfl⟩
theorem ud:∀S w,(A.cells S w (.pair (.eq (.int .i64 (0:Int))) (.eq (.slice none 0 0))) (Value.cells (.agg #[(.int .i64 (0)),(.slice none 0 0)])).toList):=fun _ _=>⟨[_],_,rfl,⟨rfl,rfl⟩,⟨rfl,rfl⟩⟩
theorem ya:mt Tryz.prog 22 27 2 32:=.of (z:=(.agg #[(.int .i64 (0)),(.slice none 0 0)])) Tryz.underlying22 (by kernel_rfl) rfl rfl rfl
theorem Hh:zf Tryz.prog 25 #[(0,1),(1,1),(2,1)]:=⟨_,Tryz.underlying25,fun _=>by kernel_rfl⟩
theorem A2:∀S w,(A.cells S w (.pair (.eq (.int .i64 (0:Int))) (.pair (.eq (.slice none 0 0)) (.eq (.slice none 0 0)))) (Value.cells (.agg #[(.int .i64 (0)),(.slice none 0 0),(.slice none 0 0)])).toList):=fun _ _=>⟨[_],_,rfl,⟨rfl,rfl⟩,⟨[_],_,rfl,⟨rfl,rfl⟩,⟨rfl,rfl⟩⟩⟩
theorem FP:ah Tryz.prog 45:=ah.of Tryz.func45 (by kernel_rfl) (by kernel_rfl)
theorem Lp:ah Tryz.prog 46:=ah.of Tryz.func46 (by kernel_rfl) (by kernel_rfl)
theorem TS:ah Tryz.prog 18:=ah.of Tryz.func18 (by kernel_rfl) (by kernel_rfl)
theorem TK:ah Tryz.prog 35:=ah.of Tryz.func35 (by kernel_rfl) (by kernel_rfl)
theorem TL:ah Tryz.prog 31:=ah.of Tryz.func31 (by kernel_rfl) (by kernel_rfl)
theorem TJ:ah Tryz.prog 47:=ah.of Tryz.func47 (by kernel_rfl) (by kernel_rfl)
theorem TN:ah Tryz.prog 27:=ah.of Tryz.func27 (by kernel_rfl) (by kernel_rfl)
theorem QJ:ah Tryz.prog 29:=ah.of Tryz.func29 (by kernel_rfl) (by kernel_rfl)
theorem TG:ah Tryz.prog 48:=ah.of Tryz.func48 (by kernel_rfl) (by kernel_rfl)
theorem Oc:ah Tryz.prog 25:=ah.of Tryz.func25 (by kernel_rfl) (by kernel_rfl)
theorem Sv:zf Tryz.prog 75 #[(0,1),(1,1),(2,1)]:=⟨_,Tryz.underlying75,fun _=>by kernel_rfl⟩
theorem RY:∀w,(zeroValue 75).run Tryz.prog w= .ok (.agg #[(.slice none 0 0),(.int .i64 (0)),(.int .u64 (0))]) w:=fun w=>by kernel_rfl
theorem Rf:∀S w,(A.cells S w (.pair (.eq (.slice none 0 0)) (.pair (.eq (.int .i64 (0:Int))) (.eq (.int .u64 (0:Int))))) (Value.cells (.agg #[(.slice none 0 0),(.int .i64 (0)),(.int .u64 (0))])).toList):=fun _ _=>⟨[_],_,rfl,⟨rfl,rfl⟩,⟨[_],_,rfl,⟨rfl,rfl⟩,⟨rfl,rfl⟩⟩⟩
theorem uu:ah Tryz.prog 50:=ah.of Tryz.func50 (by kernel_rfl) (by kernel_rfl)
theorem tL:a8 Tryz.prog 75 2 2:=a8.of (by kernel_rfl)
theorem EO:dR Tryz.prog 73 1 false:=⟨fun w=>by kernel_rfl,fun w=>by kernel_rfl⟩
theorem yK:a8 Tryz.prog 75 1 1:=a8.of (by kernel_rfl)
theorem II:a8 Tryz.prog 75 0 0:=a8.of (by kernel_rfl)
theorem TD:ah Tryz.prog 52:=ah.of Tryz.func52 (by kernel_rfl) (by kernel_rfl)
theorem yN:ah Tryz.prog 15:=ah.of Tryz.func15 (by kernel_rfl) (by kernel_rfl)
theorem Oa:ah Tryz.prog 94:=ah.of Tryz.func94 (by kernel_rfl) (by kernel_rfl)
theorem Qz:ah Tryz.prog 95:=ah.of Tryz.func95 (by kernel_rfl) (by kernel_rfl)
theorem Qy:ah Tryz.prog 96:=ah.of Tryz.func96 (by kernel_rfl) (by kernel_rfl)
theorem OX:∀i z,Tryz.prog.info? 23=some i→i.zero=some z→∀S w,rd S w .val (.slice none 0 0) z.cells.toList:=Bt (t:=.val) (z0:=(.slice none 0 0)) (by kernel_rfl) fun _ _=>⟨rfl,rfl⟩
theorem S9:ah Tryz.prog 97:=ah.of Tryz.func97 (by kernel_rfl) (by kernel_rfl)
theorem S8:ah Tryz.prog 98:=ah.of Tryz.func98 (by kernel_rfl) (by kernel_rfl)
theorem TF:ah Tryz.prog 49:=ah.of Tryz.func49 (by kernel_rfl) (by kernel_rfl)
theorem QR:ah Tryz.prog 16:=ah.of Tryz.func16 (by kernel_rfl) (by kernel_rfl)
theorem QI:ah Tryz.prog 51:=ah.of Tryz.func51 (by kernel_rfl) (by kernel_rfl)
theorem Sj:mt Tryz.prog 35 28 1 24:=.of (z:=(.slice none 0 0)) Tryz.underlying35 (by kernel_rfl) rfl rfl rfl
theorem rK:dR Tryz.prog 28 1 false:=⟨fun w=>by kernel_rfl,fun w=>by kernel_rfl⟩
theorem QO:ah Tryz.prog 17:=ah.of Tryz.func17 (by kernel_rfl) (by kernel_rfl)
theorem Sl:mt Tryz.prog 34 25 3 56:=.of (z:=(.agg #[(.int .i64 (0)),(.slice none 0 0),(.slice none 0 0)])) Tryz.underlying34 (by kernel_rfl) rfl rfl rfl
theorem Dc:ah Tryz.prog 60:=ah.of Tryz.func60 (by kernel_rfl) (by kernel_rfl)
theorem TR:ah Tryz.prog 21:=ah.of Tryz.func21 (by kernel_rfl) (by kernel_rfl)
theorem TA:ah Tryz.prog 65:=ah.of Tryz.func65 (by kernel_rfl) (by kernel_rfl)
theorem Ll:ah Tryz.prog 66:=ah.of Tryz.func66 (by kernel_rfl) (by kernel_rfl)
theorem TP:ah Tryz.prog 23:=ah.of Tryz.func23 (by kernel_rfl) (by kernel_rfl)
theorem QW:ah Tryz.prog 131:=ah.of Tryz.func131 (by kernel_rfl) (by kernel_rfl)
theorem Uw:∀i z,Tryz.prog.info? 3=some i→i.zero=some z→∀S w,rd S w (.int .i64) (0:Int) z.cells.toList:=Bt (z0:=(.int .i64 (0))) (by kernel_rfl) fun _ _=>rfl
theorem Q7:ah Tryz.prog 101:=ah.of Tryz.func101 (by kernel_rfl) (by kernel_rfl)
theorem QG:ah Tryz.prog 59:=ah.of Tryz.func59 (by kernel_rfl) (by kernel_rfl)
theorem QF:ah Tryz.prog 61:=ah.of Tryz.func61 (by kernel_rfl) (by kernel_rfl)
theorem TZ:ah Tryz.prog 10:=ah.of Tryz.func10 (by kernel_rfl) (by kernel_rfl)
theorem TY:ah Tryz.prog 11:=ah.of Tryz.func11 (by kernel_rfl) (by kernel_rfl)
theorem Q0:ah Tryz.prog 12:=ah.of Tryz.func12 (by kernel_rfl) (by kernel_rfl)
theorem TX:ah Tryz.prog 13:=ah.of Tryz.func13 (by kernel_rfl) (by kernel_rfl)
theorem TU:ah Tryz.prog 14:=ah.of Tryz.func14 (by kernel_rfl) (by kernel_rfl)
theorem TO:ah Tryz.prog 26:=ah.of Tryz.func26 (by kernel_rfl) (by kernel_rfl)
theorem Tv:ah Tryz.prog 71:=ah.of Tryz.func71 (by kernel_rfl) (by kernel_rfl)
theorem QB:ah Tryz.prog 81:=ah.of Tryz.func81 (by kernel_rfl) (by kernel_rfl)
theorem TM:ah Tryz.prog 30:=ah.of Tryz.func30 (by kernel_rfl) (by kernel_rfl)
abbrev Rs(t:Ty)(l:(Ty.slice t).den):A:=.rep (.slice t) l
abbrev Pv(b:Nat):Value:=.pointer (some ⟨b,0,none⟩)
abbrev Ui:= @Tryz.underlying100
abbrev Uh:= @Tryz.underlying102
abbrev Ug:= @Tryz.underlying107
abbrev OB:= @Tryz.underlying108
abbrev Uf:= @Tryz.underlying110
abbrev Rt:= @Tryz.underlying132
abbrev Ue:= @Tryz.underlying143
abbrev Ud:= @Tryz.underlying154
abbrev Rr:= @Tryz.underlying155
abbrev Uc:= @Tryz.underlying201
abbrev UE:= @Tryz.underlying21
abbrev mG:= @Tryz.underlying22
abbrev dE:= @Tryz.underlying23
abbrev lE:= @Tryz.underlying28
abbrev U3:= @Tryz.underlying3
abbrev RP:= @Tryz.underlying34
abbrev OA:= @Tryz.underlying35
abbrev U5:= @Tryz.underlying5
abbrev RO:= @Tryz.underlying73
abbrev RN:= @Tryz.underlying84
abbrev RL:= @Tryz.underlying86
abbrev U9:= @Tryz.underlying9
abbrev OT:= @Tryz.underlying97
theorem jr:false=false→1=1:=fun _=>rfl
end Go.Proofs.YtghkncjelangeaaGreatDoor
