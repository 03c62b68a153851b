import Derived.Test.YtddneonghpmidaaGreatDoorSBB6
import Derived.Test.YtddneonghpmidaaGreatDoorProg
set_option linter.unusedVariables false
set_option linter.unusedSimpArgs false
namespace Go.Proofs.YtddneonghpmidaaGreatDoor
open K Go Go.Proofs
theorem cG:Tryz.prog.follows .mixedOrders=true:=by kernel_rfl
theorem sT{n:Nat}:true=false→n=1:=fun h=>nomatch h
def Lt:ByteArray:=⟨#[0,1,2,2,3,3,3,3,4,4,4,4,4,4,4,4,5,5,5,5,5,5,5,5,5,5,5,5,5,5,5,5,6,6,6,6,6,6,6,6,6,6,6,6,6,6,6,6,6,6,6,6,6,6,6,6,6,6,6,6,6,6,6,6,7,7,7,7,7,7,7,7,7,7,7,7,7,7,7,7,7,7,7,7,7,7,7,7,7,7,7,7,7,7,7,7,7,7,7,7,7,7,7,7,7,7,7,7,7,7,7,7,7,7,7,7,7,7,7,7,7,7,7,7,7,7,7,7,8,8,8,8,8,8,8,8,8,8,8,8,8,8,8,8,8,8,8,8,8,8,8,8,8,8,8,8,8,8,8,8,8,8,8,8,8,8,8,8,8,8,8,8,8,8,8,8,8,8,8,8,8,8,8,8,8,8,8,8,8,8,8,8,8,8,8,8,8,8,8,8,8,8,8,8,8,8,8,8,8,8,8,8,8,8,8,8,8,8,8,8,8,8,8,8,8,8,8,8,8,8,8,8,8,8,8,8,8,8,8,8,8,8,8,8,8,8,8,8,8,8,8,8,8,8,8,8]⟩
@[reducible] def aK:Ty:=.agg (.pair (.int .i64) (.slice (.int .i64)))
abbrev gq:=(Int×(List Int))
@[reducible] def an:Ty:=.agg (.pair (.int .i64) (.pair (.slice aK) (.slice (.int .i64))))
abbrev aQ:=(Int×((List gq)×(List Int)))
@[reducible] def U7:Ty:=.agg (.pair (.slice (.int .i64)) (.pair (.int .i64) (.int .u64)))
abbrev bW:=((List Int)×(Int×Int))
@[reducible] def bH:Ty:=.agg (.pair an .ign)
abbrev dr:=(aQ×Unit)
@[reducible] def Vn:Ty:=.agg (.pair (.ptr bH) (.slice (.slice (.int .i64))))
@[reducible] def PY:Ty:=.agg (.pair (.int .i64) (.int .i64))
@[reducible] def Tj:Ty:=.agg (.int .i64)
@[reducible] def Ho:Ty:=.agg (.pair (.int .i64) (.lst (.int .i64)))
@[reducible] def Tm:Ty:=.agg (.pair .val (.pair .val (.int .u64)))
theorem cg:aZ Tryz.prog 25 1 1:=aZ.of (by kernel_rfl)
theorem fR:dM Tryz.prog 22 1 false:=⟨fun w=>by kernel_rfl,fun w=>by kernel_rfl⟩
theorem cH:aZ Tryz.prog 25 2 2:=aZ.of (by kernel_rfl)
theorem bN:dM Tryz.prog 23 1 false:=⟨fun w=>by kernel_rfl,fun w=>by kernel_rfl⟩
theorem ju:dM Tryz.prog 27 2 true:=⟨fun w=>by kernel_rfl,fun w=>by kernel_rfl⟩
theorem kN:aZ Tryz.prog 27 1 1:=aZ.of (by kernel_rfl)
theorem cC:dM Tryz.prog 3 1 false:=⟨fun w=>by kernel_rfl,fun w=>by kernel_rfl⟩
theorem Gz:ae Tryz.prog 11:=ae.of Tryz.func11 (by kernel_rfl) (by kernel_rfl)
theorem rF:∀w,(zeroValue 70).run Tryz.prog w= .ok (.agg #[(.int .i64 (0)),(.int .i64 (0)),(.int .i64 (0)),(.int .i64 (0)),(.int .i64 (0)),(.int .i64 (0)),(.int .i64 (0)),(.int .i64 (0)),(.int .i64 (0)),(.int .i64 (0)),(.int .i64 (0)),(.int .i64 (0)),(.int .i64 (0)),(.int .i64 (0)),(.int .i64 (0))]) w:=fun w=>by kernel_rfl
theorem sd:∀S w,(A.cells S w (.rep (.arr 3 (.arr 5 (.int .i64))) [[(0:Int),(0:Int),(0:Int),(0:Int),(0:Int)],[(0:Int),(0:Int),(0:Int),(0:Int),(0:Int)],[(0:Int),(0:Int),(0:Int),(0:Int),(0:Int)]]) (Value.cells (.agg #[(.int .i64 (0)),(.int .i64 (0)),(.int .i64 (0)),(.int .i64 (0)),(.int .i64 (0)),(.int .i64 (0)),(.int .i64 (0)),(.int .i64 (0)),(.int .i64 (0)),(.int .i64 (0)),(.int .i64 (0)),(.int .i64 (0)),(.int .i64 (0)),(.int .i64 (0)),(.int .i64 (0))])).toList):=fun _ _=>⟨rfl,⟨[_,_,_,_,_],_,rfl,⟨rfl,⟨[_],_,rfl,rfl,⟨[_],_,rfl,rfl,⟨[_],_,rfl,rfl,⟨[_],_,rfl,rfl,⟨[_],_,rfl,rfl,rfl⟩⟩⟩⟩⟩⟩,⟨[_,_,_,_,_],_,rfl,⟨rfl,⟨[_],_,rfl,rfl,⟨[_],_,rfl,rfl,⟨[_],_,rfl,rfl,⟨[_],_,rfl,rfl,⟨[_],_,rfl,rfl,rfl⟩⟩⟩⟩⟩⟩,⟨[_,_,_,_,_],_,rfl,⟨rfl,⟨[_],_,rfl,rfl,⟨[_],_,rfl,rfl,⟨[_],_,rfl,rfl,⟨[_],_,rfl,rfl,⟨[_],_,rfl,rfl,rfl⟩⟩⟩⟩⟩⟩,rfl⟩⟩⟩⟩
theorem Am:dM Tryz.prog 68 5 true:=⟨fun w=>by kernel_rfl,fun w=>by kernel_rfl⟩
theorem ft:dM Tryz.prog 70 15 true:=⟨fun w=>by kernel_rfl,fun w=>by kernel_rfl⟩
theorem de:mJ Tryz.prog 23 3 1 8:=.of (z:=(.int .i64 (0))) Tryz.underlying23 (by kernel_rfl) rfl rfl rfl
theorem km:aZ Tryz.prog 129 0 0:=aZ.of (by kernel_rfl)
theorem lD:mJ Tryz.prog 37 23 1 24:=.of (z:=(.slice none 0 0)) Tryz.underlying37 (by kernel_rfl) rfl rfl rfl
theorem Td:∀i z,Tryz.prog.info? 23=some i→i.zero=some z→∀S w,rd S w (.slice (.int .i64)) [] z.cells.toList:=Cf (z0:=(.slice none 0 0)) (by kernel_rfl) fun _ _=>.inl ⟨_,_,rfl,rfl⟩
theorem Mc:ae Tryz.prog 55:=ae.of Tryz.func55 (by kernel_rfl) (by kernel_rfl)
theorem kO:aZ Tryz.prog 27 0 0:=aZ.of (by kernel_rfl)
theorem Bq:ae Tryz.prog 39:=ae.of Tryz.func39 (by kernel_rfl) (by kernel_rfl)
theorem gR:aZ Tryz.prog 25 0 0:=aZ.of (by kernel_rfl)
theorem vx:∀w,(zeroValue 27).run Tryz.prog w= .ok (.agg #[(.int .i64 (0)),(.slice none 0 0)]) w:=fun w=>by kernel_rfl
theorem MU:∀S w,(A.cells S w (.agg (.pair (.eq (.int .i64 (0:Int))) (.eq (.slice none 0 0)))) (Value.cells (.agg #[(.int .i64 (0)),(.slice none 0 0)])).toList):=fun _ _=>⟨[_],_,rfl,⟨rfl,rfl⟩,⟨rfl,rfl⟩⟩
theorem du:dM Tryz.prog 25 3 true:=⟨fun w=>by kernel_rfl,fun w=>by kernel_rfl⟩
theorem Us:ae Tryz.prog 65:=ae.of Tryz.func65 (by kernel_rfl) (by kernel_rfl)
theorem xK:zO Tryz.prog 139 #[(0,1)]:=⟨_,Tryz.underlying139,fun _=>by kernel_rfl⟩
theorem vy:∀w,(zeroValue 139).run Tryz.prog w= .ok (.agg #[(.int .i64 (0))]) w:=fun w=>by kernel_rfl
theorem ux:∀S w,(A.cells S w (.eq (.int .i64 (0:Int))) (Value.cells (.agg #[(.int .i64 (0))])).toList):=fun _ _=>⟨rfl,rfl⟩
theorem Me:ae Tryz.prog 41:=ae.of Tryz.func41 (by kernel_rfl) (by kernel_rfl)
theorem L9:ae Tryz.prog 69:=ae.of Tryz.func69 (by kernel_rfl) (by kernel_rfl)
theorem Ry:ae Tryz.prog 68:=ae.of Tryz.func68 (by kernel_rfl) (by kernel_rfl)
theorem O6:ae Tryz.prog 27:=ae.of Tryz.func27 (by kernel_rfl) (by kernel_rfl)
theorem Su:∀S w,(A.cells S w (.agg (.eq (.int .i64 (0:Int)))) (Value.cells (.agg #[(.int .i64 (0))])).toList):=fun _ _=>⟨rfl,rfl⟩
theorem Uo:ae Tryz.prog 75:=ae.of Tryz.func75 (by kernel_rfl) (by kernel_rfl)
theorem Rx:ae Tryz.prog 74:=ae.of Tryz.func74 (by kernel_rfl) (by kernel_rfl)
theorem LX:aZ Tryz.prog 139 0 0:=aZ.of (by kernel_rfl)
theorem To:dM Tryz.prog 38 1 false:=⟨fun w=>by kernel_rfl,fun w=>by kernel_rfl⟩
theorem P7:∀w,(zeroValue 182).run Tryz.prog w= .ok (.pointer none) w:=fun w=>by kernel_rfl
theorem Sl:∀S w,(A.cells S w (.eq (.pointer none)) (Value.cells (.pointer none)).toList):=fun _ _=>⟨rfl,rfl⟩
theorem RQ:ae Tryz.prog 134:=ae.of Tryz.func134 (by kernel_rfl) (by kernel_rfl)
theorem An:dM Tryz.prog 182 1 false:=⟨fun w=>by kernel_rfl,fun w=>by kernel_rfl⟩
theorem Qx:zO Tryz.prog 185 #[(0,1),(1,1)]:=⟨_,Tryz.underlying185,fun _=>by kernel_rfl⟩
theorem P6:∀w,(zeroValue 185).run Tryz.prog w= .ok (.agg #[(.int .i64 (0)),(.pointer none)]) w:=fun w=>by kernel_rfl
theorem PC:∀S w,(A.cells S w (.pair (.eq (.int .i64 (0:Int))) (.eq (.pointer none))) (Value.cells (.agg #[(.int .i64 (0)),(.pointer none)])).toList):=fun _ _=>⟨[_],_,rfl,⟨rfl,rfl⟩,⟨rfl,rfl⟩⟩
theorem RJ:ae Tryz.prog 153:=ae.of Tryz.func153 (by kernel_rfl) (by kernel_rfl)
theorem RY:ae Tryz.prog 102:=ae.of Tryz.func102 (by kernel_rfl) (by kernel_rfl)
theorem vt:aZ Tryz.prog 185 0 0:=aZ.of (by kernel_rfl)
theorem EP:aZ Tryz.prog 185 1 1:=aZ.of (by kernel_rfl)
theorem RP:ae Tryz.prog 135:=ae.of Tryz.func135 (by kernel_rfl) (by kernel_rfl)
theorem RX:ae Tryz.prog 103:=ae.of Tryz.func103 (by kernel_rfl) (by kernel_rfl)
theorem Um:ae Tryz.prog 77:=ae.of Tryz.func77 (by kernel_rfl) (by kernel_rfl)
theorem Un:ae Tryz.prog 76:=ae.of Tryz.func76 (by kernel_rfl) (by kernel_rfl)
theorem D3:ae Tryz.prog 30:=ae.of Tryz.func30 (by kernel_rfl) (by kernel_rfl)
theorem O4:ae Tryz.prog 38:=ae.of Tryz.func38 (by kernel_rfl) (by kernel_rfl)
theorem Js:ae Tryz.prog 28:=ae.of Tryz.func28 (by kernel_rfl) (by kernel_rfl)
theorem RF:ae Tryz.prog 40:=ae.of Tryz.func40 (by kernel_rfl) (by kernel_rfl)
theorem MA:ae Tryz.prog 33:=ae.of Tryz.func33 (by kernel_rfl) (by kernel_rfl)
theorem lJ:∀w,(zeroValue 25).run Tryz.prog w= .ok (.agg #[(.int .i64 (0)),(.slice none 0 0),(.slice none 0 0)]) w:=fun w=>by kernel_rfl
theorem og:∀S w,(A.cells S w (.agg (.pair (.eq (.int .i64 (0:Int))) (.pair (.eq (.slice none 0 0)) (.eq (.slice none 0 0))))) (Value.cells (.agg #[(.int .i64 (0)),(.slice none 0 0),(.slice none 0 0)])).toList):=fun _ _=>⟨[_],_,rfl,⟨rfl,rfl⟩,⟨[_],_,rfl,⟨rfl,rfl⟩,⟨rfl,rfl⟩⟩⟩
theorem Dc:zO Tryz.prog 27 #[(0,1),(1,1)]:=⟨_,Tryz.underlying27,fun _=>by kernel_rfl⟩
theorem wP:∀S w,(A.cells S w (.pair (.eq (.int .i64 (0:Int))) (.eq (.slice none 0 0))) (Value.cells (.agg #[(.int .i64 (0)),(.slice none 0 0)])).toList):=fun _ _=>⟨[_],_,rfl,⟨rfl,rfl⟩,⟨rfl,rfl⟩⟩
theorem CV:mJ Tryz.prog 22 27 2 32:=.of (z:=(.agg #[(.int .i64 (0)),(.slice none 0 0)])) Tryz.underlying22 (by kernel_rfl) rfl rfl rfl
theorem K0:zO Tryz.prog 25 #[(0,1),(1,1),(2,1)]:=⟨_,Tryz.underlying25,fun _=>by kernel_rfl⟩
theorem EX:∀S w,(A.cells S w (.pair (.eq (.int .i64 (0:Int))) (.pair (.eq (.slice none 0 0)) (.eq (.slice none 0 0)))) (Value.cells (.agg #[(.int .i64 (0)),(.slice none 0 0),(.slice none 0 0)])).toList):=fun _ _=>⟨[_],_,rfl,⟨rfl,rfl⟩,⟨[_],_,rfl,⟨rfl,rfl⟩,⟨rfl,rfl⟩⟩⟩
theorem EQ:aZ Tryz.prog 129 1 3:=aZ.of (by kernel_rfl)
theorem NA:dM Tryz.prog 127 1 false:=⟨fun w=>by kernel_rfl,fun w=>by kernel_rfl⟩
theorem RE:ae Tryz.prog 50:=ae.of Tryz.func50 (by kernel_rfl) (by kernel_rfl)
theorem O5:ae Tryz.prog 32:=ae.of Tryz.func32 (by kernel_rfl) (by kernel_rfl)
theorem tP:dM Tryz.prog 66 1 false:=⟨fun w=>by kernel_rfl,fun w=>by kernel_rfl⟩
theorem Qu:dM Tryz.prog 130 1 false:=⟨fun w=>by kernel_rfl,fun w=>by kernel_rfl⟩
theorem Em:dM Tryz.prog 131 1 false:=⟨fun w=>by kernel_rfl,fun w=>by kernel_rfl⟩
theorem O2:ae Tryz.prog 67:=ae.of Tryz.func67 (by kernel_rfl) (by kernel_rfl)
theorem Qc:∀w,(zeroValue 131).run Tryz.prog w= .ok .nilFunc w:=fun w=>by kernel_rfl
theorem Sv:∀S w,(A.cells S w (.eq .nilFunc) (Value.cells .nilFunc).toList):=fun _ _=>⟨rfl,rfl⟩
theorem N4:dM Tryz.prog 89 1 false:=⟨fun w=>by kernel_rfl,fun w=>by kernel_rfl⟩
theorem Qv:mJ Tryz.prog 89 70 15 120:=.of (z:=(.agg #[(.int .i64 (0)),(.int .i64 (0)),(.int .i64 (0)),(.int .i64 (0)),(.int .i64 (0)),(.int .i64 (0)),(.int .i64 (0)),(.int .i64 (0)),(.int .i64 (0)),(.int .i64 (0)),(.int .i64 (0)),(.int .i64 (0)),(.int .i64 (0)),(.int .i64 (0)),(.int .i64 (0))])) Tryz.underlying89 (by kernel_rfl) rfl rfl rfl
theorem Rz:ae Tryz.prog 66:=ae.of Tryz.func66 (by kernel_rfl) (by kernel_rfl)
theorem Ul:ae Tryz.prog 78:=ae.of Tryz.func78 (by kernel_rfl) (by kernel_rfl)
theorem RH:ae Tryz.prog 29:=ae.of Tryz.func29 (by kernel_rfl) (by kernel_rfl)
theorem UC:ae Tryz.prog 43:=ae.of Tryz.func43 (by kernel_rfl) (by kernel_rfl)
theorem UD:ae Tryz.prog 42:=ae.of Tryz.func42 (by kernel_rfl) (by kernel_rfl)
theorem Uz:ae Tryz.prog 49:=ae.of Tryz.func49 (by kernel_rfl) (by kernel_rfl)
theorem Uk:ae Tryz.prog 86:=ae.of Tryz.func86 (by kernel_rfl) (by kernel_rfl)
theorem Vk:∀w,(zeroValue 3).run Tryz.prog w= .ok (.int .i64 0) w:=fun w=>by kernel_rfl
theorem UB:ae Tryz.prog 44:=ae.of Tryz.func44 (by kernel_rfl) (by kernel_rfl)
theorem RD:ae Tryz.prog 52:=ae.of Tryz.func52 (by kernel_rfl) (by kernel_rfl)
theorem Uh:ae Tryz.prog 89:=ae.of Tryz.func89 (by kernel_rfl) (by kernel_rfl)
theorem RV:ae Tryz.prog 124:=ae.of Tryz.func124 (by kernel_rfl) (by kernel_rfl)
theorem L6:ae Tryz.prog 95:=ae.of Tryz.func95 (by kernel_rfl) (by kernel_rfl)
theorem RN:ae Tryz.prog 147:=ae.of Tryz.func147 (by kernel_rfl) (by kernel_rfl)
theorem RL:ae Tryz.prog 151:=ae.of Tryz.func151 (by kernel_rfl) (by kernel_rfl)
theorem RO:ae Tryz.prog 141:=ae.of Tryz.func141 (by kernel_rfl) (by kernel_rfl)
theorem RS:ae Tryz.prog 126:=ae.of Tryz.func126 (by kernel_rfl) (by kernel_rfl)
theorem RU:ae Tryz.prog 125:=ae.of Tryz.func125 (by kernel_rfl) (by kernel_rfl)
theorem Uj:ae Tryz.prog 87:=ae.of Tryz.func87 (by kernel_rfl) (by kernel_rfl)
theorem Ui:ae Tryz.prog 88:=ae.of Tryz.func88 (by kernel_rfl) (by kernel_rfl)
theorem P5:∀w,(zeroValue 66).run Tryz.prog w= .ok (.pointer none) w:=fun w=>by kernel_rfl
theorem Sj:∀S w,(A.cells S w (.eq (.pointer none)) (Value.cells (.pointer none)).toList):=fun _ _=>⟨rfl,rfl⟩
theorem UA:ae Tryz.prog 48:=ae.of Tryz.func48 (by kernel_rfl) (by kernel_rfl)
theorem Uw:ae Tryz.prog 54:=ae.of Tryz.func54 (by kernel_rfl) (by kernel_rfl)
theorem Ux:ae Tryz.prog 53:=ae.of Tryz.func53 (by kernel_rfl) (by kernel_rfl)
theorem Uy:ae Tryz.prog 51:=ae.of Tryz.func51 (by kernel_rfl) (by kernel_rfl)
theorem Gy:ae Tryz.prog 15:=ae.of Tryz.func15 (by kernel_rfl) (by kernel_rfl)
theorem MB:ae Tryz.prog 16:=ae.of Tryz.func16 (by kernel_rfl) (by kernel_rfl)
theorem UQ:ae Tryz.prog 14:=ae.of Tryz.func14 (by kernel_rfl) (by kernel_rfl)
theorem UP:ae Tryz.prog 17:=ae.of Tryz.func17 (by kernel_rfl) (by kernel_rfl)
theorem UO:ae Tryz.prog 18:=ae.of Tryz.func18 (by kernel_rfl) (by kernel_rfl)
theorem UM:ae Tryz.prog 20:=ae.of Tryz.func20 (by kernel_rfl) (by kernel_rfl)
theorem UN:ae Tryz.prog 19:=ae.of Tryz.func19 (by kernel_rfl) (by kernel_rfl)
theorem UL:ae Tryz.prog 21:=ae.of Tryz.func21 (by kernel_rfl) (by kernel_rfl)
theorem UK:ae Tryz.prog 22:=ae.of Tryz.func22 (by kernel_rfl) (by kernel_rfl)
theorem O7:ae Tryz.prog 12:=ae.of Tryz.func12 (by kernel_rfl) (by kernel_rfl)
theorem zx:ae Tryz.prog 24:=ae.of Tryz.func24 (by kernel_rfl) (by kernel_rfl)
theorem uk:aZ Tryz.prog 64 2 2:=aZ.of (by kernel_rfl)
theorem FA:dM Tryz.prog 62 1 false:=⟨fun w=>by kernel_rfl,fun w=>by kernel_rfl⟩
theorem zq:aZ Tryz.prog 64 1 1:=aZ.of (by kernel_rfl)
theorem Jf:aZ Tryz.prog 64 0 0:=aZ.of (by kernel_rfl)
theorem Ug:ae Tryz.prog 94:=ae.of Tryz.func94 (by kernel_rfl) (by kernel_rfl)
theorem Jr:ae Tryz.prog 63:=ae.of Tryz.func63 (by kernel_rfl) (by kernel_rfl)
theorem O3:ae Tryz.prog 59:=ae.of Tryz.func59 (by kernel_rfl) (by kernel_rfl)
theorem RB:ae Tryz.prog 60:=ae.of Tryz.func60 (by kernel_rfl) (by kernel_rfl)
theorem RA:ae Tryz.prog 61:=ae.of Tryz.func61 (by kernel_rfl) (by kernel_rfl)
theorem P4:∀i z,Tryz.prog.info? 23=some i→i.zero=some z→∀S w,rd S w .val (.slice none 0 0) z.cells.toList:=Cf (t:=.val) (z0:=(.slice none 0 0)) (by kernel_rfl) fun _ _=>⟨rfl,rfl⟩
theorem Uu:ae Tryz.prog 62:=ae.of Tryz.func62 (by kernel_rfl) (by kernel_rfl)
theorem Ut:ae Tryz.prog 64:=ae.of Tryz.func64 (by kernel_rfl) (by kernel_rfl)
theorem UJ:ae Tryz.prog 23:=ae.of Tryz.func23 (by kernel_rfl) (by kernel_rfl)
theorem Vd:ae Tryz.prog 8:=ae.of Tryz.func8 (by kernel_rfl) (by kernel_rfl)
theorem RI:ae Tryz.prog 25:=ae.of Tryz.func25 (by kernel_rfl) (by kernel_rfl)
theorem Hz:mJ Tryz.prog 31 37 1 24:=.of (z:=(.slice none 0 0)) Tryz.underlying31 (by kernel_rfl) rfl rfl rfl
theorem uW:dM Tryz.prog 37 1 false:=⟨fun w=>by kernel_rfl,fun w=>by kernel_rfl⟩
theorem UI:ae Tryz.prog 26:=ae.of Tryz.func26 (by kernel_rfl) (by kernel_rfl)
theorem Tv:mJ Tryz.prog 30 25 3 56:=.of (z:=(.agg #[(.int .i64 (0)),(.slice none 0 0),(.slice none 0 0)])) Tryz.underlying30 (by kernel_rfl) rfl rfl rfl
theorem TC:zO Tryz.prog 64 #[(0,1),(1,1),(2,1)]:=⟨_,Tryz.underlying64,fun _=>by kernel_rfl⟩
theorem Tf:∀w,(zeroValue 64).run Tryz.prog w= .ok (.agg #[(.slice none 0 0),(.int .i64 (0)),(.int .u64 (0))]) w:=fun w=>by kernel_rfl
theorem Si:∀S w,(A.cells S w (.pair (.eq (.slice none 0 0)) (.pair (.eq (.int .i64 (0:Int))) (.eq (.int .u64 (0:Int))))) (Value.cells (.agg #[(.slice none 0 0),(.int .i64 (0)),(.int .u64 (0))])).toList):=fun _ _=>⟨[_],_,rfl,⟨rfl,rfl⟩,⟨[_],_,rfl,⟨rfl,rfl⟩,⟨rfl,rfl⟩⟩⟩
theorem Ur:ae Tryz.prog 70:=ae.of Tryz.func70 (by kernel_rfl) (by kernel_rfl)
theorem Ti:∀w,(zeroValue 23).run Tryz.prog w= .ok (.slice none 0 0) w:=fun w=>by kernel_rfl
theorem UV:∀S w,(A.cells S w (.eq (.slice none 0 0)) (Value.cells (.slice none 0 0)).toList):=fun _ _=>⟨rfl,rfl⟩
theorem Vm:∀w,(zeroValue 4).run Tryz.prog w= .ok (.bool false) w:=fun w=>by kernel_rfl
theorem Vx:∀S w,(A.cells S w (.eq (.bool false)) (Value.cells (.bool false)).toList):=fun _ _=>⟨rfl,rfl⟩
theorem SQ:dM Tryz.prog 4 1 false:=⟨fun w=>by kernel_rfl,fun w=>by kernel_rfl⟩
theorem UH:ae Tryz.prog 31:=ae.of Tryz.func31 (by kernel_rfl) (by kernel_rfl)
theorem L8:ae Tryz.prog 71:=ae.of Tryz.func71 (by kernel_rfl) (by kernel_rfl)
theorem RG:ae Tryz.prog 35:=ae.of Tryz.func35 (by kernel_rfl) (by kernel_rfl)
theorem O1:ae Tryz.prog 72:=ae.of Tryz.func72 (by kernel_rfl) (by kernel_rfl)
theorem O0:ae Tryz.prog 96:=ae.of Tryz.func96 (by kernel_rfl) (by kernel_rfl)
theorem RR:ae Tryz.prog 130:=ae.of Tryz.func130 (by kernel_rfl) (by kernel_rfl)
theorem Vl:∀i z,Tryz.prog.info? 3=some i→i.zero=some z→∀S w,rd S w (.int .i64) (0:Int) z.cells.toList:=Cf (z0:=(.int .i64 (0))) (by kernel_rfl) fun _ _=>rfl
theorem Uf:ae Tryz.prog 97:=ae.of Tryz.func97 (by kernel_rfl) (by kernel_rfl)
theorem Up:ae Tryz.prog 73:=ae.of Tryz.func73 (by kernel_rfl) (by kernel_rfl)
theorem UG:ae Tryz.prog 34:=ae.of Tryz.func34 (by kernel_rfl) (by kernel_rfl)
theorem UF:ae Tryz.prog 36:=ae.of Tryz.func36 (by kernel_rfl) (by kernel_rfl)
theorem UE:ae Tryz.prog 37:=ae.of Tryz.func37 (by kernel_rfl) (by kernel_rfl)
theorem Vf:ae Tryz.prog 4:=ae.of Tryz.func4 (by kernel_rfl) (by kernel_rfl)
theorem Ve:ae Tryz.prog 5:=ae.of Tryz.func5 (by kernel_rfl) (by kernel_rfl)
theorem SV:ae Tryz.prog 7:=ae.of Tryz.func7 (by kernel_rfl) (by kernel_rfl)
theorem Vv:ae Tryz.prog 6:=ae.of Tryz.func6 (by kernel_rfl) (by kernel_rfl)
theorem Vu:ae Tryz.prog 9:=ae.of Tryz.func9 (by kernel_rfl) (by kernel_rfl)
theorem US:ae Tryz.prog 10:=ae.of Tryz.func10 (by kernel_rfl) (by kernel_rfl)
theorem UR:ae Tryz.prog 13:=ae.of Tryz.func13 (by kernel_rfl) (by kernel_rfl)
abbrev Rs(t:Ty)(l:(Ty.slice t).den):A:=.rep (.slice t) l
abbrev Pv(b:Nat):Value:=.pointer (some ⟨b,0,none⟩)
abbrev U1:= @Tryz.underlying112
abbrev U0:= @Tryz.underlying118
abbrev SD:= @Tryz.underlying127
abbrev GM:= @Tryz.underlying139
abbrev UZ:= @Tryz.underlying142
abbrev UY:= @Tryz.underlying182
abbrev UX:= @Tryz.underlying192
abbrev VA:= @Tryz.underlying21
abbrev nD:= @Tryz.underlying22
abbrev dB:= @Tryz.underlying23
abbrev U3:= @Tryz.underlying3
abbrev SC:= @Tryz.underlying30
abbrev PI:= @Tryz.underlying31
abbrev oh:= @Tryz.underlying37
abbrev U5:= @Tryz.underlying5
abbrev S7:= @Tryz.underlying62
abbrev S5:= @Tryz.underlying68
abbrev P1:= @Tryz.underlying70
abbrev Vi:= @Tryz.underlying89
abbrev U9:= @Tryz.underlying9
abbrev Vz:= @Tryz.underlying93
abbrev UW:= @Tryz.underlying94
abbrev Vy:= @Tryz.underlying96
theorem jw:false=false→1=1:=fun _=>rfl
