import Derived.Test.YtcnpijmfgfnpiaaGreatDoorUB5
import Derived.Test.YtcnpijmfgfnpiaaGreatDoorUCore43
import Derived.Test.YtcnpijmfgfnpiaaGreatDoorProg
set_option linter.unusedVariables false
set_option linter.unusedSimpArgs false
namespace Go.Proofs.YtcnpijmfgfnpiaaGreatDoor
open K Go Go.Proofs
theorem eU:Tryz.prog.follows .mixedOrders=true:=by kernel_rfl
theorem zK{n:Nat}:true=false→n=1:=fun h=>nomatch h
def IM:ByteArray:=⟨#[0,1,2,2,3,3,3,3,4,4,4,4,4,4,4,4,5,5,5,5,5,5,5,5,5,5,5,5,5,5,5,5,6,6,6,6,6,6,6,6,6,6,6,6,6,6,6,6,6,6,6,6,6,6,6,6,6,6,6,6,6,6,6,6,7,7,7,7,7,7,7,7,7,7,7,7,7,7,7,7,7,7,7,7,7,7,7,7,7,7,7,7,7,7,7,7,7,7,7,7,7,7,7,7,7,7,7,7,7,7,7,7,7,7,7,7,7,7,7,7,7,7,7,7,7,7,7,7,8,8,8,8,8,8,8,8,8,8,8,8,8,8,8,8,8,8,8,8,8,8,8,8,8,8,8,8,8,8,8,8,8,8,8,8,8,8,8,8,8,8,8,8,8,8,8,8,8,8,8,8,8,8,8,8,8,8,8,8,8,8,8,8,8,8,8,8,8,8,8,8,8,8,8,8,8,8,8,8,8,8,8,8,8,8,8,8,8,8,8,8,8,8,8,8,8,8,8,8,8,8,8,8,8,8,8,8,8,8,8,8,8,8,8,8,8,8,8,8,8,8,8,8,8,8,8,8]⟩
@[reducible] def c9:Ty:=.agg (.pair (.int .i64) (.slice (.int .i64)))
abbrev lQ:=(Int×(List Int))
@[reducible] def aI:Ty:=.agg (.pair (.int .i64) (.pair (.slice c9) (.slice (.int .i64))))
abbrev bR:=(Int×((List lQ)×(List Int)))
@[reducible] def Q8:Ty:=.agg (.pair (.slice (.int .i64)) (.pair (.int .i64) (.int .u64)))
abbrev cJ:=((List Int)×(Int×Int))
@[reducible] def Qc:Ty:=.agg (.int .i64)
@[reducible] def bj:Ty:=.agg (.pair aI .ign)
abbrev cR:=(bR×Unit)
@[reducible] def Rn:Ty:=.agg (.pair (.ptr bj) (.slice (.slice (.int .i64))))
@[reducible] def M5:Ty:=.agg (.pair (.int .i64) (.int .i64))
@[reducible] def EI:Ty:=.agg (.pair (.int .i64) (.lst (.int .i64)))
@[reducible] def Qd:Ty:=.agg (.pair .val (.pair .val (.int .u64)))
theorem i7:aP Tryz.prog 25 1 1:=aP.of (by kernel_rfl)
theorem qE:dx Tryz.prog 22 1 false:=⟨fun w=>by kernel_rfl,fun w=>by kernel_rfl⟩
theorem iZ:aP Tryz.prog 25 2 2:=aP.of (by kernel_rfl)
theorem cp:dx Tryz.prog 23 1 false:=⟨fun w=>by kernel_rfl,fun w=>by kernel_rfl⟩
theorem rP:dx Tryz.prog 27 2 true:=⟨fun w=>by kernel_rfl,fun w=>by kernel_rfl⟩
theorem ut:aP Tryz.prog 27 1 1:=aP.of (by kernel_rfl)
theorem xh:aP Tryz.prog 27 0 0:=aP.of (by kernel_rfl)
theorem dw:dx Tryz.prog 3 1 false:=⟨fun w=>by kernel_rfl,fun w=>by kernel_rfl⟩
theorem zb:ag Tryz.prog 83:=ag.of Tryz.func83 (by kernel_rfl) (by kernel_rfl)
theorem qf:aP Tryz.prog 25 0 0:=aP.of (by kernel_rfl)
theorem wl:∀w,(zeroValue 27).run Tryz.prog w= .ok (.agg #[(.int .i64 (0)),(.slice none 0 0)]) w:=fun w=>by kernel_rfl
theorem Jx:∀S w,(A.cells S w (.agg (.pair (.eq (.int .i64 (0:Int))) (.eq (.slice none 0 0)))) (Value.cells (.agg #[(.int .i64 (0)),(.slice none 0 0)])).toList):=fun _ _=>⟨[_],_,rfl,⟨rfl,rfl⟩,⟨rfl,rfl⟩⟩
theorem jk:dx Tryz.prog 25 3 true:=⟨fun w=>by kernel_rfl,fun w=>by kernel_rfl⟩
theorem QH:ag Tryz.prog 92:=ag.of Tryz.func92 (by kernel_rfl) (by kernel_rfl)
theorem vu:xF Tryz.prog 118 #[(0,1)]:=⟨_,Tryz.underlying118,fun _=>by kernel_rfl⟩
theorem tA:∀w,(zeroValue 118).run Tryz.prog w= .ok (.agg #[(.int .i64 (0))]) w:=fun w=>by kernel_rfl
theorem sG:∀S w,(A.cells S w (.eq (.int .i64 (0:Int))) (Value.cells (.agg #[(.int .i64 (0))])).toList):=fun _ _=>⟨rfl,rfl⟩
theorem Je:ag Tryz.prog 87:=ag.of Tryz.func87 (by kernel_rfl) (by kernel_rfl)
theorem BS:ag Tryz.prog 134:=ag.of Tryz.func134 (by kernel_rfl) (by kernel_rfl)
theorem KD:ag Tryz.prog 135:=ag.of Tryz.func135 (by kernel_rfl) (by kernel_rfl)
theorem OQ:ag Tryz.prog 33:=ag.of Tryz.func33 (by kernel_rfl) (by kernel_rfl)
theorem PM:∀S w,(A.cells S w (.agg (.eq (.int .i64 (0:Int)))) (Value.cells (.agg #[(.int .i64 (0))])).toList):=fun _ _=>⟨rfl,rfl⟩
theorem QF:ag Tryz.prog 94:=ag.of Tryz.func94 (by kernel_rfl) (by kernel_rfl)
theorem I9:aP Tryz.prog 118 0 0:=aP.of (by kernel_rfl)
theorem Qf:dx Tryz.prog 41 1 false:=⟨fun w=>by kernel_rfl,fun w=>by kernel_rfl⟩
theorem lx:∀w,(zeroValue 107).run Tryz.prog w= .ok (.agg #[(.int .i64 (0)),(.int .i64 (0)),(.int .i64 (0)),(.int .i64 (0)),(.int .i64 (0)),(.int .i64 (0)),(.int .i64 (0)),(.int .i64 (0)),(.int .i64 (0)),(.int .i64 (0)),(.int .i64 (0)),(.int .i64 (0)),(.int .i64 (0)),(.int .i64 (0)),(.int .i64 (0))]) w:=fun w=>by kernel_rfl
theorem lS:∀S w,(A.cells S w (.rep (.arr 3 (.arr 5 (.int .i64))) [[(0:Int),(0:Int),(0:Int),(0:Int),(0:Int)],[(0:Int),(0:Int),(0:Int),(0:Int),(0:Int)],[(0:Int),(0:Int),(0:Int),(0:Int),(0:Int)]]) (Value.cells (.agg #[(.int .i64 (0)),(.int .i64 (0)),(.int .i64 (0)),(.int .i64 (0)),(.int .i64 (0)),(.int .i64 (0)),(.int .i64 (0)),(.int .i64 (0)),(.int .i64 (0)),(.int .i64 (0)),(.int .i64 (0)),(.int .i64 (0)),(.int .i64 (0)),(.int .i64 (0)),(.int .i64 (0))])).toList):=fun _ _=>⟨rfl,⟨[_,_,_,_,_],_,rfl,⟨rfl,⟨[_],_,rfl,rfl,⟨[_],_,rfl,rfl,⟨[_],_,rfl,rfl,⟨[_],_,rfl,rfl,⟨[_],_,rfl,rfl,rfl⟩⟩⟩⟩⟩⟩,⟨[_,_,_,_,_],_,rfl,⟨rfl,⟨[_],_,rfl,rfl,⟨[_],_,rfl,rfl,⟨[_],_,rfl,rfl,⟨[_],_,rfl,rfl,⟨[_],_,rfl,rfl,rfl⟩⟩⟩⟩⟩⟩,⟨[_,_,_,_,_],_,rfl,⟨rfl,⟨[_],_,rfl,rfl,⟨[_],_,rfl,rfl,⟨[_],_,rfl,rfl,⟨[_],_,rfl,rfl,⟨[_],_,rfl,rfl,rfl⟩⟩⟩⟩⟩⟩,rfl⟩⟩⟩⟩
theorem yd:dx Tryz.prog 105 5 true:=⟨fun w=>by kernel_rfl,fun w=>by kernel_rfl⟩
theorem cN:dx Tryz.prog 107 15 true:=⟨fun w=>by kernel_rfl,fun w=>by kernel_rfl⟩
theorem fp:l7 Tryz.prog 23 3 1 8:=.of (z:=(.int .i64 (0))) Tryz.underlying23 (by kernel_rfl) rfl rfl rfl
theorem Nc:∀w,(zeroValue 216).run Tryz.prog w= .ok (.pointer none) w:=fun w=>by kernel_rfl
theorem PG:∀S w,(A.cells S w (.eq (.pointer none)) (Value.cells (.pointer none)).toList):=fun _ _=>⟨rfl,rfl⟩
theorem OX:ag Tryz.prog 190:=ag.of Tryz.func190 (by kernel_rfl) (by kernel_rfl)
theorem yb:dx Tryz.prog 216 1 false:=⟨fun w=>by kernel_rfl,fun w=>by kernel_rfl⟩
theorem NK:xF Tryz.prog 219 #[(0,1),(1,1)]:=⟨_,Tryz.underlying219,fun _=>by kernel_rfl⟩
theorem Nb:∀w,(zeroValue 219).run Tryz.prog w= .ok (.agg #[(.int .i64 (0)),(.pointer none)]) w:=fun w=>by kernel_rfl
theorem MH:∀S w,(A.cells S w (.pair (.eq (.int .i64 (0:Int))) (.eq (.pointer none))) (Value.cells (.agg #[(.int .i64 (0)),(.pointer none)])).toList):=fun _ _=>⟨[_],_,rfl,⟨rfl,rfl⟩,⟨rfl,rfl⟩⟩
theorem OS:ag Tryz.prog 208:=ag.of Tryz.func208 (by kernel_rfl) (by kernel_rfl)
theorem O2:ag Tryz.prog 157:=ag.of Tryz.func157 (by kernel_rfl) (by kernel_rfl)
theorem tq:aP Tryz.prog 219 0 0:=aP.of (by kernel_rfl)
theorem BN:aP Tryz.prog 219 1 1:=aP.of (by kernel_rfl)
theorem Pg:ag Tryz.prog 123:=ag.of Tryz.func123 (by kernel_rfl) (by kernel_rfl)
theorem i8:aP Tryz.prog 173 0 0:=aP.of (by kernel_rfl)
theorem O1:ag Tryz.prog 158:=ag.of Tryz.func158 (by kernel_rfl) (by kernel_rfl)
theorem BU:ag Tryz.prog 110:=ag.of Tryz.func110 (by kernel_rfl) (by kernel_rfl)
theorem O9:ag Tryz.prog 128:=ag.of Tryz.func128 (by kernel_rfl) (by kernel_rfl)
theorem Pe:ag Tryz.prog 127:=ag.of Tryz.func127 (by kernel_rfl) (by kernel_rfl)
theorem pr:l7 Tryz.prog 28 23 1 24:=.of (z:=(.slice none 0 0)) Tryz.underlying28 (by kernel_rfl) rfl rfl rfl
theorem DU:ag Tryz.prog 86:=ag.of Tryz.func86 (by kernel_rfl) (by kernel_rfl)
theorem Qa:∀i z,Tryz.prog.info? 23=some i→i.zero=some z→∀S w,rd S w (.slice (.int .i64)) [] z.cells.toList:=En (z0:=(.slice none 0 0)) (by kernel_rfl) fun _ _=>.inl ⟨_,_,rfl,rfl⟩
theorem Jh:ag Tryz.prog 35:=ag.of Tryz.func35 (by kernel_rfl) (by kernel_rfl)
theorem GY:ag Tryz.prog 84:=ag.of Tryz.func84 (by kernel_rfl) (by kernel_rfl)
theorem ON:ag Tryz.prog 85:=ag.of Tryz.func85 (by kernel_rfl) (by kernel_rfl)
theorem LZ:ag Tryz.prog 88:=ag.of Tryz.func88 (by kernel_rfl) (by kernel_rfl)
theorem Jg:ag Tryz.prog 37:=ag.of Tryz.func37 (by kernel_rfl) (by kernel_rfl)
theorem BO:aP Tryz.prog 173 1 3:=aP.of (by kernel_rfl)
theorem J6:dx Tryz.prog 171 1 false:=⟨fun w=>by kernel_rfl,fun w=>by kernel_rfl⟩
theorem KI:ag Tryz.prog 105:=ag.of Tryz.func105 (by kernel_rfl) (by kernel_rfl)
theorem G0:ag Tryz.prog 111:=ag.of Tryz.func111 (by kernel_rfl) (by kernel_rfl)
theorem nk:dx Tryz.prog 102 1 false:=⟨fun w=>by kernel_rfl,fun w=>by kernel_rfl⟩
theorem Px:ag Tryz.prog 104:=ag.of Tryz.func104 (by kernel_rfl) (by kernel_rfl)
theorem O7:ag Tryz.prog 143:=ag.of Tryz.func143 (by kernel_rfl) (by kernel_rfl)
theorem Rm:∀w,(zeroValue 3).run Tryz.prog w= .ok (.int .i64 0) w:=fun w=>by kernel_rfl
theorem QE:ag Tryz.prog 97:=ag.of Tryz.func97 (by kernel_rfl) (by kernel_rfl)
theorem KH:ag Tryz.prog 107:=ag.of Tryz.func107 (by kernel_rfl) (by kernel_rfl)
theorem O4:ag Tryz.prog 146:=ag.of Tryz.func146 (by kernel_rfl) (by kernel_rfl)
theorem O0:ag Tryz.prog 183:=ag.of Tryz.func183 (by kernel_rfl) (by kernel_rfl)
theorem KB:ag Tryz.prog 189:=ag.of Tryz.func189 (by kernel_rfl) (by kernel_rfl)
theorem OU:ag Tryz.prog 202:=ag.of Tryz.func202 (by kernel_rfl) (by kernel_rfl)
theorem OT:ag Tryz.prog 206:=ag.of Tryz.func206 (by kernel_rfl) (by kernel_rfl)
theorem OW:ag Tryz.prog 196:=ag.of Tryz.func196 (by kernel_rfl) (by kernel_rfl)
theorem OY:ag Tryz.prog 185:=ag.of Tryz.func185 (by kernel_rfl) (by kernel_rfl)
theorem OZ:ag Tryz.prog 184:=ag.of Tryz.func184 (by kernel_rfl) (by kernel_rfl)
theorem O6:ag Tryz.prog 144:=ag.of Tryz.func144 (by kernel_rfl) (by kernel_rfl)
theorem O5:ag Tryz.prog 145:=ag.of Tryz.func145 (by kernel_rfl) (by kernel_rfl)
theorem J0:∀w,(zeroValue 102).run Tryz.prog w= .ok (.pointer none) w:=fun w=>by kernel_rfl
theorem KN:∀S w,(A.cells S w (.eq (.pointer none)) (Value.cells (.pointer none)).toList):=fun _ _=>⟨rfl,rfl⟩
theorem Py:ag Tryz.prog 103:=ag.of Tryz.func103 (by kernel_rfl) (by kernel_rfl)
theorem Pm:ag Tryz.prog 109:=ag.of Tryz.func109 (by kernel_rfl) (by kernel_rfl)
theorem Pn:ag Tryz.prog 108:=ag.of Tryz.func108 (by kernel_rfl) (by kernel_rfl)
theorem Po:ag Tryz.prog 106:=ag.of Tryz.func106 (by kernel_rfl) (by kernel_rfl)
theorem NG:dx Tryz.prog 210 1 false:=⟨fun w=>by kernel_rfl,fun w=>by kernel_rfl⟩
theorem Bg:dx Tryz.prog 211 1 false:=⟨fun w=>by kernel_rfl,fun w=>by kernel_rfl⟩
theorem GZ:ag Tryz.prog 149:=ag.of Tryz.func149 (by kernel_rfl) (by kernel_rfl)
theorem Nh:∀w,(zeroValue 211).run Tryz.prog w= .ok .nilFunc w:=fun w=>by kernel_rfl
theorem PH:∀S w,(A.cells S w (.eq .nilFunc) (Value.cells .nilFunc).toList):=fun _ _=>⟨rfl,rfl⟩
theorem EN:dx Tryz.prog 152 1 false:=⟨fun w=>by kernel_rfl,fun w=>by kernel_rfl⟩
theorem J9:l7 Tryz.prog 152 107 15 120:=.of (z:=(.agg #[(.int .i64 (0)),(.int .i64 (0)),(.int .i64 (0)),(.int .i64 (0)),(.int .i64 (0)),(.int .i64 (0)),(.int .i64 (0)),(.int .i64 (0)),(.int .i64 (0)),(.int .i64 (0)),(.int .i64 (0)),(.int .i64 (0)),(.int .i64 (0)),(.int .i64 (0)),(.int .i64 (0))])) Tryz.underlying152 (by kernel_rfl) rfl rfl rfl
theorem KC:ag Tryz.prog 148:=ag.of Tryz.func148 (by kernel_rfl) (by kernel_rfl)
theorem O3:ag Tryz.prog 147:=ag.of Tryz.func147 (by kernel_rfl) (by kernel_rfl)
theorem KE:ag Tryz.prog 116:=ag.of Tryz.func116 (by kernel_rfl) (by kernel_rfl)
theorem Pj:ag Tryz.prog 115:=ag.of Tryz.func115 (by kernel_rfl) (by kernel_rfl)
theorem Pl:ag Tryz.prog 114:=ag.of Tryz.func114 (by kernel_rfl) (by kernel_rfl)
theorem CO:∀w,(zeroValue 25).run Tryz.prog w= .ok (.agg #[(.int .i64 (0)),(.slice none 0 0),(.slice none 0 0)]) w:=fun w=>by kernel_rfl
theorem Jy:∀S w,(A.cells S w (.agg (.pair (.eq (.int .i64 (0:Int))) (.pair (.eq (.slice none 0 0)) (.eq (.slice none 0 0))))) (Value.cells (.agg #[(.int .i64 (0)),(.slice none 0 0),(.slice none 0 0)])).toList):=fun _ _=>⟨[_],_,rfl,⟨rfl,rfl⟩,⟨[_],_,rfl,⟨rfl,rfl⟩,⟨rfl,rfl⟩⟩⟩
theorem E2:xF Tryz.prog 27 #[(0,1),(1,1)]:=⟨_,Tryz.underlying27,fun _=>by kernel_rfl⟩
theorem zr:∀S w,(A.cells S w (.pair (.eq (.int .i64 (0:Int))) (.eq (.slice none 0 0))) (Value.cells (.agg #[(.int .i64 (0)),(.slice none 0 0)])).toList):=fun _ _=>⟨[_],_,rfl,⟨rfl,rfl⟩,⟨rfl,rfl⟩⟩
theorem K1:l7 Tryz.prog 22 27 2 32:=.of (z:=(.agg #[(.int .i64 (0)),(.slice none 0 0)])) Tryz.underlying22 (by kernel_rfl) rfl rfl rfl
theorem NJ:xF Tryz.prog 25 #[(0,1),(1,1),(2,1)]:=⟨_,Tryz.underlying25,fun _=>by kernel_rfl⟩
theorem KL:∀S w,(A.cells S w (.pair (.eq (.int .i64 (0:Int))) (.pair (.eq (.slice none 0 0)) (.eq (.slice none 0 0)))) (Value.cells (.agg #[(.int .i64 (0)),(.slice none 0 0),(.slice none 0 0)])).toList):=fun _ _=>⟨[_],_,rfl,⟨rfl,rfl⟩,⟨[_],_,rfl,⟨rfl,rfl⟩,⟨rfl,rfl⟩⟩⟩
theorem DX:ag Tryz.prog 78:=ag.of Tryz.func78 (by kernel_rfl) (by kernel_rfl)
theorem Jf:ag Tryz.prog 79:=ag.of Tryz.func79 (by kernel_rfl) (by kernel_rfl)
theorem QU:ag Tryz.prog 31:=ag.of Tryz.func31 (by kernel_rfl) (by kernel_rfl)
theorem OP:ag Tryz.prog 48:=ag.of Tryz.func48 (by kernel_rfl) (by kernel_rfl)
theorem L0:ag Tryz.prog 56:=ag.of Tryz.func56 (by kernel_rfl) (by kernel_rfl)
theorem QJ:ag Tryz.prog 80:=ag.of Tryz.func80 (by kernel_rfl) (by kernel_rfl)
theorem QT:ag Tryz.prog 40:=ag.of Tryz.func40 (by kernel_rfl) (by kernel_rfl)
theorem QR:ag Tryz.prog 42:=ag.of Tryz.func42 (by kernel_rfl) (by kernel_rfl)
theorem QK:ag Tryz.prog 67:=ag.of Tryz.func67 (by kernel_rfl) (by kernel_rfl)
theorem L2:ag Tryz.prog 38:=ag.of Tryz.func38 (by kernel_rfl) (by kernel_rfl)
theorem Qh:xF Tryz.prog 98 #[(0,1),(1,1),(2,1)]:=⟨_,Tryz.underlying98,fun _=>by kernel_rfl⟩
theorem Qb:∀w,(zeroValue 98).run Tryz.prog w= .ok (.agg #[(.slice none 0 0),(.int .i64 (0)),(.int .u64 (0))]) w:=fun w=>by kernel_rfl
theorem PE:∀S w,(A.cells S w (.pair (.eq (.slice none 0 0)) (.pair (.eq (.int .i64 (0:Int))) (.eq (.int .u64 (0:Int))))) (Value.cells (.agg #[(.slice none 0 0),(.int .i64 (0)),(.int .u64 (0))])).toList):=fun _ _=>⟨[_],_,rfl,⟨rfl,rfl⟩,⟨[_],_,rfl,⟨rfl,rfl⟩,⟨rfl,rfl⟩⟩⟩
theorem QO:ag Tryz.prog 55:=ag.of Tryz.func55 (by kernel_rfl) (by kernel_rfl)
theorem sA:aP Tryz.prog 98 2 2:=aP.of (by kernel_rfl)
theorem C0:dx Tryz.prog 96 1 false:=⟨fun w=>by kernel_rfl,fun w=>by kernel_rfl⟩
theorem xg:aP Tryz.prog 98 1 1:=aP.of (by kernel_rfl)
theorem GP:aP Tryz.prog 98 0 0:=aP.of (by kernel_rfl)
theorem QI:ag Tryz.prog 82:=ag.of Tryz.func82 (by kernel_rfl) (by kernel_rfl)
theorem L6:ag Tryz.prog 28:=ag.of Tryz.func28 (by kernel_rfl) (by kernel_rfl)
theorem L1:ag Tryz.prog 51:=ag.of Tryz.func51 (by kernel_rfl) (by kernel_rfl)
theorem KG:ag Tryz.prog 112:=ag.of Tryz.func112 (by kernel_rfl) (by kernel_rfl)
theorem KF:ag Tryz.prog 113:=ag.of Tryz.func113 (by kernel_rfl) (by kernel_rfl)
theorem Na:∀i z,Tryz.prog.info? 23=some i→i.zero=some z→∀S w,rd S w .val (.slice none 0 0) z.cells.toList:=En (t:=.val) (z0:=(.slice none 0 0)) (by kernel_rfl) fun _ _=>⟨rfl,rfl⟩
theorem QP:ag Tryz.prog 49:=ag.of Tryz.func49 (by kernel_rfl) (by kernel_rfl)
theorem QQ:ag Tryz.prog 45:=ag.of Tryz.func45 (by kernel_rfl) (by kernel_rfl)
theorem QV:ag Tryz.prog 26:=ag.of Tryz.func26 (by kernel_rfl) (by kernel_rfl)
theorem OR:ag Tryz.prog 25:=ag.of Tryz.func25 (by kernel_rfl) (by kernel_rfl)
theorem Q6:∀w,(zeroValue 3).run Tryz.prog w= .ok (.int .i64 (0)) w:=fun w=>by kernel_rfl
theorem Rk:∀S w,(A.cells S w (.eq (.int .i64 (0:Int))) (Value.cells (.int .i64 (0))).toList):=fun _ _=>⟨rfl,rfl⟩
theorem OO:ag Tryz.prog 61:=ag.of Tryz.func61 (by kernel_rfl) (by kernel_rfl)
theorem Pi:ag Tryz.prog 118:=ag.of Tryz.func118 (by kernel_rfl) (by kernel_rfl)
theorem QN:ag Tryz.prog 58:=ag.of Tryz.func58 (by kernel_rfl) (by kernel_rfl)
theorem QM:ag Tryz.prog 60:=ag.of Tryz.func60 (by kernel_rfl) (by kernel_rfl)
theorem QL:ag Tryz.prog 62:=ag.of Tryz.func62 (by kernel_rfl) (by kernel_rfl)
abbrev Rs(t:Ty)(l:(Ty.slice t).den):A:=.rep (.slice t) l
abbrev Pv(b:Nat):Value:=.pointer (some ⟨b,0,none⟩)
abbrev JH:= @Tryz.underlying105
abbrev JG:= @Tryz.underlying107
abbrev D5:= @Tryz.underlying118
abbrev Q3:= @Tryz.underlying121
abbrev Q2:= @Tryz.underlying123
abbrev Q1:= @Tryz.underlying128
abbrev MM:= @Tryz.underlying129
abbrev Q0:= @Tryz.underlying131
abbrev PR:= @Tryz.underlying152
abbrev QZ:= @Tryz.underlying170
abbrev PQ:= @Tryz.underlying171
abbrev Rx:= @Tryz.underlying21
abbrev QY:= @Tryz.underlying216
abbrev zM:= @Tryz.underlying22
abbrev fY:= @Tryz.underlying23
abbrev lj:= @Tryz.underlying28
abbrev U3:= @Tryz.underlying3
abbrev U5:= @Tryz.underlying5
abbrev Rw:= @Tryz.underlying86
abbrev U9:= @Tryz.underlying9
abbrev P6:= @Tryz.underlying96
theorem mN:false=false→1=1:=fun _=>rfl
end Go.Proofs.YtcnpijmfgfnpiaaGreatDoor
