import Derived.Test.YtcnpijmfgfnpiaaGreatDoorVB5
import Derived.Test.YtcnpijmfgfnpiaaGreatDoorProg
set_option linter.unusedVariables false
set_option linter.unusedSimpArgs false
namespace Go.Proofs.YtcnpijmfgfnpiaaGreatDoor
open K Go Go.Proofs
theorem fo:Tryz.prog.follows .mixedOrders=true:=by kernel_rfl
theorem xG{n:Nat}:true=false→n=1:=fun h=>nomatch h
def J1:ByteArray:=⟨#[0,1,2,2,3,3,3,3,4,4,4,4,4,4,4,4,5,5,5,5,5,5,5,5,5,5,5,5,5,5,5,5,6,6,6,6,6,6,6,6,6,6,6,6,6,6,6,6,6,6,6,6,6,6,6,6,6,6,6,6,6,6,6,6,7,7,7,7,7,7,7,7,7,7,7,7,7,7,7,7,7,7,7,7,7,7,7,7,7,7,7,7,7,7,7,7,7,7,7,7,7,7,7,7,7,7,7,7,7,7,7,7,7,7,7,7,7,7,7,7,7,7,7,7,7,7,7,7,8,8,8,8,8,8,8,8,8,8,8,8,8,8,8,8,8,8,8,8,8,8,8,8,8,8,8,8,8,8,8,8,8,8,8,8,8,8,8,8,8,8,8,8,8,8,8,8,8,8,8,8,8,8,8,8,8,8,8,8,8,8,8,8,8,8,8,8,8,8,8,8,8,8,8,8,8,8,8,8,8,8,8,8,8,8,8,8,8,8,8,8,8,8,8,8,8,8,8,8,8,8,8,8,8,8,8,8,8,8,8,8,8,8,8,8,8,8,8,8,8,8,8,8,8,8,8,8]⟩
@[reducible] def cU:Ty:=.agg (.pair (.int .i64) (.slice (.int .i64)))
abbrev lZ:=(Int×(List Int))
@[reducible] def aB:Ty:=.agg (.pair (.int .i64) (.pair (.slice cU) (.slice (.int .i64))))
abbrev a8:=(Int×((List lZ)×(List Int)))
@[reducible] def R9:Ty:=.agg (.pair (.slice (.int .i64)) (.pair (.int .i64) (.int .u64)))
abbrev bB:=((List Int)×(Int×Int))
@[reducible] def Q9:Ty:=.agg (.int .i64)
@[reducible] def bM:Ty:=.agg (.pair aB .ign)
abbrev dk:=(a8×Unit)
@[reducible] def Sv:Ty:=.agg (.pair (.ptr bM) (.slice (.slice (.int .i64))))
@[reducible] def Ou:Ty:=.agg (.pair (.int .i64) (.int .i64))
@[reducible] def FO:Ty:=.agg (.pair (.int .i64) (.lst (.int .i64)))
@[reducible] def Rb:Ty:=.agg (.pair .val (.pair .val (.int .u64)))
theorem eM:aU Tryz.prog 25 1 1:=aU.of (by kernel_rfl)
theorem kW:dS Tryz.prog 22 1 false:=⟨fun w=>by kernel_rfl,fun w=>by kernel_rfl⟩
theorem fD:aU Tryz.prog 25 2 2:=aU.of (by kernel_rfl)
theorem bW:dS Tryz.prog 23 1 false:=⟨fun w=>by kernel_rfl,fun w=>by kernel_rfl⟩
theorem ot:dS Tryz.prog 27 2 true:=⟨fun w=>by kernel_rfl,fun w=>by kernel_rfl⟩
theorem ta:aU Tryz.prog 27 1 1:=aU.of (by kernel_rfl)
theorem o6:aU Tryz.prog 27 0 0:=aU.of (by kernel_rfl)
theorem cP:dS Tryz.prog 3 1 false:=⟨fun w=>by kernel_rfl,fun w=>by kernel_rfl⟩
theorem yc:ah Tryz.prog 83:=ah.of Tryz.func83 (by kernel_rfl) (by kernel_rfl)
theorem kZ:aU Tryz.prog 25 0 0:=aU.of (by kernel_rfl)
theorem wZ:∀w,(zeroValue 27).run Tryz.prog w= .ok (.agg #[(.int .i64 (0)),(.slice none 0 0)]) w:=fun w=>by kernel_rfl
theorem K1:∀S w,(A.cells S w (.agg (.pair (.eq (.int .i64 (0:Int))) (.eq (.slice none 0 0)))) (Value.cells (.agg #[(.int .i64 (0)),(.slice none 0 0)])).toList):=fun _ _=>⟨[_],_,rfl,⟨rfl,rfl⟩,⟨rfl,rfl⟩⟩
theorem fK:dS Tryz.prog 25 3 true:=⟨fun w=>by kernel_rfl,fun w=>by kernel_rfl⟩
theorem RB:ah Tryz.prog 92:=ah.of Tryz.func92 (by kernel_rfl) (by kernel_rfl)
theorem wh:yw Tryz.prog 118 #[(0,1)]:=⟨_,Tryz.underlying118,fun _=>by kernel_rfl⟩
theorem ud:∀w,(zeroValue 118).run Tryz.prog w= .ok (.agg #[(.int .i64 (0))]) w:=fun w=>by kernel_rfl
theorem tl:∀S w,(A.cells S w (.eq (.int .i64 (0:Int))) (Value.cells (.agg #[(.int .i64 (0))])).toList):=fun _ _=>⟨rfl,rfl⟩
theorem KL:ah Tryz.prog 87:=ah.of Tryz.func87 (by kernel_rfl) (by kernel_rfl)
theorem Db:ah Tryz.prog 134:=ah.of Tryz.func134 (by kernel_rfl) (by kernel_rfl)
theorem LR:ah Tryz.prog 135:=ah.of Tryz.func135 (by kernel_rfl) (by kernel_rfl)
theorem PX:ah Tryz.prog 33:=ah.of Tryz.func33 (by kernel_rfl) (by kernel_rfl)
theorem QE:∀S w,(A.cells S w (.agg (.eq (.int .i64 (0:Int)))) (Value.cells (.agg #[(.int .i64 (0))])).toList):=fun _ _=>⟨rfl,rfl⟩
theorem Rz:ah Tryz.prog 94:=ah.of Tryz.func94 (by kernel_rfl) (by kernel_rfl)
theorem KF:aU Tryz.prog 118 0 0:=aU.of (by kernel_rfl)
theorem Rf:dS Tryz.prog 41 1 false:=⟨fun w=>by kernel_rfl,fun w=>by kernel_rfl⟩
theorem mQ:∀w,(zeroValue 107).run Tryz.prog w= .ok (.agg #[(.int .i64 (0)),(.int .i64 (0)),(.int .i64 (0)),(.int .i64 (0)),(.int .i64 (0)),(.int .i64 (0)),(.int .i64 (0)),(.int .i64 (0)),(.int .i64 (0)),(.int .i64 (0)),(.int .i64 (0)),(.int .i64 (0)),(.int .i64 (0)),(.int .i64 (0)),(.int .i64 (0))]) w:=fun w=>by kernel_rfl
theorem nr:∀S w,(A.cells S w (.rep (.arr 3 (.arr 5 (.int .i64))) [[(0:Int),(0:Int),(0:Int),(0:Int),(0:Int)],[(0:Int),(0:Int),(0:Int),(0:Int),(0:Int)],[(0:Int),(0:Int),(0:Int),(0:Int),(0:Int)]]) (Value.cells (.agg #[(.int .i64 (0)),(.int .i64 (0)),(.int .i64 (0)),(.int .i64 (0)),(.int .i64 (0)),(.int .i64 (0)),(.int .i64 (0)),(.int .i64 (0)),(.int .i64 (0)),(.int .i64 (0)),(.int .i64 (0)),(.int .i64 (0)),(.int .i64 (0)),(.int .i64 (0)),(.int .i64 (0))])).toList):=fun _ _=>⟨rfl,⟨[_,_,_,_,_],_,rfl,⟨rfl,⟨[_],_,rfl,rfl,⟨[_],_,rfl,rfl,⟨[_],_,rfl,rfl,⟨[_],_,rfl,rfl,⟨[_],_,rfl,rfl,rfl⟩⟩⟩⟩⟩⟩,⟨[_,_,_,_,_],_,rfl,⟨rfl,⟨[_],_,rfl,rfl,⟨[_],_,rfl,rfl,⟨[_],_,rfl,rfl,⟨[_],_,rfl,rfl,⟨[_],_,rfl,rfl,rfl⟩⟩⟩⟩⟩⟩,⟨[_,_,_,_,_],_,rfl,⟨rfl,⟨[_],_,rfl,rfl,⟨[_],_,rfl,rfl,⟨[_],_,rfl,rfl,⟨[_],_,rfl,rfl,⟨[_],_,rfl,rfl,rfl⟩⟩⟩⟩⟩⟩,rfl⟩⟩⟩⟩
theorem yV:dS Tryz.prog 105 5 true:=⟨fun w=>by kernel_rfl,fun w=>by kernel_rfl⟩
theorem di:dS Tryz.prog 107 15 true:=⟨fun w=>by kernel_rfl,fun w=>by kernel_rfl⟩
theorem eJ:mL Tryz.prog 23 3 1 8:=.of (z:=(.int .i64 (0))) Tryz.underlying23 (by kernel_rfl) rfl rfl rfl
theorem OB:∀w,(zeroValue 216).run Tryz.prog w= .ok (.pointer none) w:=fun w=>by kernel_rfl
theorem Qz:∀S w,(A.cells S w (.eq (.pointer none)) (Value.cells (.pointer none)).toList):=fun _ _=>⟨rfl,rfl⟩
theorem P5:ah Tryz.prog 190:=ah.of Tryz.func190 (by kernel_rfl) (by kernel_rfl)
theorem yT:dS Tryz.prog 216 1 false:=⟨fun w=>by kernel_rfl,fun w=>by kernel_rfl⟩
theorem O0:yw Tryz.prog 219 #[(0,1),(1,1)]:=⟨_,Tryz.underlying219,fun _=>by kernel_rfl⟩
theorem OA:∀w,(zeroValue 219).run Tryz.prog w= .ok (.agg #[(.int .i64 (0)),(.pointer none)]) w:=fun w=>by kernel_rfl
theorem N6:∀S w,(A.cells S w (.pair (.eq (.int .i64 (0:Int))) (.eq (.pointer none))) (Value.cells (.agg #[(.int .i64 (0)),(.pointer none)])).toList):=fun _ _=>⟨[_],_,rfl,⟨rfl,rfl⟩,⟨rfl,rfl⟩⟩
theorem P1:ah Tryz.prog 208:=ah.of Tryz.func208 (by kernel_rfl) (by kernel_rfl)
theorem Qa:ah Tryz.prog 157:=ah.of Tryz.func157 (by kernel_rfl) (by kernel_rfl)
theorem t9:aU Tryz.prog 219 0 0:=aU.of (by kernel_rfl)
theorem C5:aU Tryz.prog 219 1 1:=aU.of (by kernel_rfl)
theorem Qk:ah Tryz.prog 123:=ah.of Tryz.func123 (by kernel_rfl) (by kernel_rfl)
theorem jT:aU Tryz.prog 173 0 0:=aU.of (by kernel_rfl)
theorem P9:ah Tryz.prog 158:=ah.of Tryz.func158 (by kernel_rfl) (by kernel_rfl)
theorem Dc:ah Tryz.prog 110:=ah.of Tryz.func110 (by kernel_rfl) (by kernel_rfl)
theorem Qi:ah Tryz.prog 128:=ah.of Tryz.func128 (by kernel_rfl) (by kernel_rfl)
theorem Qj:ah Tryz.prog 127:=ah.of Tryz.func127 (by kernel_rfl) (by kernel_rfl)
theorem oJ:mL Tryz.prog 28 23 1 24:=.of (z:=(.slice none 0 0)) Tryz.underlying28 (by kernel_rfl) rfl rfl rfl
theorem BJ:ah Tryz.prog 86:=ah.of Tryz.func86 (by kernel_rfl) (by kernel_rfl)
theorem Q7:∀i z,Tryz.prog.info? 23=some i→i.zero=some z→∀S w,rd S w (.slice (.int .i64)) [] z.cells.toList:=Fh (z0:=(.slice none 0 0)) (by kernel_rfl) fun _ _=>.inl ⟨_,_,rfl,rfl⟩
theorem BK:ah Tryz.prog 35:=ah.of Tryz.func35 (by kernel_rfl) (by kernel_rfl)
theorem Ip:ah Tryz.prog 84:=ah.of Tryz.func84 (by kernel_rfl) (by kernel_rfl)
theorem PO:ah Tryz.prog 85:=ah.of Tryz.func85 (by kernel_rfl) (by kernel_rfl)
theorem KJ:ah Tryz.prog 88:=ah.of Tryz.func88 (by kernel_rfl) (by kernel_rfl)
theorem KO:ah Tryz.prog 37:=ah.of Tryz.func37 (by kernel_rfl) (by kernel_rfl)
theorem C6:aU Tryz.prog 173 1 3:=aU.of (by kernel_rfl)
theorem Lu:dS Tryz.prog 171 1 false:=⟨fun w=>by kernel_rfl,fun w=>by kernel_rfl⟩
theorem LX:ah Tryz.prog 105:=ah.of Tryz.func105 (by kernel_rfl) (by kernel_rfl)
theorem LV:ah Tryz.prog 111:=ah.of Tryz.func111 (by kernel_rfl) (by kernel_rfl)
theorem rf:dS Tryz.prog 102 1 false:=⟨fun w=>by kernel_rfl,fun w=>by kernel_rfl⟩
theorem Qu:ah Tryz.prog 104:=ah.of Tryz.func104 (by kernel_rfl) (by kernel_rfl)
theorem Qg:ah Tryz.prog 143:=ah.of Tryz.func143 (by kernel_rfl) (by kernel_rfl)
theorem Su:∀w,(zeroValue 3).run Tryz.prog w= .ok (.int .i64 0) w:=fun w=>by kernel_rfl
theorem Rx:ah Tryz.prog 97:=ah.of Tryz.func97 (by kernel_rfl) (by kernel_rfl)
theorem LW:ah Tryz.prog 107:=ah.of Tryz.func107 (by kernel_rfl) (by kernel_rfl)
theorem Qd:ah Tryz.prog 146:=ah.of Tryz.func146 (by kernel_rfl) (by kernel_rfl)
theorem P8:ah Tryz.prog 183:=ah.of Tryz.func183 (by kernel_rfl) (by kernel_rfl)
theorem LQ:ah Tryz.prog 189:=ah.of Tryz.func189 (by kernel_rfl) (by kernel_rfl)
theorem P3:ah Tryz.prog 202:=ah.of Tryz.func202 (by kernel_rfl) (by kernel_rfl)
theorem P2:ah Tryz.prog 206:=ah.of Tryz.func206 (by kernel_rfl) (by kernel_rfl)
theorem P4:ah Tryz.prog 196:=ah.of Tryz.func196 (by kernel_rfl) (by kernel_rfl)
theorem P6:ah Tryz.prog 185:=ah.of Tryz.func185 (by kernel_rfl) (by kernel_rfl)
theorem P7:ah Tryz.prog 184:=ah.of Tryz.func184 (by kernel_rfl) (by kernel_rfl)
theorem Qf:ah Tryz.prog 144:=ah.of Tryz.func144 (by kernel_rfl) (by kernel_rfl)
theorem Qe:ah Tryz.prog 145:=ah.of Tryz.func145 (by kernel_rfl) (by kernel_rfl)
theorem OH:∀w,(zeroValue 102).run Tryz.prog w= .ok (.pointer none) w:=fun w=>by kernel_rfl
theorem QF:∀S w,(A.cells S w (.eq (.pointer none)) (Value.cells (.pointer none)).toList):=fun _ _=>⟨rfl,rfl⟩
theorem LY:ah Tryz.prog 103:=ah.of Tryz.func103 (by kernel_rfl) (by kernel_rfl)
theorem Qp:ah Tryz.prog 109:=ah.of Tryz.func109 (by kernel_rfl) (by kernel_rfl)
theorem Qq:ah Tryz.prog 108:=ah.of Tryz.func108 (by kernel_rfl) (by kernel_rfl)
theorem Qs:ah Tryz.prog 106:=ah.of Tryz.func106 (by kernel_rfl) (by kernel_rfl)
theorem OW:dS Tryz.prog 210 1 false:=⟨fun w=>by kernel_rfl,fun w=>by kernel_rfl⟩
theorem Cf:dS Tryz.prog 211 1 false:=⟨fun w=>by kernel_rfl,fun w=>by kernel_rfl⟩
theorem Ir:ah Tryz.prog 149:=ah.of Tryz.func149 (by kernel_rfl) (by kernel_rfl)
theorem OC:∀w,(zeroValue 211).run Tryz.prog w= .ok .nilFunc w:=fun w=>by kernel_rfl
theorem QA:∀S w,(A.cells S w (.eq .nilFunc) (Value.cells .nilFunc).toList):=fun _ _=>⟨rfl,rfl⟩
theorem FU:dS Tryz.prog 152 1 false:=⟨fun w=>by kernel_rfl,fun w=>by kernel_rfl⟩
theorem LA:mL Tryz.prog 152 107 15 120:=.of (z:=(.agg #[(.int .i64 (0)),(.int .i64 (0)),(.int .i64 (0)),(.int .i64 (0)),(.int .i64 (0)),(.int .i64 (0)),(.int .i64 (0)),(.int .i64 (0)),(.int .i64 (0)),(.int .i64 (0)),(.int .i64 (0)),(.int .i64 (0)),(.int .i64 (0)),(.int .i64 (0)),(.int .i64 (0))])) Tryz.underlying152 (by kernel_rfl) rfl rfl rfl
theorem Qb:ah Tryz.prog 148:=ah.of Tryz.func148 (by kernel_rfl) (by kernel_rfl)
theorem Qc:ah Tryz.prog 147:=ah.of Tryz.func147 (by kernel_rfl) (by kernel_rfl)
theorem Qm:ah Tryz.prog 116:=ah.of Tryz.func116 (by kernel_rfl) (by kernel_rfl)
theorem Qn:ah Tryz.prog 115:=ah.of Tryz.func115 (by kernel_rfl) (by kernel_rfl)
theorem Qo:ah Tryz.prog 114:=ah.of Tryz.func114 (by kernel_rfl) (by kernel_rfl)
theorem xb:∀w,(zeroValue 25).run Tryz.prog w= .ok (.agg #[(.int .i64 (0)),(.slice none 0 0),(.slice none 0 0)]) w:=fun w=>by kernel_rfl
theorem BS:∀S w,(A.cells S w (.agg (.pair (.eq (.int .i64 (0:Int))) (.pair (.eq (.slice none 0 0)) (.eq (.slice none 0 0))))) (Value.cells (.agg #[(.int .i64 (0)),(.slice none 0 0),(.slice none 0 0)])).toList):=fun _ _=>⟨[_],_,rfl,⟨rfl,rfl⟩,⟨[_],_,rfl,⟨rfl,rfl⟩,⟨rfl,rfl⟩⟩⟩
theorem Gg:yw Tryz.prog 27 #[(0,1),(1,1)]:=⟨_,Tryz.underlying27,fun _=>by kernel_rfl⟩
theorem Af:∀S w,(A.cells S w (.pair (.eq (.int .i64 (0:Int))) (.eq (.slice none 0 0))) (Value.cells (.agg #[(.int .i64 (0)),(.slice none 0 0)])).toList):=fun _ _=>⟨[_],_,rfl,⟨rfl,rfl⟩,⟨rfl,rfl⟩⟩
theorem MG:mL Tryz.prog 22 27 2 32:=.of (z:=(.agg #[(.int .i64 (0)),(.slice none 0 0)])) Tryz.underlying22 (by kernel_rfl) rfl rfl rfl
theorem OZ:yw Tryz.prog 25 #[(0,1),(1,1),(2,1)]:=⟨_,Tryz.underlying25,fun _=>by kernel_rfl⟩
theorem L0:∀S w,(A.cells S w (.pair (.eq (.int .i64 (0:Int))) (.pair (.eq (.slice none 0 0)) (.eq (.slice none 0 0)))) (Value.cells (.agg #[(.int .i64 (0)),(.slice none 0 0),(.slice none 0 0)])).toList):=fun _ _=>⟨[_],_,rfl,⟨rfl,rfl⟩,⟨[_],_,rfl,⟨rfl,rfl⟩,⟨rfl,rfl⟩⟩⟩
theorem ER:ah Tryz.prog 78:=ah.of Tryz.func78 (by kernel_rfl) (by kernel_rfl)
theorem KN:ah Tryz.prog 79:=ah.of Tryz.func79 (by kernel_rfl) (by kernel_rfl)
theorem PY:ah Tryz.prog 31:=ah.of Tryz.func31 (by kernel_rfl) (by kernel_rfl)
theorem NV:ah Tryz.prog 48:=ah.of Tryz.func48 (by kernel_rfl) (by kernel_rfl)
theorem RI:ah Tryz.prog 56:=ah.of Tryz.func56 (by kernel_rfl) (by kernel_rfl)
theorem RF:ah Tryz.prog 80:=ah.of Tryz.func80 (by kernel_rfl) (by kernel_rfl)
theorem PU:ah Tryz.prog 40:=ah.of Tryz.func40 (by kernel_rfl) (by kernel_rfl)
theorem PT:ah Tryz.prog 42:=ah.of Tryz.func42 (by kernel_rfl) (by kernel_rfl)
theorem RG:ah Tryz.prog 67:=ah.of Tryz.func67 (by kernel_rfl) (by kernel_rfl)
theorem PV:ah Tryz.prog 38:=ah.of Tryz.func38 (by kernel_rfl) (by kernel_rfl)
theorem Rj:yw Tryz.prog 98 #[(0,1),(1,1),(2,1)]:=⟨_,Tryz.underlying98,fun _=>by kernel_rfl⟩
theorem Q8:∀w,(zeroValue 98).run Tryz.prog w= .ok (.agg #[(.slice none 0 0),(.int .i64 (0)),(.int .u64 (0))]) w:=fun w=>by kernel_rfl
theorem Qy:∀S w,(A.cells S w (.pair (.eq (.slice none 0 0)) (.pair (.eq (.int .i64 (0:Int))) (.eq (.int .u64 (0:Int))))) (Value.cells (.agg #[(.slice none 0 0),(.int .i64 (0)),(.int .u64 (0))])).toList):=fun _ _=>⟨[_],_,rfl,⟨rfl,rfl⟩,⟨[_],_,rfl,⟨rfl,rfl⟩,⟨rfl,rfl⟩⟩⟩
theorem PP:ah Tryz.prog 55:=ah.of Tryz.func55 (by kernel_rfl) (by kernel_rfl)
theorem s9:aU Tryz.prog 98 2 2:=aU.of (by kernel_rfl)
theorem DY:dS Tryz.prog 96 1 false:=⟨fun w=>by kernel_rfl,fun w=>by kernel_rfl⟩
theorem xZ:aU Tryz.prog 98 1 1:=aU.of (by kernel_rfl)
theorem If:aU Tryz.prog 98 0 0:=aU.of (by kernel_rfl)
theorem RD:ah Tryz.prog 82:=ah.of Tryz.func82 (by kernel_rfl) (by kernel_rfl)
theorem BL:ah Tryz.prog 28:=ah.of Tryz.func28 (by kernel_rfl) (by kernel_rfl)
theorem NU:ah Tryz.prog 51:=ah.of Tryz.func51 (by kernel_rfl) (by kernel_rfl)
theorem LU:ah Tryz.prog 112:=ah.of Tryz.func112 (by kernel_rfl) (by kernel_rfl)
theorem LS:ah Tryz.prog 113:=ah.of Tryz.func113 (by kernel_rfl) (by kernel_rfl)
theorem Oz:∀i z,Tryz.prog.info? 23=some i→i.zero=some z→∀S w,rd S w .val (.slice none 0 0) z.cells.toList:=Fh (t:=.val) (z0:=(.slice none 0 0)) (by kernel_rfl) fun _ _=>⟨rfl,rfl⟩
theorem RH:ah Tryz.prog 63:=ah.of Tryz.func63 (by kernel_rfl) (by kernel_rfl)
theorem Ql:ah Tryz.prog 122:=ah.of Tryz.func122 (by kernel_rfl) (by kernel_rfl)
theorem Io:ah Tryz.prog 90:=ah.of Tryz.func90 (by kernel_rfl) (by kernel_rfl)
theorem RN:ah Tryz.prog 34:=ah.of Tryz.func34 (by kernel_rfl) (by kernel_rfl)
theorem Ry:ah Tryz.prog 95:=ah.of Tryz.func95 (by kernel_rfl) (by kernel_rfl)
theorem NT:ah Tryz.prog 96:=ah.of Tryz.func96 (by kernel_rfl) (by kernel_rfl)
theorem PW:ah Tryz.prog 36:=ah.of Tryz.func36 (by kernel_rfl) (by kernel_rfl)
theorem PQ:ah Tryz.prog 54:=ah.of Tryz.func54 (by kernel_rfl) (by kernel_rfl)
theorem RL:ah Tryz.prog 49:=ah.of Tryz.func49 (by kernel_rfl) (by kernel_rfl)
theorem RE:ah Tryz.prog 81:=ah.of Tryz.func81 (by kernel_rfl) (by kernel_rfl)
theorem P0:ah Tryz.prog 26:=ah.of Tryz.func26 (by kernel_rfl) (by kernel_rfl)
theorem PS:ah Tryz.prog 44:=ah.of Tryz.func44 (by kernel_rfl) (by kernel_rfl)
theorem Iq:ah Tryz.prog 25:=ah.of Tryz.func25 (by kernel_rfl) (by kernel_rfl)
theorem PZ:ah Tryz.prog 30:=ah.of Tryz.func30 (by kernel_rfl) (by kernel_rfl)
theorem RJ:ah Tryz.prog 52:=ah.of Tryz.func52 (by kernel_rfl) (by kernel_rfl)
theorem PR:ah Tryz.prog 53:=ah.of Tryz.func53 (by kernel_rfl) (by kernel_rfl)
abbrev Rs(t:Ty)(l:(Ty.slice t).den):A:=.rep (.slice t) l
abbrev Pv(b:Nat):Value:=.pointer (some ⟨b,0,none⟩)
abbrev K8:= @Tryz.underlying105
abbrev K7:= @Tryz.underlying107
abbrev EZ:= @Tryz.underlying118
abbrev RX:= @Tryz.underlying121
abbrev RV:= @Tryz.underlying123
abbrev RU:= @Tryz.underlying128
abbrev Oa:= @Tryz.underlying129
abbrev RS:= @Tryz.underlying131
abbrev QK:= @Tryz.underlying152
abbrev RR:= @Tryz.underlying170
abbrev QJ:= @Tryz.underlying171
abbrev SH:= @Tryz.underlying21
abbrev RQ:= @Tryz.underlying216
abbrev tp:= @Tryz.underlying22
abbrev eA:= @Tryz.underlying23
abbrev k9:= @Tryz.underlying28
abbrev U3:= @Tryz.underlying3
abbrev U5:= @Tryz.underlying5
abbrev SG:= @Tryz.underlying86
abbrev U9:= @Tryz.underlying9
abbrev Q0:= @Tryz.underlying96
theorem mP:false=false→1=1:=fun _=>rfl
end Go.Proofs.YtcnpijmfgfnpiaaGreatDoor
