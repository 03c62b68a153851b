import Derived.Test.YtcnpijmfgfnpiaaGreatDoorXXB5
import Derived.Test.YtcnpijmfgfnpiaaGreatDoorProg
set_option linter.unusedVariables false
set_option linter.unusedSimpArgs false
namespace Go.Proofs.YtcnpijmfgfnpiaaGreatDoor
open K Go Go.Proofs
theorem fg:Tryz.prog.follows .mixedOrders=true:=by kernel_rfl
theorem xE{n:Nat}:true=false→n=1:=fun h=>nomatch h
def I7:ByteArray:=⟨#[0,1,2,2,3,3,3,3,4,4,4,4,4,4,4,4,5,5,5,5,5,5,5,5,5,5,5,5,5,5,5,5,6,6,6,6,6,6,6,6,6,6,6,6,6,6,6,6,6,6,6,6,6,6,6,6,6,6,6,6,6,6,6,6,7,7,7,7,7,7,7,7,7,7,7,7,7,7,7,7,7,7,7,7,7,7,7,7,7,7,7,7,7,7,7,7,7,7,7,7,7,7,7,7,7,7,7,7,7,7,7,7,7,7,7,7,7,7,7,7,7,7,7,7,7,7,7,7,8,8,8,8,8,8,8,8,8,8,8,8,8,8,8,8,8,8,8,8,8,8,8,8,8,8,8,8,8,8,8,8,8,8,8,8,8,8,8,8,8,8,8,8,8,8,8,8,8,8,8,8,8,8,8,8,8,8,8,8,8,8,8,8,8,8,8,8,8,8,8,8,8,8,8,8,8,8,8,8,8,8,8,8,8,8,8,8,8,8,8,8,8,8,8,8,8,8,8,8,8,8,8,8,8,8,8,8,8,8,8,8,8,8,8,8,8,8,8,8,8,8,8,8,8,8,8,8]⟩
@[reducible] def cg:Ty:=.agg (.pair (.int .i64) (.slice (.int .i64)))
abbrev jp:=(Int×(List Int))
@[reducible] def aG:Ty:=.agg (.pair (.int .i64) (.pair (.slice cg) (.slice (.int .i64))))
abbrev bK:=(Int×((List jp)×(List Int)))
@[reducible] def RL:Ty:=.agg (.pair (.slice (.int .i64)) (.pair (.int .i64) (.int .u64)))
abbrev cQ:=((List Int)×(Int×Int))
@[reducible] def QK:Ty:=.agg (.int .i64)
@[reducible] def bj:Ty:=.agg (.pair aG .ign)
abbrev cV:=(bK×Unit)
@[reducible] def RZ:Ty:=.agg (.pair (.ptr bj) (.slice (.slice (.int .i64))))
@[reducible] def NE:Ty:=.agg (.pair (.int .i64) (.int .i64))
@[reducible] def Fp:Ty:=.agg (.pair (.int .i64) (.lst (.int .i64)))
@[reducible] def QL:Ty:=.agg (.pair .val (.pair .val (.int .u64)))
theorem ir:aQ Tryz.prog 25 1 1:=aQ.of (by kernel_rfl)
theorem ot:dC Tryz.prog 22 1 false:=⟨fun w=>by kernel_rfl,fun w=>by kernel_rfl⟩
theorem eV:aQ Tryz.prog 25 2 2:=aQ.of (by kernel_rfl)
theorem bZ:dC Tryz.prog 23 1 false:=⟨fun w=>by kernel_rfl,fun w=>by kernel_rfl⟩
theorem qf:dC Tryz.prog 27 2 true:=⟨fun w=>by kernel_rfl,fun w=>by kernel_rfl⟩
theorem sW:aQ Tryz.prog 27 1 1:=aQ.of (by kernel_rfl)
theorem vg:aQ Tryz.prog 27 0 0:=aQ.of (by kernel_rfl)
theorem dE:dC Tryz.prog 3 1 false:=⟨fun w=>by kernel_rfl,fun w=>by kernel_rfl⟩
theorem zT:ag Tryz.prog 83:=ag.of Tryz.func83 (by kernel_rfl) (by kernel_rfl)
theorem je:aQ Tryz.prog 25 0 0:=aQ.of (by kernel_rfl)
theorem vB:∀w,(zeroValue 27).run Tryz.prog w= .ok (.agg #[(.int .i64 (0)),(.slice none 0 0)]) w:=fun w=>by kernel_rfl
theorem J3:∀S w,(A.cells S w (.agg (.pair (.eq (.int .i64 (0:Int))) (.eq (.slice none 0 0)))) (Value.cells (.agg #[(.int .i64 (0)),(.slice none 0 0)])).toList):=fun _ _=>⟨[_],_,rfl,⟨rfl,rfl⟩,⟨rfl,rfl⟩⟩
theorem i8:dC Tryz.prog 25 3 true:=⟨fun w=>by kernel_rfl,fun w=>by kernel_rfl⟩
theorem Rf:ag Tryz.prog 92:=ag.of Tryz.func92 (by kernel_rfl) (by kernel_rfl)
theorem wi:yt Tryz.prog 118 #[(0,1)]:=⟨_,Tryz.underlying118,fun _=>by kernel_rfl⟩
theorem ua:∀w,(zeroValue 118).run Tryz.prog w= .ok (.agg #[(.int .i64 (0))]) w:=fun w=>by kernel_rfl
theorem ta:∀S w,(A.cells S w (.eq (.int .i64 (0:Int))) (Value.cells (.agg #[(.int .i64 (0))])).toList):=fun _ _=>⟨rfl,rfl⟩
theorem JH:ag Tryz.prog 87:=ag.of Tryz.func87 (by kernel_rfl) (by kernel_rfl)
theorem C7:ag Tryz.prog 134:=ag.of Tryz.func134 (by kernel_rfl) (by kernel_rfl)
theorem K4:ag Tryz.prog 135:=ag.of Tryz.func135 (by kernel_rfl) (by kernel_rfl)
theorem MS:ag Tryz.prog 33:=ag.of Tryz.func33 (by kernel_rfl) (by kernel_rfl)
theorem Qd:∀S w,(A.cells S w (.agg (.eq (.int .i64 (0:Int)))) (Value.cells (.agg #[(.int .i64 (0))])).toList):=fun _ _=>⟨rfl,rfl⟩
theorem Re:ag Tryz.prog 94:=ag.of Tryz.func94 (by kernel_rfl) (by kernel_rfl)
theorem Pg:ag Tryz.prog 93:=ag.of Tryz.func93 (by kernel_rfl) (by kernel_rfl)
theorem Jy:aQ Tryz.prog 118 0 0:=aQ.of (by kernel_rfl)
theorem QN:dC Tryz.prog 41 1 false:=⟨fun w=>by kernel_rfl,fun w=>by kernel_rfl⟩
theorem li:∀w,(zeroValue 107).run Tryz.prog w= .ok (.agg #[(.int .i64 (0)),(.int .i64 (0)),(.int .i64 (0)),(.int .i64 (0)),(.int .i64 (0)),(.int .i64 (0)),(.int .i64 (0)),(.int .i64 (0)),(.int .i64 (0)),(.int .i64 (0)),(.int .i64 (0)),(.int .i64 (0)),(.int .i64 (0)),(.int .i64 (0)),(.int .i64 (0))]) w:=fun w=>by kernel_rfl
theorem lM:∀S w,(A.cells S w (.rep (.arr 3 (.arr 5 (.int .i64))) [[(0:Int),(0:Int),(0:Int),(0:Int),(0:Int)],[(0:Int),(0:Int),(0:Int),(0:Int),(0:Int)],[(0:Int),(0:Int),(0:Int),(0:Int),(0:Int)]]) (Value.cells (.agg #[(.int .i64 (0)),(.int .i64 (0)),(.int .i64 (0)),(.int .i64 (0)),(.int .i64 (0)),(.int .i64 (0)),(.int .i64 (0)),(.int .i64 (0)),(.int .i64 (0)),(.int .i64 (0)),(.int .i64 (0)),(.int .i64 (0)),(.int .i64 (0)),(.int .i64 (0)),(.int .i64 (0))])).toList):=fun _ _=>⟨rfl,⟨[_,_,_,_,_],_,rfl,⟨rfl,⟨[_],_,rfl,rfl,⟨[_],_,rfl,rfl,⟨[_],_,rfl,rfl,⟨[_],_,rfl,rfl,⟨[_],_,rfl,rfl,rfl⟩⟩⟩⟩⟩⟩,⟨[_,_,_,_,_],_,rfl,⟨rfl,⟨[_],_,rfl,rfl,⟨[_],_,rfl,rfl,⟨[_],_,rfl,rfl,⟨[_],_,rfl,rfl,⟨[_],_,rfl,rfl,rfl⟩⟩⟩⟩⟩⟩,⟨[_,_,_,_,_],_,rfl,⟨rfl,⟨[_],_,rfl,rfl,⟨[_],_,rfl,rfl,⟨[_],_,rfl,rfl,⟨[_],_,rfl,rfl,⟨[_],_,rfl,rfl,rfl⟩⟩⟩⟩⟩⟩,rfl⟩⟩⟩⟩
theorem ti:dC Tryz.prog 105 5 true:=⟨fun w=>by kernel_rfl,fun w=>by kernel_rfl⟩
theorem cG:dC Tryz.prog 107 15 true:=⟨fun w=>by kernel_rfl,fun w=>by kernel_rfl⟩
theorem fF:mB Tryz.prog 23 3 1 8:=.of (z:=(.int .i64 (0))) Tryz.underlying23 (by kernel_rfl) rfl rfl rfl
theorem NK:∀w,(zeroValue 216).run Tryz.prog w= .ok (.pointer none) w:=fun w=>by kernel_rfl
theorem P7:∀S w,(A.cells S w (.eq (.pointer none)) (Value.cells (.pointer none)).toList):=fun _ _=>⟨rfl,rfl⟩
theorem Pz:ag Tryz.prog 190:=ag.of Tryz.func190 (by kernel_rfl) (by kernel_rfl)
theorem yN:dC Tryz.prog 216 1 false:=⟨fun w=>by kernel_rfl,fun w=>by kernel_rfl⟩
theorem Ob:yt Tryz.prog 219 #[(0,1),(1,1)]:=⟨_,Tryz.underlying219,fun _=>by kernel_rfl⟩
theorem NJ:∀w,(zeroValue 219).run Tryz.prog w= .ok (.agg #[(.int .i64 (0)),(.pointer none)]) w:=fun w=>by kernel_rfl
theorem Nb:∀S w,(A.cells S w (.pair (.eq (.int .i64 (0:Int))) (.eq (.pointer none))) (Value.cells (.agg #[(.int .i64 (0)),(.pointer none)])).toList):=fun _ _=>⟨[_],_,rfl,⟨rfl,rfl⟩,⟨rfl,rfl⟩⟩
theorem Pn:ag Tryz.prog 208:=ag.of Tryz.func208 (by kernel_rfl) (by kernel_rfl)
theorem PH:ag Tryz.prog 157:=ag.of Tryz.func157 (by kernel_rfl) (by kernel_rfl)
theorem t7:aQ Tryz.prog 219 0 0:=aQ.of (by kernel_rfl)
theorem CZ:aQ Tryz.prog 219 1 1:=aQ.of (by kernel_rfl)
theorem PT:ag Tryz.prog 123:=ag.of Tryz.func123 (by kernel_rfl) (by kernel_rfl)
theorem jD:aQ Tryz.prog 173 0 0:=aQ.of (by kernel_rfl)
theorem PG:ag Tryz.prog 158:=ag.of Tryz.func158 (by kernel_rfl) (by kernel_rfl)
theorem C9:ag Tryz.prog 110:=ag.of Tryz.func110 (by kernel_rfl) (by kernel_rfl)
theorem PQ:ag Tryz.prog 128:=ag.of Tryz.func128 (by kernel_rfl) (by kernel_rfl)
theorem PR:ag Tryz.prog 127:=ag.of Tryz.func127 (by kernel_rfl) (by kernel_rfl)
theorem su:mB Tryz.prog 28 23 1 24:=.of (z:=(.slice none 0 0)) Tryz.underlying28 (by kernel_rfl) rfl rfl rfl
theorem BK:ag Tryz.prog 86:=ag.of Tryz.func86 (by kernel_rfl) (by kernel_rfl)
theorem QH:∀i z,Tryz.prog.info? 23=some i→i.zero=some z→∀S w,rd S w (.slice (.int .i64)) [] z.cells.toList:=Ll (z0:=(.slice none 0 0)) (by kernel_rfl) fun _ _=>.inl ⟨_,_,rfl,rfl⟩
theorem MR:ag Tryz.prog 35:=ag.of Tryz.func35 (by kernel_rfl) (by kernel_rfl)
theorem HA:ag Tryz.prog 84:=ag.of Tryz.func84 (by kernel_rfl) (by kernel_rfl)
theorem Pi:ag Tryz.prog 85:=ag.of Tryz.func85 (by kernel_rfl) (by kernel_rfl)
theorem JG:ag Tryz.prog 88:=ag.of Tryz.func88 (by kernel_rfl) (by kernel_rfl)
theorem JJ:ag Tryz.prog 37:=ag.of Tryz.func37 (by kernel_rfl) (by kernel_rfl)
theorem C0:aQ Tryz.prog 173 1 3:=aQ.of (by kernel_rfl)
theorem KJ:dC Tryz.prog 171 1 false:=⟨fun w=>by kernel_rfl,fun w=>by kernel_rfl⟩
theorem K9:ag Tryz.prog 105:=ag.of Tryz.func105 (by kernel_rfl) (by kernel_rfl)
theorem HC:ag Tryz.prog 111:=ag.of Tryz.func111 (by kernel_rfl) (by kernel_rfl)
theorem mO:dC Tryz.prog 102 1 false:=⟨fun w=>by kernel_rfl,fun w=>by kernel_rfl⟩
theorem P0:ag Tryz.prog 104:=ag.of Tryz.func104 (by kernel_rfl) (by kernel_rfl)
theorem PO:ag Tryz.prog 143:=ag.of Tryz.func143 (by kernel_rfl) (by kernel_rfl)
theorem RX:∀w,(zeroValue 3).run Tryz.prog w= .ok (.int .i64 0) w:=fun w=>by kernel_rfl
theorem Rb:ag Tryz.prog 97:=ag.of Tryz.func97 (by kernel_rfl) (by kernel_rfl)
theorem K8:ag Tryz.prog 107:=ag.of Tryz.func107 (by kernel_rfl) (by kernel_rfl)
theorem PL:ag Tryz.prog 146:=ag.of Tryz.func146 (by kernel_rfl) (by kernel_rfl)
theorem PE:ag Tryz.prog 183:=ag.of Tryz.func183 (by kernel_rfl) (by kernel_rfl)
theorem C6:ag Tryz.prog 189:=ag.of Tryz.func189 (by kernel_rfl) (by kernel_rfl)
theorem Px:ag Tryz.prog 202:=ag.of Tryz.func202 (by kernel_rfl) (by kernel_rfl)
theorem Po:ag Tryz.prog 206:=ag.of Tryz.func206 (by kernel_rfl) (by kernel_rfl)
theorem Py:ag Tryz.prog 196:=ag.of Tryz.func196 (by kernel_rfl) (by kernel_rfl)
theorem PC:ag Tryz.prog 185:=ag.of Tryz.func185 (by kernel_rfl) (by kernel_rfl)
theorem PD:ag Tryz.prog 184:=ag.of Tryz.func184 (by kernel_rfl) (by kernel_rfl)
theorem PN:ag Tryz.prog 144:=ag.of Tryz.func144 (by kernel_rfl) (by kernel_rfl)
theorem PM:ag Tryz.prog 145:=ag.of Tryz.func145 (by kernel_rfl) (by kernel_rfl)
theorem KD:∀w,(zeroValue 102).run Tryz.prog w= .ok (.pointer none) w:=fun w=>by kernel_rfl
theorem Lc:∀S w,(A.cells S w (.eq (.pointer none)) (Value.cells (.pointer none)).toList):=fun _ _=>⟨rfl,rfl⟩
theorem P1:ag Tryz.prog 103:=ag.of Tryz.func103 (by kernel_rfl) (by kernel_rfl)
theorem PX:ag Tryz.prog 109:=ag.of Tryz.func109 (by kernel_rfl) (by kernel_rfl)
theorem PY:ag Tryz.prog 108:=ag.of Tryz.func108 (by kernel_rfl) (by kernel_rfl)
theorem PZ:ag Tryz.prog 106:=ag.of Tryz.func106 (by kernel_rfl) (by kernel_rfl)
theorem N9:dC Tryz.prog 210 1 false:=⟨fun w=>by kernel_rfl,fun w=>by kernel_rfl⟩
theorem Ce:dC Tryz.prog 211 1 false:=⟨fun w=>by kernel_rfl,fun w=>by kernel_rfl⟩
theorem HB:ag Tryz.prog 149:=ag.of Tryz.func149 (by kernel_rfl) (by kernel_rfl)
theorem NL:∀w,(zeroValue 211).run Tryz.prog w= .ok .nilFunc w:=fun w=>by kernel_rfl
theorem P9:∀S w,(A.cells S w (.eq .nilFunc) (Value.cells .nilFunc).toList):=fun _ _=>⟨rfl,rfl⟩
theorem Fz:dC Tryz.prog 152 1 false:=⟨fun w=>by kernel_rfl,fun w=>by kernel_rfl⟩
theorem KO:mB Tryz.prog 152 107 15 120:=.of (z:=(.agg #[(.int .i64 (0)),(.int .i64 (0)),(.int .i64 (0)),(.int .i64 (0)),(.int .i64 (0)),(.int .i64 (0)),(.int .i64 (0)),(.int .i64 (0)),(.int .i64 (0)),(.int .i64 (0)),(.int .i64 (0)),(.int .i64 (0)),(.int .i64 (0)),(.int .i64 (0)),(.int .i64 (0))])) Tryz.underlying152 (by kernel_rfl) rfl rfl rfl
theorem K3:ag Tryz.prog 148:=ag.of Tryz.func148 (by kernel_rfl) (by kernel_rfl)
theorem PK:ag Tryz.prog 147:=ag.of Tryz.func147 (by kernel_rfl) (by kernel_rfl)
theorem K5:ag Tryz.prog 116:=ag.of Tryz.func116 (by kernel_rfl) (by kernel_rfl)
theorem PV:ag Tryz.prog 115:=ag.of Tryz.func115 (by kernel_rfl) (by kernel_rfl)
theorem PW:ag Tryz.prog 114:=ag.of Tryz.func114 (by kernel_rfl) (by kernel_rfl)
theorem lh:∀w,(zeroValue 25).run Tryz.prog w= .ok (.agg #[(.int .i64 (0)),(.slice none 0 0),(.slice none 0 0)]) w:=fun w=>by kernel_rfl
theorem nH:∀S w,(A.cells S w (.agg (.pair (.eq (.int .i64 (0:Int))) (.pair (.eq (.slice none 0 0)) (.eq (.slice none 0 0))))) (Value.cells (.agg #[(.int .i64 (0)),(.slice none 0 0),(.slice none 0 0)])).toList):=fun _ _=>⟨[_],_,rfl,⟨rfl,rfl⟩,⟨[_],_,rfl,⟨rfl,rfl⟩,⟨rfl,rfl⟩⟩⟩
theorem D8:yt Tryz.prog 27 #[(0,1),(1,1)]:=⟨_,Tryz.underlying27,fun _=>by kernel_rfl⟩
theorem wX:∀S w,(A.cells S w (.pair (.eq (.int .i64 (0:Int))) (.eq (.slice none 0 0))) (Value.cells (.agg #[(.int .i64 (0)),(.slice none 0 0)])).toList):=fun _ _=>⟨[_],_,rfl,⟨rfl,rfl⟩,⟨rfl,rfl⟩⟩
theorem FG:mB Tryz.prog 22 27 2 32:=.of (z:=(.agg #[(.int .i64 (0)),(.slice none 0 0)])) Tryz.underlying22 (by kernel_rfl) rfl rfl rfl
theorem IJ:yt Tryz.prog 25 #[(0,1),(1,1),(2,1)]:=⟨_,Tryz.underlying25,fun _=>by kernel_rfl⟩
theorem Df:∀S w,(A.cells S w (.pair (.eq (.int .i64 (0:Int))) (.pair (.eq (.slice none 0 0)) (.eq (.slice none 0 0)))) (Value.cells (.agg #[(.int .i64 (0)),(.slice none 0 0),(.slice none 0 0)])).toList):=fun _ _=>⟨[_],_,rfl,⟨rfl,rfl⟩,⟨[_],_,rfl,⟨rfl,rfl⟩,⟨rfl,rfl⟩⟩⟩
theorem EG:ag Tryz.prog 78:=ag.of Tryz.func78 (by kernel_rfl) (by kernel_rfl)
theorem JI:ag Tryz.prog 79:=ag.of Tryz.func79 (by kernel_rfl) (by kernel_rfl)
theorem Rt:ag Tryz.prog 31:=ag.of Tryz.func31 (by kernel_rfl) (by kernel_rfl)
theorem Rn:ag Tryz.prog 48:=ag.of Tryz.func48 (by kernel_rfl) (by kernel_rfl)
theorem Pl:ag Tryz.prog 56:=ag.of Tryz.func56 (by kernel_rfl) (by kernel_rfl)
theorem Rj:ag Tryz.prog 80:=ag.of Tryz.func80 (by kernel_rfl) (by kernel_rfl)
theorem Rr:ag Tryz.prog 40:=ag.of Tryz.func40 (by kernel_rfl) (by kernel_rfl)
theorem Rq:ag Tryz.prog 42:=ag.of Tryz.func42 (by kernel_rfl) (by kernel_rfl)
theorem Rl:ag Tryz.prog 67:=ag.of Tryz.func67 (by kernel_rfl) (by kernel_rfl)
theorem MQ:ag Tryz.prog 38:=ag.of Tryz.func38 (by kernel_rfl) (by kernel_rfl)
theorem QP:yt Tryz.prog 98 #[(0,1),(1,1),(2,1)]:=⟨_,Tryz.underlying98,fun _=>by kernel_rfl⟩
theorem QI:∀w,(zeroValue 98).run Tryz.prog w= .ok (.agg #[(.slice none 0 0),(.int .i64 (0)),(.int .u64 (0))]) w:=fun w=>by kernel_rfl
theorem P6:∀S w,(A.cells S w (.pair (.eq (.slice none 0 0)) (.pair (.eq (.int .i64 (0:Int))) (.eq (.int .u64 (0:Int))))) (Value.cells (.agg #[(.slice none 0 0),(.int .i64 (0)),(.int .u64 (0))])).toList):=fun _ _=>⟨[_],_,rfl,⟨rfl,rfl⟩,⟨[_],_,rfl,⟨rfl,rfl⟩,⟨rfl,rfl⟩⟩⟩
theorem BL:ag Tryz.prog 55:=ag.of Tryz.func55 (by kernel_rfl) (by kernel_rfl)
theorem sV:aQ Tryz.prog 98 2 2:=aQ.of (by kernel_rfl)
theorem DU:dC Tryz.prog 96 1 false:=⟨fun w=>by kernel_rfl,fun w=>by kernel_rfl⟩
theorem xZ:aQ Tryz.prog 98 1 1:=aQ.of (by kernel_rfl)
theorem Ho:aQ Tryz.prog 98 0 0:=aQ.of (by kernel_rfl)
theorem Rh:ag Tryz.prog 82:=ag.of Tryz.func82 (by kernel_rfl) (by kernel_rfl)
theorem MU:ag Tryz.prog 28:=ag.of Tryz.func28 (by kernel_rfl) (by kernel_rfl)
theorem MP:ag Tryz.prog 51:=ag.of Tryz.func51 (by kernel_rfl) (by kernel_rfl)
theorem K7:ag Tryz.prog 112:=ag.of Tryz.func112 (by kernel_rfl) (by kernel_rfl)
theorem K6:ag Tryz.prog 113:=ag.of Tryz.func113 (by kernel_rfl) (by kernel_rfl)
theorem Rm:ag Tryz.prog 49:=ag.of Tryz.func49 (by kernel_rfl) (by kernel_rfl)
theorem Ru:ag Tryz.prog 29:=ag.of Tryz.func29 (by kernel_rfl) (by kernel_rfl)
theorem Pm:ag Tryz.prog 25:=ag.of Tryz.func25 (by kernel_rfl) (by kernel_rfl)
theorem Rw:ag Tryz.prog 26:=ag.of Tryz.func26 (by kernel_rfl) (by kernel_rfl)
theorem Ro:ag Tryz.prog 45:=ag.of Tryz.func45 (by kernel_rfl) (by kernel_rfl)
theorem PU:ag Tryz.prog 118:=ag.of Tryz.func118 (by kernel_rfl) (by kernel_rfl)
theorem PI:ag Tryz.prog 155:=ag.of Tryz.func155 (by kernel_rfl) (by kernel_rfl)
theorem QJ:∀w,(zeroValue 23).run Tryz.prog w= .ok (.slice none 0 0) w:=fun w=>by kernel_rfl
theorem Rz:∀S w,(A.cells S w (.eq (.slice none 0 0)) (Value.cells (.slice none 0 0)).toList):=fun _ _=>⟨rfl,rfl⟩
theorem RY:∀w,(zeroValue 4).run Tryz.prog w= .ok (.bool false) w:=fun w=>by kernel_rfl
theorem Sl:∀S w,(A.cells S w (.eq (.bool false)) (Value.cells (.bool false)).toList):=fun _ _=>⟨rfl,rfl⟩
theorem Qv:dC Tryz.prog 4 1 false:=⟨fun w=>by kernel_rfl,fun w=>by kernel_rfl⟩
theorem PS:ag Tryz.prog 124:=ag.of Tryz.func124 (by kernel_rfl) (by kernel_rfl)
theorem Rk:ag Tryz.prog 75:=ag.of Tryz.func75 (by kernel_rfl) (by kernel_rfl)
theorem Pj:ag Tryz.prog 77:=ag.of Tryz.func77 (by kernel_rfl) (by kernel_rfl)
abbrev Rs(t:Ty)(l:(Ty.slice t).den):A:=.rep (.slice t) l
abbrev Pv(b:Nat):Value:=.pointer (some ⟨b,0,none⟩)
abbrev J9:= @Tryz.underlying105
abbrev EN:= @Tryz.underlying107
abbrev EM:= @Tryz.underlying118
abbrev RG:= @Tryz.underlying121
abbrev RF:= @Tryz.underlying123
abbrev RE:= @Tryz.underlying128
abbrev Nk:= @Tryz.underlying129
abbrev RD:= @Tryz.underlying131
abbrev Qi:= @Tryz.underlying152
abbrev RB:= @Tryz.underlying170
abbrev Qh:= @Tryz.underlying171
abbrev Sr:= @Tryz.underlying21
abbrev RA:= @Tryz.underlying216
abbrev Aj:= @Tryz.underlying22
abbrev fC:= @Tryz.underlying23
abbrev nI:= @Tryz.underlying28
abbrev U3:= @Tryz.underlying3
abbrev U5:= @Tryz.underlying5
abbrev Sm:= @Tryz.underlying86
abbrev U9:= @Tryz.underlying9
abbrev QD:= @Tryz.underlying96
theorem mr:false=false→1=1:=fun _=>rfl
end Go.Proofs.YtcnpijmfgfnpiaaGreatDoor
