import Derived.Test.YtcnpijmfgfnpiaaGreatDoorB5
import Derived.Test.YtcnpijmfgfnpiaaGreatDoorProg
namespace Go.Proofs.YtcnpijmfgfnpiaaGreatDoor
open K Go Go.Proofs
theorem d3:Tryz.prog.follows .mixedOrders=true:=by kernel_rfl
theorem uA{n:Nat}:true=false→n=1:=fun h=>nomatch h
def H2:ByteArray:=⟨#[0,1,2,2,3,3,3,3,4,4,4,4,4,4,4,4,5,5,5,5,5,5,5,5,5,5,5,5,5,5,5,5,6,6,6,6,6,6,6,6,6,6,6,6,6,6,6,6,6,6,6,6,6,6,6,6,6,6,6,6,6,6,6,6,7,7,7,7,7,7,7,7,7,7,7,7,7,7,7,7,7,7,7,7,7,7,7,7,7,7,7,7,7,7,7,7,7,7,7,7,7,7,7,7,7,7,7,7,7,7,7,7,7,7,7,7,7,7,7,7,7,7,7,7,7,7,7,7,8,8,8,8,8,8,8,8,8,8,8,8,8,8,8,8,8,8,8,8,8,8,8,8,8,8,8,8,8,8,8,8,8,8,8,8,8,8,8,8,8,8,8,8,8,8,8,8,8,8,8,8,8,8,8,8,8,8,8,8,8,8,8,8,8,8,8,8,8,8,8,8,8,8,8,8,8,8,8,8,8,8,8,8,8,8,8,8,8,8,8,8,8,8,8,8,8,8,8,8,8,8,8,8,8,8,8,8,8,8,8,8,8,8,8,8,8,8,8,8,8,8,8,8,8,8,8,8]⟩
@[reducible] def cF:Ty:=.agg (.pair (.int .i64) (.slice (.int .i64)))
abbrev ll:=(Int×(List Int))
@[reducible] def aD:Ty:=.agg (.pair (.int .i64) (.pair (.slice cF) (.slice (.int .i64))))
abbrev aZ:=(Int×((List ll)×(List Int)))
@[reducible] def Qw:Ty:=.agg (.pair (.slice (.int .i64)) (.pair (.int .i64) (.int .u64)))
abbrev bv:=((List Int)×(Int×Int))
@[reducible] def Pm:Ty:=.agg (.int .i64)
@[reducible] def bB:Ty:=.agg (.pair aD .ign)
abbrev cR:=(aZ×Unit)
@[reducible] def QF:Ty:=.agg (.pair (.ptr bB) (.slice (.slice (.int .i64))))
@[reducible] def LM:Ty:=.agg (.pair (.int .i64) (.int .i64))
@[reducible] def D6:Ty:=.agg (.pair (.int .i64) (.lst (.int .i64)))
@[reducible] def Pn:Ty:=.agg (.pair .val (.pair .val (.int .u64)))
theorem eA:aU Tryz.prog 25 1 1:=aU.of (by kernel_rfl)
theorem kj:du Tryz.prog 22 1 false:=⟨fun w=>by kernel_rfl,fun w=>by kernel_rfl⟩
theorem fD:aU Tryz.prog 25 2 2:=aU.of (by kernel_rfl)
theorem cm:du Tryz.prog 23 1 false:=⟨fun w=>by kernel_rfl,fun w=>by kernel_rfl⟩
theorem mP:du Tryz.prog 27 2 true:=⟨fun w=>by kernel_rfl,fun w=>by kernel_rfl⟩
theorem pU:aU Tryz.prog 27 1 1:=aU.of (by kernel_rfl)
theorem nZ:aU Tryz.prog 27 0 0:=aU.of (by kernel_rfl)
theorem cI:du Tryz.prog 3 1 false:=⟨fun w=>by kernel_rfl,fun w=>by kernel_rfl⟩
theorem yO:ag Tryz.prog 83:=ag.of Tryz.func83 (by kernel_rfl) (by kernel_rfl)
theorem lW:aU Tryz.prog 25 0 0:=aU.of (by kernel_rfl)
theorem vU:∀w,(zeroValue 27).run Tryz.prog w= .ok (.agg #[(.int .i64 (0)),(.slice none 0 0)]) w:=fun w=>by kernel_rfl
theorem IO:∀S w,(A.cells S w (.agg (.pair (.eq (.int .i64 (0:Int))) (.eq (.slice none 0 0)))) (Value.cells (.agg #[(.int .i64 (0)),(.slice none 0 0)])).toList):=fun _ _=>⟨[_],_,rfl,⟨rfl,rfl⟩,⟨rfl,rfl⟩⟩
theorem hH:du Tryz.prog 25 3 true:=⟨fun w=>by kernel_rfl,fun w=>by kernel_rfl⟩
theorem P3:ag Tryz.prog 92:=ag.of Tryz.func92 (by kernel_rfl) (by kernel_rfl)
theorem vf:xf Tryz.prog 118 #[(0,1)]:=⟨_,Tryz.underlying118,fun _=>by kernel_rfl⟩
theorem ta:∀w,(zeroValue 118).run Tryz.prog w= .ok (.agg #[(.int .i64 (0))]) w:=fun w=>by kernel_rfl
theorem so:∀S w,(A.cells S w (.eq (.int .i64 (0:Int))) (Value.cells (.agg #[(.int .i64 (0))])).toList):=fun _ _=>⟨rfl,rfl⟩
theorem Iw:ag Tryz.prog 87:=ag.of Tryz.func87 (by kernel_rfl) (by kernel_rfl)
theorem Bg:ag Tryz.prog 134:=ag.of Tryz.func134 (by kernel_rfl) (by kernel_rfl)
theorem Jw:ag Tryz.prog 135:=ag.of Tryz.func135 (by kernel_rfl) (by kernel_rfl)
theorem NV:ag Tryz.prog 33:=ag.of Tryz.func33 (by kernel_rfl) (by kernel_rfl)
theorem OJ:∀S w,(A.cells S w (.agg (.eq (.int .i64 (0:Int)))) (Value.cells (.agg #[(.int .i64 (0))])).toList):=fun _ _=>⟨rfl,rfl⟩
theorem P1:ag Tryz.prog 94:=ag.of Tryz.func94 (by kernel_rfl) (by kernel_rfl)
theorem Ir:aU Tryz.prog 118 0 0:=aU.of (by kernel_rfl)
theorem Px:du Tryz.prog 41 1 false:=⟨fun w=>by kernel_rfl,fun w=>by kernel_rfl⟩
theorem l9:∀w,(zeroValue 107).run Tryz.prog w= .ok (.agg #[(.int .i64 (0)),(.int .i64 (0)),(.int .i64 (0)),(.int .i64 (0)),(.int .i64 (0)),(.int .i64 (0)),(.int .i64 (0)),(.int .i64 (0)),(.int .i64 (0)),(.int .i64 (0)),(.int .i64 (0)),(.int .i64 (0)),(.int .i64 (0)),(.int .i64 (0)),(.int .i64 (0))]) w:=fun w=>by kernel_rfl
theorem mJ:∀S w,(A.cells S w (.rep (.arr 3 (.arr 5 (.int .i64))) [[(0:Int),(0:Int),(0:Int),(0:Int),(0:Int)],[(0:Int),(0:Int),(0:Int),(0:Int),(0:Int)],[(0:Int),(0:Int),(0:Int),(0:Int),(0:Int)]]) (Value.cells (.agg #[(.int .i64 (0)),(.int .i64 (0)),(.int .i64 (0)),(.int .i64 (0)),(.int .i64 (0)),(.int .i64 (0)),(.int .i64 (0)),(.int .i64 (0)),(.int .i64 (0)),(.int .i64 (0)),(.int .i64 (0)),(.int .i64 (0)),(.int .i64 (0)),(.int .i64 (0)),(.int .i64 (0))])).toList):=fun _ _=>⟨rfl,⟨[_,_,_,_,_],_,rfl,⟨rfl,⟨[_],_,rfl,rfl,⟨[_],_,rfl,rfl,⟨[_],_,rfl,rfl,⟨[_],_,rfl,rfl,⟨[_],_,rfl,rfl,rfl⟩⟩⟩⟩⟩⟩,⟨[_,_,_,_,_],_,rfl,⟨rfl,⟨[_],_,rfl,rfl,⟨[_],_,rfl,rfl,⟨[_],_,rfl,rfl,⟨[_],_,rfl,rfl,⟨[_],_,rfl,rfl,rfl⟩⟩⟩⟩⟩⟩,⟨[_,_,_,_,_],_,rfl,⟨rfl,⟨[_],_,rfl,rfl,⟨[_],_,rfl,rfl,⟨[_],_,rfl,rfl,⟨[_],_,rfl,rfl,⟨[_],_,rfl,rfl,rfl⟩⟩⟩⟩⟩⟩,rfl⟩⟩⟩⟩
theorem xJ:du Tryz.prog 105 5 true:=⟨fun w=>by kernel_rfl,fun w=>by kernel_rfl⟩
theorem cP:du Tryz.prog 107 15 true:=⟨fun w=>by kernel_rfl,fun w=>by kernel_rfl⟩
theorem eh:lZ Tryz.prog 23 3 1 8:=.of (z:=(.int .i64 (0))) Tryz.underlying23 (by kernel_rfl) rfl rfl rfl
theorem LU:∀w,(zeroValue 216).run Tryz.prog w= .ok (.pointer none) w:=fun w=>by kernel_rfl
theorem OE:∀S w,(A.cells S w (.eq (.pointer none)) (Value.cells (.pointer none)).toList):=fun _ _=>⟨rfl,rfl⟩
theorem N5:ag Tryz.prog 190:=ag.of Tryz.func190 (by kernel_rfl) (by kernel_rfl)
theorem xH:du Tryz.prog 216 1 false:=⟨fun w=>by kernel_rfl,fun w=>by kernel_rfl⟩
theorem ML:xf Tryz.prog 219 #[(0,1),(1,1)]:=⟨_,Tryz.underlying219,fun _=>by kernel_rfl⟩
theorem LS:∀w,(zeroValue 219).run Tryz.prog w= .ok (.agg #[(.int .i64 (0)),(.pointer none)]) w:=fun w=>by kernel_rfl
theorem Ln:∀S w,(A.cells S w (.pair (.eq (.int .i64 (0:Int))) (.eq (.pointer none))) (Value.cells (.agg #[(.int .i64 (0)),(.pointer none)])).toList):=fun _ _=>⟨[_],_,rfl,⟨rfl,rfl⟩,⟨rfl,rfl⟩⟩
theorem NY:ag Tryz.prog 208:=ag.of Tryz.func208 (by kernel_rfl) (by kernel_rfl)
theorem Oa:ag Tryz.prog 157:=ag.of Tryz.func157 (by kernel_rfl) (by kernel_rfl)
theorem s5:aU Tryz.prog 219 0 0:=aU.of (by kernel_rfl)
theorem Ba:aU Tryz.prog 219 1 1:=aU.of (by kernel_rfl)
theorem Om:ag Tryz.prog 123:=ag.of Tryz.func123 (by kernel_rfl) (by kernel_rfl)
theorem jm:aU Tryz.prog 173 0 0:=aU.of (by kernel_rfl)
theorem N9:ag Tryz.prog 158:=ag.of Tryz.func158 (by kernel_rfl) (by kernel_rfl)
theorem Bh:ag Tryz.prog 110:=ag.of Tryz.func110 (by kernel_rfl) (by kernel_rfl)
theorem Oj:ag Tryz.prog 128:=ag.of Tryz.func128 (by kernel_rfl) (by kernel_rfl)
theorem Ol:ag Tryz.prog 127:=ag.of Tryz.func127 (by kernel_rfl) (by kernel_rfl)
theorem tw:lZ Tryz.prog 28 23 1 24:=.of (z:=(.slice none 0 0)) Tryz.underlying28 (by kernel_rfl) rfl rfl rfl
theorem C5:ag Tryz.prog 86:=ag.of Tryz.func86 (by kernel_rfl) (by kernel_rfl)
theorem Pj:∀i z,Tryz.prog.info? 23=some i→i.zero=some z→∀S w,rd S w (.slice (.int .i64)) [] z.cells.toList:=DG (z0:=(.slice none 0 0)) (by kernel_rfl) fun _ _=>.inl ⟨_,_,rfl,rfl⟩
theorem Iz:ag Tryz.prog 35:=ag.of Tryz.func35 (by kernel_rfl) (by kernel_rfl)
theorem Ix:ag Tryz.prog 84:=ag.of Tryz.func84 (by kernel_rfl) (by kernel_rfl)
theorem NS:ag Tryz.prog 85:=ag.of Tryz.func85 (by kernel_rfl) (by kernel_rfl)
theorem K3:ag Tryz.prog 88:=ag.of Tryz.func88 (by kernel_rfl) (by kernel_rfl)
theorem Gf:ag Tryz.prog 37:=ag.of Tryz.func37 (by kernel_rfl) (by kernel_rfl)
theorem Bc:aU Tryz.prog 173 1 3:=aU.of (by kernel_rfl)
theorem Jf:du Tryz.prog 171 1 false:=⟨fun w=>by kernel_rfl,fun w=>by kernel_rfl⟩
theorem JB:ag Tryz.prog 105:=ag.of Tryz.func105 (by kernel_rfl) (by kernel_rfl)
theorem Jz:ag Tryz.prog 111:=ag.of Tryz.func111 (by kernel_rfl) (by kernel_rfl)
theorem qu:du Tryz.prog 102 1 false:=⟨fun w=>by kernel_rfl,fun w=>by kernel_rfl⟩
theorem Oy:ag Tryz.prog 104:=ag.of Tryz.func104 (by kernel_rfl) (by kernel_rfl)
theorem Oh:ag Tryz.prog 143:=ag.of Tryz.func143 (by kernel_rfl) (by kernel_rfl)
theorem QE:∀w,(zeroValue 3).run Tryz.prog w= .ok (.int .i64 0) w:=fun w=>by kernel_rfl
theorem PY:ag Tryz.prog 97:=ag.of Tryz.func97 (by kernel_rfl) (by kernel_rfl)
theorem JA:ag Tryz.prog 107:=ag.of Tryz.func107 (by kernel_rfl) (by kernel_rfl)
theorem Oe:ag Tryz.prog 146:=ag.of Tryz.func146 (by kernel_rfl) (by kernel_rfl)
theorem N8:ag Tryz.prog 183:=ag.of Tryz.func183 (by kernel_rfl) (by kernel_rfl)
theorem Jv:ag Tryz.prog 189:=ag.of Tryz.func189 (by kernel_rfl) (by kernel_rfl)
theorem N3:ag Tryz.prog 202:=ag.of Tryz.func202 (by kernel_rfl) (by kernel_rfl)
theorem NZ:ag Tryz.prog 206:=ag.of Tryz.func206 (by kernel_rfl) (by kernel_rfl)
theorem N4:ag Tryz.prog 196:=ag.of Tryz.func196 (by kernel_rfl) (by kernel_rfl)
theorem N6:ag Tryz.prog 185:=ag.of Tryz.func185 (by kernel_rfl) (by kernel_rfl)
theorem N7:ag Tryz.prog 184:=ag.of Tryz.func184 (by kernel_rfl) (by kernel_rfl)
theorem Og:ag Tryz.prog 144:=ag.of Tryz.func144 (by kernel_rfl) (by kernel_rfl)
theorem Of:ag Tryz.prog 145:=ag.of Tryz.func145 (by kernel_rfl) (by kernel_rfl)
theorem L0:∀w,(zeroValue 102).run Tryz.prog w= .ok (.pointer none) w:=fun w=>by kernel_rfl
theorem OK:∀S w,(A.cells S w (.eq (.pointer none)) (Value.cells (.pointer none)).toList):=fun _ _=>⟨rfl,rfl⟩
theorem Oz:ag Tryz.prog 103:=ag.of Tryz.func103 (by kernel_rfl) (by kernel_rfl)
theorem Ou:ag Tryz.prog 109:=ag.of Tryz.func109 (by kernel_rfl) (by kernel_rfl)
theorem Ov:ag Tryz.prog 108:=ag.of Tryz.func108 (by kernel_rfl) (by kernel_rfl)
theorem Ox:ag Tryz.prog 106:=ag.of Tryz.func106 (by kernel_rfl) (by kernel_rfl)
theorem MH:du Tryz.prog 210 1 false:=⟨fun w=>by kernel_rfl,fun w=>by kernel_rfl⟩
theorem AQ:du Tryz.prog 211 1 false:=⟨fun w=>by kernel_rfl,fun w=>by kernel_rfl⟩
theorem Gh:ag Tryz.prog 149:=ag.of Tryz.func149 (by kernel_rfl) (by kernel_rfl)
theorem LV:∀w,(zeroValue 211).run Tryz.prog w= .ok .nilFunc w:=fun w=>by kernel_rfl
theorem OF:∀S w,(A.cells S w (.eq .nilFunc) (Value.cells .nilFunc).toList):=fun _ _=>⟨rfl,rfl⟩
theorem Ea:du Tryz.prog 152 1 false:=⟨fun w=>by kernel_rfl,fun w=>by kernel_rfl⟩
theorem Ji:lZ Tryz.prog 152 107 15 120:=.of (z:=(.agg #[(.int .i64 (0)),(.int .i64 (0)),(.int .i64 (0)),(.int .i64 (0)),(.int .i64 (0)),(.int .i64 (0)),(.int .i64 (0)),(.int .i64 (0)),(.int .i64 (0)),(.int .i64 (0)),(.int .i64 (0)),(.int .i64 (0)),(.int .i64 (0)),(.int .i64 (0)),(.int .i64 (0))])) Tryz.underlying152 (by kernel_rfl) rfl rfl rfl
theorem Ob:ag Tryz.prog 148:=ag.of Tryz.func148 (by kernel_rfl) (by kernel_rfl)
theorem Oc:ag Tryz.prog 147:=ag.of Tryz.func147 (by kernel_rfl) (by kernel_rfl)
theorem Oo:ag Tryz.prog 116:=ag.of Tryz.func116 (by kernel_rfl) (by kernel_rfl)
theorem Oq:ag Tryz.prog 115:=ag.of Tryz.func115 (by kernel_rfl) (by kernel_rfl)
theorem Ot:ag Tryz.prog 114:=ag.of Tryz.func114 (by kernel_rfl) (by kernel_rfl)
theorem xl:∀w,(zeroValue 25).run Tryz.prog w= .ok (.agg #[(.int .i64 (0)),(.slice none 0 0),(.slice none 0 0)]) w:=fun w=>by kernel_rfl
theorem Dj:∀S w,(A.cells S w (.agg (.pair (.eq (.int .i64 (0:Int))) (.pair (.eq (.slice none 0 0)) (.eq (.slice none 0 0))))) (Value.cells (.agg #[(.int .i64 (0)),(.slice none 0 0),(.slice none 0 0)])).toList):=fun _ _=>⟨[_],_,rfl,⟨rfl,rfl⟩,⟨[_],_,rfl,⟨rfl,rfl⟩,⟨rfl,rfl⟩⟩⟩
theorem Es:xf Tryz.prog 27 #[(0,1),(1,1)]:=⟨_,Tryz.underlying27,fun _=>by kernel_rfl⟩
theorem yY:∀S w,(A.cells S w (.pair (.eq (.int .i64 (0:Int))) (.eq (.slice none 0 0))) (Value.cells (.agg #[(.int .i64 (0)),(.slice none 0 0)])).toList):=fun _ _=>⟨[_],_,rfl,⟨rfl,rfl⟩,⟨rfl,rfl⟩⟩
theorem JW:lZ Tryz.prog 22 27 2 32:=.of (z:=(.agg #[(.int .i64 (0)),(.slice none 0 0)])) Tryz.underlying22 (by kernel_rfl) rfl rfl rfl
theorem MK:xf Tryz.prog 25 #[(0,1),(1,1),(2,1)]:=⟨_,Tryz.underlying25,fun _=>by kernel_rfl⟩
theorem JG:∀S w,(A.cells S w (.pair (.eq (.int .i64 (0:Int))) (.pair (.eq (.slice none 0 0)) (.eq (.slice none 0 0)))) (Value.cells (.agg #[(.int .i64 (0)),(.slice none 0 0),(.slice none 0 0)])).toList):=fun _ _=>⟨[_],_,rfl,⟨rfl,rfl⟩,⟨[_],_,rfl,⟨rfl,rfl⟩,⟨rfl,rfl⟩⟩⟩
theorem C6:ag Tryz.prog 78:=ag.of Tryz.func78 (by kernel_rfl) (by kernel_rfl)
theorem Iy:ag Tryz.prog 79:=ag.of Tryz.func79 (by kernel_rfl) (by kernel_rfl)
theorem NW:ag Tryz.prog 31:=ag.of Tryz.func31 (by kernel_rfl) (by kernel_rfl)
theorem Qb:ag Tryz.prog 48:=ag.of Tryz.func48 (by kernel_rfl) (by kernel_rfl)
theorem P9:ag Tryz.prog 56:=ag.of Tryz.func56 (by kernel_rfl) (by kernel_rfl)
theorem P6:ag Tryz.prog 80:=ag.of Tryz.func80 (by kernel_rfl) (by kernel_rfl)
theorem Qf:ag Tryz.prog 40:=ag.of Tryz.func40 (by kernel_rfl) (by kernel_rfl)
theorem Qe:ag Tryz.prog 42:=ag.of Tryz.func42 (by kernel_rfl) (by kernel_rfl)
theorem P7:ag Tryz.prog 67:=ag.of Tryz.func67 (by kernel_rfl) (by kernel_rfl)
theorem NU:ag Tryz.prog 38:=ag.of Tryz.func38 (by kernel_rfl) (by kernel_rfl)
theorem Pz:xf Tryz.prog 98 #[(0,1),(1,1),(2,1)]:=⟨_,Tryz.underlying98,fun _=>by kernel_rfl⟩
theorem Pl:∀w,(zeroValue 98).run Tryz.prog w= .ok (.agg #[(.slice none 0 0),(.int .i64 (0)),(.int .u64 (0))]) w:=fun w=>by kernel_rfl
theorem OD:∀S w,(A.cells S w (.pair (.eq (.slice none 0 0)) (.pair (.eq (.int .i64 (0:Int))) (.eq (.int .u64 (0:Int))))) (Value.cells (.agg #[(.slice none 0 0),(.int .i64 (0)),(.int .u64 (0))])).toList):=fun _ _=>⟨[_],_,rfl,⟨rfl,rfl⟩,⟨[_],_,rfl,⟨rfl,rfl⟩,⟨rfl,rfl⟩⟩⟩
theorem sa:aU Tryz.prog 98 2 2:=aU.of (by kernel_rfl)
theorem BR:du Tryz.prog 96 1 false:=⟨fun w=>by kernel_rfl,fun w=>by kernel_rfl⟩
theorem wN:aU Tryz.prog 98 1 1:=aU.of (by kernel_rfl)
theorem F3:aU Tryz.prog 98 0 0:=aU.of (by kernel_rfl)
theorem P4:ag Tryz.prog 82:=ag.of Tryz.func82 (by kernel_rfl) (by kernel_rfl)
theorem Gg:ag Tryz.prog 28:=ag.of Tryz.func28 (by kernel_rfl) (by kernel_rfl)
theorem K4:ag Tryz.prog 51:=ag.of Tryz.func51 (by kernel_rfl) (by kernel_rfl)
theorem Jy:ag Tryz.prog 112:=ag.of Tryz.func112 (by kernel_rfl) (by kernel_rfl)
theorem Jx:ag Tryz.prog 113:=ag.of Tryz.func113 (by kernel_rfl) (by kernel_rfl)
theorem LR:∀i z,Tryz.prog.info? 23=some i→i.zero=some z→∀S w,rd S w .val (.slice none 0 0) z.cells.toList:=DG (t:=.val) (z0:=(.slice none 0 0)) (by kernel_rfl) fun _ _=>⟨rfl,rfl⟩
theorem P8:ag Tryz.prog 63:=ag.of Tryz.func63 (by kernel_rfl) (by kernel_rfl)
theorem On:ag Tryz.prog 122:=ag.of Tryz.func122 (by kernel_rfl) (by kernel_rfl)
theorem F9:ag Tryz.prog 90:=ag.of Tryz.func90 (by kernel_rfl) (by kernel_rfl)
theorem Qh:ag Tryz.prog 34:=ag.of Tryz.func34 (by kernel_rfl) (by kernel_rfl)
theorem P0:ag Tryz.prog 95:=ag.of Tryz.func95 (by kernel_rfl) (by kernel_rfl)
theorem PZ:ag Tryz.prog 96:=ag.of Tryz.func96 (by kernel_rfl) (by kernel_rfl)
theorem Qg:ag Tryz.prog 36:=ag.of Tryz.func36 (by kernel_rfl) (by kernel_rfl)
theorem Qa:ag Tryz.prog 49:=ag.of Tryz.func49 (by kernel_rfl) (by kernel_rfl)
theorem P5:ag Tryz.prog 81:=ag.of Tryz.func81 (by kernel_rfl) (by kernel_rfl)
theorem NT:ag Tryz.prog 45:=ag.of Tryz.func45 (by kernel_rfl) (by kernel_rfl)
theorem K5:ag Tryz.prog 46:=ag.of Tryz.func46 (by kernel_rfl) (by kernel_rfl)
theorem Qi:ag Tryz.prog 26:=ag.of Tryz.func26 (by kernel_rfl) (by kernel_rfl)
theorem Qd:ag Tryz.prog 44:=ag.of Tryz.func44 (by kernel_rfl) (by kernel_rfl)
theorem NX:ag Tryz.prog 25:=ag.of Tryz.func25 (by kernel_rfl) (by kernel_rfl)
theorem Qc:ag Tryz.prog 47:=ag.of Tryz.func47 (by kernel_rfl) (by kernel_rfl)
abbrev Rs(t:Ty)(l:(Ty.slice t).den):A:=.rep (.slice t) l
abbrev Pv(b:Nat):Value:=.pointer (some ⟨b,0,none⟩)
abbrev IV:= @Tryz.underlying105
abbrev IU:= @Tryz.underlying107
abbrev Dk:= @Tryz.underlying118
abbrev Qq:= @Tryz.underlying121
abbrev Qp:= @Tryz.underlying123
abbrev Qo:= @Tryz.underlying128
abbrev Ls:= @Tryz.underlying129
abbrev Qn:= @Tryz.underlying131
abbrev OP:= @Tryz.underlying152
abbrev Qm:= @Tryz.underlying170
abbrev OO:= @Tryz.underlying171
abbrev QM:= @Tryz.underlying21
abbrev Ql:= @Tryz.underlying216
abbrev sH:= @Tryz.underlying22
abbrev dW:= @Tryz.underlying23
abbrev lP:= @Tryz.underlying28
abbrev U3:= @Tryz.underlying3
abbrev U4:= @Tryz.underlying4
abbrev U5:= @Tryz.underlying5
abbrev QL:= @Tryz.underlying86
abbrev U9:= @Tryz.underlying9
abbrev O7:= @Tryz.underlying96
theorem mY:false=false→1=1:=fun _=>rfl
end Go.Proofs.YtcnpijmfgfnpiaaGreatDoor
