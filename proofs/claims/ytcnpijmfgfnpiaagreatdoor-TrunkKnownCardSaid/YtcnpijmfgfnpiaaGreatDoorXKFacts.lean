import Derived.Test.YtcnpijmfgfnpiaaGreatDoorXKB5
import Derived.Test.YtcnpijmfgfnpiaaGreatDoorProg
set_option linter.unusedVariables false
set_option linter.unusedSimpArgs false
namespace Go.Proofs.YtcnpijmfgfnpiaaGreatDoor
open K Go Go.Proofs
theorem gz:Tryz.prog.follows .mixedOrders=true:=by kernel_rfl
theorem sS{n:Nat}:true=false→n=1:=fun h=>nomatch h
def EI:ByteArray:=⟨#[0,1,2,2,3,3,3,3,4,4,4,4,4,4,4,4,5,5,5,5,5,5,5,5,5,5,5,5,5,5,5,5,6,6,6,6,6,6,6,6,6,6,6,6,6,6,6,6,6,6,6,6,6,6,6,6,6,6,6,6,6,6,6,6,7,7,7,7,7,7,7,7,7,7,7,7,7,7,7,7,7,7,7,7,7,7,7,7,7,7,7,7,7,7,7,7,7,7,7,7,7,7,7,7,7,7,7,7,7,7,7,7,7,7,7,7,7,7,7,7,7,7,7,7,7,7,7,7,8,8,8,8,8,8,8,8,8,8,8,8,8,8,8,8,8,8,8,8,8,8,8,8,8,8,8,8,8,8,8,8,8,8,8,8,8,8,8,8,8,8,8,8,8,8,8,8,8,8,8,8,8,8,8,8,8,8,8,8,8,8,8,8,8,8,8,8,8,8,8,8,8,8,8,8,8,8,8,8,8,8,8,8,8,8,8,8,8,8,8,8,8,8,8,8,8,8,8,8,8,8,8,8,8,8,8,8,8,8,8,8,8,8,8,8,8,8,8,8,8,8,8,8,8,8,8,8]⟩
@[reducible] def c6:Ty:=.agg (.pair (.int .i64) (.slice (.int .i64)))
abbrev zh:=(Int×(List Int))
@[reducible] def aL:Ty:=.agg (.pair (.int .i64) (.pair (.slice c6) (.slice (.int .i64))))
abbrev bC:=(Int×((List zh)×(List Int)))
@[reducible] def L9:Ty:=.agg (.pair (.slice (.int .i64)) (.pair (.int .i64) (.int .u64)))
@[reducible] def La:Ty:=.agg (.int .i64)
@[reducible] def bp:Ty:=.agg (.pair aL .ign)
abbrev cI:=(bC×Unit)
@[reducible] def ML:Ty:=.agg (.pair (.ptr bp) (.slice (.slice (.int .i64))))
@[reducible] def Ig:Ty:=.agg (.pair (.int .i64) (.int .i64))
@[reducible] def A5:Ty:=.agg (.pair (.int .i64) (.lst (.int .i64)))
@[reducible] def Lc:Ty:=.agg (.pair .val (.pair .val (.int .u64)))
theorem ik:aY Tryz.prog 25 1 1:=aY.of (by kernel_rfl)
theorem oS:dc Tryz.prog 22 1 false:=⟨fun w=>by kernel_rfl,fun w=>by kernel_rfl⟩
theorem ku:aY Tryz.prog 25 2 2:=aY.of (by kernel_rfl)
theorem dG:dc Tryz.prog 23 1 false:=⟨fun w=>by kernel_rfl,fun w=>by kernel_rfl⟩
theorem pX:dc Tryz.prog 27 2 true:=⟨fun w=>by kernel_rfl,fun w=>by kernel_rfl⟩
theorem uO:aY Tryz.prog 27 1 1:=aY.of (by kernel_rfl)
theorem uP:aY Tryz.prog 27 0 0:=aY.of (by kernel_rfl)
theorem d4:dc Tryz.prog 3 1 false:=⟨fun w=>by kernel_rfl,fun w=>by kernel_rfl⟩
theorem tf:ah Tryz.prog 83:=ah.of Tryz.func83 (by kernel_rfl) (by kernel_rfl)
theorem mb:aY Tryz.prog 25 0 0:=aY.of (by kernel_rfl)
theorem rE:∀w,(zeroValue 27).run Tryz.prog w= .ok (.agg #[(.int .i64 (0)),(.slice none 0 0)]) w:=fun w=>by kernel_rfl
theorem HW:∀S w,(A.cells S w (.agg (.pair (.eq (.int .i64 (0:Int))) (.eq (.slice none 0 0)))) (Value.cells (.agg #[(.int .i64 (0)),(.slice none 0 0)])).toList):=fun _ _=>⟨[_],_,rfl,⟨rfl,rfl⟩,⟨rfl,rfl⟩⟩
theorem fB:dc Tryz.prog 25 3 true:=⟨fun w=>by kernel_rfl,fun w=>by kernel_rfl⟩
theorem LL:ah Tryz.prog 92:=ah.of Tryz.func92 (by kernel_rfl) (by kernel_rfl)
theorem tB:xp Tryz.prog 118 #[(0,1)]:=⟨_,Tryz.underlying118,fun _=>by kernel_rfl⟩
theorem rF:∀w,(zeroValue 118).run Tryz.prog w= .ok (.agg #[(.int .i64 (0))]) w:=fun w=>by kernel_rfl
theorem qB:∀S w,(A.cells S w (.eq (.int .i64 (0:Int))) (Value.cells (.agg #[(.int .i64 (0))])).toList):=fun _ _=>⟨rfl,rfl⟩
theorem Db:ah Tryz.prog 87:=ah.of Tryz.func87 (by kernel_rfl) (by kernel_rfl)
theorem ze:ah Tryz.prog 134:=ah.of Tryz.func134 (by kernel_rfl) (by kernel_rfl)
theorem Gm:ah Tryz.prog 135:=ah.of Tryz.func135 (by kernel_rfl) (by kernel_rfl)
theorem uT:ah Tryz.prog 33:=ah.of Tryz.func33 (by kernel_rfl) (by kernel_rfl)
theorem KF:∀S w,(A.cells S w (.agg (.eq (.int .i64 (0:Int)))) (Value.cells (.agg #[(.int .i64 (0))])).toList):=fun _ _=>⟨rfl,rfl⟩
theorem LK:ah Tryz.prog 94:=ah.of Tryz.func94 (by kernel_rfl) (by kernel_rfl)
theorem JG:ah Tryz.prog 93:=ah.of Tryz.func93 (by kernel_rfl) (by kernel_rfl)
theorem E4:aY Tryz.prog 118 0 0:=aY.of (by kernel_rfl)
theorem GL:dc Tryz.prog 41 1 false:=⟨fun w=>by kernel_rfl,fun w=>by kernel_rfl⟩
theorem iu:∀w,(zeroValue 107).run Tryz.prog w= .ok (.agg #[(.int .i64 (0)),(.int .i64 (0)),(.int .i64 (0)),(.int .i64 (0)),(.int .i64 (0)),(.int .i64 (0)),(.int .i64 (0)),(.int .i64 (0)),(.int .i64 (0)),(.int .i64 (0)),(.int .i64 (0)),(.int .i64 (0)),(.int .i64 (0)),(.int .i64 (0)),(.int .i64 (0))]) w:=fun w=>by kernel_rfl
theorem ix:∀S w,(A.cells S w (.rep (.arr 3 (.arr 5 (.int .i64))) [[(0:Int),(0:Int),(0:Int),(0:Int),(0:Int)],[(0:Int),(0:Int),(0:Int),(0:Int),(0:Int)],[(0:Int),(0:Int),(0:Int),(0:Int),(0:Int)]]) (Value.cells (.agg #[(.int .i64 (0)),(.int .i64 (0)),(.int .i64 (0)),(.int .i64 (0)),(.int .i64 (0)),(.int .i64 (0)),(.int .i64 (0)),(.int .i64 (0)),(.int .i64 (0)),(.int .i64 (0)),(.int .i64 (0)),(.int .i64 (0)),(.int .i64 (0)),(.int .i64 (0)),(.int .i64 (0))])).toList):=fun _ _=>⟨rfl,⟨[_,_,_,_,_],_,rfl,⟨rfl,⟨[_],_,rfl,rfl,⟨[_],_,rfl,rfl,⟨[_],_,rfl,rfl,⟨[_],_,rfl,rfl,⟨[_],_,rfl,rfl,rfl⟩⟩⟩⟩⟩⟩,⟨[_,_,_,_,_],_,rfl,⟨rfl,⟨[_],_,rfl,rfl,⟨[_],_,rfl,rfl,⟨[_],_,rfl,rfl,⟨[_],_,rfl,rfl,⟨[_],_,rfl,rfl,rfl⟩⟩⟩⟩⟩⟩,⟨[_,_,_,_,_],_,rfl,⟨rfl,⟨[_],_,rfl,rfl,⟨[_],_,rfl,rfl,⟨[_],_,rfl,rfl,⟨[_],_,rfl,rfl,⟨[_],_,rfl,rfl,rfl⟩⟩⟩⟩⟩⟩,rfl⟩⟩⟩⟩
theorem qL:dc Tryz.prog 105 5 true:=⟨fun w=>by kernel_rfl,fun w=>by kernel_rfl⟩
theorem bW:dc Tryz.prog 107 15 true:=⟨fun w=>by kernel_rfl,fun w=>by kernel_rfl⟩
theorem cR:kx Tryz.prog 23 3 1 8:=.of (z:=(.int .i64 (0))) Tryz.underlying23 (by kernel_rfl) rfl rfl rfl
theorem Il:∀w,(zeroValue 216).run Tryz.prog w= .ok (.pointer none) w:=fun w=>by kernel_rfl
theorem Kz:∀S w,(A.cells S w (.eq (.pointer none)) (Value.cells (.pointer none)).toList):=fun _ _=>⟨rfl,rfl⟩
theorem JV:ah Tryz.prog 190:=ah.of Tryz.func190 (by kernel_rfl) (by kernel_rfl)
theorem vK:dc Tryz.prog 216 1 false:=⟨fun w=>by kernel_rfl,fun w=>by kernel_rfl⟩
theorem IM:xp Tryz.prog 219 #[(0,1),(1,1)]:=⟨_,Tryz.underlying219,fun _=>by kernel_rfl⟩
theorem Ik:∀w,(zeroValue 219).run Tryz.prog w= .ok (.agg #[(.int .i64 (0)),(.pointer none)]) w:=fun w=>by kernel_rfl
theorem HU:∀S w,(A.cells S w (.pair (.eq (.int .i64 (0:Int))) (.eq (.pointer none))) (Value.cells (.agg #[(.int .i64 (0)),(.pointer none)])).toList):=fun _ _=>⟨[_],_,rfl,⟨rfl,rfl⟩,⟨rfl,rfl⟩⟩
theorem JQ:ah Tryz.prog 208:=ah.of Tryz.func208 (by kernel_rfl) (by kernel_rfl)
theorem J0:ah Tryz.prog 157:=ah.of Tryz.func157 (by kernel_rfl) (by kernel_rfl)
theorem rC:aY Tryz.prog 219 0 0:=aY.of (by kernel_rfl)
theorem za:aY Tryz.prog 219 1 1:=aY.of (by kernel_rfl)
theorem Gn:ah Tryz.prog 123:=ah.of Tryz.func123 (by kernel_rfl) (by kernel_rfl)
theorem il:aY Tryz.prog 173 0 0:=aY.of (by kernel_rfl)
theorem JZ:ah Tryz.prog 158:=ah.of Tryz.func158 (by kernel_rfl) (by kernel_rfl)
theorem zg:ah Tryz.prog 110:=ah.of Tryz.func110 (by kernel_rfl) (by kernel_rfl)
theorem J8:ah Tryz.prog 128:=ah.of Tryz.func128 (by kernel_rfl) (by kernel_rfl)
theorem J9:ah Tryz.prog 127:=ah.of Tryz.func127 (by kernel_rfl) (by kernel_rfl)
theorem lh:kx Tryz.prog 28 23 1 24:=.of (z:=(.slice none 0 0)) Tryz.underlying28 (by kernel_rfl) rfl rfl rfl
theorem uS:ah Tryz.prog 86:=ah.of Tryz.func86 (by kernel_rfl) (by kernel_rfl)
theorem K8:∀i z,Tryz.prog.info? 23=some i→i.zero=some z→∀S w,rd S w (.slice (.int .i64)) [] z.cells.toList:=AN (z0:=(.slice none 0 0)) (by kernel_rfl) fun _ _=>.inl ⟨_,_,rfl,rfl⟩
theorem wR:ah Tryz.prog 35:=ah.of Tryz.func35 (by kernel_rfl) (by kernel_rfl)
theorem wQ:ah Tryz.prog 84:=ah.of Tryz.func84 (by kernel_rfl) (by kernel_rfl)
theorem HF:ah Tryz.prog 85:=ah.of Tryz.func85 (by kernel_rfl) (by kernel_rfl)
theorem Da:ah Tryz.prog 88:=ah.of Tryz.func88 (by kernel_rfl) (by kernel_rfl)
theorem Ao:ah Tryz.prog 37:=ah.of Tryz.func37 (by kernel_rfl) (by kernel_rfl)
theorem zb:aY Tryz.prog 173 1 3:=aY.of (by kernel_rfl)
theorem F3:dc Tryz.prog 171 1 false:=⟨fun w=>by kernel_rfl,fun w=>by kernel_rfl⟩
theorem Gs:ah Tryz.prog 105:=ah.of Tryz.func105 (by kernel_rfl) (by kernel_rfl)
theorem zf:ah Tryz.prog 111:=ah.of Tryz.func111 (by kernel_rfl) (by kernel_rfl)
theorem jl:dc Tryz.prog 102 1 false:=⟨fun w=>by kernel_rfl,fun w=>by kernel_rfl⟩
theorem Kv:ah Tryz.prog 104:=ah.of Tryz.func104 (by kernel_rfl) (by kernel_rfl)
theorem J6:ah Tryz.prog 143:=ah.of Tryz.func143 (by kernel_rfl) (by kernel_rfl)
theorem MI:∀w,(zeroValue 3).run Tryz.prog w= .ok (.int .i64 0) w:=fun w=>by kernel_rfl
theorem LJ:ah Tryz.prog 97:=ah.of Tryz.func97 (by kernel_rfl) (by kernel_rfl)
theorem Gq:ah Tryz.prog 107:=ah.of Tryz.func107 (by kernel_rfl) (by kernel_rfl)
theorem J3:ah Tryz.prog 146:=ah.of Tryz.func146 (by kernel_rfl) (by kernel_rfl)
theorem JY:ah Tryz.prog 183:=ah.of Tryz.func183 (by kernel_rfl) (by kernel_rfl)
theorem zd:ah Tryz.prog 189:=ah.of Tryz.func189 (by kernel_rfl) (by kernel_rfl)
theorem JS:ah Tryz.prog 202:=ah.of Tryz.func202 (by kernel_rfl) (by kernel_rfl)
theorem JR:ah Tryz.prog 206:=ah.of Tryz.func206 (by kernel_rfl) (by kernel_rfl)
theorem JU:ah Tryz.prog 196:=ah.of Tryz.func196 (by kernel_rfl) (by kernel_rfl)
theorem JW:ah Tryz.prog 185:=ah.of Tryz.func185 (by kernel_rfl) (by kernel_rfl)
theorem JX:ah Tryz.prog 184:=ah.of Tryz.func184 (by kernel_rfl) (by kernel_rfl)
theorem J5:ah Tryz.prog 144:=ah.of Tryz.func144 (by kernel_rfl) (by kernel_rfl)
theorem J4:ah Tryz.prog 145:=ah.of Tryz.func145 (by kernel_rfl) (by kernel_rfl)
theorem AP:∀w,(zeroValue 102).run Tryz.prog w= .ok (.pointer none) w:=fun w=>by kernel_rfl
theorem Dv:∀S w,(A.cells S w (.eq (.pointer none)) (Value.cells (.pointer none)).toList):=fun _ _=>⟨rfl,rfl⟩
theorem Gt:ah Tryz.prog 103:=ah.of Tryz.func103 (by kernel_rfl) (by kernel_rfl)
theorem Ks:ah Tryz.prog 109:=ah.of Tryz.func109 (by kernel_rfl) (by kernel_rfl)
theorem Kt:ah Tryz.prog 108:=ah.of Tryz.func108 (by kernel_rfl) (by kernel_rfl)
theorem Ku:ah Tryz.prog 106:=ah.of Tryz.func106 (by kernel_rfl) (by kernel_rfl)
theorem II:dc Tryz.prog 210 1 false:=⟨fun w=>by kernel_rfl,fun w=>by kernel_rfl⟩
theorem yJ:dc Tryz.prog 211 1 false:=⟨fun w=>by kernel_rfl,fun w=>by kernel_rfl⟩
theorem Dc:ah Tryz.prog 149:=ah.of Tryz.func149 (by kernel_rfl) (by kernel_rfl)
theorem Im:∀w,(zeroValue 211).run Tryz.prog w= .ok .nilFunc w:=fun w=>by kernel_rfl
theorem KB:∀S w,(A.cells S w (.eq .nilFunc) (Value.cells .nilFunc).toList):=fun _ _=>⟨rfl,rfl⟩
theorem A8:dc Tryz.prog 152 1 false:=⟨fun w=>by kernel_rfl,fun w=>by kernel_rfl⟩
theorem F6:kx Tryz.prog 152 107 15 120:=.of (z:=(.agg #[(.int .i64 (0)),(.int .i64 (0)),(.int .i64 (0)),(.int .i64 (0)),(.int .i64 (0)),(.int .i64 (0)),(.int .i64 (0)),(.int .i64 (0)),(.int .i64 (0)),(.int .i64 (0)),(.int .i64 (0)),(.int .i64 (0)),(.int .i64 (0)),(.int .i64 (0)),(.int .i64 (0))])) Tryz.underlying152 (by kernel_rfl) rfl rfl rfl
theorem Df:ah Tryz.prog 148:=ah.of Tryz.func148 (by kernel_rfl) (by kernel_rfl)
theorem J2:ah Tryz.prog 147:=ah.of Tryz.func147 (by kernel_rfl) (by kernel_rfl)
theorem Dh:ah Tryz.prog 116:=ah.of Tryz.func116 (by kernel_rfl) (by kernel_rfl)
theorem Kq:ah Tryz.prog 115:=ah.of Tryz.func115 (by kernel_rfl) (by kernel_rfl)
theorem Kr:ah Tryz.prog 114:=ah.of Tryz.func114 (by kernel_rfl) (by kernel_rfl)
theorem vv:∀w,(zeroValue 25).run Tryz.prog w= .ok (.agg #[(.int .i64 (0)),(.slice none 0 0),(.slice none 0 0)]) w:=fun w=>by kernel_rfl
theorem Au:∀S w,(A.cells S w (.agg (.pair (.eq (.int .i64 (0:Int))) (.pair (.eq (.slice none 0 0)) (.eq (.slice none 0 0))))) (Value.cells (.agg #[(.int .i64 (0)),(.slice none 0 0),(.slice none 0 0)])).toList):=fun _ _=>⟨[_],_,rfl,⟨rfl,rfl⟩,⟨[_],_,rfl,⟨rfl,rfl⟩,⟨rfl,rfl⟩⟩⟩
theorem vS:xp Tryz.prog 27 #[(0,1),(1,1)]:=⟨_,Tryz.underlying27,fun _=>by kernel_rfl⟩
theorem qU:∀S w,(A.cells S w (.pair (.eq (.int .i64 (0:Int))) (.eq (.slice none 0 0))) (Value.cells (.agg #[(.int .i64 (0)),(.slice none 0 0)])).toList):=fun _ _=>⟨[_],_,rfl,⟨rfl,rfl⟩,⟨rfl,rfl⟩⟩
theorem IJ:kx Tryz.prog 22 27 2 32:=.of (z:=(.agg #[(.int .i64 (0)),(.slice none 0 0)])) Tryz.underlying22 (by kernel_rfl) rfl rfl rfl
theorem IL:xp Tryz.prog 25 #[(0,1),(1,1),(2,1)]:=⟨_,Tryz.underlying25,fun _=>by kernel_rfl⟩
theorem Gx:∀S w,(A.cells S w (.pair (.eq (.int .i64 (0:Int))) (.pair (.eq (.slice none 0 0)) (.eq (.slice none 0 0)))) (Value.cells (.agg #[(.int .i64 (0)),(.slice none 0 0),(.slice none 0 0)])).toList):=fun _ _=>⟨[_],_,rfl,⟨rfl,rfl⟩,⟨[_],_,rfl,⟨rfl,rfl⟩,⟨rfl,rfl⟩⟩⟩
theorem io:ah Tryz.prog 78:=ah.of Tryz.func78 (by kernel_rfl) (by kernel_rfl)
theorem oz:ah Tryz.prog 79:=ah.of Tryz.func79 (by kernel_rfl) (by kernel_rfl)
theorem JP:ah Tryz.prog 31:=ah.of Tryz.func31 (by kernel_rfl) (by kernel_rfl)
theorem HH:ah Tryz.prog 48:=ah.of Tryz.func48 (by kernel_rfl) (by kernel_rfl)
theorem JK:ah Tryz.prog 56:=ah.of Tryz.func56 (by kernel_rfl) (by kernel_rfl)
theorem JH:ah Tryz.prog 80:=ah.of Tryz.func80 (by kernel_rfl) (by kernel_rfl)
theorem JM:ah Tryz.prog 40:=ah.of Tryz.func40 (by kernel_rfl) (by kernel_rfl)
theorem JL:ah Tryz.prog 42:=ah.of Tryz.func42 (by kernel_rfl) (by kernel_rfl)
theorem LM:ah Tryz.prog 67:=ah.of Tryz.func67 (by kernel_rfl) (by kernel_rfl)
theorem yu:ah Tryz.prog 38:=ah.of Tryz.func38 (by kernel_rfl) (by kernel_rfl)
theorem Lj:kx Tryz.prog 35 28 1 24:=.of (z:=(.slice none 0 0)) Tryz.underlying35 (by kernel_rfl) rfl rfl rfl
theorem IH:dc Tryz.prog 28 1 false:=⟨fun w=>by kernel_rfl,fun w=>by kernel_rfl⟩
theorem MJ:∀i z,Tryz.prog.info? 3=some i→i.zero=some z→∀S w,rd S w (.int .i64) (0:Int) z.cells.toList:=AN (z0:=(.int .i64 (0))) (by kernel_rfl) fun _ _=>rfl
theorem LP:ah Tryz.prog 25:=ah.of Tryz.func25 (by kernel_rfl) (by kernel_rfl)
theorem HG:ah Tryz.prog 52:=ah.of Tryz.func52 (by kernel_rfl) (by kernel_rfl)
theorem L6:∀w,(zeroValue 3).run Tryz.prog w= .ok (.int .i64 (0)) w:=fun w=>by kernel_rfl
theorem ME:∀S w,(A.cells S w (.eq (.int .i64 (0:Int))) (Value.cells (.int .i64 (0))).toList):=fun _ _=>⟨rfl,rfl⟩
theorem LO:ah Tryz.prog 58:=ah.of Tryz.func58 (by kernel_rfl) (by kernel_rfl)
theorem LN:ah Tryz.prog 65:=ah.of Tryz.func65 (by kernel_rfl) (by kernel_rfl)
theorem E8:ah Tryz.prog 70:=ah.of Tryz.func70 (by kernel_rfl) (by kernel_rfl)
theorem JJ:ah Tryz.prog 73:=ah.of Tryz.func73 (by kernel_rfl) (by kernel_rfl)
theorem J1:ah Tryz.prog 155:=ah.of Tryz.func155 (by kernel_rfl) (by kernel_rfl)
theorem K9:∀w,(zeroValue 23).run Tryz.prog w= .ok (.slice none 0 0) w:=fun w=>by kernel_rfl
theorem LS:∀S w,(A.cells S w (.eq (.slice none 0 0)) (Value.cells (.slice none 0 0)).toList):=fun _ _=>⟨rfl,rfl⟩
theorem MK:∀w,(zeroValue 4).run Tryz.prog w= .ok (.bool false) w:=fun w=>by kernel_rfl
theorem MR:∀S w,(A.cells S w (.eq (.bool false)) (Value.cells (.bool false)).toList):=fun _ _=>⟨rfl,rfl⟩
theorem KX:dc Tryz.prog 4 1 false:=⟨fun w=>by kernel_rfl,fun w=>by kernel_rfl⟩
theorem Ko:ah Tryz.prog 124:=ah.of Tryz.func124 (by kernel_rfl) (by kernel_rfl)
theorem JI:ah Tryz.prog 75:=ah.of Tryz.func75 (by kernel_rfl) (by kernel_rfl)
theorem Lh:kx Tryz.prog 95 41 1 8:=.of (z:=(.int .i64 (0))) Tryz.underlying95 (by kernel_rfl) rfl rfl rfl
abbrev Rs(t:Ty)(l:(Ty.slice t).den):A:=.rep (.slice t) l
abbrev Pv(b:Nat):Value:=.pointer (some ⟨b,0,none⟩)
abbrev FD:= @Tryz.underlying105
abbrev Aw:= @Tryz.underlying107
abbrev Av:= @Tryz.underlying118
abbrev LZ:= @Tryz.underlying121
abbrev LY:= @Tryz.underlying123
abbrev LX:= @Tryz.underlying128
abbrev H2:= @Tryz.underlying129
abbrev LW:= @Tryz.underlying131
abbrev KN:= @Tryz.underlying152
abbrev LV:= @Tryz.underlying170
abbrev KL:= @Tryz.underlying171
abbrev MG:= @Tryz.underlying21
abbrev LU:= @Tryz.underlying216
abbrev vt:= @Tryz.underlying22
abbrev fU:= @Tryz.underlying23
abbrev nS:= @Tryz.underlying28
abbrev U3:= @Tryz.underlying3
abbrev MF:= @Tryz.underlying35
abbrev U5:= @Tryz.underlying5
abbrev MV:= @Tryz.underlying86
abbrev U9:= @Tryz.underlying9
abbrev MU:= @Tryz.underlying95
abbrev MS:= @Tryz.underlying96
theorem np:false=false→1=1:=fun _=>rfl
end Go.Proofs.YtcnpijmfgfnpiaaGreatDoor
