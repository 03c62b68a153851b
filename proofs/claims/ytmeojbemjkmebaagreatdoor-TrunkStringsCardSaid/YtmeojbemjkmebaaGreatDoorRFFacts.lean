import Derived.Test.YtmeojbemjkmebaaGreatDoorRFB5
import Derived.Test.YtmeojbemjkmebaaGreatDoorRFB6
import Derived.Test.YtmeojbemjkmebaaGreatDoorProg
set_option linter.unusedVariables false
set_option linter.unusedSimpArgs false
namespace Go.Proofs.YtmeojbemjkmebaaGreatDoor
open K Go Go.Proofs
theorem cY:Tryz.prog.follows .mixedOrders=true:=by kernel_rfl
theorem yM{n:Nat}:true=false→n=1:=fun h=>nomatch h
def JE:ByteArray:=⟨#[0,1,2,2,3,3,3,3,4,4,4,4,4,4,4,4,5,5,5,5,5,5,5,5,5,5,5,5,5,5,5,5,6,6,6,6,6,6,6,6,6,6,6,6,6,6,6,6,6,6,6,6,6,6,6,6,6,6,6,6,6,6,6,6,7,7,7,7,7,7,7,7,7,7,7,7,7,7,7,7,7,7,7,7,7,7,7,7,7,7,7,7,7,7,7,7,7,7,7,7,7,7,7,7,7,7,7,7,7,7,7,7,7,7,7,7,7,7,7,7,7,7,7,7,7,7,7,7,8,8,8,8,8,8,8,8,8,8,8,8,8,8,8,8,8,8,8,8,8,8,8,8,8,8,8,8,8,8,8,8,8,8,8,8,8,8,8,8,8,8,8,8,8,8,8,8,8,8,8,8,8,8,8,8,8,8,8,8,8,8,8,8,8,8,8,8,8,8,8,8,8,8,8,8,8,8,8,8,8,8,8,8,8,8,8,8,8,8,8,8,8,8,8,8,8,8,8,8,8,8,8,8,8,8,8,8,8,8,8,8,8,8,8,8,8,8,8,8,8,8,8,8,8,8,8,8]⟩
@[reducible] def aG:Ty:=.agg (.pair (.int .i64) (.slice (.int .i64)))
abbrev gu:=(Int×(List Int))
@[reducible] def aj:Ty:=.agg (.pair (.int .i64) (.pair (.slice aG) (.slice (.int .i64))))
abbrev a8:=(Int×((List gu)×(List Int)))
@[reducible] def Tj:Ty:=.agg (.pair (.slice (.int .i64)) (.pair (.int .i64) (.int .u64)))
abbrev bR:=((List Int)×(Int×Int))
@[reducible] def bJ:Ty:=.agg (.pair aj .ign)
abbrev dp:=(a8×Unit)
@[reducible] def TF:Ty:=.agg (.pair (.ptr bJ) (.slice (.slice (.int .i64))))
@[reducible] def N7:Ty:=.agg (.pair (.int .i64) (.int .i64))
@[reducible] def Q5:Ty:=.agg (.int .i64)
@[reducible] def FY:Ty:=.agg (.pair (.int .i64) (.lst (.int .i64)))
@[reducible] def Q6:Ty:=.agg (.pair .val (.pair .val (.int .u64)))
theorem Rm:yK Tryz.prog 66 #[(0,1),(1,1),(2,1)]:=⟨_,Tryz.underlying66,fun _=>by kernel_rfl⟩
theorem Q4:∀w,(zeroValue 66).run Tryz.prog w= .ok (.agg #[(.slice none 0 0),(.int .i64 (0)),(.int .u64 (0))]) w:=fun w=>by kernel_rfl
theorem Qp:∀S w,(A.cells S w (.pair (.eq (.slice none 0 0)) (.pair (.eq (.int .i64 (0:Int))) (.eq (.int .u64 (0:Int))))) (Value.cells (.agg #[(.slice none 0 0),(.int .i64 (0)),(.int .u64 (0))])).toList):=fun _ _=>⟨[_],_,rfl,⟨rfl,rfl⟩,⟨[_],_,rfl,⟨rfl,rfl⟩,⟨rfl,rfl⟩⟩⟩
theorem tC:a9 Tryz.prog 66 2 2:=a9.of (by kernel_rfl)
theorem Ed:dG Tryz.prog 64 1 false:=⟨fun w=>by kernel_rfl,fun w=>by kernel_rfl⟩
theorem yn:a9 Tryz.prog 66 1 1:=a9.of (by kernel_rfl)
theorem cH:dG Tryz.prog 3 1 false:=⟨fun w=>by kernel_rfl,fun w=>by kernel_rfl⟩
theorem HU:a9 Tryz.prog 66 0 0:=a9.of (by kernel_rfl)
theorem bI:dG Tryz.prog 22 1 false:=⟨fun w=>by kernel_rfl,fun w=>by kernel_rfl⟩
theorem RY:ah Tryz.prog 79:=ah.of Tryz.func79 (by kernel_rfl) (by kernel_rfl)
theorem H5:ah Tryz.prog 40:=ah.of Tryz.func40 (by kernel_rfl) (by kernel_rfl)
theorem lJ:∀w,(zeroValue 27).run Tryz.prog w= .ok (.agg #[(.int .i64 (0)),(.slice none 0 0),(.slice none 0 0)]) w:=fun w=>by kernel_rfl
theorem oh:∀S w,(A.cells S w (.agg (.pair (.eq (.int .i64 (0:Int))) (.pair (.eq (.slice none 0 0)) (.eq (.slice none 0 0))))) (Value.cells (.agg #[(.int .i64 (0)),(.slice none 0 0),(.slice none 0 0)])).toList):=fun _ _=>⟨[_],_,rfl,⟨rfl,rfl⟩,⟨[_],_,rfl,⟨rfl,rfl⟩,⟨rfl,rfl⟩⟩⟩
theorem Nu:ah Tryz.prog 10:=ah.of Tryz.func10 (by kernel_rfl) (by kernel_rfl)
theorem Ji:yK Tryz.prog 27 #[(0,1),(1,1),(2,1)]:=⟨_,Tryz.underlying27,fun _=>by kernel_rfl⟩
theorem Dx:∀S w,(A.cells S w (.pair (.eq (.int .i64 (0:Int))) (.pair (.eq (.slice none 0 0)) (.eq (.slice none 0 0)))) (Value.cells (.agg #[(.int .i64 (0)),(.slice none 0 0),(.slice none 0 0)])).toList):=fun _ _=>⟨[_],_,rfl,⟨rfl,rfl⟩,⟨[_],_,rfl,⟨rfl,rfl⟩,⟨rfl,rfl⟩⟩⟩
theorem dy:dG Tryz.prog 27 3 true:=⟨fun w=>by kernel_rfl,fun w=>by kernel_rfl⟩
theorem dS:lj Tryz.prog 22 3 1 8:=.of (z:=(.int .i64 (0))) Tryz.underlying22 (by kernel_rfl) rfl rfl rfl
theorem P0:ah Tryz.prog 65:=ah.of Tryz.func65 (by kernel_rfl) (by kernel_rfl)
theorem Bw:yK Tryz.prog 35 #[(0,1),(1,1)]:=⟨_,Tryz.underlying35,fun _=>by kernel_rfl⟩
theorem uE:∀w,(zeroValue 35).run Tryz.prog w= .ok (.agg #[(.int .i64 (0)),(.slice none 0 0)]) w:=fun w=>by kernel_rfl
theorem vO:∀S w,(A.cells S w (.pair (.eq (.int .i64 (0:Int))) (.eq (.slice none 0 0))) (Value.cells (.agg #[(.int .i64 (0)),(.slice none 0 0)])).toList):=fun _ _=>⟨[_],_,rfl,⟨rfl,rfl⟩,⟨rfl,rfl⟩⟩
theorem KN:∀S w,(A.cells S w (.agg (.pair (.eq (.int .i64 (0:Int))) (.eq (.slice none 0 0)))) (Value.cells (.agg #[(.int .i64 (0)),(.slice none 0 0)])).toList):=fun _ _=>⟨[_],_,rfl,⟨rfl,rfl⟩,⟨rfl,rfl⟩⟩
theorem iY:dG Tryz.prog 35 2 true:=⟨fun w=>by kernel_rfl,fun w=>by kernel_rfl⟩
theorem iH:a9 Tryz.prog 27 0 0:=a9.of (by kernel_rfl)
theorem PZ:ah Tryz.prog 66:=ah.of Tryz.func66 (by kernel_rfl) (by kernel_rfl)
theorem mU:a9 Tryz.prog 35 1 1:=a9.of (by kernel_rfl)
theorem cQ:a9 Tryz.prog 27 1 1:=a9.of (by kernel_rfl)
theorem iN:dG Tryz.prog 25 1 false:=⟨fun w=>by kernel_rfl,fun w=>by kernel_rfl⟩
theorem Bg:lj Tryz.prog 25 35 2 32:=.of (z:=(.agg #[(.int .i64 (0)),(.slice none 0 0)])) Tryz.underlying25 (by kernel_rfl) rfl rfl rfl
theorem mV:a9 Tryz.prog 35 0 0:=a9.of (by kernel_rfl)
theorem cV:a9 Tryz.prog 27 2 2:=a9.of (by kernel_rfl)
theorem Of:∀i z,Tryz.prog.info? 22=some i→i.zero=some z→∀S w,rd S w .val (.slice none 0 0) z.cells.toList:=FD (t:=.val) (z0:=(.slice none 0 0)) (by kernel_rfl) fun _ _=>⟨rfl,rfl⟩
theorem nR:lj Tryz.prog 28 22 1 24:=.of (z:=(.slice none 0 0)) Tryz.underlying28 (by kernel_rfl) rfl rfl rfl
theorem Sl:ah Tryz.prog 67:=ah.of Tryz.func67 (by kernel_rfl) (by kernel_rfl)
theorem Nn:ah Tryz.prog 52:=ah.of Tryz.func52 (by kernel_rfl) (by kernel_rfl)
theorem H4:ah Tryz.prog 87:=ah.of Tryz.func87 (by kernel_rfl) (by kernel_rfl)
theorem P1:ah Tryz.prog 54:=ah.of Tryz.func54 (by kernel_rfl) (by kernel_rfl)
theorem Sj:ah Tryz.prog 68:=ah.of Tryz.func68 (by kernel_rfl) (by kernel_rfl)
theorem Si:ah Tryz.prog 69:=ah.of Tryz.func69 (by kernel_rfl) (by kernel_rfl)
theorem SC:ah Tryz.prog 31:=ah.of Tryz.func31 (by kernel_rfl) (by kernel_rfl)
theorem P4:ah Tryz.prog 32:=ah.of Tryz.func32 (by kernel_rfl) (by kernel_rfl)
theorem P3:ah Tryz.prog 33:=ah.of Tryz.func33 (by kernel_rfl) (by kernel_rfl)
theorem As:ah Tryz.prog 43:=ah.of Tryz.func43 (by kernel_rfl) (by kernel_rfl)
theorem RV:ah Tryz.prog 86:=ah.of Tryz.func86 (by kernel_rfl) (by kernel_rfl)
theorem wM:yK Tryz.prog 140 #[(0,1)]:=⟨_,Tryz.underlying140,fun _=>by kernel_rfl⟩
theorem uF:∀w,(zeroValue 140).run Tryz.prog w= .ok (.agg #[(.int .i64 (0))]) w:=fun w=>by kernel_rfl
theorem tO:∀S w,(A.cells S w (.eq (.int .i64 (0:Int))) (Value.cells (.agg #[(.int .i64 (0))])).toList):=fun _ _=>⟨rfl,rfl⟩
theorem Ko:ah Tryz.prog 71:=ah.of Tryz.func71 (by kernel_rfl) (by kernel_rfl)
theorem J8:ah Tryz.prog 92:=ah.of Tryz.func92 (by kernel_rfl) (by kernel_rfl)
theorem PU:ah Tryz.prog 91:=ah.of Tryz.func91 (by kernel_rfl) (by kernel_rfl)
theorem Nl:ah Tryz.prog 53:=ah.of Tryz.func53 (by kernel_rfl) (by kernel_rfl)
theorem Qx:∀S w,(A.cells S w (.agg (.eq (.int .i64 (0:Int)))) (Value.cells (.agg #[(.int .i64 (0))])).toList):=fun _ _=>⟨rfl,rfl⟩
theorem RX:ah Tryz.prog 81:=ah.of Tryz.func81 (by kernel_rfl) (by kernel_rfl)
theorem PV:ah Tryz.prog 80:=ah.of Tryz.func80 (by kernel_rfl) (by kernel_rfl)
theorem J4:a9 Tryz.prog 140 0 0:=a9.of (by kernel_rfl)
theorem Q8:dG Tryz.prog 36 1 false:=⟨fun w=>by kernel_rfl,fun w=>by kernel_rfl⟩
theorem sQ:∀w,(zeroValue 85).run Tryz.prog w= .ok (.agg #[(.int .i64 (0)),(.int .i64 (0)),(.int .i64 (0)),(.int .i64 (0)),(.int .i64 (0)),(.int .i64 (0)),(.int .i64 (0)),(.int .i64 (0)),(.int .i64 (0)),(.int .i64 (0)),(.int .i64 (0)),(.int .i64 (0)),(.int .i64 (0)),(.int .i64 (0)),(.int .i64 (0))]) w:=fun w=>by kernel_rfl
theorem tP:∀S w,(A.cells S w (.rep (.arr 3 (.arr 5 (.int .i64))) [[(0:Int),(0:Int),(0:Int),(0:Int),(0:Int)],[(0:Int),(0:Int),(0:Int),(0:Int),(0:Int)],[(0:Int),(0:Int),(0:Int),(0:Int),(0:Int)]]) (Value.cells (.agg #[(.int .i64 (0)),(.int .i64 (0)),(.int .i64 (0)),(.int .i64 (0)),(.int .i64 (0)),(.int .i64 (0)),(.int .i64 (0)),(.int .i64 (0)),(.int .i64 (0)),(.int .i64 (0)),(.int .i64 (0)),(.int .i64 (0)),(.int .i64 (0)),(.int .i64 (0)),(.int .i64 (0))])).toList):=fun _ _=>⟨rfl,⟨[_,_,_,_,_],_,rfl,⟨rfl,⟨[_],_,rfl,rfl,⟨[_],_,rfl,rfl,⟨[_],_,rfl,rfl,⟨[_],_,rfl,rfl,⟨[_],_,rfl,rfl,rfl⟩⟩⟩⟩⟩⟩,⟨[_,_,_,_,_],_,rfl,⟨rfl,⟨[_],_,rfl,rfl,⟨[_],_,rfl,rfl,⟨[_],_,rfl,rfl,⟨[_],_,rfl,rfl,⟨[_],_,rfl,rfl,rfl⟩⟩⟩⟩⟩⟩,⟨[_,_,_,_,_],_,rfl,⟨rfl,⟨[_],_,rfl,rfl,⟨[_],_,rfl,rfl,⟨[_],_,rfl,rfl,⟨[_],_,rfl,rfl,⟨[_],_,rfl,rfl,rfl⟩⟩⟩⟩⟩⟩,rfl⟩⟩⟩⟩
theorem F5:dG Tryz.prog 83 5 true:=⟨fun w=>by kernel_rfl,fun w=>by kernel_rfl⟩
theorem f6:dG Tryz.prog 85 15 true:=⟨fun w=>by kernel_rfl,fun w=>by kernel_rfl⟩
theorem Oh:∀w,(zeroValue 196).run Tryz.prog w= .ok (.pointer none) w:=fun w=>by kernel_rfl
theorem Qq:∀S w,(A.cells S w (.eq (.pointer none)) (Value.cells (.pointer none)).toList):=fun _ _=>⟨rfl,rfl⟩
theorem Qb:ah Tryz.prog 148:=ah.of Tryz.func148 (by kernel_rfl) (by kernel_rfl)
theorem zh:dG Tryz.prog 196 1 false:=⟨fun w=>by kernel_rfl,fun w=>by kernel_rfl⟩
theorem OJ:yK Tryz.prog 199 #[(0,1),(1,1)]:=⟨_,Tryz.underlying199,fun _=>by kernel_rfl⟩
theorem Og:∀w,(zeroValue 199).run Tryz.prog w= .ok (.agg #[(.int .i64 (0)),(.pointer none)]) w:=fun w=>by kernel_rfl
theorem NJ:∀S w,(A.cells S w (.pair (.eq (.int .i64 (0:Int))) (.eq (.pointer none))) (Value.cells (.agg #[(.int .i64 (0)),(.pointer none)])).toList):=fun _ _=>⟨[_],_,rfl,⟨rfl,rfl⟩,⟨rfl,rfl⟩⟩
theorem P6:ah Tryz.prog 166:=ah.of Tryz.func166 (by kernel_rfl) (by kernel_rfl)
theorem Qg:ah Tryz.prog 118:=ah.of Tryz.func118 (by kernel_rfl) (by kernel_rfl)
theorem uy:a9 Tryz.prog 199 0 0:=a9.of (by kernel_rfl)
theorem Do:a9 Tryz.prog 199 1 1:=a9.of (by kernel_rfl)
theorem Qa:ah Tryz.prog 149:=ah.of Tryz.func149 (by kernel_rfl) (by kernel_rfl)
theorem jY:a9 Tryz.prog 146 0 0:=a9.of (by kernel_rfl)
theorem Qf:ah Tryz.prog 119:=ah.of Tryz.func119 (by kernel_rfl) (by kernel_rfl)
theorem Dp:a9 Tryz.prog 146 1 3:=a9.of (by kernel_rfl)
theorem Ld:dG Tryz.prog 144 1 false:=⟨fun w=>by kernel_rfl,fun w=>by kernel_rfl⟩
theorem PX:ah Tryz.prog 73:=ah.of Tryz.func73 (by kernel_rfl) (by kernel_rfl)
theorem Kr:ah Tryz.prog 42:=ah.of Tryz.func42 (by kernel_rfl) (by kernel_rfl)
theorem Kq:ah Tryz.prog 44:=ah.of Tryz.func44 (by kernel_rfl) (by kernel_rfl)
theorem E0:ah Tryz.prog 47:=ah.of Tryz.func47 (by kernel_rfl) (by kernel_rfl)
theorem P2:ah Tryz.prog 48:=ah.of Tryz.func48 (by kernel_rfl) (by kernel_rfl)
theorem Nq:ah Tryz.prog 39:=ah.of Tryz.func39 (by kernel_rfl) (by kernel_rfl)
theorem Q2:∀i z,Tryz.prog.info? 22=some i→i.zero=some z→∀S w,rd S w (.slice (.int .i64)) [] z.cells.toList:=FD (z0:=(.slice none 0 0)) (by kernel_rfl) fun _ _=>.inl ⟨_,_,rfl,rfl⟩
theorem J9:ah Tryz.prog 78:=ah.of Tryz.func78 (by kernel_rfl) (by kernel_rfl)
theorem xF:dG Tryz.prog 80 1 false:=⟨fun w=>by kernel_rfl,fun w=>by kernel_rfl⟩
theorem OG:dG Tryz.prog 154 1 false:=⟨fun w=>by kernel_rfl,fun w=>by kernel_rfl⟩
theorem CQ:dG Tryz.prog 155 1 false:=⟨fun w=>by kernel_rfl,fun w=>by kernel_rfl⟩
theorem Nk:ah Tryz.prog 90:=ah.of Tryz.func90 (by kernel_rfl) (by kernel_rfl)
theorem Om:∀w,(zeroValue 155).run Tryz.prog w= .ok .nilFunc w:=fun w=>by kernel_rfl
theorem Qw:∀S w,(A.cells S w (.eq .nilFunc) (Value.cells .nilFunc).toList):=fun _ _=>⟨rfl,rfl⟩
theorem F7:dG Tryz.prog 102 1 false:=⟨fun w=>by kernel_rfl,fun w=>by kernel_rfl⟩
theorem Lj:lj Tryz.prog 102 85 15 120:=.of (z:=(.agg #[(.int .i64 (0)),(.int .i64 (0)),(.int .i64 (0)),(.int .i64 (0)),(.int .i64 (0)),(.int .i64 (0)),(.int .i64 (0)),(.int .i64 (0)),(.int .i64 (0)),(.int .i64 (0)),(.int .i64 (0)),(.int .i64 (0)),(.int .i64 (0)),(.int .i64 (0)),(.int .i64 (0))])) Tryz.underlying102 (by kernel_rfl) rfl rfl rfl
theorem RS:ah Tryz.prog 89:=ah.of Tryz.func89 (by kernel_rfl) (by kernel_rfl)
theorem RU:ah Tryz.prog 88:=ah.of Tryz.func88 (by kernel_rfl) (by kernel_rfl)
theorem Sr:ah Tryz.prog 57:=ah.of Tryz.func57 (by kernel_rfl) (by kernel_rfl)
theorem Ss:ah Tryz.prog 56:=ah.of Tryz.func56 (by kernel_rfl) (by kernel_rfl)
theorem Su:ah Tryz.prog 55:=ah.of Tryz.func55 (by kernel_rfl) (by kernel_rfl)
theorem Np:ah Tryz.prog 45:=ah.of Tryz.func45 (by kernel_rfl) (by kernel_rfl)
theorem RQ:ah Tryz.prog 98:=ah.of Tryz.func98 (by kernel_rfl) (by kernel_rfl)
theorem RR:ah Tryz.prog 97:=ah.of Tryz.func97 (by kernel_rfl) (by kernel_rfl)
theorem PY:ah Tryz.prog 70:=ah.of Tryz.func70 (by kernel_rfl) (by kernel_rfl)
theorem R9:ah Tryz.prog 72:=ah.of Tryz.func72 (by kernel_rfl) (by kernel_rfl)
theorem Ql:ah Tryz.prog 105:=ah.of Tryz.func105 (by kernel_rfl) (by kernel_rfl)
theorem TD:∀w,(zeroValue 3).run Tryz.prog w= .ok (.int .i64 0) w:=fun w=>by kernel_rfl
theorem Sm:ah Tryz.prog 59:=ah.of Tryz.func59 (by kernel_rfl) (by kernel_rfl)
theorem PW:ah Tryz.prog 75:=ah.of Tryz.func75 (by kernel_rfl) (by kernel_rfl)
theorem Qi:ah Tryz.prog 108:=ah.of Tryz.func108 (by kernel_rfl) (by kernel_rfl)
theorem Qe:ah Tryz.prog 140:=ah.of Tryz.func140 (by kernel_rfl) (by kernel_rfl)
theorem LC:ah Tryz.prog 172:=ah.of Tryz.func172 (by kernel_rfl) (by kernel_rfl)
theorem P8:ah Tryz.prog 161:=ah.of Tryz.func161 (by kernel_rfl) (by kernel_rfl)
theorem P7:ah Tryz.prog 165:=ah.of Tryz.func165 (by kernel_rfl) (by kernel_rfl)
theorem P9:ah Tryz.prog 155:=ah.of Tryz.func155 (by kernel_rfl) (by kernel_rfl)
theorem Qc:ah Tryz.prog 142:=ah.of Tryz.func142 (by kernel_rfl) (by kernel_rfl)
theorem Qd:ah Tryz.prog 141:=ah.of Tryz.func141 (by kernel_rfl) (by kernel_rfl)
theorem Qk:ah Tryz.prog 106:=ah.of Tryz.func106 (by kernel_rfl) (by kernel_rfl)
theorem Qj:ah Tryz.prog 107:=ah.of Tryz.func107 (by kernel_rfl) (by kernel_rfl)
theorem Q3:∀w,(zeroValue 80).run Tryz.prog w= .ok (.pointer none) w:=fun w=>by kernel_rfl
theorem SX:∀S w,(A.cells S w (.eq (.pointer none)) (Value.cells (.pointer none)).toList):=fun _ _=>⟨rfl,rfl⟩
theorem Sv:ah Tryz.prog 46:=ah.of Tryz.func46 (by kernel_rfl) (by kernel_rfl)
theorem RZ:ah Tryz.prog 77:=ah.of Tryz.func77 (by kernel_rfl) (by kernel_rfl)
theorem R2:ah Tryz.prog 76:=ah.of Tryz.func76 (by kernel_rfl) (by kernel_rfl)
theorem R7:ah Tryz.prog 74:=ah.of Tryz.func74 (by kernel_rfl) (by kernel_rfl)
theorem E1:ah Tryz.prog 35:=ah.of Tryz.func35 (by kernel_rfl) (by kernel_rfl)
theorem Ks:ah Tryz.prog 36:=ah.of Tryz.func36 (by kernel_rfl) (by kernel_rfl)
theorem SB:ah Tryz.prog 34:=ah.of Tryz.func34 (by kernel_rfl) (by kernel_rfl)
theorem SR:ah Tryz.prog 13:=ah.of Tryz.func13 (by kernel_rfl) (by kernel_rfl)
theorem SH:ah Tryz.prog 23:=ah.of Tryz.func23 (by kernel_rfl) (by kernel_rfl)
theorem SA:ah Tryz.prog 37:=ah.of Tryz.func37 (by kernel_rfl) (by kernel_rfl)
theorem SD:ah Tryz.prog 29:=ah.of Tryz.func29 (by kernel_rfl) (by kernel_rfl)
theorem Sz:ah Tryz.prog 38:=ah.of Tryz.func38 (by kernel_rfl) (by kernel_rfl)
theorem P5:ah Tryz.prog 17:=ah.of Tryz.func17 (by kernel_rfl) (by kernel_rfl)
theorem Nr:ah Tryz.prog 22:=ah.of Tryz.func22 (by kernel_rfl) (by kernel_rfl)
theorem yq:ah Tryz.prog 41:=ah.of Tryz.func41 (by kernel_rfl) (by kernel_rfl)
theorem LA:ah Tryz.prog 7:=ah.of Tryz.func7 (by kernel_rfl) (by kernel_rfl)
theorem Tv:ah Tryz.prog 9:=ah.of Tryz.func9 (by kernel_rfl) (by kernel_rfl)
theorem SS:ah Tryz.prog 11:=ah.of Tryz.func11 (by kernel_rfl) (by kernel_rfl)
theorem Re:lj Tryz.prog 45 28 1 24:=.of (z:=(.slice none 0 0)) Tryz.underlying45 (by kernel_rfl) rfl rfl rfl
theorem uf:dG Tryz.prog 28 1 false:=⟨fun w=>by kernel_rfl,fun w=>by kernel_rfl⟩
theorem SG:ah Tryz.prog 28:=ah.of Tryz.func28 (by kernel_rfl) (by kernel_rfl)
theorem Rf:lj Tryz.prog 44 27 3 56:=.of (z:=(.agg #[(.int .i64 (0)),(.slice none 0 0),(.slice none 0 0)])) Tryz.underlying44 (by kernel_rfl) rfl rfl rfl
theorem LR:lj Tryz.prog 90 5 1 1:=.of (z:=(.int .u8 (0))) Tryz.underlying90 (by kernel_rfl) rfl rfl rfl
theorem SQ:ah Tryz.prog 14:=ah.of Tryz.func14 (by kernel_rfl) (by kernel_rfl)
theorem SO:ah Tryz.prog 15:=ah.of Tryz.func15 (by kernel_rfl) (by kernel_rfl)
theorem SN:ah Tryz.prog 16:=ah.of Tryz.func16 (by kernel_rfl) (by kernel_rfl)
theorem SL:ah Tryz.prog 18:=ah.of Tryz.func18 (by kernel_rfl) (by kernel_rfl)
theorem SK:ah Tryz.prog 19:=ah.of Tryz.func19 (by kernel_rfl) (by kernel_rfl)
theorem Rb:lj Tryz.prog 51 9 1 16:=.of (z:=(.string ⟨#[]⟩)) Tryz.underlying51 (by kernel_rfl) rfl rfl rfl
theorem QM:dG Tryz.prog 9 1 false:=⟨fun w=>by kernel_rfl,fun w=>by kernel_rfl⟩
theorem SJ:ah Tryz.prog 20:=ah.of Tryz.func20 (by kernel_rfl) (by kernel_rfl)
theorem SI:ah Tryz.prog 21:=ah.of Tryz.func21 (by kernel_rfl) (by kernel_rfl)
abbrev Rs(t:Ty)(l:(Ty.slice t).den):A:=.rep (.slice t) l
abbrev Pv(b:Nat):Value:=.pointer (some ⟨b,0,none⟩)
abbrev QD:= @Tryz.underlying102
abbrev S9:= @Tryz.underlying111
abbrev NQ:= @Tryz.underlying112
abbrev S8:= @Tryz.underlying114
abbrev E7:= @Tryz.underlying140
abbrev S7:= @Tryz.underlying143
abbrev QC:= @Tryz.underlying144
abbrev S5:= @Tryz.underlying179
abbrev SZ:= @Tryz.underlying196
abbrev TB:= @Tryz.underlying21
abbrev dQ:= @Tryz.underlying22
abbrev qD:= @Tryz.underlying25
abbrev k9:= @Tryz.underlying28
abbrev U3:= @Tryz.underlying3
abbrev QB:= @Tryz.underlying44
abbrev Oa:= @Tryz.underlying45
abbrev U5:= @Tryz.underlying5
abbrev QX:= @Tryz.underlying51
abbrev QW:= @Tryz.underlying64
abbrev QV:= @Tryz.underlying83
abbrev QU:= @Tryz.underlying85
abbrev U9:= @Tryz.underlying9
abbrev SY:= @Tryz.underlying90
abbrev TS:= @Tryz.underlying94
theorem lg:false=false→1=1:=fun _=>rfl
end Go.Proofs.YtmeojbemjkmebaaGreatDoor
