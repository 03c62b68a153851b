import Derived.Test.YtmeojbemjkmebaaGreatDoorRDB5
import Derived.Test.YtmeojbemjkmebaaGreatDoorRDB6
import Derived.Test.YtmeojbemjkmebaaGreatDoorProg
set_option linter.unusedVariables false
set_option linter.unusedSimpArgs false
namespace Go.Proofs.YtmeojbemjkmebaaGreatDoor
open K Go Go.Proofs
theorem cH:Tryz.prog.follows .mixedOrders=true:=by kernel_rfl
theorem uA{n:Nat}:true=false→n=1:=fun h=>nomatch h
def K3:ByteArray:=⟨#[0,1,2,2,3,3,3,3,4,4,4,4,4,4,4,4,5,5,5,5,5,5,5,5,5,5,5,5,5,5,5,5,6,6,6,6,6,6,6,6,6,6,6,6,6,6,6,6,6,6,6,6,6,6,6,6,6,6,6,6,6,6,6,6,7,7,7,7,7,7,7,7,7,7,7,7,7,7,7,7,7,7,7,7,7,7,7,7,7,7,7,7,7,7,7,7,7,7,7,7,7,7,7,7,7,7,7,7,7,7,7,7,7,7,7,7,7,7,7,7,7,7,7,7,7,7,7,7,8,8,8,8,8,8,8,8,8,8,8,8,8,8,8,8,8,8,8,8,8,8,8,8,8,8,8,8,8,8,8,8,8,8,8,8,8,8,8,8,8,8,8,8,8,8,8,8,8,8,8,8,8,8,8,8,8,8,8,8,8,8,8,8,8,8,8,8,8,8,8,8,8,8,8,8,8,8,8,8,8,8,8,8,8,8,8,8,8,8,8,8,8,8,8,8,8,8,8,8,8,8,8,8,8,8,8,8,8,8,8,8,8,8,8,8,8,8,8,8,8,8,8,8,8,8,8,8]⟩
@[reducible] def aJ:Ty:=.agg (.pair (.int .i64) (.slice (.int .i64)))
abbrev gf:=(Int×(List Int))
@[reducible] def ak:Ty:=.agg (.pair (.int .i64) (.pair (.slice aJ) (.slice (.int .i64))))
abbrev aP:=(Int×((List gf)×(List Int)))
@[reducible] def UG:Ty:=.agg (.pair (.slice (.int .i64)) (.pair (.int .i64) (.int .u64)))
abbrev bV:=((List Int)×(Int×Int))
@[reducible] def bD:Ty:=.agg (.pair ak .ign)
abbrev dr:=(aP×Unit)
@[reducible] def UR:Ty:=.agg (.pair (.ptr bD) (.slice (.slice (.int .i64))))
@[reducible] def Pz:Ty:=.agg (.pair (.int .i64) (.int .i64))
@[reducible] def SO:Ty:=.agg (.int .i64)
@[reducible] def G7:Ty:=.agg (.pair (.int .i64) (.lst (.int .i64)))
@[reducible] def SQ:Ty:=.agg (.pair .val (.pair .val (.int .u64)))
theorem S5:zp Tryz.prog 66 #[(0,1),(1,1),(2,1)]:=⟨_,Tryz.underlying66,fun _=>by kernel_rfl⟩
theorem SN:∀w,(zeroValue 66).run Tryz.prog w= .ok (.agg #[(.slice none 0 0),(.int .i64 (0)),(.int .u64 (0))]) w:=fun w=>by kernel_rfl
theorem RL:∀S w,(A.cells S w (.pair (.eq (.slice none 0 0)) (.pair (.eq (.int .i64 (0:Int))) (.eq (.int .u64 (0:Int))))) (Value.cells (.agg #[(.slice none 0 0),(.int .i64 (0)),(.int .u64 (0))])).toList):=fun _ _=>⟨[_],_,rfl,⟨rfl,rfl⟩,⟨[_],_,rfl,⟨rfl,rfl⟩,⟨rfl,rfl⟩⟩⟩
theorem t9:aZ Tryz.prog 66 2 2:=aZ.of (by kernel_rfl)
theorem E7:dL Tryz.prog 64 1 false:=⟨fun w=>by kernel_rfl,fun w=>by kernel_rfl⟩
theorem yX:aZ Tryz.prog 66 1 1:=aZ.of (by kernel_rfl)
theorem ct:dL Tryz.prog 3 1 false:=⟨fun w=>by kernel_rfl,fun w=>by kernel_rfl⟩
theorem IY:aZ Tryz.prog 66 0 0:=aZ.of (by kernel_rfl)
theorem bZ:dL Tryz.prog 22 1 false:=⟨fun w=>by kernel_rfl,fun w=>by kernel_rfl⟩
theorem TU:ae Tryz.prog 79:=ae.of Tryz.func79 (by kernel_rfl) (by kernel_rfl)
theorem I7:ae Tryz.prog 40:=ae.of Tryz.func40 (by kernel_rfl) (by kernel_rfl)
theorem lz:∀w,(zeroValue 27).run Tryz.prog w= .ok (.agg #[(.int .i64 (0)),(.slice none 0 0),(.slice none 0 0)]) w:=fun w=>by kernel_rfl
theorem nU:∀S w,(A.cells S w (.agg (.pair (.eq (.int .i64 (0:Int))) (.pair (.eq (.slice none 0 0)) (.eq (.slice none 0 0))))) (Value.cells (.agg #[(.int .i64 (0)),(.slice none 0 0),(.slice none 0 0)])).toList):=fun _ _=>⟨[_],_,rfl,⟨rfl,rfl⟩,⟨[_],_,rfl,⟨rfl,rfl⟩,⟨rfl,rfl⟩⟩⟩
theorem OM:ae Tryz.prog 10:=ae.of Tryz.func10 (by kernel_rfl) (by kernel_rfl)
theorem KF:zp Tryz.prog 27 #[(0,1),(1,1),(2,1)]:=⟨_,Tryz.underlying27,fun _=>by kernel_rfl⟩
theorem EE:∀S w,(A.cells S w (.pair (.eq (.int .i64 (0:Int))) (.pair (.eq (.slice none 0 0)) (.eq (.slice none 0 0)))) (Value.cells (.agg #[(.int .i64 (0)),(.slice none 0 0),(.slice none 0 0)])).toList):=fun _ _=>⟨[_],_,rfl,⟨rfl,rfl⟩,⟨[_],_,rfl,⟨rfl,rfl⟩,⟨rfl,rfl⟩⟩⟩
theorem c6:dL Tryz.prog 27 3 true:=⟨fun w=>by kernel_rfl,fun w=>by kernel_rfl⟩
theorem dk:mA Tryz.prog 22 3 1 8:=.of (z:=(.int .i64 (0))) Tryz.underlying22 (by kernel_rfl) rfl rfl rfl
theorem Q8:ae Tryz.prog 65:=ae.of Tryz.func65 (by kernel_rfl) (by kernel_rfl)
theorem CC:zp Tryz.prog 35 #[(0,1),(1,1)]:=⟨_,Tryz.underlying35,fun _=>by kernel_rfl⟩
theorem vg:∀w,(zeroValue 35).run Tryz.prog w= .ok (.agg #[(.int .i64 (0)),(.slice none 0 0)]) w:=fun w=>by kernel_rfl
theorem wu:∀S w,(A.cells S w (.pair (.eq (.int .i64 (0:Int))) (.eq (.slice none 0 0))) (Value.cells (.agg #[(.int .i64 (0)),(.slice none 0 0)])).toList):=fun _ _=>⟨[_],_,rfl,⟨rfl,rfl⟩,⟨rfl,rfl⟩⟩
theorem L2:∀S w,(A.cells S w (.agg (.pair (.eq (.int .i64 (0:Int))) (.eq (.slice none 0 0)))) (Value.cells (.agg #[(.int .i64 (0)),(.slice none 0 0)])).toList):=fun _ _=>⟨[_],_,rfl,⟨rfl,rfl⟩,⟨rfl,rfl⟩⟩
theorem jl:dL Tryz.prog 35 2 true:=⟨fun w=>by kernel_rfl,fun w=>by kernel_rfl⟩
theorem gI:aZ Tryz.prog 27 0 0:=aZ.of (by kernel_rfl)
theorem Q7:ae Tryz.prog 66:=ae.of Tryz.func66 (by kernel_rfl) (by kernel_rfl)
theorem kH:aZ Tryz.prog 35 1 1:=aZ.of (by kernel_rfl)
theorem cd:aZ Tryz.prog 27 1 1:=aZ.of (by kernel_rfl)
theorem fQ:dL Tryz.prog 25 1 false:=⟨fun w=>by kernel_rfl,fun w=>by kernel_rfl⟩
theorem BY:mA Tryz.prog 25 35 2 32:=.of (z:=(.agg #[(.int .i64 (0)),(.slice none 0 0)])) Tryz.underlying25 (by kernel_rfl) rfl rfl rfl
theorem kJ:aZ Tryz.prog 35 0 0:=aZ.of (by kernel_rfl)
theorem cM:aZ Tryz.prog 27 2 2:=aZ.of (by kernel_rfl)
theorem PI:∀i z,Tryz.prog.info? 22=some i→i.zero=some z→∀S w,rd S w .val (.slice none 0 0) z.cells.toList:=BI (t:=.val) (z0:=(.slice none 0 0)) (by kernel_rfl) fun _ _=>⟨rfl,rfl⟩
theorem mI:mA Tryz.prog 28 22 1 24:=.of (z:=(.slice none 0 0)) Tryz.underlying28 (by kernel_rfl) rfl rfl rfl
theorem T9:ae Tryz.prog 67:=ae.of Tryz.func67 (by kernel_rfl) (by kernel_rfl)
theorem Ue:ae Tryz.prog 52:=ae.of Tryz.func52 (by kernel_rfl) (by kernel_rfl)
theorem LG:ae Tryz.prog 87:=ae.of Tryz.func87 (by kernel_rfl) (by kernel_rfl)
theorem Re:ae Tryz.prog 54:=ae.of Tryz.func54 (by kernel_rfl) (by kernel_rfl)
theorem OG:ae Tryz.prog 69:=ae.of Tryz.func69 (by kernel_rfl) (by kernel_rfl)
theorem Uj:ae Tryz.prog 31:=ae.of Tryz.func31 (by kernel_rfl) (by kernel_rfl)
theorem Rh:ae Tryz.prog 32:=ae.of Tryz.func32 (by kernel_rfl) (by kernel_rfl)
theorem AZ:ae Tryz.prog 43:=ae.of Tryz.func43 (by kernel_rfl) (by kernel_rfl)
theorem TR:ae Tryz.prog 86:=ae.of Tryz.func86 (by kernel_rfl) (by kernel_rfl)
theorem xn:zp Tryz.prog 140 #[(0,1)]:=⟨_,Tryz.underlying140,fun _=>by kernel_rfl⟩
theorem vi:∀w,(zeroValue 140).run Tryz.prog w= .ok (.agg #[(.int .i64 (0))]) w:=fun w=>by kernel_rfl
theorem ug:∀S w,(A.cells S w (.eq (.int .i64 (0:Int))) (Value.cells (.agg #[(.int .i64 (0))])).toList):=fun _ _=>⟨rfl,rfl⟩
theorem LI:ae Tryz.prog 71:=ae.of Tryz.func71 (by kernel_rfl) (by kernel_rfl)
theorem LF:ae Tryz.prog 92:=ae.of Tryz.func92 (by kernel_rfl) (by kernel_rfl)
theorem Q1:ae Tryz.prog 91:=ae.of Tryz.func91 (by kernel_rfl) (by kernel_rfl)
theorem Rf:ae Tryz.prog 53:=ae.of Tryz.func53 (by kernel_rfl) (by kernel_rfl)
theorem RU:∀S w,(A.cells S w (.agg (.eq (.int .i64 (0:Int)))) (Value.cells (.agg #[(.int .i64 (0))])).toList):=fun _ _=>⟨rfl,rfl⟩
theorem TS:ae Tryz.prog 81:=ae.of Tryz.func81 (by kernel_rfl) (by kernel_rfl)
theorem Q3:ae Tryz.prog 80:=ae.of Tryz.func80 (by kernel_rfl) (by kernel_rfl)
theorem LA:aZ Tryz.prog 140 0 0:=aZ.of (by kernel_rfl)
theorem SS:dL Tryz.prog 36 1 false:=⟨fun w=>by kernel_rfl,fun w=>by kernel_rfl⟩
theorem rT:∀w,(zeroValue 85).run Tryz.prog w= .ok (.agg #[(.int .i64 (0)),(.int .i64 (0)),(.int .i64 (0)),(.int .i64 (0)),(.int .i64 (0)),(.int .i64 (0)),(.int .i64 (0)),(.int .i64 (0)),(.int .i64 (0)),(.int .i64 (0)),(.int .i64 (0)),(.int .i64 (0)),(.int .i64 (0)),(.int .i64 (0)),(.int .i64 (0))]) w:=fun w=>by kernel_rfl
theorem s8:∀S w,(A.cells S w (.rep (.arr 3 (.arr 5 (.int .i64))) [[(0:Int),(0:Int),(0:Int),(0:Int),(0:Int)],[(0:Int),(0:Int),(0:Int),(0:Int),(0:Int)],[(0:Int),(0:Int),(0:Int),(0:Int),(0:Int)]]) (Value.cells (.agg #[(.int .i64 (0)),(.int .i64 (0)),(.int .i64 (0)),(.int .i64 (0)),(.int .i64 (0)),(.int .i64 (0)),(.int .i64 (0)),(.int .i64 (0)),(.int .i64 (0)),(.int .i64 (0)),(.int .i64 (0)),(.int .i64 (0)),(.int .i64 (0)),(.int .i64 (0)),(.int .i64 (0))])).toList):=fun _ _=>⟨rfl,⟨[_,_,_,_,_],_,rfl,⟨rfl,⟨[_],_,rfl,rfl,⟨[_],_,rfl,rfl,⟨[_],_,rfl,rfl,⟨[_],_,rfl,rfl,⟨[_],_,rfl,rfl,rfl⟩⟩⟩⟩⟩⟩,⟨[_,_,_,_,_],_,rfl,⟨rfl,⟨[_],_,rfl,rfl,⟨[_],_,rfl,rfl,⟨[_],_,rfl,rfl,⟨[_],_,rfl,rfl,⟨[_],_,rfl,rfl,rfl⟩⟩⟩⟩⟩⟩,⟨[_,_,_,_,_],_,rfl,⟨rfl,⟨[_],_,rfl,rfl,⟨[_],_,rfl,rfl,⟨[_],_,rfl,rfl,⟨[_],_,rfl,rfl,⟨[_],_,rfl,rfl,rfl⟩⟩⟩⟩⟩⟩,rfl⟩⟩⟩⟩
theorem He:dL Tryz.prog 83 5 true:=⟨fun w=>by kernel_rfl,fun w=>by kernel_rfl⟩
theorem fP:dL Tryz.prog 85 15 true:=⟨fun w=>by kernel_rfl,fun w=>by kernel_rfl⟩
theorem PM:∀w,(zeroValue 196).run Tryz.prog w= .ok (.pointer none) w:=fun w=>by kernel_rfl
theorem RO:∀S w,(A.cells S w (.eq (.pointer none)) (Value.cells (.pointer none)).toList):=fun _ _=>⟨rfl,rfl⟩
theorem Ro:ae Tryz.prog 148:=ae.of Tryz.func148 (by kernel_rfl) (by kernel_rfl)
theorem zP:dL Tryz.prog 196 1 false:=⟨fun w=>by kernel_rfl,fun w=>by kernel_rfl⟩
theorem P8:zp Tryz.prog 199 #[(0,1),(1,1)]:=⟨_,Tryz.underlying199,fun _=>by kernel_rfl⟩
theorem PL:∀w,(zeroValue 199).run Tryz.prog w= .ok (.agg #[(.int .i64 (0)),(.pointer none)]) w:=fun w=>by kernel_rfl
theorem O0:∀S w,(A.cells S w (.pair (.eq (.int .i64 (0:Int))) (.eq (.pointer none))) (Value.cells (.agg #[(.int .i64 (0)),(.pointer none)])).toList):=fun _ _=>⟨[_],_,rfl,⟨rfl,rfl⟩,⟨rfl,rfl⟩⟩
theorem Rj:ae Tryz.prog 166:=ae.of Tryz.func166 (by kernel_rfl) (by kernel_rfl)
theorem Ry:ae Tryz.prog 118:=ae.of Tryz.func118 (by kernel_rfl) (by kernel_rfl)
theorem vb:aZ Tryz.prog 199 0 0:=aZ.of (by kernel_rfl)
theorem Es:aZ Tryz.prog 199 1 1:=aZ.of (by kernel_rfl)
theorem Rn:ae Tryz.prog 149:=ae.of Tryz.func149 (by kernel_rfl) (by kernel_rfl)
theorem kl:aZ Tryz.prog 146 0 0:=aZ.of (by kernel_rfl)
theorem Rx:ae Tryz.prog 119:=ae.of Tryz.func119 (by kernel_rfl) (by kernel_rfl)
theorem Et:aZ Tryz.prog 146 1 3:=aZ.of (by kernel_rfl)
theorem MX:dL Tryz.prog 144 1 false:=⟨fun w=>by kernel_rfl,fun w=>by kernel_rfl⟩
theorem Q5:ae Tryz.prog 73:=ae.of Tryz.func73 (by kernel_rfl) (by kernel_rfl)
theorem OJ:ae Tryz.prog 42:=ae.of Tryz.func42 (by kernel_rfl) (by kernel_rfl)
theorem I6:ae Tryz.prog 44:=ae.of Tryz.func44 (by kernel_rfl) (by kernel_rfl)
theorem F8:ae Tryz.prog 47:=ae.of Tryz.func47 (by kernel_rfl) (by kernel_rfl)
theorem OH:ae Tryz.prog 48:=ae.of Tryz.func48 (by kernel_rfl) (by kernel_rfl)
theorem I8:ae Tryz.prog 39:=ae.of Tryz.func39 (by kernel_rfl) (by kernel_rfl)
theorem SL:∀i z,Tryz.prog.info? 22=some i→i.zero=some z→∀S w,rd S w (.slice (.int .i64)) [] z.cells.toList:=BI (z0:=(.slice none 0 0)) (by kernel_rfl) fun _ _=>.inl ⟨_,_,rfl,rfl⟩
theorem LH:ae Tryz.prog 78:=ae.of Tryz.func78 (by kernel_rfl) (by kernel_rfl)
theorem uL:dL Tryz.prog 80 1 false:=⟨fun w=>by kernel_rfl,fun w=>by kernel_rfl⟩
theorem P6:dL Tryz.prog 154 1 false:=⟨fun w=>by kernel_rfl,fun w=>by kernel_rfl⟩
theorem DZ:dL Tryz.prog 155 1 false:=⟨fun w=>by kernel_rfl,fun w=>by kernel_rfl⟩
theorem OF:ae Tryz.prog 90:=ae.of Tryz.func90 (by kernel_rfl) (by kernel_rfl)
theorem PQ:∀w,(zeroValue 155).run Tryz.prog w= .ok .nilFunc w:=fun w=>by kernel_rfl
theorem RS:∀S w,(A.cells S w (.eq .nilFunc) (Value.cells .nilFunc).toList):=fun _ _=>⟨rfl,rfl⟩
theorem Hg:dL Tryz.prog 102 1 false:=⟨fun w=>by kernel_rfl,fun w=>by kernel_rfl⟩
theorem M4:mA Tryz.prog 102 85 15 120:=.of (z:=(.agg #[(.int .i64 (0)),(.int .i64 (0)),(.int .i64 (0)),(.int .i64 (0)),(.int .i64 (0)),(.int .i64 (0)),(.int .i64 (0)),(.int .i64 (0)),(.int .i64 (0)),(.int .i64 (0)),(.int .i64 (0)),(.int .i64 (0)),(.int .i64 (0)),(.int .i64 (0)),(.int .i64 (0))])) Tryz.underlying102 (by kernel_rfl) rfl rfl rfl
theorem Q2:ae Tryz.prog 89:=ae.of Tryz.func89 (by kernel_rfl) (by kernel_rfl)
theorem TP:ae Tryz.prog 88:=ae.of Tryz.func88 (by kernel_rfl) (by kernel_rfl)
theorem Rb:ae Tryz.prog 57:=ae.of Tryz.func57 (by kernel_rfl) (by kernel_rfl)
theorem Uc:ae Tryz.prog 56:=ae.of Tryz.func56 (by kernel_rfl) (by kernel_rfl)
theorem Ud:ae Tryz.prog 55:=ae.of Tryz.func55 (by kernel_rfl) (by kernel_rfl)
theorem OI:ae Tryz.prog 45:=ae.of Tryz.func45 (by kernel_rfl) (by kernel_rfl)
theorem TK:ae Tryz.prog 98:=ae.of Tryz.func98 (by kernel_rfl) (by kernel_rfl)
theorem TL:ae Tryz.prog 97:=ae.of Tryz.func97 (by kernel_rfl) (by kernel_rfl)
theorem Q6:ae Tryz.prog 70:=ae.of Tryz.func70 (by kernel_rfl) (by kernel_rfl)
theorem T8:ae Tryz.prog 72:=ae.of Tryz.func72 (by kernel_rfl) (by kernel_rfl)
theorem RG:ae Tryz.prog 105:=ae.of Tryz.func105 (by kernel_rfl) (by kernel_rfl)
theorem UP:∀w,(zeroValue 3).run Tryz.prog w= .ok (.int .i64 0) w:=fun w=>by kernel_rfl
theorem Ub:ae Tryz.prog 59:=ae.of Tryz.func59 (by kernel_rfl) (by kernel_rfl)
theorem Q4:ae Tryz.prog 75:=ae.of Tryz.func75 (by kernel_rfl) (by kernel_rfl)
theorem RD:ae Tryz.prog 108:=ae.of Tryz.func108 (by kernel_rfl) (by kernel_rfl)
theorem Ru:ae Tryz.prog 140:=ae.of Tryz.func140 (by kernel_rfl) (by kernel_rfl)
theorem Nk:ae Tryz.prog 172:=ae.of Tryz.func172 (by kernel_rfl) (by kernel_rfl)
theorem Rl:ae Tryz.prog 161:=ae.of Tryz.func161 (by kernel_rfl) (by kernel_rfl)
theorem Rk:ae Tryz.prog 165:=ae.of Tryz.func165 (by kernel_rfl) (by kernel_rfl)
theorem Rm:ae Tryz.prog 155:=ae.of Tryz.func155 (by kernel_rfl) (by kernel_rfl)
theorem Rr:ae Tryz.prog 142:=ae.of Tryz.func142 (by kernel_rfl) (by kernel_rfl)
theorem Rt:ae Tryz.prog 141:=ae.of Tryz.func141 (by kernel_rfl) (by kernel_rfl)
theorem RF:ae Tryz.prog 106:=ae.of Tryz.func106 (by kernel_rfl) (by kernel_rfl)
theorem RE:ae Tryz.prog 107:=ae.of Tryz.func107 (by kernel_rfl) (by kernel_rfl)
theorem PK:∀w,(zeroValue 80).run Tryz.prog w= .ok (.pointer none) w:=fun w=>by kernel_rfl
theorem RN:∀S w,(A.cells S w (.eq (.pointer none)) (Value.cells (.pointer none)).toList):=fun _ _=>⟨rfl,rfl⟩
theorem Uf:ae Tryz.prog 46:=ae.of Tryz.func46 (by kernel_rfl) (by kernel_rfl)
theorem TX:ae Tryz.prog 77:=ae.of Tryz.func77 (by kernel_rfl) (by kernel_rfl)
theorem TY:ae Tryz.prog 76:=ae.of Tryz.func76 (by kernel_rfl) (by kernel_rfl)
theorem TZ:ae Tryz.prog 74:=ae.of Tryz.func74 (by kernel_rfl) (by kernel_rfl)
theorem F9:ae Tryz.prog 35:=ae.of Tryz.func35 (by kernel_rfl) (by kernel_rfl)
theorem LJ:ae Tryz.prog 36:=ae.of Tryz.func36 (by kernel_rfl) (by kernel_rfl)
theorem Ui:ae Tryz.prog 34:=ae.of Tryz.func34 (by kernel_rfl) (by kernel_rfl)
theorem Ut:ae Tryz.prog 13:=ae.of Tryz.func13 (by kernel_rfl) (by kernel_rfl)
theorem OK:ae Tryz.prog 23:=ae.of Tryz.func23 (by kernel_rfl) (by kernel_rfl)
theorem Uh:ae Tryz.prog 37:=ae.of Tryz.func37 (by kernel_rfl) (by kernel_rfl)
theorem Uk:ae Tryz.prog 29:=ae.of Tryz.func29 (by kernel_rfl) (by kernel_rfl)
theorem Ug:ae Tryz.prog 38:=ae.of Tryz.func38 (by kernel_rfl) (by kernel_rfl)
theorem Ur:ae Tryz.prog 17:=ae.of Tryz.func17 (by kernel_rfl) (by kernel_rfl)
theorem OL:ae Tryz.prog 22:=ae.of Tryz.func22 (by kernel_rfl) (by kernel_rfl)
theorem za:ae Tryz.prog 41:=ae.of Tryz.func41 (by kernel_rfl) (by kernel_rfl)
theorem Sz:ae Tryz.prog 7:=ae.of Tryz.func7 (by kernel_rfl) (by kernel_rfl)
theorem UK:ae Tryz.prog 9:=ae.of Tryz.func9 (by kernel_rfl) (by kernel_rfl)
theorem RB:ae Tryz.prog 11:=ae.of Tryz.func11 (by kernel_rfl) (by kernel_rfl)
theorem Hk:mA Tryz.prog 45 28 1 24:=.of (z:=(.slice none 0 0)) Tryz.underlying45 (by kernel_rfl) rfl rfl rfl
theorem uM:dL Tryz.prog 28 1 false:=⟨fun w=>by kernel_rfl,fun w=>by kernel_rfl⟩
theorem Ul:ae Tryz.prog 28:=ae.of Tryz.func28 (by kernel_rfl) (by kernel_rfl)
theorem SV:mA Tryz.prog 44 27 3 56:=.of (z:=(.agg #[(.int .i64 (0)),(.slice none 0 0),(.slice none 0 0)])) Tryz.underlying44 (by kernel_rfl) rfl rfl rfl
theorem Rw:ae Tryz.prog 14:=ae.of Tryz.func14 (by kernel_rfl) (by kernel_rfl)
theorem Us:ae Tryz.prog 16:=ae.of Tryz.func16 (by kernel_rfl) (by kernel_rfl)
theorem Rq:ae Tryz.prog 147:=ae.of Tryz.func147 (by kernel_rfl) (by kernel_rfl)
theorem UQ:∀i z,Tryz.prog.info? 3=some i→i.zero=some z→∀S w,rd S w (.int .i64) (0:Int) z.cells.toList:=BI (z0:=(.int .i64 (0))) (by kernel_rfl) fun _ _=>rfl
theorem Rz:ae Tryz.prog 117:=ae.of Tryz.func117 (by kernel_rfl) (by kernel_rfl)
theorem TM:ae Tryz.prog 96:=ae.of Tryz.func96 (by kernel_rfl) (by kernel_rfl)
theorem I9:ae Tryz.prog 116:=ae.of Tryz.func116 (by kernel_rfl) (by kernel_rfl)
theorem TN:ae Tryz.prog 94:=ae.of Tryz.func94 (by kernel_rfl) (by kernel_rfl)
theorem TO:ae Tryz.prog 93:=ae.of Tryz.func93 (by kernel_rfl) (by kernel_rfl)
theorem Ua:ae Tryz.prog 63:=ae.of Tryz.func63 (by kernel_rfl) (by kernel_rfl)
theorem Q9:ae Tryz.prog 58:=ae.of Tryz.func58 (by kernel_rfl) (by kernel_rfl)
theorem UE:∀w,(zeroValue 3).run Tryz.prog w= .ok (.int .i64 (0)) w:=fun w=>by kernel_rfl
theorem UN:∀S w,(A.cells S w (.eq (.int .i64 (0:Int))) (Value.cells (.int .i64 (0))).toList):=fun _ _=>⟨rfl,rfl⟩
theorem Up:ae Tryz.prog 24:=ae.of Tryz.func24 (by kernel_rfl) (by kernel_rfl)
theorem Uo:ae Tryz.prog 25:=ae.of Tryz.func25 (by kernel_rfl) (by kernel_rfl)
theorem Un:ae Tryz.prog 26:=ae.of Tryz.func26 (by kernel_rfl) (by kernel_rfl)
theorem Um:ae Tryz.prog 27:=ae.of Tryz.func27 (by kernel_rfl) (by kernel_rfl)
abbrev Rs(t:Ty)(l:(Ty.slice t).den):A:=.rep (.slice t) l
abbrev Pv(b:Nat):Value:=.pointer (some ⟨b,0,none⟩)
abbrev R2:= @Tryz.underlying102
abbrev UB:= @Tryz.underlying111
abbrev O6:= @Tryz.underlying112
abbrev UA:= @Tryz.underlying114
abbrev Gs:= @Tryz.underlying140
abbrev Uz:= @Tryz.underlying143
abbrev RZ:= @Tryz.underlying144
abbrev Uy:= @Tryz.underlying179
abbrev Ux:= @Tryz.underlying196
abbrev U1:= @Tryz.underlying21
abbrev dP:= @Tryz.underlying22
abbrev nn:= @Tryz.underlying25
abbrev pY:= @Tryz.underlying28
abbrev U3:= @Tryz.underlying3
abbrev PE:= @Tryz.underlying44
abbrev O5:= @Tryz.underlying45
abbrev U5:= @Tryz.underlying5
abbrev U0:= @Tryz.underlying51
abbrev SH:= @Tryz.underlying64
abbrev SG:= @Tryz.underlying83
abbrev SD:= @Tryz.underlying85
abbrev U9:= @Tryz.underlying9
abbrev UZ:= @Tryz.underlying94
theorem jw:false=false→1=1:=fun _=>rfl
end Go.Proofs.YtmeojbemjkmebaaGreatDoor
