import Derived.Test.YtmeojbemjkmebaaGreatDoorRAB5
import Derived.Test.YtmeojbemjkmebaaGreatDoorProg
set_option linter.unusedVariables false
set_option linter.unusedSimpArgs false
namespace Go.Proofs.YtmeojbemjkmebaaGreatDoor
open K Go Go.Proofs
theorem dI:Tryz.prog.follows .mixedOrders=true:=by kernel_rfl
theorem vL{n:Nat}:true=false→n=1:=fun h=>nomatch h
def Jo:ByteArray:=⟨#[0,1,2,2,3,3,3,3,4,4,4,4,4,4,4,4,5,5,5,5,5,5,5,5,5,5,5,5,5,5,5,5,6,6,6,6,6,6,6,6,6,6,6,6,6,6,6,6,6,6,6,6,6,6,6,6,6,6,6,6,6,6,6,6,7,7,7,7,7,7,7,7,7,7,7,7,7,7,7,7,7,7,7,7,7,7,7,7,7,7,7,7,7,7,7,7,7,7,7,7,7,7,7,7,7,7,7,7,7,7,7,7,7,7,7,7,7,7,7,7,7,7,7,7,7,7,7,7,8,8,8,8,8,8,8,8,8,8,8,8,8,8,8,8,8,8,8,8,8,8,8,8,8,8,8,8,8,8,8,8,8,8,8,8,8,8,8,8,8,8,8,8,8,8,8,8,8,8,8,8,8,8,8,8,8,8,8,8,8,8,8,8,8,8,8,8,8,8,8,8,8,8,8,8,8,8,8,8,8,8,8,8,8,8,8,8,8,8,8,8,8,8,8,8,8,8,8,8,8,8,8,8,8,8,8,8,8,8,8,8,8,8,8,8,8,8,8,8,8,8,8,8,8,8,8,8]⟩
@[reducible] def aG:Ty:=.agg (.pair (.int .i64) (.slice (.int .i64)))
abbrev cR:=(Int×(List Int))
@[reducible] def aw:Ty:=.agg (.pair (.int .i64) (.pair (.slice aG) (.slice (.int .i64))))
abbrev be:=(Int×((List cR)×(List Int)))
@[reducible] def Si:Ty:=.agg (.pair (.slice (.int .i64)) (.pair (.int .i64) (.int .u64)))
abbrev bI:=((List Int)×(Int×Int))
@[reducible] def bH:Ty:=.agg (.pair aw .ign)
abbrev dc:=(be×Unit)
@[reducible] def SB:Ty:=.agg (.pair (.ptr bH) (.slice (.slice (.int .i64))))
@[reducible] def NK:Ty:=.agg (.pair (.int .i64) (.int .i64))
@[reducible] def QH:Ty:=.agg (.int .i64)
@[reducible] def Fz:Ty:=.agg (.pair (.int .i64) (.lst (.int .i64)))
@[reducible] def QI:Ty:=.agg (.pair .val (.pair .val (.int .u64)))
theorem QN:yt Tryz.prog 66 #[(0,1),(1,1),(2,1)]:=⟨_,Tryz.underlying66,fun _=>by kernel_rfl⟩
theorem QG:∀w,(zeroValue 66).run Tryz.prog w= .ok (.agg #[(.slice none 0 0),(.int .i64 (0)),(.int .u64 (0))]) w:=fun w=>by kernel_rfl
theorem P2:∀S w,(A.cells S w (.pair (.eq (.slice none 0 0)) (.pair (.eq (.int .i64 (0:Int))) (.eq (.int .u64 (0:Int))))) (Value.cells (.agg #[(.slice none 0 0),(.int .i64 (0)),(.int .u64 (0))])).toList):=fun _ _=>⟨[_],_,rfl,⟨rfl,rfl⟩,⟨[_],_,rfl,⟨rfl,rfl⟩,⟨rfl,rfl⟩⟩⟩
theorem sR:aU Tryz.prog 66 2 2:=aU.of (by kernel_rfl)
theorem DD:dC Tryz.prog 64 1 false:=⟨fun w=>by kernel_rfl,fun w=>by kernel_rfl⟩
theorem xZ:aU Tryz.prog 66 1 1:=aU.of (by kernel_rfl)
theorem co:dC Tryz.prog 3 1 false:=⟨fun w=>by kernel_rfl,fun w=>by kernel_rfl⟩
theorem HC:aU Tryz.prog 66 0 0:=aU.of (by kernel_rfl)
theorem cg:dC Tryz.prog 22 1 false:=⟨fun w=>by kernel_rfl,fun w=>by kernel_rfl⟩
theorem Rk:ag Tryz.prog 79:=ag.of Tryz.func79 (by kernel_rfl) (by kernel_rfl)
theorem HL:ag Tryz.prog 40:=ag.of Tryz.func40 (by kernel_rfl) (by kernel_rfl)
theorem j9:∀w,(zeroValue 27).run Tryz.prog w= .ok (.agg #[(.int .i64 (0)),(.slice none 0 0),(.slice none 0 0)]) w:=fun w=>by kernel_rfl
theorem lQ:∀S w,(A.cells S w (.agg (.pair (.eq (.int .i64 (0:Int))) (.pair (.eq (.slice none 0 0)) (.eq (.slice none 0 0))))) (Value.cells (.agg #[(.int .i64 (0)),(.slice none 0 0),(.slice none 0 0)])).toList):=fun _ _=>⟨[_],_,rfl,⟨rfl,rfl⟩,⟨[_],_,rfl,⟨rfl,rfl⟩,⟨rfl,rfl⟩⟩⟩
theorem J3:ag Tryz.prog 10:=ag.of Tryz.func10 (by kernel_rfl) (by kernel_rfl)
theorem I3:yt Tryz.prog 27 #[(0,1),(1,1),(2,1)]:=⟨_,Tryz.underlying27,fun _=>by kernel_rfl⟩
theorem C7:∀S w,(A.cells S w (.pair (.eq (.int .i64 (0:Int))) (.pair (.eq (.slice none 0 0)) (.eq (.slice none 0 0)))) (Value.cells (.agg #[(.int .i64 (0)),(.slice none 0 0),(.slice none 0 0)])).toList):=fun _ _=>⟨[_],_,rfl,⟨rfl,rfl⟩,⟨[_],_,rfl,⟨rfl,rfl⟩,⟨rfl,rfl⟩⟩⟩
theorem fJ:dC Tryz.prog 27 3 true:=⟨fun w=>by kernel_rfl,fun w=>by kernel_rfl⟩
theorem eu:my Tryz.prog 22 3 1 8:=.of (z:=(.int .i64 (0))) Tryz.underlying22 (by kernel_rfl) rfl rfl rfl
theorem Pz:ag Tryz.prog 65:=ag.of Tryz.func65 (by kernel_rfl) (by kernel_rfl)
theorem D3:yt Tryz.prog 35 #[(0,1),(1,1)]:=⟨_,Tryz.underlying35,fun _=>by kernel_rfl⟩
theorem vv:∀w,(zeroValue 35).run Tryz.prog w= .ok (.agg #[(.int .i64 (0)),(.slice none 0 0)]) w:=fun w=>by kernel_rfl
theorem wY:∀S w,(A.cells S w (.pair (.eq (.int .i64 (0:Int))) (.eq (.slice none 0 0))) (Value.cells (.agg #[(.int .i64 (0)),(.slice none 0 0)])).toList):=fun _ _=>⟨[_],_,rfl,⟨rfl,rfl⟩,⟨rfl,rfl⟩⟩
theorem Kx:∀S w,(A.cells S w (.agg (.pair (.eq (.int .i64 (0:Int))) (.eq (.slice none 0 0)))) (Value.cells (.agg #[(.int .i64 (0)),(.slice none 0 0)])).toList):=fun _ _=>⟨[_],_,rfl,⟨rfl,rfl⟩,⟨rfl,rfl⟩⟩
theorem jH:dC Tryz.prog 35 2 true:=⟨fun w=>by kernel_rfl,fun w=>by kernel_rfl⟩
theorem cD:aU Tryz.prog 27 0 0:=aU.of (by kernel_rfl)
theorem Py:ag Tryz.prog 66:=ag.of Tryz.func66 (by kernel_rfl) (by kernel_rfl)
theorem jh:aU Tryz.prog 35 1 1:=aU.of (by kernel_rfl)
theorem cC:aU Tryz.prog 27 1 1:=aU.of (by kernel_rfl)
theorem ic:dC Tryz.prog 25 1 false:=⟨fun w=>by kernel_rfl,fun w=>by kernel_rfl⟩
theorem FN:my Tryz.prog 25 35 2 32:=.of (z:=(.agg #[(.int .i64 (0)),(.slice none 0 0)])) Tryz.underlying25 (by kernel_rfl) rfl rfl rfl
theorem ny:aU Tryz.prog 35 0 0:=aU.of (by kernel_rfl)
theorem dH:aU Tryz.prog 27 2 2:=aU.of (by kernel_rfl)
theorem NQ:∀i z,Tryz.prog.info? 22=some i→i.zero=some z→∀S w,rd S w .val (.slice none 0 0) z.cells.toList:=E3 (t:=.val) (z0:=(.slice none 0 0)) (by kernel_rfl) fun _ _=>⟨rfl,rfl⟩
theorem uh:my Tryz.prog 28 22 1 24:=.of (z:=(.slice none 0 0)) Tryz.underlying28 (by kernel_rfl) rfl rfl rfl
theorem Rt:ag Tryz.prog 67:=ag.of Tryz.func67 (by kernel_rfl) (by kernel_rfl)
theorem RA:ag Tryz.prog 52:=ag.of Tryz.func52 (by kernel_rfl) (by kernel_rfl)
theorem HJ:ag Tryz.prog 87:=ag.of Tryz.func87 (by kernel_rfl) (by kernel_rfl)
theorem Rz:ag Tryz.prog 54:=ag.of Tryz.func54 (by kernel_rfl) (by kernel_rfl)
theorem Rr:ag Tryz.prog 68:=ag.of Tryz.func68 (by kernel_rfl) (by kernel_rfl)
theorem Rq:ag Tryz.prog 69:=ag.of Tryz.func69 (by kernel_rfl) (by kernel_rfl)
theorem RH:ag Tryz.prog 31:=ag.of Tryz.func31 (by kernel_rfl) (by kernel_rfl)
theorem RG:ag Tryz.prog 32:=ag.of Tryz.func32 (by kernel_rfl) (by kernel_rfl)
theorem RF:ag Tryz.prog 33:=ag.of Tryz.func33 (by kernel_rfl) (by kernel_rfl)
theorem yc:ag Tryz.prog 43:=ag.of Tryz.func43 (by kernel_rfl) (by kernel_rfl)
theorem Rh:ag Tryz.prog 86:=ag.of Tryz.func86 (by kernel_rfl) (by kernel_rfl)
theorem wi:yt Tryz.prog 140 #[(0,1)]:=⟨_,Tryz.underlying140,fun _=>by kernel_rfl⟩
theorem t3:∀w,(zeroValue 140).run Tryz.prog w= .ok (.agg #[(.int .i64 (0))]) w:=fun w=>by kernel_rfl
theorem sY:∀S w,(A.cells S w (.eq (.int .i64 (0:Int))) (Value.cells (.agg #[(.int .i64 (0))])).toList):=fun _ _=>⟨rfl,rfl⟩
theorem JY:ag Tryz.prog 71:=ag.of Tryz.func71 (by kernel_rfl) (by kernel_rfl)
theorem JW:ag Tryz.prog 92:=ag.of Tryz.func92 (by kernel_rfl) (by kernel_rfl)
theorem Pl:ag Tryz.prog 91:=ag.of Tryz.func91 (by kernel_rfl) (by kernel_rfl)
theorem PC:ag Tryz.prog 53:=ag.of Tryz.func53 (by kernel_rfl) (by kernel_rfl)
theorem P8:∀S w,(A.cells S w (.agg (.eq (.int .i64 (0:Int)))) (Value.cells (.agg #[(.int .i64 (0))])).toList):=fun _ _=>⟨rfl,rfl⟩
theorem Rj:ag Tryz.prog 81:=ag.of Tryz.func81 (by kernel_rfl) (by kernel_rfl)
theorem Pm:ag Tryz.prog 80:=ag.of Tryz.func80 (by kernel_rfl) (by kernel_rfl)
theorem JR:aU Tryz.prog 140 0 0:=aU.of (by kernel_rfl)
theorem QK:dC Tryz.prog 36 1 false:=⟨fun w=>by kernel_rfl,fun w=>by kernel_rfl⟩
theorem rY:∀w,(zeroValue 85).run Tryz.prog w= .ok (.agg #[(.int .i64 (0)),(.int .i64 (0)),(.int .i64 (0)),(.int .i64 (0)),(.int .i64 (0)),(.int .i64 (0)),(.int .i64 (0)),(.int .i64 (0)),(.int .i64 (0)),(.int .i64 (0)),(.int .i64 (0)),(.int .i64 (0)),(.int .i64 (0)),(.int .i64 (0)),(.int .i64 (0))]) w:=fun w=>by kernel_rfl
theorem sZ:∀S w,(A.cells S w (.rep (.arr 3 (.arr 5 (.int .i64))) [[(0:Int),(0:Int),(0:Int),(0:Int),(0:Int)],[(0:Int),(0:Int),(0:Int),(0:Int),(0:Int)],[(0:Int),(0:Int),(0:Int),(0:Int),(0:Int)]]) (Value.cells (.agg #[(.int .i64 (0)),(.int .i64 (0)),(.int .i64 (0)),(.int .i64 (0)),(.int .i64 (0)),(.int .i64 (0)),(.int .i64 (0)),(.int .i64 (0)),(.int .i64 (0)),(.int .i64 (0)),(.int .i64 (0)),(.int .i64 (0)),(.int .i64 (0)),(.int .i64 (0)),(.int .i64 (0))])).toList):=fun _ _=>⟨rfl,⟨[_,_,_,_,_],_,rfl,⟨rfl,⟨[_],_,rfl,rfl,⟨[_],_,rfl,rfl,⟨[_],_,rfl,rfl,⟨[_],_,rfl,rfl,⟨[_],_,rfl,rfl,rfl⟩⟩⟩⟩⟩⟩,⟨[_,_,_,_,_],_,rfl,⟨rfl,⟨[_],_,rfl,rfl,⟨[_],_,rfl,rfl,⟨[_],_,rfl,rfl,⟨[_],_,rfl,rfl,⟨[_],_,rfl,rfl,rfl⟩⟩⟩⟩⟩⟩,⟨[_,_,_,_,_],_,rfl,⟨rfl,⟨[_],_,rfl,rfl,⟨[_],_,rfl,rfl,⟨[_],_,rfl,rfl,⟨[_],_,rfl,rfl,⟨[_],_,rfl,rfl,rfl⟩⟩⟩⟩⟩⟩,rfl⟩⟩⟩⟩
theorem FD:dC Tryz.prog 83 5 true:=⟨fun w=>by kernel_rfl,fun w=>by kernel_rfl⟩
theorem fO:dC Tryz.prog 85 15 true:=⟨fun w=>by kernel_rfl,fun w=>by kernel_rfl⟩
theorem NS:∀w,(zeroValue 196).run Tryz.prog w= .ok (.pointer none) w:=fun w=>by kernel_rfl
theorem P3:∀S w,(A.cells S w (.eq (.pointer none)) (Value.cells (.pointer none)).toList):=fun _ _=>⟨rfl,rfl⟩
theorem PN:ag Tryz.prog 148:=ag.of Tryz.func148 (by kernel_rfl) (by kernel_rfl)
theorem yP:dC Tryz.prog 196 1 false:=⟨fun w=>by kernel_rfl,fun w=>by kernel_rfl⟩
theorem Oi:yt Tryz.prog 199 #[(0,1),(1,1)]:=⟨_,Tryz.underlying199,fun _=>by kernel_rfl⟩
theorem NR:∀w,(zeroValue 199).run Tryz.prog w= .ok (.agg #[(.int .i64 (0)),(.pointer none)]) w:=fun w=>by kernel_rfl
theorem Nn:∀S w,(A.cells S w (.pair (.eq (.int .i64 (0:Int))) (.eq (.pointer none))) (Value.cells (.agg #[(.int .i64 (0)),(.pointer none)])).toList):=fun _ _=>⟨[_],_,rfl,⟨rfl,rfl⟩,⟨rfl,rfl⟩⟩
theorem PH:ag Tryz.prog 166:=ag.of Tryz.func166 (by kernel_rfl) (by kernel_rfl)
theorem PS:ag Tryz.prog 118:=ag.of Tryz.func118 (by kernel_rfl) (by kernel_rfl)
theorem tV:aU Tryz.prog 199 0 0:=aU.of (by kernel_rfl)
theorem CY:aU Tryz.prog 199 1 1:=aU.of (by kernel_rfl)
theorem PM:ag Tryz.prog 149:=ag.of Tryz.func149 (by kernel_rfl) (by kernel_rfl)
theorem jF:aU Tryz.prog 146 0 0:=aU.of (by kernel_rfl)
theorem PR:ag Tryz.prog 119:=ag.of Tryz.func119 (by kernel_rfl) (by kernel_rfl)
theorem CZ:aU Tryz.prog 146 1 3:=aU.of (by kernel_rfl)
theorem K0:dC Tryz.prog 144 1 false:=⟨fun w=>by kernel_rfl,fun w=>by kernel_rfl⟩
theorem Po:ag Tryz.prog 73:=ag.of Tryz.func73 (by kernel_rfl) (by kernel_rfl)
theorem J0:ag Tryz.prog 42:=ag.of Tryz.func42 (by kernel_rfl) (by kernel_rfl)
theorem HK:ag Tryz.prog 44:=ag.of Tryz.func44 (by kernel_rfl) (by kernel_rfl)
theorem BG:ag Tryz.prog 47:=ag.of Tryz.func47 (by kernel_rfl) (by kernel_rfl)
theorem PD:ag Tryz.prog 48:=ag.of Tryz.func48 (by kernel_rfl) (by kernel_rfl)
theorem M4:ag Tryz.prog 39:=ag.of Tryz.func39 (by kernel_rfl) (by kernel_rfl)
theorem QE:∀i z,Tryz.prog.info? 22=some i→i.zero=some z→∀S w,rd S w (.slice (.int .i64)) [] z.cells.toList:=E3 (z0:=(.slice none 0 0)) (by kernel_rfl) fun _ _=>.inl ⟨_,_,rfl,rfl⟩
theorem JX:ag Tryz.prog 78:=ag.of Tryz.func78 (by kernel_rfl) (by kernel_rfl)
theorem xo:dC Tryz.prog 80 1 false:=⟨fun w=>by kernel_rfl,fun w=>by kernel_rfl⟩
theorem Og:dC Tryz.prog 154 1 false:=⟨fun w=>by kernel_rfl,fun w=>by kernel_rfl⟩
theorem Cd:dC Tryz.prog 155 1 false:=⟨fun w=>by kernel_rfl,fun w=>by kernel_rfl⟩
theorem MZ:ag Tryz.prog 90:=ag.of Tryz.func90 (by kernel_rfl) (by kernel_rfl)
theorem NW:∀w,(zeroValue 155).run Tryz.prog w= .ok .nilFunc w:=fun w=>by kernel_rfl
theorem P7:∀S w,(A.cells S w (.eq .nilFunc) (Value.cells .nilFunc).toList):=fun _ _=>⟨rfl,rfl⟩
theorem FH:dC Tryz.prog 102 1 false:=⟨fun w=>by kernel_rfl,fun w=>by kernel_rfl⟩
theorem K3:my Tryz.prog 102 85 15 120:=.of (z:=(.agg #[(.int .i64 (0)),(.int .i64 (0)),(.int .i64 (0)),(.int .i64 (0)),(.int .i64 (0)),(.int .i64 (0)),(.int .i64 (0)),(.int .i64 (0)),(.int .i64 (0)),(.int .i64 (0)),(.int .i64 (0)),(.int .i64 (0)),(.int .i64 (0)),(.int .i64 (0)),(.int .i64 (0))])) Tryz.underlying102 (by kernel_rfl) rfl rfl rfl
theorem Re:ag Tryz.prog 89:=ag.of Tryz.func89 (by kernel_rfl) (by kernel_rfl)
theorem Rf:ag Tryz.prog 88:=ag.of Tryz.func88 (by kernel_rfl) (by kernel_rfl)
theorem Rw:ag Tryz.prog 57:=ag.of Tryz.func57 (by kernel_rfl) (by kernel_rfl)
theorem Rx:ag Tryz.prog 56:=ag.of Tryz.func56 (by kernel_rfl) (by kernel_rfl)
theorem Ry:ag Tryz.prog 55:=ag.of Tryz.func55 (by kernel_rfl) (by kernel_rfl)
theorem JZ:ag Tryz.prog 45:=ag.of Tryz.func45 (by kernel_rfl) (by kernel_rfl)
theorem Q9:ag Tryz.prog 98:=ag.of Tryz.func98 (by kernel_rfl) (by kernel_rfl)
theorem Rb:ag Tryz.prog 97:=ag.of Tryz.func97 (by kernel_rfl) (by kernel_rfl)
theorem Px:ag Tryz.prog 70:=ag.of Tryz.func70 (by kernel_rfl) (by kernel_rfl)
theorem Ro:ag Tryz.prog 72:=ag.of Tryz.func72 (by kernel_rfl) (by kernel_rfl)
theorem PY:ag Tryz.prog 105:=ag.of Tryz.func105 (by kernel_rfl) (by kernel_rfl)
theorem SA:∀w,(zeroValue 3).run Tryz.prog w= .ok (.int .i64 0) w:=fun w=>by kernel_rfl
theorem Ru:ag Tryz.prog 59:=ag.of Tryz.func59 (by kernel_rfl) (by kernel_rfl)
theorem Pn:ag Tryz.prog 75:=ag.of Tryz.func75 (by kernel_rfl) (by kernel_rfl)
theorem PV:ag Tryz.prog 108:=ag.of Tryz.func108 (by kernel_rfl) (by kernel_rfl)
theorem PQ:ag Tryz.prog 140:=ag.of Tryz.func140 (by kernel_rfl) (by kernel_rfl)
theorem Lm:ag Tryz.prog 172:=ag.of Tryz.func172 (by kernel_rfl) (by kernel_rfl)
theorem PK:ag Tryz.prog 161:=ag.of Tryz.func161 (by kernel_rfl) (by kernel_rfl)
theorem PI:ag Tryz.prog 165:=ag.of Tryz.func165 (by kernel_rfl) (by kernel_rfl)
theorem PL:ag Tryz.prog 155:=ag.of Tryz.func155 (by kernel_rfl) (by kernel_rfl)
theorem PO:ag Tryz.prog 142:=ag.of Tryz.func142 (by kernel_rfl) (by kernel_rfl)
theorem PP:ag Tryz.prog 141:=ag.of Tryz.func141 (by kernel_rfl) (by kernel_rfl)
theorem PX:ag Tryz.prog 106:=ag.of Tryz.func106 (by kernel_rfl) (by kernel_rfl)
theorem PW:ag Tryz.prog 107:=ag.of Tryz.func107 (by kernel_rfl) (by kernel_rfl)
theorem QF:∀w,(zeroValue 80).run Tryz.prog w= .ok (.pointer none) w:=fun w=>by kernel_rfl
theorem RQ:∀S w,(A.cells S w (.eq (.pointer none)) (Value.cells (.pointer none)).toList):=fun _ _=>⟨rfl,rfl⟩
theorem PE:ag Tryz.prog 46:=ag.of Tryz.func46 (by kernel_rfl) (by kernel_rfl)
theorem Rl:ag Tryz.prog 77:=ag.of Tryz.func77 (by kernel_rfl) (by kernel_rfl)
theorem Rm:ag Tryz.prog 76:=ag.of Tryz.func76 (by kernel_rfl) (by kernel_rfl)
theorem Rn:ag Tryz.prog 74:=ag.of Tryz.func74 (by kernel_rfl) (by kernel_rfl)
theorem EE:ag Tryz.prog 35:=ag.of Tryz.func35 (by kernel_rfl) (by kernel_rfl)
theorem J1:ag Tryz.prog 36:=ag.of Tryz.func36 (by kernel_rfl) (by kernel_rfl)
theorem RE:ag Tryz.prog 34:=ag.of Tryz.func34 (by kernel_rfl) (by kernel_rfl)
theorem J2:ag Tryz.prog 13:=ag.of Tryz.func13 (by kernel_rfl) (by kernel_rfl)
theorem RJ:ag Tryz.prog 23:=ag.of Tryz.func23 (by kernel_rfl) (by kernel_rfl)
theorem RD:ag Tryz.prog 37:=ag.of Tryz.func37 (by kernel_rfl) (by kernel_rfl)
theorem RI:ag Tryz.prog 29:=ag.of Tryz.func29 (by kernel_rfl) (by kernel_rfl)
theorem RB:ag Tryz.prog 38:=ag.of Tryz.func38 (by kernel_rfl) (by kernel_rfl)
theorem RL:ag Tryz.prog 17:=ag.of Tryz.func17 (by kernel_rfl) (by kernel_rfl)
theorem PG:ag Tryz.prog 22:=ag.of Tryz.func22 (by kernel_rfl) (by kernel_rfl)
theorem BI:ag Tryz.prog 41:=ag.of Tryz.func41 (by kernel_rfl) (by kernel_rfl)
theorem SJ:ag Tryz.prog 7:=ag.of Tryz.func7 (by kernel_rfl) (by kernel_rfl)
theorem SI:ag Tryz.prog 8:=ag.of Tryz.func8 (by kernel_rfl) (by kernel_rfl)
theorem Su:ag Tryz.prog 9:=ag.of Tryz.func9 (by kernel_rfl) (by kernel_rfl)
theorem PU:ag Tryz.prog 11:=ag.of Tryz.func11 (by kernel_rfl) (by kernel_rfl)
theorem RN:ag Tryz.prog 12:=ag.of Tryz.func12 (by kernel_rfl) (by kernel_rfl)
abbrev Rs(t:Ty)(l:(Ty.slice t).den):A:=.rep (.slice t) l
abbrev Pv(b:Nat):Value:=.pointer (some ⟨b,0,none⟩)
abbrev Qd:= @Tryz.underlying102
abbrev RX:= @Tryz.underlying111
abbrev Nu:= @Tryz.underlying112
abbrev RV:= @Tryz.underlying114
abbrev EM:= @Tryz.underlying140
abbrev RU:= @Tryz.underlying143
abbrev Qc:= @Tryz.underlying144
abbrev RS:= @Tryz.underlying179
abbrev RR:= @Tryz.underlying196
abbrev SO:= @Tryz.underlying21
abbrev eS:= @Tryz.underlying22
abbrev nY:= @Tryz.underlying25
abbrev nX:= @Tryz.underlying28
abbrev U3:= @Tryz.underlying3
abbrev U5:= @Tryz.underlying5
abbrev SN:= @Tryz.underlying51
abbrev Qy:= @Tryz.underlying64
abbrev Qx:= @Tryz.underlying83
abbrev Qw:= @Tryz.underlying85
abbrev U9:= @Tryz.underlying9
abbrev SL:= @Tryz.underlying94
theorem kU:false=false→1=1:=fun _=>rfl
end Go.Proofs.YtmeojbemjkmebaaGreatDoor
