import Derived.Test.YtmeojbemjkmebaaGreatDoorREB5
import Derived.Test.YtmeojbemjkmebaaGreatDoorProg
set_option linter.unusedVariables false
set_option linter.unusedSimpArgs false
namespace Go.Proofs.YtmeojbemjkmebaaGreatDoor
open K Go Go.Proofs
theorem cE:Tryz.prog.follows .mixedOrders=true:=by kernel_rfl
theorem wy{n:Nat}:true=false→n=1:=fun h=>nomatch h
def KV:ByteArray:=⟨#[0,1,2,2,3,3,3,3,4,4,4,4,4,4,4,4,5,5,5,5,5,5,5,5,5,5,5,5,5,5,5,5,6,6,6,6,6,6,6,6,6,6,6,6,6,6,6,6,6,6,6,6,6,6,6,6,6,6,6,6,6,6,6,6,7,7,7,7,7,7,7,7,7,7,7,7,7,7,7,7,7,7,7,7,7,7,7,7,7,7,7,7,7,7,7,7,7,7,7,7,7,7,7,7,7,7,7,7,7,7,7,7,7,7,7,7,7,7,7,7,7,7,7,7,7,7,7,7,8,8,8,8,8,8,8,8,8,8,8,8,8,8,8,8,8,8,8,8,8,8,8,8,8,8,8,8,8,8,8,8,8,8,8,8,8,8,8,8,8,8,8,8,8,8,8,8,8,8,8,8,8,8,8,8,8,8,8,8,8,8,8,8,8,8,8,8,8,8,8,8,8,8,8,8,8,8,8,8,8,8,8,8,8,8,8,8,8,8,8,8,8,8,8,8,8,8,8,8,8,8,8,8,8,8,8,8,8,8,8,8,8,8,8,8,8,8,8,8,8,8,8,8,8,8,8,8]⟩
@[reducible] def aH:Ty:=.agg (.pair (.int .i64) (.slice (.int .i64)))
abbrev eC:=(Int×(List Int))
@[reducible] def ao:Ty:=.agg (.pair (.int .i64) (.pair (.slice aH) (.slice (.int .i64))))
abbrev aQ:=(Int×((List eC)×(List Int)))
@[reducible] def Uz:Ty:=.agg (.pair (.slice (.int .i64)) (.pair (.int .i64) (.int .u64)))
abbrev bT:=((List Int)×(Int×Int))
@[reducible] def bI:Ty:=.agg (.pair ao .ign)
abbrev dn:=(aQ×Unit)
@[reducible] def UI:Ty:=.agg (.pair (.ptr bI) (.slice (.slice (.int .i64))))
@[reducible] def O5:Ty:=.agg (.pair (.int .i64) (.int .i64))
@[reducible] def Sv:Ty:=.agg (.int .i64)
@[reducible] def GT:Ty:=.agg (.pair (.int .i64) (.lst (.int .i64)))
@[reducible] def Sz:Ty:=.agg (.pair .val (.pair .val (.int .u64)))
theorem SL:zh Tryz.prog 66 #[(0,1),(1,1),(2,1)]:=⟨_,Tryz.underlying66,fun _=>by kernel_rfl⟩
theorem Su:∀w,(zeroValue 66).run Tryz.prog w= .ok (.agg #[(.slice none 0 0),(.int .i64 (0)),(.int .u64 (0))]) w:=fun w=>by kernel_rfl
theorem Rt:∀S w,(A.cells S w (.pair (.eq (.slice none 0 0)) (.pair (.eq (.int .i64 (0:Int))) (.eq (.int .u64 (0:Int))))) (Value.cells (.agg #[(.slice none 0 0),(.int .i64 (0)),(.int .u64 (0))])).toList):=fun _ _=>⟨[_],_,rfl,⟨rfl,rfl⟩,⟨[_],_,rfl,⟨rfl,rfl⟩,⟨rfl,rfl⟩⟩⟩
theorem tO:aX Tryz.prog 66 2 2:=aX.of (by kernel_rfl)
theorem EN:dJ Tryz.prog 64 1 false:=⟨fun w=>by kernel_rfl,fun w=>by kernel_rfl⟩
theorem yN:aX Tryz.prog 66 1 1:=aX.of (by kernel_rfl)
theorem bY:dJ Tryz.prog 3 1 false:=⟨fun w=>by kernel_rfl,fun w=>by kernel_rfl⟩
theorem IN:aX Tryz.prog 66 0 0:=aX.of (by kernel_rfl)
theorem bC:dJ Tryz.prog 22 1 false:=⟨fun w=>by kernel_rfl,fun w=>by kernel_rfl⟩
theorem TG:ae Tryz.prog 79:=ae.of Tryz.func79 (by kernel_rfl) (by kernel_rfl)
theorem IV:ae Tryz.prog 40:=ae.of Tryz.func40 (by kernel_rfl) (by kernel_rfl)
theorem kC:∀w,(zeroValue 27).run Tryz.prog w= .ok (.agg #[(.int .i64 (0)),(.slice none 0 0),(.slice none 0 0)]) w:=fun w=>by kernel_rfl
theorem mG:∀S w,(A.cells S w (.agg (.pair (.eq (.int .i64 (0:Int))) (.pair (.eq (.slice none 0 0)) (.eq (.slice none 0 0))))) (Value.cells (.agg #[(.int .i64 (0)),(.slice none 0 0),(.slice none 0 0)])).toList):=fun _ _=>⟨[_],_,rfl,⟨rfl,rfl⟩,⟨[_],_,rfl,⟨rfl,rfl⟩,⟨rfl,rfl⟩⟩⟩
theorem Ox:ae Tryz.prog 10:=ae.of Tryz.func10 (by kernel_rfl) (by kernel_rfl)
theorem Hj:zh Tryz.prog 27 #[(0,1),(1,1),(2,1)]:=⟨_,Tryz.underlying27,fun _=>by kernel_rfl⟩
theorem A6:∀S w,(A.cells S w (.pair (.eq (.int .i64 (0:Int))) (.pair (.eq (.slice none 0 0)) (.eq (.slice none 0 0)))) (Value.cells (.agg #[(.int .i64 (0)),(.slice none 0 0),(.slice none 0 0)])).toList):=fun _ _=>⟨[_],_,rfl,⟨rfl,rfl⟩,⟨[_],_,rfl,⟨rfl,rfl⟩,⟨rfl,rfl⟩⟩⟩
theorem cU:dJ Tryz.prog 27 3 true:=⟨fun w=>by kernel_rfl,fun w=>by kernel_rfl⟩
theorem dp:mt Tryz.prog 22 3 1 8:=.of (z:=(.int .i64 (0))) Tryz.underlying22 (by kernel_rfl) rfl rfl rfl
theorem QR:ae Tryz.prog 65:=ae.of Tryz.func65 (by kernel_rfl) (by kernel_rfl)
theorem zV:zh Tryz.prog 35 #[(0,1),(1,1)]:=⟨_,Tryz.underlying35,fun _=>by kernel_rfl⟩
theorem ul:∀w,(zeroValue 35).run Tryz.prog w= .ok (.agg #[(.int .i64 (0)),(.slice none 0 0)]) w:=fun w=>by kernel_rfl
theorem ui:∀S w,(A.cells S w (.pair (.eq (.int .i64 (0:Int))) (.eq (.slice none 0 0))) (Value.cells (.agg #[(.int .i64 (0)),(.slice none 0 0)])).toList):=fun _ _=>⟨[_],_,rfl,⟨rfl,rfl⟩,⟨rfl,rfl⟩⟩
theorem LS:∀S w,(A.cells S w (.agg (.pair (.eq (.int .i64 (0:Int))) (.eq (.slice none 0 0)))) (Value.cells (.agg #[(.int .i64 (0)),(.slice none 0 0)])).toList):=fun _ _=>⟨[_],_,rfl,⟨rfl,rfl⟩,⟨rfl,rfl⟩⟩
theorem gJ:dJ Tryz.prog 35 2 true:=⟨fun w=>by kernel_rfl,fun w=>by kernel_rfl⟩
theorem f9:aX Tryz.prog 27 0 0:=aX.of (by kernel_rfl)
theorem QQ:ae Tryz.prog 66:=ae.of Tryz.func66 (by kernel_rfl) (by kernel_rfl)
theorem km:aX Tryz.prog 35 1 1:=aX.of (by kernel_rfl)
theorem bN:aX Tryz.prog 27 1 1:=aX.of (by kernel_rfl)
theorem eI:dJ Tryz.prog 25 1 false:=⟨fun w=>by kernel_rfl,fun w=>by kernel_rfl⟩
theorem yj:mt Tryz.prog 25 35 2 32:=.of (z:=(.agg #[(.int .i64 (0)),(.slice none 0 0)])) Tryz.underlying25 (by kernel_rfl) rfl rfl rfl
theorem kN:aX Tryz.prog 35 0 0:=aX.of (by kernel_rfl)
theorem cI:aX Tryz.prog 27 2 2:=aX.of (by kernel_rfl)
theorem Pe:∀i z,Tryz.prog.info? 22=some i→i.zero=some z→∀S w,rd S w .val (.slice none 0 0) z.cells.toList:=Bt (t:=.val) (z0:=(.slice none 0 0)) (by kernel_rfl) fun _ _=>⟨rfl,rfl⟩
theorem nW:mt Tryz.prog 28 22 1 24:=.of (z:=(.slice none 0 0)) Tryz.underlying28 (by kernel_rfl) rfl rfl rfl
theorem TO:ae Tryz.prog 67:=ae.of Tryz.func67 (by kernel_rfl) (by kernel_rfl)
theorem TZ:ae Tryz.prog 52:=ae.of Tryz.func52 (by kernel_rfl) (by kernel_rfl)
theorem IU:ae Tryz.prog 87:=ae.of Tryz.func87 (by kernel_rfl) (by kernel_rfl)
theorem TY:ae Tryz.prog 54:=ae.of Tryz.func54 (by kernel_rfl) (by kernel_rfl)
theorem TN:ae Tryz.prog 68:=ae.of Tryz.func68 (by kernel_rfl) (by kernel_rfl)
theorem QP:ae Tryz.prog 69:=ae.of Tryz.func69 (by kernel_rfl) (by kernel_rfl)
theorem Uc:ae Tryz.prog 31:=ae.of Tryz.func31 (by kernel_rfl) (by kernel_rfl)
theorem QX:ae Tryz.prog 32:=ae.of Tryz.func32 (by kernel_rfl) (by kernel_rfl)
theorem QW:ae Tryz.prog 33:=ae.of Tryz.func33 (by kernel_rfl) (by kernel_rfl)
theorem AU:ae Tryz.prog 43:=ae.of Tryz.func43 (by kernel_rfl) (by kernel_rfl)
theorem TD:ae Tryz.prog 86:=ae.of Tryz.func86 (by kernel_rfl) (by kernel_rfl)
theorem xf:zh Tryz.prog 140 #[(0,1)]:=⟨_,Tryz.underlying140,fun _=>by kernel_rfl⟩
theorem uO:∀w,(zeroValue 140).run Tryz.prog w= .ok (.agg #[(.int .i64 (0))]) w:=fun w=>by kernel_rfl
theorem tZ:∀S w,(A.cells S w (.eq (.int .i64 (0:Int))) (Value.cells (.agg #[(.int .i64 (0))])).toList):=fun _ _=>⟨rfl,rfl⟩
theorem Lu:ae Tryz.prog 71:=ae.of Tryz.func71 (by kernel_rfl) (by kernel_rfl)
theorem Ls:ae Tryz.prog 92:=ae.of Tryz.func92 (by kernel_rfl) (by kernel_rfl)
theorem QK:ae Tryz.prog 91:=ae.of Tryz.func91 (by kernel_rfl) (by kernel_rfl)
theorem QU:ae Tryz.prog 53:=ae.of Tryz.func53 (by kernel_rfl) (by kernel_rfl)
theorem RA:∀S w,(A.cells S w (.agg (.eq (.int .i64 (0:Int)))) (Value.cells (.agg #[(.int .i64 (0))])).toList):=fun _ _=>⟨rfl,rfl⟩
theorem TF:ae Tryz.prog 81:=ae.of Tryz.func81 (by kernel_rfl) (by kernel_rfl)
theorem QL:ae Tryz.prog 80:=ae.of Tryz.func80 (by kernel_rfl) (by kernel_rfl)
theorem Ln:aX Tryz.prog 140 0 0:=aX.of (by kernel_rfl)
theorem SB:dJ Tryz.prog 36 1 false:=⟨fun w=>by kernel_rfl,fun w=>by kernel_rfl⟩
theorem sT:∀w,(zeroValue 85).run Tryz.prog w= .ok (.agg #[(.int .i64 (0)),(.int .i64 (0)),(.int .i64 (0)),(.int .i64 (0)),(.int .i64 (0)),(.int .i64 (0)),(.int .i64 (0)),(.int .i64 (0)),(.int .i64 (0)),(.int .i64 (0)),(.int .i64 (0)),(.int .i64 (0)),(.int .i64 (0)),(.int .i64 (0)),(.int .i64 (0))]) w:=fun w=>by kernel_rfl
theorem t3:∀S w,(A.cells S w (.rep (.arr 3 (.arr 5 (.int .i64))) [[(0:Int),(0:Int),(0:Int),(0:Int),(0:Int)],[(0:Int),(0:Int),(0:Int),(0:Int),(0:Int)],[(0:Int),(0:Int),(0:Int),(0:Int),(0:Int)]]) (Value.cells (.agg #[(.int .i64 (0)),(.int .i64 (0)),(.int .i64 (0)),(.int .i64 (0)),(.int .i64 (0)),(.int .i64 (0)),(.int .i64 (0)),(.int .i64 (0)),(.int .i64 (0)),(.int .i64 (0)),(.int .i64 (0)),(.int .i64 (0)),(.int .i64 (0)),(.int .i64 (0)),(.int .i64 (0))])).toList):=fun _ _=>⟨rfl,⟨[_,_,_,_,_],_,rfl,⟨rfl,⟨[_],_,rfl,rfl,⟨[_],_,rfl,rfl,⟨[_],_,rfl,rfl,⟨[_],_,rfl,rfl,⟨[_],_,rfl,rfl,rfl⟩⟩⟩⟩⟩⟩,⟨[_,_,_,_,_],_,rfl,⟨rfl,⟨[_],_,rfl,rfl,⟨[_],_,rfl,rfl,⟨[_],_,rfl,rfl,⟨[_],_,rfl,rfl,⟨[_],_,rfl,rfl,rfl⟩⟩⟩⟩⟩⟩,⟨[_,_,_,_,_],_,rfl,⟨rfl,⟨[_],_,rfl,rfl,⟨[_],_,rfl,rfl,⟨[_],_,rfl,rfl,⟨[_],_,rfl,rfl,⟨[_],_,rfl,rfl,rfl⟩⟩⟩⟩⟩⟩,rfl⟩⟩⟩⟩
theorem GY:dJ Tryz.prog 83 5 true:=⟨fun w=>by kernel_rfl,fun w=>by kernel_rfl⟩
theorem ge:dJ Tryz.prog 85 15 true:=⟨fun w=>by kernel_rfl,fun w=>by kernel_rfl⟩
theorem Pi:∀w,(zeroValue 196).run Tryz.prog w= .ok (.pointer none) w:=fun w=>by kernel_rfl
theorem Ru:∀S w,(A.cells S w (.eq (.pointer none)) (Value.cells (.pointer none)).toList):=fun _ _=>⟨rfl,rfl⟩
theorem Q5:ae Tryz.prog 148:=ae.of Tryz.func148 (by kernel_rfl) (by kernel_rfl)
theorem zF:dJ Tryz.prog 196 1 false:=⟨fun w=>by kernel_rfl,fun w=>by kernel_rfl⟩
theorem PS:zh Tryz.prog 199 #[(0,1),(1,1)]:=⟨_,Tryz.underlying199,fun _=>by kernel_rfl⟩
theorem Pg:∀w,(zeroValue 199).run Tryz.prog w= .ok (.agg #[(.int .i64 (0)),(.pointer none)]) w:=fun w=>by kernel_rfl
theorem OJ:∀S w,(A.cells S w (.pair (.eq (.int .i64 (0:Int))) (.eq (.pointer none))) (Value.cells (.agg #[(.int .i64 (0)),(.pointer none)])).toList):=fun _ _=>⟨[_],_,rfl,⟨rfl,rfl⟩,⟨rfl,rfl⟩⟩
theorem Q0:ae Tryz.prog 166:=ae.of Tryz.func166 (by kernel_rfl) (by kernel_rfl)
theorem Re:ae Tryz.prog 118:=ae.of Tryz.func118 (by kernel_rfl) (by kernel_rfl)
theorem uJ:aX Tryz.prog 199 0 0:=aX.of (by kernel_rfl)
theorem D8:aX Tryz.prog 199 1 1:=aX.of (by kernel_rfl)
theorem Q4:ae Tryz.prog 149:=ae.of Tryz.func149 (by kernel_rfl) (by kernel_rfl)
theorem ko:aX Tryz.prog 146 0 0:=aX.of (by kernel_rfl)
theorem Rb:ae Tryz.prog 119:=ae.of Tryz.func119 (by kernel_rfl) (by kernel_rfl)
theorem D9:aX Tryz.prog 146 1 3:=aX.of (by kernel_rfl)
theorem ML:dJ Tryz.prog 144 1 false:=⟨fun w=>by kernel_rfl,fun w=>by kernel_rfl⟩
theorem QN:ae Tryz.prog 73:=ae.of Tryz.func73 (by kernel_rfl) (by kernel_rfl)
theorem Ou:ae Tryz.prog 42:=ae.of Tryz.func42 (by kernel_rfl) (by kernel_rfl)
theorem Lx:ae Tryz.prog 44:=ae.of Tryz.func44 (by kernel_rfl) (by kernel_rfl)
theorem FN:ae Tryz.prog 47:=ae.of Tryz.func47 (by kernel_rfl) (by kernel_rfl)
theorem QV:ae Tryz.prog 48:=ae.of Tryz.func48 (by kernel_rfl) (by kernel_rfl)
theorem IW:ae Tryz.prog 39:=ae.of Tryz.func39 (by kernel_rfl) (by kernel_rfl)
theorem Sr:∀i z,Tryz.prog.info? 22=some i→i.zero=some z→∀S w,rd S w (.slice (.int .i64)) [] z.cells.toList:=Bt (z0:=(.slice none 0 0)) (by kernel_rfl) fun _ _=>.inl ⟨_,_,rfl,rfl⟩
theorem Lt:ae Tryz.prog 78:=ae.of Tryz.func78 (by kernel_rfl) (by kernel_rfl)
theorem yf:dJ Tryz.prog 80 1 false:=⟨fun w=>by kernel_rfl,fun w=>by kernel_rfl⟩
theorem PP:dJ Tryz.prog 154 1 false:=⟨fun w=>by kernel_rfl,fun w=>by kernel_rfl⟩
theorem Dz:dJ Tryz.prog 155 1 false:=⟨fun w=>by kernel_rfl,fun w=>by kernel_rfl⟩
theorem Oq:ae Tryz.prog 90:=ae.of Tryz.func90 (by kernel_rfl) (by kernel_rfl)
theorem Pn:∀w,(zeroValue 155).run Tryz.prog w= .ok .nilFunc w:=fun w=>by kernel_rfl
theorem Rz:∀S w,(A.cells S w (.eq .nilFunc) (Value.cells .nilFunc).toList):=fun _ _=>⟨rfl,rfl⟩
theorem G0:dJ Tryz.prog 102 1 false:=⟨fun w=>by kernel_rfl,fun w=>by kernel_rfl⟩
theorem MO:mt Tryz.prog 102 85 15 120:=.of (z:=(.agg #[(.int .i64 (0)),(.int .i64 (0)),(.int .i64 (0)),(.int .i64 (0)),(.int .i64 (0)),(.int .i64 (0)),(.int .i64 (0)),(.int .i64 (0)),(.int .i64 (0)),(.int .i64 (0)),(.int .i64 (0)),(.int .i64 (0)),(.int .i64 (0)),(.int .i64 (0)),(.int .i64 (0))])) Tryz.underlying102 (by kernel_rfl) rfl rfl rfl
theorem TB:ae Tryz.prog 89:=ae.of Tryz.func89 (by kernel_rfl) (by kernel_rfl)
theorem TC:ae Tryz.prog 88:=ae.of Tryz.func88 (by kernel_rfl) (by kernel_rfl)
theorem TS:ae Tryz.prog 57:=ae.of Tryz.func57 (by kernel_rfl) (by kernel_rfl)
theorem TU:ae Tryz.prog 56:=ae.of Tryz.func56 (by kernel_rfl) (by kernel_rfl)
theorem TX:ae Tryz.prog 55:=ae.of Tryz.func55 (by kernel_rfl) (by kernel_rfl)
theorem Ot:ae Tryz.prog 45:=ae.of Tryz.func45 (by kernel_rfl) (by kernel_rfl)
theorem Tv:ae Tryz.prog 98:=ae.of Tryz.func98 (by kernel_rfl) (by kernel_rfl)
theorem Tz:ae Tryz.prog 97:=ae.of Tryz.func97 (by kernel_rfl) (by kernel_rfl)
theorem QO:ae Tryz.prog 70:=ae.of Tryz.func70 (by kernel_rfl) (by kernel_rfl)
theorem TM:ae Tryz.prog 72:=ae.of Tryz.func72 (by kernel_rfl) (by kernel_rfl)
theorem Rn:ae Tryz.prog 105:=ae.of Tryz.func105 (by kernel_rfl) (by kernel_rfl)
theorem UG:∀w,(zeroValue 3).run Tryz.prog w= .ok (.int .i64 0) w:=fun w=>by kernel_rfl
theorem TR:ae Tryz.prog 59:=ae.of Tryz.func59 (by kernel_rfl) (by kernel_rfl)
theorem QM:ae Tryz.prog 75:=ae.of Tryz.func75 (by kernel_rfl) (by kernel_rfl)
theorem Rk:ae Tryz.prog 108:=ae.of Tryz.func108 (by kernel_rfl) (by kernel_rfl)
theorem Q9:ae Tryz.prog 140:=ae.of Tryz.func140 (by kernel_rfl) (by kernel_rfl)
theorem M7:ae Tryz.prog 172:=ae.of Tryz.func172 (by kernel_rfl) (by kernel_rfl)
theorem Q2:ae Tryz.prog 161:=ae.of Tryz.func161 (by kernel_rfl) (by kernel_rfl)
theorem Q1:ae Tryz.prog 165:=ae.of Tryz.func165 (by kernel_rfl) (by kernel_rfl)
theorem Q3:ae Tryz.prog 155:=ae.of Tryz.func155 (by kernel_rfl) (by kernel_rfl)
theorem Q7:ae Tryz.prog 142:=ae.of Tryz.func142 (by kernel_rfl) (by kernel_rfl)
theorem Q8:ae Tryz.prog 141:=ae.of Tryz.func141 (by kernel_rfl) (by kernel_rfl)
theorem Rm:ae Tryz.prog 106:=ae.of Tryz.func106 (by kernel_rfl) (by kernel_rfl)
theorem Rl:ae Tryz.prog 107:=ae.of Tryz.func107 (by kernel_rfl) (by kernel_rfl)
theorem Ss:∀w,(zeroValue 80).run Tryz.prog w= .ok (.pointer none) w:=fun w=>by kernel_rfl
theorem Un:∀S w,(A.cells S w (.eq (.pointer none)) (Value.cells (.pointer none)).toList):=fun _ _=>⟨rfl,rfl⟩
theorem T8:ae Tryz.prog 46:=ae.of Tryz.func46 (by kernel_rfl) (by kernel_rfl)
theorem TJ:ae Tryz.prog 77:=ae.of Tryz.func77 (by kernel_rfl) (by kernel_rfl)
theorem TK:ae Tryz.prog 76:=ae.of Tryz.func76 (by kernel_rfl) (by kernel_rfl)
theorem TL:ae Tryz.prog 74:=ae.of Tryz.func74 (by kernel_rfl) (by kernel_rfl)
theorem FO:ae Tryz.prog 35:=ae.of Tryz.func35 (by kernel_rfl) (by kernel_rfl)
theorem Ly:ae Tryz.prog 36:=ae.of Tryz.func36 (by kernel_rfl) (by kernel_rfl)
theorem Ub:ae Tryz.prog 34:=ae.of Tryz.func34 (by kernel_rfl) (by kernel_rfl)
theorem Uk:ae Tryz.prog 13:=ae.of Tryz.func13 (by kernel_rfl) (by kernel_rfl)
theorem Uf:ae Tryz.prog 23:=ae.of Tryz.func23 (by kernel_rfl) (by kernel_rfl)
theorem Ua:ae Tryz.prog 37:=ae.of Tryz.func37 (by kernel_rfl) (by kernel_rfl)
theorem QY:ae Tryz.prog 29:=ae.of Tryz.func29 (by kernel_rfl) (by kernel_rfl)
theorem T9:ae Tryz.prog 38:=ae.of Tryz.func38 (by kernel_rfl) (by kernel_rfl)
theorem Ug:ae Tryz.prog 17:=ae.of Tryz.func17 (by kernel_rfl) (by kernel_rfl)
theorem Ov:ae Tryz.prog 22:=ae.of Tryz.func22 (by kernel_rfl) (by kernel_rfl)
theorem uA:ae Tryz.prog 41:=ae.of Tryz.func41 (by kernel_rfl) (by kernel_rfl)
theorem M6:ae Tryz.prog 7:=ae.of Tryz.func7 (by kernel_rfl) (by kernel_rfl)
theorem UC:ae Tryz.prog 9:=ae.of Tryz.func9 (by kernel_rfl) (by kernel_rfl)
theorem Rj:ae Tryz.prog 11:=ae.of Tryz.func11 (by kernel_rfl) (by kernel_rfl)
theorem SD:mt Tryz.prog 45 28 1 24:=.of (z:=(.slice none 0 0)) Tryz.underlying45 (by kernel_rfl) rfl rfl rfl
theorem rI:dJ Tryz.prog 28 1 false:=⟨fun w=>by kernel_rfl,fun w=>by kernel_rfl⟩
theorem QZ:ae Tryz.prog 28:=ae.of Tryz.func28 (by kernel_rfl) (by kernel_rfl)
theorem SG:mt Tryz.prog 44 27 3 56:=.of (z:=(.agg #[(.int .i64 (0)),(.slice none 0 0),(.slice none 0 0)])) Tryz.underlying44 (by kernel_rfl) rfl rfl rfl
theorem Uj:ae Tryz.prog 14:=ae.of Tryz.func14 (by kernel_rfl) (by kernel_rfl)
theorem Ui:ae Tryz.prog 15:=ae.of Tryz.func15 (by kernel_rfl) (by kernel_rfl)
theorem Uh:ae Tryz.prog 16:=ae.of Tryz.func16 (by kernel_rfl) (by kernel_rfl)
theorem Q6:ae Tryz.prog 147:=ae.of Tryz.func147 (by kernel_rfl) (by kernel_rfl)
theorem UH:∀i z,Tryz.prog.info? 3=some i→i.zero=some z→∀S w,rd S w (.int .i64) (0:Int) z.cells.toList:=Bt (z0:=(.int .i64 (0))) (by kernel_rfl) fun _ _=>rfl
theorem Rf:ae Tryz.prog 117:=ae.of Tryz.func117 (by kernel_rfl) (by kernel_rfl)
theorem TA:ae Tryz.prog 96:=ae.of Tryz.func96 (by kernel_rfl) (by kernel_rfl)
theorem QT:ae Tryz.prog 63:=ae.of Tryz.func63 (by kernel_rfl) (by kernel_rfl)
theorem Ue:ae Tryz.prog 27:=ae.of Tryz.func27 (by kernel_rfl) (by kernel_rfl)
theorem TP:ae Tryz.prog 64:=ae.of Tryz.func64 (by kernel_rfl) (by kernel_rfl)
theorem Ud:ae Tryz.prog 30:=ae.of Tryz.func30 (by kernel_rfl) (by kernel_rfl)
abbrev Rs(t:Ty)(l:(Ty.slice t).den):A:=.rep (.slice t) l
abbrev Pv(b:Nat):Value:=.pointer (some ⟨b,0,none⟩)
abbrev RG:= @Tryz.underlying102
abbrev Ut:= @Tryz.underlying111
abbrev OP:= @Tryz.underlying112
abbrev Us:= @Tryz.underlying114
abbrev F3:= @Tryz.underlying140
abbrev Ur:= @Tryz.underlying143
abbrev RF:= @Tryz.underlying144
abbrev Up:= @Tryz.underlying179
abbrev Uo:= @Tryz.underlying196
abbrev US:= @Tryz.underlying21
abbrev dB:= @Tryz.underlying22
abbrev mC:= @Tryz.underlying25
abbrev lJ:= @Tryz.underlying28
abbrev U3:= @Tryz.underlying3
abbrev R9:= @Tryz.underlying44
abbrev OO:= @Tryz.underlying45
abbrev U5:= @Tryz.underlying5
abbrev UR:= @Tryz.underlying51
abbrev R7:= @Tryz.underlying64
abbrev R2:= @Tryz.underlying83
abbrev RZ:= @Tryz.underlying85
abbrev U9:= @Tryz.underlying9
abbrev UQ:= @Tryz.underlying94
theorem jF:false=false→1=1:=fun _=>rfl
end Go.Proofs.YtmeojbemjkmebaaGreatDoor
