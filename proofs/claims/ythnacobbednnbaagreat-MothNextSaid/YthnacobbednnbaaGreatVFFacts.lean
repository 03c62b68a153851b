import Derived.Test.YthnacobbednnbaaGreatVFB5
import Derived.Test.YthnacobbednnbaaGreatProg
open Nat
open List hiding mem_of_getElem?
open Array hiding mem_of_getElem? mk
set_option linter.unusedVariables false
set_option linter.unusedSimpArgs false
namespace Go.Proofs.YthnacobbednnbaaGreat
open K Go Go.Proofs
@[reducible] def Ti:Ty:=.int .i64
@[reducible] def Tl:Ty:=.slice Ti
@[reducible] def Tr:Ty:=.arr 5 Ti
theorem eo:Tryz.prog.follows .mixedOrders=true:=by kernel_rfl
theorem tq{n:Nat}:true=false->n=1:=λh=>nomatch h
def KG:ByteArray:=⟨#[0,1,2,2,3,3,3,3,4,4,4,4,4,4,4,4,5,5,5,5,5,5,5,5,5,5,5,5,5,5,5,5,6,6,6,6,6,6,6,6,6,6,6,6,6,6,6,6,6,6,6,6,6,6,6,6,6,6,6,6,6,6,6,6,7,7,7,7,7,7,7,7,7,7,7,7,7,7,7,7,7,7,7,7,7,7,7,7,7,7,7,7,7,7,7,7,7,7,7,7,7,7,7,7,7,7,7,7,7,7,7,7,7,7,7,7,7,7,7,7,7,7,7,7,7,7,7,7,8,8,8,8,8,8,8,8,8,8,8,8,8,8,8,8,8,8,8,8,8,8,8,8,8,8,8,8,8,8,8,8,8,8,8,8,8,8,8,8,8,8,8,8,8,8,8,8,8,8,8,8,8,8,8,8,8,8,8,8,8,8,8,8,8,8,8,8,8,8,8,8,8,8,8,8,8,8,8,8,8,8,8,8,8,8,8,8,8,8,8,8,8,8,8,8,8,8,8,8,8,8,8,8,8,8,8,8,8,8,8,8,8,8,8,8,8,8,8,8,8,8,8,8,8,8,8,8]⟩
@[reducible] def aY:Ty:=.agg (.pair (.int .i64) (.pair (.int .i64) .bool))
abbrev aQ:=(Int×(Int×Bool))
@[reducible] def ap:Ty:=.agg (.pair (.int .i64) (.pair (.int .i64) (.pair (.int .i64) (.pair (.int .i64) (.pair (.slice (.slice (.slice (.int .i64)))) (.slice aY))))))
abbrev ab:=(Int×(Int×(Int×(Int×((List (List (List Int)))×(List aQ))))))
@[reducible] def bN:Ty:=.agg (.pair (.int .i64) (.int .i64))
abbrev fi:=(Int×Int)
@[reducible] def TM:Ty:=.agg (.pair (.slice (.int .i64)) (.pair (.int .i64) (.int .u64)))
abbrev bp:=((List Int)×(Int×Int))
@[reducible] def PH:Ty:=.agg (.int .i64)
abbrev MR:=Int
@[reducible] def PG:Ty:=.agg (.slice (.int .i64))
abbrev MQ:=(List Int)
@[reducible] def Cd:Ty:=.agg (.pair (.int .i64) (.pair (.int .i64) (.pair (.int .i64) (.pair (.int .i64) (.pair (.slice (.slice (.slice (.int .i64)))) .ign)))))
abbrev xI:=(Int×(Int×(Int×(Int×((List (List (List Int)))×Unit)))))
@[reducible] def FX:Ty:=bN
abbrev eF:=fi
theorem dD:aW Tryz.prog 25 4 4:=aW.of (by kernel_rfl)
theorem i8:dY Tryz.prog 22 1 false:=⟨λw=>by kernel_rfl,λw=>by kernel_rfl⟩
theorem vf:dY Tryz.prog 36 1 false:=⟨λw=>by kernel_rfl,λw=>by kernel_rfl⟩
theorem jW:dY Tryz.prog 28 1 false:=⟨λw=>by kernel_rfl,λw=>by kernel_rfl⟩
theorem m9:aW Tryz.prog 25 5 5:=aW.of (by kernel_rfl)
theorem wS:dY Tryz.prog 23 1 false:=⟨λw=>by kernel_rfl,λw=>by kernel_rfl⟩
theorem cQ:dY Tryz.prog 3 1 false:=⟨λw=>by kernel_rfl,λw=>by kernel_rfl⟩
theorem gI:aW Tryz.prog 25 0 0:=aW.of (by kernel_rfl)
theorem xH:ah Tryz.prog 53:=ah.of Tryz.func53 (by kernel_rfl) (by kernel_rfl)
theorem HZ:ah Tryz.prog 97:=ah.of Tryz.func97 (by kernel_rfl) (by kernel_rfl)
theorem Ot:ah Tryz.prog 75:=ah.of Tryz.func75 (by kernel_rfl) (by kernel_rfl)
theorem Bw:aW Tryz.prog 27 0 0:=aW.of (by kernel_rfl)
theorem Bv:aW Tryz.prog 27 1 1:=aW.of (by kernel_rfl)
theorem By:aW Tryz.prog 25 1 1:=aW.of (by kernel_rfl)
theorem xC:aW Tryz.prog 25 2 2:=aW.of (by kernel_rfl)
theorem HT:aW Tryz.prog 25 3 3:=aW.of (by kernel_rfl)
theorem fC:dY Tryz.prog 25 6 true:=⟨λw=>by kernel_rfl,λw=>by kernel_rfl⟩
theorem SY:ah Tryz.prog 54:=ah.of Tryz.func54 (by kernel_rfl) (by kernel_rfl)
theorem rl:dY Tryz.prog 27 3 true:=⟨λw=>by kernel_rfl,λw=>by kernel_rfl⟩
theorem AC:∀w,(zeroValue 27).run Tryz.prog w= .ok (.agg #[(.int .i64 (0)),(.int .i64 (0)),(.bool false)]) w:=λw=>by kernel_rfl
theorem Io:∀S w,(A.cells S w (.agg (.pair (.eq (.int .i64 (0:Int))) (.pair (.eq (.int .i64 (0:Int))) (.eq (.bool false))))) (Value.cells (.agg #[(.int .i64 (0)),(.int .i64 (0)),(.bool false)])).toList):=λ_ _=>⟨[_],_,rfl,⟨rfl,rfl⟩,⟨[_],_,rfl,⟨rfl,rfl⟩,⟨rfl,rfl⟩⟩⟩
theorem SX:ah Tryz.prog 55:=ah.of Tryz.func55 (by kernel_rfl) (by kernel_rfl)
theorem I6:∀w,(zeroValue 82).run Tryz.prog w= .ok (.agg #[(.int .i64 (0)),(.int .i64 (0)),(.int .i64 (0)),(.int .i64 (0)),(.int .i64 (0))]) w:=λw=>by kernel_rfl
theorem Lr:∀S w,(A.cells S w (.rep (.arr 5 (.int .i64)) [(0:Int),(0:Int),(0:Int),(0:Int),(0:Int)]) (Value.cells (.agg #[(.int .i64 (0)),(.int .i64 (0)),(.int .i64 (0)),(.int .i64 (0)),(.int .i64 (0))])).toList):=λ_ _=>⟨rfl,⟨[_],_,rfl,rfl,⟨[_],_,rfl,rfl,⟨[_],_,rfl,rfl,⟨[_],_,rfl,rfl,⟨[_],_,rfl,rfl,rfl⟩⟩⟩⟩⟩⟩
theorem gV:aW Tryz.prog 135 0 0:=aW.of (by kernel_rfl)
theorem iZ:dY Tryz.prog 82 5 true:=⟨λw=>by kernel_rfl,λw=>by kernel_rfl⟩
theorem MK:ah Tryz.prog 173:=ah.of Tryz.func173 (by kernel_rfl) (by kernel_rfl)
theorem QG:ah Tryz.prog 163:=ah.of Tryz.func163 (by kernel_rfl) (by kernel_rfl)
theorem QF:ah Tryz.prog 167:=ah.of Tryz.func167 (by kernel_rfl) (by kernel_rfl)
theorem QH:ah Tryz.prog 157:=ah.of Tryz.func157 (by kernel_rfl) (by kernel_rfl)
theorem QI:ah Tryz.prog 156:=ah.of Tryz.func156 (by kernel_rfl) (by kernel_rfl)
theorem QJ:ah Tryz.prog 155:=ah.of Tryz.func155 (by kernel_rfl) (by kernel_rfl)
theorem Qz:ah Tryz.prog 62:=ah.of Tryz.func62 (by kernel_rfl) (by kernel_rfl)
theorem dS:pg Tryz.prog 28 3 1 8:=.of (z:=(.int .i64 (0))) Tryz.underlying28 (by kernel_rfl) rfl rfl rfl
theorem QK:ah Tryz.prog 142:=ah.of Tryz.func142 (by kernel_rfl) (by kernel_rfl)
theorem PR:yi Tryz.prog 165 #[(0,1)]:=⟨_,Tryz.underlying165,λ_=>by kernel_rfl⟩
theorem L1:∀w,(zeroValue 165).run Tryz.prog w= .ok (.agg #[(.slice none 0 0)]) w:=λw=>by kernel_rfl
theorem OG:∀S w,(A.cells S w (.eq (.slice none 0 0)) (Value.cells (.agg #[(.slice none 0 0)])).toList):=λ_ _=>⟨rfl,rfl⟩
theorem H2:ah Tryz.prog 115:=ah.of Tryz.func115 (by kernel_rfl) (by kernel_rfl)
theorem FY:Ix Tryz.prog 163 (.agg #[.int .i64 0]):=⟨⟨_,Tryz.underlying163⟩,λw=>by kernel_rfl⟩
theorem Ff:∀w,(zeroValue 163).run Tryz.prog w= .ok (.agg #[(.int .i64 (0))]) w:=λw=>by kernel_rfl
theorem MZ:∀S w,(A.cells S w (.agg (.eq (.int .i64 (0:Int)))) (Value.cells (.agg #[(.int .i64 (0))])).toList):=λ_ _=>⟨rfl,rfl⟩
theorem MC:dY Tryz.prog 163 1 true:=⟨λw=>by kernel_rfl,λw=>by kernel_rfl⟩
theorem C9:aW Tryz.prog 163 0 0:=aW.of (by kernel_rfl)
theorem PS:yi Tryz.prog 163 #[(0,1)]:=⟨_,Tryz.underlying163,λ_=>by kernel_rfl⟩
theorem OH:∀S w,(A.cells S w (.eq (.int .i64 (0:Int))) (Value.cells (.agg #[(.int .i64 (0))])).toList):=λ_ _=>⟨rfl,rfl⟩
theorem KT:aW Tryz.prog 165 0 0:=aW.of (by kernel_rfl)
theorem vp:DF Tryz.prog 163 "galloon/moth.beside" 191:=λu w=>by kernel_rfl
theorem vo:DF Tryz.prog 165 "galloon/moth.beside" 192:=λu w=>by kernel_rfl
theorem Nw:Ix Tryz.prog 165 (.agg #[.slice none 0 0]):=⟨⟨_,Tryz.underlying165⟩,λw=>by kernel_rfl⟩
theorem QZ:∀S w,(A.cells S w (.agg (.eq (.slice none 0 0))) (Value.cells (.agg #[(.slice none 0 0)])).toList):=λ_ _=>⟨rfl,rfl⟩
theorem PI:dY Tryz.prog 165 1 true:=⟨λw=>by kernel_rfl,λw=>by kernel_rfl⟩
theorem MP:ah Tryz.prog 105:=ah.of Tryz.func105 (by kernel_rfl) (by kernel_rfl)
theorem Td:ah Tryz.prog 19:=ah.of Tryz.func19 (by kernel_rfl) (by kernel_rfl)
theorem pe:pg Tryz.prog 36 28 1 24:=.of (z:=(.slice none 0 0)) Tryz.underlying36 (by kernel_rfl) rfl rfl rfl
theorem Pm:∀w,(zeroValue 124).run Tryz.prog w= .ok (.agg #[.int .i64 0,.int .i64 0,.int .i64 0]) w:=λw=>by kernel_rfl
theorem KX:ah Tryz.prog 90:=ah.of Tryz.func90 (by kernel_rfl) (by kernel_rfl)
theorem SH:ah Tryz.prog 91:=ah.of Tryz.func91 (by kernel_rfl) (by kernel_rfl)
theorem zE:ah Tryz.prog 48:=ah.of Tryz.func48 (by kernel_rfl) (by kernel_rfl)
theorem EC:ah Tryz.prog 49:=ah.of Tryz.func49 (by kernel_rfl) (by kernel_rfl)
theorem Fe:∀w,(zeroValue 84).run Tryz.prog w= .ok (.agg #[(.int .i64 (0)),(.int .i64 (0)),(.int .i64 (0)),(.int .i64 (0)),(.int .i64 (0)),(.int .i64 (0)),(.int .i64 (0)),(.int .i64 (0)),(.int .i64 (0)),(.int .i64 (0)),(.int .i64 (0)),(.int .i64 (0)),(.int .i64 (0)),(.int .i64 (0)),(.int .i64 (0)),(.int .i64 (0)),(.int .i64 (0)),(.int .i64 (0)),(.int .i64 (0)),(.int .i64 (0)),(.int .i64 (0)),(.int .i64 (0)),(.int .i64 (0)),(.int .i64 (0)),(.int .i64 (0)),(.int .i64 (0)),(.int .i64 (0)),(.int .i64 (0)),(.int .i64 (0)),(.int .i64 (0)),(.int .i64 (0)),(.int .i64 (0)),(.int .i64 (0)),(.int .i64 (0)),(.int .i64 (0))]) w:=λw=>by kernel_rfl
theorem Im:∀S w,(A.cells S w (.rep (.arr 7 (.arr 5 (.int .i64))) [[(0:Int),(0:Int),(0:Int),(0:Int),(0:Int)],[(0:Int),(0:Int),(0:Int),(0:Int),(0:Int)],[(0:Int),(0:Int),(0:Int),(0:Int),(0:Int)],[(0:Int),(0:Int),(0:Int),(0:Int),(0:Int)],[(0:Int),(0:Int),(0:Int),(0:Int),(0:Int)],[(0:Int),(0:Int),(0:Int),(0:Int),(0:Int)],[(0:Int),(0:Int),(0:Int),(0:Int),(0:Int)]]) (Value.cells (.agg #[(.int .i64 (0)),(.int .i64 (0)),(.int .i64 (0)),(.int .i64 (0)),(.int .i64 (0)),(.int .i64 (0)),(.int .i64 (0)),(.int .i64 (0)),(.int .i64 (0)),(.int .i64 (0)),(.int .i64 (0)),(.int .i64 (0)),(.int .i64 (0)),(.int .i64 (0)),(.int .i64 (0)),(.int .i64 (0)),(.int .i64 (0)),(.int .i64 (0)),(.int .i64 (0)),(.int .i64 (0)),(.int .i64 (0)),(.int .i64 (0)),(.int .i64 (0)),(.int .i64 (0)),(.int .i64 (0)),(.int .i64 (0)),(.int .i64 (0)),(.int .i64 (0)),(.int .i64 (0)),(.int .i64 (0)),(.int .i64 (0)),(.int .i64 (0)),(.int .i64 (0)),(.int .i64 (0)),(.int .i64 (0))])).toList):=λ_ _=>⟨rfl,⟨[_,_,_,_,_],_,rfl,⟨rfl,⟨[_],_,rfl,rfl,⟨[_],_,rfl,rfl,⟨[_],_,rfl,rfl,⟨[_],_,rfl,rfl,⟨[_],_,rfl,rfl,rfl⟩⟩⟩⟩⟩⟩,⟨[_,_,_,_,_],_,rfl,⟨rfl,⟨[_],_,rfl,rfl,⟨[_],_,rfl,rfl,⟨[_],_,rfl,rfl,⟨[_],_,rfl,rfl,⟨[_],_,rfl,rfl,rfl⟩⟩⟩⟩⟩⟩,⟨[_,_,_,_,_],_,rfl,⟨rfl,⟨[_],_,rfl,rfl,⟨[_],_,rfl,rfl,⟨[_],_,rfl,rfl,⟨[_],_,rfl,rfl,⟨[_],_,rfl,rfl,rfl⟩⟩⟩⟩⟩⟩,⟨[_,_,_,_,_],_,rfl,⟨rfl,⟨[_],_,rfl,rfl,⟨[_],_,rfl,rfl,⟨[_],_,rfl,rfl,⟨[_],_,rfl,rfl,⟨[_],_,rfl,rfl,rfl⟩⟩⟩⟩⟩⟩,⟨[_,_,_,_,_],_,rfl,⟨rfl,⟨[_],_,rfl,rfl,⟨[_],_,rfl,rfl,⟨[_],_,rfl,rfl,⟨[_],_,rfl,rfl,⟨[_],_,rfl,rfl,rfl⟩⟩⟩⟩⟩⟩,⟨[_,_,_,_,_],_,rfl,⟨rfl,⟨[_],_,rfl,rfl,⟨[_],_,rfl,rfl,⟨[_],_,rfl,rfl,⟨[_],_,rfl,rfl,⟨[_],_,rfl,rfl,rfl⟩⟩⟩⟩⟩⟩,⟨[_,_,_,_,_],_,rfl,⟨rfl,⟨[_],_,rfl,rfl,⟨[_],_,rfl,rfl,⟨[_],_,rfl,rfl,⟨[_],_,rfl,rfl,⟨[_],_,rfl,rfl,rfl⟩⟩⟩⟩⟩⟩,rfl⟩⟩⟩⟩⟩⟩⟩⟩
theorem F4:dY Tryz.prog 84 35 true:=⟨λw=>by kernel_rfl,λw=>by kernel_rfl⟩
theorem SZ:ah Tryz.prog 50:=ah.of Tryz.func50 (by kernel_rfl) (by kernel_rfl)
theorem Ox:ah Tryz.prog 23:=ah.of Tryz.func23 (by kernel_rfl) (by kernel_rfl)
theorem PK:dY Tryz.prog 122 1 false:=⟨λw=>by kernel_rfl,λw=>by kernel_rfl⟩
theorem F5:dY Tryz.prog 121 1 false:=⟨λw=>by kernel_rfl,λw=>by kernel_rfl⟩
theorem MN:ah Tryz.prog 107:=ah.of Tryz.func107 (by kernel_rfl) (by kernel_rfl)
theorem Pn:∀w,(zeroValue 121).run Tryz.prog w= .ok .nilFunc w:=λw=>by kernel_rfl
theorem Q0:∀S w,(A.cells S w (.eq .nilFunc) (Value.cells .nilFunc).toList):=λ_ _=>⟨rfl,rfl⟩
theorem HS:aW Tryz.prog 27 2 2:=aW.of (by kernel_rfl)
theorem TN:dY Tryz.prog 4 1 false:=⟨λw=>by kernel_rfl,λw=>by kernel_rfl⟩
theorem Pl:∀w,(zeroValue 168).run Tryz.prog w= .ok (.agg #[]) w:=λw=>by kernel_rfl
theorem I5:∀w,(zeroValue 92).run Tryz.prog w= .ok (.slice none 0 0) w:=λw=>by kernel_rfl
theorem Lq:∀S w,(A.cells S w (.eq (.slice none 0 0)) (Value.cells (.slice none 0 0)).toList):=λ_ _=>⟨rfl,rfl⟩
theorem Jo:dY Tryz.prog 77 1 false:=⟨λw=>by kernel_rfl,λw=>by kernel_rfl⟩
theorem Qw:ah Tryz.prog 84:=ah.of Tryz.func84 (by kernel_rfl) (by kernel_rfl)
theorem pz:dY Tryz.prog 78 1 false:=⟨λw=>by kernel_rfl,λw=>by kernel_rfl⟩
theorem QR:ah Tryz.prog 101:=ah.of Tryz.func101 (by kernel_rfl) (by kernel_rfl)
theorem wR:dY Tryz.prog 92 1 false:=⟨λw=>by kernel_rfl,λw=>by kernel_rfl⟩
theorem Jz:pg Tryz.prog 92 78 1 1:=.of (z:=(.int .u8 (0))) Tryz.underlying92 (by kernel_rfl) rfl rfl rfl
theorem MO:ah Tryz.prog 106:=ah.of Tryz.func106 (by kernel_rfl) (by kernel_rfl)
theorem Qy:ah Tryz.prog 68:=ah.of Tryz.func68 (by kernel_rfl) (by kernel_rfl)
theorem EB:ah Tryz.prog 60:=ah.of Tryz.func60 (by kernel_rfl) (by kernel_rfl)
theorem QA:ah Tryz.prog 61:=ah.of Tryz.func61 (by kernel_rfl) (by kernel_rfl)
theorem Ou:ah Tryz.prog 69:=ah.of Tryz.func69 (by kernel_rfl) (by kernel_rfl)
theorem sG:∀w,(zeroValue 110).run Tryz.prog w= .ok (.agg #[(.int .i64 (0)),(.int .i64 (0))]) w:=λw=>by kernel_rfl
theorem Ab:∀S w,(A.cells S w (.agg (.pair (.eq (.int .i64 (0:Int))) (.eq (.int .i64 (0:Int))))) (Value.cells (.agg #[(.int .i64 (0)),(.int .i64 (0))])).toList):=λ_ _=>⟨[_],_,rfl,⟨rfl,rfl⟩,⟨rfl,rfl⟩⟩
theorem xE:aW Tryz.prog 110 0 0:=aW.of (by kernel_rfl)
theorem KU:aW Tryz.prog 110 1 1:=aW.of (by kernel_rfl)
theorem jC:dY Tryz.prog 110 2 true:=⟨λw=>by kernel_rfl,λw=>by kernel_rfl⟩
theorem GG:yi Tryz.prog 110 #[(0,1),(1,1)]:=⟨_,Tryz.underlying110,λ_=>by kernel_rfl⟩
theorem BM:∀S w,(A.cells S w (.pair (.eq (.int .i64 (0:Int))) (.eq (.int .i64 (0:Int)))) (Value.cells (.agg #[(.int .i64 (0)),(.int .i64 (0))])).toList):=λ_ _=>⟨[_],_,rfl,⟨rfl,rfl⟩,⟨rfl,rfl⟩⟩
theorem Qx:ah Tryz.prog 74:=ah.of Tryz.func74 (by kernel_rfl) (by kernel_rfl)
theorem SO:ah Tryz.prog 79:=ah.of Tryz.func79 (by kernel_rfl) (by kernel_rfl)
theorem Qs:LQ Tryz.prog 110 bN:=by
 refine⟨rfl,by kernel_rfl,λw x y=>?_⟩;have u3:=Tryz.underlying3;have a3:=Tryz.isAgg3;have z3:=Tryz.sizeOf3;have hS:Tryz.prog.underlying 110=some (.struct (Tryz.prog.fieldsOf 110)):=by kernel_rfl
 have hp:Tryz.prog.stoodInHeld 110=false:=by kernel_rfl
 rw [show(10000:Nat)=9999+1 from rfl,run_equalIn_agg w 9999 110 _ _ hS hp];simp only [Program.fieldsOf,Tryz.underlying110,qM];refine⟨decide (x=y),?_,decide_eq_true_iff⟩;go_simp;obtain⟨p0,p1⟩:=x;obtain⟨q0,q1⟩:=y;by_cases h0:p0=q0 <;> by_cases h1:p1=q1 <;> simp [h0,h1]
theorem SN:ah Tryz.prog 80:=ah.of Tryz.func80 (by kernel_rfl) (by kernel_rfl)
theorem AB:∀w,(zeroValue 67).run Tryz.prog w= .ok (.agg #[(.int .i64 (0)),(.int .i64 (0))]) w:=λw=>by kernel_rfl
theorem QY:∀S w,(A.cells S w (.agg (.pair (.eq (.int .i64 (0:Int))) (.eq (.int .i64 (0:Int))))) (Value.cells (.agg #[(.int .i64 (0)),(.int .i64 (0))])).toList):=λ_ _=>⟨[_],_,rfl,⟨rfl,rfl⟩,⟨rfl,rfl⟩⟩
theorem GF:yi Tryz.prog 67 #[(0,1),(1,1)]:=⟨_,Tryz.underlying67,λ_=>by kernel_rfl⟩
theorem zZ:∀S w,(A.cells S w (.pair (.eq (.int .i64 (0:Int))) (.eq (.int .i64 (0:Int)))) (Value.cells (.agg #[(.int .i64 (0)),(.int .i64 (0))])).toList):=λ_ _=>⟨[_],_,rfl,⟨rfl,rfl⟩,⟨rfl,rfl⟩⟩
theorem ve:dY Tryz.prog 67 2 true:=⟨λw=>by kernel_rfl,λw=>by kernel_rfl⟩
theorem SL:ah Tryz.prog 83:=ah.of Tryz.func83 (by kernel_rfl) (by kernel_rfl)
theorem PP:yi Tryz.prog 27 #[(0,1),(1,1),(2,1)]:=⟨_,Tryz.underlying27,λ_=>by kernel_rfl⟩
theorem MV:∀S w,(A.cells S w (.pair (.eq (.int .i64 (0:Int))) (.pair (.eq (.int .i64 (0:Int))) (.eq (.bool false)))) (Value.cells (.agg #[(.int .i64 (0)),(.int .i64 (0)),(.bool false)])).toList):=λ_ _=>⟨[_],_,rfl,⟨rfl,rfl⟩,⟨[_],_,rfl,⟨rfl,rfl⟩,⟨rfl,rfl⟩⟩⟩
theorem va:∀w,(zeroValue 25).run Tryz.prog w= .ok (.agg #[(.int .i64 (0)),(.int .i64 (0)),(.int .i64 (0)),(.int .i64 (0)),(.slice none 0 0),(.slice none 0 0)]) w:=λw=>by kernel_rfl
theorem Aa:∀S w,(A.cells S w (.agg (.pair (.eq (.int .i64 (0:Int))) (.pair (.eq (.int .i64 (0:Int))) (.pair (.eq (.int .i64 (0:Int))) (.pair (.eq (.int .i64 (0:Int))) (.pair (.eq (.slice none 0 0)) (.eq (.slice none 0 0)))))))) (Value.cells (.agg #[(.int .i64 (0)),(.int .i64 (0)),(.int .i64 (0)),(.int .i64 (0)),(.slice none 0 0),(.slice none 0 0)])).toList):=λ_ _=>⟨[_],_,rfl,⟨rfl,rfl⟩,⟨[_],_,rfl,⟨rfl,rfl⟩,⟨[_],_,rfl,⟨rfl,rfl⟩,⟨[_],_,rfl,⟨rfl,rfl⟩,⟨[_],_,rfl,⟨rfl,rfl⟩,⟨rfl,rfl⟩⟩⟩⟩⟩⟩
theorem KZ:ah Tryz.prog 29:=ah.of Tryz.func29 (by kernel_rfl) (by kernel_rfl)
theorem yI:pg Tryz.prog 23 27 3 24:=.of (z:=(.agg #[(.int .i64 (0)),(.int .i64 (0)),(.bool false)])) Tryz.underlying23 (by kernel_rfl) rfl rfl rfl
theorem wT:pg Tryz.prog 22 36 1 24:=.of (z:=(.slice none 0 0)) Tryz.underlying22 (by kernel_rfl) rfl rfl rfl
theorem PQ:yi Tryz.prog 25 #[(0,1),(1,1),(2,1),(3,1),(4,1),(5,1)]:=⟨_,Tryz.underlying25,λ_=>by kernel_rfl⟩
theorem MX:∀S w,(A.cells S w (.pair (.eq (.int .i64 (0:Int))) (.pair (.eq (.int .i64 (0:Int))) (.pair (.eq (.int .i64 (0:Int))) (.pair (.eq (.int .i64 (0:Int))) (.pair (.eq (.slice none 0 0)) (.eq (.slice none 0 0))))))) (Value.cells (.agg #[(.int .i64 (0)),(.int .i64 (0)),(.int .i64 (0)),(.int .i64 (0)),(.slice none 0 0),(.slice none 0 0)])).toList):=λ_ _=>⟨[_],_,rfl,⟨rfl,rfl⟩,⟨[_],_,rfl,⟨rfl,rfl⟩,⟨[_],_,rfl,⟨rfl,rfl⟩,⟨[_],_,rfl,⟨rfl,rfl⟩,⟨[_],_,rfl,⟨rfl,rfl⟩,⟨rfl,rfl⟩⟩⟩⟩⟩⟩
theorem MD:dY Tryz.prog 104 1 false:=⟨λw=>by kernel_rfl,λw=>by kernel_rfl⟩
theorem Qu:ah Tryz.prog 89:=ah.of Tryz.func89 (by kernel_rfl) (by kernel_rfl)
theorem QP:ah Tryz.prog 104:=ah.of Tryz.func104 (by kernel_rfl) (by kernel_rfl)
theorem QQ:ah Tryz.prog 103:=ah.of Tryz.func103 (by kernel_rfl) (by kernel_rfl)
theorem SJ:ah Tryz.prog 87:=ah.of Tryz.func87 (by kernel_rfl) (by kernel_rfl)
theorem SK:ah Tryz.prog 86:=ah.of Tryz.func86 (by kernel_rfl) (by kernel_rfl)
theorem QO:ah Tryz.prog 108:=ah.of Tryz.func108 (by kernel_rfl) (by kernel_rfl)
theorem Qv:ah Tryz.prog 85:=ah.of Tryz.func85 (by kernel_rfl) (by kernel_rfl)
theorem RG:∀w,(zeroValue 77).run Tryz.prog w= .ok (.pointer none) w:=λw=>by kernel_rfl
theorem Tt:∀S w,(A.cells S w (.eq (.pointer none)) (Value.cells (.pointer none)).toList):=λ_ _=>⟨rfl,rfl⟩
theorem SI:ah Tryz.prog 88:=ah.of Tryz.func88 (by kernel_rfl) (by kernel_rfl)
theorem SQ:ah Tryz.prog 71:=ah.of Tryz.func71 (by kernel_rfl) (by kernel_rfl)
theorem ED:ah Tryz.prog 44:=ah.of Tryz.func44 (by kernel_rfl) (by kernel_rfl)
theorem QE:ah Tryz.prog 17:=ah.of Tryz.func17 (by kernel_rfl) (by kernel_rfl)
theorem Ov:ah Tryz.prog 28:=ah.of Tryz.func28 (by kernel_rfl) (by kernel_rfl)
theorem S7:ah Tryz.prog 42:=ah.of Tryz.func42 (by kernel_rfl) (by kernel_rfl)
theorem S9:ah Tryz.prog 38:=ah.of Tryz.func38 (by kernel_rfl) (by kernel_rfl)
theorem QC:ah Tryz.prog 25:=ah.of Tryz.func25 (by kernel_rfl) (by kernel_rfl)
theorem S5:ah Tryz.prog 45:=ah.of Tryz.func45 (by kernel_rfl) (by kernel_rfl)
theorem SG:LQ Tryz.prog 67 bN:=by
 refine⟨rfl,by kernel_rfl,λw x y=>?_⟩;have u3:=Tryz.underlying3;have a3:=Tryz.isAgg3;have z3:=Tryz.sizeOf3;have hS:Tryz.prog.underlying 67=some (.struct (Tryz.prog.fieldsOf 67)):=by kernel_rfl
 have hp:Tryz.prog.stoodInHeld 67=false:=by kernel_rfl
 rw [show(10000:Nat)=9999+1 from rfl,run_equalIn_agg w 9999 67 _ _ hS hp];simp only [Program.fieldsOf,Tryz.underlying67,qM];refine⟨decide (x=y),?_,decide_eq_true_iff⟩;go_simp;obtain⟨p0,p1⟩:=x;obtain⟨q0,q1⟩:=y;by_cases h0:p0=q0 <;> by_cases h1:p1=q1 <;> simp [h0,h1]
theorem QD:ah Tryz.prog 21:=ah.of Tryz.func21 (by kernel_rfl) (by kernel_rfl)
theorem RO:yi Tryz.prog 74 #[(0,1),(1,1),(2,1)]:=⟨_,Tryz.underlying74,λ_=>by kernel_rfl⟩
theorem RH:∀w,(zeroValue 74).run Tryz.prog w= .ok (.agg #[(.slice none 0 0),(.int .i64 (0)),(.int .u64 (0))]) w:=λw=>by kernel_rfl
theorem QX:∀S w,(A.cells S w (.pair (.eq (.slice none 0 0)) (.pair (.eq (.int .i64 (0:Int))) (.eq (.int .u64 (0:Int))))) (Value.cells (.agg #[(.slice none 0 0),(.int .i64 (0)),(.int .u64 (0))])).toList):=λ_ _=>⟨[_],_,rfl,⟨rfl,rfl⟩,⟨[_],_,rfl,⟨rfl,rfl⟩,⟨rfl,rfl⟩⟩⟩
theorem Tf:ah Tryz.prog 16:=ah.of Tryz.func16 (by kernel_rfl) (by kernel_rfl)
theorem QB:ah Tryz.prog 47:=ah.of Tryz.func47 (by kernel_rfl) (by kernel_rfl)
theorem sa:aW Tryz.prog 74 2 2:=aW.of (by kernel_rfl)
theorem D6:dY Tryz.prog 72 1 false:=⟨λw=>by kernel_rfl,λw=>by kernel_rfl⟩
theorem xB:aW Tryz.prog 74 1 1:=aW.of (by kernel_rfl)
theorem HQ:aW Tryz.prog 74 0 0:=aW.of (by kernel_rfl)
theorem SV:ah Tryz.prog 59:=ah.of Tryz.func59 (by kernel_rfl) (by kernel_rfl)
theorem ux:ah Tryz.prog 24:=ah.of Tryz.func24 (by kernel_rfl) (by kernel_rfl)
theorem KW:ah Tryz.prog 98:=ah.of Tryz.func98 (by kernel_rfl) (by kernel_rfl)
theorem Pj:∀i z,Tryz.prog.info? 28=some i->i.zero=some z->∀S w,rd S w .val (.slice none 0 0) z.cells.toList:=M8 (t:=.val) (z0:=(.slice none 0 0)) (by kernel_rfl) λ_ _=>⟨rfl,rfl⟩
theorem QM:ah Tryz.prog 117:=ah.of Tryz.func117 (by kernel_rfl) (by kernel_rfl)
theorem KY:ah Tryz.prog 46:=ah.of Tryz.func46 (by kernel_rfl) (by kernel_rfl)
theorem Oq:ah Tryz.prog 99:=ah.of Tryz.func99 (by kernel_rfl) (by kernel_rfl)
theorem QT:ah Tryz.prog 100:=ah.of Tryz.func100 (by kernel_rfl) (by kernel_rfl)
theorem SU:ah Tryz.prog 65:=ah.of Tryz.func65 (by kernel_rfl) (by kernel_rfl)
theorem SR:ah Tryz.prog 67:=ah.of Tryz.func67 (by kernel_rfl) (by kernel_rfl)
theorem Tj:ah Tryz.prog 15:=ah.of Tryz.func15 (by kernel_rfl) (by kernel_rfl)
theorem QN:ah Tryz.prog 11:=ah.of Tryz.func11 (by kernel_rfl) (by kernel_rfl)
theorem Tn:ah Tryz.prog 12:=ah.of Tryz.func12 (by kernel_rfl) (by kernel_rfl)
theorem Tm:ah Tryz.prog 14:=ah.of Tryz.func14 (by kernel_rfl) (by kernel_rfl)
theorem SS:ah Tryz.prog 66:=ah.of Tryz.func66 (by kernel_rfl) (by kernel_rfl)
theorem Ta:ah Tryz.prog 27:=ah.of Tryz.func27 (by kernel_rfl) (by kernel_rfl)
abbrev Rs(t:Ty)(l:(Ty.slice t).den):A:=.rep (.slice t) l
abbrev Pv(b:Nat):Value:=.pointer (some ⟨b,0,none⟩)
abbrev TB:= @Tryz.underlying110
abbrev EW:= @Tryz.underlying111
abbrev Q2:= @Tryz.underlying124
abbrev TA:= @Tryz.underlying140
abbrev Tz:= @Tryz.underlying163
abbrev Tv:= @Tryz.underlying165
abbrev OO:= @Tryz.underlying168
abbrev xY:= @Tryz.underlying22
abbrev Q1:= @Tryz.underlying23
abbrev jk:= @Tryz.underlying28
abbrev U3:= @Tryz.underlying3
abbrev s9:= @Tryz.underlying36
abbrev U4:= @Tryz.underlying4
abbrev U5:= @Tryz.underlying5
abbrev Rx:= @Tryz.underlying72
abbrev BP:= @Tryz.underlying82
abbrev I3:= @Tryz.underlying84
abbrev U9:= @Tryz.underlying9
abbrev AA:= @Tryz.underlying92
theorem nB:false=false->1=1:=λ_=>rfl
