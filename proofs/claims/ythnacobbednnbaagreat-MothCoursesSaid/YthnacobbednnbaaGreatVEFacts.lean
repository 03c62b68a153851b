import Derived.Test.YthnacobbednnbaaGreatVEB5
import Derived.Test.YthnacobbednnbaaGreatProg
open Nat
open List hiding mem_of_getElem?
open Array hiding mem_of_getElem? mk
set_option linter.unusedVariables false
set_option linter.unusedSimpArgs false
namespace Go.Proofs.YthnacobbednnbaaGreat
open K Go Go.Proofs
@[reducible] def Ti:Ty:=.int .i64
@[reducible] def Tl:Ty:=.slice Ti
@[reducible] def Tr:Ty:=.arr 5 Ti
theorem cS:Tryz.prog.follows .mixedOrders=true:=by kernel_rfl
theorem qe{n:Nat}:true=false->n=1:=λh=>nomatch h
def K6:ByteArray:=⟨#[0,1,2,2,3,3,3,3,4,4,4,4,4,4,4,4,5,5,5,5,5,5,5,5,5,5,5,5,5,5,5,5,6,6,6,6,6,6,6,6,6,6,6,6,6,6,6,6,6,6,6,6,6,6,6,6,6,6,6,6,6,6,6,6,7,7,7,7,7,7,7,7,7,7,7,7,7,7,7,7,7,7,7,7,7,7,7,7,7,7,7,7,7,7,7,7,7,7,7,7,7,7,7,7,7,7,7,7,7,7,7,7,7,7,7,7,7,7,7,7,7,7,7,7,7,7,7,7,8,8,8,8,8,8,8,8,8,8,8,8,8,8,8,8,8,8,8,8,8,8,8,8,8,8,8,8,8,8,8,8,8,8,8,8,8,8,8,8,8,8,8,8,8,8,8,8,8,8,8,8,8,8,8,8,8,8,8,8,8,8,8,8,8,8,8,8,8,8,8,8,8,8,8,8,8,8,8,8,8,8,8,8,8,8,8,8,8,8,8,8,8,8,8,8,8,8,8,8,8,8,8,8,8,8,8,8,8,8,8,8,8,8,8,8,8,8,8,8,8,8,8,8,8,8,8,8]⟩
@[reducible] def aJ:Ty:=.agg (.pair (.int .i64) (.pair (.int .i64) .bool))
abbrev aQ:=(Int×(Int×Bool))
@[reducible] def am:Ty:=.agg (.pair (.int .i64) (.pair (.int .i64) (.pair (.int .i64) (.pair (.int .i64) (.pair (.slice (.slice (.slice (.int .i64)))) (.slice aJ))))))
abbrev ae:=(Int×(Int×(Int×(Int×((List (List (List Int)))×(List aQ))))))
@[reducible] def bV:Ty:=.agg (.pair (.int .i64) (.int .i64))
abbrev fM:=(Int×Int)
@[reducible] def UH:Ty:=.agg (.pair (.slice (.int .i64)) (.pair (.int .i64) (.int .u64)))
abbrev bK:=((List Int)×(Int×Int))
@[reducible] def Qd:Ty:=.agg (.int .i64)
abbrev Nw:=Int
@[reducible] def Qc:Ty:=.agg (.slice (.int .i64))
abbrev Nv:=(List Int)
@[reducible] def Db:Ty:=.agg (.pair (.int .i64) (.pair (.int .i64) (.pair (.int .i64) (.pair (.int .i64) (.pair (.slice (.slice (.slice (.int .i64)))) .ign)))))
abbrev yI:=(Int×(Int×(Int×(Int×((List (List (List Int)))×Unit)))))
@[reducible] def GH:Ty:=bV
abbrev eQ:=fM
theorem bS:be Tryz.prog 25 4 4:=be.of (by kernel_rfl)
theorem eH:er Tryz.prog 22 1 false:=⟨λw=>by kernel_rfl,λw=>by kernel_rfl⟩
theorem jJ:er Tryz.prog 36 1 false:=⟨λw=>by kernel_rfl,λw=>by kernel_rfl⟩
theorem fC:er Tryz.prog 28 1 false:=⟨λw=>by kernel_rfl,λw=>by kernel_rfl⟩
theorem fK:be Tryz.prog 25 5 5:=be.of (by kernel_rfl)
theorem nh:er Tryz.prog 23 1 false:=⟨λw=>by kernel_rfl,λw=>by kernel_rfl⟩
theorem bW:er Tryz.prog 3 1 false:=⟨λw=>by kernel_rfl,λw=>by kernel_rfl⟩
theorem fy:be Tryz.prog 25 0 0:=be.of (by kernel_rfl)
theorem yH:ag Tryz.prog 53:=ag.of Tryz.func53 (by kernel_rfl) (by kernel_rfl)
theorem Iw:ag Tryz.prog 97:=ag.of Tryz.func97 (by kernel_rfl) (by kernel_rfl)
theorem OX:ag Tryz.prog 75:=ag.of Tryz.func75 (by kernel_rfl) (by kernel_rfl)
theorem Cm:be Tryz.prog 27 0 0:=be.of (by kernel_rfl)
theorem Cj:be Tryz.prog 27 1 1:=be.of (by kernel_rfl)
theorem pj:be Tryz.prog 25 1 1:=be.of (by kernel_rfl)
theorem tA:be Tryz.prog 25 2 2:=be.of (by kernel_rfl)
theorem tz:be Tryz.prog 25 3 3:=be.of (by kernel_rfl)
theorem dk:er Tryz.prog 25 6 true:=⟨λw=>by kernel_rfl,λw=>by kernel_rfl⟩
theorem Uc:ag Tryz.prog 54:=ag.of Tryz.func54 (by kernel_rfl) (by kernel_rfl)
theorem nI:er Tryz.prog 27 3 true:=⟨λw=>by kernel_rfl,λw=>by kernel_rfl⟩
theorem EF:∀w,(zeroValue 27).run Tryz.prog w= .ok (.agg #[(.int .i64 (0)),(.int .i64 (0)),(.bool false)]) w:=λw=>by kernel_rfl
theorem LZ:∀S w,(A.cells S w (.agg (.pair (.eq (.int .i64 (0:Int))) (.pair (.eq (.int .i64 (0:Int))) (.eq (.bool false))))) (Value.cells (.agg #[(.int .i64 (0)),(.int .i64 (0)),(.bool false)])).toList):=λ_ _=>⟨[_],_,rfl,⟨rfl,rfl⟩,⟨[_],_,rfl,⟨rfl,rfl⟩,⟨rfl,rfl⟩⟩⟩
theorem Ub:ag Tryz.prog 55:=ag.of Tryz.func55 (by kernel_rfl) (by kernel_rfl)
theorem Js:∀w,(zeroValue 82).run Tryz.prog w= .ok (.agg #[(.int .i64 (0)),(.int .i64 (0)),(.int .i64 (0)),(.int .i64 (0)),(.int .i64 (0))]) w:=λw=>by kernel_rfl
theorem LY:∀S w,(A.cells S w (.rep (.arr 5 (.int .i64)) [(0:Int),(0:Int),(0:Int),(0:Int),(0:Int)]) (Value.cells (.agg #[(.int .i64 (0)),(.int .i64 (0)),(.int .i64 (0)),(.int .i64 (0)),(.int .i64 (0))])).toList):=λ_ _=>⟨rfl,⟨[_],_,rfl,rfl,⟨[_],_,rfl,rfl,⟨[_],_,rfl,rfl,⟨[_],_,rfl,rfl,⟨[_],_,rfl,rfl,rfl⟩⟩⟩⟩⟩⟩
theorem iq:be Tryz.prog 135 0 0:=be.of (by kernel_rfl)
theorem jI:er Tryz.prog 82 5 true:=⟨λw=>by kernel_rfl,λw=>by kernel_rfl⟩
theorem Nn:ag Tryz.prog 173:=ag.of Tryz.func173 (by kernel_rfl) (by kernel_rfl)
theorem Rf:ag Tryz.prog 163:=ag.of Tryz.func163 (by kernel_rfl) (by kernel_rfl)
theorem Re:ag Tryz.prog 167:=ag.of Tryz.func167 (by kernel_rfl) (by kernel_rfl)
theorem Ri:ag Tryz.prog 157:=ag.of Tryz.func157 (by kernel_rfl) (by kernel_rfl)
theorem Rj:ag Tryz.prog 156:=ag.of Tryz.func156 (by kernel_rfl) (by kernel_rfl)
theorem Rm:ag Tryz.prog 155:=ag.of Tryz.func155 (by kernel_rfl) (by kernel_rfl)
theorem Q6:ag Tryz.prog 62:=ag.of Tryz.func62 (by kernel_rfl) (by kernel_rfl)
theorem c9:pu Tryz.prog 28 3 1 8:=.of (z:=(.int .i64 (0))) Tryz.underlying28 (by kernel_rfl) rfl rfl rfl
theorem Ro:ag Tryz.prog 142:=ag.of Tryz.func142 (by kernel_rfl) (by kernel_rfl)
theorem Qm:yY Tryz.prog 165 #[(0,1)]:=⟨_,Tryz.underlying165,λ_=>by kernel_rfl⟩
theorem MS:∀w,(zeroValue 165).run Tryz.prog w= .ok (.agg #[(.slice none 0 0)]) w:=λw=>by kernel_rfl
theorem Pe:∀S w,(A.cells S w (.eq (.slice none 0 0)) (Value.cells (.agg #[(.slice none 0 0)])).toList):=λ_ _=>⟨rfl,rfl⟩
theorem Ix:ag Tryz.prog 115:=ag.of Tryz.func115 (by kernel_rfl) (by kernel_rfl)
theorem GI:IS Tryz.prog 163 (.agg #[.int .i64 0]):=⟨⟨_,Tryz.underlying163⟩,λw=>by kernel_rfl⟩
theorem F4:∀w,(zeroValue 163).run Tryz.prog w= .ok (.agg #[(.int .i64 (0))]) w:=λw=>by kernel_rfl
theorem ND:∀S w,(A.cells S w (.agg (.eq (.int .i64 (0:Int)))) (Value.cells (.agg #[(.int .i64 (0))])).toList):=λ_ _=>⟨rfl,rfl⟩
theorem M9:er Tryz.prog 163 1 true:=⟨λw=>by kernel_rfl,λw=>by kernel_rfl⟩
theorem DX:be Tryz.prog 163 0 0:=be.of (by kernel_rfl)
theorem Qn:yY Tryz.prog 163 #[(0,1)]:=⟨_,Tryz.underlying163,λ_=>by kernel_rfl⟩
theorem Pg:∀S w,(A.cells S w (.eq (.int .i64 (0:Int))) (Value.cells (.agg #[(.int .i64 (0))])).toList):=λ_ _=>⟨rfl,rfl⟩
theorem Ll:be Tryz.prog 165 0 0:=be.of (by kernel_rfl)
theorem wx:Em Tryz.prog 163 "galloon/moth.beside" 191:=λu w=>by kernel_rfl
theorem ww:Em Tryz.prog 165 "galloon/moth.beside" 192:=λu w=>by kernel_rfl
theorem NZ:IS Tryz.prog 165 (.agg #[.slice none 0 0]):=⟨⟨_,Tryz.underlying165⟩,λw=>by kernel_rfl⟩
theorem RJ:∀S w,(A.cells S w (.agg (.eq (.slice none 0 0))) (Value.cells (.agg #[(.slice none 0 0)])).toList):=λ_ _=>⟨rfl,rfl⟩
theorem Qe:er Tryz.prog 165 1 true:=⟨λw=>by kernel_rfl,λw=>by kernel_rfl⟩
theorem Nu:ag Tryz.prog 105:=ag.of Tryz.func105 (by kernel_rfl) (by kernel_rfl)
theorem Q9:ag Tryz.prog 19:=ag.of Tryz.func19 (by kernel_rfl) (by kernel_rfl)
theorem nm:pu Tryz.prog 36 28 1 24:=.of (z:=(.slice none 0 0)) Tryz.underlying36 (by kernel_rfl) rfl rfl rfl
theorem P3:∀w,(zeroValue 124).run Tryz.prog w= .ok (.agg #[.int .i64 0,.int .i64 0,.int .i64 0]) w:=λw=>by kernel_rfl
theorem Lq:ag Tryz.prog 90:=ag.of Tryz.func90 (by kernel_rfl) (by kernel_rfl)
theorem TN:ag Tryz.prog 91:=ag.of Tryz.func91 (by kernel_rfl) (by kernel_rfl)
theorem As:ag Tryz.prog 48:=ag.of Tryz.func48 (by kernel_rfl) (by kernel_rfl)
theorem E8:ag Tryz.prog 49:=ag.of Tryz.func49 (by kernel_rfl) (by kernel_rfl)
theorem F3:∀w,(zeroValue 84).run Tryz.prog w= .ok (.agg #[(.int .i64 (0)),(.int .i64 (0)),(.int .i64 (0)),(.int .i64 (0)),(.int .i64 (0)),(.int .i64 (0)),(.int .i64 (0)),(.int .i64 (0)),(.int .i64 (0)),(.int .i64 (0)),(.int .i64 (0)),(.int .i64 (0)),(.int .i64 (0)),(.int .i64 (0)),(.int .i64 (0)),(.int .i64 (0)),(.int .i64 (0)),(.int .i64 (0)),(.int .i64 (0)),(.int .i64 (0)),(.int .i64 (0)),(.int .i64 (0)),(.int .i64 (0)),(.int .i64 (0)),(.int .i64 (0)),(.int .i64 (0)),(.int .i64 (0)),(.int .i64 (0)),(.int .i64 (0)),(.int .i64 (0)),(.int .i64 (0)),(.int .i64 (0)),(.int .i64 (0)),(.int .i64 (0)),(.int .i64 (0))]) w:=λw=>by kernel_rfl
theorem IM:∀S w,(A.cells S w (.rep (.arr 7 (.arr 5 (.int .i64))) [[(0:Int),(0:Int),(0:Int),(0:Int),(0:Int)],[(0:Int),(0:Int),(0:Int),(0:Int),(0:Int)],[(0:Int),(0:Int),(0:Int),(0:Int),(0:Int)],[(0:Int),(0:Int),(0:Int),(0:Int),(0:Int)],[(0:Int),(0:Int),(0:Int),(0:Int),(0:Int)],[(0:Int),(0:Int),(0:Int),(0:Int),(0:Int)],[(0:Int),(0:Int),(0:Int),(0:Int),(0:Int)]]) (Value.cells (.agg #[(.int .i64 (0)),(.int .i64 (0)),(.int .i64 (0)),(.int .i64 (0)),(.int .i64 (0)),(.int .i64 (0)),(.int .i64 (0)),(.int .i64 (0)),(.int .i64 (0)),(.int .i64 (0)),(.int .i64 (0)),(.int .i64 (0)),(.int .i64 (0)),(.int .i64 (0)),(.int .i64 (0)),(.int .i64 (0)),(.int .i64 (0)),(.int .i64 (0)),(.int .i64 (0)),(.int .i64 (0)),(.int .i64 (0)),(.int .i64 (0)),(.int .i64 (0)),(.int .i64 (0)),(.int .i64 (0)),(.int .i64 (0)),(.int .i64 (0)),(.int .i64 (0)),(.int .i64 (0)),(.int .i64 (0)),(.int .i64 (0)),(.int .i64 (0)),(.int .i64 (0)),(.int .i64 (0)),(.int .i64 (0))])).toList):=λ_ _=>⟨rfl,⟨[_,_,_,_,_],_,rfl,⟨rfl,⟨[_],_,rfl,rfl,⟨[_],_,rfl,rfl,⟨[_],_,rfl,rfl,⟨[_],_,rfl,rfl,⟨[_],_,rfl,rfl,rfl⟩⟩⟩⟩⟩⟩,⟨[_,_,_,_,_],_,rfl,⟨rfl,⟨[_],_,rfl,rfl,⟨[_],_,rfl,rfl,⟨[_],_,rfl,rfl,⟨[_],_,rfl,rfl,⟨[_],_,rfl,rfl,rfl⟩⟩⟩⟩⟩⟩,⟨[_,_,_,_,_],_,rfl,⟨rfl,⟨[_],_,rfl,rfl,⟨[_],_,rfl,rfl,⟨[_],_,rfl,rfl,⟨[_],_,rfl,rfl,⟨[_],_,rfl,rfl,rfl⟩⟩⟩⟩⟩⟩,⟨[_,_,_,_,_],_,rfl,⟨rfl,⟨[_],_,rfl,rfl,⟨[_],_,rfl,rfl,⟨[_],_,rfl,rfl,⟨[_],_,rfl,rfl,⟨[_],_,rfl,rfl,rfl⟩⟩⟩⟩⟩⟩,⟨[_,_,_,_,_],_,rfl,⟨rfl,⟨[_],_,rfl,rfl,⟨[_],_,rfl,rfl,⟨[_],_,rfl,rfl,⟨[_],_,rfl,rfl,⟨[_],_,rfl,rfl,rfl⟩⟩⟩⟩⟩⟩,⟨[_,_,_,_,_],_,rfl,⟨rfl,⟨[_],_,rfl,rfl,⟨[_],_,rfl,rfl,⟨[_],_,rfl,rfl,⟨[_],_,rfl,rfl,⟨[_],_,rfl,rfl,rfl⟩⟩⟩⟩⟩⟩,⟨[_,_,_,_,_],_,rfl,⟨rfl,⟨[_],_,rfl,rfl,⟨[_],_,rfl,rfl,⟨[_],_,rfl,rfl,⟨[_],_,rfl,rfl,⟨[_],_,rfl,rfl,rfl⟩⟩⟩⟩⟩⟩,rfl⟩⟩⟩⟩⟩⟩⟩⟩
theorem GM:er Tryz.prog 84 35 true:=⟨λw=>by kernel_rfl,λw=>by kernel_rfl⟩
theorem Uf:ag Tryz.prog 50:=ag.of Tryz.func50 (by kernel_rfl) (by kernel_rfl)
theorem Ls:ag Tryz.prog 23:=ag.of Tryz.func23 (by kernel_rfl) (by kernel_rfl)
theorem Qf:er Tryz.prog 122 1 false:=⟨λw=>by kernel_rfl,λw=>by kernel_rfl⟩
theorem GN:er Tryz.prog 121 1 false:=⟨λw=>by kernel_rfl,λw=>by kernel_rfl⟩
theorem Nq:ag Tryz.prog 107:=ag.of Tryz.func107 (by kernel_rfl) (by kernel_rfl)
theorem P4:∀w,(zeroValue 121).run Tryz.prog w= .ok .nilFunc w:=λw=>by kernel_rfl
theorem RL:∀S w,(A.cells S w (.eq .nilFunc) (Value.cells .nilFunc).toList):=λ_ _=>⟨rfl,rfl⟩
theorem OS:be Tryz.prog 27 2 2:=be.of (by kernel_rfl)
theorem US:er Tryz.prog 4 1 false:=⟨λw=>by kernel_rfl,λw=>by kernel_rfl⟩
theorem P2:∀w,(zeroValue 168).run Tryz.prog w= .ok (.agg #[]) w:=λw=>by kernel_rfl
theorem Jr:∀w,(zeroValue 92).run Tryz.prog w= .ok (.slice none 0 0) w:=λw=>by kernel_rfl
theorem LX:∀S w,(A.cells S w (.eq (.slice none 0 0)) (Value.cells (.slice none 0 0)).toList):=λ_ _=>⟨rfl,rfl⟩
theorem JM:er Tryz.prog 77 1 false:=⟨λw=>by kernel_rfl,λw=>by kernel_rfl⟩
theorem Q1:ag Tryz.prog 84:=ag.of Tryz.func84 (by kernel_rfl) (by kernel_rfl)
theorem qw:er Tryz.prog 78 1 false:=⟨λw=>by kernel_rfl,λw=>by kernel_rfl⟩
theorem Rz:ag Tryz.prog 101:=ag.of Tryz.func101 (by kernel_rfl) (by kernel_rfl)
theorem xZ:er Tryz.prog 92 1 false:=⟨λw=>by kernel_rfl,λw=>by kernel_rfl⟩
theorem J0:pu Tryz.prog 92 78 1 1:=.of (z:=(.int .u8 (0))) Tryz.underlying92 (by kernel_rfl) rfl rfl rfl
theorem Nr:ag Tryz.prog 106:=ag.of Tryz.func106 (by kernel_rfl) (by kernel_rfl)
theorem Q5:ag Tryz.prog 68:=ag.of Tryz.func68 (by kernel_rfl) (by kernel_rfl)
theorem E6:ag Tryz.prog 60:=ag.of Tryz.func60 (by kernel_rfl) (by kernel_rfl)
theorem Q7:ag Tryz.prog 61:=ag.of Tryz.func61 (by kernel_rfl) (by kernel_rfl)
theorem OY:ag Tryz.prog 69:=ag.of Tryz.func69 (by kernel_rfl) (by kernel_rfl)
theorem tP:∀w,(zeroValue 110).run Tryz.prog w= .ok (.agg #[(.int .i64 (0)),(.int .i64 (0))]) w:=λw=>by kernel_rfl
theorem AO:∀S w,(A.cells S w (.agg (.pair (.eq (.int .i64 (0:Int))) (.eq (.int .i64 (0:Int))))) (Value.cells (.agg #[(.int .i64 (0)),(.int .i64 (0))])).toList):=λ_ _=>⟨[_],_,rfl,⟨rfl,rfl⟩,⟨rfl,rfl⟩⟩
theorem yE:be Tryz.prog 110 0 0:=be.of (by kernel_rfl)
theorem Lm:be Tryz.prog 110 1 1:=be.of (by kernel_rfl)
theorem kp:er Tryz.prog 110 2 true:=⟨λw=>by kernel_rfl,λw=>by kernel_rfl⟩
theorem Hk:yY Tryz.prog 110 #[(0,1),(1,1)]:=⟨_,Tryz.underlying110,λ_=>by kernel_rfl⟩
theorem CO:∀S w,(A.cells S w (.pair (.eq (.int .i64 (0:Int))) (.eq (.int .i64 (0:Int)))) (Value.cells (.agg #[(.int .i64 (0)),(.int .i64 (0))])).toList):=λ_ _=>⟨[_],_,rfl,⟨rfl,rfl⟩,⟨rfl,rfl⟩⟩
theorem Q4:ag Tryz.prog 74:=ag.of Tryz.func74 (by kernel_rfl) (by kernel_rfl)
theorem TV:ag Tryz.prog 79:=ag.of Tryz.func79 (by kernel_rfl) (by kernel_rfl)
theorem QY:Jf Tryz.prog 110 bV:=by
 refine⟨rfl,by kernel_rfl,λw x y=>?_⟩;have u3:=Tryz.underlying3;have a3:=Tryz.isAgg3;have z3:=Tryz.sizeOf3;have hS:Tryz.prog.underlying 110=some (.struct (Tryz.prog.fieldsOf 110)):=by kernel_rfl
 have hp:Tryz.prog.stoodInHeld 110=false:=by kernel_rfl
 rw [show(10000:Nat)=9999+1 from rfl,run_equalIn_agg w 9999 110 _ _ hS hp];simp only [Program.fieldsOf,Tryz.underlying110,qY];refine⟨decide (x=y),?_,decide_eq_true_iff⟩;go_simp;obtain⟨p0,p1⟩:=x;obtain⟨q0,q1⟩:=y;by_cases h0:p0=q0 <;> by_cases h1:p1=q1 <;> simp [h0,h1]
theorem TU:ag Tryz.prog 80:=ag.of Tryz.func80 (by kernel_rfl) (by kernel_rfl)
theorem Bc:∀w,(zeroValue 67).run Tryz.prog w= .ok (.agg #[(.int .i64 (0)),(.int .i64 (0))]) w:=λw=>by kernel_rfl
theorem RI:∀S w,(A.cells S w (.agg (.pair (.eq (.int .i64 (0:Int))) (.eq (.int .i64 (0:Int))))) (Value.cells (.agg #[(.int .i64 (0)),(.int .i64 (0))])).toList):=λ_ _=>⟨[_],_,rfl,⟨rfl,rfl⟩,⟨rfl,rfl⟩⟩
theorem Hj:yY Tryz.prog 67 #[(0,1),(1,1)]:=⟨_,Tryz.underlying67,λ_=>by kernel_rfl⟩
theorem AN:∀S w,(A.cells S w (.pair (.eq (.int .i64 (0:Int))) (.eq (.int .i64 (0:Int)))) (Value.cells (.agg #[(.int .i64 (0)),(.int .i64 (0))])).toList):=λ_ _=>⟨[_],_,rfl,⟨rfl,rfl⟩,⟨rfl,rfl⟩⟩
theorem wi:er Tryz.prog 67 2 true:=⟨λw=>by kernel_rfl,λw=>by kernel_rfl⟩
theorem TS:ag Tryz.prog 83:=ag.of Tryz.func83 (by kernel_rfl) (by kernel_rfl)
theorem Qk:yY Tryz.prog 27 #[(0,1),(1,1),(2,1)]:=⟨_,Tryz.underlying27,λ_=>by kernel_rfl⟩
theorem Nz:∀S w,(A.cells S w (.pair (.eq (.int .i64 (0:Int))) (.pair (.eq (.int .i64 (0:Int))) (.eq (.bool false)))) (Value.cells (.agg #[(.int .i64 (0)),(.int .i64 (0)),(.bool false)])).toList):=λ_ _=>⟨[_],_,rfl,⟨rfl,rfl⟩,⟨[_],_,rfl,⟨rfl,rfl⟩,⟨rfl,rfl⟩⟩⟩
theorem t8:∀w,(zeroValue 25).run Tryz.prog w= .ok (.agg #[(.int .i64 (0)),(.int .i64 (0)),(.int .i64 (0)),(.int .i64 (0)),(.slice none 0 0),(.slice none 0 0)]) w:=λw=>by kernel_rfl
theorem wH:∀S w,(A.cells S w (.agg (.pair (.eq (.int .i64 (0:Int))) (.pair (.eq (.int .i64 (0:Int))) (.pair (.eq (.int .i64 (0:Int))) (.pair (.eq (.int .i64 (0:Int))) (.pair (.eq (.slice none 0 0)) (.eq (.slice none 0 0)))))))) (Value.cells (.agg #[(.int .i64 (0)),(.int .i64 (0)),(.int .i64 (0)),(.int .i64 (0)),(.slice none 0 0),(.slice none 0 0)])).toList):=λ_ _=>⟨[_],_,rfl,⟨rfl,rfl⟩,⟨[_],_,rfl,⟨rfl,rfl⟩,⟨[_],_,rfl,⟨rfl,rfl⟩,⟨[_],_,rfl,⟨rfl,rfl⟩,⟨[_],_,rfl,⟨rfl,rfl⟩,⟨rfl,rfl⟩⟩⟩⟩⟩⟩
theorem O0:ag Tryz.prog 29:=ag.of Tryz.func29 (by kernel_rfl) (by kernel_rfl)
theorem wj:pu Tryz.prog 23 27 3 24:=.of (z:=(.agg #[(.int .i64 (0)),(.int .i64 (0)),(.bool false)])) Tryz.underlying23 (by kernel_rfl) rfl rfl rfl
theorem uO:pu Tryz.prog 22 36 1 24:=.of (z:=(.slice none 0 0)) Tryz.underlying22 (by kernel_rfl) rfl rfl rfl
theorem Ql:yY Tryz.prog 25 #[(0,1),(1,1),(2,1),(3,1),(4,1),(5,1)]:=⟨_,Tryz.underlying25,λ_=>by kernel_rfl⟩
theorem NA:∀S w,(A.cells S w (.pair (.eq (.int .i64 (0:Int))) (.pair (.eq (.int .i64 (0:Int))) (.pair (.eq (.int .i64 (0:Int))) (.pair (.eq (.int .i64 (0:Int))) (.pair (.eq (.slice none 0 0)) (.eq (.slice none 0 0))))))) (Value.cells (.agg #[(.int .i64 (0)),(.int .i64 (0)),(.int .i64 (0)),(.int .i64 (0)),(.slice none 0 0),(.slice none 0 0)])).toList):=λ_ _=>⟨[_],_,rfl,⟨rfl,rfl⟩,⟨[_],_,rfl,⟨rfl,rfl⟩,⟨[_],_,rfl,⟨rfl,rfl⟩,⟨[_],_,rfl,⟨rfl,rfl⟩,⟨[_],_,rfl,⟨rfl,rfl⟩,⟨rfl,rfl⟩⟩⟩⟩⟩⟩
theorem Na:er Tryz.prog 104 1 false:=⟨λw=>by kernel_rfl,λw=>by kernel_rfl⟩
theorem QZ:ag Tryz.prog 89:=ag.of Tryz.func89 (by kernel_rfl) (by kernel_rfl)
theorem Rx:ag Tryz.prog 104:=ag.of Tryz.func104 (by kernel_rfl) (by kernel_rfl)
theorem Ry:ag Tryz.prog 103:=ag.of Tryz.func103 (by kernel_rfl) (by kernel_rfl)
theorem TP:ag Tryz.prog 87:=ag.of Tryz.func87 (by kernel_rfl) (by kernel_rfl)
theorem TR:ag Tryz.prog 86:=ag.of Tryz.func86 (by kernel_rfl) (by kernel_rfl)
theorem Rw:ag Tryz.prog 108:=ag.of Tryz.func108 (by kernel_rfl) (by kernel_rfl)
theorem Q0:ag Tryz.prog 85:=ag.of Tryz.func85 (by kernel_rfl) (by kernel_rfl)
theorem SL:∀w,(zeroValue 77).run Tryz.prog w= .ok (.pointer none) w:=λw=>by kernel_rfl
theorem Uu:∀S w,(A.cells S w (.eq (.pointer none)) (Value.cells (.pointer none)).toList):=λ_ _=>⟨rfl,rfl⟩
theorem TO:ag Tryz.prog 88:=ag.of Tryz.func88 (by kernel_rfl) (by kernel_rfl)
theorem TW:ag Tryz.prog 71:=ag.of Tryz.func71 (by kernel_rfl) (by kernel_rfl)
theorem E9:ag Tryz.prog 44:=ag.of Tryz.func44 (by kernel_rfl) (by kernel_rfl)
theorem Rb:ag Tryz.prog 17:=ag.of Tryz.func17 (by kernel_rfl) (by kernel_rfl)
theorem Uk:ag Tryz.prog 28:=ag.of Tryz.func28 (by kernel_rfl) (by kernel_rfl)
theorem Uh:ag Tryz.prog 42:=ag.of Tryz.func42 (by kernel_rfl) (by kernel_rfl)
theorem Ui:ag Tryz.prog 38:=ag.of Tryz.func38 (by kernel_rfl) (by kernel_rfl)
theorem Ul:ag Tryz.prog 25:=ag.of Tryz.func25 (by kernel_rfl) (by kernel_rfl)
theorem Ug:ag Tryz.prog 45:=ag.of Tryz.func45 (by kernel_rfl) (by kernel_rfl)
theorem TK:Jf Tryz.prog 67 bV:=by
 refine⟨rfl,by kernel_rfl,λw x y=>?_⟩;have u3:=Tryz.underlying3;have a3:=Tryz.isAgg3;have z3:=Tryz.sizeOf3;have hS:Tryz.prog.underlying 67=some (.struct (Tryz.prog.fieldsOf 67)):=by kernel_rfl
 have hp:Tryz.prog.stoodInHeld 67=false:=by kernel_rfl
 rw [show(10000:Nat)=9999+1 from rfl,run_equalIn_agg w 9999 67 _ _ hS hp];simp only [Program.fieldsOf,Tryz.underlying67,qY];refine⟨decide (x=y),?_,decide_eq_true_iff⟩;go_simp;obtain⟨p0,p1⟩:=x;obtain⟨q0,q1⟩:=y;by_cases h0:p0=q0 <;> by_cases h1:p1=q1 <;> simp [h0,h1]
theorem Lt:ag Tryz.prog 21:=ag.of Tryz.func21 (by kernel_rfl) (by kernel_rfl)
theorem SV:yY Tryz.prog 74 #[(0,1),(1,1),(2,1)]:=⟨_,Tryz.underlying74,λ_=>by kernel_rfl⟩
theorem SN:∀w,(zeroValue 74).run Tryz.prog w= .ok (.agg #[(.slice none 0 0),(.int .i64 (0)),(.int .u64 (0))]) w:=λw=>by kernel_rfl
theorem RH:∀S w,(A.cells S w (.pair (.eq (.slice none 0 0)) (.pair (.eq (.int .i64 (0:Int))) (.eq (.int .u64 (0:Int))))) (Value.cells (.agg #[(.slice none 0 0),(.int .i64 (0)),(.int .u64 (0))])).toList):=λ_ _=>⟨[_],_,rfl,⟨rfl,rfl⟩,⟨[_],_,rfl,⟨rfl,rfl⟩,⟨rfl,rfl⟩⟩⟩
theorem Rh:ag Tryz.prog 16:=ag.of Tryz.func16 (by kernel_rfl) (by kernel_rfl)
theorem OZ:ag Tryz.prog 47:=ag.of Tryz.func47 (by kernel_rfl) (by kernel_rfl)
theorem tw:be Tryz.prog 74 2 2:=be.of (by kernel_rfl)
theorem EM:er Tryz.prog 72 1 false:=⟨λw=>by kernel_rfl,λw=>by kernel_rfl⟩
theorem yD:be Tryz.prog 74 1 1:=be.of (by kernel_rfl)
theorem Ir:be Tryz.prog 74 0 0:=be.of (by kernel_rfl)
theorem T8:ag Tryz.prog 59:=ag.of Tryz.func59 (by kernel_rfl) (by kernel_rfl)
theorem wE:ag Tryz.prog 24:=ag.of Tryz.func24 (by kernel_rfl) (by kernel_rfl)
theorem Lp:ag Tryz.prog 98:=ag.of Tryz.func98 (by kernel_rfl) (by kernel_rfl)
theorem P1:∀i z,Tryz.prog.info? 28=some i->i.zero=some z->∀S w,rd S w .val (.slice none 0 0) z.cells.toList:=NJ (t:=.val) (z0:=(.slice none 0 0)) (by kernel_rfl) λ_ _=>⟨rfl,rfl⟩
theorem Rr:ag Tryz.prog 117:=ag.of Tryz.func117 (by kernel_rfl) (by kernel_rfl)
theorem Lr:ag Tryz.prog 46:=ag.of Tryz.func46 (by kernel_rfl) (by kernel_rfl)
theorem OU:ag Tryz.prog 99:=ag.of Tryz.func99 (by kernel_rfl) (by kernel_rfl)
theorem RB:ag Tryz.prog 100:=ag.of Tryz.func100 (by kernel_rfl) (by kernel_rfl)
theorem TY:ag Tryz.prog 65:=ag.of Tryz.func65 (by kernel_rfl) (by kernel_rfl)
theorem TX:ag Tryz.prog 67:=ag.of Tryz.func67 (by kernel_rfl) (by kernel_rfl)
theorem Uj:ag Tryz.prog 33:=ag.of Tryz.func33 (by kernel_rfl) (by kernel_rfl)
theorem Rn:ag Tryz.prog 15:=ag.of Tryz.func15 (by kernel_rfl) (by kernel_rfl)
theorem SS:pu Tryz.prog 33 25 6 80:=.of (z:=(.agg #[(.int .i64 (0)),(.int .i64 (0)),(.int .i64 (0)),(.int .i64 (0)),(.slice none 0 0),(.slice none 0 0)])) Tryz.underlying33 (by kernel_rfl) rfl rfl rfl
theorem E7:ag Tryz.prog 56:=ag.of Tryz.func56 (by kernel_rfl) (by kernel_rfl)
theorem OW:ag Tryz.prog 76:=ag.of Tryz.func76 (by kernel_rfl) (by kernel_rfl)
theorem Q3:ag Tryz.prog 77:=ag.of Tryz.func77 (by kernel_rfl) (by kernel_rfl)
theorem TZ:ag Tryz.prog 64:=ag.of Tryz.func64 (by kernel_rfl) (by kernel_rfl)
theorem Ua:ag Tryz.prog 57:=ag.of Tryz.func57 (by kernel_rfl) (by kernel_rfl)
theorem T9:ag Tryz.prog 58:=ag.of Tryz.func58 (by kernel_rfl) (by kernel_rfl)
theorem Q2:ag Tryz.prog 81:=ag.of Tryz.func81 (by kernel_rfl) (by kernel_rfl)
theorem Rt:ag Tryz.prog 116:=ag.of Tryz.func116 (by kernel_rfl) (by kernel_rfl)
theorem TM:ag Tryz.prog 96:=ag.of Tryz.func96 (by kernel_rfl) (by kernel_rfl)
theorem Q8:ag Tryz.prog 20:=ag.of Tryz.func20 (by kernel_rfl) (by kernel_rfl)
theorem Ue:ag Tryz.prog 51:=ag.of Tryz.func51 (by kernel_rfl) (by kernel_rfl)
theorem Ud:ag Tryz.prog 52:=ag.of Tryz.func52 (by kernel_rfl) (by kernel_rfl)
theorem TL:Jf Tryz.prog 27 aJ:=by
 refine⟨rfl,by kernel_rfl,λw x y=>?_⟩;have u3:=Tryz.underlying3;have a3:=Tryz.isAgg3;have z3:=Tryz.sizeOf3;have u4:=Tryz.underlying4;have a4:=Tryz.isAgg4;have z4:=Tryz.sizeOf4;have hS:Tryz.prog.underlying 27=some (.struct (Tryz.prog.fieldsOf 27)):=by kernel_rfl
 have hp:Tryz.prog.stoodInHeld 27=false:=by kernel_rfl
 rw [show(10000:Nat)=9999+1 from rfl,run_equalIn_agg w 9999 27 _ _ hS hp];simp only [Program.fieldsOf,Tryz.underlying27,qY];refine⟨decide (x=y),?_,decide_eq_true_iff⟩;go_simp;obtain⟨p0,p1,p2⟩:=x;obtain⟨q0,q1,q2⟩:=y;by_cases h0:p0=q0 <;> by_cases h1:p1=q1 <;> by_cases h2:p2=q2 <;> simp [h0,h1,h2]
theorem Us:ag Tryz.prog 10:=ag.of Tryz.func10 (by kernel_rfl) (by kernel_rfl)
theorem Ru:ag Tryz.prog 11:=ag.of Tryz.func11 (by kernel_rfl) (by kernel_rfl)
theorem Ur:ag Tryz.prog 12:=ag.of Tryz.func12 (by kernel_rfl) (by kernel_rfl)
theorem Up:ag Tryz.prog 13:=ag.of Tryz.func13 (by kernel_rfl) (by kernel_rfl)
theorem Uo:ag Tryz.prog 14:=ag.of Tryz.func14 (by kernel_rfl) (by kernel_rfl)
theorem Un:ag Tryz.prog 18:=ag.of Tryz.func18 (by kernel_rfl) (by kernel_rfl)
theorem Um:ag Tryz.prog 22:=ag.of Tryz.func22 (by kernel_rfl) (by kernel_rfl)
abbrev Rs(t:Ty)(l:(Ty.slice t).den):A:=.rep (.slice t) l
abbrev Pv(b:Nat):Value:=.pointer (some ⟨b,0,none⟩)
abbrev UA:= @Tryz.underlying110
abbrev FH:= @Tryz.underlying111
abbrev RN:= @Tryz.underlying124
abbrev Uz:= @Tryz.underlying140
abbrev Uy:= @Tryz.underlying163
abbrev Ux:= @Tryz.underlying165
abbrev Py:= @Tryz.underlying168
abbrev oy:= @Tryz.underlying22
abbrev Ei:= @Tryz.underlying23
abbrev gG:= @Tryz.underlying28
abbrev U3:= @Tryz.underlying3
abbrev P0:= @Tryz.underlying33
abbrev pY:= @Tryz.underlying36
abbrev U4:= @Tryz.underlying4
abbrev U5:= @Tryz.underlying5
abbrev SC:= @Tryz.underlying72
abbrev CV:= @Tryz.underlying82
abbrev Jp:= @Tryz.underlying84
abbrev U9:= @Tryz.underlying9
abbrev Ba:= @Tryz.underlying92
theorem jN:false=false->1=1:=λ_=>rfl
