import Derived.Test.YthnacobbednnbaaGreatVWB5
import Derived.Test.YthnacobbednnbaaGreatProg
open Nat
open List hiding mem_of_getElem?
open Array hiding mem_of_getElem? mk
set_option linter.unusedVariables false
set_option linter.unusedSimpArgs false
namespace Go.Proofs.YthnacobbednnbaaGreat
open K Go Go.Proofs
@[reducible] def Ti:Ty:=.int .i64
@[reducible] def Tl:Ty:=.slice Ti
@[reducible] def Tr:Ty:=.arr 5 Ti
theorem cF:Tryz.prog.follows .mixedOrders=true:=by kernel_rfl
theorem mU{n:Nat}:true=false->n=1:=λh=>nomatch h
def Nq:ByteArray:=⟨#[0,1,2,2,3,3,3,3,4,4,4,4,4,4,4,4,5,5,5,5,5,5,5,5,5,5,5,5,5,5,5,5,6,6,6,6,6,6,6,6,6,6,6,6,6,6,6,6,6,6,6,6,6,6,6,6,6,6,6,6,6,6,6,6,7,7,7,7,7,7,7,7,7,7,7,7,7,7,7,7,7,7,7,7,7,7,7,7,7,7,7,7,7,7,7,7,7,7,7,7,7,7,7,7,7,7,7,7,7,7,7,7,7,7,7,7,7,7,7,7,7,7,7,7,7,7,7,7,8,8,8,8,8,8,8,8,8,8,8,8,8,8,8,8,8,8,8,8,8,8,8,8,8,8,8,8,8,8,8,8,8,8,8,8,8,8,8,8,8,8,8,8,8,8,8,8,8,8,8,8,8,8,8,8,8,8,8,8,8,8,8,8,8,8,8,8,8,8,8,8,8,8,8,8,8,8,8,8,8,8,8,8,8,8,8,8,8,8,8,8,8,8,8,8,8,8,8,8,8,8,8,8,8,8,8,8,8,8,8,8,8,8,8,8,8,8,8,8,8,8,8,8,8,8,8,8]⟩
@[reducible] def aJ:Ty:=.agg (.pair (.int .i64) (.pair (.int .i64) .bool))
abbrev aW:=(Int×(Int×Bool))
@[reducible] def ak:Ty:=.agg (.pair (.int .i64) (.pair (.int .i64) (.pair (.int .i64) (.pair (.int .i64) (.pair (.slice (.slice (.slice (.int .i64)))) (.slice aJ))))))
abbrev ab:=(Int×(Int×(Int×(Int×((List (List (List Int)))×(List aW))))))
@[reducible] def bu:Ty:=.agg (.pair (.int .i64) (.int .i64))
abbrev eK:=(Int×Int)
@[reducible] def Wx:Ty:=.agg (.pair (.slice (.int .i64)) (.pair (.int .i64) (.int .u64)))
abbrev bT:=((List Int)×(Int×Int))
@[reducible] def RY:Ty:=.agg (.int .i64)
abbrev Pj:=Int
@[reducible] def RX:Ty:=.agg (.slice (.int .i64))
abbrev Pi:=(List Int)
@[reducible] def EP:Ty:=.agg (.pair (.int .i64) (.pair (.int .i64) (.pair (.int .i64) (.pair (.int .i64) (.pair (.slice (.slice (.slice (.int .i64)))) .ign)))))
abbrev zU:=(Int×(Int×(Int×(Int×((List (List (List Int)))×Unit)))))
@[reducible] def Ih:Ty:=bu
abbrev fh:=eK
theorem cu:bg Tryz.prog 25 4 4:=bg.of (by kernel_rfl)
theorem fp:eN Tryz.prog 22 1 false:=⟨λw=>by kernel_rfl,λw=>by kernel_rfl⟩
theorem kO:eN Tryz.prog 36 1 false:=⟨λw=>by kernel_rfl,λw=>by kernel_rfl⟩
theorem eM:eN Tryz.prog 28 1 false:=⟨λw=>by kernel_rfl,λw=>by kernel_rfl⟩
theorem ge:bg Tryz.prog 25 5 5:=bg.of (by kernel_rfl)
theorem nJ:eN Tryz.prog 23 1 false:=⟨λw=>by kernel_rfl,λw=>by kernel_rfl⟩
theorem bP:eN Tryz.prog 3 1 false:=⟨λw=>by kernel_rfl,λw=>by kernel_rfl⟩
theorem eW:bg Tryz.prog 25 0 0:=bg.of (by kernel_rfl)
theorem zT:ag Tryz.prog 53:=ag.of Tryz.func53 (by kernel_rfl) (by kernel_rfl)
theorem JU:ag Tryz.prog 97:=ag.of Tryz.func97 (by kernel_rfl) (by kernel_rfl)
theorem QM:ag Tryz.prog 75:=ag.of Tryz.func75 (by kernel_rfl) (by kernel_rfl)
theorem zO:bg Tryz.prog 27 0 0:=bg.of (by kernel_rfl)
theorem zN:bg Tryz.prog 27 1 1:=bg.of (by kernel_rfl)
theorem qd:bg Tryz.prog 25 1 1:=bg.of (by kernel_rfl)
theorem rY:bg Tryz.prog 25 2 2:=bg.of (by kernel_rfl)
theorem ud:bg Tryz.prog 25 3 3:=bg.of (by kernel_rfl)
theorem dh:eN Tryz.prog 25 6 true:=⟨λw=>by kernel_rfl,λw=>by kernel_rfl⟩
theorem VT:ag Tryz.prog 54:=ag.of Tryz.func54 (by kernel_rfl) (by kernel_rfl)
theorem ny:eN Tryz.prog 27 3 true:=⟨λw=>by kernel_rfl,λw=>by kernel_rfl⟩
theorem Gg:∀w,(zeroValue 27).run Tryz.prog w= .ok (.agg #[(.int .i64 (0)),(.int .i64 (0)),(.bool false)]) w:=λw=>by kernel_rfl
theorem Og:∀S w,(A.cells S w (.agg (.pair (.eq (.int .i64 (0:Int))) (.pair (.eq (.int .i64 (0:Int))) (.eq (.bool false))))) (Value.cells (.agg #[(.int .i64 (0)),(.int .i64 (0)),(.bool false)])).toList):=λ_ _=>⟨[_],_,rfl,⟨rfl,rfl⟩,⟨[_],_,rfl,⟨rfl,rfl⟩,⟨rfl,rfl⟩⟩⟩
theorem VS:ag Tryz.prog 55:=ag.of Tryz.func55 (by kernel_rfl) (by kernel_rfl)
theorem Lc:∀w,(zeroValue 82).run Tryz.prog w= .ok (.agg #[(.int .i64 (0)),(.int .i64 (0)),(.int .i64 (0)),(.int .i64 (0)),(.int .i64 (0))]) w:=λw=>by kernel_rfl
theorem Of:∀S w,(A.cells S w (.rep (.arr 5 (.int .i64)) [(0:Int),(0:Int),(0:Int),(0:Int),(0:Int)]) (Value.cells (.agg #[(.int .i64 (0)),(.int .i64 (0)),(.int .i64 (0)),(.int .i64 (0)),(.int .i64 (0))])).toList):=λ_ _=>⟨rfl,⟨[_],_,rfl,rfl,⟨[_],_,rfl,rfl,⟨[_],_,rfl,rfl,⟨[_],_,rfl,rfl,⟨[_],_,rfl,rfl,rfl⟩⟩⟩⟩⟩⟩
theorem iP:bg Tryz.prog 135 0 0:=bg.of (by kernel_rfl)
theorem jK:eN Tryz.prog 82 5 true:=⟨λw=>by kernel_rfl,λw=>by kernel_rfl⟩
theorem O7:ag Tryz.prog 173:=ag.of Tryz.func173 (by kernel_rfl) (by kernel_rfl)
theorem TX:ag Tryz.prog 163:=ag.of Tryz.func163 (by kernel_rfl) (by kernel_rfl)
theorem TW:ag Tryz.prog 167:=ag.of Tryz.func167 (by kernel_rfl) (by kernel_rfl)
theorem TY:ag Tryz.prog 157:=ag.of Tryz.func157 (by kernel_rfl) (by kernel_rfl)
theorem TZ:ag Tryz.prog 156:=ag.of Tryz.func156 (by kernel_rfl) (by kernel_rfl)
theorem T8:ag Tryz.prog 155:=ag.of Tryz.func155 (by kernel_rfl) (by kernel_rfl)
theorem TP:ag Tryz.prog 62:=ag.of Tryz.func62 (by kernel_rfl) (by kernel_rfl)
theorem cJ:qj Tryz.prog 28 3 1 8:=.of (z:=(.int .i64 (0))) Tryz.underlying28 (by kernel_rfl) rfl rfl rfl
theorem Ua:ag Tryz.prog 142:=ag.of Tryz.func142 (by kernel_rfl) (by kernel_rfl)
theorem Sz:Aw Tryz.prog 165 #[(0,1)]:=⟨_,Tryz.underlying165,λ_=>by kernel_rfl⟩
theorem OO:∀w,(zeroValue 165).run Tryz.prog w= .ok (.agg #[(.slice none 0 0)]) w:=λw=>by kernel_rfl
theorem Q1:∀S w,(A.cells S w (.eq (.slice none 0 0)) (Value.cells (.agg #[(.slice none 0 0)])).toList):=λ_ _=>⟨rfl,rfl⟩
theorem JV:ag Tryz.prog 115:=ag.of Tryz.func115 (by kernel_rfl) (by kernel_rfl)
theorem Ii:Kv Tryz.prog 163 (.agg #[.int .i64 0]):=⟨⟨_,Tryz.underlying163⟩,λw=>by kernel_rfl⟩
theorem HK:∀w,(zeroValue 163).run Tryz.prog w= .ok (.agg #[(.int .i64 (0))]) w:=λw=>by kernel_rfl
theorem Pz:∀S w,(A.cells S w (.agg (.eq (.int .i64 (0:Int)))) (Value.cells (.agg #[(.int .i64 (0))])).toList):=λ_ _=>⟨rfl,rfl⟩
theorem OY:eN Tryz.prog 163 1 true:=⟨λw=>by kernel_rfl,λw=>by kernel_rfl⟩
theorem Fo:bg Tryz.prog 163 0 0:=bg.of (by kernel_rfl)
theorem SA:Aw Tryz.prog 163 #[(0,1)]:=⟨_,Tryz.underlying163,λ_=>by kernel_rfl⟩
theorem Q2:∀S w,(A.cells S w (.eq (.int .i64 (0:Int))) (Value.cells (.agg #[(.int .i64 (0))])).toList):=λ_ _=>⟨rfl,rfl⟩
theorem ND:bg Tryz.prog 165 0 0:=bg.of (by kernel_rfl)
theorem xt:FW Tryz.prog 163 "galloon/moth.beside" 191:=λu w=>by kernel_rfl
theorem xq:FW Tryz.prog 165 "galloon/moth.beside" 192:=λu w=>by kernel_rfl
theorem PW:Kv Tryz.prog 165 (.agg #[.slice none 0 0]):=⟨⟨_,Tryz.underlying165⟩,λw=>by kernel_rfl⟩
theorem Ur:∀S w,(A.cells S w (.agg (.eq (.slice none 0 0))) (Value.cells (.agg #[(.slice none 0 0)])).toList):=λ_ _=>⟨rfl,rfl⟩
theorem RZ:eN Tryz.prog 165 1 true:=⟨λw=>by kernel_rfl,λw=>by kernel_rfl⟩
theorem Pg:ag Tryz.prog 105:=ag.of Tryz.func105 (by kernel_rfl) (by kernel_rfl)
theorem V7:ag Tryz.prog 19:=ag.of Tryz.func19 (by kernel_rfl) (by kernel_rfl)
theorem mh:qj Tryz.prog 36 28 1 24:=.of (z:=(.slice none 0 0)) Tryz.underlying36 (by kernel_rfl) rfl rfl rfl
theorem RL:∀w,(zeroValue 124).run Tryz.prog w= .ok (.agg #[.int .i64 0,.int .i64 0,.int .i64 0]) w:=λw=>by kernel_rfl
theorem NH:ag Tryz.prog 90:=ag.of Tryz.func90 (by kernel_rfl) (by kernel_rfl)
theorem VB:ag Tryz.prog 91:=ag.of Tryz.func91 (by kernel_rfl) (by kernel_rfl)
theorem BX:ag Tryz.prog 48:=ag.of Tryz.func48 (by kernel_rfl) (by kernel_rfl)
theorem En:ag Tryz.prog 49:=ag.of Tryz.func49 (by kernel_rfl) (by kernel_rfl)
theorem HJ:∀w,(zeroValue 84).run Tryz.prog w= .ok (.agg #[(.int .i64 (0)),(.int .i64 (0)),(.int .i64 (0)),(.int .i64 (0)),(.int .i64 (0)),(.int .i64 (0)),(.int .i64 (0)),(.int .i64 (0)),(.int .i64 (0)),(.int .i64 (0)),(.int .i64 (0)),(.int .i64 (0)),(.int .i64 (0)),(.int .i64 (0)),(.int .i64 (0)),(.int .i64 (0)),(.int .i64 (0)),(.int .i64 (0)),(.int .i64 (0)),(.int .i64 (0)),(.int .i64 (0)),(.int .i64 (0)),(.int .i64 (0)),(.int .i64 (0)),(.int .i64 (0)),(.int .i64 (0)),(.int .i64 (0)),(.int .i64 (0)),(.int .i64 (0)),(.int .i64 (0)),(.int .i64 (0)),(.int .i64 (0)),(.int .i64 (0)),(.int .i64 (0)),(.int .i64 (0))]) w:=λw=>by kernel_rfl
theorem J9:∀S w,(A.cells S w (.rep (.arr 7 (.arr 5 (.int .i64))) [[(0:Int),(0:Int),(0:Int),(0:Int),(0:Int)],[(0:Int),(0:Int),(0:Int),(0:Int),(0:Int)],[(0:Int),(0:Int),(0:Int),(0:Int),(0:Int)],[(0:Int),(0:Int),(0:Int),(0:Int),(0:Int)],[(0:Int),(0:Int),(0:Int),(0:Int),(0:Int)],[(0:Int),(0:Int),(0:Int),(0:Int),(0:Int)],[(0:Int),(0:Int),(0:Int),(0:Int),(0:Int)]]) (Value.cells (.agg #[(.int .i64 (0)),(.int .i64 (0)),(.int .i64 (0)),(.int .i64 (0)),(.int .i64 (0)),(.int .i64 (0)),(.int .i64 (0)),(.int .i64 (0)),(.int .i64 (0)),(.int .i64 (0)),(.int .i64 (0)),(.int .i64 (0)),(.int .i64 (0)),(.int .i64 (0)),(.int .i64 (0)),(.int .i64 (0)),(.int .i64 (0)),(.int .i64 (0)),(.int .i64 (0)),(.int .i64 (0)),(.int .i64 (0)),(.int .i64 (0)),(.int .i64 (0)),(.int .i64 (0)),(.int .i64 (0)),(.int .i64 (0)),(.int .i64 (0)),(.int .i64 (0)),(.int .i64 (0)),(.int .i64 (0)),(.int .i64 (0)),(.int .i64 (0)),(.int .i64 (0)),(.int .i64 (0)),(.int .i64 (0))])).toList):=λ_ _=>⟨rfl,⟨[_,_,_,_,_],_,rfl,⟨rfl,⟨[_],_,rfl,rfl,⟨[_],_,rfl,rfl,⟨[_],_,rfl,rfl,⟨[_],_,rfl,rfl,⟨[_],_,rfl,rfl,rfl⟩⟩⟩⟩⟩⟩,⟨[_,_,_,_,_],_,rfl,⟨rfl,⟨[_],_,rfl,rfl,⟨[_],_,rfl,rfl,⟨[_],_,rfl,rfl,⟨[_],_,rfl,rfl,⟨[_],_,rfl,rfl,rfl⟩⟩⟩⟩⟩⟩,⟨[_,_,_,_,_],_,rfl,⟨rfl,⟨[_],_,rfl,rfl,⟨[_],_,rfl,rfl,⟨[_],_,rfl,rfl,⟨[_],_,rfl,rfl,⟨[_],_,rfl,rfl,rfl⟩⟩⟩⟩⟩⟩,⟨[_,_,_,_,_],_,rfl,⟨rfl,⟨[_],_,rfl,rfl,⟨[_],_,rfl,rfl,⟨[_],_,rfl,rfl,⟨[_],_,rfl,rfl,⟨[_],_,rfl,rfl,rfl⟩⟩⟩⟩⟩⟩,⟨[_,_,_,_,_],_,rfl,⟨rfl,⟨[_],_,rfl,rfl,⟨[_],_,rfl,rfl,⟨[_],_,rfl,rfl,⟨[_],_,rfl,rfl,⟨[_],_,rfl,rfl,rfl⟩⟩⟩⟩⟩⟩,⟨[_,_,_,_,_],_,rfl,⟨rfl,⟨[_],_,rfl,rfl,⟨[_],_,rfl,rfl,⟨[_],_,rfl,rfl,⟨[_],_,rfl,rfl,⟨[_],_,rfl,rfl,rfl⟩⟩⟩⟩⟩⟩,⟨[_,_,_,_,_],_,rfl,⟨rfl,⟨[_],_,rfl,rfl,⟨[_],_,rfl,rfl,⟨[_],_,rfl,rfl,⟨[_],_,rfl,rfl,⟨[_],_,rfl,rfl,rfl⟩⟩⟩⟩⟩⟩,rfl⟩⟩⟩⟩⟩⟩⟩⟩
theorem Ik:eN Tryz.prog 84 35 true:=⟨λw=>by kernel_rfl,λw=>by kernel_rfl⟩
theorem VU:ag Tryz.prog 50:=ag.of Tryz.func50 (by kernel_rfl) (by kernel_rfl)
theorem NJ:ag Tryz.prog 23:=ag.of Tryz.func23 (by kernel_rfl) (by kernel_rfl)
theorem R2:eN Tryz.prog 122 1 false:=⟨λw=>by kernel_rfl,λw=>by kernel_rfl⟩
theorem Il:eN Tryz.prog 121 1 false:=⟨λw=>by kernel_rfl,λw=>by kernel_rfl⟩
theorem O9:ag Tryz.prog 107:=ag.of Tryz.func107 (by kernel_rfl) (by kernel_rfl)
theorem RN:∀w,(zeroValue 121).run Tryz.prog w= .ok .nilFunc w:=λw=>by kernel_rfl
theorem Us:∀S w,(A.cells S w (.eq .nilFunc) (Value.cells .nilFunc).toList):=λ_ _=>⟨rfl,rfl⟩
theorem JP:bg Tryz.prog 27 2 2:=bg.of (by kernel_rfl)
theorem Wy:eN Tryz.prog 4 1 false:=⟨λw=>by kernel_rfl,λw=>by kernel_rfl⟩
theorem RJ:∀w,(zeroValue 168).run Tryz.prog w= .ok (.agg #[]) w:=λw=>by kernel_rfl
theorem La:∀w,(zeroValue 92).run Tryz.prog w= .ok (.slice none 0 0) w:=λw=>by kernel_rfl
theorem Oe:∀S w,(A.cells S w (.eq (.slice none 0 0)) (Value.cells (.slice none 0 0)).toList):=λ_ _=>⟨rfl,rfl⟩
theorem LG:eN Tryz.prog 77 1 false:=⟨λw=>by kernel_rfl,λw=>by kernel_rfl⟩
theorem TJ:ag Tryz.prog 84:=ag.of Tryz.func84 (by kernel_rfl) (by kernel_rfl)
theorem py:eN Tryz.prog 78 1 false:=⟨λw=>by kernel_rfl,λw=>by kernel_rfl⟩
theorem Uj:ag Tryz.prog 101:=ag.of Tryz.func101 (by kernel_rfl) (by kernel_rfl)
theorem yR:eN Tryz.prog 92 1 false:=⟨λw=>by kernel_rfl,λw=>by kernel_rfl⟩
theorem LS:qj Tryz.prog 92 78 1 1:=.of (z:=(.int .u8 (0))) Tryz.underlying92 (by kernel_rfl) rfl rfl rfl
theorem Pe:ag Tryz.prog 106:=ag.of Tryz.func106 (by kernel_rfl) (by kernel_rfl)
theorem TM:ag Tryz.prog 68:=ag.of Tryz.func68 (by kernel_rfl) (by kernel_rfl)
theorem BW:ag Tryz.prog 60:=ag.of Tryz.func60 (by kernel_rfl) (by kernel_rfl)
theorem TR:ag Tryz.prog 61:=ag.of Tryz.func61 (by kernel_rfl) (by kernel_rfl)
theorem QN:ag Tryz.prog 69:=ag.of Tryz.func69 (by kernel_rfl) (by kernel_rfl)
theorem uw:∀w,(zeroValue 110).run Tryz.prog w= .ok (.agg #[(.int .i64 (0)),(.int .i64 (0))]) w:=λw=>by kernel_rfl
theorem CH:∀S w,(A.cells S w (.agg (.pair (.eq (.int .i64 (0:Int))) (.eq (.int .i64 (0:Int))))) (Value.cells (.agg #[(.int .i64 (0)),(.int .i64 (0))])).toList):=λ_ _=>⟨[_],_,rfl,⟨rfl,rfl⟩,⟨rfl,rfl⟩⟩
theorem zP:bg Tryz.prog 110 0 0:=bg.of (by kernel_rfl)
theorem NE:bg Tryz.prog 110 1 1:=bg.of (by kernel_rfl)
theorem kP:eN Tryz.prog 110 2 true:=⟨λw=>by kernel_rfl,λw=>by kernel_rfl⟩
theorem IP:Aw Tryz.prog 110 #[(0,1),(1,1)]:=⟨_,Tryz.underlying110,λ_=>by kernel_rfl⟩
theorem Ez:∀S w,(A.cells S w (.pair (.eq (.int .i64 (0:Int))) (.eq (.int .i64 (0:Int)))) (Value.cells (.agg #[(.int .i64 (0)),(.int .i64 (0))])).toList):=λ_ _=>⟨[_],_,rfl,⟨rfl,rfl⟩,⟨rfl,rfl⟩⟩
theorem TL:ag Tryz.prog 74:=ag.of Tryz.func74 (by kernel_rfl) (by kernel_rfl)
theorem VI:ag Tryz.prog 79:=ag.of Tryz.func79 (by kernel_rfl) (by kernel_rfl)
theorem TD:KX Tryz.prog 110 bu:=by
 refine⟨rfl,by kernel_rfl,λw x y=>?_⟩;have u3:=Tryz.underlying3;have a3:=Tryz.isAgg3;have z3:=Tryz.sizeOf3;have hS:Tryz.prog.underlying 110=some (.struct (Tryz.prog.fieldsOf 110)):=by kernel_rfl
 have hp:Tryz.prog.stoodInHeld 110=false:=by kernel_rfl
 rw [show(10000:Nat)=9999+1 from rfl,run_equalIn_agg w 9999 110 _ _ hS hp];simp only [Program.fieldsOf,Tryz.underlying110,sb];refine⟨decide (x=y),?_,decide_eq_true_iff⟩;go_simp;obtain⟨p0,p1⟩:=x;obtain⟨q0,q1⟩:=y;by_cases h0:p0=q0 <;> by_cases h1:p1=q1 <;> simp [h0,h1]
theorem VH:ag Tryz.prog 80:=ag.of Tryz.func80 (by kernel_rfl) (by kernel_rfl)
theorem rj:∀w,(zeroValue 67).run Tryz.prog w= .ok (.agg #[(.int .i64 (0)),(.int .i64 (0))]) w:=λw=>by kernel_rfl
theorem Hm:∀S w,(A.cells S w (.agg (.pair (.eq (.int .i64 (0:Int))) (.eq (.int .i64 (0:Int))))) (Value.cells (.agg #[(.int .i64 (0)),(.int .i64 (0))])).toList):=λ_ _=>⟨[_],_,rfl,⟨rfl,rfl⟩,⟨rfl,rfl⟩⟩
theorem zm:Aw Tryz.prog 67 #[(0,1),(1,1)]:=⟨_,Tryz.underlying67,λ_=>by kernel_rfl⟩
theorem te:∀S w,(A.cells S w (.pair (.eq (.int .i64 (0:Int))) (.eq (.int .i64 (0:Int)))) (Value.cells (.agg #[(.int .i64 (0)),(.int .i64 (0))])).toList):=λ_ _=>⟨[_],_,rfl,⟨rfl,rfl⟩,⟨rfl,rfl⟩⟩
theorem mf:eN Tryz.prog 67 2 true:=⟨λw=>by kernel_rfl,λw=>by kernel_rfl⟩
theorem VF:ag Tryz.prog 83:=ag.of Tryz.func83 (by kernel_rfl) (by kernel_rfl)
theorem Sl:Aw Tryz.prog 27 #[(0,1),(1,1),(2,1)]:=⟨_,Tryz.underlying27,λ_=>by kernel_rfl⟩
theorem Po:∀S w,(A.cells S w (.pair (.eq (.int .i64 (0:Int))) (.pair (.eq (.int .i64 (0:Int))) (.eq (.bool false)))) (Value.cells (.agg #[(.int .i64 (0)),(.int .i64 (0)),(.bool false)])).toList):=λ_ _=>⟨[_],_,rfl,⟨rfl,rfl⟩,⟨[_],_,rfl,⟨rfl,rfl⟩,⟨rfl,rfl⟩⟩⟩
theorem vo:∀w,(zeroValue 25).run Tryz.prog w= .ok (.agg #[(.int .i64 (0)),(.int .i64 (0)),(.int .i64 (0)),(.int .i64 (0)),(.slice none 0 0),(.slice none 0 0)]) w:=λw=>by kernel_rfl
theorem Af:∀S w,(A.cells S w (.agg (.pair (.eq (.int .i64 (0:Int))) (.pair (.eq (.int .i64 (0:Int))) (.pair (.eq (.int .i64 (0:Int))) (.pair (.eq (.int .i64 (0:Int))) (.pair (.eq (.slice none 0 0)) (.eq (.slice none 0 0)))))))) (Value.cells (.agg #[(.int .i64 (0)),(.int .i64 (0)),(.int .i64 (0)),(.int .i64 (0)),(.slice none 0 0),(.slice none 0 0)])).toList):=λ_ _=>⟨[_],_,rfl,⟨rfl,rfl⟩,⟨[_],_,rfl,⟨rfl,rfl⟩,⟨[_],_,rfl,⟨rfl,rfl⟩,⟨[_],_,rfl,⟨rfl,rfl⟩,⟨[_],_,rfl,⟨rfl,rfl⟩,⟨rfl,rfl⟩⟩⟩⟩⟩⟩
theorem QQ:ag Tryz.prog 29:=ag.of Tryz.func29 (by kernel_rfl) (by kernel_rfl)
theorem AZ:qj Tryz.prog 23 27 3 24:=.of (z:=(.agg #[(.int .i64 (0)),(.int .i64 (0)),(.bool false)])) Tryz.underlying23 (by kernel_rfl) rfl rfl rfl
theorem yS:qj Tryz.prog 22 36 1 24:=.of (z:=(.slice none 0 0)) Tryz.underlying22 (by kernel_rfl) rfl rfl rfl
theorem Sr:Aw Tryz.prog 25 #[(0,1),(1,1),(2,1),(3,1),(4,1),(5,1)]:=⟨_,Tryz.underlying25,λ_=>by kernel_rfl⟩
theorem Px:∀S w,(A.cells S w (.pair (.eq (.int .i64 (0:Int))) (.pair (.eq (.int .i64 (0:Int))) (.pair (.eq (.int .i64 (0:Int))) (.pair (.eq (.int .i64 (0:Int))) (.pair (.eq (.slice none 0 0)) (.eq (.slice none 0 0))))))) (Value.cells (.agg #[(.int .i64 (0)),(.int .i64 (0)),(.int .i64 (0)),(.int .i64 (0)),(.slice none 0 0),(.slice none 0 0)])).toList):=λ_ _=>⟨[_],_,rfl,⟨rfl,rfl⟩,⟨[_],_,rfl,⟨rfl,rfl⟩,⟨[_],_,rfl,⟨rfl,rfl⟩,⟨[_],_,rfl,⟨rfl,rfl⟩,⟨[_],_,rfl,⟨rfl,rfl⟩,⟨rfl,rfl⟩⟩⟩⟩⟩⟩
theorem OZ:eN Tryz.prog 104 1 false:=⟨λw=>by kernel_rfl,λw=>by kernel_rfl⟩
theorem TF:ag Tryz.prog 89:=ag.of Tryz.func89 (by kernel_rfl) (by kernel_rfl)
theorem Ug:ag Tryz.prog 104:=ag.of Tryz.func104 (by kernel_rfl) (by kernel_rfl)
theorem Uh:ag Tryz.prog 103:=ag.of Tryz.func103 (by kernel_rfl) (by kernel_rfl)
theorem VD:ag Tryz.prog 87:=ag.of Tryz.func87 (by kernel_rfl) (by kernel_rfl)
theorem VE:ag Tryz.prog 86:=ag.of Tryz.func86 (by kernel_rfl) (by kernel_rfl)
theorem Uf:ag Tryz.prog 108:=ag.of Tryz.func108 (by kernel_rfl) (by kernel_rfl)
theorem TG:ag Tryz.prog 85:=ag.of Tryz.func85 (by kernel_rfl) (by kernel_rfl)
theorem UW:∀w,(zeroValue 77).run Tryz.prog w= .ok (.pointer none) w:=λw=>by kernel_rfl
theorem Wg:∀S w,(A.cells S w (.eq (.pointer none)) (Value.cells (.pointer none)).toList):=λ_ _=>⟨rfl,rfl⟩
theorem VC:ag Tryz.prog 88:=ag.of Tryz.func88 (by kernel_rfl) (by kernel_rfl)
theorem VK:ag Tryz.prog 71:=ag.of Tryz.func71 (by kernel_rfl) (by kernel_rfl)
theorem G2:ag Tryz.prog 44:=ag.of Tryz.func44 (by kernel_rfl) (by kernel_rfl)
theorem V8:ag Tryz.prog 17:=ag.of Tryz.func17 (by kernel_rfl) (by kernel_rfl)
theorem V3:ag Tryz.prog 28:=ag.of Tryz.func28 (by kernel_rfl) (by kernel_rfl)
theorem TU:ag Tryz.prog 42:=ag.of Tryz.func42 (by kernel_rfl) (by kernel_rfl)
theorem V0:ag Tryz.prog 38:=ag.of Tryz.func38 (by kernel_rfl) (by kernel_rfl)
theorem V4:ag Tryz.prog 25:=ag.of Tryz.func25 (by kernel_rfl) (by kernel_rfl)
theorem VV:ag Tryz.prog 45:=ag.of Tryz.func45 (by kernel_rfl) (by kernel_rfl)
theorem TC:KX Tryz.prog 67 bu:=by
 refine⟨rfl,by kernel_rfl,λw x y=>?_⟩;have u3:=Tryz.underlying3;have a3:=Tryz.isAgg3;have z3:=Tryz.sizeOf3;have hS:Tryz.prog.underlying 67=some (.struct (Tryz.prog.fieldsOf 67)):=by kernel_rfl
 have hp:Tryz.prog.stoodInHeld 67=false:=by kernel_rfl
 rw [show(10000:Nat)=9999+1 from rfl,run_equalIn_agg w 9999 67 _ _ hS hp];simp only [Program.fieldsOf,Tryz.underlying67,sb];refine⟨decide (x=y),?_,decide_eq_true_iff⟩;go_simp;obtain⟨p0,p1⟩:=x;obtain⟨q0,q1⟩:=y;by_cases h0:p0=q0 <;> by_cases h1:p1=q1 <;> simp [h0,h1]
theorem QR:ag Tryz.prog 21:=ag.of Tryz.func21 (by kernel_rfl) (by kernel_rfl)
theorem U6:Aw Tryz.prog 74 #[(0,1),(1,1),(2,1)]:=⟨_,Tryz.underlying74,λ_=>by kernel_rfl⟩
theorem UX:∀w,(zeroValue 74).run Tryz.prog w= .ok (.agg #[(.slice none 0 0),(.int .i64 (0)),(.int .u64 (0))]) w:=λw=>by kernel_rfl
theorem Up:∀S w,(A.cells S w (.pair (.eq (.slice none 0 0)) (.pair (.eq (.int .i64 (0:Int))) (.eq (.int .u64 (0:Int))))) (Value.cells (.agg #[(.slice none 0 0),(.int .i64 (0)),(.int .u64 (0))])).toList):=λ_ _=>⟨[_],_,rfl,⟨rfl,rfl⟩,⟨[_],_,rfl,⟨rfl,rfl⟩,⟨rfl,rfl⟩⟩⟩
theorem V9:ag Tryz.prog 16:=ag.of Tryz.func16 (by kernel_rfl) (by kernel_rfl)
theorem TS:ag Tryz.prog 47:=ag.of Tryz.func47 (by kernel_rfl) (by kernel_rfl)
theorem uc:bg Tryz.prog 74 2 2:=bg.of (by kernel_rfl)
theorem Gq:eN Tryz.prog 72 1 false:=⟨λw=>by kernel_rfl,λw=>by kernel_rfl⟩
theorem zM:bg Tryz.prog 74 1 1:=bg.of (by kernel_rfl)
theorem JL:bg Tryz.prog 74 0 0:=bg.of (by kernel_rfl)
theorem VO:ag Tryz.prog 59:=ag.of Tryz.func59 (by kernel_rfl) (by kernel_rfl)
theorem uU:ag Tryz.prog 24:=ag.of Tryz.func24 (by kernel_rfl) (by kernel_rfl)
theorem NG:ag Tryz.prog 98:=ag.of Tryz.func98 (by kernel_rfl) (by kernel_rfl)
theorem RI:∀i z,Tryz.prog.info? 28=some i->i.zero=some z->∀S w,rd S w .val (.slice none 0 0) z.cells.toList:=PH (t:=.val) (z0:=(.slice none 0 0)) (by kernel_rfl) λ_ _=>⟨rfl,rfl⟩
theorem Uc:ag Tryz.prog 117:=ag.of Tryz.func117 (by kernel_rfl) (by kernel_rfl)
theorem QP:ag Tryz.prog 46:=ag.of Tryz.func46 (by kernel_rfl) (by kernel_rfl)
theorem QJ:ag Tryz.prog 99:=ag.of Tryz.func99 (by kernel_rfl) (by kernel_rfl)
theorem Uk:ag Tryz.prog 100:=ag.of Tryz.func100 (by kernel_rfl) (by kernel_rfl)
theorem VN:ag Tryz.prog 65:=ag.of Tryz.func65 (by kernel_rfl) (by kernel_rfl)
theorem VM:ag Tryz.prog 67:=ag.of Tryz.func67 (by kernel_rfl) (by kernel_rfl)
theorem V2:ag Tryz.prog 33:=ag.of Tryz.func33 (by kernel_rfl) (by kernel_rfl)
theorem T9:ag Tryz.prog 15:=ag.of Tryz.func15 (by kernel_rfl) (by kernel_rfl)
theorem U1:qj Tryz.prog 33 25 6 80:=.of (z:=(.agg #[(.int .i64 (0)),(.int .i64 (0)),(.int .i64 (0)),(.int .i64 (0)),(.slice none 0 0),(.slice none 0 0)])) Tryz.underlying33 (by kernel_rfl) rfl rfl rfl
theorem G1:ag Tryz.prog 56:=ag.of Tryz.func56 (by kernel_rfl) (by kernel_rfl)
theorem QL:ag Tryz.prog 76:=ag.of Tryz.func76 (by kernel_rfl) (by kernel_rfl)
theorem QK:ag Tryz.prog 77:=ag.of Tryz.func77 (by kernel_rfl) (by kernel_rfl)
theorem TN:ag Tryz.prog 64:=ag.of Tryz.func64 (by kernel_rfl) (by kernel_rfl)
theorem VQ:ag Tryz.prog 57:=ag.of Tryz.func57 (by kernel_rfl) (by kernel_rfl)
theorem VP:ag Tryz.prog 58:=ag.of Tryz.func58 (by kernel_rfl) (by kernel_rfl)
theorem TK:ag Tryz.prog 81:=ag.of Tryz.func81 (by kernel_rfl) (by kernel_rfl)
theorem Ud:ag Tryz.prog 116:=ag.of Tryz.func116 (by kernel_rfl) (by kernel_rfl)
theorem VA:ag Tryz.prog 96:=ag.of Tryz.func96 (by kernel_rfl) (by kernel_rfl)
theorem V6:ag Tryz.prog 20:=ag.of Tryz.func20 (by kernel_rfl) (by kernel_rfl)
theorem QO:ag Tryz.prog 52:=ag.of Tryz.func52 (by kernel_rfl) (by kernel_rfl)
theorem Vz:KX Tryz.prog 27 aJ:=by
 refine⟨rfl,by kernel_rfl,λw x y=>?_⟩;have u3:=Tryz.underlying3;have a3:=Tryz.isAgg3;have z3:=Tryz.sizeOf3;have u4:=Tryz.underlying4;have a4:=Tryz.isAgg4;have z4:=Tryz.sizeOf4;have hS:Tryz.prog.underlying 27=some (.struct (Tryz.prog.fieldsOf 27)):=by kernel_rfl
 have hp:Tryz.prog.stoodInHeld 27=false:=by kernel_rfl
 rw [show(10000:Nat)=9999+1 from rfl,run_equalIn_agg w 9999 27 _ _ hS hp];simp only [Program.fieldsOf,Tryz.underlying27,sb];refine⟨decide (x=y),?_,decide_eq_true_iff⟩;go_simp;obtain⟨p0,p1,p2⟩:=x;obtain⟨q0,q1,q2⟩:=y;by_cases h0:p0=q0 <;> by_cases h1:p1=q1 <;> by_cases h2:p2=q2 <;> simp [h0,h1,h2]
theorem Wc:ag Tryz.prog 10:=ag.of Tryz.func10 (by kernel_rfl) (by kernel_rfl)
theorem Ue:ag Tryz.prog 11:=ag.of Tryz.func11 (by kernel_rfl) (by kernel_rfl)
theorem Wb:ag Tryz.prog 12:=ag.of Tryz.func12 (by kernel_rfl) (by kernel_rfl)
theorem Wa:ag Tryz.prog 13:=ag.of Tryz.func13 (by kernel_rfl) (by kernel_rfl)
theorem V5:ag Tryz.prog 22:=ag.of Tryz.func22 (by kernel_rfl) (by kernel_rfl)
theorem TV:ag Tryz.prog 34:=ag.of Tryz.func34 (by kernel_rfl) (by kernel_rfl)
theorem Ui:ag Tryz.prog 102:=ag.of Tryz.func102 (by kernel_rfl) (by kernel_rfl)
theorem VL:ag Tryz.prog 70:=ag.of Tryz.func70 (by kernel_rfl) (by kernel_rfl)
theorem TO:ag Tryz.prog 63:=ag.of Tryz.func63 (by kernel_rfl) (by kernel_rfl)
theorem VJ:ag Tryz.prog 78:=ag.of Tryz.func78 (by kernel_rfl) (by kernel_rfl)
theorem VG:ag Tryz.prog 82:=ag.of Tryz.func82 (by kernel_rfl) (by kernel_rfl)
theorem QH:bg Tryz.prog 67 0 0:=bg.of (by kernel_rfl)
theorem JM:bg Tryz.prog 67 1 1:=bg.of (by kernel_rfl)
theorem VZ:ag Tryz.prog 40:=ag.of Tryz.func40 (by kernel_rfl) (by kernel_rfl)
theorem VY:ag Tryz.prog 41:=ag.of Tryz.func41 (by kernel_rfl) (by kernel_rfl)
theorem VX:ag Tryz.prog 43:=ag.of Tryz.func43 (by kernel_rfl) (by kernel_rfl)
abbrev Rs(t:Ty)(l:(Ty.slice t).den):A:=.rep (.slice t) l
abbrev Pv(b:Nat):Value:=.pointer (some ⟨b,0,none⟩)
abbrev Wn:= @Tryz.underlying110
abbrev Hr:= @Tryz.underlying111
abbrev Uu:= @Tryz.underlying124
abbrev Wm:= @Tryz.underlying140
abbrev Wj:= @Tryz.underlying163
abbrev Wi:= @Tryz.underlying165
abbrev Q9:= @Tryz.underlying168
abbrev po:= @Tryz.underlying22
abbrev Da:= @Tryz.underlying23
abbrev gh:= @Tryz.underlying28
abbrev U3:= @Tryz.underlying3
abbrev Ut:= @Tryz.underlying33
abbrev nq:= @Tryz.underlying36
abbrev U4:= @Tryz.underlying4
abbrev U5:= @Tryz.underlying5
abbrev UR:= @Tryz.underlying72
abbrev C9:= @Tryz.underlying82
abbrev Ku:= @Tryz.underlying84
abbrev U9:= @Tryz.underlying9
abbrev Ak:= @Tryz.underlying92
theorem jI:false=false->1=1:=λ_=>rfl
