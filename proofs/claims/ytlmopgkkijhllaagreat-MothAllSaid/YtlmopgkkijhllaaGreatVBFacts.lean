import Derived.Test.YtlmopgkkijhllaaGreatVBB5
import Derived.Test.YtlmopgkkijhllaaGreatProg
set_option linter.unusedVariables false
set_option linter.unusedSimpArgs false
namespace Go.Proofs.YtlmopgkkijhllaaGreat
open K Go Go.Proofs
@[reducible] def Ti:Ty:=.int .i64
@[reducible] def Tl:Ty:=.slice Ti
@[reducible] def Tr:Ty:=.arr 5 Ti
theorem dW:Tryz.prog.follows .mixedOrders=true:=by kernel_rfl
theorem qV{n:Nat}:true=false→n=1:=fun h=>nomatch h
def KY:ByteArray:=⟨#[0,1,2,2,3,3,3,3,4,4,4,4,4,4,4,4,5,5,5,5,5,5,5,5,5,5,5,5,5,5,5,5,6,6,6,6,6,6,6,6,6,6,6,6,6,6,6,6,6,6,6,6,6,6,6,6,6,6,6,6,6,6,6,6,7,7,7,7,7,7,7,7,7,7,7,7,7,7,7,7,7,7,7,7,7,7,7,7,7,7,7,7,7,7,7,7,7,7,7,7,7,7,7,7,7,7,7,7,7,7,7,7,7,7,7,7,7,7,7,7,7,7,7,7,7,7,7,7,8,8,8,8,8,8,8,8,8,8,8,8,8,8,8,8,8,8,8,8,8,8,8,8,8,8,8,8,8,8,8,8,8,8,8,8,8,8,8,8,8,8,8,8,8,8,8,8,8,8,8,8,8,8,8,8,8,8,8,8,8,8,8,8,8,8,8,8,8,8,8,8,8,8,8,8,8,8,8,8,8,8,8,8,8,8,8,8,8,8,8,8,8,8,8,8,8,8,8,8,8,8,8,8,8,8,8,8,8,8,8,8,8,8,8,8,8,8,8,8,8,8,8,8,8,8,8,8]⟩
@[reducible] def aZ:Ty:=.agg (.pair (.int .i64) (.pair (.int .i64) .bool))
abbrev bu:=(Int×(Int×Bool))
@[reducible] def aj:Ty:=.agg (.pair (.int .i64) (.pair (.int .i64) (.pair (.int .i64) (.pair (.int .i64) (.pair (.slice (.slice (.slice (.int .i64)))) (.slice aZ))))))
abbrev ag:=(Int×(Int×(Int×(Int×((List (List (List Int)))×(List bu))))))
@[reducible] def bI:Ty:=.agg (.pair (.int .i64) (.int .i64))
abbrev fu:=(Int×Int)
@[reducible] def TV:Ty:=.agg (.pair (.slice (.int .i64)) (.pair (.int .i64) (.int .u64)))
abbrev bP:=((List Int)×(Int×Int))
@[reducible] def PM:Ty:=.agg (.int .i64)
abbrev MZ:=Int
@[reducible] def PL:Ty:=.agg (.slice (.int .i64))
abbrev MY:=(List Int)
@[reducible] def CS:Ty:=.agg (.pair (.int .i64) (.pair (.int .i64) (.pair (.int .i64) (.pair (.int .i64) (.pair (.slice (.slice (.slice (.int .i64)))) .ign)))))
abbrev yf:=(Int×(Int×(Int×(Int×((List (List (List Int)))×Unit)))))
@[reducible] def Gt:Ty:=bI
abbrev eH:=fu
theorem eG:aU Tryz.prog 25 4 4:=aU.of (by kernel_rfl)
theorem lG:dY Tryz.prog 22 1 false:=⟨fun w=>by kernel_rfl,fun w=>by kernel_rfl⟩
theorem yT:dY Tryz.prog 36 1 false:=⟨fun w=>by kernel_rfl,fun w=>by kernel_rfl⟩
theorem gh:dY Tryz.prog 28 1 false:=⟨fun w=>by kernel_rfl,fun w=>by kernel_rfl⟩
theorem qp:aU Tryz.prog 25 5 5:=aU.of (by kernel_rfl)
theorem AZ:dY Tryz.prog 23 1 false:=⟨fun w=>by kernel_rfl,fun w=>by kernel_rfl⟩
theorem bV:dY Tryz.prog 3 1 false:=⟨fun w=>by kernel_rfl,fun w=>by kernel_rfl⟩
theorem gX:aU Tryz.prog 25 0 0:=aU.of (by kernel_rfl)
theorem ye:ah Tryz.prog 39:=ah.of Tryz.func39 (by kernel_rfl) (by kernel_rfl)
theorem Ik:ah Tryz.prog 80:=ah.of Tryz.func80 (by kernel_rfl) (by kernel_rfl)
theorem OA:ah Tryz.prog 70:=ah.of Tryz.func70 (by kernel_rfl) (by kernel_rfl)
theorem BO:aU Tryz.prog 27 0 0:=aU.of (by kernel_rfl)
theorem BN:aU Tryz.prog 27 1 1:=aU.of (by kernel_rfl)
theorem BP:aU Tryz.prog 25 1 1:=aU.of (by kernel_rfl)
theorem dM:aU Tryz.prog 25 2 2:=aU.of (by kernel_rfl)
theorem Ig:aU Tryz.prog 25 3 3:=aU.of (by kernel_rfl)
theorem g9:dY Tryz.prog 25 6 true:=⟨fun w=>by kernel_rfl,fun w=>by kernel_rfl⟩
theorem Td:ah Tryz.prog 40:=ah.of Tryz.func40 (by kernel_rfl) (by kernel_rfl)
theorem qI:dY Tryz.prog 27 3 true:=⟨fun w=>by kernel_rfl,fun w=>by kernel_rfl⟩
theorem AO:∀w,(zeroValue 27).run Tryz.prog w= .ok (.agg #[(.int .i64 (0)),(.int .i64 (0)),(.bool false)]) w:=fun w=>by kernel_rfl
theorem IE:∀S w,(A.cells S w (.agg (.pair (.eq (.int .i64 (0:Int))) (.pair (.eq (.int .i64 (0:Int))) (.eq (.bool false))))) (Value.cells (.agg #[(.int .i64 (0)),(.int .i64 (0)),(.bool false)])).toList):=fun _ _=>⟨[_],_,rfl,⟨rfl,rfl⟩,⟨[_],_,rfl,⟨rfl,rfl⟩,⟨rfl,rfl⟩⟩⟩
theorem Ta:ah Tryz.prog 41:=ah.of Tryz.func41 (by kernel_rfl) (by kernel_rfl)
theorem Jm:∀w,(zeroValue 75).run Tryz.prog w= .ok (.agg #[(.int .i64 (0)),(.int .i64 (0)),(.int .i64 (0)),(.int .i64 (0)),(.int .i64 (0))]) w:=fun w=>by kernel_rfl
theorem LH:∀S w,(A.cells S w (.rep (.arr 5 (.int .i64)) [(0:Int),(0:Int),(0:Int),(0:Int),(0:Int)]) (Value.cells (.agg #[(.int .i64 (0)),(.int .i64 (0)),(.int .i64 (0)),(.int .i64 (0)),(.int .i64 (0))])).toList):=fun _ _=>⟨rfl,⟨[_],_,rfl,rfl,⟨[_],_,rfl,rfl,⟨[_],_,rfl,rfl,⟨[_],_,rfl,rfl,⟨[_],_,rfl,rfl,rfl⟩⟩⟩⟩⟩⟩
theorem gP:aU Tryz.prog 123 0 0:=aU.of (by kernel_rfl)
theorem gV:dY Tryz.prog 75 5 true:=⟨fun w=>by kernel_rfl,fun w=>by kernel_rfl⟩
theorem MV:ah Tryz.prog 159:=ah.of Tryz.func159 (by kernel_rfl) (by kernel_rfl)
theorem QO:ah Tryz.prog 149:=ah.of Tryz.func149 (by kernel_rfl) (by kernel_rfl)
theorem QN:ah Tryz.prog 153:=ah.of Tryz.func153 (by kernel_rfl) (by kernel_rfl)
theorem QP:ah Tryz.prog 143:=ah.of Tryz.func143 (by kernel_rfl) (by kernel_rfl)
theorem QQ:ah Tryz.prog 142:=ah.of Tryz.func142 (by kernel_rfl) (by kernel_rfl)
theorem QR:ah Tryz.prog 141:=ah.of Tryz.func141 (by kernel_rfl) (by kernel_rfl)
theorem QF:ah Tryz.prog 63:=ah.of Tryz.func63 (by kernel_rfl) (by kernel_rfl)
theorem dG:pz Tryz.prog 28 3 1 8:=.of (z:=(.int .i64 (0))) Tryz.underlying28 (by kernel_rfl) rfl rfl rfl
theorem QU:ah Tryz.prog 128:=ah.of Tryz.func128 (by kernel_rfl) (by kernel_rfl)
theorem PV:yy Tryz.prog 156 #[(0,1)]:=⟨_,Tryz.underlying156,fun _=>by kernel_rfl⟩
theorem MC:∀w,(zeroValue 156).run Tryz.prog w= .ok (.agg #[(.slice none 0 0)]) w:=fun w=>by kernel_rfl
theorem OM:∀S w,(A.cells S w (.eq (.slice none 0 0)) (Value.cells (.agg #[(.slice none 0 0)])).toList):=fun _ _=>⟨rfl,rfl⟩
theorem Im:ah Tryz.prog 100:=ah.of Tryz.func100 (by kernel_rfl) (by kernel_rfl)
theorem Gu:IM Tryz.prog 154 (.agg #[.int .i64 0]):=⟨⟨_,Tryz.underlying154⟩,fun w=>by kernel_rfl⟩
theorem FO:∀w,(zeroValue 154).run Tryz.prog w= .ok (.agg #[(.int .i64 (0))]) w:=fun w=>by kernel_rfl
theorem M9:∀S w,(A.cells S w (.agg (.eq (.int .i64 (0:Int)))) (Value.cells (.agg #[(.int .i64 (0))])).toList):=fun _ _=>⟨rfl,rfl⟩
theorem MO:dY Tryz.prog 154 1 true:=⟨fun w=>by kernel_rfl,fun w=>by kernel_rfl⟩
theorem Dw:aU Tryz.prog 154 0 0:=aU.of (by kernel_rfl)
theorem PW:yy Tryz.prog 154 #[(0,1)]:=⟨_,Tryz.underlying154,fun _=>by kernel_rfl⟩
theorem ON:∀S w,(A.cells S w (.eq (.int .i64 (0:Int))) (Value.cells (.agg #[(.int .i64 (0))])).toList):=fun _ _=>⟨rfl,rfl⟩
theorem K8:aU Tryz.prog 156 0 0:=aU.of (by kernel_rfl)
theorem vO:D7 Tryz.prog 154 "galloon/moth.beside" 177:=fun u w=>by kernel_rfl
theorem vM:D7 Tryz.prog 156 "galloon/moth.beside" 178:=fun u w=>by kernel_rfl
theorem NA:IM Tryz.prog 156 (.agg #[.slice none 0 0]):=⟨⟨_,Tryz.underlying156⟩,fun w=>by kernel_rfl⟩
theorem Q3:∀S w,(A.cells S w (.agg (.eq (.slice none 0 0))) (Value.cells (.agg #[(.slice none 0 0)])).toList):=fun _ _=>⟨rfl,rfl⟩
theorem PN:dY Tryz.prog 156 1 true:=⟨fun w=>by kernel_rfl,fun w=>by kernel_rfl⟩
theorem Qz:ah Tryz.prog 90:=ah.of Tryz.func90 (by kernel_rfl) (by kernel_rfl)
theorem TA:ah Tryz.prog 15:=ah.of Tryz.func15 (by kernel_rfl) (by kernel_rfl)
theorem my:pz Tryz.prog 36 28 1 24:=.of (z:=(.slice none 0 0)) Tryz.underlying36 (by kernel_rfl) rfl rfl rfl
theorem Py:∀w,(zeroValue 112).run Tryz.prog w= .ok (.agg #[.int .i64 0,.int .i64 0,.int .i64 0]) w:=fun w=>by kernel_rfl
theorem Ld:ah Tryz.prog 71:=ah.of Tryz.func71 (by kernel_rfl) (by kernel_rfl)
theorem SQ:ah Tryz.prog 72:=ah.of Tryz.func72 (by kernel_rfl) (by kernel_rfl)
theorem zP:ah Tryz.prog 34:=ah.of Tryz.func34 (by kernel_rfl) (by kernel_rfl)
theorem oH:ah Tryz.prog 35:=ah.of Tryz.func35 (by kernel_rfl) (by kernel_rfl)
theorem FN:∀w,(zeroValue 77).run Tryz.prog w= .ok (.agg #[(.int .i64 (0)),(.int .i64 (0)),(.int .i64 (0)),(.int .i64 (0)),(.int .i64 (0)),(.int .i64 (0)),(.int .i64 (0)),(.int .i64 (0)),(.int .i64 (0)),(.int .i64 (0)),(.int .i64 (0)),(.int .i64 (0)),(.int .i64 (0)),(.int .i64 (0)),(.int .i64 (0)),(.int .i64 (0)),(.int .i64 (0)),(.int .i64 (0)),(.int .i64 (0)),(.int .i64 (0)),(.int .i64 (0)),(.int .i64 (0)),(.int .i64 (0)),(.int .i64 (0)),(.int .i64 (0)),(.int .i64 (0)),(.int .i64 (0)),(.int .i64 (0)),(.int .i64 (0)),(.int .i64 (0)),(.int .i64 (0)),(.int .i64 (0)),(.int .i64 (0)),(.int .i64 (0)),(.int .i64 (0))]) w:=fun w=>by kernel_rfl
theorem ID:∀S w,(A.cells S w (.rep (.arr 7 (.arr 5 (.int .i64))) [[(0:Int),(0:Int),(0:Int),(0:Int),(0:Int)],[(0:Int),(0:Int),(0:Int),(0:Int),(0:Int)],[(0:Int),(0:Int),(0:Int),(0:Int),(0:Int)],[(0:Int),(0:Int),(0:Int),(0:Int),(0:Int)],[(0:Int),(0:Int),(0:Int),(0:Int),(0:Int)],[(0:Int),(0:Int),(0:Int),(0:Int),(0:Int)],[(0:Int),(0:Int),(0:Int),(0:Int),(0:Int)]]) (Value.cells (.agg #[(.int .i64 (0)),(.int .i64 (0)),(.int .i64 (0)),(.int .i64 (0)),(.int .i64 (0)),(.int .i64 (0)),(.int .i64 (0)),(.int .i64 (0)),(.int .i64 (0)),(.int .i64 (0)),(.int .i64 (0)),(.int .i64 (0)),(.int .i64 (0)),(.int .i64 (0)),(.int .i64 (0)),(.int .i64 (0)),(.int .i64 (0)),(.int .i64 (0)),(.int .i64 (0)),(.int .i64 (0)),(.int .i64 (0)),(.int .i64 (0)),(.int .i64 (0)),(.int .i64 (0)),(.int .i64 (0)),(.int .i64 (0)),(.int .i64 (0)),(.int .i64 (0)),(.int .i64 (0)),(.int .i64 (0)),(.int .i64 (0)),(.int .i64 (0)),(.int .i64 (0)),(.int .i64 (0)),(.int .i64 (0))])).toList):=fun _ _=>⟨rfl,⟨[_,_,_,_,_],_,rfl,⟨rfl,⟨[_],_,rfl,rfl,⟨[_],_,rfl,rfl,⟨[_],_,rfl,rfl,⟨[_],_,rfl,rfl,⟨[_],_,rfl,rfl,rfl⟩⟩⟩⟩⟩⟩,⟨[_,_,_,_,_],_,rfl,⟨rfl,⟨[_],_,rfl,rfl,⟨[_],_,rfl,rfl,⟨[_],_,rfl,rfl,⟨[_],_,rfl,rfl,⟨[_],_,rfl,rfl,rfl⟩⟩⟩⟩⟩⟩,⟨[_,_,_,_,_],_,rfl,⟨rfl,⟨[_],_,rfl,rfl,⟨[_],_,rfl,rfl,⟨[_],_,rfl,rfl,⟨[_],_,rfl,rfl,⟨[_],_,rfl,rfl,rfl⟩⟩⟩⟩⟩⟩,⟨[_,_,_,_,_],_,rfl,⟨rfl,⟨[_],_,rfl,rfl,⟨[_],_,rfl,rfl,⟨[_],_,rfl,rfl,⟨[_],_,rfl,rfl,⟨[_],_,rfl,rfl,rfl⟩⟩⟩⟩⟩⟩,⟨[_,_,_,_,_],_,rfl,⟨rfl,⟨[_],_,rfl,rfl,⟨[_],_,rfl,rfl,⟨[_],_,rfl,rfl,⟨[_],_,rfl,rfl,⟨[_],_,rfl,rfl,rfl⟩⟩⟩⟩⟩⟩,⟨[_,_,_,_,_],_,rfl,⟨rfl,⟨[_],_,rfl,rfl,⟨[_],_,rfl,rfl,⟨[_],_,rfl,rfl,⟨[_],_,rfl,rfl,⟨[_],_,rfl,rfl,rfl⟩⟩⟩⟩⟩⟩,⟨[_,_,_,_,_],_,rfl,⟨rfl,⟨[_],_,rfl,rfl,⟨[_],_,rfl,rfl,⟨[_],_,rfl,rfl,⟨[_],_,rfl,rfl,⟨[_],_,rfl,rfl,rfl⟩⟩⟩⟩⟩⟩,rfl⟩⟩⟩⟩⟩⟩⟩⟩
theorem Gy:dY Tryz.prog 77 35 true:=⟨fun w=>by kernel_rfl,fun w=>by kernel_rfl⟩
theorem Tf:ah Tryz.prog 36:=ah.of Tryz.func36 (by kernel_rfl) (by kernel_rfl)
theorem Le:ah Tryz.prog 19:=ah.of Tryz.func19 (by kernel_rfl) (by kernel_rfl)
theorem PO:dY Tryz.prog 109 1 false:=⟨fun w=>by kernel_rfl,fun w=>by kernel_rfl⟩
theorem Gz:dY Tryz.prog 108 1 false:=⟨fun w=>by kernel_rfl,fun w=>by kernel_rfl⟩
theorem Qx:ah Tryz.prog 92:=ah.of Tryz.func92 (by kernel_rfl) (by kernel_rfl)
theorem Pz:∀w,(zeroValue 108).run Tryz.prog w= .ok .nilFunc w:=fun w=>by kernel_rfl
theorem Q4:∀S w,(A.cells S w (.eq .nilFunc) (Value.cells .nilFunc).toList):=fun _ _=>⟨rfl,rfl⟩
theorem If:aU Tryz.prog 27 2 2:=aU.of (by kernel_rfl)
theorem TW:dY Tryz.prog 4 1 false:=⟨fun w=>by kernel_rfl,fun w=>by kernel_rfl⟩
theorem Px:∀w,(zeroValue 160).run Tryz.prog w= .ok (.agg #[]) w:=fun w=>by kernel_rfl
theorem Jl:∀w,(zeroValue 84).run Tryz.prog w= .ok (.slice none 0 0) w:=fun w=>by kernel_rfl
theorem LG:∀S w,(A.cells S w (.eq (.slice none 0 0)) (Value.cells (.slice none 0 0)).toList):=fun _ _=>⟨rfl,rfl⟩
theorem JH:dY Tryz.prog 70 1 false:=⟨fun w=>by kernel_rfl,fun w=>by kernel_rfl⟩
theorem QE:ah Tryz.prog 64:=ah.of Tryz.func64 (by kernel_rfl) (by kernel_rfl)
theorem l7:dY Tryz.prog 71 1 false:=⟨fun w=>by kernel_rfl,fun w=>by kernel_rfl⟩
theorem SO:ah Tryz.prog 82:=ah.of Tryz.func82 (by kernel_rfl) (by kernel_rfl)
theorem xj:dY Tryz.prog 84 1 false:=⟨fun w=>by kernel_rfl,fun w=>by kernel_rfl⟩
theorem JV:pz Tryz.prog 84 71 1 1:=.of (z:=(.int .u8 (0))) Tryz.underlying84 (by kernel_rfl) rfl rfl rfl
theorem Qy:ah Tryz.prog 91:=ah.of Tryz.func91 (by kernel_rfl) (by kernel_rfl)
theorem QK:ah Tryz.prog 45:=ah.of Tryz.func45 (by kernel_rfl) (by kernel_rfl)
theorem Il:ah Tryz.prog 46:=ah.of Tryz.func46 (by kernel_rfl) (by kernel_rfl)
theorem PT:yy Tryz.prog 27 #[(0,1),(1,1),(2,1)]:=⟨_,Tryz.underlying27,fun _=>by kernel_rfl⟩
theorem M6:∀S w,(A.cells S w (.pair (.eq (.int .i64 (0:Int))) (.pair (.eq (.int .i64 (0:Int))) (.eq (.bool false)))) (Value.cells (.agg #[(.int .i64 (0)),(.int .i64 (0)),(.bool false)])).toList):=fun _ _=>⟨[_],_,rfl,⟨rfl,rfl⟩,⟨[_],_,rfl,⟨rfl,rfl⟩,⟨rfl,rfl⟩⟩⟩
theorem yB:∀w,(zeroValue 25).run Tryz.prog w= .ok (.agg #[(.int .i64 (0)),(.int .i64 (0)),(.int .i64 (0)),(.int .i64 (0)),(.slice none 0 0),(.slice none 0 0)]) w:=fun w=>by kernel_rfl
theorem E9:∀S w,(A.cells S w (.agg (.pair (.eq (.int .i64 (0:Int))) (.pair (.eq (.int .i64 (0:Int))) (.pair (.eq (.int .i64 (0:Int))) (.pair (.eq (.int .i64 (0:Int))) (.pair (.eq (.slice none 0 0)) (.eq (.slice none 0 0)))))))) (Value.cells (.agg #[(.int .i64 (0)),(.int .i64 (0)),(.int .i64 (0)),(.int .i64 (0)),(.slice none 0 0),(.slice none 0 0)])).toList):=fun _ _=>⟨[_],_,rfl,⟨rfl,rfl⟩,⟨[_],_,rfl,⟨rfl,rfl⟩,⟨[_],_,rfl,⟨rfl,rfl⟩,⟨[_],_,rfl,⟨rfl,rfl⟩,⟨[_],_,rfl,⟨rfl,rfl⟩,⟨rfl,rfl⟩⟩⟩⟩⟩⟩
theorem OB:ah Tryz.prog 57:=ah.of Tryz.func57 (by kernel_rfl) (by kernel_rfl)
theorem JW:pz Tryz.prog 23 27 3 24:=.of (z:=(.agg #[(.int .i64 (0)),(.int .i64 (0)),(.bool false)])) Tryz.underlying23 (by kernel_rfl) rfl rfl rfl
theorem A4:pz Tryz.prog 22 36 1 24:=.of (z:=(.slice none 0 0)) Tryz.underlying22 (by kernel_rfl) rfl rfl rfl
theorem PU:yy Tryz.prog 25 #[(0,1),(1,1),(2,1),(3,1),(4,1),(5,1)]:=⟨_,Tryz.underlying25,fun _=>by kernel_rfl⟩
theorem M7:∀S w,(A.cells S w (.pair (.eq (.int .i64 (0:Int))) (.pair (.eq (.int .i64 (0:Int))) (.pair (.eq (.int .i64 (0:Int))) (.pair (.eq (.int .i64 (0:Int))) (.pair (.eq (.slice none 0 0)) (.eq (.slice none 0 0))))))) (Value.cells (.agg #[(.int .i64 (0)),(.int .i64 (0)),(.int .i64 (0)),(.int .i64 (0)),(.slice none 0 0),(.slice none 0 0)])).toList):=fun _ _=>⟨[_],_,rfl,⟨rfl,rfl⟩,⟨[_],_,rfl,⟨rfl,rfl⟩,⟨[_],_,rfl,⟨rfl,rfl⟩,⟨[_],_,rfl,⟨rfl,rfl⟩,⟨[_],_,rfl,⟨rfl,rfl⟩,⟨rfl,rfl⟩⟩⟩⟩⟩⟩
theorem AN:∀w,(zeroValue 58).run Tryz.prog w= .ok (.agg #[(.int .i64 (0)),(.int .i64 (0))]) w:=fun w=>by kernel_rfl
theorem Q2:∀S w,(A.cells S w (.agg (.pair (.eq (.int .i64 (0:Int))) (.eq (.int .i64 (0:Int))))) (Value.cells (.agg #[(.int .i64 (0)),(.int .i64 (0))])).toList):=fun _ _=>⟨[_],_,rfl,⟨rfl,rfl⟩,⟨rfl,rfl⟩⟩
theorem zO:ah Tryz.prog 48:=ah.of Tryz.func48 (by kernel_rfl) (by kernel_rfl)
theorem G3:yy Tryz.prog 58 #[(0,1),(1,1)]:=⟨_,Tryz.underlying58,fun _=>by kernel_rfl⟩
theorem Ag:∀S w,(A.cells S w (.pair (.eq (.int .i64 (0:Int))) (.eq (.int .i64 (0:Int)))) (Value.cells (.agg #[(.int .i64 (0)),(.int .i64 (0))])).toList):=fun _ _=>⟨[_],_,rfl,⟨rfl,rfl⟩,⟨rfl,rfl⟩⟩
theorem vG:dY Tryz.prog 58 2 true:=⟨fun w=>by kernel_rfl,fun w=>by kernel_rfl⟩
theorem QH:ah Tryz.prog 58:=ah.of Tryz.func58 (by kernel_rfl) (by kernel_rfl)
theorem QG:ah Tryz.prog 59:=ah.of Tryz.func59 (by kernel_rfl) (by kernel_rfl)
theorem SY:ah Tryz.prog 60:=ah.of Tryz.func60 (by kernel_rfl) (by kernel_rfl)
theorem s5:∀w,(zeroValue 100).run Tryz.prog w= .ok (.agg #[(.int .i64 (0)),(.int .i64 (0))]) w:=fun w=>by kernel_rfl
theorem Ah:∀S w,(A.cells S w (.agg (.pair (.eq (.int .i64 (0:Int))) (.eq (.int .i64 (0:Int))))) (Value.cells (.agg #[(.int .i64 (0)),(.int .i64 (0))])).toList):=fun _ _=>⟨[_],_,rfl,⟨rfl,rfl⟩,⟨rfl,rfl⟩⟩
theorem ya:aU Tryz.prog 100 0 0:=aU.of (by kernel_rfl)
theorem K9:aU Tryz.prog 100 1 1:=aU.of (by kernel_rfl)
theorem jJ:dY Tryz.prog 100 2 true:=⟨fun w=>by kernel_rfl,fun w=>by kernel_rfl⟩
theorem G4:yy Tryz.prog 100 #[(0,1),(1,1)]:=⟨_,Tryz.underlying100,fun _=>by kernel_rfl⟩
theorem Ce:∀S w,(A.cells S w (.pair (.eq (.int .i64 (0:Int))) (.eq (.int .i64 (0:Int)))) (Value.cells (.agg #[(.int .i64 (0)),(.int .i64 (0))])).toList):=fun _ _=>⟨[_],_,rfl,⟨rfl,rfl⟩,⟨rfl,rfl⟩⟩
theorem SX:ah Tryz.prog 61:=ah.of Tryz.func61 (by kernel_rfl) (by kernel_rfl)
theorem Qw:L6 Tryz.prog 100 bI:=by
 refine⟨rfl,by kernel_rfl,fun w x y=>?_⟩;have u3:=Tryz.underlying3;have a3:=Tryz.isAgg3;have z3:=Tryz.sizeOf3;have hS:Tryz.prog.underlying 100=some (.struct (Tryz.prog.fieldsOf 100)):=by kernel_rfl
 have hp:Tryz.prog.stoodInHeld 100=false:=by kernel_rfl
 rw [show(10000:Nat)=9999+1 from rfl,run_equalIn_agg w 9999 100 _ _ hS hp];simp only [Program.fieldsOf,Tryz.underlying100,qs];refine⟨decide (x=y),?_,decide_eq_true_iff⟩;go_simp;obtain⟨p0,p1⟩:=x;obtain⟨q0,q1⟩:=y;by_cases h0:p0=q0 <;> by_cases h1:p1=q1 <;> simp [h0,h1]
theorem SV:ah Tryz.prog 62:=ah.of Tryz.func62 (by kernel_rfl) (by kernel_rfl)
theorem JG:dY Tryz.prog 90 1 false:=⟨fun w=>by kernel_rfl,fun w=>by kernel_rfl⟩
theorem QC:ah Tryz.prog 69:=ah.of Tryz.func69 (by kernel_rfl) (by kernel_rfl)
theorem QI:ah Tryz.prog 50:=ah.of Tryz.func50 (by kernel_rfl) (by kernel_rfl)
theorem QA:ah Tryz.prog 85:=ah.of Tryz.func85 (by kernel_rfl) (by kernel_rfl)
theorem QB:ah Tryz.prog 84:=ah.of Tryz.func84 (by kernel_rfl) (by kernel_rfl)
theorem SS:ah Tryz.prog 67:=ah.of Tryz.func67 (by kernel_rfl) (by kernel_rfl)
theorem SU:ah Tryz.prog 66:=ah.of Tryz.func66 (by kernel_rfl) (by kernel_rfl)
theorem SK:ah Tryz.prog 93:=ah.of Tryz.func93 (by kernel_rfl) (by kernel_rfl)
theorem QD:ah Tryz.prog 65:=ah.of Tryz.func65 (by kernel_rfl) (by kernel_rfl)
theorem RH:∀w,(zeroValue 70).run Tryz.prog w= .ok (.pointer none) w:=fun w=>by kernel_rfl
theorem TD:∀S w,(A.cells S w (.eq (.pointer none)) (Value.cells (.pointer none)).toList):=fun _ _=>⟨rfl,rfl⟩
theorem SR:ah Tryz.prog 68:=ah.of Tryz.func68 (by kernel_rfl) (by kernel_rfl)
theorem QJ:ah Tryz.prog 49:=ah.of Tryz.func49 (by kernel_rfl) (by kernel_rfl)
theorem ET:ah Tryz.prog 27:=ah.of Tryz.func27 (by kernel_rfl) (by kernel_rfl)
theorem QT:ah Tryz.prog 13:=ah.of Tryz.func13 (by kernel_rfl) (by kernel_rfl)
theorem QM:ah Tryz.prog 20:=ah.of Tryz.func20 (by kernel_rfl) (by kernel_rfl)
theorem Tt:ah Tryz.prog 28:=ah.of Tryz.func28 (by kernel_rfl) (by kernel_rfl)
theorem To:ah Tryz.prog 29:=ah.of Tryz.func29 (by kernel_rfl) (by kernel_rfl)
theorem Tn:ah Tryz.prog 30:=ah.of Tryz.func30 (by kernel_rfl) (by kernel_rfl)
theorem Tm:ah Tryz.prog 31:=ah.of Tryz.func31 (by kernel_rfl) (by kernel_rfl)
theorem SJ:L6 Tryz.prog 58 bI:=by
 refine⟨rfl,by kernel_rfl,fun w x y=>?_⟩;have u3:=Tryz.underlying3;have a3:=Tryz.isAgg3;have z3:=Tryz.sizeOf3;have hS:Tryz.prog.underlying 58=some (.struct (Tryz.prog.fieldsOf 58)):=by kernel_rfl
 have hp:Tryz.prog.stoodInHeld 58=false:=by kernel_rfl
 rw [show(10000:Nat)=9999+1 from rfl,run_equalIn_agg w 9999 58 _ _ hS hp];simp only [Program.fieldsOf,Tryz.underlying58,qs];refine⟨decide (x=y),?_,decide_eq_true_iff⟩;go_simp;obtain⟨p0,p1⟩:=x;obtain⟨q0,q1⟩:=y;by_cases h0:p0=q0 <;> by_cases h1:p1=q1 <;> simp [h0,h1]
theorem OD:ah Tryz.prog 17:=ah.of Tryz.func17 (by kernel_rfl) (by kernel_rfl)
theorem RP:yy Tryz.prog 67 #[(0,1),(1,1),(2,1)]:=⟨_,Tryz.underlying67,fun _=>by kernel_rfl⟩
theorem RI:∀w,(zeroValue 67).run Tryz.prog w= .ok (.agg #[(.slice none 0 0),(.int .i64 (0)),(.int .u64 (0))]) w:=fun w=>by kernel_rfl
theorem Q1:∀S w,(A.cells S w (.pair (.eq (.slice none 0 0)) (.pair (.eq (.int .i64 (0:Int))) (.eq (.int .u64 (0:Int))))) (Value.cells (.agg #[(.slice none 0 0),(.int .i64 (0)),(.int .u64 (0))])).toList):=fun _ _=>⟨[_],_,rfl,⟨rfl,rfl⟩,⟨[_],_,rfl,⟨rfl,rfl⟩,⟨rfl,rfl⟩⟩⟩
theorem TB:ah Tryz.prog 12:=ah.of Tryz.func12 (by kernel_rfl) (by kernel_rfl)
theorem Tj:ah Tryz.prog 33:=ah.of Tryz.func33 (by kernel_rfl) (by kernel_rfl)
theorem sL:aU Tryz.prog 67 2 2:=aU.of (by kernel_rfl)
theorem Eu:dY Tryz.prog 65 1 false:=⟨fun w=>by kernel_rfl,fun w=>by kernel_rfl⟩
theorem xZ:aU Tryz.prog 67 1 1:=aU.of (by kernel_rfl)
theorem Ie:aU Tryz.prog 67 0 0:=aU.of (by kernel_rfl)
theorem SL:ah Tryz.prog 89:=ah.of Tryz.func89 (by kernel_rfl) (by kernel_rfl)
theorem vU:ah Tryz.prog 53:=ah.of Tryz.func53 (by kernel_rfl) (by kernel_rfl)
theorem Lc:ah Tryz.prog 86:=ah.of Tryz.func86 (by kernel_rfl) (by kernel_rfl)
theorem Po:∀i z,Tryz.prog.info? 28=some i→i.zero=some z→∀S w,rd S w .val (.slice none 0 0) z.cells.toList:=Ni (t:=.val) (z0:=(.slice none 0 0)) (by kernel_rfl) fun _ _=>⟨rfl,rfl⟩
theorem QV:ah Tryz.prog 105:=ah.of Tryz.func105 (by kernel_rfl) (by kernel_rfl)
theorem OC:ah Tryz.prog 32:=ah.of Tryz.func32 (by kernel_rfl) (by kernel_rfl)
theorem Oz:ah Tryz.prog 87:=ah.of Tryz.func87 (by kernel_rfl) (by kernel_rfl)
theorem SN:ah Tryz.prog 88:=ah.of Tryz.func88 (by kernel_rfl) (by kernel_rfl)
theorem S9:ah Tryz.prog 52:=ah.of Tryz.func52 (by kernel_rfl) (by kernel_rfl)
theorem S7:ah Tryz.prog 54:=ah.of Tryz.func54 (by kernel_rfl) (by kernel_rfl)
theorem Tv:ah Tryz.prog 24:=ah.of Tryz.func24 (by kernel_rfl) (by kernel_rfl)
theorem T8:ah Tryz.prog 7:=ah.of Tryz.func7 (by kernel_rfl) (by kernel_rfl)
theorem Um:ah Tryz.prog 8:=ah.of Tryz.func8 (by kernel_rfl) (by kernel_rfl)
theorem QL:ah Tryz.prog 25:=ah.of Tryz.func25 (by kernel_rfl) (by kernel_rfl)
theorem Tz:ah Tryz.prog 22:=ah.of Tryz.func22 (by kernel_rfl) (by kernel_rfl)
theorem S5:ah Tryz.prog 55:=ah.of Tryz.func55 (by kernel_rfl) (by kernel_rfl)
theorem SZ:ah Tryz.prog 56:=ah.of Tryz.func56 (by kernel_rfl) (by kernel_rfl)
theorem Tu:ah Tryz.prog 26:=ah.of Tryz.func26 (by kernel_rfl) (by kernel_rfl)
abbrev Rs(t:Ty)(l:(Ty.slice t).den):A:=.rep (.slice t) l
abbrev Pv(b:Nat):Value:=.pointer (some ⟨b,0,none⟩)
abbrev TL:= @Tryz.underlying100
abbrev Fe:= @Tryz.underlying101
abbrev Q5:= @Tryz.underlying112
abbrev TK:= @Tryz.underlying154
abbrev TJ:= @Tryz.underlying156
abbrev OX:= @Tryz.underlying160
abbrev TG:= @Tryz.underlying164
abbrev AM:= @Tryz.underlying22
abbrev OW:= @Tryz.underlying23
abbrev iu:= @Tryz.underlying28
abbrev U3:= @Tryz.underlying3
abbrev qy:= @Tryz.underlying36
abbrev U4:= @Tryz.underlying4
abbrev U5:= @Tryz.underlying5
abbrev Rz:= @Tryz.underlying65
abbrev An:= @Tryz.underlying75
abbrev Cj:= @Tryz.underlying77
abbrev vW:= @Tryz.underlying84
abbrev U9:= @Tryz.underlying9
theorem nJ:false=false→1=1:=fun _=>rfl
