import Derived.Test.YtlhalkpppmnnmaaGreatVOB5
import Derived.Test.YtlhalkpppmnnmaaGreatProg
open Nat
open List hiding mem_of_getElem?
open Array hiding mem_of_getElem? mk
set_option linter.unusedVariables false
set_option linter.unusedSimpArgs false
namespace Go.Proofs.YtlhalkpppmnnmaaGreat
open K Go Go.Proofs
@[reducible] def Ti:Ty:=.int .i64
@[reducible] def Tl:Ty:=.slice Ti
@[reducible] def Tr:Ty:=.arr 5 Ti
theorem fa:Tryz.prog.follows .mixedOrders=true:=by kernel_rfl
theorem mW{n:Nat}:true=false->n=1:=λh=>nomatch h
def G3:ByteArray:=⟨#[0,1,2,2,3,3,3,3,4,4,4,4,4,4,4,4,5,5,5,5,5,5,5,5,5,5,5,5,5,5,5,5,6,6,6,6,6,6,6,6,6,6,6,6,6,6,6,6,6,6,6,6,6,6,6,6,6,6,6,6,6,6,6,6,7,7,7,7,7,7,7,7,7,7,7,7,7,7,7,7,7,7,7,7,7,7,7,7,7,7,7,7,7,7,7,7,7,7,7,7,7,7,7,7,7,7,7,7,7,7,7,7,7,7,7,7,7,7,7,7,7,7,7,7,7,7,7,7,8,8,8,8,8,8,8,8,8,8,8,8,8,8,8,8,8,8,8,8,8,8,8,8,8,8,8,8,8,8,8,8,8,8,8,8,8,8,8,8,8,8,8,8,8,8,8,8,8,8,8,8,8,8,8,8,8,8,8,8,8,8,8,8,8,8,8,8,8,8,8,8,8,8,8,8,8,8,8,8,8,8,8,8,8,8,8,8,8,8,8,8,8,8,8,8,8,8,8,8,8,8,8,8,8,8,8,8,8,8,8,8,8,8,8,8,8,8,8,8,8,8,8,8,8,8,8,8]⟩
@[reducible] def aG:Ty:=.agg (.pair (.int .i64) (.pair (.int .i64) .bool))
abbrev av:=(Int×(Int×Bool))
@[reducible] def an:Ty:=.agg (.pair (.int .i64) (.pair (.int .i64) (.pair (.int .i64) (.pair (.int .i64) (.pair (.slice (.slice (.slice (.int .i64)))) (.slice aG))))))
abbrev am:=(Int×(Int×(Int×(Int×((List (List (List Int)))×(List av))))))
@[reducible] def bJ:Ty:=.agg (.pair (.int .i64) (.int .i64))
abbrev er:=(Int×Int)
@[reducible] def OJ:Ty:=.agg (.pair (.slice (.int .i64)) (.pair (.int .i64) (.int .u64)))
@[reducible] def KY:Ty:=.agg (.int .i64)
abbrev Ix:=Int
@[reducible] def KX:Ty:=.agg (.slice (.int .i64))
abbrev Iw:=(List Int)
@[reducible] def Nh:Ty:=.agg (.pair (.int .i64) (.pair (.int .i64) (.pair (.int .i64) (.pair (.int .i64) (.pair (.slice (.slice (.slice (.int .i64)))) .ign)))))
@[reducible] def CG:Ty:=bJ
abbrev dM:=er
theorem FG:∀w,(zeroValue 33).run Tryz.prog w= .ok (.agg #[(.int .i64 (0)),(.int .i64 (0)),(.bool false)]) w:=λw=>by kernel_rfl
theorem J5:∀S w,(A.cells S w (.agg (.pair (.eq (.int .i64 (0:Int))) (.pair (.eq (.int .i64 (0:Int))) (.eq (.bool false))))) (Value.cells (.agg #[(.int .i64 (0)),(.int .i64 (0)),(.bool false)])).toList):=λ_ _=>⟨[_],_,rfl,⟨rfl,rfl⟩,⟨[_],_,rfl,⟨rfl,rfl⟩,⟨rfl,rfl⟩⟩⟩
theorem NG:xW Tryz.prog 33 #[(0,1),(1,1),(2,1)]:=⟨_,Tryz.underlying33,λ_=>by kernel_rfl⟩
theorem MJ:∀S w,(A.cells S w (.pair (.eq (.int .i64 (0:Int))) (.pair (.eq (.int .i64 (0:Int))) (.eq (.bool false)))) (Value.cells (.agg #[(.int .i64 (0)),(.int .i64 (0)),(.bool false)])).toList):=λ_ _=>⟨[_],_,rfl,⟨rfl,rfl⟩,⟨[_],_,rfl,⟨rfl,rfl⟩,⟨rfl,rfl⟩⟩⟩
theorem qy:dk Tryz.prog 33 3 true:=⟨λw=>by kernel_rfl,λw=>by kernel_rfl⟩
theorem mA:∀w,(zeroValue 25).run Tryz.prog w= .ok (.agg #[(.int .i64 (0)),(.int .i64 (0)),(.int .i64 (0)),(.int .i64 (0)),(.slice none 0 0),(.slice none 0 0)]) w:=λw=>by kernel_rfl
theorem te:∀S w,(A.cells S w (.agg (.pair (.eq (.int .i64 (0:Int))) (.pair (.eq (.int .i64 (0:Int))) (.pair (.eq (.int .i64 (0:Int))) (.pair (.eq (.int .i64 (0:Int))) (.pair (.eq (.slice none 0 0)) (.eq (.slice none 0 0)))))))) (Value.cells (.agg #[(.int .i64 (0)),(.int .i64 (0)),(.int .i64 (0)),(.int .i64 (0)),(.slice none 0 0),(.slice none 0 0)])).toList):=λ_ _=>⟨[_],_,rfl,⟨rfl,rfl⟩,⟨[_],_,rfl,⟨rfl,rfl⟩,⟨[_],_,rfl,⟨rfl,rfl⟩,⟨[_],_,rfl,⟨rfl,rfl⟩,⟨[_],_,rfl,⟨rfl,rfl⟩,⟨rfl,rfl⟩⟩⟩⟩⟩⟩
theorem Fv:ag Tryz.prog 8:=ag.of Tryz.func8 (by kernel_rfl) (by kernel_rfl)
theorem wG:nu Tryz.prog 23 33 3 24:=.of (z:=(.agg #[(.int .i64 (0)),(.int .i64 (0)),(.bool false)])) Tryz.underlying23 (by kernel_rfl) rfl rfl rfl
theorem cD:nu Tryz.prog 27 3 1 8:=.of (z:=(.int .i64 (0))) Tryz.underlying27 (by kernel_rfl) rfl rfl rfl
theorem mC:nu Tryz.prog 28 27 1 24:=.of (z:=(.slice none 0 0)) Tryz.underlying28 (by kernel_rfl) rfl rfl rfl
theorem Ge:nu Tryz.prog 22 28 1 24:=.of (z:=(.slice none 0 0)) Tryz.underlying22 (by kernel_rfl) rfl rfl rfl
theorem yu:xW Tryz.prog 25 #[(0,1),(1,1),(2,1),(3,1),(4,1),(5,1)]:=⟨_,Tryz.underlying25,λ_=>by kernel_rfl⟩
theorem td:∀S w,(A.cells S w (.pair (.eq (.int .i64 (0:Int))) (.pair (.eq (.int .i64 (0:Int))) (.pair (.eq (.int .i64 (0:Int))) (.pair (.eq (.int .i64 (0:Int))) (.pair (.eq (.slice none 0 0)) (.eq (.slice none 0 0))))))) (Value.cells (.agg #[(.int .i64 (0)),(.int .i64 (0)),(.int .i64 (0)),(.int .i64 (0)),(.slice none 0 0),(.slice none 0 0)])).toList):=λ_ _=>⟨[_],_,rfl,⟨rfl,rfl⟩,⟨[_],_,rfl,⟨rfl,rfl⟩,⟨[_],_,rfl,⟨rfl,rfl⟩,⟨[_],_,rfl,⟨rfl,rfl⟩,⟨[_],_,rfl,⟨rfl,rfl⟩,⟨rfl,rfl⟩⟩⟩⟩⟩⟩
theorem c6:dk Tryz.prog 25 6 true:=⟨λw=>by kernel_rfl,λw=>by kernel_rfl⟩
theorem je:dk Tryz.prog 27 1 false:=⟨λw=>by kernel_rfl,λw=>by kernel_rfl⟩
theorem cL:dk Tryz.prog 3 1 false:=⟨λw=>by kernel_rfl,λw=>by kernel_rfl⟩
theorem g7:bj Tryz.prog 25 0 0:=bj.of (by kernel_rfl)
theorem vH:ag Tryz.prog 30:=ag.of Tryz.func30 (by kernel_rfl) (by kernel_rfl)
theorem En:ag Tryz.prog 67:=ag.of Tryz.func67 (by kernel_rfl) (by kernel_rfl)
theorem Eo:ag Tryz.prog 45:=ag.of Tryz.func45 (by kernel_rfl) (by kernel_rfl)
theorem Ei:bj Tryz.prog 33 0 0:=bj.of (by kernel_rfl)
theorem Eh:bj Tryz.prog 33 1 1:=bj.of (by kernel_rfl)
theorem fQ:bj Tryz.prog 25 4 4:=bj.of (by kernel_rfl)
theorem nZ:dk Tryz.prog 22 1 false:=⟨λw=>by kernel_rfl,λw=>by kernel_rfl⟩
theorem yR:bj Tryz.prog 25 1 1:=bj.of (by kernel_rfl)
theorem yQ:bj Tryz.prog 25 2 2:=bj.of (by kernel_rfl)
theorem yP:bj Tryz.prog 25 3 3:=bj.of (by kernel_rfl)
theorem wE:dk Tryz.prog 28 1 false:=⟨λw=>by kernel_rfl,λw=>by kernel_rfl⟩
theorem Om:ag Tryz.prog 31:=ag.of Tryz.func31 (by kernel_rfl) (by kernel_rfl)
theorem ma:bj Tryz.prog 25 5 5:=bj.of (by kernel_rfl)
theorem va:dk Tryz.prog 23 1 false:=⟨λw=>by kernel_rfl,λw=>by kernel_rfl⟩
theorem L6:ag Tryz.prog 32:=ag.of Tryz.func32 (by kernel_rfl) (by kernel_rfl)
theorem FD:∀w,(zeroValue 69).run Tryz.prog w= .ok (.agg #[(.int .i64 (0)),(.int .i64 (0)),(.int .i64 (0)),(.int .i64 (0)),(.int .i64 (0))]) w:=λw=>by kernel_rfl
theorem HC:∀S w,(A.cells S w (.rep (.arr 5 (.int .i64)) [(0:Int),(0:Int),(0:Int),(0:Int),(0:Int)]) (Value.cells (.agg #[(.int .i64 (0)),(.int .i64 (0)),(.int .i64 (0)),(.int .i64 (0)),(.int .i64 (0))])).toList):=λ_ _=>⟨rfl,⟨[_],_,rfl,rfl,⟨[_],_,rfl,rfl,⟨[_],_,rfl,rfl,⟨[_],_,rfl,rfl,⟨[_],_,rfl,rfl,rfl⟩⟩⟩⟩⟩⟩
theorem fM:bj Tryz.prog 121 0 0:=bj.of (by kernel_rfl)
theorem gB:dk Tryz.prog 69 5 true:=⟨λw=>by kernel_rfl,λw=>by kernel_rfl⟩
theorem It:ag Tryz.prog 162:=ag.of Tryz.func162 (by kernel_rfl) (by kernel_rfl)
theorem MB:ag Tryz.prog 152:=ag.of Tryz.func152 (by kernel_rfl) (by kernel_rfl)
theorem MA:ag Tryz.prog 156:=ag.of Tryz.func156 (by kernel_rfl) (by kernel_rfl)
theorem MC:ag Tryz.prog 146:=ag.of Tryz.func146 (by kernel_rfl) (by kernel_rfl)
theorem MD:ag Tryz.prog 145:=ag.of Tryz.func145 (by kernel_rfl) (by kernel_rfl)
theorem ME:ag Tryz.prog 144:=ag.of Tryz.func144 (by kernel_rfl) (by kernel_rfl)
theorem LY:ag Tryz.prog 51:=ag.of Tryz.func51 (by kernel_rfl) (by kernel_rfl)
theorem MF:ag Tryz.prog 128:=ag.of Tryz.func128 (by kernel_rfl) (by kernel_rfl)
theorem K5:xW Tryz.prog 152 #[(0,1)]:=⟨_,Tryz.underlying152,λ_=>by kernel_rfl⟩
theorem Ib:∀w,(zeroValue 152).run Tryz.prog w= .ok (.agg #[(.slice none 0 0)]) w:=λw=>by kernel_rfl
theorem J1:∀S w,(A.cells S w (.eq (.slice none 0 0)) (Value.cells (.agg #[(.slice none 0 0)])).toList):=λ_ _=>⟨rfl,rfl⟩
theorem JH:ag Tryz.prog 99:=ag.of Tryz.func99 (by kernel_rfl) (by kernel_rfl)
theorem CH:EP Tryz.prog 150 (.agg #[.int .i64 0]):=⟨⟨_,Tryz.underlying150⟩,λw=>by kernel_rfl⟩
theorem BM:∀w,(zeroValue 150).run Tryz.prog w= .ok (.agg #[(.int .i64 (0))]) w:=λw=>by kernel_rfl
theorem Iz:∀S w,(A.cells S w (.agg (.eq (.int .i64 (0:Int)))) (Value.cells (.agg #[(.int .i64 (0))])).toList):=λ_ _=>⟨rfl,rfl⟩
theorem Io:dk Tryz.prog 150 1 true:=⟨λw=>by kernel_rfl,λw=>by kernel_rfl⟩
theorem zV:bj Tryz.prog 150 0 0:=bj.of (by kernel_rfl)
theorem K6:xW Tryz.prog 150 #[(0,1)]:=⟨_,Tryz.underlying150,λ_=>by kernel_rfl⟩
theorem J2:∀S w,(A.cells S w (.eq (.int .i64 (0:Int))) (Value.cells (.agg #[(.int .i64 (0))])).toList):=λ_ _=>⟨rfl,rfl⟩
theorem Hi:bj Tryz.prog 152 0 0:=bj.of (by kernel_rfl)
theorem t5:An Tryz.prog 150 "galloon/moth.beside" 180:=λu w=>by kernel_rfl
theorem t4:An Tryz.prog 152 "galloon/moth.beside" 181:=λu w=>by kernel_rfl
theorem IT:EP Tryz.prog 152 (.agg #[.slice none 0 0]):=⟨⟨_,Tryz.underlying152⟩,λw=>by kernel_rfl⟩
theorem MK:∀S w,(A.cells S w (.agg (.eq (.slice none 0 0))) (Value.cells (.agg #[(.slice none 0 0)])).toList):=λ_ _=>⟨rfl,rfl⟩
theorem KZ:dk Tryz.prog 152 1 true:=⟨λw=>by kernel_rfl,λw=>by kernel_rfl⟩
theorem LR:ag Tryz.prog 76:=ag.of Tryz.func76 (by kernel_rfl) (by kernel_rfl)
theorem JI:ag Tryz.prog 7:=ag.of Tryz.func7 (by kernel_rfl) (by kernel_rfl)
theorem KN:∀w,(zeroValue 111).run Tryz.prog w= .ok (.agg #[.int .i64 0,.int .i64 0,.int .i64 0]) w:=λw=>by kernel_rfl
theorem A5:ag Tryz.prog 50:=ag.of Tryz.func50 (by kernel_rfl) (by kernel_rfl)
theorem Oa:ag Tryz.prog 68:=ag.of Tryz.func68 (by kernel_rfl) (by kernel_rfl)
theorem rR:ag Tryz.prog 33:=ag.of Tryz.func33 (by kernel_rfl) (by kernel_rfl)
theorem yW:ag Tryz.prog 34:=ag.of Tryz.func34 (by kernel_rfl) (by kernel_rfl)
theorem BL:∀w,(zeroValue 71).run Tryz.prog w= .ok (.agg #[(.int .i64 (0)),(.int .i64 (0)),(.int .i64 (0)),(.int .i64 (0)),(.int .i64 (0)),(.int .i64 (0)),(.int .i64 (0)),(.int .i64 (0)),(.int .i64 (0)),(.int .i64 (0)),(.int .i64 (0)),(.int .i64 (0)),(.int .i64 (0)),(.int .i64 (0)),(.int .i64 (0)),(.int .i64 (0)),(.int .i64 (0)),(.int .i64 (0)),(.int .i64 (0)),(.int .i64 (0)),(.int .i64 (0)),(.int .i64 (0)),(.int .i64 (0)),(.int .i64 (0)),(.int .i64 (0)),(.int .i64 (0)),(.int .i64 (0)),(.int .i64 (0)),(.int .i64 (0)),(.int .i64 (0)),(.int .i64 (0)),(.int .i64 (0)),(.int .i64 (0)),(.int .i64 (0)),(.int .i64 (0))]) w:=λw=>by kernel_rfl
theorem EJ:∀S w,(A.cells S w (.rep (.arr 7 (.arr 5 (.int .i64))) [[(0:Int),(0:Int),(0:Int),(0:Int),(0:Int)],[(0:Int),(0:Int),(0:Int),(0:Int),(0:Int)],[(0:Int),(0:Int),(0:Int),(0:Int),(0:Int)],[(0:Int),(0:Int),(0:Int),(0:Int),(0:Int)],[(0:Int),(0:Int),(0:Int),(0:Int),(0:Int)],[(0:Int),(0:Int),(0:Int),(0:Int),(0:Int)],[(0:Int),(0:Int),(0:Int),(0:Int),(0:Int)]]) (Value.cells (.agg #[(.int .i64 (0)),(.int .i64 (0)),(.int .i64 (0)),(.int .i64 (0)),(.int .i64 (0)),(.int .i64 (0)),(.int .i64 (0)),(.int .i64 (0)),(.int .i64 (0)),(.int .i64 (0)),(.int .i64 (0)),(.int .i64 (0)),(.int .i64 (0)),(.int .i64 (0)),(.int .i64 (0)),(.int .i64 (0)),(.int .i64 (0)),(.int .i64 (0)),(.int .i64 (0)),(.int .i64 (0)),(.int .i64 (0)),(.int .i64 (0)),(.int .i64 (0)),(.int .i64 (0)),(.int .i64 (0)),(.int .i64 (0)),(.int .i64 (0)),(.int .i64 (0)),(.int .i64 (0)),(.int .i64 (0)),(.int .i64 (0)),(.int .i64 (0)),(.int .i64 (0)),(.int .i64 (0)),(.int .i64 (0))])).toList):=λ_ _=>⟨rfl,⟨[_,_,_,_,_],_,rfl,⟨rfl,⟨[_],_,rfl,rfl,⟨[_],_,rfl,rfl,⟨[_],_,rfl,rfl,⟨[_],_,rfl,rfl,⟨[_],_,rfl,rfl,rfl⟩⟩⟩⟩⟩⟩,⟨[_,_,_,_,_],_,rfl,⟨rfl,⟨[_],_,rfl,rfl,⟨[_],_,rfl,rfl,⟨[_],_,rfl,rfl,⟨[_],_,rfl,rfl,⟨[_],_,rfl,rfl,rfl⟩⟩⟩⟩⟩⟩,⟨[_,_,_,_,_],_,rfl,⟨rfl,⟨[_],_,rfl,rfl,⟨[_],_,rfl,rfl,⟨[_],_,rfl,rfl,⟨[_],_,rfl,rfl,⟨[_],_,rfl,rfl,rfl⟩⟩⟩⟩⟩⟩,⟨[_,_,_,_,_],_,rfl,⟨rfl,⟨[_],_,rfl,rfl,⟨[_],_,rfl,rfl,⟨[_],_,rfl,rfl,⟨[_],_,rfl,rfl,⟨[_],_,rfl,rfl,rfl⟩⟩⟩⟩⟩⟩,⟨[_,_,_,_,_],_,rfl,⟨rfl,⟨[_],_,rfl,rfl,⟨[_],_,rfl,rfl,⟨[_],_,rfl,rfl,⟨[_],_,rfl,rfl,⟨[_],_,rfl,rfl,rfl⟩⟩⟩⟩⟩⟩,⟨[_,_,_,_,_],_,rfl,⟨rfl,⟨[_],_,rfl,rfl,⟨[_],_,rfl,rfl,⟨[_],_,rfl,rfl,⟨[_],_,rfl,rfl,⟨[_],_,rfl,rfl,rfl⟩⟩⟩⟩⟩⟩,⟨[_,_,_,_,_],_,rfl,⟨rfl,⟨[_],_,rfl,rfl,⟨[_],_,rfl,rfl,⟨[_],_,rfl,rfl,⟨[_],_,rfl,rfl,⟨[_],_,rfl,rfl,rfl⟩⟩⟩⟩⟩⟩,rfl⟩⟩⟩⟩⟩⟩⟩⟩
theorem CL:dk Tryz.prog 71 35 true:=⟨λw=>by kernel_rfl,λw=>by kernel_rfl⟩
theorem L2:ag Tryz.prog 35:=ag.of Tryz.func35 (by kernel_rfl) (by kernel_rfl)
theorem K1:dk Tryz.prog 100 1 false:=⟨λw=>by kernel_rfl,λw=>by kernel_rfl⟩
theorem IU:dk Tryz.prog 99 1 false:=⟨λw=>by kernel_rfl,λw=>by kernel_rfl⟩
theorem LO:ag Tryz.prog 80:=ag.of Tryz.func80 (by kernel_rfl) (by kernel_rfl)
theorem Nx:∀w,(zeroValue 99).run Tryz.prog w= .ok .nilFunc w:=λw=>by kernel_rfl
theorem Oq:∀S w,(A.cells S w (.eq .nilFunc) (Value.cells .nilFunc).toList):=λ_ _=>⟨rfl,rfl⟩
theorem JA:bj Tryz.prog 33 2 2:=bj.of (by kernel_rfl)
theorem OW:dk Tryz.prog 4 1 false:=⟨λw=>by kernel_rfl,λw=>by kernel_rfl⟩
theorem KL:∀w,(zeroValue 153).run Tryz.prog w= .ok (.agg #[]) w:=λw=>by kernel_rfl
theorem FC:∀w,(zeroValue 74).run Tryz.prog w= .ok (.slice none 0 0) w:=λw=>by kernel_rfl
theorem HB:∀S w,(A.cells S w (.eq (.slice none 0 0)) (Value.cells (.slice none 0 0)).toList):=λ_ _=>⟨rfl,rfl⟩
theorem yj:dk Tryz.prog 64 1 false:=⟨λw=>by kernel_rfl,λw=>by kernel_rfl⟩
theorem LX:ag Tryz.prog 52:=ag.of Tryz.func52 (by kernel_rfl) (by kernel_rfl)
theorem jd:dk Tryz.prog 65 1 false:=⟨λw=>by kernel_rfl,λw=>by kernel_rfl⟩
theorem N9:ag Tryz.prog 73:=ag.of Tryz.func73 (by kernel_rfl) (by kernel_rfl)
theorem u7:dk Tryz.prog 74 1 false:=⟨λw=>by kernel_rfl,λw=>by kernel_rfl⟩
theorem F9:nu Tryz.prog 74 65 1 1:=.of (z:=(.int .u8 (0))) Tryz.underlying74 (by kernel_rfl) rfl rfl rfl
theorem LP:ag Tryz.prog 79:=ag.of Tryz.func79 (by kernel_rfl) (by kernel_rfl)
theorem Es:ag Tryz.prog 36:=ag.of Tryz.func36 (by kernel_rfl) (by kernel_rfl)
theorem A6:ag Tryz.prog 37:=ag.of Tryz.func37 (by kernel_rfl) (by kernel_rfl)
theorem sb:∀w,(zeroValue 43).run Tryz.prog w= .ok (.agg #[(.int .i64 (0)),(.int .i64 (0))]) w:=λw=>by kernel_rfl
theorem HD:∀S w,(A.cells S w (.agg (.pair (.eq (.int .i64 (0:Int))) (.eq (.int .i64 (0:Int))))) (Value.cells (.agg #[(.int .i64 (0)),(.int .i64 (0))])).toList):=λ_ _=>⟨[_],_,rfl,⟨rfl,rfl⟩,⟨rfl,rfl⟩⟩
theorem rQ:ag Tryz.prog 38:=ag.of Tryz.func38 (by kernel_rfl) (by kernel_rfl)
theorem yt:xW Tryz.prog 43 #[(0,1),(1,1)]:=⟨_,Tryz.underlying43,λ_=>by kernel_rfl⟩
theorem tc:∀S w,(A.cells S w (.pair (.eq (.int .i64 (0:Int))) (.eq (.int .i64 (0:Int)))) (Value.cells (.agg #[(.int .i64 (0)),(.int .i64 (0))])).toList):=λ_ _=>⟨[_],_,rfl,⟨rfl,rfl⟩,⟨rfl,rfl⟩⟩
theorem pB:dk Tryz.prog 43 2 true:=⟨λw=>by kernel_rfl,λw=>by kernel_rfl⟩
theorem JJ:ag Tryz.prog 42:=ag.of Tryz.func42 (by kernel_rfl) (by kernel_rfl)
theorem LZ:ag Tryz.prog 43:=ag.of Tryz.func43 (by kernel_rfl) (by kernel_rfl)
theorem Oj:ag Tryz.prog 44:=ag.of Tryz.func44 (by kernel_rfl) (by kernel_rfl)
theorem wh:∀w,(zeroValue 86).run Tryz.prog w= .ok (.agg #[(.int .i64 (0)),(.int .i64 (0))]) w:=λw=>by kernel_rfl
theorem EI:∀S w,(A.cells S w (.agg (.pair (.eq (.int .i64 (0:Int))) (.eq (.int .i64 (0:Int))))) (Value.cells (.agg #[(.int .i64 (0)),(.int .i64 (0))])).toList):=λ_ _=>⟨[_],_,rfl,⟨rfl,rfl⟩,⟨rfl,rfl⟩⟩
theorem yO:bj Tryz.prog 86 0 0:=bj.of (by kernel_rfl)
theorem Jz:bj Tryz.prog 86 1 1:=bj.of (by kernel_rfl)
theorem mK:dk Tryz.prog 86 2 true:=⟨λw=>by kernel_rfl,λw=>by kernel_rfl⟩
theorem Jg:xW Tryz.prog 86 #[(0,1),(1,1)]:=⟨_,Tryz.underlying86,λ_=>by kernel_rfl⟩
theorem EG:∀S w,(A.cells S w (.pair (.eq (.int .i64 (0:Int))) (.eq (.int .i64 (0:Int)))) (Value.cells (.agg #[(.int .i64 (0)),(.int .i64 (0))])).toList):=λ_ _=>⟨[_],_,rfl,⟨rfl,rfl⟩,⟨rfl,rfl⟩⟩
theorem Oi:ag Tryz.prog 46:=ag.of Tryz.func46 (by kernel_rfl) (by kernel_rfl)
theorem N5:H3 Tryz.prog 86 bJ:=by
 refine⟨rfl,by kernel_rfl,λw x y=>?_⟩;have u3:=Tryz.underlying3;have a3:=Tryz.isAgg3;have z3:=Tryz.sizeOf3;have hS:Tryz.prog.underlying 86=some (.struct (Tryz.prog.fieldsOf 86)):=by kernel_rfl
 have hp:Tryz.prog.stoodInHeld 86=false:=by kernel_rfl
 rw [show(10000:Nat)=9999+1 from rfl,run_equalIn_agg w 9999 86 _ _ hS hp];simp only [Program.fieldsOf,Tryz.underlying86,qc];refine⟨decide (x=y),?_,decide_eq_true_iff⟩;go_simp;obtain⟨p0,p1⟩:=x;obtain⟨q0,q1⟩:=y;by_cases h0:p0=q0 <;> by_cases h1:p1=q1 <;> simp [h0,h1]
theorem Oh:ag Tryz.prog 47:=ag.of Tryz.func47 (by kernel_rfl) (by kernel_rfl)
theorem s5:ag Tryz.prog 12:=ag.of Tryz.func12 (by kernel_rfl) (by kernel_rfl)
theorem FW:dk Tryz.prog 80 1 false:=⟨λw=>by kernel_rfl,λw=>by kernel_rfl⟩
theorem LV:ag Tryz.prog 57:=ag.of Tryz.func57 (by kernel_rfl) (by kernel_rfl)
theorem L0:ag Tryz.prog 40:=ag.of Tryz.func40 (by kernel_rfl) (by kernel_rfl)
theorem LS:ag Tryz.prog 75:=ag.of Tryz.func75 (by kernel_rfl) (by kernel_rfl)
theorem LU:ag Tryz.prog 74:=ag.of Tryz.func74 (by kernel_rfl) (by kernel_rfl)
theorem Oc:ag Tryz.prog 55:=ag.of Tryz.func55 (by kernel_rfl) (by kernel_rfl)
theorem Oe:ag Tryz.prog 54:=ag.of Tryz.func54 (by kernel_rfl) (by kernel_rfl)
theorem N7:ag Tryz.prog 81:=ag.of Tryz.func81 (by kernel_rfl) (by kernel_rfl)
theorem LW:ag Tryz.prog 53:=ag.of Tryz.func53 (by kernel_rfl) (by kernel_rfl)
theorem IF:∀w,(zeroValue 64).run Tryz.prog w= .ok (.pointer none) w:=λw=>by kernel_rfl
theorem J4:∀S w,(A.cells S w (.eq (.pointer none)) (Value.cells (.pointer none)).toList):=λ_ _=>⟨rfl,rfl⟩
theorem Ob:ag Tryz.prog 56:=ag.of Tryz.func56 (by kernel_rfl) (by kernel_rfl)
theorem L1:ag Tryz.prog 39:=ag.of Tryz.func39 (by kernel_rfl) (by kernel_rfl)
theorem qd:ag Tryz.prog 5:=ag.of Tryz.func5 (by kernel_rfl) (by kernel_rfl)
theorem N6:ag Tryz.prog 9:=ag.of Tryz.func9 (by kernel_rfl) (by kernel_rfl)
theorem JQ:ag Tryz.prog 10:=ag.of Tryz.func10 (by kernel_rfl) (by kernel_rfl)
theorem JM:ag Tryz.prog 14:=ag.of Tryz.func14 (by kernel_rfl) (by kernel_rfl)
theorem Me:ag Tryz.prog 16:=ag.of Tryz.func16 (by kernel_rfl) (by kernel_rfl)
theorem JK:ag Tryz.prog 20:=ag.of Tryz.func20 (by kernel_rfl) (by kernel_rfl)
theorem L8:ag Tryz.prog 21:=ag.of Tryz.func21 (by kernel_rfl) (by kernel_rfl)
theorem JF:H3 Tryz.prog 43 bJ:=by
 refine⟨rfl,by kernel_rfl,λw x y=>?_⟩;have u3:=Tryz.underlying3;have a3:=Tryz.isAgg3;have z3:=Tryz.sizeOf3;have hS:Tryz.prog.underlying 43=some (.struct (Tryz.prog.fieldsOf 43)):=by kernel_rfl
 have hp:Tryz.prog.stoodInHeld 43=false:=by kernel_rfl
 rw [show(10000:Nat)=9999+1 from rfl,run_equalIn_agg w 9999 43 _ _ hS hp];simp only [Program.fieldsOf,Tryz.underlying43,qc];refine⟨decide (x=y),?_,decide_eq_true_iff⟩;go_simp;obtain⟨p0,p1⟩:=x;obtain⟨q0,q1⟩:=y;by_cases h0:p0=q0 <;> by_cases h1:p1=q1 <;> simp [h0,h1]
theorem JL:ag Tryz.prog 19:=ag.of Tryz.func19 (by kernel_rfl) (by kernel_rfl)
theorem Ol:ag Tryz.prog 41:=ag.of Tryz.func41 (by kernel_rfl) (by kernel_rfl)
theorem K0:dk Tryz.prog 129 1 false:=⟨λw=>by kernel_rfl,λw=>by kernel_rfl⟩
theorem CM:dk Tryz.prog 130 1 false:=⟨λw=>by kernel_rfl,λw=>by kernel_rfl⟩
theorem LQ:ag Tryz.prog 78:=ag.of Tryz.func78 (by kernel_rfl) (by kernel_rfl)
theorem KO:∀w,(zeroValue 130).run Tryz.prog w= .ok .nilFunc w:=λw=>by kernel_rfl
theorem MM:∀S w,(A.cells S w (.eq .nilFunc) (Value.cells .nilFunc).toList):=λ_ _=>⟨rfl,rfl⟩
theorem NA:∀w,(zeroValue 27).run Tryz.prog w= .ok (.slice none 0 0) w:=λw=>by kernel_rfl
theorem Ov:∀S w,(A.cells S w (.eq (.slice none 0 0)) (Value.cells (.slice none 0 0)).toList):=λ_ _=>⟨rfl,rfl⟩
theorem Nz:∀w,(zeroValue 30).run Tryz.prog w= .ok (.int .i64 (0)) w:=λw=>by kernel_rfl
theorem Ou:∀S w,(A.cells S w (.eq (.int .i64 (0:Int))) (Value.cells (.int .i64 (0))).toList):=λ_ _=>⟨rfl,rfl⟩
theorem AI:dk Tryz.prog 30 1 false:=⟨λw=>by kernel_rfl,λw=>by kernel_rfl⟩
theorem OH:∀w,(zeroValue 3).run Tryz.prog w= .ok (.int .i64 (0)) w:=λw=>by kernel_rfl
theorem OQ:∀S w,(A.cells S w (.eq (.int .i64 (0:Int))) (Value.cells (.int .i64 (0))).toList):=λ_ _=>⟨rfl,rfl⟩
theorem Og:ag Tryz.prog 48:=ag.of Tryz.func48 (by kernel_rfl) (by kernel_rfl)
theorem N8:ag Tryz.prog 77:=ag.of Tryz.func77 (by kernel_rfl) (by kernel_rfl)
theorem Of:ag Tryz.prog 49:=ag.of Tryz.func49 (by kernel_rfl) (by kernel_rfl)
theorem O1:ag Tryz.prog 6:=ag.of Tryz.func6 (by kernel_rfl) (by kernel_rfl)
theorem MG:ag Tryz.prog 11:=ag.of Tryz.func11 (by kernel_rfl) (by kernel_rfl)
theorem JP:ag Tryz.prog 13:=ag.of Tryz.func13 (by kernel_rfl) (by kernel_rfl)
theorem On:ag Tryz.prog 15:=ag.of Tryz.func15 (by kernel_rfl) (by kernel_rfl)
theorem Mc:ag Tryz.prog 17:=ag.of Tryz.func17 (by kernel_rfl) (by kernel_rfl)
theorem L9:ag Tryz.prog 18:=ag.of Tryz.func18 (by kernel_rfl) (by kernel_rfl)
abbrev Rs(t:Ty)(l:(Ty.slice t).den):A:=.rep (.slice t) l
abbrev Pv(b:Nat):Value:=.pointer (some ⟨b,0,none⟩)
abbrev OA:= @Tryz.underlying102
abbrev MO:= @Tryz.underlying111
abbrev Oz:= @Tryz.underlying150
abbrev Oy:= @Tryz.underlying152
abbrev Kp:= @Tryz.underlying153
abbrev Ox:= @Tryz.underlying158
abbrev Bo:= @Tryz.underlying22
abbrev FA:= @Tryz.underlying23
abbrev jp:= @Tryz.underlying27
abbrev vT:= @Tryz.underlying28
abbrev U3:= @Tryz.underlying3
abbrev U4:= @Tryz.underlying4
abbrev U5:= @Tryz.underlying5
abbrev yd:= @Tryz.underlying69
abbrev EO:= @Tryz.underlying71
abbrev ql:= @Tryz.underlying74
abbrev O4:= @Tryz.underlying86
abbrev KI:= @Tryz.underlying87
abbrev U9:= @Tryz.underlying9
theorem rM:false=false->1=1:=λ_=>rfl
