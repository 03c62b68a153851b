import Derived.Test.YtddkbkkogpolaaaGreatVDB5
import Derived.Test.YtddkbkkogpolaaaGreatProg
open Nat
open List hiding mem_of_getElem?
open Array hiding mem_of_getElem? mk
set_option linter.unusedVariables false
set_option linter.unusedSimpArgs false
namespace Go.Proofs.YtddkbkkogpolaaaGreat
open K Go Go.Proofs
@[reducible] def Ti:Ty:=.int .i64
@[reducible] def Tl:Ty:=.slice Ti
@[reducible] def Tr:Ty:=.arr 5 Ti
theorem eO:Tryz.prog.follows .mixedOrders=true:=by kernel_rfl
theorem qR{n:Nat}:true=false->n=1:=λh=>nomatch h
def K3:ByteArray:=⟨#[0,1,2,2,3,3,3,3,4,4,4,4,4,4,4,4,5,5,5,5,5,5,5,5,5,5,5,5,5,5,5,5,6,6,6,6,6,6,6,6,6,6,6,6,6,6,6,6,6,6,6,6,6,6,6,6,6,6,6,6,6,6,6,6,7,7,7,7,7,7,7,7,7,7,7,7,7,7,7,7,7,7,7,7,7,7,7,7,7,7,7,7,7,7,7,7,7,7,7,7,7,7,7,7,7,7,7,7,7,7,7,7,7,7,7,7,7,7,7,7,7,7,7,7,7,7,7,7,8,8,8,8,8,8,8,8,8,8,8,8,8,8,8,8,8,8,8,8,8,8,8,8,8,8,8,8,8,8,8,8,8,8,8,8,8,8,8,8,8,8,8,8,8,8,8,8,8,8,8,8,8,8,8,8,8,8,8,8,8,8,8,8,8,8,8,8,8,8,8,8,8,8,8,8,8,8,8,8,8,8,8,8,8,8,8,8,8,8,8,8,8,8,8,8,8,8,8,8,8,8,8,8,8,8,8,8,8,8,8,8,8,8,8,8,8,8,8,8,8,8,8,8,8,8,8,8]⟩
@[reducible] def bf:Ty:=.agg (.pair (.int .i64) (.pair (.int .i64) .bool))
abbrev bI:=(Int×(Int×Bool))
@[reducible] def ao:Ty:=.agg (.pair (.int .i64) (.pair (.int .i64) (.pair (.int .i64) (.pair (.int .i64) (.pair (.slice (.slice (.slice (.int .i64)))) (.slice bf))))))
abbrev ae:=(Int×(Int×(Int×(Int×((List (List (List Int)))×(List bI))))))
@[reducible] def bD:Ty:=.agg (.pair (.int .i64) (.int .i64))
abbrev fj:=(Int×Int)
@[reducible] def Uk:Ty:=.agg (.pair (.slice (.int .i64)) (.pair (.int .i64) (.int .u64)))
abbrev bM:=((List Int)×(Int×Int))
@[reducible] def P9:Ty:=.agg (.int .i64)
abbrev Nr:=Int
@[reducible] def P8:Ty:=.agg (.slice (.int .i64))
abbrev Nq:=(List Int)
@[reducible] def CB:Ty:=.agg (.pair (.int .i64) (.pair (.int .i64) (.pair (.int .i64) (.pair (.int .i64) (.pair (.slice (.slice (.slice (.int .i64)))) .ign)))))
abbrev yf:=(Int×(Int×(Int×(Int×((List (List (List Int)))×Unit)))))
@[reducible] def Gj:Ty:=bD
abbrev eQ:=fj
theorem sJ:aS Tryz.prog 71 2 2:=aS.of (by kernel_rfl)
theorem Eh:ek Tryz.prog 69 1 false:=⟨λw=>by kernel_rfl,λw=>by kernel_rfl⟩
theorem xZ:aS Tryz.prog 71 1 1:=aS.of (by kernel_rfl)
theorem cM:ek Tryz.prog 3 1 false:=⟨λw=>by kernel_rfl,λw=>by kernel_rfl⟩
theorem H9:aS Tryz.prog 71 0 0:=aS.of (by kernel_rfl)
theorem iQ:ek Tryz.prog 22 1 false:=⟨λw=>by kernel_rfl,λw=>by kernel_rfl⟩
theorem TD:ah Tryz.prog 60:=ah.of Tryz.func60 (by kernel_rfl) (by kernel_rfl)
theorem vI:ah Tryz.prog 26:=ah.of Tryz.func26 (by kernel_rfl) (by kernel_rfl)
theorem Ea:∀w,(zeroValue 47).run Tryz.prog w= .ok (.agg #[(.int .i64 (0)),(.int .i64 (0)),(.bool false)]) w:=λw=>by kernel_rfl
theorem LP:∀S w,(A.cells S w (.agg (.pair (.eq (.int .i64 (0:Int))) (.pair (.eq (.int .i64 (0:Int))) (.eq (.bool false))))) (Value.cells (.agg #[(.int .i64 (0)),(.int .i64 (0)),(.bool false)])).toList):=λ_ _=>⟨[_],_,rfl,⟨rfl,rfl⟩,⟨[_],_,rfl,⟨rfl,rfl⟩,⟨rfl,rfl⟩⟩⟩
theorem gp:aS Tryz.prog 26 0 0:=aS.of (by kernel_rfl)
theorem eh:aS Tryz.prog 26 4 4:=aS.of (by kernel_rfl)
theorem kD:ek Tryz.prog 23 1 false:=⟨λw=>by kernel_rfl,λw=>by kernel_rfl⟩
theorem OW:ah Tryz.prog 52:=ah.of Tryz.func52 (by kernel_rfl) (by kernel_rfl)
theorem Qg:yA Tryz.prog 47 #[(0,1),(1,1),(2,1)]:=⟨_,Tryz.underlying47,λ_=>by kernel_rfl⟩
theorem Nw:∀S w,(A.cells S w (.pair (.eq (.int .i64 (0:Int))) (.pair (.eq (.int .i64 (0:Int))) (.eq (.bool false)))) (Value.cells (.agg #[(.int .i64 (0)),(.int .i64 (0)),(.bool false)])).toList):=λ_ _=>⟨[_],_,rfl,⟨rfl,rfl⟩,⟨[_],_,rfl,⟨rfl,rfl⟩,⟨rfl,rfl⟩⟩⟩
theorem tV:ek Tryz.prog 47 3 true:=⟨λw=>by kernel_rfl,λw=>by kernel_rfl⟩
theorem dT:px Tryz.prog 22 3 1 8:=.of (z:=(.int .i64 (0))) Tryz.underlying22 (by kernel_rfl) rfl rfl rfl
theorem Tm:ah Tryz.prog 89:=ah.of Tryz.func89 (by kernel_rfl) (by kernel_rfl)
theorem nE:px Tryz.prog 30 22 1 24:=.of (z:=(.slice none 0 0)) Tryz.underlying30 (by kernel_rfl) rfl rfl rfl
theorem Ln:ah Tryz.prog 57:=ah.of Tryz.func57 (by kernel_rfl) (by kernel_rfl)
theorem PX:∀i z,Tryz.prog.info? 22=some i->i.zero=some z->∀S w,rd S w .val (.slice none 0 0) z.cells.toList:=FD (t:=.val) (z0:=(.slice none 0 0)) (by kernel_rfl) λ_ _=>⟨rfl,rfl⟩
theorem Tj:ah Tryz.prog 90:=ah.of Tryz.func90 (by kernel_rfl) (by kernel_rfl)
theorem yD:∀w,(zeroValue 26).run Tryz.prog w= .ok (.agg #[(.int .i64 (0)),(.int .i64 (0)),(.int .i64 (0)),(.int .i64 (0)),(.slice none 0 0),(.slice none 0 0)]) w:=λw=>by kernel_rfl
theorem E6:∀S w,(A.cells S w (.agg (.pair (.eq (.int .i64 (0:Int))) (.pair (.eq (.int .i64 (0:Int))) (.pair (.eq (.int .i64 (0:Int))) (.pair (.eq (.int .i64 (0:Int))) (.pair (.eq (.slice none 0 0)) (.eq (.slice none 0 0)))))))) (Value.cells (.agg #[(.int .i64 (0)),(.int .i64 (0)),(.int .i64 (0)),(.int .i64 (0)),(.slice none 0 0),(.slice none 0 0)])).toList):=λ_ _=>⟨[_],_,rfl,⟨rfl,rfl⟩,⟨[_],_,rfl,⟨rfl,rfl⟩,⟨[_],_,rfl,⟨rfl,rfl⟩,⟨[_],_,rfl,⟨rfl,rfl⟩,⟨[_],_,rfl,⟨rfl,rfl⟩,⟨rfl,rfl⟩⟩⟩⟩⟩⟩
theorem OU:ah Tryz.prog 58:=ah.of Tryz.func58 (by kernel_rfl) (by kernel_rfl)
theorem Qh:yA Tryz.prog 26 #[(0,1),(1,1),(2,1),(3,1),(4,1),(5,1)]:=⟨_,Tryz.underlying26,λ_=>by kernel_rfl⟩
theorem Nx:∀S w,(A.cells S w (.pair (.eq (.int .i64 (0:Int))) (.pair (.eq (.int .i64 (0:Int))) (.pair (.eq (.int .i64 (0:Int))) (.pair (.eq (.int .i64 (0:Int))) (.pair (.eq (.slice none 0 0)) (.eq (.slice none 0 0))))))) (Value.cells (.agg #[(.int .i64 (0)),(.int .i64 (0)),(.int .i64 (0)),(.int .i64 (0)),(.slice none 0 0),(.slice none 0 0)])).toList):=λ_ _=>⟨[_],_,rfl,⟨rfl,rfl⟩,⟨[_],_,rfl,⟨rfl,rfl⟩,⟨[_],_,rfl,⟨rfl,rfl⟩,⟨[_],_,rfl,⟨rfl,rfl⟩,⟨[_],_,rfl,⟨rfl,rfl⟩,⟨rfl,rfl⟩⟩⟩⟩⟩⟩
theorem hJ:ek Tryz.prog 26 6 true:=⟨λw=>by kernel_rfl,λw=>by kernel_rfl⟩
theorem TF:ah Tryz.prog 59:=ah.of Tryz.func59 (by kernel_rfl) (by kernel_rfl)
theorem xh:px Tryz.prog 23 30 1 24:=.of (z:=(.slice none 0 0)) Tryz.underlying23 (by kernel_rfl) rfl rfl rfl
theorem te:ek Tryz.prog 30 1 false:=⟨λw=>by kernel_rfl,λw=>by kernel_rfl⟩
theorem TJ:ah Tryz.prog 53:=ah.of Tryz.func53 (by kernel_rfl) (by kernel_rfl)
theorem TR:ah Tryz.prog 23:=ah.of Tryz.func23 (by kernel_rfl) (by kernel_rfl)
theorem uL:aS Tryz.prog 26 5 5:=aS.of (by kernel_rfl)
theorem Gs:ek Tryz.prog 24 1 false:=⟨λw=>by kernel_rfl,λw=>by kernel_rfl⟩
theorem TS:ah Tryz.prog 18:=ah.of Tryz.func18 (by kernel_rfl) (by kernel_rfl)
theorem JX:px Tryz.prog 24 47 3 24:=.of (z:=(.agg #[(.int .i64 (0)),(.int .i64 (0)),(.bool false)])) Tryz.underlying24 (by kernel_rfl) rfl rfl rfl
theorem SH:yA Tryz.prog 71 #[(0,1),(1,1),(2,1)]:=⟨_,Tryz.underlying71,λ_=>by kernel_rfl⟩
theorem SA:∀w,(zeroValue 71).run Tryz.prog w= .ok (.agg #[(.slice none 0 0),(.int .i64 (0)),(.int .u64 (0))]) w:=λw=>by kernel_rfl
theorem Rt:∀S w,(A.cells S w (.pair (.eq (.slice none 0 0)) (.pair (.eq (.int .i64 (0:Int))) (.eq (.int .u64 (0:Int))))) (Value.cells (.agg #[(.slice none 0 0),(.int .i64 (0)),(.int .u64 (0))])).toList):=λ_ _=>⟨[_],_,rfl,⟨rfl,rfl⟩,⟨[_],_,rfl,⟨rfl,rfl⟩,⟨rfl,rfl⟩⟩⟩
theorem Ib:aS Tryz.prog 47 0 0:=aS.of (by kernel_rfl)
theorem ye:ah Tryz.prog 71:=ah.of Tryz.func71 (by kernel_rfl) (by kernel_rfl)
theorem Ia:aS Tryz.prog 47 1 1:=aS.of (by kernel_rfl)
theorem Ij:ah Tryz.prog 75:=ah.of Tryz.func75 (by kernel_rfl) (by kernel_rfl)
theorem OT:ah Tryz.prog 62:=ah.of Tryz.func62 (by kernel_rfl) (by kernel_rfl)
theorem BG:aS Tryz.prog 26 1 1:=aS.of (by kernel_rfl)
theorem BF:aS Tryz.prog 26 2 2:=aS.of (by kernel_rfl)
theorem Ic:aS Tryz.prog 26 3 3:=aS.of (by kernel_rfl)
theorem Rn:ah Tryz.prog 101:=ah.of Tryz.func101 (by kernel_rfl) (by kernel_rfl)
theorem TG:ah Tryz.prog 54:=ah.of Tryz.func54 (by kernel_rfl) (by kernel_rfl)
theorem Jl:∀w,(zeroValue 80).run Tryz.prog w= .ok (.agg #[(.int .i64 (0)),(.int .i64 (0)),(.int .i64 (0)),(.int .i64 (0)),(.int .i64 (0))]) w:=λw=>by kernel_rfl
theorem LN:∀S w,(A.cells S w (.rep (.arr 5 (.int .i64)) [(0:Int),(0:Int),(0:Int),(0:Int),(0:Int)]) (Value.cells (.agg #[(.int .i64 (0)),(.int .i64 (0)),(.int .i64 (0)),(.int .i64 (0)),(.int .i64 (0))])).toList):=λ_ _=>⟨rfl,⟨[_],_,rfl,rfl,⟨[_],_,rfl,rfl,⟨[_],_,rfl,rfl,⟨[_],_,rfl,rfl,⟨[_],_,rfl,rfl,rfl⟩⟩⟩⟩⟩⟩
theorem gY:aS Tryz.prog 125 0 0:=aS.of (by kernel_rfl)
theorem iP:ek Tryz.prog 80 5 true:=⟨λw=>by kernel_rfl,λw=>by kernel_rfl⟩
theorem Nj:ah Tryz.prog 172:=ah.of Tryz.func172 (by kernel_rfl) (by kernel_rfl)
theorem Q5:ah Tryz.prog 162:=ah.of Tryz.func162 (by kernel_rfl) (by kernel_rfl)
theorem Q4:ah Tryz.prog 166:=ah.of Tryz.func166 (by kernel_rfl) (by kernel_rfl)
theorem Q6:ah Tryz.prog 156:=ah.of Tryz.func156 (by kernel_rfl) (by kernel_rfl)
theorem Q7:ah Tryz.prog 155:=ah.of Tryz.func155 (by kernel_rfl) (by kernel_rfl)
theorem Q8:ah Tryz.prog 154:=ah.of Tryz.func154 (by kernel_rfl) (by kernel_rfl)
theorem QY:ah Tryz.prog 82:=ah.of Tryz.func82 (by kernel_rfl) (by kernel_rfl)
theorem Rb:ah Tryz.prog 140:=ah.of Tryz.func140 (by kernel_rfl) (by kernel_rfl)
theorem Qi:yA Tryz.prog 166 #[(0,1)]:=⟨_,Tryz.underlying166,λ_=>by kernel_rfl⟩
theorem MN:∀w,(zeroValue 166).run Tryz.prog w= .ok (.agg #[(.slice none 0 0)]) w:=λw=>by kernel_rfl
theorem O8:∀S w,(A.cells S w (.eq (.slice none 0 0)) (Value.cells (.agg #[(.slice none 0 0)])).toList):=λ_ _=>⟨rfl,rfl⟩
theorem Ik:ah Tryz.prog 112:=ah.of Tryz.func112 (by kernel_rfl) (by kernel_rfl)
theorem Gk:IN Tryz.prog 164 (.agg #[.int .i64 0]):=⟨⟨_,Tryz.underlying164⟩,λw=>by kernel_rfl⟩
theorem FH:∀w,(zeroValue 164).run Tryz.prog w= .ok (.agg #[(.int .i64 (0))]) w:=λw=>by kernel_rfl
theorem Ny:∀S w,(A.cells S w (.agg (.eq (.int .i64 (0:Int)))) (Value.cells (.agg #[(.int .i64 (0))])).toList):=λ_ _=>⟨rfl,rfl⟩
theorem M4:ek Tryz.prog 164 1 true:=⟨λw=>by kernel_rfl,λw=>by kernel_rfl⟩
theorem Dj:aS Tryz.prog 164 0 0:=aS.of (by kernel_rfl)
theorem Qj:yA Tryz.prog 164 #[(0,1)]:=⟨_,Tryz.underlying164,λ_=>by kernel_rfl⟩
theorem O9:∀S w,(A.cells S w (.eq (.int .i64 (0:Int))) (Value.cells (.agg #[(.int .i64 (0))])).toList):=λ_ _=>⟨rfl,rfl⟩
theorem Le:aS Tryz.prog 166 0 0:=aS.of (by kernel_rfl)
theorem vC:DU Tryz.prog 164 "galloon/moth.beside" 190:=λu w=>by kernel_rfl
theorem vB:DU Tryz.prog 166 "galloon/moth.beside" 191:=λu w=>by kernel_rfl
theorem NV:IN Tryz.prog 166 (.agg #[.slice none 0 0]):=⟨⟨_,Tryz.underlying166⟩,λw=>by kernel_rfl⟩
theorem Ru:∀S w,(A.cells S w (.agg (.eq (.slice none 0 0))) (Value.cells (.agg #[(.slice none 0 0)])).toList):=λ_ _=>⟨rfl,rfl⟩
theorem Qa:ek Tryz.prog 166 1 true:=⟨λw=>by kernel_rfl,λw=>by kernel_rfl⟩
theorem Nk:ah Tryz.prog 113:=ah.of Tryz.func113 (by kernel_rfl) (by kernel_rfl)
theorem TC:ah Tryz.prog 70:=ah.of Tryz.func70 (by kernel_rfl) (by kernel_rfl)
theorem PZ:∀w,(zeroValue 112).run Tryz.prog w= .ok (.agg #[.int .i64 0,.int .i64 0,.int .i64 0]) w:=λw=>by kernel_rfl
theorem Lp:ah Tryz.prog 56:=ah.of Tryz.func56 (by kernel_rfl) (by kernel_rfl)
theorem TB:ah Tryz.prog 72:=ah.of Tryz.func72 (by kernel_rfl) (by kernel_rfl)
theorem Qb:ek Tryz.prog 137 1 false:=⟨λw=>by kernel_rfl,λw=>by kernel_rfl⟩
theorem Gt:ek Tryz.prog 136 1 false:=⟨λw=>by kernel_rfl,λw=>by kernel_rfl⟩
theorem Nn:ah Tryz.prog 107:=ah.of Tryz.func107 (by kernel_rfl) (by kernel_rfl)
theorem P0:∀w,(zeroValue 136).run Tryz.prog w= .ok .nilFunc w:=λw=>by kernel_rfl
theorem Rw:∀S w,(A.cells S w (.eq .nilFunc) (Value.cells .nilFunc).toList):=λ_ _=>⟨rfl,rfl⟩
theorem BM:ah Tryz.prog 40:=ah.of Tryz.func40 (by kernel_rfl) (by kernel_rfl)
theorem FG:∀w,(zeroValue 82).run Tryz.prog w= .ok (.agg #[(.int .i64 (0)),(.int .i64 (0)),(.int .i64 (0)),(.int .i64 (0)),(.int .i64 (0)),(.int .i64 (0)),(.int .i64 (0)),(.int .i64 (0)),(.int .i64 (0)),(.int .i64 (0)),(.int .i64 (0)),(.int .i64 (0)),(.int .i64 (0)),(.int .i64 (0)),(.int .i64 (0)),(.int .i64 (0)),(.int .i64 (0)),(.int .i64 (0)),(.int .i64 (0)),(.int .i64 (0)),(.int .i64 (0)),(.int .i64 (0)),(.int .i64 (0)),(.int .i64 (0)),(.int .i64 (0)),(.int .i64 (0)),(.int .i64 (0)),(.int .i64 (0)),(.int .i64 (0)),(.int .i64 (0)),(.int .i64 (0)),(.int .i64 (0)),(.int .i64 (0)),(.int .i64 (0)),(.int .i64 (0))]) w:=λw=>by kernel_rfl
theorem IE:∀S w,(A.cells S w (.rep (.arr 7 (.arr 5 (.int .i64))) [[(0:Int),(0:Int),(0:Int),(0:Int),(0:Int)],[(0:Int),(0:Int),(0:Int),(0:Int),(0:Int)],[(0:Int),(0:Int),(0:Int),(0:Int),(0:Int)],[(0:Int),(0:Int),(0:Int),(0:Int),(0:Int)],[(0:Int),(0:Int),(0:Int),(0:Int),(0:Int)],[(0:Int),(0:Int),(0:Int),(0:Int),(0:Int)],[(0:Int),(0:Int),(0:Int),(0:Int),(0:Int)]]) (Value.cells (.agg #[(.int .i64 (0)),(.int .i64 (0)),(.int .i64 (0)),(.int .i64 (0)),(.int .i64 (0)),(.int .i64 (0)),(.int .i64 (0)),(.int .i64 (0)),(.int .i64 (0)),(.int .i64 (0)),(.int .i64 (0)),(.int .i64 (0)),(.int .i64 (0)),(.int .i64 (0)),(.int .i64 (0)),(.int .i64 (0)),(.int .i64 (0)),(.int .i64 (0)),(.int .i64 (0)),(.int .i64 (0)),(.int .i64 (0)),(.int .i64 (0)),(.int .i64 (0)),(.int .i64 (0)),(.int .i64 (0)),(.int .i64 (0)),(.int .i64 (0)),(.int .i64 (0)),(.int .i64 (0)),(.int .i64 (0)),(.int .i64 (0)),(.int .i64 (0)),(.int .i64 (0)),(.int .i64 (0)),(.int .i64 (0))])).toList):=λ_ _=>⟨rfl,⟨[_,_,_,_,_],_,rfl,⟨rfl,⟨[_],_,rfl,rfl,⟨[_],_,rfl,rfl,⟨[_],_,rfl,rfl,⟨[_],_,rfl,rfl,⟨[_],_,rfl,rfl,rfl⟩⟩⟩⟩⟩⟩,⟨[_,_,_,_,_],_,rfl,⟨rfl,⟨[_],_,rfl,rfl,⟨[_],_,rfl,rfl,⟨[_],_,rfl,rfl,⟨[_],_,rfl,rfl,⟨[_],_,rfl,rfl,rfl⟩⟩⟩⟩⟩⟩,⟨[_,_,_,_,_],_,rfl,⟨rfl,⟨[_],_,rfl,rfl,⟨[_],_,rfl,rfl,⟨[_],_,rfl,rfl,⟨[_],_,rfl,rfl,⟨[_],_,rfl,rfl,rfl⟩⟩⟩⟩⟩⟩,⟨[_,_,_,_,_],_,rfl,⟨rfl,⟨[_],_,rfl,rfl,⟨[_],_,rfl,rfl,⟨[_],_,rfl,rfl,⟨[_],_,rfl,rfl,⟨[_],_,rfl,rfl,rfl⟩⟩⟩⟩⟩⟩,⟨[_,_,_,_,_],_,rfl,⟨rfl,⟨[_],_,rfl,rfl,⟨[_],_,rfl,rfl,⟨[_],_,rfl,rfl,⟨[_],_,rfl,rfl,⟨[_],_,rfl,rfl,rfl⟩⟩⟩⟩⟩⟩,⟨[_,_,_,_,_],_,rfl,⟨rfl,⟨[_],_,rfl,rfl,⟨[_],_,rfl,rfl,⟨[_],_,rfl,rfl,⟨[_],_,rfl,rfl,⟨[_],_,rfl,rfl,rfl⟩⟩⟩⟩⟩⟩,⟨[_,_,_,_,_],_,rfl,⟨rfl,⟨[_],_,rfl,rfl,⟨[_],_,rfl,rfl,⟨[_],_,rfl,rfl,⟨[_],_,rfl,rfl,⟨[_],_,rfl,rfl,rfl⟩⟩⟩⟩⟩⟩,rfl⟩⟩⟩⟩⟩⟩⟩⟩
theorem Gq:ek Tryz.prog 82 35 true:=⟨λw=>by kernel_rfl,λw=>by kernel_rfl⟩
theorem OP:aS Tryz.prog 47 2 2:=aS.of (by kernel_rfl)
theorem Uz:ek Tryz.prog 4 1 false:=⟨λw=>by kernel_rfl,λw=>by kernel_rfl⟩
theorem PY:∀w,(zeroValue 156).run Tryz.prog w= .ok (.agg #[]) w:=λw=>by kernel_rfl
theorem Jm:∀w,(zeroValue 76).run Tryz.prog w= .ok (.slice none 0 0) w:=λw=>by kernel_rfl
theorem LO:∀S w,(A.cells S w (.eq (.slice none 0 0)) (Value.cells (.slice none 0 0)).toList):=λ_ _=>⟨rfl,rfl⟩
theorem JH:ek Tryz.prog 72 1 false:=⟨λw=>by kernel_rfl,λw=>by kernel_rfl⟩
theorem QZ:ah Tryz.prog 73:=ah.of Tryz.func73 (by kernel_rfl) (by kernel_rfl)
theorem nP:ek Tryz.prog 73 1 false:=⟨λw=>by kernel_rfl,λw=>by kernel_rfl⟩
theorem TA:ah Tryz.prog 74:=ah.of Tryz.func74 (by kernel_rfl) (by kernel_rfl)
theorem xf:ek Tryz.prog 76 1 false:=⟨λw=>by kernel_rfl,λw=>by kernel_rfl⟩
theorem JW:px Tryz.prog 76 73 1 1:=.of (z:=(.int .u8 (0))) Tryz.underlying76 (by kernel_rfl) rfl rfl rfl
theorem Np:ah Tryz.prog 106:=ah.of Tryz.func106 (by kernel_rfl) (by kernel_rfl)
theorem zT:ah Tryz.prog 37:=ah.of Tryz.func37 (by kernel_rfl) (by kernel_rfl)
theorem Q3:ah Tryz.prog 38:=ah.of Tryz.func38 (by kernel_rfl) (by kernel_rfl)
theorem OX:ah Tryz.prog 39:=ah.of Tryz.func39 (by kernel_rfl) (by kernel_rfl)
theorem TP:ah Tryz.prog 41:=ah.of Tryz.func41 (by kernel_rfl) (by kernel_rfl)
theorem zS:ah Tryz.prog 42:=ah.of Tryz.func42 (by kernel_rfl) (by kernel_rfl)
theorem TO:ah Tryz.prog 43:=ah.of Tryz.func43 (by kernel_rfl) (by kernel_rfl)
theorem rL:∀w,(zeroValue 39).run Tryz.prog w= .ok (.agg #[(.int .i64 (0)),(.int .i64 (0))]) w:=λw=>by kernel_rfl
theorem LQ:∀S w,(A.cells S w (.agg (.pair (.eq (.int .i64 (0:Int))) (.eq (.int .i64 (0:Int))))) (Value.cells (.agg #[(.int .i64 (0)),(.int .i64 (0))])).toList):=λ_ _=>⟨[_],_,rfl,⟨rfl,rfl⟩,⟨rfl,rfl⟩⟩
theorem xu:yA Tryz.prog 39 #[(0,1),(1,1)]:=⟨_,Tryz.underlying39,λ_=>by kernel_rfl⟩
theorem rA:∀S w,(A.cells S w (.pair (.eq (.int .i64 (0:Int))) (.eq (.int .i64 (0:Int)))) (Value.cells (.agg #[(.int .i64 (0)),(.int .i64 (0))])).toList):=λ_ _=>⟨[_],_,rfl,⟨rfl,rfl⟩,⟨rfl,rfl⟩⟩
theorem nQ:ek Tryz.prog 39 2 true:=⟨λw=>by kernel_rfl,λw=>by kernel_rfl⟩
theorem Q2:ah Tryz.prog 44:=ah.of Tryz.func44 (by kernel_rfl) (by kernel_rfl)
theorem Q1:ah Tryz.prog 45:=ah.of Tryz.func45 (by kernel_rfl) (by kernel_rfl)
theorem TN:ah Tryz.prog 46:=ah.of Tryz.func46 (by kernel_rfl) (by kernel_rfl)
theorem OZ:ah Tryz.prog 27:=ah.of Tryz.func27 (by kernel_rfl) (by kernel_rfl)
theorem s4:∀w,(zeroValue 131).run Tryz.prog w= .ok (.agg #[(.int .i64 (0)),(.int .i64 (0))]) w:=λw=>by kernel_rfl
theorem Am:∀S w,(A.cells S w (.agg (.pair (.eq (.int .i64 (0:Int))) (.eq (.int .i64 (0:Int))))) (Value.cells (.agg #[(.int .i64 (0)),(.int .i64 (0))])).toList):=λ_ _=>⟨[_],_,rfl,⟨rfl,rfl⟩,⟨rfl,rfl⟩⟩
theorem ya:aS Tryz.prog 131 0 0:=aS.of (by kernel_rfl)
theorem Lh:aS Tryz.prog 131 1 1:=aS.of (by kernel_rfl)
theorem jH:ek Tryz.prog 131 2 true:=⟨λw=>by kernel_rfl,λw=>by kernel_rfl⟩
theorem G0:yA Tryz.prog 131 #[(0,1),(1,1)]:=⟨_,Tryz.underlying131,λ_=>by kernel_rfl⟩
theorem BU:∀S w,(A.cells S w (.pair (.eq (.int .i64 (0:Int))) (.eq (.int .i64 (0:Int)))) (Value.cells (.agg #[(.int .i64 (0)),(.int .i64 (0))])).toList):=λ_ _=>⟨[_],_,rfl,⟨rfl,rfl⟩,⟨rfl,rfl⟩⟩
theorem Tz:ah Tryz.prog 80:=ah.of Tryz.func80 (by kernel_rfl) (by kernel_rfl)
theorem QV:MF Tryz.prog 131 bD:=by
 refine⟨rfl,by kernel_rfl,λw x y=>?_⟩;have u3:=Tryz.underlying3;have a3:=Tryz.isAgg3;have z3:=Tryz.sizeOf3;have hS:Tryz.prog.underlying 131=some (.struct (Tryz.prog.fieldsOf 131)):=by kernel_rfl
 have hp:Tryz.prog.stoodInHeld 131=false:=by kernel_rfl
 rw [show(10000:Nat)=9999+1 from rfl,run_equalIn_agg w 9999 131 _ _ hS hp];simp only [Program.fieldsOf,Tryz.underlying131,rm];refine⟨decide (x=y),?_,decide_eq_true_iff⟩;go_simp;obtain⟨p0,p1⟩:=x;obtain⟨q0,q1⟩:=y;by_cases h0:p0=q0 <;> by_cases h1:p1=q1 <;> simp [h0,h1]
theorem Tv:ah Tryz.prog 81:=ah.of Tryz.func81 (by kernel_rfl) (by kernel_rfl)
theorem Tt:ah Tryz.prog 85:=ah.of Tryz.func85 (by kernel_rfl) (by kernel_rfl)
theorem Tu:ah Tryz.prog 84:=ah.of Tryz.func84 (by kernel_rfl) (by kernel_rfl)
theorem Ri:ah Tryz.prog 114:=ah.of Tryz.func114 (by kernel_rfl) (by kernel_rfl)
theorem M6:ek Tryz.prog 140 1 false:=⟨λw=>by kernel_rfl,λw=>by kernel_rfl⟩
theorem QW:ah Tryz.prog 88:=ah.of Tryz.func88 (by kernel_rfl) (by kernel_rfl)
theorem Rf:ah Tryz.prog 116:=ah.of Tryz.func116 (by kernel_rfl) (by kernel_rfl)
theorem Rh:ah Tryz.prog 115:=ah.of Tryz.func115 (by kernel_rfl) (by kernel_rfl)
theorem QX:ah Tryz.prog 83:=ah.of Tryz.func83 (by kernel_rfl) (by kernel_rfl)
theorem Sz:∀w,(zeroValue 72).run Tryz.prog w= .ok (.pointer none) w:=λw=>by kernel_rfl
theorem TZ:∀S w,(A.cells S w (.eq (.pointer none)) (Value.cells (.pointer none)).toList):=λ_ _=>⟨rfl,rfl⟩
theorem To:ah Tryz.prog 86:=ah.of Tryz.func86 (by kernel_rfl) (by kernel_rfl)
theorem Tn:ah Tryz.prog 87:=ah.of Tryz.func87 (by kernel_rfl) (by kernel_rfl)
theorem OY:ah Tryz.prog 32:=ah.of Tryz.func32 (by kernel_rfl) (by kernel_rfl)
theorem EQ:ah Tryz.prog 47:=ah.of Tryz.func47 (by kernel_rfl) (by kernel_rfl)
theorem Re:ah Tryz.prog 12:=ah.of Tryz.func12 (by kernel_rfl) (by kernel_rfl)
theorem Rj:ah Tryz.prog 11:=ah.of Tryz.func11 (by kernel_rfl) (by kernel_rfl)
theorem Q9:ah Tryz.prog 15:=ah.of Tryz.func15 (by kernel_rfl) (by kernel_rfl)
theorem TM:ah Tryz.prog 48:=ah.of Tryz.func48 (by kernel_rfl) (by kernel_rfl)
theorem TL:ah Tryz.prog 49:=ah.of Tryz.func49 (by kernel_rfl) (by kernel_rfl)
theorem TK:ah Tryz.prog 50:=ah.of Tryz.func50 (by kernel_rfl) (by kernel_rfl)
theorem Lm:MF Tryz.prog 39 bD:=by
 refine⟨rfl,by kernel_rfl,λw x y=>?_⟩;have u3:=Tryz.underlying3;have a3:=Tryz.isAgg3;have z3:=Tryz.sizeOf3;have hS:Tryz.prog.underlying 39=some (.struct (Tryz.prog.fieldsOf 39)):=by kernel_rfl
 have hp:Tryz.prog.stoodInHeld 39=false:=by kernel_rfl
 rw [show(10000:Nat)=9999+1 from rfl,run_equalIn_agg w 9999 39 _ _ hS hp];simp only [Program.fieldsOf,Tryz.underlying39,rm];refine⟨decide (x=y),?_,decide_eq_true_iff⟩;go_simp;obtain⟨p0,p1⟩:=x;obtain⟨q0,q1⟩:=y;by_cases h0:p0=q0 <;> by_cases h1:p1=q1 <;> simp [h0,h1]
theorem Q0:ah Tryz.prog 51:=ah.of Tryz.func51 (by kernel_rfl) (by kernel_rfl)
theorem TX:ah Tryz.prog 10:=ah.of Tryz.func10 (by kernel_rfl) (by kernel_rfl)
theorem UE:ah Tryz.prog 9:=ah.of Tryz.func9 (by kernel_rfl) (by kernel_rfl)
theorem TW:ah Tryz.prog 13:=ah.of Tryz.func13 (by kernel_rfl) (by kernel_rfl)
theorem TV:ah Tryz.prog 14:=ah.of Tryz.func14 (by kernel_rfl) (by kernel_rfl)
theorem Ux:∀i z,Tryz.prog.info? 3=some i->i.zero=some z->∀S w,rd S w (.int .i64) (0:Int) z.cells.toList:=FD (z0:=(.int .i64 (0))) (by kernel_rfl) λ_ _=>rfl
theorem OR:aS Tryz.prog 39 0 0:=aS.of (by kernel_rfl)
theorem OQ:aS Tryz.prog 39 1 1:=aS.of (by kernel_rfl)
theorem TU:ah Tryz.prog 16:=ah.of Tryz.func16 (by kernel_rfl) (by kernel_rfl)
abbrev Rs(t:Ty)(l:(Ty.slice t).den):A:=.rep (.slice t) l
abbrev Pv(b:Nat):Value:=.pointer (some ⟨b,0,none⟩)
abbrev Ry:= @Tryz.underlying112
abbrev Uc:= @Tryz.underlying131
abbrev Fa:= @Tryz.underlying132
abbrev Ub:= @Tryz.underlying142
abbrev Pn:= @Tryz.underlying156
abbrev Ua:= @Tryz.underlying164
abbrev T9:= @Tryz.underlying166
abbrev iK:= @Tryz.underlying22
abbrev vl:= @Tryz.underlying23
abbrev Rx:= @Tryz.underlying24
abbrev U3:= @Tryz.underlying3
abbrev qx:= @Tryz.underlying30
abbrev U4:= @Tryz.underlying4
abbrev U5:= @Tryz.underlying5
abbrev R2:= @Tryz.underlying69
abbrev yq:= @Tryz.underlying76
abbrev AM:= @Tryz.underlying80
abbrev IM:= @Tryz.underlying82
abbrev U9:= @Tryz.underlying9
theorem pr:false=false->1=1:=λ_=>rfl
