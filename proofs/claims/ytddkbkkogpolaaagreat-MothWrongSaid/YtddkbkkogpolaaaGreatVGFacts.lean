import Derived.Test.YtddkbkkogpolaaaGreatVGB5
import Derived.Test.YtddkbkkogpolaaaGreatProg
open Nat
open List hiding mem_of_getElem?
open Array hiding mem_of_getElem? mk
set_option linter.unusedVariables false
set_option linter.unusedSimpArgs false
namespace Go.Proofs.YtddkbkkogpolaaaGreat
open K Go Go.Proofs
@[reducible] def Ti:Ty:=.int .i64
@[reducible] def Tl:Ty:=.slice Ti
@[reducible] def Tr:Ty:=.arr 5 Ti
theorem dz:Tryz.prog.follows .mixedOrders=true:=by kernel_rfl
theorem t6{n:Nat}:true=false->n=1:=λh=>nomatch h
def MB:ByteArray:=⟨#[0,1,2,2,3,3,3,3,4,4,4,4,4,4,4,4,5,5,5,5,5,5,5,5,5,5,5,5,5,5,5,5,6,6,6,6,6,6,6,6,6,6,6,6,6,6,6,6,6,6,6,6,6,6,6,6,6,6,6,6,6,6,6,6,7,7,7,7,7,7,7,7,7,7,7,7,7,7,7,7,7,7,7,7,7,7,7,7,7,7,7,7,7,7,7,7,7,7,7,7,7,7,7,7,7,7,7,7,7,7,7,7,7,7,7,7,7,7,7,7,7,7,7,7,7,7,7,7,8,8,8,8,8,8,8,8,8,8,8,8,8,8,8,8,8,8,8,8,8,8,8,8,8,8,8,8,8,8,8,8,8,8,8,8,8,8,8,8,8,8,8,8,8,8,8,8,8,8,8,8,8,8,8,8,8,8,8,8,8,8,8,8,8,8,8,8,8,8,8,8,8,8,8,8,8,8,8,8,8,8,8,8,8,8,8,8,8,8,8,8,8,8,8,8,8,8,8,8,8,8,8,8,8,8,8,8,8,8,8,8,8,8,8,8,8,8,8,8,8,8,8,8,8,8,8,8]⟩
@[reducible] def bf:Ty:=.agg (.pair (.int .i64) (.pair (.int .i64) .bool))
abbrev bH:=(Int×(Int×Bool))
@[reducible] def au:Ty:=.agg (.pair (.int .i64) (.pair (.int .i64) (.pair (.int .i64) (.pair (.int .i64) (.pair (.slice (.slice (.slice (.int .i64)))) (.slice bf))))))
abbrev ae:=(Int×(Int×(Int×(Int×((List (List (List Int)))×(List bH))))))
@[reducible] def bU:Ty:=.agg (.pair (.int .i64) (.int .i64))
abbrev fL:=(Int×Int)
@[reducible] def VD:Ty:=.agg (.pair (.slice (.int .i64)) (.pair (.int .i64) (.int .u64)))
abbrev bW:=((List Int)×(Int×Int))
@[reducible] def Q5:Ty:=.agg (.int .i64)
abbrev Oy:=Int
@[reducible] def Q4:Ty:=.agg (.slice (.int .i64))
abbrev Ox:=(List Int)
@[reducible] def Dx:Ty:=.agg (.pair (.int .i64) (.pair (.int .i64) (.pair (.int .i64) (.pair (.int .i64) (.pair (.slice (.slice (.slice (.int .i64)))) .ign)))))
abbrev yy:=(Int×(Int×(Int×(Int×((List (List (List Int)))×Unit)))))
@[reducible] def Hf:Ty:=bU
abbrev eP:=fL
theorem s6:aY Tryz.prog 71 2 2:=aY.of (by kernel_rfl)
theorem E1:d5 Tryz.prog 69 1 false:=⟨λw=>by kernel_rfl,λw=>by kernel_rfl⟩
theorem yr:aY Tryz.prog 71 1 1:=aY.of (by kernel_rfl)
theorem cF:d5 Tryz.prog 3 1 false:=⟨λw=>by kernel_rfl,λw=>by kernel_rfl⟩
theorem I4:aY Tryz.prog 71 0 0:=aY.of (by kernel_rfl)
theorem eo:d5 Tryz.prog 22 1 false:=⟨λw=>by kernel_rfl,λw=>by kernel_rfl⟩
theorem U0:ag Tryz.prog 60:=ag.of Tryz.func60 (by kernel_rfl) (by kernel_rfl)
theorem wj:ag Tryz.prog 26:=ag.of Tryz.func26 (by kernel_rfl) (by kernel_rfl)
theorem Bo:∀w,(zeroValue 47).run Tryz.prog w= .ok (.agg #[(.int .i64 (0)),(.int .i64 (0)),(.bool false)]) w:=λw=>by kernel_rfl
theorem Jx:∀S w,(A.cells S w (.agg (.pair (.eq (.int .i64 (0:Int))) (.pair (.eq (.int .i64 (0:Int))) (.eq (.bool false))))) (Value.cells (.agg #[(.int .i64 (0)),(.int .i64 (0)),(.bool false)])).toList):=λ_ _=>⟨[_],_,rfl,⟨rfl,rfl⟩,⟨[_],_,rfl,⟨rfl,rfl⟩,⟨rfl,rfl⟩⟩⟩
theorem im:aY Tryz.prog 26 0 0:=aY.of (by kernel_rfl)
theorem eO:aY Tryz.prog 26 4 4:=aY.of (by kernel_rfl)
theorem lZ:d5 Tryz.prog 23 1 false:=⟨λw=>by kernel_rfl,λw=>by kernel_rfl⟩
theorem P6:ag Tryz.prog 52:=ag.of Tryz.func52 (by kernel_rfl) (by kernel_rfl)
theorem Rf:yR Tryz.prog 47 #[(0,1),(1,1),(2,1)]:=⟨_,Tryz.underlying47,λ_=>by kernel_rfl⟩
theorem OB:∀S w,(A.cells S w (.pair (.eq (.int .i64 (0:Int))) (.pair (.eq (.int .i64 (0:Int))) (.eq (.bool false)))) (Value.cells (.agg #[(.int .i64 (0)),(.int .i64 (0)),(.bool false)])).toList):=λ_ _=>⟨[_],_,rfl,⟨rfl,rfl⟩,⟨[_],_,rfl,⟨rfl,rfl⟩,⟨rfl,rfl⟩⟩⟩
theorem ry:d5 Tryz.prog 47 3 true:=⟨λw=>by kernel_rfl,λw=>by kernel_rfl⟩
theorem dL:o9 Tryz.prog 22 3 1 8:=.of (z:=(.int .i64 (0))) Tryz.underlying22 (by kernel_rfl) rfl rfl rfl
theorem UO:ag Tryz.prog 89:=ag.of Tryz.func89 (by kernel_rfl) (by kernel_rfl)
theorem l7:o9 Tryz.prog 30 22 1 24:=.of (z:=(.slice none 0 0)) Tryz.underlying30 (by kernel_rfl) rfl rfl rfl
theorem MU:ag Tryz.prog 57:=ag.of Tryz.func57 (by kernel_rfl) (by kernel_rfl)
theorem QR:∀i z,Tryz.prog.info? 22=some i->i.zero=some z->∀S w,rd S w .val (.slice none 0 0) z.cells.toList:=OK (t:=.val) (z0:=(.slice none 0 0)) (by kernel_rfl) λ_ _=>⟨rfl,rfl⟩
theorem UN:ag Tryz.prog 90:=ag.of Tryz.func90 (by kernel_rfl) (by kernel_rfl)
theorem yU:∀w,(zeroValue 26).run Tryz.prog w= .ok (.agg #[(.int .i64 (0)),(.int .i64 (0)),(.int .i64 (0)),(.int .i64 (0)),(.slice none 0 0),(.slice none 0 0)]) w:=λw=>by kernel_rfl
theorem F5:∀S w,(A.cells S w (.agg (.pair (.eq (.int .i64 (0:Int))) (.pair (.eq (.int .i64 (0:Int))) (.pair (.eq (.int .i64 (0:Int))) (.pair (.eq (.int .i64 (0:Int))) (.pair (.eq (.slice none 0 0)) (.eq (.slice none 0 0)))))))) (Value.cells (.agg #[(.int .i64 (0)),(.int .i64 (0)),(.int .i64 (0)),(.int .i64 (0)),(.slice none 0 0),(.slice none 0 0)])).toList):=λ_ _=>⟨[_],_,rfl,⟨rfl,rfl⟩,⟨[_],_,rfl,⟨rfl,rfl⟩,⟨[_],_,rfl,⟨rfl,rfl⟩,⟨[_],_,rfl,⟨rfl,rfl⟩,⟨[_],_,rfl,⟨rfl,rfl⟩,⟨rfl,rfl⟩⟩⟩⟩⟩⟩
theorem P5:ag Tryz.prog 58:=ag.of Tryz.func58 (by kernel_rfl) (by kernel_rfl)
theorem Rh:yR Tryz.prog 26 #[(0,1),(1,1),(2,1),(3,1),(4,1),(5,1)]:=⟨_,Tryz.underlying26,λ_=>by kernel_rfl⟩
theorem OC:∀S w,(A.cells S w (.pair (.eq (.int .i64 (0:Int))) (.pair (.eq (.int .i64 (0:Int))) (.pair (.eq (.int .i64 (0:Int))) (.pair (.eq (.int .i64 (0:Int))) (.pair (.eq (.slice none 0 0)) (.eq (.slice none 0 0))))))) (Value.cells (.agg #[(.int .i64 (0)),(.int .i64 (0)),(.int .i64 (0)),(.int .i64 (0)),(.slice none 0 0),(.slice none 0 0)])).toList):=λ_ _=>⟨[_],_,rfl,⟨rfl,rfl⟩,⟨[_],_,rfl,⟨rfl,rfl⟩,⟨[_],_,rfl,⟨rfl,rfl⟩,⟨[_],_,rfl,⟨rfl,rfl⟩,⟨[_],_,rfl,⟨rfl,rfl⟩,⟨rfl,rfl⟩⟩⟩⟩⟩⟩
theorem iM:d5 Tryz.prog 26 6 true:=⟨λw=>by kernel_rfl,λw=>by kernel_rfl⟩
theorem U1:ag Tryz.prog 59:=ag.of Tryz.func59 (by kernel_rfl) (by kernel_rfl)
theorem BI:o9 Tryz.prog 23 30 1 24:=.of (z:=(.slice none 0 0)) Tryz.underlying23 (by kernel_rfl) rfl rfl rfl
theorem zr:d5 Tryz.prog 30 1 false:=⟨λw=>by kernel_rfl,λw=>by kernel_rfl⟩
theorem U6:ag Tryz.prog 53:=ag.of Tryz.func53 (by kernel_rfl) (by kernel_rfl)
theorem Vh:ag Tryz.prog 23:=ag.of Tryz.func23 (by kernel_rfl) (by kernel_rfl)
theorem nP:aY Tryz.prog 26 5 5:=aY.of (by kernel_rfl)
theorem xE:d5 Tryz.prog 24 1 false:=⟨λw=>by kernel_rfl,λw=>by kernel_rfl⟩
theorem Vi:ag Tryz.prog 18:=ag.of Tryz.func18 (by kernel_rfl) (by kernel_rfl)
theorem Le:o9 Tryz.prog 24 47 3 24:=.of (z:=(.agg #[(.int .i64 (0)),(.int .i64 (0)),(.bool false)])) Tryz.underlying24 (by kernel_rfl) rfl rfl rfl
theorem Uk:yR Tryz.prog 71 #[(0,1),(1,1),(2,1)]:=⟨_,Tryz.underlying71,λ_=>by kernel_rfl⟩
theorem Uc:∀w,(zeroValue 71).run Tryz.prog w= .ok (.agg #[(.slice none 0 0),(.int .i64 (0)),(.int .u64 (0))]) w:=λw=>by kernel_rfl
theorem S9:∀S w,(A.cells S w (.pair (.eq (.slice none 0 0)) (.pair (.eq (.int .i64 (0:Int))) (.eq (.int .u64 (0:Int))))) (Value.cells (.agg #[(.slice none 0 0),(.int .i64 (0)),(.int .u64 (0))])).toList):=λ_ _=>⟨[_],_,rfl,⟨rfl,rfl⟩,⟨[_],_,rfl,⟨rfl,rfl⟩,⟨rfl,rfl⟩⟩⟩
theorem CO:aY Tryz.prog 47 0 0:=aY.of (by kernel_rfl)
theorem yx:ag Tryz.prog 71:=ag.of Tryz.func71 (by kernel_rfl) (by kernel_rfl)
theorem CN:aY Tryz.prog 47 1 1:=aY.of (by kernel_rfl)
theorem Jc:ag Tryz.prog 75:=ag.of Tryz.func75 (by kernel_rfl) (by kernel_rfl)
theorem MS:ag Tryz.prog 62:=ag.of Tryz.func62 (by kernel_rfl) (by kernel_rfl)
theorem CP:aY Tryz.prog 26 1 1:=aY.of (by kernel_rfl)
theorem yt:aY Tryz.prog 26 2 2:=aY.of (by kernel_rfl)
theorem I6:aY Tryz.prog 26 3 3:=aY.of (by kernel_rfl)
theorem SY:ag Tryz.prog 101:=ag.of Tryz.func101 (by kernel_rfl) (by kernel_rfl)
theorem U2:ag Tryz.prog 54:=ag.of Tryz.func54 (by kernel_rfl) (by kernel_rfl)
theorem KC:∀w,(zeroValue 80).run Tryz.prog w= .ok (.agg #[(.int .i64 (0)),(.int .i64 (0)),(.int .i64 (0)),(.int .i64 (0)),(.int .i64 (0))]) w:=λw=>by kernel_rfl
theorem Nq:∀S w,(A.cells S w (.rep (.arr 5 (.int .i64)) [(0:Int),(0:Int),(0:Int),(0:Int),(0:Int)]) (Value.cells (.agg #[(.int .i64 (0)),(.int .i64 (0)),(.int .i64 (0)),(.int .i64 (0)),(.int .i64 (0))])).toList):=λ_ _=>⟨rfl,⟨[_],_,rfl,rfl,⟨[_],_,rfl,rfl,⟨[_],_,rfl,rfl,⟨[_],_,rfl,rfl,⟨[_],_,rfl,rfl,rfl⟩⟩⟩⟩⟩⟩
theorem ic:aY Tryz.prog 125 0 0:=aY.of (by kernel_rfl)
theorem jv:d5 Tryz.prog 80 5 true:=⟨λw=>by kernel_rfl,λw=>by kernel_rfl⟩
theorem Oo:ag Tryz.prog 172:=ag.of Tryz.func172 (by kernel_rfl) (by kernel_rfl)
theorem SK:ag Tryz.prog 162:=ag.of Tryz.func162 (by kernel_rfl) (by kernel_rfl)
theorem SJ:ag Tryz.prog 166:=ag.of Tryz.func166 (by kernel_rfl) (by kernel_rfl)
theorem SL:ag Tryz.prog 156:=ag.of Tryz.func156 (by kernel_rfl) (by kernel_rfl)
theorem SN:ag Tryz.prog 155:=ag.of Tryz.func155 (by kernel_rfl) (by kernel_rfl)
theorem SO:ag Tryz.prog 154:=ag.of Tryz.func154 (by kernel_rfl) (by kernel_rfl)
theorem Sz:ag Tryz.prog 82:=ag.of Tryz.func82 (by kernel_rfl) (by kernel_rfl)
theorem SQ:ag Tryz.prog 140:=ag.of Tryz.func140 (by kernel_rfl) (by kernel_rfl)
theorem Ri:yR Tryz.prog 166 #[(0,1)]:=⟨_,Tryz.underlying166,λ_=>by kernel_rfl⟩
theorem N5:∀w,(zeroValue 166).run Tryz.prog w= .ok (.agg #[(.slice none 0 0)]) w:=λw=>by kernel_rfl
theorem Qk:∀S w,(A.cells S w (.eq (.slice none 0 0)) (Value.cells (.agg #[(.slice none 0 0)])).toList):=λ_ _=>⟨rfl,rfl⟩
theorem Jd:ag Tryz.prog 112:=ag.of Tryz.func112 (by kernel_rfl) (by kernel_rfl)
theorem Hg:JG Tryz.prog 164 (.agg #[.int .i64 0]):=⟨⟨_,Tryz.underlying164⟩,λw=>by kernel_rfl⟩
theorem GE:∀w,(zeroValue 164).run Tryz.prog w= .ok (.agg #[(.int .i64 (0))]) w:=λw=>by kernel_rfl
theorem OD:∀S w,(A.cells S w (.agg (.eq (.int .i64 (0:Int)))) (Value.cells (.agg #[(.int .i64 (0))])).toList):=λ_ _=>⟨rfl,rfl⟩
theorem Of:d5 Tryz.prog 164 1 true:=⟨λw=>by kernel_rfl,λw=>by kernel_rfl⟩
theorem Ec:aY Tryz.prog 164 0 0:=aY.of (by kernel_rfl)
theorem Rj:yR Tryz.prog 164 #[(0,1)]:=⟨_,Tryz.underlying164,λ_=>by kernel_rfl⟩
theorem Ql:∀S w,(A.cells S w (.eq (.int .i64 (0:Int))) (Value.cells (.agg #[(.int .i64 (0))])).toList):=λ_ _=>⟨rfl,rfl⟩
theorem MO:aY Tryz.prog 166 0 0:=aY.of (by kernel_rfl)
theorem vW:EG Tryz.prog 164 "galloon/moth.beside" 190:=λu w=>by kernel_rfl
theorem vV:EG Tryz.prog 166 "galloon/moth.beside" 191:=λu w=>by kernel_rfl
theorem O2:JG Tryz.prog 166 (.agg #[.slice none 0 0]):=⟨⟨_,Tryz.underlying166⟩,λw=>by kernel_rfl⟩
theorem Td:∀S w,(A.cells S w (.agg (.eq (.slice none 0 0))) (Value.cells (.agg #[(.slice none 0 0)])).toList):=λ_ _=>⟨rfl,rfl⟩
theorem Q6:d5 Tryz.prog 166 1 true:=⟨λw=>by kernel_rfl,λw=>by kernel_rfl⟩
theorem Oq:ag Tryz.prog 113:=ag.of Tryz.func113 (by kernel_rfl) (by kernel_rfl)
theorem UX:ag Tryz.prog 70:=ag.of Tryz.func70 (by kernel_rfl) (by kernel_rfl)
theorem QU:∀w,(zeroValue 112).run Tryz.prog w= .ok (.agg #[.int .i64 0,.int .i64 0,.int .i64 0]) w:=λw=>by kernel_rfl
theorem MV:ag Tryz.prog 56:=ag.of Tryz.func56 (by kernel_rfl) (by kernel_rfl)
theorem UW:ag Tryz.prog 72:=ag.of Tryz.func72 (by kernel_rfl) (by kernel_rfl)
theorem Q7:d5 Tryz.prog 137 1 false:=⟨λw=>by kernel_rfl,λw=>by kernel_rfl⟩
theorem Hl:d5 Tryz.prog 136 1 false:=⟨λw=>by kernel_rfl,λw=>by kernel_rfl⟩
theorem Ou:ag Tryz.prog 107:=ag.of Tryz.func107 (by kernel_rfl) (by kernel_rfl)
theorem QW:∀w,(zeroValue 136).run Tryz.prog w= .ok .nilFunc w:=λw=>by kernel_rfl
theorem Tj:∀S w,(A.cells S w (.eq .nilFunc) (Value.cells .nilFunc).toList):=λ_ _=>⟨rfl,rfl⟩
theorem FI:ag Tryz.prog 40:=ag.of Tryz.func40 (by kernel_rfl) (by kernel_rfl)
theorem GA:∀w,(zeroValue 82).run Tryz.prog w= .ok (.agg #[(.int .i64 (0)),(.int .i64 (0)),(.int .i64 (0)),(.int .i64 (0)),(.int .i64 (0)),(.int .i64 (0)),(.int .i64 (0)),(.int .i64 (0)),(.int .i64 (0)),(.int .i64 (0)),(.int .i64 (0)),(.int .i64 (0)),(.int .i64 (0)),(.int .i64 (0)),(.int .i64 (0)),(.int .i64 (0)),(.int .i64 (0)),(.int .i64 (0)),(.int .i64 (0)),(.int .i64 (0)),(.int .i64 (0)),(.int .i64 (0)),(.int .i64 (0)),(.int .i64 (0)),(.int .i64 (0)),(.int .i64 (0)),(.int .i64 (0)),(.int .i64 (0)),(.int .i64 (0)),(.int .i64 (0)),(.int .i64 (0)),(.int .i64 (0)),(.int .i64 (0)),(.int .i64 (0)),(.int .i64 (0))]) w:=λw=>by kernel_rfl
theorem Jw:∀S w,(A.cells S w (.rep (.arr 7 (.arr 5 (.int .i64))) [[(0:Int),(0:Int),(0:Int),(0:Int),(0:Int)],[(0:Int),(0:Int),(0:Int),(0:Int),(0:Int)],[(0:Int),(0:Int),(0:Int),(0:Int),(0:Int)],[(0:Int),(0:Int),(0:Int),(0:Int),(0:Int)],[(0:Int),(0:Int),(0:Int),(0:Int),(0:Int)],[(0:Int),(0:Int),(0:Int),(0:Int),(0:Int)],[(0:Int),(0:Int),(0:Int),(0:Int),(0:Int)]]) (Value.cells (.agg #[(.int .i64 (0)),(.int .i64 (0)),(.int .i64 (0)),(.int .i64 (0)),(.int .i64 (0)),(.int .i64 (0)),(.int .i64 (0)),(.int .i64 (0)),(.int .i64 (0)),(.int .i64 (0)),(.int .i64 (0)),(.int .i64 (0)),(.int .i64 (0)),(.int .i64 (0)),(.int .i64 (0)),(.int .i64 (0)),(.int .i64 (0)),(.int .i64 (0)),(.int .i64 (0)),(.int .i64 (0)),(.int .i64 (0)),(.int .i64 (0)),(.int .i64 (0)),(.int .i64 (0)),(.int .i64 (0)),(.int .i64 (0)),(.int .i64 (0)),(.int .i64 (0)),(.int .i64 (0)),(.int .i64 (0)),(.int .i64 (0)),(.int .i64 (0)),(.int .i64 (0)),(.int .i64 (0)),(.int .i64 (0))])).toList):=λ_ _=>⟨rfl,⟨[_,_,_,_,_],_,rfl,⟨rfl,⟨[_],_,rfl,rfl,⟨[_],_,rfl,rfl,⟨[_],_,rfl,rfl,⟨[_],_,rfl,rfl,⟨[_],_,rfl,rfl,rfl⟩⟩⟩⟩⟩⟩,⟨[_,_,_,_,_],_,rfl,⟨rfl,⟨[_],_,rfl,rfl,⟨[_],_,rfl,rfl,⟨[_],_,rfl,rfl,⟨[_],_,rfl,rfl,⟨[_],_,rfl,rfl,rfl⟩⟩⟩⟩⟩⟩,⟨[_,_,_,_,_],_,rfl,⟨rfl,⟨[_],_,rfl,rfl,⟨[_],_,rfl,rfl,⟨[_],_,rfl,rfl,⟨[_],_,rfl,rfl,⟨[_],_,rfl,rfl,rfl⟩⟩⟩⟩⟩⟩,⟨[_,_,_,_,_],_,rfl,⟨rfl,⟨[_],_,rfl,rfl,⟨[_],_,rfl,rfl,⟨[_],_,rfl,rfl,⟨[_],_,rfl,rfl,⟨[_],_,rfl,rfl,rfl⟩⟩⟩⟩⟩⟩,⟨[_,_,_,_,_],_,rfl,⟨rfl,⟨[_],_,rfl,rfl,⟨[_],_,rfl,rfl,⟨[_],_,rfl,rfl,⟨[_],_,rfl,rfl,⟨[_],_,rfl,rfl,rfl⟩⟩⟩⟩⟩⟩,⟨[_,_,_,_,_],_,rfl,⟨rfl,⟨[_],_,rfl,rfl,⟨[_],_,rfl,rfl,⟨[_],_,rfl,rfl,⟨[_],_,rfl,rfl,⟨[_],_,rfl,rfl,rfl⟩⟩⟩⟩⟩⟩,⟨[_,_,_,_,_],_,rfl,⟨rfl,⟨[_],_,rfl,rfl,⟨[_],_,rfl,rfl,⟨[_],_,rfl,rfl,⟨[_],_,rfl,rfl,⟨[_],_,rfl,rfl,rfl⟩⟩⟩⟩⟩⟩,rfl⟩⟩⟩⟩⟩⟩⟩⟩
theorem Hj:d5 Tryz.prog 82 35 true:=⟨λw=>by kernel_rfl,λw=>by kernel_rfl⟩
theorem I5:aY Tryz.prog 47 2 2:=aY.of (by kernel_rfl)
theorem VE:d5 Tryz.prog 4 1 false:=⟨λw=>by kernel_rfl,λw=>by kernel_rfl⟩
theorem QT:∀w,(zeroValue 156).run Tryz.prog w= .ok (.agg #[]) w:=λw=>by kernel_rfl
theorem KD:∀w,(zeroValue 76).run Tryz.prog w= .ok (.slice none 0 0) w:=λw=>by kernel_rfl
theorem Nr:∀S w,(A.cells S w (.eq (.slice none 0 0)) (Value.cells (.slice none 0 0)).toList):=λ_ _=>⟨rfl,rfl⟩
theorem BE:d5 Tryz.prog 72 1 false:=⟨λw=>by kernel_rfl,λw=>by kernel_rfl⟩
theorem SA:ag Tryz.prog 73:=ag.of Tryz.func73 (by kernel_rfl) (by kernel_rfl)
theorem qi:d5 Tryz.prog 73 1 false:=⟨λw=>by kernel_rfl,λw=>by kernel_rfl⟩
theorem UV:ag Tryz.prog 74:=ag.of Tryz.func74 (by kernel_rfl) (by kernel_rfl)
theorem xC:d5 Tryz.prog 76 1 false:=⟨λw=>by kernel_rfl,λw=>by kernel_rfl⟩
theorem Ld:o9 Tryz.prog 76 73 1 1:=.of (z:=(.int .u8 (0))) Tryz.underlying76 (by kernel_rfl) rfl rfl rfl
theorem Ov:ag Tryz.prog 106:=ag.of Tryz.func106 (by kernel_rfl) (by kernel_rfl)
theorem wi:ag Tryz.prog 37:=ag.of Tryz.func37 (by kernel_rfl) (by kernel_rfl)
theorem P8:ag Tryz.prog 38:=ag.of Tryz.func38 (by kernel_rfl) (by kernel_rfl)
theorem P7:ag Tryz.prog 39:=ag.of Tryz.func39 (by kernel_rfl) (by kernel_rfl)
theorem SH:ag Tryz.prog 41:=ag.of Tryz.func41 (by kernel_rfl) (by kernel_rfl)
theorem FH:ag Tryz.prog 42:=ag.of Tryz.func42 (by kernel_rfl) (by kernel_rfl)
theorem Bq:∀w,(zeroValue 39).run Tryz.prog w= .ok (.agg #[(.int .i64 (0)),(.int .i64 (0))]) w:=λw=>by kernel_rfl
theorem Ta:∀S w,(A.cells S w (.agg (.pair (.eq (.int .i64 (0:Int))) (.eq (.int .i64 (0:Int))))) (Value.cells (.agg #[(.int .i64 (0)),(.int .i64 (0))])).toList):=λ_ _=>⟨[_],_,rfl,⟨rfl,rfl⟩,⟨rfl,rfl⟩⟩
theorem HO:yR Tryz.prog 39 #[(0,1),(1,1)]:=⟨_,Tryz.underlying39,λ_=>by kernel_rfl⟩
theorem AW:∀S w,(A.cells S w (.pair (.eq (.int .i64 (0:Int))) (.eq (.int .i64 (0:Int)))) (Value.cells (.agg #[(.int .i64 (0)),(.int .i64 (0))])).toList):=λ_ _=>⟨[_],_,rfl,⟨rfl,rfl⟩,⟨rfl,rfl⟩⟩
theorem vP:d5 Tryz.prog 39 2 true:=⟨λw=>by kernel_rfl,λw=>by kernel_rfl⟩
theorem SG:ag Tryz.prog 44:=ag.of Tryz.func44 (by kernel_rfl) (by kernel_rfl)
theorem SD:ag Tryz.prog 45:=ag.of Tryz.func45 (by kernel_rfl) (by kernel_rfl)
theorem Vb:ag Tryz.prog 46:=ag.of Tryz.func46 (by kernel_rfl) (by kernel_rfl)
theorem P9:ag Tryz.prog 27:=ag.of Tryz.func27 (by kernel_rfl) (by kernel_rfl)
theorem tz:∀w,(zeroValue 131).run Tryz.prog w= .ok (.agg #[(.int .i64 (0)),(.int .i64 (0))]) w:=λw=>by kernel_rfl
theorem AX:∀S w,(A.cells S w (.agg (.pair (.eq (.int .i64 (0:Int))) (.eq (.int .i64 (0:Int))))) (Value.cells (.agg #[(.int .i64 (0)),(.int .i64 (0))])).toList):=λ_ _=>⟨[_],_,rfl,⟨rfl,rfl⟩,⟨rfl,rfl⟩⟩
theorem yu:aY Tryz.prog 131 0 0:=aY.of (by kernel_rfl)
theorem MP:aY Tryz.prog 131 1 1:=aY.of (by kernel_rfl)
theorem jU:d5 Tryz.prog 131 2 true:=⟨λw=>by kernel_rfl,λw=>by kernel_rfl⟩
theorem HQ:yR Tryz.prog 131 #[(0,1),(1,1)]:=⟨_,Tryz.underlying131,λ_=>by kernel_rfl⟩
theorem C6:∀S w,(A.cells S w (.pair (.eq (.int .i64 (0:Int))) (.eq (.int .i64 (0:Int)))) (Value.cells (.agg #[(.int .i64 (0)),(.int .i64 (0))])).toList):=λ_ _=>⟨[_],_,rfl,⟨rfl,rfl⟩,⟨rfl,rfl⟩⟩
theorem UU:ag Tryz.prog 80:=ag.of Tryz.func80 (by kernel_rfl) (by kernel_rfl)
theorem Si:NV Tryz.prog 131 bU:=by
 refine⟨rfl,by kernel_rfl,λw x y=>?_⟩;have u3:=Tryz.underlying3;have a3:=Tryz.isAgg3;have z3:=Tryz.sizeOf3;have hS:Tryz.prog.underlying 131=some (.struct (Tryz.prog.fieldsOf 131)):=by kernel_rfl
 have hp:Tryz.prog.stoodInHeld 131=false:=by kernel_rfl
 rw [show(10000:Nat)=9999+1 from rfl,run_equalIn_agg w 9999 131 _ _ hS hp];simp only [Program.fieldsOf,Tryz.underlying131,rT];refine⟨decide (x=y),?_,decide_eq_true_iff⟩;go_simp;obtain⟨p0,p1⟩:=x;obtain⟨q0,q1⟩:=y;by_cases h0:p0=q0 <;> by_cases h1:p1=q1 <;> simp [h0,h1]
theorem UT:ag Tryz.prog 81:=ag.of Tryz.func81 (by kernel_rfl) (by kernel_rfl)
theorem UR:ag Tryz.prog 85:=ag.of Tryz.func85 (by kernel_rfl) (by kernel_rfl)
theorem US:ag Tryz.prog 84:=ag.of Tryz.func84 (by kernel_rfl) (by kernel_rfl)
theorem SV:ag Tryz.prog 114:=ag.of Tryz.func114 (by kernel_rfl) (by kernel_rfl)
theorem Oh:d5 Tryz.prog 140 1 false:=⟨λw=>by kernel_rfl,λw=>by kernel_rfl⟩
theorem Sl:ag Tryz.prog 88:=ag.of Tryz.func88 (by kernel_rfl) (by kernel_rfl)
theorem SS:ag Tryz.prog 116:=ag.of Tryz.func116 (by kernel_rfl) (by kernel_rfl)
theorem SU:ag Tryz.prog 115:=ag.of Tryz.func115 (by kernel_rfl) (by kernel_rfl)
theorem Sr:ag Tryz.prog 83:=ag.of Tryz.func83 (by kernel_rfl) (by kernel_rfl)
theorem OL:∀w,(zeroValue 72).run Tryz.prog w= .ok (.pointer none) w:=λw=>by kernel_rfl
theorem Qn:∀S w,(A.cells S w (.eq (.pointer none)) (Value.cells (.pointer none)).toList):=λ_ _=>⟨rfl,rfl⟩
theorem UQ:ag Tryz.prog 86:=ag.of Tryz.func86 (by kernel_rfl) (by kernel_rfl)
theorem UP:ag Tryz.prog 87:=ag.of Tryz.func87 (by kernel_rfl) (by kernel_rfl)
theorem MX:ag Tryz.prog 32:=ag.of Tryz.func32 (by kernel_rfl) (by kernel_rfl)
theorem FG:ag Tryz.prog 47:=ag.of Tryz.func47 (by kernel_rfl) (by kernel_rfl)
theorem SR:ag Tryz.prog 12:=ag.of Tryz.func12 (by kernel_rfl) (by kernel_rfl)
theorem Vm:ag Tryz.prog 11:=ag.of Tryz.func11 (by kernel_rfl) (by kernel_rfl)
theorem Vk:ag Tryz.prog 15:=ag.of Tryz.func15 (by kernel_rfl) (by kernel_rfl)
theorem Va:ag Tryz.prog 48:=ag.of Tryz.func48 (by kernel_rfl) (by kernel_rfl)
theorem U8:ag Tryz.prog 49:=ag.of Tryz.func49 (by kernel_rfl) (by kernel_rfl)
theorem U7:ag Tryz.prog 50:=ag.of Tryz.func50 (by kernel_rfl) (by kernel_rfl)
theorem UK:NV Tryz.prog 39 bU:=by
 refine⟨rfl,by kernel_rfl,λw x y=>?_⟩;have u3:=Tryz.underlying3;have a3:=Tryz.isAgg3;have z3:=Tryz.sizeOf3;have hS:Tryz.prog.underlying 39=some (.struct (Tryz.prog.fieldsOf 39)):=by kernel_rfl
 have hp:Tryz.prog.stoodInHeld 39=false:=by kernel_rfl
 rw [show(10000:Nat)=9999+1 from rfl,run_equalIn_agg w 9999 39 _ _ hS hp];simp only [Program.fieldsOf,Tryz.underlying39,rT];refine⟨decide (x=y),?_,decide_eq_true_iff⟩;go_simp;obtain⟨p0,p1⟩:=x;obtain⟨q0,q1⟩:=y;by_cases h0:p0=q0 <;> by_cases h1:p1=q1 <;> simp [h0,h1]
theorem SC:ag Tryz.prog 51:=ag.of Tryz.func51 (by kernel_rfl) (by kernel_rfl)
theorem Vn:ag Tryz.prog 10:=ag.of Tryz.func10 (by kernel_rfl) (by kernel_rfl)
theorem V0:ag Tryz.prog 9:=ag.of Tryz.func9 (by kernel_rfl) (by kernel_rfl)
theorem Vl:ag Tryz.prog 13:=ag.of Tryz.func13 (by kernel_rfl) (by kernel_rfl)
theorem Vj:ag Tryz.prog 16:=ag.of Tryz.func16 (by kernel_rfl) (by kernel_rfl)
theorem Ui:d5 Tryz.prog 43 1 false:=⟨λw=>by kernel_rfl,λw=>by kernel_rfl⟩
theorem Hk:d5 Tryz.prog 143 1 false:=⟨λw=>by kernel_rfl,λw=>by kernel_rfl⟩
theorem Sj:ag Tryz.prog 92:=ag.of Tryz.func92 (by kernel_rfl) (by kernel_rfl)
theorem QV:∀w,(zeroValue 143).run Tryz.prog w= .ok .nilFunc w:=λw=>by kernel_rfl
theorem Tf:∀S w,(A.cells S w (.eq .nilFunc) (Value.cells .nilFunc).toList):=λ_ _=>⟨rfl,rfl⟩
theorem Uf:∀w,(zeroValue 22).run Tryz.prog w= .ok (.slice none 0 0) w:=λw=>by kernel_rfl
theorem Vr:∀S w,(A.cells S w (.eq (.slice none 0 0)) (Value.cells (.slice none 0 0)).toList):=λ_ _=>⟨rfl,rfl⟩
theorem Ue:∀w,(zeroValue 31).run Tryz.prog w= .ok (.int .i64 (0)) w:=λw=>by kernel_rfl
theorem Vq:∀S w,(A.cells S w (.eq (.int .i64 (0:Int))) (Value.cells (.int .i64 (0))).toList):=λ_ _=>⟨rfl,rfl⟩
theorem E2:d5 Tryz.prog 31 1 false:=⟨λw=>by kernel_rfl,λw=>by kernel_rfl⟩
theorem VB:∀w,(zeroValue 3).run Tryz.prog w= .ok (.int .i64 (0)) w:=λw=>by kernel_rfl
theorem VN:∀S w,(A.cells S w (.eq (.int .i64 (0:Int))) (Value.cells (.int .i64 (0))).toList):=λ_ _=>⟨rfl,rfl⟩
theorem UZ:ag Tryz.prog 61:=ag.of Tryz.func61 (by kernel_rfl) (by kernel_rfl)
theorem UM:ag Tryz.prog 91:=ag.of Tryz.func91 (by kernel_rfl) (by kernel_rfl)
theorem SB:ag Tryz.prog 63:=ag.of Tryz.func63 (by kernel_rfl) (by kernel_rfl)
theorem UL:ag Tryz.prog 93:=ag.of Tryz.func93 (by kernel_rfl) (by kernel_rfl)
theorem SI:ag Tryz.prog 30:=ag.of Tryz.func30 (by kernel_rfl) (by kernel_rfl)
theorem UY:ag Tryz.prog 64:=ag.of Tryz.func64 (by kernel_rfl) (by kernel_rfl)
theorem Vg:ag Tryz.prog 28:=ag.of Tryz.func28 (by kernel_rfl) (by kernel_rfl)
theorem Vf:ag Tryz.prog 29:=ag.of Tryz.func29 (by kernel_rfl) (by kernel_rfl)
theorem Ve:ag Tryz.prog 31:=ag.of Tryz.func31 (by kernel_rfl) (by kernel_rfl)
abbrev Rs(t:Ty)(l:(Ty.slice t).den):A:=.rep (.slice t) l
abbrev Pv(b:Nat):Value:=.pointer (some ⟨b,0,none⟩)
abbrev Tn:= @Tryz.underlying112
abbrev Vv:= @Tryz.underlying131
abbrev F9:= @Tryz.underlying132
abbrev Vu:= @Tryz.underlying142
abbrev Qv:= @Tryz.underlying156
abbrev Vt:= @Tryz.underlying164
abbrev Vs:= @Tryz.underlying166
abbrev g7:= @Tryz.underlying22
abbrev Bn:= @Tryz.underlying23
abbrev NG:= @Tryz.underlying24
abbrev U3:= @Tryz.underlying3
abbrev oq:= @Tryz.underlying30
abbrev U4:= @Tryz.underlying4
abbrev U5:= @Tryz.underlying5
abbrev TW:= @Tryz.underlying69
abbrev A1:= @Tryz.underlying76
abbrev Db:= @Tryz.underlying80
abbrev Kz:= @Tryz.underlying82
abbrev U9:= @Tryz.underlying9
theorem ny:false=false->1=1:=λ_=>rfl
