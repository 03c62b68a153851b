import Derived.Test.YtddkbkkogpolaaaGreatVHB5
import Derived.Test.YtddkbkkogpolaaaGreatProg
open Nat
open List hiding mem_of_getElem?
open Array hiding mem_of_getElem? mk
set_option linter.unusedVariables false
set_option linter.unusedSimpArgs false
namespace Go.Proofs.YtddkbkkogpolaaaGreat
open K Go Go.Proofs
@[reducible] def Ti:Ty:=.int .i64
@[reducible] def Tl:Ty:=.slice Ti
@[reducible] def Tr:Ty:=.arr 5 Ti
theorem dQ:Tryz.prog.follows .mixedOrders=true:=by kernel_rfl
theorem t7{n:Nat}:true=false->n=1:=λh=>nomatch h
def LV:ByteArray:=⟨#[0,1,2,2,3,3,3,3,4,4,4,4,4,4,4,4,5,5,5,5,5,5,5,5,5,5,5,5,5,5,5,5,6,6,6,6,6,6,6,6,6,6,6,6,6,6,6,6,6,6,6,6,6,6,6,6,6,6,6,6,6,6,6,6,7,7,7,7,7,7,7,7,7,7,7,7,7,7,7,7,7,7,7,7,7,7,7,7,7,7,7,7,7,7,7,7,7,7,7,7,7,7,7,7,7,7,7,7,7,7,7,7,7,7,7,7,7,7,7,7,7,7,7,7,7,7,7,7,8,8,8,8,8,8,8,8,8,8,8,8,8,8,8,8,8,8,8,8,8,8,8,8,8,8,8,8,8,8,8,8,8,8,8,8,8,8,8,8,8,8,8,8,8,8,8,8,8,8,8,8,8,8,8,8,8,8,8,8,8,8,8,8,8,8,8,8,8,8,8,8,8,8,8,8,8,8,8,8,8,8,8,8,8,8,8,8,8,8,8,8,8,8,8,8,8,8,8,8,8,8,8,8,8,8,8,8,8,8,8,8,8,8,8,8,8,8,8,8,8,8,8,8,8,8,8,8]⟩
@[reducible] def bz:Ty:=.agg (.pair (.int .i64) (.pair (.int .i64) .bool))
abbrev bq:=(Int×(Int×Bool))
@[reducible] def an:Ty:=.agg (.pair (.int .i64) (.pair (.int .i64) (.pair (.int .i64) (.pair (.int .i64) (.pair (.slice (.slice (.slice (.int .i64)))) (.slice bz))))))
abbrev ae:=(Int×(Int×(Int×(Int×((List (List (List Int)))×(List bq))))))
@[reducible] def bV:Ty:=.agg (.pair (.int .i64) (.int .i64))
abbrev fE:=(Int×Int)
@[reducible] def Vx:Ty:=.agg (.pair (.slice (.int .i64)) (.pair (.int .i64) (.int .u64)))
abbrev bO:=((List Int)×(Int×Int))
@[reducible] def Q3:Ty:=.agg (.int .i64)
abbrev Oq:=Int
@[reducible] def Q2:Ty:=.agg (.slice (.int .i64))
abbrev Oo:=(List Int)
@[reducible] def Dt:Ty:=.agg (.pair (.int .i64) (.pair (.int .i64) (.pair (.int .i64) (.pair (.int .i64) (.pair (.slice (.slice (.slice (.int .i64)))) .ign)))))
abbrev yu:=(Int×(Int×(Int×(Int×((List (List (List Int)))×Unit)))))
@[reducible] def G3:Ty:=bV
abbrev eQ:=fE
theorem sV:aY Tryz.prog 71 2 2:=aY.of (by kernel_rfl)
theorem ES:dY Tryz.prog 69 1 false:=⟨λw=>by kernel_rfl,λw=>by kernel_rfl⟩
theorem ym:aY Tryz.prog 71 1 1:=aY.of (by kernel_rfl)
theorem cx:dY Tryz.prog 3 1 false:=⟨λw=>by kernel_rfl,λw=>by kernel_rfl⟩
theorem IQ:aY Tryz.prog 71 0 0:=aY.of (by kernel_rfl)
theorem gG:dY Tryz.prog 22 1 false:=⟨λw=>by kernel_rfl,λw=>by kernel_rfl⟩
theorem UR:ah Tryz.prog 60:=ah.of Tryz.func60 (by kernel_rfl) (by kernel_rfl)
theorem wb:ah Tryz.prog 26:=ah.of Tryz.func26 (by kernel_rfl) (by kernel_rfl)
theorem Bn:∀w,(zeroValue 47).run Tryz.prog w= .ok (.agg #[(.int .i64 (0)),(.int .i64 (0)),(.bool false)]) w:=λw=>by kernel_rfl
theorem Jj:∀S w,(A.cells S w (.agg (.pair (.eq (.int .i64 (0:Int))) (.pair (.eq (.int .i64 (0:Int))) (.eq (.bool false))))) (Value.cells (.agg #[(.int .i64 (0)),(.int .i64 (0)),(.bool false)])).toList):=λ_ _=>⟨[_],_,rfl,⟨rfl,rfl⟩,⟨[_],_,rfl,⟨rfl,rfl⟩,⟨rfl,rfl⟩⟩⟩
theorem gr:aY Tryz.prog 26 0 0:=aY.of (by kernel_rfl)
theorem eO:aY Tryz.prog 26 4 4:=aY.of (by kernel_rfl)
theorem lR:dY Tryz.prog 23 1 false:=⟨λw=>by kernel_rfl,λw=>by kernel_rfl⟩
theorem MG:ah Tryz.prog 52:=ah.of Tryz.func52 (by kernel_rfl) (by kernel_rfl)
theorem Rb:yR Tryz.prog 47 #[(0,1),(1,1),(2,1)]:=⟨_,Tryz.underlying47,λ_=>by kernel_rfl⟩
theorem Ov:∀S w,(A.cells S w (.pair (.eq (.int .i64 (0:Int))) (.pair (.eq (.int .i64 (0:Int))) (.eq (.bool false)))) (Value.cells (.agg #[(.int .i64 (0)),(.int .i64 (0)),(.bool false)])).toList):=λ_ _=>⟨[_],_,rfl,⟨rfl,rfl⟩,⟨[_],_,rfl,⟨rfl,rfl⟩,⟨rfl,rfl⟩⟩⟩
theorem sb:dY Tryz.prog 47 3 true:=⟨λw=>by kernel_rfl,λw=>by kernel_rfl⟩
theorem dL:oY Tryz.prog 22 3 1 8:=.of (z:=(.int .i64 (0))) Tryz.underlying22 (by kernel_rfl) rfl rfl rfl
theorem UG:ah Tryz.prog 89:=ah.of Tryz.func89 (by kernel_rfl) (by kernel_rfl)
theorem pM:oY Tryz.prog 30 22 1 24:=.of (z:=(.slice none 0 0)) Tryz.underlying30 (by kernel_rfl) rfl rfl rfl
theorem ME:ah Tryz.prog 57:=ah.of Tryz.func57 (by kernel_rfl) (by kernel_rfl)
theorem QP:∀i z,Tryz.prog.info? 22=some i->i.zero=some z->∀S w,rd S w .val (.slice none 0 0) z.cells.toList:=OF (t:=.val) (z0:=(.slice none 0 0)) (by kernel_rfl) λ_ _=>⟨rfl,rfl⟩
theorem UF:ah Tryz.prog 90:=ah.of Tryz.func90 (by kernel_rfl) (by kernel_rfl)
theorem yV:∀w,(zeroValue 26).run Tryz.prog w= .ok (.agg #[(.int .i64 (0)),(.int .i64 (0)),(.int .i64 (0)),(.int .i64 (0)),(.slice none 0 0),(.slice none 0 0)]) w:=λw=>by kernel_rfl
theorem FT:∀S w,(A.cells S w (.agg (.pair (.eq (.int .i64 (0:Int))) (.pair (.eq (.int .i64 (0:Int))) (.pair (.eq (.int .i64 (0:Int))) (.pair (.eq (.int .i64 (0:Int))) (.pair (.eq (.slice none 0 0)) (.eq (.slice none 0 0)))))))) (Value.cells (.agg #[(.int .i64 (0)),(.int .i64 (0)),(.int .i64 (0)),(.int .i64 (0)),(.slice none 0 0),(.slice none 0 0)])).toList):=λ_ _=>⟨[_],_,rfl,⟨rfl,rfl⟩,⟨[_],_,rfl,⟨rfl,rfl⟩,⟨[_],_,rfl,⟨rfl,rfl⟩,⟨[_],_,rfl,⟨rfl,rfl⟩,⟨[_],_,rfl,⟨rfl,rfl⟩,⟨rfl,rfl⟩⟩⟩⟩⟩⟩
theorem P2:ah Tryz.prog 58:=ah.of Tryz.func58 (by kernel_rfl) (by kernel_rfl)
theorem Re:yR Tryz.prog 26 #[(0,1),(1,1),(2,1),(3,1),(4,1),(5,1)]:=⟨_,Tryz.underlying26,λ_=>by kernel_rfl⟩
theorem Ox:∀S w,(A.cells S w (.pair (.eq (.int .i64 (0:Int))) (.pair (.eq (.int .i64 (0:Int))) (.pair (.eq (.int .i64 (0:Int))) (.pair (.eq (.int .i64 (0:Int))) (.pair (.eq (.slice none 0 0)) (.eq (.slice none 0 0))))))) (Value.cells (.agg #[(.int .i64 (0)),(.int .i64 (0)),(.int .i64 (0)),(.int .i64 (0)),(.slice none 0 0),(.slice none 0 0)])).toList):=λ_ _=>⟨[_],_,rfl,⟨rfl,rfl⟩,⟨[_],_,rfl,⟨rfl,rfl⟩,⟨[_],_,rfl,⟨rfl,rfl⟩,⟨[_],_,rfl,⟨rfl,rfl⟩,⟨[_],_,rfl,⟨rfl,rfl⟩,⟨rfl,rfl⟩⟩⟩⟩⟩⟩
theorem gC:dY Tryz.prog 26 6 true:=⟨λw=>by kernel_rfl,λw=>by kernel_rfl⟩
theorem US:ah Tryz.prog 59:=ah.of Tryz.func59 (by kernel_rfl) (by kernel_rfl)
theorem BG:oY Tryz.prog 23 30 1 24:=.of (z:=(.slice none 0 0)) Tryz.underlying23 (by kernel_rfl) rfl rfl rfl
theorem zr:dY Tryz.prog 30 1 false:=⟨λw=>by kernel_rfl,λw=>by kernel_rfl⟩
theorem UU:ah Tryz.prog 53:=ah.of Tryz.func53 (by kernel_rfl) (by kernel_rfl)
theorem U2:ah Tryz.prog 23:=ah.of Tryz.func23 (by kernel_rfl) (by kernel_rfl)
theorem sW:aY Tryz.prog 26 5 5:=aY.of (by kernel_rfl)
theorem EU:dY Tryz.prog 24 1 false:=⟨λw=>by kernel_rfl,λw=>by kernel_rfl⟩
theorem U7:ah Tryz.prog 18:=ah.of Tryz.func18 (by kernel_rfl) (by kernel_rfl)
theorem KY:oY Tryz.prog 24 47 3 24:=.of (z:=(.agg #[(.int .i64 (0)),(.int .i64 (0)),(.bool false)])) Tryz.underlying24 (by kernel_rfl) rfl rfl rfl
theorem Uf:yR Tryz.prog 71 #[(0,1),(1,1),(2,1)]:=⟨_,Tryz.underlying71,λ_=>by kernel_rfl⟩
theorem TZ:∀w,(zeroValue 71).run Tryz.prog w= .ok (.agg #[(.slice none 0 0),(.int .i64 (0)),(.int .u64 (0))]) w:=λw=>by kernel_rfl
theorem SX:∀S w,(A.cells S w (.pair (.eq (.slice none 0 0)) (.pair (.eq (.int .i64 (0:Int))) (.eq (.int .u64 (0:Int))))) (Value.cells (.agg #[(.slice none 0 0),(.int .i64 (0)),(.int .u64 (0))])).toList):=λ_ _=>⟨[_],_,rfl,⟨rfl,rfl⟩,⟨[_],_,rfl,⟨rfl,rfl⟩,⟨rfl,rfl⟩⟩⟩
theorem CL:aY Tryz.prog 47 0 0:=aY.of (by kernel_rfl)
theorem yt:ah Tryz.prog 71:=ah.of Tryz.func71 (by kernel_rfl) (by kernel_rfl)
theorem CJ:aY Tryz.prog 47 1 1:=aY.of (by kernel_rfl)
theorem IX:ah Tryz.prog 75:=ah.of Tryz.func75 (by kernel_rfl) (by kernel_rfl)
theorem MD:ah Tryz.prog 62:=ah.of Tryz.func62 (by kernel_rfl) (by kernel_rfl)
theorem CM:aY Tryz.prog 26 1 1:=aY.of (by kernel_rfl)
theorem yn:aY Tryz.prog 26 2 2:=aY.of (by kernel_rfl)
theorem IS:aY Tryz.prog 26 3 3:=aY.of (by kernel_rfl)
theorem SS:ah Tryz.prog 101:=ah.of Tryz.func101 (by kernel_rfl) (by kernel_rfl)
theorem UT:ah Tryz.prog 54:=ah.of Tryz.func54 (by kernel_rfl) (by kernel_rfl)
theorem J8:∀w,(zeroValue 80).run Tryz.prog w= .ok (.agg #[(.int .i64 (0)),(.int .i64 (0)),(.int .i64 (0)),(.int .i64 (0)),(.int .i64 (0))]) w:=λw=>by kernel_rfl
theorem Na:∀S w,(A.cells S w (.rep (.arr 5 (.int .i64)) [(0:Int),(0:Int),(0:Int),(0:Int),(0:Int)]) (Value.cells (.agg #[(.int .i64 (0)),(.int .i64 (0)),(.int .i64 (0)),(.int .i64 (0)),(.int .i64 (0))])).toList):=λ_ _=>⟨rfl,⟨[_],_,rfl,rfl,⟨[_],_,rfl,rfl,⟨[_],_,rfl,rfl,⟨[_],_,rfl,rfl,⟨[_],_,rfl,rfl,rfl⟩⟩⟩⟩⟩⟩
theorem ia:aY Tryz.prog 125 0 0:=aY.of (by kernel_rfl)
theorem iT:dY Tryz.prog 80 5 true:=⟨λw=>by kernel_rfl,λw=>by kernel_rfl⟩
theorem Oi:ah Tryz.prog 172:=ah.of Tryz.func172 (by kernel_rfl) (by kernel_rfl)
theorem SD:ah Tryz.prog 162:=ah.of Tryz.func162 (by kernel_rfl) (by kernel_rfl)
theorem SC:ah Tryz.prog 166:=ah.of Tryz.func166 (by kernel_rfl) (by kernel_rfl)
theorem SG:ah Tryz.prog 156:=ah.of Tryz.func156 (by kernel_rfl) (by kernel_rfl)
theorem SH:ah Tryz.prog 155:=ah.of Tryz.func155 (by kernel_rfl) (by kernel_rfl)
theorem SI:ah Tryz.prog 154:=ah.of Tryz.func154 (by kernel_rfl) (by kernel_rfl)
theorem Sj:ah Tryz.prog 82:=ah.of Tryz.func82 (by kernel_rfl) (by kernel_rfl)
theorem SJ:ah Tryz.prog 140:=ah.of Tryz.func140 (by kernel_rfl) (by kernel_rfl)
theorem Rf:yR Tryz.prog 166 #[(0,1)]:=⟨_,Tryz.underlying166,λ_=>by kernel_rfl⟩
theorem NU:∀w,(zeroValue 166).run Tryz.prog w= .ok (.agg #[(.slice none 0 0)]) w:=λw=>by kernel_rfl
theorem Qg:∀S w,(A.cells S w (.eq (.slice none 0 0)) (Value.cells (.agg #[(.slice none 0 0)])).toList):=λ_ _=>⟨rfl,rfl⟩
theorem IY:ah Tryz.prog 112:=ah.of Tryz.func112 (by kernel_rfl) (by kernel_rfl)
theorem G4:Js Tryz.prog 164 (.agg #[.int .i64 0]):=⟨⟨_,Tryz.underlying164⟩,λw=>by kernel_rfl⟩
theorem Gs:∀w,(zeroValue 164).run Tryz.prog w= .ok (.agg #[(.int .i64 (0))]) w:=λw=>by kernel_rfl
theorem Oy:∀S w,(A.cells S w (.agg (.eq (.int .i64 (0:Int)))) (Value.cells (.agg #[(.int .i64 (0))])).toList):=λ_ _=>⟨rfl,rfl⟩
theorem N8:dY Tryz.prog 164 1 true:=⟨λw=>by kernel_rfl,λw=>by kernel_rfl⟩
theorem D8:aY Tryz.prog 164 0 0:=aY.of (by kernel_rfl)
theorem Rh:yR Tryz.prog 164 #[(0,1)]:=⟨_,Tryz.underlying164,λ_=>by kernel_rfl⟩
theorem Qh:∀S w,(A.cells S w (.eq (.int .i64 (0:Int))) (Value.cells (.agg #[(.int .i64 (0))])).toList):=λ_ _=>⟨rfl,rfl⟩
theorem Me:aY Tryz.prog 166 0 0:=aY.of (by kernel_rfl)
theorem vV:EB Tryz.prog 164 "galloon/moth.beside" 190:=λu w=>by kernel_rfl
theorem vU:EB Tryz.prog 166 "galloon/moth.beside" 191:=λu w=>by kernel_rfl
theorem OU:Js Tryz.prog 166 (.agg #[.slice none 0 0]):=⟨⟨_,Tryz.underlying166⟩,λw=>by kernel_rfl⟩
theorem SZ:∀S w,(A.cells S w (.agg (.eq (.slice none 0 0))) (Value.cells (.agg #[(.slice none 0 0)])).toList):=λ_ _=>⟨rfl,rfl⟩
theorem Q4:dY Tryz.prog 166 1 true:=⟨λw=>by kernel_rfl,λw=>by kernel_rfl⟩
theorem Oj:ah Tryz.prog 113:=ah.of Tryz.func113 (by kernel_rfl) (by kernel_rfl)
theorem UP:ah Tryz.prog 70:=ah.of Tryz.func70 (by kernel_rfl) (by kernel_rfl)
theorem QR:∀w,(zeroValue 112).run Tryz.prog w= .ok (.agg #[.int .i64 0,.int .i64 0,.int .i64 0]) w:=λw=>by kernel_rfl
theorem MF:ah Tryz.prog 56:=ah.of Tryz.func56 (by kernel_rfl) (by kernel_rfl)
theorem UO:ah Tryz.prog 72:=ah.of Tryz.func72 (by kernel_rfl) (by kernel_rfl)
theorem Q5:dY Tryz.prog 137 1 false:=⟨λw=>by kernel_rfl,λw=>by kernel_rfl⟩
theorem Ha:dY Tryz.prog 136 1 false:=⟨λw=>by kernel_rfl,λw=>by kernel_rfl⟩
theorem Om:ah Tryz.prog 107:=ah.of Tryz.func107 (by kernel_rfl) (by kernel_rfl)
theorem QU:∀w,(zeroValue 136).run Tryz.prog w= .ok .nilFunc w:=λw=>by kernel_rfl
theorem S7:∀S w,(A.cells S w (.eq .nilFunc) (Value.cells .nilFunc).toList):=λ_ _=>⟨rfl,rfl⟩
theorem CS:ah Tryz.prog 40:=ah.of Tryz.func40 (by kernel_rfl) (by kernel_rfl)
theorem Gq:∀w,(zeroValue 82).run Tryz.prog w= .ok (.agg #[(.int .i64 (0)),(.int .i64 (0)),(.int .i64 (0)),(.int .i64 (0)),(.int .i64 (0)),(.int .i64 (0)),(.int .i64 (0)),(.int .i64 (0)),(.int .i64 (0)),(.int .i64 (0)),(.int .i64 (0)),(.int .i64 (0)),(.int .i64 (0)),(.int .i64 (0)),(.int .i64 (0)),(.int .i64 (0)),(.int .i64 (0)),(.int .i64 (0)),(.int .i64 (0)),(.int .i64 (0)),(.int .i64 (0)),(.int .i64 (0)),(.int .i64 (0)),(.int .i64 (0)),(.int .i64 (0)),(.int .i64 (0)),(.int .i64 (0)),(.int .i64 (0)),(.int .i64 (0)),(.int .i64 (0)),(.int .i64 (0)),(.int .i64 (0)),(.int .i64 (0)),(.int .i64 (0)),(.int .i64 (0))]) w:=λw=>by kernel_rfl
theorem Ji:∀S w,(A.cells S w (.rep (.arr 7 (.arr 5 (.int .i64))) [[(0:Int),(0:Int),(0:Int),(0:Int),(0:Int)],[(0:Int),(0:Int),(0:Int),(0:Int),(0:Int)],[(0:Int),(0:Int),(0:Int),(0:Int),(0:Int)],[(0:Int),(0:Int),(0:Int),(0:Int),(0:Int)],[(0:Int),(0:Int),(0:Int),(0:Int),(0:Int)],[(0:Int),(0:Int),(0:Int),(0:Int),(0:Int)],[(0:Int),(0:Int),(0:Int),(0:Int),(0:Int)]]) (Value.cells (.agg #[(.int .i64 (0)),(.int .i64 (0)),(.int .i64 (0)),(.int .i64 (0)),(.int .i64 (0)),(.int .i64 (0)),(.int .i64 (0)),(.int .i64 (0)),(.int .i64 (0)),(.int .i64 (0)),(.int .i64 (0)),(.int .i64 (0)),(.int .i64 (0)),(.int .i64 (0)),(.int .i64 (0)),(.int .i64 (0)),(.int .i64 (0)),(.int .i64 (0)),(.int .i64 (0)),(.int .i64 (0)),(.int .i64 (0)),(.int .i64 (0)),(.int .i64 (0)),(.int .i64 (0)),(.int .i64 (0)),(.int .i64 (0)),(.int .i64 (0)),(.int .i64 (0)),(.int .i64 (0)),(.int .i64 (0)),(.int .i64 (0)),(.int .i64 (0)),(.int .i64 (0)),(.int .i64 (0)),(.int .i64 (0))])).toList):=λ_ _=>⟨rfl,⟨[_,_,_,_,_],_,rfl,⟨rfl,⟨[_],_,rfl,rfl,⟨[_],_,rfl,rfl,⟨[_],_,rfl,rfl,⟨[_],_,rfl,rfl,⟨[_],_,rfl,rfl,rfl⟩⟩⟩⟩⟩⟩,⟨[_,_,_,_,_],_,rfl,⟨rfl,⟨[_],_,rfl,rfl,⟨[_],_,rfl,rfl,⟨[_],_,rfl,rfl,⟨[_],_,rfl,rfl,⟨[_],_,rfl,rfl,rfl⟩⟩⟩⟩⟩⟩,⟨[_,_,_,_,_],_,rfl,⟨rfl,⟨[_],_,rfl,rfl,⟨[_],_,rfl,rfl,⟨[_],_,rfl,rfl,⟨[_],_,rfl,rfl,⟨[_],_,rfl,rfl,rfl⟩⟩⟩⟩⟩⟩,⟨[_,_,_,_,_],_,rfl,⟨rfl,⟨[_],_,rfl,rfl,⟨[_],_,rfl,rfl,⟨[_],_,rfl,rfl,⟨[_],_,rfl,rfl,⟨[_],_,rfl,rfl,rfl⟩⟩⟩⟩⟩⟩,⟨[_,_,_,_,_],_,rfl,⟨rfl,⟨[_],_,rfl,rfl,⟨[_],_,rfl,rfl,⟨[_],_,rfl,rfl,⟨[_],_,rfl,rfl,⟨[_],_,rfl,rfl,rfl⟩⟩⟩⟩⟩⟩,⟨[_,_,_,_,_],_,rfl,⟨rfl,⟨[_],_,rfl,rfl,⟨[_],_,rfl,rfl,⟨[_],_,rfl,rfl,⟨[_],_,rfl,rfl,⟨[_],_,rfl,rfl,rfl⟩⟩⟩⟩⟩⟩,⟨[_,_,_,_,_],_,rfl,⟨rfl,⟨[_],_,rfl,rfl,⟨[_],_,rfl,rfl,⟨[_],_,rfl,rfl,⟨[_],_,rfl,rfl,⟨[_],_,rfl,rfl,rfl⟩⟩⟩⟩⟩⟩,rfl⟩⟩⟩⟩⟩⟩⟩⟩
theorem G8:dY Tryz.prog 82 35 true:=⟨λw=>by kernel_rfl,λw=>by kernel_rfl⟩
theorem IR:aY Tryz.prog 47 2 2:=aY.of (by kernel_rfl)
theorem Vy:dY Tryz.prog 4 1 false:=⟨λw=>by kernel_rfl,λw=>by kernel_rfl⟩
theorem QQ:∀w,(zeroValue 156).run Tryz.prog w= .ok (.agg #[]) w:=λw=>by kernel_rfl
theorem J9:∀w,(zeroValue 76).run Tryz.prog w= .ok (.slice none 0 0) w:=λw=>by kernel_rfl
theorem Nb:∀S w,(A.cells S w (.eq (.slice none 0 0)) (Value.cells (.slice none 0 0)).toList):=λ_ _=>⟨rfl,rfl⟩
theorem BD:dY Tryz.prog 72 1 false:=⟨λw=>by kernel_rfl,λw=>by kernel_rfl⟩
theorem Sl:ah Tryz.prog 73:=ah.of Tryz.func73 (by kernel_rfl) (by kernel_rfl)
theorem oh:dY Tryz.prog 73 1 false:=⟨λw=>by kernel_rfl,λw=>by kernel_rfl⟩
theorem UN:ah Tryz.prog 74:=ah.of Tryz.func74 (by kernel_rfl) (by kernel_rfl)
theorem xz:dY Tryz.prog 76 1 false:=⟨λw=>by kernel_rfl,λw=>by kernel_rfl⟩
theorem KX:oY Tryz.prog 76 73 1 1:=.of (z:=(.int .u8 (0))) Tryz.underlying76 (by kernel_rfl) rfl rfl rfl
theorem On:ah Tryz.prog 106:=ah.of Tryz.func106 (by kernel_rfl) (by kernel_rfl)
theorem wa:ah Tryz.prog 37:=ah.of Tryz.func37 (by kernel_rfl) (by kernel_rfl)
theorem P4:ah Tryz.prog 38:=ah.of Tryz.func38 (by kernel_rfl) (by kernel_rfl)
theorem P3:ah Tryz.prog 39:=ah.of Tryz.func39 (by kernel_rfl) (by kernel_rfl)
theorem SB:ah Tryz.prog 41:=ah.of Tryz.func41 (by kernel_rfl) (by kernel_rfl)
theorem Aw:ah Tryz.prog 42:=ah.of Tryz.func42 (by kernel_rfl) (by kernel_rfl)
theorem UZ:ah Tryz.prog 43:=ah.of Tryz.func43 (by kernel_rfl) (by kernel_rfl)
theorem Bo:∀w,(zeroValue 39).run Tryz.prog w= .ok (.agg #[(.int .i64 (0)),(.int .i64 (0))]) w:=λw=>by kernel_rfl
theorem SY:∀S w,(A.cells S w (.agg (.pair (.eq (.int .i64 (0:Int))) (.eq (.int .i64 (0:Int))))) (Value.cells (.agg #[(.int .i64 (0)),(.int .i64 (0))])).toList):=λ_ _=>⟨[_],_,rfl,⟨rfl,rfl⟩,⟨rfl,rfl⟩⟩
theorem HG:yR Tryz.prog 39 #[(0,1),(1,1)]:=⟨_,Tryz.underlying39,λ_=>by kernel_rfl⟩
theorem AW:∀S w,(A.cells S w (.pair (.eq (.int .i64 (0:Int))) (.eq (.int .i64 (0:Int)))) (Value.cells (.agg #[(.int .i64 (0)),(.int .i64 (0))])).toList):=λ_ _=>⟨[_],_,rfl,⟨rfl,rfl⟩,⟨rfl,rfl⟩⟩
theorem vO:dY Tryz.prog 39 2 true:=⟨λw=>by kernel_rfl,λw=>by kernel_rfl⟩
theorem SA:ah Tryz.prog 44:=ah.of Tryz.func44 (by kernel_rfl) (by kernel_rfl)
theorem Sz:ah Tryz.prog 45:=ah.of Tryz.func45 (by kernel_rfl) (by kernel_rfl)
theorem UY:ah Tryz.prog 46:=ah.of Tryz.func46 (by kernel_rfl) (by kernel_rfl)
theorem P5:ah Tryz.prog 27:=ah.of Tryz.func27 (by kernel_rfl) (by kernel_rfl)
theorem tp:∀w,(zeroValue 131).run Tryz.prog w= .ok (.agg #[(.int .i64 (0)),(.int .i64 (0))]) w:=λw=>by kernel_rfl
theorem AX:∀S w,(A.cells S w (.agg (.pair (.eq (.int .i64 (0:Int))) (.eq (.int .i64 (0:Int))))) (Value.cells (.agg #[(.int .i64 (0)),(.int .i64 (0))])).toList):=λ_ _=>⟨[_],_,rfl,⟨rfl,rfl⟩,⟨rfl,rfl⟩⟩
theorem yo:aY Tryz.prog 131 0 0:=aY.of (by kernel_rfl)
theorem MA:aY Tryz.prog 131 1 1:=aY.of (by kernel_rfl)
theorem jN:dY Tryz.prog 131 2 true:=⟨λw=>by kernel_rfl,λw=>by kernel_rfl⟩
theorem HH:yR Tryz.prog 131 #[(0,1),(1,1)]:=⟨_,Tryz.underlying131,λ_=>by kernel_rfl⟩
theorem C3:∀S w,(A.cells S w (.pair (.eq (.int .i64 (0:Int))) (.eq (.int .i64 (0:Int)))) (Value.cells (.agg #[(.int .i64 (0)),(.int .i64 (0))])).toList):=λ_ _=>⟨[_],_,rfl,⟨rfl,rfl⟩,⟨rfl,rfl⟩⟩
theorem UM:ah Tryz.prog 80:=ah.of Tryz.func80 (by kernel_rfl) (by kernel_rfl)
theorem R2:NH Tryz.prog 131 bV:=by
 refine⟨rfl,by kernel_rfl,λw x y=>?_⟩;have u3:=Tryz.underlying3;have a3:=Tryz.isAgg3;have z3:=Tryz.sizeOf3;have hS:Tryz.prog.underlying 131=some (.struct (Tryz.prog.fieldsOf 131)):=by kernel_rfl
 have hp:Tryz.prog.stoodInHeld 131=false:=by kernel_rfl
 rw [show(10000:Nat)=9999+1 from rfl,run_equalIn_agg w 9999 131 _ _ hS hp];simp only [Program.fieldsOf,Tryz.underlying131,rL];refine⟨decide (x=y),?_,decide_eq_true_iff⟩;go_simp;obtain⟨p0,p1⟩:=x;obtain⟨q0,q1⟩:=y;by_cases h0:p0=q0 <;> by_cases h1:p1=q1 <;> simp [h0,h1]
theorem UL:ah Tryz.prog 81:=ah.of Tryz.func81 (by kernel_rfl) (by kernel_rfl)
theorem UJ:ah Tryz.prog 85:=ah.of Tryz.func85 (by kernel_rfl) (by kernel_rfl)
theorem UK:ah Tryz.prog 84:=ah.of Tryz.func84 (by kernel_rfl) (by kernel_rfl)
theorem SO:ah Tryz.prog 114:=ah.of Tryz.func114 (by kernel_rfl) (by kernel_rfl)
theorem Oa:dY Tryz.prog 140 1 false:=⟨λw=>by kernel_rfl,λw=>by kernel_rfl⟩
theorem R9:ah Tryz.prog 88:=ah.of Tryz.func88 (by kernel_rfl) (by kernel_rfl)
theorem SL:ah Tryz.prog 116:=ah.of Tryz.func116 (by kernel_rfl) (by kernel_rfl)
theorem SN:ah Tryz.prog 115:=ah.of Tryz.func115 (by kernel_rfl) (by kernel_rfl)
theorem Si:ah Tryz.prog 83:=ah.of Tryz.func83 (by kernel_rfl) (by kernel_rfl)
theorem OG:∀w,(zeroValue 72).run Tryz.prog w= .ok (.pointer none) w:=λw=>by kernel_rfl
theorem Qj:∀S w,(A.cells S w (.eq (.pointer none)) (Value.cells (.pointer none)).toList):=λ_ _=>⟨rfl,rfl⟩
theorem UI:ah Tryz.prog 86:=ah.of Tryz.func86 (by kernel_rfl) (by kernel_rfl)
theorem UH:ah Tryz.prog 87:=ah.of Tryz.func87 (by kernel_rfl) (by kernel_rfl)
theorem MH:ah Tryz.prog 32:=ah.of Tryz.func32 (by kernel_rfl) (by kernel_rfl)
theorem Ft:ah Tryz.prog 47:=ah.of Tryz.func47 (by kernel_rfl) (by kernel_rfl)
theorem SK:ah Tryz.prog 12:=ah.of Tryz.func12 (by kernel_rfl) (by kernel_rfl)
theorem SQ:ah Tryz.prog 11:=ah.of Tryz.func11 (by kernel_rfl) (by kernel_rfl)
theorem Vb:ah Tryz.prog 15:=ah.of Tryz.func15 (by kernel_rfl) (by kernel_rfl)
theorem UX:ah Tryz.prog 48:=ah.of Tryz.func48 (by kernel_rfl) (by kernel_rfl)
theorem UW:ah Tryz.prog 49:=ah.of Tryz.func49 (by kernel_rfl) (by kernel_rfl)
theorem UV:ah Tryz.prog 50:=ah.of Tryz.func50 (by kernel_rfl) (by kernel_rfl)
theorem UD:NH Tryz.prog 39 bV:=by
 refine⟨rfl,by kernel_rfl,λw x y=>?_⟩;have u3:=Tryz.underlying3;have a3:=Tryz.isAgg3;have z3:=Tryz.sizeOf3;have hS:Tryz.prog.underlying 39=some (.struct (Tryz.prog.fieldsOf 39)):=by kernel_rfl
 have hp:Tryz.prog.stoodInHeld 39=false:=by kernel_rfl
 rw [show(10000:Nat)=9999+1 from rfl,run_equalIn_agg w 9999 39 _ _ hS hp];simp only [Program.fieldsOf,Tryz.underlying39,rL];refine⟨decide (x=y),?_,decide_eq_true_iff⟩;go_simp;obtain⟨p0,p1⟩:=x;obtain⟨q0,q1⟩:=y;by_cases h0:p0=q0 <;> by_cases h1:p1=q1 <;> simp [h0,h1]
theorem Sr:ah Tryz.prog 51:=ah.of Tryz.func51 (by kernel_rfl) (by kernel_rfl)
theorem Vg:ah Tryz.prog 10:=ah.of Tryz.func10 (by kernel_rfl) (by kernel_rfl)
theorem Vf:ah Tryz.prog 13:=ah.of Tryz.func13 (by kernel_rfl) (by kernel_rfl)
theorem Ve:ah Tryz.prog 14:=ah.of Tryz.func14 (by kernel_rfl) (by kernel_rfl)
theorem Va:ah Tryz.prog 16:=ah.of Tryz.func16 (by kernel_rfl) (by kernel_rfl)
theorem U1:ah Tryz.prog 24:=ah.of Tryz.func24 (by kernel_rfl) (by kernel_rfl)
theorem U8:ah Tryz.prog 17:=ah.of Tryz.func17 (by kernel_rfl) (by kernel_rfl)
theorem U6:ah Tryz.prog 21:=ah.of Tryz.func21 (by kernel_rfl) (by kernel_rfl)
theorem Ud:dY Tryz.prog 43 1 false:=⟨λw=>by kernel_rfl,λw=>by kernel_rfl⟩
theorem G9:dY Tryz.prog 143 1 false:=⟨λw=>by kernel_rfl,λw=>by kernel_rfl⟩
theorem R7:ah Tryz.prog 92:=ah.of Tryz.func92 (by kernel_rfl) (by kernel_rfl)
theorem QT:∀w,(zeroValue 143).run Tryz.prog w= .ok .nilFunc w:=λw=>by kernel_rfl
theorem S5:∀S w,(A.cells S w (.eq .nilFunc) (Value.cells .nilFunc).toList):=λ_ _=>⟨rfl,rfl⟩
theorem Ua:∀w,(zeroValue 22).run Tryz.prog w= .ok (.slice none 0 0) w:=λw=>by kernel_rfl
theorem Vk:∀S w,(A.cells S w (.eq (.slice none 0 0)) (Value.cells (.slice none 0 0)).toList):=λ_ _=>⟨rfl,rfl⟩
theorem T9:∀w,(zeroValue 31).run Tryz.prog w= .ok (.int .i64 (0)) w:=λw=>by kernel_rfl
theorem Vj:∀S w,(A.cells S w (.eq (.int .i64 (0:Int))) (Value.cells (.int .i64 (0))).toList):=λ_ _=>⟨rfl,rfl⟩
theorem ET:dY Tryz.prog 31 1 false:=⟨λw=>by kernel_rfl,λw=>by kernel_rfl⟩
theorem Vv:∀w,(zeroValue 3).run Tryz.prog w= .ok (.int .i64 (0)) w:=λw=>by kernel_rfl
theorem VG:∀S w,(A.cells S w (.eq (.int .i64 (0:Int))) (Value.cells (.int .i64 (0))).toList):=λ_ _=>⟨rfl,rfl⟩
theorem UQ:ah Tryz.prog 61:=ah.of Tryz.func61 (by kernel_rfl) (by kernel_rfl)
theorem UE:ah Tryz.prog 91:=ah.of Tryz.func91 (by kernel_rfl) (by kernel_rfl)
theorem U0:ah Tryz.prog 28:=ah.of Tryz.func28 (by kernel_rfl) (by kernel_rfl)
abbrev Rs(t:Ty)(l:(Ty.slice t).den):A:=.rep (.slice t) l
abbrev Pv(b:Nat):Value:=.pointer (some ⟨b,0,none⟩)
abbrev Ta:= @Tryz.underlying112
abbrev Vo:= @Tryz.underlying131
abbrev FX:= @Tryz.underlying132
abbrev Vn:= @Tryz.underlying142
abbrev Qp:= @Tryz.underlying156
abbrev Vm:= @Tryz.underlying164
abbrev Vl:= @Tryz.underlying166
abbrev ie:= @Tryz.underlying22
abbrev Bm:= @Tryz.underlying23
abbrev QO:= @Tryz.underlying24
abbrev U3:= @Tryz.underlying3
abbrev ta:= @Tryz.underlying30
abbrev U4:= @Tryz.underlying4
abbrev U5:= @Tryz.underlying5
abbrev TP:= @Tryz.underlying69
abbrev xj:= @Tryz.underlying76
abbrev Bl:= @Tryz.underlying80
abbrev Jr:= @Tryz.underlying82
abbrev U9:= @Tryz.underlying9
theorem nW:false=false->1=1:=λ_=>rfl
