import Derived.Test.YtflilincnacbpaaGreatVTB5
import Derived.Test.YtflilincnacbpaaGreatProg
open Nat
open List hiding mem_of_getElem?
open Array hiding mem_of_getElem? mk
set_option linter.unusedVariables false
set_option linter.unusedSimpArgs false
namespace Go.Proofs.YtflilincnacbpaaGreat
open K Go Go.Proofs
@[reducible] def Ti:Ty:=.int .i64
@[reducible] def Tl:Ty:=.slice Ti
@[reducible] def Tr:Ty:=.arr 5 Ti
theorem d4:Tryz.prog.follows .mixedOrders=true:=by kernel_rfl
theorem tP{n:Nat}:true=false->n=1:=λh=>nomatch h
def LV:ByteArray:=⟨#[0,1,2,2,3,3,3,3,4,4,4,4,4,4,4,4,5,5,5,5,5,5,5,5,5,5,5,5,5,5,5,5,6,6,6,6,6,6,6,6,6,6,6,6,6,6,6,6,6,6,6,6,6,6,6,6,6,6,6,6,6,6,6,6,7,7,7,7,7,7,7,7,7,7,7,7,7,7,7,7,7,7,7,7,7,7,7,7,7,7,7,7,7,7,7,7,7,7,7,7,7,7,7,7,7,7,7,7,7,7,7,7,7,7,7,7,7,7,7,7,7,7,7,7,7,7,7,7,8,8,8,8,8,8,8,8,8,8,8,8,8,8,8,8,8,8,8,8,8,8,8,8,8,8,8,8,8,8,8,8,8,8,8,8,8,8,8,8,8,8,8,8,8,8,8,8,8,8,8,8,8,8,8,8,8,8,8,8,8,8,8,8,8,8,8,8,8,8,8,8,8,8,8,8,8,8,8,8,8,8,8,8,8,8,8,8,8,8,8,8,8,8,8,8,8,8,8,8,8,8,8,8,8,8,8,8,8,8,8,8,8,8,8,8,8,8,8,8,8,8,8,8,8,8,8,8]⟩
@[reducible] def ah:Ty:=.agg (.pair (.int .i64) (.pair (.int .i64) .bool))
abbrev an:=(Int×(Int×Bool))
@[reducible] def ap:Ty:=.agg (.pair (.int .i64) (.pair (.int .i64) (.pair (.int .i64) (.pair (.int .i64) (.pair (.slice (.slice (.slice (.int .i64)))) (.slice ah))))))
abbrev ae:=(Int×(Int×(Int×(Int×((List (List (List Int)))×(List an))))))
@[reducible] def U7:Ty:=.agg (.pair (.slice (.int .i64)) (.pair (.int .i64) (.int .u64)))
abbrev ba:=((List Int)×(Int×Int))
@[reducible] def bX:Ty:=.agg (.pair (.int .i64) (.int .i64))
abbrev fK:=(Int×Int)
@[reducible] def QW:Ty:=.agg (.int .i64)
abbrev Oa:=Int
@[reducible] def QV:Ty:=.agg (.slice (.int .i64))
abbrev N9:=(List Int)
@[reducible] def DD:Ty:=.agg (.pair (.int .i64) (.pair (.int .i64) (.pair (.int .i64) (.pair (.int .i64) (.pair (.slice (.slice (.slice (.int .i64)))) .ign)))))
abbrev yC:=(Int×(Int×(Int×(Int×((List (List (List Int)))×Unit)))))
@[reducible] def Hk:Ty:=bX
abbrev eQ:=fK
theorem TS:yZ Tryz.prog 46 #[(0,1),(1,1),(2,1)]:=⟨_,Tryz.underlying46,λ_=>by kernel_rfl⟩
theorem TN:∀w,(zeroValue 46).run Tryz.prog w= .ok (.agg #[(.slice none 0 0),(.int .i64 (0)),(.int .u64 (0))]) w:=λw=>by kernel_rfl
theorem SL:∀S w,(A.cells S w (.pair (.eq (.slice none 0 0)) (.pair (.eq (.int .i64 (0:Int))) (.eq (.int .u64 (0:Int))))) (Value.cells (.agg #[(.slice none 0 0),(.int .i64 (0)),(.int .u64 (0))])).toList):=λ_ _=>⟨[_],_,rfl,⟨rfl,rfl⟩,⟨[_],_,rfl,⟨rfl,rfl⟩,⟨rfl,rfl⟩⟩⟩
theorem tg:aV Tryz.prog 46 2 2:=aV.of (by kernel_rfl)
theorem E6:eu Tryz.prog 44 1 false:=⟨λw=>by kernel_rfl,λw=>by kernel_rfl⟩
theorem yv:aV Tryz.prog 46 1 1:=aV.of (by kernel_rfl)
theorem cL:eu Tryz.prog 3 1 false:=⟨λw=>by kernel_rfl,λw=>by kernel_rfl⟩
theorem I4:aV Tryz.prog 46 0 0:=aV.of (by kernel_rfl)
theorem ii:eu Tryz.prog 22 1 false:=⟨λw=>by kernel_rfl,λw=>by kernel_rfl⟩
theorem UG:ai Tryz.prog 34:=ai.of Tryz.func34 (by kernel_rfl) (by kernel_rfl)
theorem wq:ai Tryz.prog 15:=ai.of Tryz.func15 (by kernel_rfl) (by kernel_rfl)
theorem dX:pN Tryz.prog 22 3 1 8:=.of (z:=(.int .i64 (0))) Tryz.underlying22 (by kernel_rfl) rfl rfl rfl
theorem Si:ai Tryz.prog 35:=ai.of Tryz.func35 (by kernel_rfl) (by kernel_rfl)
theorem nX:pN Tryz.prog 33 22 1 24:=.of (z:=(.slice none 0 0)) Tryz.underlying33 (by kernel_rfl) rfl rfl rfl
theorem MD:ai Tryz.prog 31:=ai.of Tryz.func31 (by kernel_rfl) (by kernel_rfl)
theorem QK:∀i z,Tryz.prog.info? 22=some i->i.zero=some z->∀S w,rd S w .val (.slice none 0 0) z.cells.toList:=Ot (t:=.val) (z0:=(.slice none 0 0)) (by kernel_rfl) λ_ _=>⟨rfl,rfl⟩
theorem Vg:ai Tryz.prog 7:=ai.of Tryz.func7 (by kernel_rfl) (by kernel_rfl)
theorem MF:ai Tryz.prog 17:=ai.of Tryz.func17 (by kernel_rfl) (by kernel_rfl)
theorem vS:∀w,(zeroValue 28).run Tryz.prog w= .ok (.agg #[(.int .i64 (0)),(.int .i64 (0)),(.int .i64 (0)),(.int .i64 (0)),(.slice none 0 0),(.slice none 0 0)]) w:=λw=>by kernel_rfl
theorem AW:∀S w,(A.cells S w (.agg (.pair (.eq (.int .i64 (0:Int))) (.pair (.eq (.int .i64 (0:Int))) (.pair (.eq (.int .i64 (0:Int))) (.pair (.eq (.int .i64 (0:Int))) (.pair (.eq (.slice none 0 0)) (.eq (.slice none 0 0)))))))) (Value.cells (.agg #[(.int .i64 (0)),(.int .i64 (0)),(.int .i64 (0)),(.int .i64 (0)),(.slice none 0 0),(.slice none 0 0)])).toList):=λ_ _=>⟨[_],_,rfl,⟨rfl,rfl⟩,⟨[_],_,rfl,⟨rfl,rfl⟩,⟨[_],_,rfl,⟨rfl,rfl⟩,⟨[_],_,rfl,⟨rfl,rfl⟩,⟨[_],_,rfl,⟨rfl,rfl⟩,⟨rfl,rfl⟩⟩⟩⟩⟩⟩
theorem PZ:ai Tryz.prog 32:=ai.of Tryz.func32 (by kernel_rfl) (by kernel_rfl)
theorem Q4:yZ Tryz.prog 28 #[(0,1),(1,1),(2,1),(3,1),(4,1),(5,1)]:=⟨_,Tryz.underlying28,λ_=>by kernel_rfl⟩
theorem Og:∀S w,(A.cells S w (.pair (.eq (.int .i64 (0:Int))) (.pair (.eq (.int .i64 (0:Int))) (.pair (.eq (.int .i64 (0:Int))) (.pair (.eq (.int .i64 (0:Int))) (.pair (.eq (.slice none 0 0)) (.eq (.slice none 0 0))))))) (Value.cells (.agg #[(.int .i64 (0)),(.int .i64 (0)),(.int .i64 (0)),(.int .i64 (0)),(.slice none 0 0),(.slice none 0 0)])).toList):=λ_ _=>⟨[_],_,rfl,⟨rfl,rfl⟩,⟨[_],_,rfl,⟨rfl,rfl⟩,⟨[_],_,rfl,⟨rfl,rfl⟩,⟨[_],_,rfl,⟨rfl,rfl⟩,⟨[_],_,rfl,⟨rfl,rfl⟩,⟨rfl,rfl⟩⟩⟩⟩⟩⟩
theorem gC:eu Tryz.prog 28 6 true:=⟨λw=>by kernel_rfl,λw=>by kernel_rfl⟩
theorem cS:aV Tryz.prog 28 4 4:=aV.of (by kernel_rfl)
theorem gG:eu Tryz.prog 25 1 false:=⟨λw=>by kernel_rfl,λw=>by kernel_rfl⟩
theorem ge:aV Tryz.prog 28 0 0:=aV.of (by kernel_rfl)
theorem UH:ai Tryz.prog 33:=ai.of Tryz.func33 (by kernel_rfl) (by kernel_rfl)
theorem uD:pN Tryz.prog 25 33 1 24:=.of (z:=(.slice none 0 0)) Tryz.underlying25 (by kernel_rfl) rfl rfl rfl
theorem mP:eu Tryz.prog 33 1 false:=⟨λw=>by kernel_rfl,λw=>by kernel_rfl⟩
theorem ME:ai Tryz.prog 18:=ai.of Tryz.func18 (by kernel_rfl) (by kernel_rfl)
theorem EY:∀w,(zeroValue 35).run Tryz.prog w= .ok (.agg #[(.int .i64 (0)),(.int .i64 (0)),(.bool false)]) w:=λw=>by kernel_rfl
theorem Na:∀S w,(A.cells S w (.agg (.pair (.eq (.int .i64 (0:Int))) (.pair (.eq (.int .i64 (0:Int))) (.eq (.bool false))))) (Value.cells (.agg #[(.int .i64 (0)),(.int .i64 (0)),(.bool false)])).toList):=λ_ _=>⟨[_],_,rfl,⟨rfl,rfl⟩,⟨[_],_,rfl,⟨rfl,rfl⟩,⟨rfl,rfl⟩⟩⟩
theorem Q3:yZ Tryz.prog 35 #[(0,1),(1,1),(2,1)]:=⟨_,Tryz.underlying35,λ_=>by kernel_rfl⟩
theorem Of:∀S w,(A.cells S w (.pair (.eq (.int .i64 (0:Int))) (.pair (.eq (.int .i64 (0:Int))) (.eq (.bool false)))) (Value.cells (.agg #[(.int .i64 (0)),(.int .i64 (0)),(.bool false)])).toList):=λ_ _=>⟨[_],_,rfl,⟨rfl,rfl⟩,⟨[_],_,rfl,⟨rfl,rfl⟩,⟨rfl,rfl⟩⟩⟩
theorem sw:eu Tryz.prog 35 3 true:=⟨λw=>by kernel_rfl,λw=>by kernel_rfl⟩
theorem UO:ai Tryz.prog 14:=ai.of Tryz.func14 (by kernel_rfl) (by kernel_rfl)
theorem mE:aV Tryz.prog 28 5 5:=aV.of (by kernel_rfl)
theorem vW:eu Tryz.prog 26 1 false:=⟨λw=>by kernel_rfl,λw=>by kernel_rfl⟩
theorem UN:ai Tryz.prog 16:=ai.of Tryz.func16 (by kernel_rfl) (by kernel_rfl)
theorem Fa:pN Tryz.prog 26 35 3 24:=.of (z:=(.agg #[(.int .i64 (0)),(.int .i64 (0)),(.bool false)])) Tryz.underlying26 (by kernel_rfl) rfl rfl rfl
theorem yA:ai Tryz.prog 37:=ai.of Tryz.func37 (by kernel_rfl) (by kernel_rfl)
theorem Jc:ai Tryz.prog 47:=ai.of Tryz.func47 (by kernel_rfl) (by kernel_rfl)
theorem PY:ai Tryz.prog 38:=ai.of Tryz.func38 (by kernel_rfl) (by kernel_rfl)
theorem yw:aV Tryz.prog 35 0 0:=aV.of (by kernel_rfl)
theorem I5:aV Tryz.prog 35 1 1:=aV.of (by kernel_rfl)
theorem CO:aV Tryz.prog 28 1 1:=aV.of (by kernel_rfl)
theorem CN:aV Tryz.prog 28 2 2:=aV.of (by kernel_rfl)
theorem I6:aV Tryz.prog 28 3 3:=aV.of (by kernel_rfl)
theorem Uu:ai Tryz.prog 62:=ai.of Tryz.func62 (by kernel_rfl) (by kernel_rfl)
theorem Ut:ai Tryz.prog 63:=ai.of Tryz.func63 (by kernel_rfl) (by kernel_rfl)
theorem Ks:∀w,(zeroValue 56).run Tryz.prog w= .ok (.agg #[(.int .i64 (0)),(.int .i64 (0)),(.int .i64 (0)),(.int .i64 (0)),(.int .i64 (0))]) w:=λw=>by kernel_rfl
theorem M9:∀S w,(A.cells S w (.rep (.arr 5 (.int .i64)) [(0:Int),(0:Int),(0:Int),(0:Int),(0:Int)]) (Value.cells (.agg #[(.int .i64 (0)),(.int .i64 (0)),(.int .i64 (0)),(.int .i64 (0)),(.int .i64 (0))])).toList):=λ_ _=>⟨rfl,⟨[_],_,rfl,rfl,⟨[_],_,rfl,rfl,⟨[_],_,rfl,rfl,⟨[_],_,rfl,rfl,⟨[_],_,rfl,rfl,rfl⟩⟩⟩⟩⟩⟩
theorem jx:aV Tryz.prog 94 0 0:=aV.of (by kernel_rfl)
theorem jm:eu Tryz.prog 56 5 true:=⟨λw=>by kernel_rfl,λw=>by kernel_rfl⟩
theorem N8:ai Tryz.prog 132:=ai.of Tryz.func132 (by kernel_rfl) (by kernel_rfl)
theorem Sz:ai Tryz.prog 122:=ai.of Tryz.func122 (by kernel_rfl) (by kernel_rfl)
theorem Sr:ai Tryz.prog 126:=ai.of Tryz.func126 (by kernel_rfl) (by kernel_rfl)
theorem SB:ai Tryz.prog 116:=ai.of Tryz.func116 (by kernel_rfl) (by kernel_rfl)
theorem SC:ai Tryz.prog 115:=ai.of Tryz.func115 (by kernel_rfl) (by kernel_rfl)
theorem SD:ai Tryz.prog 114:=ai.of Tryz.func114 (by kernel_rfl) (by kernel_rfl)
theorem RZ:ai Tryz.prog 55:=ai.of Tryz.func55 (by kernel_rfl) (by kernel_rfl)
theorem SG:ai Tryz.prog 101:=ai.of Tryz.func101 (by kernel_rfl) (by kernel_rfl)
theorem Q5:yZ Tryz.prog 137 #[(0,1)]:=⟨_,Tryz.underlying137,λ_=>by kernel_rfl⟩
theorem NN:∀w,(zeroValue 137).run Tryz.prog w= .ok (.agg #[(.slice none 0 0)]) w:=λw=>by kernel_rfl
theorem Qd:∀S w,(A.cells S w (.eq (.slice none 0 0)) (Value.cells (.agg #[(.slice none 0 0)])).toList):=λ_ _=>⟨rfl,rfl⟩
theorem PW:ai Tryz.prog 70:=ai.of Tryz.func70 (by kernel_rfl) (by kernel_rfl)
theorem Hl:JA Tryz.prog 135 (.agg #[.int .i64 0]):=⟨⟨_,Tryz.underlying135⟩,λw=>by kernel_rfl⟩
theorem GL:∀w,(zeroValue 135).run Tryz.prog w= .ok (.agg #[(.int .i64 (0))]) w:=λw=>by kernel_rfl
theorem Oi:∀S w,(A.cells S w (.agg (.eq (.int .i64 (0:Int)))) (Value.cells (.agg #[(.int .i64 (0))])).toList):=λ_ _=>⟨rfl,rfl⟩
theorem NY:eu Tryz.prog 135 1 true:=⟨λw=>by kernel_rfl,λw=>by kernel_rfl⟩
theorem Eg:aV Tryz.prog 135 0 0:=aV.of (by kernel_rfl)
theorem Q6:yZ Tryz.prog 135 #[(0,1)]:=⟨_,Tryz.underlying135,λ_=>by kernel_rfl⟩
theorem Qe:∀S w,(A.cells S w (.eq (.int .i64 (0:Int))) (Value.cells (.agg #[(.int .i64 (0))])).toList):=λ_ _=>⟨rfl,rfl⟩
theorem Mc:aV Tryz.prog 137 0 0:=aV.of (by kernel_rfl)
theorem wh:EO Tryz.prog 135 "galloon/moth.beside" 150:=λu w=>by kernel_rfl
theorem we:EO Tryz.prog 137 "galloon/moth.beside" 151:=λu w=>by kernel_rfl
theorem OL:JA Tryz.prog 137 (.agg #[.slice none 0 0]):=⟨⟨_,Tryz.underlying137⟩,λw=>by kernel_rfl⟩
theorem SO:∀S w,(A.cells S w (.agg (.eq (.slice none 0 0))) (Value.cells (.agg #[(.slice none 0 0)])).toList):=λ_ _=>⟨rfl,rfl⟩
theorem QX:eu Tryz.prog 137 1 true:=⟨λw=>by kernel_rfl,λw=>by kernel_rfl⟩
theorem RV:ai Tryz.prog 71:=ai.of Tryz.func71 (by kernel_rfl) (by kernel_rfl)
theorem UF:ai Tryz.prog 36:=ai.of Tryz.func36 (by kernel_rfl) (by kernel_rfl)
theorem TK:∀w,(zeroValue 83).run Tryz.prog w= .ok (.agg #[.int .i64 0,.int .i64 0,.int .i64 0]) w:=λw=>by kernel_rfl
theorem MC:ai Tryz.prog 39:=ai.of Tryz.func39 (by kernel_rfl) (by kernel_rfl)
theorem UE:ai Tryz.prog 40:=ai.of Tryz.func40 (by kernel_rfl) (by kernel_rfl)
theorem Az:ai Tryz.prog 19:=ai.of Tryz.func19 (by kernel_rfl) (by kernel_rfl)
theorem FO:ai Tryz.prog 20:=ai.of Tryz.func20 (by kernel_rfl) (by kernel_rfl)
theorem GK:∀w,(zeroValue 58).run Tryz.prog w= .ok (.agg #[(.int .i64 (0)),(.int .i64 (0)),(.int .i64 (0)),(.int .i64 (0)),(.int .i64 (0)),(.int .i64 (0)),(.int .i64 (0)),(.int .i64 (0)),(.int .i64 (0)),(.int .i64 (0)),(.int .i64 (0)),(.int .i64 (0)),(.int .i64 (0)),(.int .i64 (0)),(.int .i64 (0)),(.int .i64 (0)),(.int .i64 (0)),(.int .i64 (0)),(.int .i64 (0)),(.int .i64 (0)),(.int .i64 (0)),(.int .i64 (0)),(.int .i64 (0)),(.int .i64 (0)),(.int .i64 (0)),(.int .i64 (0)),(.int .i64 (0)),(.int .i64 (0)),(.int .i64 (0)),(.int .i64 (0)),(.int .i64 (0)),(.int .i64 (0)),(.int .i64 (0)),(.int .i64 (0)),(.int .i64 (0))]) w:=λw=>by kernel_rfl
theorem Js:∀S w,(A.cells S w (.rep (.arr 7 (.arr 5 (.int .i64))) [[(0:Int),(0:Int),(0:Int),(0:Int),(0:Int)],[(0:Int),(0:Int),(0:Int),(0:Int),(0:Int)],[(0:Int),(0:Int),(0:Int),(0:Int),(0:Int)],[(0:Int),(0:Int),(0:Int),(0:Int),(0:Int)],[(0:Int),(0:Int),(0:Int),(0:Int),(0:Int)],[(0:Int),(0:Int),(0:Int),(0:Int),(0:Int)],[(0:Int),(0:Int),(0:Int),(0:Int),(0:Int)]]) (Value.cells (.agg #[(.int .i64 (0)),(.int .i64 (0)),(.int .i64 (0)),(.int .i64 (0)),(.int .i64 (0)),(.int .i64 (0)),(.int .i64 (0)),(.int .i64 (0)),(.int .i64 (0)),(.int .i64 (0)),(.int .i64 (0)),(.int .i64 (0)),(.int .i64 (0)),(.int .i64 (0)),(.int .i64 (0)),(.int .i64 (0)),(.int .i64 (0)),(.int .i64 (0)),(.int .i64 (0)),(.int .i64 (0)),(.int .i64 (0)),(.int .i64 (0)),(.int .i64 (0)),(.int .i64 (0)),(.int .i64 (0)),(.int .i64 (0)),(.int .i64 (0)),(.int .i64 (0)),(.int .i64 (0)),(.int .i64 (0)),(.int .i64 (0)),(.int .i64 (0)),(.int .i64 (0)),(.int .i64 (0)),(.int .i64 (0))])).toList):=λ_ _=>⟨rfl,⟨[_,_,_,_,_],_,rfl,⟨rfl,⟨[_],_,rfl,rfl,⟨[_],_,rfl,rfl,⟨[_],_,rfl,rfl,⟨[_],_,rfl,rfl,⟨[_],_,rfl,rfl,rfl⟩⟩⟩⟩⟩⟩,⟨[_,_,_,_,_],_,rfl,⟨rfl,⟨[_],_,rfl,rfl,⟨[_],_,rfl,rfl,⟨[_],_,rfl,rfl,⟨[_],_,rfl,rfl,⟨[_],_,rfl,rfl,rfl⟩⟩⟩⟩⟩⟩,⟨[_,_,_,_,_],_,rfl,⟨rfl,⟨[_],_,rfl,rfl,⟨[_],_,rfl,rfl,⟨[_],_,rfl,rfl,⟨[_],_,rfl,rfl,⟨[_],_,rfl,rfl,rfl⟩⟩⟩⟩⟩⟩,⟨[_,_,_,_,_],_,rfl,⟨rfl,⟨[_],_,rfl,rfl,⟨[_],_,rfl,rfl,⟨[_],_,rfl,rfl,⟨[_],_,rfl,rfl,⟨[_],_,rfl,rfl,rfl⟩⟩⟩⟩⟩⟩,⟨[_,_,_,_,_],_,rfl,⟨rfl,⟨[_],_,rfl,rfl,⟨[_],_,rfl,rfl,⟨[_],_,rfl,rfl,⟨[_],_,rfl,rfl,⟨[_],_,rfl,rfl,rfl⟩⟩⟩⟩⟩⟩,⟨[_,_,_,_,_],_,rfl,⟨rfl,⟨[_],_,rfl,rfl,⟨[_],_,rfl,rfl,⟨[_],_,rfl,rfl,⟨[_],_,rfl,rfl,⟨[_],_,rfl,rfl,rfl⟩⟩⟩⟩⟩⟩,⟨[_,_,_,_,_],_,rfl,⟨rfl,⟨[_],_,rfl,rfl,⟨[_],_,rfl,rfl,⟨[_],_,rfl,rfl,⟨[_],_,rfl,rfl,⟨[_],_,rfl,rfl,rfl⟩⟩⟩⟩⟩⟩,rfl⟩⟩⟩⟩⟩⟩⟩⟩
theorem Ho:eu Tryz.prog 58 35 true:=⟨λw=>by kernel_rfl,λw=>by kernel_rfl⟩
theorem UM:ai Tryz.prog 21:=ai.of Tryz.func21 (by kernel_rfl) (by kernel_rfl)
theorem QY:eu Tryz.prog 114 1 false:=⟨λw=>by kernel_rfl,λw=>by kernel_rfl⟩
theorem Hq:eu Tryz.prog 113 1 false:=⟨λw=>by kernel_rfl,λw=>by kernel_rfl⟩
theorem RS:ai Tryz.prog 73:=ai.of Tryz.func73 (by kernel_rfl) (by kernel_rfl)
theorem QM:∀w,(zeroValue 113).run Tryz.prog w= .ok .nilFunc w:=λw=>by kernel_rfl
theorem SQ:∀S w,(A.cells S w (.eq .nilFunc) (Value.cells .nilFunc).toList):=λ_ _=>⟨rfl,rfl⟩
theorem PU:aV Tryz.prog 35 2 2:=aV.of (by kernel_rfl)
theorem Vp:eu Tryz.prog 4 1 false:=⟨λw=>by kernel_rfl,λw=>by kernel_rfl⟩
theorem QL:∀w,(zeroValue 139).run Tryz.prog w= .ok (.agg #[]) w:=λw=>by kernel_rfl
theorem Kr:∀w,(zeroValue 61).run Tryz.prog w= .ok (.slice none 0 0) w:=λw=>by kernel_rfl
theorem M8:∀S w,(A.cells S w (.eq (.slice none 0 0)) (Value.cells (.slice none 0 0)).toList):=λ_ _=>⟨rfl,rfl⟩
theorem KN:eu Tryz.prog 51 1 false:=⟨λw=>by kernel_rfl,λw=>by kernel_rfl⟩
theorem R9:ai Tryz.prog 45:=ai.of Tryz.func45 (by kernel_rfl) (by kernel_rfl)
theorem qc:eu Tryz.prog 52 1 false:=⟨λw=>by kernel_rfl,λw=>by kernel_rfl⟩
theorem UD:ai Tryz.prog 46:=ai.of Tryz.func46 (by kernel_rfl) (by kernel_rfl)
theorem xP:eu Tryz.prog 61 1 false:=⟨λw=>by kernel_rfl,λw=>by kernel_rfl⟩
theorem KZ:pN Tryz.prog 61 52 1 1:=.of (z:=(.int .u8 (0))) Tryz.underlying61 (by kernel_rfl) rfl rfl rfl
theorem RU:ai Tryz.prog 72:=ai.of Tryz.func72 (by kernel_rfl) (by kernel_rfl)
theorem Sl:ai Tryz.prog 22:=ai.of Tryz.func22 (by kernel_rfl) (by kernel_rfl)
theorem P1:ai Tryz.prog 23:=ai.of Tryz.func23 (by kernel_rfl) (by kernel_rfl)
theorem PX:ai Tryz.prog 48:=ai.of Tryz.func48 (by kernel_rfl) (by kernel_rfl)
theorem Br:∀w,(zeroValue 66).run Tryz.prog w= .ok (.agg #[(.int .i64 (0)),(.int .i64 (0))]) w:=λw=>by kernel_rfl
theorem SN:∀S w,(A.cells S w (.agg (.pair (.eq (.int .i64 (0:Int))) (.eq (.int .i64 (0:Int))))) (Value.cells (.agg #[(.int .i64 (0)),(.int .i64 (0))])).toList):=λ_ _=>⟨[_],_,rfl,⟨rfl,rfl⟩,⟨rfl,rfl⟩⟩
theorem FM:ai Tryz.prog 49:=ai.of Tryz.func49 (by kernel_rfl) (by kernel_rfl)
theorem HQ:yZ Tryz.prog 66 #[(0,1),(1,1)]:=⟨_,Tryz.underlying66,λ_=>by kernel_rfl⟩
theorem AV:∀S w,(A.cells S w (.pair (.eq (.int .i64 (0:Int))) (.eq (.int .i64 (0:Int)))) (Value.cells (.agg #[(.int .i64 (0)),(.int .i64 (0))])).toList):=λ_ _=>⟨[_],_,rfl,⟨rfl,rfl⟩,⟨rfl,rfl⟩⟩
theorem vV:eu Tryz.prog 66 2 true:=⟨λw=>by kernel_rfl,λw=>by kernel_rfl⟩
theorem R7:ai Tryz.prog 50:=ai.of Tryz.func50 (by kernel_rfl) (by kernel_rfl)
theorem R2:ai Tryz.prog 51:=ai.of Tryz.func51 (by kernel_rfl) (by kernel_rfl)
theorem UC:ai Tryz.prog 52:=ai.of Tryz.func52 (by kernel_rfl) (by kernel_rfl)
theorem tK:∀w,(zeroValue 108).run Tryz.prog w= .ok (.agg #[(.int .i64 (0)),(.int .i64 (0))]) w:=λw=>by kernel_rfl
theorem AX:∀S w,(A.cells S w (.agg (.pair (.eq (.int .i64 (0:Int))) (.eq (.int .i64 (0:Int))))) (Value.cells (.agg #[(.int .i64 (0)),(.int .i64 (0))])).toList):=λ_ _=>⟨[_],_,rfl,⟨rfl,rfl⟩,⟨rfl,rfl⟩⟩
theorem yx:aV Tryz.prog 108 0 0:=aV.of (by kernel_rfl)
theorem Me:aV Tryz.prog 108 1 1:=aV.of (by kernel_rfl)
theorem jL:eu Tryz.prog 108 2 true:=⟨λw=>by kernel_rfl,λw=>by kernel_rfl⟩
theorem HS:yZ Tryz.prog 108 #[(0,1),(1,1)]:=⟨_,Tryz.underlying108,λ_=>by kernel_rfl⟩
theorem Dc:∀S w,(A.cells S w (.pair (.eq (.int .i64 (0:Int))) (.eq (.int .i64 (0:Int)))) (Value.cells (.agg #[(.int .i64 (0)),(.int .i64 (0))])).toList):=λ_ _=>⟨[_],_,rfl,⟨rfl,rfl⟩,⟨rfl,rfl⟩⟩
theorem UB:ai Tryz.prog 53:=ai.of Tryz.func53 (by kernel_rfl) (by kernel_rfl)
theorem RQ:ND Tryz.prog 108 bX:=by
 refine⟨rfl,by kernel_rfl,λw x y=>?_⟩;have u3:=Tryz.underlying3;have a3:=Tryz.isAgg3;have z3:=Tryz.sizeOf3;have hS:Tryz.prog.underlying 108=some (.struct (Tryz.prog.fieldsOf 108)):=by kernel_rfl
 have hp:Tryz.prog.stoodInHeld 108=false:=by kernel_rfl
 rw [show(10000:Nat)=9999+1 from rfl,run_equalIn_agg w 9999 108 _ _ hS hp];simp only [Program.fieldsOf,Tryz.underlying108,rR];refine⟨decide (x=y),?_,decide_eq_true_iff⟩;go_simp;obtain⟨p0,p1⟩:=x;obtain⟨q0,q1⟩:=y;by_cases h0:p0=q0 <;> by_cases h1:p1=q1 <;> simp [h0,h1]
theorem UA:ai Tryz.prog 54:=ai.of Tryz.func54 (by kernel_rfl) (by kernel_rfl)
theorem Uy:ai Tryz.prog 58:=ai.of Tryz.func58 (by kernel_rfl) (by kernel_rfl)
theorem Uz:ai Tryz.prog 57:=ai.of Tryz.func57 (by kernel_rfl) (by kernel_rfl)
theorem Ur:ai Tryz.prog 76:=ai.of Tryz.func76 (by kernel_rfl) (by kernel_rfl)
theorem NZ:eu Tryz.prog 117 1 false:=⟨λw=>by kernel_rfl,λw=>by kernel_rfl⟩
theorem RX:ai Tryz.prog 61:=ai.of Tryz.func61 (by kernel_rfl) (by kernel_rfl)
theorem Uo:ai Tryz.prog 78:=ai.of Tryz.func78 (by kernel_rfl) (by kernel_rfl)
theorem Up:ai Tryz.prog 77:=ai.of Tryz.func77 (by kernel_rfl) (by kernel_rfl)
theorem RY:ai Tryz.prog 56:=ai.of Tryz.func56 (by kernel_rfl) (by kernel_rfl)
theorem TL:∀w,(zeroValue 51).run Tryz.prog w= .ok (.pointer none) w:=λw=>by kernel_rfl
theorem UR:∀S w,(A.cells S w (.eq (.pointer none)) (Value.cells (.pointer none)).toList):=λ_ _=>⟨rfl,rfl⟩
theorem Ux:ai Tryz.prog 59:=ai.of Tryz.func59 (by kernel_rfl) (by kernel_rfl)
theorem Uw:ai Tryz.prog 60:=ai.of Tryz.func60 (by kernel_rfl) (by kernel_rfl)
theorem P0:ai Tryz.prog 30:=ai.of Tryz.func30 (by kernel_rfl) (by kernel_rfl)
theorem FN:ai Tryz.prog 24:=ai.of Tryz.func24 (by kernel_rfl) (by kernel_rfl)
theorem P3:ai Tryz.prog 10:=ai.of Tryz.func10 (by kernel_rfl) (by kernel_rfl)
theorem P2:ai Tryz.prog 11:=ai.of Tryz.func11 (by kernel_rfl) (by kernel_rfl)
theorem UL:ai Tryz.prog 25:=ai.of Tryz.func25 (by kernel_rfl) (by kernel_rfl)
theorem UK:ai Tryz.prog 26:=ai.of Tryz.func26 (by kernel_rfl) (by kernel_rfl)
theorem UJ:ai Tryz.prog 27:=ai.of Tryz.func27 (by kernel_rfl) (by kernel_rfl)
theorem UI:ai Tryz.prog 28:=ai.of Tryz.func28 (by kernel_rfl) (by kernel_rfl)
theorem Un:ND Tryz.prog 66 bX:=by
 refine⟨rfl,by kernel_rfl,λw x y=>?_⟩;have u3:=Tryz.underlying3;have a3:=Tryz.isAgg3;have z3:=Tryz.sizeOf3;have hS:Tryz.prog.underlying 66=some (.struct (Tryz.prog.fieldsOf 66)):=by kernel_rfl
 have hp:Tryz.prog.stoodInHeld 66=false:=by kernel_rfl
 rw [show(10000:Nat)=9999+1 from rfl,run_equalIn_agg w 9999 66 _ _ hS hp];simp only [Program.fieldsOf,Tryz.underlying66,rR];refine⟨decide (x=y),?_,decide_eq_true_iff⟩;go_simp;obtain⟨p0,p1⟩:=x;obtain⟨q0,q1⟩:=y;by_cases h0:p0=q0 <;> by_cases h1:p1=q1 <;> simp [h0,h1]
theorem Sj:ai Tryz.prog 29:=ai.of Tryz.func29 (by kernel_rfl) (by kernel_rfl)
theorem Vx:ai Tryz.prog 4:=ai.of Tryz.func4 (by kernel_rfl) (by kernel_rfl)
theorem Vw:ai Tryz.prog 5:=ai.of Tryz.func5 (by kernel_rfl) (by kernel_rfl)
theorem Vv:ai Tryz.prog 6:=ai.of Tryz.func6 (by kernel_rfl) (by kernel_rfl)
theorem Vu:ai Tryz.prog 8:=ai.of Tryz.func8 (by kernel_rfl) (by kernel_rfl)
theorem Vf:ai Tryz.prog 9:=ai.of Tryz.func9 (by kernel_rfl) (by kernel_rfl)
theorem SA:ai Tryz.prog 12:=ai.of Tryz.func12 (by kernel_rfl) (by kernel_rfl)
theorem UP:ai Tryz.prog 13:=ai.of Tryz.func13 (by kernel_rfl) (by kernel_rfl)
abbrev Rs(t:Ty)(l:(Ty.slice t).den):A:=.rep (.slice t) l
abbrev Pv(b:Nat):Value:=.pointer (some ⟨b,0,none⟩)
abbrev UW:= @Tryz.underlying108
abbrev Gg:= @Tryz.underlying109
abbrev UV:= @Tryz.underlying118
abbrev UU:= @Tryz.underlying135
abbrev UT:= @Tryz.underlying137
abbrev Ql:= @Tryz.underlying139
abbrev ix:= @Tryz.underlying22
abbrev xw:= @Tryz.underlying25
abbrev Oj:= @Tryz.underlying26
abbrev U3:= @Tryz.underlying3
abbrev qP:= @Tryz.underlying33
abbrev U4:= @Tryz.underlying4
abbrev TA:= @Tryz.underlying44
abbrev U5:= @Tryz.underlying5
abbrev Dj:= @Tryz.underlying56
abbrev Kp:= @Tryz.underlying58
abbrev Bq:= @Tryz.underlying61
abbrev Vk:= @Tryz.underlying83
abbrev U9:= @Tryz.underlying9
theorem nY:false=false->1=1:=λ_=>rfl
