import Derived.Test.YtmbkabgllafffaaGreatVKB5
import Derived.Test.YtmbkabgllafffaaGreatProg
open Nat
open List hiding mem_of_getElem?
open Array hiding mem_of_getElem? mk
set_option linter.unusedVariables false
set_option linter.unusedSimpArgs false
namespace Go.Proofs.YtmbkabgllafffaaGreat
open K Go Go.Proofs
@[reducible] def Ti:Ty:=.int .i64
@[reducible] def Tl:Ty:=.slice Ti
@[reducible] def Tr:Ty:=.arr 5 Ti
theorem dS:Tryz.prog.follows .mixedOrders=true:=by kernel_rfl
theorem s7{n:Nat}:true=false->n=1:=λh=>nomatch h
def LO:ByteArray:=⟨#[0,1,2,2,3,3,3,3,4,4,4,4,4,4,4,4,5,5,5,5,5,5,5,5,5,5,5,5,5,5,5,5,6,6,6,6,6,6,6,6,6,6,6,6,6,6,6,6,6,6,6,6,6,6,6,6,6,6,6,6,6,6,6,6,7,7,7,7,7,7,7,7,7,7,7,7,7,7,7,7,7,7,7,7,7,7,7,7,7,7,7,7,7,7,7,7,7,7,7,7,7,7,7,7,7,7,7,7,7,7,7,7,7,7,7,7,7,7,7,7,7,7,7,7,7,7,7,7,8,8,8,8,8,8,8,8,8,8,8,8,8,8,8,8,8,8,8,8,8,8,8,8,8,8,8,8,8,8,8,8,8,8,8,8,8,8,8,8,8,8,8,8,8,8,8,8,8,8,8,8,8,8,8,8,8,8,8,8,8,8,8,8,8,8,8,8,8,8,8,8,8,8,8,8,8,8,8,8,8,8,8,8,8,8,8,8,8,8,8,8,8,8,8,8,8,8,8,8,8,8,8,8,8,8,8,8,8,8,8,8,8,8,8,8,8,8,8,8,8,8,8,8,8,8,8,8]⟩
@[reducible] def aR:Ty:=.agg (.pair (.int .i64) (.pair (.int .i64) .bool))
abbrev bp:=(Int×(Int×Bool))
@[reducible] def an:Ty:=.agg (.pair (.int .i64) (.pair (.int .i64) (.pair (.int .i64) (.pair (.int .i64) (.pair (.slice (.slice (.slice (.int .i64)))) (.slice aR))))))
abbrev ae:=(Int×(Int×(Int×(Int×((List (List (List Int)))×(List bp))))))
@[reducible] def UW:Ty:=.agg (.pair (.slice (.int .i64)) (.pair (.int .i64) (.int .u64)))
abbrev bJ:=((List Int)×(Int×Int))
@[reducible] def bS:Ty:=.agg (.pair (.int .i64) (.int .i64))
abbrev fU:=(Int×Int)
@[reducible] def QA:Ty:=.agg (.int .i64)
abbrev NZ:=Int
@[reducible] def Qz:Ty:=.agg (.slice (.int .i64))
abbrev NY:=(List Int)
@[reducible] def DD:Ty:=.agg (.pair (.int .i64) (.pair (.int .i64) (.pair (.int .i64) (.pair (.int .i64) (.pair (.slice (.slice (.slice (.int .i64)))) .ign)))))
abbrev yD:=(Int×(Int×(Int×(Int×((List (List (List Int)))×Unit)))))
@[reducible] def G8:Ty:=bS
abbrev fe:=fU
theorem Tz:yX Tryz.prog 60 #[(0,1),(1,1),(2,1)]:=⟨_,Tryz.underlying60,λ_=>by kernel_rfl⟩
theorem Tm:∀w,(zeroValue 60).run Tryz.prog w= .ok (.agg #[(.slice none 0 0),(.int .i64 (0)),(.int .u64 (0))]) w:=λw=>by kernel_rfl
theorem RY:∀S w,(A.cells S w (.pair (.eq (.slice none 0 0)) (.pair (.eq (.int .i64 (0:Int))) (.eq (.int .u64 (0:Int))))) (Value.cells (.agg #[(.slice none 0 0),(.int .i64 (0)),(.int .u64 (0))])).toList):=λ_ _=>⟨[_],_,rfl,⟨rfl,rfl⟩,⟨[_],_,rfl,⟨rfl,rfl⟩,⟨rfl,rfl⟩⟩⟩
theorem tu:aY Tryz.prog 60 2 2:=aY.of (by kernel_rfl)
theorem E2:eF Tryz.prog 58 1 false:=⟨λw=>by kernel_rfl,λw=>by kernel_rfl⟩
theorem yv:aY Tryz.prog 60 1 1:=aY.of (by kernel_rfl)
theorem cF:eF Tryz.prog 3 1 false:=⟨λw=>by kernel_rfl,λw=>by kernel_rfl⟩
theorem IU:aY Tryz.prog 60 0 0:=aY.of (by kernel_rfl)
theorem dN:eF Tryz.prog 22 1 false:=⟨λw=>by kernel_rfl,λw=>by kernel_rfl⟩
theorem UB:ag Tryz.prog 34:=ag.of Tryz.func34 (by kernel_rfl) (by kernel_rfl)
theorem dO:qo Tryz.prog 22 3 1 8:=.of (z:=(.int .i64 (0))) Tryz.underlying22 (by kernel_rfl) rfl rfl rfl
theorem Ud:ag Tryz.prog 83:=ag.of Tryz.func83 (by kernel_rfl) (by kernel_rfl)
theorem l9:qo Tryz.prog 29 22 1 24:=.of (z:=(.slice none 0 0)) Tryz.underlying29 (by kernel_rfl) rfl rfl rfl
theorem I1:ag Tryz.prog 9:=ag.of Tryz.func9 (by kernel_rfl) (by kernel_rfl)
theorem L8:ag Tryz.prog 57:=ag.of Tryz.func57 (by kernel_rfl) (by kernel_rfl)
theorem Qn:∀i z,Tryz.prog.info? 22=some i->i.zero=some z->∀S w,rd S w .val (.slice none 0 0) z.cells.toList:=Oe (t:=.val) (z0:=(.slice none 0 0)) (by kernel_rfl) λ_ _=>⟨rfl,rfl⟩
theorem Uc:ag Tryz.prog 87:=ag.of Tryz.func87 (by kernel_rfl) (by kernel_rfl)
theorem L6:ag Tryz.prog 59:=ag.of Tryz.func59 (by kernel_rfl) (by kernel_rfl)
theorem uw:∀w,(zeroValue 28).run Tryz.prog w= .ok (.agg #[(.int .i64 (0)),(.int .i64 (0)),(.int .i64 (0)),(.int .i64 (0)),(.slice none 0 0),(.slice none 0 0)]) w:=λw=>by kernel_rfl
theorem yN:∀S w,(A.cells S w (.agg (.pair (.eq (.int .i64 (0:Int))) (.pair (.eq (.int .i64 (0:Int))) (.pair (.eq (.int .i64 (0:Int))) (.pair (.eq (.int .i64 (0:Int))) (.pair (.eq (.slice none 0 0)) (.eq (.slice none 0 0)))))))) (Value.cells (.agg #[(.int .i64 (0)),(.int .i64 (0)),(.int .i64 (0)),(.int .i64 (0)),(.slice none 0 0),(.slice none 0 0)])).toList):=λ_ _=>⟨[_],_,rfl,⟨rfl,rfl⟩,⟨[_],_,rfl,⟨rfl,rfl⟩,⟨[_],_,rfl,⟨rfl,rfl⟩,⟨[_],_,rfl,⟨rfl,rfl⟩,⟨[_],_,rfl,⟨rfl,rfl⟩,⟨rfl,rfl⟩⟩⟩⟩⟩⟩
theorem PG:ag Tryz.prog 58:=ag.of Tryz.func58 (by kernel_rfl) (by kernel_rfl)
theorem QJ:yX Tryz.prog 28 #[(0,1),(1,1),(2,1),(3,1),(4,1),(5,1)]:=⟨_,Tryz.underlying28,λ_=>by kernel_rfl⟩
theorem N6:∀S w,(A.cells S w (.pair (.eq (.int .i64 (0:Int))) (.pair (.eq (.int .i64 (0:Int))) (.pair (.eq (.int .i64 (0:Int))) (.pair (.eq (.int .i64 (0:Int))) (.pair (.eq (.slice none 0 0)) (.eq (.slice none 0 0))))))) (Value.cells (.agg #[(.int .i64 (0)),(.int .i64 (0)),(.int .i64 (0)),(.int .i64 (0)),(.slice none 0 0),(.slice none 0 0)])).toList):=λ_ _=>⟨[_],_,rfl,⟨rfl,rfl⟩,⟨[_],_,rfl,⟨rfl,rfl⟩,⟨[_],_,rfl,⟨rfl,rfl⟩,⟨[_],_,rfl,⟨rfl,rfl⟩,⟨[_],_,rfl,⟨rfl,rfl⟩,⟨rfl,rfl⟩⟩⟩⟩⟩⟩
theorem fE:eF Tryz.prog 28 6 true:=⟨λw=>by kernel_rfl,λw=>by kernel_rfl⟩
theorem dh:aY Tryz.prog 28 4 4:=aY.of (by kernel_rfl)
theorem ix:eF Tryz.prog 25 1 false:=⟨λw=>by kernel_rfl,λw=>by kernel_rfl⟩
theorem gG:aY Tryz.prog 28 0 0:=aY.of (by kernel_rfl)
theorem Up:ag Tryz.prog 60:=ag.of Tryz.func60 (by kernel_rfl) (by kernel_rfl)
theorem xQ:qo Tryz.prog 25 29 1 24:=.of (z:=(.slice none 0 0)) Tryz.underlying25 (by kernel_rfl) rfl rfl rfl
theorem qm:eF Tryz.prog 29 1 false:=⟨λw=>by kernel_rfl,λw=>by kernel_rfl⟩
theorem Ur:ag Tryz.prog 49:=ag.of Tryz.func49 (by kernel_rfl) (by kernel_rfl)
theorem yC:ag Tryz.prog 64:=ag.of Tryz.func64 (by kernel_rfl) (by kernel_rfl)
theorem I2:ag Tryz.prog 69:=ag.of Tryz.func69 (by kernel_rfl) (by kernel_rfl)
theorem PE:ag Tryz.prog 65:=ag.of Tryz.func65 (by kernel_rfl) (by kernel_rfl)
theorem CQ:aY Tryz.prog 46 0 0:=aY.of (by kernel_rfl)
theorem CP:aY Tryz.prog 46 1 1:=aY.of (by kernel_rfl)
theorem CS:aY Tryz.prog 28 1 1:=aY.of (by kernel_rfl)
theorem yw:aY Tryz.prog 28 2 2:=aY.of (by kernel_rfl)
theorem IW:aY Tryz.prog 28 3 3:=aY.of (by kernel_rfl)
theorem Ub:ag Tryz.prog 92:=ag.of Tryz.func92 (by kernel_rfl) (by kernel_rfl)
theorem vu:aY Tryz.prog 28 5 5:=aY.of (by kernel_rfl)
theorem Hg:eF Tryz.prog 26 1 false:=⟨λw=>by kernel_rfl,λw=>by kernel_rfl⟩
theorem sM:eF Tryz.prog 46 3 true:=⟨λw=>by kernel_rfl,λw=>by kernel_rfl⟩
theorem Br:∀w,(zeroValue 46).run Tryz.prog w= .ok (.agg #[(.int .i64 (0)),(.int .i64 (0)),(.bool false)]) w:=λw=>by kernel_rfl
theorem Jj:∀S w,(A.cells S w (.agg (.pair (.eq (.int .i64 (0:Int))) (.pair (.eq (.int .i64 (0:Int))) (.eq (.bool false))))) (Value.cells (.agg #[(.int .i64 (0)),(.int .i64 (0)),(.bool false)])).toList):=λ_ _=>⟨[_],_,rfl,⟨rfl,rfl⟩,⟨[_],_,rfl,⟨rfl,rfl⟩,⟨rfl,rfl⟩⟩⟩
theorem Ua:ag Tryz.prog 93:=ag.of Tryz.func93 (by kernel_rfl) (by kernel_rfl)
theorem Du:∀w,(zeroValue 106).run Tryz.prog w= .ok (.agg #[(.int .i64 (0)),(.int .i64 (0)),(.int .i64 (0)),(.int .i64 (0)),(.int .i64 (0))]) w:=λw=>by kernel_rfl
theorem Ey:∀S w,(A.cells S w (.rep (.arr 5 (.int .i64)) [(0:Int),(0:Int),(0:Int),(0:Int),(0:Int)]) (Value.cells (.agg #[(.int .i64 (0)),(.int .i64 (0)),(.int .i64 (0)),(.int .i64 (0)),(.int .i64 (0))])).toList):=λ_ _=>⟨rfl,⟨[_],_,rfl,rfl,⟨[_],_,rfl,rfl,⟨[_],_,rfl,rfl,⟨[_],_,rfl,rfl,⟨[_],_,rfl,rfl,rfl⟩⟩⟩⟩⟩⟩
theorem io:aY Tryz.prog 124 0 0:=aY.of (by kernel_rfl)
theorem fG:eF Tryz.prog 106 5 true:=⟨λw=>by kernel_rfl,λw=>by kernel_rfl⟩
theorem NW:ag Tryz.prog 164:=ag.of Tryz.func164 (by kernel_rfl) (by kernel_rfl)
theorem RN:ag Tryz.prog 154:=ag.of Tryz.func154 (by kernel_rfl) (by kernel_rfl)
theorem RL:ag Tryz.prog 158:=ag.of Tryz.func158 (by kernel_rfl) (by kernel_rfl)
theorem RO:ag Tryz.prog 148:=ag.of Tryz.func148 (by kernel_rfl) (by kernel_rfl)
theorem RP:ag Tryz.prog 147:=ag.of Tryz.func147 (by kernel_rfl) (by kernel_rfl)
theorem RQ:ag Tryz.prog 146:=ag.of Tryz.func146 (by kernel_rfl) (by kernel_rfl)
theorem Rw:ag Tryz.prog 82:=ag.of Tryz.func82 (by kernel_rfl) (by kernel_rfl)
theorem RR:ag Tryz.prog 133:=ag.of Tryz.func133 (by kernel_rfl) (by kernel_rfl)
theorem QK:yX Tryz.prog 169 #[(0,1)]:=⟨_,Tryz.underlying169,λ_=>by kernel_rfl⟩
theorem Ny:∀w,(zeroValue 169).run Tryz.prog w= .ok (.agg #[(.slice none 0 0)]) w:=λw=>by kernel_rfl
theorem PT:∀S w,(A.cells S w (.eq (.slice none 0 0)) (Value.cells (.agg #[(.slice none 0 0)])).toList):=λ_ _=>⟨rfl,rfl⟩
theorem I3:ag Tryz.prog 108:=ag.of Tryz.func108 (by kernel_rfl) (by kernel_rfl)
theorem G9:Jp Tryz.prog 167 (.agg #[.int .i64 0]):=⟨⟨_,Tryz.underlying167⟩,λw=>by kernel_rfl⟩
theorem Gz:∀w,(zeroValue 167).run Tryz.prog w= .ok (.agg #[(.int .i64 (0))]) w:=λw=>by kernel_rfl
theorem N7:∀S w,(A.cells S w (.agg (.eq (.int .i64 (0:Int)))) (Value.cells (.agg #[(.int .i64 (0))])).toList):=λ_ _=>⟨rfl,rfl⟩
theorem NL:eF Tryz.prog 167 1 true:=⟨λw=>by kernel_rfl,λw=>by kernel_rfl⟩
theorem Ef:aY Tryz.prog 167 0 0:=aY.of (by kernel_rfl)
theorem QL:yX Tryz.prog 167 #[(0,1)]:=⟨_,Tryz.underlying167,λ_=>by kernel_rfl⟩
theorem PU:∀S w,(A.cells S w (.eq (.int .i64 (0:Int))) (Value.cells (.agg #[(.int .i64 (0))])).toList):=λ_ _=>⟨rfl,rfl⟩
theorem LZ:aY Tryz.prog 169 0 0:=aY.of (by kernel_rfl)
theorem wv:EJ Tryz.prog 167 "galloon/moth.beside" 182:=λu w=>by kernel_rfl
theorem wu:EJ Tryz.prog 169 "galloon/moth.beside" 183:=λu w=>by kernel_rfl
theorem Ox:Jp Tryz.prog 169 (.agg #[.slice none 0 0]):=⟨⟨_,Tryz.underlying169⟩,λw=>by kernel_rfl⟩
theorem R2:∀S w,(A.cells S w (.agg (.eq (.slice none 0 0))) (Value.cells (.agg #[(.slice none 0 0)])).toList):=λ_ _=>⟨rfl,rfl⟩
theorem QC:eF Tryz.prog 169 1 true:=⟨λw=>by kernel_rfl,λw=>by kernel_rfl⟩
theorem NX:ag Tryz.prog 100:=ag.of Tryz.func100 (by kernel_rfl) (by kernel_rfl)
theorem Un:ag Tryz.prog 63:=ag.of Tryz.func63 (by kernel_rfl) (by kernel_rfl)
theorem Qp:∀w,(zeroValue 113).run Tryz.prog w= .ok (.agg #[.int .i64 0,.int .i64 0,.int .i64 0]) w:=λw=>by kernel_rfl
theorem L2:ag Tryz.prog 66:=ag.of Tryz.func66 (by kernel_rfl) (by kernel_rfl)
theorem Um:ag Tryz.prog 67:=ag.of Tryz.func67 (by kernel_rfl) (by kernel_rfl)
theorem AC:ag Tryz.prog 31:=ag.of Tryz.func31 (by kernel_rfl) (by kernel_rfl)
theorem FN:ag Tryz.prog 61:=ag.of Tryz.func61 (by kernel_rfl) (by kernel_rfl)
theorem zb:∀w,(zeroValue 108).run Tryz.prog w= .ok (.agg #[(.int .i64 (0)),(.int .i64 (0)),(.int .i64 (0)),(.int .i64 (0)),(.int .i64 (0)),(.int .i64 (0)),(.int .i64 (0)),(.int .i64 (0)),(.int .i64 (0)),(.int .i64 (0)),(.int .i64 (0)),(.int .i64 (0)),(.int .i64 (0)),(.int .i64 (0)),(.int .i64 (0)),(.int .i64 (0)),(.int .i64 (0)),(.int .i64 (0)),(.int .i64 (0)),(.int .i64 (0)),(.int .i64 (0)),(.int .i64 (0)),(.int .i64 (0)),(.int .i64 (0)),(.int .i64 (0)),(.int .i64 (0)),(.int .i64 (0)),(.int .i64 (0)),(.int .i64 (0)),(.int .i64 (0)),(.int .i64 (0)),(.int .i64 (0)),(.int .i64 (0)),(.int .i64 (0)),(.int .i64 (0))]) w:=λw=>by kernel_rfl
theorem A1:∀S w,(A.cells S w (.rep (.arr 7 (.arr 5 (.int .i64))) [[(0:Int),(0:Int),(0:Int),(0:Int),(0:Int)],[(0:Int),(0:Int),(0:Int),(0:Int),(0:Int)],[(0:Int),(0:Int),(0:Int),(0:Int),(0:Int)],[(0:Int),(0:Int),(0:Int),(0:Int),(0:Int)],[(0:Int),(0:Int),(0:Int),(0:Int),(0:Int)],[(0:Int),(0:Int),(0:Int),(0:Int),(0:Int)],[(0:Int),(0:Int),(0:Int),(0:Int),(0:Int)]]) (Value.cells (.agg #[(.int .i64 (0)),(.int .i64 (0)),(.int .i64 (0)),(.int .i64 (0)),(.int .i64 (0)),(.int .i64 (0)),(.int .i64 (0)),(.int .i64 (0)),(.int .i64 (0)),(.int .i64 (0)),(.int .i64 (0)),(.int .i64 (0)),(.int .i64 (0)),(.int .i64 (0)),(.int .i64 (0)),(.int .i64 (0)),(.int .i64 (0)),(.int .i64 (0)),(.int .i64 (0)),(.int .i64 (0)),(.int .i64 (0)),(.int .i64 (0)),(.int .i64 (0)),(.int .i64 (0)),(.int .i64 (0)),(.int .i64 (0)),(.int .i64 (0)),(.int .i64 (0)),(.int .i64 (0)),(.int .i64 (0)),(.int .i64 (0)),(.int .i64 (0)),(.int .i64 (0)),(.int .i64 (0)),(.int .i64 (0))])).toList):=λ_ _=>⟨rfl,⟨[_,_,_,_,_],_,rfl,⟨rfl,⟨[_],_,rfl,rfl,⟨[_],_,rfl,rfl,⟨[_],_,rfl,rfl,⟨[_],_,rfl,rfl,⟨[_],_,rfl,rfl,rfl⟩⟩⟩⟩⟩⟩,⟨[_,_,_,_,_],_,rfl,⟨rfl,⟨[_],_,rfl,rfl,⟨[_],_,rfl,rfl,⟨[_],_,rfl,rfl,⟨[_],_,rfl,rfl,⟨[_],_,rfl,rfl,rfl⟩⟩⟩⟩⟩⟩,⟨[_,_,_,_,_],_,rfl,⟨rfl,⟨[_],_,rfl,rfl,⟨[_],_,rfl,rfl,⟨[_],_,rfl,rfl,⟨[_],_,rfl,rfl,⟨[_],_,rfl,rfl,rfl⟩⟩⟩⟩⟩⟩,⟨[_,_,_,_,_],_,rfl,⟨rfl,⟨[_],_,rfl,rfl,⟨[_],_,rfl,rfl,⟨[_],_,rfl,rfl,⟨[_],_,rfl,rfl,⟨[_],_,rfl,rfl,rfl⟩⟩⟩⟩⟩⟩,⟨[_,_,_,_,_],_,rfl,⟨rfl,⟨[_],_,rfl,rfl,⟨[_],_,rfl,rfl,⟨[_],_,rfl,rfl,⟨[_],_,rfl,rfl,⟨[_],_,rfl,rfl,rfl⟩⟩⟩⟩⟩⟩,⟨[_,_,_,_,_],_,rfl,⟨rfl,⟨[_],_,rfl,rfl,⟨[_],_,rfl,rfl,⟨[_],_,rfl,rfl,⟨[_],_,rfl,rfl,⟨[_],_,rfl,rfl,rfl⟩⟩⟩⟩⟩⟩,⟨[_,_,_,_,_],_,rfl,⟨rfl,⟨[_],_,rfl,rfl,⟨[_],_,rfl,rfl,⟨[_],_,rfl,rfl,⟨[_],_,rfl,rfl,⟨[_],_,rfl,rfl,rfl⟩⟩⟩⟩⟩⟩,rfl⟩⟩⟩⟩⟩⟩⟩⟩
theorem zy:eF Tryz.prog 108 35 true:=⟨λw=>by kernel_rfl,λw=>by kernel_rfl⟩
theorem Uo:ag Tryz.prog 62:=ag.of Tryz.func62 (by kernel_rfl) (by kernel_rfl)
theorem QI:yX Tryz.prog 46 #[(0,1),(1,1),(2,1)]:=⟨_,Tryz.underlying46,λ_=>by kernel_rfl⟩
theorem N5:∀S w,(A.cells S w (.pair (.eq (.int .i64 (0:Int))) (.pair (.eq (.int .i64 (0:Int))) (.eq (.bool false)))) (Value.cells (.agg #[(.int .i64 (0)),(.int .i64 (0)),(.bool false)])).toList):=λ_ _=>⟨[_],_,rfl,⟨rfl,rfl⟩,⟨[_],_,rfl,⟨rfl,rfl⟩,⟨rfl,rfl⟩⟩⟩
theorem UE:ag Tryz.prog 26:=ag.of Tryz.func26 (by kernel_rfl) (by kernel_rfl)
theorem UD:ag Tryz.prog 27:=ag.of Tryz.func27 (by kernel_rfl) (by kernel_rfl)
theorem PI:ag Tryz.prog 28:=ag.of Tryz.func28 (by kernel_rfl) (by kernel_rfl)
theorem RI:ag Tryz.prog 29:=ag.of Tryz.func29 (by kernel_rfl) (by kernel_rfl)
theorem UC:ag Tryz.prog 30:=ag.of Tryz.func30 (by kernel_rfl) (by kernel_rfl)
theorem IV:aY Tryz.prog 46 2 2:=aY.of (by kernel_rfl)
theorem UX:eF Tryz.prog 4 1 false:=⟨λw=>by kernel_rfl,λw=>by kernel_rfl⟩
theorem KO:qo Tryz.prog 26 46 3 24:=.of (z:=(.agg #[(.int .i64 (0)),(.int .i64 (0)),(.bool false)])) Tryz.underlying26 (by kernel_rfl) rfl rfl rfl
theorem Tu:eF Tryz.prog 80 1 false:=⟨λw=>by kernel_rfl,λw=>by kernel_rfl⟩
theorem Oy:eF Tryz.prog 79 1 false:=⟨λw=>by kernel_rfl,λw=>by kernel_rfl⟩
theorem Rz:ag Tryz.prog 71:=ag.of Tryz.func71 (by kernel_rfl) (by kernel_rfl)
theorem Tf:∀w,(zeroValue 79).run Tryz.prog w= .ok .nilFunc w:=λw=>by kernel_rfl
theorem UK:∀S w,(A.cells S w (.eq .nilFunc) (Value.cells .nilFunc).toList):=λ_ _=>⟨rfl,rfl⟩
theorem Qo:∀w,(zeroValue 154).run Tryz.prog w= .ok (.agg #[]) w:=λw=>by kernel_rfl
theorem J3:∀w,(zeroValue 69).run Tryz.prog w= .ok (.slice none 0 0) w:=λw=>by kernel_rfl
theorem MR:∀S w,(A.cells S w (.eq (.slice none 0 0)) (Value.cells (.slice none 0 0)).toList):=λ_ _=>⟨rfl,rfl⟩
theorem Kz:eF Tryz.prog 65 1 false:=⟨λw=>by kernel_rfl,λw=>by kernel_rfl⟩
theorem RG:ag Tryz.prog 36:=ag.of Tryz.func36 (by kernel_rfl) (by kernel_rfl)
theorem qE:eF Tryz.prog 66 1 false:=⟨λw=>by kernel_rfl,λw=>by kernel_rfl⟩
theorem Ul:ag Tryz.prog 68:=ag.of Tryz.func68 (by kernel_rfl) (by kernel_rfl)
theorem xP:eF Tryz.prog 69 1 false:=⟨λw=>by kernel_rfl,λw=>by kernel_rfl⟩
theorem KN:qo Tryz.prog 69 66 1 1:=.of (z:=(.int .u8 (0))) Tryz.underlying69 (by kernel_rfl) rfl rfl rfl
theorem RB:ag Tryz.prog 70:=ag.of Tryz.func70 (by kernel_rfl) (by kernel_rfl)
theorem RH:ag Tryz.prog 32:=ag.of Tryz.func32 (by kernel_rfl) (by kernel_rfl)
theorem PH:ag Tryz.prog 33:=ag.of Tryz.func33 (by kernel_rfl) (by kernel_rfl)
theorem Uz:ag Tryz.prog 39:=ag.of Tryz.func39 (by kernel_rfl) (by kernel_rfl)
theorem UA:ag Tryz.prog 38:=ag.of Tryz.func38 (by kernel_rfl) (by kernel_rfl)
theorem Uk:ag Tryz.prog 72:=ag.of Tryz.func72 (by kernel_rfl) (by kernel_rfl)
theorem QB:eF Tryz.prog 83 1 false:=⟨λw=>by kernel_rfl,λw=>by kernel_rfl⟩
theorem RE:ag Tryz.prog 42:=ag.of Tryz.func42 (by kernel_rfl) (by kernel_rfl)
theorem Ui:ag Tryz.prog 74:=ag.of Tryz.func74 (by kernel_rfl) (by kernel_rfl)
theorem Uj:ag Tryz.prog 73:=ag.of Tryz.func73 (by kernel_rfl) (by kernel_rfl)
theorem FP:ag Tryz.prog 35:=ag.of Tryz.func35 (by kernel_rfl) (by kernel_rfl)
theorem RF:ag Tryz.prog 37:=ag.of Tryz.func37 (by kernel_rfl) (by kernel_rfl)
theorem Tj:∀w,(zeroValue 65).run Tryz.prog w= .ok (.pointer none) w:=λw=>by kernel_rfl
theorem UL:∀S w,(A.cells S w (.eq (.pointer none)) (Value.cells (.pointer none)).toList):=λ_ _=>⟨rfl,rfl⟩
theorem Uy:ag Tryz.prog 40:=ag.of Tryz.func40 (by kernel_rfl) (by kernel_rfl)
theorem Ux:ag Tryz.prog 41:=ag.of Tryz.func41 (by kernel_rfl) (by kernel_rfl)
theorem RD:ag Tryz.prog 43:=ag.of Tryz.func43 (by kernel_rfl) (by kernel_rfl)
theorem Uh:ag Tryz.prog 75:=ag.of Tryz.func75 (by kernel_rfl) (by kernel_rfl)
theorem Uw:ag Tryz.prog 44:=ag.of Tryz.func44 (by kernel_rfl) (by kernel_rfl)
theorem L9:ag Tryz.prog 14:=ag.of Tryz.func14 (by kernel_rfl) (by kernel_rfl)
theorem PD:ag Tryz.prog 76:=ag.of Tryz.func76 (by kernel_rfl) (by kernel_rfl)
theorem Bq:∀w,(zeroValue 88).run Tryz.prog w= .ok (.agg #[(.int .i64 (0)),(.int .i64 (0))]) w:=λw=>by kernel_rfl
theorem RZ:∀S w,(A.cells S w (.agg (.pair (.eq (.int .i64 (0:Int))) (.eq (.int .i64 (0:Int))))) (Value.cells (.agg #[(.int .i64 (0)),(.int .i64 (0))])).toList):=λ_ _=>⟨[_],_,rfl,⟨rfl,rfl⟩,⟨rfl,rfl⟩⟩
theorem HG:yX Tryz.prog 88 #[(0,1),(1,1)]:=⟨_,Tryz.underlying88,λ_=>by kernel_rfl⟩
theorem AY:∀S w,(A.cells S w (.pair (.eq (.int .i64 (0:Int))) (.eq (.int .i64 (0:Int)))) (Value.cells (.agg #[(.int .i64 (0)),(.int .i64 (0))])).toList):=λ_ _=>⟨[_],_,rfl,⟨rfl,rfl⟩,⟨rfl,rfl⟩⟩
theorem wh:eF Tryz.prog 88 2 true:=⟨λw=>by kernel_rfl,λw=>by kernel_rfl⟩
theorem Ry:ag Tryz.prog 77:=ag.of Tryz.func77 (by kernel_rfl) (by kernel_rfl)
theorem Rx:ag Tryz.prog 78:=ag.of Tryz.func78 (by kernel_rfl) (by kernel_rfl)
theorem Ug:ag Tryz.prog 79:=ag.of Tryz.func79 (by kernel_rfl) (by kernel_rfl)
theorem tP:∀w,(zeroValue 134).run Tryz.prog w= .ok (.agg #[(.int .i64 (0)),(.int .i64 (0))]) w:=λw=>by kernel_rfl
theorem AZ:∀S w,(A.cells S w (.agg (.pair (.eq (.int .i64 (0:Int))) (.eq (.int .i64 (0:Int))))) (Value.cells (.agg #[(.int .i64 (0)),(.int .i64 (0))])).toList):=λ_ _=>⟨[_],_,rfl,⟨rfl,rfl⟩,⟨rfl,rfl⟩⟩
theorem yx:aY Tryz.prog 134 0 0:=aY.of (by kernel_rfl)
theorem L0:aY Tryz.prog 134 1 1:=aY.of (by kernel_rfl)
theorem jU:eF Tryz.prog 134 2 true:=⟨λw=>by kernel_rfl,λw=>by kernel_rfl⟩
theorem HH:yX Tryz.prog 134 #[(0,1),(1,1)]:=⟨_,Tryz.underlying134,λ_=>by kernel_rfl⟩
theorem Dh:∀S w,(A.cells S w (.pair (.eq (.int .i64 (0:Int))) (.eq (.int .i64 (0:Int)))) (Value.cells (.agg #[(.int .i64 (0)),(.int .i64 (0))])).toList):=λ_ _=>⟨[_],_,rfl,⟨rfl,rfl⟩,⟨rfl,rfl⟩⟩
theorem Uf:ag Tryz.prog 80:=ag.of Tryz.func80 (by kernel_rfl) (by kernel_rfl)
theorem Rt:Np Tryz.prog 134 bS:=by
 refine⟨rfl,by kernel_rfl,λw x y=>?_⟩;have u3:=Tryz.underlying3;have a3:=Tryz.isAgg3;have z3:=Tryz.sizeOf3;have hS:Tryz.prog.underlying 134=some (.struct (Tryz.prog.fieldsOf 134)):=by kernel_rfl
 have hp:Tryz.prog.stoodInHeld 134=false:=by kernel_rfl
 rw [show(10000:Nat)=9999+1 from rfl,run_equalIn_agg w 9999 134 _ _ hS hp];simp only [Program.fieldsOf,Tryz.underlying134,sd];refine⟨decide (x=y),?_,decide_eq_true_iff⟩;go_simp;obtain⟨p0,p1⟩:=x;obtain⟨q0,q1⟩:=y;by_cases h0:p0=q0 <;> by_cases h1:p1=q1 <;> simp [h0,h1]
theorem Ue:ag Tryz.prog 81:=ag.of Tryz.func81 (by kernel_rfl) (by kernel_rfl)
theorem FO:ag Tryz.prog 45:=ag.of Tryz.func45 (by kernel_rfl) (by kernel_rfl)
theorem U6:ag Tryz.prog 8:=ag.of Tryz.func8 (by kernel_rfl) (by kernel_rfl)
theorem Uu:ag Tryz.prog 46:=ag.of Tryz.func46 (by kernel_rfl) (by kernel_rfl)
theorem Ut:ag Tryz.prog 47:=ag.of Tryz.func47 (by kernel_rfl) (by kernel_rfl)
theorem Us:ag Tryz.prog 48:=ag.of Tryz.func48 (by kernel_rfl) (by kernel_rfl)
theorem RS:ag Tryz.prog 10:=ag.of Tryz.func10 (by kernel_rfl) (by kernel_rfl)
theorem T8:Np Tryz.prog 88 bS:=by
 refine⟨rfl,by kernel_rfl,λw x y=>?_⟩;have u3:=Tryz.underlying3;have a3:=Tryz.isAgg3;have z3:=Tryz.sizeOf3;have hS:Tryz.prog.underlying 88=some (.struct (Tryz.prog.fieldsOf 88)):=by kernel_rfl
 have hp:Tryz.prog.stoodInHeld 88=false:=by kernel_rfl
 rw [show(10000:Nat)=9999+1 from rfl,run_equalIn_agg w 9999 88 _ _ hS hp];simp only [Program.fieldsOf,Tryz.underlying88,sd];refine⟨decide (x=y),?_,decide_eq_true_iff⟩;go_simp;obtain⟨p0,p1⟩:=x;obtain⟨q0,q1⟩:=y;by_cases h0:p0=q0 <;> by_cases h1:p1=q1 <;> simp [h0,h1]
theorem RJ:ag Tryz.prog 25:=ag.of Tryz.func25 (by kernel_rfl) (by kernel_rfl)
theorem Vm:ag Tryz.prog 6:=ag.of Tryz.func6 (by kernel_rfl) (by kernel_rfl)
theorem Vl:ag Tryz.prog 7:=ag.of Tryz.func7 (by kernel_rfl) (by kernel_rfl)
theorem UI:ag Tryz.prog 11:=ag.of Tryz.func11 (by kernel_rfl) (by kernel_rfl)
theorem UH:ag Tryz.prog 12:=ag.of Tryz.func12 (by kernel_rfl) (by kernel_rfl)
theorem UG:ag Tryz.prog 13:=ag.of Tryz.func13 (by kernel_rfl) (by kernel_rfl)
theorem UF:ag Tryz.prog 15:=ag.of Tryz.func15 (by kernel_rfl) (by kernel_rfl)
abbrev Rs(t:Ty)(l:(Ty.slice t).den):A:=.rep (.slice t) l
abbrev Pv(b:Nat):Value:=.pointer (some ⟨b,0,none⟩)
abbrev ru:= @Tryz.underlying106
abbrev wE:= @Tryz.underlying108
abbrev R9:= @Tryz.underlying113
abbrev UQ:= @Tryz.underlying126
abbrev UP:= @Tryz.underlying134
abbrev Gf:= @Tryz.underlying135
abbrev P1:= @Tryz.underlying154
abbrev UO:= @Tryz.underlying167
abbrev UN:= @Tryz.underlying169
abbrev ig:= @Tryz.underlying22
abbrev vG:= @Tryz.underlying25
abbrev R7:= @Tryz.underlying26
abbrev mM:= @Tryz.underlying29
abbrev U3:= @Tryz.underlying3
abbrev U4:= @Tryz.underlying4
abbrev U5:= @Tryz.underlying5
abbrev SY:= @Tryz.underlying58
abbrev Bo:= @Tryz.underlying69
abbrev U9:= @Tryz.underlying9
theorem o8:false=false->1=1:=λ_=>rfl
