import Derived.Test.YtemmlkadbaajcaaGreatVPB5
import Derived.Test.YtemmlkadbaajcaaGreatProg
open Nat
open List hiding mem_of_getElem?
open Array hiding mem_of_getElem? mk
set_option linter.unusedVariables false
set_option linter.unusedSimpArgs false
namespace Go.Proofs.YtemmlkadbaajcaaGreat
open K Go Go.Proofs
@[reducible] def Ti:Ty:=.int .i64
@[reducible] def Tl:Ty:=.slice Ti
@[reducible] def Tr:Ty:=.arr 5 Ti
theorem bY:Tryz.prog.follows .mixedOrders=true:=by kernel_rfl
theorem oM{n:Nat}:true=false->n=1:=λh=>nomatch h
def NX:ByteArray:=⟨#[0,1,2,2,3,3,3,3,4,4,4,4,4,4,4,4,5,5,5,5,5,5,5,5,5,5,5,5,5,5,5,5,6,6,6,6,6,6,6,6,6,6,6,6,6,6,6,6,6,6,6,6,6,6,6,6,6,6,6,6,6,6,6,6,7,7,7,7,7,7,7,7,7,7,7,7,7,7,7,7,7,7,7,7,7,7,7,7,7,7,7,7,7,7,7,7,7,7,7,7,7,7,7,7,7,7,7,7,7,7,7,7,7,7,7,7,7,7,7,7,7,7,7,7,7,7,7,7,8,8,8,8,8,8,8,8,8,8,8,8,8,8,8,8,8,8,8,8,8,8,8,8,8,8,8,8,8,8,8,8,8,8,8,8,8,8,8,8,8,8,8,8,8,8,8,8,8,8,8,8,8,8,8,8,8,8,8,8,8,8,8,8,8,8,8,8,8,8,8,8,8,8,8,8,8,8,8,8,8,8,8,8,8,8,8,8,8,8,8,8,8,8,8,8,8,8,8,8,8,8,8,8,8,8,8,8,8,8,8,8,8,8,8,8,8,8,8,8,8,8,8,8,8,8,8,8]⟩
@[reducible] def aL:Ty:=.agg (.pair (.int .i64) (.pair (.int .i64) .bool))
abbrev aQ:=(Int×(Int×Bool))
@[reducible] def am:Ty:=.agg (.pair (.int .i64) (.pair (.int .i64) (.pair (.int .i64) (.pair (.int .i64) (.pair (.slice (.slice (.slice (.int .i64)))) (.slice aL))))))
abbrev ab:=(Int×(Int×(Int×(Int×((List (List (List Int)))×(List aQ))))))
@[reducible] def cj:Ty:=.agg (.pair (.int .i64) (.int .i64))
abbrev gG:=(Int×Int)
@[reducible] def W2:Ty:=.agg (.pair (.slice (.int .i64)) (.pair (.int .i64) (.int .u64)))
abbrev bL:=((List Int)×(Int×Int))
@[reducible] def S7:Ty:=.agg (.int .i64)
abbrev PU:=Int
@[reducible] def S5:Ty:=.agg (.slice (.int .i64))
abbrev PT:=(List Int)
@[reducible] def Fh:Ty:=.agg (.pair (.int .i64) (.pair (.int .i64) (.pair (.int .i64) (.pair (.int .i64) (.pair (.slice (.slice (.slice (.int .i64)))) .ign)))))
abbrev Aq:=(Int×(Int×(Int×(Int×((List (List (List Int)))×Unit)))))
@[reducible] def IP:Ty:=cj
abbrev bC:=gG
theorem bW:bo Tryz.prog 25 4 4:=bo.of (by kernel_rfl)
theorem fq:eZ Tryz.prog 22 1 false:=⟨λw=>by kernel_rfl,λw=>by kernel_rfl⟩
theorem kB:eZ Tryz.prog 36 1 false:=⟨λw=>by kernel_rfl,λw=>by kernel_rfl⟩
theorem ew:eZ Tryz.prog 28 1 false:=⟨λw=>by kernel_rfl,λw=>by kernel_rfl⟩
theorem fH:bo Tryz.prog 25 5 5:=bo.of (by kernel_rfl)
theorem nh:eZ Tryz.prog 23 1 false:=⟨λw=>by kernel_rfl,λw=>by kernel_rfl⟩
theorem E8:∀w,(zeroValue 104).run Tryz.prog w= .ok (.agg #[(.int .i64 (0)),(.int .i64 (0)),(.int .i64 (0)),(.int .i64 (0)),(.int .i64 (0))]) w:=λw=>by kernel_rfl
theorem Gs:∀S w,(A.cells S w (.rep (.arr 5 (.int .i64)) [(0:Int),(0:Int),(0:Int),(0:Int),(0:Int)]) (Value.cells (.agg #[(.int .i64 (0)),(.int .i64 (0)),(.int .i64 (0)),(.int .i64 (0)),(.int .i64 (0))])).toList):=λ_ _=>⟨rfl,⟨[_],_,rfl,rfl,⟨[_],_,rfl,rfl,⟨[_],_,rfl,rfl,⟨[_],_,rfl,rfl,⟨[_],_,rfl,rfl,rfl⟩⟩⟩⟩⟩⟩
theorem bJ:eZ Tryz.prog 3 1 false:=⟨λw=>by kernel_rfl,λw=>by kernel_rfl⟩
theorem KN:ag Tryz.prog 66:=ag.of Tryz.func66 (by kernel_rfl) (by kernel_rfl)
theorem i9:bo Tryz.prog 123 0 0:=bo.of (by kernel_rfl)
theorem oV:bo Tryz.prog 25 1 1:=bo.of (by kernel_rfl)
theorem gh:eZ Tryz.prog 104 5 true:=⟨λw=>by kernel_rfl,λw=>by kernel_rfl⟩
theorem PR:ag Tryz.prog 158:=ag.of Tryz.func158 (by kernel_rfl) (by kernel_rfl)
theorem UA:ag Tryz.prog 148:=ag.of Tryz.func148 (by kernel_rfl) (by kernel_rfl)
theorem Uy:ag Tryz.prog 152:=ag.of Tryz.func152 (by kernel_rfl) (by kernel_rfl)
theorem UB:ag Tryz.prog 142:=ag.of Tryz.func142 (by kernel_rfl) (by kernel_rfl)
theorem UC:ag Tryz.prog 134:=ag.of Tryz.func134 (by kernel_rfl) (by kernel_rfl)
theorem UD:ag Tryz.prog 133:=ag.of Tryz.func133 (by kernel_rfl) (by kernel_rfl)
theorem Uo:ag Tryz.prog 63:=ag.of Tryz.func63 (by kernel_rfl) (by kernel_rfl)
theorem cH:qq Tryz.prog 28 3 1 8:=.of (z:=(.int .i64 (0))) Tryz.underlying28 (by kernel_rfl) rfl rfl rfl
theorem UE:ag Tryz.prog 123:=ag.of Tryz.func123 (by kernel_rfl) (by kernel_rfl)
theorem Tt:AQ Tryz.prog 159 #[(0,1)]:=⟨_,Tryz.underlying159,λ_=>by kernel_rfl⟩
theorem Pm:∀w,(zeroValue 159).run Tryz.prog w= .ok (.agg #[(.slice none 0 0)]) w:=λw=>by kernel_rfl
theorem RE:∀S w,(A.cells S w (.eq (.slice none 0 0)) (Value.cells (.agg #[(.slice none 0 0)])).toList):=λ_ _=>⟨rfl,rfl⟩
theorem Rf:ag Tryz.prog 98:=ag.of Tryz.func98 (by kernel_rfl) (by kernel_rfl)
theorem IQ:Lc Tryz.prog 157 (.agg #[.int .i64 0]):=⟨⟨_,Tryz.underlying157⟩,λw=>by kernel_rfl⟩
theorem Im:∀w,(zeroValue 157).run Tryz.prog w= .ok (.agg #[(.int .i64 (0))]) w:=λw=>by kernel_rfl
theorem P1:∀S w,(A.cells S w (.agg (.eq (.int .i64 (0:Int)))) (Value.cells (.agg #[(.int .i64 (0))])).toList):=λ_ _=>⟨rfl,rfl⟩
theorem PG:eZ Tryz.prog 157 1 true:=⟨λw=>by kernel_rfl,λw=>by kernel_rfl⟩
theorem F5:bo Tryz.prog 157 0 0:=bo.of (by kernel_rfl)
theorem Tu:AQ Tryz.prog 157 #[(0,1)]:=⟨_,Tryz.underlying157,λ_=>by kernel_rfl⟩
theorem RF:∀S w,(A.cells S w (.eq (.int .i64 (0:Int))) (Value.cells (.agg #[(.int .i64 (0))])).toList):=λ_ _=>⟨rfl,rfl⟩
theorem Oa:bo Tryz.prog 159 0 0:=bo.of (by kernel_rfl)
theorem yc:GG Tryz.prog 157 "galloon/moth.beside" 176:=λu w=>by kernel_rfl
theorem yb:GG Tryz.prog 159 "galloon/moth.beside" 177:=λu w=>by kernel_rfl
theorem fx:bo Tryz.prog 25 0 0:=bo.of (by kernel_rfl)
theorem uA:bo Tryz.prog 25 3 3:=bo.of (by kernel_rfl)
theorem Qk:Lc Tryz.prog 159 (.agg #[.slice none 0 0]):=⟨⟨_,Tryz.underlying159⟩,λw=>by kernel_rfl⟩
theorem UP:∀S w,(A.cells S w (.agg (.eq (.slice none 0 0))) (Value.cells (.agg #[(.slice none 0 0)])).toList):=λ_ _=>⟨rfl,rfl⟩
theorem Ta:eZ Tryz.prog 159 1 true:=⟨λw=>by kernel_rfl,λw=>by kernel_rfl⟩
theorem Un:ag Tryz.prog 73:=ag.of Tryz.func73 (by kernel_rfl) (by kernel_rfl)
theorem HC:ag Tryz.prog 57:=ag.of Tryz.func57 (by kernel_rfl) (by kernel_rfl)
theorem AY:∀w,(zeroValue 106).run Tryz.prog w= .ok (.agg #[(.int .i64 (0)),(.int .i64 (0)),(.int .i64 (0)),(.int .i64 (0)),(.int .i64 (0)),(.int .i64 (0)),(.int .i64 (0)),(.int .i64 (0)),(.int .i64 (0)),(.int .i64 (0)),(.int .i64 (0)),(.int .i64 (0)),(.int .i64 (0)),(.int .i64 (0)),(.int .i64 (0)),(.int .i64 (0)),(.int .i64 (0)),(.int .i64 (0)),(.int .i64 (0)),(.int .i64 (0)),(.int .i64 (0)),(.int .i64 (0)),(.int .i64 (0)),(.int .i64 (0)),(.int .i64 (0)),(.int .i64 (0)),(.int .i64 (0)),(.int .i64 (0)),(.int .i64 (0)),(.int .i64 (0)),(.int .i64 (0)),(.int .i64 (0)),(.int .i64 (0)),(.int .i64 (0)),(.int .i64 (0))]) w:=λw=>by kernel_rfl
theorem Dc:∀S w,(A.cells S w (.rep (.arr 7 (.arr 5 (.int .i64))) [[(0:Int),(0:Int),(0:Int),(0:Int),(0:Int)],[(0:Int),(0:Int),(0:Int),(0:Int),(0:Int)],[(0:Int),(0:Int),(0:Int),(0:Int),(0:Int)],[(0:Int),(0:Int),(0:Int),(0:Int),(0:Int)],[(0:Int),(0:Int),(0:Int),(0:Int),(0:Int)],[(0:Int),(0:Int),(0:Int),(0:Int),(0:Int)],[(0:Int),(0:Int),(0:Int),(0:Int),(0:Int)]]) (Value.cells (.agg #[(.int .i64 (0)),(.int .i64 (0)),(.int .i64 (0)),(.int .i64 (0)),(.int .i64 (0)),(.int .i64 (0)),(.int .i64 (0)),(.int .i64 (0)),(.int .i64 (0)),(.int .i64 (0)),(.int .i64 (0)),(.int .i64 (0)),(.int .i64 (0)),(.int .i64 (0)),(.int .i64 (0)),(.int .i64 (0)),(.int .i64 (0)),(.int .i64 (0)),(.int .i64 (0)),(.int .i64 (0)),(.int .i64 (0)),(.int .i64 (0)),(.int .i64 (0)),(.int .i64 (0)),(.int .i64 (0)),(.int .i64 (0)),(.int .i64 (0)),(.int .i64 (0)),(.int .i64 (0)),(.int .i64 (0)),(.int .i64 (0)),(.int .i64 (0)),(.int .i64 (0)),(.int .i64 (0)),(.int .i64 (0))])).toList):=λ_ _=>⟨rfl,⟨[_,_,_,_,_],_,rfl,⟨rfl,⟨[_],_,rfl,rfl,⟨[_],_,rfl,rfl,⟨[_],_,rfl,rfl,⟨[_],_,rfl,rfl,⟨[_],_,rfl,rfl,rfl⟩⟩⟩⟩⟩⟩,⟨[_,_,_,_,_],_,rfl,⟨rfl,⟨[_],_,rfl,rfl,⟨[_],_,rfl,rfl,⟨[_],_,rfl,rfl,⟨[_],_,rfl,rfl,⟨[_],_,rfl,rfl,rfl⟩⟩⟩⟩⟩⟩,⟨[_,_,_,_,_],_,rfl,⟨rfl,⟨[_],_,rfl,rfl,⟨[_],_,rfl,rfl,⟨[_],_,rfl,rfl,⟨[_],_,rfl,rfl,⟨[_],_,rfl,rfl,rfl⟩⟩⟩⟩⟩⟩,⟨[_,_,_,_,_],_,rfl,⟨rfl,⟨[_],_,rfl,rfl,⟨[_],_,rfl,rfl,⟨[_],_,rfl,rfl,⟨[_],_,rfl,rfl,⟨[_],_,rfl,rfl,rfl⟩⟩⟩⟩⟩⟩,⟨[_,_,_,_,_],_,rfl,⟨rfl,⟨[_],_,rfl,rfl,⟨[_],_,rfl,rfl,⟨[_],_,rfl,rfl,⟨[_],_,rfl,rfl,⟨[_],_,rfl,rfl,rfl⟩⟩⟩⟩⟩⟩,⟨[_,_,_,_,_],_,rfl,⟨rfl,⟨[_],_,rfl,rfl,⟨[_],_,rfl,rfl,⟨[_],_,rfl,rfl,⟨[_],_,rfl,rfl,⟨[_],_,rfl,rfl,rfl⟩⟩⟩⟩⟩⟩,⟨[_,_,_,_,_],_,rfl,⟨rfl,⟨[_],_,rfl,rfl,⟨[_],_,rfl,rfl,⟨[_],_,rfl,rfl,⟨[_],_,rfl,rfl,⟨[_],_,rfl,rfl,rfl⟩⟩⟩⟩⟩⟩,rfl⟩⟩⟩⟩⟩⟩⟩⟩
theorem Bl:eZ Tryz.prog 106 35 true:=⟨λw=>by kernel_rfl,λw=>by kernel_rfl⟩
theorem Ap:ag Tryz.prog 70:=ag.of Tryz.func70 (by kernel_rfl) (by kernel_rfl)
theorem Og:ag Tryz.prog 34:=ag.of Tryz.func34 (by kernel_rfl) (by kernel_rfl)
theorem Am:bo Tryz.prog 27 0 0:=bo.of (by kernel_rfl)
theorem Ak:bo Tryz.prog 27 1 1:=bo.of (by kernel_rfl)
theorem so:bo Tryz.prog 25 2 2:=bo.of (by kernel_rfl)
theorem cY:eZ Tryz.prog 25 6 true:=⟨λw=>by kernel_rfl,λw=>by kernel_rfl⟩
theorem V3:ag Tryz.prog 92:=ag.of Tryz.func92 (by kernel_rfl) (by kernel_rfl)
theorem nN:eZ Tryz.prog 27 3 true:=⟨λw=>by kernel_rfl,λw=>by kernel_rfl⟩
theorem GX:∀w,(zeroValue 27).run Tryz.prog w= .ok (.agg #[(.int .i64 (0)),(.int .i64 (0)),(.bool false)]) w:=λw=>by kernel_rfl
theorem OM:∀S w,(A.cells S w (.agg (.pair (.eq (.int .i64 (0:Int))) (.pair (.eq (.int .i64 (0:Int))) (.eq (.bool false))))) (Value.cells (.agg #[(.int .i64 (0)),(.int .i64 (0)),(.bool false)])).toList):=λ_ _=>⟨[_],_,rfl,⟨rfl,rfl⟩,⟨[_],_,rfl,⟨rfl,rfl⟩,⟨rfl,rfl⟩⟩⟩
theorem V2:ag Tryz.prog 93:=ag.of Tryz.func93 (by kernel_rfl) (by kernel_rfl)
theorem Wg:ag Tryz.prog 69:=ag.of Tryz.func69 (by kernel_rfl) (by kernel_rfl)
theorem lS:qq Tryz.prog 36 28 1 24:=.of (z:=(.slice none 0 0)) Tryz.underlying36 (by kernel_rfl) rfl rfl rfl
theorem SQ:∀w,(zeroValue 125).run Tryz.prog w= .ok (.agg #[.int .i64 0,.int .i64 0,.int .i64 0]) w:=λw=>by kernel_rfl
theorem Oe:ag Tryz.prog 71:=ag.of Tryz.func71 (by kernel_rfl) (by kernel_rfl)
theorem We:ag Tryz.prog 72:=ag.of Tryz.func72 (by kernel_rfl) (by kernel_rfl)
theorem AX:∀w,(zeroValue 82).run Tryz.prog w= .ok (.agg #[(.int .i64 (0)),(.int .i64 (0))]) w:=λw=>by kernel_rfl
theorem K5:∀S w,(A.cells S w (.agg (.pair (.eq (.int .i64 (0:Int))) (.eq (.int .i64 (0:Int))))) (Value.cells (.agg #[(.int .i64 (0)),(.int .i64 (0))])).toList):=λ_ _=>⟨[_],_,rfl,⟨rfl,rfl⟩,⟨rfl,rfl⟩⟩
theorem EM:bo Tryz.prog 82 0 0:=bo.of (by kernel_rfl)
theorem Rb:bo Tryz.prog 82 1 1:=bo.of (by kernel_rfl)
theorem pz:eZ Tryz.prog 82 2 true:=⟨λw=>by kernel_rfl,λw=>by kernel_rfl⟩
theorem QI:AQ Tryz.prog 82 #[(0,1),(1,1)]:=⟨_,Tryz.underlying82,λ_=>by kernel_rfl⟩
theorem K3:∀S w,(A.cells S w (.pair (.eq (.int .i64 (0:Int))) (.eq (.int .i64 (0:Int)))) (Value.cells (.agg #[(.int .i64 (0)),(.int .i64 (0))])).toList):=λ_ _=>⟨[_],_,rfl,⟨rfl,rfl⟩,⟨rfl,rfl⟩⟩
theorem CP:ag Tryz.prog 40:=ag.of Tryz.func40 (by kernel_rfl) (by kernel_rfl)
theorem Rn:ag Tryz.prog 33:=ag.of Tryz.func33 (by kernel_rfl) (by kernel_rfl)
theorem Wy:ag Tryz.prog 41:=ag.of Tryz.func41 (by kernel_rfl) (by kernel_rfl)
theorem VX:LH Tryz.prog 82 cj:=by
 refine⟨rfl,by kernel_rfl,λw x y=>?_⟩;have u3:=Tryz.underlying3;have a3:=Tryz.isAgg3;have z3:=Tryz.sizeOf3;have hS:Tryz.prog.underlying 82=some (.struct (Tryz.prog.fieldsOf 82)):=by kernel_rfl
 have hp:Tryz.prog.stoodInHeld 82=false:=by kernel_rfl
 rw [show(10000:Nat)=9999+1 from rfl,run_equalIn_agg w 9999 82 _ _ hS hp];simp only [Program.fieldsOf,Tryz.underlying82,sB];refine⟨decide (x=y),?_,decide_eq_true_iff⟩;go_simp;obtain⟨p0,p1⟩:=x;obtain⟨q0,q1⟩:=y;by_cases h0:p0=q0 <;> by_cases h1:p1=q1 <;> simp [h0,h1]
theorem Wx:ag Tryz.prog 42:=ag.of Tryz.func42 (by kernel_rfl) (by kernel_rfl)
theorem Vt:eZ Tryz.prog 95 1 false:=⟨λw=>by kernel_rfl,λw=>by kernel_rfl⟩
theorem Ql:eZ Tryz.prog 94 1 false:=⟨λw=>by kernel_rfl,λw=>by kernel_rfl⟩
theorem Ul:ag Tryz.prog 77:=ag.of Tryz.func77 (by kernel_rfl) (by kernel_rfl)
theorem Vn:∀w,(zeroValue 94).run Tryz.prog w= .ok .nilFunc w:=λw=>by kernel_rfl
theorem WP:∀S w,(A.cells S w (.eq .nilFunc) (Value.cells .nilFunc).toList):=λ_ _=>⟨rfl,rfl⟩
theorem KH:bo Tryz.prog 27 2 2:=bo.of (by kernel_rfl)
theorem W3:eZ Tryz.prog 4 1 false:=⟨λw=>by kernel_rfl,λw=>by kernel_rfl⟩
theorem SO:∀w,(zeroValue 160).run Tryz.prog w= .ok (.agg #[]) w:=λw=>by kernel_rfl
theorem LU:∀w,(zeroValue 67).run Tryz.prog w= .ok (.slice none 0 0) w:=λw=>by kernel_rfl
theorem OL:∀S w,(A.cells S w (.eq (.slice none 0 0)) (Value.cells (.slice none 0 0)).toList):=λ_ _=>⟨rfl,rfl⟩
theorem MC:eZ Tryz.prog 66 1 false:=⟨λw=>by kernel_rfl,λw=>by kernel_rfl⟩
theorem Uu:ag Tryz.prog 46:=ag.of Tryz.func46 (by kernel_rfl) (by kernel_rfl)
theorem pA:eZ Tryz.prog 70 1 false:=⟨λw=>by kernel_rfl,λw=>by kernel_rfl⟩
theorem V7:ag Tryz.prog 85:=ag.of Tryz.func85 (by kernel_rfl) (by kernel_rfl)
theorem zD:eZ Tryz.prog 67 1 false:=⟨λw=>by kernel_rfl,λw=>by kernel_rfl⟩
theorem MO:qq Tryz.prog 67 70 1 1:=.of (z:=(.int .u8 (0))) Tryz.underlying67 (by kernel_rfl) rfl rfl rfl
theorem Um:ag Tryz.prog 76:=ag.of Tryz.func76 (by kernel_rfl) (by kernel_rfl)
theorem Ur:ag Tryz.prog 60:=ag.of Tryz.func60 (by kernel_rfl) (by kernel_rfl)
theorem vW:qq Tryz.prog 22 36 1 24:=.of (z:=(.slice none 0 0)) Tryz.underlying22 (by kernel_rfl) rfl rfl rfl
theorem Wt:ag Tryz.prog 49:=ag.of Tryz.func49 (by kernel_rfl) (by kernel_rfl)
theorem Wu:ag Tryz.prog 48:=ag.of Tryz.func48 (by kernel_rfl) (by kernel_rfl)
theorem Wa:ag Tryz.prog 78:=ag.of Tryz.func78 (by kernel_rfl) (by kernel_rfl)
theorem Oh:ag Tryz.prog 32:=ag.of Tryz.func32 (by kernel_rfl) (by kernel_rfl)
theorem S9:eZ Tryz.prog 98 1 false:=⟨λw=>by kernel_rfl,λw=>by kernel_rfl⟩
theorem Us:ag Tryz.prog 52:=ag.of Tryz.func52 (by kernel_rfl) (by kernel_rfl)
theorem V8:ag Tryz.prog 80:=ag.of Tryz.func80 (by kernel_rfl) (by kernel_rfl)
theorem V9:ag Tryz.prog 79:=ag.of Tryz.func79 (by kernel_rfl) (by kernel_rfl)
theorem CQ:ag Tryz.prog 31:=ag.of Tryz.func31 (by kernel_rfl) (by kernel_rfl)
theorem Ut:ag Tryz.prog 47:=ag.of Tryz.func47 (by kernel_rfl) (by kernel_rfl)
theorem Vo:∀w,(zeroValue 66).run Tryz.prog w= .ok (.pointer none) w:=λw=>by kernel_rfl
theorem WQ:∀S w,(A.cells S w (.eq (.pointer none)) (Value.cells (.pointer none)).toList):=λ_ _=>⟨rfl,rfl⟩
theorem Ws:ag Tryz.prog 50:=ag.of Tryz.func50 (by kernel_rfl) (by kernel_rfl)
theorem Wq:ag Tryz.prog 51:=ag.of Tryz.func51 (by kernel_rfl) (by kernel_rfl)
theorem Wp:ag Tryz.prog 58:=ag.of Tryz.func58 (by kernel_rfl) (by kernel_rfl)
theorem Tn:AQ Tryz.prog 27 #[(0,1),(1,1),(2,1)]:=⟨_,Tryz.underlying27,λ_=>by kernel_rfl⟩
theorem PY:∀S w,(A.cells S w (.pair (.eq (.int .i64 (0:Int))) (.pair (.eq (.int .i64 (0:Int))) (.eq (.bool false)))) (Value.cells (.agg #[(.int .i64 (0)),(.int .i64 (0)),(.bool false)])).toList):=λ_ _=>⟨[_],_,rfl,⟨rfl,rfl⟩,⟨[_],_,rfl,⟨rfl,rfl⟩,⟨rfl,rfl⟩⟩⟩
theorem u7:∀w,(zeroValue 25).run Tryz.prog w= .ok (.agg #[(.int .i64 (0)),(.int .i64 (0)),(.int .i64 (0)),(.int .i64 (0)),(.slice none 0 0),(.slice none 0 0)]) w:=λw=>by kernel_rfl
theorem yj:∀S w,(A.cells S w (.agg (.pair (.eq (.int .i64 (0:Int))) (.pair (.eq (.int .i64 (0:Int))) (.pair (.eq (.int .i64 (0:Int))) (.pair (.eq (.int .i64 (0:Int))) (.pair (.eq (.slice none 0 0)) (.eq (.slice none 0 0)))))))) (Value.cells (.agg #[(.int .i64 (0)),(.int .i64 (0)),(.int .i64 (0)),(.int .i64 (0)),(.slice none 0 0),(.slice none 0 0)])).toList):=λ_ _=>⟨[_],_,rfl,⟨rfl,rfl⟩,⟨[_],_,rfl,⟨rfl,rfl⟩,⟨[_],_,rfl,⟨rfl,rfl⟩,⟨[_],_,rfl,⟨rfl,rfl⟩,⟨[_],_,rfl,⟨rfl,rfl⟩,⟨rfl,rfl⟩⟩⟩⟩⟩⟩
theorem Ri:ag Tryz.prog 59:=ag.of Tryz.func59 (by kernel_rfl) (by kernel_rfl)
theorem xR:qq Tryz.prog 23 27 3 24:=.of (z:=(.agg #[(.int .i64 (0)),(.int .i64 (0)),(.bool false)])) Tryz.underlying23 (by kernel_rfl) rfl rfl rfl
theorem To:AQ Tryz.prog 25 #[(0,1),(1,1),(2,1),(3,1),(4,1),(5,1)]:=⟨_,Tryz.underlying25,λ_=>by kernel_rfl⟩
theorem PZ:∀S w,(A.cells S w (.pair (.eq (.int .i64 (0:Int))) (.pair (.eq (.int .i64 (0:Int))) (.pair (.eq (.int .i64 (0:Int))) (.pair (.eq (.int .i64 (0:Int))) (.pair (.eq (.slice none 0 0)) (.eq (.slice none 0 0))))))) (Value.cells (.agg #[(.int .i64 (0)),(.int .i64 (0)),(.int .i64 (0)),(.int .i64 (0)),(.slice none 0 0),(.slice none 0 0)])).toList):=λ_ _=>⟨[_],_,rfl,⟨rfl,rfl⟩,⟨[_],_,rfl,⟨rfl,rfl⟩,⟨[_],_,rfl,⟨rfl,rfl⟩,⟨[_],_,rfl,⟨rfl,rfl⟩,⟨[_],_,rfl,⟨rfl,rfl⟩,⟨rfl,rfl⟩⟩⟩⟩⟩⟩
theorem DJ:∀w,(zeroValue 53).run Tryz.prog w= .ok (.agg #[(.int .i64 (0)),(.int .i64 (0))]) w:=λw=>by kernel_rfl
theorem UO:∀S w,(A.cells S w (.agg (.pair (.eq (.int .i64 (0:Int))) (.eq (.int .i64 (0:Int))))) (Value.cells (.agg #[(.int .i64 (0)),(.int .i64 (0))])).toList):=λ_ _=>⟨[_],_,rfl,⟨rfl,rfl⟩,⟨rfl,rfl⟩⟩
theorem Jo:AQ Tryz.prog 53 #[(0,1),(1,1)]:=⟨_,Tryz.underlying53,λ_=>by kernel_rfl⟩
theorem Db:∀S w,(A.cells S w (.pair (.eq (.int .i64 (0:Int))) (.eq (.int .i64 (0:Int)))) (Value.cells (.agg #[(.int .i64 (0)),(.int .i64 (0))])).toList):=λ_ _=>⟨[_],_,rfl,⟨rfl,rfl⟩,⟨rfl,rfl⟩⟩
theorem xQ:eZ Tryz.prog 53 2 true:=⟨λw=>by kernel_rfl,λw=>by kernel_rfl⟩
theorem Up:ag Tryz.prog 61:=ag.of Tryz.func61 (by kernel_rfl) (by kernel_rfl)
theorem Wn:ag Tryz.prog 62:=ag.of Tryz.func62 (by kernel_rfl) (by kernel_rfl)
theorem HF:ag Tryz.prog 17:=ag.of Tryz.func17 (by kernel_rfl) (by kernel_rfl)
theorem HE:ag Tryz.prog 22:=ag.of Tryz.func22 (by kernel_rfl) (by kernel_rfl)
theorem WH:ag Tryz.prog 21:=ag.of Tryz.func21 (by kernel_rfl) (by kernel_rfl)
theorem WG:ag Tryz.prog 23:=ag.of Tryz.func23 (by kernel_rfl) (by kernel_rfl)
theorem WE:ag Tryz.prog 24:=ag.of Tryz.func24 (by kernel_rfl) (by kernel_rfl)
theorem Uz:ag Tryz.prog 15:=ag.of Tryz.func15 (by kernel_rfl) (by kernel_rfl)
theorem WC:ag Tryz.prog 25:=ag.of Tryz.func25 (by kernel_rfl) (by kernel_rfl)
theorem WI:ag Tryz.prog 19:=ag.of Tryz.func19 (by kernel_rfl) (by kernel_rfl)
theorem VY:LH Tryz.prog 53 cj:=by
 refine⟨rfl,by kernel_rfl,λw x y=>?_⟩;have u3:=Tryz.underlying3;have a3:=Tryz.isAgg3;have z3:=Tryz.sizeOf3;have hS:Tryz.prog.underlying 53=some (.struct (Tryz.prog.fieldsOf 53)):=by kernel_rfl
 have hp:Tryz.prog.stoodInHeld 53=false:=by kernel_rfl
 rw [show(10000:Nat)=9999+1 from rfl,run_equalIn_agg w 9999 53 _ _ hS hp];simp only [Program.fieldsOf,Tryz.underlying53,sB];refine⟨decide (x=y),?_,decide_eq_true_iff⟩;go_simp;obtain⟨p0,p1⟩:=x;obtain⟨q0,q1⟩:=y;by_cases h0:p0=q0 <;> by_cases h1:p1=q1 <;> simp [h0,h1]
theorem Rq:ag Tryz.prog 26:=ag.of Tryz.func26 (by kernel_rfl) (by kernel_rfl)
theorem Vw:AQ Tryz.prog 61 #[(0,1),(1,1),(2,1)]:=⟨_,Tryz.underlying61,λ_=>by kernel_rfl⟩
theorem Vp:∀w,(zeroValue 61).run Tryz.prog w= .ok (.agg #[(.slice none 0 0),(.int .i64 (0)),(.int .u64 (0))]) w:=λw=>by kernel_rfl
theorem UN:∀S w,(A.cells S w (.pair (.eq (.slice none 0 0)) (.pair (.eq (.int .i64 (0:Int))) (.eq (.int .u64 (0:Int))))) (Value.cells (.agg #[(.slice none 0 0),(.int .i64 (0)),(.int .u64 (0))])).toList):=λ_ _=>⟨[_],_,rfl,⟨rfl,rfl⟩,⟨[_],_,rfl,⟨rfl,rfl⟩,⟨rfl,rfl⟩⟩⟩
theorem UF:ag Tryz.prog 12:=ag.of Tryz.func12 (by kernel_rfl) (by kernel_rfl)
theorem Ro:ag Tryz.prog 30:=ag.of Tryz.func30 (by kernel_rfl) (by kernel_rfl)
theorem uy:bo Tryz.prog 61 2 2:=bo.of (by kernel_rfl)
theorem G4:eZ Tryz.prog 59 1 false:=⟨λw=>by kernel_rfl,λw=>by kernel_rfl⟩
theorem Aj:bo Tryz.prog 61 1 1:=bo.of (by kernel_rfl)
theorem KG:bo Tryz.prog 61 0 0:=bo.of (by kernel_rfl)
theorem WA:ag Tryz.prog 29:=ag.of Tryz.func29 (by kernel_rfl) (by kernel_rfl)
theorem wU:ag Tryz.prog 10:=ag.of Tryz.func10 (by kernel_rfl) (by kernel_rfl)
theorem Oc:ag Tryz.prog 86:=ag.of Tryz.func86 (by kernel_rfl) (by kernel_rfl)
theorem SN:∀i z,Tryz.prog.info? 28=some i->i.zero=some z->∀S w,rd S w .val (.slice none 0 0) z.cells.toList:=P6 (t:=.val) (z0:=(.slice none 0 0)) (by kernel_rfl) λ_ _=>⟨rfl,rfl⟩
theorem UH:ag Tryz.prog 104:=ag.of Tryz.func104 (by kernel_rfl) (by kernel_rfl)
theorem Oi:ag Tryz.prog 28:=ag.of Tryz.func28 (by kernel_rfl) (by kernel_rfl)
theorem Rh:ag Tryz.prog 87:=ag.of Tryz.func87 (by kernel_rfl) (by kernel_rfl)
theorem V6:ag Tryz.prog 88:=ag.of Tryz.func88 (by kernel_rfl) (by kernel_rfl)
theorem Wm:ag Tryz.prog 64:=ag.of Tryz.func64 (by kernel_rfl) (by kernel_rfl)
theorem Wj:ag Tryz.prog 65:=ag.of Tryz.func65 (by kernel_rfl) (by kernel_rfl)
theorem WB:ag Tryz.prog 27:=ag.of Tryz.func27 (by kernel_rfl) (by kernel_rfl)
theorem UG:ag Tryz.prog 11:=ag.of Tryz.func11 (by kernel_rfl) (by kernel_rfl)
theorem Vu:qq Tryz.prog 33 25 6 80:=.of (z:=(.agg #[(.int .i64 (0)),(.int .i64 (0)),(.int .i64 (0)),(.int .i64 (0)),(.slice none 0 0),(.slice none 0 0)])) Tryz.underlying33 (by kernel_rfl) rfl rfl rfl
theorem HD:ag Tryz.prog 53:=ag.of Tryz.func53 (by kernel_rfl) (by kernel_rfl)
theorem KO:ag Tryz.prog 36:=ag.of Tryz.func36 (by kernel_rfl) (by kernel_rfl)
theorem Of:ag Tryz.prog 37:=ag.of Tryz.func37 (by kernel_rfl) (by kernel_rfl)
theorem V0:ag Tryz.prog 99:=ag.of Tryz.func99 (by kernel_rfl) (by kernel_rfl)
theorem Wc:ag Tryz.prog 74:=ag.of Tryz.func74 (by kernel_rfl) (by kernel_rfl)
theorem Wb:ag Tryz.prog 75:=ag.of Tryz.func75 (by kernel_rfl) (by kernel_rfl)
theorem Rj:ag Tryz.prog 45:=ag.of Tryz.func45 (by kernel_rfl) (by kernel_rfl)
theorem V4:ag Tryz.prog 91:=ag.of Tryz.func91 (by kernel_rfl) (by kernel_rfl)
theorem Wh:ag Tryz.prog 68:=ag.of Tryz.func68 (by kernel_rfl) (by kernel_rfl)
theorem Uk:ag Tryz.prog 89:=ag.of Tryz.func89 (by kernel_rfl) (by kernel_rfl)
theorem Rm:ag Tryz.prog 39:=ag.of Tryz.func39 (by kernel_rfl) (by kernel_rfl)
theorem V5:ag Tryz.prog 90:=ag.of Tryz.func90 (by kernel_rfl) (by kernel_rfl)
theorem Uw:ag Tryz.prog 43:=ag.of Tryz.func43 (by kernel_rfl) (by kernel_rfl)
theorem Wi:ag Tryz.prog 67:=ag.of Tryz.func67 (by kernel_rfl) (by kernel_rfl)
theorem Wz:ag Tryz.prog 35:=ag.of Tryz.func35 (by kernel_rfl) (by kernel_rfl)
theorem Ux:ag Tryz.prog 38:=ag.of Tryz.func38 (by kernel_rfl) (by kernel_rfl)
theorem Wv:ag Tryz.prog 44:=ag.of Tryz.func44 (by kernel_rfl) (by kernel_rfl)
theorem VZ:LH Tryz.prog 27 aL:=by
 refine⟨rfl,by kernel_rfl,λw x y=>?_⟩;have u3:=Tryz.underlying3;have a3:=Tryz.isAgg3;have z3:=Tryz.sizeOf3;have u4:=Tryz.underlying4;have a4:=Tryz.isAgg4;have z4:=Tryz.sizeOf4;have hS:Tryz.prog.underlying 27=some (.struct (Tryz.prog.fieldsOf 27)):=by kernel_rfl
 have hp:Tryz.prog.stoodInHeld 27=false:=by kernel_rfl
 rw [show(10000:Nat)=9999+1 from rfl,run_equalIn_agg w 9999 27 _ _ hS hp];simp only [Program.fieldsOf,Tryz.underlying27,sB];refine⟨decide (x=y),?_,decide_eq_true_iff⟩;go_simp;obtain⟨p0,p1,p2⟩:=x;obtain⟨q0,q1,q2⟩:=y;by_cases h0:p0=q0 <;> by_cases h1:p1=q1 <;> by_cases h2:p2=q2 <;> simp [h0,h1,h2]
theorem Xn:ag Tryz.prog 5:=ag.of Tryz.func5 (by kernel_rfl) (by kernel_rfl)
theorem W8:ag Tryz.prog 6:=ag.of Tryz.func6 (by kernel_rfl) (by kernel_rfl)
theorem Xm:ag Tryz.prog 7:=ag.of Tryz.func7 (by kernel_rfl) (by kernel_rfl)
theorem Xl:ag Tryz.prog 8:=ag.of Tryz.func8 (by kernel_rfl) (by kernel_rfl)
theorem Xk:ag Tryz.prog 9:=ag.of Tryz.func9 (by kernel_rfl) (by kernel_rfl)
theorem WN:ag Tryz.prog 13:=ag.of Tryz.func13 (by kernel_rfl) (by kernel_rfl)
theorem WM:ag Tryz.prog 14:=ag.of Tryz.func14 (by kernel_rfl) (by kernel_rfl)
theorem WL:ag Tryz.prog 16:=ag.of Tryz.func16 (by kernel_rfl) (by kernel_rfl)
theorem WJ:ag Tryz.prog 18:=ag.of Tryz.func18 (by kernel_rfl) (by kernel_rfl)
abbrev Rs(t:Ty)(l:(Ty.slice t).den):A:=.rep (.slice t) l
abbrev Pv(b:Nat):Value:=.pointer (some ⟨b,0,none⟩)
abbrev sG:= @Tryz.underlying104
abbrev yl:= @Tryz.underlying106
abbrev WU:= @Tryz.underlying113
abbrev UQ:= @Tryz.underlying125
abbrev WT:= @Tryz.underlying157
abbrev WS:= @Tryz.underlying159
abbrev RO:= @Tryz.underlying160
abbrev pq:= @Tryz.underlying22
abbrev DI:= @Tryz.underlying23
abbrev fD:= @Tryz.underlying28
abbrev U3:= @Tryz.underlying3
abbrev SL:= @Tryz.underlying33
abbrev nk:= @Tryz.underlying36
abbrev U4:= @Tryz.underlying4
abbrev U5:= @Tryz.underlying5
abbrev Vi:= @Tryz.underlying59
abbrev AW:= @Tryz.underlying67
abbrev Xq:= @Tryz.underlying82
abbrev SK:= @Tryz.underlying83
abbrev U9:= @Tryz.underlying9
theorem jQ:false=false->1=1:=λ_=>rfl
