import Derived.Test.YthnacobbednnbaaGreatVBB5
import Derived.Test.YthnacobbednnbaaGreatProg
open Nat
open List hiding mem_of_getElem?
open Array hiding mem_of_getElem? mk
set_option linter.unusedVariables false
set_option linter.unusedSimpArgs false
namespace Go.Proofs.YthnacobbednnbaaGreat
open K Go Go.Proofs
@[reducible] def Ti:Ty:=.int .i64
@[reducible] def Tl:Ty:=.slice Ti
@[reducible] def Tr:Ty:=.arr 5 Ti
theorem cQ:Tryz.prog.follows .mixedOrders=true:=by kernel_rfl
theorem oL{n:Nat}:true=false->n=1:=λh=>nomatch h
def MB:ByteArray:=⟨#[0,1,2,2,3,3,3,3,4,4,4,4,4,4,4,4,5,5,5,5,5,5,5,5,5,5,5,5,5,5,5,5,6,6,6,6,6,6,6,6,6,6,6,6,6,6,6,6,6,6,6,6,6,6,6,6,6,6,6,6,6,6,6,6,7,7,7,7,7,7,7,7,7,7,7,7,7,7,7,7,7,7,7,7,7,7,7,7,7,7,7,7,7,7,7,7,7,7,7,7,7,7,7,7,7,7,7,7,7,7,7,7,7,7,7,7,7,7,7,7,7,7,7,7,7,7,7,7,8,8,8,8,8,8,8,8,8,8,8,8,8,8,8,8,8,8,8,8,8,8,8,8,8,8,8,8,8,8,8,8,8,8,8,8,8,8,8,8,8,8,8,8,8,8,8,8,8,8,8,8,8,8,8,8,8,8,8,8,8,8,8,8,8,8,8,8,8,8,8,8,8,8,8,8,8,8,8,8,8,8,8,8,8,8,8,8,8,8,8,8,8,8,8,8,8,8,8,8,8,8,8,8,8,8,8,8,8,8,8,8,8,8,8,8,8,8,8,8,8,8,8,8,8,8,8,8]⟩
@[reducible] def aJ:Ty:=.agg (.pair (.int .i64) (.pair (.int .i64) .bool))
abbrev aQ:=(Int×(Int×Bool))
@[reducible] def am:Ty:=.agg (.pair (.int .i64) (.pair (.int .i64) (.pair (.int .i64) (.pair (.int .i64) (.pair (.slice (.slice (.slice (.int .i64)))) (.slice aJ))))))
abbrev ab:=(Int×(Int×(Int×(Int×((List (List (List Int)))×(List aQ))))))
@[reducible] def bV:Ty:=.agg (.pair (.int .i64) (.int .i64))
abbrev fU:=(Int×Int)
@[reducible] def VJ:Ty:=.agg (.pair (.slice (.int .i64)) (.pair (.int .i64) (.int .u64)))
abbrev bP:=((List Int)×(Int×Int))
@[reducible] def Q7:Ty:=.agg (.int .i64)
abbrev Oz:=Int
@[reducible] def Q6:Ty:=.agg (.slice (.int .i64))
abbrev Oy:=(List Int)
@[reducible] def Ed:Ty:=.agg (.pair (.int .i64) (.pair (.int .i64) (.pair (.int .i64) (.pair (.int .i64) (.pair (.slice (.slice (.slice (.int .i64)))) .ign)))))
abbrev zk:=(Int×(Int×(Int×(Int×((List (List (List Int)))×Unit)))))
@[reducible] def HC:Ty:=bV
abbrev eV:=fU
theorem cj:bf Tryz.prog 25 4 4:=bf.of (by kernel_rfl)
theorem fB:eE Tryz.prog 22 1 false:=⟨λw=>by kernel_rfl,λw=>by kernel_rfl⟩
theorem kE:eE Tryz.prog 36 1 false:=⟨λw=>by kernel_rfl,λw=>by kernel_rfl⟩
theorem eT:eE Tryz.prog 28 1 false:=⟨λw=>by kernel_rfl,λw=>by kernel_rfl⟩
theorem fR:bf Tryz.prog 25 5 5:=bf.of (by kernel_rfl)
theorem nm:eE Tryz.prog 23 1 false:=⟨λw=>by kernel_rfl,λw=>by kernel_rfl⟩
theorem bQ:eE Tryz.prog 3 1 false:=⟨λw=>by kernel_rfl,λw=>by kernel_rfl⟩
theorem eU:bf Tryz.prog 25 0 0:=bf.of (by kernel_rfl)
theorem zi:ag Tryz.prog 53:=ag.of Tryz.func53 (by kernel_rfl) (by kernel_rfl)
theorem Jh:ag Tryz.prog 97:=ag.of Tryz.func97 (by kernel_rfl) (by kernel_rfl)
theorem P7:ag Tryz.prog 75:=ag.of Tryz.func75 (by kernel_rfl) (by kernel_rfl)
theorem ze:bf Tryz.prog 27 0 0:=bf.of (by kernel_rfl)
theorem zd:bf Tryz.prog 27 1 1:=bf.of (by kernel_rfl)
theorem pD:bf Tryz.prog 25 1 1:=bf.of (by kernel_rfl)
theorem pC:bf Tryz.prog 25 2 2:=bf.of (by kernel_rfl)
theorem tH:bf Tryz.prog 25 3 3:=bf.of (by kernel_rfl)
theorem dF:eE Tryz.prog 25 6 true:=⟨λw=>by kernel_rfl,λw=>by kernel_rfl⟩
theorem Vf:ag Tryz.prog 54:=ag.of Tryz.func54 (by kernel_rfl) (by kernel_rfl)
theorem mY:eE Tryz.prog 27 3 true:=⟨λw=>by kernel_rfl,λw=>by kernel_rfl⟩
theorem Fv:∀w,(zeroValue 27).run Tryz.prog w= .ok (.agg #[(.int .i64 (0)),(.int .i64 (0)),(.bool false)]) w:=λw=>by kernel_rfl
theorem Nw:∀S w,(A.cells S w (.agg (.pair (.eq (.int .i64 (0:Int))) (.pair (.eq (.int .i64 (0:Int))) (.eq (.bool false))))) (Value.cells (.agg #[(.int .i64 (0)),(.int .i64 (0)),(.bool false)])).toList):=λ_ _=>⟨[_],_,rfl,⟨rfl,rfl⟩,⟨[_],_,rfl,⟨rfl,rfl⟩,⟨rfl,rfl⟩⟩⟩
theorem Ve:ag Tryz.prog 55:=ag.of Tryz.func55 (by kernel_rfl) (by kernel_rfl)
theorem Kz:∀w,(zeroValue 82).run Tryz.prog w= .ok (.agg #[(.int .i64 (0)),(.int .i64 (0)),(.int .i64 (0)),(.int .i64 (0)),(.int .i64 (0))]) w:=λw=>by kernel_rfl
theorem Nv:∀S w,(A.cells S w (.rep (.arr 5 (.int .i64)) [(0:Int),(0:Int),(0:Int),(0:Int),(0:Int)]) (Value.cells (.agg #[(.int .i64 (0)),(.int .i64 (0)),(.int .i64 (0)),(.int .i64 (0)),(.int .i64 (0))])).toList):=λ_ _=>⟨rfl,⟨[_],_,rfl,rfl,⟨[_],_,rfl,rfl,⟨[_],_,rfl,rfl,⟨[_],_,rfl,rfl,⟨[_],_,rfl,rfl,rfl⟩⟩⟩⟩⟩⟩
theorem iE:bf Tryz.prog 135 0 0:=bf.of (by kernel_rfl)
theorem jT:eE Tryz.prog 82 5 true:=⟨λw=>by kernel_rfl,λw=>by kernel_rfl⟩
theorem Oq:ag Tryz.prog 173:=ag.of Tryz.func173 (by kernel_rfl) (by kernel_rfl)
theorem SS:ag Tryz.prog 163:=ag.of Tryz.func163 (by kernel_rfl) (by kernel_rfl)
theorem SR:ag Tryz.prog 167:=ag.of Tryz.func167 (by kernel_rfl) (by kernel_rfl)
theorem SU:ag Tryz.prog 157:=ag.of Tryz.func157 (by kernel_rfl) (by kernel_rfl)
theorem SV:ag Tryz.prog 156:=ag.of Tryz.func156 (by kernel_rfl) (by kernel_rfl)
theorem SX:ag Tryz.prog 155:=ag.of Tryz.func155 (by kernel_rfl) (by kernel_rfl)
theorem SJ:ag Tryz.prog 62:=ag.of Tryz.func62 (by kernel_rfl) (by kernel_rfl)
theorem cV:pM Tryz.prog 28 3 1 8:=.of (z:=(.int .i64 (0))) Tryz.underlying28 (by kernel_rfl) rfl rfl rfl
theorem SZ:ag Tryz.prog 142:=ag.of Tryz.func142 (by kernel_rfl) (by kernel_rfl)
theorem Rm:zL Tryz.prog 165 #[(0,1)]:=⟨_,Tryz.underlying165,λ_=>by kernel_rfl⟩
theorem N7:∀w,(zeroValue 165).run Tryz.prog w= .ok (.agg #[(.slice none 0 0)]) w:=λw=>by kernel_rfl
theorem Ql:∀S w,(A.cells S w (.eq (.slice none 0 0)) (Value.cells (.agg #[(.slice none 0 0)])).toList):=λ_ _=>⟨rfl,rfl⟩
theorem Ji:ag Tryz.prog 115:=ag.of Tryz.func115 (by kernel_rfl) (by kernel_rfl)
theorem HD:JG Tryz.prog 163 (.agg #[.int .i64 0]):=⟨⟨_,Tryz.underlying163⟩,λw=>by kernel_rfl⟩
theorem G5:∀w,(zeroValue 163).run Tryz.prog w= .ok (.agg #[(.int .i64 (0))]) w:=λw=>by kernel_rfl
theorem OG:∀S w,(A.cells S w (.agg (.eq (.int .i64 (0:Int)))) (Value.cells (.agg #[(.int .i64 (0))])).toList):=λ_ _=>⟨rfl,rfl⟩
theorem Oh:eE Tryz.prog 163 1 true:=⟨λw=>by kernel_rfl,λw=>by kernel_rfl⟩
theorem EM:bf Tryz.prog 163 0 0:=bf.of (by kernel_rfl)
theorem Rn:zL Tryz.prog 163 #[(0,1)]:=⟨_,Tryz.underlying163,λ_=>by kernel_rfl⟩
theorem Qm:∀S w,(A.cells S w (.eq (.int .i64 (0:Int))) (Value.cells (.agg #[(.int .i64 (0))])).toList):=λ_ _=>⟨rfl,rfl⟩
theorem MM:bf Tryz.prog 165 0 0:=bf.of (by kernel_rfl)
theorem wO:E8 Tryz.prog 163 "galloon/moth.beside" 191:=λu w=>by kernel_rfl
theorem wN:E8 Tryz.prog 165 "galloon/moth.beside" 192:=λu w=>by kernel_rfl
theorem O0:JG Tryz.prog 165 (.agg #[.slice none 0 0]):=⟨⟨_,Tryz.underlying165⟩,λw=>by kernel_rfl⟩
theorem TC:∀S w,(A.cells S w (.agg (.eq (.slice none 0 0))) (Value.cells (.agg #[(.slice none 0 0)])).toList):=λ_ _=>⟨rfl,rfl⟩
theorem Q8:eE Tryz.prog 165 1 true:=⟨λw=>by kernel_rfl,λw=>by kernel_rfl⟩
theorem Ox:ag Tryz.prog 105:=ag.of Tryz.func105 (by kernel_rfl) (by kernel_rfl)
theorem Vp:ag Tryz.prog 19:=ag.of Tryz.func19 (by kernel_rfl) (by kernel_rfl)
theorem lT:pM Tryz.prog 36 28 1 24:=.of (z:=(.slice none 0 0)) Tryz.underlying36 (by kernel_rfl) rfl rfl rfl
theorem QX:∀w,(zeroValue 124).run Tryz.prog w= .ok (.agg #[.int .i64 0,.int .i64 0,.int .i64 0]) w:=λw=>by kernel_rfl
theorem MQ:ag Tryz.prog 90:=ag.of Tryz.func90 (by kernel_rfl) (by kernel_rfl)
theorem UT:ag Tryz.prog 91:=ag.of Tryz.func91 (by kernel_rfl) (by kernel_rfl)
theorem Bm:ag Tryz.prog 48:=ag.of Tryz.func48 (by kernel_rfl) (by kernel_rfl)
theorem Gh:ag Tryz.prog 49:=ag.of Tryz.func49 (by kernel_rfl) (by kernel_rfl)
theorem G4:∀w,(zeroValue 84).run Tryz.prog w= .ok (.agg #[(.int .i64 (0)),(.int .i64 (0)),(.int .i64 (0)),(.int .i64 (0)),(.int .i64 (0)),(.int .i64 (0)),(.int .i64 (0)),(.int .i64 (0)),(.int .i64 (0)),(.int .i64 (0)),(.int .i64 (0)),(.int .i64 (0)),(.int .i64 (0)),(.int .i64 (0)),(.int .i64 (0)),(.int .i64 (0)),(.int .i64 (0)),(.int .i64 (0)),(.int .i64 (0)),(.int .i64 (0)),(.int .i64 (0)),(.int .i64 (0)),(.int .i64 (0)),(.int .i64 (0)),(.int .i64 (0)),(.int .i64 (0)),(.int .i64 (0)),(.int .i64 (0)),(.int .i64 (0)),(.int .i64 (0)),(.int .i64 (0)),(.int .i64 (0)),(.int .i64 (0)),(.int .i64 (0)),(.int .i64 (0))]) w:=λw=>by kernel_rfl
theorem Jx:∀S w,(A.cells S w (.rep (.arr 7 (.arr 5 (.int .i64))) [[(0:Int),(0:Int),(0:Int),(0:Int),(0:Int)],[(0:Int),(0:Int),(0:Int),(0:Int),(0:Int)],[(0:Int),(0:Int),(0:Int),(0:Int),(0:Int)],[(0:Int),(0:Int),(0:Int),(0:Int),(0:Int)],[(0:Int),(0:Int),(0:Int),(0:Int),(0:Int)],[(0:Int),(0:Int),(0:Int),(0:Int),(0:Int)],[(0:Int),(0:Int),(0:Int),(0:Int),(0:Int)]]) (Value.cells (.agg #[(.int .i64 (0)),(.int .i64 (0)),(.int .i64 (0)),(.int .i64 (0)),(.int .i64 (0)),(.int .i64 (0)),(.int .i64 (0)),(.int .i64 (0)),(.int .i64 (0)),(.int .i64 (0)),(.int .i64 (0)),(.int .i64 (0)),(.int .i64 (0)),(.int .i64 (0)),(.int .i64 (0)),(.int .i64 (0)),(.int .i64 (0)),(.int .i64 (0)),(.int .i64 (0)),(.int .i64 (0)),(.int .i64 (0)),(.int .i64 (0)),(.int .i64 (0)),(.int .i64 (0)),(.int .i64 (0)),(.int .i64 (0)),(.int .i64 (0)),(.int .i64 (0)),(.int .i64 (0)),(.int .i64 (0)),(.int .i64 (0)),(.int .i64 (0)),(.int .i64 (0)),(.int .i64 (0)),(.int .i64 (0))])).toList):=λ_ _=>⟨rfl,⟨[_,_,_,_,_],_,rfl,⟨rfl,⟨[_],_,rfl,rfl,⟨[_],_,rfl,rfl,⟨[_],_,rfl,rfl,⟨[_],_,rfl,rfl,⟨[_],_,rfl,rfl,rfl⟩⟩⟩⟩⟩⟩,⟨[_,_,_,_,_],_,rfl,⟨rfl,⟨[_],_,rfl,rfl,⟨[_],_,rfl,rfl,⟨[_],_,rfl,rfl,⟨[_],_,rfl,rfl,⟨[_],_,rfl,rfl,rfl⟩⟩⟩⟩⟩⟩,⟨[_,_,_,_,_],_,rfl,⟨rfl,⟨[_],_,rfl,rfl,⟨[_],_,rfl,rfl,⟨[_],_,rfl,rfl,⟨[_],_,rfl,rfl,⟨[_],_,rfl,rfl,rfl⟩⟩⟩⟩⟩⟩,⟨[_,_,_,_,_],_,rfl,⟨rfl,⟨[_],_,rfl,rfl,⟨[_],_,rfl,rfl,⟨[_],_,rfl,rfl,⟨[_],_,rfl,rfl,⟨[_],_,rfl,rfl,rfl⟩⟩⟩⟩⟩⟩,⟨[_,_,_,_,_],_,rfl,⟨rfl,⟨[_],_,rfl,rfl,⟨[_],_,rfl,rfl,⟨[_],_,rfl,rfl,⟨[_],_,rfl,rfl,⟨[_],_,rfl,rfl,rfl⟩⟩⟩⟩⟩⟩,⟨[_,_,_,_,_],_,rfl,⟨rfl,⟨[_],_,rfl,rfl,⟨[_],_,rfl,rfl,⟨[_],_,rfl,rfl,⟨[_],_,rfl,rfl,⟨[_],_,rfl,rfl,rfl⟩⟩⟩⟩⟩⟩,⟨[_,_,_,_,_],_,rfl,⟨rfl,⟨[_],_,rfl,rfl,⟨[_],_,rfl,rfl,⟨[_],_,rfl,rfl,⟨[_],_,rfl,rfl,⟨[_],_,rfl,rfl,rfl⟩⟩⟩⟩⟩⟩,rfl⟩⟩⟩⟩⟩⟩⟩⟩
theorem HF:eE Tryz.prog 84 35 true:=⟨λw=>by kernel_rfl,λw=>by kernel_rfl⟩
theorem Vg:ag Tryz.prog 50:=ag.of Tryz.func50 (by kernel_rfl) (by kernel_rfl)
theorem Qb:ag Tryz.prog 23:=ag.of Tryz.func23 (by kernel_rfl) (by kernel_rfl)
theorem Q9:eE Tryz.prog 122 1 false:=⟨λw=>by kernel_rfl,λw=>by kernel_rfl⟩
theorem HG:eE Tryz.prog 121 1 false:=⟨λw=>by kernel_rfl,λw=>by kernel_rfl⟩
theorem Ou:ag Tryz.prog 107:=ag.of Tryz.func107 (by kernel_rfl) (by kernel_rfl)
theorem QY:∀w,(zeroValue 121).run Tryz.prog w= .ok .nilFunc w:=λw=>by kernel_rfl
theorem TD:∀S w,(A.cells S w (.eq .nilFunc) (Value.cells .nilFunc).toList):=λ_ _=>⟨rfl,rfl⟩
theorem Jd:bf Tryz.prog 27 2 2:=bf.of (by kernel_rfl)
theorem VK:eE Tryz.prog 4 1 false:=⟨λw=>by kernel_rfl,λw=>by kernel_rfl⟩
theorem QW:∀w,(zeroValue 168).run Tryz.prog w= .ok (.agg #[]) w:=λw=>by kernel_rfl
theorem Ky:∀w,(zeroValue 92).run Tryz.prog w= .ok (.slice none 0 0) w:=λw=>by kernel_rfl
theorem Nu:∀S w,(A.cells S w (.eq (.slice none 0 0)) (Value.cells (.slice none 0 0)).toList):=λ_ _=>⟨rfl,rfl⟩
theorem KX:eE Tryz.prog 77 1 false:=⟨λw=>by kernel_rfl,λw=>by kernel_rfl⟩
theorem SB:ag Tryz.prog 84:=ag.of Tryz.func84 (by kernel_rfl) (by kernel_rfl)
theorem qG:eE Tryz.prog 78 1 false:=⟨λw=>by kernel_rfl,λw=>by kernel_rfl⟩
theorem Tn:ag Tryz.prog 101:=ag.of Tryz.func101 (by kernel_rfl) (by kernel_rfl)
theorem yr:eE Tryz.prog 92 1 false:=⟨λw=>by kernel_rfl,λw=>by kernel_rfl⟩
theorem K8:pM Tryz.prog 92 78 1 1:=.of (z:=(.int .u8 (0))) Tryz.underlying92 (by kernel_rfl) rfl rfl rfl
theorem Ov:ag Tryz.prog 106:=ag.of Tryz.func106 (by kernel_rfl) (by kernel_rfl)
theorem SH:ag Tryz.prog 68:=ag.of Tryz.func68 (by kernel_rfl) (by kernel_rfl)
theorem Gf:ag Tryz.prog 60:=ag.of Tryz.func60 (by kernel_rfl) (by kernel_rfl)
theorem SK:ag Tryz.prog 61:=ag.of Tryz.func61 (by kernel_rfl) (by kernel_rfl)
theorem P8:ag Tryz.prog 69:=ag.of Tryz.func69 (by kernel_rfl) (by kernel_rfl)
theorem tZ:∀w,(zeroValue 110).run Tryz.prog w= .ok (.agg #[(.int .i64 (0)),(.int .i64 (0))]) w:=λw=>by kernel_rfl
theorem BJ:∀S w,(A.cells S w (.agg (.pair (.eq (.int .i64 (0:Int))) (.eq (.int .i64 (0:Int))))) (Value.cells (.agg #[(.int .i64 (0)),(.int .i64 (0))])).toList):=λ_ _=>⟨[_],_,rfl,⟨rfl,rfl⟩,⟨rfl,rfl⟩⟩
theorem zf:bf Tryz.prog 110 0 0:=bf.of (by kernel_rfl)
theorem MN:bf Tryz.prog 110 1 1:=bf.of (by kernel_rfl)
theorem kF:eE Tryz.prog 110 2 true:=⟨λw=>by kernel_rfl,λw=>by kernel_rfl⟩
theorem Ie:zL Tryz.prog 110 #[(0,1),(1,1)]:=⟨_,Tryz.underlying110,λ_=>by kernel_rfl⟩
theorem DT:∀S w,(A.cells S w (.pair (.eq (.int .i64 (0:Int))) (.eq (.int .i64 (0:Int)))) (Value.cells (.agg #[(.int .i64 (0)),(.int .i64 (0))])).toList):=λ_ _=>⟨[_],_,rfl,⟨rfl,rfl⟩,⟨rfl,rfl⟩⟩
theorem SG:ag Tryz.prog 74:=ag.of Tryz.func74 (by kernel_rfl) (by kernel_rfl)
theorem UZ:ag Tryz.prog 79:=ag.of Tryz.func79 (by kernel_rfl) (by kernel_rfl)
theorem Sr:J6 Tryz.prog 110 bV:=by
 refine⟨rfl,by kernel_rfl,λw x y=>?_⟩;have u3:=Tryz.underlying3;have a3:=Tryz.isAgg3;have z3:=Tryz.sizeOf3;have hS:Tryz.prog.underlying 110=some (.struct (Tryz.prog.fieldsOf 110)):=by kernel_rfl
 have hp:Tryz.prog.stoodInHeld 110=false:=by kernel_rfl
 rw [show(10000:Nat)=9999+1 from rfl,run_equalIn_agg w 9999 110 _ _ hS hp];simp only [Program.fieldsOf,Tryz.underlying110,rA];refine⟨decide (x=y),?_,decide_eq_true_iff⟩;go_simp;obtain⟨p0,p1⟩:=x;obtain⟨q0,q1⟩:=y;by_cases h0:p0=q0 <;> by_cases h1:p1=q1 <;> simp [h0,h1]
theorem UY:ag Tryz.prog 80:=ag.of Tryz.func80 (by kernel_rfl) (by kernel_rfl)
theorem Ci:∀w,(zeroValue 67).run Tryz.prog w= .ok (.agg #[(.int .i64 (0)),(.int .i64 (0))]) w:=λw=>by kernel_rfl
theorem TB:∀S w,(A.cells S w (.agg (.pair (.eq (.int .i64 (0:Int))) (.eq (.int .i64 (0:Int))))) (Value.cells (.agg #[(.int .i64 (0)),(.int .i64 (0))])).toList):=λ_ _=>⟨[_],_,rfl,⟨rfl,rfl⟩,⟨rfl,rfl⟩⟩
theorem Ic:zL Tryz.prog 67 #[(0,1),(1,1)]:=⟨_,Tryz.underlying67,λ_=>by kernel_rfl⟩
theorem BI:∀S w,(A.cells S w (.pair (.eq (.int .i64 (0:Int))) (.eq (.int .i64 (0:Int)))) (Value.cells (.agg #[(.int .i64 (0)),(.int .i64 (0))])).toList):=λ_ _=>⟨[_],_,rfl,⟨rfl,rfl⟩,⟨rfl,rfl⟩⟩
theorem wF:eE Tryz.prog 67 2 true:=⟨λw=>by kernel_rfl,λw=>by kernel_rfl⟩
theorem UX:ag Tryz.prog 83:=ag.of Tryz.func83 (by kernel_rfl) (by kernel_rfl)
theorem Ri:zL Tryz.prog 27 #[(0,1),(1,1),(2,1)]:=⟨_,Tryz.underlying27,λ_=>by kernel_rfl⟩
theorem OD:∀S w,(A.cells S w (.pair (.eq (.int .i64 (0:Int))) (.pair (.eq (.int .i64 (0:Int))) (.eq (.bool false)))) (Value.cells (.agg #[(.int .i64 (0)),(.int .i64 (0)),(.bool false)])).toList):=λ_ _=>⟨[_],_,rfl,⟨rfl,rfl⟩,⟨[_],_,rfl,⟨rfl,rfl⟩,⟨rfl,rfl⟩⟩⟩
theorem uQ:∀w,(zeroValue 25).run Tryz.prog w= .ok (.agg #[(.int .i64 (0)),(.int .i64 (0)),(.int .i64 (0)),(.int .i64 (0)),(.slice none 0 0),(.slice none 0 0)]) w:=λw=>by kernel_rfl
theorem zx:∀S w,(A.cells S w (.agg (.pair (.eq (.int .i64 (0:Int))) (.pair (.eq (.int .i64 (0:Int))) (.pair (.eq (.int .i64 (0:Int))) (.pair (.eq (.int .i64 (0:Int))) (.pair (.eq (.slice none 0 0)) (.eq (.slice none 0 0)))))))) (Value.cells (.agg #[(.int .i64 (0)),(.int .i64 (0)),(.int .i64 (0)),(.int .i64 (0)),(.slice none 0 0),(.slice none 0 0)])).toList):=λ_ _=>⟨[_],_,rfl,⟨rfl,rfl⟩,⟨[_],_,rfl,⟨rfl,rfl⟩,⟨[_],_,rfl,⟨rfl,rfl⟩,⟨[_],_,rfl,⟨rfl,rfl⟩,⟨[_],_,rfl,⟨rfl,rfl⟩,⟨rfl,rfl⟩⟩⟩⟩⟩⟩
theorem Qa:ag Tryz.prog 29:=ag.of Tryz.func29 (by kernel_rfl) (by kernel_rfl)
theorem Ai:pM Tryz.prog 23 27 3 24:=.of (z:=(.agg #[(.int .i64 (0)),(.int .i64 (0)),(.bool false)])) Tryz.underlying23 (by kernel_rfl) rfl rfl rfl
theorem yt:pM Tryz.prog 22 36 1 24:=.of (z:=(.slice none 0 0)) Tryz.underlying22 (by kernel_rfl) rfl rfl rfl
theorem Rj:zL Tryz.prog 25 #[(0,1),(1,1),(2,1),(3,1),(4,1),(5,1)]:=⟨_,Tryz.underlying25,λ_=>by kernel_rfl⟩
theorem OE:∀S w,(A.cells S w (.pair (.eq (.int .i64 (0:Int))) (.pair (.eq (.int .i64 (0:Int))) (.pair (.eq (.int .i64 (0:Int))) (.pair (.eq (.int .i64 (0:Int))) (.pair (.eq (.slice none 0 0)) (.eq (.slice none 0 0))))))) (Value.cells (.agg #[(.int .i64 (0)),(.int .i64 (0)),(.int .i64 (0)),(.int .i64 (0)),(.slice none 0 0),(.slice none 0 0)])).toList):=λ_ _=>⟨[_],_,rfl,⟨rfl,rfl⟩,⟨[_],_,rfl,⟨rfl,rfl⟩,⟨[_],_,rfl,⟨rfl,rfl⟩,⟨[_],_,rfl,⟨rfl,rfl⟩,⟨[_],_,rfl,⟨rfl,rfl⟩,⟨rfl,rfl⟩⟩⟩⟩⟩⟩
theorem Oi:eE Tryz.prog 104 1 false:=⟨λw=>by kernel_rfl,λw=>by kernel_rfl⟩
theorem Sz:ag Tryz.prog 89:=ag.of Tryz.func89 (by kernel_rfl) (by kernel_rfl)
theorem Tf:ag Tryz.prog 104:=ag.of Tryz.func104 (by kernel_rfl) (by kernel_rfl)
theorem Tj:ag Tryz.prog 103:=ag.of Tryz.func103 (by kernel_rfl) (by kernel_rfl)
theorem UV:ag Tryz.prog 87:=ag.of Tryz.func87 (by kernel_rfl) (by kernel_rfl)
theorem UW:ag Tryz.prog 86:=ag.of Tryz.func86 (by kernel_rfl) (by kernel_rfl)
theorem Td:ag Tryz.prog 108:=ag.of Tryz.func108 (by kernel_rfl) (by kernel_rfl)
theorem SA:ag Tryz.prog 85:=ag.of Tryz.func85 (by kernel_rfl) (by kernel_rfl)
theorem Uh:∀w,(zeroValue 77).run Tryz.prog w= .ok (.pointer none) w:=λw=>by kernel_rfl
theorem Vw:∀S w,(A.cells S w (.eq (.pointer none)) (Value.cells (.pointer none)).toList):=λ_ _=>⟨rfl,rfl⟩
theorem UU:ag Tryz.prog 88:=ag.of Tryz.func88 (by kernel_rfl) (by kernel_rfl)
theorem U0:ag Tryz.prog 71:=ag.of Tryz.func71 (by kernel_rfl) (by kernel_rfl)
theorem Gi:ag Tryz.prog 44:=ag.of Tryz.func44 (by kernel_rfl) (by kernel_rfl)
theorem Vq:ag Tryz.prog 17:=ag.of Tryz.func17 (by kernel_rfl) (by kernel_rfl)
theorem Vl:ag Tryz.prog 28:=ag.of Tryz.func28 (by kernel_rfl) (by kernel_rfl)
theorem Vi:ag Tryz.prog 42:=ag.of Tryz.func42 (by kernel_rfl) (by kernel_rfl)
theorem Vj:ag Tryz.prog 38:=ag.of Tryz.func38 (by kernel_rfl) (by kernel_rfl)
theorem SQ:ag Tryz.prog 25:=ag.of Tryz.func25 (by kernel_rfl) (by kernel_rfl)
theorem Vh:ag Tryz.prog 45:=ag.of Tryz.func45 (by kernel_rfl) (by kernel_rfl)
theorem UQ:J6 Tryz.prog 67 bV:=by
 refine⟨rfl,by kernel_rfl,λw x y=>?_⟩;have u3:=Tryz.underlying3;have a3:=Tryz.isAgg3;have z3:=Tryz.sizeOf3;have hS:Tryz.prog.underlying 67=some (.struct (Tryz.prog.fieldsOf 67)):=by kernel_rfl
 have hp:Tryz.prog.stoodInHeld 67=false:=by kernel_rfl
 rw [show(10000:Nat)=9999+1 from rfl,run_equalIn_agg w 9999 67 _ _ hS hp];simp only [Program.fieldsOf,Tryz.underlying67,rA];refine⟨decide (x=y),?_,decide_eq_true_iff⟩;go_simp;obtain⟨p0,p1⟩:=x;obtain⟨q0,q1⟩:=y;by_cases h0:p0=q0 <;> by_cases h1:p1=q1 <;> simp [h0,h1]
theorem Qc:ag Tryz.prog 21:=ag.of Tryz.func21 (by kernel_rfl) (by kernel_rfl)
theorem Uo:zL Tryz.prog 74 #[(0,1),(1,1),(2,1)]:=⟨_,Tryz.underlying74,λ_=>by kernel_rfl⟩
theorem Ui:∀w,(zeroValue 74).run Tryz.prog w= .ok (.agg #[(.slice none 0 0),(.int .i64 (0)),(.int .u64 (0))]) w:=λw=>by kernel_rfl
theorem TA:∀S w,(A.cells S w (.pair (.eq (.slice none 0 0)) (.pair (.eq (.int .i64 (0:Int))) (.eq (.int .u64 (0:Int))))) (Value.cells (.agg #[(.slice none 0 0),(.int .i64 (0)),(.int .u64 (0))])).toList):=λ_ _=>⟨[_],_,rfl,⟨rfl,rfl⟩,⟨[_],_,rfl,⟨rfl,rfl⟩,⟨rfl,rfl⟩⟩⟩
theorem Vr:ag Tryz.prog 16:=ag.of Tryz.func16 (by kernel_rfl) (by kernel_rfl)
theorem SN:ag Tryz.prog 47:=ag.of Tryz.func47 (by kernel_rfl) (by kernel_rfl)
theorem tG:bf Tryz.prog 74 2 2:=bf.of (by kernel_rfl)
theorem FH:eE Tryz.prog 72 1 false:=⟨λw=>by kernel_rfl,λw=>by kernel_rfl⟩
theorem zc:bf Tryz.prog 74 1 1:=bf.of (by kernel_rfl)
theorem Jc:bf Tryz.prog 74 0 0:=bf.of (by kernel_rfl)
theorem U8:ag Tryz.prog 59:=ag.of Tryz.func59 (by kernel_rfl) (by kernel_rfl)
theorem vJ:ag Tryz.prog 24:=ag.of Tryz.func24 (by kernel_rfl) (by kernel_rfl)
theorem MP:ag Tryz.prog 98:=ag.of Tryz.func98 (by kernel_rfl) (by kernel_rfl)
theorem QV:∀i z,Tryz.prog.info? 28=some i->i.zero=some z->∀S w,rd S w .val (.slice none 0 0) z.cells.toList:=OL (t:=.val) (z0:=(.slice none 0 0)) (by kernel_rfl) λ_ _=>⟨rfl,rfl⟩
theorem S7:ag Tryz.prog 117:=ag.of Tryz.func117 (by kernel_rfl) (by kernel_rfl)
theorem P9:ag Tryz.prog 46:=ag.of Tryz.func46 (by kernel_rfl) (by kernel_rfl)
theorem P5:ag Tryz.prog 99:=ag.of Tryz.func99 (by kernel_rfl) (by kernel_rfl)
theorem To:ag Tryz.prog 100:=ag.of Tryz.func100 (by kernel_rfl) (by kernel_rfl)
theorem U6:ag Tryz.prog 65:=ag.of Tryz.func65 (by kernel_rfl) (by kernel_rfl)
theorem U2:ag Tryz.prog 67:=ag.of Tryz.func67 (by kernel_rfl) (by kernel_rfl)
theorem Vk:ag Tryz.prog 33:=ag.of Tryz.func33 (by kernel_rfl) (by kernel_rfl)
theorem SY:ag Tryz.prog 15:=ag.of Tryz.func15 (by kernel_rfl) (by kernel_rfl)
theorem Um:pM Tryz.prog 33 25 6 80:=.of (z:=(.agg #[(.int .i64 (0)),(.int .i64 (0)),(.int .i64 (0)),(.int .i64 (0)),(.slice none 0 0),(.slice none 0 0)])) Tryz.underlying33 (by kernel_rfl) rfl rfl rfl
theorem Gg:ag Tryz.prog 56:=ag.of Tryz.func56 (by kernel_rfl) (by kernel_rfl)
theorem SD:ag Tryz.prog 76:=ag.of Tryz.func76 (by kernel_rfl) (by kernel_rfl)
theorem P6:ag Tryz.prog 77:=ag.of Tryz.func77 (by kernel_rfl) (by kernel_rfl)
theorem SI:ag Tryz.prog 64:=ag.of Tryz.func64 (by kernel_rfl) (by kernel_rfl)
theorem Vb:ag Tryz.prog 57:=ag.of Tryz.func57 (by kernel_rfl) (by kernel_rfl)
theorem Va:ag Tryz.prog 58:=ag.of Tryz.func58 (by kernel_rfl) (by kernel_rfl)
theorem SC:ag Tryz.prog 81:=ag.of Tryz.func81 (by kernel_rfl) (by kernel_rfl)
theorem S9:ag Tryz.prog 116:=ag.of Tryz.func116 (by kernel_rfl) (by kernel_rfl)
theorem US:ag Tryz.prog 96:=ag.of Tryz.func96 (by kernel_rfl) (by kernel_rfl)
theorem Vo:ag Tryz.prog 20:=ag.of Tryz.func20 (by kernel_rfl) (by kernel_rfl)
theorem SL:ag Tryz.prog 52:=ag.of Tryz.func52 (by kernel_rfl) (by kernel_rfl)
theorem UR:J6 Tryz.prog 27 aJ:=by
 refine⟨rfl,by kernel_rfl,λw x y=>?_⟩;have u3:=Tryz.underlying3;have a3:=Tryz.isAgg3;have z3:=Tryz.sizeOf3;have u4:=Tryz.underlying4;have a4:=Tryz.isAgg4;have z4:=Tryz.sizeOf4;have hS:Tryz.prog.underlying 27=some (.struct (Tryz.prog.fieldsOf 27)):=by kernel_rfl
 have hp:Tryz.prog.stoodInHeld 27=false:=by kernel_rfl
 rw [show(10000:Nat)=9999+1 from rfl,run_equalIn_agg w 9999 27 _ _ hS hp];simp only [Program.fieldsOf,Tryz.underlying27,rA];refine⟨decide (x=y),?_,decide_eq_true_iff⟩;go_simp;obtain⟨p0,p1,p2⟩:=x;obtain⟨q0,q1,q2⟩:=y;by_cases h0:p0=q0 <;> by_cases h1:p1=q1 <;> by_cases h2:p2=q2 <;> simp [h0,h1,h2]
theorem Vu:ag Tryz.prog 10:=ag.of Tryz.func10 (by kernel_rfl) (by kernel_rfl)
theorem Ta:ag Tryz.prog 11:=ag.of Tryz.func11 (by kernel_rfl) (by kernel_rfl)
theorem Vt:ag Tryz.prog 12:=ag.of Tryz.func12 (by kernel_rfl) (by kernel_rfl)
theorem Vs:ag Tryz.prog 13:=ag.of Tryz.func13 (by kernel_rfl) (by kernel_rfl)
theorem Vn:ag Tryz.prog 22:=ag.of Tryz.func22 (by kernel_rfl) (by kernel_rfl)
theorem SO:ag Tryz.prog 34:=ag.of Tryz.func34 (by kernel_rfl) (by kernel_rfl)
theorem Tm:ag Tryz.prog 102:=ag.of Tryz.func102 (by kernel_rfl) (by kernel_rfl)
theorem U1:ag Tryz.prog 70:=ag.of Tryz.func70 (by kernel_rfl) (by kernel_rfl)
theorem U7:ag Tryz.prog 63:=ag.of Tryz.func63 (by kernel_rfl) (by kernel_rfl)
theorem Vm:ag Tryz.prog 26:=ag.of Tryz.func26 (by kernel_rfl) (by kernel_rfl)
abbrev Rs(t:Ty)(l:(Ty.slice t).den):A:=.rep (.slice t) l
abbrev Pv(b:Nat):Value:=.pointer (some ⟨b,0,none⟩)
abbrev VB:= @Tryz.underlying110
abbrev GL:= @Tryz.underlying111
abbrev TF:= @Tryz.underlying124
abbrev VA:= @Tryz.underlying140
abbrev Vz:= @Tryz.underlying163
abbrev Vy:= @Tryz.underlying165
abbrev Qw:= @Tryz.underlying168
abbrev pJ:= @Tryz.underlying22
abbrev Cf:= @Tryz.underlying23
abbrev gA:= @Tryz.underlying28
abbrev U3:= @Tryz.underlying3
abbrev Uc:= @Tryz.underlying33
abbrev nK:= @Tryz.underlying36
abbrev U4:= @Tryz.underlying4
abbrev U5:= @Tryz.underlying5
abbrev Ub:= @Tryz.underlying72
abbrev D1:= @Tryz.underlying82
abbrev Kw:= @Tryz.underlying84
abbrev U9:= @Tryz.underlying9
abbrev Ce:= @Tryz.underlying92
theorem ju:false=false->1=1:=λ_=>rfl
