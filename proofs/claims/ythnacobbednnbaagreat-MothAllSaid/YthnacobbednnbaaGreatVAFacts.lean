import Derived.Test.YthnacobbednnbaaGreatVAB5
import Derived.Test.YthnacobbednnbaaGreatProg
open Nat
open List hiding mem_of_getElem?
open Array hiding mem_of_getElem? mk
set_option linter.unusedVariables false
set_option linter.unusedSimpArgs false
namespace Go.Proofs.YthnacobbednnbaaGreat
open K Go Go.Proofs
@[reducible] def Ti:Ty:=.int .i64
@[reducible] def Tl:Ty:=.slice Ti
@[reducible] def Tr:Ty:=.arr 5 Ti
theorem d4:Tryz.prog.follows .mixedOrders=true:=by kernel_rfl
theorem tC{n:Nat}:true=false->n=1:=λh=>nomatch h
def KL:ByteArray:=⟨#[0,1,2,2,3,3,3,3,4,4,4,4,4,4,4,4,5,5,5,5,5,5,5,5,5,5,5,5,5,5,5,5,6,6,6,6,6,6,6,6,6,6,6,6,6,6,6,6,6,6,6,6,6,6,6,6,6,6,6,6,6,6,6,6,7,7,7,7,7,7,7,7,7,7,7,7,7,7,7,7,7,7,7,7,7,7,7,7,7,7,7,7,7,7,7,7,7,7,7,7,7,7,7,7,7,7,7,7,7,7,7,7,7,7,7,7,7,7,7,7,7,7,7,7,7,7,7,7,8,8,8,8,8,8,8,8,8,8,8,8,8,8,8,8,8,8,8,8,8,8,8,8,8,8,8,8,8,8,8,8,8,8,8,8,8,8,8,8,8,8,8,8,8,8,8,8,8,8,8,8,8,8,8,8,8,8,8,8,8,8,8,8,8,8,8,8,8,8,8,8,8,8,8,8,8,8,8,8,8,8,8,8,8,8,8,8,8,8,8,8,8,8,8,8,8,8,8,8,8,8,8,8,8,8,8,8,8,8,8,8,8,8,8,8,8,8,8,8,8,8,8,8,8,8,8,8]⟩
@[reducible] def aZ:Ty:=.agg (.pair (.int .i64) (.pair (.int .i64) .bool))
abbrev bz:=(Int×(Int×Bool))
@[reducible] def au:Ty:=.agg (.pair (.int .i64) (.pair (.int .i64) (.pair (.int .i64) (.pair (.int .i64) (.pair (.slice (.slice (.slice (.int .i64)))) (.slice aZ))))))
abbrev ae:=(Int×(Int×(Int×(Int×((List (List (List Int)))×(List bz))))))
@[reducible] def bM:Ty:=.agg (.pair (.int .i64) (.int .i64))
abbrev fx:=(Int×Int)
@[reducible] def TO:Ty:=.agg (.pair (.slice (.int .i64)) (.pair (.int .i64) (.int .u64)))
abbrev bU:=((List Int)×(Int×Int))
@[reducible] def PK:Ty:=.agg (.int .i64)
abbrev MU:=Int
@[reducible] def PI:Ty:=.agg (.slice (.int .i64))
abbrev MS:=(List Int)
@[reducible] def CE:Ty:=.agg (.pair (.int .i64) (.pair (.int .i64) (.pair (.int .i64) (.pair (.int .i64) (.pair (.slice (.slice (.slice (.int .i64)))) .ign)))))
abbrev xY:=(Int×(Int×(Int×(Int×((List (List (List Int)))×Unit)))))
@[reducible] def Ge:Ty:=bM
abbrev eL:=fx
theorem eK:aV Tryz.prog 25 4 4:=aV.of (by kernel_rfl)
theorem lG:ec Tryz.prog 22 1 false:=⟨λw=>by kernel_rfl,λw=>by kernel_rfl⟩
theorem yN:ec Tryz.prog 36 1 false:=⟨λw=>by kernel_rfl,λw=>by kernel_rfl⟩
theorem gi:ec Tryz.prog 28 1 false:=⟨λw=>by kernel_rfl,λw=>by kernel_rfl⟩
theorem qi:aV Tryz.prog 25 5 5:=aV.of (by kernel_rfl)
theorem AP:ec Tryz.prog 23 1 false:=⟨λw=>by kernel_rfl,λw=>by kernel_rfl⟩
theorem cN:ec Tryz.prog 3 1 false:=⟨λw=>by kernel_rfl,λw=>by kernel_rfl⟩
theorem gW:aV Tryz.prog 25 0 0:=aV.of (by kernel_rfl)
theorem xX:ah Tryz.prog 53:=ah.of Tryz.func53 (by kernel_rfl) (by kernel_rfl)
theorem H9:ah Tryz.prog 97:=ah.of Tryz.func97 (by kernel_rfl) (by kernel_rfl)
theorem Ou:ah Tryz.prog 75:=ah.of Tryz.func75 (by kernel_rfl) (by kernel_rfl)
theorem BE:aV Tryz.prog 27 0 0:=aV.of (by kernel_rfl)
theorem BD:aV Tryz.prog 27 1 1:=aV.of (by kernel_rfl)
theorem BF:aV Tryz.prog 25 1 1:=aV.of (by kernel_rfl)
theorem xQ:aV Tryz.prog 25 2 2:=aV.of (by kernel_rfl)
theorem H5:aV Tryz.prog 25 3 3:=aV.of (by kernel_rfl)
theorem g7:ec Tryz.prog 25 6 true:=⟨λw=>by kernel_rfl,λw=>by kernel_rfl⟩
theorem SY:ah Tryz.prog 54:=ah.of Tryz.func54 (by kernel_rfl) (by kernel_rfl)
theorem qB:ec Tryz.prog 27 3 true:=⟨λw=>by kernel_rfl,λw=>by kernel_rfl⟩
theorem AC:∀w,(zeroValue 27).run Tryz.prog w= .ok (.agg #[(.int .i64 (0)),(.int .i64 (0)),(.bool false)]) w:=λw=>by kernel_rfl
theorem It:∀S w,(A.cells S w (.agg (.pair (.eq (.int .i64 (0:Int))) (.pair (.eq (.int .i64 (0:Int))) (.eq (.bool false))))) (Value.cells (.agg #[(.int .i64 (0)),(.int .i64 (0)),(.bool false)])).toList):=λ_ _=>⟨[_],_,rfl,⟨rfl,rfl⟩,⟨[_],_,rfl,⟨rfl,rfl⟩,⟨rfl,rfl⟩⟩⟩
theorem SX:ah Tryz.prog 55:=ah.of Tryz.func55 (by kernel_rfl) (by kernel_rfl)
theorem Jb:∀w,(zeroValue 82).run Tryz.prog w= .ok (.agg #[(.int .i64 (0)),(.int .i64 (0)),(.int .i64 (0)),(.int .i64 (0)),(.int .i64 (0))]) w:=λw=>by kernel_rfl
theorem Lt:∀S w,(A.cells S w (.rep (.arr 5 (.int .i64)) [(0:Int),(0:Int),(0:Int),(0:Int),(0:Int)]) (Value.cells (.agg #[(.int .i64 (0)),(.int .i64 (0)),(.int .i64 (0)),(.int .i64 (0)),(.int .i64 (0))])).toList):=λ_ _=>⟨rfl,⟨[_],_,rfl,rfl,⟨[_],_,rfl,rfl,⟨[_],_,rfl,rfl,⟨[_],_,rfl,rfl,⟨[_],_,rfl,rfl,rfl⟩⟩⟩⟩⟩⟩
theorem gK:aV Tryz.prog 135 0 0:=aV.of (by kernel_rfl)
theorem i8:ec Tryz.prog 82 5 true:=⟨λw=>by kernel_rfl,λw=>by kernel_rfl⟩
theorem MK:ah Tryz.prog 173:=ah.of Tryz.func173 (by kernel_rfl) (by kernel_rfl)
theorem QI:ah Tryz.prog 163:=ah.of Tryz.func163 (by kernel_rfl) (by kernel_rfl)
theorem QH:ah Tryz.prog 167:=ah.of Tryz.func167 (by kernel_rfl) (by kernel_rfl)
theorem QJ:ah Tryz.prog 157:=ah.of Tryz.func157 (by kernel_rfl) (by kernel_rfl)
theorem QK:ah Tryz.prog 156:=ah.of Tryz.func156 (by kernel_rfl) (by kernel_rfl)
theorem QL:ah Tryz.prog 155:=ah.of Tryz.func155 (by kernel_rfl) (by kernel_rfl)
theorem QC:ah Tryz.prog 62:=ah.of Tryz.func62 (by kernel_rfl) (by kernel_rfl)
theorem dM:pr Tryz.prog 28 3 1 8:=.of (z:=(.int .i64 (0))) Tryz.underlying28 (by kernel_rfl) rfl rfl rfl
theorem QM:ah Tryz.prog 142:=ah.of Tryz.func142 (by kernel_rfl) (by kernel_rfl)
theorem PT:yq Tryz.prog 165 #[(0,1)]:=⟨_,Tryz.underlying165,λ_=>by kernel_rfl⟩
theorem L1:∀w,(zeroValue 165).run Tryz.prog w= .ok (.agg #[(.slice none 0 0)]) w:=λw=>by kernel_rfl
theorem OH:∀S w,(A.cells S w (.eq (.slice none 0 0)) (Value.cells (.agg #[(.slice none 0 0)])).toList):=λ_ _=>⟨rfl,rfl⟩
theorem Ib:ah Tryz.prog 115:=ah.of Tryz.func115 (by kernel_rfl) (by kernel_rfl)
theorem Gf:IC Tryz.prog 163 (.agg #[.int .i64 0]):=⟨⟨_,Tryz.underlying163⟩,λw=>by kernel_rfl⟩
theorem FA:∀w,(zeroValue 163).run Tryz.prog w= .ok (.agg #[(.int .i64 (0))]) w:=λw=>by kernel_rfl
theorem M5:∀S w,(A.cells S w (.agg (.eq (.int .i64 (0:Int)))) (Value.cells (.agg #[(.int .i64 (0))])).toList):=λ_ _=>⟨rfl,rfl⟩
theorem ME:ec Tryz.prog 163 1 true:=⟨λw=>by kernel_rfl,λw=>by kernel_rfl⟩
theorem Dj:aV Tryz.prog 163 0 0:=aV.of (by kernel_rfl)
theorem PU:yq Tryz.prog 163 #[(0,1)]:=⟨_,Tryz.underlying163,λ_=>by kernel_rfl⟩
theorem OI:∀S w,(A.cells S w (.eq (.int .i64 (0:Int))) (Value.cells (.agg #[(.int .i64 (0))])).toList):=λ_ _=>⟨rfl,rfl⟩
theorem KX:aV Tryz.prog 165 0 0:=aV.of (by kernel_rfl)
theorem vD:DT Tryz.prog 163 "galloon/moth.beside" 191:=λu w=>by kernel_rfl
theorem vC:DT Tryz.prog 165 "galloon/moth.beside" 192:=λu w=>by kernel_rfl
theorem Nw:IC Tryz.prog 165 (.agg #[.slice none 0 0]):=⟨⟨_,Tryz.underlying165⟩,λw=>by kernel_rfl⟩
theorem Q0:∀S w,(A.cells S w (.agg (.eq (.slice none 0 0))) (Value.cells (.agg #[(.slice none 0 0)])).toList):=λ_ _=>⟨rfl,rfl⟩
theorem PL:ec Tryz.prog 165 1 true:=⟨λw=>by kernel_rfl,λw=>by kernel_rfl⟩
theorem MP:ah Tryz.prog 105:=ah.of Tryz.func105 (by kernel_rfl) (by kernel_rfl)
theorem Tn:ah Tryz.prog 19:=ah.of Tryz.func19 (by kernel_rfl) (by kernel_rfl)
theorem my:pr Tryz.prog 36 28 1 24:=.of (z:=(.slice none 0 0)) Tryz.underlying36 (by kernel_rfl) rfl rfl rfl
theorem Po:∀w,(zeroValue 124).run Tryz.prog w= .ok (.agg #[.int .i64 0,.int .i64 0,.int .i64 0]) w:=λw=>by kernel_rfl
theorem K1:ah Tryz.prog 90:=ah.of Tryz.func90 (by kernel_rfl) (by kernel_rfl)
theorem SH:ah Tryz.prog 91:=ah.of Tryz.func91 (by kernel_rfl) (by kernel_rfl)
theorem zJ:ah Tryz.prog 48:=ah.of Tryz.func48 (by kernel_rfl) (by kernel_rfl)
theorem EJ:ah Tryz.prog 49:=ah.of Tryz.func49 (by kernel_rfl) (by kernel_rfl)
theorem Fz:∀w,(zeroValue 84).run Tryz.prog w= .ok (.agg #[(.int .i64 (0)),(.int .i64 (0)),(.int .i64 (0)),(.int .i64 (0)),(.int .i64 (0)),(.int .i64 (0)),(.int .i64 (0)),(.int .i64 (0)),(.int .i64 (0)),(.int .i64 (0)),(.int .i64 (0)),(.int .i64 (0)),(.int .i64 (0)),(.int .i64 (0)),(.int .i64 (0)),(.int .i64 (0)),(.int .i64 (0)),(.int .i64 (0)),(.int .i64 (0)),(.int .i64 (0)),(.int .i64 (0)),(.int .i64 (0)),(.int .i64 (0)),(.int .i64 (0)),(.int .i64 (0)),(.int .i64 (0)),(.int .i64 (0)),(.int .i64 (0)),(.int .i64 (0)),(.int .i64 (0)),(.int .i64 (0)),(.int .i64 (0)),(.int .i64 (0)),(.int .i64 (0)),(.int .i64 (0))]) w:=λw=>by kernel_rfl
theorem Is:∀S w,(A.cells S w (.rep (.arr 7 (.arr 5 (.int .i64))) [[(0:Int),(0:Int),(0:Int),(0:Int),(0:Int)],[(0:Int),(0:Int),(0:Int),(0:Int),(0:Int)],[(0:Int),(0:Int),(0:Int),(0:Int),(0:Int)],[(0:Int),(0:Int),(0:Int),(0:Int),(0:Int)],[(0:Int),(0:Int),(0:Int),(0:Int),(0:Int)],[(0:Int),(0:Int),(0:Int),(0:Int),(0:Int)],[(0:Int),(0:Int),(0:Int),(0:Int),(0:Int)]]) (Value.cells (.agg #[(.int .i64 (0)),(.int .i64 (0)),(.int .i64 (0)),(.int .i64 (0)),(.int .i64 (0)),(.int .i64 (0)),(.int .i64 (0)),(.int .i64 (0)),(.int .i64 (0)),(.int .i64 (0)),(.int .i64 (0)),(.int .i64 (0)),(.int .i64 (0)),(.int .i64 (0)),(.int .i64 (0)),(.int .i64 (0)),(.int .i64 (0)),(.int .i64 (0)),(.int .i64 (0)),(.int .i64 (0)),(.int .i64 (0)),(.int .i64 (0)),(.int .i64 (0)),(.int .i64 (0)),(.int .i64 (0)),(.int .i64 (0)),(.int .i64 (0)),(.int .i64 (0)),(.int .i64 (0)),(.int .i64 (0)),(.int .i64 (0)),(.int .i64 (0)),(.int .i64 (0)),(.int .i64 (0)),(.int .i64 (0))])).toList):=λ_ _=>⟨rfl,⟨[_,_,_,_,_],_,rfl,⟨rfl,⟨[_],_,rfl,rfl,⟨[_],_,rfl,rfl,⟨[_],_,rfl,rfl,⟨[_],_,rfl,rfl,⟨[_],_,rfl,rfl,rfl⟩⟩⟩⟩⟩⟩,⟨[_,_,_,_,_],_,rfl,⟨rfl,⟨[_],_,rfl,rfl,⟨[_],_,rfl,rfl,⟨[_],_,rfl,rfl,⟨[_],_,rfl,rfl,⟨[_],_,rfl,rfl,rfl⟩⟩⟩⟩⟩⟩,⟨[_,_,_,_,_],_,rfl,⟨rfl,⟨[_],_,rfl,rfl,⟨[_],_,rfl,rfl,⟨[_],_,rfl,rfl,⟨[_],_,rfl,rfl,⟨[_],_,rfl,rfl,rfl⟩⟩⟩⟩⟩⟩,⟨[_,_,_,_,_],_,rfl,⟨rfl,⟨[_],_,rfl,rfl,⟨[_],_,rfl,rfl,⟨[_],_,rfl,rfl,⟨[_],_,rfl,rfl,⟨[_],_,rfl,rfl,rfl⟩⟩⟩⟩⟩⟩,⟨[_,_,_,_,_],_,rfl,⟨rfl,⟨[_],_,rfl,rfl,⟨[_],_,rfl,rfl,⟨[_],_,rfl,rfl,⟨[_],_,rfl,rfl,⟨[_],_,rfl,rfl,rfl⟩⟩⟩⟩⟩⟩,⟨[_,_,_,_,_],_,rfl,⟨rfl,⟨[_],_,rfl,rfl,⟨[_],_,rfl,rfl,⟨[_],_,rfl,rfl,⟨[_],_,rfl,rfl,⟨[_],_,rfl,rfl,rfl⟩⟩⟩⟩⟩⟩,⟨[_,_,_,_,_],_,rfl,⟨rfl,⟨[_],_,rfl,rfl,⟨[_],_,rfl,rfl,⟨[_],_,rfl,rfl,⟨[_],_,rfl,rfl,⟨[_],_,rfl,rfl,rfl⟩⟩⟩⟩⟩⟩,rfl⟩⟩⟩⟩⟩⟩⟩⟩
theorem Gi:ec Tryz.prog 84 35 true:=⟨λw=>by kernel_rfl,λw=>by kernel_rfl⟩
theorem SZ:ah Tryz.prog 50:=ah.of Tryz.func50 (by kernel_rfl) (by kernel_rfl)
theorem K2:ah Tryz.prog 23:=ah.of Tryz.func23 (by kernel_rfl) (by kernel_rfl)
theorem PM:ec Tryz.prog 122 1 false:=⟨λw=>by kernel_rfl,λw=>by kernel_rfl⟩
theorem Gj:ec Tryz.prog 121 1 false:=⟨λw=>by kernel_rfl,λw=>by kernel_rfl⟩
theorem MN:ah Tryz.prog 107:=ah.of Tryz.func107 (by kernel_rfl) (by kernel_rfl)
theorem Px:∀w,(zeroValue 121).run Tryz.prog w= .ok .nilFunc w:=λw=>by kernel_rfl
theorem Q1:∀S w,(A.cells S w (.eq .nilFunc) (Value.cells .nilFunc).toList):=λ_ _=>⟨rfl,rfl⟩
theorem H4:aV Tryz.prog 27 2 2:=aV.of (by kernel_rfl)
theorem TP:ec Tryz.prog 4 1 false:=⟨λw=>by kernel_rfl,λw=>by kernel_rfl⟩
theorem Pn:∀w,(zeroValue 168).run Tryz.prog w= .ok (.agg #[]) w:=λw=>by kernel_rfl
theorem Ja:∀w,(zeroValue 92).run Tryz.prog w= .ok (.slice none 0 0) w:=λw=>by kernel_rfl
theorem Ls:∀S w,(A.cells S w (.eq (.slice none 0 0)) (Value.cells (.slice none 0 0)).toList):=λ_ _=>⟨rfl,rfl⟩
theorem Jt:ec Tryz.prog 77 1 false:=⟨λw=>by kernel_rfl,λw=>by kernel_rfl⟩
theorem Qx:ah Tryz.prog 84:=ah.of Tryz.func84 (by kernel_rfl) (by kernel_rfl)
theorem l7:ec Tryz.prog 78 1 false:=⟨λw=>by kernel_rfl,λw=>by kernel_rfl⟩
theorem QR:ah Tryz.prog 101:=ah.of Tryz.func101 (by kernel_rfl) (by kernel_rfl)
theorem xb:ec Tryz.prog 92 1 false:=⟨λw=>by kernel_rfl,λw=>by kernel_rfl⟩
theorem JG:pr Tryz.prog 92 78 1 1:=.of (z:=(.int .u8 (0))) Tryz.underlying92 (by kernel_rfl) rfl rfl rfl
theorem MO:ah Tryz.prog 106:=ah.of Tryz.func106 (by kernel_rfl) (by kernel_rfl)
theorem QB:ah Tryz.prog 68:=ah.of Tryz.func68 (by kernel_rfl) (by kernel_rfl)
theorem zI:ah Tryz.prog 60:=ah.of Tryz.func60 (by kernel_rfl) (by kernel_rfl)
theorem QD:ah Tryz.prog 61:=ah.of Tryz.func61 (by kernel_rfl) (by kernel_rfl)
theorem Ia:ah Tryz.prog 69:=ah.of Tryz.func69 (by kernel_rfl) (by kernel_rfl)
theorem sV:∀w,(zeroValue 110).run Tryz.prog w= .ok (.agg #[(.int .i64 (0)),(.int .i64 (0))]) w:=λw=>by kernel_rfl
theorem Ab:∀S w,(A.cells S w (.agg (.pair (.eq (.int .i64 (0:Int))) (.eq (.int .i64 (0:Int))))) (Value.cells (.agg #[(.int .i64 (0)),(.int .i64 (0))])).toList):=λ_ _=>⟨[_],_,rfl,⟨rfl,rfl⟩,⟨rfl,rfl⟩⟩
theorem xR:aV Tryz.prog 110 0 0:=aV.of (by kernel_rfl)
theorem KY:aV Tryz.prog 110 1 1:=aV.of (by kernel_rfl)
theorem jE:ec Tryz.prog 110 2 true:=⟨λw=>by kernel_rfl,λw=>by kernel_rfl⟩
theorem GT:yq Tryz.prog 110 #[(0,1),(1,1)]:=⟨_,Tryz.underlying110,λ_=>by kernel_rfl⟩
theorem BV:∀S w,(A.cells S w (.pair (.eq (.int .i64 (0:Int))) (.eq (.int .i64 (0:Int)))) (Value.cells (.agg #[(.int .i64 (0)),(.int .i64 (0))])).toList):=λ_ _=>⟨[_],_,rfl,⟨rfl,rfl⟩,⟨rfl,rfl⟩⟩
theorem Qy:ah Tryz.prog 74:=ah.of Tryz.func74 (by kernel_rfl) (by kernel_rfl)
theorem SO:ah Tryz.prog 79:=ah.of Tryz.func79 (by kernel_rfl) (by kernel_rfl)
theorem Qu:LS Tryz.prog 110 bM:=by
 refine⟨rfl,by kernel_rfl,λw x y=>?_⟩;have u3:=Tryz.underlying3;have a3:=Tryz.isAgg3;have z3:=Tryz.sizeOf3;have hS:Tryz.prog.underlying 110=some (.struct (Tryz.prog.fieldsOf 110)):=by kernel_rfl
 have hp:Tryz.prog.stoodInHeld 110=false:=by kernel_rfl
 rw [show(10000:Nat)=9999+1 from rfl,run_equalIn_agg w 9999 110 _ _ hS hp];simp only [Program.fieldsOf,Tryz.underlying110,qZ];refine⟨decide (x=y),?_,decide_eq_true_iff⟩;go_simp;obtain⟨p0,p1⟩:=x;obtain⟨q0,q1⟩:=y;by_cases h0:p0=q0 <;> by_cases h1:p1=q1 <;> simp [h0,h1]
theorem SN:ah Tryz.prog 80:=ah.of Tryz.func80 (by kernel_rfl) (by kernel_rfl)
theorem AB:∀w,(zeroValue 67).run Tryz.prog w= .ok (.agg #[(.int .i64 (0)),(.int .i64 (0))]) w:=λw=>by kernel_rfl
theorem QZ:∀S w,(A.cells S w (.agg (.pair (.eq (.int .i64 (0:Int))) (.eq (.int .i64 (0:Int))))) (Value.cells (.agg #[(.int .i64 (0)),(.int .i64 (0))])).toList):=λ_ _=>⟨[_],_,rfl,⟨rfl,rfl⟩,⟨rfl,rfl⟩⟩
theorem GR:yq Tryz.prog 67 #[(0,1),(1,1)]:=⟨_,Tryz.underlying67,λ_=>by kernel_rfl⟩
theorem Aa:∀S w,(A.cells S w (.pair (.eq (.int .i64 (0:Int))) (.eq (.int .i64 (0:Int)))) (Value.cells (.agg #[(.int .i64 (0)),(.int .i64 (0))])).toList):=λ_ _=>⟨[_],_,rfl,⟨rfl,rfl⟩,⟨rfl,rfl⟩⟩
theorem vv:ec Tryz.prog 67 2 true:=⟨λw=>by kernel_rfl,λw=>by kernel_rfl⟩
theorem SL:ah Tryz.prog 83:=ah.of Tryz.func83 (by kernel_rfl) (by kernel_rfl)
theorem PR:yq Tryz.prog 27 #[(0,1),(1,1),(2,1)]:=⟨_,Tryz.underlying27,λ_=>by kernel_rfl⟩
theorem MY:∀S w,(A.cells S w (.pair (.eq (.int .i64 (0:Int))) (.pair (.eq (.int .i64 (0:Int))) (.eq (.bool false)))) (Value.cells (.agg #[(.int .i64 (0)),(.int .i64 (0)),(.bool false)])).toList):=λ_ _=>⟨[_],_,rfl,⟨rfl,rfl⟩,⟨[_],_,rfl,⟨rfl,rfl⟩,⟨rfl,rfl⟩⟩⟩
theorem yu:∀w,(zeroValue 25).run Tryz.prog w= .ok (.agg #[(.int .i64 (0)),(.int .i64 (0)),(.int .i64 (0)),(.int .i64 (0)),(.slice none 0 0),(.slice none 0 0)]) w:=λw=>by kernel_rfl
theorem E0:∀S w,(A.cells S w (.agg (.pair (.eq (.int .i64 (0:Int))) (.pair (.eq (.int .i64 (0:Int))) (.pair (.eq (.int .i64 (0:Int))) (.pair (.eq (.int .i64 (0:Int))) (.pair (.eq (.slice none 0 0)) (.eq (.slice none 0 0)))))))) (Value.cells (.agg #[(.int .i64 (0)),(.int .i64 (0)),(.int .i64 (0)),(.int .i64 (0)),(.slice none 0 0),(.slice none 0 0)])).toList):=λ_ _=>⟨[_],_,rfl,⟨rfl,rfl⟩,⟨[_],_,rfl,⟨rfl,rfl⟩,⟨[_],_,rfl,⟨rfl,rfl⟩,⟨[_],_,rfl,⟨rfl,rfl⟩,⟨[_],_,rfl,⟨rfl,rfl⟩,⟨rfl,rfl⟩⟩⟩⟩⟩⟩
theorem Ox:ah Tryz.prog 29:=ah.of Tryz.func29 (by kernel_rfl) (by kernel_rfl)
theorem JH:pr Tryz.prog 23 27 3 24:=.of (z:=(.agg #[(.int .i64 (0)),(.int .i64 (0)),(.bool false)])) Tryz.underlying23 (by kernel_rfl) rfl rfl rfl
theorem AU:pr Tryz.prog 22 36 1 24:=.of (z:=(.slice none 0 0)) Tryz.underlying22 (by kernel_rfl) rfl rfl rfl
theorem PS:yq Tryz.prog 25 #[(0,1),(1,1),(2,1),(3,1),(4,1),(5,1)]:=⟨_,Tryz.underlying25,λ_=>by kernel_rfl⟩
theorem MZ:∀S w,(A.cells S w (.pair (.eq (.int .i64 (0:Int))) (.pair (.eq (.int .i64 (0:Int))) (.pair (.eq (.int .i64 (0:Int))) (.pair (.eq (.int .i64 (0:Int))) (.pair (.eq (.slice none 0 0)) (.eq (.slice none 0 0))))))) (Value.cells (.agg #[(.int .i64 (0)),(.int .i64 (0)),(.int .i64 (0)),(.int .i64 (0)),(.slice none 0 0),(.slice none 0 0)])).toList):=λ_ _=>⟨[_],_,rfl,⟨rfl,rfl⟩,⟨[_],_,rfl,⟨rfl,rfl⟩,⟨[_],_,rfl,⟨rfl,rfl⟩,⟨[_],_,rfl,⟨rfl,rfl⟩,⟨[_],_,rfl,⟨rfl,rfl⟩,⟨rfl,rfl⟩⟩⟩⟩⟩⟩
theorem CG:ec Tryz.prog 104 1 false:=⟨λw=>by kernel_rfl,λw=>by kernel_rfl⟩
theorem Qv:ah Tryz.prog 89:=ah.of Tryz.func89 (by kernel_rfl) (by kernel_rfl)
theorem Qz:ah Tryz.prog 72:=ah.of Tryz.func72 (by kernel_rfl) (by kernel_rfl)
theorem MQ:ah Tryz.prog 104:=ah.of Tryz.func104 (by kernel_rfl) (by kernel_rfl)
theorem MR:ah Tryz.prog 103:=ah.of Tryz.func103 (by kernel_rfl) (by kernel_rfl)
theorem SJ:ah Tryz.prog 87:=ah.of Tryz.func87 (by kernel_rfl) (by kernel_rfl)
theorem SK:ah Tryz.prog 86:=ah.of Tryz.func86 (by kernel_rfl) (by kernel_rfl)
theorem QQ:ah Tryz.prog 108:=ah.of Tryz.func108 (by kernel_rfl) (by kernel_rfl)
theorem Qw:ah Tryz.prog 85:=ah.of Tryz.func85 (by kernel_rfl) (by kernel_rfl)
theorem RF:∀w,(zeroValue 77).run Tryz.prog w= .ok (.pointer none) w:=λw=>by kernel_rfl
theorem Tv:∀S w,(A.cells S w (.eq (.pointer none)) (Value.cells (.pointer none)).toList):=λ_ _=>⟨rfl,rfl⟩
theorem SI:ah Tryz.prog 88:=ah.of Tryz.func88 (by kernel_rfl) (by kernel_rfl)
theorem QA:ah Tryz.prog 71:=ah.of Tryz.func71 (by kernel_rfl) (by kernel_rfl)
theorem EK:ah Tryz.prog 44:=ah.of Tryz.func44 (by kernel_rfl) (by kernel_rfl)
theorem QG:ah Tryz.prog 17:=ah.of Tryz.func17 (by kernel_rfl) (by kernel_rfl)
theorem QF:ah Tryz.prog 28:=ah.of Tryz.func28 (by kernel_rfl) (by kernel_rfl)
theorem S9:ah Tryz.prog 42:=ah.of Tryz.func42 (by kernel_rfl) (by kernel_rfl)
theorem Ta:ah Tryz.prog 38:=ah.of Tryz.func38 (by kernel_rfl) (by kernel_rfl)
theorem Tm:ah Tryz.prog 25:=ah.of Tryz.func25 (by kernel_rfl) (by kernel_rfl)
theorem S7:ah Tryz.prog 45:=ah.of Tryz.func45 (by kernel_rfl) (by kernel_rfl)
theorem SG:LS Tryz.prog 67 bM:=by
 refine⟨rfl,by kernel_rfl,λw x y=>?_⟩;have u3:=Tryz.underlying3;have a3:=Tryz.isAgg3;have z3:=Tryz.sizeOf3;have hS:Tryz.prog.underlying 67=some (.struct (Tryz.prog.fieldsOf 67)):=by kernel_rfl
 have hp:Tryz.prog.stoodInHeld 67=false:=by kernel_rfl
 rw [show(10000:Nat)=9999+1 from rfl,run_equalIn_agg w 9999 67 _ _ hS hp];simp only [Program.fieldsOf,Tryz.underlying67,qZ];refine⟨decide (x=y),?_,decide_eq_true_iff⟩;go_simp;obtain⟨p0,p1⟩:=x;obtain⟨q0,q1⟩:=y;by_cases h0:p0=q0 <;> by_cases h1:p1=q1 <;> simp [h0,h1]
theorem Oy:ah Tryz.prog 21:=ah.of Tryz.func21 (by kernel_rfl) (by kernel_rfl)
theorem RN:yq Tryz.prog 74 #[(0,1),(1,1),(2,1)]:=⟨_,Tryz.underlying74,λ_=>by kernel_rfl⟩
theorem RG:∀w,(zeroValue 74).run Tryz.prog w= .ok (.agg #[(.slice none 0 0),(.int .i64 (0)),(.int .u64 (0))]) w:=λw=>by kernel_rfl
theorem QY:∀S w,(A.cells S w (.pair (.eq (.slice none 0 0)) (.pair (.eq (.int .i64 (0:Int))) (.eq (.int .u64 (0:Int))))) (Value.cells (.agg #[(.slice none 0 0),(.int .i64 (0)),(.int .u64 (0))])).toList):=λ_ _=>⟨[_],_,rfl,⟨rfl,rfl⟩,⟨[_],_,rfl,⟨rfl,rfl⟩,⟨rfl,rfl⟩⟩⟩
theorem To:ah Tryz.prog 16:=ah.of Tryz.func16 (by kernel_rfl) (by kernel_rfl)
theorem S5:ah Tryz.prog 47:=ah.of Tryz.func47 (by kernel_rfl) (by kernel_rfl)
theorem sE:aV Tryz.prog 74 2 2:=aV.of (by kernel_rfl)
theorem Ef:ec Tryz.prog 72 1 false:=⟨λw=>by kernel_rfl,λw=>by kernel_rfl⟩
theorem xP:aV Tryz.prog 74 1 1:=aV.of (by kernel_rfl)
theorem H3:aV Tryz.prog 74 0 0:=aV.of (by kernel_rfl)
theorem SV:ah Tryz.prog 59:=ah.of Tryz.func59 (by kernel_rfl) (by kernel_rfl)
theorem vJ:ah Tryz.prog 24:=ah.of Tryz.func24 (by kernel_rfl) (by kernel_rfl)
theorem K0:ah Tryz.prog 98:=ah.of Tryz.func98 (by kernel_rfl) (by kernel_rfl)
theorem Pm:∀i z,Tryz.prog.info? 28=some i->i.zero=some z->∀S w,rd S w .val (.slice none 0 0) z.cells.toList:=Na (t:=.val) (z0:=(.slice none 0 0)) (by kernel_rfl) λ_ _=>⟨rfl,rfl⟩
theorem QO:ah Tryz.prog 117:=ah.of Tryz.func117 (by kernel_rfl) (by kernel_rfl)
theorem Ov:ah Tryz.prog 46:=ah.of Tryz.func46 (by kernel_rfl) (by kernel_rfl)
theorem Ot:ah Tryz.prog 99:=ah.of Tryz.func99 (by kernel_rfl) (by kernel_rfl)
theorem QT:ah Tryz.prog 100:=ah.of Tryz.func100 (by kernel_rfl) (by kernel_rfl)
theorem SU:ah Tryz.prog 65:=ah.of Tryz.func65 (by kernel_rfl) (by kernel_rfl)
theorem SR:ah Tryz.prog 67:=ah.of Tryz.func67 (by kernel_rfl) (by kernel_rfl)
theorem Tf:ah Tryz.prog 33:=ah.of Tryz.func33 (by kernel_rfl) (by kernel_rfl)
theorem QP:ah Tryz.prog 11:=ah.of Tryz.func11 (by kernel_rfl) (by kernel_rfl)
theorem Tt:ah Tryz.prog 12:=ah.of Tryz.func12 (by kernel_rfl) (by kernel_rfl)
theorem QE:ah Tryz.prog 34:=ah.of Tryz.func34 (by kernel_rfl) (by kernel_rfl)
theorem SS:ah Tryz.prog 66:=ah.of Tryz.func66 (by kernel_rfl) (by kernel_rfl)
theorem Tj:ah Tryz.prog 31:=ah.of Tryz.func31 (by kernel_rfl) (by kernel_rfl)
theorem SQ:ah Tryz.prog 73:=ah.of Tryz.func73 (by kernel_rfl) (by kernel_rfl)
theorem Td:ah Tryz.prog 35:=ah.of Tryz.func35 (by kernel_rfl) (by kernel_rfl)
abbrev Rs(t:Ty)(l:(Ty.slice t).den):A:=.rep (.slice t) l
abbrev Pv(b:Nat):Value:=.pointer (some ⟨b,0,none⟩)
abbrev TD:= @Tryz.underlying110
abbrev E4:= @Tryz.underlying111
abbrev Q2:= @Tryz.underlying124
abbrev TC:= @Tryz.underlying140
abbrev TB:= @Tryz.underlying163
abbrev TA:= @Tryz.underlying165
abbrev OR:= @Tryz.underlying168
abbrev AA:= @Tryz.underlying22
abbrev OQ:= @Tryz.underlying23
abbrev iq:= @Tryz.underlying28
abbrev U3:= @Tryz.underlying3
abbrev qp:= @Tryz.underlying36
abbrev U4:= @Tryz.underlying4
abbrev U5:= @Tryz.underlying5
abbrev Rw:= @Tryz.underlying72
abbrev BY:= @Tryz.underlying82
abbrev I8:= @Tryz.underlying84
abbrev U9:= @Tryz.underlying9
abbrev vL:= @Tryz.underlying92
theorem ny:false=false->1=1:=λ_=>rfl
