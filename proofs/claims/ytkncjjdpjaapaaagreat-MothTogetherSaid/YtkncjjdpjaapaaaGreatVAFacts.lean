import Derived.Test.YtkncjjdpjaapaaaGreatVAB5
import Derived.Test.YtkncjjdpjaapaaaGreatProg
set_option linter.unusedVariables false
set_option linter.unusedSimpArgs false
namespace Go.Proofs.YtkncjjdpjaapaaaGreat
open K Go Go.Proofs
theorem eF:Tryz.prog.follows .mixedOrders=true:=by kernel_rfl
theorem qD{n:Nat}:true=false→n=1:=fun h=>nomatch h
def Jk:ByteArray:=⟨#[0,1,2,2,3,3,3,3,4,4,4,4,4,4,4,4,5,5,5,5,5,5,5,5,5,5,5,5,5,5,5,5,6,6,6,6,6,6,6,6,6,6,6,6,6,6,6,6,6,6,6,6,6,6,6,6,6,6,6,6,6,6,6,6,7,7,7,7,7,7,7,7,7,7,7,7,7,7,7,7,7,7,7,7,7,7,7,7,7,7,7,7,7,7,7,7,7,7,7,7,7,7,7,7,7,7,7,7,7,7,7,7,7,7,7,7,7,7,7,7,7,7,7,7,7,7,7,7,8,8,8,8,8,8,8,8,8,8,8,8,8,8,8,8,8,8,8,8,8,8,8,8,8,8,8,8,8,8,8,8,8,8,8,8,8,8,8,8,8,8,8,8,8,8,8,8,8,8,8,8,8,8,8,8,8,8,8,8,8,8,8,8,8,8,8,8,8,8,8,8,8,8,8,8,8,8,8,8,8,8,8,8,8,8,8,8,8,8,8,8,8,8,8,8,8,8,8,8,8,8,8,8,8,8,8,8,8,8,8,8,8,8,8,8,8,8,8,8,8,8,8,8,8,8,8,8]⟩
@[reducible] def bP:Ty:=.agg (.pair (.int .i64) (.pair (.int .i64) .bool))
abbrev cE:=(Int×(Int×Bool))
@[reducible] def ab:Ty:=.agg (.pair (.int .i64) (.pair (.int .i64) (.pair (.int .i64) (.pair (.int .i64) (.pair (.slice (.slice (.slice (.int .i64)))) (.slice bP))))))
abbrev ai:=(Int×(Int×(Int×(Int×((List (List (List Int)))×(List cE))))))
@[reducible] def RD:Ty:=.agg (.pair (.slice (.int .i64)) (.pair (.int .i64) (.int .u64)))
abbrev bR:=((List Int)×(Int×Int))
@[reducible] def bq:Ty:=.agg (.pair (.int .i64) (.int .i64))
abbrev eZ:=(Int×Int)
@[reducible] def Oe:Ty:=.agg (.int .i64)
abbrev K3:=Int
@[reducible] def Oc:Ty:=.agg (.slice (.int .i64))
abbrev K2:=(List Int)
@[reducible] def P2:Ty:=.agg (.pair (.int .i64) (.pair (.int .i64) (.pair (.int .i64) (.pair (.int .i64) (.pair (.slice (.slice (.slice (.int .i64)))) .ign)))))
@[reducible] def ES:Ty:=bq
abbrev dY:=eZ
theorem Qm:xy Tryz.prog 56 #[(0,1),(1,1),(2,1)]:=⟨_,Tryz.underlying56,fun _=>by kernel_rfl⟩
theorem Qh:∀w,(zeroValue 56).run Tryz.prog w= .ok (.agg #[(.slice none 0 0),(.int .i64 (0)),(.int .u64 (0))]) w:=fun w=>by kernel_rfl
theorem PD:∀S w,(A.cells S w (.pair (.eq (.slice none 0 0)) (.pair (.eq (.int .i64 (0:Int))) (.eq (.int .u64 (0:Int))))) (Value.cells (.agg #[(.slice none 0 0),(.int .i64 (0)),(.int .u64 (0))])).toList):=fun _ _=>⟨[_],_,rfl,⟨rfl,rfl⟩,⟨[_],_,rfl,⟨rfl,rfl⟩,⟨rfl,rfl⟩⟩⟩
theorem rT:aV Tryz.prog 56 2 2:=aV.of (by kernel_rfl)
theorem C3:dL Tryz.prog 54 1 false:=⟨fun w=>by kernel_rfl,fun w=>by kernel_rfl⟩
theorem wU:aV Tryz.prog 56 1 1:=aV.of (by kernel_rfl)
theorem bT:dL Tryz.prog 3 1 false:=⟨fun w=>by kernel_rfl,fun w=>by kernel_rfl⟩
theorem GP:aV Tryz.prog 56 0 0:=aV.of (by kernel_rfl)
theorem iD:dL Tryz.prog 22 1 false:=⟨fun w=>by kernel_rfl,fun w=>by kernel_rfl⟩
theorem Q2:ah Tryz.prog 39:=ah.of Tryz.func39 (by kernel_rfl) (by kernel_rfl)
theorem AG:ah Tryz.prog 16:=ah.of Tryz.func16 (by kernel_rfl) (by kernel_rfl)
theorem dn:oU Tryz.prog 22 3 1 8:=.of (z:=(.int .i64 (0))) Tryz.underlying22 (by kernel_rfl) rfl rfl rfl
theorem Q1:ah Tryz.prog 46:=ah.of Tryz.func46 (by kernel_rfl) (by kernel_rfl)
theorem oQ:oU Tryz.prog 32 22 1 24:=.of (z:=(.slice none 0 0)) Tryz.underlying32 (by kernel_rfl) rfl rfl rfl
theorem JB:ah Tryz.prog 23:=ah.of Tryz.func23 (by kernel_rfl) (by kernel_rfl)
theorem NY:∀i z,Tryz.prog.info? 22=some i→i.zero=some z→∀S w,rd S w .val (.slice none 0 0) z.cells.toList:=Lh (t:=.val) (z0:=(.slice none 0 0)) (by kernel_rfl) fun _ _=>⟨rfl,rfl⟩
theorem Q0:ah Tryz.prog 47:=ah.of Tryz.func47 (by kernel_rfl) (by kernel_rfl)
theorem M7:ah Tryz.prog 25:=ah.of Tryz.func25 (by kernel_rfl) (by kernel_rfl)
theorem CS:∀w,(zeroValue 28).run Tryz.prog w= .ok (.agg #[(.int .i64 (0)),(.int .i64 (0)),(.int .i64 (0)),(.int .i64 (0)),(.slice none 0 0),(.slice none 0 0)]) w:=fun w=>by kernel_rfl
theorem J1:∀S w,(A.cells S w (.agg (.pair (.eq (.int .i64 (0:Int))) (.pair (.eq (.int .i64 (0:Int))) (.pair (.eq (.int .i64 (0:Int))) (.pair (.eq (.int .i64 (0:Int))) (.pair (.eq (.slice none 0 0)) (.eq (.slice none 0 0)))))))) (Value.cells (.agg #[(.int .i64 (0)),(.int .i64 (0)),(.int .i64 (0)),(.int .i64 (0)),(.slice none 0 0),(.slice none 0 0)])).toList):=fun _ _=>⟨[_],_,rfl,⟨rfl,rfl⟩,⟨[_],_,rfl,⟨rfl,rfl⟩,⟨[_],_,rfl,⟨rfl,rfl⟩,⟨[_],_,rfl,⟨rfl,rfl⟩,⟨[_],_,rfl,⟨rfl,rfl⟩,⟨rfl,rfl⟩⟩⟩⟩⟩⟩
theorem M8:ah Tryz.prog 24:=ah.of Tryz.func24 (by kernel_rfl) (by kernel_rfl)
theorem On:xy Tryz.prog 28 #[(0,1),(1,1),(2,1),(3,1),(4,1),(5,1)]:=⟨_,Tryz.underlying28,fun _=>by kernel_rfl⟩
theorem K7:∀S w,(A.cells S w (.pair (.eq (.int .i64 (0:Int))) (.pair (.eq (.int .i64 (0:Int))) (.pair (.eq (.int .i64 (0:Int))) (.pair (.eq (.int .i64 (0:Int))) (.pair (.eq (.slice none 0 0)) (.eq (.slice none 0 0))))))) (Value.cells (.agg #[(.int .i64 (0)),(.int .i64 (0)),(.int .i64 (0)),(.int .i64 (0)),(.slice none 0 0),(.slice none 0 0)])).toList):=fun _ _=>⟨[_],_,rfl,⟨rfl,rfl⟩,⟨[_],_,rfl,⟨rfl,rfl⟩,⟨[_],_,rfl,⟨rfl,rfl⟩,⟨[_],_,rfl,⟨rfl,rfl⟩,⟨[_],_,rfl,⟨rfl,rfl⟩,⟨rfl,rfl⟩⟩⟩⟩⟩⟩
theorem iZ:dL Tryz.prog 28 6 true:=⟨fun w=>by kernel_rfl,fun w=>by kernel_rfl⟩
theorem eL:aV Tryz.prog 28 4 4:=aV.of (by kernel_rfl)
theorem lN:dL Tryz.prog 25 1 false:=⟨fun w=>by kernel_rfl,fun w=>by kernel_rfl⟩
theorem eX:aV Tryz.prog 28 0 0:=aV.of (by kernel_rfl)
theorem Q8:ah Tryz.prog 27:=ah.of Tryz.func27 (by kernel_rfl) (by kernel_rfl)
theorem zN:oU Tryz.prog 25 32 1 24:=.of (z:=(.slice none 0 0)) Tryz.underlying25 (by kernel_rfl) rfl rfl rfl
theorem xX:dL Tryz.prog 32 1 false:=⟨fun w=>by kernel_rfl,fun w=>by kernel_rfl⟩
theorem Q9:ah Tryz.prog 26:=ah.of Tryz.func26 (by kernel_rfl) (by kernel_rfl)
theorem wX:ah Tryz.prog 49:=ah.of Tryz.func49 (by kernel_rfl) (by kernel_rfl)
theorem GY:ah Tryz.prog 67:=ah.of Tryz.func67 (by kernel_rfl) (by kernel_rfl)
theorem M4:ah Tryz.prog 50:=ah.of Tryz.func50 (by kernel_rfl) (by kernel_rfl)
theorem GR:aV Tryz.prog 45 0 0:=aV.of (by kernel_rfl)
theorem GQ:aV Tryz.prog 45 1 1:=aV.of (by kernel_rfl)
theorem Az:aV Tryz.prog 28 1 1:=aV.of (by kernel_rfl)
theorem dK:aV Tryz.prog 28 2 2:=aV.of (by kernel_rfl)
theorem GT:aV Tryz.prog 28 3 3:=aV.of (by kernel_rfl)
theorem QU:ah Tryz.prog 68:=ah.of Tryz.func68 (by kernel_rfl) (by kernel_rfl)
theorem Ax:aV Tryz.prog 28 5 5:=aV.of (by kernel_rfl)
theorem LD:dL Tryz.prog 26 1 false:=⟨fun w=>by kernel_rfl,fun w=>by kernel_rfl⟩
theorem wj:dL Tryz.prog 45 3 true:=⟨fun w=>by kernel_rfl,fun w=>by kernel_rfl⟩
theorem H5:∀w,(zeroValue 45).run Tryz.prog w= .ok (.agg #[(.int .i64 (0)),(.int .i64 (0)),(.bool false)]) w:=fun w=>by kernel_rfl
theorem Nv:∀S w,(A.cells S w (.agg (.pair (.eq (.int .i64 (0:Int))) (.pair (.eq (.int .i64 (0:Int))) (.eq (.bool false))))) (Value.cells (.agg #[(.int .i64 (0)),(.int .i64 (0)),(.bool false)])).toList):=fun _ _=>⟨[_],_,rfl,⟨rfl,rfl⟩,⟨[_],_,rfl,⟨rfl,rfl⟩,⟨rfl,rfl⟩⟩⟩
theorem QT:ah Tryz.prog 69:=ah.of Tryz.func69 (by kernel_rfl) (by kernel_rfl)
theorem H4:∀w,(zeroValue 67).run Tryz.prog w= .ok (.agg #[(.int .i64 (0)),(.int .i64 (0)),(.int .i64 (0)),(.int .i64 (0)),(.int .i64 (0))]) w:=fun w=>by kernel_rfl
theorem J0:∀S w,(A.cells S w (.rep (.arr 5 (.int .i64)) [(0:Int),(0:Int),(0:Int),(0:Int),(0:Int)]) (Value.cells (.agg #[(.int .i64 (0)),(.int .i64 (0)),(.int .i64 (0)),(.int .i64 (0)),(.int .i64 (0))])).toList):=fun _ _=>⟨rfl,⟨[_],_,rfl,rfl,⟨[_],_,rfl,rfl,⟨[_],_,rfl,rfl,⟨[_],_,rfl,rfl,⟨[_],_,rfl,rfl,rfl⟩⟩⟩⟩⟩⟩
theorem gy:aV Tryz.prog 109 0 0:=aV.of (by kernel_rfl)
theorem gB:dL Tryz.prog 67 5 true:=⟨fun w=>by kernel_rfl,fun w=>by kernel_rfl⟩
theorem K1:ah Tryz.prog 137:=ah.of Tryz.func137 (by kernel_rfl) (by kernel_rfl)
theorem Pj:ah Tryz.prog 127:=ah.of Tryz.func127 (by kernel_rfl) (by kernel_rfl)
theorem Pi:ah Tryz.prog 131:=ah.of Tryz.func131 (by kernel_rfl) (by kernel_rfl)
theorem Pl:ah Tryz.prog 121:=ah.of Tryz.func121 (by kernel_rfl) (by kernel_rfl)
theorem Pm:ah Tryz.prog 120:=ah.of Tryz.func120 (by kernel_rfl) (by kernel_rfl)
theorem Pn:ah Tryz.prog 119:=ah.of Tryz.func119 (by kernel_rfl) (by kernel_rfl)
theorem M5:ah Tryz.prog 45:=ah.of Tryz.func45 (by kernel_rfl) (by kernel_rfl)
theorem Po:ah Tryz.prog 106:=ah.of Tryz.func106 (by kernel_rfl) (by kernel_rfl)
theorem Oo:xy Tryz.prog 143 #[(0,1)]:=⟨_,Tryz.underlying143,fun _=>by kernel_rfl⟩
theorem KG:∀w,(zeroValue 143).run Tryz.prog w= .ok (.agg #[(.slice none 0 0)]) w:=fun w=>by kernel_rfl
theorem Nq:∀S w,(A.cells S w (.eq (.slice none 0 0)) (Value.cells (.agg #[(.slice none 0 0)])).toList):=fun _ _=>⟨rfl,rfl⟩
theorem MY:ah Tryz.prog 76:=ah.of Tryz.func76 (by kernel_rfl) (by kernel_rfl)
theorem ET:Hq Tryz.prog 141 (.agg #[.int .i64 0]):=⟨⟨_,Tryz.underlying141⟩,fun w=>by kernel_rfl⟩
theorem Ek:∀w,(zeroValue 141).run Tryz.prog w= .ok (.agg #[(.int .i64 (0))]) w:=fun w=>by kernel_rfl
theorem K9:∀S w,(A.cells S w (.agg (.eq (.int .i64 (0:Int)))) (Value.cells (.agg #[(.int .i64 (0))])).toList):=fun _ _=>⟨rfl,rfl⟩
theorem KU:dL Tryz.prog 141 1 true:=⟨fun w=>by kernel_rfl,fun w=>by kernel_rfl⟩
theorem BK:aV Tryz.prog 141 0 0:=aV.of (by kernel_rfl)
theorem Oq:xy Tryz.prog 141 #[(0,1)]:=⟨_,Tryz.underlying141,fun _=>by kernel_rfl⟩
theorem Nr:∀S w,(A.cells S w (.eq (.int .i64 (0:Int))) (Value.cells (.agg #[(.int .i64 (0))])).toList):=fun _ _=>⟨rfl,rfl⟩
theorem Jv:aV Tryz.prog 143 0 0:=aV.of (by kernel_rfl)
theorem uQ:CB Tryz.prog 141 "galloon/moth.beside" 155:=fun u w=>by kernel_rfl
theorem uP:CB Tryz.prog 143 "galloon/moth.beside" 156:=fun u w=>by kernel_rfl
theorem LC:Hq Tryz.prog 143 (.agg #[.slice none 0 0]):=⟨⟨_,Tryz.underlying143⟩,fun w=>by kernel_rfl⟩
theorem PI:∀S w,(A.cells S w (.agg (.eq (.slice none 0 0))) (Value.cells (.agg #[(.slice none 0 0)])).toList):=fun _ _=>⟨rfl,rfl⟩
theorem Of:dL Tryz.prog 143 1 true:=⟨fun w=>by kernel_rfl,fun w=>by kernel_rfl⟩
theorem O4:ah Tryz.prog 65:=ah.of Tryz.func65 (by kernel_rfl) (by kernel_rfl)
theorem QZ:ah Tryz.prog 48:=ah.of Tryz.func48 (by kernel_rfl) (by kernel_rfl)
theorem Qg:∀w,(zeroValue 98).run Tryz.prog w= .ok (.agg #[.int .i64 0,.int .i64 0,.int .i64 0]) w:=fun w=>by kernel_rfl
theorem Jy:ah Tryz.prog 51:=ah.of Tryz.func51 (by kernel_rfl) (by kernel_rfl)
theorem QY:ah Tryz.prog 52:=ah.of Tryz.func52 (by kernel_rfl) (by kernel_rfl)
theorem yL:ah Tryz.prog 28:=ah.of Tryz.func28 (by kernel_rfl) (by kernel_rfl)
theorem nX:ah Tryz.prog 29:=ah.of Tryz.func29 (by kernel_rfl) (by kernel_rfl)
theorem Ej:∀w,(zeroValue 69).run Tryz.prog w= .ok (.agg #[(.int .i64 (0)),(.int .i64 (0)),(.int .i64 (0)),(.int .i64 (0)),(.int .i64 (0)),(.int .i64 (0)),(.int .i64 (0)),(.int .i64 (0)),(.int .i64 (0)),(.int .i64 (0)),(.int .i64 (0)),(.int .i64 (0)),(.int .i64 (0)),(.int .i64 (0)),(.int .i64 (0)),(.int .i64 (0)),(.int .i64 (0)),(.int .i64 (0)),(.int .i64 (0)),(.int .i64 (0)),(.int .i64 (0)),(.int .i64 (0)),(.int .i64 (0)),(.int .i64 (0)),(.int .i64 (0)),(.int .i64 (0)),(.int .i64 (0)),(.int .i64 (0)),(.int .i64 (0)),(.int .i64 (0)),(.int .i64 (0)),(.int .i64 (0)),(.int .i64 (0)),(.int .i64 (0)),(.int .i64 (0))]) w:=fun w=>by kernel_rfl
theorem Hj:∀S w,(A.cells S w (.rep (.arr 7 (.arr 5 (.int .i64))) [[(0:Int),(0:Int),(0:Int),(0:Int),(0:Int)],[(0:Int),(0:Int),(0:Int),(0:Int),(0:Int)],[(0:Int),(0:Int),(0:Int),(0:Int),(0:Int)],[(0:Int),(0:Int),(0:Int),(0:Int),(0:Int)],[(0:Int),(0:Int),(0:Int),(0:Int),(0:Int)],[(0:Int),(0:Int),(0:Int),(0:Int),(0:Int)],[(0:Int),(0:Int),(0:Int),(0:Int),(0:Int)]]) (Value.cells (.agg #[(.int .i64 (0)),(.int .i64 (0)),(.int .i64 (0)),(.int .i64 (0)),(.int .i64 (0)),(.int .i64 (0)),(.int .i64 (0)),(.int .i64 (0)),(.int .i64 (0)),(.int .i64 (0)),(.int .i64 (0)),(.int .i64 (0)),(.int .i64 (0)),(.int .i64 (0)),(.int .i64 (0)),(.int .i64 (0)),(.int .i64 (0)),(.int .i64 (0)),(.int .i64 (0)),(.int .i64 (0)),(.int .i64 (0)),(.int .i64 (0)),(.int .i64 (0)),(.int .i64 (0)),(.int .i64 (0)),(.int .i64 (0)),(.int .i64 (0)),(.int .i64 (0)),(.int .i64 (0)),(.int .i64 (0)),(.int .i64 (0)),(.int .i64 (0)),(.int .i64 (0)),(.int .i64 (0)),(.int .i64 (0))])).toList):=fun _ _=>⟨rfl,⟨[_,_,_,_,_],_,rfl,⟨rfl,⟨[_],_,rfl,rfl,⟨[_],_,rfl,rfl,⟨[_],_,rfl,rfl,⟨[_],_,rfl,rfl,⟨[_],_,rfl,rfl,rfl⟩⟩⟩⟩⟩⟩,⟨[_,_,_,_,_],_,rfl,⟨rfl,⟨[_],_,rfl,rfl,⟨[_],_,rfl,rfl,⟨[_],_,rfl,rfl,⟨[_],_,rfl,rfl,⟨[_],_,rfl,rfl,rfl⟩⟩⟩⟩⟩⟩,⟨[_,_,_,_,_],_,rfl,⟨rfl,⟨[_],_,rfl,rfl,⟨[_],_,rfl,rfl,⟨[_],_,rfl,rfl,⟨[_],_,rfl,rfl,⟨[_],_,rfl,rfl,rfl⟩⟩⟩⟩⟩⟩,⟨[_,_,_,_,_],_,rfl,⟨rfl,⟨[_],_,rfl,rfl,⟨[_],_,rfl,rfl,⟨[_],_,rfl,rfl,⟨[_],_,rfl,rfl,⟨[_],_,rfl,rfl,rfl⟩⟩⟩⟩⟩⟩,⟨[_,_,_,_,_],_,rfl,⟨rfl,⟨[_],_,rfl,rfl,⟨[_],_,rfl,rfl,⟨[_],_,rfl,rfl,⟨[_],_,rfl,rfl,⟨[_],_,rfl,rfl,rfl⟩⟩⟩⟩⟩⟩,⟨[_,_,_,_,_],_,rfl,⟨rfl,⟨[_],_,rfl,rfl,⟨[_],_,rfl,rfl,⟨[_],_,rfl,rfl,⟨[_],_,rfl,rfl,⟨[_],_,rfl,rfl,rfl⟩⟩⟩⟩⟩⟩,⟨[_,_,_,_,_],_,rfl,⟨rfl,⟨[_],_,rfl,rfl,⟨[_],_,rfl,rfl,⟨[_],_,rfl,rfl,⟨[_],_,rfl,rfl,⟨[_],_,rfl,rfl,rfl⟩⟩⟩⟩⟩⟩,rfl⟩⟩⟩⟩⟩⟩⟩⟩
theorem EW:dL Tryz.prog 69 35 true:=⟨fun w=>by kernel_rfl,fun w=>by kernel_rfl⟩
theorem Q7:ah Tryz.prog 30:=ah.of Tryz.func30 (by kernel_rfl) (by kernel_rfl)
theorem xB:∀w,(zeroValue 82).run Tryz.prog w= .ok (.agg #[(.int .i64 (0)),(.int .i64 (0))]) w:=fun w=>by kernel_rfl
theorem Hi:∀S w,(A.cells S w (.agg (.pair (.eq (.int .i64 (0:Int))) (.eq (.int .i64 (0:Int))))) (Value.cells (.agg #[(.int .i64 (0)),(.int .i64 (0))])).toList):=fun _ _=>⟨[_],_,rfl,⟨rfl,rfl⟩,⟨rfl,rfl⟩⟩
theorem Aw:aV Tryz.prog 82 0 0:=aV.of (by kernel_rfl)
theorem MS:aV Tryz.prog 82 1 1:=aV.of (by kernel_rfl)
theorem nA:dL Tryz.prog 82 2 true:=⟨fun w=>by kernel_rfl,fun w=>by kernel_rfl⟩
theorem LY:xy Tryz.prog 82 #[(0,1),(1,1)]:=⟨_,Tryz.underlying82,fun _=>by kernel_rfl⟩
theorem Hf:∀S w,(A.cells S w (.pair (.eq (.int .i64 (0:Int))) (.eq (.int .i64 (0:Int)))) (Value.cells (.agg #[(.int .i64 (0)),(.int .i64 (0))])).toList):=fun _ _=>⟨[_],_,rfl,⟨rfl,rfl⟩,⟨rfl,rfl⟩⟩
theorem Pe:ah Tryz.prog 36:=ah.of Tryz.func36 (by kernel_rfl) (by kernel_rfl)
theorem Q4:ah Tryz.prog 37:=ah.of Tryz.func37 (by kernel_rfl) (by kernel_rfl)
theorem QM:Kz Tryz.prog 82 bq:=by
 refine⟨rfl,by kernel_rfl,fun w x y=>?_⟩;have u3:=Tryz.underlying3;have a3:=Tryz.isAgg3;have z3:=Tryz.sizeOf3;have hS:Tryz.prog.underlying 82=some (.struct (Tryz.prog.fieldsOf 82)):=by kernel_rfl
 have hp:Tryz.prog.stoodInHeld 82=false:=by kernel_rfl
 rw [show(10000:Nat)=9999+1 from rfl,run_equalIn_agg w 9999 82 _ _ hS hp];simp only [Program.fieldsOf,Tryz.underlying82,pS];refine⟨decide (x=y),?_,decide_eq_true_iff⟩;go_simp;obtain⟨p0,p1⟩:=x;obtain⟨q0,q1⟩:=y;by_cases h0:p0=q0 <;> by_cases h1:p1=q1 <;> simp [h0,h1]
theorem Q3:ah Tryz.prog 38:=ah.of Tryz.func38 (by kernel_rfl) (by kernel_rfl)
theorem Og:dL Tryz.prog 118 1 false:=⟨fun w=>by kernel_rfl,fun w=>by kernel_rfl⟩
theorem EY:dL Tryz.prog 117 1 false:=⟨fun w=>by kernel_rfl,fun w=>by kernel_rfl⟩
theorem O3:ah Tryz.prog 78:=ah.of Tryz.func78 (by kernel_rfl) (by kernel_rfl)
theorem N4:∀w,(zeroValue 117).run Tryz.prog w= .ok .nilFunc w:=fun w=>by kernel_rfl
theorem PK:∀S w,(A.cells S w (.eq .nilFunc) (Value.cells .nilFunc).toList):=fun _ _=>⟨rfl,rfl⟩
theorem MU:aV Tryz.prog 45 2 2:=aV.of (by kernel_rfl)
theorem RU:dL Tryz.prog 4 1 false:=⟨fun w=>by kernel_rfl,fun w=>by kernel_rfl⟩
theorem NZ:∀w,(zeroValue 147).run Tryz.prog w= .ok (.agg #[]) w:=fun w=>by kernel_rfl
theorem Ei:∀w,(zeroValue 87).run Tryz.prog w= .ok (.slice none 0 0) w:=fun w=>by kernel_rfl
theorem Hh:∀S w,(A.cells S w (.eq (.slice none 0 0)) (Value.cells (.slice none 0 0)).toList):=fun _ _=>⟨rfl,rfl⟩
theorem EX:dL Tryz.prog 62 1 false:=⟨fun w=>by kernel_rfl,fun w=>by kernel_rfl⟩
theorem MZ:ah Tryz.prog 58:=ah.of Tryz.func58 (by kernel_rfl) (by kernel_rfl)
theorem pg:dL Tryz.prog 63 1 false:=⟨fun w=>by kernel_rfl,fun w=>by kernel_rfl⟩
theorem QV:ah Tryz.prog 66:=ah.of Tryz.func66 (by kernel_rfl) (by kernel_rfl)
theorem ri:dL Tryz.prog 87 1 false:=⟨fun w=>by kernel_rfl,fun w=>by kernel_rfl⟩
theorem C7:oU Tryz.prog 87 63 1 1:=.of (z:=(.int .u8 (0))) Tryz.underlying87 (by kernel_rfl) rfl rfl rfl
theorem MX:ah Tryz.prog 77:=ah.of Tryz.func77 (by kernel_rfl) (by kernel_rfl)
theorem O9:ah Tryz.prog 40:=ah.of Tryz.func40 (by kernel_rfl) (by kernel_rfl)
theorem JA:ah Tryz.prog 41:=ah.of Tryz.func41 (by kernel_rfl) (by kernel_rfl)
theorem Du:ah Tryz.prog 43:=ah.of Tryz.func43 (by kernel_rfl) (by kernel_rfl)
theorem Jz:ah Tryz.prog 44:=ah.of Tryz.func44 (by kernel_rfl) (by kernel_rfl)
theorem Qn:xy Tryz.prog 45 #[(0,1),(1,1),(2,1)]:=⟨_,Tryz.underlying45,fun _=>by kernel_rfl⟩
theorem PE:∀S w,(A.cells S w (.pair (.eq (.int .i64 (0:Int))) (.pair (.eq (.int .i64 (0:Int))) (.eq (.bool false)))) (Value.cells (.agg #[(.int .i64 (0)),(.int .i64 (0)),(.bool false)])).toList):=fun _ _=>⟨[_],_,rfl,⟨rfl,rfl⟩,⟨[_],_,rfl,⟨rfl,rfl⟩,⟨rfl,rfl⟩⟩⟩
theorem M9:ah Tryz.prog 17:=ah.of Tryz.func17 (by kernel_rfl) (by kernel_rfl)
theorem Oi:oU Tryz.prog 26 45 3 24:=.of (z:=(.agg #[(.int .i64 (0)),(.int .i64 (0)),(.bool false)])) Tryz.underlying26 (by kernel_rfl) rfl rfl rfl
theorem vZ:∀w,(zeroValue 74).run Tryz.prog w= .ok (.agg #[(.int .i64 (0)),(.int .i64 (0))]) w:=fun w=>by kernel_rfl
theorem PG:∀S w,(A.cells S w (.agg (.pair (.eq (.int .i64 (0:Int))) (.eq (.int .i64 (0:Int))))) (Value.cells (.agg #[(.int .i64 (0)),(.int .i64 (0))])).toList):=fun _ _=>⟨[_],_,rfl,⟨rfl,rfl⟩,⟨rfl,rfl⟩⟩
theorem zW:xy Tryz.prog 74 #[(0,1),(1,1)]:=⟨_,Tryz.underlying74,fun _=>by kernel_rfl⟩
theorem ug:∀S w,(A.cells S w (.pair (.eq (.int .i64 (0:Int))) (.eq (.int .i64 (0:Int)))) (Value.cells (.agg #[(.int .i64 (0)),(.int .i64 (0))])).toList):=fun _ _=>⟨[_],_,rfl,⟨rfl,rfl⟩,⟨rfl,rfl⟩⟩
theorem qj:dL Tryz.prog 74 2 true:=⟨fun w=>by kernel_rfl,fun w=>by kernel_rfl⟩
theorem O8:ah Tryz.prog 57:=ah.of Tryz.func57 (by kernel_rfl) (by kernel_rfl)
theorem QW:ah Tryz.prog 61:=ah.of Tryz.func61 (by kernel_rfl) (by kernel_rfl)
theorem QX:ah Tryz.prog 60:=ah.of Tryz.func60 (by kernel_rfl) (by kernel_rfl)
theorem QR:ah Tryz.prog 79:=ah.of Tryz.func79 (by kernel_rfl) (by kernel_rfl)
theorem KV:dL Tryz.prog 121 1 false:=⟨fun w=>by kernel_rfl,fun w=>by kernel_rfl⟩
theorem O5:ah Tryz.prog 64:=ah.of Tryz.func64 (by kernel_rfl) (by kernel_rfl)
theorem QP:ah Tryz.prog 81:=ah.of Tryz.func81 (by kernel_rfl) (by kernel_rfl)
theorem QQ:ah Tryz.prog 80:=ah.of Tryz.func80 (by kernel_rfl) (by kernel_rfl)
theorem Jx:ah Tryz.prog 59:=ah.of Tryz.func59 (by kernel_rfl) (by kernel_rfl)
theorem N3:∀w,(zeroValue 62).run Tryz.prog w= .ok (.pointer none) w:=fun w=>by kernel_rfl
theorem PH:∀S w,(A.cells S w (.eq (.pointer none)) (Value.cells (.pointer none)).toList):=fun _ _=>⟨rfl,rfl⟩
theorem O7:ah Tryz.prog 62:=ah.of Tryz.func62 (by kernel_rfl) (by kernel_rfl)
theorem O6:ah Tryz.prog 63:=ah.of Tryz.func63 (by kernel_rfl) (by kernel_rfl)
theorem M6:ah Tryz.prog 35:=ah.of Tryz.func35 (by kernel_rfl) (by kernel_rfl)
theorem Dv:ah Tryz.prog 31:=ah.of Tryz.func31 (by kernel_rfl) (by kernel_rfl)
theorem JE:ah Tryz.prog 11:=ah.of Tryz.func11 (by kernel_rfl) (by kernel_rfl)
theorem Re:ah Tryz.prog 18:=ah.of Tryz.func18 (by kernel_rfl) (by kernel_rfl)
theorem Q6:ah Tryz.prog 32:=ah.of Tryz.func32 (by kernel_rfl) (by kernel_rfl)
theorem Rf:ah Tryz.prog 14:=ah.of Tryz.func14 (by kernel_rfl) (by kernel_rfl)
theorem Rb:ah Tryz.prog 22:=ah.of Tryz.func22 (by kernel_rfl) (by kernel_rfl)
theorem Q5:ah Tryz.prog 33:=ah.of Tryz.func33 (by kernel_rfl) (by kernel_rfl)
theorem QN:Kz Tryz.prog 74 bq:=by
 refine⟨rfl,by kernel_rfl,fun w x y=>?_⟩;have u3:=Tryz.underlying3;have a3:=Tryz.isAgg3;have z3:=Tryz.sizeOf3;have hS:Tryz.prog.underlying 74=some (.struct (Tryz.prog.fieldsOf 74)):=by kernel_rfl
 have hp:Tryz.prog.stoodInHeld 74=false:=by kernel_rfl
 rw [show(10000:Nat)=9999+1 from rfl,run_equalIn_agg w 9999 74 _ _ hS hp];simp only [Program.fieldsOf,Tryz.underlying74,pS];refine⟨decide (x=y),?_,decide_eq_true_iff⟩;go_simp;obtain⟨p0,p1⟩:=x;obtain⟨q0,q1⟩:=y;by_cases h0:p0=q0 <;> by_cases h1:p1=q1 <;> simp [h0,h1]
theorem Pg:ah Tryz.prog 34:=ah.of Tryz.func34 (by kernel_rfl) (by kernel_rfl)
theorem Sj:ah Tryz.prog 7:=ah.of Tryz.func7 (by kernel_rfl) (by kernel_rfl)
theorem Si:ah Tryz.prog 8:=ah.of Tryz.func8 (by kernel_rfl) (by kernel_rfl)
theorem RJ:ah Tryz.prog 9:=ah.of Tryz.func9 (by kernel_rfl) (by kernel_rfl)
theorem Px:ah Tryz.prog 10:=ah.of Tryz.func10 (by kernel_rfl) (by kernel_rfl)
theorem Na:ah Tryz.prog 12:=ah.of Tryz.func12 (by kernel_rfl) (by kernel_rfl)
theorem Rh:ah Tryz.prog 13:=ah.of Tryz.func13 (by kernel_rfl) (by kernel_rfl)
abbrev Rs(t:Ty)(l:(Ty.slice t).den):A:=.rep (.slice t) l
abbrev Pv(b:Nat):Value:=.pointer (some ⟨b,0,none⟩)
abbrev Rq:= @Tryz.underlying123
abbrev Ro:= @Tryz.underlying141
abbrev Rn:= @Tryz.underlying143
abbrev ND:= @Tryz.underlying147
abbrev iC:= @Tryz.underlying22
abbrev AQ:= @Tryz.underlying25
abbrev PL:= @Tryz.underlying26
abbrev U3:= @Tryz.underlying3
abbrev sE:= @Tryz.underlying32
abbrev U4:= @Tryz.underlying4
abbrev U5:= @Tryz.underlying5
abbrev P9:= @Tryz.underlying54
abbrev zf:= @Tryz.underlying67
abbrev AP:= @Tryz.underlying69
abbrev Sz:= @Tryz.underlying82
abbrev NX:= @Tryz.underlying83
abbrev vS:= @Tryz.underlying87
abbrev U9:= @Tryz.underlying9
abbrev RP:= @Tryz.underlying98
theorem pX:false=false→1=1:=fun _=>rfl
end Go.Proofs.YtkncjjdpjaapaaaGreat
