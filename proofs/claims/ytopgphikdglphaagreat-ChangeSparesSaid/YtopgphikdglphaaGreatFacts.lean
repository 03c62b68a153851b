import Derived.Test.YtopgphikdglphaaGreatB5
import Derived.Test.YtopgphikdglphaaGreatB6
import Derived.Test.YtopgphikdglphaaGreatProg
namespace Go.Proofs.YtopgphikdglphaaGreat
open K Go Go.Proofs
theorem bw:Tryz.prog.follows .mixedOrders=true:=by kernel_rfl
theorem sn{n:Nat}:true=false→n=1:=fun h=>nomatch h
def KC:ByteArray:=⟨#[0,1,2,2,3,3,3,3,4,4,4,4,4,4,4,4,5,5,5,5,5,5,5,5,5,5,5,5,5,5,5,5,6,6,6,6,6,6,6,6,6,6,6,6,6,6,6,6,6,6,6,6,6,6,6,6,6,6,6,6,6,6,6,6,7,7,7,7,7,7,7,7,7,7,7,7,7,7,7,7,7,7,7,7,7,7,7,7,7,7,7,7,7,7,7,7,7,7,7,7,7,7,7,7,7,7,7,7,7,7,7,7,7,7,7,7,7,7,7,7,7,7,7,7,7,7,7,7,8,8,8,8,8,8,8,8,8,8,8,8,8,8,8,8,8,8,8,8,8,8,8,8,8,8,8,8,8,8,8,8,8,8,8,8,8,8,8,8,8,8,8,8,8,8,8,8,8,8,8,8,8,8,8,8,8,8,8,8,8,8,8,8,8,8,8,8,8,8,8,8,8,8,8,8,8,8,8,8,8,8,8,8,8,8,8,8,8,8,8,8,8,8,8,8,8,8,8,8,8,8,8,8,8,8,8,8,8,8,8,8,8,8,8,8,8,8,8,8,8,8,8,8,8,8,8,8]⟩
@[reducible] def aJ:Ty:=.agg (.pair (.slice (.int .i64)) (.pair (.int .i64) (.pair (.int .i64) (.pair (.int .i64) (.int .i64)))))
abbrev bp:=((List Int)×(Int×(Int×(Int×Int))))
@[reducible] def aw:Ty:=.agg (.pair (.slice (.int .i64)) (.pair (.int .i64) (.int .i64)))
abbrev ax:=((List Int)×(Int×Int))
@[reducible] def ag:Ty:=.agg (.pair (.slice aJ) (.pair (.slice aw) (.pair (.slice (.int .i64)) (.slice (.int .i64)))))
abbrev ae:=((List bp)×((List ax)×((List Int)×(List Int))))
@[reducible] def Qj:Ty:=.agg (.pair (.slice (.int .i64)) (.pair (.int .i64) (.int .u64)))
abbrev cr:=((List Int)×(Int×Int))
@[reducible] def di:Ty:=.agg (.pair ag (.pair (.slice (.tag 104 115)) (.pair (.arr 8 (.int .u8)) .ign)))
abbrev fp:=(ae×((List (Bool×Int))×((List Int)×Unit)))
@[reducible] def aB:Ty:=.agg (.pair (.int .i64) (.int .i64))
abbrev ap:=(Int×Int)
@[reducible] def cH:Ty:=.agg (.pair (.int .i64) .bool)
abbrev cZ:=(Int×Bool)
theorem bu:a9 Tryz.prog 26 0 0:=a9.of (by kernel_rfl)
theorem dM:fX Tryz.prog 22 1 false:=⟨fun w=>by kernel_rfl,fun w=>by kernel_rfl⟩
theorem bA:a9 Tryz.prog 26 1 1:=a9.of (by kernel_rfl)
theorem eu:fX Tryz.prog 23 1 false:=⟨fun w=>by kernel_rfl,fun w=>by kernel_rfl⟩
theorem fQ:a9 Tryz.prog 26 2 2:=a9.of (by kernel_rfl)
theorem bR:fX Tryz.prog 24 1 false:=⟨fun w=>by kernel_rfl,fun w=>by kernel_rfl⟩
theorem eV:a9 Tryz.prog 26 3 3:=a9.of (by kernel_rfl)
theorem eY:fX Tryz.prog 45 5 true:=⟨fun w=>by kernel_rfl,fun w=>by kernel_rfl⟩
theorem iq:a9 Tryz.prog 45 0 0:=a9.of (by kernel_rfl)
theorem eI:fX Tryz.prog 47 3 true:=⟨fun w=>by kernel_rfl,fun w=>by kernel_rfl⟩
theorem eU:a9 Tryz.prog 47 0 0:=a9.of (by kernel_rfl)
theorem cj:fX Tryz.prog 3 1 false:=⟨fun w=>by kernel_rfl,fun w=>by kernel_rfl⟩
theorem FQ:an Tryz.prog 63:=an.of Tryz.func63 (by kernel_rfl) (by kernel_rfl)
theorem eo:og Tryz.prog 24 3 1 8:=.of (z:=(.int .i64 (0))) Tryz.underlying24 (by kernel_rfl) rfl rfl rfl
theorem xd:an Tryz.prog 39:=an.of Tryz.func39 (by kernel_rfl) (by kernel_rfl)
theorem M9:an Tryz.prog 51:=an.of Tryz.func51 (by kernel_rfl) (by kernel_rfl)
theorem pU:∀w,(zeroValue 45).run Tryz.prog w= .ok (.agg #[(.slice none 0 0),(.int .i64 (0)),(.int .i64 (0)),(.int .i64 (0)),(.int .i64 (0))]) w:=fun w=>by kernel_rfl
theorem vB:∀S w,(A.cells S w (.agg (.pair (.eq (.slice none 0 0)) (.pair (.eq (.int .i64 (0:Int))) (.pair (.eq (.int .i64 (0:Int))) (.pair (.eq (.int .i64 (0:Int))) (.eq (.int .i64 (0:Int)))))))) (Value.cells (.agg #[(.slice none 0 0),(.int .i64 (0)),(.int .i64 (0)),(.int .i64 (0)),(.int .i64 (0))])).toList):=fun _ _=>⟨[_],_,rfl,⟨rfl,rfl⟩,⟨[_],_,rfl,⟨rfl,rfl⟩,⟨[_],_,rfl,⟨rfl,rfl⟩,⟨[_],_,rfl,⟨rfl,rfl⟩,⟨rfl,rfl⟩⟩⟩⟩⟩
theorem KR:an Tryz.prog 78:=an.of Tryz.func78 (by kernel_rfl) (by kernel_rfl)
theorem uN:a9 Tryz.prog 45 1 1:=a9.of (by kernel_rfl)
theorem uM:a9 Tryz.prog 45 2 2:=a9.of (by kernel_rfl)
theorem sx:a9 Tryz.prog 45 3 3:=a9.of (by kernel_rfl)
theorem wW:a9 Tryz.prog 45 4 4:=a9.of (by kernel_rfl)
theorem NP:∀w,(zeroValue 160).run Tryz.prog w= .ok (.agg #[(.int .u8 (0)),(.int .u8 (0)),(.int .u8 (0)),(.int .u8 (0))]) w:=fun w=>by kernel_rfl
theorem OB:∀S w,(A.cells S w (.rep (.arr 4 (.int .u8)) [(0:Int),(0:Int),(0:Int),(0:Int)]) (Value.cells (.agg #[(.int .u8 (0)),(.int .u8 (0)),(.int .u8 (0)),(.int .u8 (0))])).toList):=fun _ _=>⟨rfl,⟨[_],_,rfl,rfl,⟨[_],_,rfl,rfl,⟨[_],_,rfl,rfl,⟨[_],_,rfl,rfl,rfl⟩⟩⟩⟩⟩
theorem pS:fX Tryz.prog 76 1 false:=⟨fun w=>by kernel_rfl,fun w=>by kernel_rfl⟩
theorem uP:an Tryz.prog 34:=an.of Tryz.func34 (by kernel_rfl) (by kernel_rfl)
theorem bL:fX Tryz.prog 26 4 true:=⟨fun w=>by kernel_rfl,fun w=>by kernel_rfl⟩
theorem Py:an Tryz.prog 77:=an.of Tryz.func77 (by kernel_rfl) (by kernel_rfl)
theorem rS:∀w,(zeroValue 47).run Tryz.prog w= .ok (.agg #[(.slice none 0 0),(.int .i64 (0)),(.int .i64 (0))]) w:=fun w=>by kernel_rfl
theorem xz:∀S w,(A.cells S w (.agg (.pair (.eq (.slice none 0 0)) (.pair (.eq (.int .i64 (0:Int))) (.eq (.int .i64 (0:Int)))))) (Value.cells (.agg #[(.slice none 0 0),(.int .i64 (0)),(.int .i64 (0))])).toList):=fun _ _=>⟨[_],_,rfl,⟨rfl,rfl⟩,⟨[_],_,rfl,⟨rfl,rfl⟩,⟨rfl,rfl⟩⟩⟩
theorem qA:a9 Tryz.prog 47 1 1:=a9.of (by kernel_rfl)
theorem od:a9 Tryz.prog 47 2 2:=a9.of (by kernel_rfl)
theorem ie:fX Tryz.prog 65 1 false:=⟨fun w=>by kernel_rfl,fun w=>by kernel_rfl⟩
theorem uK:a9 Tryz.prog 80 2 5:=a9.of (by kernel_rfl)
theorem jX:a9 Tryz.prog 80 1 4:=a9.of (by kernel_rfl)
theorem rF:fX Tryz.prog 75 1 false:=⟨fun w=>by kernel_rfl,fun w=>by kernel_rfl⟩
theorem pM:fX Tryz.prog 103 1 false:=⟨fun w=>by kernel_rfl,fun w=>by kernel_rfl⟩
theorem LJ:Aa Tryz.prog 104:=⟨Tryz.underlying104,fun w=>by kernel_rfl⟩
theorem gw:EJ Tryz.prog 104 "galloon/change.thing" 127:=fun n w=>by kernel_rfl
theorem gr:EJ Tryz.prog 115 "galloon/change.thing" 128:=fun n w=>by kernel_rfl
theorem GL:Aa Tryz.prog 115:=⟨Tryz.underlying115,fun w=>by kernel_rfl⟩
theorem eT:a9 Tryz.prog 80 0 0:=a9.of (by kernel_rfl)
theorem yf:an Tryz.prog 80:=an.of Tryz.func80 (by kernel_rfl) (by kernel_rfl)
theorem Ip:an Tryz.prog 79:=an.of Tryz.func79 (by kernel_rfl) (by kernel_rfl)
theorem PP:an Tryz.prog 57:=an.of Tryz.func57 (by kernel_rfl) (by kernel_rfl)
theorem NX:Cc Tryz.prog 80 #[(0,4),(4,1),(5,8),(13,1)]:=⟨_,Tryz.underlying80,fun _=>by kernel_rfl⟩
theorem NK:∀w,(zeroValue 80).run Tryz.prog w= .ok (.agg #[(.slice none 0 0),(.slice none 0 0),(.slice none 0 0),(.slice none 0 0),(.slice none 0 0),(.int .u8 (0)),(.int .u8 (0)),(.int .u8 (0)),(.int .u8 (0)),(.int .u8 (0)),(.int .u8 (0)),(.int .u8 (0)),(.int .u8 (0)),(.map none)]) w:=fun w=>by kernel_rfl
theorem LV:∀S w,(A.cells S w (.pair (.agg (.pair (.eq (.slice none 0 0)) (.pair (.eq (.slice none 0 0)) (.pair (.eq (.slice none 0 0)) (.eq (.slice none 0 0)))))) (.pair (.eq (.slice none 0 0)) (.pair (.rep (.arr 8 (.int .u8)) [(0:Int),(0:Int),(0:Int),(0:Int),(0:Int),(0:Int),(0:Int),(0:Int)]) (.eq (.map none))))) (Value.cells (.agg #[(.slice none 0 0),(.slice none 0 0),(.slice none 0 0),(.slice none 0 0),(.slice none 0 0),(.int .u8 (0)),(.int .u8 (0)),(.int .u8 (0)),(.int .u8 (0)),(.int .u8 (0)),(.int .u8 (0)),(.int .u8 (0)),(.int .u8 (0)),(.map none)])).toList):=fun _ _=>⟨[_,_,_,_],_,rfl,⟨[_],_,rfl,⟨rfl,rfl⟩,⟨[_],_,rfl,⟨rfl,rfl⟩,⟨[_],_,rfl,⟨rfl,rfl⟩,⟨rfl,rfl⟩⟩⟩⟩,⟨[_],_,rfl,⟨rfl,rfl⟩,⟨[_,_,_,_,_,_,_,_],_,rfl,⟨rfl,⟨[_],_,rfl,rfl,⟨[_],_,rfl,rfl,⟨[_],_,rfl,rfl,⟨[_],_,rfl,rfl,⟨[_],_,rfl,rfl,⟨[_],_,rfl,rfl,⟨[_],_,rfl,rfl,⟨[_],_,rfl,rfl,rfl⟩⟩⟩⟩⟩⟩⟩⟩⟩,⟨rfl,rfl⟩⟩⟩⟩
theorem PO:an Tryz.prog 58:=an.of Tryz.func58 (by kernel_rfl) (by kernel_rfl)
theorem Ir:an Tryz.prog 35:=an.of Tryz.func35 (by kernel_rfl) (by kernel_rfl)
theorem JF:og Tryz.prog 75 103 1 16:=.of (z:=.nilIface) Tryz.underlying75 (by kernel_rfl) rfl rfl rfl
theorem PN:an Tryz.prog 59:=an.of Tryz.func59 (by kernel_rfl) (by kernel_rfl)
theorem zh:og Tryz.prog 49 99 2 16:=.of (z:=(.agg #[(.int .i64 (0)),(.int .i64 (0))])) Tryz.underlying49 (by kernel_rfl) rfl rfl rfl
theorem PG:an Tryz.prog 71:=an.of Tryz.func71 (by kernel_rfl) (by kernel_rfl)
theorem Oj:an Tryz.prog 43:=an.of Tryz.func43 (by kernel_rfl) (by kernel_rfl)
theorem rU:fX Tryz.prog 49 1 false:=⟨fun w=>by kernel_rfl,fun w=>by kernel_rfl⟩
theorem NU:fX Tryz.prog 116 1 false:=⟨fun w=>by kernel_rfl,fun w=>by kernel_rfl⟩
theorem PL:an Tryz.prog 62:=an.of Tryz.func62 (by kernel_rfl) (by kernel_rfl)
theorem Oh:an Tryz.prog 64:=an.of Tryz.func64 (by kernel_rfl) (by kernel_rfl)
theorem C0:Cc Tryz.prog 99 #[(0,1),(1,1)]:=⟨_,Tryz.underlying99,fun _=>by kernel_rfl⟩
theorem vn:∀w,(zeroValue 99).run Tryz.prog w= .ok (.agg #[(.int .i64 (0)),(.int .i64 (0))]) w:=fun w=>by kernel_rfl
theorem xy:∀S w,(A.cells S w (.pair (.eq (.int .i64 (0:Int))) (.eq (.int .i64 (0:Int)))) (Value.cells (.agg #[(.int .i64 (0)),(.int .i64 (0))])).toList):=fun _ _=>⟨[_],_,rfl,⟨rfl,rfl⟩,⟨rfl,rfl⟩⟩
theorem GM:fX Tryz.prog 117 1 false:=⟨fun w=>by kernel_rfl,fun w=>by kernel_rfl⟩
theorem Oi:an Tryz.prog 61:=an.of Tryz.func61 (by kernel_rfl) (by kernel_rfl)
theorem j0:fX Tryz.prog 99 2 true:=⟨fun w=>by kernel_rfl,fun w=>by kernel_rfl⟩
theorem NN:∀w,(zeroValue 49).run Tryz.prog w= .ok (.slice none 0 0) w:=fun w=>by kernel_rfl
theorem OA:∀S w,(A.cells S w (.eq (.slice none 0 0)) (Value.cells (.slice none 0 0)).toList):=fun _ _=>⟨rfl,rfl⟩
theorem NR:∀w,(zeroValue 117).run Tryz.prog w= .ok .nilFunc w:=fun w=>by kernel_rfl
theorem OE:∀S w,(A.cells S w (.eq .nilFunc) (Value.cells .nilFunc).toList):=fun _ _=>⟨rfl,rfl⟩
theorem ES:∀w,(zeroValue 95).run Tryz.prog w= .ok (.agg #[(.int .i64 (0)),(.int .i64 (0)),(.int .i64 (0)),(.int .i64 (0))]) w:=fun w=>by kernel_rfl
theorem F9:∀S w,(A.cells S w (.rep (.arr 4 (.int .i64)) [(0:Int),(0:Int),(0:Int),(0:Int)]) (Value.cells (.agg #[(.int .i64 (0)),(.int .i64 (0)),(.int .i64 (0)),(.int .i64 (0))])).toList):=fun _ _=>⟨rfl,⟨[_],_,rfl,rfl,⟨[_],_,rfl,rfl,⟨[_],_,rfl,rfl,⟨[_],_,rfl,rfl,rfl⟩⟩⟩⟩⟩
theorem NQ:∀w,(zeroValue 132).run Tryz.prog w= .ok (.agg #[(.int .i64 (0)),(.int .i64 (0)),(.int .i64 (0))]) w:=fun w=>by kernel_rfl
theorem OD:∀S w,(A.cells S w (.rep (.arr 3 (.int .i64)) [(0:Int),(0:Int),(0:Int)]) (Value.cells (.agg #[(.int .i64 (0)),(.int .i64 (0)),(.int .i64 (0))])).toList):=fun _ _=>⟨rfl,⟨[_],_,rfl,rfl,⟨[_],_,rfl,rfl,⟨[_],_,rfl,rfl,rfl⟩⟩⟩⟩
theorem IN:∀S w,(A.cells S w (.agg (.pair (.eq (.int .i64 (0:Int))) (.eq (.int .i64 (0:Int))))) (Value.cells (.agg #[(.int .i64 (0)),(.int .i64 (0))])).toList):=fun _ _=>⟨[_],_,rfl,⟨rfl,rfl⟩,⟨rfl,rfl⟩⟩
theorem px:a9 Tryz.prog 99 1 1:=a9.of (by kernel_rfl)
theorem gY:a9 Tryz.prog 99 0 0:=a9.of (by kernel_rfl)
theorem Pz:an Tryz.prog 75:=an.of Tryz.func75 (by kernel_rfl) (by kernel_rfl)
theorem CJ:fX Tryz.prog 95 4 true:=⟨fun w=>by kernel_rfl,fun w=>by kernel_rfl⟩
theorem Gx:∀w,(zeroValue 121).run Tryz.prog w= .ok (.agg #[(.int .i64 (0)),(.int .i64 (0)),(.int .i64 (0)),(.int .i64 (0)),(.int .i64 (0)),(.int .i64 (0)),(.int .i64 (0)),(.int .i64 (0))]) w:=fun w=>by kernel_rfl
theorem IO:∀S w,(A.cells S w (.rep (.arr 4 aB) [((0:Int),(0:Int)),((0:Int),(0:Int)),((0:Int),(0:Int)),((0:Int),(0:Int))]) (Value.cells (.agg #[(.int .i64 (0)),(.int .i64 (0)),(.int .i64 (0)),(.int .i64 (0)),(.int .i64 (0)),(.int .i64 (0)),(.int .i64 (0)),(.int .i64 (0))])).toList):=fun _ _=>⟨rfl,⟨[_,_],_,rfl,⟨[_],_,rfl,rfl,rfl⟩,⟨[_,_],_,rfl,⟨[_],_,rfl,rfl,rfl⟩,⟨[_,_],_,rfl,⟨[_],_,rfl,rfl,rfl⟩,⟨[_,_],_,rfl,⟨[_],_,rfl,rfl,rfl⟩,rfl⟩⟩⟩⟩⟩
theorem vX:fX Tryz.prog 121 8 true:=⟨fun w=>by kernel_rfl,fun w=>by kernel_rfl⟩
theorem Og:an Tryz.prog 65:=an.of Tryz.func65 (by kernel_rfl) (by kernel_rfl)
theorem LZ:∀w,(zeroValue 3).run Tryz.prog w= .ok (.int .i64 0) w:=fun w=>by kernel_rfl
theorem If:a9 Tryz.prog 80 3 13:=a9.of (by kernel_rfl)
theorem NT:fX Tryz.prog 78 1 false:=⟨fun w=>by kernel_rfl,fun w=>by kernel_rfl⟩
theorem KU:an Tryz.prog 49:=an.of Tryz.func49 (by kernel_rfl) (by kernel_rfl)
theorem PK:an Tryz.prog 66:=an.of Tryz.func66 (by kernel_rfl) (by kernel_rfl)
theorem ym:∀w,(zeroValue 3).run Tryz.prog w= .ok (.int .i64 (0)) w:=fun w=>by kernel_rfl
theorem yX:∀S w,(A.cells S w (.eq (.int .i64 (0:Int))) (Value.cells (.int .i64 (0))).toList):=fun _ _=>⟨rfl,rfl⟩
theorem Qr:∀w,(zeroValue 4).run Tryz.prog w= .ok (.bool false) w:=fun w=>by kernel_rfl
theorem Qy:∀S w,(A.cells S w (.eq (.bool false)) (Value.cells (.bool false)).toList):=fun _ _=>⟨rfl,rfl⟩
theorem qU:fX Tryz.prog 4 1 false:=⟨fun w=>by kernel_rfl,fun w=>by kernel_rfl⟩
theorem OX:fX Tryz.prog 73 1 false:=⟨fun w=>by kernel_rfl,fun w=>by kernel_rfl⟩
theorem PW:an Tryz.prog 31:=an.of Tryz.func31 (by kernel_rfl) (by kernel_rfl)
theorem PM:an Tryz.prog 60:=an.of Tryz.func60 (by kernel_rfl) (by kernel_rfl)
theorem wa:og Tryz.prog 23 47 3 40:=.of (z:=(.agg #[(.slice none 0 0),(.int .i64 (0)),(.int .i64 (0))])) Tryz.underlying23 (by kernel_rfl) rfl rfl rfl
theorem oS:∀w,(zeroValue 26).run Tryz.prog w= .ok (.agg #[(.slice none 0 0),(.slice none 0 0),(.slice none 0 0),(.slice none 0 0)]) w:=fun w=>by kernel_rfl
theorem rM:∀S w,(A.cells S w (.agg (.pair (.eq (.slice none 0 0)) (.pair (.eq (.slice none 0 0)) (.pair (.eq (.slice none 0 0)) (.eq (.slice none 0 0)))))) (Value.cells (.agg #[(.slice none 0 0),(.slice none 0 0),(.slice none 0 0),(.slice none 0 0)])).toList):=fun _ _=>⟨[_],_,rfl,⟨rfl,rfl⟩,⟨[_],_,rfl,⟨rfl,rfl⟩,⟨[_],_,rfl,⟨rfl,rfl⟩,⟨rfl,rfl⟩⟩⟩⟩
theorem rI:an Tryz.prog 28:=an.of Tryz.func28 (by kernel_rfl) (by kernel_rfl)
theorem vy:an Tryz.prog 30:=an.of Tryz.func30 (by kernel_rfl) (by kernel_rfl)
theorem Bt:an Tryz.prog 29:=an.of Tryz.func29 (by kernel_rfl) (by kernel_rfl)
theorem KV:an Tryz.prog 40:=an.of Tryz.func40 (by kernel_rfl) (by kernel_rfl)
theorem Na:an Tryz.prog 41:=an.of Tryz.func41 (by kernel_rfl) (by kernel_rfl)
theorem LS:an Tryz.prog 107:=an.of Tryz.func107 (by kernel_rfl) (by kernel_rfl)
theorem Pl:an Tryz.prog 94:=an.of Tryz.func94 (by kernel_rfl) (by kernel_rfl)
theorem Pj:an Tryz.prog 98:=an.of Tryz.func98 (by kernel_rfl) (by kernel_rfl)
theorem Pm:an Tryz.prog 88:=an.of Tryz.func88 (by kernel_rfl) (by kernel_rfl)
theorem PD:an Tryz.prog 73:=an.of Tryz.func73 (by kernel_rfl) (by kernel_rfl)
theorem PE:an Tryz.prog 72:=an.of Tryz.func72 (by kernel_rfl) (by kernel_rfl)
theorem PV:an Tryz.prog 44:=an.of Tryz.func44 (by kernel_rfl) (by kernel_rfl)
theorem PU:an Tryz.prog 45:=an.of Tryz.func45 (by kernel_rfl) (by kernel_rfl)
theorem Ha:Cc Tryz.prog 45 #[(0,1),(1,1),(2,1),(3,1),(4,1)]:=⟨_,Tryz.underlying45,fun _=>by kernel_rfl⟩
theorem BR:∀S w,(A.cells S w (.pair (.eq (.slice none 0 0)) (.pair (.eq (.int .i64 (0:Int))) (.pair (.eq (.int .i64 (0:Int))) (.pair (.eq (.int .i64 (0:Int))) (.eq (.int .i64 (0:Int))))))) (Value.cells (.agg #[(.slice none 0 0),(.int .i64 (0)),(.int .i64 (0)),(.int .i64 (0)),(.int .i64 (0))])).toList):=fun _ _=>⟨[_],_,rfl,⟨rfl,rfl⟩,⟨[_],_,rfl,⟨rfl,rfl⟩,⟨[_],_,rfl,⟨rfl,rfl⟩,⟨[_],_,rfl,⟨rfl,rfl⟩,⟨rfl,rfl⟩⟩⟩⟩⟩
theorem CP:og Tryz.prog 22 45 5 56:=.of (z:=(.agg #[(.slice none 0 0),(.int .i64 (0)),(.int .i64 (0)),(.int .i64 (0)),(.int .i64 (0))])) Tryz.underlying22 (by kernel_rfl) rfl rfl rfl
theorem JR:Cc Tryz.prog 47 #[(0,1),(1,1),(2,1)]:=⟨_,Tryz.underlying47,fun _=>by kernel_rfl⟩
theorem EH:∀S w,(A.cells S w (.pair (.eq (.slice none 0 0)) (.pair (.eq (.int .i64 (0:Int))) (.eq (.int .i64 (0:Int))))) (Value.cells (.agg #[(.slice none 0 0),(.int .i64 (0)),(.int .i64 (0))])).toList):=fun _ _=>⟨[_],_,rfl,⟨rfl,rfl⟩,⟨[_],_,rfl,⟨rfl,rfl⟩,⟨rfl,rfl⟩⟩⟩
theorem MG:Cc Tryz.prog 26 #[(0,1),(1,1),(2,1),(3,1)]:=⟨_,Tryz.underlying26,fun _=>by kernel_rfl⟩
theorem IM:∀S w,(A.cells S w (.pair (.eq (.slice none 0 0)) (.pair (.eq (.slice none 0 0)) (.pair (.eq (.slice none 0 0)) (.eq (.slice none 0 0))))) (Value.cells (.agg #[(.slice none 0 0),(.slice none 0 0),(.slice none 0 0),(.slice none 0 0)])).toList):=fun _ _=>⟨[_],_,rfl,⟨rfl,rfl⟩,⟨[_],_,rfl,⟨rfl,rfl⟩,⟨[_],_,rfl,⟨rfl,rfl⟩,⟨rfl,rfl⟩⟩⟩⟩
theorem Pi:an Tryz.prog 99:=an.of Tryz.func99 (by kernel_rfl) (by kernel_rfl)
theorem xO:fX Tryz.prog 34 1 false:=⟨fun w=>by kernel_rfl,fun w=>by kernel_rfl⟩
theorem LI:Aa Tryz.prog 158:=⟨Tryz.underlying158,fun w=>by kernel_rfl⟩
theorem OV:∀w,(zeroValue 34).run Tryz.prog w= .ok (.int .i64 (0)) w:=fun w=>by kernel_rfl
theorem Qa:∀S w,(A.cells S w (.eq (.int .i64 (0:Int))) (Value.cells (.int .i64 (0))).toList):=fun _ _=>⟨rfl,rfl⟩
theorem PC:an Tryz.prog 74:=an.of Tryz.func74 (by kernel_rfl) (by kernel_rfl)
theorem FU:an Tryz.prog 48:=an.of Tryz.func48 (by kernel_rfl) (by kernel_rfl)
theorem PS:an Tryz.prog 50:=an.of Tryz.func50 (by kernel_rfl) (by kernel_rfl)
theorem LL:og Tryz.prog 107 65 1 8:=.of (z:=(.pointer none)) Tryz.underlying107 (by kernel_rfl) rfl rfl rfl
theorem Ph:OO Tryz.prog 99 aB:=by
  refine⟨rfl,by kernel_rfl,fun w x y=>?_⟩
  have u3:=Tryz.underlying3
  have a3:=Tryz.isAgg3
  have z3:=Tryz.sizeOf3
  have hS:Tryz.prog.underlying 99=some (.struct (Tryz.prog.fieldsOf 99)):=by kernel_rfl
  have hp:Tryz.prog.stoodInHeld 99=false:=by kernel_rfl
  rw [show(10000:Nat)=9999+1 from rfl,run_equalIn_agg w 9999 99 _ _ hS hp]
  simp only [Program.fieldsOf,Tryz.underlying99,vx]
  refine⟨decide (x=y),?_,decide_eq_true_iff⟩
  go_simp
  obtain⟨p0,p1⟩:=x
  obtain⟨q0,q1⟩:=y
  by_cases h0:p0=q0 <;> by_cases h1:p1=q1 <;> simp [h0,h1]
theorem Is:an Tryz.prog 17:=an.of Tryz.func17 (by kernel_rfl) (by kernel_rfl)
theorem P5:an Tryz.prog 18:=an.of Tryz.func18 (by kernel_rfl) (by kernel_rfl)
theorem KW:an Tryz.prog 20:=an.of Tryz.func20 (by kernel_rfl) (by kernel_rfl)
theorem P4:an Tryz.prog 19:=an.of Tryz.func19 (by kernel_rfl) (by kernel_rfl)
theorem P3:an Tryz.prog 21:=an.of Tryz.func21 (by kernel_rfl) (by kernel_rfl)
theorem Om:an Tryz.prog 12:=an.of Tryz.func12 (by kernel_rfl) (by kernel_rfl)
theorem P0:an Tryz.prog 22:=an.of Tryz.func22 (by kernel_rfl) (by kernel_rfl)
theorem NV:og Tryz.prog 29 26 4 96:=.of (z:=(.agg #[(.slice none 0 0),(.slice none 0 0),(.slice none 0 0),(.slice none 0 0)])) Tryz.underlying29 (by kernel_rfl) rfl rfl rfl
theorem PZ:an Tryz.prog 23:=an.of Tryz.func23 (by kernel_rfl) (by kernel_rfl)
theorem Ol:an Tryz.prog 14:=an.of Tryz.func14 (by kernel_rfl) (by kernel_rfl)
theorem PY:an Tryz.prog 24:=an.of Tryz.func24 (by kernel_rfl) (by kernel_rfl)
theorem Bw:an Tryz.prog 11:=an.of Tryz.func11 (by kernel_rfl) (by kernel_rfl)
theorem zR:an Tryz.prog 27:=an.of Tryz.func27 (by kernel_rfl) (by kernel_rfl)
theorem uL:a9 Tryz.prog 64 2 2:=a9.of (by kernel_rfl)
theorem EZ:fX Tryz.prog 62 1 false:=⟨fun w=>by kernel_rfl,fun w=>by kernel_rfl⟩
theorem zO:a9 Tryz.prog 64 1 1:=a9.of (by kernel_rfl)
theorem Ig:a9 Tryz.prog 64 0 0:=a9.of (by kernel_rfl)
theorem PQ:an Tryz.prog 56:=an.of Tryz.func56 (by kernel_rfl) (by kernel_rfl)
theorem Bv:an Tryz.prog 26:=an.of Tryz.func26 (by kernel_rfl) (by kernel_rfl)
theorem GR:og Tryz.prog 135 4 1 1:=.of (z:=(.bool false)) Tryz.underlying135 (by kernel_rfl) rfl rfl rfl
theorem OT:∀i z,Tryz.prog.info? 4=some i→i.zero=some z→∀S w,rd S w .bool false z.cells.toList:=L0 (z0:=(.bool false)) (by kernel_rfl) fun _ _=>rfl
theorem Br:an Tryz.prog 76:=an.of Tryz.func76 (by kernel_rfl) (by kernel_rfl)
theorem He:Cc Tryz.prog 137 #[(0,1),(1,1)]:=⟨_,Tryz.underlying137,fun _=>by kernel_rfl⟩
theorem DX:∀w,(zeroValue 137).run Tryz.prog w= .ok (.agg #[(.int .i64 (0)),(.bool false)]) w:=fun w=>by kernel_rfl
theorem DK:∀S w,(A.cells S w (.pair (.eq (.int .i64 (0:Int))) (.eq (.bool false))) (Value.cells (.agg #[(.int .i64 (0)),(.bool false)])).toList):=fun _ _=>⟨[_],_,rfl,⟨rfl,rfl⟩,⟨rfl,rfl⟩⟩
theorem yp:og Tryz.prog 111 137 2 16:=.of (z:=(.agg #[(.int .i64 (0)),(.bool false)])) Tryz.underlying111 (by kernel_rfl) rfl rfl rfl
theorem FT:an Tryz.prog 52:=an.of Tryz.func52 (by kernel_rfl) (by kernel_rfl)
theorem KT:an Tryz.prog 53:=an.of Tryz.func53 (by kernel_rfl) (by kernel_rfl)
theorem FR:an Tryz.prog 54:=an.of Tryz.func54 (by kernel_rfl) (by kernel_rfl)
theorem PR:an Tryz.prog 55:=an.of Tryz.func55 (by kernel_rfl) (by kernel_rfl)
theorem PX:an Tryz.prog 25:=an.of Tryz.func25 (by kernel_rfl) (by kernel_rfl)
theorem OQ:an Tryz.prog 8:=an.of Tryz.func8 (by kernel_rfl) (by kernel_rfl)
theorem OZ:Cc Tryz.prog 64 #[(0,1),(1,1),(2,1)]:=⟨_,Tryz.underlying64,fun _=>by kernel_rfl⟩
theorem OU:∀w,(zeroValue 64).run Tryz.prog w= .ok (.agg #[(.slice none 0 0),(.int .i64 (0)),(.int .u64 (0))]) w:=fun w=>by kernel_rfl
theorem Oy:∀S w,(A.cells S w (.pair (.eq (.slice none 0 0)) (.pair (.eq (.int .i64 (0:Int))) (.eq (.int .u64 (0:Int))))) (Value.cells (.agg #[(.slice none 0 0),(.int .i64 (0)),(.int .u64 (0))])).toList):=fun _ _=>⟨[_],_,rfl,⟨rfl,rfl⟩,⟨[_],_,rfl,⟨rfl,rfl⟩,⟨rfl,rfl⟩⟩⟩
theorem OW:fX Tryz.prog 77 8 true:=⟨fun w=>by kernel_rfl,fun w=>by kernel_rfl⟩
theorem NL:∀w,(zeroValue 65).run Tryz.prog w= .ok (.pointer none) w:=fun w=>by kernel_rfl
theorem Oz:∀S w,(A.cells S w (.eq (.pointer none)) (Value.cells (.pointer none)).toList):=fun _ _=>⟨rfl,rfl⟩
theorem qn:OK Tryz.prog 74:=fun w=>by kernel_rfl
theorem rE:∀w,(zeroValue 74).run Tryz.prog w= .ok (.chan none) w:=fun w=>by kernel_rfl
theorem rL:∀S w,(A.cells S w (.eq (.chan none)) (Value.cells (.chan none)).toList):=fun _ _=>⟨rfl,rfl⟩
theorem Mc:fX Tryz.prog 74 1 false:=⟨fun w=>by kernel_rfl,fun w=>by kernel_rfl⟩
theorem yg:an Tryz.prog 42:=an.of Tryz.func42 (by kernel_rfl) (by kernel_rfl)
theorem Oe:an Tryz.prog 81:=an.of Tryz.func81 (by kernel_rfl) (by kernel_rfl)
theorem KQ:an Tryz.prog 82:=an.of Tryz.func82 (by kernel_rfl) (by kernel_rfl)
theorem Px:an Tryz.prog 83:=an.of Tryz.func83 (by kernel_rfl) (by kernel_rfl)
theorem zQ:an Tryz.prog 46:=an.of Tryz.func46 (by kernel_rfl) (by kernel_rfl)
theorem Po:an Tryz.prog 84:=an.of Tryz.func84 (by kernel_rfl) (by kernel_rfl)
theorem PI:an Tryz.prog 67:=an.of Tryz.func67 (by kernel_rfl) (by kernel_rfl)
theorem Iq:an Tryz.prog 68:=an.of Tryz.func68 (by kernel_rfl) (by kernel_rfl)
theorem l6:a9 Tryz.prog 137 0 0:=a9.of (by kernel_rfl)
theorem rm:a9 Tryz.prog 137 1 1:=a9.of (by kernel_rfl)
theorem LR:an Tryz.prog 108:=an.of Tryz.func108 (by kernel_rfl) (by kernel_rfl)
theorem mB:fX Tryz.prog 137 2 true:=⟨fun w=>by kernel_rfl,fun w=>by kernel_rfl⟩
theorem On:an Tryz.prog 109:=an.of Tryz.func109 (by kernel_rfl) (by kernel_rfl)
theorem LU:an Tryz.prog 101:=an.of Tryz.func101 (by kernel_rfl) (by kernel_rfl)
theorem LK:og Tryz.prog 124 49 1 24:=.of (z:=(.slice none 0 0)) Tryz.underlying124 (by kernel_rfl) rfl rfl rfl
theorem Oo:an Tryz.prog 100:=an.of Tryz.func100 (by kernel_rfl) (by kernel_rfl)
theorem Oc:an Tryz.prog 85:=an.of Tryz.func85 (by kernel_rfl) (by kernel_rfl)
theorem OC:∀S w,(A.cells S w (.agg (.pair (.eq (.int .i64 (0:Int))) (.eq (.bool false)))) (Value.cells (.agg #[(.int .i64 (0)),(.bool false)])).toList):=fun _ _=>⟨[_],_,rfl,⟨rfl,rfl⟩,⟨rfl,rfl⟩⟩
theorem Ob:an Tryz.prog 87:=an.of Tryz.func87 (by kernel_rfl) (by kernel_rfl)
theorem Pn:an Tryz.prog 86:=an.of Tryz.func86 (by kernel_rfl) (by kernel_rfl)
theorem PH:an Tryz.prog 69:=an.of Tryz.func69 (by kernel_rfl) (by kernel_rfl)
theorem Of:an Tryz.prog 70:=an.of Tryz.func70 (by kernel_rfl) (by kernel_rfl)
theorem Nc:an Tryz.prog 36:=an.of Tryz.func36 (by kernel_rfl) (by kernel_rfl)
theorem FV:an Tryz.prog 37:=an.of Tryz.func37 (by kernel_rfl) (by kernel_rfl)
theorem Nb:an Tryz.prog 38:=an.of Tryz.func38 (by kernel_rfl) (by kernel_rfl)
theorem PT:an Tryz.prog 47:=an.of Tryz.func47 (by kernel_rfl) (by kernel_rfl)
theorem Qx:an Tryz.prog 4:=an.of Tryz.func4 (by kernel_rfl) (by kernel_rfl)
theorem Qm:an Tryz.prog 5:=an.of Tryz.func5 (by kernel_rfl) (by kernel_rfl)
theorem Qv:an Tryz.prog 7:=an.of Tryz.func7 (by kernel_rfl) (by kernel_rfl)
theorem Qw:an Tryz.prog 6:=an.of Tryz.func6 (by kernel_rfl) (by kernel_rfl)
theorem Qu:an Tryz.prog 9:=an.of Tryz.func9 (by kernel_rfl) (by kernel_rfl)
theorem P9:an Tryz.prog 10:=an.of Tryz.func10 (by kernel_rfl) (by kernel_rfl)
theorem P8:an Tryz.prog 13:=an.of Tryz.func13 (by kernel_rfl) (by kernel_rfl)
theorem P7:an Tryz.prog 15:=an.of Tryz.func15 (by kernel_rfl) (by kernel_rfl)
theorem P6:an Tryz.prog 16:=an.of Tryz.func16 (by kernel_rfl) (by kernel_rfl)
abbrev Rs(t:Ty)(l:(Ty.slice t).den):A:=.rep (.slice t) l
abbrev Pv(b:Nat):Value:=.pointer (some ⟨b,0,none⟩)
abbrev N4:A:=.agg (.pair (.eq (.slice none 0 0)) (.pair (.eq (.slice none 0 0)) (.pair (.eq (.slice none 0 0)) (.eq (.slice none 0 0)))))
abbrev Qc(q:ae):A:=.agg (.pair (.rep (.slice aJ) q.1) (.pair (.rep (.slice aw) q.2.1) (.pair (Ri q.2.2.1) (Ri q.2.2.2))))
abbrev Qq(q:ae×(List (Bool×Int))×(List Int))(m:A):A:=.agg (.pair (Qc q.1) (.pair (.rep (.slice (.tag 104 115)) q.2.1) (.pair (.rep (.arr 8 (.int .u8)) q.2.2) m)))
abbrev Qe:= @Tryz.underlying104
abbrev IR:= @Tryz.underlying107
abbrev uX:= @Tryz.underlying111
abbrev Qd:= @Tryz.underlying115
abbrev IQ:= @Tryz.underlying121
abbrev IP:= @Tryz.underlying124
abbrev Qb:= @Tryz.underlying130
abbrev Nw:= @Tryz.underlying132
abbrev sL:= @Tryz.underlying135
abbrev DL:= @Tryz.underlying158
abbrev Lh:= @Tryz.underlying160
abbrev kU:= @Tryz.underlying22
abbrev l8:= @Tryz.underlying23
abbrev jt:= @Tryz.underlying24
abbrev Qp:= @Tryz.underlying26
abbrev Le:= @Tryz.underlying29
abbrev U3:= @Tryz.underlying3
abbrev U4:= @Tryz.underlying4
abbrev rR:= @Tryz.underlying49
abbrev U5:= @Tryz.underlying5
abbrev OS:= @Tryz.underlying62
abbrev Gi:= @Tryz.underlying75
abbrev OG:= @Tryz.underlying77
abbrev Qo:= @Tryz.underlying78
abbrev U9:= @Tryz.underlying9
abbrev OF:= @Tryz.underlying95
abbrev Qz:= @Tryz.underlying99
theorem dF:false=false→1=1:=fun _=>rfl
end Go.Proofs.YtopgphikdglphaaGreat
