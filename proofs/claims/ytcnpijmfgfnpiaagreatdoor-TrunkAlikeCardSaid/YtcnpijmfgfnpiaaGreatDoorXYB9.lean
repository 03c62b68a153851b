import Derived.Test.YtcnpijmfgfnpiaaGreatDoorXYB5
import Derived.Test.YtcnpijmfgfnpiaaGreatDoorProg
import Derived.Stop.Asserts
set_option linter.unusedSimpArgs false
set_option linter.unusedVariables false
set_option maxRecDepth 20000
set_option maxHeartbeats 4000000
namespace Go.Proofs.YtcnpijmfgfnpiaaGreatDoor
open K Go Go.Proofs Go.Extern
theorem zx:dx Tryz.prog 159 1 false:=⟨fun w=>by kernel_rfl,fun w=>by kernel_rfl⟩
theorem iZ:dx Tryz.prog 160 1 false:=⟨fun w=>by kernel_rfl,fun w=>by kernel_rfl⟩
theorem KU:aO Tryz.prog 162 0 0:=aO.of (by kernel_rfl)
theorem qN:aO Tryz.prog 162 1 1:=aO.of (by kernel_rfl)
theorem zz:lV Tryz.prog 160 5 1 1:=.of (z:=(.int .u8 (0))) Tryz.underlying160 (by kernel_rfl) rfl rfl rfl
theorem K4:fy Tryz.prog 186 Extern.AbiNoEscape.same:=.of Tryz.func186 (by kernel_rfl) (by kernel_rfl) (by kernel_rfl) (by kernel_rfl)
theorem Au:ag Tryz.prog 151:=ag.of Tryz.func151 (by kernel_rfl) (by kernel_rfl)
theorem K6:ag Tryz.prog 152:=ag.of Tryz.func152 (by kernel_rfl) (by kernel_rfl)
@[reducible] def bA(p v:Value):A:=.agg (.pair (.eq p) (.eq v))
abbrev bP(b:Nat):Value:=.pointer (some ⟨b,0,none⟩)
theorem tV{p:Option Addr}:Ns Tryz.prog (binOp .eql 159 (.pointer p) (.pointer none)):=by
 cases p with
 |none=>exact ni (by kernel_rfl)
 |some p=>exact ni (by kernel_rfl)
theorem Cb{p:Option Addr}{x y:Operand}(w:World):(do eqGuard .eql 159 x y (.pointer p) (.pointer none);binOp .eql 159 (.pointer p) (.pointer none):Sem Value).run Tryz.prog w= .ok (.bool p.isNone) w:=by
 cases p <;> kernel_rfl
theorem zX{p:Addr}:Ns Tryz.prog (binOp .neq 159 (.pointer (some p)) (.pointer (some p))):=by
 refine ai (s:=Op.equal 159 (.pointer (some p)) (.pointer (some p))) ?_ fun _=>bh;show Ns Tryz.prog (Op.equalIn (9999+1) 159 (.pointer (some p)) (.pointer (some p)));unfold Op.equalIn;refine cC Tryz.underlying159 (ai cH fun n=>rK ?_ (rK bh (ai fh fun _=>bh)));unfold sameAddr;simp only [beq_self_eq_true,if_true];exact bh
theorem KD:∃j,Tryz.prog.info? 162=some j∧j.size≠0:=by
 obtain⟨j,h1,h2⟩:=Option.map_eq_some_iff.1 (show(Tryz.prog.info? 162).map (·.size)=some 2 by kernel_rfl);exact⟨j,h1,by omega⟩
theorem mQ{b:Nat}{p:Option Addr}{v:Value}(hp:p=none∨p=some ⟨b,0,none⟩)(hv:bi v=true):bX Tryz.prog 151 [.eq (bP b)] [.obj b 162 (bA (.pointer p) v)] (fun _:Unit=>(bq [],[.obj b 162 (bA (bP b) v)])):=by
 obtain⟨j162,inf162_eq,inf162_sz⟩:=KD;refine bX.of 20 Tryz.func151 rfl Tryz.ntmps151 rfl fun S w0=>?_;refine ah ?_;refine ab ?_;refine ax rfl rfl ?_;refine aB rfl (aQ rfl) ⟨rfl,trivial⟩ ?_;refine aB rfl (aw rfl KU) ⟨rfl,trivial⟩ ?_;refine bO rfl rfl rfl (ak rfl zx (fun _=>rfl) rfl) ⟨rfl,trivial⟩ ?_;refine aB rfl (hQ rfl Cb tV) ⟨rfl,rfl,trivial⟩ ?_;refine ap ?_;refine ae ?_;show JC _ _ _ _ _;refine bD rfl (fun hb=>?_) (fun hb=>?_)
 ·refine ab ?_;refine ax rfl rfl ?_;refine ax rfl rfl ?_;refine bO rfl rfl rfl (zP rfl Tryz.underlying159 Tryz.underlying179 inf162_eq inf162_sz rfl) ⟨rfl,trivial⟩ ?_;refine aB rfl (EO K4 [.tmp 9] [bP b] rfl rfl rfl (fun _=>rfl) bh) ⟨rfl,trivial⟩ ?_;refine bO rfl rfl rfl (wl rfl Tryz.underlying179 Tryz.underlying159 inf162_eq (by kernel_rfl)) ⟨rfl,trivial⟩ ?_;refine aB rfl (aQ rfl) ⟨rfl,trivial⟩ ?_;refine aB rfl (aw rfl KU) ⟨rfl,trivial⟩ ?_;refine bg rfl rfl (ba rfl zx rfl rfl rfl) ⟨rfl,rfl,trivial⟩ ?_;refine ap ?_;refine iC ?_;exact aG () [] 1 trivial rfl
 ·have hp':p=some ⟨b,0,none⟩:=by
   rcases hp with rfl |rfl
   ·cases hb
   ·rfl
  subst hp';refine ah ?_;refine ab ?_;refine ax rfl rfl ?_;refine aB rfl (aQ rfl) ⟨rfl,trivial⟩ ?_;refine aB rfl (aw rfl KU) ⟨rfl,trivial⟩ ?_;refine bO rfl rfl rfl (ak rfl zx (fun _=>rfl) rfl) ⟨rfl,trivial⟩ ?_;refine ax rfl rfl ?_;refine aB rfl (EG rfl Tryz.underlying159 inf162_eq zX) ⟨rfl,rfl,trivial⟩ ?_;refine ap ?_;refine ae ?_;show JC _ _ _ _ _;refine bD rfl (fun hb=>(by cases hb)) (fun hb=>?_);refine aU ?_;refine iC ?_;exact aG () [] 1 trivial rfl
theorem uF{v:Value}{l:List Int}{r:Int}(h0:0≤r)(h1:r≤127)(hl:bV (l.length+1)):bX Tryz.prog 152 [.eq v,.eq (.int .i32 r)] [.sl v 5 (.int .u8) l] (fun v':Value=>(bq [.eq v'],[.sl v' 5 (.int .u8) (l++[r])])):=by
 refine bX.of 16 Tryz.func152 rfl Tryz.ntmps152 rfl fun S w0=>?_;have w32:IntKind.u32.wrap r=r:=by simp [IntKind.wrap,IntKind.bits,IntKind.signed];omega
 have w8:IntKind.u8.wrap r=r:=by simp [IntKind.wrap,IntKind.bits,IntKind.signed];omega
 refine ah ?_;refine ab ?_;refine dA rfl ?_;refine ap ?_;refine ae ?_;show JC _ _ _ _ _;refine ah ?_;refine ah ?_;refine ab ?_;refine ax rfl rfl ?_;refine aB rfl (nJ rfl Tryz.underlying21 Tryz.underlying201) ⟨rfl,trivial⟩ ?_;rw [w32];refine aB rfl (tR rfl) ⟨rfl,rfl,trivial⟩ ?_;refine ap ?_;refine ae ?_;show JC _ _ _ _ _;refine bD rfl (fun hb=>?_) (fun hb=>absurd h1 (by simpa using hb));refine ah ?_;refine ab ?_;refine ax rfl rfl ?_;refine ax rfl rfl ?_;refine aB rfl (nJ rfl Tryz.underlying21 Tryz.underlying5) ⟨rfl,trivial⟩ ?_;rw [w8];refine aB rfl (bG (t:=(.int .u8)) [(.tmp 10,.eq (.int .u8 r))] [r] rfl rfl zz (.cons rfl .int .nil) rfl rfl) ⟨rfl,trivial⟩ ?_;refine ek rfl rfl rfl (cp rfl rfl zz (by simpa using hl)) ⟨rfl,rfl,trivial⟩ fun v'=>?_;refine dc rfl rfl ?_;refine ap ?_;refine ae ?_;show JC _ _ _ _ _;refine aA ?_;refine aP ?_;exact aG v' [_] 1 ⟨rfl,trivial⟩ rfl
theorem wa{b:Nat}{p:Option Addr}{v:Value}{l:List Int}{r:Int}(hp:p=none∨p=some ⟨b,0,none⟩)(hv:bi v=true)(h0:0≤r)(h1:r≤127)(hl:bV (l.length+1)):
 bX Tryz.prog 119 [.eq (bP b),.eq (.int .i32 r)] [.obj b 162 (bA (.pointer p) v),.sl v 5 (.int .u8) l]
  (fun v':Value=>(bq [.eq (.int .i64 1),.eq .nilIface],[.obj b 162 (bA (bP b) v'),.sl v' 5 (.int .u8) (l++[r])])):=by
 refine bX.of 30 Tryz.func119 rfl Tryz.ntmps119 rfl fun S w0=>?_
 refine ah ?_
 refine ab ?_
 refine dA rfl ?_
 refine dA rfl ?_
 refine ap ?_
 refine ae ?_
 show JC _ _ _ _ _
 refine ah ?_
 refine ab ?_
 refine ax rfl rfl ?_
 refine bO rfl rfl rfl (ao [.tmp 7] rfl rfl Au rfl (mQ hp hv)) ⟨rfl,trivial⟩ ?_
 refine ap ?_
 refine ae ?_
 show JC _ _ _ _ _
 refine ah ?_
 refine ab ?_
 refine ax rfl rfl ?_
 refine aB rfl (aQ rfl) ⟨rfl,trivial⟩ ?_
 refine aB rfl (aw rfl qN) ⟨rfl,trivial⟩ ?_
 refine bO rfl rfl rfl (ak rfl iZ (fun _=>rfl) rfl) ⟨rfl,trivial⟩ ?_
 refine bv 1 rfl ?_
 refine bO rfl rfl rfl (cO rfl rfl Tryz.underlying160) ⟨rfl,trivial⟩ ?_
 refine dc rfl rfl ?_
 refine ap ?_
 refine ae ?_
 show JC _ _ _ _ _
 refine ah ?_
 refine ab ?_
 refine ax rfl rfl ?_
 refine ax rfl rfl ?_
 refine aB rfl (aQ rfl) ⟨rfl,trivial⟩ ?_
 refine aB rfl (aw rfl qN) ⟨rfl,trivial⟩ ?_
 refine bv 1 rfl ?_
 refine bO rfl rfl rfl (ak rfl iZ (fun _=>rfl) rfl) ⟨rfl,trivial⟩ ?_
 refine ax rfl rfl ?_
 refine bv 1 rfl ?_
 refine ek rfl rfl rfl (ao [.tmp 18,.tmp 19] rfl rfl K6 rfl (uF h0 h1 hl)) ⟨rfl,rfl,trivial⟩ fun v'=>?_
 refine f4 fun hv'=>?_
 refine aB rfl (aQ rfl) ⟨rfl,trivial⟩ ?_
 refine aB rfl (aw rfl qN) ⟨rfl,trivial⟩ ?_
 refine bv 1 rfl ?_
 refine bg rfl rfl (ba rfl iZ hv' rfl rfl) ⟨rfl,rfl,trivial⟩ ?_
 refine ap ?_
 refine ae ?_
 show JC _ _ _ _ _
 refine ah ?_
 refine ab ?_
 refine ax rfl rfl ?_
 refine aB rfl (aQ rfl) ⟨rfl,trivial⟩ ?_
 refine aB rfl (aw rfl qN) ⟨rfl,trivial⟩ ?_
 refine bO rfl rfl rfl (ak rfl iZ (fun _=>rfl) rfl) ⟨rfl,trivial⟩ ?_
 refine bv 1 rfl ?_
 refine bO rfl rfl rfl (cO rfl rfl Tryz.underlying160) ⟨rfl,trivial⟩ ?_
 refine ax rfl rfl ?_
 have hck:ck (((l++[r]).length:Int) - (l.length:Int))=some 1:=by
  have:(((l++[r]).length:Int) - (l.length:Int))=1:=by simp;omega
  rw [this];rfl
 refine aB rfl (fH rfl hck) ⟨rfl,rfl,trivial⟩ ?_
 refine dc rfl rfl ?_
 refine dA rfl ?_
 refine ap ?_
 refine ae ?_
 show JC _ _ _ _ _
 refine aA ?_
 refine bI (SE.fin (Γ':=[(4,_),(5,_)]) [1,0] ⟨rfl,rfl,trivial⟩ rfl) ?_
 exact aG v' [_,_] 2 ⟨rfl,rfl,trivial⟩ rfl
theorem Ql:Tryz.prog.cellsOf 5=1:=by kernel_rfl
theorem pN:Tryz.prog.follows .mixedOrders=true:=by kernel_rfl
theorem uY{b:Nat}{p v:Value}{l:List Int}(hl:l=[]→v= .slice none 0 0):
 bX Tryz.prog 120 [.eq (bP b)] [.obj b 162 (bA p v),.sl v 5 (.int .u8) l] (fun _:Unit=>(bq [.eq (.string (py l))],[])):=by
 refine bX.of 14 Tryz.func120 rfl Tryz.ntmps120 rfl fun S w0=>?_
 refine ah ?_
 refine ab ?_
 refine dA rfl ?_
 refine ap ?_
 refine ae ?_
 show JC _ _ _ _ _
 refine ah ?_
 refine cr ?_
 refine di rfl rfl rfl (aR rfl) ⟨rfl,trivial⟩ ?_
 refine di rfl rfl rfl (aQ rfl) ⟨rfl,trivial⟩ ?_
 refine di rfl rfl rfl (aw rfl qN) ⟨rfl,trivial⟩ ?_
 refine na 0 rfl rfl rfl rfl (ak rfl iZ (fun _=>rfl) rfl) ⟨rfl,trivial⟩ ?_
 refine na 1 rfl rfl rfl rfl (yb rfl rfl hl) ⟨rfl,trivial⟩ ?_
 refine di rfl rfl rfl (aR rfl) ⟨rfl,trivial⟩ ?_
 refine di rfl rfl rfl (aQ rfl) ⟨rfl,trivial⟩ ?_
 refine di rfl rfl rfl (aw rfl qN) ⟨rfl,trivial⟩ ?_
 refine na 0 rfl rfl rfl rfl (ak rfl iZ (fun _=>rfl) rfl) ⟨rfl,trivial⟩ ?_
 refine na 1 rfl rfl rfl rfl (cO rfl rfl Tryz.underlying160) ⟨rfl,trivial⟩ ?_
 refine sf (by kernel_rfl) pN ?_
 refine bv 1 rfl ?_
 refine bC (Δ:=[_]) (F:=_) (fun _ _ _=>av rfl _) rfl rfl (tL rfl rfl Tryz.underlying213 Ql hl) ⟨rfl,rfl,trivial⟩ fun _=>?_
 refine dc rfl rfl ?_
 refine ap ?_
 refine ae ?_
 show JC _ _ _ _ _
 refine aA ?_
 exact aG () [_] 0 ⟨rfl,trivial⟩ rfl
theorem Py:(Tryz.prog.info? 5).bind (·.zero)=some (.int .u8 0):=by kernel_rfl
theorem kS{b:Nat}{p:Option Addr}{v:Value}{l:List Int}{s:ByteArray}(hp:p=none∨p=some ⟨b,0,none⟩)(hv:bi v=true)(hl:bV (l.length+s.size)):
 bX Tryz.prog 154 [.eq (bP b),.eq (.string s)] [.obj b 162 (bA (.pointer p) v),.sl v 5 (.int .u8) l]
  (fun v':Value=>(bq [.eq (.int .i64 s.size),.eq .nilIface],[.obj b 162 (bA (bP b) v'),.sl v' 5 (.int .u8) (l++qn s)])):=by
 refine bX.of 19 Tryz.func154 rfl Tryz.ntmps154 rfl fun S w0=>?_
 refine ah ?_
 refine ab ?_
 refine dA rfl ?_
 refine dA rfl ?_
 refine ap ?_
 refine ae ?_
 show JC _ _ _ _ _
 refine ah ?_
 refine ab ?_
 refine ax rfl rfl ?_
 refine bO rfl rfl rfl (ao [.tmp 6] rfl rfl Au rfl (mQ hp hv)) ⟨rfl,trivial⟩ ?_
 refine ap ?_
 refine ae ?_
 show JC _ _ _ _ _
 refine ah ?_
 refine ab ?_
 refine ax rfl rfl ?_
 refine ax rfl rfl ?_
 refine aB rfl (aQ rfl) ⟨rfl,trivial⟩ ?_
 refine aB rfl (aw rfl qN) ⟨rfl,trivial⟩ ?_
 refine bO rfl rfl rfl (ak rfl iZ (fun _=>rfl) rfl) ⟨rfl,trivial⟩ ?_
 refine ax rfl rfl ?_
 refine bv 1 rfl ?_
 refine ek rfl rfl rfl (yi rfl rfl zz Tryz.underlying9 Py (by decide) hl) ⟨rfl,rfl,trivial⟩ fun v'=>?_
 refine f4 fun hv'=>?_
 refine aB rfl (aQ rfl) ⟨rfl,trivial⟩ ?_
 refine aB rfl (aw rfl qN) ⟨rfl,trivial⟩ ?_
 refine bv 1 rfl ?_
 refine bg rfl rfl (ba rfl iZ hv' rfl rfl) ⟨rfl,rfl,trivial⟩ ?_
 refine ap ?_
 refine ae ?_
 show JC _ _ _ _ _
 refine ah ?_
 refine ab ?_
 refine ax rfl rfl ?_
 refine aB rfl (ml rfl rfl Tryz.underlying9) ⟨rfl,trivial⟩ ?_
 refine dc rfl rfl ?_
 refine dA rfl ?_
 refine ap ?_
 refine ae ?_
 show JC _ _ _ _ _
 refine aA ?_
 exact aG v' [_,_] 2 ⟨rfl,rfl,trivial⟩ rfl
theorem K2:fy Tryz.prog 207 (Extern.BytealgMakeNoZero.makeNoZero #[3] #[160]):=.of Tryz.func207 (by kernel_rfl) (by kernel_rfl) (by kernel_rfl) (by kernel_rfl)
theorem K3:ag Tryz.prog 188:=ag.of Tryz.func188 (by kernel_rfl) (by kernel_rfl)
def PC:Value→List D
 | .slice (some ⟨b,0,none⟩) m c=>[.sl (.slice (some ⟨b,0,none⟩) 0 c) 5 (.int .u8) []]
 |_=>[Gx]
theorem J0{v:Value}(h:∀d∈PC v,∃S w,d.holds S w):∃b m c,v= .slice (some ⟨b,0,none⟩) m c:=by
 unfold PC at h;split at h
 ·exact⟨_,_,_,rfl⟩
 ·obtain⟨S,w,hb⟩:=h Gx (by simp);exact absurd hb yP
theorem MJ:dx Tryz.prog 5 1 false:=⟨fun w=>by kernel_rfl,fun w=>by kernel_rfl⟩
theorem Ed{b cap:Nat}:sliced (some ⟨b,0,none⟩) 0 (Int.toNat 0) cap 1= .slice (some ⟨b,0,none⟩) 0 cap:=AU
abbrev zB(bc:Nat×Nat):Value:=.slice (some ⟨bc.1,0,none⟩) 0 bc.2
theorem HE{b n:Nat}{p:Value}(hn:n≤281474976710656):
 bX Tryz.prog 188 [.eq (bP b),.eq (.int .i64 n)] [.obj b 162 (bA p (.slice none 0 0))] (fun bc:Nat×Nat=>(bq [],[.obj b 162 (bA p (zB bc)),.sl (zB bc) 5 (.int .u8) []])):=by
 refine bX.of 30 Tryz.func188 rfl Tryz.ntmps188 rfl fun S w0=>?_
 have c1:ck (2 * ((0:Nat):Int))=some 0:=rfl
 have c2:ck (0+(n:Int))=some (n:Int):=by rw [Int.zero_add];unfold ck;rw [if_pos (by omega)]
 refine ah ?_
 refine jW ?_
 refine aK rfl rfl rfl (aR rfl) ⟨rfl,trivial⟩ ?_
 refine aK rfl rfl rfl (aQ rfl) ⟨rfl,trivial⟩ ?_
 refine aK rfl rfl rfl (aw rfl qN) ⟨rfl,trivial⟩ ?_
 refine dy 0 rfl rfl rfl rfl (ak rfl iZ (fun _=>rfl) rfl) ⟨rfl,trivial⟩ ?_
 refine aK rfl rfl rfl (EQ rfl rfl Tryz.underlying160) ⟨rfl,trivial⟩ ?_
 refine aK rfl rfl rfl (Js rfl c1) ⟨rfl,rfl,trivial⟩ ?_
 refine aK rfl rfl rfl (aR rfl) ⟨rfl,trivial⟩ ?_
 refine aK rfl rfl rfl (bj rfl c2) ⟨rfl,rfl,trivial⟩ ?_
 refine BG PC (fun _=>rfl) rfl rfl rfl (EF K2 rfl rfl Tryz.underlying160 hn) ⟨rfl,trivial⟩ ?_
 refine aK rfl rfl rfl (aR rfl) ⟨rfl,trivial⟩ ?_
 refine aK rfl rfl rfl (aQ rfl) ⟨rfl,trivial⟩ ?_
 refine aK rfl rfl rfl (aw rfl qN) ⟨rfl,trivial⟩ ?_
 refine dy 0 rfl rfl rfl rfl (ak rfl iZ (fun _=>rfl) rfl) ⟨rfl,trivial⟩ ?_
 refine aK rfl rfl rfl (EK rfl rfl Tryz.underlying160) ⟨rfl,trivial⟩ ?_
 refine ou 14 [true,true,true,true,true,true,true,true,true,true,true,true,true,true] [19,4] [] [] rfl (by kernel_rfl) (by kernel_rfl) (by kernel_rfl) pN (fun vs hv hB=>?_)
 obtain⟨u0,vs1,rfl,hv1⟩:=an hv
 obtain⟨u1,vs2,rfl,hv2⟩:=an hv1
 obtain⟨u2,vs3,rfl,hv3⟩:=an hv2
 obtain⟨u3,vs4,rfl,hv4⟩:=an hv3
 obtain⟨u4,vs5,rfl,hv5⟩:=an hv4
 obtain⟨u5,vs6,rfl,hv6⟩:=an hv5
 obtain⟨u6,vs7,rfl,hv7⟩:=an hv6
 obtain⟨u7,vs8,rfl,hv8⟩:=an hv7
 obtain⟨u8,vs9,rfl,hv9⟩:=an hv8
 obtain⟨u9,vs10,rfl,hv10⟩:=an hv9
 obtain⟨u10,vs11,rfl,hv11⟩:=an hv10
 obtain⟨u11,vs12,rfl,hv12⟩:=an hv11
 obtain⟨u12,vs13,rfl,hv13⟩:=an hv12
 obtain⟨u13,vs14,rfl,hv14⟩:=an hv13
 obtain rfl:=lI hv14
 obtain⟨g,m,q,rfl⟩:=J0 hB.2.2.2.2.2.2.2.2.1
 refine⟨[0,1],[.obj b 162 (bA p (.slice none 0 0)),.sl (zB (g,q)) 5 (.int .u8) []],by kernel_rfl,by decide,?_⟩
 refine m7 rfl rfl rfl rfl (tN rfl Tryz.underlying160 MJ (Int.le_refl 0) (Int.natCast_nonneg _)) ⟨rfl,rfl,trivial⟩ (by kernel_rfl) ?_
 rw [Ed]
 refine m7 rfl rfl rfl rfl (ia rfl) ⟨rfl,trivial⟩ (by kernel_rfl) ?_
 refine sc ?_
 refine bI (SE.fin (Γ':=[(0,.eq (bP b)),(4,.eq (zB (g,q)))]) (Δ':=[.obj b 162 (bA p (.slice none 0 0)),.sl (zB (g,q)) 5 (.int .u8) []]) [0,1] ⟨rfl,rfl,trivial⟩ rfl) ?_
 refine ae ?_
 show JC _ _ _ _ _
 refine ah ?_
 refine ab ?_
 refine ax rfl rfl ?_
 refine ax rfl rfl ?_
 refine aB rfl (aQ rfl) ⟨rfl,trivial⟩ ?_
 refine aB rfl (aw rfl qN) ⟨rfl,trivial⟩ ?_
 refine bO rfl rfl rfl (ak rfl iZ (fun _=>rfl) rfl) ⟨rfl,trivial⟩ ?_
 refine aB rfl (HO rfl rfl Tryz.underlying160 MJ) ⟨rfl,rfl,trivial⟩ ?_
 refine ap ?_
 refine ae ?_
 show JC _ _ _ _ _
 refine ab ?_
 refine ax rfl rfl ?_
 refine ax rfl rfl ?_
 refine aB rfl (aQ rfl) ⟨rfl,trivial⟩ ?_
 refine aB rfl (aw rfl qN) ⟨rfl,trivial⟩ ?_
 refine bg rfl rfl (ba rfl iZ rfl rfl rfl) ⟨rfl,rfl,trivial⟩ ?_
 refine ap ?_
 refine iC ?_
 exact aG (g,q) [] 2 trivial rfl
end Go.Proofs.YtcnpijmfgfnpiaaGreatDoor
set_option linter.unusedVariables false
set_option maxRecDepth 20000
set_option maxHeartbeats 4000000
namespace Go.Proofs.YtcnpijmfgfnpiaaGreatDoor
open K Go Go.Proofs Go.Extern
theorem Eh{b n:Nat}(h0:0 < n)(hn:n≤281474976710656):
 bX Tryz.prog 153 [.eq (bP b),.eq (.int .i64 n)] [.obj b 162 (bA (.pointer none) (.slice none 0 0))] (fun bc:Nat×Nat=>(bq [],[.obj b 162 (bA (bP b) (zB bc)),.sl (zB bc) 5 (.int .u8) []])):=by
 refine bX.of 25 Tryz.func153 rfl Tryz.ntmps153 rfl fun S w0=>?_
 have c1:ck (((0:Nat):Int) - ((0:Nat):Int))=some 0:=rfl
 refine ah ?_
 refine ab ?_
 refine ax rfl rfl ?_
 refine bO rfl rfl rfl (ao [.tmp 4] rfl rfl Au rfl (mQ (.inl rfl) rfl)) ⟨rfl,trivial⟩ ?_
 refine ap ?_
 refine ae ?_
 show JC _ _ _ _ _
 refine ah ?_
 refine ah ?_
 refine ab ?_
 refine ax rfl rfl ?_
 refine aB rfl (bH rfl) ⟨rfl,rfl,trivial⟩ ?_
 refine ap ?_
 refine ae ?_
 show JC _ _ _ _ _
 refine bD rfl (fun hb=>absurd (of_decide_eq_true hb) (by omega)) (fun hb=>?_)
 refine aU ?_
 refine ae ?_
 show JC _ _ _ _ _
 refine ah ?_
 refine cr ?_
 refine di rfl rfl rfl (aR rfl) ⟨rfl,trivial⟩ ?_
 refine di rfl rfl rfl (aQ rfl) ⟨rfl,trivial⟩ ?_
 refine di rfl rfl rfl (aw rfl qN) ⟨rfl,trivial⟩ ?_
 refine na 0 rfl rfl rfl rfl (ak rfl iZ (fun _=>rfl) rfl) ⟨rfl,trivial⟩ ?_
 refine di rfl rfl rfl (EQ rfl rfl Tryz.underlying160) ⟨rfl,trivial⟩ ?_
 refine di rfl rfl rfl (aR rfl) ⟨rfl,trivial⟩ ?_
 refine di rfl rfl rfl (aQ rfl) ⟨rfl,trivial⟩ ?_
 refine di rfl rfl rfl (aw rfl qN) ⟨rfl,trivial⟩ ?_
 refine na 0 rfl rfl rfl rfl (ak rfl iZ (fun _=>rfl) rfl) ⟨rfl,trivial⟩ ?_
 refine di rfl rfl rfl (EK rfl rfl Tryz.underlying160) ⟨rfl,trivial⟩ ?_
 refine di rfl rfl rfl (fH rfl c1) ⟨rfl,rfl,trivial⟩ ?_
 refine di rfl rfl rfl (aR rfl) ⟨rfl,trivial⟩ ?_
 refine sf (by kernel_rfl) pN ?_
 refine aB rfl (bH rfl) ⟨rfl,rfl,trivial⟩ ?_
 refine ap ?_
 refine ae ?_
 show JC _ _ _ _ _
 refine bD rfl (fun hb=>?_) (fun hb=>absurd (of_decide_eq_false hb) (by omega))
 refine ab ?_
 refine ax rfl rfl ?_
 refine ax rfl rfl ?_
 refine bC (Δ:=[_]) (F:=_) (fun _ _ _=>av rfl _) rfl rfl (ao [.tmp 22,.tmp 23] rfl rfl K3 rfl (HE hn)) ⟨rfl,rfl,trivial⟩ fun bc=>?_
 refine ap ?_
 refine iC ?_
 exact aG bc [] 2 trivial rfl
theorem vZ:dx Tryz.prog 9 1 false:=⟨fun w=>by kernel_rfl,fun w=>by kernel_rfl⟩
theorem K8:ag Tryz.prog 119:=ag.of Tryz.func119 (by kernel_rfl) (by kernel_rfl)
theorem Gg:ag Tryz.prog 120:=ag.of Tryz.func120 (by kernel_rfl) (by kernel_rfl)
theorem K5:ag Tryz.prog 153:=ag.of Tryz.func153 (by kernel_rfl) (by kernel_rfl)
theorem As:ag Tryz.prog 154:=ag.of Tryz.func154 (by kernel_rfl) (by kernel_rfl)
theorem DJ:∀w,(zeroValue 162).run Tryz.prog w= .ok (.agg #[.pointer none,.slice none 0 0]) w:=fun w=>by kernel_rfl
theorem GH:∀S w,(A.cells S w (bA (.pointer none) (.slice none 0 0)) (Value.cells (.agg #[.pointer none,.slice none 0 0])).toList):=fun _ _=>⟨[_],_,rfl,⟨rfl,rfl⟩,rfl,rfl⟩
def mP(ss:List ByteArray):Nat→Int×Int→Option Int
 |0,_=>none
 |n+1,y=>if y.1 < (ss.length:Int) then((a8 ss y.1).bind fun s=>(ck ((9223372036854775807:Int) - y.2)).bind fun z=>if z < (s.size:Int) then none else(ck (y.2+(s.size:Int))).bind fun z2=>(ck (y.1+(1:Int))).bind fun z3=>mP ss n (z3,z2)) else some y.2
def kR(ss:List ByteArray)(sep:ByteArray):Nat→Int×List Int→Option (List Int)
 |0,_=>none
 |n+1,y=>if y.1 < (ss.length:Int) then((a8 ss y.1).bind fun s=>if bV (y.2.length+sep.size)∧bV ((y.2++qn sep).length+s.size) then(ck (y.1+(1:Int))).bind fun z3=>kR ss sep n (z3,(y.2++qn sep)++qn s) else none) else some y.2
def sP(k:Nat)(ss:List ByteArray)(sep:ByteArray):Option ByteArray:=
 if sep.size=1∧bV ss.length then
  if(ss.length:Int)=(0:Int) then some .empty
  else if(ss.length:Int)=(1:Int) then a8 ss 0
  else(mP ss k ((0:Int),(ss.length:Int) - 1)).bind fun n=>
   if 0 < n∧n≤281474976710656 then(a8 ss 0).bind fun s=>if bV s.size then(kR (ss.drop 1) sep k ((0:Int),qn s)).bind fun l=>if l=[] then none else some (py l) else none else none
 else none
theorem zA(k:Nat)(ss:List ByteArray)(sep:ByteArray)(r:ByteArray)(h:sP k ss sep=some r):
 bX Tryz.prog 121 [.rep (.slice .str) ss,.eq (.string sep)] [] (fun _:Unit=>(bq [.eq (.string r)],[])):=by
 unfold sP at h
 split at h
 case isFalse=>cases h
 rename_i hc
 obtain⟨hsep,hlen⟩:=hc
 unfold bV at hlen
 replace h:=a9 h
 refine bX.of 75 Tryz.func121 rfl Tryz.ntmps121 rfl fun S w0=>?_
 refine ah ?_
 refine ab ?_
 refine dA rfl ?_
 refine ap ?_
 refine ae ?_
 show JC _ _ _ _ _
 refine ah ?_
 refine ah ?_
 refine ab ?_
 refine ax rfl rfl ?_
 refine aB rfl (mm rfl rfl Tryz.underlying86) ⟨rfl,trivial⟩ ?_
 refine ap ?_
 refine ae ?_
 show JC _ _ _ _ _
 refine aj ?_
 refine ah ?_
 refine ab ?_
 refine aB rfl (eS rfl) ⟨rfl,rfl,trivial⟩ ?_
 refine dc rfl rfl ?_
 refine ap ?_
 refine ae ?_
 show JC _ _ _ _ _
 refine bD rfl (fun hb=>?_) (fun hb=>?_)
 ·
  replace h:=cM (nq hb) h;refine ah ?_;refine ab ?_;refine dA rfl ?_;refine ap ?_;refine ae ?_;show JC _ _ _ _ _;refine aA ?_;refine bf ?_;refine aP ?_;obtain rfl:=Option.some.inj h;exact aG () [_] 0 ⟨rfl,trivial⟩ rfl
 replace h:=bQ (m4 hb) h
 have hne0:=m4 hb
 refine ah ?_
 refine ab ?_
 refine aB rfl (eS rfl) ⟨rfl,rfl,trivial⟩ ?_
 refine dc rfl rfl ?_
 refine ap ?_
 refine ae ?_
 show JC _ _ _ _ _
 refine bD rfl (fun hb=>?_) (fun hb=>?_)
 ·
  replace h:=cM (nq hb) h;have es:a8 ss 0=some r:=by simpa using h
  refine ah ?_;refine ab ?_;refine ax rfl rfl ?_;refine aB rfl (aN (t:=.str) rfl Tryz.underlying86 vZ es) ⟨rfl,rfl,trivial⟩ ?_;refine aB rfl (ar (t:=.str) rfl vZ rfl) ⟨rfl,trivial⟩ ?_;refine dc rfl rfl ?_;refine ap ?_;refine ae ?_;show JC _ _ _ _ _;refine aA ?_;refine bf ?_;refine aP ?_;exact aG () [_] 0 ⟨rfl,trivial⟩ rfl
 replace h:=bQ (m4 hb) h
 have hne1:=m4 hb
 refine aU ?_
 refine aI ?_
 refine ae ?_
 show JC _ _ _ _ _
 refine ah ?_
 refine ab ?_
 refine dA rfl ?_
 refine ap ?_
 refine ae ?_
 show JC _ _ _ _ _
 refine ah ?_
 refine ah ?_
 refine ab ?_
 refine ax rfl rfl ?_
 refine aB rfl (ml rfl rfl Tryz.underlying9) ⟨rfl,trivial⟩ ?_
 refine aB rfl (jK rfl) ⟨rfl,rfl,trivial⟩ ?_
 refine ap ?_
 refine ae ?_
 show JC _ _ _ _ _
 have c1:ck ((ss.length:Int) - 1)=some ((ss.length:Int) - 1):=by unfold ck;rw [if_pos (by omega)]
 have c2:ck ((sep.size:Int) * ((ss.length:Int) - 1))=some ((ss.length:Int) - 1):=by rw [hsep];simpa using c1
 have c3:ck (0+((ss.length:Int) - 1))=some ((ss.length:Int) - 1):=by rw [Int.zero_add];exact c1
 refine bD rfl (fun hb=>?_) (fun hb=>absurd (m4 hb) (by omega))
 refine ah ?_
 refine ah ?_
 refine ab ?_
 refine ax rfl rfl ?_
 refine aB rfl (ml rfl rfl Tryz.underlying9) ⟨rfl,trivial⟩ ?_
 refine ax rfl rfl ?_
 refine aB rfl (mm rfl rfl Tryz.underlying86) ⟨rfl,trivial⟩ ?_
 refine aB rfl (fH rfl c1) ⟨rfl,rfl,trivial⟩ ?_
 refine aB rfl (MR rfl (by omega)) ⟨rfl,rfl,trivial⟩ ?_
 refine aB rfl (pm rfl) ⟨rfl,rfl,trivial⟩ ?_
 refine ap ?_
 refine ae ?_
 show JC _ _ _ _ _
 refine bD rfl (fun hb=>?_) (fun hb=>?_)
 ·
  exfalso;have h1:=nq hb;have q1:(9223372036854775807:Int).tdiv ((ss.length:Int) - 1)=9223372036854775807 / ((ss.length:Int) - 1):=Int.tdiv_eq_ediv_of_nonneg (by omega);have q2:(2:Int)≤9223372036854775807 / ((ss.length:Int) - 1):=Int.le_ediv_of_mul_le (by omega) (by omega);have q3:(9223372036854775807:Int) / ((ss.length:Int) - 1)≤9223372036854775807:=Int.ediv_le_self _ (by omega);rw [q1,qR (z:=9223372036854775807 / ((ss.length:Int) - 1)) (by unfold ck;rw [if_pos (by omega)])] at h1;omega
 refine aU ?_
 refine ae ?_
 show JC _ _ _ _ _
 refine ab ?_
 refine ax rfl rfl ?_
 refine ax rfl rfl ?_
 refine aB rfl (ml rfl rfl Tryz.underlying9) ⟨rfl,trivial⟩ ?_
 refine ax rfl rfl ?_
 refine aB rfl (mm rfl rfl Tryz.underlying86) ⟨rfl,trivial⟩ ?_
 refine aB rfl (fH rfl c1) ⟨rfl,rfl,trivial⟩ ?_
 refine aB rfl (Js rfl c2) ⟨rfl,rfl,trivial⟩ ?_
 refine aB rfl (bj rfl c3) ⟨rfl,rfl,trivial⟩ ?_
 refine dc rfl rfl ?_
 refine ap ?_
 refine ae ?_
 show JC _ _ _ _ _
 rw [Option.bind_assoc] at h
 refine ah ?_
 refine ah ?_
 refine ab ?_
 refine ax rfl rfl ?_
 refine aB rfl (mm rfl rfl Tryz.underlying86) ⟨rfl,trivial⟩ ?_
 refine eG rfl ?_
 refine ap ?_
 refine ae ?_
 show JC _ _ _ _ _
 refine aj ?_
 refine aJ (Z:=Unit) (α:=Int×Int) (fun _ y=>[(0,.rep (.slice .str) ss),(1,.eq (.string sep)),(5,.eq (.int .i64 y.2)),(39,.rep (.slice .str) ss),(40,.eq (.int .i64 (ss.length:Int))),(41,.eq (.int .i64 y.1))]) (fun _ _=>[]) (mP ss) k () ((0:Int),(ss.length:Int) - 1) (fun _=>rfl) h (SE.fin [] ⟨rfl,rfl,rfl,rfl,rfl,rfl,trivial⟩ rfl) (fun n z y h=>?_)
 unfold mP at h
 refine ah ?_
 refine ab ?_
 refine aB rfl (bH rfl) ⟨rfl,rfl,trivial⟩ ?_
 refine ap ?_
 refine ae ?_
 show JC _ _ _ _ _
 refine ah ?_
 refine bD rfl (fun hb=>?_) (fun hb=>?_)
 ·
  replace h:=cM (nq hb) h;refine aU ?_;refine ae ?_;show JC _ _ _ _ _;refine ah ?_;refine aj ?_;refine ah ?_;refine ab ?_;obtain⟨s,es,h⟩:=aa h;refine aB rfl (aN (t:=.str) rfl Tryz.underlying86 vZ es) ⟨rfl,rfl,trivial⟩ ?_;refine aB rfl (ar (t:=.str) rfl vZ rfl) ⟨rfl,trivial⟩ ?_;refine dc rfl rfl ?_;refine ap ?_;refine ae ?_;show JC _ _ _ _ _;refine ah ?_;refine ah ?_;refine ab ?_;refine ax rfl rfl ?_;refine aB rfl (ml rfl rfl Tryz.underlying9) ⟨rfl,trivial⟩ ?_;refine ax rfl rfl ?_;obtain⟨z,ez,h⟩:=aa h;refine aB rfl (fH rfl ez) ⟨rfl,rfl,trivial⟩ ?_;refine aB rfl (jK rfl) ⟨rfl,rfl,trivial⟩ ?_;refine ap ?_;refine ae ?_;show JC _ _ _ _ _;refine bD rfl (fun hb=>?_) (fun hb=>?_)
  ·replace h:=cM (nq hb) h;cases h
  replace h:=bQ (m4 hb) h;refine aU ?_;refine ae ?_;show JC _ _ _ _ _;refine ab ?_;refine ax rfl rfl ?_;refine ax rfl rfl ?_;refine aB rfl (ml rfl rfl Tryz.underlying9) ⟨rfl,trivial⟩ ?_;obtain⟨z2,ez2,h⟩:=aa h;refine aB rfl (bj rfl ez2) ⟨rfl,rfl,trivial⟩ ?_;refine dc rfl rfl ?_;refine ap ?_;refine aI ?_;refine ae ?_;show JC _ _ _ _ _;refine ab ?_;obtain⟨z3,ez3,h⟩:=aa h;refine aB rfl (bj rfl ez3) ⟨rfl,rfl,trivial⟩ ?_;refine ax rfl rfl ?_;refine ap ?_;refine ae ?_;exact iz ((),(z3,z2)) h (SE.fin [] ⟨rfl,rfl,rfl,rfl,rfl,rfl,trivial⟩ rfl)
 replace h:=bQ (m4 hb) h
 refine dF ?_
 refine aM ?_
 refine aM ?_
 refine bR ?_
 refine ae ?_
 show JC _ _ _ _ _
 replace h:((if 0 < y.2∧y.2≤281474976710656 then(a8 ss 0).bind fun s=>if bV s.size then(kR (ss.drop 1) sep k ((0:Int),qn s)).bind fun l=>if l=[] then none else some (py l) else none else none):Option ByteArray).bind some=some r:=h
 obtain⟨y1,y2⟩:=y
 have hy:0 < y2∧y2≤281474976710656:=by
  apply Classical.byContradiction;intro hn;rw [if_neg hn] at h;cases h
 replace h:=cM hy h
 obtain⟨m,rfl⟩:=Int.eq_ofNat_of_zero_le (show 0≤y2 by omega)
 obtain⟨s0,es0,h⟩:=aa h
 have hs0:bV s0.size:=by
  apply Classical.byContradiction;intro hn;rw [if_neg hn] at h;cases h
 replace h:=cM hs0 h
 rw [Option.bind_assoc] at h
 refine ah ?_
 refine ab ?_
 refine aF rfl rfl rfl (bL rfl DJ GH) trivial fun b=>?_
 refine ap ?_
 refine ae ?_
 show JC _ _ _ _ _
 refine ah ?_
 refine ab ?_
 refine ax rfl rfl ?_
 refine bC (Δ:=[_]) (F:=_) (fun _ _ _=>av rfl _) rfl rfl (ao [.tmp 8,.tmp 56] rfl rfl K5 rfl (Eh (b:=b) (n:=m) (by omega) (by omega))) ⟨rfl,rfl,trivial⟩ fun bc=>?_
 refine ap ?_
 refine ae ?_
 show JC _ _ _ _ _
 refine ah ?_
 refine ab ?_
 refine ax rfl rfl ?_
 refine aB rfl (aN (t:=.str) rfl Tryz.underlying86 vZ es0) ⟨rfl,rfl,trivial⟩ ?_
 refine aB rfl (ar (t:=.str) rfl vZ rfl) ⟨rfl,trivial⟩ ?_
 refine bC (Δ:=[_,_]) (F:=_) (fun _ _ _=>av rfl _) rfl rfl (ao [.tmp 8,.tmp 60] rfl rfl As rfl (kS (b:=b) (p:=some ⟨b,0,none⟩) (v:=zB bc) (l:=[]) (s:=s0) (.inr rfl) rfl (by simpa using hs0))) ⟨rfl,rfl,trivial⟩ fun v0=>?_
 refine ap ?_
 refine ae ?_
 show JC _ _ _ _ _
 refine ah ?_
 refine ah ?_
 refine ab ?_
 refine ax rfl rfl ?_
 refine aB rfl (CB (t:=.str) rfl Tryz.underlying86 vZ (by decide) (by omega)) ⟨rfl,rfl,trivial⟩ ?_
 refine aB rfl (mm rfl rfl Tryz.underlying86) ⟨rfl,trivial⟩ ?_
 refine eG rfl ?_
 refine ap ?_
 refine ae ?_
 show JC _ _ _ _ _
 refine aj ?_
 refine aJ (Z:=Value) (α:=Int×List Int) (fun _ y=>[(1,.eq (.string sep)),(8,.eq (bP b)),(63,.rep (.slice .str) (ss.drop 1)),(64,.eq (.int .i64 ((ss.drop 1).length:Int))),(65,.eq (.int .i64 y.1))]) (fun v y=>[.obj b 162 (bA (bP b) v),.sl v 5 (.int .u8) y.2]) (kR (ss.drop 1) sep) k v0 ((0:Int),qn s0) (fun _=>rfl) h (SE.fin [0,1] ⟨rfl,rfl,rfl,rfl,rfl,trivial⟩ rfl) (fun n v y h=>?_)
 unfold kR at h
 refine ah ?_
 refine ab ?_
 refine aB rfl (bH rfl) ⟨rfl,rfl,trivial⟩ ?_
 refine ap ?_
 refine ae ?_
 show JC _ _ _ _ _
 refine ah ?_
 refine bD rfl (fun hb=>?_) (fun hb=>?_)
 ·
  replace h:=cM (nq hb) h;refine aU ?_;refine ae ?_;show JC _ _ _ _ _;refine ah ?_;refine aj ?_;refine ah ?_;refine ab ?_;obtain⟨s,es,h⟩:=aa h;refine aB rfl (aN (t:=.str) rfl Tryz.underlying86 vZ es) ⟨rfl,rfl,trivial⟩ ?_;refine aB rfl (ar (t:=.str) rfl vZ rfl) ⟨rfl,trivial⟩ ?_;refine dc rfl rfl ?_;refine ap ?_;refine ae ?_;show JC _ _ _ _ _
  have hk:bV (y.2.length+sep.size)∧bV ((y.2++qn sep).length+s.size):=by
   apply Classical.byContradiction;intro hn;rw [if_neg hn] at h;cases h
  replace h:=cM hk h;refine uv 1 rfl fun hv=>?_;refine ah ?_;refine ab ?_;refine ax rfl rfl ?_;refine bC (Δ:=[_,_]) (F:=_) (fun _ _ _=>av rfl _) rfl rfl (ao [.tmp 8,.tmp 69] rfl rfl As rfl (kS (b:=b) (p:=some ⟨b,0,none⟩) (s:=sep) (.inr rfl) hv hk.1)) ⟨rfl,rfl,trivial⟩ fun v1=>?_;refine ap ?_;refine ae ?_;show JC _ _ _ _ _;refine uv 1 rfl fun hv1=>?_;refine ab ?_;refine ax rfl rfl ?_;refine bC (Δ:=[_,_]) (F:=_) (fun _ _ _=>av rfl _) rfl rfl (ao [.tmp 8,.tmp 71] rfl rfl As rfl (kS (b:=b) (p:=some ⟨b,0,none⟩) (s:=s) (.inr rfl) hv1 hk.2)) ⟨rfl,rfl,trivial⟩ fun v2=>?_;refine ap ?_;refine aI ?_;refine ae ?_;show JC _ _ _ _ _;refine ab ?_;obtain⟨z3,ez3,h⟩:=aa h;refine aB rfl (bj rfl ez3) ⟨rfl,rfl,trivial⟩ ?_;refine ax rfl rfl ?_;refine ap ?_;refine ae ?_;exact iz (v2,(z3,(y.2++qn sep)++qn s)) h (SE.fin [0,1] ⟨rfl,rfl,rfl,rfl,rfl,trivial⟩ rfl)
 replace h:=bQ (m4 hb) h
 refine dF ?_
 refine aM ?_
 refine aM ?_
 refine bR ?_
 refine ae ?_
 show JC _ _ _ _ _
 replace h:(if y.2=[] then none else some (py y.2):Option ByteArray).bind some=some r:=h
 have hy2:y.2≠[]:=by
  intro hn;rw [if_pos hn] at h;cases h
 rw [if_neg hy2] at h
 obtain rfl:=Option.some.inj h
 refine ah ?_
 refine ab ?_
 refine bC (Δ:=[_,_]) (F:=_) (fun _ _ _=>av rfl _) rfl rfl (ao [.tmp 8] rfl rfl Gg rfl (uY (b:=b) (fun hn=>absurd hn hy2))) ⟨rfl,trivial⟩ fun _=>?_
 refine dc rfl rfl ?_
 refine ap ?_
 refine ae ?_
 show JC _ _ _ _ _
 refine aA ?_
 exact aG () [_] 0 ⟨rfl,trivial⟩ rfl
end Go.Proofs.YtcnpijmfgfnpiaaGreatDoor
