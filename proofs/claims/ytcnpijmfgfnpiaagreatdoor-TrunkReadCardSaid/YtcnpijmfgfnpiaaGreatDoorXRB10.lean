import Derived.Test.YtcnpijmfgfnpiaaGreatDoorXRB5
import Derived.Test.YtcnpijmfgfnpiaaGreatDoorProg
import Derived.Stop.Asserts
set_option linter.unusedSimpArgs false
set_option linter.unusedVariables false
set_option maxRecDepth 20000
set_option maxHeartbeats 4000000
namespace Go.Proofs.YtcnpijmfgfnpiaaGreatDoor
open K Go Go.Proofs Go.Extern
theorem zx:dj Tryz.prog 159 1 false:=⟨fun w=>by kernel_rfl,fun w=>by kernel_rfl⟩
theorem i9:dj Tryz.prog 160 1 false:=⟨fun w=>by kernel_rfl,fun w=>by kernel_rfl⟩
theorem KO:aQ Tryz.prog 162 0 0:=aQ.of (by kernel_rfl)
theorem qM:aQ Tryz.prog 162 1 1:=aQ.of (by kernel_rfl)
theorem zz:lW Tryz.prog 160 5 1 1:=.of (z:=(.int .u8 (0))) Tryz.underlying160 (by kernel_rfl) rfl rfl rfl
theorem KZ:fi Tryz.prog 186 Extern.AbiNoEscape.same:=.of Tryz.func186 (by kernel_rfl) (by kernel_rfl) (by kernel_rfl) (by kernel_rfl)
theorem Av:ag Tryz.prog 151:=ag.of Tryz.func151 (by kernel_rfl) (by kernel_rfl)
theorem K1:ag Tryz.prog 152:=ag.of Tryz.func152 (by kernel_rfl) (by kernel_rfl)
@[reducible] def bA(p v:Value):A:=.agg (.pair (.eq p) (.eq v))
abbrev bP(b:Nat):Value:=.pointer (some ⟨b,0,none⟩)
theorem tY{p:Option Addr}:Ns Tryz.prog (binOp .eql 159 (.pointer p) (.pointer none)):=by
 cases p with
 |none=>exact nk (by kernel_rfl)
 |some p=>exact nk (by kernel_rfl)
theorem BX{p:Option Addr}{x y:Operand}(w:World):(do eqGuard .eql 159 x y (.pointer p) (.pointer none);binOp .eql 159 (.pointer p) (.pointer none):Sem Value).run Tryz.prog w= .ok (.bool p.isNone) w:=by
 cases p <;> kernel_rfl
theorem zZ{p:Addr}:Ns Tryz.prog (binOp .neq 159 (.pointer (some p)) (.pointer (some p))):=by
 refine ai (s:=Op.equal 159 (.pointer (some p)) (.pointer (some p))) ?_ fun _=>bf;show Ns Tryz.prog (Op.equalIn (9999+1) 159 (.pointer (some p)) (.pointer (some p)));unfold Op.equalIn;refine cr Tryz.underlying159 (ai cz fun n=>rJ ?_ (rJ bf (ai eQ fun _=>bf)));unfold sameAddr;simp only [beq_self_eq_true,if_true];exact bf
theorem Kw:∃j,Tryz.prog.info? 162=some j∧j.size≠0:=by
 obtain⟨j,h1,h2⟩:=Option.map_eq_some_iff.1 (show(Tryz.prog.info? 162).map (·.size)=some 2 by kernel_rfl);exact⟨j,h1,by omega⟩
theorem mR{b:Nat}{p:Option Addr}{v:Value}(hp:p=none∨p=some ⟨b,0,none⟩)(hv:bh v=true):bW Tryz.prog 151 [.eq (bP b)] [.obj b 162 (bA (.pointer p) v)] (fun _:Unit=>(bp [],[.obj b 162 (bA (bP b) v)])):=by
 obtain⟨j162,inf162_eq,inf162_sz⟩:=Kw;refine bW.of 20 Tryz.func151 rfl Tryz.ntmps151 rfl fun S w0=>?_;refine ah ?_;refine ab ?_;refine ax rfl rfl ?_;refine aB rfl (aR rfl) ⟨rfl,trivial⟩ ?_;refine aB rfl (aw rfl KO) ⟨rfl,trivial⟩ ?_;refine bN rfl rfl rfl (an rfl zx (fun _=>rfl) rfl) ⟨rfl,trivial⟩ ?_;refine aB rfl (gf rfl BX tY) ⟨rfl,rfl,trivial⟩ ?_;refine ar ?_;refine ae ?_;show JC _ _ _ _ _;refine bm rfl (fun hb=>?_) (fun hb=>?_)
 ·refine ab ?_;refine ax rfl rfl ?_;refine ax rfl rfl ?_;refine bN rfl rfl rfl (zP rfl Tryz.underlying159 Tryz.underlying179 inf162_eq inf162_sz rfl) ⟨rfl,trivial⟩ ?_;refine aB rfl (EP KZ [.tmp 9] [bP b] rfl rfl rfl (fun _=>rfl) bf) ⟨rfl,trivial⟩ ?_;refine bN rfl rfl rfl (wj rfl Tryz.underlying179 Tryz.underlying159 inf162_eq (by kernel_rfl)) ⟨rfl,trivial⟩ ?_;refine aB rfl (aR rfl) ⟨rfl,trivial⟩ ?_;refine aB rfl (aw rfl KO) ⟨rfl,trivial⟩ ?_;refine be rfl rfl (a8 rfl zx rfl rfl rfl) ⟨rfl,rfl,trivial⟩ ?_;refine ar ?_;refine ix ?_;exact aF () [] 1 trivial rfl
 ·have hp':p=some ⟨b,0,none⟩:=by
   rcases hp with rfl |rfl
   ·cases hb
   ·rfl
  subst hp';refine ah ?_;refine ab ?_;refine ax rfl rfl ?_;refine aB rfl (aR rfl) ⟨rfl,trivial⟩ ?_;refine aB rfl (aw rfl KO) ⟨rfl,trivial⟩ ?_;refine bN rfl rfl rfl (an rfl zx (fun _=>rfl) rfl) ⟨rfl,trivial⟩ ?_;refine ax rfl rfl ?_;refine aB rfl (EH rfl Tryz.underlying159 inf162_eq zZ) ⟨rfl,rfl,trivial⟩ ?_;refine ar ?_;refine ae ?_;show JC _ _ _ _ _;refine bm rfl (fun hb=>(by cases hb)) (fun hb=>?_);refine aS ?_;refine ix ?_;exact aF () [] 1 trivial rfl
theorem uF{v:Value}{l:List Int}{r:Int}(h0:0≤r)(h1:r≤127)(hl:bO (l.length+1)):bW Tryz.prog 152 [.eq v,.eq (.int .i32 r)] [.sl v 5 (.int .u8) l] (fun v':Value=>(bp [.eq v'],[.sl v' 5 (.int .u8) (l++[r])])):=by
 refine bW.of 16 Tryz.func152 rfl Tryz.ntmps152 rfl fun S w0=>?_;have w32:IntKind.u32.wrap r=r:=by simp [IntKind.wrap,IntKind.bits,IntKind.signed];omega
 have w8:IntKind.u8.wrap r=r:=by simp [IntKind.wrap,IntKind.bits,IntKind.signed];omega
 refine ah ?_;refine ab ?_;refine dn rfl ?_;refine ar ?_;refine ae ?_;show JC _ _ _ _ _;refine ah ?_;refine ah ?_;refine ab ?_;refine ax rfl rfl ?_;refine aB rfl (nI rfl Tryz.underlying21 Tryz.underlying201) ⟨rfl,trivial⟩ ?_;rw [w32];refine aB rfl (sA rfl) ⟨rfl,rfl,trivial⟩ ?_;refine ar ?_;refine ae ?_;show JC _ _ _ _ _;refine bm rfl (fun hb=>?_) (fun hb=>absurd h1 (by simpa using hb));refine ah ?_;refine ab ?_;refine ax rfl rfl ?_;refine ax rfl rfl ?_;refine aB rfl (nI rfl Tryz.underlying21 Tryz.underlying5) ⟨rfl,trivial⟩ ?_;rw [w8];refine aB rfl (bB (t:=(.int .u8)) [(.tmp 10,.eq (.int .u8 r))] [r] rfl rfl zz (.cons rfl .int .nil) rfl rfl) ⟨rfl,trivial⟩ ?_;refine dI rfl rfl rfl (bY rfl rfl zz (by simpa using hl)) ⟨rfl,rfl,trivial⟩ fun v'=>?_;refine cU rfl rfl ?_;refine ar ?_;refine ae ?_;show JC _ _ _ _ _;refine aA ?_;refine aM ?_;exact aF v' [_] 1 ⟨rfl,trivial⟩ rfl
theorem vX{b:Nat}{p:Option Addr}{v:Value}{l:List Int}{r:Int}(hp:p=none∨p=some ⟨b,0,none⟩)(hv:bh v=true)(h0:0≤r)(h1:r≤127)(hl:bO (l.length+1)):
 bW Tryz.prog 119 [.eq (bP b),.eq (.int .i32 r)] [.obj b 162 (bA (.pointer p) v),.sl v 5 (.int .u8) l]
  (fun v':Value=>(bp [.eq (.int .i64 1),.eq .nilIface],[.obj b 162 (bA (bP b) v'),.sl v' 5 (.int .u8) (l++[r])])):=by
 refine bW.of 30 Tryz.func119 rfl Tryz.ntmps119 rfl fun S w0=>?_
 refine ah ?_
 refine ab ?_
 refine dn rfl ?_
 refine dn rfl ?_
 refine ar ?_
 refine ae ?_
 show JC _ _ _ _ _
 refine ah ?_
 refine ab ?_
 refine ax rfl rfl ?_
 refine bN rfl rfl rfl (ap [.tmp 7] rfl rfl Av rfl (mR hp hv)) ⟨rfl,trivial⟩ ?_
 refine ar ?_
 refine ae ?_
 show JC _ _ _ _ _
 refine ah ?_
 refine ab ?_
 refine ax rfl rfl ?_
 refine aB rfl (aR rfl) ⟨rfl,trivial⟩ ?_
 refine aB rfl (aw rfl qM) ⟨rfl,trivial⟩ ?_
 refine bN rfl rfl rfl (an rfl i9 (fun _=>rfl) rfl) ⟨rfl,trivial⟩ ?_
 refine bv 1 rfl ?_
 refine bN rfl rfl rfl (cN rfl rfl Tryz.underlying160) ⟨rfl,trivial⟩ ?_
 refine cU rfl rfl ?_
 refine ar ?_
 refine ae ?_
 show JC _ _ _ _ _
 refine ah ?_
 refine ab ?_
 refine ax rfl rfl ?_
 refine ax rfl rfl ?_
 refine aB rfl (aR rfl) ⟨rfl,trivial⟩ ?_
 refine aB rfl (aw rfl qM) ⟨rfl,trivial⟩ ?_
 refine bv 1 rfl ?_
 refine bN rfl rfl rfl (an rfl i9 (fun _=>rfl) rfl) ⟨rfl,trivial⟩ ?_
 refine ax rfl rfl ?_
 refine bv 1 rfl ?_
 refine dI rfl rfl rfl (ap [.tmp 18,.tmp 19] rfl rfl K1 rfl (uF h0 h1 hl)) ⟨rfl,rfl,trivial⟩ fun v'=>?_
 refine fM fun hv'=>?_
 refine aB rfl (aR rfl) ⟨rfl,trivial⟩ ?_
 refine aB rfl (aw rfl qM) ⟨rfl,trivial⟩ ?_
 refine bv 1 rfl ?_
 refine be rfl rfl (a8 rfl i9 hv' rfl rfl) ⟨rfl,rfl,trivial⟩ ?_
 refine ar ?_
 refine ae ?_
 show JC _ _ _ _ _
 refine ah ?_
 refine ab ?_
 refine ax rfl rfl ?_
 refine aB rfl (aR rfl) ⟨rfl,trivial⟩ ?_
 refine aB rfl (aw rfl qM) ⟨rfl,trivial⟩ ?_
 refine bN rfl rfl rfl (an rfl i9 (fun _=>rfl) rfl) ⟨rfl,trivial⟩ ?_
 refine bv 1 rfl ?_
 refine bN rfl rfl rfl (cN rfl rfl Tryz.underlying160) ⟨rfl,trivial⟩ ?_
 refine ax rfl rfl ?_
 have hck:ck (((l++[r]).length:Int) - (l.length:Int))=some 1:=by
  have:(((l++[r]).length:Int) - (l.length:Int))=1:=by simp;omega
  rw [this];rfl
 refine aB rfl (eJ rfl hck) ⟨rfl,rfl,trivial⟩ ?_
 refine cU rfl rfl ?_
 refine dn rfl ?_
 refine ar ?_
 refine ae ?_
 show JC _ _ _ _ _
 refine aA ?_
 refine bz (SE.fin (Γ':=[(4,_),(5,_)]) [1,0] ⟨rfl,rfl,trivial⟩ rfl) ?_
 exact aF v' [_,_] 2 ⟨rfl,rfl,trivial⟩ rfl
theorem Qn:Tryz.prog.cellsOf 5=1:=by kernel_rfl
theorem pJ:Tryz.prog.follows .mixedOrders=true:=by kernel_rfl
theorem va{b:Nat}{p v:Value}{l:List Int}(hl:l=[]→v= .slice none 0 0):
 bW Tryz.prog 120 [.eq (bP b)] [.obj b 162 (bA p v),.sl v 5 (.int .u8) l] (fun _:Unit=>(bp [.eq (.string (fY l))],[])):=by
 refine bW.of 14 Tryz.func120 rfl Tryz.ntmps120 rfl fun S w0=>?_
 refine ah ?_
 refine ab ?_
 refine dn rfl ?_
 refine ar ?_
 refine ae ?_
 show JC _ _ _ _ _
 refine ah ?_
 refine cu ?_
 refine cY rfl rfl rfl (aU rfl) ⟨rfl,trivial⟩ ?_
 refine cY rfl rfl rfl (aR rfl) ⟨rfl,trivial⟩ ?_
 refine cY rfl rfl rfl (aw rfl qM) ⟨rfl,trivial⟩ ?_
 refine nb 0 rfl rfl rfl rfl (an rfl i9 (fun _=>rfl) rfl) ⟨rfl,trivial⟩ ?_
 refine nb 1 rfl rfl rfl rfl (xT rfl rfl hl) ⟨rfl,trivial⟩ ?_
 refine cY rfl rfl rfl (aU rfl) ⟨rfl,trivial⟩ ?_
 refine cY rfl rfl rfl (aR rfl) ⟨rfl,trivial⟩ ?_
 refine cY rfl rfl rfl (aw rfl qM) ⟨rfl,trivial⟩ ?_
 refine nb 0 rfl rfl rfl rfl (an rfl i9 (fun _=>rfl) rfl) ⟨rfl,trivial⟩ ?_
 refine nb 1 rfl rfl rfl rfl (cN rfl rfl Tryz.underlying160) ⟨rfl,trivial⟩ ?_
 refine sj (by kernel_rfl) pJ ?_
 refine bv 1 rfl ?_
 refine bH (Δ:=[_]) (F:=_) (fun _ _ _=>av rfl _) rfl rfl (tO rfl rfl Tryz.underlying213 Qn hl) ⟨rfl,rfl,trivial⟩ fun _=>?_
 refine cU rfl rfl ?_
 refine ar ?_
 refine ae ?_
 show JC _ _ _ _ _
 refine aA ?_
 exact aF () [_] 0 ⟨rfl,trivial⟩ rfl
theorem Pz:(Tryz.prog.info? 5).bind (·.zero)=some (.int .u8 0):=by kernel_rfl
theorem kT{b:Nat}{p:Option Addr}{v:Value}{l:List Int}{s:ByteArray}(hp:p=none∨p=some ⟨b,0,none⟩)(hv:bh v=true)(hl:bO (l.length+s.size)):
 bW Tryz.prog 154 [.eq (bP b),.eq (.string s)] [.obj b 162 (bA (.pointer p) v),.sl v 5 (.int .u8) l]
  (fun v':Value=>(bp [.eq (.int .i64 s.size),.eq .nilIface],[.obj b 162 (bA (bP b) v'),.sl v' 5 (.int .u8) (l++iV s)])):=by
 refine bW.of 19 Tryz.func154 rfl Tryz.ntmps154 rfl fun S w0=>?_
 refine ah ?_
 refine ab ?_
 refine dn rfl ?_
 refine dn rfl ?_
 refine ar ?_
 refine ae ?_
 show JC _ _ _ _ _
 refine ah ?_
 refine ab ?_
 refine ax rfl rfl ?_
 refine bN rfl rfl rfl (ap [.tmp 6] rfl rfl Av rfl (mR hp hv)) ⟨rfl,trivial⟩ ?_
 refine ar ?_
 refine ae ?_
 show JC _ _ _ _ _
 refine ah ?_
 refine ab ?_
 refine ax rfl rfl ?_
 refine ax rfl rfl ?_
 refine aB rfl (aR rfl) ⟨rfl,trivial⟩ ?_
 refine aB rfl (aw rfl qM) ⟨rfl,trivial⟩ ?_
 refine bN rfl rfl rfl (an rfl i9 (fun _=>rfl) rfl) ⟨rfl,trivial⟩ ?_
 refine ax rfl rfl ?_
 refine bv 1 rfl ?_
 refine dI rfl rfl rfl (yb rfl rfl zz Tryz.underlying9 Pz (by decide) hl) ⟨rfl,rfl,trivial⟩ fun v'=>?_
 refine fM fun hv'=>?_
 refine aB rfl (aR rfl) ⟨rfl,trivial⟩ ?_
 refine aB rfl (aw rfl qM) ⟨rfl,trivial⟩ ?_
 refine bv 1 rfl ?_
 refine be rfl rfl (a8 rfl i9 hv' rfl rfl) ⟨rfl,rfl,trivial⟩ ?_
 refine ar ?_
 refine ae ?_
 show JC _ _ _ _ _
 refine ah ?_
 refine ab ?_
 refine ax rfl rfl ?_
 refine aB rfl (ml rfl rfl Tryz.underlying9) ⟨rfl,trivial⟩ ?_
 refine cU rfl rfl ?_
 refine dn rfl ?_
 refine ar ?_
 refine ae ?_
 show JC _ _ _ _ _
 refine aA ?_
 exact aF v' [_,_] 2 ⟨rfl,rfl,trivial⟩ rfl
theorem KX:fi Tryz.prog 207 (Extern.BytealgMakeNoZero.makeNoZero #[3] #[160]):=.of Tryz.func207 (by kernel_rfl) (by kernel_rfl) (by kernel_rfl) (by kernel_rfl)
theorem KY:ag Tryz.prog 188:=ag.of Tryz.func188 (by kernel_rfl) (by kernel_rfl)
def PD:Value→List D
 | .slice (some ⟨b,0,none⟩) m c=>[.sl (.slice (some ⟨b,0,none⟩) 0 c) 5 (.int .u8) []]
 |_=>[Gs]
theorem JU{v:Value}(h:∀d∈PD v,∃S w,d.holds S w):∃b m c,v= .slice (some ⟨b,0,none⟩) m c:=by
 unfold PD at h;split at h
 ·exact⟨_,_,_,rfl⟩
 ·obtain⟨S,w,hb⟩:=h Gs (by simp);exact absurd hb yN
theorem MK:dj Tryz.prog 5 1 false:=⟨fun w=>by kernel_rfl,fun w=>by kernel_rfl⟩
theorem Ef{b cap:Nat}:sliced (some ⟨b,0,none⟩) 0 (Int.toNat 0) cap 1= .slice (some ⟨b,0,none⟩) 0 cap:=AN
abbrev zB(bc:Nat×Nat):Value:=.slice (some ⟨bc.1,0,none⟩) 0 bc.2
theorem Hv{b n:Nat}{p:Value}(hn:n≤281474976710656):
 bW Tryz.prog 188 [.eq (bP b),.eq (.int .i64 n)] [.obj b 162 (bA p (.slice none 0 0))] (fun bc:Nat×Nat=>(bp [],[.obj b 162 (bA p (zB bc)),.sl (zB bc) 5 (.int .u8) []])):=by
 refine bW.of 30 Tryz.func188 rfl Tryz.ntmps188 rfl fun S w0=>?_
 have c1:ck (2 * ((0:Nat):Int))=some 0:=rfl
 have c2:ck (0+(n:Int))=some (n:Int):=by rw [Int.zero_add];unfold ck;rw [if_pos (by omega)]
 refine ah ?_
 refine j8 ?_
 refine aJ rfl rfl rfl (aU rfl) ⟨rfl,trivial⟩ ?_
 refine aJ rfl rfl rfl (aR rfl) ⟨rfl,trivial⟩ ?_
 refine aJ rfl rfl rfl (aw rfl qM) ⟨rfl,trivial⟩ ?_
 refine eF 0 rfl rfl rfl rfl (an rfl i9 (fun _=>rfl) rfl) ⟨rfl,trivial⟩ ?_
 refine aJ rfl rfl rfl (ER rfl rfl Tryz.underlying160) ⟨rfl,trivial⟩ ?_
 refine aJ rfl rfl rfl (Jm rfl c1) ⟨rfl,rfl,trivial⟩ ?_
 refine aJ rfl rfl rfl (aU rfl) ⟨rfl,trivial⟩ ?_
 refine aJ rfl rfl rfl (bi rfl c2) ⟨rfl,rfl,trivial⟩ ?_
 refine By PD (fun _=>rfl) rfl rfl rfl (EG KX rfl rfl Tryz.underlying160 hn) ⟨rfl,trivial⟩ ?_
 refine aJ rfl rfl rfl (aU rfl) ⟨rfl,trivial⟩ ?_
 refine aJ rfl rfl rfl (aR rfl) ⟨rfl,trivial⟩ ?_
 refine aJ rfl rfl rfl (aw rfl qM) ⟨rfl,trivial⟩ ?_
 refine eF 0 rfl rfl rfl rfl (an rfl i9 (fun _=>rfl) rfl) ⟨rfl,trivial⟩ ?_
 refine aJ rfl rfl rfl (EL rfl rfl Tryz.underlying160) ⟨rfl,trivial⟩ ?_
 refine om 14 [true,true,true,true,true,true,true,true,true,true,true,true,true,true] [19,4] [] [] rfl (by kernel_rfl) (by kernel_rfl) (by kernel_rfl) pJ (fun vs hv hB=>?_)
 obtain⟨u0,vs1,rfl,hv1⟩:=ak hv
 obtain⟨u1,vs2,rfl,hv2⟩:=ak hv1
 obtain⟨u2,vs3,rfl,hv3⟩:=ak hv2
 obtain⟨u3,vs4,rfl,hv4⟩:=ak hv3
 obtain⟨u4,vs5,rfl,hv5⟩:=ak hv4
 obtain⟨u5,vs6,rfl,hv6⟩:=ak hv5
 obtain⟨u6,vs7,rfl,hv7⟩:=ak hv6
 obtain⟨u7,vs8,rfl,hv8⟩:=ak hv7
 obtain⟨u8,vs9,rfl,hv9⟩:=ak hv8
 obtain⟨u9,vs10,rfl,hv10⟩:=ak hv9
 obtain⟨u10,vs11,rfl,hv11⟩:=ak hv10
 obtain⟨u11,vs12,rfl,hv12⟩:=ak hv11
 obtain⟨u12,vs13,rfl,hv13⟩:=ak hv12
 obtain⟨u13,vs14,rfl,hv14⟩:=ak hv13
 obtain rfl:=lH hv14
 obtain⟨g,m,q,rfl⟩:=JU hB.2.2.2.2.2.2.2.2.1
 refine⟨[0,1],[.obj b 162 (bA p (.slice none 0 0)),.sl (zB (g,q)) 5 (.int .u8) []],by kernel_rfl,by decide,?_⟩
 refine m8 rfl rfl rfl rfl (tP rfl Tryz.underlying160 MK (Int.le_refl 0) (Int.natCast_nonneg _)) ⟨rfl,rfl,trivial⟩ (by kernel_rfl) ?_
 rw [Ef]
 refine m8 rfl rfl rfl rfl (hC rfl) ⟨rfl,trivial⟩ (by kernel_rfl) ?_
 refine sf ?_
 refine bz (SE.fin (Γ':=[(0,.eq (bP b)),(4,.eq (zB (g,q)))]) (Δ':=[.obj b 162 (bA p (.slice none 0 0)),.sl (zB (g,q)) 5 (.int .u8) []]) [0,1] ⟨rfl,rfl,trivial⟩ rfl) ?_
 refine ae ?_
 show JC _ _ _ _ _
 refine ah ?_
 refine ab ?_
 refine ax rfl rfl ?_
 refine ax rfl rfl ?_
 refine aB rfl (aR rfl) ⟨rfl,trivial⟩ ?_
 refine aB rfl (aw rfl qM) ⟨rfl,trivial⟩ ?_
 refine bN rfl rfl rfl (an rfl i9 (fun _=>rfl) rfl) ⟨rfl,trivial⟩ ?_
 refine aB rfl (HI rfl rfl Tryz.underlying160 MK) ⟨rfl,rfl,trivial⟩ ?_
 refine ar ?_
 refine ae ?_
 show JC _ _ _ _ _
 refine ab ?_
 refine ax rfl rfl ?_
 refine ax rfl rfl ?_
 refine aB rfl (aR rfl) ⟨rfl,trivial⟩ ?_
 refine aB rfl (aw rfl qM) ⟨rfl,trivial⟩ ?_
 refine be rfl rfl (a8 rfl i9 rfl rfl rfl) ⟨rfl,rfl,trivial⟩ ?_
 refine ar ?_
 refine ix ?_
 exact aF (g,q) [] 2 trivial rfl
end Go.Proofs.YtcnpijmfgfnpiaaGreatDoor
set_option linter.unusedVariables false
set_option maxRecDepth 20000
set_option maxHeartbeats 4000000
namespace Go.Proofs.YtcnpijmfgfnpiaaGreatDoor
open K Go Go.Proofs Go.Extern
theorem Ej{b n:Nat}(h0:0 < n)(hn:n≤281474976710656):
 bW Tryz.prog 153 [.eq (bP b),.eq (.int .i64 n)] [.obj b 162 (bA (.pointer none) (.slice none 0 0))] (fun bc:Nat×Nat=>(bp [],[.obj b 162 (bA (bP b) (zB bc)),.sl (zB bc) 5 (.int .u8) []])):=by
 refine bW.of 25 Tryz.func153 rfl Tryz.ntmps153 rfl fun S w0=>?_
 have c1:ck (((0:Nat):Int) - ((0:Nat):Int))=some 0:=rfl
 refine ah ?_
 refine ab ?_
 refine ax rfl rfl ?_
 refine bN rfl rfl rfl (ap [.tmp 4] rfl rfl Av rfl (mR (.inl rfl) rfl)) ⟨rfl,trivial⟩ ?_
 refine ar ?_
 refine ae ?_
 show JC _ _ _ _ _
 refine ah ?_
 refine ah ?_
 refine ab ?_
 refine ax rfl rfl ?_
 refine aB rfl (bG rfl) ⟨rfl,rfl,trivial⟩ ?_
 refine ar ?_
 refine ae ?_
 show JC _ _ _ _ _
 refine bm rfl (fun hb=>absurd (of_decide_eq_true hb) (by omega)) (fun hb=>?_)
 refine aS ?_
 refine ae ?_
 show JC _ _ _ _ _
 refine ah ?_
 refine cu ?_
 refine cY rfl rfl rfl (aU rfl) ⟨rfl,trivial⟩ ?_
 refine cY rfl rfl rfl (aR rfl) ⟨rfl,trivial⟩ ?_
 refine cY rfl rfl rfl (aw rfl qM) ⟨rfl,trivial⟩ ?_
 refine nb 0 rfl rfl rfl rfl (an rfl i9 (fun _=>rfl) rfl) ⟨rfl,trivial⟩ ?_
 refine cY rfl rfl rfl (ER rfl rfl Tryz.underlying160) ⟨rfl,trivial⟩ ?_
 refine cY rfl rfl rfl (aU rfl) ⟨rfl,trivial⟩ ?_
 refine cY rfl rfl rfl (aR rfl) ⟨rfl,trivial⟩ ?_
 refine cY rfl rfl rfl (aw rfl qM) ⟨rfl,trivial⟩ ?_
 refine nb 0 rfl rfl rfl rfl (an rfl i9 (fun _=>rfl) rfl) ⟨rfl,trivial⟩ ?_
 refine cY rfl rfl rfl (EL rfl rfl Tryz.underlying160) ⟨rfl,trivial⟩ ?_
 refine cY rfl rfl rfl (eJ rfl c1) ⟨rfl,rfl,trivial⟩ ?_
 refine cY rfl rfl rfl (aU rfl) ⟨rfl,trivial⟩ ?_
 refine sj (by kernel_rfl) pJ ?_
 refine aB rfl (bG rfl) ⟨rfl,rfl,trivial⟩ ?_
 refine ar ?_
 refine ae ?_
 show JC _ _ _ _ _
 refine bm rfl (fun hb=>?_) (fun hb=>absurd (of_decide_eq_false hb) (by omega))
 refine ab ?_
 refine ax rfl rfl ?_
 refine ax rfl rfl ?_
 refine bH (Δ:=[_]) (F:=_) (fun _ _ _=>av rfl _) rfl rfl (ap [.tmp 22,.tmp 23] rfl rfl KY rfl (Hv hn)) ⟨rfl,rfl,trivial⟩ fun bc=>?_
 refine ar ?_
 refine ix ?_
 exact aF bc [] 2 trivial rfl
theorem vW:dj Tryz.prog 9 1 false:=⟨fun w=>by kernel_rfl,fun w=>by kernel_rfl⟩
theorem K3:ag Tryz.prog 119:=ag.of Tryz.func119 (by kernel_rfl) (by kernel_rfl)
theorem F9:ag Tryz.prog 120:=ag.of Tryz.func120 (by kernel_rfl) (by kernel_rfl)
theorem K0:ag Tryz.prog 153:=ag.of Tryz.func153 (by kernel_rfl) (by kernel_rfl)
theorem Au:ag Tryz.prog 154:=ag.of Tryz.func154 (by kernel_rfl) (by kernel_rfl)
theorem DJ:∀w,(zeroValue 162).run Tryz.prog w= .ok (.agg #[.pointer none,.slice none 0 0]) w:=fun w=>by kernel_rfl
theorem GA:∀S w,(A.cells S w (bA (.pointer none) (.slice none 0 0)) (Value.cells (.agg #[.pointer none,.slice none 0 0])).toList):=fun _ _=>⟨[_],_,rfl,⟨rfl,rfl⟩,rfl,rfl⟩
def iK(ss:List ByteArray):Nat→Int×Int→Option Int
 |0,_=>none
 |n+1,y=>if y.1 < (ss.length:Int) then((bb ss y.1).bind fun s=>(ck ((9223372036854775807:Int) - y.2)).bind fun z=>if z < (s.size:Int) then none else(ck (y.2+(s.size:Int))).bind fun z2=>(ck (y.1+(1:Int))).bind fun z3=>iK ss n (z3,z2)) else some y.2
def gY(ss:List ByteArray)(sep:ByteArray):Nat→Int×List Int→Option (List Int)
 |0,_=>none
 |n+1,y=>if y.1 < (ss.length:Int) then((bb ss y.1).bind fun s=>if bO (y.2.length+sep.size)∧bO ((y.2++iV sep).length+s.size) then(ck (y.1+(1:Int))).bind fun z3=>gY ss sep n (z3,(y.2++iV sep)++iV s) else none) else some y.2
def ox(k:Nat)(ss:List ByteArray)(sep:ByteArray):Option ByteArray:=
 if sep.size=1∧bO ss.length then
  if(ss.length:Int)=(0:Int) then some .empty
  else if(ss.length:Int)=(1:Int) then bb ss 0
  else(iK ss k ((0:Int),(ss.length:Int) - 1)).bind fun n=>
   if 0 < n∧n≤281474976710656 then(bb ss 0).bind fun s=>if bO s.size then(gY (ss.drop 1) sep k ((0:Int),iV s)).bind fun l=>if l=[] then none else some (fY l) else none else none
 else none
theorem zA(k:Nat)(ss:List ByteArray)(sep:ByteArray)(r:ByteArray)(h:ox k ss sep=some r):
 bW Tryz.prog 121 [.rep (.slice .str) ss,.eq (.string sep)] [] (fun _:Unit=>(bp [.eq (.string r)],[])):=by
 unfold ox at h
 split at h
 case isFalse=>cases h
 rename_i hc
 obtain⟨hsep,hlen⟩:=hc
 unfold bO at hlen
 replace h:=a9 h
 refine bW.of 75 Tryz.func121 rfl Tryz.ntmps121 rfl fun S w0=>?_
 refine ah ?_
 refine ab ?_
 refine dn rfl ?_
 refine ar ?_
 refine ae ?_
 show JC _ _ _ _ _
 refine ah ?_
 refine ah ?_
 refine ab ?_
 refine ax rfl rfl ?_
 refine aB rfl (mm rfl rfl Tryz.underlying86) ⟨rfl,trivial⟩ ?_
 refine ar ?_
 refine ae ?_
 show JC _ _ _ _ _
 refine aj ?_
 refine ah ?_
 refine ab ?_
 refine aB rfl (dS rfl) ⟨rfl,rfl,trivial⟩ ?_
 refine cU rfl rfl ?_
 refine ar ?_
 refine ae ?_
 show JC _ _ _ _ _
 refine bm rfl (fun hb=>?_) (fun hb=>?_)
 ·
  replace h:=cC (nr hb) h;refine ah ?_;refine ab ?_;refine dn rfl ?_;refine ar ?_;refine ae ?_;show JC _ _ _ _ _;refine aA ?_;refine aZ ?_;refine aM ?_;obtain rfl:=Option.some.inj h;exact aF () [_] 0 ⟨rfl,trivial⟩ rfl
 replace h:=bL (m6 hb) h
 have hne0:=m6 hb
 refine ah ?_
 refine ab ?_
 refine aB rfl (dS rfl) ⟨rfl,rfl,trivial⟩ ?_
 refine cU rfl rfl ?_
 refine ar ?_
 refine ae ?_
 show JC _ _ _ _ _
 refine bm rfl (fun hb=>?_) (fun hb=>?_)
 ·
  replace h:=cC (nr hb) h;have es:bb ss 0=some r:=by simpa using h
  refine ah ?_;refine ab ?_;refine ax rfl rfl ?_;refine aB rfl (aN (t:=.str) rfl Tryz.underlying86 vW es) ⟨rfl,rfl,trivial⟩ ?_;refine aB rfl (ao (t:=.str) rfl vW rfl) ⟨rfl,trivial⟩ ?_;refine cU rfl rfl ?_;refine ar ?_;refine ae ?_;show JC _ _ _ _ _;refine aA ?_;refine aZ ?_;refine aM ?_;exact aF () [_] 0 ⟨rfl,trivial⟩ rfl
 replace h:=bL (m6 hb) h
 have hne1:=m6 hb
 refine aS ?_
 refine aK ?_
 refine ae ?_
 show JC _ _ _ _ _
 refine ah ?_
 refine ab ?_
 refine dn rfl ?_
 refine ar ?_
 refine ae ?_
 show JC _ _ _ _ _
 refine ah ?_
 refine ah ?_
 refine ab ?_
 refine ax rfl rfl ?_
 refine aB rfl (ml rfl rfl Tryz.underlying9) ⟨rfl,trivial⟩ ?_
 refine aB rfl (ji rfl) ⟨rfl,rfl,trivial⟩ ?_
 refine ar ?_
 refine ae ?_
 show JC _ _ _ _ _
 have c1:ck ((ss.length:Int) - 1)=some ((ss.length:Int) - 1):=by unfold ck;rw [if_pos (by omega)]
 have c2:ck ((sep.size:Int) * ((ss.length:Int) - 1))=some ((ss.length:Int) - 1):=by rw [hsep];simpa using c1
 have c3:ck (0+((ss.length:Int) - 1))=some ((ss.length:Int) - 1):=by rw [Int.zero_add];exact c1
 refine bm rfl (fun hb=>?_) (fun hb=>absurd (m6 hb) (by omega))
 refine ah ?_
 refine ah ?_
 refine ab ?_
 refine ax rfl rfl ?_
 refine aB rfl (ml rfl rfl Tryz.underlying9) ⟨rfl,trivial⟩ ?_
 refine ax rfl rfl ?_
 refine aB rfl (mm rfl rfl Tryz.underlying86) ⟨rfl,trivial⟩ ?_
 refine aB rfl (eJ rfl c1) ⟨rfl,rfl,trivial⟩ ?_
 refine aB rfl (MV rfl (by omega)) ⟨rfl,rfl,trivial⟩ ?_
 refine aB rfl (nH rfl) ⟨rfl,rfl,trivial⟩ ?_
 refine ar ?_
 refine ae ?_
 show JC _ _ _ _ _
 refine bm rfl (fun hb=>?_) (fun hb=>?_)
 ·
  exfalso;have h1:=nr hb;have q1:(9223372036854775807:Int).tdiv ((ss.length:Int) - 1)=9223372036854775807 / ((ss.length:Int) - 1):=Int.tdiv_eq_ediv_of_nonneg (by omega);have q2:(2:Int)≤9223372036854775807 / ((ss.length:Int) - 1):=Int.le_ediv_of_mul_le (by omega) (by omega);have q3:(9223372036854775807:Int) / ((ss.length:Int) - 1)≤9223372036854775807:=Int.ediv_le_self _ (by omega);rw [q1,qR (z:=9223372036854775807 / ((ss.length:Int) - 1)) (by unfold ck;rw [if_pos (by omega)])] at h1;omega
 refine aS ?_
 refine ae ?_
 show JC _ _ _ _ _
 refine ab ?_
 refine ax rfl rfl ?_
 refine ax rfl rfl ?_
 refine aB rfl (ml rfl rfl Tryz.underlying9) ⟨rfl,trivial⟩ ?_
 refine ax rfl rfl ?_
 refine aB rfl (mm rfl rfl Tryz.underlying86) ⟨rfl,trivial⟩ ?_
 refine aB rfl (eJ rfl c1) ⟨rfl,rfl,trivial⟩ ?_
 refine aB rfl (Jm rfl c2) ⟨rfl,rfl,trivial⟩ ?_
 refine aB rfl (bi rfl c3) ⟨rfl,rfl,trivial⟩ ?_
 refine cU rfl rfl ?_
 refine ar ?_
 refine ae ?_
 show JC _ _ _ _ _
 rw [Option.bind_assoc] at h
 refine ah ?_
 refine ah ?_
 refine ab ?_
 refine ax rfl rfl ?_
 refine aB rfl (mm rfl rfl Tryz.underlying86) ⟨rfl,trivial⟩ ?_
 refine dX rfl ?_
 refine ar ?_
 refine ae ?_
 show JC _ _ _ _ _
 refine aj ?_
 refine aL (Z:=Unit) (α:=Int×Int) (fun _ y=>[(0,.rep (.slice .str) ss),(1,.eq (.string sep)),(5,.eq (.int .i64 y.2)),(39,.rep (.slice .str) ss),(40,.eq (.int .i64 (ss.length:Int))),(41,.eq (.int .i64 y.1))]) (fun _ _=>[]) (iK ss) k () ((0:Int),(ss.length:Int) - 1) (fun _=>rfl) h (SE.fin [] ⟨rfl,rfl,rfl,rfl,rfl,rfl,trivial⟩ rfl) (fun n z y h=>?_)
 unfold iK at h
 refine ah ?_
 refine ab ?_
 refine aB rfl (bG rfl) ⟨rfl,rfl,trivial⟩ ?_
 refine ar ?_
 refine ae ?_
 show JC _ _ _ _ _
 refine ah ?_
 refine bm rfl (fun hb=>?_) (fun hb=>?_)
 ·
  replace h:=cC (nr hb) h;refine aS ?_;refine ae ?_;show JC _ _ _ _ _;refine ah ?_;refine aj ?_;refine ah ?_;refine ab ?_;obtain⟨s,es,h⟩:=aa h;refine aB rfl (aN (t:=.str) rfl Tryz.underlying86 vW es) ⟨rfl,rfl,trivial⟩ ?_;refine aB rfl (ao (t:=.str) rfl vW rfl) ⟨rfl,trivial⟩ ?_;refine cU rfl rfl ?_;refine ar ?_;refine ae ?_;show JC _ _ _ _ _;refine ah ?_;refine ah ?_;refine ab ?_;refine ax rfl rfl ?_;refine aB rfl (ml rfl rfl Tryz.underlying9) ⟨rfl,trivial⟩ ?_;refine ax rfl rfl ?_;obtain⟨z,ez,h⟩:=aa h;refine aB rfl (eJ rfl ez) ⟨rfl,rfl,trivial⟩ ?_;refine aB rfl (ji rfl) ⟨rfl,rfl,trivial⟩ ?_;refine ar ?_;refine ae ?_;show JC _ _ _ _ _;refine bm rfl (fun hb=>?_) (fun hb=>?_)
  ·replace h:=cC (nr hb) h;cases h
  replace h:=bL (m6 hb) h;refine aS ?_;refine ae ?_;show JC _ _ _ _ _;refine ab ?_;refine ax rfl rfl ?_;refine ax rfl rfl ?_;refine aB rfl (ml rfl rfl Tryz.underlying9) ⟨rfl,trivial⟩ ?_;obtain⟨z2,ez2,h⟩:=aa h;refine aB rfl (bi rfl ez2) ⟨rfl,rfl,trivial⟩ ?_;refine cU rfl rfl ?_;refine ar ?_;refine aK ?_;refine ae ?_;show JC _ _ _ _ _;refine ab ?_;obtain⟨z3,ez3,h⟩:=aa h;refine aB rfl (bi rfl ez3) ⟨rfl,rfl,trivial⟩ ?_;refine ax rfl rfl ?_;refine ar ?_;refine ae ?_;exact gw ((),(z3,z2)) h (SE.fin [] ⟨rfl,rfl,rfl,rfl,rfl,rfl,trivial⟩ rfl)
 replace h:=bL (m6 hb) h
 refine dt ?_
 refine aP ?_
 refine aP ?_
 refine bQ ?_
 refine ae ?_
 show JC _ _ _ _ _
 replace h:((if 0 < y.2∧y.2≤281474976710656 then(bb ss 0).bind fun s=>if bO s.size then(gY (ss.drop 1) sep k ((0:Int),iV s)).bind fun l=>if l=[] then none else some (fY l) else none else none):Option ByteArray).bind some=some r:=h
 obtain⟨y1,y2⟩:=y
 have hy:0 < y2∧y2≤281474976710656:=by
  apply Classical.byContradiction;intro hn;rw [if_neg hn] at h;cases h
 replace h:=cC hy h
 obtain⟨m,rfl⟩:=Int.eq_ofNat_of_zero_le (show 0≤y2 by omega)
 obtain⟨s0,es0,h⟩:=aa h
 have hs0:bO s0.size:=by
  apply Classical.byContradiction;intro hn;rw [if_neg hn] at h;cases h
 replace h:=cC hs0 h
 rw [Option.bind_assoc] at h
 refine ah ?_
 refine ab ?_
 refine aH rfl rfl rfl (bJ rfl DJ GA) trivial fun b=>?_
 refine ar ?_
 refine ae ?_
 show JC _ _ _ _ _
 refine ah ?_
 refine ab ?_
 refine ax rfl rfl ?_
 refine bH (Δ:=[_]) (F:=_) (fun _ _ _=>av rfl _) rfl rfl (ap [.tmp 8,.tmp 56] rfl rfl K0 rfl (Ej (b:=b) (n:=m) (by omega) (by omega))) ⟨rfl,rfl,trivial⟩ fun bc=>?_
 refine ar ?_
 refine ae ?_
 show JC _ _ _ _ _
 refine ah ?_
 refine ab ?_
 refine ax rfl rfl ?_
 refine aB rfl (aN (t:=.str) rfl Tryz.underlying86 vW es0) ⟨rfl,rfl,trivial⟩ ?_
 refine aB rfl (ao (t:=.str) rfl vW rfl) ⟨rfl,trivial⟩ ?_
 refine bH (Δ:=[_,_]) (F:=_) (fun _ _ _=>av rfl _) rfl rfl (ap [.tmp 8,.tmp 60] rfl rfl Au rfl (kT (b:=b) (p:=some ⟨b,0,none⟩) (v:=zB bc) (l:=[]) (s:=s0) (.inr rfl) rfl (by simpa using hs0))) ⟨rfl,rfl,trivial⟩ fun v0=>?_
 refine ar ?_
 refine ae ?_
 show JC _ _ _ _ _
 refine ah ?_
 refine ah ?_
 refine ab ?_
 refine ax rfl rfl ?_
 refine aB rfl (Ci (t:=.str) rfl Tryz.underlying86 vW (by decide) (by omega)) ⟨rfl,rfl,trivial⟩ ?_
 refine aB rfl (mm rfl rfl Tryz.underlying86) ⟨rfl,trivial⟩ ?_
 refine dX rfl ?_
 refine ar ?_
 refine ae ?_
 show JC _ _ _ _ _
 refine aj ?_
 refine aL (Z:=Value) (α:=Int×List Int) (fun _ y=>[(1,.eq (.string sep)),(8,.eq (bP b)),(63,.rep (.slice .str) (ss.drop 1)),(64,.eq (.int .i64 ((ss.drop 1).length:Int))),(65,.eq (.int .i64 y.1))]) (fun v y=>[.obj b 162 (bA (bP b) v),.sl v 5 (.int .u8) y.2]) (gY (ss.drop 1) sep) k v0 ((0:Int),iV s0) (fun _=>rfl) h (SE.fin [0,1] ⟨rfl,rfl,rfl,rfl,rfl,trivial⟩ rfl) (fun n v y h=>?_)
 unfold gY at h
 refine ah ?_
 refine ab ?_
 refine aB rfl (bG rfl) ⟨rfl,rfl,trivial⟩ ?_
 refine ar ?_
 refine ae ?_
 show JC _ _ _ _ _
 refine ah ?_
 refine bm rfl (fun hb=>?_) (fun hb=>?_)
 ·
  replace h:=cC (nr hb) h;refine aS ?_;refine ae ?_;show JC _ _ _ _ _;refine ah ?_;refine aj ?_;refine ah ?_;refine ab ?_;obtain⟨s,es,h⟩:=aa h;refine aB rfl (aN (t:=.str) rfl Tryz.underlying86 vW es) ⟨rfl,rfl,trivial⟩ ?_;refine aB rfl (ao (t:=.str) rfl vW rfl) ⟨rfl,trivial⟩ ?_;refine cU rfl rfl ?_;refine ar ?_;refine ae ?_;show JC _ _ _ _ _
  have hk:bO (y.2.length+sep.size)∧bO ((y.2++iV sep).length+s.size):=by
   apply Classical.byContradiction;intro hn;rw [if_neg hn] at h;cases h
  replace h:=cC hk h;refine uu 1 rfl fun hv=>?_;refine ah ?_;refine ab ?_;refine ax rfl rfl ?_;refine bH (Δ:=[_,_]) (F:=_) (fun _ _ _=>av rfl _) rfl rfl (ap [.tmp 8,.tmp 69] rfl rfl Au rfl (kT (b:=b) (p:=some ⟨b,0,none⟩) (s:=sep) (.inr rfl) hv hk.1)) ⟨rfl,rfl,trivial⟩ fun v1=>?_;refine ar ?_;refine ae ?_;show JC _ _ _ _ _;refine uu 1 rfl fun hv1=>?_;refine ab ?_;refine ax rfl rfl ?_;refine bH (Δ:=[_,_]) (F:=_) (fun _ _ _=>av rfl _) rfl rfl (ap [.tmp 8,.tmp 71] rfl rfl Au rfl (kT (b:=b) (p:=some ⟨b,0,none⟩) (s:=s) (.inr rfl) hv1 hk.2)) ⟨rfl,rfl,trivial⟩ fun v2=>?_;refine ar ?_;refine aK ?_;refine ae ?_;show JC _ _ _ _ _;refine ab ?_;obtain⟨z3,ez3,h⟩:=aa h;refine aB rfl (bi rfl ez3) ⟨rfl,rfl,trivial⟩ ?_;refine ax rfl rfl ?_;refine ar ?_;refine ae ?_;exact gw (v2,(z3,(y.2++iV sep)++iV s)) h (SE.fin [0,1] ⟨rfl,rfl,rfl,rfl,rfl,trivial⟩ rfl)
 replace h:=bL (m6 hb) h
 refine dt ?_
 refine aP ?_
 refine aP ?_
 refine bQ ?_
 refine ae ?_
 show JC _ _ _ _ _
 replace h:(if y.2=[] then none else some (fY y.2):Option ByteArray).bind some=some r:=h
 have hy2:y.2≠[]:=by
  intro hn;rw [if_pos hn] at h;cases h
 rw [if_neg hy2] at h
 obtain rfl:=Option.some.inj h
 refine ah ?_
 refine ab ?_
 refine bH (Δ:=[_,_]) (F:=_) (fun _ _ _=>av rfl _) rfl rfl (ap [.tmp 8] rfl rfl F9 rfl (va (b:=b) (fun hn=>absurd hn hy2))) ⟨rfl,trivial⟩ fun _=>?_
 refine cU rfl rfl ?_
 refine ar ?_
 refine ae ?_
 show JC _ _ _ _ _
 refine aA ?_
 exact aF () [_] 0 ⟨rfl,trivial⟩ rfl
end Go.Proofs.YtcnpijmfgfnpiaaGreatDoor
