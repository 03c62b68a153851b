import Derived.Test.YtmeojbemjkmebaaGreatDoorRDB5
import Derived.Test.YtmeojbemjkmebaaGreatDoorProg
import Derived.Stop.Asserts
set_option linter.unusedSimpArgs false
set_option linter.unusedVariables false
set_option maxRecDepth 20000
set_option maxHeartbeats 4000000
namespace Go.Proofs.YtmeojbemjkmebaaGreatDoor
open K Go Go.Proofs Go.Extern
theorem BR:dL Tryz.prog 89 1 false:=⟨fun w=>by kernel_rfl,fun w=>by kernel_rfl⟩
theorem jZ:dL Tryz.prog 90 1 false:=⟨fun w=>by kernel_rfl,fun w=>by kernel_rfl⟩
theorem Om:aZ Tryz.prog 92 0 0:=aZ.of (by kernel_rfl)
theorem sT:aZ Tryz.prog 92 1 1:=aZ.of (by kernel_rfl)
theorem BV:mA Tryz.prog 90 5 1 1:=.of (z:=(.int .u8 (0))) Tryz.underlying90 (by kernel_rfl) rfl rfl rfl
theorem OA:fZ Tryz.prog 113 Extern.AbiNoEscape.same:=.of Tryz.func113 (by kernel_rfl) (by kernel_rfl) (by kernel_rfl) (by kernel_rfl)
theorem Dp:ae Tryz.prog 82:=ae.of Tryz.func82 (by kernel_rfl) (by kernel_rfl)
theorem OC:ae Tryz.prog 83:=ae.of Tryz.func83 (by kernel_rfl) (by kernel_rfl)
@[reducible] def bA(p v:Value):A:=.agg (.pair (.eq p) (.eq v))
abbrev bP(b:Nat):Value:=.pointer (some ⟨b,0,none⟩)
theorem vR{p:Option Addr}:Ns Tryz.prog (binOp .eql 89 (.pointer p) (.pointer none)):=by
 cases p with
 |none=>exact oW (by kernel_rfl)
 |some p=>exact oW (by kernel_rfl)
theorem Fe{p:Option Addr}{x y:Operand}(w:World):(do eqGuard .eql 89 x y (.pointer p) (.pointer none);binOp .eql 89 (.pointer p) (.pointer none):Sem Value).run Tryz.prog w= .ok (.bool p.isNone) w:=by
 cases p <;> kernel_rfl
theorem CX{p:Addr}:Ns Tryz.prog (binOp .neq 89 (.pointer (some p)) (.pointer (some p))):=by
 refine ah (s:=Op.equal 89 (.pointer (some p)) (.pointer (some p))) ?_ fun _=>bz;show Ns Tryz.prog (Op.equalIn (9999+1) 89 (.pointer (some p)) (.pointer (some p)));unfold Op.equalIn;refine cT Tryz.underlying89 (ah cZ fun n=>tV ?_ (tV bz (ah fJ fun _=>bz)));unfold sameAddr;simp only [beq_self_eq_true,if_true];exact bz
theorem N7:∃j,Tryz.prog.info? 92=some j∧j.size≠0:=by
 obtain⟨j,h1,h2⟩:=Option.map_eq_some_iff.1 (show(Tryz.prog.info? 92).map (·.size)=some 2 by kernel_rfl);exact⟨j,h1,by omega⟩
theorem ou{b:Nat}{p:Option Addr}{v:Value}(hp:p=none∨p=some ⟨b,0,none⟩)(hv:bv v=true):bX Tryz.prog 82 [.eq (bP b)] [.obj b 92 (bA (.pointer p) v)] (fun _:Unit=>(bj [],[.obj b 92 (bA (bP b) v)])):=by
 obtain⟨j162,inf162_eq,inf162_sz⟩:=N7;refine bX.of 20 Tryz.func82 rfl Tryz.ntmps82 rfl fun S w0=>?_;refine ar ?_;refine ab ?_;refine aC rfl rfl ?_;refine aF rfl (ba rfl) ⟨rfl,trivial⟩ ?_;refine aF rfl (av rfl Om) ⟨rfl,trivial⟩ ?_;refine bW rfl rfl rfl (ai rfl BR (fun _=>rfl) rfl) ⟨rfl,trivial⟩ ?_;refine aF rfl (iW rfl Fe vR) ⟨rfl,rfl,trivial⟩ ?_;refine ax ?_;refine ag ?_;show JC _ _ _ _ _;refine bK rfl (fun hb=>?_) (fun hb=>?_)
 ·refine ab ?_;refine aC rfl rfl ?_;refine aC rfl rfl ?_;refine bW rfl rfl rfl (CJ rfl Tryz.underlying89 Tryz.underlying180 inf162_eq inf162_sz rfl) ⟨rfl,trivial⟩ ?_;refine aF rfl (HS OA [.tmp 9] [bP b] rfl rfl rfl (fun _=>rfl) bz) ⟨rfl,trivial⟩ ?_;refine bW rfl rfl rfl (yC rfl Tryz.underlying180 Tryz.underlying89 inf162_eq (by kernel_rfl)) ⟨rfl,trivial⟩ ?_;refine aF rfl (ba rfl) ⟨rfl,trivial⟩ ?_;refine aF rfl (av rfl Om) ⟨rfl,trivial⟩ ?_;refine a8 rfl rfl (aX rfl BR rfl rfl rfl) ⟨rfl,rfl,trivial⟩ ?_;refine ax ?_;refine jB ?_;exact aN () [] 1 trivial rfl
 ·have hp':p=some ⟨b,0,none⟩:=by
   rcases hp with rfl |rfl
   ·cases hb
   ·rfl
  subst hp';refine ar ?_;refine ab ?_;refine aC rfl rfl ?_;refine aF rfl (ba rfl) ⟨rfl,trivial⟩ ?_;refine aF rfl (av rfl Om) ⟨rfl,trivial⟩ ?_;refine bW rfl rfl rfl (ai rfl BR (fun _=>rfl) rfl) ⟨rfl,trivial⟩ ?_;refine aC rfl rfl ?_;refine aF rfl (HK rfl Tryz.underlying89 inf162_eq CX) ⟨rfl,rfl,trivial⟩ ?_;refine ax ?_;refine ag ?_;show JC _ _ _ _ _;refine bK rfl (fun hb=>(by cases hb)) (fun hb=>?_);refine cR ?_;refine jB ?_;exact aN () [] 1 trivial rfl
theorem wP{v:Value}{l:List Int}{r:Int}(h0:0≤r)(h1:r≤127)(hl:bm (l.length+1)):bX Tryz.prog 83 [.eq v,.eq (.int .i32 r)] [.sl v 5 (.int .u8) l] (fun v':Value=>(bj [.eq v'],[.sl v' 5 (.int .u8) (l++[r])])):=by
 refine bX.of 16 Tryz.func83 rfl Tryz.ntmps83 rfl fun S w0=>?_;have w32:IntKind.u32.wrap r=r:=by simp [IntKind.wrap,IntKind.bits,IntKind.signed];omega
 have w8:IntKind.u8.wrap r=r:=by simp [IntKind.wrap,IntKind.bits,IntKind.signed];omega
 refine ar ?_;refine ab ?_;refine dF rfl ?_;refine ax ?_;refine ag ?_;show JC _ _ _ _ _;refine ar ?_;refine ar ?_;refine ab ?_;refine aC rfl rfl ?_;refine aF rfl (pB rfl Tryz.underlying21 Tryz.underlying172) ⟨rfl,trivial⟩ ?_;rw [w32];refine aF rfl (vP rfl) ⟨rfl,rfl,trivial⟩ ?_;refine ax ?_;refine ag ?_;show JC _ _ _ _ _;refine bK rfl (fun hb=>?_) (fun hb=>absurd h1 (by simpa using hb));refine ar ?_;refine ab ?_;refine aC rfl rfl ?_;refine aC rfl rfl ?_;refine aF rfl (pB rfl Tryz.underlying21 Tryz.underlying5) ⟨rfl,trivial⟩ ?_;rw [w8];refine aF rfl (bg (t:=(.int .u8)) [(.tmp 10,.eq (.int .u8 r))] [r] rfl rfl BV (.cons rfl .int .nil) rfl rfl) ⟨rfl,trivial⟩ ?_;refine cz rfl rfl rfl (bf rfl rfl BV (by simpa using hl)) ⟨rfl,rfl,trivial⟩ fun v'=>?_;refine dn rfl rfl ?_;refine ax ?_;refine ag ?_;show JC _ _ _ _ _;refine bI ?_;refine eC ?_;exact aN v' [_] 1 ⟨rfl,trivial⟩ rfl
theorem yn{b:Nat}{p:Option Addr}{v:Value}{l:List Int}{r:Int}(hp:p=none∨p=some ⟨b,0,none⟩)(hv:bv v=true)(h0:0≤r)(h1:r≤127)(hl:bm (l.length+1)):
 bX Tryz.prog 49 [.eq (bP b),.eq (.int .i32 r)] [.obj b 92 (bA (.pointer p) v),.sl v 5 (.int .u8) l]
  (fun v':Value=>(bj [.eq (.int .i64 1),.eq .nilIface],[.obj b 92 (bA (bP b) v'),.sl v' 5 (.int .u8) (l++[r])])):=by
 refine bX.of 30 Tryz.func49 rfl Tryz.ntmps49 rfl fun S w0=>?_
 refine ar ?_
 refine ab ?_
 refine dF rfl ?_
 refine dF rfl ?_
 refine ax ?_
 refine ag ?_
 show JC _ _ _ _ _
 refine ar ?_
 refine ab ?_
 refine aC rfl rfl ?_
 refine bW rfl rfl rfl (ao [.tmp 7] rfl rfl Dp rfl (ou hp hv)) ⟨rfl,trivial⟩ ?_
 refine ax ?_
 refine ag ?_
 show JC _ _ _ _ _
 refine ar ?_
 refine ab ?_
 refine aC rfl rfl ?_
 refine aF rfl (ba rfl) ⟨rfl,trivial⟩ ?_
 refine aF rfl (av rfl sT) ⟨rfl,trivial⟩ ?_
 refine bW rfl rfl rfl (ai rfl jZ (fun _=>rfl) rfl) ⟨rfl,trivial⟩ ?_
 refine bG 1 rfl ?_
 refine bW rfl rfl rfl (dy rfl rfl Tryz.underlying90) ⟨rfl,trivial⟩ ?_
 refine dn rfl rfl ?_
 refine ax ?_
 refine ag ?_
 show JC _ _ _ _ _
 refine ar ?_
 refine ab ?_
 refine aC rfl rfl ?_
 refine aC rfl rfl ?_
 refine aF rfl (ba rfl) ⟨rfl,trivial⟩ ?_
 refine aF rfl (av rfl sT) ⟨rfl,trivial⟩ ?_
 refine bG 1 rfl ?_
 refine bW rfl rfl rfl (ai rfl jZ (fun _=>rfl) rfl) ⟨rfl,trivial⟩ ?_
 refine aC rfl rfl ?_
 refine bG 1 rfl ?_
 refine cz rfl rfl rfl (ao [.tmp 18,.tmp 19] rfl rfl OC rfl (wP h0 h1 hl)) ⟨rfl,rfl,trivial⟩ fun v'=>?_
 refine fA fun hv'=>?_
 refine aF rfl (ba rfl) ⟨rfl,trivial⟩ ?_
 refine aF rfl (av rfl sT) ⟨rfl,trivial⟩ ?_
 refine bG 1 rfl ?_
 refine a8 rfl rfl (aX rfl jZ hv' rfl rfl) ⟨rfl,rfl,trivial⟩ ?_
 refine ax ?_
 refine ag ?_
 show JC _ _ _ _ _
 refine ar ?_
 refine ab ?_
 refine aC rfl rfl ?_
 refine aF rfl (ba rfl) ⟨rfl,trivial⟩ ?_
 refine aF rfl (av rfl sT) ⟨rfl,trivial⟩ ?_
 refine bW rfl rfl rfl (ai rfl jZ (fun _=>rfl) rfl) ⟨rfl,trivial⟩ ?_
 refine bG 1 rfl ?_
 refine bW rfl rfl rfl (dy rfl rfl Tryz.underlying90) ⟨rfl,trivial⟩ ?_
 refine aC rfl rfl ?_
 have hck:ck (((l++[r]).length:Int) - (l.length:Int))=some 1:=by
  have:(((l++[r]).length:Int) - (l.length:Int))=1:=by simp;omega
  rw [this];rfl
 refine aF rfl (fu rfl hck) ⟨rfl,rfl,trivial⟩ ?_
 refine dn rfl rfl ?_
 refine dF rfl ?_
 refine ax ?_
 refine ag ?_
 show JC _ _ _ _ _
 refine bI ?_
 refine bu (SE.fin (Γ':=[(4,_),(5,_)]) [1,0] ⟨rfl,rfl,trivial⟩ rfl) ?_
 exact aN v' [_,_] 2 ⟨rfl,rfl,trivial⟩ rfl
theorem Uw:Tryz.prog.cellsOf 5=1:=by kernel_rfl
theorem rH:Tryz.prog.follows .mixedOrders=true:=by kernel_rfl
theorem xk{b:Nat}{p v:Value}{l:List Int}(hl:l=[]→v= .slice none 0 0):
 bX Tryz.prog 50 [.eq (bP b)] [.obj b 92 (bA p v),.sl v 5 (.int .u8) l] (fun _:Unit=>(bj [.eq (.string (rj l))],[])):=by
 refine bX.of 14 Tryz.func50 rfl Tryz.ntmps50 rfl fun S w0=>?_
 refine ar ?_
 refine ab ?_
 refine dF rfl ?_
 refine ax ?_
 refine ag ?_
 show JC _ _ _ _ _
 refine ar ?_
 refine bJ ?_
 refine du rfl rfl rfl (aL rfl) ⟨rfl,trivial⟩ ?_
 refine du rfl rfl rfl (ba rfl) ⟨rfl,trivial⟩ ?_
 refine du rfl rfl rfl (av rfl sT) ⟨rfl,trivial⟩ ?_
 refine oO 0 rfl rfl rfl rfl (ai rfl jZ (fun _=>rfl) rfl) ⟨rfl,trivial⟩ ?_
 refine oO 1 rfl rfl rfl rfl (Ae rfl rfl hl) ⟨rfl,trivial⟩ ?_
 refine du rfl rfl rfl (aL rfl) ⟨rfl,trivial⟩ ?_
 refine du rfl rfl rfl (ba rfl) ⟨rfl,trivial⟩ ?_
 refine du rfl rfl rfl (av rfl sT) ⟨rfl,trivial⟩ ?_
 refine oO 0 rfl rfl rfl rfl (ai rfl jZ (fun _=>rfl) rfl) ⟨rfl,trivial⟩ ?_
 refine oO 1 rfl rfl rfl rfl (dy rfl rfl Tryz.underlying90) ⟨rfl,trivial⟩ ?_
 refine ul (by kernel_rfl) rH ?_
 refine bG 1 rfl ?_
 refine bN (Δ:=[_]) (F:=_) (fun _ _ _=>ay rfl _) rfl rfl (vK rfl rfl Tryz.underlying149 Uw hl) ⟨rfl,rfl,trivial⟩ fun _=>?_
 refine dn rfl rfl ?_
 refine ax ?_
 refine ag ?_
 show JC _ _ _ _ _
 refine bI ?_
 exact aN () [_] 0 ⟨rfl,trivial⟩ rfl
theorem SR:(Tryz.prog.info? 5).bind (·.zero)=some (.int .u8 0):=by kernel_rfl
theorem mb{b:Nat}{p:Option Addr}{v:Value}{l:List Int}{s:ByteArray}(hp:p=none∨p=some ⟨b,0,none⟩)(hv:bv v=true)(hl:bm (l.length+s.size)):
 bX Tryz.prog 85 [.eq (bP b),.eq (.string s)] [.obj b 92 (bA (.pointer p) v),.sl v 5 (.int .u8) l]
  (fun v':Value=>(bj [.eq (.int .i64 s.size),.eq .nilIface],[.obj b 92 (bA (bP b) v'),.sl v' 5 (.int .u8) (l++sj s)])):=by
 refine bX.of 19 Tryz.func85 rfl Tryz.ntmps85 rfl fun S w0=>?_
 refine ar ?_
 refine ab ?_
 refine dF rfl ?_
 refine dF rfl ?_
 refine ax ?_
 refine ag ?_
 show JC _ _ _ _ _
 refine ar ?_
 refine ab ?_
 refine aC rfl rfl ?_
 refine bW rfl rfl rfl (ao [.tmp 6] rfl rfl Dp rfl (ou hp hv)) ⟨rfl,trivial⟩ ?_
 refine ax ?_
 refine ag ?_
 show JC _ _ _ _ _
 refine ar ?_
 refine ab ?_
 refine aC rfl rfl ?_
 refine aC rfl rfl ?_
 refine aF rfl (ba rfl) ⟨rfl,trivial⟩ ?_
 refine aF rfl (av rfl sT) ⟨rfl,trivial⟩ ?_
 refine bW rfl rfl rfl (ai rfl jZ (fun _=>rfl) rfl) ⟨rfl,trivial⟩ ?_
 refine aC rfl rfl ?_
 refine bG 1 rfl ?_
 refine cz rfl rfl rfl (Am rfl rfl BV Tryz.underlying9 SR (by decide) hl) ⟨rfl,rfl,trivial⟩ fun v'=>?_
 refine fA fun hv'=>?_
 refine aF rfl (ba rfl) ⟨rfl,trivial⟩ ?_
 refine aF rfl (av rfl sT) ⟨rfl,trivial⟩ ?_
 refine bG 1 rfl ?_
 refine a8 rfl rfl (aX rfl jZ hv' rfl rfl) ⟨rfl,rfl,trivial⟩ ?_
 refine ax ?_
 refine ag ?_
 show JC _ _ _ _ _
 refine ar ?_
 refine ab ?_
 refine aC rfl rfl ?_
 refine aF rfl (nJ rfl rfl Tryz.underlying9) ⟨rfl,trivial⟩ ?_
 refine dn rfl rfl ?_
 refine dF rfl ?_
 refine ax ?_
 refine ag ?_
 show JC _ _ _ _ _
 refine bI ?_
 exact aN v' [_,_] 2 ⟨rfl,rfl,trivial⟩ rfl
theorem Oy:fZ Tryz.prog 146 (Extern.BytealgMakeNoZero.makeNoZero #[3] #[90]):=.of Tryz.func146 (by kernel_rfl) (by kernel_rfl) (by kernel_rfl) (by kernel_rfl)
theorem Oz:ae Tryz.prog 115:=ae.of Tryz.func115 (by kernel_rfl) (by kernel_rfl)
def SU:Value→List D
 | .slice (some ⟨b,0,none⟩) m c=>[.sl (.slice (some ⟨b,0,none⟩) 0 c) 5 (.int .u8) []]
 |_=>[Jh]
theorem NE{v:Value}(h:∀d∈SU v,∃S w,d.holds S w):∃b m c,v= .slice (some ⟨b,0,none⟩) m c:=by
 unfold SU at h;split at h
 ·exact⟨_,_,_,rfl⟩
 ·obtain⟨S,w,hb⟩:=h Jh (by simp);exact absurd hb A2
theorem P5:dL Tryz.prog 5 1 false:=⟨fun w=>by kernel_rfl,fun w=>by kernel_rfl⟩
theorem Hi{b cap:Nat}:sliced (some ⟨b,0,none⟩) 0 (Int.toNat 0) cap 1= .slice (some ⟨b,0,none⟩) 0 cap:=D1
abbrev BX(bc:Nat×Nat):Value:=.slice (some ⟨bc.1,0,none⟩) 0 bc.2
theorem Ky{b n:Nat}{p:Value}(hn:n≤281474976710656):
 bX Tryz.prog 115 [.eq (bP b),.eq (.int .i64 n)] [.obj b 92 (bA p (.slice none 0 0))] (fun bc:Nat×Nat=>(bj [],[.obj b 92 (bA p (BX bc)),.sl (BX bc) 5 (.int .u8) []])):=by
 refine bX.of 30 Tryz.func115 rfl Tryz.ntmps115 rfl fun S w0=>?_
 have c1:ck (2 * ((0:Nat):Int))=some 0:=rfl
 have c2:ck (0+(n:Int))=some (n:Int):=by rw [Int.zero_add];unfold ck;rw [if_pos (by omega)]
 refine ar ?_
 refine mD ?_
 refine aR rfl rfl rfl (aL rfl) ⟨rfl,trivial⟩ ?_
 refine aR rfl rfl rfl (ba rfl) ⟨rfl,trivial⟩ ?_
 refine aR rfl rfl rfl (av rfl sT) ⟨rfl,trivial⟩ ?_
 refine dt 0 rfl rfl rfl rfl (ai rfl jZ (fun _=>rfl) rfl) ⟨rfl,trivial⟩ ?_
 refine aR rfl rfl rfl (HU rfl rfl Tryz.underlying90) ⟨rfl,trivial⟩ ?_
 refine aR rfl rfl rfl (M8 rfl c1) ⟨rfl,rfl,trivial⟩ ?_
 refine aR rfl rfl rfl (aL rfl) ⟨rfl,trivial⟩ ?_
 refine aR rfl rfl rfl (be rfl c2) ⟨rfl,rfl,trivial⟩ ?_
 refine zn SU (fun _=>rfl) rfl rfl rfl (HJ Oy rfl rfl Tryz.underlying90 hn) ⟨rfl,trivial⟩ ?_
 refine aR rfl rfl rfl (aL rfl) ⟨rfl,trivial⟩ ?_
 refine aR rfl rfl rfl (ba rfl) ⟨rfl,trivial⟩ ?_
 refine aR rfl rfl rfl (av rfl sT) ⟨rfl,trivial⟩ ?_
 refine dt 0 rfl rfl rfl rfl (ai rfl jZ (fun _=>rfl) rfl) ⟨rfl,trivial⟩ ?_
 refine aR rfl rfl rfl (HM rfl rfl Tryz.underlying90) ⟨rfl,trivial⟩ ?_
 refine oN 14 [true,true,true,true,true,true,true,true,true,true,true,true,true,true] [19,4] [] [] rfl (by kernel_rfl) (by kernel_rfl) (by kernel_rfl) rH (fun vs hv hB=>?_)
 obtain⟨u0,vs1,rfl,hv1⟩:=ap hv
 obtain⟨u1,vs2,rfl,hv2⟩:=ap hv1
 obtain⟨u2,vs3,rfl,hv3⟩:=ap hv2
 obtain⟨u3,vs4,rfl,hv4⟩:=ap hv3
 obtain⟨u4,vs5,rfl,hv5⟩:=ap hv4
 obtain⟨u5,vs6,rfl,hv6⟩:=ap hv5
 obtain⟨u6,vs7,rfl,hv7⟩:=ap hv6
 obtain⟨u7,vs8,rfl,hv8⟩:=ap hv7
 obtain⟨u8,vs9,rfl,hv9⟩:=ap hv8
 obtain⟨u9,vs10,rfl,hv10⟩:=ap hv9
 obtain⟨u10,vs11,rfl,hv11⟩:=ap hv10
 obtain⟨u11,vs12,rfl,hv12⟩:=ap hv11
 obtain⟨u12,vs13,rfl,hv13⟩:=ap hv12
 obtain⟨u13,vs14,rfl,hv14⟩:=ap hv13
 obtain rfl:=lE hv14
 obtain⟨g,m,q,rfl⟩:=NE hB.2.2.2.2.2.2.2.2.1
 refine⟨[0,1],[.obj b 92 (bA p (.slice none 0 0)),.sl (BX (g,q)) 5 (.int .u8) []],by kernel_rfl,by decide,?_⟩
 refine uj rfl rfl rfl rfl (vL rfl Tryz.underlying90 P5 (Int.le_refl 0) (Int.natCast_nonneg _)) ⟨rfl,rfl,trivial⟩ (by kernel_rfl) ?_
 rw [Hi]
 refine uj rfl rfl rfl rfl (j9 rfl) ⟨rfl,trivial⟩ (by kernel_rfl) ?_
 refine uk ?_
 refine bu (SE.fin (Γ':=[(0,.eq (bP b)),(4,.eq (BX (g,q)))]) (Δ':=[.obj b 92 (bA p (.slice none 0 0)),.sl (BX (g,q)) 5 (.int .u8) []]) [0,1] ⟨rfl,rfl,trivial⟩ rfl) ?_
 refine ag ?_
 show JC _ _ _ _ _
 refine ar ?_
 refine ab ?_
 refine aC rfl rfl ?_
 refine aC rfl rfl ?_
 refine aF rfl (ba rfl) ⟨rfl,trivial⟩ ?_
 refine aF rfl (av rfl sT) ⟨rfl,trivial⟩ ?_
 refine bW rfl rfl rfl (ai rfl jZ (fun _=>rfl) rfl) ⟨rfl,trivial⟩ ?_
 refine aF rfl (KN rfl rfl Tryz.underlying90 P5) ⟨rfl,rfl,trivial⟩ ?_
 refine ax ?_
 refine ag ?_
 show JC _ _ _ _ _
 refine ab ?_
 refine aC rfl rfl ?_
 refine aC rfl rfl ?_
 refine aF rfl (ba rfl) ⟨rfl,trivial⟩ ?_
 refine aF rfl (av rfl sT) ⟨rfl,trivial⟩ ?_
 refine a8 rfl rfl (aX rfl jZ rfl rfl rfl) ⟨rfl,rfl,trivial⟩ ?_
 refine ax ?_
 refine jB ?_
 exact aN (g,q) [] 2 trivial rfl
end Go.Proofs.YtmeojbemjkmebaaGreatDoor
set_option linter.unusedVariables false
set_option maxRecDepth 20000
set_option maxHeartbeats 4000000
namespace Go.Proofs.YtmeojbemjkmebaaGreatDoor
open K Go Go.Proofs Go.Extern
theorem Hn{b n:Nat}(h0:0 < n)(hn:n≤281474976710656):
 bX Tryz.prog 84 [.eq (bP b),.eq (.int .i64 n)] [.obj b 92 (bA (.pointer none) (.slice none 0 0))] (fun bc:Nat×Nat=>(bj [],[.obj b 92 (bA (bP b) (BX bc)),.sl (BX bc) 5 (.int .u8) []])):=by
 refine bX.of 25 Tryz.func84 rfl Tryz.ntmps84 rfl fun S w0=>?_
 have c1:ck (((0:Nat):Int) - ((0:Nat):Int))=some 0:=rfl
 refine ar ?_
 refine ab ?_
 refine aC rfl rfl ?_
 refine bW rfl rfl rfl (ao [.tmp 4] rfl rfl Dp rfl (ou (.inl rfl) rfl)) ⟨rfl,trivial⟩ ?_
 refine ax ?_
 refine ag ?_
 show JC _ _ _ _ _
 refine ar ?_
 refine ar ?_
 refine ab ?_
 refine aC rfl rfl ?_
 refine aF rfl (bq rfl) ⟨rfl,rfl,trivial⟩ ?_
 refine ax ?_
 refine ag ?_
 show JC _ _ _ _ _
 refine bK rfl (fun hb=>absurd (of_decide_eq_true hb) (by omega)) (fun hb=>?_)
 refine cR ?_
 refine ag ?_
 show JC _ _ _ _ _
 refine ar ?_
 refine bJ ?_
 refine du rfl rfl rfl (aL rfl) ⟨rfl,trivial⟩ ?_
 refine du rfl rfl rfl (ba rfl) ⟨rfl,trivial⟩ ?_
 refine du rfl rfl rfl (av rfl sT) ⟨rfl,trivial⟩ ?_
 refine oO 0 rfl rfl rfl rfl (ai rfl jZ (fun _=>rfl) rfl) ⟨rfl,trivial⟩ ?_
 refine du rfl rfl rfl (HU rfl rfl Tryz.underlying90) ⟨rfl,trivial⟩ ?_
 refine du rfl rfl rfl (aL rfl) ⟨rfl,trivial⟩ ?_
 refine du rfl rfl rfl (ba rfl) ⟨rfl,trivial⟩ ?_
 refine du rfl rfl rfl (av rfl sT) ⟨rfl,trivial⟩ ?_
 refine oO 0 rfl rfl rfl rfl (ai rfl jZ (fun _=>rfl) rfl) ⟨rfl,trivial⟩ ?_
 refine du rfl rfl rfl (HM rfl rfl Tryz.underlying90) ⟨rfl,trivial⟩ ?_
 refine du rfl rfl rfl (fu rfl c1) ⟨rfl,rfl,trivial⟩ ?_
 refine du rfl rfl rfl (aL rfl) ⟨rfl,trivial⟩ ?_
 refine ul (by kernel_rfl) rH ?_
 refine aF rfl (bq rfl) ⟨rfl,rfl,trivial⟩ ?_
 refine ax ?_
 refine ag ?_
 show JC _ _ _ _ _
 refine bK rfl (fun hb=>?_) (fun hb=>absurd (of_decide_eq_false hb) (by omega))
 refine ab ?_
 refine aC rfl rfl ?_
 refine aC rfl rfl ?_
 refine bN (Δ:=[_]) (F:=_) (fun _ _ _=>ay rfl _) rfl rfl (ao [.tmp 22,.tmp 23] rfl rfl Oz rfl (Ky hn)) ⟨rfl,rfl,trivial⟩ fun bc=>?_
 refine ax ?_
 refine jB ?_
 exact aN bc [] 2 trivial rfl
theorem ym:dL Tryz.prog 9 1 false:=⟨fun w=>by kernel_rfl,fun w=>by kernel_rfl⟩
theorem OE:ae Tryz.prog 49:=ae.of Tryz.func49 (by kernel_rfl) (by kernel_rfl)
theorem I5:ae Tryz.prog 50:=ae.of Tryz.func50 (by kernel_rfl) (by kernel_rfl)
theorem OB:ae Tryz.prog 84:=ae.of Tryz.func84 (by kernel_rfl) (by kernel_rfl)
theorem Do:ae Tryz.prog 85:=ae.of Tryz.func85 (by kernel_rfl) (by kernel_rfl)
theorem GQ:∀w,(zeroValue 92).run Tryz.prog w= .ok (.agg #[.pointer none,.slice none 0 0]) w:=fun w=>by kernel_rfl
theorem Nn:∀S w,(A.cells S w (bA (.pointer none) (.slice none 0 0)) (Value.cells (.agg #[.pointer none,.slice none 0 0])).toList):=fun _ _=>⟨[_],_,rfl,⟨rfl,rfl⟩,rfl,rfl⟩
def ot(ss:List ByteArray):Nat→Int×Int→Option Int
 |0,_=>none
 |n+1,y=>if y.1 < (ss.length:Int) then((aQ ss y.1).bind fun s=>(ck ((9223372036854775807:Int) - y.2)).bind fun z=>if z < (s.size:Int) then none else(ck (y.2+(s.size:Int))).bind fun z2=>(ck (y.1+(1:Int))).bind fun z3=>ot ss n (z3,z2)) else some y.2
def ma(ss:List ByteArray)(sep:ByteArray):Nat→Int×List Int→Option (List Int)
 |0,_=>none
 |n+1,y=>if y.1 < (ss.length:Int) then((aQ ss y.1).bind fun s=>if bm (y.2.length+sep.size)∧bm ((y.2++sj sep).length+s.size) then(ck (y.1+(1:Int))).bind fun z3=>ma ss sep n (z3,(y.2++sj sep)++sj s) else none) else some y.2
def uU(k:Nat)(ss:List ByteArray)(sep:ByteArray):Option ByteArray:=
 if sep.size=1∧bm ss.length then
  if(ss.length:Int)=(0:Int) then some .empty
  else if(ss.length:Int)=(1:Int) then aQ ss 0
  else(ot ss k ((0:Int),(ss.length:Int) - 1)).bind fun n=>
   if 0 < n∧n≤281474976710656 then(aQ ss 0).bind fun s=>if bm s.size then(ma (ss.drop 1) sep k ((0:Int),sj s)).bind fun l=>if l=[] then none else some (rj l) else none else none
 else none
theorem BW(k:Nat)(ss:List ByteArray)(sep:ByteArray)(r:ByteArray)(h:uU k ss sep=some r):
 bX Tryz.prog 51 [.rep (.slice .str) ss,.eq (.string sep)] [] (fun _:Unit=>(bj [.eq (.string r)],[])):=by
 unfold uU at h
 split at h
 case isFalse=>cases h
 rename_i hc
 obtain⟨hsep,hlen⟩:=hc
 unfold bm at hlen
 replace h:=a9 h
 refine bX.of 75 Tryz.func51 rfl Tryz.ntmps51 rfl fun S w0=>?_
 refine ar ?_
 refine ab ?_
 refine dF rfl ?_
 refine ax ?_
 refine ag ?_
 show JC _ _ _ _ _
 refine ar ?_
 refine ar ?_
 refine ab ?_
 refine aC rfl rfl ?_
 refine aF rfl (ju rfl rfl Tryz.underlying51) ⟨rfl,trivial⟩ ?_
 refine ax ?_
 refine ag ?_
 show JC _ _ _ _ _
 refine aj ?_
 refine ar ?_
 refine ab ?_
 refine aF rfl (dO rfl) ⟨rfl,rfl,trivial⟩ ?_
 refine dn rfl rfl ?_
 refine ax ?_
 refine ag ?_
 show JC _ _ _ _ _
 refine bK rfl (fun hb=>?_) (fun hb=>?_)
 ·
  replace h:=cF (nX hb) h;refine ar ?_;refine ab ?_;refine dF rfl ?_;refine ax ?_;refine ag ?_;show JC _ _ _ _ _;refine bI ?_;refine mC ?_;refine eC ?_;obtain rfl:=Option.some.inj h;exact aN () [_] 0 ⟨rfl,trivial⟩ rfl
 replace h:=bM (nk hb) h
 have hne0:=nk hb
 refine ar ?_
 refine ab ?_
 refine aF rfl (dO rfl) ⟨rfl,rfl,trivial⟩ ?_
 refine dn rfl rfl ?_
 refine ax ?_
 refine ag ?_
 show JC _ _ _ _ _
 refine bK rfl (fun hb=>?_) (fun hb=>?_)
 ·
  replace h:=cF (nX hb) h;have es:aQ ss 0=some r:=by simpa using h
  refine ar ?_;refine ab ?_;refine aC rfl rfl ?_;refine aF rfl (aH (t:=.str) rfl Tryz.underlying51 ym es) ⟨rfl,rfl,trivial⟩ ?_;refine aF rfl (an (t:=.str) rfl ym rfl) ⟨rfl,trivial⟩ ?_;refine dn rfl rfl ?_;refine ax ?_;refine ag ?_;show JC _ _ _ _ _;refine bI ?_;refine mC ?_;refine eC ?_;exact aN () [_] 0 ⟨rfl,trivial⟩ rfl
 replace h:=bM (nk hb) h
 have hne1:=nk hb
 refine cR ?_
 refine bS ?_
 refine ag ?_
 show JC _ _ _ _ _
 refine ar ?_
 refine ab ?_
 refine dF rfl ?_
 refine ax ?_
 refine ag ?_
 show JC _ _ _ _ _
 refine ar ?_
 refine ar ?_
 refine ab ?_
 refine aC rfl rfl ?_
 refine aF rfl (nJ rfl rfl Tryz.underlying9) ⟨rfl,trivial⟩ ?_
 refine aF rfl (jv rfl) ⟨rfl,rfl,trivial⟩ ?_
 refine ax ?_
 refine ag ?_
 show JC _ _ _ _ _
 have c1:ck ((ss.length:Int) - 1)=some ((ss.length:Int) - 1):=by unfold ck;rw [if_pos (by omega)]
 have c2:ck ((sep.size:Int) * ((ss.length:Int) - 1))=some ((ss.length:Int) - 1):=by rw [hsep];simpa using c1
 have c3:ck (0+((ss.length:Int) - 1))=some ((ss.length:Int) - 1):=by rw [Int.zero_add];exact c1
 refine bK rfl (fun hb=>?_) (fun hb=>absurd (nk hb) (by omega))
 refine ar ?_
 refine ar ?_
 refine ab ?_
 refine aC rfl rfl ?_
 refine aF rfl (nJ rfl rfl Tryz.underlying9) ⟨rfl,trivial⟩ ?_
 refine aC rfl rfl ?_
 refine aF rfl (ju rfl rfl Tryz.underlying51) ⟨rfl,trivial⟩ ?_
 refine aF rfl (fu rfl c1) ⟨rfl,rfl,trivial⟩ ?_
 refine aF rfl (Qb rfl (by omega)) ⟨rfl,rfl,trivial⟩ ?_
 refine aF rfl (qX rfl) ⟨rfl,rfl,trivial⟩ ?_
 refine ax ?_
 refine ag ?_
 show JC _ _ _ _ _
 refine bK rfl (fun hb=>?_) (fun hb=>?_)
 ·
  exfalso;have h1:=nX hb;have q1:(9223372036854775807:Int).tdiv ((ss.length:Int) - 1)=9223372036854775807 / ((ss.length:Int) - 1):=Int.tdiv_eq_ediv_of_nonneg (by omega);have q2:(2:Int)≤9223372036854775807 / ((ss.length:Int) - 1):=Int.le_ediv_of_mul_le (by omega) (by omega);have q3:(9223372036854775807:Int) / ((ss.length:Int) - 1)≤9223372036854775807:=Int.ediv_le_self _ (by omega);rw [q1,sX (z:=9223372036854775807 / ((ss.length:Int) - 1)) (by unfold ck;rw [if_pos (by omega)])] at h1;omega
 refine cR ?_
 refine ag ?_
 show JC _ _ _ _ _
 refine ab ?_
 refine aC rfl rfl ?_
 refine aC rfl rfl ?_
 refine aF rfl (nJ rfl rfl Tryz.underlying9) ⟨rfl,trivial⟩ ?_
 refine aC rfl rfl ?_
 refine aF rfl (ju rfl rfl Tryz.underlying51) ⟨rfl,trivial⟩ ?_
 refine aF rfl (fu rfl c1) ⟨rfl,rfl,trivial⟩ ?_
 refine aF rfl (M8 rfl c2) ⟨rfl,rfl,trivial⟩ ?_
 refine aF rfl (be rfl c3) ⟨rfl,rfl,trivial⟩ ?_
 refine dn rfl rfl ?_
 refine ax ?_
 refine ag ?_
 show JC _ _ _ _ _
 rw [Option.bind_assoc] at h
 refine ar ?_
 refine ar ?_
 refine ab ?_
 refine aC rfl rfl ?_
 refine aF rfl (ju rfl rfl Tryz.underlying51) ⟨rfl,trivial⟩ ?_
 refine ff rfl ?_
 refine ax ?_
 refine ag ?_
 show JC _ _ _ _ _
 refine aj ?_
 refine aK (Z:=Unit) (α:=Int×Int) (fun _ y=>[(0,.rep (.slice .str) ss),(1,.eq (.string sep)),(5,.eq (.int .i64 y.2)),(39,.rep (.slice .str) ss),(40,.eq (.int .i64 (ss.length:Int))),(41,.eq (.int .i64 y.1))]) (fun _ _=>[]) (ot ss) k () ((0:Int),(ss.length:Int) - 1) (fun _=>rfl) h (SE.fin [] ⟨rfl,rfl,rfl,rfl,rfl,rfl,trivial⟩ rfl) (fun n z y h=>?_)
 unfold ot at h
 refine ar ?_
 refine ab ?_
 refine aF rfl (bq rfl) ⟨rfl,rfl,trivial⟩ ?_
 refine ax ?_
 refine ag ?_
 show JC _ _ _ _ _
 refine ar ?_
 refine bK rfl (fun hb=>?_) (fun hb=>?_)
 ·
  replace h:=cF (nX hb) h;refine cR ?_;refine ag ?_;show JC _ _ _ _ _;refine ar ?_;refine aj ?_;refine ar ?_;refine ab ?_;obtain⟨s,es,h⟩:=aa h;refine aF rfl (aH (t:=.str) rfl Tryz.underlying51 ym es) ⟨rfl,rfl,trivial⟩ ?_;refine aF rfl (an (t:=.str) rfl ym rfl) ⟨rfl,trivial⟩ ?_;refine dn rfl rfl ?_;refine ax ?_;refine ag ?_;show JC _ _ _ _ _;refine ar ?_;refine ar ?_;refine ab ?_;refine aC rfl rfl ?_;refine aF rfl (nJ rfl rfl Tryz.underlying9) ⟨rfl,trivial⟩ ?_;refine aC rfl rfl ?_;obtain⟨z,ez,h⟩:=aa h;refine aF rfl (fu rfl ez) ⟨rfl,rfl,trivial⟩ ?_;refine aF rfl (jv rfl) ⟨rfl,rfl,trivial⟩ ?_;refine ax ?_;refine ag ?_;show JC _ _ _ _ _;refine bK rfl (fun hb=>?_) (fun hb=>?_)
  ·replace h:=cF (nX hb) h;cases h
  replace h:=bM (nk hb) h;refine cR ?_;refine ag ?_;show JC _ _ _ _ _;refine ab ?_;refine aC rfl rfl ?_;refine aC rfl rfl ?_;refine aF rfl (nJ rfl rfl Tryz.underlying9) ⟨rfl,trivial⟩ ?_;obtain⟨z2,ez2,h⟩:=aa h;refine aF rfl (be rfl ez2) ⟨rfl,rfl,trivial⟩ ?_;refine dn rfl rfl ?_;refine ax ?_;refine bS ?_;refine ag ?_;show JC _ _ _ _ _;refine ab ?_;obtain⟨z3,ez3,h⟩:=aa h;refine aF rfl (be rfl ez3) ⟨rfl,rfl,trivial⟩ ?_;refine aC rfl rfl ?_;refine ax ?_;refine ag ?_;exact jg ((),(z3,z2)) h (SE.fin [] ⟨rfl,rfl,rfl,rfl,rfl,rfl,trivial⟩ rfl)
 replace h:=bM (nk hb) h
 refine jI ?_
 refine cC ?_
 refine cC ?_
 refine eH ?_
 refine ag ?_
 show JC _ _ _ _ _
 replace h:((if 0 < y.2∧y.2≤281474976710656 then(aQ ss 0).bind fun s=>if bm s.size then(ma (ss.drop 1) sep k ((0:Int),sj s)).bind fun l=>if l=[] then none else some (rj l) else none else none):Option ByteArray).bind some=some r:=h
 obtain⟨y1,y2⟩:=y
 have hy:0 < y2∧y2≤281474976710656:=by
  apply Classical.byContradiction;intro hn;rw [if_neg hn] at h;cases h
 replace h:=cF hy h
 obtain⟨m,rfl⟩:=Int.eq_ofNat_of_zero_le (show 0≤y2 by omega)
 obtain⟨s0,es0,h⟩:=aa h
 have hs0:bm s0.size:=by
  apply Classical.byContradiction;intro hn;rw [if_neg hn] at h;cases h
 replace h:=cF hs0 h
 rw [Option.bind_assoc] at h
 refine ar ?_
 refine ab ?_
 refine aD rfl rfl rfl (aY rfl GQ Nn) trivial fun b=>?_
 refine ax ?_
 refine ag ?_
 show JC _ _ _ _ _
 refine ar ?_
 refine ab ?_
 refine aC rfl rfl ?_
 refine bN (Δ:=[_]) (F:=_) (fun _ _ _=>ay rfl _) rfl rfl (ao [.tmp 8,.tmp 56] rfl rfl OB rfl (Hn (b:=b) (n:=m) (by omega) (by omega))) ⟨rfl,rfl,trivial⟩ fun bc=>?_
 refine ax ?_
 refine ag ?_
 show JC _ _ _ _ _
 refine ar ?_
 refine ab ?_
 refine aC rfl rfl ?_
 refine aF rfl (aH (t:=.str) rfl Tryz.underlying51 ym es0) ⟨rfl,rfl,trivial⟩ ?_
 refine aF rfl (an (t:=.str) rfl ym rfl) ⟨rfl,trivial⟩ ?_
 refine bN (Δ:=[_,_]) (F:=_) (fun _ _ _=>ay rfl _) rfl rfl (ao [.tmp 8,.tmp 60] rfl rfl Do rfl (mb (b:=b) (p:=some ⟨b,0,none⟩) (v:=BX bc) (l:=[]) (s:=s0) (.inr rfl) rfl (by simpa using hs0))) ⟨rfl,rfl,trivial⟩ fun v0=>?_
 refine ax ?_
 refine ag ?_
 show JC _ _ _ _ _
 refine ar ?_
 refine ar ?_
 refine ab ?_
 refine aC rfl rfl ?_
 refine aF rfl (Fz (t:=.str) rfl Tryz.underlying51 ym (by decide) (by omega)) ⟨rfl,rfl,trivial⟩ ?_
 refine aF rfl (ju rfl rfl Tryz.underlying51) ⟨rfl,trivial⟩ ?_
 refine ff rfl ?_
 refine ax ?_
 refine ag ?_
 show JC _ _ _ _ _
 refine aj ?_
 refine aK (Z:=Value) (α:=Int×List Int) (fun _ y=>[(1,.eq (.string sep)),(8,.eq (bP b)),(63,.rep (.slice .str) (ss.drop 1)),(64,.eq (.int .i64 ((ss.drop 1).length:Int))),(65,.eq (.int .i64 y.1))]) (fun v y=>[.obj b 92 (bA (bP b) v),.sl v 5 (.int .u8) y.2]) (ma (ss.drop 1) sep) k v0 ((0:Int),sj s0) (fun _=>rfl) h (SE.fin [0,1] ⟨rfl,rfl,rfl,rfl,rfl,trivial⟩ rfl) (fun n v y h=>?_)
 unfold ma at h
 refine ar ?_
 refine ab ?_
 refine aF rfl (bq rfl) ⟨rfl,rfl,trivial⟩ ?_
 refine ax ?_
 refine ag ?_
 show JC _ _ _ _ _
 refine ar ?_
 refine bK rfl (fun hb=>?_) (fun hb=>?_)
 ·
  replace h:=cF (nX hb) h;refine cR ?_;refine ag ?_;show JC _ _ _ _ _;refine ar ?_;refine aj ?_;refine ar ?_;refine ab ?_;obtain⟨s,es,h⟩:=aa h;refine aF rfl (aH (t:=.str) rfl Tryz.underlying51 ym es) ⟨rfl,rfl,trivial⟩ ?_;refine aF rfl (an (t:=.str) rfl ym rfl) ⟨rfl,trivial⟩ ?_;refine dn rfl rfl ?_;refine ax ?_;refine ag ?_;show JC _ _ _ _ _
  have hk:bm (y.2.length+sep.size)∧bm ((y.2++sj sep).length+s.size):=by
   apply Classical.byContradiction;intro hn;rw [if_neg hn] at h;cases h
  replace h:=cF hk h;refine wF 1 rfl fun hv=>?_;refine ar ?_;refine ab ?_;refine aC rfl rfl ?_;refine bN (Δ:=[_,_]) (F:=_) (fun _ _ _=>ay rfl _) rfl rfl (ao [.tmp 8,.tmp 69] rfl rfl Do rfl (mb (b:=b) (p:=some ⟨b,0,none⟩) (s:=sep) (.inr rfl) hv hk.1)) ⟨rfl,rfl,trivial⟩ fun v1=>?_;refine ax ?_;refine ag ?_;show JC _ _ _ _ _;refine wF 1 rfl fun hv1=>?_;refine ab ?_;refine aC rfl rfl ?_;refine bN (Δ:=[_,_]) (F:=_) (fun _ _ _=>ay rfl _) rfl rfl (ao [.tmp 8,.tmp 71] rfl rfl Do rfl (mb (b:=b) (p:=some ⟨b,0,none⟩) (s:=s) (.inr rfl) hv1 hk.2)) ⟨rfl,rfl,trivial⟩ fun v2=>?_;refine ax ?_;refine bS ?_;refine ag ?_;show JC _ _ _ _ _;refine ab ?_;obtain⟨z3,ez3,h⟩:=aa h;refine aF rfl (be rfl ez3) ⟨rfl,rfl,trivial⟩ ?_;refine aC rfl rfl ?_;refine ax ?_;refine ag ?_;exact jg (v2,(z3,(y.2++sj sep)++sj s)) h (SE.fin [0,1] ⟨rfl,rfl,rfl,rfl,rfl,trivial⟩ rfl)
 replace h:=bM (nk hb) h
 refine jI ?_
 refine cC ?_
 refine cC ?_
 refine eH ?_
 refine ag ?_
 show JC _ _ _ _ _
 replace h:(if y.2=[] then none else some (rj y.2):Option ByteArray).bind some=some r:=h
 have hy2:y.2≠[]:=by
  intro hn;rw [if_pos hn] at h;cases h
 rw [if_neg hy2] at h
 obtain rfl:=Option.some.inj h
 refine ar ?_
 refine ab ?_
 refine bN (Δ:=[_,_]) (F:=_) (fun _ _ _=>ay rfl _) rfl rfl (ao [.tmp 8] rfl rfl I5 rfl (xk (b:=b) (fun hn=>absurd hn hy2))) ⟨rfl,trivial⟩ fun _=>?_
 refine dn rfl rfl ?_
 refine ax ?_
 refine ag ?_
 show JC _ _ _ _ _
 refine bI ?_
 exact aN () [_] 0 ⟨rfl,trivial⟩ rfl
end Go.Proofs.YtmeojbemjkmebaaGreatDoor
