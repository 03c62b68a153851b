import Derived.Test.YtmeojbemjkmebaaGreatDoorREB5
import Derived.Test.YtmeojbemjkmebaaGreatDoorProg
import Derived.Stop.Asserts
set_option linter.unusedSimpArgs false
set_option linter.unusedVariables false
set_option maxRecDepth 20000
set_option maxHeartbeats 4000000
namespace Go.Proofs.YtmeojbemjkmebaaGreatDoor
open K Go Go.Proofs Go.Extern
theorem BG:dJ Tryz.prog 89 1 false:=⟨fun w=>by kernel_rfl,fun w=>by kernel_rfl⟩
theorem j0:dJ Tryz.prog 90 1 false:=⟨fun w=>by kernel_rfl,fun w=>by kernel_rfl⟩
theorem N8:aX Tryz.prog 92 0 0:=aX.of (by kernel_rfl)
theorem sx:aX Tryz.prog 92 1 1:=aX.of (by kernel_rfl)
theorem BN:mt Tryz.prog 90 5 1 1:=.of (z:=(.int .u8 (0))) Tryz.underlying90 (by kernel_rfl) rfl rfl rfl
theorem Oj:fX Tryz.prog 113 Extern.AbiNoEscape.same:=.of Tryz.func113 (by kernel_rfl) (by kernel_rfl) (by kernel_rfl) (by kernel_rfl)
theorem Di:ae Tryz.prog 82:=ae.of Tryz.func82 (by kernel_rfl) (by kernel_rfl)
theorem Om:ae Tryz.prog 83:=ae.of Tryz.func83 (by kernel_rfl) (by kernel_rfl)
@[reducible] def bA(p v:Value):A:=.agg (.pair (.eq p) (.eq v))
abbrev bP(b:Nat):Value:=.pointer (some ⟨b,0,none⟩)
theorem vE{p:Option Addr}:Ns Tryz.prog (binOp .eql 89 (.pointer p) (.pointer none)):=by
 cases p with
 |none=>exact oI (by kernel_rfl)
 |some p=>exact oI (by kernel_rfl)
theorem EV{p:Option Addr}{x y:Operand}(w:World):(do eqGuard .eql 89 x y (.pointer p) (.pointer none);binOp .eql 89 (.pointer p) (.pointer none):Sem Value).run Tryz.prog w= .ok (.bool p.isNone) w:=by
 cases p <;> kernel_rfl
theorem CO{p:Addr}:Ns Tryz.prog (binOp .neq 89 (.pointer (some p)) (.pointer (some p))):=by
 refine ah (s:=Op.equal 89 (.pointer (some p)) (.pointer (some p))) ?_ fun _=>bv;show Ns Tryz.prog (Op.equalIn (9999+1) 89 (.pointer (some p)) (.pointer (some p)));unfold Op.equalIn;refine cQ Tryz.underlying89 (ah cT fun n=>tA ?_ (tA bv (ah fH fun _=>bv)));unfold sameAddr;simp only [beq_self_eq_true,if_true];exact bv
theorem NS:∃j,Tryz.prog.info? 92=some j∧j.size≠0:=by
 obtain⟨j,h1,h2⟩:=Option.map_eq_some_iff.1 (show(Tryz.prog.info? 92).map (·.size)=some 2 by kernel_rfl);exact⟨j,h1,by omega⟩
theorem nX{b:Nat}{p:Option Addr}{v:Value}(hp:p=none∨p=some ⟨b,0,none⟩)(hv:bu v=true):bV Tryz.prog 82 [.eq (bP b)] [.obj b 92 (bA (.pointer p) v)] (fun _:Unit=>(bm [],[.obj b 92 (bA (bP b) v)])):=by
 obtain⟨j162,inf162_eq,inf162_sz⟩:=NS;refine bV.of 20 Tryz.func82 rfl Tryz.ntmps82 rfl fun S w0=>?_;refine ar ?_;refine ab ?_;refine aC rfl rfl ?_;refine aG rfl (aY rfl) ⟨rfl,trivial⟩ ?_;refine aG rfl (av rfl N8) ⟨rfl,trivial⟩ ?_;refine bU rfl rfl rfl (aj rfl BG (fun _=>rfl) rfl) ⟨rfl,trivial⟩ ?_;refine aG rfl (iV rfl EV vE) ⟨rfl,rfl,trivial⟩ ?_;refine ay ?_;refine ag ?_;show JC _ _ _ _ _;refine bG rfl (fun hb=>?_) (fun hb=>?_)
 ·refine ab ?_;refine aC rfl rfl ?_;refine aC rfl rfl ?_;refine bU rfl rfl rfl (Cm rfl Tryz.underlying89 Tryz.underlying180 inf162_eq inf162_sz rfl) ⟨rfl,trivial⟩ ?_;refine aG rfl (HE Oj [.tmp 9] [bP b] rfl rfl rfl (fun _=>rfl) bv) ⟨rfl,trivial⟩ ?_;refine bU rfl rfl rfl (yv rfl Tryz.underlying180 Tryz.underlying89 inf162_eq (by kernel_rfl)) ⟨rfl,trivial⟩ ?_;refine aG rfl (aY rfl) ⟨rfl,trivial⟩ ?_;refine aG rfl (av rfl N8) ⟨rfl,trivial⟩ ?_;refine bf rfl rfl (a8 rfl BG rfl rfl rfl) ⟨rfl,rfl,trivial⟩ ?_;refine ay ?_;refine jw ?_;exact aO () [] 1 trivial rfl
 ·have hp':p=some ⟨b,0,none⟩:=by
   rcases hp with rfl |rfl
   ·cases hb
   ·rfl
  subst hp';refine ar ?_;refine ab ?_;refine aC rfl rfl ?_;refine aG rfl (aY rfl) ⟨rfl,trivial⟩ ?_;refine aG rfl (av rfl N8) ⟨rfl,trivial⟩ ?_;refine bU rfl rfl rfl (aj rfl BG (fun _=>rfl) rfl) ⟨rfl,trivial⟩ ?_;refine aC rfl rfl ?_;refine aG rfl (Hy rfl Tryz.underlying89 inf162_eq CO) ⟨rfl,rfl,trivial⟩ ?_;refine ay ?_;refine ag ?_;show JC _ _ _ _ _;refine bG rfl (fun hb=>(by cases hb)) (fun hb=>?_);refine cX ?_;refine jw ?_;exact aO () [] 1 trivial rfl
theorem wH{v:Value}{l:List Int}{r:Int}(h0:0≤r)(h1:r≤127)(hl:bq (l.length+1)):bV Tryz.prog 83 [.eq v,.eq (.int .i32 r)] [.sl v 5 (.int .u8) l] (fun v':Value=>(bm [.eq v'],[.sl v' 5 (.int .u8) (l++[r])])):=by
 refine bV.of 16 Tryz.func83 rfl Tryz.ntmps83 rfl fun S w0=>?_;have w32:IntKind.u32.wrap r=r:=by simp [IntKind.wrap,IntKind.bits,IntKind.signed];omega
 have w8:IntKind.u8.wrap r=r:=by simp [IntKind.wrap,IntKind.bits,IntKind.signed];omega
 refine ar ?_;refine ab ?_;refine dE rfl ?_;refine ay ?_;refine ag ?_;show JC _ _ _ _ _;refine ar ?_;refine ar ?_;refine ab ?_;refine aC rfl rfl ?_;refine aG rfl (pi rfl Tryz.underlying21 Tryz.underlying172) ⟨rfl,trivial⟩ ?_;rw [w32];refine aG rfl (vC rfl) ⟨rfl,rfl,trivial⟩ ?_;refine ay ?_;refine ag ?_;show JC _ _ _ _ _;refine bG rfl (fun hb=>?_) (fun hb=>absurd h1 (by simpa using hb));refine ar ?_;refine ab ?_;refine aC rfl rfl ?_;refine aC rfl rfl ?_;refine aG rfl (pi rfl Tryz.underlying21 Tryz.underlying5) ⟨rfl,trivial⟩ ?_;rw [w8];refine aG rfl (be (t:=(.int .u8)) [(.tmp 10,.eq (.int .u8 r))] [r] rfl rfl BN (.cons rfl .int .nil) rfl rfl) ⟨rfl,trivial⟩ ?_;refine cz rfl rfl rfl (bp rfl rfl BN (by simpa using hl)) ⟨rfl,rfl,trivial⟩ fun v'=>?_;refine de rfl rfl ?_;refine ay ?_;refine ag ?_;show JC _ _ _ _ _;refine bH ?_;refine eD ?_;exact aO v' [_] 1 ⟨rfl,trivial⟩ rfl
theorem yk{b:Nat}{p:Option Addr}{v:Value}{l:List Int}{r:Int}(hp:p=none∨p=some ⟨b,0,none⟩)(hv:bu v=true)(h0:0≤r)(h1:r≤127)(hl:bq (l.length+1)):
 bV Tryz.prog 49 [.eq (bP b),.eq (.int .i32 r)] [.obj b 92 (bA (.pointer p) v),.sl v 5 (.int .u8) l]
  (fun v':Value=>(bm [.eq (.int .i64 1),.eq .nilIface],[.obj b 92 (bA (bP b) v'),.sl v' 5 (.int .u8) (l++[r])])):=by
 refine bV.of 30 Tryz.func49 rfl Tryz.ntmps49 rfl fun S w0=>?_
 refine ar ?_
 refine ab ?_
 refine dE rfl ?_
 refine dE rfl ?_
 refine ay ?_
 refine ag ?_
 show JC _ _ _ _ _
 refine ar ?_
 refine ab ?_
 refine aC rfl rfl ?_
 refine bU rfl rfl rfl (ap [.tmp 7] rfl rfl Di rfl (nX hp hv)) ⟨rfl,trivial⟩ ?_
 refine ay ?_
 refine ag ?_
 show JC _ _ _ _ _
 refine ar ?_
 refine ab ?_
 refine aC rfl rfl ?_
 refine aG rfl (aY rfl) ⟨rfl,trivial⟩ ?_
 refine aG rfl (av rfl sx) ⟨rfl,trivial⟩ ?_
 refine bU rfl rfl rfl (aj rfl j0 (fun _=>rfl) rfl) ⟨rfl,trivial⟩ ?_
 refine bF 1 rfl ?_
 refine bU rfl rfl rfl (cZ rfl rfl Tryz.underlying90) ⟨rfl,trivial⟩ ?_
 refine de rfl rfl ?_
 refine ay ?_
 refine ag ?_
 show JC _ _ _ _ _
 refine ar ?_
 refine ab ?_
 refine aC rfl rfl ?_
 refine aC rfl rfl ?_
 refine aG rfl (aY rfl) ⟨rfl,trivial⟩ ?_
 refine aG rfl (av rfl sx) ⟨rfl,trivial⟩ ?_
 refine bF 1 rfl ?_
 refine bU rfl rfl rfl (aj rfl j0 (fun _=>rfl) rfl) ⟨rfl,trivial⟩ ?_
 refine aC rfl rfl ?_
 refine bF 1 rfl ?_
 refine cz rfl rfl rfl (ap [.tmp 18,.tmp 19] rfl rfl Om rfl (wH h0 h1 hl)) ⟨rfl,rfl,trivial⟩ fun v'=>?_
 refine fy fun hv'=>?_
 refine aG rfl (aY rfl) ⟨rfl,trivial⟩ ?_
 refine aG rfl (av rfl sx) ⟨rfl,trivial⟩ ?_
 refine bF 1 rfl ?_
 refine bf rfl rfl (a8 rfl j0 hv' rfl rfl) ⟨rfl,rfl,trivial⟩ ?_
 refine ay ?_
 refine ag ?_
 show JC _ _ _ _ _
 refine ar ?_
 refine ab ?_
 refine aC rfl rfl ?_
 refine aG rfl (aY rfl) ⟨rfl,trivial⟩ ?_
 refine aG rfl (av rfl sx) ⟨rfl,trivial⟩ ?_
 refine bU rfl rfl rfl (aj rfl j0 (fun _=>rfl) rfl) ⟨rfl,trivial⟩ ?_
 refine bF 1 rfl ?_
 refine bU rfl rfl rfl (cZ rfl rfl Tryz.underlying90) ⟨rfl,trivial⟩ ?_
 refine aC rfl rfl ?_
 have hck:ck (((l++[r]).length:Int) - (l.length:Int))=some 1:=by
  have:(((l++[r]).length:Int) - (l.length:Int))=1:=by simp;omega
  rw [this];rfl
 refine aG rfl (fS rfl hck) ⟨rfl,rfl,trivial⟩ ?_
 refine de rfl rfl ?_
 refine dE rfl ?_
 refine ay ?_
 refine ag ?_
 show JC _ _ _ _ _
 refine bH ?_
 refine bz (SE.fin (Γ':=[(4,_),(5,_)]) [1,0] ⟨rfl,rfl,trivial⟩ rfl) ?_
 exact aO v' [_,_] 2 ⟨rfl,rfl,trivial⟩ rfl
theorem Um:Tryz.prog.cellsOf 5=1:=by kernel_rfl
theorem qY:Tryz.prog.follows .mixedOrders=true:=by kernel_rfl
theorem xc{b:Nat}{p v:Value}{l:List Int}(hl:l=[]→v= .slice none 0 0):
 bV Tryz.prog 50 [.eq (bP b)] [.obj b 92 (bA p v),.sl v 5 (.int .u8) l] (fun _:Unit=>(bm [.eq (.string (qL l))],[])):=by
 refine bV.of 14 Tryz.func50 rfl Tryz.ntmps50 rfl fun S w0=>?_
 refine ar ?_
 refine ab ?_
 refine dE rfl ?_
 refine ay ?_
 refine ag ?_
 show JC _ _ _ _ _
 refine ar ?_
 refine bR ?_
 refine dz rfl rfl rfl (aL rfl) ⟨rfl,trivial⟩ ?_
 refine dz rfl rfl rfl (aY rfl) ⟨rfl,trivial⟩ ?_
 refine dz rfl rfl rfl (av rfl sx) ⟨rfl,trivial⟩ ?_
 refine oy 0 rfl rfl rfl rfl (aj rfl j0 (fun _=>rfl) rfl) ⟨rfl,trivial⟩ ?_
 refine oy 1 rfl rfl rfl rfl (zZ rfl rfl hl) ⟨rfl,trivial⟩ ?_
 refine dz rfl rfl rfl (aL rfl) ⟨rfl,trivial⟩ ?_
 refine dz rfl rfl rfl (aY rfl) ⟨rfl,trivial⟩ ?_
 refine dz rfl rfl rfl (av rfl sx) ⟨rfl,trivial⟩ ?_
 refine oy 0 rfl rfl rfl rfl (aj rfl j0 (fun _=>rfl) rfl) ⟨rfl,trivial⟩ ?_
 refine oy 1 rfl rfl rfl rfl (cZ rfl rfl Tryz.underlying90) ⟨rfl,trivial⟩ ?_
 refine t7 (by kernel_rfl) qY ?_
 refine bF 1 rfl ?_
 refine bQ (Δ:=[_]) (F:=_) (fun _ _ _=>aA rfl _) rfl rfl (vy rfl rfl Tryz.underlying149 Um hl) ⟨rfl,rfl,trivial⟩ fun _=>?_
 refine de rfl rfl ?_
 refine ay ?_
 refine ag ?_
 show JC _ _ _ _ _
 refine bH ?_
 exact aO () [_] 0 ⟨rfl,trivial⟩ rfl
theorem SA:(Tryz.prog.info? 5).bind (·.zero)=some (.int .u8 0):=by kernel_rfl
theorem l9{b:Nat}{p:Option Addr}{v:Value}{l:List Int}{s:ByteArray}(hp:p=none∨p=some ⟨b,0,none⟩)(hv:bu v=true)(hl:bq (l.length+s.size)):
 bV Tryz.prog 85 [.eq (bP b),.eq (.string s)] [.obj b 92 (bA (.pointer p) v),.sl v 5 (.int .u8) l]
  (fun v':Value=>(bm [.eq (.int .i64 s.size),.eq .nilIface],[.obj b 92 (bA (bP b) v'),.sl v' 5 (.int .u8) (l++rK s)])):=by
 refine bV.of 19 Tryz.func85 rfl Tryz.ntmps85 rfl fun S w0=>?_
 refine ar ?_
 refine ab ?_
 refine dE rfl ?_
 refine dE rfl ?_
 refine ay ?_
 refine ag ?_
 show JC _ _ _ _ _
 refine ar ?_
 refine ab ?_
 refine aC rfl rfl ?_
 refine bU rfl rfl rfl (ap [.tmp 6] rfl rfl Di rfl (nX hp hv)) ⟨rfl,trivial⟩ ?_
 refine ay ?_
 refine ag ?_
 show JC _ _ _ _ _
 refine ar ?_
 refine ab ?_
 refine aC rfl rfl ?_
 refine aC rfl rfl ?_
 refine aG rfl (aY rfl) ⟨rfl,trivial⟩ ?_
 refine aG rfl (av rfl sx) ⟨rfl,trivial⟩ ?_
 refine bU rfl rfl rfl (aj rfl j0 (fun _=>rfl) rfl) ⟨rfl,trivial⟩ ?_
 refine aC rfl rfl ?_
 refine bF 1 rfl ?_
 refine cz rfl rfl rfl (Ag rfl rfl BN Tryz.underlying9 SA (by decide) hl) ⟨rfl,rfl,trivial⟩ fun v'=>?_
 refine fy fun hv'=>?_
 refine aG rfl (aY rfl) ⟨rfl,trivial⟩ ?_
 refine aG rfl (av rfl sx) ⟨rfl,trivial⟩ ?_
 refine bF 1 rfl ?_
 refine bf rfl rfl (a8 rfl j0 hv' rfl rfl) ⟨rfl,rfl,trivial⟩ ?_
 refine ay ?_
 refine ag ?_
 show JC _ _ _ _ _
 refine ar ?_
 refine ab ?_
 refine aC rfl rfl ?_
 refine aG rfl (nq rfl rfl Tryz.underlying9) ⟨rfl,trivial⟩ ?_
 refine de rfl rfl ?_
 refine dE rfl ?_
 refine ay ?_
 refine ag ?_
 show JC _ _ _ _ _
 refine bH ?_
 exact aO v' [_,_] 2 ⟨rfl,rfl,trivial⟩ rfl
theorem Oh:fX Tryz.prog 146 (Extern.BytealgMakeNoZero.makeNoZero #[3] #[90]):=.of Tryz.func146 (by kernel_rfl) (by kernel_rfl) (by kernel_rfl) (by kernel_rfl)
theorem Oi:ae Tryz.prog 115:=ae.of Tryz.func115 (by kernel_rfl) (by kernel_rfl)
def SC:Value→List D
 | .slice (some ⟨b,0,none⟩) m c=>[.sl (.slice (some ⟨b,0,none⟩) 0 c) 5 (.int .u8) []]
 |_=>[I3]
theorem Nu{v:Value}(h:∀d∈SC v,∃S w,d.holds S w):∃b m c,v= .slice (some ⟨b,0,none⟩) m c:=by
 unfold SC at h;split at h
 ·exact⟨_,_,_,rfl⟩
 ·obtain⟨S,w,hb⟩:=h I3 (by simp);exact absurd hb AX
theorem PO:dJ Tryz.prog 5 1 false:=⟨fun w=>by kernel_rfl,fun w=>by kernel_rfl⟩
theorem G2{b cap:Nat}:sliced (some ⟨b,0,none⟩) 0 (Int.toNat 0) cap 1= .slice (some ⟨b,0,none⟩) 0 cap:=DC
abbrev BP(bc:Nat×Nat):Value:=.slice (some ⟨bc.1,0,none⟩) 0 bc.2
theorem Ko{b n:Nat}{p:Value}(hn:n≤281474976710656):
 bV Tryz.prog 115 [.eq (bP b),.eq (.int .i64 n)] [.obj b 92 (bA p (.slice none 0 0))] (fun bc:Nat×Nat=>(bm [],[.obj b 92 (bA p (BP bc)),.sl (BP bc) 5 (.int .u8) []])):=by
 refine bV.of 30 Tryz.func115 rfl Tryz.ntmps115 rfl fun S w0=>?_
 have c1:ck (2 * ((0:Nat):Int))=some 0:=rfl
 have c2:ck (0+(n:Int))=some (n:Int):=by rw [Int.zero_add];unfold ck;rw [if_pos (by omega)]
 refine ar ?_
 refine jy ?_
 refine aI rfl rfl rfl (aL rfl) ⟨rfl,trivial⟩ ?_
 refine aI rfl rfl rfl (aY rfl) ⟨rfl,trivial⟩ ?_
 refine aI rfl rfl rfl (av rfl sx) ⟨rfl,trivial⟩ ?_
 refine di 0 rfl rfl rfl rfl (aj rfl j0 (fun _=>rfl) rfl) ⟨rfl,trivial⟩ ?_
 refine aI rfl rfl rfl (HG rfl rfl Tryz.underlying90) ⟨rfl,trivial⟩ ?_
 refine aI rfl rfl rfl (MU rfl c1) ⟨rfl,rfl,trivial⟩ ?_
 refine aI rfl rfl rfl (aL rfl) ⟨rfl,trivial⟩ ?_
 refine aI rfl rfl rfl (aW rfl c2) ⟨rfl,rfl,trivial⟩ ?_
 refine uM SC (fun _=>rfl) rfl rfl rfl (Hw Oh rfl rfl Tryz.underlying90 hn) ⟨rfl,trivial⟩ ?_
 refine aI rfl rfl rfl (aL rfl) ⟨rfl,trivial⟩ ?_
 refine aI rfl rfl rfl (aY rfl) ⟨rfl,trivial⟩ ?_
 refine aI rfl rfl rfl (av rfl sx) ⟨rfl,trivial⟩ ?_
 refine di 0 rfl rfl rfl rfl (aj rfl j0 (fun _=>rfl) rfl) ⟨rfl,trivial⟩ ?_
 refine aI rfl rfl rfl (HA rfl rfl Tryz.underlying90) ⟨rfl,trivial⟩ ?_
 refine mA 14 [true,true,true,true,true,true,true,true,true,true,true,true,true,true] [19,4] [] [] rfl (by kernel_rfl) (by kernel_rfl) (by kernel_rfl) qY (fun vs hv hB=>?_)
 obtain⟨u0,vs1,rfl,hv1⟩:=an hv
 obtain⟨u1,vs2,rfl,hv2⟩:=an hv1
 obtain⟨u2,vs3,rfl,hv3⟩:=an hv2
 obtain⟨u3,vs4,rfl,hv4⟩:=an hv3
 obtain⟨u4,vs5,rfl,hv5⟩:=an hv4
 obtain⟨u5,vs6,rfl,hv6⟩:=an hv5
 obtain⟨u6,vs7,rfl,hv7⟩:=an hv6
 obtain⟨u7,vs8,rfl,hv8⟩:=an hv7
 obtain⟨u8,vs9,rfl,hv9⟩:=an hv8
 obtain⟨u9,vs10,rfl,hv10⟩:=an hv9
 obtain⟨u10,vs11,rfl,hv11⟩:=an hv10
 obtain⟨u11,vs12,rfl,hv12⟩:=an hv11
 obtain⟨u12,vs13,rfl,hv13⟩:=an hv12
 obtain⟨u13,vs14,rfl,hv14⟩:=an hv13
 obtain rfl:=kg hv14
 obtain⟨g,m,q,rfl⟩:=Nu hB.2.2.2.2.2.2.2.2.1
 refine⟨[0,1],[.obj b 92 (bA p (.slice none 0 0)),.sl (BP (g,q)) 5 (.int .u8) []],by kernel_rfl,by decide,?_⟩
 refine pK rfl rfl rfl rfl (vz rfl Tryz.underlying90 PO (Int.le_refl 0) (Int.natCast_nonneg _)) ⟨rfl,rfl,trivial⟩ (by kernel_rfl) ?_
 rw [G2]
 refine pK rfl rfl rfl rfl (fU rfl) ⟨rfl,trivial⟩ (by kernel_rfl) ?_
 refine pL ?_
 refine bz (SE.fin (Γ':=[(0,.eq (bP b)),(4,.eq (BP (g,q)))]) (Δ':=[.obj b 92 (bA p (.slice none 0 0)),.sl (BP (g,q)) 5 (.int .u8) []]) [0,1] ⟨rfl,rfl,trivial⟩ rfl) ?_
 refine ag ?_
 show JC _ _ _ _ _
 refine ar ?_
 refine ab ?_
 refine aC rfl rfl ?_
 refine aC rfl rfl ?_
 refine aG rfl (aY rfl) ⟨rfl,trivial⟩ ?_
 refine aG rfl (av rfl sx) ⟨rfl,trivial⟩ ?_
 refine bU rfl rfl rfl (aj rfl j0 (fun _=>rfl) rfl) ⟨rfl,trivial⟩ ?_
 refine aG rfl (KB rfl rfl Tryz.underlying90 PO) ⟨rfl,rfl,trivial⟩ ?_
 refine ay ?_
 refine ag ?_
 show JC _ _ _ _ _
 refine ab ?_
 refine aC rfl rfl ?_
 refine aC rfl rfl ?_
 refine aG rfl (aY rfl) ⟨rfl,trivial⟩ ?_
 refine aG rfl (av rfl sx) ⟨rfl,trivial⟩ ?_
 refine bf rfl rfl (a8 rfl j0 rfl rfl rfl) ⟨rfl,rfl,trivial⟩ ?_
 refine ay ?_
 refine jw ?_
 exact aO (g,q) [] 2 trivial rfl
end Go.Proofs.YtmeojbemjkmebaaGreatDoor
set_option linter.unusedVariables false
set_option maxRecDepth 20000
set_option maxHeartbeats 4000000
namespace Go.Proofs.YtmeojbemjkmebaaGreatDoor
open K Go Go.Proofs Go.Extern
theorem G6{b n:Nat}(h0:0 < n)(hn:n≤281474976710656):
 bV Tryz.prog 84 [.eq (bP b),.eq (.int .i64 n)] [.obj b 92 (bA (.pointer none) (.slice none 0 0))] (fun bc:Nat×Nat=>(bm [],[.obj b 92 (bA (bP b) (BP bc)),.sl (BP bc) 5 (.int .u8) []])):=by
 refine bV.of 25 Tryz.func84 rfl Tryz.ntmps84 rfl fun S w0=>?_
 have c1:ck (((0:Nat):Int) - ((0:Nat):Int))=some 0:=rfl
 refine ar ?_
 refine ab ?_
 refine aC rfl rfl ?_
 refine bU rfl rfl rfl (ap [.tmp 4] rfl rfl Di rfl (nX (.inl rfl) rfl)) ⟨rfl,trivial⟩ ?_
 refine ay ?_
 refine ag ?_
 show JC _ _ _ _ _
 refine ar ?_
 refine ar ?_
 refine ab ?_
 refine aC rfl rfl ?_
 refine aG rfl (bg rfl) ⟨rfl,rfl,trivial⟩ ?_
 refine ay ?_
 refine ag ?_
 show JC _ _ _ _ _
 refine bG rfl (fun hb=>absurd (of_decide_eq_true hb) (by omega)) (fun hb=>?_)
 refine cX ?_
 refine ag ?_
 show JC _ _ _ _ _
 refine ar ?_
 refine bR ?_
 refine dz rfl rfl rfl (aL rfl) ⟨rfl,trivial⟩ ?_
 refine dz rfl rfl rfl (aY rfl) ⟨rfl,trivial⟩ ?_
 refine dz rfl rfl rfl (av rfl sx) ⟨rfl,trivial⟩ ?_
 refine oy 0 rfl rfl rfl rfl (aj rfl j0 (fun _=>rfl) rfl) ⟨rfl,trivial⟩ ?_
 refine dz rfl rfl rfl (HG rfl rfl Tryz.underlying90) ⟨rfl,trivial⟩ ?_
 refine dz rfl rfl rfl (aL rfl) ⟨rfl,trivial⟩ ?_
 refine dz rfl rfl rfl (aY rfl) ⟨rfl,trivial⟩ ?_
 refine dz rfl rfl rfl (av rfl sx) ⟨rfl,trivial⟩ ?_
 refine oy 0 rfl rfl rfl rfl (aj rfl j0 (fun _=>rfl) rfl) ⟨rfl,trivial⟩ ?_
 refine dz rfl rfl rfl (HA rfl rfl Tryz.underlying90) ⟨rfl,trivial⟩ ?_
 refine dz rfl rfl rfl (fS rfl c1) ⟨rfl,rfl,trivial⟩ ?_
 refine dz rfl rfl rfl (aL rfl) ⟨rfl,trivial⟩ ?_
 refine t7 (by kernel_rfl) qY ?_
 refine aG rfl (bg rfl) ⟨rfl,rfl,trivial⟩ ?_
 refine ay ?_
 refine ag ?_
 show JC _ _ _ _ _
 refine bG rfl (fun hb=>?_) (fun hb=>absurd (of_decide_eq_false hb) (by omega))
 refine ab ?_
 refine aC rfl rfl ?_
 refine aC rfl rfl ?_
 refine bQ (Δ:=[_]) (F:=_) (fun _ _ _=>aA rfl _) rfl rfl (ap [.tmp 22,.tmp 23] rfl rfl Oi rfl (Ko hn)) ⟨rfl,rfl,trivial⟩ fun bc=>?_
 refine ay ?_
 refine jw ?_
 exact aO bc [] 2 trivial rfl
theorem ye:dJ Tryz.prog 9 1 false:=⟨fun w=>by kernel_rfl,fun w=>by kernel_rfl⟩
theorem Oo:ae Tryz.prog 49:=ae.of Tryz.func49 (by kernel_rfl) (by kernel_rfl)
theorem IT:ae Tryz.prog 50:=ae.of Tryz.func50 (by kernel_rfl) (by kernel_rfl)
theorem Ol:ae Tryz.prog 84:=ae.of Tryz.func84 (by kernel_rfl) (by kernel_rfl)
theorem Dh:ae Tryz.prog 85:=ae.of Tryz.func85 (by kernel_rfl) (by kernel_rfl)
theorem Gx:∀w,(zeroValue 92).run Tryz.prog w= .ok (.agg #[.pointer none,.slice none 0 0]) w:=fun w=>by kernel_rfl
theorem M9:∀S w,(A.cells S w (bA (.pointer none) (.slice none 0 0)) (Value.cells (.agg #[.pointer none,.slice none 0 0])).toList):=fun _ _=>⟨[_],_,rfl,⟨rfl,rfl⟩,rfl,rfl⟩
def nV(ss:List ByteArray):Nat→Int×Int→Option Int
 |0,_=>none
 |n+1,y=>if y.1 < (ss.length:Int) then((aR ss y.1).bind fun s=>(ck ((9223372036854775807:Int) - y.2)).bind fun z=>if z < (s.size:Int) then none else(ck (y.2+(s.size:Int))).bind fun z2=>(ck (y.1+(1:Int))).bind fun z3=>nV ss n (z3,z2)) else some y.2
def l8(ss:List ByteArray)(sep:ByteArray):Nat→Int×List Int→Option (List Int)
 |0,_=>none
 |n+1,y=>if y.1 < (ss.length:Int) then((aR ss y.1).bind fun s=>if bq (y.2.length+sep.size)∧bq ((y.2++rK sep).length+s.size) then(ck (y.1+(1:Int))).bind fun z3=>l8 ss sep n (z3,(y.2++rK sep)++rK s) else none) else some y.2
def uC(k:Nat)(ss:List ByteArray)(sep:ByteArray):Option ByteArray:=
 if sep.size=1∧bq ss.length then
  if(ss.length:Int)=(0:Int) then some .empty
  else if(ss.length:Int)=(1:Int) then aR ss 0
  else(nV ss k ((0:Int),(ss.length:Int) - 1)).bind fun n=>
   if 0 < n∧n≤281474976710656 then(aR ss 0).bind fun s=>if bq s.size then(l8 (ss.drop 1) sep k ((0:Int),rK s)).bind fun l=>if l=[] then none else some (qL l) else none else none
 else none
theorem BO(k:Nat)(ss:List ByteArray)(sep:ByteArray)(r:ByteArray)(h:uC k ss sep=some r):
 bV Tryz.prog 51 [.rep (.slice .str) ss,.eq (.string sep)] [] (fun _:Unit=>(bm [.eq (.string r)],[])):=by
 unfold uC at h
 split at h
 case isFalse=>cases h
 rename_i hc
 obtain⟨hsep,hlen⟩:=hc
 unfold bq at hlen
 replace h:=aZ h
 refine bV.of 75 Tryz.func51 rfl Tryz.ntmps51 rfl fun S w0=>?_
 refine ar ?_
 refine ab ?_
 refine dE rfl ?_
 refine ay ?_
 refine ag ?_
 show JC _ _ _ _ _
 refine ar ?_
 refine ar ?_
 refine ab ?_
 refine aC rfl rfl ?_
 refine aG rfl (jQ rfl rfl Tryz.underlying51) ⟨rfl,trivial⟩ ?_
 refine ay ?_
 refine ag ?_
 show JC _ _ _ _ _
 refine ai ?_
 refine ar ?_
 refine ab ?_
 refine aG rfl (fq rfl) ⟨rfl,rfl,trivial⟩ ?_
 refine de rfl rfl ?_
 refine ay ?_
 refine ag ?_
 show JC _ _ _ _ _
 refine bG rfl (fun hb=>?_) (fun hb=>?_)
 ·
  replace h:=cG (oK hb) h;refine ar ?_;refine ab ?_;refine dE rfl ?_;refine ay ?_;refine ag ?_;show JC _ _ _ _ _;refine bH ?_;refine mz ?_;refine eD ?_;obtain rfl:=Option.some.inj h;exact aO () [_] 0 ⟨rfl,trivial⟩ rfl
 replace h:=bO (nL hb) h
 have hne0:=nL hb
 refine ar ?_
 refine ab ?_
 refine aG rfl (fq rfl) ⟨rfl,rfl,trivial⟩ ?_
 refine de rfl rfl ?_
 refine ay ?_
 refine ag ?_
 show JC _ _ _ _ _
 refine bG rfl (fun hb=>?_) (fun hb=>?_)
 ·
  replace h:=cG (oK hb) h;have es:aR ss 0=some r:=by simpa using h
  refine ar ?_;refine ab ?_;refine aC rfl rfl ?_;refine aG rfl (aD (t:=.str) rfl Tryz.underlying51 ye es) ⟨rfl,rfl,trivial⟩ ?_;refine aG rfl (ak (t:=.str) rfl ye rfl) ⟨rfl,trivial⟩ ?_;refine de rfl rfl ?_;refine ay ?_;refine ag ?_;show JC _ _ _ _ _;refine bH ?_;refine mz ?_;refine eD ?_;exact aO () [_] 0 ⟨rfl,trivial⟩ rfl
 replace h:=bO (nL hb) h
 have hne1:=nL hb
 refine cX ?_
 refine bX ?_
 refine ag ?_
 show JC _ _ _ _ _
 refine ar ?_
 refine ab ?_
 refine dE rfl ?_
 refine ay ?_
 refine ag ?_
 show JC _ _ _ _ _
 refine ar ?_
 refine ar ?_
 refine ab ?_
 refine aC rfl rfl ?_
 refine aG rfl (nq rfl rfl Tryz.underlying9) ⟨rfl,trivial⟩ ?_
 refine aG rfl (iD rfl) ⟨rfl,rfl,trivial⟩ ?_
 refine ay ?_
 refine ag ?_
 show JC _ _ _ _ _
 have c1:ck ((ss.length:Int) - 1)=some ((ss.length:Int) - 1):=by unfold ck;rw [if_pos (by omega)]
 have c2:ck ((sep.size:Int) * ((ss.length:Int) - 1))=some ((ss.length:Int) - 1):=by rw [hsep];simpa using c1
 have c3:ck (0+((ss.length:Int) - 1))=some ((ss.length:Int) - 1):=by rw [Int.zero_add];exact c1
 refine bG rfl (fun hb=>?_) (fun hb=>absurd (nL hb) (by omega))
 refine ar ?_
 refine ar ?_
 refine ab ?_
 refine aC rfl rfl ?_
 refine aG rfl (nq rfl rfl Tryz.underlying9) ⟨rfl,trivial⟩ ?_
 refine aC rfl rfl ?_
 refine aG rfl (jQ rfl rfl Tryz.underlying51) ⟨rfl,trivial⟩ ?_
 refine aG rfl (fS rfl c1) ⟨rfl,rfl,trivial⟩ ?_
 refine aG rfl (PV rfl (by omega)) ⟨rfl,rfl,trivial⟩ ?_
 refine aG rfl (qC rfl) ⟨rfl,rfl,trivial⟩ ?_
 refine ay ?_
 refine ag ?_
 show JC _ _ _ _ _
 refine bG rfl (fun hb=>?_) (fun hb=>?_)
 ·
  exfalso;have h1:=oK hb;have q1:(9223372036854775807:Int).tdiv ((ss.length:Int) - 1)=9223372036854775807 / ((ss.length:Int) - 1):=Int.tdiv_eq_ediv_of_nonneg (by omega);have q2:(2:Int)≤9223372036854775807 / ((ss.length:Int) - 1):=Int.le_ediv_of_mul_le (by omega) (by omega);have q3:(9223372036854775807:Int) / ((ss.length:Int) - 1)≤9223372036854775807:=Int.ediv_le_self _ (by omega);rw [q1,sE (z:=9223372036854775807 / ((ss.length:Int) - 1)) (by unfold ck;rw [if_pos (by omega)])] at h1;omega
 refine cX ?_
 refine ag ?_
 show JC _ _ _ _ _
 refine ab ?_
 refine aC rfl rfl ?_
 refine aC rfl rfl ?_
 refine aG rfl (nq rfl rfl Tryz.underlying9) ⟨rfl,trivial⟩ ?_
 refine aC rfl rfl ?_
 refine aG rfl (jQ rfl rfl Tryz.underlying51) ⟨rfl,trivial⟩ ?_
 refine aG rfl (fS rfl c1) ⟨rfl,rfl,trivial⟩ ?_
 refine aG rfl (MU rfl c2) ⟨rfl,rfl,trivial⟩ ?_
 refine aG rfl (aW rfl c3) ⟨rfl,rfl,trivial⟩ ?_
 refine de rfl rfl ?_
 refine ay ?_
 refine ag ?_
 show JC _ _ _ _ _
 rw [Option.bind_assoc] at h
 refine ar ?_
 refine ar ?_
 refine ab ?_
 refine aC rfl rfl ?_
 refine aG rfl (jQ rfl rfl Tryz.underlying51) ⟨rfl,trivial⟩ ?_
 refine ff rfl ?_
 refine ay ?_
 refine ag ?_
 show JC _ _ _ _ _
 refine ai ?_
 refine aK (Z:=Unit) (α:=Int×Int) (fun _ y=>[(0,.rep (.slice .str) ss),(1,.eq (.string sep)),(5,.eq (.int .i64 y.2)),(39,.rep (.slice .str) ss),(40,.eq (.int .i64 (ss.length:Int))),(41,.eq (.int .i64 y.1))]) (fun _ _=>[]) (nV ss) k () ((0:Int),(ss.length:Int) - 1) (fun _=>rfl) h (SE.fin [] ⟨rfl,rfl,rfl,rfl,rfl,rfl,trivial⟩ rfl) (fun n z y h=>?_)
 unfold nV at h
 refine ar ?_
 refine ab ?_
 refine aG rfl (bg rfl) ⟨rfl,rfl,trivial⟩ ?_
 refine ay ?_
 refine ag ?_
 show JC _ _ _ _ _
 refine ar ?_
 refine bG rfl (fun hb=>?_) (fun hb=>?_)
 ·
  replace h:=cG (oK hb) h;refine cX ?_;refine ag ?_;show JC _ _ _ _ _;refine ar ?_;refine ai ?_;refine ar ?_;refine ab ?_;obtain⟨s,es,h⟩:=aa h;refine aG rfl (aD (t:=.str) rfl Tryz.underlying51 ye es) ⟨rfl,rfl,trivial⟩ ?_;refine aG rfl (ak (t:=.str) rfl ye rfl) ⟨rfl,trivial⟩ ?_;refine de rfl rfl ?_;refine ay ?_;refine ag ?_;show JC _ _ _ _ _;refine ar ?_;refine ar ?_;refine ab ?_;refine aC rfl rfl ?_;refine aG rfl (nq rfl rfl Tryz.underlying9) ⟨rfl,trivial⟩ ?_;refine aC rfl rfl ?_;obtain⟨z,ez,h⟩:=aa h;refine aG rfl (fS rfl ez) ⟨rfl,rfl,trivial⟩ ?_;refine aG rfl (iD rfl) ⟨rfl,rfl,trivial⟩ ?_;refine ay ?_;refine ag ?_;show JC _ _ _ _ _;refine bG rfl (fun hb=>?_) (fun hb=>?_)
  ·replace h:=cG (oK hb) h;cases h
  replace h:=bO (nL hb) h;refine cX ?_;refine ag ?_;show JC _ _ _ _ _;refine ab ?_;refine aC rfl rfl ?_;refine aC rfl rfl ?_;refine aG rfl (nq rfl rfl Tryz.underlying9) ⟨rfl,trivial⟩ ?_;obtain⟨z2,ez2,h⟩:=aa h;refine aG rfl (aW rfl ez2) ⟨rfl,rfl,trivial⟩ ?_;refine de rfl rfl ?_;refine ay ?_;refine bX ?_;refine ag ?_;show JC _ _ _ _ _;refine ab ?_;obtain⟨z3,ez3,h⟩:=aa h;refine aG rfl (aW rfl ez3) ⟨rfl,rfl,trivial⟩ ?_;refine aC rfl rfl ?_;refine ay ?_;refine ag ?_;exact jf ((),(z3,z2)) h (SE.fin [] ⟨rfl,rfl,rfl,rfl,rfl,rfl,trivial⟩ rfl)
 replace h:=bO (nL hb) h
 refine jH ?_
 refine cp ?_
 refine cp ?_
 refine eH ?_
 refine ag ?_
 show JC _ _ _ _ _
 replace h:((if 0 < y.2∧y.2≤281474976710656 then(aR ss 0).bind fun s=>if bq s.size then(l8 (ss.drop 1) sep k ((0:Int),rK s)).bind fun l=>if l=[] then none else some (qL l) else none else none):Option ByteArray).bind some=some r:=h
 obtain⟨y1,y2⟩:=y
 have hy:0 < y2∧y2≤281474976710656:=by
  apply Classical.byContradiction;intro hn;rw [if_neg hn] at h;cases h
 replace h:=cG hy h
 obtain⟨m,rfl⟩:=Int.eq_ofNat_of_zero_le (show 0≤y2 by omega)
 obtain⟨s0,es0,h⟩:=aa h
 have hs0:bq s0.size:=by
  apply Classical.byContradiction;intro hn;rw [if_neg hn] at h;cases h
 replace h:=cG hs0 h
 rw [Option.bind_assoc] at h
 refine ar ?_
 refine ab ?_
 refine aE rfl rfl rfl (a9 rfl Gx M9) trivial fun b=>?_
 refine ay ?_
 refine ag ?_
 show JC _ _ _ _ _
 refine ar ?_
 refine ab ?_
 refine aC rfl rfl ?_
 refine bQ (Δ:=[_]) (F:=_) (fun _ _ _=>aA rfl _) rfl rfl (ap [.tmp 8,.tmp 56] rfl rfl Ol rfl (G6 (b:=b) (n:=m) (by omega) (by omega))) ⟨rfl,rfl,trivial⟩ fun bc=>?_
 refine ay ?_
 refine ag ?_
 show JC _ _ _ _ _
 refine ar ?_
 refine ab ?_
 refine aC rfl rfl ?_
 refine aG rfl (aD (t:=.str) rfl Tryz.underlying51 ye es0) ⟨rfl,rfl,trivial⟩ ?_
 refine aG rfl (ak (t:=.str) rfl ye rfl) ⟨rfl,trivial⟩ ?_
 refine bQ (Δ:=[_,_]) (F:=_) (fun _ _ _=>aA rfl _) rfl rfl (ap [.tmp 8,.tmp 60] rfl rfl Dh rfl (l9 (b:=b) (p:=some ⟨b,0,none⟩) (v:=BP bc) (l:=[]) (s:=s0) (.inr rfl) rfl (by simpa using hs0))) ⟨rfl,rfl,trivial⟩ fun v0=>?_
 refine ay ?_
 refine ag ?_
 show JC _ _ _ _ _
 refine ar ?_
 refine ar ?_
 refine ab ?_
 refine aC rfl rfl ?_
 refine aG rfl (E5 (t:=.str) rfl Tryz.underlying51 ye (by decide) (by omega)) ⟨rfl,rfl,trivial⟩ ?_
 refine aG rfl (jQ rfl rfl Tryz.underlying51) ⟨rfl,trivial⟩ ?_
 refine ff rfl ?_
 refine ay ?_
 refine ag ?_
 show JC _ _ _ _ _
 refine ai ?_
 refine aK (Z:=Value) (α:=Int×List Int) (fun _ y=>[(1,.eq (.string sep)),(8,.eq (bP b)),(63,.rep (.slice .str) (ss.drop 1)),(64,.eq (.int .i64 ((ss.drop 1).length:Int))),(65,.eq (.int .i64 y.1))]) (fun v y=>[.obj b 92 (bA (bP b) v),.sl v 5 (.int .u8) y.2]) (l8 (ss.drop 1) sep) k v0 ((0:Int),rK s0) (fun _=>rfl) h (SE.fin [0,1] ⟨rfl,rfl,rfl,rfl,rfl,trivial⟩ rfl) (fun n v y h=>?_)
 unfold l8 at h
 refine ar ?_
 refine ab ?_
 refine aG rfl (bg rfl) ⟨rfl,rfl,trivial⟩ ?_
 refine ay ?_
 refine ag ?_
 show JC _ _ _ _ _
 refine ar ?_
 refine bG rfl (fun hb=>?_) (fun hb=>?_)
 ·
  replace h:=cG (oK hb) h;refine cX ?_;refine ag ?_;show JC _ _ _ _ _;refine ar ?_;refine ai ?_;refine ar ?_;refine ab ?_;obtain⟨s,es,h⟩:=aa h;refine aG rfl (aD (t:=.str) rfl Tryz.underlying51 ye es) ⟨rfl,rfl,trivial⟩ ?_;refine aG rfl (ak (t:=.str) rfl ye rfl) ⟨rfl,trivial⟩ ?_;refine de rfl rfl ?_;refine ay ?_;refine ag ?_;show JC _ _ _ _ _
  have hk:bq (y.2.length+sep.size)∧bq ((y.2++rK sep).length+s.size):=by
   apply Classical.byContradiction;intro hn;rw [if_neg hn] at h;cases h
  replace h:=cG hk h;refine wu 1 rfl fun hv=>?_;refine ar ?_;refine ab ?_;refine aC rfl rfl ?_;refine bQ (Δ:=[_,_]) (F:=_) (fun _ _ _=>aA rfl _) rfl rfl (ap [.tmp 8,.tmp 69] rfl rfl Dh rfl (l9 (b:=b) (p:=some ⟨b,0,none⟩) (s:=sep) (.inr rfl) hv hk.1)) ⟨rfl,rfl,trivial⟩ fun v1=>?_;refine ay ?_;refine ag ?_;show JC _ _ _ _ _;refine wu 1 rfl fun hv1=>?_;refine ab ?_;refine aC rfl rfl ?_;refine bQ (Δ:=[_,_]) (F:=_) (fun _ _ _=>aA rfl _) rfl rfl (ap [.tmp 8,.tmp 71] rfl rfl Dh rfl (l9 (b:=b) (p:=some ⟨b,0,none⟩) (s:=s) (.inr rfl) hv1 hk.2)) ⟨rfl,rfl,trivial⟩ fun v2=>?_;refine ay ?_;refine bX ?_;refine ag ?_;show JC _ _ _ _ _;refine ab ?_;obtain⟨z3,ez3,h⟩:=aa h;refine aG rfl (aW rfl ez3) ⟨rfl,rfl,trivial⟩ ?_;refine aC rfl rfl ?_;refine ay ?_;refine ag ?_;exact jf (v2,(z3,(y.2++rK sep)++rK s)) h (SE.fin [0,1] ⟨rfl,rfl,rfl,rfl,rfl,trivial⟩ rfl)
 replace h:=bO (nL hb) h
 refine jH ?_
 refine cp ?_
 refine cp ?_
 refine eH ?_
 refine ag ?_
 show JC _ _ _ _ _
 replace h:(if y.2=[] then none else some (qL y.2):Option ByteArray).bind some=some r:=h
 have hy2:y.2≠[]:=by
  intro hn;rw [if_pos hn] at h;cases h
 rw [if_neg hy2] at h
 obtain rfl:=Option.some.inj h
 refine ar ?_
 refine ab ?_
 refine bQ (Δ:=[_,_]) (F:=_) (fun _ _ _=>aA rfl _) rfl rfl (ap [.tmp 8] rfl rfl IT rfl (xc (b:=b) (fun hn=>absurd hn hy2))) ⟨rfl,trivial⟩ fun _=>?_
 refine de rfl rfl ?_
 refine ay ?_
 refine ag ?_
 show JC _ _ _ _ _
 refine bH ?_
 exact aO () [_] 0 ⟨rfl,trivial⟩ rfl
end Go.Proofs.YtmeojbemjkmebaaGreatDoor
