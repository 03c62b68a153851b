import Derived.Test.YtghkncjelangeaaGreatDoorQBB5
import Derived.Test.YtghkncjelangeaaGreatDoorProg
import Derived.Stop.Asserts
set_option linter.unusedSimpArgs false
set_option linter.unusedVariables false
set_option maxRecDepth 20000
set_option maxHeartbeats 4000000
namespace Go.Proofs.YtghkncjelangeaaGreatDoor
open K Go Go.Proofs Go.Extern
theorem BK:dR Tryz.prog 144 1 false:=⟨fun w=>by kernel_rfl,fun w=>by kernel_rfl⟩
theorem kg:dR Tryz.prog 145 1 false:=⟨fun w=>by kernel_rfl,fun w=>by kernel_rfl⟩
theorem NR:a8 Tryz.prog 147 0 0:=a8.of (by kernel_rfl)
theorem su:a8 Tryz.prog 147 1 1:=a8.of (by kernel_rfl)
theorem BN:mt Tryz.prog 145 5 1 1:=.of (z:=(.int .u8 (0))) Tryz.underlying145 (by kernel_rfl) rfl rfl rfl
theorem N5:ge Tryz.prog 159 Extern.AbiNoEscape.same:=.of Tryz.func159 (by kernel_rfl) (by kernel_rfl) (by kernel_rfl) (by kernel_rfl)
theorem Db:ah Tryz.prog 125:=ah.of Tryz.func125 (by kernel_rfl) (by kernel_rfl)
theorem N7:ah Tryz.prog 126:=ah.of Tryz.func126 (by kernel_rfl) (by kernel_rfl)
@[reducible] def bA(p v:Value):A:=.agg (.pair (.eq p) (.eq v))
abbrev bP(b:Nat):Value:=.pointer (some ⟨b,0,none⟩)
theorem vz{p:Option Addr}:Ns Tryz.prog (binOp .eql 144 (.pointer p) (.pointer none)):=by
 cases p with
 |none=>exact oI (by kernel_rfl)
 |some p=>exact oI (by kernel_rfl)
theorem EV{p:Option Addr}{x y:Operand}(w:World):(do eqGuard .eql 144 x y (.pointer p) (.pointer none);binOp .eql 144 (.pointer p) (.pointer none):Sem Value).run Tryz.prog w= .ok (.bool p.isNone) w:=by
 cases p <;> kernel_rfl
theorem CL{p:Addr}:Ns Tryz.prog (binOp .neq 144 (.pointer (some p)) (.pointer (some p))):=by
 refine ai (s:=Op.equal 144 (.pointer (some p)) (.pointer (some p))) ?_ fun _=>bF;show Ns Tryz.prog (Op.equalIn (9999+1) 144 (.pointer (some p)) (.pointer (some p)));unfold Op.equalIn;refine cU Tryz.underlying144 (ai c6 fun n=>tu ?_ (tu bF (ai fR fun _=>bF)));unfold sameAddr;simp only [beq_self_eq_true,if_true];exact bF
theorem NA:∃j,Tryz.prog.info? 147=some j∧j.size≠0:=by
 obtain⟨j,h1,h2⟩:=Option.map_eq_some_iff.1 (show(Tryz.prog.info? 147).map (·.size)=some 2 by kernel_rfl);exact⟨j,h1,by omega⟩
theorem nX{b:Nat}{p:Option Addr}{v:Value}(hp:p=none∨p=some ⟨b,0,none⟩)(hv:bD v=true):cd Tryz.prog 125 [.eq (bP b)] [.obj b 147 (bA (.pointer p) v)] (fun _:Unit=>(bv [],[.obj b 147 (bA (bP b) v)])):=by
 obtain⟨j162,inf162_eq,inf162_sz⟩:=NA;refine cd.of 20 Tryz.func125 rfl Tryz.ntmps125 rfl fun S w0=>?_;refine ae ?_;refine ab ?_;refine aB rfl rfl ?_;refine aE rfl (ba rfl) ⟨rfl,trivial⟩ ?_;refine aE rfl (ar rfl NR) ⟨rfl,trivial⟩ ?_;refine bY rfl rfl rfl (aj rfl BK (fun _=>rfl) rfl) ⟨rfl,trivial⟩ ?_;refine aE rfl (iY rfl EV vz) ⟨rfl,rfl,trivial⟩ ?_;refine au ?_;refine ag ?_;show JC _ _ _ _ _;refine bM rfl (fun hb=>?_) (fun hb=>?_)
 ·refine ab ?_;refine aB rfl rfl ?_;refine aB rfl rfl ?_;refine bY rfl rfl rfl (Ce rfl Tryz.underlying144 Tryz.underlying163 inf162_eq inf162_sz rfl) ⟨rfl,trivial⟩ ?_;refine aE rfl (HC N5 [.tmp 9] [bP b] rfl rfl rfl (fun _=>rfl) bF) ⟨rfl,trivial⟩ ?_;refine bY rfl rfl rfl (yn rfl Tryz.underlying163 Tryz.underlying144 inf162_eq (by kernel_rfl)) ⟨rfl,trivial⟩ ?_;refine aE rfl (ba rfl) ⟨rfl,trivial⟩ ?_;refine aE rfl (ar rfl NR) ⟨rfl,trivial⟩ ?_;refine bh rfl rfl (be rfl BK rfl rfl rfl) ⟨rfl,rfl,trivial⟩ ?_;refine au ?_;refine jD ?_;exact aO () [] 1 trivial rfl
 ·have hp':p=some ⟨b,0,none⟩:=by
   rcases hp with rfl |rfl
   ·cases hb
   ·rfl
  subst hp';refine ae ?_;refine ab ?_;refine aB rfl rfl ?_;refine aE rfl (ba rfl) ⟨rfl,trivial⟩ ?_;refine aE rfl (ar rfl NR) ⟨rfl,trivial⟩ ?_;refine bY rfl rfl rfl (aj rfl BK (fun _=>rfl) rfl) ⟨rfl,trivial⟩ ?_;refine aB rfl rfl ?_;refine aE rfl (Hv rfl Tryz.underlying144 inf162_eq CL) ⟨rfl,rfl,trivial⟩ ?_;refine au ?_;refine ag ?_;show JC _ _ _ _ _;refine bM rfl (fun hb=>(by cases hb)) (fun hb=>?_);refine aW ?_;refine jD ?_;exact aO () [] 1 trivial rfl
theorem wx{v:Value}{l:List Int}{r:Int}(h0:0≤r)(h1:r≤127)(hl:bH (l.length+1)):cd Tryz.prog 126 [.eq v,.eq (.int .i32 r)] [.sl v 5 (.int .u8) l] (fun v':Value=>(bv [.eq v'],[.sl v' 5 (.int .u8) (l++[r])])):=by
 refine cd.of 16 Tryz.func126 rfl Tryz.ntmps126 rfl fun S w0=>?_;have w32:IntKind.u32.wrap r=r:=by simp [IntKind.wrap,IntKind.bits,IntKind.signed];omega
 have w8:IntKind.u8.wrap r=r:=by simp [IntKind.wrap,IntKind.bits,IntKind.signed];omega
 refine ae ?_;refine ab ?_;refine dK rfl ?_;refine au ?_;refine ag ?_;show JC _ _ _ _ _;refine ae ?_;refine ae ?_;refine ab ?_;refine aB rfl rfl ?_;refine aE rfl (pe rfl Tryz.underlying21 Tryz.underlying185) ⟨rfl,trivial⟩ ?_;rw [w32];refine aE rfl (vv rfl) ⟨rfl,rfl,trivial⟩ ?_;refine au ?_;refine ag ?_;show JC _ _ _ _ _;refine bM rfl (fun hb=>?_) (fun hb=>absurd h1 (by simpa using hb));refine ae ?_;refine ab ?_;refine aB rfl rfl ?_;refine aB rfl rfl ?_;refine aE rfl (pe rfl Tryz.underlying21 Tryz.underlying5) ⟨rfl,trivial⟩ ?_;rw [w8];refine aE rfl (bi (t:=(.int .u8)) [(.tmp 10,.eq (.int .u8 r))] [r] rfl rfl BN (.cons rfl .int .nil) rfl rfl) ⟨rfl,trivial⟩ ?_;refine cF rfl rfl rfl (bz rfl rfl BN (by simpa using hl)) ⟨rfl,rfl,trivial⟩ fun v'=>?_;refine dp rfl rfl ?_;refine au ?_;refine ag ?_;show JC _ _ _ _ _;refine aA ?_;refine aV ?_;exact aO v' [_] 1 ⟨rfl,trivial⟩ rfl
theorem yb{b:Nat}{p:Option Addr}{v:Value}{l:List Int}{r:Int}(hp:p=none∨p=some ⟨b,0,none⟩)(hv:bD v=true)(h0:0≤r)(h1:r≤127)(hl:bH (l.length+1)):
 cd Tryz.prog 91 [.eq (bP b),.eq (.int .i32 r)] [.obj b 147 (bA (.pointer p) v),.sl v 5 (.int .u8) l]
  (fun v':Value=>(bv [.eq (.int .i64 1),.eq .nilIface],[.obj b 147 (bA (bP b) v'),.sl v' 5 (.int .u8) (l++[r])])):=by
 refine cd.of 30 Tryz.func91 rfl Tryz.ntmps91 rfl fun S w0=>?_
 refine ae ?_
 refine ab ?_
 refine dK rfl ?_
 refine dK rfl ?_
 refine au ?_
 refine ag ?_
 show JC _ _ _ _ _
 refine ae ?_
 refine ab ?_
 refine aB rfl rfl ?_
 refine bY rfl rfl rfl (ap [.tmp 7] rfl rfl Db rfl (nX hp hv)) ⟨rfl,trivial⟩ ?_
 refine au ?_
 refine ag ?_
 show JC _ _ _ _ _
 refine ae ?_
 refine ab ?_
 refine aB rfl rfl ?_
 refine aE rfl (ba rfl) ⟨rfl,trivial⟩ ?_
 refine aE rfl (ar rfl su) ⟨rfl,trivial⟩ ?_
 refine bY rfl rfl rfl (aj rfl kg (fun _=>rfl) rfl) ⟨rfl,trivial⟩ ?_
 refine bL 1 rfl ?_
 refine bY rfl rfl rfl (dj rfl rfl Tryz.underlying145) ⟨rfl,trivial⟩ ?_
 refine dp rfl rfl ?_
 refine au ?_
 refine ag ?_
 show JC _ _ _ _ _
 refine ae ?_
 refine ab ?_
 refine aB rfl rfl ?_
 refine aB rfl rfl ?_
 refine aE rfl (ba rfl) ⟨rfl,trivial⟩ ?_
 refine aE rfl (ar rfl su) ⟨rfl,trivial⟩ ?_
 refine bL 1 rfl ?_
 refine bY rfl rfl rfl (aj rfl kg (fun _=>rfl) rfl) ⟨rfl,trivial⟩ ?_
 refine aB rfl rfl ?_
 refine bL 1 rfl ?_
 refine cF rfl rfl rfl (ap [.tmp 18,.tmp 19] rfl rfl N7 rfl (wx h0 h1 hl)) ⟨rfl,rfl,trivial⟩ fun v'=>?_
 refine fF fun hv'=>?_
 refine aE rfl (ba rfl) ⟨rfl,trivial⟩ ?_
 refine aE rfl (ar rfl su) ⟨rfl,trivial⟩ ?_
 refine bL 1 rfl ?_
 refine bh rfl rfl (be rfl kg hv' rfl rfl) ⟨rfl,rfl,trivial⟩ ?_
 refine au ?_
 refine ag ?_
 show JC _ _ _ _ _
 refine ae ?_
 refine ab ?_
 refine aB rfl rfl ?_
 refine aE rfl (ba rfl) ⟨rfl,trivial⟩ ?_
 refine aE rfl (ar rfl su) ⟨rfl,trivial⟩ ?_
 refine bY rfl rfl rfl (aj rfl kg (fun _=>rfl) rfl) ⟨rfl,trivial⟩ ?_
 refine bL 1 rfl ?_
 refine bY rfl rfl rfl (dj rfl rfl Tryz.underlying145) ⟨rfl,trivial⟩ ?_
 refine aB rfl rfl ?_
 have hck:ck (((l++[r]).length:Int) - (l.length:Int))=some 1:=by
  have:(((l++[r]).length:Int) - (l.length:Int))=1:=by simp;omega
  rw [this];rfl
 refine aE rfl (fK rfl hck) ⟨rfl,rfl,trivial⟩ ?_
 refine dp rfl rfl ?_
 refine dK rfl ?_
 refine au ?_
 refine ag ?_
 show JC _ _ _ _ _
 refine aA ?_
 refine bC (SE.fin (Γ':=[(4,_),(5,_)]) [1,0] ⟨rfl,rfl,trivial⟩ rfl) ?_
 exact aO v' [_,_] 2 ⟨rfl,rfl,trivial⟩ rfl
theorem T9:Tryz.prog.cellsOf 5=1:=by kernel_rfl
theorem qZ:Tryz.prog.follows .mixedOrders=true:=by kernel_rfl
theorem wV{b:Nat}{p v:Value}{l:List Int}(hl:l=[]→v= .slice none 0 0):
 cd Tryz.prog 92 [.eq (bP b)] [.obj b 147 (bA p v),.sl v 5 (.int .u8) l] (fun _:Unit=>(bv [.eq (.string (qL l))],[])):=by
 refine cd.of 14 Tryz.func92 rfl Tryz.ntmps92 rfl fun S w0=>?_
 refine ae ?_
 refine ab ?_
 refine dK rfl ?_
 refine au ?_
 refine ag ?_
 show JC _ _ _ _ _
 refine ae ?_
 refine bJ ?_
 refine dx rfl rfl rfl (aK rfl) ⟨rfl,trivial⟩ ?_
 refine dx rfl rfl rfl (ba rfl) ⟨rfl,trivial⟩ ?_
 refine dx rfl rfl rfl (ar rfl su) ⟨rfl,trivial⟩ ?_
 refine nb 0 rfl rfl rfl rfl (aj rfl kg (fun _=>rfl) rfl) ⟨rfl,trivial⟩ ?_
 refine nb 1 rfl rfl rfl rfl (zT rfl rfl hl) ⟨rfl,trivial⟩ ?_
 refine dx rfl rfl rfl (aK rfl) ⟨rfl,trivial⟩ ?_
 refine dx rfl rfl rfl (ba rfl) ⟨rfl,trivial⟩ ?_
 refine dx rfl rfl rfl (ar rfl su) ⟨rfl,trivial⟩ ?_
 refine nb 0 rfl rfl rfl rfl (aj rfl kg (fun _=>rfl) rfl) ⟨rfl,trivial⟩ ?_
 refine nb 1 rfl rfl rfl rfl (dj rfl rfl Tryz.underlying145) ⟨rfl,trivial⟩ ?_
 refine tZ (by kernel_rfl) qZ ?_
 refine bL 1 rfl ?_
 refine bU (Δ:=[_]) (F:=_) (fun _ _ _=>ax rfl _) rfl rfl (vq rfl rfl Tryz.underlying199 T9 hl) ⟨rfl,rfl,trivial⟩ fun _=>?_
 refine dp rfl rfl ?_
 refine au ?_
 refine ag ?_
 show JC _ _ _ _ _
 refine aA ?_
 exact aO () [_] 0 ⟨rfl,trivial⟩ rfl
theorem R7:(Tryz.prog.info? 5).bind (·.zero)=some (.int .u8 0):=by kernel_rfl
theorem ma{b:Nat}{p:Option Addr}{v:Value}{l:List Int}{s:ByteArray}(hp:p=none∨p=some ⟨b,0,none⟩)(hv:bD v=true)(hl:bH (l.length+s.size)):
 cd Tryz.prog 128 [.eq (bP b),.eq (.string s)] [.obj b 147 (bA (.pointer p) v),.sl v 5 (.int .u8) l]
  (fun v':Value=>(bv [.eq (.int .i64 s.size),.eq .nilIface],[.obj b 147 (bA (bP b) v'),.sl v' 5 (.int .u8) (l++rL s)])):=by
 refine cd.of 19 Tryz.func128 rfl Tryz.ntmps128 rfl fun S w0=>?_
 refine ae ?_
 refine ab ?_
 refine dK rfl ?_
 refine dK rfl ?_
 refine au ?_
 refine ag ?_
 show JC _ _ _ _ _
 refine ae ?_
 refine ab ?_
 refine aB rfl rfl ?_
 refine bY rfl rfl rfl (ap [.tmp 6] rfl rfl Db rfl (nX hp hv)) ⟨rfl,trivial⟩ ?_
 refine au ?_
 refine ag ?_
 show JC _ _ _ _ _
 refine ae ?_
 refine ab ?_
 refine aB rfl rfl ?_
 refine aB rfl rfl ?_
 refine aE rfl (ba rfl) ⟨rfl,trivial⟩ ?_
 refine aE rfl (ar rfl su) ⟨rfl,trivial⟩ ?_
 refine bY rfl rfl rfl (aj rfl kg (fun _=>rfl) rfl) ⟨rfl,trivial⟩ ?_
 refine aB rfl rfl ?_
 refine bL 1 rfl ?_
 refine cF rfl rfl rfl (Aa rfl rfl BN Tryz.underlying9 R7 (by decide) hl) ⟨rfl,rfl,trivial⟩ fun v'=>?_
 refine fF fun hv'=>?_
 refine aE rfl (ba rfl) ⟨rfl,trivial⟩ ?_
 refine aE rfl (ar rfl su) ⟨rfl,trivial⟩ ?_
 refine bL 1 rfl ?_
 refine bh rfl rfl (be rfl kg hv' rfl rfl) ⟨rfl,rfl,trivial⟩ ?_
 refine au ?_
 refine ag ?_
 show JC _ _ _ _ _
 refine ae ?_
 refine ab ?_
 refine aB rfl rfl ?_
 refine aE rfl (ny rfl rfl Tryz.underlying9) ⟨rfl,trivial⟩ ?_
 refine dp rfl rfl ?_
 refine dK rfl ?_
 refine au ?_
 refine ag ?_
 show JC _ _ _ _ _
 refine aA ?_
 exact aO v' [_,_] 2 ⟨rfl,rfl,trivial⟩ rfl
theorem N3:ge Tryz.prog 179 (Extern.BytealgMakeNoZero.makeNoZero #[3] #[145]):=.of Tryz.func179 (by kernel_rfl) (by kernel_rfl) (by kernel_rfl) (by kernel_rfl)
theorem N4:ah Tryz.prog 161:=ah.of Tryz.func161 (by kernel_rfl) (by kernel_rfl)
def Si:Value→List D
 | .slice (some ⟨b,0,none⟩) m c=>[.sl (.slice (some ⟨b,0,none⟩) 0 c) 5 (.int .u8) []]
 |_=>[IW]
theorem M9{v:Value}(h:∀d∈Si v,∃S w,d.holds S w):∃b m c,v= .slice (some ⟨b,0,none⟩) m c:=by
 unfold Si at h;split at h
 ·exact⟨_,_,_,rfl⟩
 ·obtain⟨S,w,hb⟩:=h IW (by simp);exact absurd hb AT
theorem Px:dR Tryz.prog 5 1 false:=⟨fun w=>by kernel_rfl,fun w=>by kernel_rfl⟩
theorem GZ{b cap:Nat}:sliced (some ⟨b,0,none⟩) 0 (Int.toNat 0) cap 1= .slice (some ⟨b,0,none⟩) 0 cap:=Dz
abbrev BP(bc:Nat×Nat):Value:=.slice (some ⟨bc.1,0,none⟩) 0 bc.2
theorem J2{b n:Nat}{p:Value}(hn:n≤281474976710656):
 cd Tryz.prog 161 [.eq (bP b),.eq (.int .i64 n)] [.obj b 147 (bA p (.slice none 0 0))] (fun bc:Nat×Nat=>(bv [],[.obj b 147 (bA p (BP bc)),.sl (BP bc) 5 (.int .u8) []])):=by
 refine cd.of 30 Tryz.func161 rfl Tryz.ntmps161 rfl fun S w0=>?_
 have c1:ck (2 * ((0:Nat):Int))=some 0:=rfl
 have c2:ck (0+(n:Int))=some (n:Int):=by rw [Int.zero_add];unfold ck;rw [if_pos (by omega)]
 refine ae ?_
 refine jF ?_
 refine aH rfl rfl rfl (aK rfl) ⟨rfl,trivial⟩ ?_
 refine aH rfl rfl rfl (ba rfl) ⟨rfl,trivial⟩ ?_
 refine aH rfl rfl rfl (ar rfl su) ⟨rfl,trivial⟩ ?_
 refine dr 0 rfl rfl rfl rfl (aj rfl kg (fun _=>rfl) rfl) ⟨rfl,trivial⟩ ?_
 refine aH rfl rfl rfl (HE rfl rfl Tryz.underlying145) ⟨rfl,trivial⟩ ?_
 refine aH rfl rfl rfl (MI rfl c1) ⟨rfl,rfl,trivial⟩ ?_
 refine aH rfl rfl rfl (aK rfl) ⟨rfl,trivial⟩ ?_
 refine aH rfl rfl rfl (bb rfl c2) ⟨rfl,rfl,trivial⟩ ?_
 refine uJ Si (fun _=>rfl) rfl rfl rfl (Hu N3 rfl rfl Tryz.underlying145 hn) ⟨rfl,trivial⟩ ?_
 refine aH rfl rfl rfl (aK rfl) ⟨rfl,trivial⟩ ?_
 refine aH rfl rfl rfl (ba rfl) ⟨rfl,trivial⟩ ?_
 refine aH rfl rfl rfl (ar rfl su) ⟨rfl,trivial⟩ ?_
 refine dr 0 rfl rfl rfl rfl (aj rfl kg (fun _=>rfl) rfl) ⟨rfl,trivial⟩ ?_
 refine aH rfl rfl rfl (Hy rfl rfl Tryz.underlying145) ⟨rfl,trivial⟩ ?_
 refine mB 14 [true,true,true,true,true,true,true,true,true,true,true,true,true,true] [19,4] [] [] rfl (by kernel_rfl) (by kernel_rfl) (by kernel_rfl) qZ (fun vs hv hB=>?_)
 obtain⟨u0,vs1,rfl,hv1⟩:=an hv
 obtain⟨u1,vs2,rfl,hv2⟩:=an hv1
 obtain⟨u2,vs3,rfl,hv3⟩:=an hv2
 obtain⟨u3,vs4,rfl,hv4⟩:=an hv3
 obtain⟨u4,vs5,rfl,hv5⟩:=an hv4
 obtain⟨u5,vs6,rfl,hv6⟩:=an hv5
 obtain⟨u6,vs7,rfl,hv7⟩:=an hv6
 obtain⟨u7,vs8,rfl,hv8⟩:=an hv7
 obtain⟨u8,vs9,rfl,hv9⟩:=an hv8
 obtain⟨u9,vs10,rfl,hv10⟩:=an hv9
 obtain⟨u10,vs11,rfl,hv11⟩:=an hv10
 obtain⟨u11,vs12,rfl,hv12⟩:=an hv11
 obtain⟨u12,vs13,rfl,hv13⟩:=an hv12
 obtain⟨u13,vs14,rfl,hv14⟩:=an hv13
 obtain rfl:=kw hv14
 obtain⟨g,m,q,rfl⟩:=M9 hB.2.2.2.2.2.2.2.2.1
 refine⟨[0,1],[.obj b 147 (bA p (.slice none 0 0)),.sl (BP (g,q)) 5 (.int .u8) []],by kernel_rfl,by decide,?_⟩
 refine pI rfl rfl rfl rfl (vr rfl Tryz.underlying145 Px (Int.le_refl 0) (Int.natCast_nonneg _)) ⟨rfl,rfl,trivial⟩ (by kernel_rfl) ?_
 rw [GZ]
 refine pI rfl rfl rfl rfl (fC rfl) ⟨rfl,trivial⟩ (by kernel_rfl) ?_
 refine pJ ?_
 refine bC (SE.fin (Γ':=[(0,.eq (bP b)),(4,.eq (BP (g,q)))]) (Δ':=[.obj b 147 (bA p (.slice none 0 0)),.sl (BP (g,q)) 5 (.int .u8) []]) [0,1] ⟨rfl,rfl,trivial⟩ rfl) ?_
 refine ag ?_
 show JC _ _ _ _ _
 refine ae ?_
 refine ab ?_
 refine aB rfl rfl ?_
 refine aB rfl rfl ?_
 refine aE rfl (ba rfl) ⟨rfl,trivial⟩ ?_
 refine aE rfl (ar rfl su) ⟨rfl,trivial⟩ ?_
 refine bY rfl rfl rfl (aj rfl kg (fun _=>rfl) rfl) ⟨rfl,trivial⟩ ?_
 refine aE rfl (Kt rfl rfl Tryz.underlying145 Px) ⟨rfl,rfl,trivial⟩ ?_
 refine au ?_
 refine ag ?_
 show JC _ _ _ _ _
 refine ab ?_
 refine aB rfl rfl ?_
 refine aB rfl rfl ?_
 refine aE rfl (ba rfl) ⟨rfl,trivial⟩ ?_
 refine aE rfl (ar rfl su) ⟨rfl,trivial⟩ ?_
 refine bh rfl rfl (be rfl kg rfl rfl rfl) ⟨rfl,rfl,trivial⟩ ?_
 refine au ?_
 refine jD ?_
 exact aO (g,q) [] 2 trivial rfl
end Go.Proofs.YtghkncjelangeaaGreatDoor
set_option linter.unusedVariables false
set_option maxRecDepth 20000
set_option maxHeartbeats 4000000
namespace Go.Proofs.YtghkncjelangeaaGreatDoor
open K Go Go.Proofs Go.Extern
theorem G4{b n:Nat}(h0:0 < n)(hn:n≤281474976710656):
 cd Tryz.prog 127 [.eq (bP b),.eq (.int .i64 n)] [.obj b 147 (bA (.pointer none) (.slice none 0 0))] (fun bc:Nat×Nat=>(bv [],[.obj b 147 (bA (bP b) (BP bc)),.sl (BP bc) 5 (.int .u8) []])):=by
 refine cd.of 25 Tryz.func127 rfl Tryz.ntmps127 rfl fun S w0=>?_
 have c1:ck (((0:Nat):Int) - ((0:Nat):Int))=some 0:=rfl
 refine ae ?_
 refine ab ?_
 refine aB rfl rfl ?_
 refine bY rfl rfl rfl (ap [.tmp 4] rfl rfl Db rfl (nX (.inl rfl) rfl)) ⟨rfl,trivial⟩ ?_
 refine au ?_
 refine ag ?_
 show JC _ _ _ _ _
 refine ae ?_
 refine ae ?_
 refine ab ?_
 refine aB rfl rfl ?_
 refine aE rfl (bm rfl) ⟨rfl,rfl,trivial⟩ ?_
 refine au ?_
 refine ag ?_
 show JC _ _ _ _ _
 refine bM rfl (fun hb=>absurd (of_decide_eq_true hb) (by omega)) (fun hb=>?_)
 refine aW ?_
 refine ag ?_
 show JC _ _ _ _ _
 refine ae ?_
 refine bJ ?_
 refine dx rfl rfl rfl (aK rfl) ⟨rfl,trivial⟩ ?_
 refine dx rfl rfl rfl (ba rfl) ⟨rfl,trivial⟩ ?_
 refine dx rfl rfl rfl (ar rfl su) ⟨rfl,trivial⟩ ?_
 refine nb 0 rfl rfl rfl rfl (aj rfl kg (fun _=>rfl) rfl) ⟨rfl,trivial⟩ ?_
 refine dx rfl rfl rfl (HE rfl rfl Tryz.underlying145) ⟨rfl,trivial⟩ ?_
 refine dx rfl rfl rfl (aK rfl) ⟨rfl,trivial⟩ ?_
 refine dx rfl rfl rfl (ba rfl) ⟨rfl,trivial⟩ ?_
 refine dx rfl rfl rfl (ar rfl su) ⟨rfl,trivial⟩ ?_
 refine nb 0 rfl rfl rfl rfl (aj rfl kg (fun _=>rfl) rfl) ⟨rfl,trivial⟩ ?_
 refine dx rfl rfl rfl (Hy rfl rfl Tryz.underlying145) ⟨rfl,trivial⟩ ?_
 refine dx rfl rfl rfl (fK rfl c1) ⟨rfl,rfl,trivial⟩ ?_
 refine dx rfl rfl rfl (aK rfl) ⟨rfl,trivial⟩ ?_
 refine tZ (by kernel_rfl) qZ ?_
 refine aE rfl (bm rfl) ⟨rfl,rfl,trivial⟩ ?_
 refine au ?_
 refine ag ?_
 show JC _ _ _ _ _
 refine bM rfl (fun hb=>?_) (fun hb=>absurd (of_decide_eq_false hb) (by omega))
 refine ab ?_
 refine aB rfl rfl ?_
 refine aB rfl rfl ?_
 refine bU (Δ:=[_]) (F:=_) (fun _ _ _=>ax rfl _) rfl rfl (ap [.tmp 22,.tmp 23] rfl rfl N4 rfl (J2 hn)) ⟨rfl,rfl,trivial⟩ fun bc=>?_
 refine au ?_
 refine jD ?_
 exact aO bc [] 2 trivial rfl
theorem xY:dR Tryz.prog 9 1 false:=⟨fun w=>by kernel_rfl,fun w=>by kernel_rfl⟩
theorem N9:ah Tryz.prog 91:=ah.of Tryz.func91 (by kernel_rfl) (by kernel_rfl)
theorem IO:ah Tryz.prog 92:=ah.of Tryz.func92 (by kernel_rfl) (by kernel_rfl)
theorem N6:ah Tryz.prog 127:=ah.of Tryz.func127 (by kernel_rfl) (by kernel_rfl)
theorem Da:ah Tryz.prog 128:=ah.of Tryz.func128 (by kernel_rfl) (by kernel_rfl)
theorem Gu:∀w,(zeroValue 147).run Tryz.prog w= .ok (.agg #[.pointer none,.slice none 0 0]) w:=fun w=>by kernel_rfl
theorem I8:∀S w,(A.cells S w (bA (.pointer none) (.slice none 0 0)) (Value.cells (.agg #[.pointer none,.slice none 0 0])).toList):=fun _ _=>⟨[_],_,rfl,⟨rfl,rfl⟩,rfl,rfl⟩
def nW(ss:List ByteArray):Nat→Int×Int→Option Int
 |0,_=>none
 |n+1,y=>if y.1 < (ss.length:Int) then((aP ss y.1).bind fun s=>(ck ((9223372036854775807:Int) - y.2)).bind fun z=>if z < (s.size:Int) then none else(ck (y.2+(s.size:Int))).bind fun z2=>(ck (y.1+(1:Int))).bind fun z3=>nW ss n (z3,z2)) else some y.2
def l9(ss:List ByteArray)(sep:ByteArray):Nat→Int×List Int→Option (List Int)
 |0,_=>none
 |n+1,y=>if y.1 < (ss.length:Int) then((aP ss y.1).bind fun s=>if bH (y.2.length+sep.size)∧bH ((y.2++rL sep).length+s.size) then(ck (y.1+(1:Int))).bind fun z3=>l9 ss sep n (z3,(y.2++rL sep)++rL s) else none) else some y.2
def ux(k:Nat)(ss:List ByteArray)(sep:ByteArray):Option ByteArray:=
 if sep.size=1∧bH ss.length then
  if(ss.length:Int)=(0:Int) then some .empty
  else if(ss.length:Int)=(1:Int) then aP ss 0
  else(nW ss k ((0:Int),(ss.length:Int) - 1)).bind fun n=>
   if 0 < n∧n≤281474976710656 then(aP ss 0).bind fun s=>if bH s.size then(l9 (ss.drop 1) sep k ((0:Int),rL s)).bind fun l=>if l=[] then none else some (qL l) else none else none
 else none
theorem BO(k:Nat)(ss:List ByteArray)(sep:ByteArray)(r:ByteArray)(h:ux k ss sep=some r):
 cd Tryz.prog 93 [.rep (.slice .str) ss,.eq (.string sep)] [] (fun _:Unit=>(bv [.eq (.string r)],[])):=by
 unfold ux at h
 split at h
 case isFalse=>cases h
 rename_i hc
 obtain⟨hsep,hlen⟩:=hc
 unfold bH at hlen
 replace h:=a9 h
 refine cd.of 75 Tryz.func93 rfl Tryz.ntmps93 rfl fun S w0=>?_
 refine ae ?_
 refine ab ?_
 refine dK rfl ?_
 refine au ?_
 refine ag ?_
 show JC _ _ _ _ _
 refine ae ?_
 refine ae ?_
 refine ab ?_
 refine aB rfl rfl ?_
 refine aE rfl (jm rfl rfl Tryz.underlying143) ⟨rfl,trivial⟩ ?_
 refine au ?_
 refine ag ?_
 show JC _ _ _ _ _
 refine ao ?_
 refine ae ?_
 refine ab ?_
 refine aE rfl (fL rfl) ⟨rfl,rfl,trivial⟩ ?_
 refine dp rfl rfl ?_
 refine au ?_
 refine ag ?_
 show JC _ _ _ _ _
 refine bM rfl (fun hb=>?_) (fun hb=>?_)
 ·
  replace h:=cE (oq hb) h;refine ae ?_;refine ab ?_;refine dK rfl ?_;refine au ?_;refine ag ?_;show JC _ _ _ _ _;refine aA ?_;refine bj ?_;refine aV ?_;obtain rfl:=Option.some.inj h;exact aO () [_] 0 ⟨rfl,trivial⟩ rfl
 replace h:=bQ (nN hb) h
 have hne0:=nN hb
 refine ae ?_
 refine ab ?_
 refine aE rfl (fL rfl) ⟨rfl,rfl,trivial⟩ ?_
 refine dp rfl rfl ?_
 refine au ?_
 refine ag ?_
 show JC _ _ _ _ _
 refine bM rfl (fun hb=>?_) (fun hb=>?_)
 ·
  replace h:=cE (oq hb) h;have es:aP ss 0=some r:=by simpa using h
  refine ae ?_;refine ab ?_;refine aB rfl rfl ?_;refine aE rfl (aC (t:=.str) rfl Tryz.underlying143 xY es) ⟨rfl,rfl,trivial⟩ ?_;refine aE rfl (ak (t:=.str) rfl xY rfl) ⟨rfl,trivial⟩ ?_;refine dp rfl rfl ?_;refine au ?_;refine ag ?_;show JC _ _ _ _ _;refine aA ?_;refine bj ?_;refine aV ?_;exact aO () [_] 0 ⟨rfl,trivial⟩ rfl
 replace h:=bQ (nN hb) h
 have hne1:=nN hb
 refine aW ?_
 refine aM ?_
 refine ag ?_
 show JC _ _ _ _ _
 refine ae ?_
 refine ab ?_
 refine dK rfl ?_
 refine au ?_
 refine ag ?_
 show JC _ _ _ _ _
 refine ae ?_
 refine ae ?_
 refine ab ?_
 refine aB rfl rfl ?_
 refine aE rfl (ny rfl rfl Tryz.underlying9) ⟨rfl,trivial⟩ ?_
 refine aE rfl (iz rfl) ⟨rfl,rfl,trivial⟩ ?_
 refine au ?_
 refine ag ?_
 show JC _ _ _ _ _
 have c1:ck ((ss.length:Int) - 1)=some ((ss.length:Int) - 1):=by unfold ck;rw [if_pos (by omega)]
 have c2:ck ((sep.size:Int) * ((ss.length:Int) - 1))=some ((ss.length:Int) - 1):=by rw [hsep];simpa using c1
 have c3:ck (0+((ss.length:Int) - 1))=some ((ss.length:Int) - 1):=by rw [Int.zero_add];exact c1
 refine bM rfl (fun hb=>?_) (fun hb=>absurd (nN hb) (by omega))
 refine ae ?_
 refine ae ?_
 refine ab ?_
 refine aB rfl rfl ?_
 refine aE rfl (ny rfl rfl Tryz.underlying9) ⟨rfl,trivial⟩ ?_
 refine aB rfl rfl ?_
 refine aE rfl (jm rfl rfl Tryz.underlying143) ⟨rfl,trivial⟩ ?_
 refine aE rfl (fK rfl c1) ⟨rfl,rfl,trivial⟩ ?_
 refine aE rfl (PH rfl (by omega)) ⟨rfl,rfl,trivial⟩ ?_
 refine aE rfl (qD rfl) ⟨rfl,rfl,trivial⟩ ?_
 refine au ?_
 refine ag ?_
 show JC _ _ _ _ _
 refine bM rfl (fun hb=>?_) (fun hb=>?_)
 ·
  exfalso;have h1:=oq hb;have q1:(9223372036854775807:Int).tdiv ((ss.length:Int) - 1)=9223372036854775807 / ((ss.length:Int) - 1):=Int.tdiv_eq_ediv_of_nonneg (by omega);have q2:(2:Int)≤9223372036854775807 / ((ss.length:Int) - 1):=Int.le_ediv_of_mul_le (by omega) (by omega);have q3:(9223372036854775807:Int) / ((ss.length:Int) - 1)≤9223372036854775807:=Int.ediv_le_self _ (by omega);rw [q1,sC (z:=9223372036854775807 / ((ss.length:Int) - 1)) (by unfold ck;rw [if_pos (by omega)])] at h1;omega
 refine aW ?_
 refine ag ?_
 show JC _ _ _ _ _
 refine ab ?_
 refine aB rfl rfl ?_
 refine aB rfl rfl ?_
 refine aE rfl (ny rfl rfl Tryz.underlying9) ⟨rfl,trivial⟩ ?_
 refine aB rfl rfl ?_
 refine aE rfl (jm rfl rfl Tryz.underlying143) ⟨rfl,trivial⟩ ?_
 refine aE rfl (fK rfl c1) ⟨rfl,rfl,trivial⟩ ?_
 refine aE rfl (MI rfl c2) ⟨rfl,rfl,trivial⟩ ?_
 refine aE rfl (bb rfl c3) ⟨rfl,rfl,trivial⟩ ?_
 refine dp rfl rfl ?_
 refine au ?_
 refine ag ?_
 show JC _ _ _ _ _
 rw [Option.bind_assoc] at h
 refine ae ?_
 refine ae ?_
 refine ab ?_
 refine aB rfl rfl ?_
 refine aE rfl (jm rfl rfl Tryz.underlying143) ⟨rfl,trivial⟩ ?_
 refine fk rfl ?_
 refine au ?_
 refine ag ?_
 show JC _ _ _ _ _
 refine ao ?_
 refine aJ (Z:=Unit) (α:=Int×Int) (fun _ y=>[(0,.rep (.slice .str) ss),(1,.eq (.string sep)),(5,.eq (.int .i64 y.2)),(39,.rep (.slice .str) ss),(40,.eq (.int .i64 (ss.length:Int))),(41,.eq (.int .i64 y.1))]) (fun _ _=>[]) (nW ss) k () ((0:Int),(ss.length:Int) - 1) (fun _=>rfl) h (SE.fin [] ⟨rfl,rfl,rfl,rfl,rfl,rfl,trivial⟩ rfl) (fun n z y h=>?_)
 unfold nW at h
 refine ae ?_
 refine ab ?_
 refine aE rfl (bm rfl) ⟨rfl,rfl,trivial⟩ ?_
 refine au ?_
 refine ag ?_
 show JC _ _ _ _ _
 refine ae ?_
 refine bM rfl (fun hb=>?_) (fun hb=>?_)
 ·
  replace h:=cE (oq hb) h;refine aW ?_;refine ag ?_;show JC _ _ _ _ _;refine ae ?_;refine ao ?_;refine ae ?_;refine ab ?_;obtain⟨s,es,h⟩:=aa h;refine aE rfl (aC (t:=.str) rfl Tryz.underlying143 xY es) ⟨rfl,rfl,trivial⟩ ?_;refine aE rfl (ak (t:=.str) rfl xY rfl) ⟨rfl,trivial⟩ ?_;refine dp rfl rfl ?_;refine au ?_;refine ag ?_;show JC _ _ _ _ _;refine ae ?_;refine ae ?_;refine ab ?_;refine aB rfl rfl ?_;refine aE rfl (ny rfl rfl Tryz.underlying9) ⟨rfl,trivial⟩ ?_;refine aB rfl rfl ?_;obtain⟨z,ez,h⟩:=aa h;refine aE rfl (fK rfl ez) ⟨rfl,rfl,trivial⟩ ?_;refine aE rfl (iz rfl) ⟨rfl,rfl,trivial⟩ ?_;refine au ?_;refine ag ?_;show JC _ _ _ _ _;refine bM rfl (fun hb=>?_) (fun hb=>?_)
  ·replace h:=cE (oq hb) h;cases h
  replace h:=bQ (nN hb) h;refine aW ?_;refine ag ?_;show JC _ _ _ _ _;refine ab ?_;refine aB rfl rfl ?_;refine aB rfl rfl ?_;refine aE rfl (ny rfl rfl Tryz.underlying9) ⟨rfl,trivial⟩ ?_;obtain⟨z2,ez2,h⟩:=aa h;refine aE rfl (bb rfl ez2) ⟨rfl,rfl,trivial⟩ ?_;refine dp rfl rfl ?_;refine au ?_;refine aM ?_;refine ag ?_;show JC _ _ _ _ _;refine ab ?_;obtain⟨z3,ez3,h⟩:=aa h;refine aE rfl (bb rfl ez3) ⟨rfl,rfl,trivial⟩ ?_;refine aB rfl rfl ?_;refine au ?_;refine ag ?_;exact jk ((),(z3,z2)) h (SE.fin [] ⟨rfl,rfl,rfl,rfl,rfl,rfl,trivial⟩ rfl)
 replace h:=bQ (nN hb) h
 refine dM ?_
 refine aU ?_
 refine aU ?_
 refine bZ ?_
 refine ag ?_
 show JC _ _ _ _ _
 replace h:((if 0 < y.2∧y.2≤281474976710656 then(aP ss 0).bind fun s=>if bH s.size then(l9 (ss.drop 1) sep k ((0:Int),rL s)).bind fun l=>if l=[] then none else some (qL l) else none else none):Option ByteArray).bind some=some r:=h
 obtain⟨y1,y2⟩:=y
 have hy:0 < y2∧y2≤281474976710656:=by
  apply Classical.byContradiction;intro hn;rw [if_neg hn] at h;cases h
 replace h:=cE hy h
 obtain⟨m,rfl⟩:=Int.eq_ofNat_of_zero_le (show 0≤y2 by omega)
 obtain⟨s0,es0,h⟩:=aa h
 have hs0:bH s0.size:=by
  apply Classical.byContradiction;intro hn;rw [if_neg hn] at h;cases h
 replace h:=cE hs0 h
 rw [Option.bind_assoc] at h
 refine ae ?_
 refine ab ?_
 refine aF rfl rfl rfl (bf rfl Gu I8) trivial fun b=>?_
 refine au ?_
 refine ag ?_
 show JC _ _ _ _ _
 refine ae ?_
 refine ab ?_
 refine aB rfl rfl ?_
 refine bU (Δ:=[_]) (F:=_) (fun _ _ _=>ax rfl _) rfl rfl (ap [.tmp 8,.tmp 56] rfl rfl N6 rfl (G4 (b:=b) (n:=m) (by omega) (by omega))) ⟨rfl,rfl,trivial⟩ fun bc=>?_
 refine au ?_
 refine ag ?_
 show JC _ _ _ _ _
 refine ae ?_
 refine ab ?_
 refine aB rfl rfl ?_
 refine aE rfl (aC (t:=.str) rfl Tryz.underlying143 xY es0) ⟨rfl,rfl,trivial⟩ ?_
 refine aE rfl (ak (t:=.str) rfl xY rfl) ⟨rfl,trivial⟩ ?_
 refine bU (Δ:=[_,_]) (F:=_) (fun _ _ _=>ax rfl _) rfl rfl (ap [.tmp 8,.tmp 60] rfl rfl Da rfl (ma (b:=b) (p:=some ⟨b,0,none⟩) (v:=BP bc) (l:=[]) (s:=s0) (.inr rfl) rfl (by simpa using hs0))) ⟨rfl,rfl,trivial⟩ fun v0=>?_
 refine au ?_
 refine ag ?_
 show JC _ _ _ _ _
 refine ae ?_
 refine ae ?_
 refine ab ?_
 refine aB rfl rfl ?_
 refine aE rfl (E8 (t:=.str) rfl Tryz.underlying143 xY (by decide) (by omega)) ⟨rfl,rfl,trivial⟩ ?_
 refine aE rfl (jm rfl rfl Tryz.underlying143) ⟨rfl,trivial⟩ ?_
 refine fk rfl ?_
 refine au ?_
 refine ag ?_
 show JC _ _ _ _ _
 refine ao ?_
 refine aJ (Z:=Value) (α:=Int×List Int) (fun _ y=>[(1,.eq (.string sep)),(8,.eq (bP b)),(63,.rep (.slice .str) (ss.drop 1)),(64,.eq (.int .i64 ((ss.drop 1).length:Int))),(65,.eq (.int .i64 y.1))]) (fun v y=>[.obj b 147 (bA (bP b) v),.sl v 5 (.int .u8) y.2]) (l9 (ss.drop 1) sep) k v0 ((0:Int),rL s0) (fun _=>rfl) h (SE.fin [0,1] ⟨rfl,rfl,rfl,rfl,rfl,trivial⟩ rfl) (fun n v y h=>?_)
 unfold l9 at h
 refine ae ?_
 refine ab ?_
 refine aE rfl (bm rfl) ⟨rfl,rfl,trivial⟩ ?_
 refine au ?_
 refine ag ?_
 show JC _ _ _ _ _
 refine ae ?_
 refine bM rfl (fun hb=>?_) (fun hb=>?_)
 ·
  replace h:=cE (oq hb) h;refine aW ?_;refine ag ?_;show JC _ _ _ _ _;refine ae ?_;refine ao ?_;refine ae ?_;refine ab ?_;obtain⟨s,es,h⟩:=aa h;refine aE rfl (aC (t:=.str) rfl Tryz.underlying143 xY es) ⟨rfl,rfl,trivial⟩ ?_;refine aE rfl (ak (t:=.str) rfl xY rfl) ⟨rfl,trivial⟩ ?_;refine dp rfl rfl ?_;refine au ?_;refine ag ?_;show JC _ _ _ _ _
  have hk:bH (y.2.length+sep.size)∧bH ((y.2++rL sep).length+s.size):=by
   apply Classical.byContradiction;intro hn;rw [if_neg hn] at h;cases h
  replace h:=cE hk h;refine wi 1 rfl fun hv=>?_;refine ae ?_;refine ab ?_;refine aB rfl rfl ?_;refine bU (Δ:=[_,_]) (F:=_) (fun _ _ _=>ax rfl _) rfl rfl (ap [.tmp 8,.tmp 69] rfl rfl Da rfl (ma (b:=b) (p:=some ⟨b,0,none⟩) (s:=sep) (.inr rfl) hv hk.1)) ⟨rfl,rfl,trivial⟩ fun v1=>?_;refine au ?_;refine ag ?_;show JC _ _ _ _ _;refine wi 1 rfl fun hv1=>?_;refine ab ?_;refine aB rfl rfl ?_;refine bU (Δ:=[_,_]) (F:=_) (fun _ _ _=>ax rfl _) rfl rfl (ap [.tmp 8,.tmp 71] rfl rfl Da rfl (ma (b:=b) (p:=some ⟨b,0,none⟩) (s:=s) (.inr rfl) hv1 hk.2)) ⟨rfl,rfl,trivial⟩ fun v2=>?_;refine au ?_;refine aM ?_;refine ag ?_;show JC _ _ _ _ _;refine ab ?_;obtain⟨z3,ez3,h⟩:=aa h;refine aE rfl (bb rfl ez3) ⟨rfl,rfl,trivial⟩ ?_;refine aB rfl rfl ?_;refine au ?_;refine ag ?_;exact jk (v2,(z3,(y.2++rL sep)++rL s)) h (SE.fin [0,1] ⟨rfl,rfl,rfl,rfl,rfl,trivial⟩ rfl)
 replace h:=bQ (nN hb) h
 refine dM ?_
 refine aU ?_
 refine aU ?_
 refine bZ ?_
 refine ag ?_
 show JC _ _ _ _ _
 replace h:(if y.2=[] then none else some (qL y.2):Option ByteArray).bind some=some r:=h
 have hy2:y.2≠[]:=by
  intro hn;rw [if_pos hn] at h;cases h
 rw [if_neg hy2] at h
 obtain rfl:=Option.some.inj h
 refine ae ?_
 refine ab ?_
 refine bU (Δ:=[_,_]) (F:=_) (fun _ _ _=>ax rfl _) rfl rfl (ap [.tmp 8] rfl rfl IO rfl (wV (b:=b) (fun hn=>absurd hn hy2))) ⟨rfl,trivial⟩ fun _=>?_
 refine dp rfl rfl ?_
 refine au ?_
 refine ag ?_
 show JC _ _ _ _ _
 refine aA ?_
 exact aO () [_] 0 ⟨rfl,trivial⟩ rfl
end Go.Proofs.YtghkncjelangeaaGreatDoor
