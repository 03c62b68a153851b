import Derived.Test.YtcnpijmfgfnpiaaGreatDoorWB5
import Derived.Test.YtcnpijmfgfnpiaaGreatDoorProg
import Derived.Stop.Asserts
set_option linter.unusedSimpArgs false
set_option linter.unusedVariables false
set_option maxRecDepth 20000
set_option maxHeartbeats 4000000
namespace Go.Proofs.YtcnpijmfgfnpiaaGreatDoor
open K Go Go.Proofs Go.Extern
theorem BL:dL Tryz.prog 159 1 false:=⟨fun w=>by kernel_rfl,fun w=>by kernel_rfl⟩
theorem jR:dL Tryz.prog 160 1 false:=⟨fun w=>by kernel_rfl,fun w=>by kernel_rfl⟩
theorem Oh:aW Tryz.prog 162 0 0:=aW.of (by kernel_rfl)
theorem sG:aW Tryz.prog 162 1 1:=aW.of (by kernel_rfl)
theorem BN:m9 Tryz.prog 160 5 1 1:=.of (z:=(.int .u8 (0))) Tryz.underlying160 (by kernel_rfl) rfl rfl rfl
theorem Ou:fQ Tryz.prog 186 Extern.AbiNoEscape.same:=.of Tryz.func186 (by kernel_rfl) (by kernel_rfl) (by kernel_rfl) (by kernel_rfl)
theorem C9:ah Tryz.prog 151:=ah.of Tryz.func151 (by kernel_rfl) (by kernel_rfl)
theorem Ox:ah Tryz.prog 152:=ah.of Tryz.func152 (by kernel_rfl) (by kernel_rfl)
@[reducible] def bA(p v:Value):A:=.agg (.pair (.eq p) (.eq v))
abbrev bP(b:Nat):Value:=.pointer (some ⟨b,0,none⟩)
theorem vF{p:Option Addr}:Ns Tryz.prog (binOp .eql 159 (.pointer p) (.pointer none)):=by
 cases p with
 |none=>exact oO (by kernel_rfl)
 |some p=>exact oO (by kernel_rfl)
theorem E2{p:Option Addr}{x y:Operand}(w:World):(do eqGuard .eql 159 x y (.pointer p) (.pointer none);binOp .eql 159 (.pointer p) (.pointer none):Sem Value).run Tryz.prog w= .ok (.bool p.isNone) w:=by
 cases p <;> kernel_rfl
theorem CG{p:Addr}:Ns Tryz.prog (binOp .neq 159 (.pointer (some p)) (.pointer (some p))):=by
 refine ai (s:=Op.equal 159 (.pointer (some p)) (.pointer (some p))) ?_ fun _=>bh;show Ns Tryz.prog (Op.equalIn (9999+1) 159 (.pointer (some p)) (.pointer (some p)));unfold Op.equalIn;refine cO Tryz.underlying159 (ai cT fun n=>tI ?_ (tI bh (ai fF fun _=>bh)));unfold sameAddr;simp only [beq_self_eq_true,if_true];exact bh
theorem N3:∃j,Tryz.prog.info? 162=some j∧j.size≠0:=by
 obtain⟨j,h1,h2⟩:=Option.map_eq_some_iff.1 (show(Tryz.prog.info? 162).map (·.size)=some 2 by kernel_rfl);exact⟨j,h1,by omega⟩
theorem oa{b:Nat}{p:Option Addr}{v:Value}(hp:p=none∨p=some ⟨b,0,none⟩)(hv:bi v=true):cu Tryz.prog 151 [.eq (bP b)] [.obj b 162 (bA (.pointer p) v)] (fun _:Unit=>(bq [],[.obj b 162 (bA (bP b) v)])):=by
 obtain⟨j162,inf162_eq,inf162_sz⟩:=N3;refine cu.of 20 Tryz.func151 rfl Tryz.ntmps151 rfl fun S w0=>?_;refine ag ?_;refine aa ?_;refine ax rfl rfl ?_;refine aB rfl (aX rfl) ⟨rfl,trivial⟩ ?_;refine aB rfl (av rfl Oh) ⟨rfl,trivial⟩ ?_;refine bV rfl rfl rfl (ak rfl BL (fun _=>rfl) rfl) ⟨rfl,trivial⟩ ?_;refine aB rfl (iU rfl E2 vF) ⟨rfl,rfl,trivial⟩ ?_;refine ao ?_;refine ae ?_;show JC _ _ _ _ _;refine bu rfl (fun hb=>?_) (fun hb=>?_)
 ·refine aa ?_;refine ax rfl rfl ?_;refine ax rfl rfl ?_;refine bV rfl rfl rfl (Ce rfl Tryz.underlying159 Tryz.underlying179 inf162_eq inf162_sz rfl) ⟨rfl,trivial⟩ ?_;refine aB rfl (Hw Ou [.tmp 9] [bP b] rfl rfl rfl (fun _=>rfl) bh) ⟨rfl,trivial⟩ ?_;refine bV rfl rfl rfl (yr rfl Tryz.underlying179 Tryz.underlying159 inf162_eq (by kernel_rfl)) ⟨rfl,trivial⟩ ?_;refine aB rfl (aX rfl) ⟨rfl,trivial⟩ ?_;refine aB rfl (av rfl Oh) ⟨rfl,trivial⟩ ?_;refine aS rfl rfl (aO rfl BL rfl rfl rfl) ⟨rfl,rfl,trivial⟩ ?_;refine ao ?_;refine jm ?_;exact aL () [] 1 trivial rfl
 ·have hp':p=some ⟨b,0,none⟩:=by
   rcases hp with rfl |rfl
   ·cases hb
   ·rfl
  subst hp';refine ag ?_;refine aa ?_;refine ax rfl rfl ?_;refine aB rfl (aX rfl) ⟨rfl,trivial⟩ ?_;refine aB rfl (av rfl Oh) ⟨rfl,trivial⟩ ?_;refine bV rfl rfl rfl (ak rfl BL (fun _=>rfl) rfl) ⟨rfl,trivial⟩ ?_;refine ax rfl rfl ?_;refine aB rfl (Hn rfl Tryz.underlying159 inf162_eq CG) ⟨rfl,rfl,trivial⟩ ?_;refine ao ?_;refine ae ?_;show JC _ _ _ _ _;refine bu rfl (fun hb=>(by cases hb)) (fun hb=>?_);refine aV ?_;refine jm ?_;exact aL () [] 1 trivial rfl
theorem wE{v:Value}{l:List Int}{r:Int}(h0:0≤r)(h1:r≤127)(hl:bY (l.length+1)):cu Tryz.prog 152 [.eq v,.eq (.int .i32 r)] [.sl v 5 (.int .u8) l] (fun v':Value=>(bq [.eq v'],[.sl v' 5 (.int .u8) (l++[r])])):=by
 refine cu.of 16 Tryz.func152 rfl Tryz.ntmps152 rfl fun S w0=>?_;have w32:IntKind.u32.wrap r=r:=by simp [IntKind.wrap,IntKind.bits,IntKind.signed];omega
 have w8:IntKind.u8.wrap r=r:=by simp [IntKind.wrap,IntKind.bits,IntKind.signed];omega
 refine ag ?_;refine aa ?_;refine dP rfl ?_;refine ao ?_;refine ae ?_;show JC _ _ _ _ _;refine ag ?_;refine ag ?_;refine aa ?_;refine ax rfl rfl ?_;refine aB rfl (pq rfl Tryz.underlying21 Tryz.underlying201) ⟨rfl,trivial⟩ ?_;rw [w32];refine aB rfl (xf rfl) ⟨rfl,rfl,trivial⟩ ?_;refine ao ?_;refine ae ?_;show JC _ _ _ _ _;refine bu rfl (fun hb=>?_) (fun hb=>absurd h1 (by simpa using hb));refine ag ?_;refine aa ?_;refine ax rfl rfl ?_;refine ax rfl rfl ?_;refine aB rfl (pq rfl Tryz.underlying21 Tryz.underlying5) ⟨rfl,trivial⟩ ?_;rw [w8];refine aB rfl (bH (t:=(.int .u8)) [(.tmp 10,.eq (.int .u8 r))] [r] rfl rfl BN (.cons rfl .int .nil) rfl rfl) ⟨rfl,trivial⟩ ?_;refine dN rfl rfl rfl (cz rfl rfl BN (by simpa using hl)) ⟨rfl,rfl,trivial⟩ fun v'=>?_;refine dx rfl rfl ?_;refine ao ?_;refine ae ?_;show JC _ _ _ _ _;refine aA ?_;refine aZ ?_;exact aL v' [_] 1 ⟨rfl,trivial⟩ rfl
theorem yf{b:Nat}{p:Option Addr}{v:Value}{l:List Int}{r:Int}(hp:p=none∨p=some ⟨b,0,none⟩)(hv:bi v=true)(h0:0≤r)(h1:r≤127)(hl:bY (l.length+1)):
 cu Tryz.prog 119 [.eq (bP b),.eq (.int .i32 r)] [.obj b 162 (bA (.pointer p) v),.sl v 5 (.int .u8) l]
  (fun v':Value=>(bq [.eq (.int .i64 1),.eq .nilIface],[.obj b 162 (bA (bP b) v'),.sl v' 5 (.int .u8) (l++[r])])):=by
 refine cu.of 30 Tryz.func119 rfl Tryz.ntmps119 rfl fun S w0=>?_
 refine ag ?_
 refine aa ?_
 refine dP rfl ?_
 refine dP rfl ?_
 refine ao ?_
 refine ae ?_
 show JC _ _ _ _ _
 refine ag ?_
 refine aa ?_
 refine ax rfl rfl ?_
 refine bV rfl rfl rfl (an [.tmp 7] rfl rfl C9 rfl (oa hp hv)) ⟨rfl,trivial⟩ ?_
 refine ao ?_
 refine ae ?_
 show JC _ _ _ _ _
 refine ag ?_
 refine aa ?_
 refine ax rfl rfl ?_
 refine aB rfl (aX rfl) ⟨rfl,trivial⟩ ?_
 refine aB rfl (av rfl sG) ⟨rfl,trivial⟩ ?_
 refine bV rfl rfl rfl (ak rfl jR (fun _=>rfl) rfl) ⟨rfl,trivial⟩ ?_
 refine bD 1 rfl ?_
 refine bV rfl rfl rfl (dq rfl rfl Tryz.underlying160) ⟨rfl,trivial⟩ ?_
 refine dx rfl rfl ?_
 refine ao ?_
 refine ae ?_
 show JC _ _ _ _ _
 refine ag ?_
 refine aa ?_
 refine ax rfl rfl ?_
 refine ax rfl rfl ?_
 refine aB rfl (aX rfl) ⟨rfl,trivial⟩ ?_
 refine aB rfl (av rfl sG) ⟨rfl,trivial⟩ ?_
 refine bD 1 rfl ?_
 refine bV rfl rfl rfl (ak rfl jR (fun _=>rfl) rfl) ⟨rfl,trivial⟩ ?_
 refine ax rfl rfl ?_
 refine bD 1 rfl ?_
 refine dN rfl rfl rfl (an [.tmp 18,.tmp 19] rfl rfl Ox rfl (wE h0 h1 hl)) ⟨rfl,rfl,trivial⟩ fun v'=>?_
 refine gz fun hv'=>?_
 refine aB rfl (aX rfl) ⟨rfl,trivial⟩ ?_
 refine aB rfl (av rfl sG) ⟨rfl,trivial⟩ ?_
 refine bD 1 rfl ?_
 refine aS rfl rfl (aO rfl jR hv' rfl rfl) ⟨rfl,rfl,trivial⟩ ?_
 refine ao ?_
 refine ae ?_
 show JC _ _ _ _ _
 refine ag ?_
 refine aa ?_
 refine ax rfl rfl ?_
 refine aB rfl (aX rfl) ⟨rfl,trivial⟩ ?_
 refine aB rfl (av rfl sG) ⟨rfl,trivial⟩ ?_
 refine bV rfl rfl rfl (ak rfl jR (fun _=>rfl) rfl) ⟨rfl,trivial⟩ ?_
 refine bD 1 rfl ?_
 refine bV rfl rfl rfl (dq rfl rfl Tryz.underlying160) ⟨rfl,trivial⟩ ?_
 refine ax rfl rfl ?_
 have hck:ck (((l++[r]).length:Int) - (l.length:Int))=some 1:=by
  have:(((l++[r]).length:Int) - (l.length:Int))=1:=by simp;omega
  rw [this];rfl
 refine aB rfl (f6 rfl hck) ⟨rfl,rfl,trivial⟩ ?_
 refine dx rfl rfl ?_
 refine dP rfl ?_
 refine ao ?_
 refine ae ?_
 show JC _ _ _ _ _
 refine aA ?_
 refine bL (SE.fin (Γ':=[(4,_),(5,_)]) [1,0] ⟨rfl,rfl,trivial⟩ rfl) ?_
 exact aL v' [_,_] 2 ⟨rfl,rfl,trivial⟩ rfl
theorem SN:Tryz.prog.cellsOf 5=1:=by kernel_rfl
theorem rn:Tryz.prog.follows .mixedOrders=true:=by kernel_rfl
theorem wY{b:Nat}{p v:Value}{l:List Int}(hl:l=[]→v= .slice none 0 0):
 cu Tryz.prog 120 [.eq (bP b)] [.obj b 162 (bA p v),.sl v 5 (.int .u8) l] (fun _:Unit=>(bq [.eq (.string (qU l))],[])):=by
 refine cu.of 14 Tryz.func120 rfl Tryz.ntmps120 rfl fun S w0=>?_
 refine ag ?_
 refine aa ?_
 refine dP rfl ?_
 refine ao ?_
 refine ae ?_
 show JC _ _ _ _ _
 refine ag ?_
 refine bW ?_
 refine dA rfl rfl rfl (bG rfl) ⟨rfl,trivial⟩ ?_
 refine dA rfl rfl rfl (aX rfl) ⟨rfl,trivial⟩ ?_
 refine dA rfl rfl rfl (av rfl sG) ⟨rfl,trivial⟩ ?_
 refine oH 0 rfl rfl rfl rfl (ak rfl jR (fun _=>rfl) rfl) ⟨rfl,trivial⟩ ?_
 refine oH 1 rfl rfl rfl rfl (zV rfl rfl hl) ⟨rfl,trivial⟩ ?_
 refine dA rfl rfl rfl (bG rfl) ⟨rfl,trivial⟩ ?_
 refine dA rfl rfl rfl (aX rfl) ⟨rfl,trivial⟩ ?_
 refine dA rfl rfl rfl (av rfl sG) ⟨rfl,trivial⟩ ?_
 refine oH 0 rfl rfl rfl rfl (ak rfl jR (fun _=>rfl) rfl) ⟨rfl,trivial⟩ ?_
 refine oH 1 rfl rfl rfl rfl (dq rfl rfl Tryz.underlying160) ⟨rfl,trivial⟩ ?_
 refine t8 (by kernel_rfl) rn ?_
 refine bD 1 rfl ?_
 refine bC (Δ:=[_]) (F:=_) (fun _ _ _=>au rfl _) rfl rfl (vA rfl rfl Tryz.underlying213 SN hl) ⟨rfl,rfl,trivial⟩ fun _=>?_
 refine dx rfl rfl ?_
 refine ao ?_
 refine ae ?_
 show JC _ _ _ _ _
 refine aA ?_
 exact aL () [_] 0 ⟨rfl,trivial⟩ rfl
theorem RU:(Tryz.prog.info? 5).bind (·.zero)=some (.int .u8 0):=by kernel_rfl
theorem lW{b:Nat}{p:Option Addr}{v:Value}{l:List Int}{s:ByteArray}(hp:p=none∨p=some ⟨b,0,none⟩)(hv:bi v=true)(hl:bY (l.length+s.size)):
 cu Tryz.prog 154 [.eq (bP b),.eq (.string s)] [.obj b 162 (bA (.pointer p) v),.sl v 5 (.int .u8) l]
  (fun v':Value=>(bq [.eq (.int .i64 s.size),.eq .nilIface],[.obj b 162 (bA (bP b) v'),.sl v' 5 (.int .u8) (l++rZ s)])):=by
 refine cu.of 19 Tryz.func154 rfl Tryz.ntmps154 rfl fun S w0=>?_
 refine ag ?_
 refine aa ?_
 refine dP rfl ?_
 refine dP rfl ?_
 refine ao ?_
 refine ae ?_
 show JC _ _ _ _ _
 refine ag ?_
 refine aa ?_
 refine ax rfl rfl ?_
 refine bV rfl rfl rfl (an [.tmp 6] rfl rfl C9 rfl (oa hp hv)) ⟨rfl,trivial⟩ ?_
 refine ao ?_
 refine ae ?_
 show JC _ _ _ _ _
 refine ag ?_
 refine aa ?_
 refine ax rfl rfl ?_
 refine ax rfl rfl ?_
 refine aB rfl (aX rfl) ⟨rfl,trivial⟩ ?_
 refine aB rfl (av rfl sG) ⟨rfl,trivial⟩ ?_
 refine bV rfl rfl rfl (ak rfl jR (fun _=>rfl) rfl) ⟨rfl,trivial⟩ ?_
 refine ax rfl rfl ?_
 refine bD 1 rfl ?_
 refine dN rfl rfl rfl (Ab rfl rfl BN Tryz.underlying9 RU (by decide) hl) ⟨rfl,rfl,trivial⟩ fun v'=>?_
 refine gz fun hv'=>?_
 refine aB rfl (aX rfl) ⟨rfl,trivial⟩ ?_
 refine aB rfl (av rfl sG) ⟨rfl,trivial⟩ ?_
 refine bD 1 rfl ?_
 refine aS rfl rfl (aO rfl jR hv' rfl rfl) ⟨rfl,rfl,trivial⟩ ?_
 refine ao ?_
 refine ae ?_
 show JC _ _ _ _ _
 refine ag ?_
 refine aa ?_
 refine ax rfl rfl ?_
 refine aB rfl (nD rfl rfl Tryz.underlying9) ⟨rfl,trivial⟩ ?_
 refine dx rfl rfl ?_
 refine dP rfl ?_
 refine ao ?_
 refine ae ?_
 show JC _ _ _ _ _
 refine aA ?_
 exact aL v' [_,_] 2 ⟨rfl,rfl,trivial⟩ rfl
theorem Oq:fQ Tryz.prog 207 (Extern.BytealgMakeNoZero.makeNoZero #[3] #[160]):=.of Tryz.func207 (by kernel_rfl) (by kernel_rfl) (by kernel_rfl) (by kernel_rfl)
theorem Ot:ah Tryz.prog 188:=ah.of Tryz.func188 (by kernel_rfl) (by kernel_rfl)
def RX:Value→List D
 | .slice (some ⟨b,0,none⟩) m c=>[.sl (.slice (some ⟨b,0,none⟩) 0 c) 5 (.int .u8) []]
 |_=>[Jd]
theorem Nk{v:Value}(h:∀d∈RX v,∃S w,d.holds S w):∃b m c,v= .slice (some ⟨b,0,none⟩) m c:=by
 unfold RX at h;split at h
 ·exact⟨_,_,_,rfl⟩
 ·obtain⟨S,w,hb⟩:=h Jd (by simp);exact absurd hb AZ
theorem PM:dL Tryz.prog 5 1 false:=⟨fun w=>by kernel_rfl,fun w=>by kernel_rfl⟩
theorem GZ{b cap:Nat}:sliced (some ⟨b,0,none⟩) 0 (Int.toNat 0) cap 1= .slice (some ⟨b,0,none⟩) 0 cap:=DJ
abbrev BP(bc:Nat×Nat):Value:=.slice (some ⟨bc.1,0,none⟩) 0 bc.2
theorem J4{b n:Nat}{p:Value}(hn:n≤281474976710656):
 cu Tryz.prog 188 [.eq (bP b),.eq (.int .i64 n)] [.obj b 162 (bA p (.slice none 0 0))] (fun bc:Nat×Nat=>(bq [],[.obj b 162 (bA p (BP bc)),.sl (BP bc) 5 (.int .u8) []])):=by
 refine cu.of 30 Tryz.func188 rfl Tryz.ntmps188 rfl fun S w0=>?_
 have c1:ck (2 * ((0:Nat):Int))=some 0:=rfl
 have c2:ck (0+(n:Int))=some (n:Int):=by rw [Int.zero_add];unfold ck;rw [if_pos (by omega)]
 refine ag ?_
 refine ml ?_
 refine bX rfl rfl rfl (bG rfl) ⟨rfl,trivial⟩ ?_
 refine bX rfl rfl rfl (aX rfl) ⟨rfl,trivial⟩ ?_
 refine bX rfl rfl rfl (av rfl sG) ⟨rfl,trivial⟩ ?_
 refine gB 0 rfl rfl rfl rfl (ak rfl jR (fun _=>rfl) rfl) ⟨rfl,trivial⟩ ?_
 refine bX rfl rfl rfl (Hz rfl rfl Tryz.underlying160) ⟨rfl,trivial⟩ ?_
 refine bX rfl rfl rfl (ML rfl c1) ⟨rfl,rfl,trivial⟩ ?_
 refine bX rfl rfl rfl (bG rfl) ⟨rfl,trivial⟩ ?_
 refine bX rfl rfl rfl (bg rfl c2) ⟨rfl,rfl,trivial⟩ ?_
 refine EI RX (fun _=>rfl) rfl rfl rfl (Hl Oq rfl rfl Tryz.underlying160 hn) ⟨rfl,trivial⟩ ?_
 refine bX rfl rfl rfl (bG rfl) ⟨rfl,trivial⟩ ?_
 refine bX rfl rfl rfl (aX rfl) ⟨rfl,trivial⟩ ?_
 refine bX rfl rfl rfl (av rfl sG) ⟨rfl,trivial⟩ ?_
 refine gB 0 rfl rfl rfl rfl (ak rfl jR (fun _=>rfl) rfl) ⟨rfl,trivial⟩ ?_
 refine bX rfl rfl rfl (Hr rfl rfl Tryz.underlying160) ⟨rfl,trivial⟩ ?_
 refine rM 14 [true,true,true,true,true,true,true,true,true,true,true,true,true,true] [19,4] [] [] rfl (by kernel_rfl) (by kernel_rfl) (by kernel_rfl) rn (fun vs hv hB=>?_)
 obtain⟨u0,vs1,rfl,hv1⟩:=aD hv
 obtain⟨u1,vs2,rfl,hv2⟩:=aD hv1
 obtain⟨u2,vs3,rfl,hv3⟩:=aD hv2
 obtain⟨u3,vs4,rfl,hv4⟩:=aD hv3
 obtain⟨u4,vs5,rfl,hv5⟩:=aD hv4
 obtain⟨u5,vs6,rfl,hv6⟩:=aD hv5
 obtain⟨u6,vs7,rfl,hv7⟩:=aD hv6
 obtain⟨u7,vs8,rfl,hv8⟩:=aD hv7
 obtain⟨u8,vs9,rfl,hv9⟩:=aD hv8
 obtain⟨u9,vs10,rfl,hv10⟩:=aD hv9
 obtain⟨u10,vs11,rfl,hv11⟩:=aD hv10
 obtain⟨u11,vs12,rfl,hv12⟩:=aD hv11
 obtain⟨u12,vs13,rfl,hv13⟩:=aD hv12
 obtain⟨u13,vs14,rfl,hv14⟩:=aD hv13
 obtain rfl:=ot hv14
 obtain⟨g,m,q,rfl⟩:=Nk hB.2.2.2.2.2.2.2.2.1
 refine⟨[0,1],[.obj b 162 (bA p (.slice none 0 0)),.sl (BP (g,q)) 5 (.int .u8) []],by kernel_rfl,by decide,?_⟩
 refine t6 rfl rfl rfl rfl (vB rfl Tryz.underlying160 PM (Int.le_refl 0) (Int.natCast_nonneg _)) ⟨rfl,rfl,trivial⟩ (by kernel_rfl) ?_
 rw [GZ]
 refine t6 rfl rfl rfl rfl (kJ rfl) ⟨rfl,trivial⟩ (by kernel_rfl) ?_
 refine wo ?_
 refine bL (SE.fin (Γ':=[(0,.eq (bP b)),(4,.eq (BP (g,q)))]) (Δ':=[.obj b 162 (bA p (.slice none 0 0)),.sl (BP (g,q)) 5 (.int .u8) []]) [0,1] ⟨rfl,rfl,trivial⟩ rfl) ?_
 refine ae ?_
 show JC _ _ _ _ _
 refine ag ?_
 refine aa ?_
 refine ax rfl rfl ?_
 refine ax rfl rfl ?_
 refine aB rfl (aX rfl) ⟨rfl,trivial⟩ ?_
 refine aB rfl (av rfl sG) ⟨rfl,trivial⟩ ?_
 refine bV rfl rfl rfl (ak rfl jR (fun _=>rfl) rfl) ⟨rfl,trivial⟩ ?_
 refine aB rfl (KD rfl rfl Tryz.underlying160 PM) ⟨rfl,rfl,trivial⟩ ?_
 refine ao ?_
 refine ae ?_
 show JC _ _ _ _ _
 refine aa ?_
 refine ax rfl rfl ?_
 refine ax rfl rfl ?_
 refine aB rfl (aX rfl) ⟨rfl,trivial⟩ ?_
 refine aB rfl (av rfl sG) ⟨rfl,trivial⟩ ?_
 refine aS rfl rfl (aO rfl jR rfl rfl rfl) ⟨rfl,rfl,trivial⟩ ?_
 refine ao ?_
 refine jm ?_
 exact aL (g,q) [] 2 trivial rfl
end Go.Proofs.YtcnpijmfgfnpiaaGreatDoor
set_option linter.unusedVariables false
set_option maxRecDepth 20000
set_option maxHeartbeats 4000000
namespace Go.Proofs.YtcnpijmfgfnpiaaGreatDoor
open K Go Go.Proofs Go.Extern
theorem G4{b n:Nat}(h0:0 < n)(hn:n≤281474976710656):
 cu Tryz.prog 153 [.eq (bP b),.eq (.int .i64 n)] [.obj b 162 (bA (.pointer none) (.slice none 0 0))] (fun bc:Nat×Nat=>(bq [],[.obj b 162 (bA (bP b) (BP bc)),.sl (BP bc) 5 (.int .u8) []])):=by
 refine cu.of 25 Tryz.func153 rfl Tryz.ntmps153 rfl fun S w0=>?_
 have c1:ck (((0:Nat):Int) - ((0:Nat):Int))=some 0:=rfl
 refine ag ?_
 refine aa ?_
 refine ax rfl rfl ?_
 refine bV rfl rfl rfl (an [.tmp 4] rfl rfl C9 rfl (oa (.inl rfl) rfl)) ⟨rfl,trivial⟩ ?_
 refine ao ?_
 refine ae ?_
 show JC _ _ _ _ _
 refine ag ?_
 refine ag ?_
 refine aa ?_
 refine ax rfl rfl ?_
 refine aB rfl (bm rfl) ⟨rfl,rfl,trivial⟩ ?_
 refine ao ?_
 refine ae ?_
 show JC _ _ _ _ _
 refine bu rfl (fun hb=>absurd (of_decide_eq_true hb) (by omega)) (fun hb=>?_)
 refine aV ?_
 refine ae ?_
 show JC _ _ _ _ _
 refine ag ?_
 refine bW ?_
 refine dA rfl rfl rfl (bG rfl) ⟨rfl,trivial⟩ ?_
 refine dA rfl rfl rfl (aX rfl) ⟨rfl,trivial⟩ ?_
 refine dA rfl rfl rfl (av rfl sG) ⟨rfl,trivial⟩ ?_
 refine oH 0 rfl rfl rfl rfl (ak rfl jR (fun _=>rfl) rfl) ⟨rfl,trivial⟩ ?_
 refine dA rfl rfl rfl (Hz rfl rfl Tryz.underlying160) ⟨rfl,trivial⟩ ?_
 refine dA rfl rfl rfl (bG rfl) ⟨rfl,trivial⟩ ?_
 refine dA rfl rfl rfl (aX rfl) ⟨rfl,trivial⟩ ?_
 refine dA rfl rfl rfl (av rfl sG) ⟨rfl,trivial⟩ ?_
 refine oH 0 rfl rfl rfl rfl (ak rfl jR (fun _=>rfl) rfl) ⟨rfl,trivial⟩ ?_
 refine dA rfl rfl rfl (Hr rfl rfl Tryz.underlying160) ⟨rfl,trivial⟩ ?_
 refine dA rfl rfl rfl (f6 rfl c1) ⟨rfl,rfl,trivial⟩ ?_
 refine dA rfl rfl rfl (bG rfl) ⟨rfl,trivial⟩ ?_
 refine t8 (by kernel_rfl) rn ?_
 refine aB rfl (bm rfl) ⟨rfl,rfl,trivial⟩ ?_
 refine ao ?_
 refine ae ?_
 show JC _ _ _ _ _
 refine bu rfl (fun hb=>?_) (fun hb=>absurd (of_decide_eq_false hb) (by omega))
 refine aa ?_
 refine ax rfl rfl ?_
 refine ax rfl rfl ?_
 refine bC (Δ:=[_]) (F:=_) (fun _ _ _=>au rfl _) rfl rfl (an [.tmp 22,.tmp 23] rfl rfl Ot rfl (J4 hn)) ⟨rfl,rfl,trivial⟩ fun bc=>?_
 refine ao ?_
 refine jm ?_
 exact aL bc [] 2 trivial rfl
theorem ye:dL Tryz.prog 9 1 false:=⟨fun w=>by kernel_rfl,fun w=>by kernel_rfl⟩
theorem Oz:ah Tryz.prog 119:=ah.of Tryz.func119 (by kernel_rfl) (by kernel_rfl)
theorem I2:ah Tryz.prog 120:=ah.of Tryz.func120 (by kernel_rfl) (by kernel_rfl)
theorem Ov:ah Tryz.prog 153:=ah.of Tryz.func153 (by kernel_rfl) (by kernel_rfl)
theorem C7:ah Tryz.prog 154:=ah.of Tryz.func154 (by kernel_rfl) (by kernel_rfl)
theorem Gu:∀w,(zeroValue 162).run Tryz.prog w= .ok (.agg #[.pointer none,.slice none 0 0]) w:=fun w=>by kernel_rfl
theorem Jl:∀S w,(A.cells S w (bA (.pointer none) (.slice none 0 0)) (Value.cells (.agg #[.pointer none,.slice none 0 0])).toList):=fun _ _=>⟨[_],_,rfl,⟨rfl,rfl⟩,rfl,rfl⟩
def nZ(ss:List ByteArray):Nat→Int×Int→Option Int
 |0,_=>none
 |n+1,y=>if y.1 < (ss.length:Int) then((bf ss y.1).bind fun s=>(ck ((9223372036854775807:Int) - y.2)).bind fun z=>if z < (s.size:Int) then none else(ck (y.2+(s.size:Int))).bind fun z2=>(ck (y.1+(1:Int))).bind fun z3=>nZ ss n (z3,z2)) else some y.2
def lV(ss:List ByteArray)(sep:ByteArray):Nat→Int×List Int→Option (List Int)
 |0,_=>none
 |n+1,y=>if y.1 < (ss.length:Int) then((bf ss y.1).bind fun s=>if bY (y.2.length+sep.size)∧bY ((y.2++rZ sep).length+s.size) then(ck (y.1+(1:Int))).bind fun z3=>lV ss sep n (z3,(y.2++rZ sep)++rZ s) else none) else some y.2
def uG(k:Nat)(ss:List ByteArray)(sep:ByteArray):Option ByteArray:=
 if sep.size=1∧bY ss.length then
  if(ss.length:Int)=(0:Int) then some .empty
  else if(ss.length:Int)=(1:Int) then bf ss 0
  else(nZ ss k ((0:Int),(ss.length:Int) - 1)).bind fun n=>
   if 0 < n∧n≤281474976710656 then(bf ss 0).bind fun s=>if bY s.size then(lV (ss.drop 1) sep k ((0:Int),rZ s)).bind fun l=>if l=[] then none else some (qU l) else none else none
 else none
theorem BO(k:Nat)(ss:List ByteArray)(sep:ByteArray)(r:ByteArray)(h:uG k ss sep=some r):
 cu Tryz.prog 121 [.rep (.slice .str) ss,.eq (.string sep)] [] (fun _:Unit=>(bq [.eq (.string r)],[])):=by
 unfold uG at h
 split at h
 case isFalse=>cases h
 rename_i hc
 obtain⟨hsep,hlen⟩:=hc
 unfold bY at hlen
 replace h:=be h
 refine cu.of 75 Tryz.func121 rfl Tryz.ntmps121 rfl fun S w0=>?_
 refine ag ?_
 refine aa ?_
 refine dP rfl ?_
 refine ao ?_
 refine ae ?_
 show JC _ _ _ _ _
 refine ag ?_
 refine ag ?_
 refine aa ?_
 refine ax rfl rfl ?_
 refine aB rfl (jF rfl rfl Tryz.underlying86) ⟨rfl,trivial⟩ ?_
 refine ao ?_
 refine ae ?_
 show JC _ _ _ _ _
 refine aj ?_
 refine ag ?_
 refine aa ?_
 refine aB rfl (dw rfl) ⟨rfl,rfl,trivial⟩ ?_
 refine dx rfl rfl ?_
 refine ao ?_
 refine ae ?_
 show JC _ _ _ _ _
 refine bu rfl (fun hb=>?_) (fun hb=>?_)
 ·
  replace h:=cr (mh hb) h;refine ag ?_;refine aa ?_;refine dP rfl ?_;refine ao ?_;refine ae ?_;show JC _ _ _ _ _;refine aA ?_;refine bJ ?_;refine aZ ?_;obtain rfl:=Option.some.inj h;exact aL () [_] 0 ⟨rfl,trivial⟩ rfl
 replace h:=bv (lw hb) h
 have hne0:=lw hb
 refine ag ?_
 refine aa ?_
 refine aB rfl (dw rfl) ⟨rfl,rfl,trivial⟩ ?_
 refine dx rfl rfl ?_
 refine ao ?_
 refine ae ?_
 show JC _ _ _ _ _
 refine bu rfl (fun hb=>?_) (fun hb=>?_)
 ·
  replace h:=cr (mh hb) h;have es:bf ss 0=some r:=by simpa using h
  refine ag ?_;refine aa ?_;refine ax rfl rfl ?_;refine aB rfl (ba (t:=.str) rfl Tryz.underlying86 ye es) ⟨rfl,rfl,trivial⟩ ?_;refine aB rfl (ar (t:=.str) rfl ye rfl) ⟨rfl,trivial⟩ ?_;refine dx rfl rfl ?_;refine ao ?_;refine ae ?_;show JC _ _ _ _ _;refine aA ?_;refine bJ ?_;refine aZ ?_;exact aL () [_] 0 ⟨rfl,trivial⟩ rfl
 replace h:=bv (lw hb) h
 have hne1:=lw hb
 refine aV ?_
 refine aG ?_
 refine ae ?_
 show JC _ _ _ _ _
 refine ag ?_
 refine aa ?_
 refine dP rfl ?_
 refine ao ?_
 refine ae ?_
 show JC _ _ _ _ _
 refine ag ?_
 refine ag ?_
 refine aa ?_
 refine ax rfl rfl ?_
 refine aB rfl (nD rfl rfl Tryz.underlying9) ⟨rfl,trivial⟩ ?_
 refine aB rfl (l6 rfl) ⟨rfl,rfl,trivial⟩ ?_
 refine ao ?_
 refine ae ?_
 show JC _ _ _ _ _
 have c1:ck ((ss.length:Int) - 1)=some ((ss.length:Int) - 1):=by unfold ck;rw [if_pos (by omega)]
 have c2:ck ((sep.size:Int) * ((ss.length:Int) - 1))=some ((ss.length:Int) - 1):=by rw [hsep];simpa using c1
 have c3:ck (0+((ss.length:Int) - 1))=some ((ss.length:Int) - 1):=by rw [Int.zero_add];exact c1
 refine bu rfl (fun hb=>?_) (fun hb=>absurd (lw hb) (by omega))
 refine ag ?_
 refine ag ?_
 refine aa ?_
 refine ax rfl rfl ?_
 refine aB rfl (nD rfl rfl Tryz.underlying9) ⟨rfl,trivial⟩ ?_
 refine ax rfl rfl ?_
 refine aB rfl (jF rfl rfl Tryz.underlying86) ⟨rfl,trivial⟩ ?_
 refine aB rfl (f6 rfl c1) ⟨rfl,rfl,trivial⟩ ?_
 refine aB rfl (PU rfl (by omega)) ⟨rfl,rfl,trivial⟩ ?_
 refine aB rfl (qK rfl) ⟨rfl,rfl,trivial⟩ ?_
 refine ao ?_
 refine ae ?_
 show JC _ _ _ _ _
 refine bu rfl (fun hb=>?_) (fun hb=>?_)
 ·
  exfalso;have h1:=mh hb;have q1:(9223372036854775807:Int).tdiv ((ss.length:Int) - 1)=9223372036854775807 / ((ss.length:Int) - 1):=Int.tdiv_eq_ediv_of_nonneg (by omega);have q2:(2:Int)≤9223372036854775807 / ((ss.length:Int) - 1):=Int.le_ediv_of_mul_le (by omega) (by omega);have q3:(9223372036854775807:Int) / ((ss.length:Int) - 1)≤9223372036854775807:=Int.ediv_le_self _ (by omega);rw [q1,sM (z:=9223372036854775807 / ((ss.length:Int) - 1)) (by unfold ck;rw [if_pos (by omega)])] at h1;omega
 refine aV ?_
 refine ae ?_
 show JC _ _ _ _ _
 refine aa ?_
 refine ax rfl rfl ?_
 refine ax rfl rfl ?_
 refine aB rfl (nD rfl rfl Tryz.underlying9) ⟨rfl,trivial⟩ ?_
 refine ax rfl rfl ?_
 refine aB rfl (jF rfl rfl Tryz.underlying86) ⟨rfl,trivial⟩ ?_
 refine aB rfl (f6 rfl c1) ⟨rfl,rfl,trivial⟩ ?_
 refine aB rfl (ML rfl c2) ⟨rfl,rfl,trivial⟩ ?_
 refine aB rfl (bg rfl c3) ⟨rfl,rfl,trivial⟩ ?_
 refine dx rfl rfl ?_
 refine ao ?_
 refine ae ?_
 show JC _ _ _ _ _
 rw [Option.bind_assoc] at h
 refine ag ?_
 refine ag ?_
 refine aa ?_
 refine ax rfl rfl ?_
 refine aB rfl (jF rfl rfl Tryz.underlying86) ⟨rfl,trivial⟩ ?_
 refine eD rfl ?_
 refine ao ?_
 refine ae ?_
 show JC _ _ _ _ _
 refine aj ?_
 refine aI (Z:=Unit) (α:=Int×Int) (fun _ y=>[(0,.rep (.slice .str) ss),(1,.eq (.string sep)),(5,.eq (.int .i64 y.2)),(39,.rep (.slice .str) ss),(40,.eq (.int .i64 (ss.length:Int))),(41,.eq (.int .i64 y.1))]) (fun _ _=>[]) (nZ ss) k () ((0:Int),(ss.length:Int) - 1) (fun _=>rfl) h (SE.fin [] ⟨rfl,rfl,rfl,rfl,rfl,rfl,trivial⟩ rfl) (fun n z y h=>?_)
 unfold nZ at h
 refine ag ?_
 refine aa ?_
 refine aB rfl (bm rfl) ⟨rfl,rfl,trivial⟩ ?_
 refine ao ?_
 refine ae ?_
 show JC _ _ _ _ _
 refine ag ?_
 refine bu rfl (fun hb=>?_) (fun hb=>?_)
 ·
  replace h:=cr (mh hb) h;refine aV ?_;refine ae ?_;show JC _ _ _ _ _;refine ag ?_;refine aj ?_;refine ag ?_;refine aa ?_;obtain⟨s,es,h⟩:=ab h;refine aB rfl (ba (t:=.str) rfl Tryz.underlying86 ye es) ⟨rfl,rfl,trivial⟩ ?_;refine aB rfl (ar (t:=.str) rfl ye rfl) ⟨rfl,trivial⟩ ?_;refine dx rfl rfl ?_;refine ao ?_;refine ae ?_;show JC _ _ _ _ _;refine ag ?_;refine ag ?_;refine aa ?_;refine ax rfl rfl ?_;refine aB rfl (nD rfl rfl Tryz.underlying9) ⟨rfl,trivial⟩ ?_;refine ax rfl rfl ?_;obtain⟨z,ez,h⟩:=ab h;refine aB rfl (f6 rfl ez) ⟨rfl,rfl,trivial⟩ ?_;refine aB rfl (l6 rfl) ⟨rfl,rfl,trivial⟩ ?_;refine ao ?_;refine ae ?_;show JC _ _ _ _ _;refine bu rfl (fun hb=>?_) (fun hb=>?_)
  ·replace h:=cr (mh hb) h;cases h
  replace h:=bv (lw hb) h;refine aV ?_;refine ae ?_;show JC _ _ _ _ _;refine aa ?_;refine ax rfl rfl ?_;refine ax rfl rfl ?_;refine aB rfl (nD rfl rfl Tryz.underlying9) ⟨rfl,trivial⟩ ?_;obtain⟨z2,ez2,h⟩:=ab h;refine aB rfl (bg rfl ez2) ⟨rfl,rfl,trivial⟩ ?_;refine dx rfl rfl ?_;refine ao ?_;refine aG ?_;refine ae ?_;show JC _ _ _ _ _;refine aa ?_;obtain⟨z3,ez3,h⟩:=ab h;refine aB rfl (bg rfl ez3) ⟨rfl,rfl,trivial⟩ ?_;refine ax rfl rfl ?_;refine ao ?_;refine ae ?_;exact i7 ((),(z3,z2)) h (SE.fin [] ⟨rfl,rfl,rfl,rfl,rfl,rfl,trivial⟩ rfl)
 replace h:=bv (lw hb) h
 refine dJ ?_
 refine aR ?_
 refine aR ?_
 refine bR ?_
 refine ae ?_
 show JC _ _ _ _ _
 replace h:((if 0 < y.2∧y.2≤281474976710656 then(bf ss 0).bind fun s=>if bY s.size then(lV (ss.drop 1) sep k ((0:Int),rZ s)).bind fun l=>if l=[] then none else some (qU l) else none else none):Option ByteArray).bind some=some r:=h
 obtain⟨y1,y2⟩:=y
 have hy:0 < y2∧y2≤281474976710656:=by
  apply Classical.byContradiction;intro hn;rw [if_neg hn] at h;cases h
 replace h:=cr hy h
 obtain⟨m,rfl⟩:=Int.eq_ofNat_of_zero_le (show 0≤y2 by omega)
 obtain⟨s0,es0,h⟩:=ab h
 have hs0:bY s0.size:=by
  apply Classical.byContradiction;intro hn;rw [if_neg hn] at h;cases h
 replace h:=cr hs0 h
 rw [Option.bind_assoc] at h
 refine ag ?_
 refine aa ?_
 refine aw rfl rfl rfl (aP rfl Gu Jl) trivial fun b=>?_
 refine ao ?_
 refine ae ?_
 show JC _ _ _ _ _
 refine ag ?_
 refine aa ?_
 refine ax rfl rfl ?_
 refine bC (Δ:=[_]) (F:=_) (fun _ _ _=>au rfl _) rfl rfl (an [.tmp 8,.tmp 56] rfl rfl Ov rfl (G4 (b:=b) (n:=m) (by omega) (by omega))) ⟨rfl,rfl,trivial⟩ fun bc=>?_
 refine ao ?_
 refine ae ?_
 show JC _ _ _ _ _
 refine ag ?_
 refine aa ?_
 refine ax rfl rfl ?_
 refine aB rfl (ba (t:=.str) rfl Tryz.underlying86 ye es0) ⟨rfl,rfl,trivial⟩ ?_
 refine aB rfl (ar (t:=.str) rfl ye rfl) ⟨rfl,trivial⟩ ?_
 refine bC (Δ:=[_,_]) (F:=_) (fun _ _ _=>au rfl _) rfl rfl (an [.tmp 8,.tmp 60] rfl rfl C7 rfl (lW (b:=b) (p:=some ⟨b,0,none⟩) (v:=BP bc) (l:=[]) (s:=s0) (.inr rfl) rfl (by simpa using hs0))) ⟨rfl,rfl,trivial⟩ fun v0=>?_
 refine ao ?_
 refine ae ?_
 show JC _ _ _ _ _
 refine ag ?_
 refine ag ?_
 refine aa ?_
 refine ax rfl rfl ?_
 refine aB rfl (Ff (t:=.str) rfl Tryz.underlying86 ye (by decide) (by omega)) ⟨rfl,rfl,trivial⟩ ?_
 refine aB rfl (jF rfl rfl Tryz.underlying86) ⟨rfl,trivial⟩ ?_
 refine eD rfl ?_
 refine ao ?_
 refine ae ?_
 show JC _ _ _ _ _
 refine aj ?_
 refine aI (Z:=Value) (α:=Int×List Int) (fun _ y=>[(1,.eq (.string sep)),(8,.eq (bP b)),(63,.rep (.slice .str) (ss.drop 1)),(64,.eq (.int .i64 ((ss.drop 1).length:Int))),(65,.eq (.int .i64 y.1))]) (fun v y=>[.obj b 162 (bA (bP b) v),.sl v 5 (.int .u8) y.2]) (lV (ss.drop 1) sep) k v0 ((0:Int),rZ s0) (fun _=>rfl) h (SE.fin [0,1] ⟨rfl,rfl,rfl,rfl,rfl,trivial⟩ rfl) (fun n v y h=>?_)
 unfold lV at h
 refine ag ?_
 refine aa ?_
 refine aB rfl (bm rfl) ⟨rfl,rfl,trivial⟩ ?_
 refine ao ?_
 refine ae ?_
 show JC _ _ _ _ _
 refine ag ?_
 refine bu rfl (fun hb=>?_) (fun hb=>?_)
 ·
  replace h:=cr (mh hb) h;refine aV ?_;refine ae ?_;show JC _ _ _ _ _;refine ag ?_;refine aj ?_;refine ag ?_;refine aa ?_;obtain⟨s,es,h⟩:=ab h;refine aB rfl (ba (t:=.str) rfl Tryz.underlying86 ye es) ⟨rfl,rfl,trivial⟩ ?_;refine aB rfl (ar (t:=.str) rfl ye rfl) ⟨rfl,trivial⟩ ?_;refine dx rfl rfl ?_;refine ao ?_;refine ae ?_;show JC _ _ _ _ _
  have hk:bY (y.2.length+sep.size)∧bY ((y.2++rZ sep).length+s.size):=by
   apply Classical.byContradiction;intro hn;rw [if_neg hn] at h;cases h
  replace h:=cr hk h;refine wq 1 rfl fun hv=>?_;refine ag ?_;refine aa ?_;refine ax rfl rfl ?_;refine bC (Δ:=[_,_]) (F:=_) (fun _ _ _=>au rfl _) rfl rfl (an [.tmp 8,.tmp 69] rfl rfl C7 rfl (lW (b:=b) (p:=some ⟨b,0,none⟩) (s:=sep) (.inr rfl) hv hk.1)) ⟨rfl,rfl,trivial⟩ fun v1=>?_;refine ao ?_;refine ae ?_;show JC _ _ _ _ _;refine wq 1 rfl fun hv1=>?_;refine aa ?_;refine ax rfl rfl ?_;refine bC (Δ:=[_,_]) (F:=_) (fun _ _ _=>au rfl _) rfl rfl (an [.tmp 8,.tmp 71] rfl rfl C7 rfl (lW (b:=b) (p:=some ⟨b,0,none⟩) (s:=s) (.inr rfl) hv1 hk.2)) ⟨rfl,rfl,trivial⟩ fun v2=>?_;refine ao ?_;refine aG ?_;refine ae ?_;show JC _ _ _ _ _;refine aa ?_;obtain⟨z3,ez3,h⟩:=ab h;refine aB rfl (bg rfl ez3) ⟨rfl,rfl,trivial⟩ ?_;refine ax rfl rfl ?_;refine ao ?_;refine ae ?_;exact i7 (v2,(z3,(y.2++rZ sep)++rZ s)) h (SE.fin [0,1] ⟨rfl,rfl,rfl,rfl,rfl,trivial⟩ rfl)
 replace h:=bv (lw hb) h
 refine dJ ?_
 refine aR ?_
 refine aR ?_
 refine bR ?_
 refine ae ?_
 show JC _ _ _ _ _
 replace h:(if y.2=[] then none else some (qU y.2):Option ByteArray).bind some=some r:=h
 have hy2:y.2≠[]:=by
  intro hn;rw [if_pos hn] at h;cases h
 rw [if_neg hy2] at h
 obtain rfl:=Option.some.inj h
 refine ag ?_
 refine aa ?_
 refine bC (Δ:=[_,_]) (F:=_) (fun _ _ _=>au rfl _) rfl rfl (an [.tmp 8] rfl rfl I2 rfl (wY (b:=b) (fun hn=>absurd hn hy2))) ⟨rfl,trivial⟩ fun _=>?_
 refine dx rfl rfl ?_
 refine ao ?_
 refine ae ?_
 show JC _ _ _ _ _
 refine aA ?_
 exact aL () [_] 0 ⟨rfl,trivial⟩ rfl
end Go.Proofs.YtcnpijmfgfnpiaaGreatDoor
