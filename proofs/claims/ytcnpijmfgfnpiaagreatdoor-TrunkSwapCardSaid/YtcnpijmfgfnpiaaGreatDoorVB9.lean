import Derived.Test.YtcnpijmfgfnpiaaGreatDoorVB5
import Derived.Test.YtcnpijmfgfnpiaaGreatDoorProg
import Derived.Stop.Asserts
set_option linter.unusedSimpArgs false
set_option linter.unusedVariables false
set_option maxRecDepth 20000
set_option maxHeartbeats 4000000
namespace Go.Proofs.YtcnpijmfgfnpiaaGreatDoor
open K Go Go.Proofs Go.Extern
theorem AK:dS Tryz.prog 159 1 false:=⟨fun w=>by kernel_rfl,fun w=>by kernel_rfl⟩
theorem jL:dS Tryz.prog 160 1 false:=⟨fun w=>by kernel_rfl,fun w=>by kernel_rfl⟩
theorem NA:aU Tryz.prog 162 0 0:=aU.of (by kernel_rfl)
theorem rR:aU Tryz.prog 162 1 1:=aU.of (by kernel_rfl)
theorem AO:mL Tryz.prog 160 5 1 1:=.of (z:=(.int .u8 (0))) Tryz.underlying160 (by kernel_rfl) rfl rfl rfl
theorem NN:fY Tryz.prog 186 Extern.AbiNoEscape.same:=.of Tryz.func186 (by kernel_rfl) (by kernel_rfl) (by kernel_rfl) (by kernel_rfl)
theorem BI:ah Tryz.prog 151:=ah.of Tryz.func151 (by kernel_rfl) (by kernel_rfl)
theorem NQ:ah Tryz.prog 152:=ah.of Tryz.func152 (by kernel_rfl) (by kernel_rfl)
@[reducible] def bA(p v:Value):A:=.agg (.pair (.eq p) (.eq v))
abbrev bP(b:Nat):Value:=.pointer (some ⟨b,0,none⟩)
theorem uU{p:Option Addr}:Ns Tryz.prog (binOp .eql 159 (.pointer p) (.pointer none)):=by
 cases p with
 |none=>exact og (by kernel_rfl)
 |some p=>exact og (by kernel_rfl)
theorem D8{p:Option Addr}{x y:Operand}(w:World):(do eqGuard .eql 159 x y (.pointer p) (.pointer none);binOp .eql 159 (.pointer p) (.pointer none):Sem Value).run Tryz.prog w= .ok (.bool p.isNone) w:=by
 cases p <;> kernel_rfl
theorem Bg{p:Addr}:Ns Tryz.prog (binOp .neq 159 (.pointer (some p)) (.pointer (some p))):=by
 refine ai (s:=Op.equal 159 (.pointer (some p)) (.pointer (some p))) ?_ fun _=>bp;show Ns Tryz.prog (Op.equalIn (9999+1) 159 (.pointer (some p)) (.pointer (some p)));unfold Op.equalIn;refine cK Tryz.underlying159 (ai cR fun n=>sP ?_ (sP bp (ai fF fun _=>bp)));unfold sameAddr;simp only [beq_self_eq_true,if_true];exact bp
theorem Nh:∃j,Tryz.prog.info? 162=some j∧j.size≠0:=by
 obtain⟨j,h1,h2⟩:=Option.map_eq_some_iff.1 (show(Tryz.prog.info? 162).map (·.size)=some 2 by kernel_rfl);exact⟨j,h1,by omega⟩
theorem nH{b:Nat}{p:Option Addr}{v:Value}(hp:p=none∨p=some ⟨b,0,none⟩)(hv:bz v=true):bZ Tryz.prog 151 [.eq (bP b)] [.obj b 162 (bA (.pointer p) v)] (fun _:Unit=>(bq [],[.obj b 162 (bA (bP b) v)])):=by
 obtain⟨j162,inf162_eq,inf162_sz⟩:=Nh;refine bZ.of 20 Tryz.func151 rfl Tryz.ntmps151 rfl fun S w0=>?_;refine ag ?_;refine ab ?_;refine ax rfl rfl ?_;refine aC rfl (aV rfl) ⟨rfl,trivial⟩ ?_;refine aC rfl (aw rfl NA) ⟨rfl,trivial⟩ ?_;refine bV rfl rfl rfl (ap rfl AK (fun _=>rfl) rfl) ⟨rfl,trivial⟩ ?_;refine aC rfl (iE rfl D8 uU) ⟨rfl,rfl,trivial⟩ ?_;refine ao ?_;refine ae ?_;show JC _ _ _ _ _;refine bL rfl (fun hb=>?_) (fun hb=>?_)
 ·refine ab ?_;refine ax rfl rfl ?_;refine ax rfl rfl ?_;refine bV rfl rfl rfl (A6 rfl Tryz.underlying159 Tryz.underlying179 inf162_eq inf162_sz rfl) ⟨rfl,trivial⟩ ?_;refine aC rfl (GH NN [.tmp 9] [bP b] rfl rfl rfl (fun _=>rfl) bp) ⟨rfl,trivial⟩ ?_;refine bV rfl rfl rfl (xx rfl Tryz.underlying179 Tryz.underlying159 inf162_eq (by kernel_rfl)) ⟨rfl,trivial⟩ ?_;refine aC rfl (aV rfl) ⟨rfl,trivial⟩ ?_;refine aC rfl (aw rfl NA) ⟨rfl,trivial⟩ ?_;refine bi rfl rfl (bh rfl AK rfl rfl rfl) ⟨rfl,rfl,trivial⟩ ?_;refine ao ?_;refine jg ?_;exact aE () [] 1 trivial rfl
 ·have hp':p=some ⟨b,0,none⟩:=by
   rcases hp with rfl |rfl
   ·cases hb
   ·rfl
  subst hp';refine ag ?_;refine ab ?_;refine ax rfl rfl ?_;refine aC rfl (aV rfl) ⟨rfl,trivial⟩ ?_;refine aC rfl (aw rfl NA) ⟨rfl,trivial⟩ ?_;refine bV rfl rfl rfl (ap rfl AK (fun _=>rfl) rfl) ⟨rfl,trivial⟩ ?_;refine ax rfl rfl ?_;refine aC rfl (Gw rfl Tryz.underlying159 inf162_eq Bg) ⟨rfl,rfl,trivial⟩ ?_;refine ao ?_;refine ae ?_;show JC _ _ _ _ _;refine bL rfl (fun hb=>(by cases hb)) (fun hb=>?_);refine aS ?_;refine jg ?_;exact aE () [] 1 trivial rfl
theorem vH{v:Value}{l:List Int}{r:Int}(h0:0≤r)(h1:r≤127)(hl:bT (l.length+1)):bZ Tryz.prog 152 [.eq v,.eq (.int .i32 r)] [.sl v 5 (.int .u8) l] (fun v':Value=>(bq [.eq v'],[.sl v' 5 (.int .u8) (l++[r])])):=by
 refine bZ.of 16 Tryz.func152 rfl Tryz.ntmps152 rfl fun S w0=>?_;have w32:IntKind.u32.wrap r=r:=by simp [IntKind.wrap,IntKind.bits,IntKind.signed];omega
 have w8:IntKind.u8.wrap r=r:=by simp [IntKind.wrap,IntKind.bits,IntKind.signed];omega
 refine ag ?_;refine ab ?_;refine dG rfl ?_;refine ao ?_;refine ae ?_;show JC _ _ _ _ _;refine ag ?_;refine ag ?_;refine ab ?_;refine ax rfl rfl ?_;refine aC rfl (oN rfl Tryz.underlying21 Tryz.underlying201) ⟨rfl,trivial⟩ ?_;rw [w32];refine aC rfl (uS rfl) ⟨rfl,rfl,trivial⟩ ?_;refine ao ?_;refine ae ?_;show JC _ _ _ _ _;refine bL rfl (fun hb=>?_) (fun hb=>absurd h1 (by simpa using hb));refine ag ?_;refine ab ?_;refine ax rfl rfl ?_;refine ax rfl rfl ?_;refine aC rfl (oN rfl Tryz.underlying21 Tryz.underlying5) ⟨rfl,trivial⟩ ?_;rw [w8];refine aC rfl (bF (t:=(.int .u8)) [(.tmp 10,.eq (.int .u8 r))] [r] rfl rfl AO (.cons rfl .int .nil) rfl rfl) ⟨rfl,trivial⟩ ?_;refine dF rfl rfl rfl (bX rfl rfl AO (by simpa using hl)) ⟨rfl,rfl,trivial⟩ fun v'=>?_;refine de rfl rfl ?_;refine ao ?_;refine ae ?_;show JC _ _ _ _ _;refine aA ?_;refine aP ?_;exact aE v' [_] 1 ⟨rfl,trivial⟩ rfl
theorem xm{b:Nat}{p:Option Addr}{v:Value}{l:List Int}{r:Int}(hp:p=none∨p=some ⟨b,0,none⟩)(hv:bz v=true)(h0:0≤r)(h1:r≤127)(hl:bT (l.length+1)):
 bZ Tryz.prog 119 [.eq (bP b),.eq (.int .i32 r)] [.obj b 162 (bA (.pointer p) v),.sl v 5 (.int .u8) l]
  (fun v':Value=>(bq [.eq (.int .i64 1),.eq .nilIface],[.obj b 162 (bA (bP b) v'),.sl v' 5 (.int .u8) (l++[r])])):=by
 refine bZ.of 30 Tryz.func119 rfl Tryz.ntmps119 rfl fun S w0=>?_
 refine ag ?_
 refine ab ?_
 refine dG rfl ?_
 refine dG rfl ?_
 refine ao ?_
 refine ae ?_
 show JC _ _ _ _ _
 refine ag ?_
 refine ab ?_
 refine ax rfl rfl ?_
 refine bV rfl rfl rfl (ak [.tmp 7] rfl rfl BI rfl (nH hp hv)) ⟨rfl,trivial⟩ ?_
 refine ao ?_
 refine ae ?_
 show JC _ _ _ _ _
 refine ag ?_
 refine ab ?_
 refine ax rfl rfl ?_
 refine aC rfl (aV rfl) ⟨rfl,trivial⟩ ?_
 refine aC rfl (aw rfl rR) ⟨rfl,trivial⟩ ?_
 refine bV rfl rfl rfl (ap rfl jL (fun _=>rfl) rfl) ⟨rfl,trivial⟩ ?_
 refine bK 1 rfl ?_
 refine bV rfl rfl rfl (cZ rfl rfl Tryz.underlying160) ⟨rfl,trivial⟩ ?_
 refine de rfl rfl ?_
 refine ao ?_
 refine ae ?_
 show JC _ _ _ _ _
 refine ag ?_
 refine ab ?_
 refine ax rfl rfl ?_
 refine ax rfl rfl ?_
 refine aC rfl (aV rfl) ⟨rfl,trivial⟩ ?_
 refine aC rfl (aw rfl rR) ⟨rfl,trivial⟩ ?_
 refine bK 1 rfl ?_
 refine bV rfl rfl rfl (ap rfl jL (fun _=>rfl) rfl) ⟨rfl,trivial⟩ ?_
 refine ax rfl rfl ?_
 refine bK 1 rfl ?_
 refine dF rfl rfl rfl (ak [.tmp 18,.tmp 19] rfl rfl NQ rfl (vH h0 h1 hl)) ⟨rfl,rfl,trivial⟩ fun v'=>?_
 refine fW fun hv'=>?_
 refine aC rfl (aV rfl) ⟨rfl,trivial⟩ ?_
 refine aC rfl (aw rfl rR) ⟨rfl,trivial⟩ ?_
 refine bK 1 rfl ?_
 refine bi rfl rfl (bh rfl jL hv' rfl rfl) ⟨rfl,rfl,trivial⟩ ?_
 refine ao ?_
 refine ae ?_
 show JC _ _ _ _ _
 refine ag ?_
 refine ab ?_
 refine ax rfl rfl ?_
 refine aC rfl (aV rfl) ⟨rfl,trivial⟩ ?_
 refine aC rfl (aw rfl rR) ⟨rfl,trivial⟩ ?_
 refine bV rfl rfl rfl (ap rfl jL (fun _=>rfl) rfl) ⟨rfl,trivial⟩ ?_
 refine bK 1 rfl ?_
 refine bV rfl rfl rfl (cZ rfl rfl Tryz.underlying160) ⟨rfl,trivial⟩ ?_
 refine ax rfl rfl ?_
 have hck:ck (((l++[r]).length:Int) - (l.length:Int))=some 1:=by
  have:(((l++[r]).length:Int) - (l.length:Int))=1:=by simp;omega
  rw [this];rfl
 refine aC rfl (fQ rfl hck) ⟨rfl,rfl,trivial⟩ ?_
 refine de rfl rfl ?_
 refine dG rfl ?_
 refine ao ?_
 refine ae ?_
 show JC _ _ _ _ _
 refine aA ?_
 refine bv (SE.fin (Γ':=[(4,_),(5,_)]) [1,0] ⟨rfl,rfl,trivial⟩ rfl) ?_
 exact aE v' [_,_] 2 ⟨rfl,rfl,trivial⟩ rfl
theorem RP:Tryz.prog.cellsOf 5=1:=by kernel_rfl
theorem qH:Tryz.prog.follows .mixedOrders=true:=by kernel_rfl
theorem wc{b:Nat}{p v:Value}{l:List Int}(hl:l=[]→v= .slice none 0 0):
 bZ Tryz.prog 120 [.eq (bP b)] [.obj b 162 (bA p v),.sl v 5 (.int .u8) l] (fun _:Unit=>(bq [.eq (.string (qq l))],[])):=by
 refine bZ.of 14 Tryz.func120 rfl Tryz.ntmps120 rfl fun S w0=>?_
 refine ag ?_
 refine ab ?_
 refine dG rfl ?_
 refine ao ?_
 refine ae ?_
 show JC _ _ _ _ _
 refine ag ?_
 refine cy ?_
 refine dH rfl rfl rfl (aW rfl) ⟨rfl,trivial⟩ ?_
 refine dH rfl rfl rfl (aV rfl) ⟨rfl,trivial⟩ ?_
 refine dH rfl rfl rfl (aw rfl rR) ⟨rfl,trivial⟩ ?_
 refine nY 0 rfl rfl rfl rfl (ap rfl jL (fun _=>rfl) rfl) ⟨rfl,trivial⟩ ?_
 refine nY 1 rfl rfl rfl rfl (zf rfl rfl hl) ⟨rfl,trivial⟩ ?_
 refine dH rfl rfl rfl (aW rfl) ⟨rfl,trivial⟩ ?_
 refine dH rfl rfl rfl (aV rfl) ⟨rfl,trivial⟩ ?_
 refine dH rfl rfl rfl (aw rfl rR) ⟨rfl,trivial⟩ ?_
 refine nY 0 rfl rfl rfl rfl (ap rfl jL (fun _=>rfl) rfl) ⟨rfl,trivial⟩ ?_
 refine nY 1 rfl rfl rfl rfl (cZ rfl rfl Tryz.underlying160) ⟨rfl,trivial⟩ ?_
 refine tw (by kernel_rfl) qH ?_
 refine bK 1 rfl ?_
 refine bJ (Δ:=[_]) (F:=_) (fun _ _ _=>av rfl _) rfl rfl (uN rfl rfl Tryz.underlying213 RP hl) ⟨rfl,rfl,trivial⟩ fun _=>?_
 refine de rfl rfl ?_
 refine ao ?_
 refine ae ?_
 show JC _ _ _ _ _
 refine aA ?_
 exact aE () [_] 0 ⟨rfl,trivial⟩ rfl
theorem Re:(Tryz.prog.info? 5).bind (·.zero)=some (.int .u8 0):=by kernel_rfl
theorem lL{b:Nat}{p:Option Addr}{v:Value}{l:List Int}{s:ByteArray}(hp:p=none∨p=some ⟨b,0,none⟩)(hv:bz v=true)(hl:bT (l.length+s.size)):
 bZ Tryz.prog 154 [.eq (bP b),.eq (.string s)] [.obj b 162 (bA (.pointer p) v),.sl v 5 (.int .u8) l]
  (fun v':Value=>(bq [.eq (.int .i64 s.size),.eq .nilIface],[.obj b 162 (bA (bP b) v'),.sl v' 5 (.int .u8) (l++ri s)])):=by
 refine bZ.of 19 Tryz.func154 rfl Tryz.ntmps154 rfl fun S w0=>?_
 refine ag ?_
 refine ab ?_
 refine dG rfl ?_
 refine dG rfl ?_
 refine ao ?_
 refine ae ?_
 show JC _ _ _ _ _
 refine ag ?_
 refine ab ?_
 refine ax rfl rfl ?_
 refine bV rfl rfl rfl (ak [.tmp 6] rfl rfl BI rfl (nH hp hv)) ⟨rfl,trivial⟩ ?_
 refine ao ?_
 refine ae ?_
 show JC _ _ _ _ _
 refine ag ?_
 refine ab ?_
 refine ax rfl rfl ?_
 refine ax rfl rfl ?_
 refine aC rfl (aV rfl) ⟨rfl,trivial⟩ ?_
 refine aC rfl (aw rfl rR) ⟨rfl,trivial⟩ ?_
 refine bV rfl rfl rfl (ap rfl jL (fun _=>rfl) rfl) ⟨rfl,trivial⟩ ?_
 refine ax rfl rfl ?_
 refine bK 1 rfl ?_
 refine dF rfl rfl rfl (zm rfl rfl AO Tryz.underlying9 Re (by decide) hl) ⟨rfl,rfl,trivial⟩ fun v'=>?_
 refine fW fun hv'=>?_
 refine aC rfl (aV rfl) ⟨rfl,trivial⟩ ?_
 refine aC rfl (aw rfl rR) ⟨rfl,trivial⟩ ?_
 refine bK 1 rfl ?_
 refine bi rfl rfl (bh rfl jL hv' rfl rfl) ⟨rfl,rfl,trivial⟩ ?_
 refine ao ?_
 refine ae ?_
 show JC _ _ _ _ _
 refine ag ?_
 refine ab ?_
 refine ax rfl rfl ?_
 refine aC rfl (m6 rfl rfl Tryz.underlying9) ⟨rfl,trivial⟩ ?_
 refine de rfl rfl ?_
 refine dG rfl ?_
 refine ao ?_
 refine ae ?_
 show JC _ _ _ _ _
 refine aA ?_
 exact aE v' [_,_] 2 ⟨rfl,rfl,trivial⟩ rfl
theorem NK:fY Tryz.prog 207 (Extern.BytealgMakeNoZero.makeNoZero #[3] #[160]):=.of Tryz.func207 (by kernel_rfl) (by kernel_rfl) (by kernel_rfl) (by kernel_rfl)
theorem NL:ah Tryz.prog 188:=ah.of Tryz.func188 (by kernel_rfl) (by kernel_rfl)
def Rh:Value→List D
 | .slice (some ⟨b,0,none⟩) m c=>[.sl (.slice (some ⟨b,0,none⟩) 0 c) 5 (.int .u8) []]
 |_=>[IA]
theorem MF{v:Value}(h:∀d∈Rh v,∃S w,d.holds S w):∃b m c,v= .slice (some ⟨b,0,none⟩) m c:=by
 unfold Rh at h;split at h
 ·exact⟨_,_,_,rfl⟩
 ·obtain⟨S,w,hb⟩:=h IA (by simp);exact absurd hb zW
theorem OU:dS Tryz.prog 5 1 false:=⟨fun w=>by kernel_rfl,fun w=>by kernel_rfl⟩
theorem FX{b cap:Nat}:sliced (some ⟨b,0,none⟩) 0 (Int.toNat 0) cap 1= .slice (some ⟨b,0,none⟩) 0 cap:=Cj
abbrev AQ(bc:Nat×Nat):Value:=.slice (some ⟨bc.1,0,none⟩) 0 bc.2
theorem Jv{b n:Nat}{p:Value}(hn:n≤281474976710656):
 bZ Tryz.prog 188 [.eq (bP b),.eq (.int .i64 n)] [.obj b 162 (bA p (.slice none 0 0))] (fun bc:Nat×Nat=>(bq [],[.obj b 162 (bA p (AQ bc)),.sl (AQ bc) 5 (.int .u8) []])):=by
 refine bZ.of 30 Tryz.func188 rfl Tryz.ntmps188 rfl fun S w0=>?_
 have c1:ck (2 * ((0:Nat):Int))=some 0:=rfl
 have c2:ck (0+(n:Int))=some (n:Int):=by rw [Int.zero_add];unfold ck;rw [if_pos (by omega)]
 refine ag ?_
 refine kU ?_
 refine aN rfl rfl rfl (aW rfl) ⟨rfl,trivial⟩ ?_
 refine aN rfl rfl rfl (aV rfl) ⟨rfl,trivial⟩ ?_
 refine aN rfl rfl rfl (aw rfl rR) ⟨rfl,trivial⟩ ?_
 refine fw 0 rfl rfl rfl rfl (ap rfl jL (fun _=>rfl) rfl) ⟨rfl,trivial⟩ ?_
 refine aN rfl rfl rfl (GK rfl rfl Tryz.underlying160) ⟨rfl,trivial⟩ ?_
 refine aN rfl rfl rfl (LH rfl c1) ⟨rfl,rfl,trivial⟩ ?_
 refine aN rfl rfl rfl (aW rfl) ⟨rfl,trivial⟩ ?_
 refine aN rfl rfl rfl (bb rfl c2) ⟨rfl,rfl,trivial⟩ ?_
 refine Dw Rh (fun _=>rfl) rfl rfl rfl (Gu NK rfl rfl Tryz.underlying160 hn) ⟨rfl,trivial⟩ ?_
 refine aN rfl rfl rfl (aW rfl) ⟨rfl,trivial⟩ ?_
 refine aN rfl rfl rfl (aV rfl) ⟨rfl,trivial⟩ ?_
 refine aN rfl rfl rfl (aw rfl rR) ⟨rfl,trivial⟩ ?_
 refine fw 0 rfl rfl rfl rfl (ap rfl jL (fun _=>rfl) rfl) ⟨rfl,trivial⟩ ?_
 refine aN rfl rfl rfl (GA rfl rfl Tryz.underlying160) ⟨rfl,trivial⟩ ?_
 refine pr 14 [true,true,true,true,true,true,true,true,true,true,true,true,true,true] [19,4] [] [] rfl (by kernel_rfl) (by kernel_rfl) (by kernel_rfl) qH (fun vs hv hB=>?_)
 obtain⟨u0,vs1,rfl,hv1⟩:=ar hv
 obtain⟨u1,vs2,rfl,hv2⟩:=ar hv1
 obtain⟨u2,vs3,rfl,hv3⟩:=ar hv2
 obtain⟨u3,vs4,rfl,hv4⟩:=ar hv3
 obtain⟨u4,vs5,rfl,hv5⟩:=ar hv4
 obtain⟨u5,vs6,rfl,hv6⟩:=ar hv5
 obtain⟨u6,vs7,rfl,hv7⟩:=ar hv6
 obtain⟨u7,vs8,rfl,hv8⟩:=ar hv7
 obtain⟨u8,vs9,rfl,hv9⟩:=ar hv8
 obtain⟨u9,vs10,rfl,hv10⟩:=ar hv9
 obtain⟨u10,vs11,rfl,hv11⟩:=ar hv10
 obtain⟨u11,vs12,rfl,hv12⟩:=ar hv11
 obtain⟨u12,vs13,rfl,hv13⟩:=ar hv12
 obtain⟨u13,vs14,rfl,hv14⟩:=ar hv13
 obtain rfl:=my hv14
 obtain⟨g,m,q,rfl⟩:=MF hB.2.2.2.2.2.2.2.2.1
 refine⟨[0,1],[.obj b 162 (bA p (.slice none 0 0)),.sl (AQ (g,q)) 5 (.int .u8) []],by kernel_rfl,by decide,?_⟩
 refine nV rfl rfl rfl rfl (uO rfl Tryz.underlying160 OU (Int.le_refl 0) (Int.natCast_nonneg _)) ⟨rfl,rfl,trivial⟩ (by kernel_rfl) ?_
 rw [FX]
 refine nV rfl rfl rfl rfl (iG rfl) ⟨rfl,trivial⟩ (by kernel_rfl) ?_
 refine tq ?_
 refine bv (SE.fin (Γ':=[(0,.eq (bP b)),(4,.eq (AQ (g,q)))]) (Δ':=[.obj b 162 (bA p (.slice none 0 0)),.sl (AQ (g,q)) 5 (.int .u8) []]) [0,1] ⟨rfl,rfl,trivial⟩ rfl) ?_
 refine ae ?_
 show JC _ _ _ _ _
 refine ag ?_
 refine ab ?_
 refine ax rfl rfl ?_
 refine ax rfl rfl ?_
 refine aC rfl (aV rfl) ⟨rfl,trivial⟩ ?_
 refine aC rfl (aw rfl rR) ⟨rfl,trivial⟩ ?_
 refine bV rfl rfl rfl (ap rfl jL (fun _=>rfl) rfl) ⟨rfl,trivial⟩ ?_
 refine aC rfl (JI rfl rfl Tryz.underlying160 OU) ⟨rfl,rfl,trivial⟩ ?_
 refine ao ?_
 refine ae ?_
 show JC _ _ _ _ _
 refine ab ?_
 refine ax rfl rfl ?_
 refine ax rfl rfl ?_
 refine aC rfl (aV rfl) ⟨rfl,trivial⟩ ?_
 refine aC rfl (aw rfl rR) ⟨rfl,trivial⟩ ?_
 refine bi rfl rfl (bh rfl jL rfl rfl rfl) ⟨rfl,rfl,trivial⟩ ?_
 refine ao ?_
 refine jg ?_
 exact aE (g,q) [] 2 trivial rfl
end Go.Proofs.YtcnpijmfgfnpiaaGreatDoor
set_option linter.unusedVariables false
set_option maxRecDepth 20000
set_option maxHeartbeats 4000000
namespace Go.Proofs.YtcnpijmfgfnpiaaGreatDoor
open K Go Go.Proofs Go.Extern
theorem F4{b n:Nat}(h0:0 < n)(hn:n≤281474976710656):
 bZ Tryz.prog 153 [.eq (bP b),.eq (.int .i64 n)] [.obj b 162 (bA (.pointer none) (.slice none 0 0))] (fun bc:Nat×Nat=>(bq [],[.obj b 162 (bA (bP b) (AQ bc)),.sl (AQ bc) 5 (.int .u8) []])):=by
 refine bZ.of 25 Tryz.func153 rfl Tryz.ntmps153 rfl fun S w0=>?_
 have c1:ck (((0:Nat):Int) - ((0:Nat):Int))=some 0:=rfl
 refine ag ?_
 refine ab ?_
 refine ax rfl rfl ?_
 refine bV rfl rfl rfl (ak [.tmp 4] rfl rfl BI rfl (nH (.inl rfl) rfl)) ⟨rfl,trivial⟩ ?_
 refine ao ?_
 refine ae ?_
 show JC _ _ _ _ _
 refine ag ?_
 refine ag ?_
 refine ab ?_
 refine ax rfl rfl ?_
 refine aC rfl (bm rfl) ⟨rfl,rfl,trivial⟩ ?_
 refine ao ?_
 refine ae ?_
 show JC _ _ _ _ _
 refine bL rfl (fun hb=>absurd (of_decide_eq_true hb) (by omega)) (fun hb=>?_)
 refine aS ?_
 refine ae ?_
 show JC _ _ _ _ _
 refine ag ?_
 refine cy ?_
 refine dH rfl rfl rfl (aW rfl) ⟨rfl,trivial⟩ ?_
 refine dH rfl rfl rfl (aV rfl) ⟨rfl,trivial⟩ ?_
 refine dH rfl rfl rfl (aw rfl rR) ⟨rfl,trivial⟩ ?_
 refine nY 0 rfl rfl rfl rfl (ap rfl jL (fun _=>rfl) rfl) ⟨rfl,trivial⟩ ?_
 refine dH rfl rfl rfl (GK rfl rfl Tryz.underlying160) ⟨rfl,trivial⟩ ?_
 refine dH rfl rfl rfl (aW rfl) ⟨rfl,trivial⟩ ?_
 refine dH rfl rfl rfl (aV rfl) ⟨rfl,trivial⟩ ?_
 refine dH rfl rfl rfl (aw rfl rR) ⟨rfl,trivial⟩ ?_
 refine nY 0 rfl rfl rfl rfl (ap rfl jL (fun _=>rfl) rfl) ⟨rfl,trivial⟩ ?_
 refine dH rfl rfl rfl (GA rfl rfl Tryz.underlying160) ⟨rfl,trivial⟩ ?_
 refine dH rfl rfl rfl (fQ rfl c1) ⟨rfl,rfl,trivial⟩ ?_
 refine dH rfl rfl rfl (aW rfl) ⟨rfl,trivial⟩ ?_
 refine tw (by kernel_rfl) qH ?_
 refine aC rfl (bm rfl) ⟨rfl,rfl,trivial⟩ ?_
 refine ao ?_
 refine ae ?_
 show JC _ _ _ _ _
 refine bL rfl (fun hb=>?_) (fun hb=>absurd (of_decide_eq_false hb) (by omega))
 refine ab ?_
 refine ax rfl rfl ?_
 refine ax rfl rfl ?_
 refine bJ (Δ:=[_]) (F:=_) (fun _ _ _=>av rfl _) rfl rfl (ak [.tmp 22,.tmp 23] rfl rfl NL rfl (Jv hn)) ⟨rfl,rfl,trivial⟩ fun bc=>?_
 refine ao ?_
 refine jg ?_
 exact aE bc [] 2 trivial rfl
theorem xh:dS Tryz.prog 9 1 false:=⟨fun w=>by kernel_rfl,fun w=>by kernel_rfl⟩
theorem NS:ah Tryz.prog 119:=ah.of Tryz.func119 (by kernel_rfl) (by kernel_rfl)
theorem Im:ah Tryz.prog 120:=ah.of Tryz.func120 (by kernel_rfl) (by kernel_rfl)
theorem NP:ah Tryz.prog 153:=ah.of Tryz.func153 (by kernel_rfl) (by kernel_rfl)
theorem BG:ah Tryz.prog 154:=ah.of Tryz.func154 (by kernel_rfl) (by kernel_rfl)
theorem Fj:∀w,(zeroValue 162).run Tryz.prog w= .ok (.agg #[.pointer none,.slice none 0 0]) w:=fun w=>by kernel_rfl
theorem IH:∀S w,(A.cells S w (bA (.pointer none) (.slice none 0 0)) (Value.cells (.agg #[.pointer none,.slice none 0 0])).toList):=fun _ _=>⟨[_],_,rfl,⟨rfl,rfl⟩,rfl,rfl⟩
def nG(ss:List ByteArray):Nat→Int×Int→Option Int
 |0,_=>none
 |n+1,y=>if y.1 < (ss.length:Int) then((aZ ss y.1).bind fun s=>(ck ((9223372036854775807:Int) - y.2)).bind fun z=>if z < (s.size:Int) then none else(ck (y.2+(s.size:Int))).bind fun z2=>(ck (y.1+(1:Int))).bind fun z3=>nG ss n (z3,z2)) else some y.2
def lK(ss:List ByteArray)(sep:ByteArray):Nat→Int×List Int→Option (List Int)
 |0,_=>none
 |n+1,y=>if y.1 < (ss.length:Int) then((aZ ss y.1).bind fun s=>if bT (y.2.length+sep.size)∧bT ((y.2++ri sep).length+s.size) then(ck (y.1+(1:Int))).bind fun z3=>lK ss sep n (z3,(y.2++ri sep)++ri s) else none) else some y.2
def t3(k:Nat)(ss:List ByteArray)(sep:ByteArray):Option ByteArray:=
 if sep.size=1∧bT ss.length then
  if(ss.length:Int)=(0:Int) then some .empty
  else if(ss.length:Int)=(1:Int) then aZ ss 0
  else(nG ss k ((0:Int),(ss.length:Int) - 1)).bind fun n=>
   if 0 < n∧n≤281474976710656 then(aZ ss 0).bind fun s=>if bT s.size then(lK (ss.drop 1) sep k ((0:Int),ri s)).bind fun l=>if l=[] then none else some (qq l) else none else none
 else none
theorem AP(k:Nat)(ss:List ByteArray)(sep:ByteArray)(r:ByteArray)(h:t3 k ss sep=some r):
 bZ Tryz.prog 121 [.rep (.slice .str) ss,.eq (.string sep)] [] (fun _:Unit=>(bq [.eq (.string r)],[])):=by
 unfold t3 at h
 split at h
 case isFalse=>cases h
 rename_i hc
 obtain⟨hsep,hlen⟩:=hc
 unfold bT at hlen
 replace h:=a9 h
 refine bZ.of 75 Tryz.func121 rfl Tryz.ntmps121 rfl fun S w0=>?_
 refine ag ?_
 refine ab ?_
 refine dG rfl ?_
 refine ao ?_
 refine ae ?_
 show JC _ _ _ _ _
 refine ag ?_
 refine ag ?_
 refine ab ?_
 refine ax rfl rfl ?_
 refine aC rfl (jY rfl rfl Tryz.underlying86) ⟨rfl,trivial⟩ ?_
 refine ao ?_
 refine ae ?_
 show JC _ _ _ _ _
 refine aj ?_
 refine ag ?_
 refine ab ?_
 refine aC rfl (dr rfl) ⟨rfl,rfl,trivial⟩ ?_
 refine de rfl rfl ?_
 refine ao ?_
 refine ae ?_
 show JC _ _ _ _ _
 refine bL rfl (fun hb=>?_) (fun hb=>?_)
 ·
  replace h:=cp (me hb) h;refine ag ?_;refine ab ?_;refine dG rfl ?_;refine ao ?_;refine ae ?_;show JC _ _ _ _ _;refine aA ?_;refine ba ?_;refine aP ?_;obtain rfl:=Option.some.inj h;exact aE () [_] 0 ⟨rfl,trivial⟩ rfl
 replace h:=bH (lY hb) h
 have hne0:=lY hb
 refine ag ?_
 refine ab ?_
 refine aC rfl (dr rfl) ⟨rfl,rfl,trivial⟩ ?_
 refine de rfl rfl ?_
 refine ao ?_
 refine ae ?_
 show JC _ _ _ _ _
 refine bL rfl (fun hb=>?_) (fun hb=>?_)
 ·
  replace h:=cp (me hb) h;have es:aZ ss 0=some r:=by simpa using h
  refine ag ?_;refine ab ?_;refine ax rfl rfl ?_;refine aC rfl (aH (t:=.str) rfl Tryz.underlying86 xh es) ⟨rfl,rfl,trivial⟩ ?_;refine aC rfl (an (t:=.str) rfl xh rfl) ⟨rfl,trivial⟩ ?_;refine de rfl rfl ?_;refine ao ?_;refine ae ?_;show JC _ _ _ _ _;refine aA ?_;refine ba ?_;refine aP ?_;exact aE () [_] 0 ⟨rfl,trivial⟩ rfl
 replace h:=bH (lY hb) h
 have hne1:=lY hb
 refine aS ?_
 refine aO ?_
 refine ae ?_
 show JC _ _ _ _ _
 refine ag ?_
 refine ab ?_
 refine dG rfl ?_
 refine ao ?_
 refine ae ?_
 show JC _ _ _ _ _
 refine ag ?_
 refine ag ?_
 refine ab ?_
 refine ax rfl rfl ?_
 refine aC rfl (m6 rfl rfl Tryz.underlying9) ⟨rfl,trivial⟩ ?_
 refine aC rfl (jZ rfl) ⟨rfl,rfl,trivial⟩ ?_
 refine ao ?_
 refine ae ?_
 show JC _ _ _ _ _
 have c1:ck ((ss.length:Int) - 1)=some ((ss.length:Int) - 1):=by unfold ck;rw [if_pos (by omega)]
 have c2:ck ((sep.size:Int) * ((ss.length:Int) - 1))=some ((ss.length:Int) - 1):=by rw [hsep];simpa using c1
 have c3:ck (0+((ss.length:Int) - 1))=some ((ss.length:Int) - 1):=by rw [Int.zero_add];exact c1
 refine bL rfl (fun hb=>?_) (fun hb=>absurd (lY hb) (by omega))
 refine ag ?_
 refine ag ?_
 refine ab ?_
 refine ax rfl rfl ?_
 refine aC rfl (m6 rfl rfl Tryz.underlying9) ⟨rfl,trivial⟩ ?_
 refine ax rfl rfl ?_
 refine aC rfl (jY rfl rfl Tryz.underlying86) ⟨rfl,trivial⟩ ?_
 refine aC rfl (fQ rfl c1) ⟨rfl,rfl,trivial⟩ ?_
 refine aC rfl (O3 rfl (by omega)) ⟨rfl,rfl,trivial⟩ ?_
 refine aC rfl (qi rfl) ⟨rfl,rfl,trivial⟩ ?_
 refine ao ?_
 refine ae ?_
 show JC _ _ _ _ _
 refine bL rfl (fun hb=>?_) (fun hb=>?_)
 ·
  exfalso;have h1:=me hb;have q1:(9223372036854775807:Int).tdiv ((ss.length:Int) - 1)=9223372036854775807 / ((ss.length:Int) - 1):=Int.tdiv_eq_ediv_of_nonneg (by omega);have q2:(2:Int)≤9223372036854775807 / ((ss.length:Int) - 1):=Int.le_ediv_of_mul_le (by omega) (by omega);have q3:(9223372036854775807:Int) / ((ss.length:Int) - 1)≤9223372036854775807:=Int.ediv_le_self _ (by omega);rw [q1,rV (z:=9223372036854775807 / ((ss.length:Int) - 1)) (by unfold ck;rw [if_pos (by omega)])] at h1;omega
 refine aS ?_
 refine ae ?_
 show JC _ _ _ _ _
 refine ab ?_
 refine ax rfl rfl ?_
 refine ax rfl rfl ?_
 refine aC rfl (m6 rfl rfl Tryz.underlying9) ⟨rfl,trivial⟩ ?_
 refine ax rfl rfl ?_
 refine aC rfl (jY rfl rfl Tryz.underlying86) ⟨rfl,trivial⟩ ?_
 refine aC rfl (fQ rfl c1) ⟨rfl,rfl,trivial⟩ ?_
 refine aC rfl (LH rfl c2) ⟨rfl,rfl,trivial⟩ ?_
 refine aC rfl (bb rfl c3) ⟨rfl,rfl,trivial⟩ ?_
 refine de rfl rfl ?_
 refine ao ?_
 refine ae ?_
 show JC _ _ _ _ _
 rw [Option.bind_assoc] at h
 refine ag ?_
 refine ag ?_
 refine ab ?_
 refine ax rfl rfl ?_
 refine aC rfl (jY rfl rfl Tryz.underlying86) ⟨rfl,trivial⟩ ?_
 refine fg rfl ?_
 refine ao ?_
 refine ae ?_
 show JC _ _ _ _ _
 refine aj ?_
 refine aG (Z:=Unit) (α:=Int×Int) (fun _ y=>[(0,.rep (.slice .str) ss),(1,.eq (.string sep)),(5,.eq (.int .i64 y.2)),(39,.rep (.slice .str) ss),(40,.eq (.int .i64 (ss.length:Int))),(41,.eq (.int .i64 y.1))]) (fun _ _=>[]) (nG ss) k () ((0:Int),(ss.length:Int) - 1) (fun _=>rfl) h (SE.fin [] ⟨rfl,rfl,rfl,rfl,rfl,rfl,trivial⟩ rfl) (fun n z y h=>?_)
 unfold nG at h
 refine ag ?_
 refine ab ?_
 refine aC rfl (bm rfl) ⟨rfl,rfl,trivial⟩ ?_
 refine ao ?_
 refine ae ?_
 show JC _ _ _ _ _
 refine ag ?_
 refine bL rfl (fun hb=>?_) (fun hb=>?_)
 ·
  replace h:=cp (me hb) h;refine aS ?_;refine ae ?_;show JC _ _ _ _ _;refine ag ?_;refine aj ?_;refine ag ?_;refine ab ?_;obtain⟨s,es,h⟩:=aa h;refine aC rfl (aH (t:=.str) rfl Tryz.underlying86 xh es) ⟨rfl,rfl,trivial⟩ ?_;refine aC rfl (an (t:=.str) rfl xh rfl) ⟨rfl,trivial⟩ ?_;refine de rfl rfl ?_;refine ao ?_;refine ae ?_;show JC _ _ _ _ _;refine ag ?_;refine ag ?_;refine ab ?_;refine ax rfl rfl ?_;refine aC rfl (m6 rfl rfl Tryz.underlying9) ⟨rfl,trivial⟩ ?_;refine ax rfl rfl ?_;obtain⟨z,ez,h⟩:=aa h;refine aC rfl (fQ rfl ez) ⟨rfl,rfl,trivial⟩ ?_;refine aC rfl (jZ rfl) ⟨rfl,rfl,trivial⟩ ?_;refine ao ?_;refine ae ?_;show JC _ _ _ _ _;refine bL rfl (fun hb=>?_) (fun hb=>?_)
  ·replace h:=cp (me hb) h;cases h
  replace h:=bH (lY hb) h;refine aS ?_;refine ae ?_;show JC _ _ _ _ _;refine ab ?_;refine ax rfl rfl ?_;refine ax rfl rfl ?_;refine aC rfl (m6 rfl rfl Tryz.underlying9) ⟨rfl,trivial⟩ ?_;obtain⟨z2,ez2,h⟩:=aa h;refine aC rfl (bb rfl ez2) ⟨rfl,rfl,trivial⟩ ?_;refine de rfl rfl ?_;refine ao ?_;refine aO ?_;refine ae ?_;show JC _ _ _ _ _;refine ab ?_;obtain⟨z3,ez3,h⟩:=aa h;refine aC rfl (bb rfl ez3) ⟨rfl,rfl,trivial⟩ ?_;refine ax rfl rfl ?_;refine ao ?_;refine ae ?_;exact fX ((),(z3,z2)) h (SE.fin [] ⟨rfl,rfl,rfl,rfl,rfl,rfl,trivial⟩ rfl)
 replace h:=bH (lY hb) h
 refine dh ?_
 refine aI ?_
 refine aI ?_
 refine bO ?_
 refine ae ?_
 show JC _ _ _ _ _
 replace h:((if 0 < y.2∧y.2≤281474976710656 then(aZ ss 0).bind fun s=>if bT s.size then(lK (ss.drop 1) sep k ((0:Int),ri s)).bind fun l=>if l=[] then none else some (qq l) else none else none):Option ByteArray).bind some=some r:=h
 obtain⟨y1,y2⟩:=y
 have hy:0 < y2∧y2≤281474976710656:=by
  apply Classical.byContradiction;intro hn;rw [if_neg hn] at h;cases h
 replace h:=cp hy h
 obtain⟨m,rfl⟩:=Int.eq_ofNat_of_zero_le (show 0≤y2 by omega)
 obtain⟨s0,es0,h⟩:=aa h
 have hs0:bT s0.size:=by
  apply Classical.byContradiction;intro hn;rw [if_neg hn] at h;cases h
 replace h:=cp hs0 h
 rw [Option.bind_assoc] at h
 refine ag ?_
 refine ab ?_
 refine aF rfl rfl rfl (bR rfl Fj IH) trivial fun b=>?_
 refine ao ?_
 refine ae ?_
 show JC _ _ _ _ _
 refine ag ?_
 refine ab ?_
 refine ax rfl rfl ?_
 refine bJ (Δ:=[_]) (F:=_) (fun _ _ _=>av rfl _) rfl rfl (ak [.tmp 8,.tmp 56] rfl rfl NP rfl (F4 (b:=b) (n:=m) (by omega) (by omega))) ⟨rfl,rfl,trivial⟩ fun bc=>?_
 refine ao ?_
 refine ae ?_
 show JC _ _ _ _ _
 refine ag ?_
 refine ab ?_
 refine ax rfl rfl ?_
 refine aC rfl (aH (t:=.str) rfl Tryz.underlying86 xh es0) ⟨rfl,rfl,trivial⟩ ?_
 refine aC rfl (an (t:=.str) rfl xh rfl) ⟨rfl,trivial⟩ ?_
 refine bJ (Δ:=[_,_]) (F:=_) (fun _ _ _=>av rfl _) rfl rfl (ak [.tmp 8,.tmp 60] rfl rfl BG rfl (lL (b:=b) (p:=some ⟨b,0,none⟩) (v:=AQ bc) (l:=[]) (s:=s0) (.inr rfl) rfl (by simpa using hs0))) ⟨rfl,rfl,trivial⟩ fun v0=>?_
 refine ao ?_
 refine ae ?_
 show JC _ _ _ _ _
 refine ag ?_
 refine ag ?_
 refine ab ?_
 refine ax rfl rfl ?_
 refine aC rfl (Eh (t:=.str) rfl Tryz.underlying86 xh (by decide) (by omega)) ⟨rfl,rfl,trivial⟩ ?_
 refine aC rfl (jY rfl rfl Tryz.underlying86) ⟨rfl,trivial⟩ ?_
 refine fg rfl ?_
 refine ao ?_
 refine ae ?_
 show JC _ _ _ _ _
 refine aj ?_
 refine aG (Z:=Value) (α:=Int×List Int) (fun _ y=>[(1,.eq (.string sep)),(8,.eq (bP b)),(63,.rep (.slice .str) (ss.drop 1)),(64,.eq (.int .i64 ((ss.drop 1).length:Int))),(65,.eq (.int .i64 y.1))]) (fun v y=>[.obj b 162 (bA (bP b) v),.sl v 5 (.int .u8) y.2]) (lK (ss.drop 1) sep) k v0 ((0:Int),ri s0) (fun _=>rfl) h (SE.fin [0,1] ⟨rfl,rfl,rfl,rfl,rfl,trivial⟩ rfl) (fun n v y h=>?_)
 unfold lK at h
 refine ag ?_
 refine ab ?_
 refine aC rfl (bm rfl) ⟨rfl,rfl,trivial⟩ ?_
 refine ao ?_
 refine ae ?_
 show JC _ _ _ _ _
 refine ag ?_
 refine bL rfl (fun hb=>?_) (fun hb=>?_)
 ·
  replace h:=cp (me hb) h;refine aS ?_;refine ae ?_;show JC _ _ _ _ _;refine ag ?_;refine aj ?_;refine ag ?_;refine ab ?_;obtain⟨s,es,h⟩:=aa h;refine aC rfl (aH (t:=.str) rfl Tryz.underlying86 xh es) ⟨rfl,rfl,trivial⟩ ?_;refine aC rfl (an (t:=.str) rfl xh rfl) ⟨rfl,trivial⟩ ?_;refine de rfl rfl ?_;refine ao ?_;refine ae ?_;show JC _ _ _ _ _
  have hk:bT (y.2.length+sep.size)∧bT ((y.2++ri sep).length+s.size):=by
   apply Classical.byContradiction;intro hn;rw [if_neg hn] at h;cases h
  replace h:=cp hk h;refine vy 1 rfl fun hv=>?_;refine ag ?_;refine ab ?_;refine ax rfl rfl ?_;refine bJ (Δ:=[_,_]) (F:=_) (fun _ _ _=>av rfl _) rfl rfl (ak [.tmp 8,.tmp 69] rfl rfl BG rfl (lL (b:=b) (p:=some ⟨b,0,none⟩) (s:=sep) (.inr rfl) hv hk.1)) ⟨rfl,rfl,trivial⟩ fun v1=>?_;refine ao ?_;refine ae ?_;show JC _ _ _ _ _;refine vy 1 rfl fun hv1=>?_;refine ab ?_;refine ax rfl rfl ?_;refine bJ (Δ:=[_,_]) (F:=_) (fun _ _ _=>av rfl _) rfl rfl (ak [.tmp 8,.tmp 71] rfl rfl BG rfl (lL (b:=b) (p:=some ⟨b,0,none⟩) (s:=s) (.inr rfl) hv1 hk.2)) ⟨rfl,rfl,trivial⟩ fun v2=>?_;refine ao ?_;refine aO ?_;refine ae ?_;show JC _ _ _ _ _;refine ab ?_;obtain⟨z3,ez3,h⟩:=aa h;refine aC rfl (bb rfl ez3) ⟨rfl,rfl,trivial⟩ ?_;refine ax rfl rfl ?_;refine ao ?_;refine ae ?_;exact fX (v2,(z3,(y.2++ri sep)++ri s)) h (SE.fin [0,1] ⟨rfl,rfl,rfl,rfl,rfl,trivial⟩ rfl)
 replace h:=bH (lY hb) h
 refine dh ?_
 refine aI ?_
 refine aI ?_
 refine bO ?_
 refine ae ?_
 show JC _ _ _ _ _
 replace h:(if y.2=[] then none else some (qq y.2):Option ByteArray).bind some=some r:=h
 have hy2:y.2≠[]:=by
  intro hn;rw [if_pos hn] at h;cases h
 rw [if_neg hy2] at h
 obtain rfl:=Option.some.inj h
 refine ag ?_
 refine ab ?_
 refine bJ (Δ:=[_,_]) (F:=_) (fun _ _ _=>av rfl _) rfl rfl (ak [.tmp 8] rfl rfl Im rfl (wc (b:=b) (fun hn=>absurd hn hy2))) ⟨rfl,trivial⟩ fun _=>?_
 refine de rfl rfl ?_
 refine ao ?_
 refine ae ?_
 show JC _ _ _ _ _
 refine aA ?_
 exact aE () [_] 0 ⟨rfl,trivial⟩ rfl
end Go.Proofs.YtcnpijmfgfnpiaaGreatDoor
