import Derived.Test.YtcnpijmfgfnpiaaGreatDoorUB5
import Derived.Test.YtcnpijmfgfnpiaaGreatDoorProg
import Derived.Stop.Asserts
set_option linter.unusedSimpArgs false
set_option linter.unusedVariables false
set_option maxRecDepth 20000
set_option maxHeartbeats 4000000
namespace Go.Proofs.YtcnpijmfgfnpiaaGreatDoor
open K Go Go.Proofs Go.Extern
theorem zX:dx Tryz.prog 159 1 false:=⟨fun w=>by kernel_rfl,fun w=>by kernel_rfl⟩
theorem iR:dx Tryz.prog 160 1 false:=⟨fun w=>by kernel_rfl,fun w=>by kernel_rfl⟩
theorem LJ:aP Tryz.prog 162 0 0:=aP.of (by kernel_rfl)
theorem q8:aP Tryz.prog 162 1 1:=aP.of (by kernel_rfl)
theorem zZ:l7 Tryz.prog 160 5 1 1:=.of (z:=(.int .u8 (0))) Tryz.underlying160 (by kernel_rfl) rfl rfl rfl
theorem LU:fk Tryz.prog 186 Extern.AbiNoEscape.same:=.of Tryz.func186 (by kernel_rfl) (by kernel_rfl) (by kernel_rfl) (by kernel_rfl)
theorem AX:ag Tryz.prog 151:=ag.of Tryz.func151 (by kernel_rfl) (by kernel_rfl)
theorem LW:ag Tryz.prog 152:=ag.of Tryz.func152 (by kernel_rfl) (by kernel_rfl)
@[reducible] def bA(p v:Value):A:=.agg (.pair (.eq p) (.eq v))
abbrev bP(b:Nat):Value:=.pointer (some ⟨b,0,none⟩)
theorem t9{p:Option Addr}:Ns Tryz.prog (binOp .eql 159 (.pointer p) (.pointer none)):=by
 cases p with
 |none=>exact nr (by kernel_rfl)
 |some p=>exact nr (by kernel_rfl)
theorem C7{p:Option Addr}{x y:Operand}(w:World):(do eqGuard .eql 159 x y (.pointer p) (.pointer none);binOp .eql 159 (.pointer p) (.pointer none):Sem Value).run Tryz.prog w= .ok (.bool p.isNone) w:=by
 cases p <;> kernel_rfl
theorem Az{p:Addr}:Ns Tryz.prog (binOp .neq 159 (.pointer (some p)) (.pointer (some p))):=by
 refine ai (s:=Op.equal 159 (.pointer (some p)) (.pointer (some p))) ?_ fun _=>bf;show Ns Tryz.prog (Op.equalIn (9999+1) 159 (.pointer (some p)) (.pointer (some p)));unfold Op.equalIn;refine cF Tryz.underlying159 (ai cH fun n=>sd ?_ (sd bf (ai eY fun _=>bf)));unfold sameAddr;simp only [beq_self_eq_true,if_true];exact bf
theorem Ls:∃j,Tryz.prog.info? 162=some j∧j.size≠0:=by
 obtain⟨j,h1,h2⟩:=Option.map_eq_some_iff.1 (show(Tryz.prog.info? 162).map (·.size)=some 2 by kernel_rfl);exact⟨j,h1,by omega⟩
theorem mY{b:Nat}{p:Option Addr}{v:Value}(hp:p=none∨p=some ⟨b,0,none⟩)(hv:bg v=true):cd Tryz.prog 151 [.eq (bP b)] [.obj b 162 (bA (.pointer p) v)] (fun _:Unit=>(bv [],[.obj b 162 (bA (bP b) v)])):=by
 obtain⟨j162,inf162_eq,inf162_sz⟩:=Ls;refine cd.of 20 Tryz.func151 rfl Tryz.ntmps151 rfl fun S w0=>?_;refine ah ?_;refine aa ?_;refine aw rfl rfl ?_;refine aA rfl (aR rfl) ⟨rfl,trivial⟩ ?_;refine aA rfl (ax rfl LJ) ⟨rfl,trivial⟩ ?_;refine bT rfl rfl rfl (an rfl zX (fun _=>rfl) rfl) ⟨rfl,trivial⟩ ?_;refine aA rfl (g8 rfl C7 t9) ⟨rfl,rfl,trivial⟩ ?_;refine ak ?_;refine ae ?_;show JC _ _ _ _ _;refine bB rfl (fun hb=>?_) (fun hb=>?_)
 ·refine aa ?_;refine aw rfl rfl ?_;refine aw rfl rfl ?_;refine bT rfl rfl rfl (Ao rfl Tryz.underlying159 Tryz.underlying179 inf162_eq inf162_sz rfl) ⟨rfl,trivial⟩ ?_;refine aA rfl (Ft LU [.tmp 9] [bP b] rfl rfl rfl (fun _=>rfl) bf) ⟨rfl,trivial⟩ ?_;refine bT rfl rfl rfl (wK rfl Tryz.underlying179 Tryz.underlying159 inf162_eq (by kernel_rfl)) ⟨rfl,trivial⟩ ?_;refine aA rfl (aR rfl) ⟨rfl,trivial⟩ ?_;refine aA rfl (ax rfl LJ) ⟨rfl,trivial⟩ ?_;refine a8 rfl rfl (aW rfl zX rfl rfl rfl) ⟨rfl,rfl,trivial⟩ ?_;refine ak ?_;refine iq ?_;exact aJ () [] 1 trivial rfl
 ·have hp':p=some ⟨b,0,none⟩:=by
   rcases hp with rfl |rfl
   ·cases hb
   ·rfl
  subst hp';refine ah ?_;refine aa ?_;refine aw rfl rfl ?_;refine aA rfl (aR rfl) ⟨rfl,trivial⟩ ?_;refine aA rfl (ax rfl LJ) ⟨rfl,trivial⟩ ?_;refine bT rfl rfl rfl (an rfl zX (fun _=>rfl) rfl) ⟨rfl,trivial⟩ ?_;refine aw rfl rfl ?_;refine aA rfl (Fe rfl Tryz.underlying159 inf162_eq Az) ⟨rfl,rfl,trivial⟩ ?_;refine ak ?_;refine ae ?_;show JC _ _ _ _ _;refine bB rfl (fun hb=>(by cases hb)) (fun hb=>?_);refine aO ?_;refine iq ?_;exact aJ () [] 1 trivial rfl
theorem uS{v:Value}{l:List Int}{r:Int}(h0:0≤r)(h1:r≤127)(hl:bV (l.length+1)):cd Tryz.prog 152 [.eq v,.eq (.int .i32 r)] [.sl v 5 (.int .u8) l] (fun v':Value=>(bv [.eq v'],[.sl v' 5 (.int .u8) (l++[r])])):=by
 refine cd.of 16 Tryz.func152 rfl Tryz.ntmps152 rfl fun S w0=>?_;have w32:IntKind.u32.wrap r=r:=by simp [IntKind.wrap,IntKind.bits,IntKind.signed];omega
 have w8:IntKind.u8.wrap r=r:=by simp [IntKind.wrap,IntKind.bits,IntKind.signed];omega
 refine ah ?_;refine aa ?_;refine dA rfl ?_;refine ak ?_;refine ae ?_;show JC _ _ _ _ _;refine ah ?_;refine ah ?_;refine aa ?_;refine aw rfl rfl ?_;refine aA rfl (nP rfl Tryz.underlying21 Tryz.underlying201) ⟨rfl,trivial⟩ ?_;rw [w32];refine aA rfl (yp rfl) ⟨rfl,rfl,trivial⟩ ?_;refine ak ?_;refine ae ?_;show JC _ _ _ _ _;refine bB rfl (fun hb=>?_) (fun hb=>absurd h1 (by simpa using hb));refine ah ?_;refine aa ?_;refine aw rfl rfl ?_;refine aw rfl rfl ?_;refine aA rfl (nP rfl Tryz.underlying21 Tryz.underlying5) ⟨rfl,trivial⟩ ?_;rw [w8];refine aA rfl (bu (t:=(.int .u8)) [(.tmp 10,.eq (.int .u8 r))] [r] rfl rfl zZ (.cons rfl .int .nil) rfl rfl) ⟨rfl,trivial⟩ ?_;refine dS rfl rfl rfl (ct rfl rfl zZ (by simpa using hl)) ⟨rfl,rfl,trivial⟩ fun v'=>?_;refine dc rfl rfl ?_;refine ak ?_;refine ae ?_;show JC _ _ _ _ _;refine aB ?_;refine aX ?_;exact aJ v' [_] 1 ⟨rfl,trivial⟩ rfl
theorem wB{b:Nat}{p:Option Addr}{v:Value}{l:List Int}{r:Int}(hp:p=none∨p=some ⟨b,0,none⟩)(hv:bg v=true)(h0:0≤r)(h1:r≤127)(hl:bV (l.length+1)):
 cd Tryz.prog 119 [.eq (bP b),.eq (.int .i32 r)] [.obj b 162 (bA (.pointer p) v),.sl v 5 (.int .u8) l]
  (fun v':Value=>(bv [.eq (.int .i64 1),.eq .nilIface],[.obj b 162 (bA (bP b) v'),.sl v' 5 (.int .u8) (l++[r])])):=by
 refine cd.of 30 Tryz.func119 rfl Tryz.ntmps119 rfl fun S w0=>?_
 refine ah ?_
 refine aa ?_
 refine dA rfl ?_
 refine dA rfl ?_
 refine ak ?_
 refine ae ?_
 show JC _ _ _ _ _
 refine ah ?_
 refine aa ?_
 refine aw rfl rfl ?_
 refine bT rfl rfl rfl (ar [.tmp 7] rfl rfl AX rfl (mY hp hv)) ⟨rfl,trivial⟩ ?_
 refine ak ?_
 refine ae ?_
 show JC _ _ _ _ _
 refine ah ?_
 refine aa ?_
 refine aw rfl rfl ?_
 refine aA rfl (aR rfl) ⟨rfl,trivial⟩ ?_
 refine aA rfl (ax rfl q8) ⟨rfl,trivial⟩ ?_
 refine bT rfl rfl rfl (an rfl iR (fun _=>rfl) rfl) ⟨rfl,trivial⟩ ?_
 refine bq 1 rfl ?_
 refine bT rfl rfl rfl (fH rfl rfl Tryz.underlying160) ⟨rfl,trivial⟩ ?_
 refine dc rfl rfl ?_
 refine ak ?_
 refine ae ?_
 show JC _ _ _ _ _
 refine ah ?_
 refine aa ?_
 refine aw rfl rfl ?_
 refine aw rfl rfl ?_
 refine aA rfl (aR rfl) ⟨rfl,trivial⟩ ?_
 refine aA rfl (ax rfl q8) ⟨rfl,trivial⟩ ?_
 refine bq 1 rfl ?_
 refine bT rfl rfl rfl (an rfl iR (fun _=>rfl) rfl) ⟨rfl,trivial⟩ ?_
 refine aw rfl rfl ?_
 refine bq 1 rfl ?_
 refine dS rfl rfl rfl (ar [.tmp 18,.tmp 19] rfl rfl LW rfl (uS h0 h1 hl)) ⟨rfl,rfl,trivial⟩ fun v'=>?_
 refine fO fun hv'=>?_
 refine aA rfl (aR rfl) ⟨rfl,trivial⟩ ?_
 refine aA rfl (ax rfl q8) ⟨rfl,trivial⟩ ?_
 refine bq 1 rfl ?_
 refine a8 rfl rfl (aW rfl iR hv' rfl rfl) ⟨rfl,rfl,trivial⟩ ?_
 refine ak ?_
 refine ae ?_
 show JC _ _ _ _ _
 refine ah ?_
 refine aa ?_
 refine aw rfl rfl ?_
 refine aA rfl (aR rfl) ⟨rfl,trivial⟩ ?_
 refine aA rfl (ax rfl q8) ⟨rfl,trivial⟩ ?_
 refine bT rfl rfl rfl (an rfl iR (fun _=>rfl) rfl) ⟨rfl,trivial⟩ ?_
 refine bq 1 rfl ?_
 refine bT rfl rfl rfl (fH rfl rfl Tryz.underlying160) ⟨rfl,trivial⟩ ?_
 refine aw rfl rfl ?_
 have hck:ck (((l++[r]).length:Int) - (l.length:Int))=some 1:=by
  have:(((l++[r]).length:Int) - (l.length:Int))=1:=by simp;omega
  rw [this];rfl
 refine aA rfl (gC rfl hck) ⟨rfl,rfl,trivial⟩ ?_
 refine dc rfl rfl ?_
 refine dA rfl ?_
 refine ak ?_
 refine ae ?_
 show JC _ _ _ _ _
 refine aB ?_
 refine bS (SE.fin (Γ':=[(4,_),(5,_)]) [1,0] ⟨rfl,rfl,trivial⟩ rfl) ?_
 exact aJ v' [_,_] 2 ⟨rfl,rfl,trivial⟩ rfl
theorem QX:Tryz.prog.cellsOf 5=1:=by kernel_rfl
theorem pY:Tryz.prog.follows .mixedOrders=true:=by kernel_rfl
theorem vp{b:Nat}{p v:Value}{l:List Int}(hl:l=[]→v= .slice none 0 0):
 cd Tryz.prog 120 [.eq (bP b)] [.obj b 162 (bA p v),.sl v 5 (.int .u8) l] (fun _:Unit=>(bv [.eq (.string (pK l))],[])):=by
 refine cd.of 14 Tryz.func120 rfl Tryz.ntmps120 rfl fun S w0=>?_
 refine ah ?_
 refine aa ?_
 refine dA rfl ?_
 refine ak ?_
 refine ae ?_
 show JC _ _ _ _ _
 refine ah ?_
 refine bZ ?_
 refine di rfl rfl rfl (aZ rfl) ⟨rfl,trivial⟩ ?_
 refine di rfl rfl rfl (aR rfl) ⟨rfl,trivial⟩ ?_
 refine di rfl rfl rfl (ax rfl q8) ⟨rfl,trivial⟩ ?_
 refine ng 0 rfl rfl rfl rfl (an rfl iR (fun _=>rfl) rfl) ⟨rfl,trivial⟩ ?_
 refine ng 1 rfl rfl rfl rfl (yn rfl rfl hl) ⟨rfl,trivial⟩ ?_
 refine di rfl rfl rfl (aZ rfl) ⟨rfl,trivial⟩ ?_
 refine di rfl rfl rfl (aR rfl) ⟨rfl,trivial⟩ ?_
 refine di rfl rfl rfl (ax rfl q8) ⟨rfl,trivial⟩ ?_
 refine ng 0 rfl rfl rfl rfl (an rfl iR (fun _=>rfl) rfl) ⟨rfl,trivial⟩ ?_
 refine ng 1 rfl rfl rfl rfl (fH rfl rfl Tryz.underlying160) ⟨rfl,trivial⟩ ?_
 refine sL (by kernel_rfl) pY ?_
 refine bq 1 rfl ?_
 refine bH (Δ:=[_]) (F:=_) (fun _ _ _=>au rfl _) rfl rfl (t5 rfl rfl Tryz.underlying213 QX hl) ⟨rfl,rfl,trivial⟩ fun _=>?_
 refine dc rfl rfl ?_
 refine ak ?_
 refine ae ?_
 show JC _ _ _ _ _
 refine aB ?_
 exact aJ () [_] 0 ⟨rfl,trivial⟩ rfl
theorem Qe:(Tryz.prog.info? 5).bind (·.zero)=some (.int .u8 0):=by kernel_rfl
theorem kS{b:Nat}{p:Option Addr}{v:Value}{l:List Int}{s:ByteArray}(hp:p=none∨p=some ⟨b,0,none⟩)(hv:bg v=true)(hl:bV (l.length+s.size)):
 cd Tryz.prog 154 [.eq (bP b),.eq (.string s)] [.obj b 162 (bA (.pointer p) v),.sl v 5 (.int .u8) l]
  (fun v':Value=>(bv [.eq (.int .i64 s.size),.eq .nilIface],[.obj b 162 (bA (bP b) v'),.sl v' 5 (.int .u8) (l++qF s)])):=by
 refine cd.of 19 Tryz.func154 rfl Tryz.ntmps154 rfl fun S w0=>?_
 refine ah ?_
 refine aa ?_
 refine dA rfl ?_
 refine dA rfl ?_
 refine ak ?_
 refine ae ?_
 show JC _ _ _ _ _
 refine ah ?_
 refine aa ?_
 refine aw rfl rfl ?_
 refine bT rfl rfl rfl (ar [.tmp 6] rfl rfl AX rfl (mY hp hv)) ⟨rfl,trivial⟩ ?_
 refine ak ?_
 refine ae ?_
 show JC _ _ _ _ _
 refine ah ?_
 refine aa ?_
 refine aw rfl rfl ?_
 refine aw rfl rfl ?_
 refine aA rfl (aR rfl) ⟨rfl,trivial⟩ ?_
 refine aA rfl (ax rfl q8) ⟨rfl,trivial⟩ ?_
 refine bT rfl rfl rfl (an rfl iR (fun _=>rfl) rfl) ⟨rfl,trivial⟩ ?_
 refine aw rfl rfl ?_
 refine bq 1 rfl ?_
 refine dS rfl rfl rfl (yw rfl rfl zZ Tryz.underlying9 Qe (by decide) hl) ⟨rfl,rfl,trivial⟩ fun v'=>?_
 refine fO fun hv'=>?_
 refine aA rfl (aR rfl) ⟨rfl,trivial⟩ ?_
 refine aA rfl (ax rfl q8) ⟨rfl,trivial⟩ ?_
 refine bq 1 rfl ?_
 refine a8 rfl rfl (aW rfl iR hv' rfl rfl) ⟨rfl,rfl,trivial⟩ ?_
 refine ak ?_
 refine ae ?_
 show JC _ _ _ _ _
 refine ah ?_
 refine aa ?_
 refine aw rfl rfl ?_
 refine aA rfl (mA rfl rfl Tryz.underlying9) ⟨rfl,trivial⟩ ?_
 refine dc rfl rfl ?_
 refine dA rfl ?_
 refine ak ?_
 refine ae ?_
 show JC _ _ _ _ _
 refine aB ?_
 exact aJ v' [_,_] 2 ⟨rfl,rfl,trivial⟩ rfl
theorem LR:fk Tryz.prog 207 (Extern.BytealgMakeNoZero.makeNoZero #[3] #[160]):=.of Tryz.func207 (by kernel_rfl) (by kernel_rfl) (by kernel_rfl) (by kernel_rfl)
theorem LS:ag Tryz.prog 188:=ag.of Tryz.func188 (by kernel_rfl) (by kernel_rfl)
def Qg:Value→List D
 | .slice (some ⟨b,0,none⟩) m c=>[.sl (.slice (some ⟨b,0,none⟩) 0 c) 5 (.int .u8) []]
 |_=>[G7]
theorem K0{v:Value}(h:∀d∈Qg v,∃S w,d.holds S w):∃b m c,v= .slice (some ⟨b,0,none⟩) m c:=by
 unfold Qg at h;split at h
 ·exact⟨_,_,_,rfl⟩
 ·obtain⟨S,w,hb⟩:=h G7 (by simp);exact absurd hb zh
theorem NF:dx Tryz.prog 5 1 false:=⟨fun w=>by kernel_rfl,fun w=>by kernel_rfl⟩
theorem EQ{b cap:Nat}:sliced (some ⟨b,0,none⟩) 0 (Int.toNat 0) cap 1= .slice (some ⟨b,0,none⟩) 0 cap:=Bh
abbrev Ab(bc:Nat×Nat):Value:=.slice (some ⟨bc.1,0,none⟩) 0 bc.2
theorem Ii{b n:Nat}{p:Value}(hn:n≤281474976710656):
 cd Tryz.prog 188 [.eq (bP b),.eq (.int .i64 n)] [.obj b 162 (bA p (.slice none 0 0))] (fun bc:Nat×Nat=>(bv [],[.obj b 162 (bA p (Ab bc)),.sl (Ab bc) 5 (.int .u8) []])):=by
 refine cd.of 30 Tryz.func188 rfl Tryz.ntmps188 rfl fun S w0=>?_
 have c1:ck (2 * ((0:Nat):Int))=some 0:=rfl
 have c2:ck (0+(n:Int))=some (n:Int):=by rw [Int.zero_add];unfold ck;rw [if_pos (by omega)]
 refine ah ?_
 refine mL ?_
 refine be rfl rfl rfl (aZ rfl) ⟨rfl,trivial⟩ ?_
 refine be rfl rfl rfl (aR rfl) ⟨rfl,trivial⟩ ?_
 refine be rfl rfl rfl (ax rfl q8) ⟨rfl,trivial⟩ ?_
 refine il 0 rfl rfl rfl rfl (an rfl iR (fun _=>rfl) rfl) ⟨rfl,trivial⟩ ?_
 refine be rfl rfl rfl (Fz rfl rfl Tryz.underlying160) ⟨rfl,trivial⟩ ?_
 refine be rfl rfl rfl (Ks rfl c1) ⟨rfl,rfl,trivial⟩ ?_
 refine be rfl rfl rfl (aZ rfl) ⟨rfl,trivial⟩ ?_
 refine be rfl rfl rfl (bh rfl c2) ⟨rfl,rfl,trivial⟩ ?_
 refine CG Qg (fun _=>rfl) rfl rfl rfl (Fb LR rfl rfl Tryz.underlying160 hn) ⟨rfl,trivial⟩ ?_
 refine be rfl rfl rfl (aZ rfl) ⟨rfl,trivial⟩ ?_
 refine be rfl rfl rfl (aR rfl) ⟨rfl,trivial⟩ ?_
 refine be rfl rfl rfl (ax rfl q8) ⟨rfl,trivial⟩ ?_
 refine il 0 rfl rfl rfl rfl (an rfl iR (fun _=>rfl) rfl) ⟨rfl,trivial⟩ ?_
 refine be rfl rfl rfl (Fj rfl rfl Tryz.underlying160) ⟨rfl,trivial⟩ ?_
 refine sK 14 [true,true,true,true,true,true,true,true,true,true,true,true,true,true] [19,4] [] [] rfl (by kernel_rfl) (by kernel_rfl) (by kernel_rfl) pY (fun vs hv hB=>?_)
 obtain⟨u0,vs1,rfl,hv1⟩:=av hv
 obtain⟨u1,vs2,rfl,hv2⟩:=av hv1
 obtain⟨u2,vs3,rfl,hv3⟩:=av hv2
 obtain⟨u3,vs4,rfl,hv4⟩:=av hv3
 obtain⟨u4,vs5,rfl,hv5⟩:=av hv4
 obtain⟨u5,vs6,rfl,hv6⟩:=av hv5
 obtain⟨u6,vs7,rfl,hv7⟩:=av hv6
 obtain⟨u7,vs8,rfl,hv8⟩:=av hv7
 obtain⟨u8,vs9,rfl,hv9⟩:=av hv8
 obtain⟨u9,vs10,rfl,hv10⟩:=av hv9
 obtain⟨u10,vs11,rfl,hv11⟩:=av hv10
 obtain⟨u11,vs12,rfl,hv12⟩:=av hv11
 obtain⟨u12,vs13,rfl,hv13⟩:=av hv12
 obtain⟨u13,vs14,rfl,hv14⟩:=av hv13
 obtain rfl:=oU hv14
 obtain⟨g,m,q,rfl⟩:=K0 hB.2.2.2.2.2.2.2.2.1
 refine⟨[0,1],[.obj b 162 (bA p (.slice none 0 0)),.sl (Ab (g,q)) 5 (.int .u8) []],by kernel_rfl,by decide,?_⟩
 refine sH rfl rfl rfl rfl (t6 rfl Tryz.underlying160 NF (Int.le_refl 0) (Int.natCast_nonneg _)) ⟨rfl,rfl,trivial⟩ (by kernel_rfl) ?_
 rw [EQ]
 refine sH rfl rfl rfl rfl (jP rfl) ⟨rfl,trivial⟩ (by kernel_rfl) ?_
 refine uI ?_
 refine bS (SE.fin (Γ':=[(0,.eq (bP b)),(4,.eq (Ab (g,q)))]) (Δ':=[.obj b 162 (bA p (.slice none 0 0)),.sl (Ab (g,q)) 5 (.int .u8) []]) [0,1] ⟨rfl,rfl,trivial⟩ rfl) ?_
 refine ae ?_
 show JC _ _ _ _ _
 refine ah ?_
 refine aa ?_
 refine aw rfl rfl ?_
 refine aw rfl rfl ?_
 refine aA rfl (aR rfl) ⟨rfl,trivial⟩ ?_
 refine aA rfl (ax rfl q8) ⟨rfl,trivial⟩ ?_
 refine bT rfl rfl rfl (an rfl iR (fun _=>rfl) rfl) ⟨rfl,trivial⟩ ?_
 refine aA rfl (Iu rfl rfl Tryz.underlying160 NF) ⟨rfl,rfl,trivial⟩ ?_
 refine ak ?_
 refine ae ?_
 show JC _ _ _ _ _
 refine aa ?_
 refine aw rfl rfl ?_
 refine aw rfl rfl ?_
 refine aA rfl (aR rfl) ⟨rfl,trivial⟩ ?_
 refine aA rfl (ax rfl q8) ⟨rfl,trivial⟩ ?_
 refine a8 rfl rfl (aW rfl iR rfl rfl rfl) ⟨rfl,rfl,trivial⟩ ?_
 refine ak ?_
 refine iq ?_
 exact aJ (g,q) [] 2 trivial rfl
end Go.Proofs.YtcnpijmfgfnpiaaGreatDoor
set_option linter.unusedVariables false
set_option maxRecDepth 20000
set_option maxHeartbeats 4000000
namespace Go.Proofs.YtcnpijmfgfnpiaaGreatDoor
open K Go Go.Proofs Go.Extern
theorem EU{b n:Nat}(h0:0 < n)(hn:n≤281474976710656):
 cd Tryz.prog 153 [.eq (bP b),.eq (.int .i64 n)] [.obj b 162 (bA (.pointer none) (.slice none 0 0))] (fun bc:Nat×Nat=>(bv [],[.obj b 162 (bA (bP b) (Ab bc)),.sl (Ab bc) 5 (.int .u8) []])):=by
 refine cd.of 25 Tryz.func153 rfl Tryz.ntmps153 rfl fun S w0=>?_
 have c1:ck (((0:Nat):Int) - ((0:Nat):Int))=some 0:=rfl
 refine ah ?_
 refine aa ?_
 refine aw rfl rfl ?_
 refine bT rfl rfl rfl (ar [.tmp 4] rfl rfl AX rfl (mY (.inl rfl) rfl)) ⟨rfl,trivial⟩ ?_
 refine ak ?_
 refine ae ?_
 show JC _ _ _ _ _
 refine ah ?_
 refine ah ?_
 refine aa ?_
 refine aw rfl rfl ?_
 refine aA rfl (bz rfl) ⟨rfl,rfl,trivial⟩ ?_
 refine ak ?_
 refine ae ?_
 show JC _ _ _ _ _
 refine bB rfl (fun hb=>absurd (of_decide_eq_true hb) (by omega)) (fun hb=>?_)
 refine aO ?_
 refine ae ?_
 show JC _ _ _ _ _
 refine ah ?_
 refine bZ ?_
 refine di rfl rfl rfl (aZ rfl) ⟨rfl,trivial⟩ ?_
 refine di rfl rfl rfl (aR rfl) ⟨rfl,trivial⟩ ?_
 refine di rfl rfl rfl (ax rfl q8) ⟨rfl,trivial⟩ ?_
 refine ng 0 rfl rfl rfl rfl (an rfl iR (fun _=>rfl) rfl) ⟨rfl,trivial⟩ ?_
 refine di rfl rfl rfl (Fz rfl rfl Tryz.underlying160) ⟨rfl,trivial⟩ ?_
 refine di rfl rfl rfl (aZ rfl) ⟨rfl,trivial⟩ ?_
 refine di rfl rfl rfl (aR rfl) ⟨rfl,trivial⟩ ?_
 refine di rfl rfl rfl (ax rfl q8) ⟨rfl,trivial⟩ ?_
 refine ng 0 rfl rfl rfl rfl (an rfl iR (fun _=>rfl) rfl) ⟨rfl,trivial⟩ ?_
 refine di rfl rfl rfl (Fj rfl rfl Tryz.underlying160) ⟨rfl,trivial⟩ ?_
 refine di rfl rfl rfl (gC rfl c1) ⟨rfl,rfl,trivial⟩ ?_
 refine di rfl rfl rfl (aZ rfl) ⟨rfl,trivial⟩ ?_
 refine sL (by kernel_rfl) pY ?_
 refine aA rfl (bz rfl) ⟨rfl,rfl,trivial⟩ ?_
 refine ak ?_
 refine ae ?_
 show JC _ _ _ _ _
 refine bB rfl (fun hb=>?_) (fun hb=>absurd (of_decide_eq_false hb) (by omega))
 refine aa ?_
 refine aw rfl rfl ?_
 refine aw rfl rfl ?_
 refine bH (Δ:=[_]) (F:=_) (fun _ _ _=>au rfl _) rfl rfl (ar [.tmp 22,.tmp 23] rfl rfl LS rfl (Ii hn)) ⟨rfl,rfl,trivial⟩ fun bc=>?_
 refine ak ?_
 refine iq ?_
 exact aJ bc [] 2 trivial rfl
theorem wz:dx Tryz.prog 9 1 false:=⟨fun w=>by kernel_rfl,fun w=>by kernel_rfl⟩
theorem LY:ag Tryz.prog 119:=ag.of Tryz.func119 (by kernel_rfl) (by kernel_rfl)
theorem GX:ag Tryz.prog 120:=ag.of Tryz.func120 (by kernel_rfl) (by kernel_rfl)
theorem LV:ag Tryz.prog 153:=ag.of Tryz.func153 (by kernel_rfl) (by kernel_rfl)
theorem AW:ag Tryz.prog 154:=ag.of Tryz.func154 (by kernel_rfl) (by kernel_rfl)
theorem Eo:∀w,(zeroValue 162).run Tryz.prog w= .ok (.agg #[.pointer none,.slice none 0 0]) w:=fun w=>by kernel_rfl
theorem Hl:∀S w,(A.cells S w (bA (.pointer none) (.slice none 0 0)) (Value.cells (.agg #[.pointer none,.slice none 0 0])).toList):=fun _ _=>⟨[_],_,rfl,⟨rfl,rfl⟩,rfl,rfl⟩
def mX(ss:List ByteArray):Nat→Int×Int→Option Int
 |0,_=>none
 |n+1,y=>if y.1 < (ss.length:Int) then((a9 ss y.1).bind fun s=>(ck ((9223372036854775807:Int) - y.2)).bind fun z=>if z < (s.size:Int) then none else(ck (y.2+(s.size:Int))).bind fun z2=>(ck (y.1+(1:Int))).bind fun z3=>mX ss n (z3,z2)) else some y.2
def kR(ss:List ByteArray)(sep:ByteArray):Nat→Int×List Int→Option (List Int)
 |0,_=>none
 |n+1,y=>if y.1 < (ss.length:Int) then((a9 ss y.1).bind fun s=>if bV (y.2.length+sep.size)∧bV ((y.2++qF sep).length+s.size) then(ck (y.1+(1:Int))).bind fun z3=>kR ss sep n (z3,(y.2++qF sep)++qF s) else none) else some y.2
def tf(k:Nat)(ss:List ByteArray)(sep:ByteArray):Option ByteArray:=
 if sep.size=1∧bV ss.length then
  if(ss.length:Int)=(0:Int) then some .empty
  else if(ss.length:Int)=(1:Int) then a9 ss 0
  else(mX ss k ((0:Int),(ss.length:Int) - 1)).bind fun n=>
   if 0 < n∧n≤281474976710656 then(a9 ss 0).bind fun s=>if bV s.size then(kR (ss.drop 1) sep k ((0:Int),qF s)).bind fun l=>if l=[] then none else some (pK l) else none else none
 else none
theorem Aa(k:Nat)(ss:List ByteArray)(sep:ByteArray)(r:ByteArray)(h:tf k ss sep=some r):
 cd Tryz.prog 121 [.rep (.slice .str) ss,.eq (.string sep)] [] (fun _:Unit=>(bv [.eq (.string r)],[])):=by
 unfold tf at h
 split at h
 case isFalse=>cases h
 rename_i hc
 obtain⟨hsep,hlen⟩:=hc
 unfold bV at hlen
 replace h:=ba h
 refine cd.of 75 Tryz.func121 rfl Tryz.ntmps121 rfl fun S w0=>?_
 refine ah ?_
 refine aa ?_
 refine dA rfl ?_
 refine ak ?_
 refine ae ?_
 show JC _ _ _ _ _
 refine ah ?_
 refine ah ?_
 refine aa ?_
 refine aw rfl rfl ?_
 refine aA rfl (jg rfl rfl Tryz.underlying86) ⟨rfl,trivial⟩ ?_
 refine ak ?_
 refine ae ?_
 show JC _ _ _ _ _
 refine aj ?_
 refine ah ?_
 refine aa ?_
 refine aA rfl (de rfl) ⟨rfl,rfl,trivial⟩ ?_
 refine dc rfl rfl ?_
 refine ak ?_
 refine ae ?_
 show JC _ _ _ _ _
 refine bB rfl (fun hb=>?_) (fun hb=>?_)
 ·
  replace h:=cm (l5 hb) h;refine ah ?_;refine aa ?_;refine dA rfl ?_;refine ak ?_;refine ae ?_;show JC _ _ _ _ _;refine aB ?_;refine bM ?_;refine aX ?_;obtain rfl:=Option.some.inj h;exact aJ () [_] 0 ⟨rfl,trivial⟩ rfl
 replace h:=bD (lu hb) h
 have hne0:=lu hb
 refine ah ?_
 refine aa ?_
 refine aA rfl (de rfl) ⟨rfl,rfl,trivial⟩ ?_
 refine dc rfl rfl ?_
 refine ak ?_
 refine ae ?_
 show JC _ _ _ _ _
 refine bB rfl (fun hb=>?_) (fun hb=>?_)
 ·
  replace h:=cm (l5 hb) h;have es:a9 ss 0=some r:=by simpa using h
  refine ah ?_;refine aa ?_;refine aw rfl rfl ?_;refine aA rfl (aL (t:=.str) rfl Tryz.underlying86 wz es) ⟨rfl,rfl,trivial⟩ ?_;refine aA rfl (ao (t:=.str) rfl wz rfl) ⟨rfl,trivial⟩ ?_;refine dc rfl rfl ?_;refine ak ?_;refine ae ?_;show JC _ _ _ _ _;refine aB ?_;refine bM ?_;refine aX ?_;exact aJ () [_] 0 ⟨rfl,trivial⟩ rfl
 replace h:=bD (lu hb) h
 have hne1:=lu hb
 refine aO ?_
 refine aG ?_
 refine ae ?_
 show JC _ _ _ _ _
 refine ah ?_
 refine aa ?_
 refine dA rfl ?_
 refine ak ?_
 refine ae ?_
 show JC _ _ _ _ _
 refine ah ?_
 refine ah ?_
 refine aa ?_
 refine aw rfl rfl ?_
 refine aA rfl (mA rfl rfl Tryz.underlying9) ⟨rfl,trivial⟩ ?_
 refine aA rfl (mC rfl) ⟨rfl,rfl,trivial⟩ ?_
 refine ak ?_
 refine ae ?_
 show JC _ _ _ _ _
 have c1:ck ((ss.length:Int) - 1)=some ((ss.length:Int) - 1):=by unfold ck;rw [if_pos (by omega)]
 have c2:ck ((sep.size:Int) * ((ss.length:Int) - 1))=some ((ss.length:Int) - 1):=by rw [hsep];simpa using c1
 have c3:ck (0+((ss.length:Int) - 1))=some ((ss.length:Int) - 1):=by rw [Int.zero_add];exact c1
 refine bB rfl (fun hb=>?_) (fun hb=>absurd (lu hb) (by omega))
 refine ah ?_
 refine ah ?_
 refine aa ?_
 refine aw rfl rfl ?_
 refine aA rfl (mA rfl rfl Tryz.underlying9) ⟨rfl,trivial⟩ ?_
 refine aw rfl rfl ?_
 refine aA rfl (jg rfl rfl Tryz.underlying86) ⟨rfl,trivial⟩ ?_
 refine aA rfl (gC rfl c1) ⟨rfl,rfl,trivial⟩ ?_
 refine aA rfl (NQ rfl (by omega)) ⟨rfl,rfl,trivial⟩ ?_
 refine aA rfl (pA rfl) ⟨rfl,rfl,trivial⟩ ?_
 refine ak ?_
 refine ae ?_
 show JC _ _ _ _ _
 refine bB rfl (fun hb=>?_) (fun hb=>?_)
 ·
  exfalso;have h1:=l5 hb;have q1:(9223372036854775807:Int).tdiv ((ss.length:Int) - 1)=9223372036854775807 / ((ss.length:Int) - 1):=Int.tdiv_eq_ediv_of_nonneg (by omega);have q2:(2:Int)≤9223372036854775807 / ((ss.length:Int) - 1):=Int.le_ediv_of_mul_le (by omega) (by omega);have q3:(9223372036854775807:Int) / ((ss.length:Int) - 1)≤9223372036854775807:=Int.ediv_le_self _ (by omega);rw [q1,rj (z:=9223372036854775807 / ((ss.length:Int) - 1)) (by unfold ck;rw [if_pos (by omega)])] at h1;omega
 refine aO ?_
 refine ae ?_
 show JC _ _ _ _ _
 refine aa ?_
 refine aw rfl rfl ?_
 refine aw rfl rfl ?_
 refine aA rfl (mA rfl rfl Tryz.underlying9) ⟨rfl,trivial⟩ ?_
 refine aw rfl rfl ?_
 refine aA rfl (jg rfl rfl Tryz.underlying86) ⟨rfl,trivial⟩ ?_
 refine aA rfl (gC rfl c1) ⟨rfl,rfl,trivial⟩ ?_
 refine aA rfl (Ks rfl c2) ⟨rfl,rfl,trivial⟩ ?_
 refine aA rfl (bh rfl c3) ⟨rfl,rfl,trivial⟩ ?_
 refine dc rfl rfl ?_
 refine ak ?_
 refine ae ?_
 show JC _ _ _ _ _
 rw [Option.bind_assoc] at h
 refine ah ?_
 refine ah ?_
 refine aa ?_
 refine aw rfl rfl ?_
 refine aA rfl (jg rfl rfl Tryz.underlying86) ⟨rfl,trivial⟩ ?_
 refine eB rfl ?_
 refine ak ?_
 refine ae ?_
 show JC _ _ _ _ _
 refine aj ?_
 refine aH (Z:=Unit) (α:=Int×Int) (fun _ y=>[(0,.rep (.slice .str) ss),(1,.eq (.string sep)),(5,.eq (.int .i64 y.2)),(39,.rep (.slice .str) ss),(40,.eq (.int .i64 (ss.length:Int))),(41,.eq (.int .i64 y.1))]) (fun _ _=>[]) (mX ss) k () ((0:Int),(ss.length:Int) - 1) (fun _=>rfl) h (SE.fin [] ⟨rfl,rfl,rfl,rfl,rfl,rfl,trivial⟩ rfl) (fun n z y h=>?_)
 unfold mX at h
 refine ah ?_
 refine aa ?_
 refine aA rfl (bz rfl) ⟨rfl,rfl,trivial⟩ ?_
 refine ak ?_
 refine ae ?_
 show JC _ _ _ _ _
 refine ah ?_
 refine bB rfl (fun hb=>?_) (fun hb=>?_)
 ·
  replace h:=cm (l5 hb) h;refine aO ?_;refine ae ?_;show JC _ _ _ _ _;refine ah ?_;refine aj ?_;refine ah ?_;refine aa ?_;obtain⟨s,es,h⟩:=ab h;refine aA rfl (aL (t:=.str) rfl Tryz.underlying86 wz es) ⟨rfl,rfl,trivial⟩ ?_;refine aA rfl (ao (t:=.str) rfl wz rfl) ⟨rfl,trivial⟩ ?_;refine dc rfl rfl ?_;refine ak ?_;refine ae ?_;show JC _ _ _ _ _;refine ah ?_;refine ah ?_;refine aa ?_;refine aw rfl rfl ?_;refine aA rfl (mA rfl rfl Tryz.underlying9) ⟨rfl,trivial⟩ ?_;refine aw rfl rfl ?_;obtain⟨z,ez,h⟩:=ab h;refine aA rfl (gC rfl ez) ⟨rfl,rfl,trivial⟩ ?_;refine aA rfl (mC rfl) ⟨rfl,rfl,trivial⟩ ?_;refine ak ?_;refine ae ?_;show JC _ _ _ _ _;refine bB rfl (fun hb=>?_) (fun hb=>?_)
  ·replace h:=cm (l5 hb) h;cases h
  replace h:=bD (lu hb) h;refine aO ?_;refine ae ?_;show JC _ _ _ _ _;refine aa ?_;refine aw rfl rfl ?_;refine aw rfl rfl ?_;refine aA rfl (mA rfl rfl Tryz.underlying9) ⟨rfl,trivial⟩ ?_;obtain⟨z2,ez2,h⟩:=ab h;refine aA rfl (bh rfl ez2) ⟨rfl,rfl,trivial⟩ ?_;refine dc rfl rfl ?_;refine ak ?_;refine aG ?_;refine ae ?_;show JC _ _ _ _ _;refine aa ?_;obtain⟨z3,ez3,h⟩:=ab h;refine aA rfl (bh rfl ez3) ⟨rfl,rfl,trivial⟩ ?_;refine aw rfl rfl ?_;refine ak ?_;refine ae ?_;exact gP ((),(z3,z2)) h (SE.fin [] ⟨rfl,rfl,rfl,rfl,rfl,rfl,trivial⟩ rfl)
 replace h:=bD (lu hb) h
 refine dD ?_
 refine aN ?_
 refine aN ?_
 refine bU ?_
 refine ae ?_
 show JC _ _ _ _ _
 replace h:((if 0 < y.2∧y.2≤281474976710656 then(a9 ss 0).bind fun s=>if bV s.size then(kR (ss.drop 1) sep k ((0:Int),qF s)).bind fun l=>if l=[] then none else some (pK l) else none else none):Option ByteArray).bind some=some r:=h
 obtain⟨y1,y2⟩:=y
 have hy:0 < y2∧y2≤281474976710656:=by
  apply Classical.byContradiction;intro hn;rw [if_neg hn] at h;cases h
 replace h:=cm hy h
 obtain⟨m,rfl⟩:=Int.eq_ofNat_of_zero_le (show 0≤y2 by omega)
 obtain⟨s0,es0,h⟩:=ab h
 have hs0:bV s0.size:=by
  apply Classical.byContradiction;intro hn;rw [if_neg hn] at h;cases h
 replace h:=cm hs0 h
 rw [Option.bind_assoc] at h
 refine ah ?_
 refine aa ?_
 refine aD rfl rfl rfl (bF rfl Eo Hl) trivial fun b=>?_
 refine ak ?_
 refine ae ?_
 show JC _ _ _ _ _
 refine ah ?_
 refine aa ?_
 refine aw rfl rfl ?_
 refine bH (Δ:=[_]) (F:=_) (fun _ _ _=>au rfl _) rfl rfl (ar [.tmp 8,.tmp 56] rfl rfl LV rfl (EU (b:=b) (n:=m) (by omega) (by omega))) ⟨rfl,rfl,trivial⟩ fun bc=>?_
 refine ak ?_
 refine ae ?_
 show JC _ _ _ _ _
 refine ah ?_
 refine aa ?_
 refine aw rfl rfl ?_
 refine aA rfl (aL (t:=.str) rfl Tryz.underlying86 wz es0) ⟨rfl,rfl,trivial⟩ ?_
 refine aA rfl (ao (t:=.str) rfl wz rfl) ⟨rfl,trivial⟩ ?_
 refine bH (Δ:=[_,_]) (F:=_) (fun _ _ _=>au rfl _) rfl rfl (ar [.tmp 8,.tmp 60] rfl rfl AW rfl (kS (b:=b) (p:=some ⟨b,0,none⟩) (v:=Ab bc) (l:=[]) (s:=s0) (.inr rfl) rfl (by simpa using hs0))) ⟨rfl,rfl,trivial⟩ fun v0=>?_
 refine ak ?_
 refine ae ?_
 show JC _ _ _ _ _
 refine ah ?_
 refine ah ?_
 refine aa ?_
 refine aw rfl rfl ?_
 refine aA rfl (Dj (t:=.str) rfl Tryz.underlying86 wz (by decide) (by omega)) ⟨rfl,rfl,trivial⟩ ?_
 refine aA rfl (jg rfl rfl Tryz.underlying86) ⟨rfl,trivial⟩ ?_
 refine eB rfl ?_
 refine ak ?_
 refine ae ?_
 show JC _ _ _ _ _
 refine aj ?_
 refine aH (Z:=Value) (α:=Int×List Int) (fun _ y=>[(1,.eq (.string sep)),(8,.eq (bP b)),(63,.rep (.slice .str) (ss.drop 1)),(64,.eq (.int .i64 ((ss.drop 1).length:Int))),(65,.eq (.int .i64 y.1))]) (fun v y=>[.obj b 162 (bA (bP b) v),.sl v 5 (.int .u8) y.2]) (kR (ss.drop 1) sep) k v0 ((0:Int),qF s0) (fun _=>rfl) h (SE.fin [0,1] ⟨rfl,rfl,rfl,rfl,rfl,trivial⟩ rfl) (fun n v y h=>?_)
 unfold kR at h
 refine ah ?_
 refine aa ?_
 refine aA rfl (bz rfl) ⟨rfl,rfl,trivial⟩ ?_
 refine ak ?_
 refine ae ?_
 show JC _ _ _ _ _
 refine ah ?_
 refine bB rfl (fun hb=>?_) (fun hb=>?_)
 ·
  replace h:=cm (l5 hb) h;refine aO ?_;refine ae ?_;show JC _ _ _ _ _;refine ah ?_;refine aj ?_;refine ah ?_;refine aa ?_;obtain⟨s,es,h⟩:=ab h;refine aA rfl (aL (t:=.str) rfl Tryz.underlying86 wz es) ⟨rfl,rfl,trivial⟩ ?_;refine aA rfl (ao (t:=.str) rfl wz rfl) ⟨rfl,trivial⟩ ?_;refine dc rfl rfl ?_;refine ak ?_;refine ae ?_;show JC _ _ _ _ _
  have hk:bV (y.2.length+sep.size)∧bV ((y.2++qF sep).length+s.size):=by
   apply Classical.byContradiction;intro hn;rw [if_neg hn] at h;cases h
  replace h:=cm hk h;refine uK 1 rfl fun hv=>?_;refine ah ?_;refine aa ?_;refine aw rfl rfl ?_;refine bH (Δ:=[_,_]) (F:=_) (fun _ _ _=>au rfl _) rfl rfl (ar [.tmp 8,.tmp 69] rfl rfl AW rfl (kS (b:=b) (p:=some ⟨b,0,none⟩) (s:=sep) (.inr rfl) hv hk.1)) ⟨rfl,rfl,trivial⟩ fun v1=>?_;refine ak ?_;refine ae ?_;show JC _ _ _ _ _;refine uK 1 rfl fun hv1=>?_;refine aa ?_;refine aw rfl rfl ?_;refine bH (Δ:=[_,_]) (F:=_) (fun _ _ _=>au rfl _) rfl rfl (ar [.tmp 8,.tmp 71] rfl rfl AW rfl (kS (b:=b) (p:=some ⟨b,0,none⟩) (s:=s) (.inr rfl) hv1 hk.2)) ⟨rfl,rfl,trivial⟩ fun v2=>?_;refine ak ?_;refine aG ?_;refine ae ?_;show JC _ _ _ _ _;refine aa ?_;obtain⟨z3,ez3,h⟩:=ab h;refine aA rfl (bh rfl ez3) ⟨rfl,rfl,trivial⟩ ?_;refine aw rfl rfl ?_;refine ak ?_;refine ae ?_;exact gP (v2,(z3,(y.2++qF sep)++qF s)) h (SE.fin [0,1] ⟨rfl,rfl,rfl,rfl,rfl,trivial⟩ rfl)
 replace h:=bD (lu hb) h
 refine dD ?_
 refine aN ?_
 refine aN ?_
 refine bU ?_
 refine ae ?_
 show JC _ _ _ _ _
 replace h:(if y.2=[] then none else some (pK y.2):Option ByteArray).bind some=some r:=h
 have hy2:y.2≠[]:=by
  intro hn;rw [if_pos hn] at h;cases h
 rw [if_neg hy2] at h
 obtain rfl:=Option.some.inj h
 refine ah ?_
 refine aa ?_
 refine bH (Δ:=[_,_]) (F:=_) (fun _ _ _=>au rfl _) rfl rfl (ar [.tmp 8] rfl rfl GX rfl (vp (b:=b) (fun hn=>absurd hn hy2))) ⟨rfl,trivial⟩ fun _=>?_
 refine dc rfl rfl ?_
 refine ak ?_
 refine ae ?_
 show JC _ _ _ _ _
 refine aB ?_
 exact aJ () [_] 0 ⟨rfl,trivial⟩ rfl
end Go.Proofs.YtcnpijmfgfnpiaaGreatDoor
