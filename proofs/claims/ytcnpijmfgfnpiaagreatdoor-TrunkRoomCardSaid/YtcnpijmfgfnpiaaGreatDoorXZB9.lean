import Derived.Test.YtcnpijmfgfnpiaaGreatDoorXZB5
import Derived.Test.YtcnpijmfgfnpiaaGreatDoorProg
import Derived.Stop.Asserts
set_option linter.unusedSimpArgs false
set_option linter.unusedVariables false
set_option maxRecDepth 20000
set_option maxHeartbeats 4000000
namespace Go.Proofs.YtcnpijmfgfnpiaaGreatDoor
open K Go Go.Proofs Go.Extern
theorem Ah:dp Tryz.prog 159 1 false:=⟨fun w=>by kernel_rfl,fun w=>by kernel_rfl⟩
theorem jd:dp Tryz.prog 160 1 false:=⟨fun w=>by kernel_rfl,fun w=>by kernel_rfl⟩
theorem LQ:aN Tryz.prog 162 0 0:=aN.of (by kernel_rfl)
theorem q9:aN Tryz.prog 162 1 1:=aN.of (by kernel_rfl)
theorem Aj:lu Tryz.prog 160 5 1 1:=.of (z:=(.int .u8 (0))) Tryz.underlying160 (by kernel_rfl) rfl rfl rfl
theorem L1:fm Tryz.prog 186 Extern.AbiNoEscape.same:=.of Tryz.func186 (by kernel_rfl) (by kernel_rfl) (by kernel_rfl) (by kernel_rfl)
theorem Ba:ag Tryz.prog 151:=ag.of Tryz.func151 (by kernel_rfl) (by kernel_rfl)
theorem L6:ag Tryz.prog 152:=ag.of Tryz.func152 (by kernel_rfl) (by kernel_rfl)
@[reducible] def bA(p v:Value):A:=.agg (.pair (.eq p) (.eq v))
abbrev bP(b:Nat):Value:=.pointer (some ⟨b,0,none⟩)
theorem uj{p:Option Addr}:Ns Tryz.prog (binOp .eql 159 (.pointer p) (.pointer none)):=by
 cases p with
 |none=>exact nr (by kernel_rfl)
 |some p=>exact nr (by kernel_rfl)
theorem Dk{p:Option Addr}{x y:Operand}(w:World):(do eqGuard .eql 159 x y (.pointer p) (.pointer none);binOp .eql 159 (.pointer p) (.pointer none):Sem Value).run Tryz.prog w= .ok (.bool p.isNone) w:=by
 cases p <;> kernel_rfl
theorem AP{p:Addr}:Ns Tryz.prog (binOp .neq 159 (.pointer (some p)) (.pointer (some p))):=by
 refine ai (s:=Op.equal 159 (.pointer (some p)) (.pointer (some p))) ?_ fun _=>a9;show Ns Tryz.prog (Op.equalIn (9999+1) 159 (.pointer (some p)) (.pointer (some p)));unfold Op.equalIn;refine cD Tryz.underlying159 (ai cH fun n=>sc ?_ (sc a9 (ai eX fun _=>a9)));unfold sameAddr;simp only [beq_self_eq_true,if_true];exact a9
theorem LD:∃j,Tryz.prog.info? 162=some j∧j.size≠0:=by
 obtain⟨j,h1,h2⟩:=Option.map_eq_some_iff.1 (show(Tryz.prog.info? 162).map (·.size)=some 2 by kernel_rfl);exact⟨j,h1,by omega⟩
theorem mV{b:Nat}{p:Option Addr}{v:Value}(hp:p=none∨p=some ⟨b,0,none⟩)(hv:aZ v=true):co Tryz.prog 151 [.eq (bP b)] [.obj b 162 (bA (.pointer p) v)] (fun _:Unit=>(bz [],[.obj b 162 (bA (bP b) v)])):=by
 obtain⟨j162,inf162_eq,inf162_sz⟩:=LD;refine co.of 20 Tryz.func151 rfl Tryz.ntmps151 rfl fun S w0=>?_;refine ah ?_;refine aa ?_;refine ax rfl rfl ?_;refine ay rfl (aQ rfl) ⟨rfl,trivial⟩ ?_;refine ay rfl (av rfl LQ) ⟨rfl,trivial⟩ ?_;refine bI rfl rfl rfl (aj rfl Ah (fun _=>rfl) rfl) ⟨rfl,trivial⟩ ?_;refine ay rfl (hQ rfl Dk uj) ⟨rfl,rfl,trivial⟩ ?_;refine ak ?_;refine ae ?_;show JC _ _ _ _ _;refine bm rfl (fun hb=>?_) (fun hb=>?_)
 ·refine aa ?_;refine ax rfl rfl ?_;refine ax rfl rfl ?_;refine bI rfl rfl rfl (AC rfl Tryz.underlying159 Tryz.underlying179 inf162_eq inf162_sz rfl) ⟨rfl,trivial⟩ ?_;refine ay rfl (FO L1 [.tmp 9] [bP b] rfl rfl rfl (fun _=>rfl) a9) ⟨rfl,trivial⟩ ?_;refine bI rfl rfl rfl (wY rfl Tryz.underlying179 Tryz.underlying159 inf162_eq (by kernel_rfl)) ⟨rfl,trivial⟩ ?_;refine ay rfl (aQ rfl) ⟨rfl,trivial⟩ ?_;refine ay rfl (av rfl LQ) ⟨rfl,trivial⟩ ?_;refine aX rfl rfl (aP rfl Ah rfl rfl rfl) ⟨rfl,rfl,trivial⟩ ?_;refine ak ?_;refine iC ?_;exact aK () [] 1 trivial rfl
 ·have hp':p=some ⟨b,0,none⟩:=by
   rcases hp with rfl |rfl
   ·cases hb
   ·rfl
  subst hp';refine ah ?_;refine aa ?_;refine ax rfl rfl ?_;refine ay rfl (aQ rfl) ⟨rfl,trivial⟩ ?_;refine ay rfl (av rfl LQ) ⟨rfl,trivial⟩ ?_;refine bI rfl rfl rfl (aj rfl Ah (fun _=>rfl) rfl) ⟨rfl,trivial⟩ ?_;refine ax rfl rfl ?_;refine ay rfl (FD rfl Tryz.underlying159 inf162_eq AP) ⟨rfl,rfl,trivial⟩ ?_;refine ak ?_;refine ae ?_;show JC _ _ _ _ _;refine bm rfl (fun hb=>(by cases hb)) (fun hb=>?_);refine aV ?_;refine iC ?_;exact aK () [] 1 trivial rfl
theorem vd{v:Value}{l:List Int}{r:Int}(h0:0≤r)(h1:r≤127)(hl:bR (l.length+1)):co Tryz.prog 152 [.eq v,.eq (.int .i32 r)] [.sl v 5 (.int .u8) l] (fun v':Value=>(bz [.eq v'],[.sl v' 5 (.int .u8) (l++[r])])):=by
 refine co.of 16 Tryz.func152 rfl Tryz.ntmps152 rfl fun S w0=>?_;have w32:IntKind.u32.wrap r=r:=by simp [IntKind.wrap,IntKind.bits,IntKind.signed];omega
 have w8:IntKind.u8.wrap r=r:=by simp [IntKind.wrap,IntKind.bits,IntKind.signed];omega
 refine ah ?_;refine aa ?_;refine dx rfl ?_;refine ak ?_;refine ae ?_;show JC _ _ _ _ _;refine ah ?_;refine ah ?_;refine aa ?_;refine ax rfl rfl ?_;refine ay rfl (nQ rfl Tryz.underlying21 Tryz.underlying201) ⟨rfl,trivial⟩ ?_;rw [w32];refine ay rfl (yL rfl) ⟨rfl,rfl,trivial⟩ ?_;refine ak ?_;refine ae ?_;show JC _ _ _ _ _;refine bm rfl (fun hb=>?_) (fun hb=>absurd h1 (by simpa using hb));refine ah ?_;refine aa ?_;refine ax rfl rfl ?_;refine ax rfl rfl ?_;refine ay rfl (nQ rfl Tryz.underlying21 Tryz.underlying5) ⟨rfl,trivial⟩ ?_;rw [w8];refine ay rfl (bq (t:=(.int .u8)) [(.tmp 10,.eq (.int .u8 r))] [r] rfl rfl Aj (.cons rfl .int .nil) rfl rfl) ⟨rfl,trivial⟩ ?_;refine dG rfl rfl rfl (cC rfl rfl Aj (by simpa using hl)) ⟨rfl,rfl,trivial⟩ fun v'=>?_;refine c9 rfl rfl ?_;refine ak ?_;refine ae ?_;show JC _ _ _ _ _;refine aC ?_;refine ba ?_;exact aK v' [_] 1 ⟨rfl,trivial⟩ rfl
theorem wQ{b:Nat}{p:Option Addr}{v:Value}{l:List Int}{r:Int}(hp:p=none∨p=some ⟨b,0,none⟩)(hv:aZ v=true)(h0:0≤r)(h1:r≤127)(hl:bR (l.length+1)):
 co Tryz.prog 119 [.eq (bP b),.eq (.int .i32 r)] [.obj b 162 (bA (.pointer p) v),.sl v 5 (.int .u8) l]
  (fun v':Value=>(bz [.eq (.int .i64 1),.eq .nilIface],[.obj b 162 (bA (bP b) v'),.sl v' 5 (.int .u8) (l++[r])])):=by
 refine co.of 30 Tryz.func119 rfl Tryz.ntmps119 rfl fun S w0=>?_
 refine ah ?_
 refine aa ?_
 refine dx rfl ?_
 refine dx rfl ?_
 refine ak ?_
 refine ae ?_
 show JC _ _ _ _ _
 refine ah ?_
 refine aa ?_
 refine ax rfl rfl ?_
 refine bI rfl rfl rfl (an [.tmp 7] rfl rfl Ba rfl (mV hp hv)) ⟨rfl,trivial⟩ ?_
 refine ak ?_
 refine ae ?_
 show JC _ _ _ _ _
 refine ah ?_
 refine aa ?_
 refine ax rfl rfl ?_
 refine ay rfl (aQ rfl) ⟨rfl,trivial⟩ ?_
 refine ay rfl (av rfl q9) ⟨rfl,trivial⟩ ?_
 refine bI rfl rfl rfl (aj rfl jd (fun _=>rfl) rfl) ⟨rfl,trivial⟩ ?_
 refine bg 1 rfl ?_
 refine bI rfl rfl rfl (eV rfl rfl Tryz.underlying160) ⟨rfl,trivial⟩ ?_
 refine c9 rfl rfl ?_
 refine ak ?_
 refine ae ?_
 show JC _ _ _ _ _
 refine ah ?_
 refine aa ?_
 refine ax rfl rfl ?_
 refine ax rfl rfl ?_
 refine ay rfl (aQ rfl) ⟨rfl,trivial⟩ ?_
 refine ay rfl (av rfl q9) ⟨rfl,trivial⟩ ?_
 refine bg 1 rfl ?_
 refine bI rfl rfl rfl (aj rfl jd (fun _=>rfl) rfl) ⟨rfl,trivial⟩ ?_
 refine ax rfl rfl ?_
 refine bg 1 rfl ?_
 refine dG rfl rfl rfl (an [.tmp 18,.tmp 19] rfl rfl L6 rfl (vd h0 h1 hl)) ⟨rfl,rfl,trivial⟩ fun v'=>?_
 refine fQ fun hv'=>?_
 refine ay rfl (aQ rfl) ⟨rfl,trivial⟩ ?_
 refine ay rfl (av rfl q9) ⟨rfl,trivial⟩ ?_
 refine bg 1 rfl ?_
 refine aX rfl rfl (aP rfl jd hv' rfl rfl) ⟨rfl,rfl,trivial⟩ ?_
 refine ak ?_
 refine ae ?_
 show JC _ _ _ _ _
 refine ah ?_
 refine aa ?_
 refine ax rfl rfl ?_
 refine ay rfl (aQ rfl) ⟨rfl,trivial⟩ ?_
 refine ay rfl (av rfl q9) ⟨rfl,trivial⟩ ?_
 refine bI rfl rfl rfl (aj rfl jd (fun _=>rfl) rfl) ⟨rfl,trivial⟩ ?_
 refine bg 1 rfl ?_
 refine bI rfl rfl rfl (eV rfl rfl Tryz.underlying160) ⟨rfl,trivial⟩ ?_
 refine ax rfl rfl ?_
 have hck:ck (((l++[r]).length:Int) - (l.length:Int))=some 1:=by
  have:(((l++[r]).length:Int) - (l.length:Int))=1:=by simp;omega
  rw [this];rfl
 refine ay rfl (fH rfl hck) ⟨rfl,rfl,trivial⟩ ?_
 refine c9 rfl rfl ?_
 refine dx rfl ?_
 refine ak ?_
 refine ae ?_
 show JC _ _ _ _ _
 refine aC ?_
 refine bN (SE.fin (Γ':=[(4,_),(5,_)]) [1,0] ⟨rfl,rfl,trivial⟩ rfl) ?_
 exact aK v' [_,_] 2 ⟨rfl,rfl,trivial⟩ rfl
theorem Q5:Tryz.prog.cellsOf 5=1:=by kernel_rfl
theorem qi:Tryz.prog.follows .mixedOrders=true:=by kernel_rfl
theorem vH{b:Nat}{p v:Value}{l:List Int}(hl:l=[]→v= .slice none 0 0):
 co Tryz.prog 120 [.eq (bP b)] [.obj b 162 (bA p v),.sl v 5 (.int .u8) l] (fun _:Unit=>(bz [.eq (.string (pP l))],[])):=by
 refine co.of 14 Tryz.func120 rfl Tryz.ntmps120 rfl fun S w0=>?_
 refine ah ?_
 refine aa ?_
 refine dx rfl ?_
 refine ak ?_
 refine ae ?_
 show JC _ _ _ _ _
 refine ah ?_
 refine cm ?_
 refine dh rfl rfl rfl (bU rfl) ⟨rfl,trivial⟩ ?_
 refine dh rfl rfl rfl (aQ rfl) ⟨rfl,trivial⟩ ?_
 refine dh rfl rfl rfl (av rfl q9) ⟨rfl,trivial⟩ ?_
 refine ni 0 rfl rfl rfl rfl (aj rfl jd (fun _=>rfl) rfl) ⟨rfl,trivial⟩ ?_
 refine ni 1 rfl rfl rfl rfl (yJ rfl rfl hl) ⟨rfl,trivial⟩ ?_
 refine dh rfl rfl rfl (bU rfl) ⟨rfl,trivial⟩ ?_
 refine dh rfl rfl rfl (aQ rfl) ⟨rfl,trivial⟩ ?_
 refine dh rfl rfl rfl (av rfl q9) ⟨rfl,trivial⟩ ?_
 refine ni 0 rfl rfl rfl rfl (aj rfl jd (fun _=>rfl) rfl) ⟨rfl,trivial⟩ ?_
 refine ni 1 rfl rfl rfl rfl (eV rfl rfl Tryz.underlying160) ⟨rfl,trivial⟩ ?_
 refine sP (by kernel_rfl) qi ?_
 refine bg 1 rfl ?_
 refine bG (Δ:=[_]) (F:=_) (fun _ _ _=>au rfl _) rfl rfl (ud rfl rfl Tryz.underlying213 Q5 hl) ⟨rfl,rfl,trivial⟩ fun _=>?_
 refine c9 rfl rfl ?_
 refine ak ?_
 refine ae ?_
 show JC _ _ _ _ _
 refine aC ?_
 exact aK () [_] 0 ⟨rfl,trivial⟩ rfl
theorem Qq:(Tryz.prog.info? 5).bind (·.zero)=some (.int .u8 0):=by kernel_rfl
theorem kS{b:Nat}{p:Option Addr}{v:Value}{l:List Int}{s:ByteArray}(hp:p=none∨p=some ⟨b,0,none⟩)(hv:aZ v=true)(hl:bR (l.length+s.size)):
 co Tryz.prog 154 [.eq (bP b),.eq (.string s)] [.obj b 162 (bA (.pointer p) v),.sl v 5 (.int .u8) l]
  (fun v':Value=>(bz [.eq (.int .i64 s.size),.eq .nilIface],[.obj b 162 (bA (bP b) v'),.sl v' 5 (.int .u8) (l++qK s)])):=by
 refine co.of 19 Tryz.func154 rfl Tryz.ntmps154 rfl fun S w0=>?_
 refine ah ?_
 refine aa ?_
 refine dx rfl ?_
 refine dx rfl ?_
 refine ak ?_
 refine ae ?_
 show JC _ _ _ _ _
 refine ah ?_
 refine aa ?_
 refine ax rfl rfl ?_
 refine bI rfl rfl rfl (an [.tmp 6] rfl rfl Ba rfl (mV hp hv)) ⟨rfl,trivial⟩ ?_
 refine ak ?_
 refine ae ?_
 show JC _ _ _ _ _
 refine ah ?_
 refine aa ?_
 refine ax rfl rfl ?_
 refine ax rfl rfl ?_
 refine ay rfl (aQ rfl) ⟨rfl,trivial⟩ ?_
 refine ay rfl (av rfl q9) ⟨rfl,trivial⟩ ?_
 refine bI rfl rfl rfl (aj rfl jd (fun _=>rfl) rfl) ⟨rfl,trivial⟩ ?_
 refine ax rfl rfl ?_
 refine bg 1 rfl ?_
 refine dG rfl rfl rfl (yR rfl rfl Aj Tryz.underlying9 Qq (by decide) hl) ⟨rfl,rfl,trivial⟩ fun v'=>?_
 refine fQ fun hv'=>?_
 refine ay rfl (aQ rfl) ⟨rfl,trivial⟩ ?_
 refine ay rfl (av rfl q9) ⟨rfl,trivial⟩ ?_
 refine bg 1 rfl ?_
 refine aX rfl rfl (aP rfl jd hv' rfl rfl) ⟨rfl,rfl,trivial⟩ ?_
 refine ak ?_
 refine ae ?_
 show JC _ _ _ _ _
 refine ah ?_
 refine aa ?_
 refine ax rfl rfl ?_
 refine ay rfl (mr rfl rfl Tryz.underlying9) ⟨rfl,trivial⟩ ?_
 refine c9 rfl rfl ?_
 refine dx rfl ?_
 refine ak ?_
 refine ae ?_
 show JC _ _ _ _ _
 refine aC ?_
 exact aK v' [_,_] 2 ⟨rfl,rfl,trivial⟩ rfl
theorem LZ:fm Tryz.prog 207 (Extern.BytealgMakeNoZero.makeNoZero #[3] #[160]):=.of Tryz.func207 (by kernel_rfl) (by kernel_rfl) (by kernel_rfl) (by kernel_rfl)
theorem L0:ag Tryz.prog 188:=ag.of Tryz.func188 (by kernel_rfl) (by kernel_rfl)
def Qu:Value→List D
 | .slice (some ⟨b,0,none⟩) m c=>[.sl (.slice (some ⟨b,0,none⟩) 0 c) 5 (.int .u8) []]
 |_=>[xG]
theorem K6{v:Value}(h:∀d∈Qu v,∃S w,d.holds S w):∃b m c,v= .slice (some ⟨b,0,none⟩) m c:=by
 unfold Qu at h;split at h
 ·exact⟨_,_,_,rfl⟩
 ·obtain⟨S,w,hb⟩:=h xG (by simp);exact absurd hb rh
theorem NN:dp Tryz.prog 5 1 false:=⟨fun w=>by kernel_rfl,fun w=>by kernel_rfl⟩
theorem E6{b cap:Nat}:sliced (some ⟨b,0,none⟩) 0 (Int.toNat 0) cap 1= .slice (some ⟨b,0,none⟩) 0 cap:=BA
abbrev Am(bc:Nat×Nat):Value:=.slice (some ⟨bc.1,0,none⟩) 0 bc.2
theorem Ih{b n:Nat}{p:Value}(hn:n≤281474976710656):
 co Tryz.prog 188 [.eq (bP b),.eq (.int .i64 n)] [.obj b 162 (bA p (.slice none 0 0))] (fun bc:Nat×Nat=>(bz [],[.obj b 162 (bA p (Am bc)),.sl (Am bc) 5 (.int .u8) []])):=by
 refine co.of 30 Tryz.func188 rfl Tryz.ntmps188 rfl fun S w0=>?_
 have c1:ck (2 * ((0:Nat):Int))=some 0:=rfl
 have c2:ck (0+(n:Int))=some (n:Int):=by rw [Int.zero_add];unfold ck;rw [if_pos (by omega)]
 refine ah ?_
 refine mI ?_
 refine cJ rfl rfl rfl (bU rfl) ⟨rfl,trivial⟩ ?_
 refine cJ rfl rfl rfl (aQ rfl) ⟨rfl,trivial⟩ ?_
 refine cJ rfl rfl rfl (av rfl q9) ⟨rfl,trivial⟩ ?_
 refine gB 0 rfl rfl rfl rfl (aj rfl jd (fun _=>rfl) rfl) ⟨rfl,trivial⟩ ?_
 refine cJ rfl rfl rfl (FQ rfl rfl Tryz.underlying160) ⟨rfl,trivial⟩ ?_
 refine cJ rfl rfl rfl (Kz rfl c1) ⟨rfl,rfl,trivial⟩ ?_
 refine cJ rfl rfl rfl (bU rfl) ⟨rfl,trivial⟩ ?_
 refine cJ rfl rfl rfl (bD rfl c2) ⟨rfl,rfl,trivial⟩ ?_
 refine jK Qu (fun _=>rfl) rfl rfl rfl (FC LZ rfl rfl Tryz.underlying160 hn) ⟨rfl,trivial⟩ ?_
 refine cJ rfl rfl rfl (bU rfl) ⟨rfl,trivial⟩ ?_
 refine cJ rfl rfl rfl (aQ rfl) ⟨rfl,trivial⟩ ?_
 refine cJ rfl rfl rfl (av rfl q9) ⟨rfl,trivial⟩ ?_
 refine gB 0 rfl rfl rfl rfl (aj rfl jd (fun _=>rfl) rfl) ⟨rfl,trivial⟩ ?_
 refine cJ rfl rfl rfl (FI rfl rfl Tryz.underlying160) ⟨rfl,trivial⟩ ?_
 refine sO 14 [true,true,true,true,true,true,true,true,true,true,true,true,true,true] [19,4] [] [] rfl (by kernel_rfl) (by kernel_rfl) (by kernel_rfl) qi (fun vs hv hB=>?_)
 obtain⟨u0,vs1,rfl,hv1⟩:=aD hv
 obtain⟨u1,vs2,rfl,hv2⟩:=aD hv1
 obtain⟨u2,vs3,rfl,hv3⟩:=aD hv2
 obtain⟨u3,vs4,rfl,hv4⟩:=aD hv3
 obtain⟨u4,vs5,rfl,hv5⟩:=aD hv4
 obtain⟨u5,vs6,rfl,hv6⟩:=aD hv5
 obtain⟨u6,vs7,rfl,hv7⟩:=aD hv6
 obtain⟨u7,vs8,rfl,hv8⟩:=aD hv7
 obtain⟨u8,vs9,rfl,hv9⟩:=aD hv8
 obtain⟨u9,vs10,rfl,hv10⟩:=aD hv9
 obtain⟨u10,vs11,rfl,hv11⟩:=aD hv10
 obtain⟨u11,vs12,rfl,hv12⟩:=aD hv11
 obtain⟨u12,vs13,rfl,hv13⟩:=aD hv12
 obtain⟨u13,vs14,rfl,hv14⟩:=aD hv13
 obtain rfl:=oZ hv14
 obtain⟨g,m,q,rfl⟩:=K6 hB.2.2.2.2.2.2.2.2.1
 refine⟨[0,1],[.obj b 162 (bA p (.slice none 0 0)),.sl (Am (g,q)) 5 (.int .u8) []],by kernel_rfl,by decide,?_⟩
 refine sM rfl rfl rfl rfl (uf rfl Tryz.underlying160 NN (Int.le_refl 0) (Int.natCast_nonneg _)) ⟨rfl,rfl,trivial⟩ (by kernel_rfl) ?_
 rw [E6]
 refine sM rfl rfl rfl rfl (jO rfl) ⟨rfl,trivial⟩ (by kernel_rfl) ?_
 refine uR ?_
 refine bN (SE.fin (Γ':=[(0,.eq (bP b)),(4,.eq (Am (g,q)))]) (Δ':=[.obj b 162 (bA p (.slice none 0 0)),.sl (Am (g,q)) 5 (.int .u8) []]) [0,1] ⟨rfl,rfl,trivial⟩ rfl) ?_
 refine ae ?_
 show JC _ _ _ _ _
 refine ah ?_
 refine aa ?_
 refine ax rfl rfl ?_
 refine ax rfl rfl ?_
 refine ay rfl (aQ rfl) ⟨rfl,trivial⟩ ?_
 refine ay rfl (av rfl q9) ⟨rfl,trivial⟩ ?_
 refine bI rfl rfl rfl (aj rfl jd (fun _=>rfl) rfl) ⟨rfl,trivial⟩ ?_
 refine ay rfl (Iz rfl rfl Tryz.underlying160 NN) ⟨rfl,rfl,trivial⟩ ?_
 refine ak ?_
 refine ae ?_
 show JC _ _ _ _ _
 refine aa ?_
 refine ax rfl rfl ?_
 refine ax rfl rfl ?_
 refine ay rfl (aQ rfl) ⟨rfl,trivial⟩ ?_
 refine ay rfl (av rfl q9) ⟨rfl,trivial⟩ ?_
 refine aX rfl rfl (aP rfl jd rfl rfl rfl) ⟨rfl,rfl,trivial⟩ ?_
 refine ak ?_
 refine iC ?_
 exact aK (g,q) [] 2 trivial rfl
end Go.Proofs.YtcnpijmfgfnpiaaGreatDoor
set_option linter.unusedVariables false
set_option maxRecDepth 20000
set_option maxHeartbeats 4000000
namespace Go.Proofs.YtcnpijmfgfnpiaaGreatDoor
open K Go Go.Proofs Go.Extern
theorem Ff{b n:Nat}(h0:0 < n)(hn:n≤281474976710656):
 co Tryz.prog 153 [.eq (bP b),.eq (.int .i64 n)] [.obj b 162 (bA (.pointer none) (.slice none 0 0))] (fun bc:Nat×Nat=>(bz [],[.obj b 162 (bA (bP b) (Am bc)),.sl (Am bc) 5 (.int .u8) []])):=by
 refine co.of 25 Tryz.func153 rfl Tryz.ntmps153 rfl fun S w0=>?_
 have c1:ck (((0:Nat):Int) - ((0:Nat):Int))=some 0:=rfl
 refine ah ?_
 refine aa ?_
 refine ax rfl rfl ?_
 refine bI rfl rfl rfl (an [.tmp 4] rfl rfl Ba rfl (mV (.inl rfl) rfl)) ⟨rfl,trivial⟩ ?_
 refine ak ?_
 refine ae ?_
 show JC _ _ _ _ _
 refine ah ?_
 refine ah ?_
 refine aa ?_
 refine ax rfl rfl ?_
 refine ay rfl (bJ rfl) ⟨rfl,rfl,trivial⟩ ?_
 refine ak ?_
 refine ae ?_
 show JC _ _ _ _ _
 refine bm rfl (fun hb=>absurd (of_decide_eq_true hb) (by omega)) (fun hb=>?_)
 refine aV ?_
 refine ae ?_
 show JC _ _ _ _ _
 refine ah ?_
 refine cm ?_
 refine dh rfl rfl rfl (bU rfl) ⟨rfl,trivial⟩ ?_
 refine dh rfl rfl rfl (aQ rfl) ⟨rfl,trivial⟩ ?_
 refine dh rfl rfl rfl (av rfl q9) ⟨rfl,trivial⟩ ?_
 refine ni 0 rfl rfl rfl rfl (aj rfl jd (fun _=>rfl) rfl) ⟨rfl,trivial⟩ ?_
 refine dh rfl rfl rfl (FQ rfl rfl Tryz.underlying160) ⟨rfl,trivial⟩ ?_
 refine dh rfl rfl rfl (bU rfl) ⟨rfl,trivial⟩ ?_
 refine dh rfl rfl rfl (aQ rfl) ⟨rfl,trivial⟩ ?_
 refine dh rfl rfl rfl (av rfl q9) ⟨rfl,trivial⟩ ?_
 refine ni 0 rfl rfl rfl rfl (aj rfl jd (fun _=>rfl) rfl) ⟨rfl,trivial⟩ ?_
 refine dh rfl rfl rfl (FI rfl rfl Tryz.underlying160) ⟨rfl,trivial⟩ ?_
 refine dh rfl rfl rfl (fH rfl c1) ⟨rfl,rfl,trivial⟩ ?_
 refine dh rfl rfl rfl (bU rfl) ⟨rfl,trivial⟩ ?_
 refine sP (by kernel_rfl) qi ?_
 refine ay rfl (bJ rfl) ⟨rfl,rfl,trivial⟩ ?_
 refine ak ?_
 refine ae ?_
 show JC _ _ _ _ _
 refine bm rfl (fun hb=>?_) (fun hb=>absurd (of_decide_eq_false hb) (by omega))
 refine aa ?_
 refine ax rfl rfl ?_
 refine ax rfl rfl ?_
 refine bG (Δ:=[_]) (F:=_) (fun _ _ _=>au rfl _) rfl rfl (an [.tmp 22,.tmp 23] rfl rfl L0 rfl (Ih hn)) ⟨rfl,rfl,trivial⟩ fun bc=>?_
 refine ak ?_
 refine iC ?_
 exact aK bc [] 2 trivial rfl
theorem wP:dp Tryz.prog 9 1 false:=⟨fun w=>by kernel_rfl,fun w=>by kernel_rfl⟩
theorem L9:ag Tryz.prog 119:=ag.of Tryz.func119 (by kernel_rfl) (by kernel_rfl)
theorem Hf:ag Tryz.prog 120:=ag.of Tryz.func120 (by kernel_rfl) (by kernel_rfl)
theorem L2:ag Tryz.prog 153:=ag.of Tryz.func153 (by kernel_rfl) (by kernel_rfl)
theorem A9:ag Tryz.prog 154:=ag.of Tryz.func154 (by kernel_rfl) (by kernel_rfl)
theorem EF:∀w,(zeroValue 162).run Tryz.prog w= .ok (.agg #[.pointer none,.slice none 0 0]) w:=fun w=>by kernel_rfl
theorem Hw:∀S w,(A.cells S w (bA (.pointer none) (.slice none 0 0)) (Value.cells (.agg #[.pointer none,.slice none 0 0])).toList):=fun _ _=>⟨[_],_,rfl,⟨rfl,rfl⟩,rfl,rfl⟩
def mT(ss:List ByteArray):Nat→Int×Int→Option Int
 |0,_=>none
 |n+1,y=>if y.1 < (ss.length:Int) then((bv ss y.1).bind fun s=>(ck ((9223372036854775807:Int) - y.2)).bind fun z=>if z < (s.size:Int) then none else(ck (y.2+(s.size:Int))).bind fun z2=>(ck (y.1+(1:Int))).bind fun z3=>mT ss n (z3,z2)) else some y.2
def kR(ss:List ByteArray)(sep:ByteArray):Nat→Int×List Int→Option (List Int)
 |0,_=>none
 |n+1,y=>if y.1 < (ss.length:Int) then((bv ss y.1).bind fun s=>if bR (y.2.length+sep.size)∧bR ((y.2++qK sep).length+s.size) then(ck (y.1+(1:Int))).bind fun z3=>kR ss sep n (z3,(y.2++qK sep)++qK s) else none) else some y.2
def tu(k:Nat)(ss:List ByteArray)(sep:ByteArray):Option ByteArray:=
 if sep.size=1∧bR ss.length then
  if(ss.length:Int)=(0:Int) then some .empty
  else if(ss.length:Int)=(1:Int) then bv ss 0
  else(mT ss k ((0:Int),(ss.length:Int) - 1)).bind fun n=>
   if 0 < n∧n≤281474976710656 then(bv ss 0).bind fun s=>if bR s.size then(kR (ss.drop 1) sep k ((0:Int),qK s)).bind fun l=>if l=[] then none else some (pP l) else none else none
 else none
theorem Ak(k:Nat)(ss:List ByteArray)(sep:ByteArray)(r:ByteArray)(h:tu k ss sep=some r):
 co Tryz.prog 121 [.rep (.slice .str) ss,.eq (.string sep)] [] (fun _:Unit=>(bz [.eq (.string r)],[])):=by
 unfold tu at h
 split at h
 case isFalse=>cases h
 rename_i hc
 obtain⟨hsep,hlen⟩:=hc
 unfold bR at hlen
 replace h:=be h
 refine co.of 75 Tryz.func121 rfl Tryz.ntmps121 rfl fun S w0=>?_
 refine ah ?_
 refine aa ?_
 refine dx rfl ?_
 refine ak ?_
 refine ae ?_
 show JC _ _ _ _ _
 refine ah ?_
 refine ah ?_
 refine aa ?_
 refine ax rfl rfl ?_
 refine ay rfl (mt rfl rfl Tryz.underlying86) ⟨rfl,trivial⟩ ?_
 refine ak ?_
 refine ae ?_
 show JC _ _ _ _ _
 refine ao ?_
 refine ah ?_
 refine aa ?_
 refine ay rfl (fK rfl) ⟨rfl,rfl,trivial⟩ ?_
 refine c9 rfl rfl ?_
 refine ak ?_
 refine ae ?_
 show JC _ _ _ _ _
 refine bm rfl (fun hb=>?_) (fun hb=>?_)
 ·
  replace h:=cZ (pH hb) h;refine ah ?_;refine aa ?_;refine dx rfl ?_;refine ak ?_;refine ae ?_;show JC _ _ _ _ _;refine aC ?_;refine bQ ?_;refine ba ?_;obtain rfl:=Option.some.inj h;exact aK () [_] 0 ⟨rfl,trivial⟩ rfl
 replace h:=bS (pe hb) h
 have hne0:=pe hb
 refine ah ?_
 refine aa ?_
 refine ay rfl (fK rfl) ⟨rfl,rfl,trivial⟩ ?_
 refine c9 rfl rfl ?_
 refine ak ?_
 refine ae ?_
 show JC _ _ _ _ _
 refine bm rfl (fun hb=>?_) (fun hb=>?_)
 ·
  replace h:=cZ (pH hb) h;have es:bv ss 0=some r:=by simpa using h
  refine ah ?_;refine aa ?_;refine ax rfl rfl ?_;refine ay rfl (a8 (t:=.str) rfl Tryz.underlying86 wP es) ⟨rfl,rfl,trivial⟩ ?_;refine ay rfl (ar (t:=.str) rfl wP rfl) ⟨rfl,trivial⟩ ?_;refine c9 rfl rfl ?_;refine ak ?_;refine ae ?_;show JC _ _ _ _ _;refine aC ?_;refine bQ ?_;refine ba ?_;exact aK () [_] 0 ⟨rfl,trivial⟩ rfl
 replace h:=bS (pe hb) h
 have hne1:=pe hb
 refine aV ?_
 refine aO ?_
 refine ae ?_
 show JC _ _ _ _ _
 refine ah ?_
 refine aa ?_
 refine dx rfl ?_
 refine ak ?_
 refine ae ?_
 show JC _ _ _ _ _
 refine ah ?_
 refine ah ?_
 refine aa ?_
 refine ax rfl rfl ?_
 refine ay rfl (mr rfl rfl Tryz.underlying9) ⟨rfl,trivial⟩ ?_
 refine ay rfl (lG rfl) ⟨rfl,rfl,trivial⟩ ?_
 refine ak ?_
 refine ae ?_
 show JC _ _ _ _ _
 have c1:ck ((ss.length:Int) - 1)=some ((ss.length:Int) - 1):=by unfold ck;rw [if_pos (by omega)]
 have c2:ck ((sep.size:Int) * ((ss.length:Int) - 1))=some ((ss.length:Int) - 1):=by rw [hsep];simpa using c1
 have c3:ck (0+((ss.length:Int) - 1))=some ((ss.length:Int) - 1):=by rw [Int.zero_add];exact c1
 refine bm rfl (fun hb=>?_) (fun hb=>absurd (pe hb) (by omega))
 refine ah ?_
 refine ah ?_
 refine aa ?_
 refine ax rfl rfl ?_
 refine ay rfl (mr rfl rfl Tryz.underlying9) ⟨rfl,trivial⟩ ?_
 refine ax rfl rfl ?_
 refine ay rfl (mt rfl rfl Tryz.underlying86) ⟨rfl,trivial⟩ ?_
 refine ay rfl (fH rfl c1) ⟨rfl,rfl,trivial⟩ ?_
 refine ay rfl (NV rfl (by omega)) ⟨rfl,rfl,trivial⟩ ?_
 refine ay rfl (sU rfl) ⟨rfl,rfl,trivial⟩ ?_
 refine ak ?_
 refine ae ?_
 show JC _ _ _ _ _
 refine bm rfl (fun hb=>?_) (fun hb=>?_)
 ·
  exfalso;have h1:=pH hb;have q1:(9223372036854775807:Int).tdiv ((ss.length:Int) - 1)=9223372036854775807 / ((ss.length:Int) - 1):=Int.tdiv_eq_ediv_of_nonneg (by omega);have q2:(2:Int)≤9223372036854775807 / ((ss.length:Int) - 1):=Int.le_ediv_of_mul_le (by omega) (by omega);have q3:(9223372036854775807:Int) / ((ss.length:Int) - 1)≤9223372036854775807:=Int.ediv_le_self _ (by omega);rw [q1,rm (z:=9223372036854775807 / ((ss.length:Int) - 1)) (by unfold ck;rw [if_pos (by omega)])] at h1;omega
 refine aV ?_
 refine ae ?_
 show JC _ _ _ _ _
 refine aa ?_
 refine ax rfl rfl ?_
 refine ax rfl rfl ?_
 refine ay rfl (mr rfl rfl Tryz.underlying9) ⟨rfl,trivial⟩ ?_
 refine ax rfl rfl ?_
 refine ay rfl (mt rfl rfl Tryz.underlying86) ⟨rfl,trivial⟩ ?_
 refine ay rfl (fH rfl c1) ⟨rfl,rfl,trivial⟩ ?_
 refine ay rfl (Kz rfl c2) ⟨rfl,rfl,trivial⟩ ?_
 refine ay rfl (bD rfl c3) ⟨rfl,rfl,trivial⟩ ?_
 refine c9 rfl rfl ?_
 refine ak ?_
 refine ae ?_
 show JC _ _ _ _ _
 rw [Option.bind_assoc] at h
 refine ah ?_
 refine ah ?_
 refine aa ?_
 refine ax rfl rfl ?_
 refine ay rfl (mt rfl rfl Tryz.underlying86) ⟨rfl,trivial⟩ ?_
 refine eB rfl ?_
 refine ak ?_
 refine ae ?_
 show JC _ _ _ _ _
 refine ao ?_
 refine aR (Z:=Unit) (α:=Int×Int) (fun _ y=>[(0,.rep (.slice .str) ss),(1,.eq (.string sep)),(5,.eq (.int .i64 y.2)),(39,.rep (.slice .str) ss),(40,.eq (.int .i64 (ss.length:Int))),(41,.eq (.int .i64 y.1))]) (fun _ _=>[]) (mT ss) k () ((0:Int),(ss.length:Int) - 1) (fun _=>rfl) h (SE.fin [] ⟨rfl,rfl,rfl,rfl,rfl,rfl,trivial⟩ rfl) (fun n z y h=>?_)
 unfold mT at h
 refine ah ?_
 refine aa ?_
 refine ay rfl (bJ rfl) ⟨rfl,rfl,trivial⟩ ?_
 refine ak ?_
 refine ae ?_
 show JC _ _ _ _ _
 refine ah ?_
 refine bm rfl (fun hb=>?_) (fun hb=>?_)
 ·
  replace h:=cZ (pH hb) h;refine aV ?_;refine ae ?_;show JC _ _ _ _ _;refine ah ?_;refine ao ?_;refine ah ?_;refine aa ?_;obtain⟨s,es,h⟩:=ab h;refine ay rfl (a8 (t:=.str) rfl Tryz.underlying86 wP es) ⟨rfl,rfl,trivial⟩ ?_;refine ay rfl (ar (t:=.str) rfl wP rfl) ⟨rfl,trivial⟩ ?_;refine c9 rfl rfl ?_;refine ak ?_;refine ae ?_;show JC _ _ _ _ _;refine ah ?_;refine ah ?_;refine aa ?_;refine ax rfl rfl ?_;refine ay rfl (mr rfl rfl Tryz.underlying9) ⟨rfl,trivial⟩ ?_;refine ax rfl rfl ?_;obtain⟨z,ez,h⟩:=ab h;refine ay rfl (fH rfl ez) ⟨rfl,rfl,trivial⟩ ?_;refine ay rfl (lG rfl) ⟨rfl,rfl,trivial⟩ ?_;refine ak ?_;refine ae ?_;show JC _ _ _ _ _;refine bm rfl (fun hb=>?_) (fun hb=>?_)
  ·replace h:=cZ (pH hb) h;cases h
  replace h:=bS (pe hb) h;refine aV ?_;refine ae ?_;show JC _ _ _ _ _;refine aa ?_;refine ax rfl rfl ?_;refine ax rfl rfl ?_;refine ay rfl (mr rfl rfl Tryz.underlying9) ⟨rfl,trivial⟩ ?_;obtain⟨z2,ez2,h⟩:=ab h;refine ay rfl (bD rfl ez2) ⟨rfl,rfl,trivial⟩ ?_;refine c9 rfl rfl ?_;refine ak ?_;refine aO ?_;refine ae ?_;show JC _ _ _ _ _;refine aa ?_;obtain⟨z3,ez3,h⟩:=ab h;refine ay rfl (bD rfl ez3) ⟨rfl,rfl,trivial⟩ ?_;refine ax rfl rfl ?_;refine ak ?_;refine ae ?_;exact j9 ((),(z3,z2)) h (SE.fin [] ⟨rfl,rfl,rfl,rfl,rfl,rfl,trivial⟩ rfl)
 replace h:=bS (pe hb) h
 refine eS ?_
 refine aY ?_
 refine aY ?_
 refine bZ ?_
 refine ae ?_
 show JC _ _ _ _ _
 replace h:((if 0 < y.2∧y.2≤281474976710656 then(bv ss 0).bind fun s=>if bR s.size then(kR (ss.drop 1) sep k ((0:Int),qK s)).bind fun l=>if l=[] then none else some (pP l) else none else none):Option ByteArray).bind some=some r:=h
 obtain⟨y1,y2⟩:=y
 have hy:0 < y2∧y2≤281474976710656:=by
  apply Classical.byContradiction;intro hn;rw [if_neg hn] at h;cases h
 replace h:=cZ hy h
 obtain⟨m,rfl⟩:=Int.eq_ofNat_of_zero_le (show 0≤y2 by omega)
 obtain⟨s0,es0,h⟩:=ab h
 have hs0:bR s0.size:=by
  apply Classical.byContradiction;intro hn;rw [if_neg hn] at h;cases h
 replace h:=cZ hs0 h
 rw [Option.bind_assoc] at h
 refine ah ?_
 refine aa ?_
 refine aB rfl rfl rfl (aS rfl EF Hw) trivial fun b=>?_
 refine ak ?_
 refine ae ?_
 show JC _ _ _ _ _
 refine ah ?_
 refine aa ?_
 refine ax rfl rfl ?_
 refine bG (Δ:=[_]) (F:=_) (fun _ _ _=>au rfl _) rfl rfl (an [.tmp 8,.tmp 56] rfl rfl L2 rfl (Ff (b:=b) (n:=m) (by omega) (by omega))) ⟨rfl,rfl,trivial⟩ fun bc=>?_
 refine ak ?_
 refine ae ?_
 show JC _ _ _ _ _
 refine ah ?_
 refine aa ?_
 refine ax rfl rfl ?_
 refine ay rfl (a8 (t:=.str) rfl Tryz.underlying86 wP es0) ⟨rfl,rfl,trivial⟩ ?_
 refine ay rfl (ar (t:=.str) rfl wP rfl) ⟨rfl,trivial⟩ ?_
 refine bG (Δ:=[_,_]) (F:=_) (fun _ _ _=>au rfl _) rfl rfl (an [.tmp 8,.tmp 60] rfl rfl A9 rfl (kS (b:=b) (p:=some ⟨b,0,none⟩) (v:=Am bc) (l:=[]) (s:=s0) (.inr rfl) rfl (by simpa using hs0))) ⟨rfl,rfl,trivial⟩ fun v0=>?_
 refine ak ?_
 refine ae ?_
 show JC _ _ _ _ _
 refine ah ?_
 refine ah ?_
 refine aa ?_
 refine ax rfl rfl ?_
 refine ay rfl (Dy (t:=.str) rfl Tryz.underlying86 wP (by decide) (by omega)) ⟨rfl,rfl,trivial⟩ ?_
 refine ay rfl (mt rfl rfl Tryz.underlying86) ⟨rfl,trivial⟩ ?_
 refine eB rfl ?_
 refine ak ?_
 refine ae ?_
 show JC _ _ _ _ _
 refine ao ?_
 refine aR (Z:=Value) (α:=Int×List Int) (fun _ y=>[(1,.eq (.string sep)),(8,.eq (bP b)),(63,.rep (.slice .str) (ss.drop 1)),(64,.eq (.int .i64 ((ss.drop 1).length:Int))),(65,.eq (.int .i64 y.1))]) (fun v y=>[.obj b 162 (bA (bP b) v),.sl v 5 (.int .u8) y.2]) (kR (ss.drop 1) sep) k v0 ((0:Int),qK s0) (fun _=>rfl) h (SE.fin [0,1] ⟨rfl,rfl,rfl,rfl,rfl,trivial⟩ rfl) (fun n v y h=>?_)
 unfold kR at h
 refine ah ?_
 refine aa ?_
 refine ay rfl (bJ rfl) ⟨rfl,rfl,trivial⟩ ?_
 refine ak ?_
 refine ae ?_
 show JC _ _ _ _ _
 refine ah ?_
 refine bm rfl (fun hb=>?_) (fun hb=>?_)
 ·
  replace h:=cZ (pH hb) h;refine aV ?_;refine ae ?_;show JC _ _ _ _ _;refine ah ?_;refine ao ?_;refine ah ?_;refine aa ?_;obtain⟨s,es,h⟩:=ab h;refine ay rfl (a8 (t:=.str) rfl Tryz.underlying86 wP es) ⟨rfl,rfl,trivial⟩ ?_;refine ay rfl (ar (t:=.str) rfl wP rfl) ⟨rfl,trivial⟩ ?_;refine c9 rfl rfl ?_;refine ak ?_;refine ae ?_;show JC _ _ _ _ _
  have hk:bR (y.2.length+sep.size)∧bR ((y.2++qK sep).length+s.size):=by
   apply Classical.byContradiction;intro hn;rw [if_neg hn] at h;cases h
  replace h:=cZ hk h;refine uT 1 rfl fun hv=>?_;refine ah ?_;refine aa ?_;refine ax rfl rfl ?_;refine bG (Δ:=[_,_]) (F:=_) (fun _ _ _=>au rfl _) rfl rfl (an [.tmp 8,.tmp 69] rfl rfl A9 rfl (kS (b:=b) (p:=some ⟨b,0,none⟩) (s:=sep) (.inr rfl) hv hk.1)) ⟨rfl,rfl,trivial⟩ fun v1=>?_;refine ak ?_;refine ae ?_;show JC _ _ _ _ _;refine uT 1 rfl fun hv1=>?_;refine aa ?_;refine ax rfl rfl ?_;refine bG (Δ:=[_,_]) (F:=_) (fun _ _ _=>au rfl _) rfl rfl (an [.tmp 8,.tmp 71] rfl rfl A9 rfl (kS (b:=b) (p:=some ⟨b,0,none⟩) (s:=s) (.inr rfl) hv1 hk.2)) ⟨rfl,rfl,trivial⟩ fun v2=>?_;refine ak ?_;refine aO ?_;refine ae ?_;show JC _ _ _ _ _;refine aa ?_;obtain⟨z3,ez3,h⟩:=ab h;refine ay rfl (bD rfl ez3) ⟨rfl,rfl,trivial⟩ ?_;refine ax rfl rfl ?_;refine ak ?_;refine ae ?_;exact j9 (v2,(z3,(y.2++qK sep)++qK s)) h (SE.fin [0,1] ⟨rfl,rfl,rfl,rfl,rfl,trivial⟩ rfl)
 replace h:=bS (pe hb) h
 refine eS ?_
 refine aY ?_
 refine aY ?_
 refine bZ ?_
 refine ae ?_
 show JC _ _ _ _ _
 replace h:(if y.2=[] then none else some (pP y.2):Option ByteArray).bind some=some r:=h
 have hy2:y.2≠[]:=by
  intro hn;rw [if_pos hn] at h;cases h
 rw [if_neg hy2] at h
 obtain rfl:=Option.some.inj h
 refine ah ?_
 refine aa ?_
 refine bG (Δ:=[_,_]) (F:=_) (fun _ _ _=>au rfl _) rfl rfl (an [.tmp 8] rfl rfl Hf rfl (vH (b:=b) (fun hn=>absurd hn hy2))) ⟨rfl,trivial⟩ fun _=>?_
 refine c9 rfl rfl ?_
 refine ak ?_
 refine ae ?_
 show JC _ _ _ _ _
 refine aC ?_
 exact aK () [_] 0 ⟨rfl,trivial⟩ rfl
end Go.Proofs.YtcnpijmfgfnpiaaGreatDoor
