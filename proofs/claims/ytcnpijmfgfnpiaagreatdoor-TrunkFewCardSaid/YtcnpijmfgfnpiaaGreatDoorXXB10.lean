import Derived.Test.YtcnpijmfgfnpiaaGreatDoorXXB5
import Derived.Test.YtcnpijmfgfnpiaaGreatDoorProg
import Derived.Stop.Asserts
set_option linter.unusedSimpArgs false
set_option linter.unusedVariables false
set_option maxRecDepth 20000
set_option maxHeartbeats 4000000
namespace Go.Proofs.YtcnpijmfgfnpiaaGreatDoor
open K Go Go.Proofs Go.Extern
theorem AT:dC Tryz.prog 159 1 false:=⟨fun w=>by kernel_rfl,fun w=>by kernel_rfl⟩
theorem jw:dC Tryz.prog 160 1 false:=⟨fun w=>by kernel_rfl,fun w=>by kernel_rfl⟩
theorem MC:aQ Tryz.prog 162 0 0:=aQ.of (by kernel_rfl)
theorem rE:aQ Tryz.prog 162 1 1:=aQ.of (by kernel_rfl)
theorem AV:mB Tryz.prog 160 5 1 1:=.of (z:=(.int .u8 (0))) Tryz.underlying160 (by kernel_rfl) rfl rfl rfl
theorem MK:fB Tryz.prog 186 Extern.AbiNoEscape.same:=.of Tryz.func186 (by kernel_rfl) (by kernel_rfl) (by kernel_rfl) (by kernel_rfl)
theorem BJ:ag Tryz.prog 151:=ag.of Tryz.func151 (by kernel_rfl) (by kernel_rfl)
theorem MM:ag Tryz.prog 152:=ag.of Tryz.func152 (by kernel_rfl) (by kernel_rfl)
@[reducible] def bA(p v:Value):A:=.agg (.pair (.eq p) (.eq v))
abbrev bP(b:Nat):Value:=.pointer (some ⟨b,0,none⟩)
theorem uO{p:Option Addr}:Ns Tryz.prog (binOp .eql 159 (.pointer p) (.pointer none)):=by
 cases p with
 |none=>exact nS (by kernel_rfl)
 |some p=>exact nS (by kernel_rfl)
theorem D3{p:Option Addr}{x y:Operand}(w:World):(do eqGuard .eql 159 x y (.pointer p) (.pointer none);binOp .eql 159 (.pointer p) (.pointer none):Sem Value).run Tryz.prog w= .ok (.bool p.isNone) w:=by
 cases p <;> kernel_rfl
theorem Bi{p:Addr}:Ns Tryz.prog (binOp .neq 159 (.pointer (some p)) (.pointer (some p))):=by
 refine ai (s:=Op.equal 159 (.pointer (some p)) (.pointer (some p))) ?_ fun _=>bb;show Ns Tryz.prog (Op.equalIn (9999+1) 159 (.pointer (some p)) (.pointer (some p)));unfold Op.equalIn;refine cH Tryz.underlying159 (ai cM fun n=>sL ?_ (sL bb (ai fk fun _=>bb)));unfold sameAddr;simp only [beq_self_eq_true,if_true];exact bb
theorem LX:∃j,Tryz.prog.info? 162=some j∧j.size≠0:=by
 obtain⟨j,h1,h2⟩:=Option.map_eq_some_iff.1 (show(Tryz.prog.info? 162).map (·.size)=some 2 by kernel_rfl);exact⟨j,h1,by omega⟩
theorem nn{b:Nat}{p:Option Addr}{v:Value}(hp:p=none∨p=some ⟨b,0,none⟩)(hv:be v=true):cd Tryz.prog 151 [.eq (bP b)] [.obj b 162 (bA (.pointer p) v)] (fun _:Unit=>(bu [],[.obj b 162 (bA (bP b) v)])):=by
 obtain⟨j162,inf162_eq,inf162_sz⟩:=LX;refine cd.of 20 Tryz.func151 rfl Tryz.ntmps151 rfl fun S w0=>?_;refine ah ?_;refine aa ?_;refine av rfl rfl ?_;refine aA rfl (aS rfl) ⟨rfl,trivial⟩ ?_;refine aA rfl (aw rfl MC) ⟨rfl,trivial⟩ ?_;refine bU rfl rfl rfl (ak rfl AT (fun _=>rfl) rfl) ⟨rfl,trivial⟩ ?_;refine aA rfl (ip rfl D3 uO) ⟨rfl,rfl,trivial⟩ ?_;refine ao ?_;refine ae ?_;show JC _ _ _ _ _;refine bi rfl (fun hb=>?_) (fun hb=>?_)
 ·refine aa ?_;refine av rfl rfl ?_;refine av rfl rfl ?_;refine bU rfl rfl rfl (A9 rfl Tryz.underlying159 Tryz.underlying179 inf162_eq inf162_sz rfl) ⟨rfl,trivial⟩ ?_;refine aA rfl (Gh MK [.tmp 9] [bP b] rfl rfl rfl (fun _=>rfl) bb) ⟨rfl,trivial⟩ ?_;refine bU rfl rfl rfl (xw rfl Tryz.underlying179 Tryz.underlying159 inf162_eq (by kernel_rfl)) ⟨rfl,trivial⟩ ?_;refine aA rfl (aS rfl) ⟨rfl,trivial⟩ ?_;refine aA rfl (aw rfl MC) ⟨rfl,trivial⟩ ?_;refine aZ rfl rfl (aR rfl AT rfl rfl rfl) ⟨rfl,rfl,trivial⟩ ?_;refine ao ?_;refine iQ ?_;exact aI () [] 1 trivial rfl
 ·have hp':p=some ⟨b,0,none⟩:=by
   rcases hp with rfl |rfl
   ·cases hb
   ·rfl
  subst hp';refine ah ?_;refine aa ?_;refine av rfl rfl ?_;refine aA rfl (aS rfl) ⟨rfl,trivial⟩ ?_;refine aA rfl (aw rfl MC) ⟨rfl,trivial⟩ ?_;refine bU rfl rfl rfl (ak rfl AT (fun _=>rfl) rfl) ⟨rfl,trivial⟩ ?_;refine av rfl rfl ?_;refine aA rfl (F5 rfl Tryz.underlying159 inf162_eq Bi) ⟨rfl,rfl,trivial⟩ ?_;refine ao ?_;refine ae ?_;show JC _ _ _ _ _;refine bi rfl (fun hb=>(by cases hb)) (fun hb=>?_);refine aU ?_;refine iQ ?_;exact aI () [] 1 trivial rfl
theorem vJ{v:Value}{l:List Int}{r:Int}(h0:0≤r)(h1:r≤127)(hl:bX (l.length+1)):cd Tryz.prog 152 [.eq v,.eq (.int .i32 r)] [.sl v 5 (.int .u8) l] (fun v':Value=>(bu [.eq v'],[.sl v' 5 (.int .u8) (l++[r])])):=by
 refine cd.of 16 Tryz.func152 rfl Tryz.ntmps152 rfl fun S w0=>?_;have w32:IntKind.u32.wrap r=r:=by simp [IntKind.wrap,IntKind.bits,IntKind.signed];omega
 have w8:IntKind.u8.wrap r=r:=by simp [IntKind.wrap,IntKind.bits,IntKind.signed];omega
 refine ah ?_;refine aa ?_;refine dG rfl ?_;refine ao ?_;refine ae ?_;show JC _ _ _ _ _;refine ah ?_;refine ah ?_;refine aa ?_;refine av rfl rfl ?_;refine aA rfl (oC rfl Tryz.underlying21 Tryz.underlying201) ⟨rfl,trivial⟩ ?_;rw [w32];refine aA rfl (wl rfl) ⟨rfl,rfl,trivial⟩ ?_;refine ao ?_;refine ae ?_;show JC _ _ _ _ _;refine bi rfl (fun hb=>?_) (fun hb=>absurd h1 (by simpa using hb));refine ah ?_;refine aa ?_;refine av rfl rfl ?_;refine av rfl rfl ?_;refine aA rfl (oC rfl Tryz.underlying21 Tryz.underlying5) ⟨rfl,trivial⟩ ?_;rw [w8];refine aA rfl (bF (t:=(.int .u8)) [(.tmp 10,.eq (.int .u8 r))] [r] rfl rfl AV (.cons rfl .int .nil) rfl rfl) ⟨rfl,trivial⟩ ?_;refine dQ rfl rfl rfl (cp rfl rfl AV (by simpa using hl)) ⟨rfl,rfl,trivial⟩ fun v'=>?_;refine dj rfl rfl ?_;refine ao ?_;refine ae ?_;show JC _ _ _ _ _;refine aC ?_;refine aX ?_;exact aI v' [_] 1 ⟨rfl,trivial⟩ rfl
theorem xl{b:Nat}{p:Option Addr}{v:Value}{l:List Int}{r:Int}(hp:p=none∨p=some ⟨b,0,none⟩)(hv:be v=true)(h0:0≤r)(h1:r≤127)(hl:bX (l.length+1)):
 cd Tryz.prog 119 [.eq (bP b),.eq (.int .i32 r)] [.obj b 162 (bA (.pointer p) v),.sl v 5 (.int .u8) l]
  (fun v':Value=>(bu [.eq (.int .i64 1),.eq .nilIface],[.obj b 162 (bA (bP b) v'),.sl v' 5 (.int .u8) (l++[r])])):=by
 refine cd.of 30 Tryz.func119 rfl Tryz.ntmps119 rfl fun S w0=>?_
 refine ah ?_
 refine aa ?_
 refine dG rfl ?_
 refine dG rfl ?_
 refine ao ?_
 refine ae ?_
 show JC _ _ _ _ _
 refine ah ?_
 refine aa ?_
 refine av rfl rfl ?_
 refine bU rfl rfl rfl (an [.tmp 7] rfl rfl BJ rfl (nn hp hv)) ⟨rfl,trivial⟩ ?_
 refine ao ?_
 refine ae ?_
 show JC _ _ _ _ _
 refine ah ?_
 refine aa ?_
 refine av rfl rfl ?_
 refine aA rfl (aS rfl) ⟨rfl,trivial⟩ ?_
 refine aA rfl (aw rfl rE) ⟨rfl,trivial⟩ ?_
 refine bU rfl rfl rfl (ak rfl jw (fun _=>rfl) rfl) ⟨rfl,trivial⟩ ?_
 refine bq 1 rfl ?_
 refine bU rfl rfl rfl (cZ rfl rfl Tryz.underlying160) ⟨rfl,trivial⟩ ?_
 refine dj rfl rfl ?_
 refine ao ?_
 refine ae ?_
 show JC _ _ _ _ _
 refine ah ?_
 refine aa ?_
 refine av rfl rfl ?_
 refine av rfl rfl ?_
 refine aA rfl (aS rfl) ⟨rfl,trivial⟩ ?_
 refine aA rfl (aw rfl rE) ⟨rfl,trivial⟩ ?_
 refine bq 1 rfl ?_
 refine bU rfl rfl rfl (ak rfl jw (fun _=>rfl) rfl) ⟨rfl,trivial⟩ ?_
 refine av rfl rfl ?_
 refine bq 1 rfl ?_
 refine dQ rfl rfl rfl (an [.tmp 18,.tmp 19] rfl rfl MM rfl (vJ h0 h1 hl)) ⟨rfl,rfl,trivial⟩ fun v'=>?_
 refine f9 fun hv'=>?_
 refine aA rfl (aS rfl) ⟨rfl,trivial⟩ ?_
 refine aA rfl (aw rfl rE) ⟨rfl,trivial⟩ ?_
 refine bq 1 rfl ?_
 refine aZ rfl rfl (aR rfl jw hv' rfl rfl) ⟨rfl,rfl,trivial⟩ ?_
 refine ao ?_
 refine ae ?_
 show JC _ _ _ _ _
 refine ah ?_
 refine aa ?_
 refine av rfl rfl ?_
 refine aA rfl (aS rfl) ⟨rfl,trivial⟩ ?_
 refine aA rfl (aw rfl rE) ⟨rfl,trivial⟩ ?_
 refine bU rfl rfl rfl (ak rfl jw (fun _=>rfl) rfl) ⟨rfl,trivial⟩ ?_
 refine bq 1 rfl ?_
 refine bU rfl rfl rfl (cZ rfl rfl Tryz.underlying160) ⟨rfl,trivial⟩ ?_
 refine av rfl rfl ?_
 have hck:ck (((l++[r]).length:Int) - (l.length:Int))=some 1:=by
  have:(((l++[r]).length:Int) - (l.length:Int))=1:=by simp;omega
  rw [this];rfl
 refine aA rfl (fN rfl hck) ⟨rfl,rfl,trivial⟩ ?_
 refine dj rfl rfl ?_
 refine dG rfl ?_
 refine ao ?_
 refine ae ?_
 show JC _ _ _ _ _
 refine aC ?_
 refine bM (SE.fin (Γ':=[(4,_),(5,_)]) [1,0] ⟨rfl,rfl,trivial⟩ rfl) ?_
 exact aI v' [_,_] 2 ⟨rfl,rfl,trivial⟩ rfl
theorem Ry:Tryz.prog.cellsOf 5=1:=by kernel_rfl
theorem qy:Tryz.prog.follows .mixedOrders=true:=by kernel_rfl
theorem wd{b:Nat}{p v:Value}{l:List Int}(hl:l=[]→v= .slice none 0 0):
 cd Tryz.prog 120 [.eq (bP b)] [.obj b 162 (bA p v),.sl v 5 (.int .u8) l] (fun _:Unit=>(bu [.eq (.string (qg l))],[])):=by
 refine cd.of 14 Tryz.func120 rfl Tryz.ntmps120 rfl fun S w0=>?_
 refine ah ?_
 refine aa ?_
 refine dG rfl ?_
 refine ao ?_
 refine ae ?_
 show JC _ _ _ _ _
 refine ah ?_
 refine cm ?_
 refine dp rfl rfl rfl (bz rfl) ⟨rfl,trivial⟩ ?_
 refine dp rfl rfl rfl (aS rfl) ⟨rfl,trivial⟩ ?_
 refine dp rfl rfl rfl (aw rfl rE) ⟨rfl,trivial⟩ ?_
 refine nL 0 rfl rfl rfl rfl (ak rfl jw (fun _=>rfl) rfl) ⟨rfl,trivial⟩ ?_
 refine nL 1 rfl rfl rfl rfl (yZ rfl rfl hl) ⟨rfl,trivial⟩ ?_
 refine dp rfl rfl rfl (bz rfl) ⟨rfl,trivial⟩ ?_
 refine dp rfl rfl rfl (aS rfl) ⟨rfl,trivial⟩ ?_
 refine dp rfl rfl rfl (aw rfl rE) ⟨rfl,trivial⟩ ?_
 refine nL 0 rfl rfl rfl rfl (ak rfl jw (fun _=>rfl) rfl) ⟨rfl,trivial⟩ ?_
 refine nL 1 rfl rfl rfl rfl (cZ rfl rfl Tryz.underlying160) ⟨rfl,trivial⟩ ?_
 refine td (by kernel_rfl) qy ?_
 refine bq 1 rfl ?_
 refine bB (Δ:=[_]) (F:=_) (fun _ _ _=>ar rfl _) rfl rfl (uJ rfl rfl Tryz.underlying213 Ry hl) ⟨rfl,rfl,trivial⟩ fun _=>?_
 refine dj rfl rfl ?_
 refine ao ?_
 refine ae ?_
 show JC _ _ _ _ _
 refine aC ?_
 exact aI () [_] 0 ⟨rfl,trivial⟩ rfl
theorem QM:(Tryz.prog.info? 5).bind (·.zero)=some (.int .u8 0):=by kernel_rfl
theorem lA{b:Nat}{p:Option Addr}{v:Value}{l:List Int}{s:ByteArray}(hp:p=none∨p=some ⟨b,0,none⟩)(hv:be v=true)(hl:bX (l.length+s.size)):
 cd Tryz.prog 154 [.eq (bP b),.eq (.string s)] [.obj b 162 (bA (.pointer p) v),.sl v 5 (.int .u8) l]
  (fun v':Value=>(bu [.eq (.int .i64 s.size),.eq .nilIface],[.obj b 162 (bA (bP b) v'),.sl v' 5 (.int .u8) (l++qY s)])):=by
 refine cd.of 19 Tryz.func154 rfl Tryz.ntmps154 rfl fun S w0=>?_
 refine ah ?_
 refine aa ?_
 refine dG rfl ?_
 refine dG rfl ?_
 refine ao ?_
 refine ae ?_
 show JC _ _ _ _ _
 refine ah ?_
 refine aa ?_
 refine av rfl rfl ?_
 refine bU rfl rfl rfl (an [.tmp 6] rfl rfl BJ rfl (nn hp hv)) ⟨rfl,trivial⟩ ?_
 refine ao ?_
 refine ae ?_
 show JC _ _ _ _ _
 refine ah ?_
 refine aa ?_
 refine av rfl rfl ?_
 refine av rfl rfl ?_
 refine aA rfl (aS rfl) ⟨rfl,trivial⟩ ?_
 refine aA rfl (aw rfl rE) ⟨rfl,trivial⟩ ?_
 refine bU rfl rfl rfl (ak rfl jw (fun _=>rfl) rfl) ⟨rfl,trivial⟩ ?_
 refine av rfl rfl ?_
 refine bq 1 rfl ?_
 refine dQ rfl rfl rfl (zf rfl rfl AV Tryz.underlying9 QM (by decide) hl) ⟨rfl,rfl,trivial⟩ fun v'=>?_
 refine f9 fun hv'=>?_
 refine aA rfl (aS rfl) ⟨rfl,trivial⟩ ?_
 refine aA rfl (aw rfl rE) ⟨rfl,trivial⟩ ?_
 refine bq 1 rfl ?_
 refine aZ rfl rfl (aR rfl jw hv' rfl rfl) ⟨rfl,rfl,trivial⟩ ?_
 refine ao ?_
 refine ae ?_
 show JC _ _ _ _ _
 refine ah ?_
 refine aa ?_
 refine av rfl rfl ?_
 refine aA rfl (mV rfl rfl Tryz.underlying9) ⟨rfl,trivial⟩ ?_
 refine dj rfl rfl ?_
 refine dG rfl ?_
 refine ao ?_
 refine ae ?_
 show JC _ _ _ _ _
 refine aC ?_
 exact aI v' [_,_] 2 ⟨rfl,rfl,trivial⟩ rfl
theorem MI:fB Tryz.prog 207 (Extern.BytealgMakeNoZero.makeNoZero #[3] #[160]):=.of Tryz.func207 (by kernel_rfl) (by kernel_rfl) (by kernel_rfl) (by kernel_rfl)
theorem MJ:ag Tryz.prog 188:=ag.of Tryz.func188 (by kernel_rfl) (by kernel_rfl)
def QO:Value→List D
 | .slice (some ⟨b,0,none⟩) m c=>[.sl (.slice (some ⟨b,0,none⟩) 0 c) 5 (.int .u8) []]
 |_=>[HI]
theorem Lt{v:Value}(h:∀d∈QO v,∃S w,d.holds S w):∃b m c,v= .slice (some ⟨b,0,none⟩) m c:=by
 unfold QO at h;split at h
 ·exact⟨_,_,_,rfl⟩
 ·obtain⟨S,w,hb⟩:=h HI (by simp);exact absurd hb zY
theorem N8:dC Tryz.prog 5 1 false:=⟨fun w=>by kernel_rfl,fun w=>by kernel_rfl⟩
theorem FC{b cap:Nat}:sliced (some ⟨b,0,none⟩) 0 (Int.toNat 0) cap 1= .slice (some ⟨b,0,none⟩) 0 cap:=Cf
abbrev AX(bc:Nat×Nat):Value:=.slice (some ⟨bc.1,0,none⟩) 0 bc.2
theorem ID{b n:Nat}{p:Value}(hn:n≤281474976710656):
 cd Tryz.prog 188 [.eq (bP b),.eq (.int .i64 n)] [.obj b 162 (bA p (.slice none 0 0))] (fun bc:Nat×Nat=>(bu [],[.obj b 162 (bA p (AX bc)),.sl (AX bc) 5 (.int .u8) []])):=by
 refine cd.of 30 Tryz.func188 rfl Tryz.ntmps188 rfl fun S w0=>?_
 have c1:ck (2 * ((0:Nat):Int))=some 0:=rfl
 have c2:ck (0+(n:Int))=some (n:Int):=by rw [Int.zero_add];unfold ck;rw [if_pos (by omega)]
 refine ah ?_
 refine lP ?_
 refine bV rfl rfl rfl (bz rfl) ⟨rfl,trivial⟩ ?_
 refine bV rfl rfl rfl (aS rfl) ⟨rfl,trivial⟩ ?_
 refine bV rfl rfl rfl (aw rfl rE) ⟨rfl,trivial⟩ ?_
 refine gd 0 rfl rfl rfl rfl (ak rfl jw (fun _=>rfl) rfl) ⟨rfl,trivial⟩ ?_
 refine bV rfl rfl rfl (Gj rfl rfl Tryz.underlying160) ⟨rfl,trivial⟩ ?_
 refine bV rfl rfl rfl (KU rfl c1) ⟨rfl,rfl,trivial⟩ ?_
 refine bV rfl rfl rfl (bz rfl) ⟨rfl,trivial⟩ ?_
 refine bV rfl rfl rfl (bg rfl c2) ⟨rfl,rfl,trivial⟩ ?_
 refine Dx QO (fun _=>rfl) rfl rfl rfl (F3 MI rfl rfl Tryz.underlying160 hn) ⟨rfl,trivial⟩ ?_
 refine bV rfl rfl rfl (bz rfl) ⟨rfl,trivial⟩ ?_
 refine bV rfl rfl rfl (aS rfl) ⟨rfl,trivial⟩ ?_
 refine bV rfl rfl rfl (aw rfl rE) ⟨rfl,trivial⟩ ?_
 refine gd 0 rfl rfl rfl rfl (ak rfl jw (fun _=>rfl) rfl) ⟨rfl,trivial⟩ ?_
 refine bV rfl rfl rfl (F8 rfl rfl Tryz.underlying160) ⟨rfl,trivial⟩ ?_
 refine qL 14 [true,true,true,true,true,true,true,true,true,true,true,true,true,true] [19,4] [] [] rfl (by kernel_rfl) (by kernel_rfl) (by kernel_rfl) qy (fun vs hv hB=>?_)
 obtain⟨u0,vs1,rfl,hv1⟩:=aD hv
 obtain⟨u1,vs2,rfl,hv2⟩:=aD hv1
 obtain⟨u2,vs3,rfl,hv3⟩:=aD hv2
 obtain⟨u3,vs4,rfl,hv4⟩:=aD hv3
 obtain⟨u4,vs5,rfl,hv5⟩:=aD hv4
 obtain⟨u5,vs6,rfl,hv6⟩:=aD hv5
 obtain⟨u6,vs7,rfl,hv7⟩:=aD hv6
 obtain⟨u7,vs8,rfl,hv8⟩:=aD hv7
 obtain⟨u8,vs9,rfl,hv9⟩:=aD hv8
 obtain⟨u9,vs10,rfl,hv10⟩:=aD hv9
 obtain⟨u10,vs11,rfl,hv11⟩:=aD hv10
 obtain⟨u11,vs12,rfl,hv12⟩:=aD hv11
 obtain⟨u12,vs13,rfl,hv13⟩:=aD hv12
 obtain⟨u13,vs14,rfl,hv14⟩:=aD hv13
 obtain rfl:=nz hv14
 obtain⟨g,m,q,rfl⟩:=Lt hB.2.2.2.2.2.2.2.2.1
 refine⟨[0,1],[.obj b 162 (bA p (.slice none 0 0)),.sl (AX (g,q)) 5 (.int .u8) []],by kernel_rfl,by decide,?_⟩
 refine tc rfl rfl rfl rfl (uK rfl Tryz.underlying160 N8 (Int.le_refl 0) (Int.natCast_nonneg _)) ⟨rfl,rfl,trivial⟩ (by kernel_rfl) ?_
 rw [FC]
 refine tc rfl rfl rfl rfl (kh rfl) ⟨rfl,trivial⟩ (by kernel_rfl) ?_
 refine vy ?_
 refine bM (SE.fin (Γ':=[(0,.eq (bP b)),(4,.eq (AX (g,q)))]) (Δ':=[.obj b 162 (bA p (.slice none 0 0)),.sl (AX (g,q)) 5 (.int .u8) []]) [0,1] ⟨rfl,rfl,trivial⟩ rfl) ?_
 refine ae ?_
 show JC _ _ _ _ _
 refine ah ?_
 refine aa ?_
 refine av rfl rfl ?_
 refine av rfl rfl ?_
 refine aA rfl (aS rfl) ⟨rfl,trivial⟩ ?_
 refine aA rfl (aw rfl rE) ⟨rfl,trivial⟩ ?_
 refine bU rfl rfl rfl (ak rfl jw (fun _=>rfl) rfl) ⟨rfl,trivial⟩ ?_
 refine aA rfl (IS rfl rfl Tryz.underlying160 N8) ⟨rfl,rfl,trivial⟩ ?_
 refine ao ?_
 refine ae ?_
 show JC _ _ _ _ _
 refine aa ?_
 refine av rfl rfl ?_
 refine av rfl rfl ?_
 refine aA rfl (aS rfl) ⟨rfl,trivial⟩ ?_
 refine aA rfl (aw rfl rE) ⟨rfl,trivial⟩ ?_
 refine aZ rfl rfl (aR rfl jw rfl rfl rfl) ⟨rfl,rfl,trivial⟩ ?_
 refine ao ?_
 refine iQ ?_
 exact aI (g,q) [] 2 trivial rfl
end Go.Proofs.YtcnpijmfgfnpiaaGreatDoor
set_option linter.unusedVariables false
set_option maxRecDepth 20000
set_option maxHeartbeats 4000000
namespace Go.Proofs.YtcnpijmfgfnpiaaGreatDoor
open K Go Go.Proofs Go.Extern
theorem FK{b n:Nat}(h0:0 < n)(hn:n≤281474976710656):
 cd Tryz.prog 153 [.eq (bP b),.eq (.int .i64 n)] [.obj b 162 (bA (.pointer none) (.slice none 0 0))] (fun bc:Nat×Nat=>(bu [],[.obj b 162 (bA (bP b) (AX bc)),.sl (AX bc) 5 (.int .u8) []])):=by
 refine cd.of 25 Tryz.func153 rfl Tryz.ntmps153 rfl fun S w0=>?_
 have c1:ck (((0:Nat):Int) - ((0:Nat):Int))=some 0:=rfl
 refine ah ?_
 refine aa ?_
 refine av rfl rfl ?_
 refine bU rfl rfl rfl (an [.tmp 4] rfl rfl BJ rfl (nn (.inl rfl) rfl)) ⟨rfl,trivial⟩ ?_
 refine ao ?_
 refine ae ?_
 show JC _ _ _ _ _
 refine ah ?_
 refine ah ?_
 refine aa ?_
 refine av rfl rfl ?_
 refine aA rfl (bv rfl) ⟨rfl,rfl,trivial⟩ ?_
 refine ao ?_
 refine ae ?_
 show JC _ _ _ _ _
 refine bi rfl (fun hb=>absurd (of_decide_eq_true hb) (by omega)) (fun hb=>?_)
 refine aU ?_
 refine ae ?_
 show JC _ _ _ _ _
 refine ah ?_
 refine cm ?_
 refine dp rfl rfl rfl (bz rfl) ⟨rfl,trivial⟩ ?_
 refine dp rfl rfl rfl (aS rfl) ⟨rfl,trivial⟩ ?_
 refine dp rfl rfl rfl (aw rfl rE) ⟨rfl,trivial⟩ ?_
 refine nL 0 rfl rfl rfl rfl (ak rfl jw (fun _=>rfl) rfl) ⟨rfl,trivial⟩ ?_
 refine dp rfl rfl rfl (Gj rfl rfl Tryz.underlying160) ⟨rfl,trivial⟩ ?_
 refine dp rfl rfl rfl (bz rfl) ⟨rfl,trivial⟩ ?_
 refine dp rfl rfl rfl (aS rfl) ⟨rfl,trivial⟩ ?_
 refine dp rfl rfl rfl (aw rfl rE) ⟨rfl,trivial⟩ ?_
 refine nL 0 rfl rfl rfl rfl (ak rfl jw (fun _=>rfl) rfl) ⟨rfl,trivial⟩ ?_
 refine dp rfl rfl rfl (F8 rfl rfl Tryz.underlying160) ⟨rfl,trivial⟩ ?_
 refine dp rfl rfl rfl (fN rfl c1) ⟨rfl,rfl,trivial⟩ ?_
 refine dp rfl rfl rfl (bz rfl) ⟨rfl,trivial⟩ ?_
 refine td (by kernel_rfl) qy ?_
 refine aA rfl (bv rfl) ⟨rfl,rfl,trivial⟩ ?_
 refine ao ?_
 refine ae ?_
 show JC _ _ _ _ _
 refine bi rfl (fun hb=>?_) (fun hb=>absurd (of_decide_eq_false hb) (by omega))
 refine aa ?_
 refine av rfl rfl ?_
 refine av rfl rfl ?_
 refine bB (Δ:=[_]) (F:=_) (fun _ _ _=>ar rfl _) rfl rfl (an [.tmp 22,.tmp 23] rfl rfl MJ rfl (ID hn)) ⟨rfl,rfl,trivial⟩ fun bc=>?_
 refine ao ?_
 refine iQ ?_
 exact aI bc [] 2 trivial rfl
theorem xk:dC Tryz.prog 9 1 false:=⟨fun w=>by kernel_rfl,fun w=>by kernel_rfl⟩
theorem MO:ag Tryz.prog 119:=ag.of Tryz.func119 (by kernel_rfl) (by kernel_rfl)
theorem Hz:ag Tryz.prog 120:=ag.of Tryz.func120 (by kernel_rfl) (by kernel_rfl)
theorem ML:ag Tryz.prog 153:=ag.of Tryz.func153 (by kernel_rfl) (by kernel_rfl)
theorem BI:ag Tryz.prog 154:=ag.of Tryz.func154 (by kernel_rfl) (by kernel_rfl)
theorem E2:∀w,(zeroValue 162).run Tryz.prog w= .ok (.agg #[.pointer none,.slice none 0 0]) w:=fun w=>by kernel_rfl
theorem HS:∀S w,(A.cells S w (bA (.pointer none) (.slice none 0 0)) (Value.cells (.agg #[.pointer none,.slice none 0 0])).toList):=fun _ _=>⟨[_],_,rfl,⟨rfl,rfl⟩,rfl,rfl⟩
def nm(ss:List ByteArray):Nat→Int×Int→Option Int
 |0,_=>none
 |n+1,y=>if y.1 < (ss.length:Int) then((bf ss y.1).bind fun s=>(ck ((9223372036854775807:Int) - y.2)).bind fun z=>if z < (s.size:Int) then none else(ck (y.2+(s.size:Int))).bind fun z2=>(ck (y.1+(1:Int))).bind fun z3=>nm ss n (z3,z2)) else some y.2
def lz(ss:List ByteArray)(sep:ByteArray):Nat→Int×List Int→Option (List Int)
 |0,_=>none
 |n+1,y=>if y.1 < (ss.length:Int) then((bf ss y.1).bind fun s=>if bX (y.2.length+sep.size)∧bX ((y.2++qY sep).length+s.size) then(ck (y.1+(1:Int))).bind fun z3=>lz ss sep n (z3,(y.2++qY sep)++qY s) else none) else some y.2
def tX(k:Nat)(ss:List ByteArray)(sep:ByteArray):Option ByteArray:=
 if sep.size=1∧bX ss.length then
  if(ss.length:Int)=(0:Int) then some .empty
  else if(ss.length:Int)=(1:Int) then bf ss 0
  else(nm ss k ((0:Int),(ss.length:Int) - 1)).bind fun n=>
   if 0 < n∧n≤281474976710656 then(bf ss 0).bind fun s=>if bX s.size then(lz (ss.drop 1) sep k ((0:Int),qY s)).bind fun l=>if l=[] then none else some (qg l) else none else none
 else none
theorem AW(k:Nat)(ss:List ByteArray)(sep:ByteArray)(r:ByteArray)(h:tX k ss sep=some r):
 cd Tryz.prog 121 [.rep (.slice .str) ss,.eq (.string sep)] [] (fun _:Unit=>(bu [.eq (.string r)],[])):=by
 unfold tX at h
 split at h
 case isFalse=>cases h
 rename_i hc
 obtain⟨hsep,hlen⟩:=hc
 unfold bX at hlen
 replace h:=a8 h
 refine cd.of 75 Tryz.func121 rfl Tryz.ntmps121 rfl fun S w0=>?_
 refine ah ?_
 refine aa ?_
 refine dG rfl ?_
 refine ao ?_
 refine ae ?_
 show JC _ _ _ _ _
 refine ah ?_
 refine ah ?_
 refine aa ?_
 refine av rfl rfl ?_
 refine aA rfl (jJ rfl rfl Tryz.underlying86) ⟨rfl,trivial⟩ ?_
 refine ao ?_
 refine ae ?_
 show JC _ _ _ _ _
 refine aj ?_
 refine ah ?_
 refine aa ?_
 refine aA rfl (ek rfl) ⟨rfl,rfl,trivial⟩ ?_
 refine dj rfl rfl ?_
 refine ao ?_
 refine ae ?_
 show JC _ _ _ _ _
 refine bi rfl (fun hb=>?_) (fun hb=>?_)
 ·
  replace h:=ct (m8 hb) h;refine ah ?_;refine aa ?_;refine dG rfl ?_;refine ao ?_;refine ae ?_;show JC _ _ _ _ _;refine aC ?_;refine bC ?_;refine aX ?_;obtain rfl:=Option.some.inj h;exact aI () [_] 0 ⟨rfl,trivial⟩ rfl
 replace h:=bL (mz hb) h
 have hne0:=mz hb
 refine ah ?_
 refine aa ?_
 refine aA rfl (ek rfl) ⟨rfl,rfl,trivial⟩ ?_
 refine dj rfl rfl ?_
 refine ao ?_
 refine ae ?_
 show JC _ _ _ _ _
 refine bi rfl (fun hb=>?_) (fun hb=>?_)
 ·
  replace h:=ct (m8 hb) h;have es:bf ss 0=some r:=by simpa using h
  refine ah ?_;refine aa ?_;refine av rfl rfl ?_;refine aA rfl (ba (t:=.str) rfl Tryz.underlying86 xk es) ⟨rfl,rfl,trivial⟩ ?_;refine aA rfl (au (t:=.str) rfl xk rfl) ⟨rfl,trivial⟩ ?_;refine dj rfl rfl ?_;refine ao ?_;refine ae ?_;show JC _ _ _ _ _;refine aC ?_;refine bC ?_;refine aX ?_;exact aI () [_] 0 ⟨rfl,trivial⟩ rfl
 replace h:=bL (mz hb) h
 have hne1:=mz hb
 refine aU ?_
 refine aJ ?_
 refine ae ?_
 show JC _ _ _ _ _
 refine ah ?_
 refine aa ?_
 refine dG rfl ?_
 refine ao ?_
 refine ae ?_
 show JC _ _ _ _ _
 refine ah ?_
 refine ah ?_
 refine aa ?_
 refine av rfl rfl ?_
 refine aA rfl (mV rfl rfl Tryz.underlying9) ⟨rfl,trivial⟩ ?_
 refine aA rfl (lD rfl) ⟨rfl,rfl,trivial⟩ ?_
 refine ao ?_
 refine ae ?_
 show JC _ _ _ _ _
 have c1:ck ((ss.length:Int) - 1)=some ((ss.length:Int) - 1):=by unfold ck;rw [if_pos (by omega)]
 have c2:ck ((sep.size:Int) * ((ss.length:Int) - 1))=some ((ss.length:Int) - 1):=by rw [hsep];simpa using c1
 have c3:ck (0+((ss.length:Int) - 1))=some ((ss.length:Int) - 1):=by rw [Int.zero_add];exact c1
 refine bi rfl (fun hb=>?_) (fun hb=>absurd (mz hb) (by omega))
 refine ah ?_
 refine ah ?_
 refine aa ?_
 refine av rfl rfl ?_
 refine aA rfl (mV rfl rfl Tryz.underlying9) ⟨rfl,trivial⟩ ?_
 refine av rfl rfl ?_
 refine aA rfl (jJ rfl rfl Tryz.underlying86) ⟨rfl,trivial⟩ ?_
 refine aA rfl (fN rfl c1) ⟨rfl,rfl,trivial⟩ ?_
 refine aA rfl (Oh rfl (by omega)) ⟨rfl,rfl,trivial⟩ ?_
 refine aA rfl (pT rfl) ⟨rfl,rfl,trivial⟩ ?_
 refine ao ?_
 refine ae ?_
 show JC _ _ _ _ _
 refine bi rfl (fun hb=>?_) (fun hb=>?_)
 ·
  exfalso;have h1:=m8 hb;have q1:(9223372036854775807:Int).tdiv ((ss.length:Int) - 1)=9223372036854775807 / ((ss.length:Int) - 1):=Int.tdiv_eq_ediv_of_nonneg (by omega);have q2:(2:Int)≤9223372036854775807 / ((ss.length:Int) - 1):=Int.le_ediv_of_mul_le (by omega) (by omega);have q3:(9223372036854775807:Int) / ((ss.length:Int) - 1)≤9223372036854775807:=Int.ediv_le_self _ (by omega);rw [q1,rK (z:=9223372036854775807 / ((ss.length:Int) - 1)) (by unfold ck;rw [if_pos (by omega)])] at h1;omega
 refine aU ?_
 refine ae ?_
 show JC _ _ _ _ _
 refine aa ?_
 refine av rfl rfl ?_
 refine av rfl rfl ?_
 refine aA rfl (mV rfl rfl Tryz.underlying9) ⟨rfl,trivial⟩ ?_
 refine av rfl rfl ?_
 refine aA rfl (jJ rfl rfl Tryz.underlying86) ⟨rfl,trivial⟩ ?_
 refine aA rfl (fN rfl c1) ⟨rfl,rfl,trivial⟩ ?_
 refine aA rfl (KU rfl c2) ⟨rfl,rfl,trivial⟩ ?_
 refine aA rfl (bg rfl c3) ⟨rfl,rfl,trivial⟩ ?_
 refine dj rfl rfl ?_
 refine ao ?_
 refine ae ?_
 show JC _ _ _ _ _
 rw [Option.bind_assoc] at h
 refine ah ?_
 refine ah ?_
 refine aa ?_
 refine av rfl rfl ?_
 refine aA rfl (jJ rfl rfl Tryz.underlying86) ⟨rfl,trivial⟩ ?_
 refine dX rfl ?_
 refine ao ?_
 refine ae ?_
 show JC _ _ _ _ _
 refine aj ?_
 refine aK (Z:=Unit) (α:=Int×Int) (fun _ y=>[(0,.rep (.slice .str) ss),(1,.eq (.string sep)),(5,.eq (.int .i64 y.2)),(39,.rep (.slice .str) ss),(40,.eq (.int .i64 (ss.length:Int))),(41,.eq (.int .i64 y.1))]) (fun _ _=>[]) (nm ss) k () ((0:Int),(ss.length:Int) - 1) (fun _=>rfl) h (SE.fin [] ⟨rfl,rfl,rfl,rfl,rfl,rfl,trivial⟩ rfl) (fun n z y h=>?_)
 unfold nm at h
 refine ah ?_
 refine aa ?_
 refine aA rfl (bv rfl) ⟨rfl,rfl,trivial⟩ ?_
 refine ao ?_
 refine ae ?_
 show JC _ _ _ _ _
 refine ah ?_
 refine bi rfl (fun hb=>?_) (fun hb=>?_)
 ·
  replace h:=ct (m8 hb) h;refine aU ?_;refine ae ?_;show JC _ _ _ _ _;refine ah ?_;refine aj ?_;refine ah ?_;refine aa ?_;obtain⟨s,es,h⟩:=ab h;refine aA rfl (ba (t:=.str) rfl Tryz.underlying86 xk es) ⟨rfl,rfl,trivial⟩ ?_;refine aA rfl (au (t:=.str) rfl xk rfl) ⟨rfl,trivial⟩ ?_;refine dj rfl rfl ?_;refine ao ?_;refine ae ?_;show JC _ _ _ _ _;refine ah ?_;refine ah ?_;refine aa ?_;refine av rfl rfl ?_;refine aA rfl (mV rfl rfl Tryz.underlying9) ⟨rfl,trivial⟩ ?_;refine av rfl rfl ?_;obtain⟨z,ez,h⟩:=ab h;refine aA rfl (fN rfl ez) ⟨rfl,rfl,trivial⟩ ?_;refine aA rfl (lD rfl) ⟨rfl,rfl,trivial⟩ ?_;refine ao ?_;refine ae ?_;show JC _ _ _ _ _;refine bi rfl (fun hb=>?_) (fun hb=>?_)
  ·replace h:=ct (m8 hb) h;cases h
  replace h:=bL (mz hb) h;refine aU ?_;refine ae ?_;show JC _ _ _ _ _;refine aa ?_;refine av rfl rfl ?_;refine av rfl rfl ?_;refine aA rfl (mV rfl rfl Tryz.underlying9) ⟨rfl,trivial⟩ ?_;obtain⟨z2,ez2,h⟩:=ab h;refine aA rfl (bg rfl ez2) ⟨rfl,rfl,trivial⟩ ?_;refine dj rfl rfl ?_;refine ao ?_;refine aJ ?_;refine ae ?_;show JC _ _ _ _ _;refine aa ?_;obtain⟨z3,ez3,h⟩:=ab h;refine aA rfl (bg rfl ez3) ⟨rfl,rfl,trivial⟩ ?_;refine av rfl rfl ?_;refine ao ?_;refine ae ?_;exact iy ((),(z3,z2)) h (SE.fin [] ⟨rfl,rfl,rfl,rfl,rfl,rfl,trivial⟩ rfl)
 replace h:=bL (mz hb) h
 refine dA ?_
 refine aM ?_
 refine aM ?_
 refine bR ?_
 refine ae ?_
 show JC _ _ _ _ _
 replace h:((if 0 < y.2∧y.2≤281474976710656 then(bf ss 0).bind fun s=>if bX s.size then(lz (ss.drop 1) sep k ((0:Int),qY s)).bind fun l=>if l=[] then none else some (qg l) else none else none):Option ByteArray).bind some=some r:=h
 obtain⟨y1,y2⟩:=y
 have hy:0 < y2∧y2≤281474976710656:=by
  apply Classical.byContradiction;intro hn;rw [if_neg hn] at h;cases h
 replace h:=ct hy h
 obtain⟨m,rfl⟩:=Int.eq_ofNat_of_zero_le (show 0≤y2 by omega)
 obtain⟨s0,es0,h⟩:=ab h
 have hs0:bX s0.size:=by
  apply Classical.byContradiction;intro hn;rw [if_neg hn] at h;cases h
 replace h:=ct hs0 h
 rw [Option.bind_assoc] at h
 refine ah ?_
 refine aa ?_
 refine ay rfl rfl rfl (aP rfl E2 HS) trivial fun b=>?_
 refine ao ?_
 refine ae ?_
 show JC _ _ _ _ _
 refine ah ?_
 refine aa ?_
 refine av rfl rfl ?_
 refine bB (Δ:=[_]) (F:=_) (fun _ _ _=>ar rfl _) rfl rfl (an [.tmp 8,.tmp 56] rfl rfl ML rfl (FK (b:=b) (n:=m) (by omega) (by omega))) ⟨rfl,rfl,trivial⟩ fun bc=>?_
 refine ao ?_
 refine ae ?_
 show JC _ _ _ _ _
 refine ah ?_
 refine aa ?_
 refine av rfl rfl ?_
 refine aA rfl (ba (t:=.str) rfl Tryz.underlying86 xk es0) ⟨rfl,rfl,trivial⟩ ?_
 refine aA rfl (au (t:=.str) rfl xk rfl) ⟨rfl,trivial⟩ ?_
 refine bB (Δ:=[_,_]) (F:=_) (fun _ _ _=>ar rfl _) rfl rfl (an [.tmp 8,.tmp 60] rfl rfl BI rfl (lA (b:=b) (p:=some ⟨b,0,none⟩) (v:=AX bc) (l:=[]) (s:=s0) (.inr rfl) rfl (by simpa using hs0))) ⟨rfl,rfl,trivial⟩ fun v0=>?_
 refine ao ?_
 refine ae ?_
 show JC _ _ _ _ _
 refine ah ?_
 refine ah ?_
 refine aa ?_
 refine av rfl rfl ?_
 refine aA rfl (Ec (t:=.str) rfl Tryz.underlying86 xk (by decide) (by omega)) ⟨rfl,rfl,trivial⟩ ?_
 refine aA rfl (jJ rfl rfl Tryz.underlying86) ⟨rfl,trivial⟩ ?_
 refine dX rfl ?_
 refine ao ?_
 refine ae ?_
 show JC _ _ _ _ _
 refine aj ?_
 refine aK (Z:=Value) (α:=Int×List Int) (fun _ y=>[(1,.eq (.string sep)),(8,.eq (bP b)),(63,.rep (.slice .str) (ss.drop 1)),(64,.eq (.int .i64 ((ss.drop 1).length:Int))),(65,.eq (.int .i64 y.1))]) (fun v y=>[.obj b 162 (bA (bP b) v),.sl v 5 (.int .u8) y.2]) (lz (ss.drop 1) sep) k v0 ((0:Int),qY s0) (fun _=>rfl) h (SE.fin [0,1] ⟨rfl,rfl,rfl,rfl,rfl,trivial⟩ rfl) (fun n v y h=>?_)
 unfold lz at h
 refine ah ?_
 refine aa ?_
 refine aA rfl (bv rfl) ⟨rfl,rfl,trivial⟩ ?_
 refine ao ?_
 refine ae ?_
 show JC _ _ _ _ _
 refine ah ?_
 refine bi rfl (fun hb=>?_) (fun hb=>?_)
 ·
  replace h:=ct (m8 hb) h;refine aU ?_;refine ae ?_;show JC _ _ _ _ _;refine ah ?_;refine aj ?_;refine ah ?_;refine aa ?_;obtain⟨s,es,h⟩:=ab h;refine aA rfl (ba (t:=.str) rfl Tryz.underlying86 xk es) ⟨rfl,rfl,trivial⟩ ?_;refine aA rfl (au (t:=.str) rfl xk rfl) ⟨rfl,trivial⟩ ?_;refine dj rfl rfl ?_;refine ao ?_;refine ae ?_;show JC _ _ _ _ _
  have hk:bX (y.2.length+sep.size)∧bX ((y.2++qY sep).length+s.size):=by
   apply Classical.byContradiction;intro hn;rw [if_neg hn] at h;cases h
  replace h:=ct hk h;refine vz 1 rfl fun hv=>?_;refine ah ?_;refine aa ?_;refine av rfl rfl ?_;refine bB (Δ:=[_,_]) (F:=_) (fun _ _ _=>ar rfl _) rfl rfl (an [.tmp 8,.tmp 69] rfl rfl BI rfl (lA (b:=b) (p:=some ⟨b,0,none⟩) (s:=sep) (.inr rfl) hv hk.1)) ⟨rfl,rfl,trivial⟩ fun v1=>?_;refine ao ?_;refine ae ?_;show JC _ _ _ _ _;refine vz 1 rfl fun hv1=>?_;refine aa ?_;refine av rfl rfl ?_;refine bB (Δ:=[_,_]) (F:=_) (fun _ _ _=>ar rfl _) rfl rfl (an [.tmp 8,.tmp 71] rfl rfl BI rfl (lA (b:=b) (p:=some ⟨b,0,none⟩) (s:=s) (.inr rfl) hv1 hk.2)) ⟨rfl,rfl,trivial⟩ fun v2=>?_;refine ao ?_;refine aJ ?_;refine ae ?_;show JC _ _ _ _ _;refine aa ?_;obtain⟨z3,ez3,h⟩:=ab h;refine aA rfl (bg rfl ez3) ⟨rfl,rfl,trivial⟩ ?_;refine av rfl rfl ?_;refine ao ?_;refine ae ?_;exact iy (v2,(z3,(y.2++qY sep)++qY s)) h (SE.fin [0,1] ⟨rfl,rfl,rfl,rfl,rfl,trivial⟩ rfl)
 replace h:=bL (mz hb) h
 refine dA ?_
 refine aM ?_
 refine aM ?_
 refine bR ?_
 refine ae ?_
 show JC _ _ _ _ _
 replace h:(if y.2=[] then none else some (qg y.2):Option ByteArray).bind some=some r:=h
 have hy2:y.2≠[]:=by
  intro hn;rw [if_pos hn] at h;cases h
 rw [if_neg hy2] at h
 obtain rfl:=Option.some.inj h
 refine ah ?_
 refine aa ?_
 refine bB (Δ:=[_,_]) (F:=_) (fun _ _ _=>ar rfl _) rfl rfl (an [.tmp 8] rfl rfl Hz rfl (wd (b:=b) (fun hn=>absurd hn hy2))) ⟨rfl,trivial⟩ fun _=>?_
 refine dj rfl rfl ?_
 refine ao ?_
 refine ae ?_
 show JC _ _ _ _ _
 refine aC ?_
 exact aI () [_] 0 ⟨rfl,trivial⟩ rfl
end Go.Proofs.YtcnpijmfgfnpiaaGreatDoor
