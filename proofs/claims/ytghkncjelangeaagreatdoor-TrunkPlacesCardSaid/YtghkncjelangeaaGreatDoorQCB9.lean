import Derived.Test.YtghkncjelangeaaGreatDoorQCB5
import Derived.Test.YtghkncjelangeaaGreatDoorProg
import Derived.Stop.Asserts
set_option linter.unusedSimpArgs false
set_option linter.unusedVariables false
set_option maxRecDepth 20000
set_option maxHeartbeats 4000000
namespace Go.Proofs.YtghkncjelangeaaGreatDoor
open K Go Go.Proofs Go.Extern
theorem Bn:dS Tryz.prog 144 1 false:=⟨fun w=>by kernel_rfl,fun w=>by kernel_rfl⟩
theorem j0:dS Tryz.prog 145 1 false:=⟨fun w=>by kernel_rfl,fun w=>by kernel_rfl⟩
theorem Nj:a9 Tryz.prog 147 0 0:=a9.of (by kernel_rfl)
theorem so:a9 Tryz.prog 147 1 1:=a9.of (by kernel_rfl)
theorem Bq:mn Tryz.prog 145 5 1 1:=.of (z:=(.int .u8 (0))) Tryz.underlying145 (by kernel_rfl) rfl rfl rfl
theorem Nz:gd Tryz.prog 159 Extern.AbiNoEscape.same:=.of Tryz.func159 (by kernel_rfl) (by kernel_rfl) (by kernel_rfl) (by kernel_rfl)
theorem CM:ag Tryz.prog 125:=ag.of Tryz.func125 (by kernel_rfl) (by kernel_rfl)
theorem NC:ag Tryz.prog 126:=ag.of Tryz.func126 (by kernel_rfl) (by kernel_rfl)
@[reducible] def bA(p v:Value):A:=.agg (.pair (.eq p) (.eq v))
abbrev bP(b:Nat):Value:=.pointer (some ⟨b,0,none⟩)
theorem vt{p:Option Addr}:Ns Tryz.prog (binOp .eql 144 (.pointer p) (.pointer none)):=by
 cases p with
 |none=>exact oG (by kernel_rfl)
 |some p=>exact oG (by kernel_rfl)
theorem EH{p:Option Addr}{x y:Operand}(w:World):(do eqGuard .eql 144 x y (.pointer p) (.pointer none);binOp .eql 144 (.pointer p) (.pointer none):Sem Value).run Tryz.prog w= .ok (.bool p.isNone) w:=by
 cases p <;> kernel_rfl
theorem BY{p:Addr}:Ns Tryz.prog (binOp .neq 144 (.pointer (some p)) (.pointer (some p))):=by
 refine ai (s:=Op.equal 144 (.pointer (some p)) (.pointer (some p))) ?_ fun _=>bD;show Ns Tryz.prog (Op.equalIn (9999+1) 144 (.pointer (some p)) (.pointer (some p)));unfold Op.equalIn;refine cS Tryz.underlying144 (ai cX fun n=>tj ?_ (tj bD (ai fR fun _=>bD)));unfold sameAddr;simp only [beq_self_eq_true,if_true];exact bD
theorem MY:∃j,Tryz.prog.info? 147=some j∧j.size≠0:=by
 obtain⟨j,h1,h2⟩:=Option.map_eq_some_iff.1 (show(Tryz.prog.info? 147).map (·.size)=some 2 by kernel_rfl);exact⟨j,h1,by omega⟩
theorem nV{b:Nat}{p:Option Addr}{v:Value}(hp:p=none∨p=some ⟨b,0,none⟩)(hv:bC v=true):bX Tryz.prog 125 [.eq (bP b)] [.obj b 147 (bA (.pointer p) v)] (fun _:Unit=>(bq [],[.obj b 147 (bA (bP b) v)])):=by
 obtain⟨j162,inf162_eq,inf162_sz⟩:=MY;refine bX.of 20 Tryz.func125 rfl Tryz.ntmps125 rfl fun S w0=>?_;refine ae ?_;refine ab ?_;refine aB rfl rfl ?_;refine aE rfl (ba rfl) ⟨rfl,trivial⟩ ?_;refine aE rfl (ar rfl Nj) ⟨rfl,trivial⟩ ?_;refine bY rfl rfl rfl (aj rfl Bn (fun _=>rfl) rfl) ⟨rfl,trivial⟩ ?_;refine aE rfl (iS rfl EH vt) ⟨rfl,rfl,trivial⟩ ?_;refine au ?_;refine ah ?_;show JC _ _ _ _ _;refine bK rfl (fun hb=>?_) (fun hb=>?_)
 ·refine ab ?_;refine aB rfl rfl ?_;refine aB rfl rfl ?_;refine bY rfl rfl rfl (BM rfl Tryz.underlying144 Tryz.underlying163 inf162_eq inf162_sz rfl) ⟨rfl,trivial⟩ ?_;refine aE rfl (He Nz [.tmp 9] [bP b] rfl rfl rfl (fun _=>rfl) bD) ⟨rfl,trivial⟩ ?_;refine bY rfl rfl rfl (yf rfl Tryz.underlying163 Tryz.underlying144 inf162_eq (by kernel_rfl)) ⟨rfl,trivial⟩ ?_;refine aE rfl (ba rfl) ⟨rfl,trivial⟩ ?_;refine aE rfl (ar rfl Nj) ⟨rfl,trivial⟩ ?_;refine bh rfl rfl (bb rfl Bn rfl rfl rfl) ⟨rfl,rfl,trivial⟩ ?_;refine au ?_;refine jw ?_;exact aL () [] 1 trivial rfl
 ·have hp':p=some ⟨b,0,none⟩:=by
   rcases hp with rfl |rfl
   ·cases hb
   ·rfl
  subst hp';refine ae ?_;refine ab ?_;refine aB rfl rfl ?_;refine aE rfl (ba rfl) ⟨rfl,trivial⟩ ?_;refine aE rfl (ar rfl Nj) ⟨rfl,trivial⟩ ?_;refine bY rfl rfl rfl (aj rfl Bn (fun _=>rfl) rfl) ⟨rfl,trivial⟩ ?_;refine aB rfl rfl ?_;refine aE rfl (G5 rfl Tryz.underlying144 inf162_eq BY) ⟨rfl,rfl,trivial⟩ ?_;refine au ?_;refine ah ?_;show JC _ _ _ _ _;refine bK rfl (fun hb=>(by cases hb)) (fun hb=>?_);refine aW ?_;refine jw ?_;exact aL () [] 1 trivial rfl
theorem wo{v:Value}{l:List Int}{r:Int}(h0:0≤r)(h1:r≤127)(hl:bQ (l.length+1)):bX Tryz.prog 126 [.eq v,.eq (.int .i32 r)] [.sl v 5 (.int .u8) l] (fun v':Value=>(bq [.eq v'],[.sl v' 5 (.int .u8) (l++[r])])):=by
 refine bX.of 16 Tryz.func126 rfl Tryz.ntmps126 rfl fun S w0=>?_;have w32:IntKind.u32.wrap r=r:=by simp [IntKind.wrap,IntKind.bits,IntKind.signed];omega
 have w8:IntKind.u8.wrap r=r:=by simp [IntKind.wrap,IntKind.bits,IntKind.signed];omega
 refine ae ?_;refine ab ?_;refine dM rfl ?_;refine au ?_;refine ah ?_;show JC _ _ _ _ _;refine ae ?_;refine ae ?_;refine ab ?_;refine aB rfl rfl ?_;refine aE rfl (pg rfl Tryz.underlying21 Tryz.underlying185) ⟨rfl,trivial⟩ ?_;rw [w32];refine aE rfl (vp rfl) ⟨rfl,rfl,trivial⟩ ?_;refine au ?_;refine ah ?_;show JC _ _ _ _ _;refine bK rfl (fun hb=>?_) (fun hb=>absurd h1 (by simpa using hb));refine ae ?_;refine ab ?_;refine aB rfl rfl ?_;refine aB rfl rfl ?_;refine aE rfl (pg rfl Tryz.underlying21 Tryz.underlying5) ⟨rfl,trivial⟩ ?_;rw [w8];refine aE rfl (bj (t:=(.int .u8)) [(.tmp 10,.eq (.int .u8 r))] [r] rfl rfl Bq (.cons rfl .int .nil) rfl rfl) ⟨rfl,trivial⟩ ?_;refine c6 rfl rfl rfl (bI rfl rfl Bq (by simpa using hl)) ⟨rfl,rfl,trivial⟩ fun v'=>?_;refine dk rfl rfl ?_;refine au ?_;refine ah ?_;show JC _ _ _ _ _;refine ay ?_;refine aV ?_;exact aL v' [_] 1 ⟨rfl,trivial⟩ rfl
theorem xT{b:Nat}{p:Option Addr}{v:Value}{l:List Int}{r:Int}(hp:p=none∨p=some ⟨b,0,none⟩)(hv:bC v=true)(h0:0≤r)(h1:r≤127)(hl:bQ (l.length+1)):
 bX Tryz.prog 91 [.eq (bP b),.eq (.int .i32 r)] [.obj b 147 (bA (.pointer p) v),.sl v 5 (.int .u8) l]
  (fun v':Value=>(bq [.eq (.int .i64 1),.eq .nilIface],[.obj b 147 (bA (bP b) v'),.sl v' 5 (.int .u8) (l++[r])])):=by
 refine bX.of 30 Tryz.func91 rfl Tryz.ntmps91 rfl fun S w0=>?_
 refine ae ?_
 refine ab ?_
 refine dM rfl ?_
 refine dM rfl ?_
 refine au ?_
 refine ah ?_
 show JC _ _ _ _ _
 refine ae ?_
 refine ab ?_
 refine aB rfl rfl ?_
 refine bY rfl rfl rfl (ap [.tmp 7] rfl rfl CM rfl (nV hp hv)) ⟨rfl,trivial⟩ ?_
 refine au ?_
 refine ah ?_
 show JC _ _ _ _ _
 refine ae ?_
 refine ab ?_
 refine aB rfl rfl ?_
 refine aE rfl (ba rfl) ⟨rfl,trivial⟩ ?_
 refine aE rfl (ar rfl so) ⟨rfl,trivial⟩ ?_
 refine bY rfl rfl rfl (aj rfl j0 (fun _=>rfl) rfl) ⟨rfl,trivial⟩ ?_
 refine bJ 1 rfl ?_
 refine bY rfl rfl rfl (dh rfl rfl Tryz.underlying145) ⟨rfl,trivial⟩ ?_
 refine dk rfl rfl ?_
 refine au ?_
 refine ah ?_
 show JC _ _ _ _ _
 refine ae ?_
 refine ab ?_
 refine aB rfl rfl ?_
 refine aB rfl rfl ?_
 refine aE rfl (ba rfl) ⟨rfl,trivial⟩ ?_
 refine aE rfl (ar rfl so) ⟨rfl,trivial⟩ ?_
 refine bJ 1 rfl ?_
 refine bY rfl rfl rfl (aj rfl j0 (fun _=>rfl) rfl) ⟨rfl,trivial⟩ ?_
 refine aB rfl rfl ?_
 refine bJ 1 rfl ?_
 refine c6 rfl rfl rfl (ap [.tmp 18,.tmp 19] rfl rfl NC rfl (wo h0 h1 hl)) ⟨rfl,rfl,trivial⟩ fun v'=>?_
 refine fG fun hv'=>?_
 refine aE rfl (ba rfl) ⟨rfl,trivial⟩ ?_
 refine aE rfl (ar rfl so) ⟨rfl,trivial⟩ ?_
 refine bJ 1 rfl ?_
 refine bh rfl rfl (bb rfl j0 hv' rfl rfl) ⟨rfl,rfl,trivial⟩ ?_
 refine au ?_
 refine ah ?_
 show JC _ _ _ _ _
 refine ae ?_
 refine ab ?_
 refine aB rfl rfl ?_
 refine aE rfl (ba rfl) ⟨rfl,trivial⟩ ?_
 refine aE rfl (ar rfl so) ⟨rfl,trivial⟩ ?_
 refine bY rfl rfl rfl (aj rfl j0 (fun _=>rfl) rfl) ⟨rfl,trivial⟩ ?_
 refine bJ 1 rfl ?_
 refine bY rfl rfl rfl (dh rfl rfl Tryz.underlying145) ⟨rfl,trivial⟩ ?_
 refine aB rfl rfl ?_
 have hck:ck (((l++[r]).length:Int) - (l.length:Int))=some 1:=by
  have:(((l++[r]).length:Int) - (l.length:Int))=1:=by simp;omega
  rw [this];rfl
 refine aE rfl (eK rfl hck) ⟨rfl,rfl,trivial⟩ ?_
 refine dk rfl rfl ?_
 refine dM rfl ?_
 refine au ?_
 refine ah ?_
 show JC _ _ _ _ _
 refine ay ?_
 refine bu (SE.fin (Γ':=[(4,_),(5,_)]) [1,0] ⟨rfl,rfl,trivial⟩ rfl) ?_
 exact aL v' [_,_] 2 ⟨rfl,rfl,trivial⟩ rfl
theorem Tj:Tryz.prog.cellsOf 5=1:=by kernel_rfl
theorem qZ:Tryz.prog.follows .mixedOrders=true:=by kernel_rfl
theorem wP{b:Nat}{p v:Value}{l:List Int}(hl:l=[]→v= .slice none 0 0):
 bX Tryz.prog 92 [.eq (bP b)] [.obj b 147 (bA p v),.sl v 5 (.int .u8) l] (fun _:Unit=>(bq [.eq (.string (qM l))],[])):=by
 refine bX.of 14 Tryz.func92 rfl Tryz.ntmps92 rfl fun S w0=>?_
 refine ae ?_
 refine ab ?_
 refine dM rfl ?_
 refine au ?_
 refine ah ?_
 show JC _ _ _ _ _
 refine ae ?_
 refine bz ?_
 refine dt rfl rfl rfl (aH rfl) ⟨rfl,trivial⟩ ?_
 refine dt rfl rfl rfl (ba rfl) ⟨rfl,trivial⟩ ?_
 refine dt rfl rfl rfl (ar rfl so) ⟨rfl,trivial⟩ ?_
 refine m6 0 rfl rfl rfl rfl (aj rfl j0 (fun _=>rfl) rfl) ⟨rfl,trivial⟩ ?_
 refine m6 1 rfl rfl rfl rfl (zG rfl rfl hl) ⟨rfl,trivial⟩ ?_
 refine dt rfl rfl rfl (aH rfl) ⟨rfl,trivial⟩ ?_
 refine dt rfl rfl rfl (ba rfl) ⟨rfl,trivial⟩ ?_
 refine dt rfl rfl rfl (ar rfl so) ⟨rfl,trivial⟩ ?_
 refine m6 0 rfl rfl rfl rfl (aj rfl j0 (fun _=>rfl) rfl) ⟨rfl,trivial⟩ ?_
 refine m6 1 rfl rfl rfl rfl (dh rfl rfl Tryz.underlying145) ⟨rfl,trivial⟩ ?_
 refine tX (by kernel_rfl) qZ ?_
 refine bJ 1 rfl ?_
 refine bS (Δ:=[_]) (F:=_) (fun _ _ _=>ax rfl _) rfl rfl (vj rfl rfl Tryz.underlying199 Tj hl) ⟨rfl,rfl,trivial⟩ fun _=>?_
 refine dk rfl rfl ?_
 refine au ?_
 refine ah ?_
 show JC _ _ _ _ _
 refine ay ?_
 exact aL () [_] 0 ⟨rfl,trivial⟩ rfl
theorem Ru:(Tryz.prog.info? 5).bind (·.zero)=some (.int .u8 0):=by kernel_rfl
theorem l7{b:Nat}{p:Option Addr}{v:Value}{l:List Int}{s:ByteArray}(hp:p=none∨p=some ⟨b,0,none⟩)(hv:bC v=true)(hl:bQ (l.length+s.size)):
 bX Tryz.prog 128 [.eq (bP b),.eq (.string s)] [.obj b 147 (bA (.pointer p) v),.sl v 5 (.int .u8) l]
  (fun v':Value=>(bq [.eq (.int .i64 s.size),.eq .nilIface],[.obj b 147 (bA (bP b) v'),.sl v' 5 (.int .u8) (l++rI s)])):=by
 refine bX.of 19 Tryz.func128 rfl Tryz.ntmps128 rfl fun S w0=>?_
 refine ae ?_
 refine ab ?_
 refine dM rfl ?_
 refine dM rfl ?_
 refine au ?_
 refine ah ?_
 show JC _ _ _ _ _
 refine ae ?_
 refine ab ?_
 refine aB rfl rfl ?_
 refine bY rfl rfl rfl (ap [.tmp 6] rfl rfl CM rfl (nV hp hv)) ⟨rfl,trivial⟩ ?_
 refine au ?_
 refine ah ?_
 show JC _ _ _ _ _
 refine ae ?_
 refine ab ?_
 refine aB rfl rfl ?_
 refine aB rfl rfl ?_
 refine aE rfl (ba rfl) ⟨rfl,trivial⟩ ?_
 refine aE rfl (ar rfl so) ⟨rfl,trivial⟩ ?_
 refine bY rfl rfl rfl (aj rfl j0 (fun _=>rfl) rfl) ⟨rfl,trivial⟩ ?_
 refine aB rfl rfl ?_
 refine bJ 1 rfl ?_
 refine c6 rfl rfl rfl (zN rfl rfl Bq Tryz.underlying9 Ru (by decide) hl) ⟨rfl,rfl,trivial⟩ fun v'=>?_
 refine fG fun hv'=>?_
 refine aE rfl (ba rfl) ⟨rfl,trivial⟩ ?_
 refine aE rfl (ar rfl so) ⟨rfl,trivial⟩ ?_
 refine bJ 1 rfl ?_
 refine bh rfl rfl (bb rfl j0 hv' rfl rfl) ⟨rfl,rfl,trivial⟩ ?_
 refine au ?_
 refine ah ?_
 show JC _ _ _ _ _
 refine ae ?_
 refine ab ?_
 refine aB rfl rfl ?_
 refine aE rfl (nr rfl rfl Tryz.underlying9) ⟨rfl,trivial⟩ ?_
 refine dk rfl rfl ?_
 refine dM rfl ?_
 refine au ?_
 refine ah ?_
 show JC _ _ _ _ _
 refine ay ?_
 exact aL v' [_,_] 2 ⟨rfl,rfl,trivial⟩ rfl
theorem Nw:gd Tryz.prog 179 (Extern.BytealgMakeNoZero.makeNoZero #[3] #[145]):=.of Tryz.func179 (by kernel_rfl) (by kernel_rfl) (by kernel_rfl) (by kernel_rfl)
theorem Ny:ag Tryz.prog 161:=ag.of Tryz.func161 (by kernel_rfl) (by kernel_rfl)
def Rx:Value→List D
 | .slice (some ⟨b,0,none⟩) m c=>[.sl (.slice (some ⟨b,0,none⟩) 0 c) 5 (.int .u8) []]
 |_=>[IC]
theorem MF{v:Value}(h:∀d∈Rx v,∃S w,d.holds S w):∃b m c,v= .slice (some ⟨b,0,none⟩) m c:=by
 unfold Rx at h;split at h
 ·exact⟨_,_,_,rfl⟩
 ·obtain⟨S,w,hb⟩:=h IC (by simp);exact absurd hb AC
theorem OP:dS Tryz.prog 5 1 false:=⟨fun w=>by kernel_rfl,fun w=>by kernel_rfl⟩
theorem Gy{b cap:Nat}:sliced (some ⟨b,0,none⟩) 0 (Int.toNat 0) cap 1= .slice (some ⟨b,0,none⟩) 0 cap:=Dk
abbrev Bt(bc:Nat×Nat):Value:=.slice (some ⟨bc.1,0,none⟩) 0 bc.2
theorem JB{b n:Nat}{p:Value}(hn:n≤281474976710656):
 bX Tryz.prog 161 [.eq (bP b),.eq (.int .i64 n)] [.obj b 147 (bA p (.slice none 0 0))] (fun bc:Nat×Nat=>(bq [],[.obj b 147 (bA p (Bt bc)),.sl (Bt bc) 5 (.int .u8) []])):=by
 refine bX.of 30 Tryz.func161 rfl Tryz.ntmps161 rfl fun S w0=>?_
 have c1:ck (2 * ((0:Nat):Int))=some 0:=rfl
 have c2:ck (0+(n:Int))=some (n:Int):=by rw [Int.zero_add];unfold ck;rw [if_pos (by omega)]
 refine ae ?_
 refine jy ?_
 refine aI rfl rfl rfl (aH rfl) ⟨rfl,trivial⟩ ?_
 refine aI rfl rfl rfl (ba rfl) ⟨rfl,trivial⟩ ?_
 refine aI rfl rfl rfl (ar rfl so) ⟨rfl,trivial⟩ ?_
 refine dp 0 rfl rfl rfl rfl (aj rfl j0 (fun _=>rfl) rfl) ⟨rfl,trivial⟩ ?_
 refine aI rfl rfl rfl (Hg rfl rfl Tryz.underlying145) ⟨rfl,trivial⟩ ?_
 refine aI rfl rfl rfl (LP rfl c1) ⟨rfl,rfl,trivial⟩ ?_
 refine aI rfl rfl rfl (aH rfl) ⟨rfl,trivial⟩ ?_
 refine aI rfl rfl rfl (bf rfl c2) ⟨rfl,rfl,trivial⟩ ?_
 refine uF Rx (fun _=>rfl) rfl rfl rfl (G4 Nw rfl rfl Tryz.underlying145 hn) ⟨rfl,trivial⟩ ?_
 refine aI rfl rfl rfl (aH rfl) ⟨rfl,trivial⟩ ?_
 refine aI rfl rfl rfl (ba rfl) ⟨rfl,trivial⟩ ?_
 refine aI rfl rfl rfl (ar rfl so) ⟨rfl,trivial⟩ ?_
 refine dp 0 rfl rfl rfl rfl (aj rfl j0 (fun _=>rfl) rfl) ⟨rfl,trivial⟩ ?_
 refine aI rfl rfl rfl (G7 rfl rfl Tryz.underlying145) ⟨rfl,trivial⟩ ?_
 refine my 14 [true,true,true,true,true,true,true,true,true,true,true,true,true,true] [19,4] [] [] rfl (by kernel_rfl) (by kernel_rfl) (by kernel_rfl) qZ (fun vs hv hB=>?_)
 obtain⟨u0,vs1,rfl,hv1⟩:=an hv
 obtain⟨u1,vs2,rfl,hv2⟩:=an hv1
 obtain⟨u2,vs3,rfl,hv3⟩:=an hv2
 obtain⟨u3,vs4,rfl,hv4⟩:=an hv3
 obtain⟨u4,vs5,rfl,hv5⟩:=an hv4
 obtain⟨u5,vs6,rfl,hv6⟩:=an hv5
 obtain⟨u6,vs7,rfl,hv7⟩:=an hv6
 obtain⟨u7,vs8,rfl,hv8⟩:=an hv7
 obtain⟨u8,vs9,rfl,hv9⟩:=an hv8
 obtain⟨u9,vs10,rfl,hv10⟩:=an hv9
 obtain⟨u10,vs11,rfl,hv11⟩:=an hv10
 obtain⟨u11,vs12,rfl,hv12⟩:=an hv11
 obtain⟨u12,vs13,rfl,hv13⟩:=an hv12
 obtain⟨u13,vs14,rfl,hv14⟩:=an hv13
 obtain rfl:=kl hv14
 obtain⟨g,m,q,rfl⟩:=MF hB.2.2.2.2.2.2.2.2.1
 refine⟨[0,1],[.obj b 147 (bA p (.slice none 0 0)),.sl (Bt (g,q)) 5 (.int .u8) []],by kernel_rfl,by decide,?_⟩
 refine pI rfl rfl rfl rfl (vk rfl Tryz.underlying145 OP (Int.le_refl 0) (Int.natCast_nonneg _)) ⟨rfl,rfl,trivial⟩ (by kernel_rfl) ?_
 rw [Gy]
 refine pI rfl rfl rfl rfl (dV rfl) ⟨rfl,trivial⟩ (by kernel_rfl) ?_
 refine pJ ?_
 refine bu (SE.fin (Γ':=[(0,.eq (bP b)),(4,.eq (Bt (g,q)))]) (Δ':=[.obj b 147 (bA p (.slice none 0 0)),.sl (Bt (g,q)) 5 (.int .u8) []]) [0,1] ⟨rfl,rfl,trivial⟩ rfl) ?_
 refine ah ?_
 show JC _ _ _ _ _
 refine ae ?_
 refine ab ?_
 refine aB rfl rfl ?_
 refine aB rfl rfl ?_
 refine aE rfl (ba rfl) ⟨rfl,trivial⟩ ?_
 refine aE rfl (ar rfl so) ⟨rfl,trivial⟩ ?_
 refine bY rfl rfl rfl (aj rfl j0 (fun _=>rfl) rfl) ⟨rfl,trivial⟩ ?_
 refine aE rfl (JQ rfl rfl Tryz.underlying145 OP) ⟨rfl,rfl,trivial⟩ ?_
 refine au ?_
 refine ah ?_
 show JC _ _ _ _ _
 refine ab ?_
 refine aB rfl rfl ?_
 refine aB rfl rfl ?_
 refine aE rfl (ba rfl) ⟨rfl,trivial⟩ ?_
 refine aE rfl (ar rfl so) ⟨rfl,trivial⟩ ?_
 refine bh rfl rfl (bb rfl j0 rfl rfl rfl) ⟨rfl,rfl,trivial⟩ ?_
 refine au ?_
 refine jw ?_
 exact aL (g,q) [] 2 trivial rfl
end Go.Proofs.YtghkncjelangeaaGreatDoor
set_option linter.unusedVariables false
set_option maxRecDepth 20000
set_option maxHeartbeats 4000000
namespace Go.Proofs.YtghkncjelangeaaGreatDoor
open K Go Go.Proofs Go.Extern
theorem GG{b n:Nat}(h0:0 < n)(hn:n≤281474976710656):
 bX Tryz.prog 127 [.eq (bP b),.eq (.int .i64 n)] [.obj b 147 (bA (.pointer none) (.slice none 0 0))] (fun bc:Nat×Nat=>(bq [],[.obj b 147 (bA (bP b) (Bt bc)),.sl (Bt bc) 5 (.int .u8) []])):=by
 refine bX.of 25 Tryz.func127 rfl Tryz.ntmps127 rfl fun S w0=>?_
 have c1:ck (((0:Nat):Int) - ((0:Nat):Int))=some 0:=rfl
 refine ae ?_
 refine ab ?_
 refine aB rfl rfl ?_
 refine bY rfl rfl rfl (ap [.tmp 4] rfl rfl CM rfl (nV (.inl rfl) rfl)) ⟨rfl,trivial⟩ ?_
 refine au ?_
 refine ah ?_
 show JC _ _ _ _ _
 refine ae ?_
 refine ae ?_
 refine ab ?_
 refine aB rfl rfl ?_
 refine aE rfl (bp rfl) ⟨rfl,rfl,trivial⟩ ?_
 refine au ?_
 refine ah ?_
 show JC _ _ _ _ _
 refine bK rfl (fun hb=>absurd (of_decide_eq_true hb) (by omega)) (fun hb=>?_)
 refine aW ?_
 refine ah ?_
 show JC _ _ _ _ _
 refine ae ?_
 refine bz ?_
 refine dt rfl rfl rfl (aH rfl) ⟨rfl,trivial⟩ ?_
 refine dt rfl rfl rfl (ba rfl) ⟨rfl,trivial⟩ ?_
 refine dt rfl rfl rfl (ar rfl so) ⟨rfl,trivial⟩ ?_
 refine m6 0 rfl rfl rfl rfl (aj rfl j0 (fun _=>rfl) rfl) ⟨rfl,trivial⟩ ?_
 refine dt rfl rfl rfl (Hg rfl rfl Tryz.underlying145) ⟨rfl,trivial⟩ ?_
 refine dt rfl rfl rfl (aH rfl) ⟨rfl,trivial⟩ ?_
 refine dt rfl rfl rfl (ba rfl) ⟨rfl,trivial⟩ ?_
 refine dt rfl rfl rfl (ar rfl so) ⟨rfl,trivial⟩ ?_
 refine m6 0 rfl rfl rfl rfl (aj rfl j0 (fun _=>rfl) rfl) ⟨rfl,trivial⟩ ?_
 refine dt rfl rfl rfl (G7 rfl rfl Tryz.underlying145) ⟨rfl,trivial⟩ ?_
 refine dt rfl rfl rfl (eK rfl c1) ⟨rfl,rfl,trivial⟩ ?_
 refine dt rfl rfl rfl (aH rfl) ⟨rfl,trivial⟩ ?_
 refine tX (by kernel_rfl) qZ ?_
 refine aE rfl (bp rfl) ⟨rfl,rfl,trivial⟩ ?_
 refine au ?_
 refine ah ?_
 show JC _ _ _ _ _
 refine bK rfl (fun hb=>?_) (fun hb=>absurd (of_decide_eq_false hb) (by omega))
 refine ab ?_
 refine aB rfl rfl ?_
 refine aB rfl rfl ?_
 refine bS (Δ:=[_]) (F:=_) (fun _ _ _=>ax rfl _) rfl rfl (ap [.tmp 22,.tmp 23] rfl rfl Ny rfl (JB hn)) ⟨rfl,rfl,trivial⟩ fun bc=>?_
 refine au ?_
 refine jw ?_
 exact aL bc [] 2 trivial rfl
theorem xP:dS Tryz.prog 9 1 false:=⟨fun w=>by kernel_rfl,fun w=>by kernel_rfl⟩
theorem NE:ag Tryz.prog 91:=ag.of Tryz.func91 (by kernel_rfl) (by kernel_rfl)
theorem Iq:ag Tryz.prog 92:=ag.of Tryz.func92 (by kernel_rfl) (by kernel_rfl)
theorem NA:ag Tryz.prog 127:=ag.of Tryz.func127 (by kernel_rfl) (by kernel_rfl)
theorem CL:ag Tryz.prog 128:=ag.of Tryz.func128 (by kernel_rfl) (by kernel_rfl)
theorem FY:∀w,(zeroValue 147).run Tryz.prog w= .ok (.agg #[.pointer none,.slice none 0 0]) w:=fun w=>by kernel_rfl
theorem IN:∀S w,(A.cells S w (bA (.pointer none) (.slice none 0 0)) (Value.cells (.agg #[.pointer none,.slice none 0 0])).toList):=fun _ _=>⟨[_],_,rfl,⟨rfl,rfl⟩,rfl,rfl⟩
def nU(ss:List ByteArray):Nat→Int×Int→Option Int
 |0,_=>none
 |n+1,y=>if y.1 < (ss.length:Int) then((aQ ss y.1).bind fun s=>(ck ((9223372036854775807:Int) - y.2)).bind fun z=>if z < (s.size:Int) then none else(ck (y.2+(s.size:Int))).bind fun z2=>(ck (y.1+(1:Int))).bind fun z3=>nU ss n (z3,z2)) else some y.2
def l6(ss:List ByteArray)(sep:ByteArray):Nat→Int×List Int→Option (List Int)
 |0,_=>none
 |n+1,y=>if y.1 < (ss.length:Int) then((aQ ss y.1).bind fun s=>if bQ (y.2.length+sep.size)∧bQ ((y.2++rI sep).length+s.size) then(ck (y.1+(1:Int))).bind fun z3=>l6 ss sep n (z3,(y.2++rI sep)++rI s) else none) else some y.2
def uv(k:Nat)(ss:List ByteArray)(sep:ByteArray):Option ByteArray:=
 if sep.size=1∧bQ ss.length then
  if(ss.length:Int)=(0:Int) then some .empty
  else if(ss.length:Int)=(1:Int) then aQ ss 0
  else(nU ss k ((0:Int),(ss.length:Int) - 1)).bind fun n=>
   if 0 < n∧n≤281474976710656 then(aQ ss 0).bind fun s=>if bQ s.size then(l6 (ss.drop 1) sep k ((0:Int),rI s)).bind fun l=>if l=[] then none else some (qM l) else none else none
 else none
theorem Br(k:Nat)(ss:List ByteArray)(sep:ByteArray)(r:ByteArray)(h:uv k ss sep=some r):
 bX Tryz.prog 93 [.rep (.slice .str) ss,.eq (.string sep)] [] (fun _:Unit=>(bq [.eq (.string r)],[])):=by
 unfold uv at h
 split at h
 case isFalse=>cases h
 rename_i hc
 obtain⟨hsep,hlen⟩:=hc
 unfold bQ at hlen
 replace h:=a8 h
 refine bX.of 75 Tryz.func93 rfl Tryz.ntmps93 rfl fun S w0=>?_
 refine ae ?_
 refine ab ?_
 refine dM rfl ?_
 refine au ?_
 refine ah ?_
 show JC _ _ _ _ _
 refine ae ?_
 refine ae ?_
 refine ab ?_
 refine aB rfl rfl ?_
 refine aE rfl (jq rfl rfl Tryz.underlying143) ⟨rfl,trivial⟩ ?_
 refine au ?_
 refine ah ?_
 show JC _ _ _ _ _
 refine ao ?_
 refine ae ?_
 refine ab ?_
 refine aE rfl (fM rfl) ⟨rfl,rfl,trivial⟩ ?_
 refine dk rfl rfl ?_
 refine au ?_
 refine ah ?_
 show JC _ _ _ _ _
 refine bK rfl (fun hb=>?_) (fun hb=>?_)
 ·
  replace h:=cF (oH hb) h;refine ae ?_;refine ab ?_;refine dM rfl ?_;refine au ?_;refine ah ?_;show JC _ _ _ _ _;refine ay ?_;refine bi ?_;refine aV ?_;obtain rfl:=Option.some.inj h;exact aL () [_] 0 ⟨rfl,trivial⟩ rfl
 replace h:=bN (nL hb) h
 have hne0:=nL hb
 refine ae ?_
 refine ab ?_
 refine aE rfl (fM rfl) ⟨rfl,rfl,trivial⟩ ?_
 refine dk rfl rfl ?_
 refine au ?_
 refine ah ?_
 show JC _ _ _ _ _
 refine bK rfl (fun hb=>?_) (fun hb=>?_)
 ·
  replace h:=cF (oH hb) h;have es:aQ ss 0=some r:=by simpa using h
  refine ae ?_;refine ab ?_;refine aB rfl rfl ?_;refine aE rfl (aA (t:=.str) rfl Tryz.underlying143 xP es) ⟨rfl,rfl,trivial⟩ ?_;refine aE rfl (ak (t:=.str) rfl xP rfl) ⟨rfl,trivial⟩ ?_;refine dk rfl rfl ?_;refine au ?_;refine ah ?_;show JC _ _ _ _ _;refine ay ?_;refine bi ?_;refine aV ?_;exact aL () [_] 0 ⟨rfl,trivial⟩ rfl
 replace h:=bN (nL hb) h
 have hne1:=nL hb
 refine aW ?_
 refine aM ?_
 refine ah ?_
 show JC _ _ _ _ _
 refine ae ?_
 refine ab ?_
 refine dM rfl ?_
 refine au ?_
 refine ah ?_
 show JC _ _ _ _ _
 refine ae ?_
 refine ae ?_
 refine ab ?_
 refine aB rfl rfl ?_
 refine aE rfl (nr rfl rfl Tryz.underlying9) ⟨rfl,trivial⟩ ?_
 refine aE rfl (iC rfl) ⟨rfl,rfl,trivial⟩ ?_
 refine au ?_
 refine ah ?_
 show JC _ _ _ _ _
 have c1:ck ((ss.length:Int) - 1)=some ((ss.length:Int) - 1):=by unfold ck;rw [if_pos (by omega)]
 have c2:ck ((sep.size:Int) * ((ss.length:Int) - 1))=some ((ss.length:Int) - 1):=by rw [hsep];simpa using c1
 have c3:ck (0+((ss.length:Int) - 1))=some ((ss.length:Int) - 1):=by rw [Int.zero_add];exact c1
 refine bK rfl (fun hb=>?_) (fun hb=>absurd (nL hb) (by omega))
 refine ae ?_
 refine ae ?_
 refine ab ?_
 refine aB rfl rfl ?_
 refine aE rfl (nr rfl rfl Tryz.underlying9) ⟨rfl,trivial⟩ ?_
 refine aB rfl rfl ?_
 refine aE rfl (jq rfl rfl Tryz.underlying143) ⟨rfl,trivial⟩ ?_
 refine aE rfl (eK rfl c1) ⟨rfl,rfl,trivial⟩ ?_
 refine aE rfl (OX rfl (by omega)) ⟨rfl,rfl,trivial⟩ ?_
 refine aE rfl (pe rfl) ⟨rfl,rfl,trivial⟩ ?_
 refine au ?_
 refine ah ?_
 show JC _ _ _ _ _
 refine bK rfl (fun hb=>?_) (fun hb=>?_)
 ·
  exfalso;have h1:=oH hb;have q1:(9223372036854775807:Int).tdiv ((ss.length:Int) - 1)=9223372036854775807 / ((ss.length:Int) - 1):=Int.tdiv_eq_ediv_of_nonneg (by omega);have q2:(2:Int)≤9223372036854775807 / ((ss.length:Int) - 1):=Int.le_ediv_of_mul_le (by omega) (by omega);have q3:(9223372036854775807:Int) / ((ss.length:Int) - 1)≤9223372036854775807:=Int.ediv_le_self _ (by omega);rw [q1,sA (z:=9223372036854775807 / ((ss.length:Int) - 1)) (by unfold ck;rw [if_pos (by omega)])] at h1;omega
 refine aW ?_
 refine ah ?_
 show JC _ _ _ _ _
 refine ab ?_
 refine aB rfl rfl ?_
 refine aB rfl rfl ?_
 refine aE rfl (nr rfl rfl Tryz.underlying9) ⟨rfl,trivial⟩ ?_
 refine aB rfl rfl ?_
 refine aE rfl (jq rfl rfl Tryz.underlying143) ⟨rfl,trivial⟩ ?_
 refine aE rfl (eK rfl c1) ⟨rfl,rfl,trivial⟩ ?_
 refine aE rfl (LP rfl c2) ⟨rfl,rfl,trivial⟩ ?_
 refine aE rfl (bf rfl c3) ⟨rfl,rfl,trivial⟩ ?_
 refine dk rfl rfl ?_
 refine au ?_
 refine ah ?_
 show JC _ _ _ _ _
 rw [Option.bind_assoc] at h
 refine ae ?_
 refine ae ?_
 refine ab ?_
 refine aB rfl rfl ?_
 refine aE rfl (jq rfl rfl Tryz.underlying143) ⟨rfl,trivial⟩ ?_
 refine eU rfl ?_
 refine au ?_
 refine ah ?_
 show JC _ _ _ _ _
 refine ao ?_
 refine aK (Z:=Unit) (α:=Int×Int) (fun _ y=>[(0,.rep (.slice .str) ss),(1,.eq (.string sep)),(5,.eq (.int .i64 y.2)),(39,.rep (.slice .str) ss),(40,.eq (.int .i64 (ss.length:Int))),(41,.eq (.int .i64 y.1))]) (fun _ _=>[]) (nU ss) k () ((0:Int),(ss.length:Int) - 1) (fun _=>rfl) h (SE.fin [] ⟨rfl,rfl,rfl,rfl,rfl,rfl,trivial⟩ rfl) (fun n z y h=>?_)
 unfold nU at h
 refine ae ?_
 refine ab ?_
 refine aE rfl (bp rfl) ⟨rfl,rfl,trivial⟩ ?_
 refine au ?_
 refine ah ?_
 show JC _ _ _ _ _
 refine ae ?_
 refine bK rfl (fun hb=>?_) (fun hb=>?_)
 ·
  replace h:=cF (oH hb) h;refine aW ?_;refine ah ?_;show JC _ _ _ _ _;refine ae ?_;refine ao ?_;refine ae ?_;refine ab ?_;obtain⟨s,es,h⟩:=aa h;refine aE rfl (aA (t:=.str) rfl Tryz.underlying143 xP es) ⟨rfl,rfl,trivial⟩ ?_;refine aE rfl (ak (t:=.str) rfl xP rfl) ⟨rfl,trivial⟩ ?_;refine dk rfl rfl ?_;refine au ?_;refine ah ?_;show JC _ _ _ _ _;refine ae ?_;refine ae ?_;refine ab ?_;refine aB rfl rfl ?_;refine aE rfl (nr rfl rfl Tryz.underlying9) ⟨rfl,trivial⟩ ?_;refine aB rfl rfl ?_;obtain⟨z,ez,h⟩:=aa h;refine aE rfl (eK rfl ez) ⟨rfl,rfl,trivial⟩ ?_;refine aE rfl (iC rfl) ⟨rfl,rfl,trivial⟩ ?_;refine au ?_;refine ah ?_;show JC _ _ _ _ _;refine bK rfl (fun hb=>?_) (fun hb=>?_)
  ·replace h:=cF (oH hb) h;cases h
  replace h:=bN (nL hb) h;refine aW ?_;refine ah ?_;show JC _ _ _ _ _;refine ab ?_;refine aB rfl rfl ?_;refine aB rfl rfl ?_;refine aE rfl (nr rfl rfl Tryz.underlying9) ⟨rfl,trivial⟩ ?_;obtain⟨z2,ez2,h⟩:=aa h;refine aE rfl (bf rfl ez2) ⟨rfl,rfl,trivial⟩ ?_;refine dk rfl rfl ?_;refine au ?_;refine aM ?_;refine ah ?_;show JC _ _ _ _ _;refine ab ?_;obtain⟨z3,ez3,h⟩:=aa h;refine aE rfl (bf rfl ez3) ⟨rfl,rfl,trivial⟩ ?_;refine aB rfl rfl ?_;refine au ?_;refine ah ?_;exact jf ((),(z3,z2)) h (SE.fin [] ⟨rfl,rfl,rfl,rfl,rfl,rfl,trivial⟩ rfl)
 replace h:=bN (nL hb) h
 refine dC ?_
 refine aU ?_
 refine aU ?_
 refine bU ?_
 refine ah ?_
 show JC _ _ _ _ _
 replace h:((if 0 < y.2∧y.2≤281474976710656 then(aQ ss 0).bind fun s=>if bQ s.size then(l6 (ss.drop 1) sep k ((0:Int),rI s)).bind fun l=>if l=[] then none else some (qM l) else none else none):Option ByteArray).bind some=some r:=h
 obtain⟨y1,y2⟩:=y
 have hy:0 < y2∧y2≤281474976710656:=by
  apply Classical.byContradiction;intro hn;rw [if_neg hn] at h;cases h
 replace h:=cF hy h
 obtain⟨m,rfl⟩:=Int.eq_ofNat_of_zero_le (show 0≤y2 by omega)
 obtain⟨s0,es0,h⟩:=aa h
 have hs0:bQ s0.size:=by
  apply Classical.byContradiction;intro hn;rw [if_neg hn] at h;cases h
 replace h:=cF hs0 h
 rw [Option.bind_assoc] at h
 refine ae ?_
 refine ab ?_
 refine aF rfl rfl rfl (be rfl FY IN) trivial fun b=>?_
 refine au ?_
 refine ah ?_
 show JC _ _ _ _ _
 refine ae ?_
 refine ab ?_
 refine aB rfl rfl ?_
 refine bS (Δ:=[_]) (F:=_) (fun _ _ _=>ax rfl _) rfl rfl (ap [.tmp 8,.tmp 56] rfl rfl NA rfl (GG (b:=b) (n:=m) (by omega) (by omega))) ⟨rfl,rfl,trivial⟩ fun bc=>?_
 refine au ?_
 refine ah ?_
 show JC _ _ _ _ _
 refine ae ?_
 refine ab ?_
 refine aB rfl rfl ?_
 refine aE rfl (aA (t:=.str) rfl Tryz.underlying143 xP es0) ⟨rfl,rfl,trivial⟩ ?_
 refine aE rfl (ak (t:=.str) rfl xP rfl) ⟨rfl,trivial⟩ ?_
 refine bS (Δ:=[_,_]) (F:=_) (fun _ _ _=>ax rfl _) rfl rfl (ap [.tmp 8,.tmp 60] rfl rfl CL rfl (l7 (b:=b) (p:=some ⟨b,0,none⟩) (v:=Bt bc) (l:=[]) (s:=s0) (.inr rfl) rfl (by simpa using hs0))) ⟨rfl,rfl,trivial⟩ fun v0=>?_
 refine au ?_
 refine ah ?_
 show JC _ _ _ _ _
 refine ae ?_
 refine ae ?_
 refine ab ?_
 refine aB rfl rfl ?_
 refine aE rfl (ER (t:=.str) rfl Tryz.underlying143 xP (by decide) (by omega)) ⟨rfl,rfl,trivial⟩ ?_
 refine aE rfl (jq rfl rfl Tryz.underlying143) ⟨rfl,trivial⟩ ?_
 refine eU rfl ?_
 refine au ?_
 refine ah ?_
 show JC _ _ _ _ _
 refine ao ?_
 refine aK (Z:=Value) (α:=Int×List Int) (fun _ y=>[(1,.eq (.string sep)),(8,.eq (bP b)),(63,.rep (.slice .str) (ss.drop 1)),(64,.eq (.int .i64 ((ss.drop 1).length:Int))),(65,.eq (.int .i64 y.1))]) (fun v y=>[.obj b 147 (bA (bP b) v),.sl v 5 (.int .u8) y.2]) (l6 (ss.drop 1) sep) k v0 ((0:Int),rI s0) (fun _=>rfl) h (SE.fin [0,1] ⟨rfl,rfl,rfl,rfl,rfl,trivial⟩ rfl) (fun n v y h=>?_)
 unfold l6 at h
 refine ae ?_
 refine ab ?_
 refine aE rfl (bp rfl) ⟨rfl,rfl,trivial⟩ ?_
 refine au ?_
 refine ah ?_
 show JC _ _ _ _ _
 refine ae ?_
 refine bK rfl (fun hb=>?_) (fun hb=>?_)
 ·
  replace h:=cF (oH hb) h;refine aW ?_;refine ah ?_;show JC _ _ _ _ _;refine ae ?_;refine ao ?_;refine ae ?_;refine ab ?_;obtain⟨s,es,h⟩:=aa h;refine aE rfl (aA (t:=.str) rfl Tryz.underlying143 xP es) ⟨rfl,rfl,trivial⟩ ?_;refine aE rfl (ak (t:=.str) rfl xP rfl) ⟨rfl,trivial⟩ ?_;refine dk rfl rfl ?_;refine au ?_;refine ah ?_;show JC _ _ _ _ _
  have hk:bQ (y.2.length+sep.size)∧bQ ((y.2++rI sep).length+s.size):=by
   apply Classical.byContradiction;intro hn;rw [if_neg hn] at h;cases h
  replace h:=cF hk h;refine wb 1 rfl fun hv=>?_;refine ae ?_;refine ab ?_;refine aB rfl rfl ?_;refine bS (Δ:=[_,_]) (F:=_) (fun _ _ _=>ax rfl _) rfl rfl (ap [.tmp 8,.tmp 69] rfl rfl CL rfl (l7 (b:=b) (p:=some ⟨b,0,none⟩) (s:=sep) (.inr rfl) hv hk.1)) ⟨rfl,rfl,trivial⟩ fun v1=>?_;refine au ?_;refine ah ?_;show JC _ _ _ _ _;refine wb 1 rfl fun hv1=>?_;refine ab ?_;refine aB rfl rfl ?_;refine bS (Δ:=[_,_]) (F:=_) (fun _ _ _=>ax rfl _) rfl rfl (ap [.tmp 8,.tmp 71] rfl rfl CL rfl (l7 (b:=b) (p:=some ⟨b,0,none⟩) (s:=s) (.inr rfl) hv1 hk.2)) ⟨rfl,rfl,trivial⟩ fun v2=>?_;refine au ?_;refine aM ?_;refine ah ?_;show JC _ _ _ _ _;refine ab ?_;obtain⟨z3,ez3,h⟩:=aa h;refine aE rfl (bf rfl ez3) ⟨rfl,rfl,trivial⟩ ?_;refine aB rfl rfl ?_;refine au ?_;refine ah ?_;exact jf (v2,(z3,(y.2++rI sep)++rI s)) h (SE.fin [0,1] ⟨rfl,rfl,rfl,rfl,rfl,trivial⟩ rfl)
 replace h:=bN (nL hb) h
 refine dC ?_
 refine aU ?_
 refine aU ?_
 refine bU ?_
 refine ah ?_
 show JC _ _ _ _ _
 replace h:(if y.2=[] then none else some (qM y.2):Option ByteArray).bind some=some r:=h
 have hy2:y.2≠[]:=by
  intro hn;rw [if_pos hn] at h;cases h
 rw [if_neg hy2] at h
 obtain rfl:=Option.some.inj h
 refine ae ?_
 refine ab ?_
 refine bS (Δ:=[_,_]) (F:=_) (fun _ _ _=>ax rfl _) rfl rfl (ap [.tmp 8] rfl rfl Iq rfl (wP (b:=b) (fun hn=>absurd hn hy2))) ⟨rfl,trivial⟩ fun _=>?_
 refine dk rfl rfl ?_
 refine au ?_
 refine ah ?_
 show JC _ _ _ _ _
 refine ay ?_
 exact aL () [_] 0 ⟨rfl,trivial⟩ rfl
end Go.Proofs.YtghkncjelangeaaGreatDoor
