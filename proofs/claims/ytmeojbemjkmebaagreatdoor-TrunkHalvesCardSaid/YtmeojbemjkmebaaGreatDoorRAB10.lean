import Derived.Test.YtmeojbemjkmebaaGreatDoorRAB5
import Derived.Test.YtmeojbemjkmebaaGreatDoorProg
import Derived.Stop.Asserts
set_option linter.unusedSimpArgs false
set_option linter.unusedVariables false
set_option maxRecDepth 20000
set_option maxHeartbeats 4000000
namespace Go.Proofs.YtmeojbemjkmebaaGreatDoor
open K Go Go.Proofs Go.Extern
theorem AL:dC Tryz.prog 89 1 false:=⟨fun w=>by kernel_rfl,fun w=>by kernel_rfl⟩
theorem ju:dC Tryz.prog 90 1 false:=⟨fun w=>by kernel_rfl,fun w=>by kernel_rfl⟩
theorem MJ:aU Tryz.prog 92 0 0:=aU.of (by kernel_rfl)
theorem rH:aU Tryz.prog 92 1 1:=aU.of (by kernel_rfl)
theorem AN:my Tryz.prog 90 5 1 1:=.of (z:=(.int .u8 (0))) Tryz.underlying90 (by kernel_rfl) rfl rfl rfl
theorem MU:fG Tryz.prog 113 Extern.AbiNoEscape.same:=.of Tryz.func113 (by kernel_rfl) (by kernel_rfl) (by kernel_rfl) (by kernel_rfl)
theorem BF:ag Tryz.prog 82:=ag.of Tryz.func82 (by kernel_rfl) (by kernel_rfl)
theorem MW:ag Tryz.prog 83:=ag.of Tryz.func83 (by kernel_rfl) (by kernel_rfl)
@[reducible] def bA(p v:Value):A:=.agg (.pair (.eq p) (.eq v))
abbrev bP(b:Nat):Value:=.pointer (some ⟨b,0,none⟩)
theorem uJ{p:Option Addr}:Ns Tryz.prog (binOp .eql 89 (.pointer p) (.pointer none)):=by
 cases p with
 |none=>exact nN (by kernel_rfl)
 |some p=>exact nN (by kernel_rfl)
theorem DO{p:Option Addr}{x y:Operand}(w:World):(do eqGuard .eql 89 x y (.pointer p) (.pointer none);binOp .eql 89 (.pointer p) (.pointer none):Sem Value).run Tryz.prog w= .ok (.bool p.isNone) w:=by
 cases p <;> kernel_rfl
theorem Be{p:Addr}:Ns Tryz.prog (binOp .neq 89 (.pointer (some p)) (.pointer (some p))):=by
 refine ai (s:=Op.equal 89 (.pointer (some p)) (.pointer (some p))) ?_ fun _=>bq;show Ns Tryz.prog (Op.equalIn (9999+1) 89 (.pointer (some p)) (.pointer (some p)));unfold Op.equalIn;refine cJ Tryz.underlying89 (ai cT fun n=>sG ?_ (sG bq (ai fp fun _=>bq)));unfold sameAddr;simp only [beq_self_eq_true,if_true];exact bq
theorem L6:∃j,Tryz.prog.info? 92=some j∧j.size≠0:=by
 obtain⟨j,h1,h2⟩:=Option.map_eq_some_iff.1 (show(Tryz.prog.info? 92).map (·.size)=some 2 by kernel_rfl);exact⟨j,h1,by omega⟩
theorem nh{b:Nat}{p:Option Addr}{v:Value}(hp:p=none∨p=some ⟨b,0,none⟩)(hv:bi v=true):cd Tryz.prog 82 [.eq (bP b)] [.obj b 92 (bA (.pointer p) v)] (fun _:Unit=>(bv [],[.obj b 92 (bA (bP b) v)])):=by
 obtain⟨j162,inf162_eq,inf162_sz⟩:=L6;refine cd.of 20 Tryz.func82 rfl Tryz.ntmps82 rfl fun S w0=>?_;refine ah ?_;refine ab ?_;refine aA rfl rfl ?_;refine aD rfl (aW rfl) ⟨rfl,trivial⟩ ?_;refine aD rfl (ax rfl MJ) ⟨rfl,trivial⟩ ?_;refine bQ rfl rfl rfl (ak rfl AL (fun _=>rfl) rfl) ⟨rfl,trivial⟩ ?_;refine aD rfl (iq rfl DO uJ) ⟨rfl,rfl,trivial⟩ ?_;refine ar ?_;refine ae ?_;show JC _ _ _ _ _;refine bK rfl (fun hb=>?_) (fun hb=>?_)
 ·refine ab ?_;refine aA rfl rfl ?_;refine aA rfl rfl ?_;refine bQ rfl rfl rfl (A5 rfl Tryz.underlying89 Tryz.underlying180 inf162_eq inf162_sz rfl) ⟨rfl,trivial⟩ ?_;refine aD rfl (Gw MU [.tmp 9] [bP b] rfl rfl rfl (fun _=>rfl) bq) ⟨rfl,trivial⟩ ?_;refine bQ rfl rfl rfl (xC rfl Tryz.underlying180 Tryz.underlying89 inf162_eq (by kernel_rfl)) ⟨rfl,trivial⟩ ?_;refine aD rfl (aW rfl) ⟨rfl,trivial⟩ ?_;refine aD rfl (ax rfl MJ) ⟨rfl,trivial⟩ ?_;refine aY rfl rfl (aR rfl AL rfl rfl rfl) ⟨rfl,rfl,trivial⟩ ?_;refine ar ?_;refine iS ?_;exact aL () [] 1 trivial rfl
 ·have hp':p=some ⟨b,0,none⟩:=by
   rcases hp with rfl |rfl
   ·cases hb
   ·rfl
  subst hp';refine ah ?_;refine ab ?_;refine aA rfl rfl ?_;refine aD rfl (aW rfl) ⟨rfl,trivial⟩ ?_;refine aD rfl (ax rfl MJ) ⟨rfl,trivial⟩ ?_;refine bQ rfl rfl rfl (ak rfl AL (fun _=>rfl) rfl) ⟨rfl,trivial⟩ ?_;refine aA rfl rfl ?_;refine aD rfl (Gj rfl Tryz.underlying89 inf162_eq Be) ⟨rfl,rfl,trivial⟩ ?_;refine ar ?_;refine ae ?_;show JC _ _ _ _ _;refine bK rfl (fun hb=>(by cases hb)) (fun hb=>?_);refine ba ?_;refine iS ?_;exact aL () [] 1 trivial rfl
theorem vD{v:Value}{l:List Int}{r:Int}(h0:0≤r)(h1:r≤127)(hl:bU (l.length+1)):cd Tryz.prog 83 [.eq v,.eq (.int .i32 r)] [.sl v 5 (.int .u8) l] (fun v':Value=>(bv [.eq v'],[.sl v' 5 (.int .u8) (l++[r])])):=by
 refine cd.of 16 Tryz.func83 rfl Tryz.ntmps83 rfl fun S w0=>?_;have w32:IntKind.u32.wrap r=r:=by simp [IntKind.wrap,IntKind.bits,IntKind.signed];omega
 have w8:IntKind.u8.wrap r=r:=by simp [IntKind.wrap,IntKind.bits,IntKind.signed];omega
 refine ah ?_;refine ab ?_;refine dK rfl ?_;refine ar ?_;refine ae ?_;show JC _ _ _ _ _;refine ah ?_;refine ah ?_;refine ab ?_;refine aA rfl rfl ?_;refine aD rfl (ov rfl Tryz.underlying21 Tryz.underlying172) ⟨rfl,trivial⟩ ?_;rw [w32];refine aD rfl (uH rfl) ⟨rfl,rfl,trivial⟩ ?_;refine ar ?_;refine ae ?_;show JC _ _ _ _ _;refine bK rfl (fun hb=>?_) (fun hb=>absurd h1 (by simpa using hb));refine ah ?_;refine ab ?_;refine aA rfl rfl ?_;refine aA rfl rfl ?_;refine aD rfl (ov rfl Tryz.underlying21 Tryz.underlying5) ⟨rfl,trivial⟩ ?_;rw [w8];refine aD rfl (bC (t:=(.int .u8)) [(.tmp 10,.eq (.int .u8 r))] [r] rfl rfl AN (.cons rfl .int .nil) rfl rfl) ⟨rfl,trivial⟩ ?_;refine eC rfl rfl rfl (bZ rfl rfl AN (by simpa using hl)) ⟨rfl,rfl,trivial⟩ fun v'=>?_;refine dr rfl rfl ?_;refine ar ?_;refine ae ?_;show JC _ _ _ _ _;refine aC ?_;refine aV ?_;exact aL v' [_] 1 ⟨rfl,trivial⟩ rfl
theorem xp{b:Nat}{p:Option Addr}{v:Value}{l:List Int}{r:Int}(hp:p=none∨p=some ⟨b,0,none⟩)(hv:bi v=true)(h0:0≤r)(h1:r≤127)(hl:bU (l.length+1)):
 cd Tryz.prog 49 [.eq (bP b),.eq (.int .i32 r)] [.obj b 92 (bA (.pointer p) v),.sl v 5 (.int .u8) l]
  (fun v':Value=>(bv [.eq (.int .i64 1),.eq .nilIface],[.obj b 92 (bA (bP b) v'),.sl v' 5 (.int .u8) (l++[r])])):=by
 refine cd.of 30 Tryz.func49 rfl Tryz.ntmps49 rfl fun S w0=>?_
 refine ah ?_
 refine ab ?_
 refine dK rfl ?_
 refine dK rfl ?_
 refine ar ?_
 refine ae ?_
 show JC _ _ _ _ _
 refine ah ?_
 refine ab ?_
 refine aA rfl rfl ?_
 refine bQ rfl rfl rfl (ao [.tmp 7] rfl rfl BF rfl (nh hp hv)) ⟨rfl,trivial⟩ ?_
 refine ar ?_
 refine ae ?_
 show JC _ _ _ _ _
 refine ah ?_
 refine ab ?_
 refine aA rfl rfl ?_
 refine aD rfl (aW rfl) ⟨rfl,trivial⟩ ?_
 refine aD rfl (ax rfl rH) ⟨rfl,trivial⟩ ?_
 refine bQ rfl rfl rfl (ak rfl ju (fun _=>rfl) rfl) ⟨rfl,trivial⟩ ?_
 refine bD 1 rfl ?_
 refine bQ rfl rfl rfl (dx rfl rfl Tryz.underlying90) ⟨rfl,trivial⟩ ?_
 refine dr rfl rfl ?_
 refine ar ?_
 refine ae ?_
 show JC _ _ _ _ _
 refine ah ?_
 refine ab ?_
 refine aA rfl rfl ?_
 refine aA rfl rfl ?_
 refine aD rfl (aW rfl) ⟨rfl,trivial⟩ ?_
 refine aD rfl (ax rfl rH) ⟨rfl,trivial⟩ ?_
 refine bD 1 rfl ?_
 refine bQ rfl rfl rfl (ak rfl ju (fun _=>rfl) rfl) ⟨rfl,trivial⟩ ?_
 refine aA rfl rfl ?_
 refine bD 1 rfl ?_
 refine eC rfl rfl rfl (ao [.tmp 18,.tmp 19] rfl rfl MW rfl (vD h0 h1 hl)) ⟨rfl,rfl,trivial⟩ fun v'=>?_
 refine gd fun hv'=>?_
 refine aD rfl (aW rfl) ⟨rfl,trivial⟩ ?_
 refine aD rfl (ax rfl rH) ⟨rfl,trivial⟩ ?_
 refine bD 1 rfl ?_
 refine aY rfl rfl (aR rfl ju hv' rfl rfl) ⟨rfl,rfl,trivial⟩ ?_
 refine ar ?_
 refine ae ?_
 show JC _ _ _ _ _
 refine ah ?_
 refine ab ?_
 refine aA rfl rfl ?_
 refine aD rfl (aW rfl) ⟨rfl,trivial⟩ ?_
 refine aD rfl (ax rfl rH) ⟨rfl,trivial⟩ ?_
 refine bQ rfl rfl rfl (ak rfl ju (fun _=>rfl) rfl) ⟨rfl,trivial⟩ ?_
 refine bD 1 rfl ?_
 refine bQ rfl rfl rfl (dx rfl rfl Tryz.underlying90) ⟨rfl,trivial⟩ ?_
 refine aA rfl rfl ?_
 have hck:ck (((l++[r]).length:Int) - (l.length:Int))=some 1:=by
  have:(((l++[r]).length:Int) - (l.length:Int))=1:=by simp;omega
  rw [this];rfl
 refine aD rfl (d5 rfl hck) ⟨rfl,rfl,trivial⟩ ?_
 refine dr rfl rfl ?_
 refine dK rfl ?_
 refine ar ?_
 refine ae ?_
 show JC _ _ _ _ _
 refine aC ?_
 refine bF (SE.fin (Γ':=[(4,_),(5,_)]) [1,0] ⟨rfl,rfl,trivial⟩ rfl) ?_
 exact aL v' [_,_] 2 ⟨rfl,rfl,trivial⟩ rfl
theorem RP:Tryz.prog.cellsOf 5=1:=by kernel_rfl
theorem qz:Tryz.prog.follows .mixedOrders=true:=by kernel_rfl
theorem wc{b:Nat}{p v:Value}{l:List Int}(hl:l=[]→v= .slice none 0 0):
 cd Tryz.prog 50 [.eq (bP b)] [.obj b 92 (bA p v),.sl v 5 (.int .u8) l] (fun _:Unit=>(bv [.eq (.string (qf l))],[])):=by
 refine cd.of 14 Tryz.func50 rfl Tryz.ntmps50 rfl fun S w0=>?_
 refine ah ?_
 refine ab ?_
 refine dK rfl ?_
 refine ar ?_
 refine ae ?_
 show JC _ _ _ _ _
 refine ah ?_
 refine cz ?_
 refine dw rfl rfl rfl (aO rfl) ⟨rfl,trivial⟩ ?_
 refine dw rfl rfl rfl (aW rfl) ⟨rfl,trivial⟩ ?_
 refine dw rfl rfl rfl (ax rfl rH) ⟨rfl,trivial⟩ ?_
 refine nH 0 rfl rfl rfl rfl (ak rfl ju (fun _=>rfl) rfl) ⟨rfl,trivial⟩ ?_
 refine nH 1 rfl rfl rfl rfl (zh rfl rfl hl) ⟨rfl,trivial⟩ ?_
 refine dw rfl rfl rfl (aO rfl) ⟨rfl,trivial⟩ ?_
 refine dw rfl rfl rfl (aW rfl) ⟨rfl,trivial⟩ ?_
 refine dw rfl rfl rfl (ax rfl rH) ⟨rfl,trivial⟩ ?_
 refine nH 0 rfl rfl rfl rfl (ak rfl ju (fun _=>rfl) rfl) ⟨rfl,trivial⟩ ?_
 refine nH 1 rfl rfl rfl rfl (dx rfl rfl Tryz.underlying90) ⟨rfl,trivial⟩ ?_
 refine td (by kernel_rfl) qz ?_
 refine bD 1 rfl ?_
 refine bN (Δ:=[_]) (F:=_) (fun _ _ _=>ay rfl _) rfl rfl (uC rfl rfl Tryz.underlying149 RP hl) ⟨rfl,rfl,trivial⟩ fun _=>?_
 refine dr rfl rfl ?_
 refine ar ?_
 refine ae ?_
 show JC _ _ _ _ _
 refine aC ?_
 exact aL () [_] 0 ⟨rfl,trivial⟩ rfl
theorem QJ:(Tryz.prog.info? 5).bind (·.zero)=some (.int .u8 0):=by kernel_rfl
theorem lA{b:Nat}{p:Option Addr}{v:Value}{l:List Int}{s:ByteArray}(hp:p=none∨p=some ⟨b,0,none⟩)(hv:bi v=true)(hl:bU (l.length+s.size)):
 cd Tryz.prog 85 [.eq (bP b),.eq (.string s)] [.obj b 92 (bA (.pointer p) v),.sl v 5 (.int .u8) l]
  (fun v':Value=>(bv [.eq (.int .i64 s.size),.eq .nilIface],[.obj b 92 (bA (bP b) v'),.sl v' 5 (.int .u8) (l++qW s)])):=by
 refine cd.of 19 Tryz.func85 rfl Tryz.ntmps85 rfl fun S w0=>?_
 refine ah ?_
 refine ab ?_
 refine dK rfl ?_
 refine dK rfl ?_
 refine ar ?_
 refine ae ?_
 show JC _ _ _ _ _
 refine ah ?_
 refine ab ?_
 refine aA rfl rfl ?_
 refine bQ rfl rfl rfl (ao [.tmp 6] rfl rfl BF rfl (nh hp hv)) ⟨rfl,trivial⟩ ?_
 refine ar ?_
 refine ae ?_
 show JC _ _ _ _ _
 refine ah ?_
 refine ab ?_
 refine aA rfl rfl ?_
 refine aA rfl rfl ?_
 refine aD rfl (aW rfl) ⟨rfl,trivial⟩ ?_
 refine aD rfl (ax rfl rH) ⟨rfl,trivial⟩ ?_
 refine bQ rfl rfl rfl (ak rfl ju (fun _=>rfl) rfl) ⟨rfl,trivial⟩ ?_
 refine aA rfl rfl ?_
 refine bD 1 rfl ?_
 refine eC rfl rfl rfl (zo rfl rfl AN Tryz.underlying9 QJ (by decide) hl) ⟨rfl,rfl,trivial⟩ fun v'=>?_
 refine gd fun hv'=>?_
 refine aD rfl (aW rfl) ⟨rfl,trivial⟩ ?_
 refine aD rfl (ax rfl rH) ⟨rfl,trivial⟩ ?_
 refine bD 1 rfl ?_
 refine aY rfl rfl (aR rfl ju hv' rfl rfl) ⟨rfl,rfl,trivial⟩ ?_
 refine ar ?_
 refine ae ?_
 show JC _ _ _ _ _
 refine ah ?_
 refine ab ?_
 refine aA rfl rfl ?_
 refine aD rfl (mO rfl rfl Tryz.underlying9) ⟨rfl,trivial⟩ ?_
 refine dr rfl rfl ?_
 refine dK rfl ?_
 refine ar ?_
 refine ae ?_
 show JC _ _ _ _ _
 refine aC ?_
 exact aL v' [_,_] 2 ⟨rfl,rfl,trivial⟩ rfl
theorem MR:fG Tryz.prog 146 (Extern.BytealgMakeNoZero.makeNoZero #[3] #[90]):=.of Tryz.func146 (by kernel_rfl) (by kernel_rfl) (by kernel_rfl) (by kernel_rfl)
theorem MS:ag Tryz.prog 115:=ag.of Tryz.func115 (by kernel_rfl) (by kernel_rfl)
def QL:Value→List D
 | .slice (some ⟨b,0,none⟩) m c=>[.sl (.slice (some ⟨b,0,none⟩) 0 c) 5 (.int .u8) []]
 |_=>[yd]
theorem LG{v:Value}(h:∀d∈QL v,∃S w,d.holds S w):∃b m c,v= .slice (some ⟨b,0,none⟩) m c:=by
 unfold QL at h;split at h
 ·exact⟨_,_,_,rfl⟩
 ·obtain⟨S,w,hb⟩:=h yd (by simp);exact absurd hb rJ
theorem Of:dC Tryz.prog 5 1 false:=⟨fun w=>by kernel_rfl,fun w=>by kernel_rfl⟩
theorem FK{b cap:Nat}:sliced (some ⟨b,0,none⟩) 0 (Int.toNat 0) cap 1= .slice (some ⟨b,0,none⟩) 0 cap:=Ce
abbrev AP(bc:Nat×Nat):Value:=.slice (some ⟨bc.1,0,none⟩) 0 bc.2
theorem IT{b n:Nat}{p:Value}(hn:n≤281474976710656):
 cd Tryz.prog 115 [.eq (bP b),.eq (.int .i64 n)] [.obj b 92 (bA p (.slice none 0 0))] (fun bc:Nat×Nat=>(bv [],[.obj b 92 (bA p (AP bc)),.sl (AP bc) 5 (.int .u8) []])):=by
 refine cd.of 30 Tryz.func115 rfl Tryz.ntmps115 rfl fun S w0=>?_
 have c1:ck (2 * ((0:Nat):Int))=some 0:=rfl
 have c2:ck (0+(n:Int))=some (n:Int):=by rw [Int.zero_add];unfold ck;rw [if_pos (by omega)]
 refine ah ?_
 refine gQ ?_
 refine aF rfl rfl rfl (aO rfl) ⟨rfl,trivial⟩ ?_
 refine aF rfl rfl rfl (aW rfl) ⟨rfl,trivial⟩ ?_
 refine aF rfl rfl rfl (ax rfl rH) ⟨rfl,trivial⟩ ?_
 refine cp 0 rfl rfl rfl rfl (ak rfl ju (fun _=>rfl) rfl) ⟨rfl,trivial⟩ ?_
 refine aF rfl rfl rfl (Gy rfl rfl Tryz.underlying90) ⟨rfl,trivial⟩ ?_
 refine aF rfl rfl rfl (K8 rfl c1) ⟨rfl,rfl,trivial⟩ ?_
 refine aF rfl rfl rfl (aO rfl) ⟨rfl,trivial⟩ ?_
 refine aF rfl rfl rfl (bm rfl c2) ⟨rfl,rfl,trivial⟩ ?_
 refine pJ QL (fun _=>rfl) rfl rfl rfl (Gi MR rfl rfl Tryz.underlying90 hn) ⟨rfl,trivial⟩ ?_
 refine aF rfl rfl rfl (aO rfl) ⟨rfl,trivial⟩ ?_
 refine aF rfl rfl rfl (aW rfl) ⟨rfl,trivial⟩ ?_
 refine aF rfl rfl rfl (ax rfl rH) ⟨rfl,trivial⟩ ?_
 refine cp 0 rfl rfl rfl rfl (ak rfl ju (fun _=>rfl) rfl) ⟨rfl,trivial⟩ ?_
 refine aF rfl rfl rfl (Gq rfl rfl Tryz.underlying90) ⟨rfl,trivial⟩ ?_
 refine kK 14 [true,true,true,true,true,true,true,true,true,true,true,true,true,true] [19,4] [] [] rfl (by kernel_rfl) (by kernel_rfl) (by kernel_rfl) qz (fun vs hv hB=>?_)
 obtain⟨u0,vs1,rfl,hv1⟩:=aj hv
 obtain⟨u1,vs2,rfl,hv2⟩:=aj hv1
 obtain⟨u2,vs3,rfl,hv3⟩:=aj hv2
 obtain⟨u3,vs4,rfl,hv4⟩:=aj hv3
 obtain⟨u4,vs5,rfl,hv5⟩:=aj hv4
 obtain⟨u5,vs6,rfl,hv6⟩:=aj hv5
 obtain⟨u6,vs7,rfl,hv7⟩:=aj hv6
 obtain⟨u7,vs8,rfl,hv8⟩:=aj hv7
 obtain⟨u8,vs9,rfl,hv9⟩:=aj hv8
 obtain⟨u9,vs10,rfl,hv10⟩:=aj hv9
 obtain⟨u10,vs11,rfl,hv11⟩:=aj hv10
 obtain⟨u11,vs12,rfl,hv12⟩:=aj hv11
 obtain⟨u12,vs13,rfl,hv13⟩:=aj hv12
 obtain⟨u13,vs14,rfl,hv14⟩:=aj hv13
 obtain rfl:=i7 hv14
 obtain⟨g,m,q,rfl⟩:=LG hB.2.2.2.2.2.2.2.2.1
 refine⟨[0,1],[.obj b 92 (bA p (.slice none 0 0)),.sl (AP (g,q)) 5 (.int .u8) []],by kernel_rfl,by decide,?_⟩
 refine nC rfl rfl rfl rfl (uD rfl Tryz.underlying90 Of (Int.le_refl 0) (Int.natCast_nonneg _)) ⟨rfl,rfl,trivial⟩ (by kernel_rfl) ?_
 rw [FK]
 refine nC rfl rfl rfl rfl (ir rfl) ⟨rfl,trivial⟩ (by kernel_rfl) ?_
 refine nD ?_
 refine bF (SE.fin (Γ':=[(0,.eq (bP b)),(4,.eq (AP (g,q)))]) (Δ':=[.obj b 92 (bA p (.slice none 0 0)),.sl (AP (g,q)) 5 (.int .u8) []]) [0,1] ⟨rfl,rfl,trivial⟩ rfl) ?_
 refine ae ?_
 show JC _ _ _ _ _
 refine ah ?_
 refine ab ?_
 refine aA rfl rfl ?_
 refine aA rfl rfl ?_
 refine aD rfl (aW rfl) ⟨rfl,trivial⟩ ?_
 refine aD rfl (ax rfl rH) ⟨rfl,trivial⟩ ?_
 refine bQ rfl rfl rfl (ak rfl ju (fun _=>rfl) rfl) ⟨rfl,trivial⟩ ?_
 refine aD rfl (I7 rfl rfl Tryz.underlying90 Of) ⟨rfl,rfl,trivial⟩ ?_
 refine ar ?_
 refine ae ?_
 show JC _ _ _ _ _
 refine ab ?_
 refine aA rfl rfl ?_
 refine aA rfl rfl ?_
 refine aD rfl (aW rfl) ⟨rfl,trivial⟩ ?_
 refine aD rfl (ax rfl rH) ⟨rfl,trivial⟩ ?_
 refine aY rfl rfl (aR rfl ju rfl rfl rfl) ⟨rfl,rfl,trivial⟩ ?_
 refine ar ?_
 refine iS ?_
 exact aL (g,q) [] 2 trivial rfl
end Go.Proofs.YtmeojbemjkmebaaGreatDoor
set_option linter.unusedVariables false
set_option maxRecDepth 20000
set_option maxHeartbeats 4000000
namespace Go.Proofs.YtmeojbemjkmebaaGreatDoor
open K Go Go.Proofs Go.Extern
theorem FR{b n:Nat}(h0:0 < n)(hn:n≤281474976710656):
 cd Tryz.prog 84 [.eq (bP b),.eq (.int .i64 n)] [.obj b 92 (bA (.pointer none) (.slice none 0 0))] (fun bc:Nat×Nat=>(bv [],[.obj b 92 (bA (bP b) (AP bc)),.sl (AP bc) 5 (.int .u8) []])):=by
 refine cd.of 25 Tryz.func84 rfl Tryz.ntmps84 rfl fun S w0=>?_
 have c1:ck (((0:Nat):Int) - ((0:Nat):Int))=some 0:=rfl
 refine ah ?_
 refine ab ?_
 refine aA rfl rfl ?_
 refine bQ rfl rfl rfl (ao [.tmp 4] rfl rfl BF rfl (nh (.inl rfl) rfl)) ⟨rfl,trivial⟩ ?_
 refine ar ?_
 refine ae ?_
 show JC _ _ _ _ _
 refine ah ?_
 refine ah ?_
 refine ab ?_
 refine aA rfl rfl ?_
 refine aD rfl (bG rfl) ⟨rfl,rfl,trivial⟩ ?_
 refine ar ?_
 refine ae ?_
 show JC _ _ _ _ _
 refine bK rfl (fun hb=>absurd (of_decide_eq_true hb) (by omega)) (fun hb=>?_)
 refine ba ?_
 refine ae ?_
 show JC _ _ _ _ _
 refine ah ?_
 refine cz ?_
 refine dw rfl rfl rfl (aO rfl) ⟨rfl,trivial⟩ ?_
 refine dw rfl rfl rfl (aW rfl) ⟨rfl,trivial⟩ ?_
 refine dw rfl rfl rfl (ax rfl rH) ⟨rfl,trivial⟩ ?_
 refine nH 0 rfl rfl rfl rfl (ak rfl ju (fun _=>rfl) rfl) ⟨rfl,trivial⟩ ?_
 refine dw rfl rfl rfl (Gy rfl rfl Tryz.underlying90) ⟨rfl,trivial⟩ ?_
 refine dw rfl rfl rfl (aO rfl) ⟨rfl,trivial⟩ ?_
 refine dw rfl rfl rfl (aW rfl) ⟨rfl,trivial⟩ ?_
 refine dw rfl rfl rfl (ax rfl rH) ⟨rfl,trivial⟩ ?_
 refine nH 0 rfl rfl rfl rfl (ak rfl ju (fun _=>rfl) rfl) ⟨rfl,trivial⟩ ?_
 refine dw rfl rfl rfl (Gq rfl rfl Tryz.underlying90) ⟨rfl,trivial⟩ ?_
 refine dw rfl rfl rfl (d5 rfl c1) ⟨rfl,rfl,trivial⟩ ?_
 refine dw rfl rfl rfl (aO rfl) ⟨rfl,trivial⟩ ?_
 refine td (by kernel_rfl) qz ?_
 refine aD rfl (bG rfl) ⟨rfl,rfl,trivial⟩ ?_
 refine ar ?_
 refine ae ?_
 show JC _ _ _ _ _
 refine bK rfl (fun hb=>?_) (fun hb=>absurd (of_decide_eq_false hb) (by omega))
 refine ab ?_
 refine aA rfl rfl ?_
 refine aA rfl rfl ?_
 refine bN (Δ:=[_]) (F:=_) (fun _ _ _=>ay rfl _) rfl rfl (ao [.tmp 22,.tmp 23] rfl rfl MS rfl (IT hn)) ⟨rfl,rfl,trivial⟩ fun bc=>?_
 refine ar ?_
 refine iS ?_
 exact aL bc [] 2 trivial rfl
theorem xn:dC Tryz.prog 9 1 false:=⟨fun w=>by kernel_rfl,fun w=>by kernel_rfl⟩
theorem MY:ag Tryz.prog 49:=ag.of Tryz.func49 (by kernel_rfl) (by kernel_rfl)
theorem HI:ag Tryz.prog 50:=ag.of Tryz.func50 (by kernel_rfl) (by kernel_rfl)
theorem MV:ag Tryz.prog 84:=ag.of Tryz.func84 (by kernel_rfl) (by kernel_rfl)
theorem BE:ag Tryz.prog 85:=ag.of Tryz.func85 (by kernel_rfl) (by kernel_rfl)
theorem E4:∀w,(zeroValue 92).run Tryz.prog w= .ok (.agg #[.pointer none,.slice none 0 0]) w:=fun w=>by kernel_rfl
theorem Lp:∀S w,(A.cells S w (bA (.pointer none) (.slice none 0 0)) (Value.cells (.agg #[.pointer none,.slice none 0 0])).toList):=fun _ _=>⟨[_],_,rfl,⟨rfl,rfl⟩,rfl,rfl⟩
def ng(ss:List ByteArray):Nat→Int×Int→Option Int
 |0,_=>none
 |n+1,y=>if y.1 < (ss.length:Int) then((a8 ss y.1).bind fun s=>(ck ((9223372036854775807:Int) - y.2)).bind fun z=>if z < (s.size:Int) then none else(ck (y.2+(s.size:Int))).bind fun z2=>(ck (y.1+(1:Int))).bind fun z3=>ng ss n (z3,z2)) else some y.2
def lz(ss:List ByteArray)(sep:ByteArray):Nat→Int×List Int→Option (List Int)
 |0,_=>none
 |n+1,y=>if y.1 < (ss.length:Int) then((a8 ss y.1).bind fun s=>if bU (y.2.length+sep.size)∧bU ((y.2++qW sep).length+s.size) then(ck (y.1+(1:Int))).bind fun z3=>lz ss sep n (z3,(y.2++qW sep)++qW s) else none) else some y.2
def tN(k:Nat)(ss:List ByteArray)(sep:ByteArray):Option ByteArray:=
 if sep.size=1∧bU ss.length then
  if(ss.length:Int)=(0:Int) then some .empty
  else if(ss.length:Int)=(1:Int) then a8 ss 0
  else(ng ss k ((0:Int),(ss.length:Int) - 1)).bind fun n=>
   if 0 < n∧n≤281474976710656 then(a8 ss 0).bind fun s=>if bU s.size then(lz (ss.drop 1) sep k ((0:Int),qW s)).bind fun l=>if l=[] then none else some (qf l) else none else none
 else none
theorem AO(k:Nat)(ss:List ByteArray)(sep:ByteArray)(r:ByteArray)(h:tN k ss sep=some r):
 cd Tryz.prog 51 [.rep (.slice .str) ss,.eq (.string sep)] [] (fun _:Unit=>(bv [.eq (.string r)],[])):=by
 unfold tN at h
 split at h
 case isFalse=>cases h
 rename_i hc
 obtain⟨hsep,hlen⟩:=hc
 unfold bU at hlen
 replace h:=bg h
 refine cd.of 75 Tryz.func51 rfl Tryz.ntmps51 rfl fun S w0=>?_
 refine ah ?_
 refine ab ?_
 refine dK rfl ?_
 refine ar ?_
 refine ae ?_
 show JC _ _ _ _ _
 refine ah ?_
 refine ah ?_
 refine ab ?_
 refine aA rfl rfl ?_
 refine aD rfl (mP rfl rfl Tryz.underlying51) ⟨rfl,trivial⟩ ?_
 refine ar ?_
 refine ae ?_
 show JC _ _ _ _ _
 refine an ?_
 refine ah ?_
 refine ab ?_
 refine aD rfl (eE rfl) ⟨rfl,rfl,trivial⟩ ?_
 refine dr rfl rfl ?_
 refine ar ?_
 refine ae ?_
 show JC _ _ _ _ _
 refine bK rfl (fun hb=>?_) (fun hb=>?_)
 ·
  replace h:=cU (nz hb) h;refine ah ?_;refine ab ?_;refine dK rfl ?_;refine ar ?_;refine ae ?_;show JC _ _ _ _ _;refine aC ?_;refine bp ?_;refine aV ?_;obtain rfl:=Option.some.inj h;exact aL () [_] 0 ⟨rfl,trivial⟩ rfl
 replace h:=bT (m4 hb) h
 have hne0:=m4 hb
 refine ah ?_
 refine ab ?_
 refine aD rfl (eE rfl) ⟨rfl,rfl,trivial⟩ ?_
 refine dr rfl rfl ?_
 refine ar ?_
 refine ae ?_
 show JC _ _ _ _ _
 refine bK rfl (fun hb=>?_) (fun hb=>?_)
 ·
  replace h:=cU (nz hb) h;have es:a8 ss 0=some r:=by simpa using h
  refine ah ?_;refine ab ?_;refine aA rfl rfl ?_;refine aD rfl (aM (t:=.str) rfl Tryz.underlying51 xn es) ⟨rfl,rfl,trivial⟩ ?_;refine aD rfl (ap (t:=.str) rfl xn rfl) ⟨rfl,trivial⟩ ?_;refine dr rfl rfl ?_;refine ar ?_;refine ae ?_;show JC _ _ _ _ _;refine aC ?_;refine bp ?_;refine aV ?_;exact aL () [_] 0 ⟨rfl,trivial⟩ rfl
 replace h:=bT (m4 hb) h
 have hne1:=m4 hb
 refine ba ?_
 refine aP ?_
 refine ae ?_
 show JC _ _ _ _ _
 refine ah ?_
 refine ab ?_
 refine dK rfl ?_
 refine ar ?_
 refine ae ?_
 show JC _ _ _ _ _
 refine ah ?_
 refine ah ?_
 refine ab ?_
 refine aA rfl rfl ?_
 refine aD rfl (mO rfl rfl Tryz.underlying9) ⟨rfl,trivial⟩ ?_
 refine aD rfl (kh rfl) ⟨rfl,rfl,trivial⟩ ?_
 refine ar ?_
 refine ae ?_
 show JC _ _ _ _ _
 have c1:ck ((ss.length:Int) - 1)=some ((ss.length:Int) - 1):=by unfold ck;rw [if_pos (by omega)]
 have c2:ck ((sep.size:Int) * ((ss.length:Int) - 1))=some ((ss.length:Int) - 1):=by rw [hsep];simpa using c1
 have c3:ck (0+((ss.length:Int) - 1))=some ((ss.length:Int) - 1):=by rw [Int.zero_add];exact c1
 refine bK rfl (fun hb=>?_) (fun hb=>absurd (m4 hb) (by omega))
 refine ah ?_
 refine ah ?_
 refine ab ?_
 refine aA rfl rfl ?_
 refine aD rfl (mO rfl rfl Tryz.underlying9) ⟨rfl,trivial⟩ ?_
 refine aA rfl rfl ?_
 refine aD rfl (mP rfl rfl Tryz.underlying51) ⟨rfl,trivial⟩ ?_
 refine aD rfl (d5 rfl c1) ⟨rfl,rfl,trivial⟩ ?_
 refine aD rfl (Om rfl (by omega)) ⟨rfl,rfl,trivial⟩ ?_
 refine aD rfl (pW rfl) ⟨rfl,rfl,trivial⟩ ?_
 refine ar ?_
 refine ae ?_
 show JC _ _ _ _ _
 refine bK rfl (fun hb=>?_) (fun hb=>?_)
 ·
  exfalso;have h1:=nz hb;have q1:(9223372036854775807:Int).tdiv ((ss.length:Int) - 1)=9223372036854775807 / ((ss.length:Int) - 1):=Int.tdiv_eq_ediv_of_nonneg (by omega);have q2:(2:Int)≤9223372036854775807 / ((ss.length:Int) - 1):=Int.le_ediv_of_mul_le (by omega) (by omega);have q3:(9223372036854775807:Int) / ((ss.length:Int) - 1)≤9223372036854775807:=Int.ediv_le_self _ (by omega);rw [q1,rM (z:=9223372036854775807 / ((ss.length:Int) - 1)) (by unfold ck;rw [if_pos (by omega)])] at h1;omega
 refine ba ?_
 refine ae ?_
 show JC _ _ _ _ _
 refine ab ?_
 refine aA rfl rfl ?_
 refine aA rfl rfl ?_
 refine aD rfl (mO rfl rfl Tryz.underlying9) ⟨rfl,trivial⟩ ?_
 refine aA rfl rfl ?_
 refine aD rfl (mP rfl rfl Tryz.underlying51) ⟨rfl,trivial⟩ ?_
 refine aD rfl (d5 rfl c1) ⟨rfl,rfl,trivial⟩ ?_
 refine aD rfl (K8 rfl c2) ⟨rfl,rfl,trivial⟩ ?_
 refine aD rfl (bm rfl c3) ⟨rfl,rfl,trivial⟩ ?_
 refine dr rfl rfl ?_
 refine ar ?_
 refine ae ?_
 show JC _ _ _ _ _
 rw [Option.bind_assoc] at h
 refine ah ?_
 refine ah ?_
 refine ab ?_
 refine aA rfl rfl ?_
 refine aD rfl (mP rfl rfl Tryz.underlying51) ⟨rfl,trivial⟩ ?_
 refine eT rfl ?_
 refine ar ?_
 refine ae ?_
 show JC _ _ _ _ _
 refine an ?_
 refine aN (Z:=Unit) (α:=Int×Int) (fun _ y=>[(0,.rep (.slice .str) ss),(1,.eq (.string sep)),(5,.eq (.int .i64 y.2)),(39,.rep (.slice .str) ss),(40,.eq (.int .i64 (ss.length:Int))),(41,.eq (.int .i64 y.1))]) (fun _ _=>[]) (ng ss) k () ((0:Int),(ss.length:Int) - 1) (fun _=>rfl) h (SE.fin [] ⟨rfl,rfl,rfl,rfl,rfl,rfl,trivial⟩ rfl) (fun n z y h=>?_)
 unfold ng at h
 refine ah ?_
 refine ab ?_
 refine aD rfl (bG rfl) ⟨rfl,rfl,trivial⟩ ?_
 refine ar ?_
 refine ae ?_
 show JC _ _ _ _ _
 refine ah ?_
 refine bK rfl (fun hb=>?_) (fun hb=>?_)
 ·
  replace h:=cU (nz hb) h;refine ba ?_;refine ae ?_;show JC _ _ _ _ _;refine ah ?_;refine an ?_;refine ah ?_;refine ab ?_;obtain⟨s,es,h⟩:=aa h;refine aD rfl (aM (t:=.str) rfl Tryz.underlying51 xn es) ⟨rfl,rfl,trivial⟩ ?_;refine aD rfl (ap (t:=.str) rfl xn rfl) ⟨rfl,trivial⟩ ?_;refine dr rfl rfl ?_;refine ar ?_;refine ae ?_;show JC _ _ _ _ _;refine ah ?_;refine ah ?_;refine ab ?_;refine aA rfl rfl ?_;refine aD rfl (mO rfl rfl Tryz.underlying9) ⟨rfl,trivial⟩ ?_;refine aA rfl rfl ?_;obtain⟨z,ez,h⟩:=aa h;refine aD rfl (d5 rfl ez) ⟨rfl,rfl,trivial⟩ ?_;refine aD rfl (kh rfl) ⟨rfl,rfl,trivial⟩ ?_;refine ar ?_;refine ae ?_;show JC _ _ _ _ _;refine bK rfl (fun hb=>?_) (fun hb=>?_)
  ·replace h:=cU (nz hb) h;cases h
  replace h:=bT (m4 hb) h;refine ba ?_;refine ae ?_;show JC _ _ _ _ _;refine ab ?_;refine aA rfl rfl ?_;refine aA rfl rfl ?_;refine aD rfl (mO rfl rfl Tryz.underlying9) ⟨rfl,trivial⟩ ?_;obtain⟨z2,ez2,h⟩:=aa h;refine aD rfl (bm rfl ez2) ⟨rfl,rfl,trivial⟩ ?_;refine dr rfl rfl ?_;refine ar ?_;refine aP ?_;refine ae ?_;show JC _ _ _ _ _;refine ab ?_;obtain⟨z3,ez3,h⟩:=aa h;refine aD rfl (bm rfl ez3) ⟨rfl,rfl,trivial⟩ ?_;refine aA rfl rfl ?_;refine ar ?_;refine ae ?_;exact iR ((),(z3,z2)) h (SE.fin [] ⟨rfl,rfl,rfl,rfl,rfl,rfl,trivial⟩ rfl)
 replace h:=bT (m4 hb) h
 refine dD ?_
 refine aQ ?_
 refine aQ ?_
 refine bR ?_
 refine ae ?_
 show JC _ _ _ _ _
 replace h:((if 0 < y.2∧y.2≤281474976710656 then(a8 ss 0).bind fun s=>if bU s.size then(lz (ss.drop 1) sep k ((0:Int),qW s)).bind fun l=>if l=[] then none else some (qf l) else none else none):Option ByteArray).bind some=some r:=h
 obtain⟨y1,y2⟩:=y
 have hy:0 < y2∧y2≤281474976710656:=by
  apply Classical.byContradiction;intro hn;rw [if_neg hn] at h;cases h
 replace h:=cU hy h
 obtain⟨m,rfl⟩:=Int.eq_ofNat_of_zero_le (show 0≤y2 by omega)
 obtain⟨s0,es0,h⟩:=aa h
 have hs0:bU s0.size:=by
  apply Classical.byContradiction;intro hn;rw [if_neg hn] at h;cases h
 replace h:=cU hs0 h
 rw [Option.bind_assoc] at h
 refine ah ?_
 refine ab ?_
 refine aE rfl rfl rfl (aZ rfl E4 Lp) trivial fun b=>?_
 refine ar ?_
 refine ae ?_
 show JC _ _ _ _ _
 refine ah ?_
 refine ab ?_
 refine aA rfl rfl ?_
 refine bN (Δ:=[_]) (F:=_) (fun _ _ _=>ay rfl _) rfl rfl (ao [.tmp 8,.tmp 56] rfl rfl MV rfl (FR (b:=b) (n:=m) (by omega) (by omega))) ⟨rfl,rfl,trivial⟩ fun bc=>?_
 refine ar ?_
 refine ae ?_
 show JC _ _ _ _ _
 refine ah ?_
 refine ab ?_
 refine aA rfl rfl ?_
 refine aD rfl (aM (t:=.str) rfl Tryz.underlying51 xn es0) ⟨rfl,rfl,trivial⟩ ?_
 refine aD rfl (ap (t:=.str) rfl xn rfl) ⟨rfl,trivial⟩ ?_
 refine bN (Δ:=[_,_]) (F:=_) (fun _ _ _=>ay rfl _) rfl rfl (ao [.tmp 8,.tmp 60] rfl rfl BE rfl (lA (b:=b) (p:=some ⟨b,0,none⟩) (v:=AP bc) (l:=[]) (s:=s0) (.inr rfl) rfl (by simpa using hs0))) ⟨rfl,rfl,trivial⟩ fun v0=>?_
 refine ar ?_
 refine ae ?_
 show JC _ _ _ _ _
 refine ah ?_
 refine ah ?_
 refine ab ?_
 refine aA rfl rfl ?_
 refine aD rfl (D7 (t:=.str) rfl Tryz.underlying51 xn (by decide) (by omega)) ⟨rfl,rfl,trivial⟩ ?_
 refine aD rfl (mP rfl rfl Tryz.underlying51) ⟨rfl,trivial⟩ ?_
 refine eT rfl ?_
 refine ar ?_
 refine ae ?_
 show JC _ _ _ _ _
 refine an ?_
 refine aN (Z:=Value) (α:=Int×List Int) (fun _ y=>[(1,.eq (.string sep)),(8,.eq (bP b)),(63,.rep (.slice .str) (ss.drop 1)),(64,.eq (.int .i64 ((ss.drop 1).length:Int))),(65,.eq (.int .i64 y.1))]) (fun v y=>[.obj b 92 (bA (bP b) v),.sl v 5 (.int .u8) y.2]) (lz (ss.drop 1) sep) k v0 ((0:Int),qW s0) (fun _=>rfl) h (SE.fin [0,1] ⟨rfl,rfl,rfl,rfl,rfl,trivial⟩ rfl) (fun n v y h=>?_)
 unfold lz at h
 refine ah ?_
 refine ab ?_
 refine aD rfl (bG rfl) ⟨rfl,rfl,trivial⟩ ?_
 refine ar ?_
 refine ae ?_
 show JC _ _ _ _ _
 refine ah ?_
 refine bK rfl (fun hb=>?_) (fun hb=>?_)
 ·
  replace h:=cU (nz hb) h;refine ba ?_;refine ae ?_;show JC _ _ _ _ _;refine ah ?_;refine an ?_;refine ah ?_;refine ab ?_;obtain⟨s,es,h⟩:=aa h;refine aD rfl (aM (t:=.str) rfl Tryz.underlying51 xn es) ⟨rfl,rfl,trivial⟩ ?_;refine aD rfl (ap (t:=.str) rfl xn rfl) ⟨rfl,trivial⟩ ?_;refine dr rfl rfl ?_;refine ar ?_;refine ae ?_;show JC _ _ _ _ _
  have hk:bU (y.2.length+sep.size)∧bU ((y.2++qW sep).length+s.size):=by
   apply Classical.byContradiction;intro hn;rw [if_neg hn] at h;cases h
  replace h:=cU hk h;refine vr 1 rfl fun hv=>?_;refine ah ?_;refine ab ?_;refine aA rfl rfl ?_;refine bN (Δ:=[_,_]) (F:=_) (fun _ _ _=>ay rfl _) rfl rfl (ao [.tmp 8,.tmp 69] rfl rfl BE rfl (lA (b:=b) (p:=some ⟨b,0,none⟩) (s:=sep) (.inr rfl) hv hk.1)) ⟨rfl,rfl,trivial⟩ fun v1=>?_;refine ar ?_;refine ae ?_;show JC _ _ _ _ _;refine vr 1 rfl fun hv1=>?_;refine ab ?_;refine aA rfl rfl ?_;refine bN (Δ:=[_,_]) (F:=_) (fun _ _ _=>ay rfl _) rfl rfl (ao [.tmp 8,.tmp 71] rfl rfl BE rfl (lA (b:=b) (p:=some ⟨b,0,none⟩) (s:=s) (.inr rfl) hv1 hk.2)) ⟨rfl,rfl,trivial⟩ fun v2=>?_;refine ar ?_;refine aP ?_;refine ae ?_;show JC _ _ _ _ _;refine ab ?_;obtain⟨z3,ez3,h⟩:=aa h;refine aD rfl (bm rfl ez3) ⟨rfl,rfl,trivial⟩ ?_;refine aA rfl rfl ?_;refine ar ?_;refine ae ?_;exact iR (v2,(z3,(y.2++qW sep)++qW s)) h (SE.fin [0,1] ⟨rfl,rfl,rfl,rfl,rfl,trivial⟩ rfl)
 replace h:=bT (m4 hb) h
 refine dD ?_
 refine aQ ?_
 refine aQ ?_
 refine bR ?_
 refine ae ?_
 show JC _ _ _ _ _
 replace h:(if y.2=[] then none else some (qf y.2):Option ByteArray).bind some=some r:=h
 have hy2:y.2≠[]:=by
  intro hn;rw [if_pos hn] at h;cases h
 rw [if_neg hy2] at h
 obtain rfl:=Option.some.inj h
 refine ah ?_
 refine ab ?_
 refine bN (Δ:=[_,_]) (F:=_) (fun _ _ _=>ay rfl _) rfl rfl (ao [.tmp 8] rfl rfl HI rfl (wc (b:=b) (fun hn=>absurd hn hy2))) ⟨rfl,trivial⟩ fun _=>?_
 refine dr rfl rfl ?_
 refine ar ?_
 refine ae ?_
 show JC _ _ _ _ _
 refine aC ?_
 exact aL () [_] 0 ⟨rfl,trivial⟩ rfl
end Go.Proofs.YtmeojbemjkmebaaGreatDoor
