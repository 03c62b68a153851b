import Derived.Test.YtmeojbemjkmebaaGreatDoorRFB5
import Derived.Test.YtmeojbemjkmebaaGreatDoorProg
import Derived.Stop.Asserts
set_option linter.unusedSimpArgs false
set_option linter.unusedVariables false
set_option maxRecDepth 20000
set_option maxHeartbeats 4000000
namespace Go.Proofs.YtmeojbemjkmebaaGreatDoor
open K Go Go.Proofs Go.Extern
theorem A9:dG Tryz.prog 89 1 false:=⟨fun w=>by kernel_rfl,fun w=>by kernel_rfl⟩
theorem jM:dG Tryz.prog 90 1 false:=⟨fun w=>by kernel_rfl,fun w=>by kernel_rfl⟩
theorem MW:a9 Tryz.prog 92 0 0:=a9.of (by kernel_rfl)
theorem sw:a9 Tryz.prog 92 1 1:=a9.of (by kernel_rfl)
theorem Bd:lj Tryz.prog 90 5 1 1:=.of (z:=(.int .u8 (0))) Tryz.underlying90 (by kernel_rfl) rfl rfl rfl
theorem Nb:fS Tryz.prog 113 Extern.AbiNoEscape.same:=.of Tryz.func113 (by kernel_rfl) (by kernel_rfl) (by kernel_rfl) (by kernel_rfl)
theorem Cf:ah Tryz.prog 82:=ah.of Tryz.func82 (by kernel_rfl) (by kernel_rfl)
theorem Nh:ah Tryz.prog 83:=ah.of Tryz.func83 (by kernel_rfl) (by kernel_rfl)
@[reducible] def bA(p v:Value):A:=.agg (.pair (.eq p) (.eq v))
abbrev bP(b:Nat):Value:=.pointer (some ⟨b,0,none⟩)
theorem vu{p:Option Addr}:Ns Tryz.prog (binOp .eql 89 (.pointer p) (.pointer none)):=by
 cases p with
 |none=>exact oD (by kernel_rfl)
 |some p=>exact oD (by kernel_rfl)
theorem Ej{p:Option Addr}{x y:Operand}(w:World):(do eqGuard .eql 89 x y (.pointer p) (.pointer none);binOp .eql 89 (.pointer p) (.pointer none):Sem Value).run Tryz.prog w= .ok (.bool p.isNone) w:=by
 cases p <;> kernel_rfl
theorem BK{p:Addr}:Ns Tryz.prog (binOp .neq 89 (.pointer (some p)) (.pointer (some p))):=by
 refine ai (s:=Op.equal 89 (.pointer (some p)) (.pointer (some p))) ?_ fun _=>bp;show Ns Tryz.prog (Op.equalIn (9999+1) 89 (.pointer (some p)) (.pointer (some p)));unfold Op.equalIn;refine cg Tryz.underlying89 (ai cP fun n=>tl ?_ (tl bp (ai fu fun _=>bp)));unfold sameAddr;simp only [beq_self_eq_true,if_true];exact bp
theorem MG:∃j,Tryz.prog.info? 92=some j∧j.size≠0:=by
 obtain⟨j,h1,h2⟩:=Option.map_eq_some_iff.1 (show(Tryz.prog.info? 92).map (·.size)=some 2 by kernel_rfl);exact⟨j,h1,by omega⟩
theorem nS{b:Nat}{p:Option Addr}{v:Value}(hp:p=none∨p=some ⟨b,0,none⟩)(hv:bu v=true):cm Tryz.prog 82 [.eq (bP b)] [.obj b 92 (bA (.pointer p) v)] (fun _:Unit=>(bz [],[.obj b 92 (bA (bP b) v)])):=by
 obtain⟨j162,inf162_eq,inf162_sz⟩:=MG;refine cm.of 20 Tryz.func82 rfl Tryz.ntmps82 rfl fun S w0=>?_;refine ae ?_;refine ab ?_;refine aC rfl rfl ?_;refine aF rfl (ba rfl) ⟨rfl,trivial⟩ ?_;refine aF rfl (aA rfl MW) ⟨rfl,trivial⟩ ?_;refine bV rfl rfl rfl (ap rfl A9 (fun _=>rfl) rfl) ⟨rfl,trivial⟩ ?_;refine aF rfl (g7 rfl Ej vu) ⟨rfl,rfl,trivial⟩ ?_;refine au ?_;refine ag ?_;show JC _ _ _ _ _;refine bC rfl (fun hb=>?_) (fun hb=>?_)
 ·refine ab ?_;refine aC rfl rfl ?_;refine aC rfl rfl ?_;refine bV rfl rfl rfl (Bz rfl Tryz.underlying89 Tryz.underlying180 inf162_eq inf162_sz rfl) ⟨rfl,trivial⟩ ?_;refine aF rfl (GU Nb [.tmp 9] [bP b] rfl rfl rfl (fun _=>rfl) bp) ⟨rfl,trivial⟩ ?_;refine bV rfl rfl rfl (xW rfl Tryz.underlying180 Tryz.underlying89 inf162_eq (by kernel_rfl)) ⟨rfl,trivial⟩ ?_;refine aF rfl (ba rfl) ⟨rfl,trivial⟩ ?_;refine aF rfl (aA rfl MW) ⟨rfl,trivial⟩ ?_;refine bj rfl rfl (bm rfl A9 rfl rfl rfl) ⟨rfl,rfl,trivial⟩ ?_;refine au ?_;refine jg ?_;exact aN () [] 1 trivial rfl
 ·have hp':p=some ⟨b,0,none⟩:=by
   rcases hp with rfl |rfl
   ·cases hb
   ·rfl
  subst hp';refine ae ?_;refine ab ?_;refine aC rfl rfl ?_;refine aF rfl (ba rfl) ⟨rfl,trivial⟩ ?_;refine aF rfl (aA rfl MW) ⟨rfl,trivial⟩ ?_;refine bV rfl rfl rfl (ap rfl A9 (fun _=>rfl) rfl) ⟨rfl,trivial⟩ ?_;refine aC rfl rfl ?_;refine aF rfl (GM rfl Tryz.underlying89 inf162_eq BK) ⟨rfl,rfl,trivial⟩ ?_;refine au ?_;refine ag ?_;show JC _ _ _ _ _;refine bC rfl (fun hb=>(by cases hb)) (fun hb=>?_);refine aY ?_;refine jg ?_;exact aN () [] 1 trivial rfl
theorem we{v:Value}{l:List Int}{r:Int}(h0:0≤r)(h1:r≤127)(hl:bO (l.length+1)):cm Tryz.prog 83 [.eq v,.eq (.int .i32 r)] [.sl v 5 (.int .u8) l] (fun v':Value=>(bz [.eq v'],[.sl v' 5 (.int .u8) (l++[r])])):=by
 refine cm.of 16 Tryz.func83 rfl Tryz.ntmps83 rfl fun S w0=>?_;have w32:IntKind.u32.wrap r=r:=by simp [IntKind.wrap,IntKind.bits,IntKind.signed];omega
 have w8:IntKind.u8.wrap r=r:=by simp [IntKind.wrap,IntKind.bits,IntKind.signed];omega
 refine ae ?_;refine ab ?_;refine dD rfl ?_;refine au ?_;refine ag ?_;show JC _ _ _ _ _;refine ae ?_;refine ae ?_;refine ab ?_;refine aC rfl rfl ?_;refine aF rfl (oW rfl Tryz.underlying21 Tryz.underlying172) ⟨rfl,trivial⟩ ?_;rw [w32];refine aF rfl (t4 rfl) ⟨rfl,rfl,trivial⟩ ?_;refine au ?_;refine ag ?_;show JC _ _ _ _ _;refine bC rfl (fun hb=>?_) (fun hb=>absurd h1 (by simpa using hb));refine ae ?_;refine ab ?_;refine aC rfl rfl ?_;refine aC rfl rfl ?_;refine aF rfl (oW rfl Tryz.underlying21 Tryz.underlying5) ⟨rfl,trivial⟩ ?_;rw [w8];refine aF rfl (bi (t:=(.int .u8)) [(.tmp 10,.eq (.int .u8 r))] [r] rfl rfl Bd (.cons rfl .int .nil) rfl rfl) ⟨rfl,trivial⟩ ?_;refine dz rfl rfl rfl (bQ rfl rfl Bd (by simpa using hl)) ⟨rfl,rfl,trivial⟩ fun v'=>?_;refine c9 rfl rfl ?_;refine au ?_;refine ag ?_;show JC _ _ _ _ _;refine aB ?_;refine aO ?_;exact aN v' [_] 1 ⟨rfl,trivial⟩ rfl
theorem xI{b:Nat}{p:Option Addr}{v:Value}{l:List Int}{r:Int}(hp:p=none∨p=some ⟨b,0,none⟩)(hv:bu v=true)(h0:0≤r)(h1:r≤127)(hl:bO (l.length+1)):
 cm Tryz.prog 49 [.eq (bP b),.eq (.int .i32 r)] [.obj b 92 (bA (.pointer p) v),.sl v 5 (.int .u8) l]
  (fun v':Value=>(bz [.eq (.int .i64 1),.eq .nilIface],[.obj b 92 (bA (bP b) v'),.sl v' 5 (.int .u8) (l++[r])])):=by
 refine cm.of 30 Tryz.func49 rfl Tryz.ntmps49 rfl fun S w0=>?_
 refine ae ?_
 refine ab ?_
 refine dD rfl ?_
 refine dD rfl ?_
 refine au ?_
 refine ag ?_
 show JC _ _ _ _ _
 refine ae ?_
 refine ab ?_
 refine aC rfl rfl ?_
 refine bV rfl rfl rfl (ar [.tmp 7] rfl rfl Cf rfl (nS hp hv)) ⟨rfl,trivial⟩ ?_
 refine au ?_
 refine ag ?_
 show JC _ _ _ _ _
 refine ae ?_
 refine ab ?_
 refine aC rfl rfl ?_
 refine aF rfl (ba rfl) ⟨rfl,trivial⟩ ?_
 refine aF rfl (aA rfl sw) ⟨rfl,trivial⟩ ?_
 refine bV rfl rfl rfl (ap rfl jM (fun _=>rfl) rfl) ⟨rfl,trivial⟩ ?_
 refine bH 1 rfl ?_
 refine bV rfl rfl rfl (cO rfl rfl Tryz.underlying90) ⟨rfl,trivial⟩ ?_
 refine c9 rfl rfl ?_
 refine au ?_
 refine ag ?_
 show JC _ _ _ _ _
 refine ae ?_
 refine ab ?_
 refine aC rfl rfl ?_
 refine aC rfl rfl ?_
 refine aF rfl (ba rfl) ⟨rfl,trivial⟩ ?_
 refine aF rfl (aA rfl sw) ⟨rfl,trivial⟩ ?_
 refine bH 1 rfl ?_
 refine bV rfl rfl rfl (ap rfl jM (fun _=>rfl) rfl) ⟨rfl,trivial⟩ ?_
 refine aC rfl rfl ?_
 refine bH 1 rfl ?_
 refine dz rfl rfl rfl (ar [.tmp 18,.tmp 19] rfl rfl Nh rfl (we h0 h1 hl)) ⟨rfl,rfl,trivial⟩ fun v'=>?_
 refine fg fun hv'=>?_
 refine aF rfl (ba rfl) ⟨rfl,trivial⟩ ?_
 refine aF rfl (aA rfl sw) ⟨rfl,trivial⟩ ?_
 refine bH 1 rfl ?_
 refine bj rfl rfl (bm rfl jM hv' rfl rfl) ⟨rfl,rfl,trivial⟩ ?_
 refine au ?_
 refine ag ?_
 show JC _ _ _ _ _
 refine ae ?_
 refine ab ?_
 refine aC rfl rfl ?_
 refine aF rfl (ba rfl) ⟨rfl,trivial⟩ ?_
 refine aF rfl (aA rfl sw) ⟨rfl,trivial⟩ ?_
 refine bV rfl rfl rfl (ap rfl jM (fun _=>rfl) rfl) ⟨rfl,trivial⟩ ?_
 refine bH 1 rfl ?_
 refine bV rfl rfl rfl (cO rfl rfl Tryz.underlying90) ⟨rfl,trivial⟩ ?_
 refine aC rfl rfl ?_
 have hck:ck (((l++[r]).length:Int) - (l.length:Int))=some 1:=by
  have:(((l++[r]).length:Int) - (l.length:Int))=1:=by simp;omega
  rw [this];rfl
 refine aF rfl (eO rfl hck) ⟨rfl,rfl,trivial⟩ ?_
 refine c9 rfl rfl ?_
 refine dD rfl ?_
 refine au ?_
 refine ag ?_
 show JC _ _ _ _ _
 refine aB ?_
 refine bh (SE.fin (Γ':=[(4,_),(5,_)]) [1,0] ⟨rfl,rfl,trivial⟩ rfl) ?_
 exact aN v' [_,_] 2 ⟨rfl,rfl,trivial⟩ rfl
theorem SV:Tryz.prog.cellsOf 5=1:=by kernel_rfl
theorem qW:Tryz.prog.follows .mixedOrders=true:=by kernel_rfl
theorem wJ{b:Nat}{p v:Value}{l:List Int}(hl:l=[]→v= .slice none 0 0):
 cm Tryz.prog 50 [.eq (bP b)] [.obj b 92 (bA p v),.sl v 5 (.int .u8) l] (fun _:Unit=>(bz [.eq (.string (di l))],[])):=by
 refine cm.of 14 Tryz.func50 rfl Tryz.ntmps50 rfl fun S w0=>?_
 refine ae ?_
 refine ab ?_
 refine dD rfl ?_
 refine au ?_
 refine ag ?_
 show JC _ _ _ _ _
 refine ae ?_
 refine bK ?_
 refine dA rfl rfl rfl (aR rfl) ⟨rfl,trivial⟩ ?_
 refine dA rfl rfl rfl (ba rfl) ⟨rfl,trivial⟩ ?_
 refine dA rfl rfl rfl (aA rfl sw) ⟨rfl,trivial⟩ ?_
 refine ov 0 rfl rfl rfl rfl (ap rfl jM (fun _=>rfl) rfl) ⟨rfl,trivial⟩ ?_
 refine ov 1 rfl rfl rfl rfl (zA rfl rfl hl) ⟨rfl,trivial⟩ ?_
 refine dA rfl rfl rfl (aR rfl) ⟨rfl,trivial⟩ ?_
 refine dA rfl rfl rfl (ba rfl) ⟨rfl,trivial⟩ ?_
 refine dA rfl rfl rfl (aA rfl sw) ⟨rfl,trivial⟩ ?_
 refine ov 0 rfl rfl rfl rfl (ap rfl jM (fun _=>rfl) rfl) ⟨rfl,trivial⟩ ?_
 refine ov 1 rfl rfl rfl rfl (cO rfl rfl Tryz.underlying90) ⟨rfl,trivial⟩ ?_
 refine tU (by kernel_rfl) qW ?_
 refine bH 1 rfl ?_
 refine bG (Δ:=[_]) (F:=_) (fun _ _ _=>ay rfl _) rfl rfl (vk rfl rfl Tryz.underlying149 SV hl) ⟨rfl,rfl,trivial⟩ fun _=>?_
 refine c9 rfl rfl ?_
 refine au ?_
 refine ag ?_
 show JC _ _ _ _ _
 refine aB ?_
 exact aN () [_] 0 ⟨rfl,trivial⟩ rfl
theorem Q7:(Tryz.prog.info? 5).bind (·.zero)=some (.int .u8 0):=by kernel_rfl
theorem lU{b:Nat}{p:Option Addr}{v:Value}{l:List Int}{s:ByteArray}(hp:p=none∨p=some ⟨b,0,none⟩)(hv:bu v=true)(hl:bO (l.length+s.size)):
 cm Tryz.prog 85 [.eq (bP b),.eq (.string s)] [.obj b 92 (bA (.pointer p) v),.sl v 5 (.int .u8) l]
  (fun v':Value=>(bz [.eq (.int .i64 s.size),.eq .nilIface],[.obj b 92 (bA (bP b) v'),.sl v' 5 (.int .u8) (l++jN s)])):=by
 refine cm.of 19 Tryz.func85 rfl Tryz.ntmps85 rfl fun S w0=>?_
 refine ae ?_
 refine ab ?_
 refine dD rfl ?_
 refine dD rfl ?_
 refine au ?_
 refine ag ?_
 show JC _ _ _ _ _
 refine ae ?_
 refine ab ?_
 refine aC rfl rfl ?_
 refine bV rfl rfl rfl (ar [.tmp 6] rfl rfl Cf rfl (nS hp hv)) ⟨rfl,trivial⟩ ?_
 refine au ?_
 refine ag ?_
 show JC _ _ _ _ _
 refine ae ?_
 refine ab ?_
 refine aC rfl rfl ?_
 refine aC rfl rfl ?_
 refine aF rfl (ba rfl) ⟨rfl,trivial⟩ ?_
 refine aF rfl (aA rfl sw) ⟨rfl,trivial⟩ ?_
 refine bV rfl rfl rfl (ap rfl jM (fun _=>rfl) rfl) ⟨rfl,trivial⟩ ?_
 refine aC rfl rfl ?_
 refine bH 1 rfl ?_
 refine dz rfl rfl rfl (zH rfl rfl Bd Tryz.underlying9 Q7 (by decide) hl) ⟨rfl,rfl,trivial⟩ fun v'=>?_
 refine fg fun hv'=>?_
 refine aF rfl (ba rfl) ⟨rfl,trivial⟩ ?_
 refine aF rfl (aA rfl sw) ⟨rfl,trivial⟩ ?_
 refine bH 1 rfl ?_
 refine bj rfl rfl (bm rfl jM hv' rfl rfl) ⟨rfl,rfl,trivial⟩ ?_
 refine au ?_
 refine ag ?_
 show JC _ _ _ _ _
 refine ae ?_
 refine ab ?_
 refine aC rfl rfl ?_
 refine aF rfl (nn rfl rfl Tryz.underlying9) ⟨rfl,trivial⟩ ?_
 refine c9 rfl rfl ?_
 refine dD rfl ?_
 refine au ?_
 refine ag ?_
 show JC _ _ _ _ _
 refine aB ?_
 exact aN v' [_,_] 2 ⟨rfl,rfl,trivial⟩ rfl
theorem M9:fS Tryz.prog 146 (Extern.BytealgMakeNoZero.makeNoZero #[3] #[90]):=.of Tryz.func146 (by kernel_rfl) (by kernel_rfl) (by kernel_rfl) (by kernel_rfl)
theorem Na:ah Tryz.prog 115:=ah.of Tryz.func115 (by kernel_rfl) (by kernel_rfl)
def Q9:Value→List D
 | .slice (some ⟨b,0,none⟩) m c=>[.sl (.slice (some ⟨b,0,none⟩) 0 c) 5 (.int .u8) []]
 |_=>[Ic]
theorem LQ{v:Value}(h:∀d∈Q9 v,∃S w,d.holds S w):∃b m c,v= .slice (some ⟨b,0,none⟩) m c:=by
 unfold Q9 at h;split at h
 ·exact⟨_,_,_,rfl⟩
 ·obtain⟨S,w,hb⟩:=h Ic (by simp);exact absurd hb Ax
theorem OF:dG Tryz.prog 5 1 false:=⟨fun w=>by kernel_rfl,fun w=>by kernel_rfl⟩
theorem Gf{b cap:Nat}:sliced (some ⟨b,0,none⟩) 0 (Int.toNat 0) cap 1= .slice (some ⟨b,0,none⟩) 0 cap:=CU
abbrev Bf(bc:Nat×Nat):Value:=.slice (some ⟨bc.1,0,none⟩) 0 bc.2
theorem I9{b n:Nat}{p:Value}(hn:n≤281474976710656):
 cm Tryz.prog 115 [.eq (bP b),.eq (.int .i64 n)] [.obj b 92 (bA p (.slice none 0 0))] (fun bc:Nat×Nat=>(bz [],[.obj b 92 (bA p (Bf bc)),.sl (Bf bc) 5 (.int .u8) []])):=by
 refine cm.of 30 Tryz.func115 rfl Tryz.ntmps115 rfl fun S w0=>?_
 have c1:ck (2 * ((0:Nat):Int))=some 0:=rfl
 have c2:ck (0+(n:Int))=some (n:Int):=by rw [Int.zero_add];unfold ck;rw [if_pos (by omega)]
 refine ae ?_
 refine j0 ?_
 refine aH rfl rfl rfl (aR rfl) ⟨rfl,trivial⟩ ?_
 refine aH rfl rfl rfl (ba rfl) ⟨rfl,trivial⟩ ?_
 refine aH rfl rfl rfl (aA rfl sw) ⟨rfl,trivial⟩ ?_
 refine dh 0 rfl rfl rfl rfl (ap rfl jM (fun _=>rfl) rfl) ⟨rfl,trivial⟩ ?_
 refine aH rfl rfl rfl (GW rfl rfl Tryz.underlying90) ⟨rfl,trivial⟩ ?_
 refine aH rfl rfl rfl (Lp rfl c1) ⟨rfl,rfl,trivial⟩ ?_
 refine aH rfl rfl rfl (aR rfl) ⟨rfl,trivial⟩ ?_
 refine aH rfl rfl rfl (bf rfl c2) ⟨rfl,rfl,trivial⟩ ?_
 refine DX Q9 (fun _=>rfl) rfl rfl rfl (GL M9 rfl rfl Tryz.underlying90 hn) ⟨rfl,trivial⟩ ?_
 refine aH rfl rfl rfl (aR rfl) ⟨rfl,trivial⟩ ?_
 refine aH rfl rfl rfl (ba rfl) ⟨rfl,trivial⟩ ?_
 refine aH rfl rfl rfl (aA rfl sw) ⟨rfl,trivial⟩ ?_
 refine dh 0 rfl rfl rfl rfl (ap rfl jM (fun _=>rfl) rfl) ⟨rfl,trivial⟩ ?_
 refine aH rfl rfl rfl (GP rfl rfl Tryz.underlying90) ⟨rfl,trivial⟩ ?_
 refine m5 14 [true,true,true,true,true,true,true,true,true,true,true,true,true,true] [19,4] [] [] rfl (by kernel_rfl) (by kernel_rfl) (by kernel_rfl) qW (fun vs hv hB=>?_)
 obtain⟨u0,vs1,rfl,hv1⟩:=ak hv
 obtain⟨u1,vs2,rfl,hv2⟩:=ak hv1
 obtain⟨u2,vs3,rfl,hv3⟩:=ak hv2
 obtain⟨u3,vs4,rfl,hv4⟩:=ak hv3
 obtain⟨u4,vs5,rfl,hv5⟩:=ak hv4
 obtain⟨u5,vs6,rfl,hv6⟩:=ak hv5
 obtain⟨u6,vs7,rfl,hv7⟩:=ak hv6
 obtain⟨u7,vs8,rfl,hv8⟩:=ak hv7
 obtain⟨u8,vs9,rfl,hv9⟩:=ak hv8
 obtain⟨u9,vs10,rfl,hv10⟩:=ak hv9
 obtain⟨u10,vs11,rfl,hv11⟩:=ak hv10
 obtain⟨u11,vs12,rfl,hv12⟩:=ak hv11
 obtain⟨u12,vs13,rfl,hv13⟩:=ak hv12
 obtain⟨u13,vs14,rfl,hv14⟩:=ak hv13
 obtain rfl:=kH hv14
 obtain⟨g,m,q,rfl⟩:=LQ hB.2.2.2.2.2.2.2.2.1
 refine⟨[0,1],[.obj b 92 (bA p (.slice none 0 0)),.sl (Bf (g,q)) 5 (.int .u8) []],by kernel_rfl,by decide,?_⟩
 refine rj rfl rfl rfl rfl (vn rfl Tryz.underlying90 OF (Int.le_refl 0) (Int.natCast_nonneg _)) ⟨rfl,rfl,trivial⟩ (by kernel_rfl) ?_
 rw [Gf]
 refine rj rfl rfl rfl rfl (gh rfl) ⟨rfl,trivial⟩ (by kernel_rfl) ?_
 refine rm ?_
 refine bh (SE.fin (Γ':=[(0,.eq (bP b)),(4,.eq (Bf (g,q)))]) (Δ':=[.obj b 92 (bA p (.slice none 0 0)),.sl (Bf (g,q)) 5 (.int .u8) []]) [0,1] ⟨rfl,rfl,trivial⟩ rfl) ?_
 refine ag ?_
 show JC _ _ _ _ _
 refine ae ?_
 refine ab ?_
 refine aC rfl rfl ?_
 refine aC rfl rfl ?_
 refine aF rfl (ba rfl) ⟨rfl,trivial⟩ ?_
 refine aF rfl (aA rfl sw) ⟨rfl,trivial⟩ ?_
 refine bV rfl rfl rfl (ap rfl jM (fun _=>rfl) rfl) ⟨rfl,trivial⟩ ?_
 refine aF rfl (Jm rfl rfl Tryz.underlying90 OF) ⟨rfl,rfl,trivial⟩ ?_
 refine au ?_
 refine ag ?_
 show JC _ _ _ _ _
 refine ab ?_
 refine aC rfl rfl ?_
 refine aC rfl rfl ?_
 refine aF rfl (ba rfl) ⟨rfl,trivial⟩ ?_
 refine aF rfl (aA rfl sw) ⟨rfl,trivial⟩ ?_
 refine bj rfl rfl (bm rfl jM rfl rfl rfl) ⟨rfl,rfl,trivial⟩ ?_
 refine au ?_
 refine jg ?_
 exact aN (g,q) [] 2 trivial rfl
end Go.Proofs.YtmeojbemjkmebaaGreatDoor
set_option linter.unusedVariables false
set_option maxRecDepth 20000
set_option maxHeartbeats 4000000
namespace Go.Proofs.YtmeojbemjkmebaaGreatDoor
open K Go Go.Proofs Go.Extern
theorem Gj{b n:Nat}(h0:0 < n)(hn:n≤281474976710656):
 cm Tryz.prog 84 [.eq (bP b),.eq (.int .i64 n)] [.obj b 92 (bA (.pointer none) (.slice none 0 0))] (fun bc:Nat×Nat=>(bz [],[.obj b 92 (bA (bP b) (Bf bc)),.sl (Bf bc) 5 (.int .u8) []])):=by
 refine cm.of 25 Tryz.func84 rfl Tryz.ntmps84 rfl fun S w0=>?_
 have c1:ck (((0:Nat):Int) - ((0:Nat):Int))=some 0:=rfl
 refine ae ?_
 refine ab ?_
 refine aC rfl rfl ?_
 refine bV rfl rfl rfl (ar [.tmp 4] rfl rfl Cf rfl (nS (.inl rfl) rfl)) ⟨rfl,trivial⟩ ?_
 refine au ?_
 refine ag ?_
 show JC _ _ _ _ _
 refine ae ?_
 refine ae ?_
 refine ab ?_
 refine aC rfl rfl ?_
 refine aF rfl (bv rfl) ⟨rfl,rfl,trivial⟩ ?_
 refine au ?_
 refine ag ?_
 show JC _ _ _ _ _
 refine bC rfl (fun hb=>absurd (of_decide_eq_true hb) (by omega)) (fun hb=>?_)
 refine aY ?_
 refine ag ?_
 show JC _ _ _ _ _
 refine ae ?_
 refine bK ?_
 refine dA rfl rfl rfl (aR rfl) ⟨rfl,trivial⟩ ?_
 refine dA rfl rfl rfl (ba rfl) ⟨rfl,trivial⟩ ?_
 refine dA rfl rfl rfl (aA rfl sw) ⟨rfl,trivial⟩ ?_
 refine ov 0 rfl rfl rfl rfl (ap rfl jM (fun _=>rfl) rfl) ⟨rfl,trivial⟩ ?_
 refine dA rfl rfl rfl (GW rfl rfl Tryz.underlying90) ⟨rfl,trivial⟩ ?_
 refine dA rfl rfl rfl (aR rfl) ⟨rfl,trivial⟩ ?_
 refine dA rfl rfl rfl (ba rfl) ⟨rfl,trivial⟩ ?_
 refine dA rfl rfl rfl (aA rfl sw) ⟨rfl,trivial⟩ ?_
 refine ov 0 rfl rfl rfl rfl (ap rfl jM (fun _=>rfl) rfl) ⟨rfl,trivial⟩ ?_
 refine dA rfl rfl rfl (GP rfl rfl Tryz.underlying90) ⟨rfl,trivial⟩ ?_
 refine dA rfl rfl rfl (eO rfl c1) ⟨rfl,rfl,trivial⟩ ?_
 refine dA rfl rfl rfl (aR rfl) ⟨rfl,trivial⟩ ?_
 refine tU (by kernel_rfl) qW ?_
 refine aF rfl (bv rfl) ⟨rfl,rfl,trivial⟩ ?_
 refine au ?_
 refine ag ?_
 show JC _ _ _ _ _
 refine bC rfl (fun hb=>?_) (fun hb=>absurd (of_decide_eq_false hb) (by omega))
 refine ab ?_
 refine aC rfl rfl ?_
 refine aC rfl rfl ?_
 refine bG (Δ:=[_]) (F:=_) (fun _ _ _=>ay rfl _) rfl rfl (ar [.tmp 22,.tmp 23] rfl rfl Na rfl (I9 hn)) ⟨rfl,rfl,trivial⟩ fun bc=>?_
 refine au ?_
 refine jg ?_
 exact aN bc [] 2 trivial rfl
theorem xE:dG Tryz.prog 9 1 false:=⟨fun w=>by kernel_rfl,fun w=>by kernel_rfl⟩
theorem Nj:ah Tryz.prog 49:=ah.of Tryz.func49 (by kernel_rfl) (by kernel_rfl)
theorem H3:ah Tryz.prog 50:=ah.of Tryz.func50 (by kernel_rfl) (by kernel_rfl)
theorem Nc:ah Tryz.prog 84:=ah.of Tryz.func84 (by kernel_rfl) (by kernel_rfl)
theorem Ce:ah Tryz.prog 85:=ah.of Tryz.func85 (by kernel_rfl) (by kernel_rfl)
theorem FG:∀w,(zeroValue 92).run Tryz.prog w= .ok (.agg #[.pointer none,.slice none 0 0]) w:=fun w=>by kernel_rfl
theorem LE:∀S w,(A.cells S w (bA (.pointer none) (.slice none 0 0)) (Value.cells (.agg #[.pointer none,.slice none 0 0])).toList):=fun _ _=>⟨[_],_,rfl,⟨rfl,rfl⟩,rfl,rfl⟩
def jq(ss:List ByteArray):Nat→Int×Int→Option Int
 |0,_=>none
 |n+1,y=>if y.1 < (ss.length:Int) then((aX ss y.1).bind fun s=>(ck ((9223372036854775807:Int) - y.2)).bind fun z=>if z < (s.size:Int) then none else(ck (y.2+(s.size:Int))).bind fun z2=>(ck (y.1+(1:Int))).bind fun z3=>jq ss n (z3,z2)) else some y.2
def iy(ss:List ByteArray)(sep:ByteArray):Nat→Int×List Int→Option (List Int)
 |0,_=>none
 |n+1,y=>if y.1 < (ss.length:Int) then((aX ss y.1).bind fun s=>if bO (y.2.length+sep.size)∧bO ((y.2++jN sep).length+s.size) then(ck (y.1+(1:Int))).bind fun z3=>iy ss sep n (z3,(y.2++jN sep)++jN s) else none) else some y.2
def pM(k:Nat)(ss:List ByteArray)(sep:ByteArray):Option ByteArray:=
 if sep.size=1∧bO ss.length then
  if(ss.length:Int)=(0:Int) then some .empty
  else if(ss.length:Int)=(1:Int) then aX ss 0
  else(jq ss k ((0:Int),(ss.length:Int) - 1)).bind fun n=>
   if 0 < n∧n≤281474976710656 then(aX ss 0).bind fun s=>if bO s.size then(iy (ss.drop 1) sep k ((0:Int),jN s)).bind fun l=>if l=[] then none else some (di l) else none else none
 else none
theorem Be(k:Nat)(ss:List ByteArray)(sep:ByteArray)(r:ByteArray)(h:pM k ss sep=some r):
 cm Tryz.prog 51 [.rep (.slice .str) ss,.eq (.string sep)] [] (fun _:Unit=>(bz [.eq (.string r)],[])):=by
 unfold pM at h
 split at h
 case isFalse=>cases h
 rename_i hc
 obtain⟨hsep,hlen⟩:=hc
 unfold bO at hlen
 replace h:=be h
 refine cm.of 75 Tryz.func51 rfl Tryz.ntmps51 rfl fun S w0=>?_
 refine ae ?_
 refine ab ?_
 refine dD rfl ?_
 refine au ?_
 refine ag ?_
 show JC _ _ _ _ _
 refine ae ?_
 refine ae ?_
 refine ab ?_
 refine aC rfl rfl ?_
 refine aF rfl (kd rfl rfl Tryz.underlying51) ⟨rfl,trivial⟩ ?_
 refine au ?_
 refine ag ?_
 show JC _ _ _ _ _
 refine an ?_
 refine ae ?_
 refine ab ?_
 refine aF rfl (eh rfl) ⟨rfl,rfl,trivial⟩ ?_
 refine c9 rfl rfl ?_
 refine au ?_
 refine ag ?_
 show JC _ _ _ _ _
 refine bC rfl (fun hb=>?_) (fun hb=>?_)
 ·
  replace h:=cI (nG hb) h;refine ae ?_;refine ab ?_;refine dD rfl ?_;refine au ?_;refine ag ?_;show JC _ _ _ _ _;refine aB ?_;refine aZ ?_;refine aO ?_;obtain rfl:=Option.some.inj h;exact aN () [_] 0 ⟨rfl,trivial⟩ rfl
 replace h:=bS (mW hb) h
 have hne0:=mW hb
 refine ae ?_
 refine ab ?_
 refine aF rfl (eh rfl) ⟨rfl,rfl,trivial⟩ ?_
 refine c9 rfl rfl ?_
 refine au ?_
 refine ag ?_
 show JC _ _ _ _ _
 refine bC rfl (fun hb=>?_) (fun hb=>?_)
 ·
  replace h:=cI (nG hb) h;have es:aX ss 0=some r:=by simpa using h
  refine ae ?_;refine ab ?_;refine aC rfl rfl ?_;refine aF rfl (aI (t:=.str) rfl Tryz.underlying51 xE es) ⟨rfl,rfl,trivial⟩ ?_;refine aF rfl (ao (t:=.str) rfl xE rfl) ⟨rfl,trivial⟩ ?_;refine c9 rfl rfl ?_;refine au ?_;refine ag ?_;show JC _ _ _ _ _;refine aB ?_;refine aZ ?_;refine aO ?_;exact aN () [_] 0 ⟨rfl,trivial⟩ rfl
 replace h:=bS (mW hb) h
 have hne1:=mW hb
 refine aY ?_
 refine aK ?_
 refine ag ?_
 show JC _ _ _ _ _
 refine ae ?_
 refine ab ?_
 refine dD rfl ?_
 refine au ?_
 refine ag ?_
 show JC _ _ _ _ _
 refine ae ?_
 refine ae ?_
 refine ab ?_
 refine aC rfl rfl ?_
 refine aF rfl (nn rfl rfl Tryz.underlying9) ⟨rfl,trivial⟩ ?_
 refine aF rfl (f5 rfl) ⟨rfl,rfl,trivial⟩ ?_
 refine au ?_
 refine ag ?_
 show JC _ _ _ _ _
 have c1:ck ((ss.length:Int) - 1)=some ((ss.length:Int) - 1):=by unfold ck;rw [if_pos (by omega)]
 have c2:ck ((sep.size:Int) * ((ss.length:Int) - 1))=some ((ss.length:Int) - 1):=by rw [hsep];simpa using c1
 have c3:ck (0+((ss.length:Int) - 1))=some ((ss.length:Int) - 1):=by rw [Int.zero_add];exact c1
 refine bC rfl (fun hb=>?_) (fun hb=>absurd (mW hb) (by omega))
 refine ae ?_
 refine ae ?_
 refine ab ?_
 refine aC rfl rfl ?_
 refine aF rfl (nn rfl rfl Tryz.underlying9) ⟨rfl,trivial⟩ ?_
 refine aC rfl rfl ?_
 refine aF rfl (kd rfl rfl Tryz.underlying51) ⟨rfl,trivial⟩ ?_
 refine aF rfl (eO rfl c1) ⟨rfl,rfl,trivial⟩ ?_
 refine aF rfl (OM rfl (by omega)) ⟨rfl,rfl,trivial⟩ ?_
 refine aF rfl (oV rfl) ⟨rfl,rfl,trivial⟩ ?_
 refine au ?_
 refine ag ?_
 show JC _ _ _ _ _
 refine bC rfl (fun hb=>?_) (fun hb=>?_)
 ·
  exfalso;have h1:=nG hb;have q1:(9223372036854775807:Int).tdiv ((ss.length:Int) - 1)=9223372036854775807 / ((ss.length:Int) - 1):=Int.tdiv_eq_ediv_of_nonneg (by omega);have q2:(2:Int)≤9223372036854775807 / ((ss.length:Int) - 1):=Int.le_ediv_of_mul_le (by omega) (by omega);have q3:(9223372036854775807:Int) / ((ss.length:Int) - 1)≤9223372036854775807:=Int.ediv_le_self _ (by omega);rw [q1,sC (z:=9223372036854775807 / ((ss.length:Int) - 1)) (by unfold ck;rw [if_pos (by omega)])] at h1;omega
 refine aY ?_
 refine ag ?_
 show JC _ _ _ _ _
 refine ab ?_
 refine aC rfl rfl ?_
 refine aC rfl rfl ?_
 refine aF rfl (nn rfl rfl Tryz.underlying9) ⟨rfl,trivial⟩ ?_
 refine aC rfl rfl ?_
 refine aF rfl (kd rfl rfl Tryz.underlying51) ⟨rfl,trivial⟩ ?_
 refine aF rfl (eO rfl c1) ⟨rfl,rfl,trivial⟩ ?_
 refine aF rfl (Lp rfl c2) ⟨rfl,rfl,trivial⟩ ?_
 refine aF rfl (bf rfl c3) ⟨rfl,rfl,trivial⟩ ?_
 refine c9 rfl rfl ?_
 refine au ?_
 refine ag ?_
 show JC _ _ _ _ _
 rw [Option.bind_assoc] at h
 refine ae ?_
 refine ae ?_
 refine ab ?_
 refine aC rfl rfl ?_
 refine aF rfl (kd rfl rfl Tryz.underlying51) ⟨rfl,trivial⟩ ?_
 refine eU rfl ?_
 refine au ?_
 refine ag ?_
 show JC _ _ _ _ _
 refine an ?_
 refine aJ (Z:=Unit) (α:=Int×Int) (fun _ y=>[(0,.rep (.slice .str) ss),(1,.eq (.string sep)),(5,.eq (.int .i64 y.2)),(39,.rep (.slice .str) ss),(40,.eq (.int .i64 (ss.length:Int))),(41,.eq (.int .i64 y.1))]) (fun _ _=>[]) (jq ss) k () ((0:Int),(ss.length:Int) - 1) (fun _=>rfl) h (SE.fin [] ⟨rfl,rfl,rfl,rfl,rfl,rfl,trivial⟩ rfl) (fun n z y h=>?_)
 unfold jq at h
 refine ae ?_
 refine ab ?_
 refine aF rfl (bv rfl) ⟨rfl,rfl,trivial⟩ ?_
 refine au ?_
 refine ag ?_
 show JC _ _ _ _ _
 refine ae ?_
 refine bC rfl (fun hb=>?_) (fun hb=>?_)
 ·
  replace h:=cI (nG hb) h;refine aY ?_;refine ag ?_;show JC _ _ _ _ _;refine ae ?_;refine an ?_;refine ae ?_;refine ab ?_;obtain⟨s,es,h⟩:=aa h;refine aF rfl (aI (t:=.str) rfl Tryz.underlying51 xE es) ⟨rfl,rfl,trivial⟩ ?_;refine aF rfl (ao (t:=.str) rfl xE rfl) ⟨rfl,trivial⟩ ?_;refine c9 rfl rfl ?_;refine au ?_;refine ag ?_;show JC _ _ _ _ _;refine ae ?_;refine ae ?_;refine ab ?_;refine aC rfl rfl ?_;refine aF rfl (nn rfl rfl Tryz.underlying9) ⟨rfl,trivial⟩ ?_;refine aC rfl rfl ?_;obtain⟨z,ez,h⟩:=aa h;refine aF rfl (eO rfl ez) ⟨rfl,rfl,trivial⟩ ?_;refine aF rfl (f5 rfl) ⟨rfl,rfl,trivial⟩ ?_;refine au ?_;refine ag ?_;show JC _ _ _ _ _;refine bC rfl (fun hb=>?_) (fun hb=>?_)
  ·replace h:=cI (nG hb) h;cases h
  replace h:=bS (mW hb) h;refine aY ?_;refine ag ?_;show JC _ _ _ _ _;refine ab ?_;refine aC rfl rfl ?_;refine aC rfl rfl ?_;refine aF rfl (nn rfl rfl Tryz.underlying9) ⟨rfl,trivial⟩ ?_;obtain⟨z2,ez2,h⟩:=aa h;refine aF rfl (bf rfl ez2) ⟨rfl,rfl,trivial⟩ ?_;refine c9 rfl rfl ?_;refine au ?_;refine aK ?_;refine ag ?_;show JC _ _ _ _ _;refine ab ?_;obtain⟨z3,ez3,h⟩:=aa h;refine aF rfl (bf rfl ez3) ⟨rfl,rfl,trivial⟩ ?_;refine aC rfl rfl ?_;refine au ?_;refine ag ?_;exact fq ((),(z3,z2)) h (SE.fin [] ⟨rfl,rfl,rfl,rfl,rfl,rfl,trivial⟩ rfl)
 replace h:=bS (mW hb) h
 refine dk ?_
 refine aP ?_
 refine aP ?_
 refine bL ?_
 refine ag ?_
 show JC _ _ _ _ _
 replace h:((if 0 < y.2∧y.2≤281474976710656 then(aX ss 0).bind fun s=>if bO s.size then(iy (ss.drop 1) sep k ((0:Int),jN s)).bind fun l=>if l=[] then none else some (di l) else none else none):Option ByteArray).bind some=some r:=h
 obtain⟨y1,y2⟩:=y
 have hy:0 < y2∧y2≤281474976710656:=by
  apply Classical.byContradiction;intro hn;rw [if_neg hn] at h;cases h
 replace h:=cI hy h
 obtain⟨m,rfl⟩:=Int.eq_ofNat_of_zero_le (show 0≤y2 by omega)
 obtain⟨s0,es0,h⟩:=aa h
 have hs0:bO s0.size:=by
  apply Classical.byContradiction;intro hn;rw [if_neg hn] at h;cases h
 replace h:=cI hs0 h
 rw [Option.bind_assoc] at h
 refine ae ?_
 refine ab ?_
 refine aD rfl rfl rfl (bg rfl FG LE) trivial fun b=>?_
 refine au ?_
 refine ag ?_
 show JC _ _ _ _ _
 refine ae ?_
 refine ab ?_
 refine aC rfl rfl ?_
 refine bG (Δ:=[_]) (F:=_) (fun _ _ _=>ay rfl _) rfl rfl (ar [.tmp 8,.tmp 56] rfl rfl Nc rfl (Gj (b:=b) (n:=m) (by omega) (by omega))) ⟨rfl,rfl,trivial⟩ fun bc=>?_
 refine au ?_
 refine ag ?_
 show JC _ _ _ _ _
 refine ae ?_
 refine ab ?_
 refine aC rfl rfl ?_
 refine aF rfl (aI (t:=.str) rfl Tryz.underlying51 xE es0) ⟨rfl,rfl,trivial⟩ ?_
 refine aF rfl (ao (t:=.str) rfl xE rfl) ⟨rfl,trivial⟩ ?_
 refine bG (Δ:=[_,_]) (F:=_) (fun _ _ _=>ay rfl _) rfl rfl (ar [.tmp 8,.tmp 60] rfl rfl Ce rfl (lU (b:=b) (p:=some ⟨b,0,none⟩) (v:=Bf bc) (l:=[]) (s:=s0) (.inr rfl) rfl (by simpa using hs0))) ⟨rfl,rfl,trivial⟩ fun v0=>?_
 refine au ?_
 refine ag ?_
 show JC _ _ _ _ _
 refine ae ?_
 refine ae ?_
 refine ab ?_
 refine aC rfl rfl ?_
 refine aF rfl (EA (t:=.str) rfl Tryz.underlying51 xE (by decide) (by omega)) ⟨rfl,rfl,trivial⟩ ?_
 refine aF rfl (kd rfl rfl Tryz.underlying51) ⟨rfl,trivial⟩ ?_
 refine eU rfl ?_
 refine au ?_
 refine ag ?_
 show JC _ _ _ _ _
 refine an ?_
 refine aJ (Z:=Value) (α:=Int×List Int) (fun _ y=>[(1,.eq (.string sep)),(8,.eq (bP b)),(63,.rep (.slice .str) (ss.drop 1)),(64,.eq (.int .i64 ((ss.drop 1).length:Int))),(65,.eq (.int .i64 y.1))]) (fun v y=>[.obj b 92 (bA (bP b) v),.sl v 5 (.int .u8) y.2]) (iy (ss.drop 1) sep) k v0 ((0:Int),jN s0) (fun _=>rfl) h (SE.fin [0,1] ⟨rfl,rfl,rfl,rfl,rfl,trivial⟩ rfl) (fun n v y h=>?_)
 unfold iy at h
 refine ae ?_
 refine ab ?_
 refine aF rfl (bv rfl) ⟨rfl,rfl,trivial⟩ ?_
 refine au ?_
 refine ag ?_
 show JC _ _ _ _ _
 refine ae ?_
 refine bC rfl (fun hb=>?_) (fun hb=>?_)
 ·
  replace h:=cI (nG hb) h;refine aY ?_;refine ag ?_;show JC _ _ _ _ _;refine ae ?_;refine an ?_;refine ae ?_;refine ab ?_;obtain⟨s,es,h⟩:=aa h;refine aF rfl (aI (t:=.str) rfl Tryz.underlying51 xE es) ⟨rfl,rfl,trivial⟩ ?_;refine aF rfl (ao (t:=.str) rfl xE rfl) ⟨rfl,trivial⟩ ?_;refine c9 rfl rfl ?_;refine au ?_;refine ag ?_;show JC _ _ _ _ _
  have hk:bO (y.2.length+sep.size)∧bO ((y.2++jN sep).length+s.size):=by
   apply Classical.byContradiction;intro hn;rw [if_neg hn] at h;cases h
  replace h:=cI hk h;refine vV 1 rfl fun hv=>?_;refine ae ?_;refine ab ?_;refine aC rfl rfl ?_;refine bG (Δ:=[_,_]) (F:=_) (fun _ _ _=>ay rfl _) rfl rfl (ar [.tmp 8,.tmp 69] rfl rfl Ce rfl (lU (b:=b) (p:=some ⟨b,0,none⟩) (s:=sep) (.inr rfl) hv hk.1)) ⟨rfl,rfl,trivial⟩ fun v1=>?_;refine au ?_;refine ag ?_;show JC _ _ _ _ _;refine vV 1 rfl fun hv1=>?_;refine ab ?_;refine aC rfl rfl ?_;refine bG (Δ:=[_,_]) (F:=_) (fun _ _ _=>ay rfl _) rfl rfl (ar [.tmp 8,.tmp 71] rfl rfl Ce rfl (lU (b:=b) (p:=some ⟨b,0,none⟩) (s:=s) (.inr rfl) hv1 hk.2)) ⟨rfl,rfl,trivial⟩ fun v2=>?_;refine au ?_;refine aK ?_;refine ag ?_;show JC _ _ _ _ _;refine ab ?_;obtain⟨z3,ez3,h⟩:=aa h;refine aF rfl (bf rfl ez3) ⟨rfl,rfl,trivial⟩ ?_;refine aC rfl rfl ?_;refine au ?_;refine ag ?_;exact fq (v2,(z3,(y.2++jN sep)++jN s)) h (SE.fin [0,1] ⟨rfl,rfl,rfl,rfl,rfl,trivial⟩ rfl)
 replace h:=bS (mW hb) h
 refine dk ?_
 refine aP ?_
 refine aP ?_
 refine bL ?_
 refine ag ?_
 show JC _ _ _ _ _
 replace h:(if y.2=[] then none else some (di y.2):Option ByteArray).bind some=some r:=h
 have hy2:y.2≠[]:=by
  intro hn;rw [if_pos hn] at h;cases h
 rw [if_neg hy2] at h
 obtain rfl:=Option.some.inj h
 refine ae ?_
 refine ab ?_
 refine bG (Δ:=[_,_]) (F:=_) (fun _ _ _=>ay rfl _) rfl rfl (ar [.tmp 8] rfl rfl H3 rfl (wJ (b:=b) (fun hn=>absurd hn hy2))) ⟨rfl,trivial⟩ fun _=>?_
 refine c9 rfl rfl ?_
 refine au ?_
 refine ag ?_
 show JC _ _ _ _ _
 refine aB ?_
 exact aN () [_] 0 ⟨rfl,trivial⟩ rfl
end Go.Proofs.YtmeojbemjkmebaaGreatDoor
