import Derived.Test.YtghkncjelangeaaGreatDoorQDB5
import Derived.Test.YtghkncjelangeaaGreatDoorProg
import Derived.Stop.Asserts
set_option linter.unusedSimpArgs false
set_option linter.unusedVariables false
set_option maxRecDepth 20000
set_option maxHeartbeats 4000000
namespace Go.Proofs.YtghkncjelangeaaGreatDoor
open K Go Go.Proofs Go.Extern
theorem Bt:dP Tryz.prog 144 1 false:=⟨fun w=>by kernel_rfl,fun w=>by kernel_rfl⟩
theorem jQ:dP Tryz.prog 145 1 false:=⟨fun w=>by kernel_rfl,fun w=>by kernel_rfl⟩
theorem Nw:ba Tryz.prog 147 0 0:=ba.of (by kernel_rfl)
theorem si:ba Tryz.prog 147 1 1:=ba.of (by kernel_rfl)
theorem By:mj Tryz.prog 145 5 1 1:=.of (z:=(.int .u8 (0))) Tryz.underlying145 (by kernel_rfl) rfl rfl rfl
theorem NK:fX Tryz.prog 159 Extern.AbiNoEscape.same:=.of Tryz.func159 (by kernel_rfl) (by kernel_rfl) (by kernel_rfl) (by kernel_rfl)
theorem CS:ah Tryz.prog 125:=ah.of Tryz.func125 (by kernel_rfl) (by kernel_rfl)
theorem NN:ah Tryz.prog 126:=ah.of Tryz.func126 (by kernel_rfl) (by kernel_rfl)
@[reducible] def bA(p v:Value):A:=.agg (.pair (.eq p) (.eq v))
abbrev bP(b:Nat):Value:=.pointer (some ⟨b,0,none⟩)
theorem vp{p:Option Addr}:Ns Tryz.prog (binOp .eql 144 (.pointer p) (.pointer none)):=by
 cases p with
 |none=>exact oz (by kernel_rfl)
 |some p=>exact oz (by kernel_rfl)
theorem EJ{p:Option Addr}{x y:Operand}(w:World):(do eqGuard .eql 144 x y (.pointer p) (.pointer none);binOp .eql 144 (.pointer p) (.pointer none):Sem Value).run Tryz.prog w= .ok (.bool p.isNone) w:=by
 cases p <;> kernel_rfl
theorem Cc{p:Addr}:Ns Tryz.prog (binOp .neq 144 (.pointer (some p)) (.pointer (some p))):=by
 refine ai (s:=Op.equal 144 (.pointer (some p)) (.pointer (some p))) ?_ fun _=>bC;show Ns Tryz.prog (Op.equalIn (9999+1) 144 (.pointer (some p)) (.pointer (some p)));unfold Op.equalIn;refine cS Tryz.underlying144 (ai cZ fun n=>tj ?_ (tj bC (ai fG fun _=>bC)));unfold sameAddr;simp only [beq_self_eq_true,if_true];exact bC
theorem Nb:∃j,Tryz.prog.info? 147=some j∧j.size≠0:=by
 obtain⟨j,h1,h2⟩:=Option.map_eq_some_iff.1 (show(Tryz.prog.info? 147).map (·.size)=some 2 by kernel_rfl);exact⟨j,h1,by omega⟩
theorem nU{b:Nat}{p:Option Addr}{v:Value}(hp:p=none∨p=some ⟨b,0,none⟩)(hv:bB v=true):bZ Tryz.prog 125 [.eq (bP b)] [.obj b 147 (bA (.pointer p) v)] (fun _:Unit=>(bu [],[.obj b 147 (bA (bP b) v)])):=by
 obtain⟨j162,inf162_eq,inf162_sz⟩:=Nb;refine bZ.of 20 Tryz.func125 rfl Tryz.ntmps125 rfl fun S w0=>?_;refine ae ?_;refine ab ?_;refine aC rfl rfl ?_;refine aG rfl (be rfl) ⟨rfl,trivial⟩ ?_;refine aG rfl (av rfl Nw) ⟨rfl,trivial⟩ ?_;refine bX rfl rfl rfl (aj rfl Bt (fun _=>rfl) rfl) ⟨rfl,trivial⟩ ?_;refine aG rfl (iJ rfl EJ vp) ⟨rfl,rfl,trivial⟩ ?_;refine au ?_;refine ag ?_;show JC _ _ _ _ _;refine bK rfl (fun hb=>?_) (fun hb=>?_)
 ·refine ab ?_;refine aC rfl rfl ?_;refine aC rfl rfl ?_;refine bX rfl rfl rfl (BR rfl Tryz.underlying144 Tryz.underlying163 inf162_eq inf162_sz rfl) ⟨rfl,trivial⟩ ?_;refine aG rfl (Hj NK [.tmp 9] [bP b] rfl rfl rfl (fun _=>rfl) bC) ⟨rfl,trivial⟩ ?_;refine bX rfl rfl rfl (yf rfl Tryz.underlying163 Tryz.underlying144 inf162_eq (by kernel_rfl)) ⟨rfl,trivial⟩ ?_;refine aG rfl (be rfl) ⟨rfl,trivial⟩ ?_;refine aG rfl (av rfl Nw) ⟨rfl,trivial⟩ ?_;refine bf rfl rfl (a8 rfl Bt rfl rfl rfl) ⟨rfl,rfl,trivial⟩ ?_;refine au ?_;refine jk ?_;exact aQ () [] 1 trivial rfl
 ·have hp':p=some ⟨b,0,none⟩:=by
   rcases hp with rfl |rfl
   ·cases hb
   ·rfl
  subst hp';refine ae ?_;refine ab ?_;refine aC rfl rfl ?_;refine aG rfl (be rfl) ⟨rfl,trivial⟩ ?_;refine aG rfl (av rfl Nw) ⟨rfl,trivial⟩ ?_;refine bX rfl rfl rfl (aj rfl Bt (fun _=>rfl) rfl) ⟨rfl,trivial⟩ ?_;refine aC rfl rfl ?_;refine aG rfl (Ha rfl Tryz.underlying144 inf162_eq Cc) ⟨rfl,rfl,trivial⟩ ?_;refine au ?_;refine ag ?_;show JC _ _ _ _ _;refine bK rfl (fun hb=>(by cases hb)) (fun hb=>?_);refine aY ?_;refine jk ?_;exact aQ () [] 1 trivial rfl
theorem we{v:Value}{l:List Int}{r:Int}(h0:0≤r)(h1:r≤127)(hl:bM (l.length+1)):bZ Tryz.prog 126 [.eq v,.eq (.int .i32 r)] [.sl v 5 (.int .u8) l] (fun v':Value=>(bu [.eq v'],[.sl v' 5 (.int .u8) (l++[r])])):=by
 refine bZ.of 16 Tryz.func126 rfl Tryz.ntmps126 rfl fun S w0=>?_;have w32:IntKind.u32.wrap r=r:=by simp [IntKind.wrap,IntKind.bits,IntKind.signed];omega
 have w8:IntKind.u8.wrap r=r:=by simp [IntKind.wrap,IntKind.bits,IntKind.signed];omega
 refine ae ?_;refine ab ?_;refine dE rfl ?_;refine au ?_;refine ag ?_;show JC _ _ _ _ _;refine ae ?_;refine ae ?_;refine ab ?_;refine aC rfl rfl ?_;refine aG rfl (o4 rfl Tryz.underlying21 Tryz.underlying185) ⟨rfl,trivial⟩ ?_;rw [w32];refine aG rfl (vk rfl) ⟨rfl,rfl,trivial⟩ ?_;refine au ?_;refine ag ?_;show JC _ _ _ _ _;refine bK rfl (fun hb=>?_) (fun hb=>absurd h1 (by simpa using hb));refine ae ?_;refine ab ?_;refine aC rfl rfl ?_;refine aC rfl rfl ?_;refine aG rfl (o4 rfl Tryz.underlying21 Tryz.underlying5) ⟨rfl,trivial⟩ ?_;rw [w8];refine aG rfl (bp (t:=(.int .u8)) [(.tmp 10,.eq (.int .u8 r))] [r] rfl rfl By (.cons rfl .int .nil) rfl rfl) ⟨rfl,trivial⟩ ?_;refine c6 rfl rfl rfl (bH rfl rfl By (by simpa using hl)) ⟨rfl,rfl,trivial⟩ fun v'=>?_;refine dj rfl rfl ?_;refine au ?_;refine ag ?_;show JC _ _ _ _ _;refine aA ?_;refine aV ?_;exact aQ v' [_] 1 ⟨rfl,trivial⟩ rfl
theorem xO{b:Nat}{p:Option Addr}{v:Value}{l:List Int}{r:Int}(hp:p=none∨p=some ⟨b,0,none⟩)(hv:bB v=true)(h0:0≤r)(h1:r≤127)(hl:bM (l.length+1)):
 bZ Tryz.prog 91 [.eq (bP b),.eq (.int .i32 r)] [.obj b 147 (bA (.pointer p) v),.sl v 5 (.int .u8) l]
  (fun v':Value=>(bu [.eq (.int .i64 1),.eq .nilIface],[.obj b 147 (bA (bP b) v'),.sl v' 5 (.int .u8) (l++[r])])):=by
 refine bZ.of 30 Tryz.func91 rfl Tryz.ntmps91 rfl fun S w0=>?_
 refine ae ?_
 refine ab ?_
 refine dE rfl ?_
 refine dE rfl ?_
 refine au ?_
 refine ag ?_
 show JC _ _ _ _ _
 refine ae ?_
 refine ab ?_
 refine aC rfl rfl ?_
 refine bX rfl rfl rfl (ar [.tmp 7] rfl rfl CS rfl (nU hp hv)) ⟨rfl,trivial⟩ ?_
 refine au ?_
 refine ag ?_
 show JC _ _ _ _ _
 refine ae ?_
 refine ab ?_
 refine aC rfl rfl ?_
 refine aG rfl (be rfl) ⟨rfl,trivial⟩ ?_
 refine aG rfl (av rfl si) ⟨rfl,trivial⟩ ?_
 refine bX rfl rfl rfl (aj rfl jQ (fun _=>rfl) rfl) ⟨rfl,trivial⟩ ?_
 refine bJ 1 rfl ?_
 refine bX rfl rfl rfl (cY rfl rfl Tryz.underlying145) ⟨rfl,trivial⟩ ?_
 refine dj rfl rfl ?_
 refine au ?_
 refine ag ?_
 show JC _ _ _ _ _
 refine ae ?_
 refine ab ?_
 refine aC rfl rfl ?_
 refine aC rfl rfl ?_
 refine aG rfl (be rfl) ⟨rfl,trivial⟩ ?_
 refine aG rfl (av rfl si) ⟨rfl,trivial⟩ ?_
 refine bJ 1 rfl ?_
 refine bX rfl rfl rfl (aj rfl jQ (fun _=>rfl) rfl) ⟨rfl,trivial⟩ ?_
 refine aC rfl rfl ?_
 refine bJ 1 rfl ?_
 refine c6 rfl rfl rfl (ar [.tmp 18,.tmp 19] rfl rfl NN rfl (we h0 h1 hl)) ⟨rfl,rfl,trivial⟩ fun v'=>?_
 refine fu fun hv'=>?_
 refine aG rfl (be rfl) ⟨rfl,trivial⟩ ?_
 refine aG rfl (av rfl si) ⟨rfl,trivial⟩ ?_
 refine bJ 1 rfl ?_
 refine bf rfl rfl (a8 rfl jQ hv' rfl rfl) ⟨rfl,rfl,trivial⟩ ?_
 refine au ?_
 refine ag ?_
 show JC _ _ _ _ _
 refine ae ?_
 refine ab ?_
 refine aC rfl rfl ?_
 refine aG rfl (be rfl) ⟨rfl,trivial⟩ ?_
 refine aG rfl (av rfl si) ⟨rfl,trivial⟩ ?_
 refine bX rfl rfl rfl (aj rfl jQ (fun _=>rfl) rfl) ⟨rfl,trivial⟩ ?_
 refine bJ 1 rfl ?_
 refine bX rfl rfl rfl (cY rfl rfl Tryz.underlying145) ⟨rfl,trivial⟩ ?_
 refine aC rfl rfl ?_
 have hck:ck (((l++[r]).length:Int) - (l.length:Int))=some 1:=by
  have:(((l++[r]).length:Int) - (l.length:Int))=1:=by simp;omega
  rw [this];rfl
 refine aG rfl (fS rfl hck) ⟨rfl,rfl,trivial⟩ ?_
 refine dj rfl rfl ?_
 refine dE rfl ?_
 refine au ?_
 refine ag ?_
 show JC _ _ _ _ _
 refine aA ?_
 refine bv (SE.fin (Γ':=[(4,_),(5,_)]) [1,0] ⟨rfl,rfl,trivial⟩ rfl) ?_
 exact aQ v' [_,_] 2 ⟨rfl,rfl,trivial⟩ rfl
theorem TA:Tryz.prog.cellsOf 5=1:=by kernel_rfl
theorem qW:Tryz.prog.follows .mixedOrders=true:=by kernel_rfl
theorem wL{b:Nat}{p v:Value}{l:List Int}(hl:l=[]→v= .slice none 0 0):
 bZ Tryz.prog 92 [.eq (bP b)] [.obj b 147 (bA p v),.sl v 5 (.int .u8) l] (fun _:Unit=>(bu [.eq (.string (qI l))],[])):=by
 refine bZ.of 14 Tryz.func92 rfl Tryz.ntmps92 rfl fun S w0=>?_
 refine ae ?_
 refine ab ?_
 refine dE rfl ?_
 refine au ?_
 refine ag ?_
 show JC _ _ _ _ _
 refine ae ?_
 refine bO ?_
 refine dz rfl rfl rfl (aL rfl) ⟨rfl,trivial⟩ ?_
 refine dz rfl rfl rfl (be rfl) ⟨rfl,trivial⟩ ?_
 refine dz rfl rfl rfl (av rfl si) ⟨rfl,trivial⟩ ?_
 refine ou 0 rfl rfl rfl rfl (aj rfl jQ (fun _=>rfl) rfl) ⟨rfl,trivial⟩ ?_
 refine ou 1 rfl rfl rfl rfl (zJ rfl rfl hl) ⟨rfl,trivial⟩ ?_
 refine dz rfl rfl rfl (aL rfl) ⟨rfl,trivial⟩ ?_
 refine dz rfl rfl rfl (be rfl) ⟨rfl,trivial⟩ ?_
 refine dz rfl rfl rfl (av rfl si) ⟨rfl,trivial⟩ ?_
 refine ou 0 rfl rfl rfl rfl (aj rfl jQ (fun _=>rfl) rfl) ⟨rfl,trivial⟩ ?_
 refine ou 1 rfl rfl rfl rfl (cY rfl rfl Tryz.underlying145) ⟨rfl,trivial⟩ ?_
 refine tU (by kernel_rfl) qW ?_
 refine bJ 1 rfl ?_
 refine bT (Δ:=[_]) (F:=_) (fun _ _ _=>ay rfl _) rfl rfl (vf rfl rfl Tryz.underlying199 TA hl) ⟨rfl,rfl,trivial⟩ fun _=>?_
 refine dj rfl rfl ?_
 refine au ?_
 refine ag ?_
 show JC _ _ _ _ _
 refine aA ?_
 exact aQ () [_] 0 ⟨rfl,trivial⟩ rfl
theorem RD:(Tryz.prog.info? 5).bind (·.zero)=some (.int .u8 0):=by kernel_rfl
theorem lX{b:Nat}{p:Option Addr}{v:Value}{l:List Int}{s:ByteArray}(hp:p=none∨p=some ⟨b,0,none⟩)(hv:bB v=true)(hl:bM (l.length+s.size)):
 bZ Tryz.prog 128 [.eq (bP b),.eq (.string s)] [.obj b 147 (bA (.pointer p) v),.sl v 5 (.int .u8) l]
  (fun v':Value=>(bu [.eq (.int .i64 s.size),.eq .nilIface],[.obj b 147 (bA (bP b) v'),.sl v' 5 (.int .u8) (l++rG s)])):=by
 refine bZ.of 19 Tryz.func128 rfl Tryz.ntmps128 rfl fun S w0=>?_
 refine ae ?_
 refine ab ?_
 refine dE rfl ?_
 refine dE rfl ?_
 refine au ?_
 refine ag ?_
 show JC _ _ _ _ _
 refine ae ?_
 refine ab ?_
 refine aC rfl rfl ?_
 refine bX rfl rfl rfl (ar [.tmp 6] rfl rfl CS rfl (nU hp hv)) ⟨rfl,trivial⟩ ?_
 refine au ?_
 refine ag ?_
 show JC _ _ _ _ _
 refine ae ?_
 refine ab ?_
 refine aC rfl rfl ?_
 refine aC rfl rfl ?_
 refine aG rfl (be rfl) ⟨rfl,trivial⟩ ?_
 refine aG rfl (av rfl si) ⟨rfl,trivial⟩ ?_
 refine bX rfl rfl rfl (aj rfl jQ (fun _=>rfl) rfl) ⟨rfl,trivial⟩ ?_
 refine aC rfl rfl ?_
 refine bJ 1 rfl ?_
 refine c6 rfl rfl rfl (zQ rfl rfl By Tryz.underlying9 RD (by decide) hl) ⟨rfl,rfl,trivial⟩ fun v'=>?_
 refine fu fun hv'=>?_
 refine aG rfl (be rfl) ⟨rfl,trivial⟩ ?_
 refine aG rfl (av rfl si) ⟨rfl,trivial⟩ ?_
 refine bJ 1 rfl ?_
 refine bf rfl rfl (a8 rfl jQ hv' rfl rfl) ⟨rfl,rfl,trivial⟩ ?_
 refine au ?_
 refine ag ?_
 show JC _ _ _ _ _
 refine ae ?_
 refine ab ?_
 refine aC rfl rfl ?_
 refine aG rfl (np rfl rfl Tryz.underlying9) ⟨rfl,trivial⟩ ?_
 refine dj rfl rfl ?_
 refine dE rfl ?_
 refine au ?_
 refine ag ?_
 show JC _ _ _ _ _
 refine aA ?_
 exact aQ v' [_,_] 2 ⟨rfl,rfl,trivial⟩ rfl
theorem NH:fX Tryz.prog 179 (Extern.BytealgMakeNoZero.makeNoZero #[3] #[145]):=.of Tryz.func179 (by kernel_rfl) (by kernel_rfl) (by kernel_rfl) (by kernel_rfl)
theorem NJ:ah Tryz.prog 161:=ah.of Tryz.func161 (by kernel_rfl) (by kernel_rfl)
def RF:Value→List D
 | .slice (some ⟨b,0,none⟩) m c=>[.sl (.slice (some ⟨b,0,none⟩) 0 c) 5 (.int .u8) []]
 |_=>[II]
theorem MM{v:Value}(h:∀d∈RF v,∃S w,d.holds S w):∃b m c,v= .slice (some ⟨b,0,none⟩) m c:=by
 unfold RF at h;split at h
 ·exact⟨_,_,_,rfl⟩
 ·obtain⟨S,w,hb⟩:=h II (by simp);exact absurd hb AH
theorem O1:dP Tryz.prog 5 1 false:=⟨fun w=>by kernel_rfl,fun w=>by kernel_rfl⟩
theorem GF{b cap:Nat}:sliced (some ⟨b,0,none⟩) 0 (Int.toNat 0) cap 1= .slice (some ⟨b,0,none⟩) 0 cap:=Dk
abbrev BA(bc:Nat×Nat):Value:=.slice (some ⟨bc.1,0,none⟩) 0 bc.2
theorem JM{b n:Nat}{p:Value}(hn:n≤281474976710656):
 bZ Tryz.prog 161 [.eq (bP b),.eq (.int .i64 n)] [.obj b 147 (bA p (.slice none 0 0))] (fun bc:Nat×Nat=>(bu [],[.obj b 147 (bA p (BA bc)),.sl (BA bc) 5 (.int .u8) []])):=by
 refine bZ.of 30 Tryz.func161 rfl Tryz.ntmps161 rfl fun S w0=>?_
 have c1:ck (2 * ((0:Nat):Int))=some 0:=rfl
 have c2:ck (0+(n:Int))=some (n:Int):=by rw [Int.zero_add];unfold ck;rw [if_pos (by omega)]
 refine ae ?_
 refine jm ?_
 refine aI rfl rfl rfl (aL rfl) ⟨rfl,trivial⟩ ?_
 refine aI rfl rfl rfl (be rfl) ⟨rfl,trivial⟩ ?_
 refine aI rfl rfl rfl (av rfl si) ⟨rfl,trivial⟩ ?_
 refine dn 0 rfl rfl rfl rfl (aj rfl jQ (fun _=>rfl) rfl) ⟨rfl,trivial⟩ ?_
 refine aI rfl rfl rfl (Hl rfl rfl Tryz.underlying145) ⟨rfl,trivial⟩ ?_
 refine aI rfl rfl rfl (LX rfl c1) ⟨rfl,rfl,trivial⟩ ?_
 refine aI rfl rfl rfl (aL rfl) ⟨rfl,trivial⟩ ?_
 refine aI rfl rfl rfl (bg rfl c2) ⟨rfl,rfl,trivial⟩ ?_
 refine uC RF (fun _=>rfl) rfl rfl rfl (G9 NH rfl rfl Tryz.underlying145 hn) ⟨rfl,trivial⟩ ?_
 refine aI rfl rfl rfl (aL rfl) ⟨rfl,trivial⟩ ?_
 refine aI rfl rfl rfl (be rfl) ⟨rfl,trivial⟩ ?_
 refine aI rfl rfl rfl (av rfl si) ⟨rfl,trivial⟩ ?_
 refine dn 0 rfl rfl rfl rfl (aj rfl jQ (fun _=>rfl) rfl) ⟨rfl,trivial⟩ ?_
 refine aI rfl rfl rfl (Hf rfl rfl Tryz.underlying145) ⟨rfl,trivial⟩ ?_
 refine mo 14 [true,true,true,true,true,true,true,true,true,true,true,true,true,true] [19,4] [] [] rfl (by kernel_rfl) (by kernel_rfl) (by kernel_rfl) qW (fun vs hv hB=>?_)
 obtain⟨u0,vs1,rfl,hv1⟩:=ak hv
 obtain⟨u1,vs2,rfl,hv2⟩:=ak hv1
 obtain⟨u2,vs3,rfl,hv3⟩:=ak hv2
 obtain⟨u3,vs4,rfl,hv4⟩:=ak hv3
 obtain⟨u4,vs5,rfl,hv5⟩:=ak hv4
 obtain⟨u5,vs6,rfl,hv6⟩:=ak hv5
 obtain⟨u6,vs7,rfl,hv7⟩:=ak hv6
 obtain⟨u7,vs8,rfl,hv8⟩:=ak hv7
 obtain⟨u8,vs9,rfl,hv9⟩:=ak hv8
 obtain⟨u9,vs10,rfl,hv10⟩:=ak hv9
 obtain⟨u10,vs11,rfl,hv11⟩:=ak hv10
 obtain⟨u11,vs12,rfl,hv12⟩:=ak hv11
 obtain⟨u12,vs13,rfl,hv13⟩:=ak hv12
 obtain⟨u13,vs14,rfl,hv14⟩:=ak hv13
 obtain rfl:=jW hv14
 obtain⟨g,m,q,rfl⟩:=MM hB.2.2.2.2.2.2.2.2.1
 refine⟨[0,1],[.obj b 147 (bA p (.slice none 0 0)),.sl (BA (g,q)) 5 (.int .u8) []],by kernel_rfl,by decide,?_⟩
 refine pE rfl rfl rfl rfl (vg rfl Tryz.underlying145 O1 (Int.le_refl 0) (Int.natCast_nonneg _)) ⟨rfl,rfl,trivial⟩ (by kernel_rfl) ?_
 rw [GF]
 refine pE rfl rfl rfl rfl (gr rfl) ⟨rfl,trivial⟩ (by kernel_rfl) ?_
 refine pG ?_
 refine bv (SE.fin (Γ':=[(0,.eq (bP b)),(4,.eq (BA (g,q)))]) (Δ':=[.obj b 147 (bA p (.slice none 0 0)),.sl (BA (g,q)) 5 (.int .u8) []]) [0,1] ⟨rfl,rfl,trivial⟩ rfl) ?_
 refine ag ?_
 show JC _ _ _ _ _
 refine ae ?_
 refine ab ?_
 refine aC rfl rfl ?_
 refine aC rfl rfl ?_
 refine aG rfl (be rfl) ⟨rfl,trivial⟩ ?_
 refine aG rfl (av rfl si) ⟨rfl,trivial⟩ ?_
 refine bX rfl rfl rfl (aj rfl jQ (fun _=>rfl) rfl) ⟨rfl,trivial⟩ ?_
 refine aG rfl (JZ rfl rfl Tryz.underlying145 O1) ⟨rfl,rfl,trivial⟩ ?_
 refine au ?_
 refine ag ?_
 show JC _ _ _ _ _
 refine ab ?_
 refine aC rfl rfl ?_
 refine aC rfl rfl ?_
 refine aG rfl (be rfl) ⟨rfl,trivial⟩ ?_
 refine aG rfl (av rfl si) ⟨rfl,trivial⟩ ?_
 refine bf rfl rfl (a8 rfl jQ rfl rfl rfl) ⟨rfl,rfl,trivial⟩ ?_
 refine au ?_
 refine jk ?_
 exact aQ (g,q) [] 2 trivial rfl
end Go.Proofs.YtghkncjelangeaaGreatDoor
set_option linter.unusedVariables false
set_option maxRecDepth 20000
set_option maxHeartbeats 4000000
namespace Go.Proofs.YtghkncjelangeaaGreatDoor
open K Go Go.Proofs Go.Extern
theorem GL{b n:Nat}(h0:0 < n)(hn:n≤281474976710656):
 bZ Tryz.prog 127 [.eq (bP b),.eq (.int .i64 n)] [.obj b 147 (bA (.pointer none) (.slice none 0 0))] (fun bc:Nat×Nat=>(bu [],[.obj b 147 (bA (bP b) (BA bc)),.sl (BA bc) 5 (.int .u8) []])):=by
 refine bZ.of 25 Tryz.func127 rfl Tryz.ntmps127 rfl fun S w0=>?_
 have c1:ck (((0:Nat):Int) - ((0:Nat):Int))=some 0:=rfl
 refine ae ?_
 refine ab ?_
 refine aC rfl rfl ?_
 refine bX rfl rfl rfl (ar [.tmp 4] rfl rfl CS rfl (nU (.inl rfl) rfl)) ⟨rfl,trivial⟩ ?_
 refine au ?_
 refine ag ?_
 show JC _ _ _ _ _
 refine ae ?_
 refine ae ?_
 refine ab ?_
 refine aC rfl rfl ?_
 refine aG rfl (bj rfl) ⟨rfl,rfl,trivial⟩ ?_
 refine au ?_
 refine ag ?_
 show JC _ _ _ _ _
 refine bK rfl (fun hb=>absurd (of_decide_eq_true hb) (by omega)) (fun hb=>?_)
 refine aY ?_
 refine ag ?_
 show JC _ _ _ _ _
 refine ae ?_
 refine bO ?_
 refine dz rfl rfl rfl (aL rfl) ⟨rfl,trivial⟩ ?_
 refine dz rfl rfl rfl (be rfl) ⟨rfl,trivial⟩ ?_
 refine dz rfl rfl rfl (av rfl si) ⟨rfl,trivial⟩ ?_
 refine ou 0 rfl rfl rfl rfl (aj rfl jQ (fun _=>rfl) rfl) ⟨rfl,trivial⟩ ?_
 refine dz rfl rfl rfl (Hl rfl rfl Tryz.underlying145) ⟨rfl,trivial⟩ ?_
 refine dz rfl rfl rfl (aL rfl) ⟨rfl,trivial⟩ ?_
 refine dz rfl rfl rfl (be rfl) ⟨rfl,trivial⟩ ?_
 refine dz rfl rfl rfl (av rfl si) ⟨rfl,trivial⟩ ?_
 refine ou 0 rfl rfl rfl rfl (aj rfl jQ (fun _=>rfl) rfl) ⟨rfl,trivial⟩ ?_
 refine dz rfl rfl rfl (Hf rfl rfl Tryz.underlying145) ⟨rfl,trivial⟩ ?_
 refine dz rfl rfl rfl (fS rfl c1) ⟨rfl,rfl,trivial⟩ ?_
 refine dz rfl rfl rfl (aL rfl) ⟨rfl,trivial⟩ ?_
 refine tU (by kernel_rfl) qW ?_
 refine aG rfl (bj rfl) ⟨rfl,rfl,trivial⟩ ?_
 refine au ?_
 refine ag ?_
 show JC _ _ _ _ _
 refine bK rfl (fun hb=>?_) (fun hb=>absurd (of_decide_eq_false hb) (by omega))
 refine ab ?_
 refine aC rfl rfl ?_
 refine aC rfl rfl ?_
 refine bT (Δ:=[_]) (F:=_) (fun _ _ _=>ay rfl _) rfl rfl (ar [.tmp 22,.tmp 23] rfl rfl NJ rfl (JM hn)) ⟨rfl,rfl,trivial⟩ fun bc=>?_
 refine au ?_
 refine jk ?_
 exact aQ bc [] 2 trivial rfl
theorem xK:dP Tryz.prog 9 1 false:=⟨fun w=>by kernel_rfl,fun w=>by kernel_rfl⟩
theorem NQ:ah Tryz.prog 91:=ah.of Tryz.func91 (by kernel_rfl) (by kernel_rfl)
theorem Iw:ah Tryz.prog 92:=ah.of Tryz.func92 (by kernel_rfl) (by kernel_rfl)
theorem NL:ah Tryz.prog 127:=ah.of Tryz.func127 (by kernel_rfl) (by kernel_rfl)
theorem CQ:ah Tryz.prog 128:=ah.of Tryz.func128 (by kernel_rfl) (by kernel_rfl)
theorem F6:∀w,(zeroValue 147).run Tryz.prog w= .ok (.agg #[.pointer none,.slice none 0 0]) w:=fun w=>by kernel_rfl
theorem IT:∀S w,(A.cells S w (bA (.pointer none) (.slice none 0 0)) (Value.cells (.agg #[.pointer none,.slice none 0 0])).toList):=fun _ _=>⟨[_],_,rfl,⟨rfl,rfl⟩,rfl,rfl⟩
def nS(ss:List ByteArray):Nat→Int×Int→Option Int
 |0,_=>none
 |n+1,y=>if y.1 < (ss.length:Int) then((aS ss y.1).bind fun s=>(ck ((9223372036854775807:Int) - y.2)).bind fun z=>if z < (s.size:Int) then none else(ck (y.2+(s.size:Int))).bind fun z2=>(ck (y.1+(1:Int))).bind fun z3=>nS ss n (z3,z2)) else some y.2
def lW(ss:List ByteArray)(sep:ByteArray):Nat→Int×List Int→Option (List Int)
 |0,_=>none
 |n+1,y=>if y.1 < (ss.length:Int) then((aS ss y.1).bind fun s=>if bM (y.2.length+sep.size)∧bM ((y.2++rG sep).length+s.size) then(ck (y.1+(1:Int))).bind fun z3=>lW ss sep n (z3,(y.2++rG sep)++rG s) else none) else some y.2
def uq(k:Nat)(ss:List ByteArray)(sep:ByteArray):Option ByteArray:=
 if sep.size=1∧bM ss.length then
  if(ss.length:Int)=(0:Int) then some .empty
  else if(ss.length:Int)=(1:Int) then aS ss 0
  else(nS ss k ((0:Int),(ss.length:Int) - 1)).bind fun n=>
   if 0 < n∧n≤281474976710656 then(aS ss 0).bind fun s=>if bM s.size then(lW (ss.drop 1) sep k ((0:Int),rG s)).bind fun l=>if l=[] then none else some (qI l) else none else none
 else none
theorem Bz(k:Nat)(ss:List ByteArray)(sep:ByteArray)(r:ByteArray)(h:uq k ss sep=some r):
 bZ Tryz.prog 93 [.rep (.slice .str) ss,.eq (.string sep)] [] (fun _:Unit=>(bu [.eq (.string r)],[])):=by
 unfold uq at h
 split at h
 case isFalse=>cases h
 rename_i hc
 obtain⟨hsep,hlen⟩:=hc
 unfold bM at hlen
 replace h:=bb h
 refine bZ.of 75 Tryz.func93 rfl Tryz.ntmps93 rfl fun S w0=>?_
 refine ae ?_
 refine ab ?_
 refine dE rfl ?_
 refine au ?_
 refine ag ?_
 show JC _ _ _ _ _
 refine ae ?_
 refine ae ?_
 refine ab ?_
 refine aC rfl rfl ?_
 refine aG rfl (jE rfl rfl Tryz.underlying143) ⟨rfl,trivial⟩ ?_
 refine au ?_
 refine ag ?_
 show JC _ _ _ _ _
 refine ao ?_
 refine ae ?_
 refine ab ?_
 refine aG rfl (fU rfl) ⟨rfl,rfl,trivial⟩ ?_
 refine dj rfl rfl ?_
 refine au ?_
 refine ag ?_
 show JC _ _ _ _ _
 refine bK rfl (fun hb=>?_) (fun hb=>?_)
 ·
  replace h:=cH (oD hb) h;refine ae ?_;refine ab ?_;refine dE rfl ?_;refine au ?_;refine ag ?_;show JC _ _ _ _ _;refine aA ?_;refine bi ?_;refine aV ?_;obtain rfl:=Option.some.inj h;exact aQ () [_] 0 ⟨rfl,trivial⟩ rfl
 replace h:=bS (nI hb) h
 have hne0:=nI hb
 refine ae ?_
 refine ab ?_
 refine aG rfl (fU rfl) ⟨rfl,rfl,trivial⟩ ?_
 refine dj rfl rfl ?_
 refine au ?_
 refine ag ?_
 show JC _ _ _ _ _
 refine bK rfl (fun hb=>?_) (fun hb=>?_)
 ·
  replace h:=cH (oD hb) h;have es:aS ss 0=some r:=by simpa using h
  refine ae ?_;refine ab ?_;refine aC rfl rfl ?_;refine aG rfl (aF (t:=.str) rfl Tryz.underlying143 xK es) ⟨rfl,rfl,trivial⟩ ?_;refine aG rfl (an (t:=.str) rfl xK rfl) ⟨rfl,trivial⟩ ?_;refine dj rfl rfl ?_;refine au ?_;refine ag ?_;show JC _ _ _ _ _;refine aA ?_;refine bi ?_;refine aV ?_;exact aQ () [_] 0 ⟨rfl,trivial⟩ rfl
 replace h:=bS (nI hb) h
 have hne1:=nI hb
 refine aY ?_
 refine aN ?_
 refine ag ?_
 show JC _ _ _ _ _
 refine ae ?_
 refine ab ?_
 refine dE rfl ?_
 refine au ?_
 refine ag ?_
 show JC _ _ _ _ _
 refine ae ?_
 refine ae ?_
 refine ab ?_
 refine aC rfl rfl ?_
 refine aG rfl (np rfl rfl Tryz.underlying9) ⟨rfl,trivial⟩ ?_
 refine aG rfl (ip rfl) ⟨rfl,rfl,trivial⟩ ?_
 refine au ?_
 refine ag ?_
 show JC _ _ _ _ _
 have c1:ck ((ss.length:Int) - 1)=some ((ss.length:Int) - 1):=by unfold ck;rw [if_pos (by omega)]
 have c2:ck ((sep.size:Int) * ((ss.length:Int) - 1))=some ((ss.length:Int) - 1):=by rw [hsep];simpa using c1
 have c3:ck (0+((ss.length:Int) - 1))=some ((ss.length:Int) - 1):=by rw [Int.zero_add];exact c1
 refine bK rfl (fun hb=>?_) (fun hb=>absurd (nI hb) (by omega))
 refine ae ?_
 refine ae ?_
 refine ab ?_
 refine aC rfl rfl ?_
 refine aG rfl (np rfl rfl Tryz.underlying9) ⟨rfl,trivial⟩ ?_
 refine aC rfl rfl ?_
 refine aG rfl (jE rfl rfl Tryz.underlying143) ⟨rfl,trivial⟩ ?_
 refine aG rfl (fS rfl c1) ⟨rfl,rfl,trivial⟩ ?_
 refine aG rfl (O7 rfl (by omega)) ⟨rfl,rfl,trivial⟩ ?_
 refine aG rfl (qy rfl) ⟨rfl,rfl,trivial⟩ ?_
 refine au ?_
 refine ag ?_
 show JC _ _ _ _ _
 refine bK rfl (fun hb=>?_) (fun hb=>?_)
 ·
  exfalso;have h1:=oD hb;have q1:(9223372036854775807:Int).tdiv ((ss.length:Int) - 1)=9223372036854775807 / ((ss.length:Int) - 1):=Int.tdiv_eq_ediv_of_nonneg (by omega);have q2:(2:Int)≤9223372036854775807 / ((ss.length:Int) - 1):=Int.le_ediv_of_mul_le (by omega) (by omega);have q3:(9223372036854775807:Int) / ((ss.length:Int) - 1)≤9223372036854775807:=Int.ediv_le_self _ (by omega);rw [q1,su (z:=9223372036854775807 / ((ss.length:Int) - 1)) (by unfold ck;rw [if_pos (by omega)])] at h1;omega
 refine aY ?_
 refine ag ?_
 show JC _ _ _ _ _
 refine ab ?_
 refine aC rfl rfl ?_
 refine aC rfl rfl ?_
 refine aG rfl (np rfl rfl Tryz.underlying9) ⟨rfl,trivial⟩ ?_
 refine aC rfl rfl ?_
 refine aG rfl (jE rfl rfl Tryz.underlying143) ⟨rfl,trivial⟩ ?_
 refine aG rfl (fS rfl c1) ⟨rfl,rfl,trivial⟩ ?_
 refine aG rfl (LX rfl c2) ⟨rfl,rfl,trivial⟩ ?_
 refine aG rfl (bg rfl c3) ⟨rfl,rfl,trivial⟩ ?_
 refine dj rfl rfl ?_
 refine au ?_
 refine ag ?_
 show JC _ _ _ _ _
 rw [Option.bind_assoc] at h
 refine ae ?_
 refine ae ?_
 refine ab ?_
 refine aC rfl rfl ?_
 refine aG rfl (jE rfl rfl Tryz.underlying143) ⟨rfl,trivial⟩ ?_
 refine eG rfl ?_
 refine au ?_
 refine ag ?_
 show JC _ _ _ _ _
 refine ao ?_
 refine aK (Z:=Unit) (α:=Int×Int) (fun _ y=>[(0,.rep (.slice .str) ss),(1,.eq (.string sep)),(5,.eq (.int .i64 y.2)),(39,.rep (.slice .str) ss),(40,.eq (.int .i64 (ss.length:Int))),(41,.eq (.int .i64 y.1))]) (fun _ _=>[]) (nS ss) k () ((0:Int),(ss.length:Int) - 1) (fun _=>rfl) h (SE.fin [] ⟨rfl,rfl,rfl,rfl,rfl,rfl,trivial⟩ rfl) (fun n z y h=>?_)
 unfold nS at h
 refine ae ?_
 refine ab ?_
 refine aG rfl (bj rfl) ⟨rfl,rfl,trivial⟩ ?_
 refine au ?_
 refine ag ?_
 show JC _ _ _ _ _
 refine ae ?_
 refine bK rfl (fun hb=>?_) (fun hb=>?_)
 ·
  replace h:=cH (oD hb) h;refine aY ?_;refine ag ?_;show JC _ _ _ _ _;refine ae ?_;refine ao ?_;refine ae ?_;refine ab ?_;obtain⟨s,es,h⟩:=aa h;refine aG rfl (aF (t:=.str) rfl Tryz.underlying143 xK es) ⟨rfl,rfl,trivial⟩ ?_;refine aG rfl (an (t:=.str) rfl xK rfl) ⟨rfl,trivial⟩ ?_;refine dj rfl rfl ?_;refine au ?_;refine ag ?_;show JC _ _ _ _ _;refine ae ?_;refine ae ?_;refine ab ?_;refine aC rfl rfl ?_;refine aG rfl (np rfl rfl Tryz.underlying9) ⟨rfl,trivial⟩ ?_;refine aC rfl rfl ?_;obtain⟨z,ez,h⟩:=aa h;refine aG rfl (fS rfl ez) ⟨rfl,rfl,trivial⟩ ?_;refine aG rfl (ip rfl) ⟨rfl,rfl,trivial⟩ ?_;refine au ?_;refine ag ?_;show JC _ _ _ _ _;refine bK rfl (fun hb=>?_) (fun hb=>?_)
  ·replace h:=cH (oD hb) h;cases h
  replace h:=bS (nI hb) h;refine aY ?_;refine ag ?_;show JC _ _ _ _ _;refine ab ?_;refine aC rfl rfl ?_;refine aC rfl rfl ?_;refine aG rfl (np rfl rfl Tryz.underlying9) ⟨rfl,trivial⟩ ?_;obtain⟨z2,ez2,h⟩:=aa h;refine aG rfl (bg rfl ez2) ⟨rfl,rfl,trivial⟩ ?_;refine dj rfl rfl ?_;refine au ?_;refine aN ?_;refine ag ?_;show JC _ _ _ _ _;refine ab ?_;obtain⟨z3,ez3,h⟩:=aa h;refine aG rfl (bg rfl ez3) ⟨rfl,rfl,trivial⟩ ?_;refine aC rfl rfl ?_;refine au ?_;refine ag ?_;exact iW ((),(z3,z2)) h (SE.fin [] ⟨rfl,rfl,rfl,rfl,rfl,rfl,trivial⟩ rfl)
 replace h:=bS (nI hb) h
 refine dF ?_
 refine aU ?_
 refine aU ?_
 refine bY ?_
 refine ag ?_
 show JC _ _ _ _ _
 replace h:((if 0 < y.2∧y.2≤281474976710656 then(aS ss 0).bind fun s=>if bM s.size then(lW (ss.drop 1) sep k ((0:Int),rG s)).bind fun l=>if l=[] then none else some (qI l) else none else none):Option ByteArray).bind some=some r:=h
 obtain⟨y1,y2⟩:=y
 have hy:0 < y2∧y2≤281474976710656:=by
  apply Classical.byContradiction;intro hn;rw [if_neg hn] at h;cases h
 replace h:=cH hy h
 obtain⟨m,rfl⟩:=Int.eq_ofNat_of_zero_le (show 0≤y2 by omega)
 obtain⟨s0,es0,h⟩:=aa h
 have hs0:bM s0.size:=by
  apply Classical.byContradiction;intro hn;rw [if_neg hn] at h;cases h
 replace h:=cH hs0 h
 rw [Option.bind_assoc] at h
 refine ae ?_
 refine ab ?_
 refine aD rfl rfl rfl (a9 rfl F6 IT) trivial fun b=>?_
 refine au ?_
 refine ag ?_
 show JC _ _ _ _ _
 refine ae ?_
 refine ab ?_
 refine aC rfl rfl ?_
 refine bT (Δ:=[_]) (F:=_) (fun _ _ _=>ay rfl _) rfl rfl (ar [.tmp 8,.tmp 56] rfl rfl NL rfl (GL (b:=b) (n:=m) (by omega) (by omega))) ⟨rfl,rfl,trivial⟩ fun bc=>?_
 refine au ?_
 refine ag ?_
 show JC _ _ _ _ _
 refine ae ?_
 refine ab ?_
 refine aC rfl rfl ?_
 refine aG rfl (aF (t:=.str) rfl Tryz.underlying143 xK es0) ⟨rfl,rfl,trivial⟩ ?_
 refine aG rfl (an (t:=.str) rfl xK rfl) ⟨rfl,trivial⟩ ?_
 refine bT (Δ:=[_,_]) (F:=_) (fun _ _ _=>ay rfl _) rfl rfl (ar [.tmp 8,.tmp 60] rfl rfl CQ rfl (lX (b:=b) (p:=some ⟨b,0,none⟩) (v:=BA bc) (l:=[]) (s:=s0) (.inr rfl) rfl (by simpa using hs0))) ⟨rfl,rfl,trivial⟩ fun v0=>?_
 refine au ?_
 refine ag ?_
 show JC _ _ _ _ _
 refine ae ?_
 refine ae ?_
 refine ab ?_
 refine aC rfl rfl ?_
 refine aG rfl (EV (t:=.str) rfl Tryz.underlying143 xK (by decide) (by omega)) ⟨rfl,rfl,trivial⟩ ?_
 refine aG rfl (jE rfl rfl Tryz.underlying143) ⟨rfl,trivial⟩ ?_
 refine eG rfl ?_
 refine au ?_
 refine ag ?_
 show JC _ _ _ _ _
 refine ao ?_
 refine aK (Z:=Value) (α:=Int×List Int) (fun _ y=>[(1,.eq (.string sep)),(8,.eq (bP b)),(63,.rep (.slice .str) (ss.drop 1)),(64,.eq (.int .i64 ((ss.drop 1).length:Int))),(65,.eq (.int .i64 y.1))]) (fun v y=>[.obj b 147 (bA (bP b) v),.sl v 5 (.int .u8) y.2]) (lW (ss.drop 1) sep) k v0 ((0:Int),rG s0) (fun _=>rfl) h (SE.fin [0,1] ⟨rfl,rfl,rfl,rfl,rfl,trivial⟩ rfl) (fun n v y h=>?_)
 unfold lW at h
 refine ae ?_
 refine ab ?_
 refine aG rfl (bj rfl) ⟨rfl,rfl,trivial⟩ ?_
 refine au ?_
 refine ag ?_
 show JC _ _ _ _ _
 refine ae ?_
 refine bK rfl (fun hb=>?_) (fun hb=>?_)
 ·
  replace h:=cH (oD hb) h;refine aY ?_;refine ag ?_;show JC _ _ _ _ _;refine ae ?_;refine ao ?_;refine ae ?_;refine ab ?_;obtain⟨s,es,h⟩:=aa h;refine aG rfl (aF (t:=.str) rfl Tryz.underlying143 xK es) ⟨rfl,rfl,trivial⟩ ?_;refine aG rfl (an (t:=.str) rfl xK rfl) ⟨rfl,trivial⟩ ?_;refine dj rfl rfl ?_;refine au ?_;refine ag ?_;show JC _ _ _ _ _
  have hk:bM (y.2.length+sep.size)∧bM ((y.2++rG sep).length+s.size):=by
   apply Classical.byContradiction;intro hn;rw [if_neg hn] at h;cases h
  replace h:=cH hk h;refine vU 1 rfl fun hv=>?_;refine ae ?_;refine ab ?_;refine aC rfl rfl ?_;refine bT (Δ:=[_,_]) (F:=_) (fun _ _ _=>ay rfl _) rfl rfl (ar [.tmp 8,.tmp 69] rfl rfl CQ rfl (lX (b:=b) (p:=some ⟨b,0,none⟩) (s:=sep) (.inr rfl) hv hk.1)) ⟨rfl,rfl,trivial⟩ fun v1=>?_;refine au ?_;refine ag ?_;show JC _ _ _ _ _;refine vU 1 rfl fun hv1=>?_;refine ab ?_;refine aC rfl rfl ?_;refine bT (Δ:=[_,_]) (F:=_) (fun _ _ _=>ay rfl _) rfl rfl (ar [.tmp 8,.tmp 71] rfl rfl CQ rfl (lX (b:=b) (p:=some ⟨b,0,none⟩) (s:=s) (.inr rfl) hv1 hk.2)) ⟨rfl,rfl,trivial⟩ fun v2=>?_;refine au ?_;refine aN ?_;refine ag ?_;show JC _ _ _ _ _;refine ab ?_;obtain⟨z3,ez3,h⟩:=aa h;refine aG rfl (bg rfl ez3) ⟨rfl,rfl,trivial⟩ ?_;refine aC rfl rfl ?_;refine au ?_;refine ag ?_;exact iW (v2,(z3,(y.2++rG sep)++rG s)) h (SE.fin [0,1] ⟨rfl,rfl,rfl,rfl,rfl,trivial⟩ rfl)
 replace h:=bS (nI hb) h
 refine dF ?_
 refine aU ?_
 refine aU ?_
 refine bY ?_
 refine ag ?_
 show JC _ _ _ _ _
 replace h:(if y.2=[] then none else some (qI y.2):Option ByteArray).bind some=some r:=h
 have hy2:y.2≠[]:=by
  intro hn;rw [if_pos hn] at h;cases h
 rw [if_neg hy2] at h
 obtain rfl:=Option.some.inj h
 refine ae ?_
 refine ab ?_
 refine bT (Δ:=[_,_]) (F:=_) (fun _ _ _=>ay rfl _) rfl rfl (ar [.tmp 8] rfl rfl Iw rfl (wL (b:=b) (fun hn=>absurd hn hy2))) ⟨rfl,trivial⟩ fun _=>?_
 refine dj rfl rfl ?_
 refine au ?_
 refine ag ?_
 show JC _ _ _ _ _
 refine aA ?_
 exact aQ () [_] 0 ⟨rfl,trivial⟩ rfl
end Go.Proofs.YtghkncjelangeaaGreatDoor
