import Derived.Test.YtcnpijmfgfnpiaaGreatDoorXKB5
import Derived.Test.YtcnpijmfgfnpiaaGreatDoorProg
import Derived.Stop.Asserts
set_option linter.unusedSimpArgs false
set_option linter.unusedVariables false
set_option maxRecDepth 20000
set_option maxHeartbeats 4000000
namespace Go.Proofs.YtcnpijmfgfnpiaaGreatDoor
open K Go Go.Proofs Go.Extern
theorem xF:dc Tryz.prog 159 1 false:=⟨fun w=>by kernel_rfl,fun w=>by kernel_rfl⟩
theorem ic:dc Tryz.prog 160 1 false:=⟨fun w=>by kernel_rfl,fun w=>by kernel_rfl⟩
theorem Hq:aY Tryz.prog 162 0 0:=aY.of (by kernel_rfl)
theorem px:aY Tryz.prog 162 1 1:=aY.of (by kernel_rfl)
theorem xH:kx Tryz.prog 160 5 1 1:=.of (z:=(.int .u8 (0))) Tryz.underlying160 (by kernel_rfl) rfl rfl rfl
theorem HA:eF Tryz.prog 186 Extern.AbiNoEscape.same:=.of Tryz.func186 (by kernel_rfl) (by kernel_rfl) (by kernel_rfl) (by kernel_rfl)
theorem yt:ah Tryz.prog 151:=ah.of Tryz.func151 (by kernel_rfl) (by kernel_rfl)
theorem HC:ah Tryz.prog 152:=ah.of Tryz.func152 (by kernel_rfl) (by kernel_rfl)
@[reducible] def bA(p v:Value):A:=.agg (.pair (.eq p) (.eq v))
abbrev bP(b:Nat):Value:=.pointer (some ⟨b,0,none⟩)
theorem so{p:Option Addr}:Ns Tryz.prog (binOp .eql 159 (.pointer p) (.pointer none)):=by
 cases p with
 |none=>exact mt (by kernel_rfl)
 |some p=>exact mt (by kernel_rfl)
theorem zK{p:Option Addr}{x y:Operand}(w:World):(do eqGuard .eql 159 x y (.pointer p) (.pointer none);binOp .eql 159 (.pointer p) (.pointer none):Sem Value).run Tryz.prog w= .ok (.bool p.isNone) w:=by
 cases p <;> kernel_rfl
theorem yb{p:Addr}:Ns Tryz.prog (binOp .neq 159 (.pointer (some p)) (.pointer (some p))):=by
 refine ai (s:=Op.equal 159 (.pointer (some p)) (.pointer (some p))) ?_ fun _=>bh;show Ns Tryz.prog (Op.equalIn (9999+1) 159 (.pointer (some p)) (.pointer (some p)));unfold Op.equalIn;refine cu Tryz.underlying159 (ai cz fun n=>qm ?_ (qm bh (ai eo fun _=>bh)));unfold sameAddr;simp only [beq_self_eq_true,if_true];exact bh
theorem G9:∃j,Tryz.prog.info? 162=some j∧j.size≠0:=by
 obtain⟨j,h1,h2⟩:=Option.map_eq_some_iff.1 (show(Tryz.prog.info? 162).map (·.size)=some 2 by kernel_rfl);exact⟨j,h1,by omega⟩
theorem lX{b:Nat}{p:Option Addr}{v:Value}(hp:p=none∨p=some ⟨b,0,none⟩)(hv:bm v=true):cy Tryz.prog 151 [.eq (bP b)] [.obj b 162 (bA (.pointer p) v)] (fun _:Unit=>(bG [],[.obj b 162 (bA (bP b) v)])):=by
 obtain⟨j162,inf162_eq,inf162_sz⟩:=G9;refine cy.of 20 Tryz.func151 rfl Tryz.ntmps151 rfl fun S w0=>?_;refine ag ?_;refine ab ?_;refine av rfl rfl ?_;refine ax rfl (bK rfl) ⟨rfl,trivial⟩ ?_;refine ax rfl (aD rfl Hq) ⟨rfl,trivial⟩ ?_;refine bL rfl rfl rfl (ap rfl xF (fun _=>rfl) rfl) ⟨rfl,trivial⟩ ?_;refine ax rfl (gZ rfl zK so) ⟨rfl,rfl,trivial⟩ ?_;refine an ?_;refine ae ?_;show JC _ _ _ _ _;refine bu rfl (fun hb=>?_) (fun hb=>?_)
 ·refine ab ?_;refine av rfl rfl ?_;refine av rfl rfl ?_;refine bL rfl rfl rfl (xU rfl Tryz.underlying159 Tryz.underlying179 inf162_eq inf162_sz rfl) ⟨rfl,trivial⟩ ?_;refine ax rfl (BG HA [.tmp 9] [bP b] rfl rfl rfl (fun _=>rfl) bh) ⟨rfl,trivial⟩ ?_;refine bL rfl rfl rfl (uA rfl Tryz.underlying179 Tryz.underlying159 inf162_eq (by kernel_rfl)) ⟨rfl,trivial⟩ ?_;refine ax rfl (bK rfl) ⟨rfl,trivial⟩ ?_;refine ax rfl (aD rfl Hq) ⟨rfl,trivial⟩ ?_;refine aX rfl rfl (aO rfl xF rfl rfl rfl) ⟨rfl,rfl,trivial⟩ ?_;refine an ?_;refine gB ?_;exact aC () [] 1 trivial rfl
 ·have hp':p=some ⟨b,0,none⟩:=by
   rcases hp with rfl |rfl
   ·cases hb
   ·rfl
  subst hp';refine ag ?_;refine ab ?_;refine av rfl rfl ?_;refine ax rfl (bK rfl) ⟨rfl,trivial⟩ ?_;refine ax rfl (aD rfl Hq) ⟨rfl,trivial⟩ ?_;refine bL rfl rfl rfl (ap rfl xF (fun _=>rfl) rfl) ⟨rfl,trivial⟩ ?_;refine av rfl rfl ?_;refine ax rfl (By rfl Tryz.underlying159 inf162_eq yb) ⟨rfl,rfl,trivial⟩ ?_;refine an ?_;refine ae ?_;show JC _ _ _ _ _;refine bu rfl (fun hb=>(by cases hb)) (fun hb=>?_);refine aU ?_;refine gB ?_;exact aC () [] 1 trivial rfl
theorem sY{v:Value}{l:List Int}{r:Int}(h0:0≤r)(h1:r≤127)(hl:cg (l.length+1)):cy Tryz.prog 152 [.eq v,.eq (.int .i32 r)] [.sl v 5 (.int .u8) l] (fun v':Value=>(bG [.eq v'],[.sl v' 5 (.int .u8) (l++[r])])):=by
 refine cy.of 16 Tryz.func152 rfl Tryz.ntmps152 rfl fun S w0=>?_;have w32:IntKind.u32.wrap r=r:=by simp [IntKind.wrap,IntKind.bits,IntKind.signed];omega
 have w8:IntKind.u8.wrap r=r:=by simp [IntKind.wrap,IntKind.bits,IntKind.signed];omega
 refine ag ?_;refine ab ?_;refine dn rfl ?_;refine an ?_;refine ae ?_;show JC _ _ _ _ _;refine ag ?_;refine ag ?_;refine ab ?_;refine av rfl rfl ?_;refine ax rfl (qi rfl Tryz.underlying21 Tryz.underlying201) ⟨rfl,trivial⟩ ?_;rw [w32];refine ax rfl (tD rfl) ⟨rfl,rfl,trivial⟩ ?_;refine an ?_;refine ae ?_;show JC _ _ _ _ _;refine bu rfl (fun hb=>?_) (fun hb=>absurd h1 (by simpa using hb));refine ag ?_;refine ab ?_;refine av rfl rfl ?_;refine av rfl rfl ?_;refine ax rfl (qi rfl Tryz.underlying21 Tryz.underlying5) ⟨rfl,trivial⟩ ?_;rw [w8];refine ax rfl (aJ (t:=(.int .u8)) [(.tmp 10,.eq (.int .u8 r))] [r] rfl rfl xH (.cons rfl .int .nil) rfl rfl) ⟨rfl,trivial⟩ ?_;refine eh rfl rfl rfl (cV rfl rfl xH (by simpa using hl)) ⟨rfl,rfl,trivial⟩ fun v'=>?_;refine cS rfl rfl ?_;refine an ?_;refine ae ?_;show JC _ _ _ _ _;refine aA ?_;refine aW ?_;exact aC v' [_] 1 ⟨rfl,trivial⟩ rfl
theorem uo{b:Nat}{p:Option Addr}{v:Value}{l:List Int}{r:Int}(hp:p=none∨p=some ⟨b,0,none⟩)(hv:bm v=true)(h0:0≤r)(h1:r≤127)(hl:cg (l.length+1)):
 cy Tryz.prog 119 [.eq (bP b),.eq (.int .i32 r)] [.obj b 162 (bA (.pointer p) v),.sl v 5 (.int .u8) l]
  (fun v':Value=>(bG [.eq (.int .i64 1),.eq .nilIface],[.obj b 162 (bA (bP b) v'),.sl v' 5 (.int .u8) (l++[r])])):=by
 refine cy.of 30 Tryz.func119 rfl Tryz.ntmps119 rfl fun S w0=>?_
 refine ag ?_
 refine ab ?_
 refine dn rfl ?_
 refine dn rfl ?_
 refine an ?_
 refine ae ?_
 show JC _ _ _ _ _
 refine ag ?_
 refine ab ?_
 refine av rfl rfl ?_
 refine bL rfl rfl rfl (aj [.tmp 7] rfl rfl yt rfl (lX hp hv)) ⟨rfl,trivial⟩ ?_
 refine an ?_
 refine ae ?_
 show JC _ _ _ _ _
 refine ag ?_
 refine ab ?_
 refine av rfl rfl ?_
 refine ax rfl (bK rfl) ⟨rfl,trivial⟩ ?_
 refine ax rfl (aD rfl px) ⟨rfl,trivial⟩ ?_
 refine bL rfl rfl rfl (ap rfl ic (fun _=>rfl) rfl) ⟨rfl,trivial⟩ ?_
 refine bz 1 rfl ?_
 refine bL rfl rfl rfl (dh rfl rfl Tryz.underlying160) ⟨rfl,trivial⟩ ?_
 refine cS rfl rfl ?_
 refine an ?_
 refine ae ?_
 show JC _ _ _ _ _
 refine ag ?_
 refine ab ?_
 refine av rfl rfl ?_
 refine av rfl rfl ?_
 refine ax rfl (bK rfl) ⟨rfl,trivial⟩ ?_
 refine ax rfl (aD rfl px) ⟨rfl,trivial⟩ ?_
 refine bz 1 rfl ?_
 refine bL rfl rfl rfl (ap rfl ic (fun _=>rfl) rfl) ⟨rfl,trivial⟩ ?_
 refine av rfl rfl ?_
 refine bz 1 rfl ?_
 refine eh rfl rfl rfl (aj [.tmp 18,.tmp 19] rfl rfl HC rfl (sY h0 h1 hl)) ⟨rfl,rfl,trivial⟩ fun v'=>?_
 refine eY fun hv'=>?_
 refine ax rfl (bK rfl) ⟨rfl,trivial⟩ ?_
 refine ax rfl (aD rfl px) ⟨rfl,trivial⟩ ?_
 refine bz 1 rfl ?_
 refine aX rfl rfl (aO rfl ic hv' rfl rfl) ⟨rfl,rfl,trivial⟩ ?_
 refine an ?_
 refine ae ?_
 show JC _ _ _ _ _
 refine ag ?_
 refine ab ?_
 refine av rfl rfl ?_
 refine ax rfl (bK rfl) ⟨rfl,trivial⟩ ?_
 refine ax rfl (aD rfl px) ⟨rfl,trivial⟩ ?_
 refine bL rfl rfl rfl (ap rfl ic (fun _=>rfl) rfl) ⟨rfl,trivial⟩ ?_
 refine bz 1 rfl ?_
 refine bL rfl rfl rfl (dh rfl rfl Tryz.underlying160) ⟨rfl,trivial⟩ ?_
 refine av rfl rfl ?_
 have hck:ck (((l++[r]).length:Int) - (l.length:Int))=some 1:=by
  have:(((l++[r]).length:Int) - (l.length:Int))=1:=by simp;omega
  rw [this];rfl
 refine ax rfl (gl rfl hck) ⟨rfl,rfl,trivial⟩ ?_
 refine cS rfl rfl ?_
 refine dn rfl ?_
 refine an ?_
 refine ae ?_
 show JC _ _ _ _ _
 refine aA ?_
 refine bf (SE.fin (Γ':=[(4,_),(5,_)]) [1,0] ⟨rfl,rfl,trivial⟩ rfl) ?_
 exact aC v' [_,_] 2 ⟨rfl,rfl,trivial⟩ rfl
theorem LR:Tryz.prog.cellsOf 5=1:=by kernel_rfl
theorem oq:Tryz.prog.follows .mixedOrders=true:=by kernel_rfl
theorem tw{b:Nat}{p v:Value}{l:List Int}(hl:l=[]→v= .slice none 0 0):
 cy Tryz.prog 120 [.eq (bP b)] [.obj b 162 (bA p v),.sl v 5 (.int .u8) l] (fun _:Unit=>(bG [.eq (.string (nW l))],[])):=by
 refine cy.of 14 Tryz.func120 rfl Tryz.ntmps120 rfl fun S w0=>?_
 refine ag ?_
 refine ab ?_
 refine dn rfl ?_
 refine an ?_
 refine ae ?_
 show JC _ _ _ _ _
 refine ag ?_
 refine cX ?_
 refine dj rfl rfl rfl (bZ rfl) ⟨rfl,trivial⟩ ?_
 refine dj rfl rfl rfl (bK rfl) ⟨rfl,trivial⟩ ?_
 refine dj rfl rfl rfl (aD rfl px) ⟨rfl,trivial⟩ ?_
 refine mj 0 rfl rfl rfl rfl (ap rfl ic (fun _=>rfl) rfl) ⟨rfl,trivial⟩ ?_
 refine mj 1 rfl rfl rfl rfl (vV rfl rfl hl) ⟨rfl,trivial⟩ ?_
 refine dj rfl rfl rfl (bZ rfl) ⟨rfl,trivial⟩ ?_
 refine dj rfl rfl rfl (bK rfl) ⟨rfl,trivial⟩ ?_
 refine dj rfl rfl rfl (aD rfl px) ⟨rfl,trivial⟩ ?_
 refine mj 0 rfl rfl rfl rfl (ap rfl ic (fun _=>rfl) rfl) ⟨rfl,trivial⟩ ?_
 refine mj 1 rfl rfl rfl rfl (dh rfl rfl Tryz.underlying160) ⟨rfl,trivial⟩ ?_
 refine qG (by kernel_rfl) oq ?_
 refine bz 1 rfl ?_
 refine bI (Δ:=[_]) (F:=_) (fun _ _ _=>ar rfl _) rfl rfl (sd rfl rfl Tryz.underlying213 LR hl) ⟨rfl,rfl,trivial⟩ fun _=>?_
 refine cS rfl rfl ?_
 refine an ?_
 refine ae ?_
 show JC _ _ _ _ _
 refine aA ?_
 exact aC () [_] 0 ⟨rfl,trivial⟩ rfl
theorem Ld:(Tryz.prog.info? 5).bind (·.zero)=some (.int .u8 0):=by kernel_rfl
theorem j8{b:Nat}{p:Option Addr}{v:Value}{l:List Int}{s:ByteArray}(hp:p=none∨p=some ⟨b,0,none⟩)(hv:bm v=true)(hl:cg (l.length+s.size)):
 cy Tryz.prog 154 [.eq (bP b),.eq (.string s)] [.obj b 162 (bA (.pointer p) v),.sl v 5 (.int .u8) l]
  (fun v':Value=>(bG [.eq (.int .i64 s.size),.eq .nilIface],[.obj b 162 (bA (bP b) v'),.sl v' 5 (.int .u8) (l++oU s)])):=by
 refine cy.of 19 Tryz.func154 rfl Tryz.ntmps154 rfl fun S w0=>?_
 refine ag ?_
 refine ab ?_
 refine dn rfl ?_
 refine dn rfl ?_
 refine an ?_
 refine ae ?_
 show JC _ _ _ _ _
 refine ag ?_
 refine ab ?_
 refine av rfl rfl ?_
 refine bL rfl rfl rfl (aj [.tmp 6] rfl rfl yt rfl (lX hp hv)) ⟨rfl,trivial⟩ ?_
 refine an ?_
 refine ae ?_
 show JC _ _ _ _ _
 refine ag ?_
 refine ab ?_
 refine av rfl rfl ?_
 refine av rfl rfl ?_
 refine ax rfl (bK rfl) ⟨rfl,trivial⟩ ?_
 refine ax rfl (aD rfl px) ⟨rfl,trivial⟩ ?_
 refine bL rfl rfl rfl (ap rfl ic (fun _=>rfl) rfl) ⟨rfl,trivial⟩ ?_
 refine av rfl rfl ?_
 refine bz 1 rfl ?_
 refine eh rfl rfl rfl (wc rfl rfl xH Tryz.underlying9 Ld (by decide) hl) ⟨rfl,rfl,trivial⟩ fun v'=>?_
 refine eY fun hv'=>?_
 refine ax rfl (bK rfl) ⟨rfl,trivial⟩ ?_
 refine ax rfl (aD rfl px) ⟨rfl,trivial⟩ ?_
 refine bz 1 rfl ?_
 refine aX rfl rfl (aO rfl ic hv' rfl rfl) ⟨rfl,rfl,trivial⟩ ?_
 refine an ?_
 refine ae ?_
 show JC _ _ _ _ _
 refine ag ?_
 refine ab ?_
 refine av rfl rfl ?_
 refine ax rfl (lF rfl rfl Tryz.underlying9) ⟨rfl,trivial⟩ ?_
 refine cS rfl rfl ?_
 refine dn rfl ?_
 refine an ?_
 refine ae ?_
 show JC _ _ _ _ _
 refine aA ?_
 exact aC v' [_,_] 2 ⟨rfl,rfl,trivial⟩ rfl
theorem Hy:eF Tryz.prog 207 (Extern.BytealgMakeNoZero.makeNoZero #[3] #[160]):=.of Tryz.func207 (by kernel_rfl) (by kernel_rfl) (by kernel_rfl) (by kernel_rfl)
theorem Hz:ah Tryz.prog 188:=ah.of Tryz.func188 (by kernel_rfl) (by kernel_rfl)
def Le:Value→List D
 | .slice (some ⟨b,0,none⟩) m c=>[.sl (.slice (some ⟨b,0,none⟩) 0 c) 5 (.int .u8) []]
 |_=>[Dm]
theorem GN{v:Value}(h:∀d∈Le v,∃S w,d.holds S w):∃b m c,v= .slice (some ⟨b,0,none⟩) m c:=by
 unfold Le at h;split at h
 ·exact⟨_,_,_,rfl⟩
 ·obtain⟨S,w,hb⟩:=h Dm (by simp);exact absurd hb wU
theorem IG:dc Tryz.prog 5 1 false:=⟨fun w=>by kernel_rfl,fun w=>by kernel_rfl⟩
theorem Bc{b cap:Nat}:sliced (some ⟨b,0,none⟩) 0 (Int.toNat 0) cap 1= .slice (some ⟨b,0,none⟩) 0 cap:=yK
abbrev xJ(bc:Nat×Nat):Value:=.slice (some ⟨bc.1,0,none⟩) 0 bc.2
theorem Eh{b n:Nat}{p:Value}(hn:n≤281474976710656):
 cy Tryz.prog 188 [.eq (bP b),.eq (.int .i64 n)] [.obj b 162 (bA p (.slice none 0 0))] (fun bc:Nat×Nat=>(bG [],[.obj b 162 (bA p (xJ bc)),.sl (xJ bc) 5 (.int .u8) []])):=by
 refine cy.of 30 Tryz.func188 rfl Tryz.ntmps188 rfl fun S w0=>?_
 have c1:ck (2 * ((0:Nat):Int))=some 0:=rfl
 have c2:ck (0+(n:Int))=some (n:Int):=by rw [Int.zero_add];unfold ck;rw [if_pos (by omega)]
 refine ag ?_
 refine lN ?_
 refine cG rfl rfl rfl (bZ rfl) ⟨rfl,trivial⟩ ?_
 refine cG rfl rfl rfl (bK rfl) ⟨rfl,trivial⟩ ?_
 refine cG rfl rfl rfl (aD rfl px) ⟨rfl,trivial⟩ ?_
 refine iq 0 rfl rfl rfl rfl (ap rfl ic (fun _=>rfl) rfl) ⟨rfl,trivial⟩ ?_
 refine cG rfl rfl rfl (BJ rfl rfl Tryz.underlying160) ⟨rfl,trivial⟩ ?_
 refine cG rfl rfl rfl (F8 rfl c1) ⟨rfl,rfl,trivial⟩ ?_
 refine cG rfl rfl rfl (bZ rfl) ⟨rfl,trivial⟩ ?_
 refine cG rfl rfl rfl (bM rfl c2) ⟨rfl,rfl,trivial⟩ ?_
 refine zx Le (fun _=>rfl) rfl rfl rfl (Bv Hy rfl rfl Tryz.underlying160 hn) ⟨rfl,trivial⟩ ?_
 refine cG rfl rfl rfl (bZ rfl) ⟨rfl,trivial⟩ ?_
 refine cG rfl rfl rfl (bK rfl) ⟨rfl,trivial⟩ ?_
 refine cG rfl rfl rfl (aD rfl px) ⟨rfl,trivial⟩ ?_
 refine iq 0 rfl rfl rfl rfl (ap rfl ic (fun _=>rfl) rfl) ⟨rfl,trivial⟩ ?_
 refine cG rfl rfl rfl (BB rfl rfl Tryz.underlying160) ⟨rfl,trivial⟩ ?_
 refine qF 14 [true,true,true,true,true,true,true,true,true,true,true,true,true,true] [19,4] [] [] rfl (by kernel_rfl) (by kernel_rfl) (by kernel_rfl) oq (fun vs hv hB=>?_)
 obtain⟨u0,vs1,rfl,hv1⟩:=aM hv
 obtain⟨u1,vs2,rfl,hv2⟩:=aM hv1
 obtain⟨u2,vs3,rfl,hv3⟩:=aM hv2
 obtain⟨u3,vs4,rfl,hv4⟩:=aM hv3
 obtain⟨u4,vs5,rfl,hv5⟩:=aM hv4
 obtain⟨u5,vs6,rfl,hv6⟩:=aM hv5
 obtain⟨u6,vs7,rfl,hv7⟩:=aM hv6
 obtain⟨u7,vs8,rfl,hv8⟩:=aM hv7
 obtain⟨u8,vs9,rfl,hv9⟩:=aM hv8
 obtain⟨u9,vs10,rfl,hv10⟩:=aM hv9
 obtain⟨u10,vs11,rfl,hv11⟩:=aM hv10
 obtain⟨u11,vs12,rfl,hv12⟩:=aM hv11
 obtain⟨u12,vs13,rfl,hv13⟩:=aM hv12
 obtain⟨u13,vs14,rfl,hv14⟩:=aM hv13
 obtain rfl:=nq hv14
 obtain⟨g,m,q,rfl⟩:=GN hB.2.2.2.2.2.2.2.2.1
 refine⟨[0,1],[.obj b 162 (bA p (.slice none 0 0)),.sl (xJ (g,q)) 5 (.int .u8) []],by kernel_rfl,by decide,?_⟩
 refine qD rfl rfl rfl rfl (sf rfl Tryz.underlying160 IG (Int.le_refl 0) (Int.natCast_nonneg _)) ⟨rfl,rfl,trivial⟩ (by kernel_rfl) ?_
 rw [Bc]
 refine qD rfl rfl rfl rfl (iV rfl) ⟨rfl,trivial⟩ (by kernel_rfl) ?_
 refine vg ?_
 refine bf (SE.fin (Γ':=[(0,.eq (bP b)),(4,.eq (xJ (g,q)))]) (Δ':=[.obj b 162 (bA p (.slice none 0 0)),.sl (xJ (g,q)) 5 (.int .u8) []]) [0,1] ⟨rfl,rfl,trivial⟩ rfl) ?_
 refine ae ?_
 show JC _ _ _ _ _
 refine ag ?_
 refine ab ?_
 refine av rfl rfl ?_
 refine av rfl rfl ?_
 refine ax rfl (bK rfl) ⟨rfl,trivial⟩ ?_
 refine ax rfl (aD rfl px) ⟨rfl,trivial⟩ ?_
 refine bL rfl rfl rfl (ap rfl ic (fun _=>rfl) rfl) ⟨rfl,trivial⟩ ?_
 refine ax rfl (Et rfl rfl Tryz.underlying160 IG) ⟨rfl,rfl,trivial⟩ ?_
 refine an ?_
 refine ae ?_
 show JC _ _ _ _ _
 refine ab ?_
 refine av rfl rfl ?_
 refine av rfl rfl ?_
 refine ax rfl (bK rfl) ⟨rfl,trivial⟩ ?_
 refine ax rfl (aD rfl px) ⟨rfl,trivial⟩ ?_
 refine aX rfl rfl (aO rfl ic rfl rfl rfl) ⟨rfl,rfl,trivial⟩ ?_
 refine an ?_
 refine gB ?_
 exact aC (g,q) [] 2 trivial rfl
end Go.Proofs.YtcnpijmfgfnpiaaGreatDoor
set_option linter.unusedVariables false
set_option maxRecDepth 20000
set_option maxHeartbeats 4000000
namespace Go.Proofs.YtcnpijmfgfnpiaaGreatDoor
open K Go Go.Proofs Go.Extern
theorem Bg{b n:Nat}(h0:0 < n)(hn:n≤281474976710656):
 cy Tryz.prog 153 [.eq (bP b),.eq (.int .i64 n)] [.obj b 162 (bA (.pointer none) (.slice none 0 0))] (fun bc:Nat×Nat=>(bG [],[.obj b 162 (bA (bP b) (xJ bc)),.sl (xJ bc) 5 (.int .u8) []])):=by
 refine cy.of 25 Tryz.func153 rfl Tryz.ntmps153 rfl fun S w0=>?_
 have c1:ck (((0:Nat):Int) - ((0:Nat):Int))=some 0:=rfl
 refine ag ?_
 refine ab ?_
 refine av rfl rfl ?_
 refine bL rfl rfl rfl (aj [.tmp 4] rfl rfl yt rfl (lX (.inl rfl) rfl)) ⟨rfl,trivial⟩ ?_
 refine an ?_
 refine ae ?_
 show JC _ _ _ _ _
 refine ag ?_
 refine ag ?_
 refine ab ?_
 refine av rfl rfl ?_
 refine ax rfl (bO rfl) ⟨rfl,rfl,trivial⟩ ?_
 refine an ?_
 refine ae ?_
 show JC _ _ _ _ _
 refine bu rfl (fun hb=>absurd (of_decide_eq_true hb) (by omega)) (fun hb=>?_)
 refine aU ?_
 refine ae ?_
 show JC _ _ _ _ _
 refine ag ?_
 refine cX ?_
 refine dj rfl rfl rfl (bZ rfl) ⟨rfl,trivial⟩ ?_
 refine dj rfl rfl rfl (bK rfl) ⟨rfl,trivial⟩ ?_
 refine dj rfl rfl rfl (aD rfl px) ⟨rfl,trivial⟩ ?_
 refine mj 0 rfl rfl rfl rfl (ap rfl ic (fun _=>rfl) rfl) ⟨rfl,trivial⟩ ?_
 refine dj rfl rfl rfl (BJ rfl rfl Tryz.underlying160) ⟨rfl,trivial⟩ ?_
 refine dj rfl rfl rfl (bZ rfl) ⟨rfl,trivial⟩ ?_
 refine dj rfl rfl rfl (bK rfl) ⟨rfl,trivial⟩ ?_
 refine dj rfl rfl rfl (aD rfl px) ⟨rfl,trivial⟩ ?_
 refine mj 0 rfl rfl rfl rfl (ap rfl ic (fun _=>rfl) rfl) ⟨rfl,trivial⟩ ?_
 refine dj rfl rfl rfl (BB rfl rfl Tryz.underlying160) ⟨rfl,trivial⟩ ?_
 refine dj rfl rfl rfl (gl rfl c1) ⟨rfl,rfl,trivial⟩ ?_
 refine dj rfl rfl rfl (bZ rfl) ⟨rfl,trivial⟩ ?_
 refine qG (by kernel_rfl) oq ?_
 refine ax rfl (bO rfl) ⟨rfl,rfl,trivial⟩ ?_
 refine an ?_
 refine ae ?_
 show JC _ _ _ _ _
 refine bu rfl (fun hb=>?_) (fun hb=>absurd (of_decide_eq_false hb) (by omega))
 refine ab ?_
 refine av rfl rfl ?_
 refine av rfl rfl ?_
 refine bI (Δ:=[_]) (F:=_) (fun _ _ _=>ar rfl _) rfl rfl (aj [.tmp 22,.tmp 23] rfl rfl Hz rfl (Eh hn)) ⟨rfl,rfl,trivial⟩ fun bc=>?_
 refine an ?_
 refine gB ?_
 exact aC bc [] 2 trivial rfl
theorem ul:dc Tryz.prog 9 1 false:=⟨fun w=>by kernel_rfl,fun w=>by kernel_rfl⟩
theorem HE:ah Tryz.prog 119:=ah.of Tryz.func119 (by kernel_rfl) (by kernel_rfl)
theorem C9:ah Tryz.prog 120:=ah.of Tryz.func120 (by kernel_rfl) (by kernel_rfl)
theorem HB:ah Tryz.prog 153:=ah.of Tryz.func153 (by kernel_rfl) (by kernel_rfl)
theorem yr:ah Tryz.prog 154:=ah.of Tryz.func154 (by kernel_rfl) (by kernel_rfl)
theorem AO:∀w,(zeroValue 162).run Tryz.prog w= .ok (.agg #[.pointer none,.slice none 0 0]) w:=fun w=>by kernel_rfl
theorem Du:∀S w,(A.cells S w (bA (.pointer none) (.slice none 0 0)) (Value.cells (.agg #[.pointer none,.slice none 0 0])).toList):=fun _ _=>⟨[_],_,rfl,⟨rfl,rfl⟩,rfl,rfl⟩
def lW(ss:List ByteArray):Nat→Int×Int→Option Int
 |0,_=>none
 |n+1,y=>if y.1 < (ss.length:Int) then((cd ss y.1).bind fun s=>(ck ((9223372036854775807:Int) - y.2)).bind fun z=>if z < (s.size:Int) then none else(ck (y.2+(s.size:Int))).bind fun z2=>(ck (y.1+(1:Int))).bind fun z3=>lW ss n (z3,z2)) else some y.2
def j7(ss:List ByteArray)(sep:ByteArray):Nat→Int×List Int→Option (List Int)
 |0,_=>none
 |n+1,y=>if y.1 < (ss.length:Int) then((cd ss y.1).bind fun s=>if cg (y.2.length+sep.size)∧cg ((y.2++oU sep).length+s.size) then(ck (y.1+(1:Int))).bind fun z3=>j7 ss sep n (z3,(y.2++oU sep)++oU s) else none) else some y.2
def rj(k:Nat)(ss:List ByteArray)(sep:ByteArray):Option ByteArray:=
 if sep.size=1∧cg ss.length then
  if(ss.length:Int)=(0:Int) then some .empty
  else if(ss.length:Int)=(1:Int) then cd ss 0
  else(lW ss k ((0:Int),(ss.length:Int) - 1)).bind fun n=>
   if 0 < n∧n≤281474976710656 then(cd ss 0).bind fun s=>if cg s.size then(j7 (ss.drop 1) sep k ((0:Int),oU s)).bind fun l=>if l=[] then none else some (nW l) else none else none
 else none
theorem xI(k:Nat)(ss:List ByteArray)(sep:ByteArray)(r:ByteArray)(h:rj k ss sep=some r):
 cy Tryz.prog 121 [.rep (.slice .str) ss,.eq (.string sep)] [] (fun _:Unit=>(bG [.eq (.string r)],[])):=by
 unfold rj at h
 split at h
 case isFalse=>cases h
 rename_i hc
 obtain⟨hsep,hlen⟩:=hc
 unfold cg at hlen
 replace h:=bq h
 refine cy.of 75 Tryz.func121 rfl Tryz.ntmps121 rfl fun S w0=>?_
 refine ag ?_
 refine ab ?_
 refine dn rfl ?_
 refine an ?_
 refine ae ?_
 show JC _ _ _ _ _
 refine ag ?_
 refine ag ?_
 refine ab ?_
 refine av rfl rfl ?_
 refine ax rfl (kg rfl rfl Tryz.underlying86) ⟨rfl,trivial⟩ ?_
 refine an ?_
 refine ae ?_
 show JC _ _ _ _ _
 refine ao ?_
 refine ag ?_
 refine ab ?_
 refine ax rfl (du rfl) ⟨rfl,rfl,trivial⟩ ?_
 refine cS rfl rfl ?_
 refine an ?_
 refine ae ?_
 show JC _ _ _ _ _
 refine bu rfl (fun hb=>?_) (fun hb=>?_)
 ·
  replace h:=bD (ln hb) h;refine ag ?_;refine ab ?_;refine dn rfl ?_;refine an ?_;refine ae ?_;show JC _ _ _ _ _;refine aA ?_;refine bF ?_;refine aW ?_;obtain rfl:=Option.some.inj h;exact aC () [_] 0 ⟨rfl,trivial⟩ rfl
 replace h:=aP (kV hb) h
 have hne0:=kV hb
 refine ag ?_
 refine ab ?_
 refine ax rfl (du rfl) ⟨rfl,rfl,trivial⟩ ?_
 refine cS rfl rfl ?_
 refine an ?_
 refine ae ?_
 show JC _ _ _ _ _
 refine bu rfl (fun hb=>?_) (fun hb=>?_)
 ·
  replace h:=bD (ln hb) h;have es:cd ss 0=some r:=by simpa using h
  refine ag ?_;refine ab ?_;refine av rfl rfl ?_;refine ax rfl (bH (t:=.str) rfl Tryz.underlying86 ul es) ⟨rfl,rfl,trivial⟩ ?_;refine ax rfl (au (t:=.str) rfl ul rfl) ⟨rfl,trivial⟩ ?_;refine cS rfl rfl ?_;refine an ?_;refine ae ?_;show JC _ _ _ _ _;refine aA ?_;refine bF ?_;refine aW ?_;exact aC () [_] 0 ⟨rfl,trivial⟩ rfl
 replace h:=aP (kV hb) h
 have hne1:=kV hb
 refine aU ?_
 refine aI ?_
 refine ae ?_
 show JC _ _ _ _ _
 refine ag ?_
 refine ab ?_
 refine dn rfl ?_
 refine an ?_
 refine ae ?_
 show JC _ _ _ _ _
 refine ag ?_
 refine ag ?_
 refine ab ?_
 refine av rfl rfl ?_
 refine ax rfl (lF rfl rfl Tryz.underlying9) ⟨rfl,trivial⟩ ?_
 refine ax rfl (kP rfl) ⟨rfl,rfl,trivial⟩ ?_
 refine an ?_
 refine ae ?_
 show JC _ _ _ _ _
 have c1:ck ((ss.length:Int) - 1)=some ((ss.length:Int) - 1):=by unfold ck;rw [if_pos (by omega)]
 have c2:ck ((sep.size:Int) * ((ss.length:Int) - 1))=some ((ss.length:Int) - 1):=by rw [hsep];simpa using c1
 have c3:ck (0+((ss.length:Int) - 1))=some ((ss.length:Int) - 1):=by rw [Int.zero_add];exact c1
 refine bu rfl (fun hb=>?_) (fun hb=>absurd (kV hb) (by omega))
 refine ag ?_
 refine ag ?_
 refine ab ?_
 refine av rfl rfl ?_
 refine ax rfl (lF rfl rfl Tryz.underlying9) ⟨rfl,trivial⟩ ?_
 refine av rfl rfl ?_
 refine ax rfl (kg rfl rfl Tryz.underlying86) ⟨rfl,trivial⟩ ?_
 refine ax rfl (gl rfl c1) ⟨rfl,rfl,trivial⟩ ?_
 refine ax rfl (IP rfl (by omega)) ⟨rfl,rfl,trivial⟩ ?_
 refine ax rfl (mr rfl) ⟨rfl,rfl,trivial⟩ ?_
 refine an ?_
 refine ae ?_
 show JC _ _ _ _ _
 refine bu rfl (fun hb=>?_) (fun hb=>?_)
 ·
  exfalso;have h1:=ln hb;have q1:(9223372036854775807:Int).tdiv ((ss.length:Int) - 1)=9223372036854775807 / ((ss.length:Int) - 1):=Int.tdiv_eq_ediv_of_nonneg (by omega);have q2:(2:Int)≤9223372036854775807 / ((ss.length:Int) - 1):=Int.le_ediv_of_mul_le (by omega) (by omega);have q3:(9223372036854775807:Int) / ((ss.length:Int) - 1)≤9223372036854775807:=Int.ediv_le_self _ (by omega);rw [q1,pA (z:=9223372036854775807 / ((ss.length:Int) - 1)) (by unfold ck;rw [if_pos (by omega)])] at h1;omega
 refine aU ?_
 refine ae ?_
 show JC _ _ _ _ _
 refine ab ?_
 refine av rfl rfl ?_
 refine av rfl rfl ?_
 refine ax rfl (lF rfl rfl Tryz.underlying9) ⟨rfl,trivial⟩ ?_
 refine av rfl rfl ?_
 refine ax rfl (kg rfl rfl Tryz.underlying86) ⟨rfl,trivial⟩ ?_
 refine ax rfl (gl rfl c1) ⟨rfl,rfl,trivial⟩ ?_
 refine ax rfl (F8 rfl c2) ⟨rfl,rfl,trivial⟩ ?_
 refine ax rfl (bM rfl c3) ⟨rfl,rfl,trivial⟩ ?_
 refine cS rfl rfl ?_
 refine an ?_
 refine ae ?_
 show JC _ _ _ _ _
 rw [Option.bind_assoc] at h
 refine ag ?_
 refine ag ?_
 refine ab ?_
 refine av rfl rfl ?_
 refine ax rfl (kg rfl rfl Tryz.underlying86) ⟨rfl,trivial⟩ ?_
 refine de rfl ?_
 refine an ?_
 refine ae ?_
 show JC _ _ _ _ _
 refine ao ?_
 refine aR (Z:=Unit) (α:=Int×Int) (fun _ y=>[(0,.rep (.slice .str) ss),(1,.eq (.string sep)),(5,.eq (.int .i64 y.2)),(39,.rep (.slice .str) ss),(40,.eq (.int .i64 (ss.length:Int))),(41,.eq (.int .i64 y.1))]) (fun _ _=>[]) (lW ss) k () ((0:Int),(ss.length:Int) - 1) (fun _=>rfl) h (SE.fin [] ⟨rfl,rfl,rfl,rfl,rfl,rfl,trivial⟩ rfl) (fun n z y h=>?_)
 unfold lW at h
 refine ag ?_
 refine ab ?_
 refine ax rfl (bO rfl) ⟨rfl,rfl,trivial⟩ ?_
 refine an ?_
 refine ae ?_
 show JC _ _ _ _ _
 refine ag ?_
 refine bu rfl (fun hb=>?_) (fun hb=>?_)
 ·
  replace h:=bD (ln hb) h;refine aU ?_;refine ae ?_;show JC _ _ _ _ _;refine ag ?_;refine ao ?_;refine ag ?_;refine ab ?_;obtain⟨s,es,h⟩:=aa h;refine ax rfl (bH (t:=.str) rfl Tryz.underlying86 ul es) ⟨rfl,rfl,trivial⟩ ?_;refine ax rfl (au (t:=.str) rfl ul rfl) ⟨rfl,trivial⟩ ?_;refine cS rfl rfl ?_;refine an ?_;refine ae ?_;show JC _ _ _ _ _;refine ag ?_;refine ag ?_;refine ab ?_;refine av rfl rfl ?_;refine ax rfl (lF rfl rfl Tryz.underlying9) ⟨rfl,trivial⟩ ?_;refine av rfl rfl ?_;obtain⟨z,ez,h⟩:=aa h;refine ax rfl (gl rfl ez) ⟨rfl,rfl,trivial⟩ ?_;refine ax rfl (kP rfl) ⟨rfl,rfl,trivial⟩ ?_;refine an ?_;refine ae ?_;show JC _ _ _ _ _;refine bu rfl (fun hb=>?_) (fun hb=>?_)
  ·replace h:=bD (ln hb) h;cases h
  replace h:=aP (kV hb) h;refine aU ?_;refine ae ?_;show JC _ _ _ _ _;refine ab ?_;refine av rfl rfl ?_;refine av rfl rfl ?_;refine ax rfl (lF rfl rfl Tryz.underlying9) ⟨rfl,trivial⟩ ?_;obtain⟨z2,ez2,h⟩:=aa h;refine ax rfl (bM rfl ez2) ⟨rfl,rfl,trivial⟩ ?_;refine cS rfl rfl ?_;refine an ?_;refine aI ?_;refine ae ?_;show JC _ _ _ _ _;refine ab ?_;obtain⟨z3,ez3,h⟩:=aa h;refine ax rfl (bM rfl ez3) ⟨rfl,rfl,trivial⟩ ?_;refine av rfl rfl ?_;refine an ?_;refine ae ?_;exact g9 ((),(z3,z2)) h (SE.fin [] ⟨rfl,rfl,rfl,rfl,rfl,rfl,trivial⟩ rfl)
 replace h:=aP (kV hb) h
 refine dM ?_
 refine aZ ?_
 refine aZ ?_
 refine bY ?_
 refine ae ?_
 show JC _ _ _ _ _
 replace h:((if 0 < y.2∧y.2≤281474976710656 then(cd ss 0).bind fun s=>if cg s.size then(j7 (ss.drop 1) sep k ((0:Int),oU s)).bind fun l=>if l=[] then none else some (nW l) else none else none):Option ByteArray).bind some=some r:=h
 obtain⟨y1,y2⟩:=y
 have hy:0 < y2∧y2≤281474976710656:=by
  apply Classical.byContradiction;intro hn;rw [if_neg hn] at h;cases h
 replace h:=bD hy h
 obtain⟨m,rfl⟩:=Int.eq_ofNat_of_zero_le (show 0≤y2 by omega)
 obtain⟨s0,es0,h⟩:=aa h
 have hs0:cg s0.size:=by
  apply Classical.byContradiction;intro hn;rw [if_neg hn] at h;cases h
 replace h:=bD hs0 h
 rw [Option.bind_assoc] at h
 refine ag ?_
 refine ab ?_
 refine ay rfl rfl rfl (ba rfl AO Du) trivial fun b=>?_
 refine an ?_
 refine ae ?_
 show JC _ _ _ _ _
 refine ag ?_
 refine ab ?_
 refine av rfl rfl ?_
 refine bI (Δ:=[_]) (F:=_) (fun _ _ _=>ar rfl _) rfl rfl (aj [.tmp 8,.tmp 56] rfl rfl HB rfl (Bg (b:=b) (n:=m) (by omega) (by omega))) ⟨rfl,rfl,trivial⟩ fun bc=>?_
 refine an ?_
 refine ae ?_
 show JC _ _ _ _ _
 refine ag ?_
 refine ab ?_
 refine av rfl rfl ?_
 refine ax rfl (bH (t:=.str) rfl Tryz.underlying86 ul es0) ⟨rfl,rfl,trivial⟩ ?_
 refine ax rfl (au (t:=.str) rfl ul rfl) ⟨rfl,trivial⟩ ?_
 refine bI (Δ:=[_,_]) (F:=_) (fun _ _ _=>ar rfl _) rfl rfl (aj [.tmp 8,.tmp 60] rfl rfl yr rfl (j8 (b:=b) (p:=some ⟨b,0,none⟩) (v:=xJ bc) (l:=[]) (s:=s0) (.inr rfl) rfl (by simpa using hs0))) ⟨rfl,rfl,trivial⟩ fun v0=>?_
 refine an ?_
 refine ae ?_
 show JC _ _ _ _ _
 refine ag ?_
 refine ag ?_
 refine ab ?_
 refine av rfl rfl ?_
 refine ax rfl (zR (t:=.str) rfl Tryz.underlying86 ul (by decide) (by omega)) ⟨rfl,rfl,trivial⟩ ?_
 refine ax rfl (kg rfl rfl Tryz.underlying86) ⟨rfl,trivial⟩ ?_
 refine de rfl ?_
 refine an ?_
 refine ae ?_
 show JC _ _ _ _ _
 refine ao ?_
 refine aR (Z:=Value) (α:=Int×List Int) (fun _ y=>[(1,.eq (.string sep)),(8,.eq (bP b)),(63,.rep (.slice .str) (ss.drop 1)),(64,.eq (.int .i64 ((ss.drop 1).length:Int))),(65,.eq (.int .i64 y.1))]) (fun v y=>[.obj b 162 (bA (bP b) v),.sl v 5 (.int .u8) y.2]) (j7 (ss.drop 1) sep) k v0 ((0:Int),oU s0) (fun _=>rfl) h (SE.fin [0,1] ⟨rfl,rfl,rfl,rfl,rfl,trivial⟩ rfl) (fun n v y h=>?_)
 unfold j7 at h
 refine ag ?_
 refine ab ?_
 refine ax rfl (bO rfl) ⟨rfl,rfl,trivial⟩ ?_
 refine an ?_
 refine ae ?_
 show JC _ _ _ _ _
 refine ag ?_
 refine bu rfl (fun hb=>?_) (fun hb=>?_)
 ·
  replace h:=bD (ln hb) h;refine aU ?_;refine ae ?_;show JC _ _ _ _ _;refine ag ?_;refine ao ?_;refine ag ?_;refine ab ?_;obtain⟨s,es,h⟩:=aa h;refine ax rfl (bH (t:=.str) rfl Tryz.underlying86 ul es) ⟨rfl,rfl,trivial⟩ ?_;refine ax rfl (au (t:=.str) rfl ul rfl) ⟨rfl,trivial⟩ ?_;refine cS rfl rfl ?_;refine an ?_;refine ae ?_;show JC _ _ _ _ _
  have hk:cg (y.2.length+sep.size)∧cg ((y.2++oU sep).length+s.size):=by
   apply Classical.byContradiction;intro hn;rw [if_neg hn] at h;cases h
  replace h:=bD hk h;refine sQ 1 rfl fun hv=>?_;refine ag ?_;refine ab ?_;refine av rfl rfl ?_;refine bI (Δ:=[_,_]) (F:=_) (fun _ _ _=>ar rfl _) rfl rfl (aj [.tmp 8,.tmp 69] rfl rfl yr rfl (j8 (b:=b) (p:=some ⟨b,0,none⟩) (s:=sep) (.inr rfl) hv hk.1)) ⟨rfl,rfl,trivial⟩ fun v1=>?_;refine an ?_;refine ae ?_;show JC _ _ _ _ _;refine sQ 1 rfl fun hv1=>?_;refine ab ?_;refine av rfl rfl ?_;refine bI (Δ:=[_,_]) (F:=_) (fun _ _ _=>ar rfl _) rfl rfl (aj [.tmp 8,.tmp 71] rfl rfl yr rfl (j8 (b:=b) (p:=some ⟨b,0,none⟩) (s:=s) (.inr rfl) hv1 hk.2)) ⟨rfl,rfl,trivial⟩ fun v2=>?_;refine an ?_;refine aI ?_;refine ae ?_;show JC _ _ _ _ _;refine ab ?_;obtain⟨z3,ez3,h⟩:=aa h;refine ax rfl (bM rfl ez3) ⟨rfl,rfl,trivial⟩ ?_;refine av rfl rfl ?_;refine an ?_;refine ae ?_;exact g9 (v2,(z3,(y.2++oU sep)++oU s)) h (SE.fin [0,1] ⟨rfl,rfl,rfl,rfl,rfl,trivial⟩ rfl)
 replace h:=aP (kV hb) h
 refine dM ?_
 refine aZ ?_
 refine aZ ?_
 refine bY ?_
 refine ae ?_
 show JC _ _ _ _ _
 replace h:(if y.2=[] then none else some (nW y.2):Option ByteArray).bind some=some r:=h
 have hy2:y.2≠[]:=by
  intro hn;rw [if_pos hn] at h;cases h
 rw [if_neg hy2] at h
 obtain rfl:=Option.some.inj h
 refine ag ?_
 refine ab ?_
 refine bI (Δ:=[_,_]) (F:=_) (fun _ _ _=>ar rfl _) rfl rfl (aj [.tmp 8] rfl rfl C9 rfl (tw (b:=b) (fun hn=>absurd hn hy2))) ⟨rfl,trivial⟩ fun _=>?_
 refine cS rfl rfl ?_
 refine an ?_
 refine ae ?_
 show JC _ _ _ _ _
 refine aA ?_
 exact aC () [_] 0 ⟨rfl,trivial⟩ rfl
end Go.Proofs.YtcnpijmfgfnpiaaGreatDoor
