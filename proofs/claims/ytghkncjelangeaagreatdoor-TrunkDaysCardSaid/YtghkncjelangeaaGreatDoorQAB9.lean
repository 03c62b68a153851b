import Derived.Test.YtghkncjelangeaaGreatDoorQAB5
import Derived.Test.YtghkncjelangeaaGreatDoorProg
import Derived.Stop.Asserts
set_option linter.unusedSimpArgs false
set_option linter.unusedVariables false
set_option maxRecDepth 20000
set_option maxHeartbeats 4000000
namespace Go.Proofs.YtghkncjelangeaaGreatDoor
open K Go Go.Proofs Go.Extern
theorem A0:dL Tryz.prog 144 1 false:=⟨fun w=>by kernel_rfl,fun w=>by kernel_rfl⟩
theorem jP:dL Tryz.prog 145 1 false:=⟨fun w=>by kernel_rfl,fun w=>by kernel_rfl⟩
theorem MR:a8 Tryz.prog 147 0 0:=a8.of (by kernel_rfl)
theorem rX:a8 Tryz.prog 147 1 1:=a8.of (by kernel_rfl)
theorem A2:ma Tryz.prog 145 5 1 1:=.of (z:=(.int .u8 (0))) Tryz.underlying145 (by kernel_rfl) rfl rfl rfl
theorem M7:fZ Tryz.prog 159 Extern.AbiNoEscape.same:=.of Tryz.func159 (by kernel_rfl) (by kernel_rfl) (by kernel_rfl) (by kernel_rfl)
theorem B0:ah Tryz.prog 125:=ah.of Tryz.func125 (by kernel_rfl) (by kernel_rfl)
theorem M9:ah Tryz.prog 126:=ah.of Tryz.func126 (by kernel_rfl) (by kernel_rfl)
@[reducible] def bA(p v:Value):A:=.agg (.pair (.eq p) (.eq v))
abbrev bP(b:Nat):Value:=.pointer (some ⟨b,0,none⟩)
theorem vf{p:Option Addr}:Ns Tryz.prog (binOp .eql 144 (.pointer p) (.pointer none)):=by
 cases p with
 |none=>exact om (by kernel_rfl)
 |some p=>exact om (by kernel_rfl)
theorem Ee{p:Option Addr}{x y:Operand}(w:World):(do eqGuard .eql 144 x y (.pointer p) (.pointer none);binOp .eql 144 (.pointer p) (.pointer none):Sem Value).run Tryz.prog w= .ok (.bool p.isNone) w:=by
 cases p <;> kernel_rfl
theorem BB{p:Addr}:Ns Tryz.prog (binOp .neq 144 (.pointer (some p)) (.pointer (some p))):=by
 refine ai (s:=Op.equal 144 (.pointer (some p)) (.pointer (some p))) ?_ fun _=>bB;show Ns Tryz.prog (Op.equalIn (9999+1) 144 (.pointer (some p)) (.pointer (some p)));unfold Op.equalIn;refine cS Tryz.underlying144 (ai cY fun n=>sX ?_ (sX bB (ai fJ fun _=>bB)));unfold sameAddr;simp only [beq_self_eq_true,if_true];exact bB
theorem ME:∃j,Tryz.prog.info? 147=some j∧j.size≠0:=by
 obtain⟨j,h1,h2⟩:=Option.map_eq_some_iff.1 (show(Tryz.prog.info? 147).map (·.size)=some 2 by kernel_rfl);exact⟨j,h1,by omega⟩
theorem nJ{b:Nat}{p:Option Addr}{v:Value}(hp:p=none∨p=some ⟨b,0,none⟩)(hv:bz v=true):bX Tryz.prog 125 [.eq (bP b)] [.obj b 147 (bA (.pointer p) v)] (fun _:Unit=>(bu [],[.obj b 147 (bA (bP b) v)])):=by
 obtain⟨j162,inf162_eq,inf162_sz⟩:=ME;refine bX.of 20 Tryz.func125 rfl Tryz.ntmps125 rfl fun S w0=>?_;refine ag ?_;refine ab ?_;refine aA rfl rfl ?_;refine aE rfl (a9 rfl) ⟨rfl,trivial⟩ ?_;refine aE rfl (ar rfl MR) ⟨rfl,trivial⟩ ?_;refine bV rfl rfl rfl (aj rfl A0 (fun _=>rfl) rfl) ⟨rfl,trivial⟩ ?_;refine aE rfl (iG rfl Ee vf) ⟨rfl,rfl,trivial⟩ ?_;refine au ?_;refine ae ?_;show JC _ _ _ _ _;refine bJ rfl (fun hb=>?_) (fun hb=>?_)
 ·refine ab ?_;refine aA rfl rfl ?_;refine aA rfl rfl ?_;refine bV rfl rfl rfl (Bm rfl Tryz.underlying144 Tryz.underlying163 inf162_eq inf162_sz rfl) ⟨rfl,trivial⟩ ?_;refine aE rfl (GP M7 [.tmp 9] [bP b] rfl rfl rfl (fun _=>rfl) bB) ⟨rfl,trivial⟩ ?_;refine bV rfl rfl rfl (xM rfl Tryz.underlying163 Tryz.underlying144 inf162_eq (by kernel_rfl)) ⟨rfl,trivial⟩ ?_;refine aE rfl (a9 rfl) ⟨rfl,trivial⟩ ?_;refine aE rfl (ar rfl MR) ⟨rfl,trivial⟩ ?_;refine bh rfl rfl (bb rfl A0 rfl rfl rfl) ⟨rfl,rfl,trivial⟩ ?_;refine au ?_;refine jh ?_;exact aP () [] 1 trivial rfl
 ·have hp':p=some ⟨b,0,none⟩:=by
   rcases hp with rfl |rfl
   ·cases hb
   ·rfl
  subst hp';refine ag ?_;refine ab ?_;refine aA rfl rfl ?_;refine aE rfl (a9 rfl) ⟨rfl,trivial⟩ ?_;refine aE rfl (ar rfl MR) ⟨rfl,trivial⟩ ?_;refine bV rfl rfl rfl (aj rfl A0 (fun _=>rfl) rfl) ⟨rfl,trivial⟩ ?_;refine aA rfl rfl ?_;refine aE rfl (GI rfl Tryz.underlying144 inf162_eq BB) ⟨rfl,rfl,trivial⟩ ?_;refine au ?_;refine ae ?_;show JC _ _ _ _ _;refine bJ rfl (fun hb=>(by cases hb)) (fun hb=>?_);refine aX ?_;refine jh ?_;exact aP () [] 1 trivial rfl
theorem vW{v:Value}{l:List Int}{r:Int}(h0:0≤r)(h1:r≤127)(hl:bL (l.length+1)):bX Tryz.prog 126 [.eq v,.eq (.int .i32 r)] [.sl v 5 (.int .u8) l] (fun v':Value=>(bu [.eq v'],[.sl v' 5 (.int .u8) (l++[r])])):=by
 refine bX.of 16 Tryz.func126 rfl Tryz.ntmps126 rfl fun S w0=>?_;have w32:IntKind.u32.wrap r=r:=by simp [IntKind.wrap,IntKind.bits,IntKind.signed];omega
 have w8:IntKind.u8.wrap r=r:=by simp [IntKind.wrap,IntKind.bits,IntKind.signed];omega
 refine ag ?_;refine ab ?_;refine dG rfl ?_;refine au ?_;refine ae ?_;show JC _ _ _ _ _;refine ag ?_;refine ag ?_;refine ab ?_;refine aA rfl rfl ?_;refine aE rfl (oU rfl Tryz.underlying21 Tryz.underlying185) ⟨rfl,trivial⟩ ?_;rw [w32];refine aE rfl (vc rfl) ⟨rfl,rfl,trivial⟩ ?_;refine au ?_;refine ae ?_;show JC _ _ _ _ _;refine bJ rfl (fun hb=>?_) (fun hb=>absurd h1 (by simpa using hb));refine ag ?_;refine ab ?_;refine aA rfl rfl ?_;refine aA rfl rfl ?_;refine aE rfl (oU rfl Tryz.underlying21 Tryz.underlying5) ⟨rfl,trivial⟩ ?_;rw [w8];refine aE rfl (bj (t:=(.int .u8)) [(.tmp 10,.eq (.int .u8 r))] [r] rfl rfl A2 (.cons rfl .int .nil) rfl rfl) ⟨rfl,trivial⟩ ?_;refine cU rfl rfl rfl (bD rfl rfl A2 (by simpa using hl)) ⟨rfl,rfl,trivial⟩ fun v'=>?_;refine di rfl rfl ?_;refine au ?_;refine ae ?_;show JC _ _ _ _ _;refine ay ?_;refine aV ?_;exact aP v' [_] 1 ⟨rfl,trivial⟩ rfl
theorem xB{b:Nat}{p:Option Addr}{v:Value}{l:List Int}{r:Int}(hp:p=none∨p=some ⟨b,0,none⟩)(hv:bz v=true)(h0:0≤r)(h1:r≤127)(hl:bL (l.length+1)):
 bX Tryz.prog 91 [.eq (bP b),.eq (.int .i32 r)] [.obj b 147 (bA (.pointer p) v),.sl v 5 (.int .u8) l]
  (fun v':Value=>(bu [.eq (.int .i64 1),.eq .nilIface],[.obj b 147 (bA (bP b) v'),.sl v' 5 (.int .u8) (l++[r])])):=by
 refine bX.of 30 Tryz.func91 rfl Tryz.ntmps91 rfl fun S w0=>?_
 refine ag ?_
 refine ab ?_
 refine dG rfl ?_
 refine dG rfl ?_
 refine au ?_
 refine ae ?_
 show JC _ _ _ _ _
 refine ag ?_
 refine ab ?_
 refine aA rfl rfl ?_
 refine bV rfl rfl rfl (ap [.tmp 7] rfl rfl B0 rfl (nJ hp hv)) ⟨rfl,trivial⟩ ?_
 refine au ?_
 refine ae ?_
 show JC _ _ _ _ _
 refine ag ?_
 refine ab ?_
 refine aA rfl rfl ?_
 refine aE rfl (a9 rfl) ⟨rfl,trivial⟩ ?_
 refine aE rfl (ar rfl rX) ⟨rfl,trivial⟩ ?_
 refine bV rfl rfl rfl (aj rfl jP (fun _=>rfl) rfl) ⟨rfl,trivial⟩ ?_
 refine bH 1 rfl ?_
 refine bV rfl rfl rfl (c9 rfl rfl Tryz.underlying145) ⟨rfl,trivial⟩ ?_
 refine di rfl rfl ?_
 refine au ?_
 refine ae ?_
 show JC _ _ _ _ _
 refine ag ?_
 refine ab ?_
 refine aA rfl rfl ?_
 refine aA rfl rfl ?_
 refine aE rfl (a9 rfl) ⟨rfl,trivial⟩ ?_
 refine aE rfl (ar rfl rX) ⟨rfl,trivial⟩ ?_
 refine bH 1 rfl ?_
 refine bV rfl rfl rfl (aj rfl jP (fun _=>rfl) rfl) ⟨rfl,trivial⟩ ?_
 refine aA rfl rfl ?_
 refine bH 1 rfl ?_
 refine cU rfl rfl rfl (ap [.tmp 18,.tmp 19] rfl rfl M9 rfl (vW h0 h1 hl)) ⟨rfl,rfl,trivial⟩ fun v'=>?_
 refine fA fun hv'=>?_
 refine aE rfl (a9 rfl) ⟨rfl,trivial⟩ ?_
 refine aE rfl (ar rfl rX) ⟨rfl,trivial⟩ ?_
 refine bH 1 rfl ?_
 refine bh rfl rfl (bb rfl jP hv' rfl rfl) ⟨rfl,rfl,trivial⟩ ?_
 refine au ?_
 refine ae ?_
 show JC _ _ _ _ _
 refine ag ?_
 refine ab ?_
 refine aA rfl rfl ?_
 refine aE rfl (a9 rfl) ⟨rfl,trivial⟩ ?_
 refine aE rfl (ar rfl rX) ⟨rfl,trivial⟩ ?_
 refine bV rfl rfl rfl (aj rfl jP (fun _=>rfl) rfl) ⟨rfl,trivial⟩ ?_
 refine bH 1 rfl ?_
 refine bV rfl rfl rfl (c9 rfl rfl Tryz.underlying145) ⟨rfl,trivial⟩ ?_
 refine aA rfl rfl ?_
 have hck:ck (((l++[r]).length:Int) - (l.length:Int))=some 1:=by
  have:(((l++[r]).length:Int) - (l.length:Int))=1:=by simp;omega
  rw [this];rfl
 refine aE rfl (fV rfl hck) ⟨rfl,rfl,trivial⟩ ?_
 refine di rfl rfl ?_
 refine dG rfl ?_
 refine au ?_
 refine ae ?_
 show JC _ _ _ _ _
 refine ay ?_
 refine bv (SE.fin (Γ':=[(4,_),(5,_)]) [1,0] ⟨rfl,rfl,trivial⟩ rfl) ?_
 exact aP v' [_,_] 2 ⟨rfl,rfl,trivial⟩ rfl
theorem SN:Tryz.prog.cellsOf 5=1:=by kernel_rfl
theorem qP:Tryz.prog.follows .mixedOrders=true:=by kernel_rfl
theorem wA{b:Nat}{p v:Value}{l:List Int}(hl:l=[]→v= .slice none 0 0):
 bX Tryz.prog 92 [.eq (bP b)] [.obj b 147 (bA p v),.sl v 5 (.int .u8) l] (fun _:Unit=>(bu [.eq (.string (qC l))],[])):=by
 refine bX.of 14 Tryz.func92 rfl Tryz.ntmps92 rfl fun S w0=>?_
 refine ag ?_
 refine ab ?_
 refine dG rfl ?_
 refine au ?_
 refine ae ?_
 show JC _ _ _ _ _
 refine ag ?_
 refine bI ?_
 refine dA rfl rfl rfl (aH rfl) ⟨rfl,trivial⟩ ?_
 refine dA rfl rfl rfl (a9 rfl) ⟨rfl,trivial⟩ ?_
 refine dA rfl rfl rfl (ar rfl rX) ⟨rfl,trivial⟩ ?_
 refine oa 0 rfl rfl rfl rfl (aj rfl jP (fun _=>rfl) rfl) ⟨rfl,trivial⟩ ?_
 refine oa 1 rfl rfl rfl rfl (zo rfl rfl hl) ⟨rfl,trivial⟩ ?_
 refine dA rfl rfl rfl (aH rfl) ⟨rfl,trivial⟩ ?_
 refine dA rfl rfl rfl (a9 rfl) ⟨rfl,trivial⟩ ?_
 refine dA rfl rfl rfl (ar rfl rX) ⟨rfl,trivial⟩ ?_
 refine oa 0 rfl rfl rfl rfl (aj rfl jP (fun _=>rfl) rfl) ⟨rfl,trivial⟩ ?_
 refine oa 1 rfl rfl rfl rfl (c9 rfl rfl Tryz.underlying145) ⟨rfl,trivial⟩ ?_
 refine tJ (by kernel_rfl) qP ?_
 refine bH 1 rfl ?_
 refine bR (Δ:=[_]) (F:=_) (fun _ _ _=>ax rfl _) rfl rfl (uY rfl rfl Tryz.underlying199 SN hl) ⟨rfl,rfl,trivial⟩ fun _=>?_
 refine di rfl rfl ?_
 refine au ?_
 refine ae ?_
 show JC _ _ _ _ _
 refine ay ?_
 exact aP () [_] 0 ⟨rfl,trivial⟩ rfl
theorem Q4:(Tryz.prog.info? 5).bind (·.zero)=some (.int .u8 0):=by kernel_rfl
theorem lT{b:Nat}{p:Option Addr}{v:Value}{l:List Int}{s:ByteArray}(hp:p=none∨p=some ⟨b,0,none⟩)(hv:bz v=true)(hl:bL (l.length+s.size)):
 bX Tryz.prog 128 [.eq (bP b),.eq (.string s)] [.obj b 147 (bA (.pointer p) v),.sl v 5 (.int .u8) l]
  (fun v':Value=>(bu [.eq (.int .i64 s.size),.eq .nilIface],[.obj b 147 (bA (bP b) v'),.sl v' 5 (.int .u8) (l++rm s)])):=by
 refine bX.of 19 Tryz.func128 rfl Tryz.ntmps128 rfl fun S w0=>?_
 refine ag ?_
 refine ab ?_
 refine dG rfl ?_
 refine dG rfl ?_
 refine au ?_
 refine ae ?_
 show JC _ _ _ _ _
 refine ag ?_
 refine ab ?_
 refine aA rfl rfl ?_
 refine bV rfl rfl rfl (ap [.tmp 6] rfl rfl B0 rfl (nJ hp hv)) ⟨rfl,trivial⟩ ?_
 refine au ?_
 refine ae ?_
 show JC _ _ _ _ _
 refine ag ?_
 refine ab ?_
 refine aA rfl rfl ?_
 refine aA rfl rfl ?_
 refine aE rfl (a9 rfl) ⟨rfl,trivial⟩ ?_
 refine aE rfl (ar rfl rX) ⟨rfl,trivial⟩ ?_
 refine bV rfl rfl rfl (aj rfl jP (fun _=>rfl) rfl) ⟨rfl,trivial⟩ ?_
 refine aA rfl rfl ?_
 refine bH 1 rfl ?_
 refine cU rfl rfl rfl (zx rfl rfl A2 Tryz.underlying9 Q4 (by decide) hl) ⟨rfl,rfl,trivial⟩ fun v'=>?_
 refine fA fun hv'=>?_
 refine aE rfl (a9 rfl) ⟨rfl,trivial⟩ ?_
 refine aE rfl (ar rfl rX) ⟨rfl,trivial⟩ ?_
 refine bH 1 rfl ?_
 refine bh rfl rfl (bb rfl jP hv' rfl rfl) ⟨rfl,rfl,trivial⟩ ?_
 refine au ?_
 refine ae ?_
 show JC _ _ _ _ _
 refine ag ?_
 refine ab ?_
 refine aA rfl rfl ?_
 refine aE rfl (m9 rfl rfl Tryz.underlying9) ⟨rfl,trivial⟩ ?_
 refine di rfl rfl ?_
 refine dG rfl ?_
 refine au ?_
 refine ae ?_
 show JC _ _ _ _ _
 refine ay ?_
 exact aP v' [_,_] 2 ⟨rfl,rfl,trivial⟩ rfl
theorem M5:fZ Tryz.prog 179 (Extern.BytealgMakeNoZero.makeNoZero #[3] #[145]):=.of Tryz.func179 (by kernel_rfl) (by kernel_rfl) (by kernel_rfl) (by kernel_rfl)
theorem M6:ah Tryz.prog 161:=ah.of Tryz.func161 (by kernel_rfl) (by kernel_rfl)
def Q6:Value→List D
 | .slice (some ⟨b,0,none⟩) m c=>[.sl (.slice (some ⟨b,0,none⟩) 0 c) 5 (.int .u8) []]
 |_=>[Ia]
theorem LU{v:Value}(h:∀d∈Q6 v,∃S w,d.holds S w):∃b m c,v= .slice (some ⟨b,0,none⟩) m c:=by
 unfold Q6 at h;split at h
 ·exact⟨_,_,_,rfl⟩
 ·obtain⟨S,w,hb⟩:=h Ia (by simp);exact absurd hb Ai
theorem OB:dL Tryz.prog 5 1 false:=⟨fun w=>by kernel_rfl,fun w=>by kernel_rfl⟩
theorem F4{b cap:Nat}:sliced (some ⟨b,0,none⟩) 0 (Int.toNat 0) cap 1= .slice (some ⟨b,0,none⟩) 0 cap:=CO
abbrev A4(bc:Nat×Nat):Value:=.slice (some ⟨bc.1,0,none⟩) 0 bc.2
theorem Je{b n:Nat}{p:Value}(hn:n≤281474976710656):
 bX Tryz.prog 161 [.eq (bP b),.eq (.int .i64 n)] [.obj b 147 (bA p (.slice none 0 0))] (fun bc:Nat×Nat=>(bu [],[.obj b 147 (bA p (A4 bc)),.sl (A4 bc) 5 (.int .u8) []])):=by
 refine bX.of 30 Tryz.func161 rfl Tryz.ntmps161 rfl fun S w0=>?_
 have c1:ck (2 * ((0:Nat):Int))=some 0:=rfl
 have c2:ck (0+(n:Int))=some (n:Int):=by rw [Int.zero_add];unfold ck;rw [if_pos (by omega)]
 refine ag ?_
 refine jj ?_
 refine aI rfl rfl rfl (aH rfl) ⟨rfl,trivial⟩ ?_
 refine aI rfl rfl rfl (a9 rfl) ⟨rfl,trivial⟩ ?_
 refine aI rfl rfl rfl (ar rfl rX) ⟨rfl,trivial⟩ ?_
 refine dk 0 rfl rfl rfl rfl (aj rfl jP (fun _=>rfl) rfl) ⟨rfl,trivial⟩ ?_
 refine aI rfl rfl rfl (GR rfl rfl Tryz.underlying145) ⟨rfl,trivial⟩ ?_
 refine aI rfl rfl rfl (Ls rfl c1) ⟨rfl,rfl,trivial⟩ ?_
 refine aI rfl rfl rfl (aH rfl) ⟨rfl,trivial⟩ ?_
 refine aI rfl rfl rfl (bf rfl c2) ⟨rfl,rfl,trivial⟩ ?_
 refine ut Q6 (fun _=>rfl) rfl rfl rfl (GH M5 rfl rfl Tryz.underlying145 hn) ⟨rfl,trivial⟩ ?_
 refine aI rfl rfl rfl (aH rfl) ⟨rfl,trivial⟩ ?_
 refine aI rfl rfl rfl (a9 rfl) ⟨rfl,trivial⟩ ?_
 refine aI rfl rfl rfl (ar rfl rX) ⟨rfl,trivial⟩ ?_
 refine dk 0 rfl rfl rfl rfl (aj rfl jP (fun _=>rfl) rfl) ⟨rfl,trivial⟩ ?_
 refine aI rfl rfl rfl (GL rfl rfl Tryz.underlying145) ⟨rfl,trivial⟩ ?_
 refine mg 14 [true,true,true,true,true,true,true,true,true,true,true,true,true,true] [19,4] [] [] rfl (by kernel_rfl) (by kernel_rfl) (by kernel_rfl) qP (fun vs hv hB=>?_)
 obtain⟨u0,vs1,rfl,hv1⟩:=an hv
 obtain⟨u1,vs2,rfl,hv2⟩:=an hv1
 obtain⟨u2,vs3,rfl,hv3⟩:=an hv2
 obtain⟨u3,vs4,rfl,hv4⟩:=an hv3
 obtain⟨u4,vs5,rfl,hv5⟩:=an hv4
 obtain⟨u5,vs6,rfl,hv6⟩:=an hv5
 obtain⟨u6,vs7,rfl,hv7⟩:=an hv6
 obtain⟨u7,vs8,rfl,hv8⟩:=an hv7
 obtain⟨u8,vs9,rfl,hv9⟩:=an hv8
 obtain⟨u9,vs10,rfl,hv10⟩:=an hv9
 obtain⟨u10,vs11,rfl,hv11⟩:=an hv10
 obtain⟨u11,vs12,rfl,hv12⟩:=an hv11
 obtain⟨u12,vs13,rfl,hv13⟩:=an hv12
 obtain⟨u13,vs14,rfl,hv14⟩:=an hv13
 obtain rfl:=jW hv14
 obtain⟨g,m,q,rfl⟩:=LU hB.2.2.2.2.2.2.2.2.1
 refine⟨[0,1],[.obj b 147 (bA p (.slice none 0 0)),.sl (A4 (g,q)) 5 (.int .u8) []],by kernel_rfl,by decide,?_⟩
 refine px rfl rfl rfl rfl (uZ rfl Tryz.underlying145 OB (Int.le_refl 0) (Int.natCast_nonneg _)) ⟨rfl,rfl,trivial⟩ (by kernel_rfl) ?_
 rw [F4]
 refine px rfl rfl rfl rfl (fu rfl) ⟨rfl,trivial⟩ (by kernel_rfl) ?_
 refine py ?_
 refine bv (SE.fin (Γ':=[(0,.eq (bP b)),(4,.eq (A4 (g,q)))]) (Δ':=[.obj b 147 (bA p (.slice none 0 0)),.sl (A4 (g,q)) 5 (.int .u8) []]) [0,1] ⟨rfl,rfl,trivial⟩ rfl) ?_
 refine ae ?_
 show JC _ _ _ _ _
 refine ag ?_
 refine ab ?_
 refine aA rfl rfl ?_
 refine aA rfl rfl ?_
 refine aE rfl (a9 rfl) ⟨rfl,trivial⟩ ?_
 refine aE rfl (ar rfl rX) ⟨rfl,trivial⟩ ?_
 refine bV rfl rfl rfl (aj rfl jP (fun _=>rfl) rfl) ⟨rfl,trivial⟩ ?_
 refine aE rfl (Jq rfl rfl Tryz.underlying145 OB) ⟨rfl,rfl,trivial⟩ ?_
 refine au ?_
 refine ae ?_
 show JC _ _ _ _ _
 refine ab ?_
 refine aA rfl rfl ?_
 refine aA rfl rfl ?_
 refine aE rfl (a9 rfl) ⟨rfl,trivial⟩ ?_
 refine aE rfl (ar rfl rX) ⟨rfl,trivial⟩ ?_
 refine bh rfl rfl (bb rfl jP rfl rfl rfl) ⟨rfl,rfl,trivial⟩ ?_
 refine au ?_
 refine jh ?_
 exact aP (g,q) [] 2 trivial rfl
end Go.Proofs.YtghkncjelangeaaGreatDoor
set_option linter.unusedVariables false
set_option maxRecDepth 20000
set_option maxHeartbeats 4000000
namespace Go.Proofs.YtghkncjelangeaaGreatDoor
open K Go Go.Proofs Go.Extern
theorem F9{b n:Nat}(h0:0 < n)(hn:n≤281474976710656):
 bX Tryz.prog 127 [.eq (bP b),.eq (.int .i64 n)] [.obj b 147 (bA (.pointer none) (.slice none 0 0))] (fun bc:Nat×Nat=>(bu [],[.obj b 147 (bA (bP b) (A4 bc)),.sl (A4 bc) 5 (.int .u8) []])):=by
 refine bX.of 25 Tryz.func127 rfl Tryz.ntmps127 rfl fun S w0=>?_
 have c1:ck (((0:Nat):Int) - ((0:Nat):Int))=some 0:=rfl
 refine ag ?_
 refine ab ?_
 refine aA rfl rfl ?_
 refine bV rfl rfl rfl (ap [.tmp 4] rfl rfl B0 rfl (nJ (.inl rfl) rfl)) ⟨rfl,trivial⟩ ?_
 refine au ?_
 refine ae ?_
 show JC _ _ _ _ _
 refine ag ?_
 refine ag ?_
 refine ab ?_
 refine aA rfl rfl ?_
 refine aE rfl (bq rfl) ⟨rfl,rfl,trivial⟩ ?_
 refine au ?_
 refine ae ?_
 show JC _ _ _ _ _
 refine bJ rfl (fun hb=>absurd (of_decide_eq_true hb) (by omega)) (fun hb=>?_)
 refine aX ?_
 refine ae ?_
 show JC _ _ _ _ _
 refine ag ?_
 refine bI ?_
 refine dA rfl rfl rfl (aH rfl) ⟨rfl,trivial⟩ ?_
 refine dA rfl rfl rfl (a9 rfl) ⟨rfl,trivial⟩ ?_
 refine dA rfl rfl rfl (ar rfl rX) ⟨rfl,trivial⟩ ?_
 refine oa 0 rfl rfl rfl rfl (aj rfl jP (fun _=>rfl) rfl) ⟨rfl,trivial⟩ ?_
 refine dA rfl rfl rfl (GR rfl rfl Tryz.underlying145) ⟨rfl,trivial⟩ ?_
 refine dA rfl rfl rfl (aH rfl) ⟨rfl,trivial⟩ ?_
 refine dA rfl rfl rfl (a9 rfl) ⟨rfl,trivial⟩ ?_
 refine dA rfl rfl rfl (ar rfl rX) ⟨rfl,trivial⟩ ?_
 refine oa 0 rfl rfl rfl rfl (aj rfl jP (fun _=>rfl) rfl) ⟨rfl,trivial⟩ ?_
 refine dA rfl rfl rfl (GL rfl rfl Tryz.underlying145) ⟨rfl,trivial⟩ ?_
 refine dA rfl rfl rfl (fV rfl c1) ⟨rfl,rfl,trivial⟩ ?_
 refine dA rfl rfl rfl (aH rfl) ⟨rfl,trivial⟩ ?_
 refine tJ (by kernel_rfl) qP ?_
 refine aE rfl (bq rfl) ⟨rfl,rfl,trivial⟩ ?_
 refine au ?_
 refine ae ?_
 show JC _ _ _ _ _
 refine bJ rfl (fun hb=>?_) (fun hb=>absurd (of_decide_eq_false hb) (by omega))
 refine ab ?_
 refine aA rfl rfl ?_
 refine aA rfl rfl ?_
 refine bR (Δ:=[_]) (F:=_) (fun _ _ _=>ax rfl _) rfl rfl (ap [.tmp 22,.tmp 23] rfl rfl M6 rfl (Je hn)) ⟨rfl,rfl,trivial⟩ fun bc=>?_
 refine au ?_
 refine jh ?_
 exact aP bc [] 2 trivial rfl
theorem xx:dL Tryz.prog 9 1 false:=⟨fun w=>by kernel_rfl,fun w=>by kernel_rfl⟩
theorem Nb:ah Tryz.prog 91:=ah.of Tryz.func91 (by kernel_rfl) (by kernel_rfl)
theorem H2:ah Tryz.prog 92:=ah.of Tryz.func92 (by kernel_rfl) (by kernel_rfl)
theorem M8:ah Tryz.prog 127:=ah.of Tryz.func127 (by kernel_rfl) (by kernel_rfl)
theorem BZ:ah Tryz.prog 128:=ah.of Tryz.func128 (by kernel_rfl) (by kernel_rfl)
theorem Fz:∀w,(zeroValue 147).run Tryz.prog w= .ok (.agg #[.pointer none,.slice none 0 0]) w:=fun w=>by kernel_rfl
theorem Im:∀S w,(A.cells S w (bA (.pointer none) (.slice none 0 0)) (Value.cells (.agg #[.pointer none,.slice none 0 0])).toList):=fun _ _=>⟨[_],_,rfl,⟨rfl,rfl⟩,rfl,rfl⟩
def nI(ss:List ByteArray):Nat→Int×Int→Option Int
 |0,_=>none
 |n+1,y=>if y.1 < (ss.length:Int) then((aR ss y.1).bind fun s=>(ck ((9223372036854775807:Int) - y.2)).bind fun z=>if z < (s.size:Int) then none else(ck (y.2+(s.size:Int))).bind fun z2=>(ck (y.1+(1:Int))).bind fun z3=>nI ss n (z3,z2)) else some y.2
def lS(ss:List ByteArray)(sep:ByteArray):Nat→Int×List Int→Option (List Int)
 |0,_=>none
 |n+1,y=>if y.1 < (ss.length:Int) then((aR ss y.1).bind fun s=>if bL (y.2.length+sep.size)∧bL ((y.2++rm sep).length+s.size) then(ck (y.1+(1:Int))).bind fun z3=>lS ss sep n (z3,(y.2++rm sep)++rm s) else none) else some y.2
def ug(k:Nat)(ss:List ByteArray)(sep:ByteArray):Option ByteArray:=
 if sep.size=1∧bL ss.length then
  if(ss.length:Int)=(0:Int) then some .empty
  else if(ss.length:Int)=(1:Int) then aR ss 0
  else(nI ss k ((0:Int),(ss.length:Int) - 1)).bind fun n=>
   if 0 < n∧n≤281474976710656 then(aR ss 0).bind fun s=>if bL s.size then(lS (ss.drop 1) sep k ((0:Int),rm s)).bind fun l=>if l=[] then none else some (qC l) else none else none
 else none
theorem A3(k:Nat)(ss:List ByteArray)(sep:ByteArray)(r:ByteArray)(h:ug k ss sep=some r):
 bX Tryz.prog 93 [.rep (.slice .str) ss,.eq (.string sep)] [] (fun _:Unit=>(bu [.eq (.string r)],[])):=by
 unfold ug at h
 split at h
 case isFalse=>cases h
 rename_i hc
 obtain⟨hsep,hlen⟩:=hc
 unfold bL at hlen
 replace h:=ba h
 refine bX.of 75 Tryz.func93 rfl Tryz.ntmps93 rfl fun S w0=>?_
 refine ag ?_
 refine ab ?_
 refine dG rfl ?_
 refine au ?_
 refine ae ?_
 show JC _ _ _ _ _
 refine ag ?_
 refine ag ?_
 refine ab ?_
 refine aA rfl rfl ?_
 refine aE rfl (jE rfl rfl Tryz.underlying143) ⟨rfl,trivial⟩ ?_
 refine au ?_
 refine ae ?_
 show JC _ _ _ _ _
 refine ao ?_
 refine ag ?_
 refine ab ?_
 refine aE rfl (fW rfl) ⟨rfl,rfl,trivial⟩ ?_
 refine di rfl rfl ?_
 refine au ?_
 refine ae ?_
 show JC _ _ _ _ _
 refine bJ rfl (fun hb=>?_) (fun hb=>?_)
 ·
  replace h:=cE (ou hb) h;refine ag ?_;refine ab ?_;refine dG rfl ?_;refine au ?_;refine ae ?_;show JC _ _ _ _ _;refine ay ?_;refine bi ?_;refine aV ?_;obtain rfl:=Option.some.inj h;exact aP () [_] 0 ⟨rfl,trivial⟩ rfl
 replace h:=bN (nw hb) h
 have hne0:=nw hb
 refine ag ?_
 refine ab ?_
 refine aE rfl (fW rfl) ⟨rfl,rfl,trivial⟩ ?_
 refine di rfl rfl ?_
 refine au ?_
 refine ae ?_
 show JC _ _ _ _ _
 refine bJ rfl (fun hb=>?_) (fun hb=>?_)
 ·
  replace h:=cE (ou hb) h;have es:aR ss 0=some r:=by simpa using h
  refine ag ?_;refine ab ?_;refine aA rfl rfl ?_;refine aE rfl (aC (t:=.str) rfl Tryz.underlying143 xx es) ⟨rfl,rfl,trivial⟩ ?_;refine aE rfl (ak (t:=.str) rfl xx rfl) ⟨rfl,trivial⟩ ?_;refine di rfl rfl ?_;refine au ?_;refine ae ?_;show JC _ _ _ _ _;refine ay ?_;refine bi ?_;refine aV ?_;exact aP () [_] 0 ⟨rfl,trivial⟩ rfl
 replace h:=bN (nw hb) h
 have hne1:=nw hb
 refine aX ?_
 refine aM ?_
 refine ae ?_
 show JC _ _ _ _ _
 refine ag ?_
 refine ab ?_
 refine dG rfl ?_
 refine au ?_
 refine ae ?_
 show JC _ _ _ _ _
 refine ag ?_
 refine ag ?_
 refine ab ?_
 refine aA rfl rfl ?_
 refine aE rfl (m9 rfl rfl Tryz.underlying9) ⟨rfl,trivial⟩ ?_
 refine aE rfl (hC rfl) ⟨rfl,rfl,trivial⟩ ?_
 refine au ?_
 refine ae ?_
 show JC _ _ _ _ _
 have c1:ck ((ss.length:Int) - 1)=some ((ss.length:Int) - 1):=by unfold ck;rw [if_pos (by omega)]
 have c2:ck ((sep.size:Int) * ((ss.length:Int) - 1))=some ((ss.length:Int) - 1):=by rw [hsep];simpa using c1
 have c3:ck (0+((ss.length:Int) - 1))=some ((ss.length:Int) - 1):=by rw [Int.zero_add];exact c1
 refine bJ rfl (fun hb=>?_) (fun hb=>absurd (nw hb) (by omega))
 refine ag ?_
 refine ag ?_
 refine ab ?_
 refine aA rfl rfl ?_
 refine aE rfl (m9 rfl rfl Tryz.underlying9) ⟨rfl,trivial⟩ ?_
 refine aA rfl rfl ?_
 refine aE rfl (jE rfl rfl Tryz.underlying143) ⟨rfl,trivial⟩ ?_
 refine aE rfl (fV rfl c1) ⟨rfl,rfl,trivial⟩ ?_
 refine aE rfl (OI rfl (by omega)) ⟨rfl,rfl,trivial⟩ ?_
 refine aE rfl (qo rfl) ⟨rfl,rfl,trivial⟩ ?_
 refine au ?_
 refine ae ?_
 show JC _ _ _ _ _
 refine bJ rfl (fun hb=>?_) (fun hb=>?_)
 ·
  exfalso;have h1:=ou hb;have q1:(9223372036854775807:Int).tdiv ((ss.length:Int) - 1)=9223372036854775807 / ((ss.length:Int) - 1):=Int.tdiv_eq_ediv_of_nonneg (by omega);have q2:(2:Int)≤9223372036854775807 / ((ss.length:Int) - 1):=Int.le_ediv_of_mul_le (by omega) (by omega);have q3:(9223372036854775807:Int) / ((ss.length:Int) - 1)≤9223372036854775807:=Int.ediv_le_self _ (by omega);rw [q1,pX (z:=9223372036854775807 / ((ss.length:Int) - 1)) (by unfold ck;rw [if_pos (by omega)])] at h1;omega
 refine aX ?_
 refine ae ?_
 show JC _ _ _ _ _
 refine ab ?_
 refine aA rfl rfl ?_
 refine aA rfl rfl ?_
 refine aE rfl (m9 rfl rfl Tryz.underlying9) ⟨rfl,trivial⟩ ?_
 refine aA rfl rfl ?_
 refine aE rfl (jE rfl rfl Tryz.underlying143) ⟨rfl,trivial⟩ ?_
 refine aE rfl (fV rfl c1) ⟨rfl,rfl,trivial⟩ ?_
 refine aE rfl (Ls rfl c2) ⟨rfl,rfl,trivial⟩ ?_
 refine aE rfl (bf rfl c3) ⟨rfl,rfl,trivial⟩ ?_
 refine di rfl rfl ?_
 refine au ?_
 refine ae ?_
 show JC _ _ _ _ _
 rw [Option.bind_assoc] at h
 refine ag ?_
 refine ag ?_
 refine ab ?_
 refine aA rfl rfl ?_
 refine aE rfl (jE rfl rfl Tryz.underlying143) ⟨rfl,trivial⟩ ?_
 refine fg rfl ?_
 refine au ?_
 refine ae ?_
 show JC _ _ _ _ _
 refine ao ?_
 refine aK (Z:=Unit) (α:=Int×Int) (fun _ y=>[(0,.rep (.slice .str) ss),(1,.eq (.string sep)),(5,.eq (.int .i64 y.2)),(39,.rep (.slice .str) ss),(40,.eq (.int .i64 (ss.length:Int))),(41,.eq (.int .i64 y.1))]) (fun _ _=>[]) (nI ss) k () ((0:Int),(ss.length:Int) - 1) (fun _=>rfl) h (SE.fin [] ⟨rfl,rfl,rfl,rfl,rfl,rfl,trivial⟩ rfl) (fun n z y h=>?_)
 unfold nI at h
 refine ag ?_
 refine ab ?_
 refine aE rfl (bq rfl) ⟨rfl,rfl,trivial⟩ ?_
 refine au ?_
 refine ae ?_
 show JC _ _ _ _ _
 refine ag ?_
 refine bJ rfl (fun hb=>?_) (fun hb=>?_)
 ·
  replace h:=cE (ou hb) h;refine aX ?_;refine ae ?_;show JC _ _ _ _ _;refine ag ?_;refine ao ?_;refine ag ?_;refine ab ?_;obtain⟨s,es,h⟩:=aa h;refine aE rfl (aC (t:=.str) rfl Tryz.underlying143 xx es) ⟨rfl,rfl,trivial⟩ ?_;refine aE rfl (ak (t:=.str) rfl xx rfl) ⟨rfl,trivial⟩ ?_;refine di rfl rfl ?_;refine au ?_;refine ae ?_;show JC _ _ _ _ _;refine ag ?_;refine ag ?_;refine ab ?_;refine aA rfl rfl ?_;refine aE rfl (m9 rfl rfl Tryz.underlying9) ⟨rfl,trivial⟩ ?_;refine aA rfl rfl ?_;obtain⟨z,ez,h⟩:=aa h;refine aE rfl (fV rfl ez) ⟨rfl,rfl,trivial⟩ ?_;refine aE rfl (hC rfl) ⟨rfl,rfl,trivial⟩ ?_;refine au ?_;refine ae ?_;show JC _ _ _ _ _;refine bJ rfl (fun hb=>?_) (fun hb=>?_)
  ·replace h:=cE (ou hb) h;cases h
  replace h:=bN (nw hb) h;refine aX ?_;refine ae ?_;show JC _ _ _ _ _;refine ab ?_;refine aA rfl rfl ?_;refine aA rfl rfl ?_;refine aE rfl (m9 rfl rfl Tryz.underlying9) ⟨rfl,trivial⟩ ?_;obtain⟨z2,ez2,h⟩:=aa h;refine aE rfl (bf rfl ez2) ⟨rfl,rfl,trivial⟩ ?_;refine di rfl rfl ?_;refine au ?_;refine aM ?_;refine ae ?_;show JC _ _ _ _ _;refine ab ?_;obtain⟨z3,ez3,h⟩:=aa h;refine aE rfl (bf rfl ez3) ⟨rfl,rfl,trivial⟩ ?_;refine aA rfl rfl ?_;refine au ?_;refine ae ?_;exact iP ((),(z3,z2)) h (SE.fin [] ⟨rfl,rfl,rfl,rfl,rfl,rfl,trivial⟩ rfl)
 replace h:=bN (nw hb) h
 refine dH ?_
 refine aU ?_
 refine aU ?_
 refine bW ?_
 refine ae ?_
 show JC _ _ _ _ _
 replace h:((if 0 < y.2∧y.2≤281474976710656 then(aR ss 0).bind fun s=>if bL s.size then(lS (ss.drop 1) sep k ((0:Int),rm s)).bind fun l=>if l=[] then none else some (qC l) else none else none):Option ByteArray).bind some=some r:=h
 obtain⟨y1,y2⟩:=y
 have hy:0 < y2∧y2≤281474976710656:=by
  apply Classical.byContradiction;intro hn;rw [if_neg hn] at h;cases h
 replace h:=cE hy h
 obtain⟨m,rfl⟩:=Int.eq_ofNat_of_zero_le (show 0≤y2 by omega)
 obtain⟨s0,es0,h⟩:=aa h
 have hs0:bL s0.size:=by
  apply Classical.byContradiction;intro hn;rw [if_neg hn] at h;cases h
 replace h:=cE hs0 h
 rw [Option.bind_assoc] at h
 refine ag ?_
 refine ab ?_
 refine aF rfl rfl rfl (be rfl Fz Im) trivial fun b=>?_
 refine au ?_
 refine ae ?_
 show JC _ _ _ _ _
 refine ag ?_
 refine ab ?_
 refine aA rfl rfl ?_
 refine bR (Δ:=[_]) (F:=_) (fun _ _ _=>ax rfl _) rfl rfl (ap [.tmp 8,.tmp 56] rfl rfl M8 rfl (F9 (b:=b) (n:=m) (by omega) (by omega))) ⟨rfl,rfl,trivial⟩ fun bc=>?_
 refine au ?_
 refine ae ?_
 show JC _ _ _ _ _
 refine ag ?_
 refine ab ?_
 refine aA rfl rfl ?_
 refine aE rfl (aC (t:=.str) rfl Tryz.underlying143 xx es0) ⟨rfl,rfl,trivial⟩ ?_
 refine aE rfl (ak (t:=.str) rfl xx rfl) ⟨rfl,trivial⟩ ?_
 refine bR (Δ:=[_,_]) (F:=_) (fun _ _ _=>ax rfl _) rfl rfl (ap [.tmp 8,.tmp 60] rfl rfl BZ rfl (lT (b:=b) (p:=some ⟨b,0,none⟩) (v:=A4 bc) (l:=[]) (s:=s0) (.inr rfl) rfl (by simpa using hs0))) ⟨rfl,rfl,trivial⟩ fun v0=>?_
 refine au ?_
 refine ae ?_
 show JC _ _ _ _ _
 refine ag ?_
 refine ag ?_
 refine ab ?_
 refine aA rfl rfl ?_
 refine aE rfl (Et (t:=.str) rfl Tryz.underlying143 xx (by decide) (by omega)) ⟨rfl,rfl,trivial⟩ ?_
 refine aE rfl (jE rfl rfl Tryz.underlying143) ⟨rfl,trivial⟩ ?_
 refine fg rfl ?_
 refine au ?_
 refine ae ?_
 show JC _ _ _ _ _
 refine ao ?_
 refine aK (Z:=Value) (α:=Int×List Int) (fun _ y=>[(1,.eq (.string sep)),(8,.eq (bP b)),(63,.rep (.slice .str) (ss.drop 1)),(64,.eq (.int .i64 ((ss.drop 1).length:Int))),(65,.eq (.int .i64 y.1))]) (fun v y=>[.obj b 147 (bA (bP b) v),.sl v 5 (.int .u8) y.2]) (lS (ss.drop 1) sep) k v0 ((0:Int),rm s0) (fun _=>rfl) h (SE.fin [0,1] ⟨rfl,rfl,rfl,rfl,rfl,trivial⟩ rfl) (fun n v y h=>?_)
 unfold lS at h
 refine ag ?_
 refine ab ?_
 refine aE rfl (bq rfl) ⟨rfl,rfl,trivial⟩ ?_
 refine au ?_
 refine ae ?_
 show JC _ _ _ _ _
 refine ag ?_
 refine bJ rfl (fun hb=>?_) (fun hb=>?_)
 ·
  replace h:=cE (ou hb) h;refine aX ?_;refine ae ?_;show JC _ _ _ _ _;refine ag ?_;refine ao ?_;refine ag ?_;refine ab ?_;obtain⟨s,es,h⟩:=aa h;refine aE rfl (aC (t:=.str) rfl Tryz.underlying143 xx es) ⟨rfl,rfl,trivial⟩ ?_;refine aE rfl (ak (t:=.str) rfl xx rfl) ⟨rfl,trivial⟩ ?_;refine di rfl rfl ?_;refine au ?_;refine ae ?_;show JC _ _ _ _ _
  have hk:bL (y.2.length+sep.size)∧bL ((y.2++rm sep).length+s.size):=by
   apply Classical.byContradiction;intro hn;rw [if_neg hn] at h;cases h
  replace h:=cE hk h;refine vO 1 rfl fun hv=>?_;refine ag ?_;refine ab ?_;refine aA rfl rfl ?_;refine bR (Δ:=[_,_]) (F:=_) (fun _ _ _=>ax rfl _) rfl rfl (ap [.tmp 8,.tmp 69] rfl rfl BZ rfl (lT (b:=b) (p:=some ⟨b,0,none⟩) (s:=sep) (.inr rfl) hv hk.1)) ⟨rfl,rfl,trivial⟩ fun v1=>?_;refine au ?_;refine ae ?_;show JC _ _ _ _ _;refine vO 1 rfl fun hv1=>?_;refine ab ?_;refine aA rfl rfl ?_;refine bR (Δ:=[_,_]) (F:=_) (fun _ _ _=>ax rfl _) rfl rfl (ap [.tmp 8,.tmp 71] rfl rfl BZ rfl (lT (b:=b) (p:=some ⟨b,0,none⟩) (s:=s) (.inr rfl) hv1 hk.2)) ⟨rfl,rfl,trivial⟩ fun v2=>?_;refine au ?_;refine aM ?_;refine ae ?_;show JC _ _ _ _ _;refine ab ?_;obtain⟨z3,ez3,h⟩:=aa h;refine aE rfl (bf rfl ez3) ⟨rfl,rfl,trivial⟩ ?_;refine aA rfl rfl ?_;refine au ?_;refine ae ?_;exact iP (v2,(z3,(y.2++rm sep)++rm s)) h (SE.fin [0,1] ⟨rfl,rfl,rfl,rfl,rfl,trivial⟩ rfl)
 replace h:=bN (nw hb) h
 refine dH ?_
 refine aU ?_
 refine aU ?_
 refine bW ?_
 refine ae ?_
 show JC _ _ _ _ _
 replace h:(if y.2=[] then none else some (qC y.2):Option ByteArray).bind some=some r:=h
 have hy2:y.2≠[]:=by
  intro hn;rw [if_pos hn] at h;cases h
 rw [if_neg hy2] at h
 obtain rfl:=Option.some.inj h
 refine ag ?_
 refine ab ?_
 refine bR (Δ:=[_,_]) (F:=_) (fun _ _ _=>ax rfl _) rfl rfl (ap [.tmp 8] rfl rfl H2 rfl (wA (b:=b) (fun hn=>absurd hn hy2))) ⟨rfl,trivial⟩ fun _=>?_
 refine di rfl rfl ?_
 refine au ?_
 refine ae ?_
 show JC _ _ _ _ _
 refine ay ?_
 exact aP () [_] 0 ⟨rfl,trivial⟩ rfl
end Go.Proofs.YtghkncjelangeaaGreatDoor
