import Derived.Test.YtddneonghpmidaaGreatDoorSBB5
import Derived.Test.YtddneonghpmidaaGreatDoorProg
import Derived.Stop.Asserts
set_option linter.unusedSimpArgs false
set_option linter.unusedVariables false
set_option maxRecDepth 20000
set_option maxHeartbeats 4000000
namespace Go.Proofs.YtddneonghpmidaaGreatDoor
open K Go Go.Proofs Go.Extern
theorem CN:dM Tryz.prog 113 1 false:=⟨fun w=>by kernel_rfl,fun w=>by kernel_rfl⟩
theorem j8:dM Tryz.prog 114 1 false:=⟨fun w=>by kernel_rfl,fun w=>by kernel_rfl⟩
theorem OM:aZ Tryz.prog 116 0 0:=aZ.of (by kernel_rfl)
theorem tc:aZ Tryz.prog 116 1 1:=aZ.of (by kernel_rfl)
theorem CQ:mJ Tryz.prog 114 5 1 1:=.of (z:=(.int .u8 (0))) Tryz.underlying114 (by kernel_rfl) rfl rfl rfl
theorem OU:f7 Tryz.prog 127 Extern.AbiNoEscape.same:=.of Tryz.func127 (by kernel_rfl) (by kernel_rfl) (by kernel_rfl) (by kernel_rfl)
theorem D2:ae Tryz.prog 90:=ae.of Tryz.func90 (by kernel_rfl) (by kernel_rfl)
theorem OX:ae Tryz.prog 91:=ae.of Tryz.func91 (by kernel_rfl) (by kernel_rfl)
@[reducible] def bA(p v:Value):A:=.agg (.pair (.eq p) (.eq v))
abbrev bP(b:Nat):Value:=.pointer (some ⟨b,0,none⟩)
theorem wn{p:Option Addr}:Ns Tryz.prog (binOp .eql 113 (.pointer p) (.pointer none)):=by
 cases p with
 |none=>exact pj (by kernel_rfl)
 |some p=>exact pj (by kernel_rfl)
theorem FH{p:Option Addr}{x y:Operand}(w:World):(do eqGuard .eql 113 x y (.pointer p) (.pointer none);binOp .eql 113 (.pointer p) (.pointer none):Sem Value).run Tryz.prog w= .ok (.bool p.isNone) w:=by
 cases p <;> kernel_rfl
theorem Dv{p:Addr}:Ns Tryz.prog (binOp .neq 113 (.pointer (some p)) (.pointer (some p))):=by
 refine ai (s:=Op.equal 113 (.pointer (some p)) (.pointer (some p))) ?_ fun _=>bC;show Ns Tryz.prog (Op.equalIn (9999+1) 113 (.pointer (some p)) (.pointer (some p)));unfold Op.equalIn;refine cV Tryz.underlying113 (ai c6 fun n=>t9 ?_ (t9 bC (ai fK fun _=>bC)));unfold sameAddr;simp only [beq_self_eq_true,if_true];exact bC
theorem Oz:∃j,Tryz.prog.info? 116=some j∧j.size≠0:=by
 obtain⟨j,h1,h2⟩:=Option.map_eq_some_iff.1 (show(Tryz.prog.info? 116).map (·.size)=some 2 by kernel_rfl);exact⟨j,h1,by omega⟩
theorem oH{b:Nat}{p:Option Addr}{v:Value}(hp:p=none∨p=some ⟨b,0,none⟩)(hv:bB v=true):bZ Tryz.prog 90 [.eq (bP b)] [.obj b 116 (bA (.pointer p) v)] (fun _:Unit=>(bp [],[.obj b 116 (bA (bP b) v)])):=by
 obtain⟨j162,inf162_eq,inf162_sz⟩:=Oz;refine bZ.of 20 Tryz.func90 rfl Tryz.ntmps90 rfl fun S w0=>?_;refine ar ?_;refine ab ?_;refine aC rfl rfl ?_;refine aF rfl (bb rfl) ⟨rfl,trivial⟩ ?_;refine aF rfl (av rfl OM) ⟨rfl,trivial⟩ ?_;refine bX rfl rfl rfl (ah rfl CN (fun _=>rfl) rfl) ⟨rfl,trivial⟩ ?_;refine aF rfl (i8 rfl FH wn) ⟨rfl,rfl,trivial⟩ ?_;refine ax ?_;refine ag ?_;show JC _ _ _ _ _;refine bK rfl (fun hb=>?_) (fun hb=>?_)
 ·refine ab ?_;refine aC rfl rfl ?_;refine aC rfl rfl ?_;refine bX rfl rfl rfl (Dj rfl Tryz.underlying113 Tryz.underlying170 inf162_eq inf162_sz rfl) ⟨rfl,trivial⟩ ?_;refine aF rfl (Ib OU [.tmp 9] [bP b] rfl rfl rfl (fun _=>rfl) bC) ⟨rfl,trivial⟩ ?_;refine bX rfl rfl rfl (yW rfl Tryz.underlying170 Tryz.underlying113 inf162_eq (by kernel_rfl)) ⟨rfl,trivial⟩ ?_;refine aF rfl (bb rfl) ⟨rfl,trivial⟩ ?_;refine aF rfl (av rfl OM) ⟨rfl,trivial⟩ ?_;refine a8 rfl rfl (aX rfl CN rfl rfl rfl) ⟨rfl,rfl,trivial⟩ ?_;refine ax ?_;refine jE ?_;exact aL () [] 1 trivial rfl
 ·have hp':p=some ⟨b,0,none⟩:=by
   rcases hp with rfl |rfl
   ·cases hb
   ·rfl
  subst hp';refine ar ?_;refine ab ?_;refine aC rfl rfl ?_;refine aF rfl (bb rfl) ⟨rfl,trivial⟩ ?_;refine aF rfl (av rfl OM) ⟨rfl,trivial⟩ ?_;refine bX rfl rfl rfl (ah rfl CN (fun _=>rfl) rfl) ⟨rfl,trivial⟩ ?_;refine aC rfl rfl ?_;refine aF rfl (H5 rfl Tryz.underlying113 inf162_eq Dv) ⟨rfl,rfl,trivial⟩ ?_;refine ax ?_;refine ag ?_;show JC _ _ _ _ _;refine bK rfl (fun hb=>(by cases hb)) (fun hb=>?_);refine cT ?_;refine jE ?_;exact aL () [] 1 trivial rfl
theorem xj{v:Value}{l:List Int}{r:Int}(h0:0≤r)(h1:r≤127)(hl:bq (l.length+1)):bZ Tryz.prog 91 [.eq v,.eq (.int .i32 r)] [.sl v 5 (.int .u8) l] (fun v':Value=>(bp [.eq v'],[.sl v' 5 (.int .u8) (l++[r])])):=by
 refine bZ.of 16 Tryz.func91 rfl Tryz.ntmps91 rfl fun S w0=>?_;have w32:IntKind.u32.wrap r=r:=by simp [IntKind.wrap,IntKind.bits,IntKind.signed];omega
 have w8:IntKind.u8.wrap r=r:=by simp [IntKind.wrap,IntKind.bits,IntKind.signed];omega
 refine ar ?_;refine ab ?_;refine dJ rfl ?_;refine ax ?_;refine ag ?_;show JC _ _ _ _ _;refine ar ?_;refine ar ?_;refine ab ?_;refine aC rfl rfl ?_;refine aF rfl (pL rfl Tryz.underlying21 Tryz.underlying155) ⟨rfl,trivial⟩ ?_;rw [w32];refine aF rfl (uH rfl) ⟨rfl,rfl,trivial⟩ ?_;refine ax ?_;refine ag ?_;show JC _ _ _ _ _;refine bK rfl (fun hb=>?_) (fun hb=>absurd h1 (by simpa using hb));refine ar ?_;refine ab ?_;refine aC rfl rfl ?_;refine aC rfl rfl ?_;refine aF rfl (pL rfl Tryz.underlying21 Tryz.underlying5) ⟨rfl,trivial⟩ ?_;rw [w8];refine aF rfl (bh (t:=(.int .u8)) [(.tmp 10,.eq (.int .u8 r))] [r] rfl rfl CQ (.cons rfl .int .nil) rfl rfl) ⟨rfl,trivial⟩ ?_;refine cp rfl rfl rfl (be rfl rfl CQ (by simpa using hl)) ⟨rfl,rfl,trivial⟩ fun v'=>?_;refine dk rfl rfl ?_;refine ax ?_;refine ag ?_;show JC _ _ _ _ _;refine bJ ?_;refine eJ ?_;exact aL v' [_] 1 ⟨rfl,trivial⟩ rfl
theorem yG{b:Nat}{p:Option Addr}{v:Value}{l:List Int}{r:Int}(hp:p=none∨p=some ⟨b,0,none⟩)(hv:bB v=true)(h0:0≤r)(h1:r≤127)(hl:bq (l.length+1)):
 bZ Tryz.prog 56 [.eq (bP b),.eq (.int .i32 r)] [.obj b 116 (bA (.pointer p) v),.sl v 5 (.int .u8) l]
  (fun v':Value=>(bp [.eq (.int .i64 1),.eq .nilIface],[.obj b 116 (bA (bP b) v'),.sl v' 5 (.int .u8) (l++[r])])):=by
 refine bZ.of 30 Tryz.func56 rfl Tryz.ntmps56 rfl fun S w0=>?_
 refine ar ?_
 refine ab ?_
 refine dJ rfl ?_
 refine dJ rfl ?_
 refine ax ?_
 refine ag ?_
 show JC _ _ _ _ _
 refine ar ?_
 refine ab ?_
 refine aC rfl rfl ?_
 refine bX rfl rfl rfl (ao [.tmp 7] rfl rfl D2 rfl (oH hp hv)) ⟨rfl,trivial⟩ ?_
 refine ax ?_
 refine ag ?_
 show JC _ _ _ _ _
 refine ar ?_
 refine ab ?_
 refine aC rfl rfl ?_
 refine aF rfl (bb rfl) ⟨rfl,trivial⟩ ?_
 refine aF rfl (av rfl tc) ⟨rfl,trivial⟩ ?_
 refine bX rfl rfl rfl (ah rfl j8 (fun _=>rfl) rfl) ⟨rfl,trivial⟩ ?_
 refine bI 1 rfl ?_
 refine bX rfl rfl rfl (cZ rfl rfl Tryz.underlying114) ⟨rfl,trivial⟩ ?_
 refine dk rfl rfl ?_
 refine ax ?_
 refine ag ?_
 show JC _ _ _ _ _
 refine ar ?_
 refine ab ?_
 refine aC rfl rfl ?_
 refine aC rfl rfl ?_
 refine aF rfl (bb rfl) ⟨rfl,trivial⟩ ?_
 refine aF rfl (av rfl tc) ⟨rfl,trivial⟩ ?_
 refine bI 1 rfl ?_
 refine bX rfl rfl rfl (ah rfl j8 (fun _=>rfl) rfl) ⟨rfl,trivial⟩ ?_
 refine aC rfl rfl ?_
 refine bI 1 rfl ?_
 refine cp rfl rfl rfl (ao [.tmp 18,.tmp 19] rfl rfl OX rfl (xj h0 h1 hl)) ⟨rfl,rfl,trivial⟩ fun v'=>?_
 refine fA fun hv'=>?_
 refine aF rfl (bb rfl) ⟨rfl,trivial⟩ ?_
 refine aF rfl (av rfl tc) ⟨rfl,trivial⟩ ?_
 refine bI 1 rfl ?_
 refine a8 rfl rfl (aX rfl j8 hv' rfl rfl) ⟨rfl,rfl,trivial⟩ ?_
 refine ax ?_
 refine ag ?_
 show JC _ _ _ _ _
 refine ar ?_
 refine ab ?_
 refine aC rfl rfl ?_
 refine aF rfl (bb rfl) ⟨rfl,trivial⟩ ?_
 refine aF rfl (av rfl tc) ⟨rfl,trivial⟩ ?_
 refine bX rfl rfl rfl (ah rfl j8 (fun _=>rfl) rfl) ⟨rfl,trivial⟩ ?_
 refine bI 1 rfl ?_
 refine bX rfl rfl rfl (cZ rfl rfl Tryz.underlying114) ⟨rfl,trivial⟩ ?_
 refine aC rfl rfl ?_
 have hck:ck (((l++[r]).length:Int) - (l.length:Int))=some 1:=by
  have:(((l++[r]).length:Int) - (l.length:Int))=1:=by simp;omega
  rw [this];rfl
 refine aF rfl (eY rfl hck) ⟨rfl,rfl,trivial⟩ ?_
 refine dk rfl rfl ?_
 refine dJ rfl ?_
 refine ax ?_
 refine ag ?_
 show JC _ _ _ _ _
 refine bJ ?_
 refine bi (SE.fin (Γ':=[(4,_),(5,_)]) [1,0] ⟨rfl,rfl,trivial⟩ rfl) ?_
 exact aL v' [_,_] 2 ⟨rfl,rfl,trivial⟩ rfl
theorem UU:Tryz.prog.cellsOf 5=1:=by kernel_rfl
theorem rV:Tryz.prog.follows .mixedOrders=true:=by kernel_rfl
theorem xH{b:Nat}{p v:Value}{l:List Int}(hl:l=[]→v= .slice none 0 0):
 bZ Tryz.prog 57 [.eq (bP b)] [.obj b 116 (bA p v),.sl v 5 (.int .u8) l] (fun _:Unit=>(bp [.eq (.string (rI l))],[])):=by
 refine bZ.of 14 Tryz.func57 rfl Tryz.ntmps57 rfl fun S w0=>?_
 refine ar ?_
 refine ab ?_
 refine dJ rfl ?_
 refine ax ?_
 refine ag ?_
 show JC _ _ _ _ _
 refine ar ?_
 refine bD ?_
 refine dt rfl rfl rfl (aN rfl) ⟨rfl,trivial⟩ ?_
 refine dt rfl rfl rfl (bb rfl) ⟨rfl,trivial⟩ ?_
 refine dt rfl rfl rfl (av rfl tc) ⟨rfl,trivial⟩ ?_
 refine o0 0 rfl rfl rfl rfl (ah rfl j8 (fun _=>rfl) rfl) ⟨rfl,trivial⟩ ?_
 refine o0 1 rfl rfl rfl rfl (AG rfl rfl hl) ⟨rfl,trivial⟩ ?_
 refine dt rfl rfl rfl (aN rfl) ⟨rfl,trivial⟩ ?_
 refine dt rfl rfl rfl (bb rfl) ⟨rfl,trivial⟩ ?_
 refine dt rfl rfl rfl (av rfl tc) ⟨rfl,trivial⟩ ?_
 refine o0 0 rfl rfl rfl rfl (ah rfl j8 (fun _=>rfl) rfl) ⟨rfl,trivial⟩ ?_
 refine o0 1 rfl rfl rfl rfl (cZ rfl rfl Tryz.underlying114) ⟨rfl,trivial⟩ ?_
 refine uD (by kernel_rfl) rV ?_
 refine bI 1 rfl ?_
 refine bO (Δ:=[_]) (F:=_) (fun _ _ _=>aA rfl _) rfl rfl (wc rfl rfl Tryz.underlying164 UU hl) ⟨rfl,rfl,trivial⟩ fun _=>?_
 refine dk rfl rfl ?_
 refine ax ?_
 refine ag ?_
 show JC _ _ _ _ _
 refine bJ ?_
 exact aL () [_] 0 ⟨rfl,trivial⟩ rfl
theorem Tn:(Tryz.prog.info? 5).bind (·.zero)=some (.int .u8 0):=by kernel_rfl
theorem mr{b:Nat}{p:Option Addr}{v:Value}{l:List Int}{s:ByteArray}(hp:p=none∨p=some ⟨b,0,none⟩)(hv:bB v=true)(hl:bq (l.length+s.size)):
 bZ Tryz.prog 93 [.eq (bP b),.eq (.string s)] [.obj b 116 (bA (.pointer p) v),.sl v 5 (.int .u8) l]
  (fun v':Value=>(bp [.eq (.int .i64 s.size),.eq .nilIface],[.obj b 116 (bA (bP b) v'),.sl v' 5 (.int .u8) (l++sE s)])):=by
 refine bZ.of 19 Tryz.func93 rfl Tryz.ntmps93 rfl fun S w0=>?_
 refine ar ?_
 refine ab ?_
 refine dJ rfl ?_
 refine dJ rfl ?_
 refine ax ?_
 refine ag ?_
 show JC _ _ _ _ _
 refine ar ?_
 refine ab ?_
 refine aC rfl rfl ?_
 refine bX rfl rfl rfl (ao [.tmp 6] rfl rfl D2 rfl (oH hp hv)) ⟨rfl,trivial⟩ ?_
 refine ax ?_
 refine ag ?_
 show JC _ _ _ _ _
 refine ar ?_
 refine ab ?_
 refine aC rfl rfl ?_
 refine aC rfl rfl ?_
 refine aF rfl (bb rfl) ⟨rfl,trivial⟩ ?_
 refine aF rfl (av rfl tc) ⟨rfl,trivial⟩ ?_
 refine bX rfl rfl rfl (ah rfl j8 (fun _=>rfl) rfl) ⟨rfl,trivial⟩ ?_
 refine aC rfl rfl ?_
 refine bI 1 rfl ?_
 refine cp rfl rfl rfl (AN rfl rfl CQ Tryz.underlying9 Tn (by decide) hl) ⟨rfl,rfl,trivial⟩ fun v'=>?_
 refine fA fun hv'=>?_
 refine aF rfl (bb rfl) ⟨rfl,trivial⟩ ?_
 refine aF rfl (av rfl tc) ⟨rfl,trivial⟩ ?_
 refine bI 1 rfl ?_
 refine a8 rfl rfl (aX rfl j8 hv' rfl rfl) ⟨rfl,rfl,trivial⟩ ?_
 refine ax ?_
 refine ag ?_
 show JC _ _ _ _ _
 refine ar ?_
 refine ab ?_
 refine aC rfl rfl ?_
 refine aF rfl (nS rfl rfl Tryz.underlying9) ⟨rfl,trivial⟩ ?_
 refine dk rfl rfl ?_
 refine dJ rfl ?_
 refine ax ?_
 refine ag ?_
 show JC _ _ _ _ _
 refine bJ ?_
 exact aL v' [_,_] 2 ⟨rfl,rfl,trivial⟩ rfl
theorem OS:f7 Tryz.prog 152 (Extern.BytealgMakeNoZero.makeNoZero #[3] #[114]):=.of Tryz.func152 (by kernel_rfl) (by kernel_rfl) (by kernel_rfl) (by kernel_rfl)
theorem OT:ae Tryz.prog 129:=ae.of Tryz.func129 (by kernel_rfl) (by kernel_rfl)
def Tt:Value→List D
 | .slice (some ⟨b,0,none⟩) m c=>[.sl (.slice (some ⟨b,0,none⟩) 0 c) 5 (.int .u8) []]
 |_=>[Jz]
theorem N6{v:Value}(h:∀d∈Tt v,∃S w,d.holds S w):∃b m c,v= .slice (some ⟨b,0,none⟩) m c:=by
 unfold Tt at h;split at h
 ·exact⟨_,_,_,rfl⟩
 ·obtain⟨S,w,hb⟩:=h Jz (by simp);exact absurd hb Bv
theorem Qs:dM Tryz.prog 5 1 false:=⟨fun w=>by kernel_rfl,fun w=>by kernel_rfl⟩
theorem Hw{b cap:Nat}:sliced (some ⟨b,0,none⟩) 0 (Int.toNat 0) cap 1= .slice (some ⟨b,0,none⟩) 0 cap:=En
abbrev CU(bc:Nat×Nat):Value:=.slice (some ⟨bc.1,0,none⟩) 0 bc.2
theorem KU{b n:Nat}{p:Value}(hn:n≤281474976710656):
 bZ Tryz.prog 129 [.eq (bP b),.eq (.int .i64 n)] [.obj b 116 (bA p (.slice none 0 0))] (fun bc:Nat×Nat=>(bp [],[.obj b 116 (bA p (CU bc)),.sl (CU bc) 5 (.int .u8) []])):=by
 refine bZ.of 30 Tryz.func129 rfl Tryz.ntmps129 rfl fun S w0=>?_
 have c1:ck (2 * ((0:Nat):Int))=some 0:=rfl
 have c2:ck (0+(n:Int))=some (n:Int):=by rw [Int.zero_add];unfold ck;rw [if_pos (by omega)]
 refine ar ?_
 refine lB ?_
 refine aR rfl rfl rfl (aN rfl) ⟨rfl,trivial⟩ ?_
 refine aR rfl rfl rfl (bb rfl) ⟨rfl,trivial⟩ ?_
 refine aR rfl rfl rfl (av rfl tc) ⟨rfl,trivial⟩ ?_
 refine dn 0 rfl rfl rfl rfl (ah rfl j8 (fun _=>rfl) rfl) ⟨rfl,trivial⟩ ?_
 refine aR rfl rfl rfl (Ie rfl rfl Tryz.underlying114) ⟨rfl,trivial⟩ ?_
 refine aR rfl rfl rfl (NF rfl c1) ⟨rfl,rfl,trivial⟩ ?_
 refine aR rfl rfl rfl (aN rfl) ⟨rfl,trivial⟩ ?_
 refine aR rfl rfl rfl (a9 rfl c2) ⟨rfl,rfl,trivial⟩ ?_
 refine zM Tt (fun _=>rfl) rfl rfl rfl (H3 OS rfl rfl Tryz.underlying114 hn) ⟨rfl,trivial⟩ ?_
 refine aR rfl rfl rfl (aN rfl) ⟨rfl,trivial⟩ ?_
 refine aR rfl rfl rfl (bb rfl) ⟨rfl,trivial⟩ ?_
 refine aR rfl rfl rfl (av rfl tc) ⟨rfl,trivial⟩ ?_
 refine dn 0 rfl rfl rfl rfl (ah rfl j8 (fun _=>rfl) rfl) ⟨rfl,trivial⟩ ?_
 refine aR rfl rfl rfl (H7 rfl rfl Tryz.underlying114) ⟨rfl,trivial⟩ ?_
 refine nB 14 [true,true,true,true,true,true,true,true,true,true,true,true,true,true] [19,4] [] [] rfl (by kernel_rfl) (by kernel_rfl) (by kernel_rfl) rV (fun vs hv hB=>?_)
 obtain⟨u0,vs1,rfl,hv1⟩:=ap hv
 obtain⟨u1,vs2,rfl,hv2⟩:=ap hv1
 obtain⟨u2,vs3,rfl,hv3⟩:=ap hv2
 obtain⟨u3,vs4,rfl,hv4⟩:=ap hv3
 obtain⟨u4,vs5,rfl,hv5⟩:=ap hv4
 obtain⟨u5,vs6,rfl,hv6⟩:=ap hv5
 obtain⟨u6,vs7,rfl,hv7⟩:=ap hv6
 obtain⟨u7,vs8,rfl,hv8⟩:=ap hv7
 obtain⟨u8,vs9,rfl,hv9⟩:=ap hv8
 obtain⟨u9,vs10,rfl,hv10⟩:=ap hv9
 obtain⟨u10,vs11,rfl,hv11⟩:=ap hv10
 obtain⟨u11,vs12,rfl,hv12⟩:=ap hv11
 obtain⟨u12,vs13,rfl,hv13⟩:=ap hv12
 obtain⟨u13,vs14,rfl,hv14⟩:=ap hv13
 obtain rfl:=kZ hv14
 obtain⟨g,m,q,rfl⟩:=N6 hB.2.2.2.2.2.2.2.2.1
 refine⟨[0,1],[.obj b 116 (bA p (.slice none 0 0)),.sl (CU (g,q)) 5 (.int .u8) []],by kernel_rfl,by decide,?_⟩
 refine uB rfl rfl rfl rfl (wd rfl Tryz.underlying114 Qs (Int.le_refl 0) (Int.natCast_nonneg _)) ⟨rfl,rfl,trivial⟩ (by kernel_rfl) ?_
 rw [Hw]
 refine uB rfl rfl rfl rfl (jB rfl) ⟨rfl,trivial⟩ (by kernel_rfl) ?_
 refine uC ?_
 refine bi (SE.fin (Γ':=[(0,.eq (bP b)),(4,.eq (CU (g,q)))]) (Δ':=[.obj b 116 (bA p (.slice none 0 0)),.sl (CU (g,q)) 5 (.int .u8) []]) [0,1] ⟨rfl,rfl,trivial⟩ rfl) ?_
 refine ag ?_
 show JC _ _ _ _ _
 refine ar ?_
 refine ab ?_
 refine aC rfl rfl ?_
 refine aC rfl rfl ?_
 refine aF rfl (bb rfl) ⟨rfl,trivial⟩ ?_
 refine aF rfl (av rfl tc) ⟨rfl,trivial⟩ ?_
 refine bX rfl rfl rfl (ah rfl j8 (fun _=>rfl) rfl) ⟨rfl,trivial⟩ ?_
 refine aF rfl (K9 rfl rfl Tryz.underlying114 Qs) ⟨rfl,rfl,trivial⟩ ?_
 refine ax ?_
 refine ag ?_
 show JC _ _ _ _ _
 refine ab ?_
 refine aC rfl rfl ?_
 refine aC rfl rfl ?_
 refine aF rfl (bb rfl) ⟨rfl,trivial⟩ ?_
 refine aF rfl (av rfl tc) ⟨rfl,trivial⟩ ?_
 refine a8 rfl rfl (aX rfl j8 rfl rfl rfl) ⟨rfl,rfl,trivial⟩ ?_
 refine ax ?_
 refine jE ?_
 exact aL (g,q) [] 2 trivial rfl
end Go.Proofs.YtddneonghpmidaaGreatDoor
set_option linter.unusedVariables false
set_option maxRecDepth 20000
set_option maxHeartbeats 4000000
namespace Go.Proofs.YtddneonghpmidaaGreatDoor
open K Go Go.Proofs Go.Extern
theorem HD{b n:Nat}(h0:0 < n)(hn:n≤281474976710656):
 bZ Tryz.prog 92 [.eq (bP b),.eq (.int .i64 n)] [.obj b 116 (bA (.pointer none) (.slice none 0 0))] (fun bc:Nat×Nat=>(bp [],[.obj b 116 (bA (bP b) (CU bc)),.sl (CU bc) 5 (.int .u8) []])):=by
 refine bZ.of 25 Tryz.func92 rfl Tryz.ntmps92 rfl fun S w0=>?_
 have c1:ck (((0:Nat):Int) - ((0:Nat):Int))=some 0:=rfl
 refine ar ?_
 refine ab ?_
 refine aC rfl rfl ?_
 refine bX rfl rfl rfl (ao [.tmp 4] rfl rfl D2 rfl (oH (.inl rfl) rfl)) ⟨rfl,trivial⟩ ?_
 refine ax ?_
 refine ag ?_
 show JC _ _ _ _ _
 refine ar ?_
 refine ar ?_
 refine ab ?_
 refine aC rfl rfl ?_
 refine aF rfl (bj rfl) ⟨rfl,rfl,trivial⟩ ?_
 refine ax ?_
 refine ag ?_
 show JC _ _ _ _ _
 refine bK rfl (fun hb=>absurd (of_decide_eq_true hb) (by omega)) (fun hb=>?_)
 refine cT ?_
 refine ag ?_
 show JC _ _ _ _ _
 refine ar ?_
 refine bD ?_
 refine dt rfl rfl rfl (aN rfl) ⟨rfl,trivial⟩ ?_
 refine dt rfl rfl rfl (bb rfl) ⟨rfl,trivial⟩ ?_
 refine dt rfl rfl rfl (av rfl tc) ⟨rfl,trivial⟩ ?_
 refine o0 0 rfl rfl rfl rfl (ah rfl j8 (fun _=>rfl) rfl) ⟨rfl,trivial⟩ ?_
 refine dt rfl rfl rfl (Ie rfl rfl Tryz.underlying114) ⟨rfl,trivial⟩ ?_
 refine dt rfl rfl rfl (aN rfl) ⟨rfl,trivial⟩ ?_
 refine dt rfl rfl rfl (bb rfl) ⟨rfl,trivial⟩ ?_
 refine dt rfl rfl rfl (av rfl tc) ⟨rfl,trivial⟩ ?_
 refine o0 0 rfl rfl rfl rfl (ah rfl j8 (fun _=>rfl) rfl) ⟨rfl,trivial⟩ ?_
 refine dt rfl rfl rfl (H7 rfl rfl Tryz.underlying114) ⟨rfl,trivial⟩ ?_
 refine dt rfl rfl rfl (eY rfl c1) ⟨rfl,rfl,trivial⟩ ?_
 refine dt rfl rfl rfl (aN rfl) ⟨rfl,trivial⟩ ?_
 refine uD (by kernel_rfl) rV ?_
 refine aF rfl (bj rfl) ⟨rfl,rfl,trivial⟩ ?_
 refine ax ?_
 refine ag ?_
 show JC _ _ _ _ _
 refine bK rfl (fun hb=>?_) (fun hb=>absurd (of_decide_eq_false hb) (by omega))
 refine ab ?_
 refine aC rfl rfl ?_
 refine aC rfl rfl ?_
 refine bO (Δ:=[_]) (F:=_) (fun _ _ _=>aA rfl _) rfl rfl (ao [.tmp 22,.tmp 23] rfl rfl OT rfl (KU hn)) ⟨rfl,rfl,trivial⟩ fun bc=>?_
 refine ax ?_
 refine jE ?_
 exact aL bc [] 2 trivial rfl
theorem yF:dM Tryz.prog 9 1 false:=⟨fun w=>by kernel_rfl,fun w=>by kernel_rfl⟩
theorem OZ:ae Tryz.prog 56:=ae.of Tryz.func56 (by kernel_rfl) (by kernel_rfl)
theorem Jq:ae Tryz.prog 57:=ae.of Tryz.func57 (by kernel_rfl) (by kernel_rfl)
theorem OW:ae Tryz.prog 92:=ae.of Tryz.func92 (by kernel_rfl) (by kernel_rfl)
theorem D1:ae Tryz.prog 93:=ae.of Tryz.func93 (by kernel_rfl) (by kernel_rfl)
theorem G4:∀w,(zeroValue 116).run Tryz.prog w= .ok (.agg #[.pointer none,.slice none 0 0]) w:=fun w=>by kernel_rfl
theorem JL:∀S w,(A.cells S w (bA (.pointer none) (.slice none 0 0)) (Value.cells (.agg #[.pointer none,.slice none 0 0])).toList):=fun _ _=>⟨[_],_,rfl,⟨rfl,rfl⟩,rfl,rfl⟩
def oG(ss:List ByteArray):Nat→Int×Int→Option Int
 |0,_=>none
 |n+1,y=>if y.1 < (ss.length:Int) then((aP ss y.1).bind fun s=>(ck ((9223372036854775807:Int) - y.2)).bind fun z=>if z < (s.size:Int) then none else(ck (y.2+(s.size:Int))).bind fun z2=>(ck (y.1+(1:Int))).bind fun z3=>oG ss n (z3,z2)) else some y.2
def mo(ss:List ByteArray)(sep:ByteArray):Nat→Int×List Int→Option (List Int)
 |0,_=>none
 |n+1,y=>if y.1 < (ss.length:Int) then((aP ss y.1).bind fun s=>if bq (y.2.length+sep.size)∧bq ((y.2++sE sep).length+s.size) then(ck (y.1+(1:Int))).bind fun z3=>mo ss sep n (z3,(y.2++sE sep)++sE s) else none) else some y.2
def vg(k:Nat)(ss:List ByteArray)(sep:ByteArray):Option ByteArray:=
 if sep.size=1∧bq ss.length then
  if(ss.length:Int)=(0:Int) then some .empty
  else if(ss.length:Int)=(1:Int) then aP ss 0
  else(oG ss k ((0:Int),(ss.length:Int) - 1)).bind fun n=>
   if 0 < n∧n≤281474976710656 then(aP ss 0).bind fun s=>if bq s.size then(mo (ss.drop 1) sep k ((0:Int),sE s)).bind fun l=>if l=[] then none else some (rI l) else none else none
 else none
theorem CS(k:Nat)(ss:List ByteArray)(sep:ByteArray)(r:ByteArray)(h:vg k ss sep=some r):
 bZ Tryz.prog 58 [.rep (.slice .str) ss,.eq (.string sep)] [] (fun _:Unit=>(bp [.eq (.string r)],[])):=by
 unfold vg at h
 split at h
 case isFalse=>cases h
 rename_i hc
 obtain⟨hsep,hlen⟩:=hc
 unfold bq at hlen
 replace h:=ba h
 refine bZ.of 75 Tryz.func58 rfl Tryz.ntmps58 rfl fun S w0=>?_
 refine ar ?_
 refine ab ?_
 refine dJ rfl ?_
 refine ax ?_
 refine ag ?_
 show JC _ _ _ _ _
 refine ar ?_
 refine ar ?_
 refine ab ?_
 refine aC rfl rfl ?_
 refine aF rfl (jq rfl rfl Tryz.underlying112) ⟨rfl,trivial⟩ ?_
 refine ax ?_
 refine ag ?_
 show JC _ _ _ _ _
 refine aj ?_
 refine ar ?_
 refine ab ?_
 refine aF rfl (dX rfl) ⟨rfl,rfl,trivial⟩ ?_
 refine dk rfl rfl ?_
 refine ax ?_
 refine ag ?_
 show JC _ _ _ _ _
 refine bK rfl (fun hb=>?_) (fun hb=>?_)
 ·
  replace h:=cF (oe hb) h;refine ar ?_;refine ab ?_;refine dJ rfl ?_;refine ax ?_;refine ag ?_;show JC _ _ _ _ _;refine bJ ?_;refine mL ?_;refine eJ ?_;obtain rfl:=Option.some.inj h;exact aL () [_] 0 ⟨rfl,trivial⟩ rfl
 replace h:=bM (nr hb) h
 have hne0:=nr hb
 refine ar ?_
 refine ab ?_
 refine aF rfl (dX rfl) ⟨rfl,rfl,trivial⟩ ?_
 refine dk rfl rfl ?_
 refine ax ?_
 refine ag ?_
 show JC _ _ _ _ _
 refine bK rfl (fun hb=>?_) (fun hb=>?_)
 ·
  replace h:=cF (oe hb) h;have es:aP ss 0=some r:=by simpa using h
  refine ar ?_;refine ab ?_;refine aC rfl rfl ?_;refine aF rfl (aG (t:=.str) rfl Tryz.underlying112 yF es) ⟨rfl,rfl,trivial⟩ ?_;refine aF rfl (ak (t:=.str) rfl yF rfl) ⟨rfl,trivial⟩ ?_;refine dk rfl rfl ?_;refine ax ?_;refine ag ?_;show JC _ _ _ _ _;refine bJ ?_;refine mL ?_;refine eJ ?_;exact aL () [_] 0 ⟨rfl,trivial⟩ rfl
 replace h:=bM (nr hb) h
 have hne1:=nr hb
 refine cT ?_
 refine bT ?_
 refine ag ?_
 show JC _ _ _ _ _
 refine ar ?_
 refine ab ?_
 refine dJ rfl ?_
 refine ax ?_
 refine ag ?_
 show JC _ _ _ _ _
 refine ar ?_
 refine ar ?_
 refine ab ?_
 refine aC rfl rfl ?_
 refine aF rfl (nS rfl rfl Tryz.underlying9) ⟨rfl,trivial⟩ ?_
 refine aF rfl (i7 rfl) ⟨rfl,rfl,trivial⟩ ?_
 refine ax ?_
 refine ag ?_
 show JC _ _ _ _ _
 have c1:ck ((ss.length:Int) - 1)=some ((ss.length:Int) - 1):=by unfold ck;rw [if_pos (by omega)]
 have c2:ck ((sep.size:Int) * ((ss.length:Int) - 1))=some ((ss.length:Int) - 1):=by rw [hsep];simpa using c1
 have c3:ck (0+((ss.length:Int) - 1))=some ((ss.length:Int) - 1):=by rw [Int.zero_add];exact c1
 refine bK rfl (fun hb=>?_) (fun hb=>absurd (nr hb) (by omega))
 refine ar ?_
 refine ar ?_
 refine ab ?_
 refine aC rfl rfl ?_
 refine aF rfl (nS rfl rfl Tryz.underlying9) ⟨rfl,trivial⟩ ?_
 refine aC rfl rfl ?_
 refine aF rfl (jq rfl rfl Tryz.underlying112) ⟨rfl,trivial⟩ ?_
 refine aF rfl (eY rfl c1) ⟨rfl,rfl,trivial⟩ ?_
 refine aF rfl (QB rfl (by omega)) ⟨rfl,rfl,trivial⟩ ?_
 refine aF rfl (pg rfl) ⟨rfl,rfl,trivial⟩ ?_
 refine ax ?_
 refine ag ?_
 show JC _ _ _ _ _
 refine bK rfl (fun hb=>?_) (fun hb=>?_)
 ·
  exfalso;have h1:=oe hb;have q1:(9223372036854775807:Int).tdiv ((ss.length:Int) - 1)=9223372036854775807 / ((ss.length:Int) - 1):=Int.tdiv_eq_ediv_of_nonneg (by omega);have q2:(2:Int)≤9223372036854775807 / ((ss.length:Int) - 1):=Int.le_ediv_of_mul_le (by omega) (by omega);have q3:(9223372036854775807:Int) / ((ss.length:Int) - 1)≤9223372036854775807:=Int.ediv_le_self _ (by omega);rw [q1,tf (z:=9223372036854775807 / ((ss.length:Int) - 1)) (by unfold ck;rw [if_pos (by omega)])] at h1;omega
 refine cT ?_
 refine ag ?_
 show JC _ _ _ _ _
 refine ab ?_
 refine aC rfl rfl ?_
 refine aC rfl rfl ?_
 refine aF rfl (nS rfl rfl Tryz.underlying9) ⟨rfl,trivial⟩ ?_
 refine aC rfl rfl ?_
 refine aF rfl (jq rfl rfl Tryz.underlying112) ⟨rfl,trivial⟩ ?_
 refine aF rfl (eY rfl c1) ⟨rfl,rfl,trivial⟩ ?_
 refine aF rfl (NF rfl c2) ⟨rfl,rfl,trivial⟩ ?_
 refine aF rfl (a9 rfl c3) ⟨rfl,rfl,trivial⟩ ?_
 refine dk rfl rfl ?_
 refine ax ?_
 refine ag ?_
 show JC _ _ _ _ _
 rw [Option.bind_assoc] at h
 refine ar ?_
 refine ar ?_
 refine ab ?_
 refine aC rfl rfl ?_
 refine aF rfl (jq rfl rfl Tryz.underlying112) ⟨rfl,trivial⟩ ?_
 refine eI rfl ?_
 refine ax ?_
 refine ag ?_
 show JC _ _ _ _ _
 refine aj ?_
 refine aH (Z:=Unit) (α:=Int×Int) (fun _ y=>[(0,.rep (.slice .str) ss),(1,.eq (.string sep)),(5,.eq (.int .i64 y.2)),(39,.rep (.slice .str) ss),(40,.eq (.int .i64 (ss.length:Int))),(41,.eq (.int .i64 y.1))]) (fun _ _=>[]) (oG ss) k () ((0:Int),(ss.length:Int) - 1) (fun _=>rfl) h (SE.fin [] ⟨rfl,rfl,rfl,rfl,rfl,rfl,trivial⟩ rfl) (fun n z y h=>?_)
 unfold oG at h
 refine ar ?_
 refine ab ?_
 refine aF rfl (bj rfl) ⟨rfl,rfl,trivial⟩ ?_
 refine ax ?_
 refine ag ?_
 show JC _ _ _ _ _
 refine ar ?_
 refine bK rfl (fun hb=>?_) (fun hb=>?_)
 ·
  replace h:=cF (oe hb) h;refine cT ?_;refine ag ?_;show JC _ _ _ _ _;refine ar ?_;refine aj ?_;refine ar ?_;refine ab ?_;obtain⟨s,es,h⟩:=aa h;refine aF rfl (aG (t:=.str) rfl Tryz.underlying112 yF es) ⟨rfl,rfl,trivial⟩ ?_;refine aF rfl (ak (t:=.str) rfl yF rfl) ⟨rfl,trivial⟩ ?_;refine dk rfl rfl ?_;refine ax ?_;refine ag ?_;show JC _ _ _ _ _;refine ar ?_;refine ar ?_;refine ab ?_;refine aC rfl rfl ?_;refine aF rfl (nS rfl rfl Tryz.underlying9) ⟨rfl,trivial⟩ ?_;refine aC rfl rfl ?_;obtain⟨z,ez,h⟩:=aa h;refine aF rfl (eY rfl ez) ⟨rfl,rfl,trivial⟩ ?_;refine aF rfl (i7 rfl) ⟨rfl,rfl,trivial⟩ ?_;refine ax ?_;refine ag ?_;show JC _ _ _ _ _;refine bK rfl (fun hb=>?_) (fun hb=>?_)
  ·replace h:=cF (oe hb) h;cases h
  replace h:=bM (nr hb) h;refine cT ?_;refine ag ?_;show JC _ _ _ _ _;refine ab ?_;refine aC rfl rfl ?_;refine aC rfl rfl ?_;refine aF rfl (nS rfl rfl Tryz.underlying9) ⟨rfl,trivial⟩ ?_;obtain⟨z2,ez2,h⟩:=aa h;refine aF rfl (a9 rfl ez2) ⟨rfl,rfl,trivial⟩ ?_;refine dk rfl rfl ?_;refine ax ?_;refine bT ?_;refine ag ?_;show JC _ _ _ _ _;refine ab ?_;obtain⟨z3,ez3,h⟩:=aa h;refine aF rfl (a9 rfl ez3) ⟨rfl,rfl,trivial⟩ ?_;refine aC rfl rfl ?_;refine ax ?_;refine ag ?_;exact jm ((),(z3,z2)) h (SE.fin [] ⟨rfl,rfl,rfl,rfl,rfl,rfl,trivial⟩ rfl)
 replace h:=bM (nr hb) h
 refine jp ?_
 refine cy ?_
 refine cy ?_
 refine dW ?_
 refine ag ?_
 show JC _ _ _ _ _
 replace h:((if 0 < y.2∧y.2≤281474976710656 then(aP ss 0).bind fun s=>if bq s.size then(mo (ss.drop 1) sep k ((0:Int),sE s)).bind fun l=>if l=[] then none else some (rI l) else none else none):Option ByteArray).bind some=some r:=h
 obtain⟨y1,y2⟩:=y
 have hy:0 < y2∧y2≤281474976710656:=by
  apply Classical.byContradiction;intro hn;rw [if_neg hn] at h;cases h
 replace h:=cF hy h
 obtain⟨m,rfl⟩:=Int.eq_ofNat_of_zero_le (show 0≤y2 by omega)
 obtain⟨s0,es0,h⟩:=aa h
 have hs0:bq s0.size:=by
  apply Classical.byContradiction;intro hn;rw [if_neg hn] at h;cases h
 replace h:=cF hs0 h
 rw [Option.bind_assoc] at h
 refine ar ?_
 refine ab ?_
 refine aD rfl rfl rfl (aY rfl G4 JL) trivial fun b=>?_
 refine ax ?_
 refine ag ?_
 show JC _ _ _ _ _
 refine ar ?_
 refine ab ?_
 refine aC rfl rfl ?_
 refine bO (Δ:=[_]) (F:=_) (fun _ _ _=>aA rfl _) rfl rfl (ao [.tmp 8,.tmp 56] rfl rfl OW rfl (HD (b:=b) (n:=m) (by omega) (by omega))) ⟨rfl,rfl,trivial⟩ fun bc=>?_
 refine ax ?_
 refine ag ?_
 show JC _ _ _ _ _
 refine ar ?_
 refine ab ?_
 refine aC rfl rfl ?_
 refine aF rfl (aG (t:=.str) rfl Tryz.underlying112 yF es0) ⟨rfl,rfl,trivial⟩ ?_
 refine aF rfl (ak (t:=.str) rfl yF rfl) ⟨rfl,trivial⟩ ?_
 refine bO (Δ:=[_,_]) (F:=_) (fun _ _ _=>aA rfl _) rfl rfl (ao [.tmp 8,.tmp 60] rfl rfl D1 rfl (mr (b:=b) (p:=some ⟨b,0,none⟩) (v:=CU bc) (l:=[]) (s:=s0) (.inr rfl) rfl (by simpa using hs0))) ⟨rfl,rfl,trivial⟩ fun v0=>?_
 refine ax ?_
 refine ag ?_
 show JC _ _ _ _ _
 refine ar ?_
 refine ar ?_
 refine ab ?_
 refine aC rfl rfl ?_
 refine aF rfl (FV (t:=.str) rfl Tryz.underlying112 yF (by decide) (by omega)) ⟨rfl,rfl,trivial⟩ ?_
 refine aF rfl (jq rfl rfl Tryz.underlying112) ⟨rfl,trivial⟩ ?_
 refine eI rfl ?_
 refine ax ?_
 refine ag ?_
 show JC _ _ _ _ _
 refine aj ?_
 refine aH (Z:=Value) (α:=Int×List Int) (fun _ y=>[(1,.eq (.string sep)),(8,.eq (bP b)),(63,.rep (.slice .str) (ss.drop 1)),(64,.eq (.int .i64 ((ss.drop 1).length:Int))),(65,.eq (.int .i64 y.1))]) (fun v y=>[.obj b 116 (bA (bP b) v),.sl v 5 (.int .u8) y.2]) (mo (ss.drop 1) sep) k v0 ((0:Int),sE s0) (fun _=>rfl) h (SE.fin [0,1] ⟨rfl,rfl,rfl,rfl,rfl,trivial⟩ rfl) (fun n v y h=>?_)
 unfold mo at h
 refine ar ?_
 refine ab ?_
 refine aF rfl (bj rfl) ⟨rfl,rfl,trivial⟩ ?_
 refine ax ?_
 refine ag ?_
 show JC _ _ _ _ _
 refine ar ?_
 refine bK rfl (fun hb=>?_) (fun hb=>?_)
 ·
  replace h:=cF (oe hb) h;refine cT ?_;refine ag ?_;show JC _ _ _ _ _;refine ar ?_;refine aj ?_;refine ar ?_;refine ab ?_;obtain⟨s,es,h⟩:=aa h;refine aF rfl (aG (t:=.str) rfl Tryz.underlying112 yF es) ⟨rfl,rfl,trivial⟩ ?_;refine aF rfl (ak (t:=.str) rfl yF rfl) ⟨rfl,trivial⟩ ?_;refine dk rfl rfl ?_;refine ax ?_;refine ag ?_;show JC _ _ _ _ _
  have hk:bq (y.2.length+sep.size)∧bq ((y.2++sE sep).length+s.size):=by
   apply Classical.byContradiction;intro hn;rw [if_neg hn] at h;cases h
  replace h:=cF hk h;refine wY 1 rfl fun hv=>?_;refine ar ?_;refine ab ?_;refine aC rfl rfl ?_;refine bO (Δ:=[_,_]) (F:=_) (fun _ _ _=>aA rfl _) rfl rfl (ao [.tmp 8,.tmp 69] rfl rfl D1 rfl (mr (b:=b) (p:=some ⟨b,0,none⟩) (s:=sep) (.inr rfl) hv hk.1)) ⟨rfl,rfl,trivial⟩ fun v1=>?_;refine ax ?_;refine ag ?_;show JC _ _ _ _ _;refine wY 1 rfl fun hv1=>?_;refine ab ?_;refine aC rfl rfl ?_;refine bO (Δ:=[_,_]) (F:=_) (fun _ _ _=>aA rfl _) rfl rfl (ao [.tmp 8,.tmp 71] rfl rfl D1 rfl (mr (b:=b) (p:=some ⟨b,0,none⟩) (s:=s) (.inr rfl) hv1 hk.2)) ⟨rfl,rfl,trivial⟩ fun v2=>?_;refine ax ?_;refine bT ?_;refine ag ?_;show JC _ _ _ _ _;refine ab ?_;obtain⟨z3,ez3,h⟩:=aa h;refine aF rfl (a9 rfl ez3) ⟨rfl,rfl,trivial⟩ ?_;refine aC rfl rfl ?_;refine ax ?_;refine ag ?_;exact jm (v2,(z3,(y.2++sE sep)++sE s)) h (SE.fin [0,1] ⟨rfl,rfl,rfl,rfl,rfl,trivial⟩ rfl)
 replace h:=bM (nr hb) h
 refine jp ?_
 refine cy ?_
 refine cy ?_
 refine dW ?_
 refine ag ?_
 show JC _ _ _ _ _
 replace h:(if y.2=[] then none else some (rI y.2):Option ByteArray).bind some=some r:=h
 have hy2:y.2≠[]:=by
  intro hn;rw [if_pos hn] at h;cases h
 rw [if_neg hy2] at h
 obtain rfl:=Option.some.inj h
 refine ar ?_
 refine ab ?_
 refine bO (Δ:=[_,_]) (F:=_) (fun _ _ _=>aA rfl _) rfl rfl (ao [.tmp 8] rfl rfl Jq rfl (xH (b:=b) (fun hn=>absurd hn hy2))) ⟨rfl,trivial⟩ fun _=>?_
 refine dk rfl rfl ?_
 refine ax ?_
 refine ag ?_
 show JC _ _ _ _ _
 refine bJ ?_
 exact aL () [_] 0 ⟨rfl,trivial⟩ rfl
