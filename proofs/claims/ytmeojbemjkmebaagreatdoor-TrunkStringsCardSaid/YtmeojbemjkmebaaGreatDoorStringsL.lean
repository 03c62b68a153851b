import Derived.Test.YtmeojbemjkmebaaGreatDoorRFB12
set_option linter.unusedSimpArgs false
set_option linter.unusedVariables false
namespace Go.Proofs.YtmeojbemjkmebaaGreatDoor
open K Go Go.Proofs
section
variable {k:Nat}{t:cF}{p:List (List Int)}
theorem nV{s:ByteArray}(hs:s.size≤20):∀(n q:Nat) (p:List (List Int)) (m:List Int),q≤s.size→s.size - q < n→p.length≤q→m.length≤q→
 jy k (.string s) n ((q:Int),p++[m])=match CY ((jN s).drop q) p m with | .error e=>some (.error ([],e)) | .ok o=>some (.ok o)
 |0,q,p,m,_,h,_,_=>by omega
 |n+1,q,p,m,hq,h,hp,hm=>by
  unfold jy
  rw [bX (show bW (.string s)=true from rfl),bs,show dq (Value.string s)=s from rfl]
  dsimp only
  by_cases c:q < s.size
  ·
   have ha:zj (.string s) (q:Int)=some ((s.get! q).toNat:Int):=by
    unfold zj;rw [if_pos ⟨rfl,by omega,by show(q:Int) < (s.size:Int);omega⟩];rfl
   rw [if_pos (by omega),CS c,CY,ha,bs];by_cases c2:((s.get! q).toNat:Int)=47
   ·rw [if_pos c2,if_pos c2,bX (C5 (by simp only [List.length_append,List.length_cons,List.length_nil];omega)),bs,mX,bU (by omega) (by omega),bs];have:=nV hs n (q+1) (p++[m]) [] (by omega) (by omega) (by simp;omega) (by simp);rw [show((q+1:Nat):Int)=(q:Int)+1 by omega] at this;exact this
   ·rw [if_neg c2,if_neg c2,bs];by_cases c3:((s.get! q).toNat:Int) < 97
    ·rw [if_pos c3,bs,iT,mY,if_neg (by omega)]
    ·rw [if_neg c3,bs,bs];by_cases c4:(122:Int) < ((s.get! q).toNat:Int)
     ·rw [decide_eq_true c4,iT,mY,if_neg (by omega)]
     ·have hw:IntKind.u8.wrap (((s.get! q).toNat:Int) - 97)=((s.get! q).toNat:Int) - 97:=by
       have e:IntKind.u8.wrap (((s.get! q).toNat:Int) - 97)=(((s.get! q).toNat:Int) - 97) % 256:=by simp [IntKind.wrap,IntKind.signed,IntKind.bits]
       rw [e];omega
      rw [decide_eq_false c4,iF,bU (by simp only [List.length_append,List.length_cons,List.length_nil];omega) (by simp only [List.length_append,List.length_cons,List.length_nil];omega),bs,Di,bs,bs,hw,bU (by omega) (by omega),bs,bX (C5 (by simp only [List.length_cons,List.length_nil];omega)),bs,mX,bU (by omega) (by omega),bs,Af,if_pos (by omega)];have:=nV hs n (q+1) p (m++[((s.get! q).toNat:Int) - 97]) (by omega) (by omega) (by omega) (by simp;omega);rw [show((q+1:Nat):Int)=(q:Int)+1 by omega] at this;exact this
  ·have:q=s.size:=by omega
   subst this;rw [if_neg (by omega),List.drop_eq_nil_of_le (by rw [iu];exact Nat.le_refl _),CY]
theorem Fe(hk:50≤k)(hs:gw k t)(s:ByteArray):∃r,lP k t (.string s)=some r∧nk k t (.string s)=some r∧rh k r.1:=by
 have hk1:=hs.k1;by_cases hT:j9 t=0
 ·refine⟨zo t s,KY (a:=0) hs hT hk hk1 s,?_,?_⟩
  ·unfold nk zo;rw [tK hs,bs,hT,if_neg (not_not_intro rfl),bX (show bW (.string s)=true from rfl),bs,show dq (Value.string s)=s from rfl];by_cases c:20 < s.size
   ·rw [if_pos (by omega),if_pos c]
   ·rw [if_neg (by omega),if_neg c];have h:=nV (k:=k) (s:=s) (by omega) k 0 [] [] (by omega) (by omega) (by simp) (by simp);rw [List.nil_append,List.drop_zero] at h;rw [show((0:Int),[([]:List Int)])=(((0:Nat):Int),[([]:List Int)]) from rfl,h];cases e:CY (jN s) [] [] with
    |error x=>rw [mY]
    |ok o=>
     dsimp only;obtain⟨h1,h2⟩:=va e;rw [iu] at h1 h2
     have hl:∀l∈o,l.length < k:=fun l hl=>by
      rcases h2 l hl with h3 |h3
      ·cases h3
      ·simp only [List.length_nil] at h3;omega
     rw [mX,rf hs hk hl,bs];by_cases c:jF t o=0
     ·rw [if_neg (not_not_intro c),if_pos c]
     ·rw [if_pos c,if_neg c]
  ·unfold zo;have hn:=rh.nil (k:=k) hk;by_cases c:20 < s.size
   ·rw [if_pos c];exact hn
   ·rw [if_neg c];cases e:CY (jN s) [] [] with
    |error x=>exact hn
    |ok o=>
     dsimp only;obtain⟨h1,h2⟩:=va e;rw [iu] at h1 h2;by_cases c:jF t o=0
     ·rw [if_pos c]
      exact⟨by show o.length < k;simp only [List.length_nil] at h1;omega,fun l hl=>by
       rcases h2 l hl with h3 |h3
       ·cases h3
       ·simp only [List.length_nil] at h3;omega⟩
     ·rw [if_neg c];exact hn
 ·refine⟨([],j9 t),?_,?_,rh.nil hk⟩
  ·unfold lP;rw [tJ hs,bs,if_pos hT]
  ·unfold nk;rw [tK hs,bs,if_pos hT]
theorem uO{a b:List Int}:gg (.string (di a)) (.string (di b))= .string (di (a++b)):=by
 show Value.string (di a++di b)=_;congr 1;apply ByteArray.ext;rw [ByteArray.data_append];simp [di,Lib.bytesOf]
theorem EM{x:Int}(h:0≤x∧x≤4):iO (.string ⟨#[97,98,99,100,101,102,103,104,105,106,107,108,109,110,111,112,113,114,115,116,117,118,119,120,121,122]⟩) x (x+1)= .string (di [97+x]):=by
 have:x=0∨x=1∨x=2∨x=3∨x=4:=by omega
 rcases this with rfl |rfl |rfl |rfl |rfl <;> rfl
theorem xN{y5:Value×Int}{l:List Int}(hg:aX p y5.2=some l)(hx:∀x∈l,0≤x∧x≤4)(hl:l.length≤20)(hk:50≤k){b:List Int}(hb:b.length≤1000):
 fH k p y5 k (.string (di b),0)=some (.string (di (b++dL l))):=by
 have hb:=W.loop (f:=fH k p y5) (Q:=fun o=>o= .string (di (b++dL l))) (fun q y=>∃j:Nat,y.2=(j:Int)∧j≤l.length∧q=l.length - j∧y.1= .string (di (b++dL (l.take j)))) (by
  rintro aU q ⟨o,y⟩ ⟨j,hj,hle,hq,ho⟩ ih;simp only at hj ho;subst hj ho;unfold fH;rw [hg,bs];dsimp only;refine W.ite (fun hlt=>?_) (fun hge=>W.ret ?_)
  ·have hj:j < l.length:=by omega
   have hxj:=hx _ (List.getElem_mem hj);have hlt:(dL (l.take j)).length≤20:=by unfold dL;rw [List.length_map,List.length_take];omega
   have e26:((dq (.string ⟨#[97,98,99,100,101,102,103,104,105,106,107,108,109,110,111,112,113,114,115,116,117,118,119,120,121,122]⟩)).size:Int)=26:=rfl;have e1:(dq (.string (di (b++dL (l.take j))))).size=(b++dL (l.take j)).length:=jx;have e2:(dq (.string (di [97+l[j]]))).size=1:=jx;rw [bs,cz hj,bs,bs,cz hj,bs,bU (by omega) (by omega),bs,bX ⟨rfl,hxj.1,by omega,by rw [e26];omega⟩,bs,EM hxj,bX ⟨rfl,rfl,by rw [e1,e2,List.length_append];omega⟩,bs,uO,bU (by omega) (by omega),bs];refine ih (q - 1) (_,(j:Int)+1) (by omega) ⟨j+1,by show(j:Int)+1=((j+1:Nat):Int);omega,by omega,by omega,?_⟩;simp only;rw [List.take_add_one,List.getElem?_eq_getElem hj,show(l.take j++(some l[j]).toList)=l.take j++[l[j]] from rfl,wW,List.append_assoc]
  ·rw [List.take_of_length_le (by omega)]) l.length k (.string (di b),0) (by omega) ⟨0,rfl,by omega,by omega,by simp [dL]⟩
 obtain⟨o,eo,h⟩:=hb
 rw [eo,h]
theorem wh(hx:∀l∈p,(∀x∈l,0≤x∧x≤4)∧l.length≤20)(hl:p.length≤20)(hk:50≤k):fJ k p k (.string (di []),0)=some (.string (di (uc p))):=by
 have hlen:∀q:List (List Int),(∀l∈q,l.length≤20)→(uc q).length≤21 * q.length:=by
  intro q hq;cases q with
  |nil=>simp [uc]
  |cons l ls=>
   have k2:∀ls:List (List Int),(∀l∈ls,l.length≤20)→(ls.flatMap fun m=>47::dL m).length≤21 * ls.length:=by
    intro ls
    induction ls with
    |nil=>intro _;simp
    |cons m ls ih=>
     intro h;have e:(dL m).length=m.length:=by simp [dL]
     have h1:=h m (by simp);have h2:=ih fun l hl=>h l (by simp [hl]);rw [List.flatMap_cons,List.length_append,List.length_cons,List.length_cons,e];omega
   have e:(dL l).length=l.length:=by simp [dL]
   have h1:=hq l (by simp);have h2:=k2 ls fun m hm=>hq m (by simp [hm]);rw [uc,List.length_append,List.length_cons,e];omega
 have hb:=W.loop (f:=fJ k p) (Q:=fun o=>o= .string (di (uc p))) (fun q y=>∃j:Nat,y.2=(j:Int)∧j≤p.length∧q=p.length - j∧y.1= .string (di (uc (p.take j)))) (by
  rintro aU q ⟨o,y⟩ ⟨j,hj,hle,hq,ho⟩ ih;simp only at hj ho;subst hj ho;unfold fJ;dsimp only;refine W.ite (fun hlt=>?_) (fun hge=>W.ret ?_)
  ·have hj:j < p.length:=by omega
   have hxj:=hx _ (List.getElem_mem hj);have h1:=hlen (p.take j) fun l hl=>(hx l (List.mem_of_mem_take hl)).2;rw [List.length_take] at h1;have e1:(dq (.string (di (uc (p.take j))))).size=(uc (p.take j)).length:=jx;have e47:(Value.string ⟨#[47]⟩)= .string (di [47]):=rfl;have e2:(dq (.string (di [47]))).size=1:=jx
   have fin:∀b:List Int,b.length≤1000→b++dL p[j]=uc (p.take (j+1))→W ((((some (Value.string (di b)):Option Value).bind fun x9=>fH k p (.string (di (uc (p.take j))),(j:Int)) k (x9,0)):Option Value).bind fun x7=>(K.ck ((j:Int)+1)).bind fun x23=>fJ k p aU (x7,x23)) fun o=>o= .string (di (uc p)):=fun b hb he=>by
    rw [bs,xN (y5:=(.string (di (uc (p.take j))),(j:Int))) (cz hj) hxj.1 hxj.2 hk hb,bs,bU (by omega) (by omega),bs,he];exact ih (q - 1) (_,(j:Int)+1) (by omega) ⟨j+1,by show(j:Int)+1=((j+1:Nat):Int);omega,by omega,by omega,rfl⟩
   have hts:p.take (j+1)=p.take j++[p[j]]:=by rw [List.take_add_one,List.getElem?_eq_getElem hj];rfl
   by_cases c:(0:Int) < (j:Int)
   ·rw [if_pos c,e47,bX ⟨rfl,rfl,by rw [e1,e2];omega⟩,bs,uO];refine fin _ (by rw [List.length_append];simp only [List.length_cons,List.length_nil];omega) ?_;rw [hts]
    obtain⟨a,l',hal⟩:∃a l',p.take j=a++[l']:=by
     have hne:p.take j≠[]:=by intro h;have:=congrArg List.length h;rw [List.length_take,Nat.min_eq_left (by omega)] at this;simp at this;omega
     exact⟨(p.take j).dropLast,(p.take j).getLast hne,(List.dropLast_concat_getLast hne).symm⟩
    rw [hal,FH,List.append_assoc];rfl
   ·have:j=0:=by omega
    subst this;rw [if_neg c];refine fin _ (by simp [uc]) ?_;rw [hts];simp [uc]
  ·rw [List.take_of_length_le (by omega)]) p.length k (.string (di []),0) (by omega) ⟨0,rfl,by omega,by omega,by simp [uc]⟩
 obtain⟨o,eo,h⟩:=hb;rw [eo,h]
theorem CC(h:mf k t p):∃(s:ByteArray) (e:Int),jv k t p=some (.string s,e)∧lC k t p=some (.string s,e)∧s.size≤1000:=by
 have hk:=h.k0;by_cases c:jF t p=0
 ·have hA:At k t p:=⟨h.hs,h.dayT (yu c),c⟩;have hg:=hA.good;have h5:=hg.g.things;have h3:=hg.g.trunks;have hlen:=hg.len;have hx:∀l∈p,(∀x∈l,0≤x∧x≤4)∧l.length≤20:=fun l hl=>⟨fun x hx=>by have:=hg.rng x (List.mem_flatten.2 ⟨l,hl,hx⟩);omega,by have:=(hg.fit.fit l hl).1;omega⟩;refine⟨di (uc p),0,Iq hA,?_,?_⟩
  ·unfold lC;rw [hA.okR,bs,if_neg (not_not_intro rfl)];have e0:(Value.string ⟨#[]⟩)= .string (di []):=rfl;rw [e0,wh hx (by omega) hk,bs]
  ·rw [jx];have hfl:=(show vX t.2.1.length p.flatten from⟨hg.nd,hg.rng⟩).len
   have key:∀p:List (List Int),(uc p).length≤p.flatten.length+p.length:=by
    intro p;cases p with
    |nil=>simp [uc]
    |cons l ls=>
     have k2:∀ls:List (List Int),(ls.flatMap fun m=>47::dL m).length=ls.flatten.length+ls.length:=by
      intro ls
      induction ls with
      |nil=>rfl
      |cons m ls ih=>
       have e:(dL m).length=m.length:=by simp [dL]
       rw [List.flatMap_cons,List.length_append,List.length_cons,ih,List.flatten_cons,List.length_append,List.length_cons,e];omega
     rw [uc,List.length_append,k2];simp only [dL,List.length_map,List.flatten_cons,List.length_append,List.length_cons];omega
   have:=key p;omega
 ·refine⟨.empty,jF t p,?_,?_,by decide⟩
  ·unfold jv;rw [rc h.hs (by omega) h.hl,bs,if_pos c]
  ·unfold lC;rw [rf h.hs hk h.hl,bs,if_pos c];rfl
theorem yS{a b:Int}(hb:0 < b∧b≤1000000):W (jU k a b) fun r=>0≤r∧r < b:=by
 unfold jU;have h1:=Int.tmod_lt_of_pos a hb.1
 have h2: -b < Int.tmod a b:=by
  have h3:=Int.tmod_lt_of_pos (-a) hb.1;rw [Int.neg_tmod] at h3;omega
 rw [bX (show b≠0 by omega),bs,bU (by omega) (by omega),bs,bs];have e2:Int.tmod (Int.tmod a b+b) b=(Int.tmod a b+b) % b:=Int.tmod_eq_emod_of_nonneg (by omega);rw [e2];exact W.ret ⟨Int.emod_nonneg _ (by omega),Int.emod_lt_of_pos _ hb.1⟩
theorem xH{s:ByteArray}{i j:Int}(h:0≤i∧i≤j∧j≤(s.size:Int)):((dq (iO (.string s) i j)).size:Int)≤(s.size:Int):=by
 show((s.extract i.toNat j.toNat).size:Int)≤_;rw [ByteArray.size_extract];omega
theorem Ba{s:ByteArray}(hs:s.size≤1000){a b c:Int}:∃s':ByteArray,kS k (.string s) a b c=some (.string s'):=by
 have e0:dq (Value.string s)=s:=rfl;have e1:(dq (fE [c])).size=1:=rfl;unfold kS;rw [bX (show bW (.string s)=true from rfl),bs,e0];by_cases c0:(s.size:Int)=0
 ·rw [if_pos c0];exact⟨_,rfl⟩
 rw [if_neg c0,bs];obtain⟨w,ew,w1,w2⟩:=yS (k:=k) (a:=a) (b:=(s.size:Int)) (by omega);obtain⟨v,ev,v1,v2⟩:=yS (k:=k) (a:=b) (b:=3) (by decide);have z1:=xH (s:=s) (i:=0) (j:=w) (by omega);have z2:=xH (s:=s) (i:=w+1) (j:=(s.size:Int)) (by omega);have z3:=xH (s:=s) (i:=w) (j:=(s.size:Int)) (by omega)
 have z4:((dq (gg (iO (.string s) 0 w) (fE [c]))).size:Int)=((dq (iO (.string s) 0 w)).size:Int)+1:=by
  show((dq (iO (.string s) 0 w)++dq (fE [c])).size:Int)=_;rw [ByteArray.size_append,e1];rfl
 rw [ew,bs,ev,bs];by_cases c1:v=0
 ·rw [if_pos c1,bX ⟨rfl,w1,by omega⟩,bs,bX ⟨rfl,rfl,by rw [e1];omega⟩,bs,bU (by omega) (by omega),bs,bX ⟨rfl,by omega,by omega⟩,bs,bX ⟨rfl,rfl,by rw [z4];omega⟩,bs];exact⟨_,rfl⟩
 ·rw [if_neg c1];by_cases c2:v=1
  ·rw [if_pos c2,bX ⟨rfl,w1,by omega⟩,bs,bU (by omega) (by omega),bs,bX ⟨rfl,by omega,by omega⟩,bs,bX ⟨rfl,rfl,by omega⟩,bs];exact⟨_,rfl⟩
  ·rw [if_neg c2,bX ⟨rfl,w1,by omega⟩,bs,bX ⟨rfl,rfl,by rw [e1];omega⟩,bs,bs,bX ⟨rfl,rfl,by rw [z4];omega⟩,bs];exact⟨_,rfl⟩
theorem A8(hk1:k≤1000000){a3 r27:ByteArray}{r11:(List a8)×(List (List (List Int)))×bR}{y14:Int}{r23:Value×Int}{s:ByteArray}(hr:r23.1= .string s){t:cF}(hg:aX r11.1 y14=some t)(hk:50≤k)(hs:gw k t):
 cT k (.string a3) r11 y14 r23 (.string r27) k 0=some (.ok ()):=by
 have hb:=W.loop (f:=cT k (.string a3) r11 y14 r23 (.string r27)) (Q:=fun o=>o= .ok ()) (fun q y=>∃j:Nat,y=(j:Int)∧j≤5∧q=5 - j) (by
  rintro aU q y ⟨j,hj,hle,hq⟩ ih;subst hj;unfold cT
  have hL:∀x∈[Value.string a3,r23.1,Value.string r27,(.string ⟨#[97,98,47,99]⟩),(gg (.string a3) (.string ⟨#[47,47,47,47,47,47,47,47,47,47,47,47,47,47,47,47,47,47,47,47,47]⟩))],∃s,x=Value.string s:=by
   intro x hx;simp only [List.mem_cons,List.not_mem_nil,or_false] at hx;rcases hx with rfl |rfl |rfl |rfl |rfl
   ·exact⟨_,rfl⟩
   ·exact⟨_,hr⟩
   ·exact⟨_,rfl⟩
   ·exact⟨_,rfl⟩
   ·exact⟨_,rfl⟩
  have hl:[Value.string a3,r23.1,Value.string r27,(.string ⟨#[97,98,47,99]⟩),(gg (.string a3) (.string ⟨#[47,47,47,47,47,47,47,47,47,47,47,47,47,47,47,47,47,47,47,47,47]⟩))].length=5:=rfl;generalize [Value.string a3,r23.1,Value.string r27,(.string ⟨#[97,98,47,99]⟩),(gg (.string a3) (.string ⟨#[47,47,47,47,47,47,47,47,47,47,47,47,47,47,47,47,47,47,47,47,47]⟩))]=L at hL hl;refine W.ite (fun hlt=>?_) (fun hge=>W.ret rfl);have hj:j < L.length:=by omega
  obtain⟨s',hs'⟩:=hL _ (List.getElem_mem hj);obtain⟨r,f1,f2,f3⟩:=Fe hk hs s';rw [hg,bs,cz hj,bs,hs',f1,bs,bs,bs,f2,bs,if_neg (not_not_intro rfl),xJ f3 hk1,bs,bs,Bool.not_true,iF,bU (by omega) (by omega),bs];exact ih (q - 1) _ (by omega) ⟨j+1,by omega,by omega,by omega⟩) 5 k 0 (by omega) ⟨0,rfl,by omega,by omega⟩
 obtain⟨o,eo,h⟩:=hb
 rw [eo,h]
theorem xG(hk1:k≤1000000){a3:ByteArray}(h3:a3.size≤40){a4 a5 a6:Int}{r11:(List a8)×(List (List (List Int)))×bR}(h:Ob k r11.1 r11.2.1)(hk:50≤k):cU k (.string a3) a4 a5 a6 r11 k 0=some (.ok ()):=by
 have hb:=W.loop (f:=cU k (.string a3) a4 a5 a6 r11) (Q:=fun o=>o= .ok ()) (fun q y=>∃j:Nat,y=(j:Int)∧j≤4∧q=4 - j) (by
  rintro aU q y ⟨j,hj,hle,hq⟩ ih;subst hj;unfold cU;rw [h.l1];refine W.ite (fun hlt=>?_) (fun hge=>W.ret rfl);obtain⟨t,p,e1,e2,hs⟩:=h.at_ j (by omega);obtain⟨s,e,f1,f2,f3⟩:=CC hs;obtain⟨s',g1⟩:=Ba (k:=k) (s:=s) f3 (a:=a4) (b:=a5) (c:=a6);have e21:(dq (.string ⟨#[47,47,47,47,47,47,47,47,47,47,47,47,47,47,47,47,47,47,47,47,47]⟩)).size=21:=rfl;have e3:(dq (.string a3)).size=a3.size:=rfl;rw [e1,bs,e2,bs,f1,bs,bs,bs,f2,bs];dsimp only
  rw [bX ⟨rfl,rfl⟩,bs,show F8 (.string s) (.string s)=true by simp [F8],if_neg (not_not_intro rfl),decide_eq_true rfl,Bool.not_true,bs,iF,g1,bs,bX ⟨rfl,rfl,by rw [e3,e21];omega⟩,bs,bX (show bW (.string a3)=true from rfl),bs,bX (show bW (.string s)=true from rfl),bs,bX (show bW (.string s')=true from rfl),bs,bX (show bW (.string ⟨#[97,98,47,99]⟩)=true from rfl),bs,bX (show bW (gg _ _)=true from rfl),bs,
   A8 hk1 (r23:=(.string s,e)) rfl e1 hk hs.hs,mX,bU (by omega) (by omega),bs]
  exact ih (q - 1) _ (by omega) ⟨j+1,by omega,by omega,by omega⟩) 4 k 0 (by omega) ⟨0,rfl,by omega,by omega⟩
 obtain⟨o,eo,rfl⟩:=hb;exact eo
theorem rA(hk:50≤k)(hk1:k≤1000000)(hp:ku k=some true)(a0:a8)(a1:gu)(a2:List (List Int))(a3:ByteArray)(a4 a5 a6:Int)(a7:List Int):iQ k a0 a1 a2 (.string a3) a4 a5 a6 a7=some true:=by
 unfold iQ;have e3:dq (Value.string a3)=a3:=rfl;obtain⟨b,eb,hb⟩:=I1 (t:=a0) hk;rw [eb,bs];cases b with
 |true=>rw [iT,bs,iT,hp,bs]
 |false=>
  obtain⟨b,ew,hw⟩:=IY (k:=k) (p:=a2) hk;rw [iF,ew,bs];cases b with
  |true=>rw [iT,bs,iT,hp,bs]
  |false=>
   obtain⟨g2,g3⟩:=hw rfl;have g1:=hb rfl;rw [iF];by_cases c:(20:Int) < (a1.2.length:Int)
   ·rw [if_pos c,bs,iT,hp,bs]
   rw [if_neg c,bX (show bW (.string a3)=true from rfl),bs,bs,e3];by_cases c2:(40:Int) < (a3.size:Int)
   ·rw [decide_eq_true c2,iT,hp,bs]
   obtain⟨r,er,h1,h2⟩:=Bj hk hk1 (x:=a1) (g1.small hk hk1) g2 g3 (by omega) (TN (a:=a7)) (by omega);rw [decide_eq_false c2,iF,show mH k a7=some (a7,0,1) from rfl,bs,er,bs,xG hk1 (by omega) h1 hk,mX,hp,bs]
end
end Go.Proofs.YtmeojbemjkmebaaGreatDoor
