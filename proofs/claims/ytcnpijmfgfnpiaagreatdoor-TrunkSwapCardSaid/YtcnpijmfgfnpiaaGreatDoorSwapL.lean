import Derived.Test.YtcnpijmfgfnpiaaGreatDoorVB12
set_option linter.unusedSimpArgs false
set_option linter.unusedVariables false
namespace Go.Proofs.YtcnpijmfgfnpiaaGreatDoor
open K Go Go.Proofs
def sw(a b x:Int):Int:=if x=a then b else if x=b then a else x
def kV(a b:Int)(q:List (List Int)):List (List Int):=q.map (List.map (sw a b))
theorem OX{a b x:Int}:sw a b (sw a b x)=x:=by
 unfold sw;by_cases h1:x=a
 ·rw [if_pos h1];by_cases h2:b=a
  ·rw [if_pos h2,h1,h2]
  ·rw [if_neg h2,if_pos rfl,h1]
 ·rw [if_neg h1];by_cases h2:x=b
  ·rw [if_pos h2,if_pos rfl,h2]
  ·rw [if_neg h2,if_neg h1,if_neg h2]
theorem xj{a b:Int}{q:List (List Int)}:kV a b (kV a b q)=q:=by
 unfold kV;rw [List.map_map];conv=>rhs;rw [←List.map_id q]
 refine List.map_congr_left fun l _=>?_;show List.map (sw a b) (List.map (sw a b) l)=l;rw [List.map_map];conv=>rhs;rw [←List.map_id l]
 exact List.map_congr_left fun x _=>OX
theorem xk{a b:Int}{q:List (List Int)}:(kV a b q).length=q.length:=by unfold kV;rw [List.length_map]
theorem ul{a b:Int}{q:List (List Int)}{m:Nat}(h:∀l∈q,l.length≤m):∀l∈kV a b q,l.length≤m:=fun l hl=>by
 obtain⟨r,hr,rfl⟩:=List.mem_map.1 hl
 rw [List.length_map];exact h r hr
theorem JZ{α:Type}{f:α→α}{l:List α}{j:Nat}(h:j < l.length):(((l.take j).map f)++l.drop j)[j]? =some l[j]:=by
 rw [List.getElem?_append_right (by simp;omega),List.length_map,List.length_take,Nat.min_eq_left (by omega),Nat.sub_self,List.drop_eq_getElem_cons h];rfl
theorem xJ{α:Type}{f:α→α}{l m:List α}{j:Nat}(h:j < l.length)(e:m=((l.take j).map f)++l.drop j)(hm:j < m.length):m[j]=l[j]:=by
 have h1:m[j]? =some l[j]:=by rw [e];exact JZ h
 rw [List.getElem?_eq_getElem hm] at h1;exact Option.some.inj h1
section
variable {k:Nat}
theorem FK{a b:Int}{l0:List Int}(hl:l0.length≤1000000):∀(d j n:Nat) (l:List Int),j+d=l0.length→d < n→l=(l0.take j).map (sw a b)++l0.drop j→eV (a,b) (l0.length:Int) n ((j:Int),l)=some (l0.map (sw a b)):=by
 intro d
 induction d with
 |zero=>
  intro j n l hj hn e;obtain⟨n,rfl⟩:∃n',n=n'+1:=⟨n - 1,by omega⟩;rw [eV];dsimp only;rw [if_neg (by omega),e,List.take_of_length_le (by omega),List.drop_of_length_le (by omega),List.append_nil]
 |succ d ih=>
  intro j n l hj hn e;obtain⟨n,rfl⟩:∃n',n=n'+1:=⟨n - 1,by omega⟩;have hj':j < l0.length:=by omega
  have hlen:l.length=l0.length:=by rw [e];simp;omega
  have hat:l[j]'(by omega)=l0[j]:=xJ hj' e _
  have hset:l.set j (sw a b l0[j])=(l0.take (j+1)).map (sw a b)++l0.drop (j+1):=by
   rw [e,List.set_append_right _ _ (by simp;omega),List.length_map,List.length_take,Nat.min_eq_left (by omega),Nat.sub_self,List.drop_eq_getElem_cons hj',List.set_cons_zero,List.take_add_one,List.getElem?_eq_getElem hj'];simp only [Option.toList_some,List.map_append,List.map_cons,List.map_nil,List.append_assoc,List.cons_append,List.nil_append]
  have hself:sw a b l0[j]=l0[j]→l=(l0.take (j+1)).map (sw a b)++l0.drop (j+1):=fun h=>by
   rw [←hset,h,←hat];exact(List.set_getElem_self _).symm
  rw [eV];dsimp only;rw [if_pos (Int.ofNat_lt.2 hj'),bG (show j < l.length by omega),bs,hat];by_cases c1:l0[j]=a
  ·rw [if_pos c1,bj (by omega) (by omega),bs,show(j:Int)+1=((j+1:Nat):Int) by omega];refine ih (j+1) n _ (by omega) (by omega) ?_;show l.set j b=_;rw [←hset];unfold sw;rw [if_pos c1]
  ·rw [if_neg c1];by_cases c2:l0[j]=b
   ·rw [if_pos c2,bj (by omega) (by omega),bs,show(j:Int)+1=((j+1:Nat):Int) by omega];refine ih (j+1) n _ (by omega) (by omega) ?_;show l.set j a=_;rw [←hset];unfold sw;rw [if_neg c1,if_pos c2]
   ·rw [if_neg c2,bj (by omega) (by omega),bs,show(j:Int)+1=((j+1:Nat):Int) by omega];exact ih (j+1) n _ (by omega) (by omega) (hself (by unfold sw;rw [if_neg c1,if_neg c2]))
theorem qY(hk1:k≤1000000){a b:Int}{q:List (List Int)}(hq:q.length < k)(hl:∀l∈q,l.length < k):kC k (a,b) q=some (kV a b q):=by
 unfold kC
 have key:∀(d j n:Nat) (y:List (List Int)),j+d=q.length→d < n→y=(q.take j).map (List.map (sw a b))++q.drop j→gC k (a,b) (q.length:Int) n ((j:Int),y)=some (kV a b q):=by
  intro d
  induction d with
  |zero=>
   intro j n y hj hn e;obtain⟨n,rfl⟩:∃n',n=n'+1:=⟨n - 1,by omega⟩;rw [gC];dsimp only;rw [if_neg (by omega),e,List.take_of_length_le (by omega),List.drop_of_length_le (by omega),List.append_nil];rfl
  |succ d ih=>
   intro j n y hj hn e;obtain⟨n,rfl⟩:∃n',n=n'+1:=⟨n - 1,by omega⟩;have hj':j < q.length:=by omega
   have hlen:y.length=q.length:=by rw [e];simp;omega
   have hat:y[j]'(by omega)=q[j]:=xJ hj' e _;have hlj:=hl _ (List.getElem_mem hj');rw [gC];dsimp only;rw [if_pos (Int.ofNat_lt.2 hj'),bG (show j < y.length by omega),bs,hat,show eV (a,b) (q[j].length:Int) k (0,q[j])=_ from FK (a:=a) (b:=b) (by omega) q[j].length 0 k q[j] (by omega) hlj (by simp),bs,bj (by omega) (by omega),bs,show(j:Int)+1=((j+1:Nat):Int) by omega];refine ih (j+1) n _ (by omega) (by omega) ?_;show y.set j _=_;rw [e,List.set_append_right _ _ (by simp;omega),List.length_map,List.length_take,Nat.min_eq_left (by omega),Nat.sub_self,List.drop_eq_getElem_cons hj',List.set_cons_zero,List.take_add_one,List.getElem?_eq_getElem hj'];simp only [Option.toList_some,List.map_append,List.map_cons,List.map_nil,List.append_assoc,List.cons_append,List.nil_append]
 exact key q.length 0 k q (by omega) (by omega) (by simp)
theorem J3{r3:a8×(List (List Int))×Bool×bB}{y12 y17:Int×Int×Int×Int}{i:Nat}{y25:Int×(List (List Int))}(hi:i < r3.2.1.length)(h25:y25.1=(i:Int))(hl:(r3.2.1[i]).length≤1000000):∀(d j n:Nat) (y:List (List Int)),j+d=(r3.2.1[i]).length→d < n→(hy:i < y.length)→y[i]=((r3.2.1[i]).take j).map (sw y12.2.2.2 y17.2.2.2)++(r3.2.1[i]).drop j→
 cS k r3 y12 y17 y25 n ((j:Int),y)=some (y.set i ((r3.2.1[i]).map (sw y12.2.2.2 y17.2.2.2))):=by
 intro d
 induction d with
 |zero=>
  intro j n y hj hn hy e;obtain⟨n,rfl⟩:∃n',n=n'+1:=⟨n - 1,by omega⟩;have hlen:y[i].length=(r3.2.1[i]).length:=by rw [e];simp;omega
  rw [cS];dsimp only;rw [h25,bG hy,bs,if_neg (by omega),e,List.take_of_length_le (by omega),List.drop_of_length_le (by omega),List.append_nil];rfl
 |succ d ih=>
  intro j n y hj hn hy e;obtain⟨n,rfl⟩:∃n',n=n'+1:=⟨n - 1,by omega⟩;have hj':j < (r3.2.1[i]).length:=by omega
  have hlen:y[i].length=(r3.2.1[i]).length:=by rw [e];simp;omega
  have hset:y[i].set j (sw y12.2.2.2 y17.2.2.2 (r3.2.1[i])[j])=((r3.2.1[i]).take (j+1)).map (sw y12.2.2.2 y17.2.2.2)++(r3.2.1[i]).drop (j+1):=by
   rw [e,List.set_append_right _ _ (by simp;omega),List.length_map,List.length_take,Nat.min_eq_left (by omega),Nat.sub_self,List.drop_eq_getElem_cons hj',List.set_cons_zero,List.take_add_one,List.getElem?_eq_getElem hj'];simp only [Option.toList_some,List.map_append,List.map_cons,List.map_nil,List.append_assoc,List.cons_append,List.nil_append]
  have hat:(y[i])[j]'(by omega)=(r3.2.1[i])[j]:=xJ hj' e _;have hys:y.set i y[i]=y:=List.set_getElem_self _
  have go:∀v:Int,v=sw y12.2.2.2 y17.2.2.2 (r3.2.1[i])[j]→(ck ((j:Int)+(1:Int))).bind (fun x42=>cS k r3 y12 y17 y25 n (x42,y.set i (y[i].set j v)))=some (y.set i ((r3.2.1[i]).map (sw y12.2.2.2 y17.2.2.2))):=fun v hv=>by
   rw [bj (by omega) (by omega),bs,show(j:Int)+1=((j+1:Nat):Int) by omega];have:=ih (j+1) n (y.set i (y[i].set j v)) (by omega) (by omega) (by rw [List.length_set];exact hy) (by rw [List.getElem_set_self,hv,hset]);rw [List.set_set] at this;exact this
  rw [cS];dsimp only;rw [h25,bG hy,bs,if_pos (by omega),bG hi,bs,bG hj',bs,show Int.toNat (i:Int)=i from rfl,hys,show Int.toNat (j:Int)=j from rfl];by_cases c1:(r3.2.1[i])[j]=y12.2.2.2
  ·rw [if_pos c1,bG hy,bs,bG (show j < y[i].length by omega),bs,bs];exact go _ (by unfold sw;rw [if_pos c1])
  ·rw [if_neg c1,bs,bG hj',bs];by_cases c2:(r3.2.1[i])[j]=y17.2.2.2
   ·rw [if_pos c2,bG hy,bs,bG (show j < y[i].length by omega),bs,bs];exact go _ (by unfold sw;rw [if_neg c1,if_pos c2])
   ·rw [if_neg c2,bs];have:=go (r3.2.1[i])[j] (by unfold sw;rw [if_neg c1,if_neg c2]);rw [←hat,List.set_getElem_self,hys] at this;exact this
theorem Hm{r3:a8×(List (List Int))×Bool×bB}{y12 y17:Int×Int×Int×Int}(hk1:k≤1000000)(hq:r3.2.1.length < k)(hl:∀l∈r3.2.1,l.length < k):dt k r3 y12 y17 k (0,r3.2.1)=some (kV y12.2.2.2 y17.2.2.2 r3.2.1):=by
 have key:∀(d j n:Nat) (y:List (List Int)),j+d=r3.2.1.length→d < n→y=(r3.2.1.take j).map (List.map (sw y12.2.2.2 y17.2.2.2))++r3.2.1.drop j→dt k r3 y12 y17 n ((j:Int),y)=some (kV y12.2.2.2 y17.2.2.2 r3.2.1):=by
  intro d
  induction d with
  |zero=>
   intro j n y hj hn e;obtain⟨n,rfl⟩:∃n',n=n'+1:=⟨n - 1,by omega⟩;have hlen:y.length=r3.2.1.length:=by rw [e];simp;omega
   rw [dt];dsimp only;rw [if_neg (by omega),e,List.take_of_length_le (by omega),List.drop_of_length_le (by omega),List.append_nil];rfl
  |succ d ih=>
   intro j n y hj hn e;obtain⟨n,rfl⟩:∃n',n=n'+1:=⟨n - 1,by omega⟩;have hj':j < r3.2.1.length:=by omega
   have hlen:y.length=r3.2.1.length:=by rw [e];simp;omega
   have hat:y[j]'(by omega)=r3.2.1[j]:=xJ hj' e _;have hlj:=hl _ (List.getElem_mem hj');rw [dt];dsimp only;have hrow:=J3 (k:=k) (r3:=r3) (y12:=y12) (y17:=y17) (y25:=((j:Int),y)) hj' rfl (by omega) (r3.2.1[j]).length 0 k y (by omega) hlj (by omega) (by rw [hat];simp);rw [if_pos (by omega),show cS k r3 y12 y17 ((j:Int),y) k (0,y)=_ from hrow,bs,bj (by omega) (by omega),bs,show(j:Int)+1=((j+1:Nat):Int) by omega];refine ih (j+1) n _ (by omega) (by omega) ?_;rw [e,List.set_append_right _ _ (by simp;omega),List.length_map,List.length_take,Nat.min_eq_left (by omega),Nat.sub_self,List.drop_eq_getElem_cons hj',List.set_cons_zero,List.take_add_one,List.getElem?_eq_getElem hj'];simp only [Option.toList_some,List.map_append,List.map_cons,List.map_nil,List.append_assoc,List.cons_append,List.nil_append]
 exact key r3.2.1.length 0 k r3.2.1 (by omega) (by omega) (by simp)
theorem DJ(hk:50≤k){t:bf}(g:nv t)(hk1:k≤1000000){a b:Int}{q:List (List Int)}(hq:q.length < k)(hl:∀l∈q,l.length≤8):i8 k t (a,b) q=some (decide (chkV t (kV a b q)=0),q):=by
 have hl':∀l∈q,l.length < k:=fun l h=>by have:=hl l h;omega
 have hs:∀l∈kV a b q,l.length < k:=fun l h=>by have:=ul hl l h;omega
 unfold i8;rw [qY hk1 hq hl',bs,vU g hk1 (by omega) hs,bs];by_cases c:chkV t (kV a b q)=0
 ·rw [c];rw [show EH (Rk 0)=true from rfl,iT,qY hk1 (by rw [xk];exact hq) hs,bs,xj];rfl
 ·rw [A4 c,show EH (qn (chkV t (kV a b q)))=true from rfl,iT,qY hk1 (by rw [xk];exact hq) hs,bs,xj,decide_eq_false c];rfl
theorem Ez{t:bf}(h:yu k t)(hs:i7 k t)(ht:jX t=0){a b:Int}{q:List (List Int)}(hq:q.length < k)(hl:∀l∈q,l.length≤8)(hc:chkV t (kV a b q)=0):fZ k t (a,b) q=some ((dT t (kV a b q):Int),q):=by
 have hk:=h.k0;have hl':∀l∈q,l.length < k:=fun l h=>by have:=hl l h;omega
 have hsw:∀l∈kV a b q,l.length < k:=fun l h=>by have:=ul hl l h;omega
 have gq:iJ t (kV a b q):=rP (by unfold iQ;rw [if_neg (not_not_intro ht)];exact hc);unfold fZ;rw [qY h.k1 hq hl',bs,jA hk,bs,Hj h hs ht gq,bs,qY h.k1 (by rw [xk];exact hq) hsw,bs,xj]
def uJ(n a:Nat):List (Int×Int):=(List.range' (a+1) (n - (a+1))).map fun(b:Nat)=>((a:Int),(b:Int))
def yy(t:bf)(q:List (List Int))(x:Int×Int):Bool:=decide (chkV t (kV x.1 x.2 q)=0)
def Ff(t:bf)(q:List (List Int))(s:Nat×Int×Int)(x:Int×Int):Nat×Int×Int:=if yy t q x=true∧dT t (kV x.1 x.2 q) < s.1 then(dT t (kV x.1 x.2 q),x.1,x.2) else s
theorem AM(hk:50≤k){t:bf}(g:nv t)(hk1:k≤1000000){q:List (List Int)}(hq:q.length < k)(hl:∀l∈q,l.length≤8){a:Nat}:∀(d j n:Nat) (acc:List (Int×Int)),j+d=t.2.1.length→d < n→acc.length+d≤1000→
 gJ k t (a:Int) n ((j:Int),acc,q)=some (acc++((List.range' j d).map fun(b:Nat)=>((a:Int),(b:Int))).filter (yy t q),q):=by
 have h5:=g.things
 intro d
 induction d with
 |zero=>
  intro j n acc hj hn _;obtain⟨n,rfl⟩:∃n',n=n'+1:=⟨n - 1,by omega⟩;rw [gJ];dsimp only;rw [if_neg (by omega)];simp
 |succ d ih=>
  intro j n acc hj hn hB;obtain⟨n,rfl⟩:∃n',n=n'+1:=⟨n - 1,by omega⟩;rw [gJ];dsimp only;rw [if_pos (by omega),DJ hk g hk1 hq hl,bs,List.range'_succ,List.map_cons];by_cases c:chkV t (kV (a:Int) (j:Int) q)=0
  ·rw [decide_eq_true c,iT,if_pos (show bT _ by show _≤4294967296;omega),bj (by omega) (by omega),bs,show(j:Int)+1=((j+1:Nat):Int) by omega,ih (j+1) n _ (by omega) (by omega) (by simp only [List.length_append,List.length_cons,List.length_nil];omega),List.filter_cons_of_pos (by exact decide_eq_true c)];simp
  ·rw [decide_eq_false c,iF,bj (by omega) (by omega),bs,show(j:Int)+1=((j+1:Nat):Int) by omega,ih (j+1) n _ (by omega) (by omega) (by omega),List.filter_cons_of_neg (by unfold yy;simpa using c)]
theorem AL(hk:50≤k){t:bf}(g:nv t)(hk1:k≤1000000){q:List (List Int)}(hq:q.length < k)(hl:∀l∈q,l.length≤8):∀(d j n:Nat) (acc:List (Int×Int)),j+d=t.2.1.length→d < n→acc.length+10 * d≤900→
 eW k t n ((j:Int),acc,q)=some (acc++((List.range' j d).flatMap fun a=>uJ t.2.1.length a).filter (yy t q),q):=by
 have h5:=g.things
 intro d
 induction d with
 |zero=>
  intro j n acc hj hn _;obtain⟨n,rfl⟩:∃n',n=n'+1:=⟨n - 1,by omega⟩;rw [eW];dsimp only;rw [if_neg (by omega)];simp
 |succ d ih=>
  intro j n acc hj hn hB;obtain⟨n,rfl⟩:∃n',n=n'+1:=⟨n - 1,by omega⟩;have e1:(j:Int)+1=((j+1:Nat):Int):=by omega
  rw [eW];dsimp only;rw [if_pos (by omega),bj (by omega) (by omega),bs,e1,AM hk g hk1 hq hl (t.2.1.length - (j+1)) (j+1) k acc (by omega) (by omega) (by omega),bs]
  have hlen:(((List.range' (j+1) (t.2.1.length - (j+1))).map fun(b:Nat)=>((j:Int),(b:Int))).filter (yy t q)).length≤5:=by
   refine Nat.le_trans (List.length_filter_le _ _) ?_;simp;omega
  rw [ih (j+1) n _ (by omega) (by omega) (by rw [List.length_append];omega),List.range'_succ,List.flatMap_cons,List.filter_append,List.append_assoc];rfl
theorem IB{l:List Int}(h:l.length≤1000000):hQ k l=some l:=by
 unfold hQ;rw [dc (show bT (List.length l) by show _≤4294967296;omega),bs]
theorem DZ(hk1:k≤1000000){q:List (List Int)}(hq:q.length < k)(hl:∀l∈q,l.length≤8):gK k q k (0,[])=some q:=by
 have key:∀(d j n:Nat),j+d=q.length→d < n→gK k q n ((j:Int),q.take j)=some q:=by
  intro d
  induction d with
  |zero=>
   intro j n hj hn;obtain⟨n,rfl⟩:∃n',n=n'+1:=⟨n - 1,by omega⟩;rw [gK];dsimp only;rw [if_neg (by omega),List.take_of_length_le (by omega)]
  |succ d ih=>
   intro j n hj hn;obtain⟨n,rfl⟩:∃n',n=n'+1:=⟨n - 1,by omega⟩;have hj':j < q.length:=by omega
   have h8:=hl _ (List.getElem_mem hj');rw [gK];dsimp only;rw [if_pos (by omega),bG hj',bs,IB (by omega),bs,if_pos (show bT _ by show _≤4294967296;rw [List.length_take];omega),bj (by omega) (by omega),bs,show(j:Int)+1=((j+1:Nat):Int) by omega];have:=ih (j+1) n (by omega) (by omega);rw [List.take_add_one,List.getElem?_eq_getElem hj'] at this;exact this
 have:=key q.length 0 k (by omega) hq;exact this
theorem J2{t:bf}(h:yu k t)(hs:i7 k t)(ht:jX t=0){q:List (List Int)}(hq:q.length < k)(hl:∀l∈q,l.length≤8){xs:List (Int×Int)}(hx:∀x∈xs,yy t q x=true)(hlen:xs.length < k):
 jt k t xs q=some (match xs.foldl (j0 fun x=>dT t (kV x.1 x.2 q)) none with |none=>(((0:Int),(0:Int)),0,false,q) |some (x,n)=>(x,(n:Int),true,q)):=by
 have hk1:=h.k1
 unfold jt
 have key:∀(d j n:Nat) (b:Option ((Int×Int)×Nat)),j+d=xs.length→d < n→
  c9 k t xs n (match b with |none=>((j:Int),((0:Int),(0:Int)),(0:Int),false,q) |some (x,m)=>((j:Int),x,(m:Int),true,q))=
  some (match (xs.drop j).foldl (j0 fun x=>dT t (kV x.1 x.2 q)) b with |none=>(((0:Int),(0:Int)),0,false,q) |some (x,n)=>(x,(n:Int),true,q)):=by
  intro d
  induction d with
  |zero=>
   intro j n b hj hn;obtain⟨n,rfl⟩:∃n',n=n'+1:=⟨n - 1,by omega⟩;rw [List.drop_of_length_le (by omega)];cases b with
   |none=>rw [c9];dsimp only;rw [if_neg (by omega)];rfl
   |some b=>obtain⟨x,m⟩:=b;rw [c9];dsimp only;rw [if_neg (by omega)];rfl
  |succ d ih=>
   intro j n b hj hn;obtain⟨n,rfl⟩:∃n',n=n'+1:=⟨n - 1,by omega⟩;have hj':j < xs.length:=by omega
   have hok:=of_decide_eq_true (hx _ (List.getElem_mem hj'));have hlt:=Ez h hs ht (a:=xs[j].1) (b:=xs[j].2) hq hl hok;have:=ih (j+1) n (j0 (fun x=>dT t (kV x.1 x.2 q)) b xs[j]) (by omega) (by omega);rw [List.drop_eq_getElem_cons hj',List.foldl_cons,←this];cases b with
   |none=>
    rw [c9];dsimp only;rw [if_pos (by omega),bG hj',bs,show fZ k t xs[j] q=_ from hlt,bs,bj (by omega) (by omega),bs];rfl
   |some b=>
    obtain⟨x,m⟩:=b;rw [c9];dsimp only;rw [if_pos (by omega),bG hj',bs,show fZ k t xs[j] q=_ from hlt,bs,bj (by omega) (by omega),bs];unfold j0;dsimp only;by_cases c:dT t (kV xs[j].1 xs[j].2 q) < m
    ·rw [if_pos (show(!true || decide ((dT t (kV xs[j].1 xs[j].2 q):Int) < (m:Int)))=true by simp;omega),if_pos c];rfl
    ·rw [if_neg (show¬(!true || decide ((dT t (kV xs[j].1 xs[j].2 q):Int) < (m:Int)))=true by simp;omega),if_neg c];rfl
 have:=key xs.length 0 k none (by omega) hlen
 rw [List.drop_zero] at this
 exact this
theorem xl{t:bf}{q:List (List Int)}{s:Nat×Int×Int}{x:Int×Int}(h:yy t q x=true∧dT t (kV x.1 x.2 q) < s.1):Ff t q s x=(dT t (kV x.1 x.2 q),x.1,x.2):=if_pos h
theorem rh{t:bf}{q:List (List Int)}{s:Nat×Int×Int}{x:Int×Int}(h:¬(yy t q x=true∧dT t (kV x.1 x.2 q) < s.1)):Ff t q s x=s:=if_neg h
theorem uo{t:bf}{q:List (List Int)}{B:Nat}:∀(l:List (Int×Int)) (b:Option ((Int×Int)×Nat)),
 l.foldl (Ff t q) (match b with |none=>(B,0,0) |some (x,n)=>if n < B then(n,x.1,x.2) else(B,0,0))=
 match (l.filter (yy t q)).foldl (j0 fun x=>dT t (kV x.1 x.2 q)) b with |none=>(B,0,0) |some (x,n)=>if n < B then(n,x.1,x.2) else(B,0,0)
 |[],b=>rfl
 |x::l,b=>by
  rw [List.foldl_cons]
  cases c:yy t q x with
  |false=>
   rw [List.filter_cons_of_neg (by simp [c]),←uo l b]
   congr 1
   exact rh (fun h=>by rw [c] at h;cases h.1)
  |true=>
   rw [List.filter_cons_of_pos c,List.foldl_cons,←uo l (j0 _ b x)]
   congr 1
   cases b with
   |none=>
    show Ff t q (B,0,0) x=if dT t (kV x.1 x.2 q) < B then(dT t (kV x.1 x.2 q),x.1,x.2) else(B,0,0)
    by_cases h:dT t (kV x.1 x.2 q) < B
    ·
     rw [xl ⟨c,h⟩,if_pos h]
    ·
     rw [rh (fun h'=>h h'.2),if_neg h]
   |some b=>
    obtain⟨y,n⟩:=b
    by_cases h:dT t (kV x.1 x.2 q) < n
    ·
     by_cases h2:n < B
     ·
      simp only [j0,h,h2,if_true]
      rw [xl ⟨c,h⟩,if_pos (by omega)]
     ·
      simp only [j0,h,h2,if_true,if_false]
      by_cases h3:dT t (kV x.1 x.2 q) < B
      ·
       rw [xl ⟨c,h3⟩,if_pos h3]
      ·
       rw [rh (fun h'=>h3 h'.2),if_neg h3]
    ·
     by_cases h2:n < B
     ·
      simp only [j0,h,h2,if_true,if_false]
      exact rh (fun h'=>h h'.2)
     ·
      simp only [j0,h,h2,if_false]
      exact rh (fun h'=>by have:=h'.2;simp only at this;omega)
theorem ED{r3:a8×(List (List Int))×Bool×bB}(h:At k r3.1 r3.2.1){a:Nat}{y12:Int×Int×Int×Int}(h12:y12.2.2.2=(a:Int)):∀(d j n:Nat) (s:Nat×Int×Int),j+d=r3.1.2.1.length→d < n→
 du k r3 y12 n ((s.1:Int),s.2.1,s.2.2,(j:Int))=some (.ok ((fun z:Nat×Int×Int=>((z.1:Int),z.2.1,z.2.2)) (((List.range' j d).map fun(b:Nat)=>((a:Int),(b:Int))).foldl (Ff r3.1 r3.2.1) s))):=by
 have hk:=h.dayT.k0
 have hk1:=h.dayT.k1
 have f:=h.good.fit
 have h3:=f.len
 have hl8:∀l∈r3.2.1,l.length≤8:=fun l hl=>by have:=(f.fit l hl).1;omega
 have ht:=rW h.chk
 intro d
 induction d with
 |zero=>
  intro j n s hj hn;obtain⟨n,rfl⟩:∃n',n=n'+1:=⟨n - 1,by omega⟩;rw [du];dsimp only;rw [if_neg (by omega)];rfl
 |succ d ih=>
  intro j n s hj hn;obtain⟨n,rfl⟩:∃n',n=n'+1:=⟨n - 1,by omega⟩;have h5:=h.good.g.things
  have hcp:dD k r3.2.1=some r3.2.1:=by
   unfold dD
   have hb:=W.loop (f:=cC k r3.2.1) (Q:=fun o=>o=r3.2.1) (fun m y=>∃j:Nat,y.2=(j:Int)∧j≤r3.2.1.length∧m=r3.2.1.length - j∧y.1=r3.2.1.take j) (by
    rintro aR m ⟨o,y⟩ ⟨j,hj,hle,hm,ho⟩ ih;simp only at hj ho;subst hj ho;unfold cC;dsimp only;refine W.ite (fun hlt=>?_) (fun hge=>W.ret ?_)
    ·have hj:j < r3.2.1.length:=by omega
     have hf:=hl8 _ (List.getElem_mem hj)
     have hc:g7 k r3.2.1[j]=some r3.2.1[j]:=by
      unfold g7;rw [dc (LE (by simp only [List.length_nil];omega)),bs];rfl
     rw [bG hj,bs,hc,bs,dc (LE (by simp only [List.length_take,List.length_cons,List.length_nil];omega)),bs,bj (by omega) (by omega),bs];refine ih (m - 1) (_,(j:Int)+1) (by omega) ⟨j+1,by show(j:Int)+1=((j+1:Nat):Int);omega,by omega,by omega,?_⟩;rw [List.take_add_one,List.getElem?_eq_getElem hj];rfl
    ·rw [List.take_of_length_le (by omega)]) r3.2.1.length k ([],0) (by omega) ⟨0,rfl,by omega,by omega,by simp⟩
   obtain⟨o,eo,rfl⟩:=hb;rw [eo,bs]
  have hrows:=Hm (k:=k) (r3:=r3) (y12:=y12) (y17:=((s.1:Int),s.2.1,s.2.2,(j:Int))) hk1 (by omega) (fun l hl=>by have:=hl8 l hl;omega);have hchk:bD k r3.1 (kV (a:Int) (j:Int) r3.2.1)=some (iQ r3.1 (kV (a:Int) (j:Int) r3.2.1)):=nR h.small (by omega) (fun l hl=>by have:=ul hl8 l hl;omega);have hcv:iQ r3.1 (kV (a:Int) (j:Int) r3.2.1)=chkV r3.1 (kV (a:Int) (j:Int) r3.2.1):=by unfold iQ;rw [if_neg (not_not_intro ht)]
  have e1:(j:Int)+1=((j+1:Nat):Int):=by omega
  rw [du];dsimp only;rw [if_pos (by omega),hcp,bs,hrows,bs];dsimp only;rw [h12,hchk,bs,List.range'_succ,List.map_cons,List.foldl_cons]
  have next:∀s':Nat×Int×Int,s'=Ff r3.1 r3.2.1 s ((a:Int),(j:Int))→(ck ((j:Int)+1)).bind (fun x46=>du k r3 y12 n ((s'.1:Int),s'.2.1,s'.2.2,x46))=some (.ok ((fun z:Nat×Int×Int=>((z.1:Int),z.2.1,z.2.2)) (((List.range' (j+1) d).map fun(b:Nat)=>((a:Int),(b:Int))).foldl (Ff r3.1 r3.2.1) (Ff r3.1 r3.2.1 s ((a:Int),(j:Int)))))):=fun s' hs'=>by
   rw [bj (by omega) (by omega),bs,e1,←hs'];exact ih (j+1) n s' (by omega) (by omega)
  by_cases c:iQ r3.1 (kV (a:Int) (j:Int) r3.2.1)=0
  ·have hok:yy r3.1 r3.2.1 ((a:Int),(j:Int))=true:=decide_eq_true (by rw [←hcv];exact c);have hA:At k r3.1 (kV (a:Int) (j:Int) r3.2.1):=⟨h.small,h.dayT,c⟩;rw [if_neg (not_not_intro c),Aq hA,bs];dsimp only;rw [if_neg (not_not_intro rfl)];have hln:iW r3.1 r3.1.1.toNat 0 (kV (a:Int) (j:Int) r3.2.1)=dT r3.1 (kV (a:Int) (j:Int) r3.2.1):=rfl;rw [hln];by_cases c2:dT r3.1 (kV (a:Int) (j:Int) r3.2.1) < s.1
   ·rw [if_pos (Int.ofNat_lt.2 c2),k7];exact next (dT r3.1 (kV (a:Int) (j:Int) r3.2.1),(a:Int),(j:Int)) (by unfold Ff;rw [if_pos ⟨hok,c2⟩])
   ·rw [if_neg (fun h=>c2 (Int.ofNat_lt.1 h)),k7];exact next s (by unfold Ff;rw [if_neg (fun h=>c2 h.2)])
  ·rw [if_pos c,k7];exact next s (by unfold Ff yy;rw [if_neg (fun h=>c (by rw [hcv];exact of_decide_eq_true h.1))])
theorem EC{r3:a8×(List (List Int))×Bool×bB}(h:At k r3.1 r3.2.1):∀(d j n:Nat) (s:Nat×Int×Int),j+d=r3.1.2.1.length→d < n→
 dw k r3 n ((s.1:Int),s.2.1,s.2.2,(j:Int))=some (.ok ((fun z:Nat×Int×Int=>((z.1:Int),z.2.1,z.2.2)) (((List.range' j d).flatMap fun a=>uJ r3.1.2.1.length a).foldl (Ff r3.1 r3.2.1) s))):=by
 have hk:=h.dayT.k0
 have h5:=h.good.g.things
 intro d
 induction d with
 |zero=>
  intro j n s hj hn;obtain⟨n,rfl⟩:∃n',n=n'+1:=⟨n - 1,by omega⟩;rw [dw];dsimp only;rw [if_neg (by omega)];rfl
 |succ d ih=>
  intro j n s hj hn;obtain⟨n,rfl⟩:∃n',n=n'+1:=⟨n - 1,by omega⟩;have e1:(j:Int)+1=((j+1:Nat):Int):=by omega
  rw [dw];dsimp only;rw [if_pos (by omega),bj (by omega) (by omega),bs,e1,ED h (a:=j) (y12:=((s.1:Int),s.2.1,s.2.2,(j:Int))) rfl (r3.1.2.1.length - (j+1)) (j+1) k s (by omega) (by omega),k7,bs,List.range'_succ,List.flatMap_cons,List.foldl_append];dsimp only;exact ih (j+1) n _ (by omega) (by omega)
theorem uh(hk:50≤k)(hk1:k≤1000000)(hp:fp k=some true)(a0:List Int):kz k a0=some true:=by
 unfold kz;rw [show jD k a0=some (a0,0,1) from rfl,bs];obtain⟨r3,e3,hg,his,_⟩:=Ci hk hk1 (l:=(a0,0,1)) (m:=0) ⟨by simp,by simp⟩ (by decide) (a:=5) (by decide);rw [show kK k (a0,0,1) 5=some r3 from e3,bs,his];by_cases c:iQ r3.1 r3.2.1=0
 ·rw [decide_eq_true c,nT];have h:At k r3.1 r3.2.1:=hg.at hk hk1 (by decide) c;have g:=h.good.g;have h5:=g.things;have f:=h.good.fit;have h3:=f.len;have ht:=rW h.chk;have hl8:∀l∈r3.2.1,l.length≤8:=fun l hl=>by have:=(f.fit l hl).1;omega
  have hL:iM k r3.1 r3.2.1=some ((dT r3.1 r3.2.1:Int),0):=Aq h
  have hpl:(((List.range' 0 r3.1.2.1.length).flatMap fun a=>uJ r3.1.2.1.length a).filter (yy r3.1 r3.2.1)).length < k:=by
   refine Nat.lt_of_le_of_lt (List.length_filter_le _ _) ?_;have:∀n,n≤5→((List.range' 0 n).flatMap fun a=>uJ n a).length≤10:=by decide
   have:=this _ h5;omega
  have hlaw:=EC h r3.1.2.1.length 0 k (dT r3.1 r3.2.1,0,0) (by omega) (by omega)
  have hS:mW k r3.1 r3.2.1=some (match (((List.range' 0 r3.1.2.1.length).flatMap fun a=>uJ r3.1.2.1.length a).filter (yy r3.1 r3.2.1)).foldl (j0 fun x=>dT r3.1 (kV x.1 x.2 r3.2.1)) none with |none=>(0,0,0,11) |some (x,n)=>if n < dT r3.1 r3.2.1 then(x.1,x.2,(n:Int),0) else(0,0,0,11)):=by
   unfold mW;rw [hL,bs,if_neg (not_not_intro rfl),DZ hk1 (by omega) hl8,bs];have ho:=AL hk g hk1 (q:=r3.2.1) (by omega) hl8 r3.1.2.1.length 0 k [] (by omega) (by omega) (by simp only [List.length_nil];omega);rw [List.nil_append] at ho;rw [show eW k r3.1 k (0,[],r3.2.1)=_ from ho,bs,J2 h.dayT h.small ht (by omega) hl8 (fun x hx=>(List.mem_filter.1 hx).2) hpl,bs];cases(((List.range' 0 r3.1.2.1.length).flatMap fun a=>uJ r3.1.2.1.length a).filter (yy r3.1 r3.2.1)).foldl (j0 fun x=>dT r3.1 (kV x.1 x.2 r3.2.1)) none with
   |none=>rfl
   |some b=>
    obtain⟨x,n⟩:=b;dsimp only;by_cases c2:n < dT r3.1 r3.2.1
    ·rw [if_neg (show¬(!true || decide ((dT r3.1 r3.2.1:Int)≤(n:Int)))=true by simp;omega),if_pos c2]
    ·rw [if_pos (show(!true || decide ((dT r3.1 r3.2.1:Int)≤(n:Int)))=true by simp;omega),if_neg c2]
  have hbest:=uo (t:=r3.1) (q:=r3.2.1) (B:=dT r3.1 r3.2.1) ((List.range' 0 r3.1.2.1.length).flatMap fun a=>uJ r3.1.2.1.length a) none;dsimp only at hbest;rw [hL,bs];dsimp only;rw [if_neg (not_not_intro rfl),show dw k r3 k ((dT r3.1 r3.2.1:Int),0,0,0)=_ from hlaw,k7,hS,bs,hbest]
  have hmem:∀x n,(((List.range' 0 r3.1.2.1.length).flatMap fun a=>uJ r3.1.2.1.length a).filter (yy r3.1 r3.2.1)).foldl (j0 fun x=>dT r3.1 (kV x.1 x.2 r3.2.1)) none=some (x,n)→x.2≠0:=fun x n e=>by
   have hb:=KW (f:=fun x:Int×Int=>dT r3.1 (kV x.1 x.2 r3.2.1)) (((List.range' 0 r3.1.2.1.length).flatMap fun a=>uJ r3.1.2.1.length a).filter (yy r3.1 r3.2.1));rw [e] at hb;obtain⟨_,_,p,s,h4,_⟩:=hb;have hx:x∈((List.range' 0 r3.1.2.1.length).flatMap fun a=>uJ r3.1.2.1.length a):=(List.mem_filter.1 (show x∈_ by rw [h4];simp)).1;obtain⟨a,_,hx⟩:=List.mem_flatMap.1 hx;obtain⟨b,hb,rfl⟩:=List.mem_map.1 hx;have:=List.mem_range'_1.1 hb;simp only;omega
  cases e:(((List.range' 0 r3.1.2.1.length).flatMap fun a=>uJ r3.1.2.1.length a).filter (yy r3.1 r3.2.1)).foldl (j0 fun x=>dT r3.1 (kV x.1 x.2 r3.2.1)) none with
  |none=>
   dsimp only;simp only [if_true,hp,bs]
  |some b=>
   obtain⟨x,n⟩:=b;have hx0:=hmem x n e;dsimp only;by_cases c2:n < dT r3.1 r3.2.1
   ·simp only [c2,if_true];rw [if_neg hx0,hp,bs,bs]
   ·simp only [c2,if_false,if_true,hp,bs]
 ·rw [decide_eq_false c,nF,hg.checkP hk hk1 (by decide),bs,if_pos c,hp,bs,bs]
end
end Go.Proofs.YtcnpijmfgfnpiaaGreatDoor
