import Derived.Test.YtddkbkkogpolaaaGreatVGB12
open Nat
open List hiding mem_of_getElem?
open Array hiding mem_of_getElem? mk
set_option linter.unusedVariables false
set_option linter.unusedSimpArgs false
namespace Go.Proofs.YtddkbkkogpolaaaGreat
open K Go Go.Proofs
theorem tH{F:Nat->List (List Int)}:∀(n i:Nat) (s:List (List Int)),qd (λ(s:List (List Int)) (j _:Nat)=>s++F j) i (List.range' i n) s=s++(List.range' i n).flatMap F
 |0,_,s=>by simp [qd]
 |n+1,i,s=>by rw [List.range'_succ,qd,tH n (i+1)];simp
theorem MA{C:Nat}(hC:C≤5):nk 1200 (C:Int)=some (I2 C (c9 C C [] 0)):=by
 have h9:=IO;rw [List.all_eq_true] at h9;have h9:=le_of_ble_eq_true (h9 C (List.mem_range.2 (by omega)));have hlen:∀j,((c9 C C [] 0).filter λb=>decide (b.length=j)).length≤256:=λj=>Nat.le_trans (List.length_filter_le _ _) h9;unfold nk
 have key:=lM (T:=List (List Int)×Int) (f:=fo 1200 (C:Int)) (List.range (C+1)) (λ(s:List (List Int)) j=>(s,j)) (λs j _=>s++(c9 C C [] 0).filter λb=>decide (b.length=j)) (λj s=>s.length≤256 * j) (λs=>some s)
  (λn s j hj hs=>by
   rw [length_range] at hj;have hck:ck ((j:Int)+1)=some ((j:Int)+1):=dE (by omega) (by omega);have hp:=CE (C:=C) (n:=j) (by omega) (by omega);have:=hlen j;refine⟨?_,by rw [length_append];omega⟩;rw [fo,if_pos (by show(j:Int)≤(C:Int);omega),hp,bs,dF (VF (by show s.length+_≤_;omega)),bs,hck,bs])
  (λn s _=>by rw [length_range,fo,if_neg (by show¬((C+1:Nat):Int)≤(C:Int);omega)]) (n:=1200) (s0:=[]) (by rw [length_range];omega) (Nat.le_refl 0)
 rw [show fo 1200 (C:Int) 1200 ([],0)=_ from key.1,bs,List.range_eq_range',tH,nil_append,I2,List.range_eq_range']
theorem K2{m:ae}{s:List Int}:xF m s=(mN m).any λb=>Bj m (λi=>decide ((i:Int)∈s)) λc=>decide (c∈b):=by
 unfold xF MQ;rw [Bool.eq_iff_iff,decide_eq_true_iff,List.any_eq_true];constructor
 .intro h;obtain⟨b,hb⟩:=List.exists_mem_of_length_pos h;exact⟨b,(List.mem_filter.1 hb).1,(List.mem_filter.1 hb).2⟩
 .rintro⟨b,hb,h⟩;exact List.length_pos_of_mem (List.mem_filter.2 ⟨hb,h⟩)
theorem OP{r3:ae×bW}{L:List (List Int)}{i:Nat}(v:Vd r3.1)(hi:i < L.length)(hl:(L[i]).length≤40):
 cX 1200 r3 L (mN r3.1) (i:Int) 1200 (false,0)=some (.ok (xF r3.1 L[i])):=by
 have c1:=v.c1
 have hB:=AV v
 have gen:∀(r j f:Nat) (s:Bool),(mN r3.1).length - j=r->j≤(mN r3.1).length->r < f->cX 1200 r3 L (mN r3.1) (i:Int) f (s,(j:Int))=some (.ok (s || ((mN r3.1).drop j).any λb=>Bj r3.1 (λn=>decide ((n:Int)∈L[i])) λc=>decide (c∈b))):=by
  intro r
  induction r with
  |zero=>
   intro j f s h1 h2 h3;obtain⟨f,rfl⟩:∃q,f=q+1:=⟨f - 1,by omega⟩;rw [cX,if_neg (by show¬(j:Int) < ((mN r3.1).length:Int);omega),bs,if_neg (by simp),List.drop_of_length_le (by omega)];simp
  |succ r ih=>
   intro j f s h1 h2 h3;obtain⟨f,rfl⟩:∃q,f=q+1:=⟨f - 1,by omega⟩;have hj:j < (mN r3.1).length:=by omega
   have hck:ck ((j:Int)+1)=some (((j+1:Nat):Int)):=dE (by omega) (by omega);rw [cX,if_pos (by show(j:Int) < ((mN r3.1).length:Int);omega),bs];cases s with
   |true=>rw [if_neg (by simp)];simp
   |false=>
    rw [if_pos (show(!false)=true from rfl)];show((aR (mN r3.1) (j:Int)).bind _)=_;rw [dZ hj,bs,dZ hi,bs,yh v (Et v (List.getElem_mem hj)) (by omega) hl,bs,if_neg (by simp),hck,bs,ih (j+1) f _ (by omega) (by omega) (by omega),Bool.false_or,drop_eq_getElem_cons hj,any_cons]
 have:=gen (mN r3.1).length 0 1200 false rfl (by omega) (by omega)
 rw [show cX 1200 r3 L (mN r3.1) (i:Int) 1200 (false,0)=_ from this,K2]
 simp
theorem EV(a0:List Int):jQ 1200 a0=some true:=by
 unfold jQ;obtain⟨r1,e1,rfl⟩:∃r1,mz 1200 a0=some r1/\r1=(a0,0,1):=⟨_,rfl,rfl⟩;rw [e1,bs];obtain⟨r3,e3,lo3,v,hg4,_,_⟩:=yl (k:=1200) (by omega) (l:=(a0,0,1)) (m:=0) (cs:=3) (ds:=4) ⟨Int.le_refl 0,Int.le_refl 0⟩ (by omega) (by omega) (by omega);have c1:=v.c1;rw [show gy 1200 ((a0,(0:Int),(1:Int)).1,(a0,(0:Int),(1:Int)).2.1,(a0,(0:Int),(1:Int)).2.2) 3 4=some r3 from e3,bs,Fp v.sm (by omega),bs,show(r3.1.2.2.2.2.2.length:Int)=(((mG r3.1).length:Nat):Int) from rfl,MA (by omega),bs,HI v (by omega),bs]
 have hL:∀x∈I2 (mG r3.1).length (c9 (mG r3.1).length (mG r3.1).length [] 0),x∈F4 r3.1:=λx hx=>by
  unfold I2 at hx;obtain⟨n,_,h⟩:=List.mem_flatMap.1 hx;exact(List.mem_filter.1 h).1
 have hfind:(I2 (mG r3.1).length (c9 (mG r3.1).length (mG r3.1).length [] 0)).find? (xF r3.1)=(List.range ((mG r3.1).length+1)).findSome? (Ku r3.1):=by
  unfold I2;rw [List.find?_flatMap];congr 1;funext j;exact OQ
 have hsome:∃x,(I2 (mG r3.1).length (c9 (mG r3.1).length (mG r3.1).length [] 0)).find? (xF r3.1)=some x:=by
  rw [<-Option.isSome_iff_exists,hfind,List.findSome?_isSome_iff];exact⟨(mG r3.1).length,List.mem_range.2 (by omega),yZ v⟩
 have hlen:(I2 (mG r3.1).length (c9 (mG r3.1).length (mG r3.1).length [] 0)).length≤1000:=by
  have:((List.range 5).all λC=>ble (I2 C (c9 C C [] 0)).length 1000)=true:=by decide+kernel
  rw [List.all_eq_true] at this;exact le_of_ble_eq_true (this _ (List.mem_range.2 (by omega)))
 have hw:TL r3.1=(((I2 (mG r3.1).length (c9 (mG r3.1).length (mG r3.1).length [] 0)).find? (xF r3.1)).getD [],0):=by
  unfold TL;rw [if_neg (λh=>h v.chk),hfind]
 rw [hw];generalize I2 (mG r3.1).length (c9 (mG r3.1).length (mG r3.1).length [] 0)=L at *
 have key:=nn (T:=Int) (f:=dx 1200 r3 ((L.find? (xF r3.1)).getD [],0) L (mN r3.1)) L (λ(_:Unit) j=>j) (λ_ _ x=>if xF r3.1 x=true then Except.error true else .ok ()) (λj _=>∀i (h:i < L.length),i < j->xF r3.1 L[i]=false) (λr=>some r)
  (λn s j hj hp=>by
   have hck:ck ((j:Int)+1)=some ((j:Int)+1):=dE (by omega) (by omega);have hb:=Em (Np (hL _ (List.getElem_mem hj)));have h2:=OP (r3:=r3) v hj (by omega);refine⟨?_,λ_ h i hi hij=>?_⟩
   .rw [dx,if_pos (by omega),h2,mM];cases e:xF r3.1 L[j] with
    |true=>
     have hf:L.find? (xF r3.1)=some L[j]:=by
      rw [List.find?_eq_some_iff_getElem];exact⟨e,j,hj,rfl,λi hi=>by simp [hp i (by omega) hi]⟩
     rw [if_pos rfl,if_pos rfl,dZ hj,bs,hf];show K.bE (Option.bind (Option.bind (eC 1200 L[j] L[j]) _) _) _ _=_;rw [zy (by omega) (by omega)];simp [bs,IS,nS]
    |false=>simp [mM,bs,hck]
   .rcases Nat.lt_succ_iff_lt_or_eq.1 hij with h' |h'
    .exact hp i hi h'
    .subst h';cases e:xF r3.1 L[i] with
     |true=>rw [e] at h;simp at h
     |false=>rfl)
  (λn s _=>by rw [dx,if_neg (Int.lt_irrefl _)]) (n:=1200) (s0:=()) (by omega) (λi _ h=>absurd h (not_lt_zero _))
 rw [show dx 1200 r3 ((L.find? (xF r3.1)).getD [],0) L (mN r3.1) 1200 0=_ from key,tI (g:=λ_=>true)];obtain⟨x,hx⟩:=hsome;rw [hx];simp [UJ,nS]
