/- The calculus, part 15: short forms for regions with a tail; what frozen and lent values become. -/
import Derived.Test.YtopgphikdglphaaB3
import Derived.ScopeJumps
import Derived.RangeFuncRecord
import Derived.DeepKeys5
import Derived.Conc.Holds
import Derived.ChangeSame
import Derived.ChangeSlices
import Derived.JoinedOf
import Derived.JoinedAt
import Derived.RowKit3
import Derived.SizedLaws
namespace Go.Proofs.Ytopgphikdglphaa
namespace K
open Go

section
variable {c : Cx} {full : List Oper} {Q : Exit → Act → VW → Prop} {Γ0 Γ Γt : Ga} {Δ Δr Δt F : List D} {acc : List DE} {l : List Oper} {id : Nat} {must : List Bool} {T : List Nat} {vs : List Value} {k : Nat}
variable {o : Oper} {N : List (Operand × A)} {X : Type} {r r' : A} {d j s : Nat} {e e' : D} {g b : Bool} {oj : Oper} {P : Program} {M : Md P}

/-- What an entry of such a region is like: what makes something is known by nothing but its value; what neither makes nor turns anything leaves nothing. -/
def WF1 (e : DE) : Prop := (e.b = true → e.r = .any) ∧ ((e.b = false ∧ ∀ k, eats e k = false) → ∀ v, e.E v = [])
def WF (acc : List DE) : Prop := ∀ e ∈ acc, WF1 e
theorem WF.snoc {x : DE} (h : WF acc) (hx : WF1 x) : WF (acc ++ [x]) := fun e he => by
 rcases List.mem_append.1 he with he | he
 ·
  exact h e he
 ·
  simp at he; subst he; exact hx

def DW (c : Cx) (id : Nat) (full : List Oper) (Q : Exit → Act → VW → Prop) (Γ0 : Ga) (Δ : List D) (acc : List DE) (l : List Oper) (Γ : Ga) : Prop := WF acc.reverse → DR c id full Q Γ0 Δ acc.reverse l Γ

theorem JC.drawW (h : DW c id full Q Γ Δ [] full Γ) : JC c (.region id full.toArray true) Q Γ Δ := JC.draw (h fun e he => by simp at he)
/-- What may come up behind the tail's first operation only reads, and only these resources. -/
def chkF (kr : List Nat) : List DE → List Bool → Bool
 | [], _ => true
 | e :: es, ms => (ms.headD false || (!e.b && match e.u with | none => true | some (k, x) => !x && kr.contains k)) && chkF kr es ms.tail

theorem mem_pickD : ∀ {ks : List Nat} {Δ' : List D} {k : Nat}, pickD Δ ks = some Δ' → k ∈ ks → ∃ d, Δ[k]? = some d ∧ d ∈ Δ'
 | [], _, _, _, h => by simp at h
 | k0 :: ks, _, k, h, hk => by
  simp only [pickD] at h
  split at h
  ·
   rename_i d l h1 h2
   cases h
   rcases List.mem_cons.1 hk with rfl | hk
   ·
    exact ⟨d, h1, List.mem_cons_self ..⟩
   ·
    obtain ⟨d', h3, h4⟩ := mem_pickD h2 hk
    exact ⟨d', h3, List.mem_cons_of_mem _ h4⟩
  ·
   cases h

theorem Fl.of {kr : List Nat} (hk : pickD Δ kr = some Δr) : ∀ {es : List DE} {ms : List Bool}, (∀ e ∈ es, WF1 e) → chkF kr es ms = true → Fl Δ Δr es ms
 | [], _, _, _ => trivial
 | e :: es, ms, hw, h => by
  simp only [chkF, Bool.and_eq_true, Bool.or_eq_true, Bool.not_eq_true'] at h
  refine ⟨?_, Fl.of hk (fun e he => hw e (List.mem_cons_of_mem _ he)) h.2⟩
  have hwe := hw e (List.mem_cons_self ..)
  rcases h.1 with h1 | ⟨h1, h2⟩
  ·
   exact .inl ⟨h1, hwe.1⟩
  ·
   cases hu : e.u with
   | none => exact .inr ⟨h1, hwe.2 ⟨h1, fun k => by simp [eats, hu]⟩, .inl rfl⟩
   | some p =>
    obtain ⟨k, x⟩ := p
    rw [hu] at h2
    simp only [Bool.and_eq_true, Bool.not_eq_true'] at h2
    obtain ⟨rfl, h3⟩ := h2
    obtain ⟨d, g1, g2⟩ := mem_pickD hk (by simpa using h3)
    exact .inr ⟨h1, hwe.2 ⟨h1, fun k => by simp [eats, hu]⟩, .inr ⟨k, d, rfl, g1, g2⟩⟩

theorem DW.fin (n : Nat) (must : List Bool) (T : List Nat) (kr : List Nat) (Δr : List D) (hk : pickD Δ kr = some Δr) (hck : chkT full acc.reverse must T = true) (hcf : chkF kr acc.reverse must = true) (hn : acc.reverse.length = n) (hm : c.P.follows .mixedOrders = true)
 (h : ∀ vs : List Value, vs.length = n → BH acc.reverse vs → ∃ ks Δt, pickD (endD Δ acc.reverse vs) ks = some (Δr ++ Δt) ∧ ks.Nodup ∧ JT c full Q Γ0 Δ acc.reverse must T vs Δr 0 l Γ0 Δt) : DW c id full Q Γ0 Δ acc l Γ :=
 fun hw => DR.finT must T Δr hck (Fl.of hk hw hcf) hm fun vs hv => h vs (hv.trans hn)

theorem DW.push {x : DE} {Γ' : Ga} (hs : DR c id full Q Γ0 Δ (acc.reverse ++ [x]) l Γ' → DR c id full Q Γ0 Δ acc.reverse (o :: l) Γ) (hw : WF acc.reverse) (hx : WF1 x) (h : DW c id full Q Γ0 Δ (x :: acc) l Γ') : DR c id full Q Γ0 Δ acc.reverse (o :: l) Γ := by
 unfold DW at h;rw [List.reverse_cons] at h;exact hs (h (hw.snoc hx))

theorem DW.t00 (hg : o.guard = none) (hd : o.dst = some d) (hdN : Nat.blt d c.N = true) (ht : OpT c.M o N [] (fun _ : Unit => (r, []))) (hh : Has Γ N)
 (h : DW c id full Q Γ0 Δ (⟨o, d, N, r, none, false, fun _ => []⟩ :: acc) l ((d, r) :: Γ)) : DW c id full Q Γ0 Δ acc (o :: l) Γ :=
 fun hw => DW.push (DR.step rfl (DV.of00 hg hd hdN ht) hh) hw ⟨(fun h => nomatch h), fun _ _ => rfl⟩ h
theorem DW.t11 (k : Nat) (hk : Δ[k]? = some e) (hg : o.guard = none) (hd : o.dst = some d) (hdN : Nat.blt d c.N = true) (ht : OpT c.M o N [e] (fun _ : Unit => (r, [e]))) (hh : Has Γ N)
 (h : DW c id full Q Γ0 Δ (⟨o, d, N, r, some (k, false), false, fun _ => []⟩ :: acc) l ((d, r) :: Γ)) : DW c id full Q Γ0 Δ acc (o :: l) Γ :=
 fun hw => DW.push (DR.step rfl (DV.of11 k hk hg hd hdN ht) hh) hw ⟨(fun h => nomatch h), fun _ _ => rfl⟩ h
/-- A guard that was itself passed over. -/
theorem wanted_undef {ops : Array Oper} (hg : o.guard = some (j, g)) (hj : ops[j]? = some oj) (hs : oj.dst = some s) {a : Act} (h : a.tmps.getD s undef = undef) : Region.wanted o (yielded ops a.tmps) = false := by
 have h8 : yielded ops a.tmps j = none := by
  unfold yielded;simp only [hj, Option.bind_some, hs];rw [Array.getD_eq_getD_getElem?] at h;cases h9 : a.tmps[s]? with
  | none => rfl
  | some v => rw [h9] at h; simp at h; subst h; rfl
 simp only [Region.wanted, hg, h8];cases g <;> rfl

theorem JO.gnou {ops : Array Oper} {l : List Oper} (hg : o.guard = some (j, g)) (hj : ops[j]? = some oj) (hs : oj.dst = some s) (hl : lk Γ s = some (.eq undef)) (hd : o.dst = some d) (hdN : Nat.blt d c.N = true) (h : JO c ops l Q ((d, .eq undef) :: Γ) Δ) : JO c ops (o :: l) Q Γ Δ := by
 intro a w hst;obtain ⟨h1, h2, S, h3, h4, h5, h6⟩ := hst;have hw : Region.wanted o (yielded ops a.tmps) = false := wanted_undef hg hj hs (h6 s _ hl);refine wkL_step fun K hK => ?_;rw [if_neg (by rw [hw]; simp)];refine hK _ _ ?_;rw [hd];refine h _ _ (St.put (Δ := []) (Δ' := []) h1 h2 h3 h4 h5 h6 (CStep.refl h3.dom) rfl (h5.re owns_nil (fun b hb => (feet_nil hb).elim) (fun _ h => .inl h)) (fun b ⟨e, he, _⟩ => by simp at he) (Nat.blt_eq ▸ hdN))

theorem DV.gnou {ops : Array Oper} (hg : o.guard = some (j, g)) (hj : ops[j]? = some oj) (hs : oj.dst = some s) (hd : o.dst = some d) (hdN : Nat.blt d c.N = true) :
 DV c ops Δ ⟨o, d, [(.tmp s, .eq undef)], .eq undef, none, false, fun _ => []⟩ :=
 ⟨hd, Nat.blt_eq ▸ hdN, fun S w a K Q hdm hN hO k => by
  have hb' : a.tmps.getD s undef = undef := hN.1
  rw [if_neg (by rw [wanted_undef hg hj hs hb']; simp)]
  exact k S w undef (CStep.refl hdm) rfl (by simpa [keepD, useD] using hO) (fun b hb => (feet_nil (by simpa [keepD] using hb)).elim)⟩

theorem DN.sgnou {m : Bool} (hg : o.guard = some (j, g)) (hj : full.toArray[j]? = some oj) (hs : oj.dst = some s) (hl : lk Γ s = some (.eq undef)) (hd : o.dst = some d) (hdN : Nat.blt d c.N = true)
 (h : DN c id full Q Γ0 Δ (acc ++ [⟨o, d, [(.tmp s, .eq undef)], .eq undef, none, false, fun _ => []⟩]) l ((d, .eq undef) :: Γ) m) : DN c id full Q Γ0 Δ acc (o :: l) Γ m :=
 fun h1 h2 => DR.step rfl (DV.gnou hg hj hs hd hdN) ⟨hl, trivial⟩ (h (h1.snoc ⟨rfl, fun _ => rfl⟩) fun e => (h2 e).snoc ⟨fun _ => rfl, rfl⟩)

/-- It makes resources that its value tells. -/
theorem DW.tNew {f : X → Value} {E : X → List D} (E' : Value → List D) (hE : ∀ x, E' (f x) = E x) (hg : o.guard = none) (hd : o.dst = some d) (hdN : Nat.blt d c.N = true) (ht : OpT c.M o N [] (fun x => (.eq (f x), E x))) (hh : Has Γ N)
 (h : DW c id full Q Γ0 Δ (⟨o, d, N, .any, none, true, E'⟩ :: acc) l ((d, .any) :: Γ)) : DW c id full Q Γ0 Δ acc (o :: l) Γ :=
 fun hw => DW.push (DR.step rfl (DV.ofNew E' hE hg hd hdN ht) hh) hw ⟨fun _ => rfl, fun h => nomatch h.1⟩ h
theorem DW.tTurn {f : X → Value} {E : X → List D} (k : Nat) (hk : Δ[k]? = some e) (E' : Value → List D) (hE : ∀ x, E' (f x) = E x) (hg : o.guard = none) (hd : o.dst = some d) (hdN : Nat.blt d c.N = true) (ht : OpT c.M o N [e] (fun x => (.eq (f x), E x))) (hh : Has Γ N)
 (h : DW c id full Q Γ0 Δ (⟨o, d, N, .any, some (k, true), true, E'⟩ :: acc) l ((d, .any) :: Γ)) : DW c id full Q Γ0 Δ acc (o :: l) Γ :=
 fun hw => DW.push (DR.step rfl (DV.ofTurn k hk E' hE hg hd hdN ht) hh) hw ⟨fun _ => rfl, fun h => nomatch h.1⟩ h

theorem len_cons {α : Type} {vs : List α} {n : Nat} (h : vs.length = n + 1) : ∃ v vs', vs = v :: vs' ∧ vs'.length = n := by
 cases vs with
 | nil => simp at h
 | cons v vs => exact ⟨v, vs, rfl, by simpa using h⟩
theorem len_nil {α : Type} {vs : List α} (h : vs.length = 0) : vs = [] := List.length_eq_zero_iff.1 h

/-- A resource that is never there. -/
def dBad : D := .sl undef 0 .bool []
theorem dBad_not {S : FS} {w : World} : ¬ dBad.holds S w := by
 rintro (⟨h, _⟩ | ⟨b, cap, cs, h, _⟩) <;> simp [undef] at h

/-- A variable, told by the pointer to it. -/
def ptrD (T : TypeId) (a : A) : Value → List D
 | .pointer (some ⟨b, 0, none⟩) => [.obj b T a]
 | _ => [dBad]

theorem ptr_of {T : TypeId} {a : A} {v : Value} (h : ∀ d ∈ ptrD T a v, ∃ S w, d.holds S w) : ∃ b, v = .pointer (some ⟨b, 0, none⟩) := by
 unfold ptrD at h;split at h
 ·exact ⟨_, rfl⟩
 ·obtain ⟨S, w, hb⟩ := h dBad (by simp);exact absurd hb dBad_not

/-! ### The tail -/

theorem TI.permT {a : Act} {w : VW} {L : Array Bool} {Δt' : List D} (hp : Δt.Perm Δt') (h : TI c full Γ0 acc must T vs Δr k Γt Δt L a w) : TI c full Γ0 acc must T vs Δr k Γt Δt' L a w := by
 obtain ⟨h1, h2, h3, h4, h5, h6, h7, S, g1, g2, g3, g4, g5⟩ := h;have hp' := hp.append_left Δr;exact ⟨h1, h2, h3, h4, h5, h6, h7, S, g1, fun b hb => g2 b ((feet_perm hp' b).2 hb), g3.perm hp', g4, g5⟩

theorem JT.front (i : Nat) (h : Δt[i]? = some e) (hj : JT c full Q Γ0 Δ acc must T vs Δr k l Γt (e :: Δt.eraseIdx i)) : JT c full Q Γ0 Δ acc must T vs Δr k l Γt Δt :=
 fun q1 q2 q3 q4 q5 q6 fuel L a w hI hf => hj q1 q2 q3 q4 q5 q6 fuel L a w (hI.permT (perm_front i e h)) hf

theorem JT.one {v : Value} {TE : TypeId} {t : Ty} {dd : List t.den} (h : oneCell v = true → JT c full Q Γ0 Δ acc must T vs Δr k l Γt (.sl v TE t dd :: F)) : JT c full Q Γ0 Δ acc must T vs Δr k l Γt (.sl v TE t dd :: F) :=
 fun q1 q2 q3 q4 q5 q6 fuel L a w hI hf => by
  refine h ?_ q1 q2 q3 q4 q5 q6 fuel L a w hI hf
  obtain ⟨S, _, _, h5, _⟩ := hI.ex
  rcases h5.holds _ (List.mem_append.2 (.inr (List.mem_cons_self ..))) with ⟨rfl, _⟩ | ⟨b, cap, cc, rfl, _⟩ <;> rfl

theorem JT.n11 (hg : o.guard = none) (hd : o.dst = none) (ht : OpT c.M o N [e] (fun _ : Unit => (r, [e']))) (hh : Has (GB acc vs ++ Γt) N) (hN : chkN full acc (acc.length + k) N = true)
 (h : JT c full Q Γ0 Δ acc must T vs Δr (k + 1) l Γt (e' :: F)) : JT c full Q Γ0 Δ acc must T vs Δr k (o :: l) Γt (e :: F) := JT.n (Δu := [e]) hg hd ht hh hN fun _ => h
theorem JT.y00 (hg : o.guard = none) (hd : o.dst = some d) (hdN : Nat.blt d c.N = true) (hdT : T.contains d = true) (ht : OpT c.M o N [] (fun _ : Unit => (r, []))) (hh : Has (GB acc vs ++ Γt) N) (hN : chkN full acc (acc.length + k) N = true)
 (h : JT c full Q Γ0 Δ acc must T vs Δr (k + 1) l ((d, r) :: Γt) Δt) : JT c full Q Γ0 Δ acc must T vs Δr k (o :: l) Γt Δt := JT.y (Δu := []) hg hd hdN hdT ht hh hN fun _ => h
theorem JT.y11 (hg : o.guard = none) (hd : o.dst = some d) (hdN : Nat.blt d c.N = true) (hdT : T.contains d = true) (ht : OpT c.M o N [e] (fun _ : Unit => (r, [e']))) (hh : Has (GB acc vs ++ Γt) N) (hN : chkN full acc (acc.length + k) N = true)
 (h : JT c full Q Γ0 Δ acc must T vs Δr (k + 1) l ((d, r) :: Γt) (e' :: F)) : JT c full Q Γ0 Δ acc must T vs Δr k (o :: l) Γt (e :: F) := JT.y (Δu := [e]) hg hd hdN hdT ht hh hN fun _ => h
theorem JT.y01 {e' : X → D} {r : X → A} (hg : o.guard = none) (hd : o.dst = some d) (hdN : Nat.blt d c.N = true) (hdT : T.contains d = true) (ht : OpT c.M o N [] (fun x => (r x, [e' x]))) (hh : Has (GB acc vs ++ Γt) N) (hN : chkN full acc (acc.length + k) N = true)
 (h : ∀ x, JT c full Q Γ0 Δ acc must T vs Δr (k + 1) l ((d, r x) :: Γt) (e' x :: Δt)) : JT c full Q Γ0 Δ acc must T vs Δr k (o :: l) Γt Δt := JT.y (Δu := []) hg hd hdN hdT ht hh hN h

/-! ### Cuts behind which nothing follows but what stands around -/

/-! ### Own results that are frozen at once -/

theorem OpT.frz {TE : TypeId} {t : Ty} {dd : List t.den} {Δ' : List D} (h : OpT M o N Δ (fun v : Value => (.eq v, .sl v TE t dd :: Δ'))) : OpT M o N Δ (fun _ : Unit => (.rep (.slice t) dd, Δ')) := by
 refine ⟨h.1, fun ro S w a next Q hd hN hO k => ?_⟩;refine h.2 ro S w a next Q hd hN hO fun v S' w' u hs hr ho hf => ?_;have e : u = v := hr;subst e;have hsl := ho.holds _ (List.mem_cons_self ..);have hp := List.pairwise_cons.1 ho.apart;rcases hsl with ⟨rfl, rfl⟩ | ⟨b, cap, cc, rfl, q1, q1', q2, q3, q4⟩
 ·refine k () S' w' _ hs ⟨_, .inl ⟨none, 0, rfl, rfl⟩, rfl⟩ (ho.re ⟨fun e he => ho.holds e (List.mem_cons_of_mem _ he), fun b ⟨e, he, hb⟩ => ho.own b ⟨e, List.mem_cons_of_mem _ he, hb⟩, hp.2⟩ feet_tl (fun _ h => .inl h)) fun b ⟨e, he, hb⟩ => hf b ⟨e, List.mem_cons_of_mem _ he, hb⟩
 ·have hfe : feet (.sl (.slice (some ⟨b, 0, none⟩) dd.length cap) TE t dd :: Δ') b := ⟨_, List.mem_cons_self .., rfl⟩;have hown := ho.own b hfe;have hK : Keep S' w' w' := fun _ _ => rfl;refine k () (fun x => S' x ∨ x = b) w' _ ⟨fun x hx => .inl (hs.sub x hx), fun x hx => ?_, fun x hx => ?_, hs.size, hs.keep, hs.os, hs.tape, hs.output, hs.subA, hs.oldA, hs.Z⟩ ?_ (ho.re ⟨fun e he => ?_, fun x ⟨e, he, hb⟩ => ?_, hp.2⟩ feet_tl (fun x (hx : S' x ∨ x = b) => hx.imp id fun e => by rw [e]; exact hfe)) fun x ⟨e, he, hb⟩ => hf x ⟨e, List.mem_cons_of_mem _ he, hb⟩
  ·rcases hx with hx | rfl
   ·exact hs.new x hx
   ·exact .inr ((hf x hfe).symm)
  ·rcases hx with hx | rfl
   ·exact hs.dom x hx
   ·exact hown.2
  ·refine ⟨_, .inr ⟨b, 0, cap, cc, TE, (0, 0), rfl, q1, .inr rfl, q2, ?_⟩, rfl⟩;rw [List.drop_zero];exact rdAll_mono (fun _ _ h => rd_mono (fun _ h => .inl h) hK t h) q4
  ·exact D.holds_mono (fun _ h => .inl h) hK e (fun _ _ => rfl) (ho.holds e (List.mem_cons_of_mem _ he))
  ·have h7 := ho.own x ⟨e, List.mem_cons_of_mem _ he, hb⟩;refine ⟨fun hx => ?_, h7.2⟩;rcases hx with hx | rfl
   ·exact h7.1 hx
   ·exact hp.1 e he x rfl hb
end
end K
end Go.Proofs.Ytopgphikdglphaa

/- The calculus, part 16: parts of slices; structs' fields out of values; interfaces of two types. -/
namespace Go.Proofs.Ytopgphikdglphaa
namespace K
open Go

section
variable {P : Program} {M : Md P} {o : Oper} {x y z : Operand} {T T' e : TypeId} {r r' : A} {t u : Ty}

theorem rdAll_drop {α : Type} {R : α → List Value → Prop} {m : Nat} (hR : ∀ x cs, R x cs → cs.length = m) (k : Nat) : ∀ {l : List α} {cs : List Value}, rdAll R l cs → rdAll R (l.drop k) (cs.drop (k * m)) := by
 induction k with
 | zero => intro l cs h; simpa using h
 | succ k ih =>
  intro l cs h;cases l with
  | nil => simp [rdAll] at h; subst h; simp [rdAll]
  | cons x l =>
   obtain ⟨a, b, rfl, h1, h2⟩ := h;have la := hR _ _ h1;have := ih h2;rw [List.drop_succ_cons, show (k + 1) * m = a.length + k * m by rw [Nat.add_mul, la]; omega, List.drop_append, List.drop_eq_nil_of_le (Nat.le_add_right a.length (k * m)), Nat.add_sub_cancel_left, List.nil_append];exact this

theorem rep_slice {S : FS} {w : World} {l : List t.den} {v : Value} (h : (A.rep (.slice t) l).holds S w v) : ∃ a cap, v = .slice a l.length cap ∧ rd S w (.slice t) l [.slice a l.length cap] := by
 obtain ⟨cs, h1, h2⟩ := h;rcases h1 with ⟨a, cap, rfl, rfl⟩ | ⟨b, off, cap, c, T0, fz, rfl, hle, hS, hb, hr⟩
 ·exact ⟨a, cap, h2, .inl ⟨a, cap, rfl, rfl⟩⟩
 ·exact ⟨_, cap, h2, .inr ⟨b, off, cap, c, T0, fz, rfl, hle, hS, hb, hr⟩⟩

end
end K
end Go.Proofs.Ytopgphikdglphaa

/- The calculus, part 17: interfaces of two types: which one it is, and a method's call; new maps; parts of own slices; an own array as a slice, and back; copying into an own slice; a slice held against nil. -/
namespace Go.Proofs.Ytopgphikdglphaa
namespace K
open Go

section
variable {P : Program} {M : Md P} {o : Oper} {x y z : Operand} {T T' e : TypeId} {r r' : A} {t u : Ty}

/-- A type of integers, as a type assertion takes it. -/
def TaOk (P : Program) (T : TypeId) : Prop := P.underlying T = some (.int .i64) ∧ ∀ w, (zeroValue T).run P w = .ok (.int .i64 0) w

theorem run_assert {t0 : TypeId} {n : Int} (h : TaOk P T) (w : World) : (Instr.typeAssert (.iface t0 (.int .i64 n)) T' T true).run P w = .ok (.tuple #[.int .i64 (if t0 = T then n else 0), .bool (decide (t0 = T))]) w := by
 unfold Instr.typeAssert;simp only [Sem.run_bind, run_underlying h.1, Result.andThen_ok];by_cases e : t0 = T
 ·simp [e]
 ·simp [e, h.2]

theorem o_as {t0 t1 : TypeId} {v : Bool × Int} {n : Int} {b : Bool} (ho : o.op = .typeAssert x T' T true) (h : TaOk P T) (hn : (if (if v.1 then t1 else t0) = T then v.2 else 0) = n) (hb : decide ((if v.1 then t1 else t0) = T) = b) :
 OpT M o [(x, .rep (.tag t0 t1) v)] [] (fun _ : Unit => (.tup (.pair (.eq (.int .i64 n)) (.pair (.eq (.bool b)) .any)), [])) :=
 .val0 fun S w a hN => by
  obtain ⟨cs, h1, h2⟩ := hN.1
  have e1 : a.eval x = .iface (if v.1 then t1 else t0) (.int .i64 v.2) := by
   have h1 : cs = _ := h1;rw [h2, h1]; rfl
  refine ⟨.tuple #[.int .i64 (if (if v.1 then t1 else t0) = T then v.2 else 0), .bool (decide ((if v.1 then t1 else t0) = T))], by simp only [execOp, ho, e1, Sem.run_bind, run_assert h, Result.andThen_ok, Sem.run_pure], ?_⟩;subst hn hb;exact ⟨[_, _], rfl, _, _, rfl, rfl, _, _, rfl, rfl, rfl⟩

theorem as_n1 {t0 t1 : TypeId} (hne : t0 ≠ t1) (v : Bool × Int) : (if (if v.1 then t1 else t0) = t1 then v.2 else 0) = cond v.1 v.2 0 := by
 cases v.1 <;> simp [hne]
theorem as_b1 {t0 t1 : TypeId} (hne : t0 ≠ t1) (v : Bool × Int) : decide ((if v.1 then t1 else t0) = t1) = v.1 := by
 cases v.1 <;> simp [hne]
theorem as_n0 {t0 t1 : TypeId} (hne : t0 ≠ t1) (v : Bool × Int) : (if (if v.1 then t1 else t0) = t0 then v.2 else 0) = cond v.1 0 v.2 := by
 cases v.1 <;> simp [hne.symm]
theorem as_b0 {t0 t1 : TypeId} (hne : t0 ≠ t1) (v : Bool × Int) : decide ((if v.1 then t1 else t0) = t0) = !v.1 := by
 cases v.1 <;> simp [hne.symm]

/-- The assertion that asks for the second type, and for the first. -/
theorem o_as1 {t0 : TypeId} {v : Bool × Int} (ho : o.op = .typeAssert x T' T true) (h : TaOk P T) (hne : t0 ≠ T) :
 OpT M o [(x, .rep (.tag t0 T) v)] [] (fun _ : Unit => (.tup (.pair (.eq (.int .i64 (cond v.1 v.2 0))) (.pair (.eq (.bool v.1)) .any)), [])) := o_as ho h (as_n1 hne v) (as_b1 hne v)
theorem o_as0 {t1 : TypeId} {v : Bool × Int} (ho : o.op = .typeAssert x T' T true) (h : TaOk P T) (hne : T ≠ t1) :
 OpT M o [(x, .rep (.tag T t1) v)] [] (fun _ : Unit => (.tup (.pair (.eq (.int .i64 (cond v.1 0 v.2))) (.pair (.eq (.bool (!v.1))) .any)), [])) := o_as ho h (as_n0 hne v) (as_b0 hne v)

/-- A method of a type of integers. -/
def MthOk (P : Program) (T : TypeId) (name : String) (f : Nat) : Prop := ∀ n w, (callMethod (.iface T (.int .i64 n)) name #[]).runT P w #[] = (.ok (.enter f #[.int .i64 n]) w, #[])

/-- The operation that enters a function, by what it does. -/
theorem call_wkT {M : Md P} {rd : Option Nat} {a : Act} {v : VW} {next : Act → VW → Prop} {Q : Exit → Act → VW → Prop} {f : FuncId} {args : Array Value} (hnd : nd o.op = true) (hex : ∀ w : World, (execOp a.eval o).runT P w #[] = (.ok (.enter f args) w, #[]))
 (h : ∀ v1, Rely v v1 → CCalls M .normal f args v1 fun
  | .returned x, v'' => next (a.put o.dst x) v''
  | .panicked ch, v'' => Q (.panic ch) a v''
  | .outgrown, _ => False) : o.wk M rd a v next Q := fun v1 hr => by
 rw [Oper.semAt_eq _ _ _ (fun c e => by rw [e] at hnd; cases hnd)]
 have h1 : (execOp a.eval o).run P v1 = .ok (.enter f args) v1 := by rw [← Sem.runT_fst P _ _ #[], hex]
 refine ⟨?_, by rw [h1]; exact h v1 hr⟩
 unfold Sg
 rw [h1]
 have ev : (execOp a.eval o).events P v1 #[] = #[] := by unfold Sem.events; rw [hex]
 simp only [ev]
 exact Guar.refl v1
theorem ns_equalSl {n : Nat} (hT : P.underlying T = some (.slice e)) (b : Option Addr) (l c : Nat) : Ns P (Op.equalIn (n + 1) T (.slice b l c) (.slice none 0 0)) := by
 unfold Op.equalIn;refine ns_underlyingE hT ?_;cases b <;> trivial
theorem ns_eqnil {S : FS} {w : World} {l : List t.den} {ρ : Operand → Value} (ho : o.op = .binOp .eql T x y T') (hT : P.underlying T = some (.slice e)) (hx : (A.rep (.slice t) l).holds S w (ρ x)) (hy : ρ y = .slice none 0 0) : Ns P (execOp ρ o) := by
 refine ns_binv ho ?_;obtain ⟨c, cap, e1, _⟩ := rep_slice hx;rw [e1, hy];exact ns_bind (ns_equalSl (n := 9999) hT c l.length cap) fun _ => ns_pure

theorem o_invoke {t0 t1 : TypeId} {f0 f1 : Nat} {name : String} {v : Bool × Int} {q : Int} {c : Call} {ts : Array TypeId} (ho : o.op = .call c) (hc : c = { callee := .invoke x name, args := #[], argTypes := ts })
 (h0 : MthOk P t0 name f0) (h1 : MthOk P t1 name f1) (hr : Ctr P (cond v.1 f1 f0) [.eq (.int .i64 v.2)] [] (fun _ : Unit => (.eq (.int .i64 q), []))) : OpT M o [(x, .rep (.tag t0 t1) v)] [] (fun _ : Unit => (.eq (.int .i64 q), [])) := by
 have hnd : nd o.op = true := by simp only [nd, *]
 refine ⟨hnd, fun ro S w a next Q hd hN hO k => ?_⟩
 obtain ⟨cs, g1, g2⟩ := hN.1
 have e1 : a.eval x = .iface (if v.1 then t1 else t0) (.int .i64 v.2) := by
  have g1 : cs = _ := g1;rw [g2, g1]; rfl
 have hrun : ∀ w : World, (execOp a.eval o).runT P w #[] = (.ok (.enter (cond v.1 f1 f0) #[.int .i64 v.2]) w, #[]) := fun w => by
  have e2 : (callMethod (a.eval x) name #[]).runT P w #[] = (.ok (.enter (cond v.1 f1 f0) #[.int .i64 v.2]) w, #[]) := by
   rw [e1];cases v.1
   ·exact h0 _ _
   ·exact h1 _ _
  rw [← e2];simp [execOp, ho, hc, resolve, invoke]
 refine call_wkT hnd hrun fun v1 hrel => ?_
 refine (hr M .normal S v1 [.int .i64 v.2] (fun b hb => Nat.lt_of_lt_of_le (hd b hb) hrel.size) ⟨_, _, rfl, rfl, rfl⟩ (hO.rely hd hrel)).mono ?_
 rintro e w' ⟨x, S', v, rfl, h1, h2, h3, h4⟩
 exact k x S' w' v ((CStep.rely hd hrel).trans h1 fun b hb => .inl hb) h2 h3 fun b hb => (h4 b hb).imp id (Nat.le_trans hrel.size)

theorem ctr_cond {b : Bool} {f0 f1 : Nat} {as : List A} {Δ : List D} {X : Type} {R : X → A × List D} (h0 : b = false → Ctr P f0 as Δ R) (h1 : b = true → Ctr P f1 as Δ R) : Ctr P (cond b f1 f0) as Δ R := by
 cases b
 ·exact h0 rfl
 ·exact h1 rfl

/-- A new map. -/
theorem o_makeMap (ho : o.op = .makeMap T none) : OpT M o [] [] (fun z : Nat => (.eq (.map (some z)), [.raw z (.map #[] 0)])) := by
 refine OpP.T ⟨by simp only [nd, *], fun S w a next hd hN _ k => ?_⟩ (fun _ _ a _ _ => ns_exec (by simp only [nsOp, *]) a.eval) (fun d hd => by first | (simp at hd; done) | (simp at hd; subst hd; trivial))
 have hr : (execOp a.eval o).run P w = .ok (.value (.map (some w.heap.size))) (w.alloc (.map #[] 0)) := by
  have h1 : (Instr.makeMap T none).run P w = .ok (.map (some w.heap.size)) (w.alloc (.map #[] 0)) := rfl;simp [execOp, ho, h1]
 rw [hr];refine k w.heap.size S _ _ (step_alloc hd _) rfl (owns_one (heap_alloc_new w _) ?_) ?_
 ·intro b hb;simp only [D.foot, Option.some.injEq] at hb;subst hb;exact ⟨fun h => by have := hd _ h; omega, by simp⟩
 ·intro b hb;have : b = w.heap.size := by simpa [D.foot, eq_comm] using feet_one.1 hb
  exact .inr (by omega)

/-- A slice held against nil. -/
theorem o_eqnil {l : List t.den} (ho : o.op = .binOp .eql T x y T') (hT : P.underlying T = some (.slice e)) :
 OpT M o [(x, .rep (.slice t) l), (y, .eq (.slice none 0 0))] [] (fun b : { b : Bool // b = true → l = [] } => (.eq (.bool b.1), [])) := by
 refine OpP.T ⟨by simp only [nd, *], fun S w a next hd hN hO k => ?_⟩ (fun S w a hN _ => ns_eqnil ho hT hN.1 hN.2.1) (fun d hd => by simp at hd)
 obtain ⟨c, cap, e1, hr⟩ := rep_slice hN.1
 have e2 : a.eval y = .slice none 0 0 := hN.2.1
 have hrun : (execOp a.eval o).run P w = .ok (.value (.bool c.isNone)) w := by
  have h1 : (Op.equalIn 10000 T (.slice c l.length cap) (.slice none 0 0)).run P w = .ok c.isNone w := by
   unfold Op.equalIn;cases c <;> simp only [Sem.run_bind, run_underlying hT, Result.andThen_ok, Sem.run_pure, Option.isNone_none, Option.isNone_some]
  have h2 : (do eqGuard .eql T x y (.slice c l.length cap) (.slice none 0 0); binOp .eql T (.slice c l.length cap) (.slice none 0 0) : Sem Value).run P w = .ok (.bool c.isNone) w := by
   simp [eqGuard, binOp, Op.equal, Op.maxDepth, h1]
  simp only [Sem.run_bind] at h2;simp only [execOp, ho, e1, e2, Sem.run_bind, h2];rfl
 rw [hrun]
 refine k ⟨c.isNone, fun h => ?_⟩ S w _ (Step.refl hd) rfl hO (fun b hb => .inl hb)
 rcases hr with ⟨_, _, _, h2⟩ | ⟨b, off, cap', _, _, _, h2, _⟩
 ·
  exact h2
 ·
  simp at h2; obtain ⟨rfl, _⟩ := h2; simp at h

/-- A part of an own slice: from its head. -/
theorem o_slice_own {v : Value} {TE : TypeId} {l : List t.den} {k : IntKind} {j : Int} {g : Bool} (ho : o.op = .slice T x none (some y) none) (hT : P.underlying T = some (.slice e)) (he : SzOk P e t.cells g) (h0 : 0 ≤ j) (h1 : j ≤ l.length) :
 OpT M o [(x, .eq v), (y, .eq (.int k j))] [.sl v TE t l] (fun v' : Value => (.eq v', [.sl v' TE t (l.take j.toNat)])) := by
 refine OpP.T ⟨by simp only [nd, *], fun S w a next hd hN hO kk => ?_⟩ (fun _ _ a _ _ => ns_exec (by simp only [nsOp, *]) a.eval) (fun d hd => by first | (simp at hd; done) | (simp at hd; subst hd; trivial))
 have e1 : a.eval x = v := hN.1
 have e2 : a.eval y = .int k j := hN.2.1
 have hel : P.elem T = e := by simp [Program.elem, hT]
 have hu : P.underlying T = some (.slice (P.elem T)) := by rw [hel]; exact hT
 have hown := hO.holds _ (List.mem_singleton.2 rfl)
 rcases hown with ⟨rfl, rfl⟩ | ⟨b, cap, c, rfl, hle, hcap, hb, hsz, hrd⟩
 ·
  have hj : j = 0 := by simp at h1; omega
  subst hj;have := run_slice_h (P := P) w T none 0 0 hu k 0 (Int.le_refl _) (by omega)
  have hr : (execOp a.eval o).run P w = .ok (.value (.slice none 0 0)) w := by
   simp [execOp, ho, e1, e2, run_sliceAt_slice w T _ _ _ _ hu, this, hel, he.size, sliced]
  rw [hr];exact kk _ S w _ (Step.refl hd) rfl (by simpa using hO) (fun b hb => .inl (by simpa using hb))
 ·
  have := run_slice_h (P := P) w T (some ⟨b, 0, none⟩) l.length cap hu k j h0 (by omega)
  have hsl : sliced (some ⟨b, 0, none⟩) 0 j.toNat cap t.cells = .slice (some ⟨b, 0, none⟩) j.toNat cap := by
   unfold sliced;by_cases hc : cap = 0
   ·simp [hc]
   ·simp [hc, Addr.add]
  have hr : (execOp a.eval o).run P w = .ok (.value (.slice (some ⟨b, 0, none⟩) j.toNat cap)) w := by
   simp [execOp, ho, e1, e2, run_sliceAt_slice w T _ _ _ _ hu, this, hel, he.size, hsl]
  rw [hr];have hlen : (l.take j.toNat).length = j.toNat := by simp; omega
  have hfoot : ∀ b', feet [D.sl (.slice (some ⟨b, 0, none⟩) j.toNat cap) TE t (l.take j.toNat)] b' → feet [D.sl (.slice (some ⟨b, 0, none⟩) l.length cap) TE t l] b' := fun b' h => by
   have := feet_one.1 h;exact feet_one.2 (by simpa [D.foot, Value.ownBlock] using this)
  refine kk _ S w _ (Step.refl hd) rfl (owns_one ?_ fun b' h => hO.own b' (hfoot b' (feet_one.2 h))) (fun b' hb => .inl (hfoot b' hb));refine .inr ⟨b, cap, c, by rw [hlen], by omega, hcap, hb, hsz, ?_⟩;rw [hlen];have h2 := rdAll_take (fun _ _ h => rd_length t h) j.toNat hrd;have hm : j.toNat * t.cells ≤ l.length * t.cells := Nat.mul_le_mul_right _ (by omega);rw [List.take_take, Nat.min_eq_left hm] at h2;exact h2
end

section
variable {c : Cx} {ops : Array Oper} {l : List Oper} {Q : Exit → Act → VW → Prop} {Γ Γ' : Ga} {Δ Δ' F : List D} {P : Program} {M : Md P} {o : Oper} {x y : Operand} {T e : TypeId} {t : Ty}

theorem St.swap {d d' : D} {a : Act} {w : VW} (hf : ∀ b, d'.foot = some b ↔ d.foot = some b) (hh : ∀ S, d.holds S w.toWorld → d'.holds S w.toWorld) (h : St c Γ (d :: F) a w) : St c Γ (d' :: F) a w := by
 obtain ⟨h1, h2, S, h3, h4, h5, h6⟩ := h
 have hfe : ∀ b, feet (d' :: F) b → feet (d :: F) b := fun b ⟨q, hq, hb⟩ => by
  rcases List.mem_cons.1 hq with rfl | hq
  ·exact ⟨d, List.mem_cons_self .., (hf b).1 hb⟩
  ·exact ⟨q, List.mem_cons_of_mem _ hq, hb⟩
 have hp := List.pairwise_cons.1 h5.apart;refine ⟨h1, h2, S, h3, fun b hb => h4 b (hfe b hb), h5.re ⟨fun q hq => ?_, fun b hb => h5.own b (hfe b hb), List.pairwise_cons.2 ⟨fun q hq b hb => hp.1 q hq b ((hf b).1 hb), hp.2⟩⟩ hfe (fun _ h => .inl h), h6⟩;rcases List.mem_cons.1 hq with rfl | hq
 ·exact hh S (h5.holds _ (List.mem_cons_self ..))
 ·exact h5.holds q (List.mem_cons_of_mem _ hq)

/-- An own array, as an own slice. -/
theorem SE.arrSl {b n : Nat} {dd : List t.den} (hn : dd.length = n) (hm : n ≤ maxLen) : SE c Γ (.obj b T (.rep (.arr n t) dd) :: F) Γ (.sl (.slice (some ⟨b, 0, none⟩) n n) T t dd :: F) := fun a w h =>
 h.swap (fun b' => by simp [D.foot, Value.ownBlock]) fun S hs => by
  obtain ⟨cs, h1, h2⟩ := hs
  have hl := rdAll_length (fun _ _ h => rd_length t h) h2.2
  subst hn
  refine .inr ⟨b, dd.length, cs.toArray, rfl, Nat.le_refl _, hm, h1, by simpa using hl, ?_⟩
  rw [List.toList_toArray, List.take_of_length_le (by omega)]
  exact h2.2

/-- And back. -/
theorem SE.slArr {b n : Nat} {dd : List t.den} (hn : dd.length = n) : SE c Γ (.sl (.slice (some ⟨b, 0, none⟩) n n) T t dd :: F) Γ (.obj b T (.rep (.arr n t) dd) :: F) := fun a w h =>
 h.swap (fun b' => by simp [D.foot, Value.ownBlock]) fun S hs => by
  rcases hs with ⟨h1, _⟩ | ⟨b', cap, cc, h1, h2, h3, h4, h5, h6⟩
  ·
   simp at h1
  ·
   simp only [Value.slice.injEq, Option.some.injEq, Addr.mk.injEq, and_true] at h1
   obtain ⟨rfl, hn', rfl⟩ := h1
   refine ⟨cc.toList, by simpa using h4, hn, ?_⟩
   have : cc.toList.take (dd.length * t.cells) = cc.toList := List.take_of_length_le (by simp [h5, hn])
   rwa [this] at h6
end
end K
end Go.Proofs.Ytopgphikdglphaa

/- The calculus, part 18: calls with two ways out, closures that are made, the end of a body without results. -/
namespace Go.Proofs.Ytopgphikdglphaa
namespace K
open Go

def casesO {α β : Type} (x : Option α) (a : β) (b : α → β) : β := match x with
 | none => a
 | some q => b q
theorem co_n {α β ρ : Type} {A : Option β} {B : α → Option β} {K : β → Option ρ} {r : ρ} (h : (casesO none A B).bind K = some r) : A.bind K = some r := h
theorem co_s {α β ρ : Type} {q : α} {A : Option β} {B : α → Option β} {K : β → Option ρ} {r : ρ} (h : (casesO (some q) A B).bind K = some r) : (B q).bind K = some r := h

/-- A pointer that may be nil. -/
@[reducible] def optA {α : Type} (o : Option α) (z : Nat) : A := match o with
 | none => .eq (.pointer none)
 | some _ => .eq (.pointer (some ⟨z, 0, none⟩))
@[reducible] def optD {α : Type} (o : Option α) (f : α → List D) : List D := match o with
 | none => []
 | some q => f q

theorem needs_append {S : FS} {w : World} {a : Act} : ∀ {N1 N2 : List (Operand × A)}, Needs S w a (N1 ++ N2) → Needs S w a N1 ∧ Needs S w a N2
 | [], _, h => ⟨trivial, h⟩
 | _ :: _, _, h => ⟨⟨h.1, (needs_append h.2).1⟩, (needs_append h.2).2⟩
theorem needs_eqs {S : FS} {w : World} {a : Act} : ∀ {xs : List Operand} {vs : List Value}, xs.length = vs.length → Needs S w a (xs.zip (vs.map .eq)) → xs.map a.eval = vs
 | [], [], _, _ => rfl
 | x :: xs, v :: vs, h, hN => by
  have h1 : a.eval x = v := hN.1
  rw [List.map_cons, h1, needs_eqs (by simpa using h) hN.2]
 | [], _ :: _, h, _ => by simp at h
 | _ :: _, [], h, _ => by simp at h

section
variable {P : Program} {M : Md P} {o : Oper}
/-- A closure is made. -/
theorem o_mkfn {f : Nat} (xs ys : List Operand) (fs cs : List Value) (ho : o.op = .makeFunc (.func f) xs.toArray ys.toArray) (h1 : xs.length = fs.length) (h2 : ys.length = cs.length) :
 OpT M o (xs.zip (fs.map .eq) ++ ys.zip (cs.map .eq)) [] (fun _ : Unit => (.eq (.func (.func f) fs.toArray cs.toArray), [])) :=
 .val0 fun S w a hN => by
  obtain ⟨n1, n2⟩ := needs_append hN
  have e1 := needs_eqs h1 n1
  have e2 := needs_eqs h2 n2
  refine ⟨.func (.func f) fs.toArray cs.toArray, ?_, rfl⟩
  simp [execOp, ho, Instr.makeFunc, e1, e2]
end

theorem JN.end_n {c : Cx} {P : Program} {fn : Func} {R : Ending → VW → Prop} {Γ : Ga} {Δ : List D} (h : JN c (bodyPost P fn R .ret) Γ Δ) : JN c (bodyPost P fn R .normal) Γ Δ := h
end K
end Go.Proofs.Ytopgphikdglphaa

/- The calculus, part 19: a tail that has come to an operation that waits for all; a map that is told by its value; goto; a panic that is recovered. -/
namespace Go.Proofs.Ytopgphikdglphaa
namespace K
open Go

section
variable {c : Cx} {full : List Oper} {Q : Exit → Act → VW → Prop} {Γ0 Γ Γt : Ga} {Δ Δr Δt F : List D} {acc : List DE} {l : List Oper} {id : Nat} {must : List Bool} {T : List Nat} {vs : List Value} {k : Nat} {o : Oper}

/-- From here on all stands in one order. -/
def chkA (full : List Oper) (n : Nat) : Bool := (List.range full.length).all fun j => Nat.blt j n || (List.range j).all fun i => ((clos [] full).getD j 0).testBit i

theorem JT.all (hA : chkA full (acc.length + k) = true) (h : JO c full.toArray (o :: l) Q (GB acc vs ++ Γt) (Δr ++ Δt)) : JT c full Q Γ0 Δ acc must T vs Δr k (o :: l) Γt Δt := by
 intro hfull hdr hDR hck hfl hvs fuel;obtain ⟨hc1, hlt, hc3, hc4, hc5, hc6, hc7⟩ := chkT_parts hck
 have hforced : ∀ m, acc.length + k ≤ m → m < full.length → ∀ i, i < m → ((clos [] full).getD m 0).testBit i = true := fun m hm1 hm2 i hi => by
  unfold chkA at hA;rw [List.all_eq_true] at hA;have := hA m (List.mem_range.2 hm2);simp only [Bool.or_eq_true, Nat.blt_eq] at this;rcases this with h | h
  ·omega
  ·rw [List.all_eq_true] at h;exact h i (List.mem_range.2 hi)
 have hjl : acc.length + k < full.length := by
  rcases Nat.lt_or_ge (acc.length + k) full.length with h | h
  ·exact h
  ·rw [List.drop_eq_nil_of_le h] at hdr; cases hdr
 induction fuel with
 | zero =>
  intro L a w hI hf;simp only [List.length_cons] at hf;omega
 | succ n ih =>
  intro L a w hI hf;by_cases h0 : cnt L acc.length = 0
  ·have hall := cnt_zero h0;refine tail_any hlt (o :: l) (acc.length + k) hdr hforced L hI.size (fun i hi _ => ?_) (fun i hi => ?_) a w ?_ (n + 1) (by omega)
   ·rcases Nat.lt_or_ge i acc.length with hh | hh
    ·exact hall i hh
    ·rw [hI.tail i hh]; simpa using hi
   ·rw [hI.tail i (by omega)]; simp; omega
   ·obtain ⟨S, h3, h4, h5, h6, h7⟩ := hI.ex;refine h a w ⟨hI.defers, hI.tmps, S, h3, h4, h5, fun s r hl => ?_⟩;rcases lk_GB hvs hl with ⟨j, e, hj, hd, hr⟩ | ⟨h8, h9⟩
    ·have hjl : j < acc.length := by
      rcases Nat.lt_or_ge j acc.length with h | h
      ·exact h
      ·simp [List.getElem?_eq_none h] at hj
     subst hd hr;exact h7 j e hj (hall j hjl)
    ·exact h6 s r h9 h8
  ·obtain ⟨j, hj1, hj2, hj3⟩ := cnt_pos h0;obtain ⟨oj, hoj⟩ : ∃ oj, full[j]? = some oj := ⟨_, List.getElem?_eq_getElem (by omega)⟩;have hrj : j ∈ Region.ready .any full.toArray L := (ready_iff hI.size).2 ⟨oj, hoj, hj2, fun i hi => hj3 i (hlt j oj hoj i hi)⟩;refine ⟨fun hr => (by rw [hr] at hrj; cases hrj), fun i hi => ?_⟩;obtain ⟨oi, hoi, hli, hpi⟩ := (ready_iff hI.size).1 hi
   have hil : i < full.length := by
    rcases Nat.lt_or_ge i full.length with h | h
    ·exact h
    ·simp [List.getElem?_eq_none h] at hoi
   have hiL : i < L.size := by rw [hI.size]; exact hil
   have hia : i < acc.length := by
    rcases Nat.lt_or_ge i acc.length with h | h
    ·exact h
    ·exfalso
     have hki : acc.length + k ≤ i := by
      rw [hI.tail i h] at hli;simp at hli;omega
     have := ahead hI.closed hlt i i oi (Nat.le_refl _) hoi hpi j (hforced i hki hil j (by omega));rw [hj2] at this;cases this
   refine wkOp_mono (fun a' w' hI' => ih _ a' w' hI' ?_) (TI.float hfull hDR hck hfl hI hia hi);have := cnt_set (L := L) (L' := L.setIfInBounds i true) (i := i) (fun j hj => by rw [lst_set hiL, if_neg (Ne.symm hj)]) hli (by rw [lst_set hiL, if_pos rfl]) hia;omega

/-- A map, told by its value. -/
def mapD : Value → List D
 | .map (some z) => [.raw z (.map #[] 0)]
 | _ => [dBad]
theorem map_of {v : Value} (h : ∀ d ∈ mapD v, ∃ S w, d.holds S w) : ∃ z, v = .map (some z) := by
 unfold mapD at h;split at h
 ·exact ⟨_, rfl⟩
 ·obtain ⟨S, w, h1⟩ := h dBad (List.mem_singleton.2 rfl);exact absurd h1 dBad_not
end

section
variable {c : Cx} {Q : Exit → Act → VW → Prop} {Γ Γ' : Ga} {Δ Δ' : List D} {C C' : Code} {M : Act → VW → Prop}

/-! ### Scopes and goto -/
theorem JC.label {i : Nat} (h : JN c (Q .normal) Γ Δ) : JC c (.label i) Q Γ Δ := fun a w s => wk_label (h a w s)
theorem JC.goto {i : Nat} (h : JN c (Q (.goto i)) Γ Δ) : JC c (.goto i) Q Γ Δ := fun a w s => wk_goto (h a w s)
theorem JN.then_g {i : Nat} (h : JN c (Q (.goto i)) Γ Δ) : JN c (Ex.thn M Q (.goto i)) Γ Δ := h
theorem JN.jmp_n {i : Nat} {J : Act → VW → Prop} (h : JN c (Q .normal) Γ Δ) : JN c (Ex.jmp i J Q .normal) Γ Δ := h
theorem JN.jmp_r {i : Nat} {J : Act → VW → Prop} (h : JN c (Q .ret) Γ Δ) : JN c (Ex.jmp i J Q .ret) Γ Δ := h

end
end K
end Go.Proofs.Ytopgphikdglphaa

/- The calculus, part 20: a range over a function; its rounds; yield; marks. -/
namespace Go.Proofs.Ytopgphikdglphaa
namespace K
open Go

theorem put_at {w : World} {b : Nat} {ob : Obj} (hb : b < w.heap.size) : (w.putObj b ob).heap[b]? = some ob := by
 simp [World.putObj, hb]
theorem put_other {w : World} {b b' : Nat} {ob : Obj} (h : b ≠ b') : (w.putObj b ob).heap[b']? = w.heap[b']? := by
 simp [World.putObj, Array.getElem?_setIfInBounds_ne h]
theorem put_size {w : World} {b : Nat} {ob : Obj} : (w.putObj b ob).heap.size = w.heap.size := by simp [World.putObj]

theorem step_put {X : Nat → Prop} {S : FS} {w : World} (hd : ∀ b, S b → b < w.heap.size) {b : Nat} (hX : X b) (ob : Obj) : Step X S w S (w.putObj b ob) := step_set hd hX ob

/-- A resource more: a new block. -/
theorem Owns.alloc {Δ : List D} {S : FS} {w : World} (hd : ∀ b, S b → b < w.heap.size) (h : Owns Δ S w) (ob : Obj) : Owns (.raw w.heap.size ob :: Δ) S (w.alloc ob) := by
 have hlt : ∀ b, feet Δ b → b < w.heap.size := fun b hb => (h.own b hb).2;refine ⟨fun d hd' => ?_, fun b ⟨d, hd', e⟩ => ?_, List.pairwise_cons.2 ⟨fun d hd' b e e' => ?_, h.apart⟩⟩
 ·rcases List.mem_cons.1 hd' with rfl | hd'
  ·exact heap_alloc_new w ob
  ·exact D.holds_mono (fun _ h => h) (fun b hb => alloc_old w ob b (hd b hb)) d (fun b e => alloc_old w ob b (hlt b ⟨d, hd', e⟩)) (h.holds d hd')
 ·rcases List.mem_cons.1 hd' with rfl | hd'
  ·simp only [D.foot, Option.some.injEq] at e;subst e;exact ⟨fun hs => by have := hd _ hs; omega, by simp⟩
  ·have := h.own b ⟨d, hd', e⟩;exact ⟨this.1, by simp; omega⟩
 ·simp only [D.foot, Option.some.injEq] at e;subst e;have := hlt _ ⟨d, hd', e'⟩;omega

/-- The first resource's block is written. -/
theorem Owns.put {Δ : List D} {S : FS} {w : World} {b : Nat} {o ob : Obj} (h : Owns (.raw b o :: Δ) S w) : Owns (.raw b ob :: Δ) S (w.putObj b ob) := by
 have hp := List.pairwise_cons.1 h.apart;have hb := h.own b ⟨_, List.mem_cons_self .., rfl⟩;have hne : ∀ d ∈ Δ, ∀ b', d.foot = some b' → b ≠ b' := fun d hd b' e e' => hp.1 d hd b rfl (e' ▸ e);refine ⟨fun d hd => ?_, fun b' ⟨d, hd, e⟩ => ?_, List.pairwise_cons.2 ⟨hp.1, hp.2⟩⟩
 ·rcases List.mem_cons.1 hd with rfl | hd
  ·exact put_at hb.2
  ·exact D.holds_mono (fun _ h => h) (fun b' hb' => put_other (fun e => hb.1 (by rw [e]; exact hb'))) d (fun b' e => put_other (hne d hd b' e)) (h.holds d (List.mem_cons_of_mem _ hd))
 ·rw [put_size];rcases List.mem_cons.1 hd with rfl | hd
  ·simp only [D.foot, Option.some.injEq] at e;subst e;exact hb
  ·exact h.own b' ⟨d, List.mem_cons_of_mem _ hd, e⟩

theorem Owns.tail {Δ : List D} {d : D} {S : FS} {w : World} (h : Owns (d :: Δ) S w) : Owns Δ S w :=
 ⟨fun e he => h.holds e (List.mem_cons_of_mem _ he), fun b ⟨e, he, hb⟩ => h.own b ⟨e, List.mem_cons_of_mem _ he, hb⟩, (List.pairwise_cons.1 h.apart).2⟩


theorem OwnsC.alloc {Δ : List D} {S : FS} {v : VW} (hd : ∀ b, S b → b < v.heap.size) (h : OwnsC Δ S v) (ob : Obj) : OwnsC (.raw v.heap.size ob :: Δ) S (v.upd (v.alloc ob)) :=
 h.of (step_alloc hd ob) (h.p.alloc hd ob) fun b ⟨d, hd', e⟩ => by
  rcases List.mem_cons.1 hd' with rfl | hd'
  ·
   simp only [D.foot, Option.some.injEq] at e
   exact .inr (by omega)
  ·
   exact .inl ⟨d, hd', e⟩
theorem OwnsC.put {Δ : List D} {S : FS} {v : VW} {b : Nat} {o : Obj} (ob : Obj) (hd : ∀ b, S b → b < v.heap.size) (h : OwnsC (.raw b o :: Δ) S v) : OwnsC (.raw b ob :: Δ) S (v.upd (v.putObj b ob)) :=
 h.of (step_put hd (X := feet (.raw b o :: Δ)) ⟨_, List.mem_cons_self .., rfl⟩ ob) h.p.put fun b' ⟨d, hd', e⟩ => by
  rcases List.mem_cons.1 hd' with rfl | hd'
  ·
   exact .inl ⟨_, List.mem_cons_self .., e⟩
  ·
   exact .inl ⟨d, List.mem_cons_of_mem _ hd', e⟩
theorem OwnsC.tail {Δ : List D} {d : D} {S : FS} {v : VW} (h : OwnsC (d :: Δ) S v) : OwnsC Δ S v := h.re h.p.tail feet_tl fun _ h => .inl h

/-- What happens to a state when its first resource, a raw block, is written. -/
theorem St.putRaw {c : Cx} {Γ : Ga} {Δ : List D} {a : Act} {w : VW} {b : Nat} {o : Obj} (ob : Obj) (h : St c Γ (.raw b o :: Δ) a w) : St c Γ (.raw b ob :: Δ) a (w.upd (w.putObj b ob)) := by
 obtain ⟨h1, h2, S, h3, h4, h5, h6⟩ := h;have hb := h5.own b ⟨_, List.mem_cons_self .., rfl⟩;refine ⟨h1, h2, S, h3.trans (CStep.of (step_put (X := fun x => x = b) h3.dom rfl ob)) (fun x e => by subst e; exact h4 x ⟨_, List.mem_cons_self .., rfl⟩), fun x ⟨d, hd, e⟩ => ?_, h5.put ob h3.dom, fun s r hl => A.mono (fun _ h => h) (fun x hx => put_other (fun e => hb.1 (by rw [e]; exact hx))) r (h6 s r hl)⟩;rcases List.mem_cons.1 hd with rfl | hd
 ·exact h4 x ⟨_, List.mem_cons_self .., e⟩
 ·exact h4 x ⟨d, List.mem_cons_of_mem _ hd, e⟩

/-! ### Steps on one's own raw block -/
section
variable {P : Program} {α : Type} {s : Sem α} {b : Nat} {o : Obj} {Δ : List D} {S : FS} {v : VW}
theorem raw_sg (hO : OwnsC (.raw b o :: Δ) S v) (hc : calm o = true) (hns : Ns P s) (h : ∀ w : World, w.heap[b]? = some o → ∃ x w1, s.run P w = .ok x w1) :
 ∃ x w', s.run P v = .ok x w' ∧ ∀ e ∈ s.events P v #[], EvOk v w'.heap.size e := by
 have hO1 : OwnsC [.raw b o] S v := OwnsC.part (F := Δ) hO
 refine hO1.sg (fun d hd => by rw [List.mem_singleton.1 hd]; exact hc) hns (h _ ?_)
 exact (spoil_owns hO1.p).holds _ (List.mem_singleton.2 rfl)
theorem raw_put {x : α} {ob : Obj} (hO : OwnsC (.raw b o :: Δ) S v) (hc : calm o = true) (hns : Ns P s) (h : ∀ w : World, w.heap[b]? = some o → s.run P w = .ok x (w.putObj b ob)) :
 s.run P v = .ok x (v.putObj b ob) ∧ Guar v (v.putObj b ob) (s.events P v #[]) := by
 have hr := h v (hO.holds _ (List.mem_cons_self ..))
 obtain ⟨x', w', h1, h2⟩ := raw_sg hO hc hns fun w hw => ⟨_, _, h w hw⟩
 rw [hr] at h1
 cases h1
 have hf := hO.far b ⟨_, List.mem_cons_self .., rfl⟩
 exact ⟨hr, fun b' _ hz => put_other (fun e => by subst e; exact hz.elim hf.1 hf.2), by rw [put_size]; exact Nat.le_refl _, rfl, rfl, rfl, h2⟩
theorem raw_get {x : α} (hO : OwnsC (.raw b o :: Δ) S v) (hc : calm o = true) (hns : Ns P s) (h : ∀ w : World, w.heap[b]? = some o → s.run P w = .ok x w) :
 s.run P v = .ok x v ∧ Guar v v (s.events P v #[]) := by
 have hr := h v (hO.holds _ (List.mem_cons_self ..))
 obtain ⟨x', w', h1, h2⟩ := raw_sg hO hc hns fun w hw => ⟨_, _, h w hw⟩
 rw [hr] at h1
 cases h1
 exact ⟨hr, fun _ _ _ => rfl, Nat.le_refl _, rfl, rfl, rfl, h2⟩

theorem ns_getLoop {l : Nat} : Ns P (Instr.getLoop l) := by
 unfold Instr.getLoop;refine ns_getObj fun o _ => ?_;cases o <;> trivial
theorem ns_yield {l : Nat} {args : Array Value} : Ns P (Instr.yield l args) := by
 unfold Instr.yield;refine ns_bind ns_getLoop fun r => ?_;split
 ·trivial
 ·exact ns_pure
theorem ns_beginRound {l : Nat} : Ns P (Instr.beginRound l) := by
 unfold Instr.beginRound;refine ns_bind ns_getLoop fun r => ns_bind (ns_setObj rfl) fun _ => ?_;split
 ·exact ns_pure
 all_goals exact ns_panic
theorem ns_endRound {l : Nat} {j : Option Code} : Ns P (Instr.endRound l j) := by
 unfold Instr.endRound;exact ns_bind ns_getLoop fun r => ns_bind (ns_setObj rfl) fun _ => ns_pure
theorem ns_endLoop {l : Nat} : Ns P (Instr.endLoop l) := by
 unfold Instr.endLoop;refine ns_bind ns_getLoop fun r => ?_;split
 ·exact ns_bind ns_panic fun _ => ns_bind (ns_setObj rfl) fun _ => ns_pure
 ·exact ns_bind (ns_setObj rfl) fun _ => ns_pure
theorem ns_takeDeferred {b : Nat} : Ns P (Instr.takeDeferred b) := by
 unfold Instr.takeDeferred;refine ns_getObj fun o _ => ?_;split
 ·exact ns_bind (ns_setObj rfl) fun _ => ns_pure
 ·trivial
theorem ns_enterLoop {fn : FuncId} {tmps : Array Value} {ps : Array Tmp} {asg bd : Code} : Ns P (Instr.enterLoop fn tmps ps asg bd none) := by
 unfold Instr.enterLoop;exact ⟨rfl, fun _ => ⟨rfl, fun _ => trivial⟩⟩
end

/-! ### yield -/
/-- **A round's contract**: the value yield, called with these. -/
def YT {P : Program} (M : Md P) (l : Nat) (as : List A) (Δ : List D) {X : Type} (R : X → A × List D) : Prop :=
 ∀ (S : FS) (w : VW) (vs : List Value), (∀ b, S b → b < w.heap.size) → All2 S w as vs → OwnsC Δ S w →
  ∃ fn tm asg bd, (Instr.yield l vs.toArray).run P w = .ok (.round l fn tm asg bd) w ∧ Guar w w ((Instr.yield l vs.toArray).events P w #[]) ∧ CRound M l fn tm asg bd w (RPost S w Δ R)

section
variable {P : Program} {M : Md P} {o : Oper} {x : Operand} {Δ : List D} {X : Type} {R : X → A × List D}
theorem o_yield {l : Nat} {as : List A} {c : Call} (xs : List Operand) {ts : Array TypeId} (ho : o.op = .call c) (hc : c = { callee := .value x, args := xs.toArray, argTypes := ts }) (hlen : xs.length = as.length) (h : YT M l as Δ R) :
 OpT M o ((x, .eq (.func (.yield l) #[] #[])) :: xs.zip as) Δ R := by
 have hnd : nd o.op = true := by simp only [nd, *]
 refine ⟨hnd, fun ro S w a next Q hd hN hO k v1 hr => ?_⟩
 rw [Oper.semAt_eq _ _ _ (fun c e => by rw [e] at hnd; cases hnd)]
 obtain ⟨fn, tm, asg, bd, h1, h2, h3⟩ := h S v1 _ (fun b hb => Nat.lt_of_lt_of_le (hd b hb) hr.size) (All2.of hlen (Needs.rely hd hO.sees hr hN.2)) (hO.rely hd hr)
 have he : execOp a.eval o = Instr.yield l (xs.map a.eval).toArray := by
  have e1 : a.eval x = .func (.yield l) #[] #[] := hN.1;simp [execOp, ho, hc, resolve, e1, Deferred.ofValue, invoke]
 rw [he]
 refine ⟨by unfold Sg; rw [h1]; exact h2, ?_⟩
 rw [h1]
 simp only [upC]
 refine CRound.mono (v := v1) h3 ?_
 rintro e w' ⟨x, S', v, rfl, h1, h2, h3, h4⟩
 exact k x S' w' v ((CStep.rely hd hr).trans h1 fun b hb => .inl hb) h2 h3 fun b hb => (h4 b hb).imp id (Nat.le_trans hr.size)
end

/-- The entries of a frame that say a value. -/
def Vals (tm : Array Value) : Ga → Prop
 | [] => True
 | (s, r) :: l => r = .eq (tm.getD s undef) ∧ Vals tm l
theorem Vals.lk {tm : Array Value} : ∀ {Γ : Ga} {s : Nat} {r : A}, Vals tm Γ → lk Γ s = some r → r = .eq (tm.getD s undef)
 | (s0, r0) :: l, s, r, h, hl => by
  simp only [K.lk] at hl
  split at hl
  ·
   rename_i e; subst e; cases hl; exact h.1
  ·
   exact Vals.lk h.2 hl


/-! ### Rounds -/
section
variable {P : Program} {main : Bool} {b c : Frame} {a : Act} {k : List Item} {cs : List Frame} {w w' : World} {l : Nat} {x : Value}
theorem g_begin (hb : b.roundOf = some l) (hr : (Instr.beginRound l).run P w = .ok () w') : ∃ es, (∀ e ∈ es, e ∈ (Instr.beginRound l).events P w #[]) ∧ ∀ main, stepG P main (Gr (b.atR a (.beginRound :: k)) cs) w = .go (Gr (b.atR a k) cs) w' es := by
 refine ⟨seen P b.fn (if b.kind == .early then #[] else (Instr.beginRound l).events P w #[]), fun e hm => ?_, fun main => ?_⟩
 ·have := Conc.mem_seen hm;split at this
  ·simp at this
  ·exact this
 ·simp [stepG, stepG.exec, stepG.apply, Frame.atR, hb, hr, Frame.finish, GStep.after]
theorem g_out (j : Option Code) (k : List Item) (hb : b.roundOf = some l) (hk : b.kind = .normal)
 (hj : (k = [] ∧ j = none) ∨ (∃ k', k = .code .ret :: k' ∧ j = some .ret) ∨ (∃ id k', k = .code (.exit id) :: k' ∧ exitTo id k' = none ∧ j = some (.exit id)) ∨ (∃ i k', k = .code (.goto i) :: k' ∧ gotoIn i k' = none ∧ j = some (.goto i)))
 (hr : (Instr.endRound l j).run P w = .ok x w') :
 ∃ es, (∀ e ∈ es, e ∈ (Instr.endRound l j).events P w #[]) ∧ ∀ main, stepG P main (Gr (b.atR a k) (c :: cs)) w = .go (Gr (c.finish x) cs) w' es := by
 refine ⟨seen P b.fn ((Instr.endRound l j).events P w #[]), fun e hm => Conc.mem_seen hm, fun main => ?_⟩
 rcases hj with ⟨rfl, rfl⟩ | ⟨k', rfl, rfl⟩ | ⟨id, k', rfl, h3, rfl⟩ | ⟨i, k', rfl, h3, rfl⟩
 ·
  simp [stepG, stepG.exec, Frame.atR, hb, hr, doReturn, hk, GStep.after]
 ·
  simp [stepG, stepG.exec, Frame.atR, hb, hr, doReturn, hk, GStep.after]
 ·
  simp [stepG, stepG.exec, Frame.atR, hb, hr, doReturn, hk, GStep.after, h3]
 ·
  simp [stepG, stepG.exec, Frame.atR, hb, hr, doReturn, hk, GStep.after, h3]
end

/-- What a round's assignment must come to: the record is ready, and becomes busy; the body. -/
def rdBegin {P : Program} (M : Md P) (l : Nat) (bd : Code) (Q : Exit → Act → VW → Prop) (a : Act) (w : VW) : Prop :=
 ∀ v1, Rely w v1 → ∃ w', (Instr.beginRound l).run P v1 = .ok () w' ∧ Guar v1 w' ((Instr.beginRound l).events P v1 #[]) ∧ bd.wk M (some l) Q a (v1.upd w')

theorem JN.begin {c : Cx} {l : Nat} {rec : Loop} {bd : Code} {Q : Exit → Act → VW → Prop} {Γ : Ga} {Δ : List D} (hc : c.rd = some l) (hs : rec.state = .ready) (h : JC c bd Q Γ (.raw l (.loop { rec with state := .busy }) :: Δ)) :
 JN c (rdBegin c.M l bd Q) Γ (.raw l (.loop rec) :: Δ) := by
 intro a w st v1 hr
 have st1 := st.rely hr
 obtain ⟨_, _, S, h3, _, h5, _⟩ := st1
 obtain ⟨r1, r2⟩ := raw_put (P := c.P) (ob := .loop { rec with state := .busy }) h5 rfl ns_beginRound fun w hw => run_beginRound hw hs
 refine ⟨_, r1, r2, ?_⟩
 have := h a _ (St.putRaw (.loop { rec with state := .busy }) (st.rely hr))
 rwa [hc] at this

/-- What a round's body must come to. -/
def rdEnd (P : Program) (l : Nat) (R : Ending → VW → Prop) (j : Option Code) (v : VW) : Prop :=
 ∀ v1, Rely v v1 → ∃ x w', (Instr.endRound l j).run P v1 = .ok x w' ∧ Guar v1 w' ((Instr.endRound l j).events P v1 #[]) ∧ R (.returned x) (v1.upd w')
def roundPost (P : Program) (l : Nat) (R : Ending → VW → Prop) : Exit → Act → VW → Prop
 | .normal, _, v => rdEnd P l R none v
 | .ret, _, v => rdEnd P l R (some .ret) v
 | .exit id, _, v => rdEnd P l R (some (.exit id)) v
 | .goto i, _, v => rdEnd P l R (some (.goto i)) v
 | _, _, _ => False

/-- **A round, out of its body's walk.** -/
theorem YT.of {P : Program} {M : Md P} {N l p : Nat} {rec : Loop} {as : A} {Δ : List D} {Γ : Ga} {X : Type} {R : X → A × List D} (hp : rec.params = #[p]) (hN : rec.tmps.size = N) (hpN : p < N) (hΓ : Vals rec.tmps Γ)
 (h : ∀ S w, JC ⟨P, N, S, w, feet (.raw l (.loop rec) :: Δ), some l, [], M⟩ rec.assign (Ex.thn (rdBegin M l rec.body (roundPost P l (RPost S w (.raw l (.loop rec) :: Δ) R))) (fun _ _ _ => False)) ((p, as) :: Γ) (.raw l (.loop rec) :: Δ)) :
 YT M l [as] (.raw l (.loop rec) :: Δ) R := by
 intro S w vs hd hall hO
 obtain ⟨v, vs', rfl, hv, hn⟩ := hall
 have hn : vs' = [] := hn
 subst hn
 have hst : St ⟨P, N, S, w, feet (.raw l (.loop rec) :: Δ), some l, [], M⟩ ((p, as) :: Γ) (.raw l (.loop rec) :: Δ) { tmps := rec.tmps.setIfInBounds p v, defers := [] } w := by
  refine ⟨rfl, by simpa using hN, S, CStep.refl hd, fun b hb => .inl hb, hO, fun s r hl => ?_⟩;simp only [lk] at hl;split at hl
  ·rename_i e;subst e;cases hl;simpa [Array.getD_eq_getD_getElem?, Array.getElem?_setIfInBounds, hN, hpN] using hv
  ·rename_i e;rw [hΓ.lk hl];show _ = _;simp [Array.getD_eq_getD_getElem?, Array.getElem?_setIfInBounds_ne e]
 have hy : ∀ w : World, w.heap[l]? = some (.loop rec) → (Instr.yield l [v].toArray).run P w = .ok (.round l rec.fn (rec.tmps.setIfInBounds p v) rec.assign rec.body) w := fun w hb => by
  have := run_yield (P := P) (w := w) (args := #[v]) hb (by simp [hp]);rw [this];simp [hp]
 obtain ⟨g1, g2⟩ := raw_get hO rfl ns_yield hy
 refine ⟨rec.fn, rec.tmps.setIfInBounds p v, rec.assign, rec.body, g1, g2, ?_⟩
 intro T hT c cs hret _ _
 have bc := M.bc T hT
 let b : Frame := { (default : Frame) with fn := rec.fn, kind := .normal, roundOf := some l }
 have out : ∀ (j : Option Code) (a' : Act) (v' : VW) (k : List Item), rdEnd P l (RPost S w (.raw l (.loop rec) :: Δ) R) j v' →
  ((k = [] ∧ j = none) ∨ (∃ k', k = .code .ret :: k' ∧ j = some .ret) ∨ (∃ id k', k = .code (.exit id) :: k' ∧ exitTo id k' = none ∧ j = some (.exit id)) ∨ (∃ i k', k = .code (.goto i) :: k' ∧ gotoIn i k' = none ∧ j = some (.goto i))) →
  T v' (b.atR a' k) (c :: cs) := fun j a' v' k q hj => bc.step _ _ _ fun v1 hr => by
  obtain ⟨x, w', q1, q2, q3⟩ := q v1 hr
  obtain ⟨es, e1, e2⟩ := g_out (c := c) (cs := cs) (a := a') (b := b) j k rfl rfl hj q1
  exact ⟨_, _, w', es, e2, q2.sub e1, hret x _ q3⟩
 have hfr : Frame.round l rec.fn (rec.tmps.setIfInBounds p v) rec.assign rec.body .normal = b.atR { tmps := rec.tmps.setIfInBounds p v, defers := [] } [.code rec.assign, .beginRound, .code rec.body] := rfl
 rw [hfr]
 refine h S w _ _ hst T hT b _ (c :: cs) rfl fun e a' v' q => ?_
 cases e with
 | normal =>
  refine bc.step _ _ _ fun v1 hr => ?_;obtain ⟨w', q1, q2, q3⟩ := q v1 hr;obtain ⟨es, e1, e2⟩ := g_begin (b := b) (a := a') (k := [.code rec.body]) (cs := c :: cs) rfl q1;refine ⟨_, _, w', es, e2, q2.sub e1, q3 T hT b [] (c :: cs) rfl fun e a' v' q => ?_⟩;cases e with
  | normal => exact out none a' v' [] q (.inl ⟨rfl, rfl⟩)
  | ret => exact ⟨fun h => (by cases h), fun _ k1 => out (some .ret) a' v' _ q (.inr (.inl ⟨k1, rfl, rfl⟩))⟩
  | exit id => exact .inr ⟨rfl, rfl, fun k1 hk => out (some (.exit id)) a' v' _ q (.inr (.inr (.inl ⟨id, k1, rfl, hk, rfl⟩)))⟩
  | goto i => exact .inr ⟨rfl, rfl, fun k1 hk => out (some (.goto i)) a' v' _ q (.inr (.inr (.inr ⟨i, k1, rfl, hk, rfl⟩)))⟩
  | panic ch => exact q.elim
  | outgrown => exact q.elim
 | ret => exact q.elim
 | exit id => exact q.elim
 | goto i => exact q.elim
 | panic ch => exact q.elim
 | outgrown => exact q.elim

theorem rd_end {P : Program} {M : Md P} {N l : Nat} {rec : Loop} {S : FS} {w0 : VW} {Δ0 Δ : List D} {Γ : Ga} {X : Type} {R : X → A × List D} {a : Act} {w : VW} (j : Option Code) (x : X) (k : Nat)
 (hR : R x = (.eq (.bool j.isNone), .raw l (.loop { rec with state := if j.isNone then .ready else .done, pending := j }) :: Δ.take k)) (st : St ⟨P, N, S, w0, feet Δ0, some l, [], M⟩ Γ (.raw l (.loop rec) :: Δ) a w) : rdEnd P l (RPost S w0 Δ0 R) j w := by
 intro v1 hr
 have st1 := st.rely hr
 obtain ⟨_, _, S1, _, _, h5, _⟩ := st1
 obtain ⟨r1, r2⟩ := raw_put (P := P) (x := .bool j.isNone) (ob := .loop { rec with state := if j.isNone then .ready else .done, pending := j }) h5 rfl ns_endRound fun w hw => run_endRound j hw
 refine ⟨_, _, r1, r2, ?_⟩
 have st' := St.putRaw (.loop { rec with state := if j.isNone then .ready else .done, pending := j }) (st.rely hr)
 obtain ⟨h1, h2, S', h3, h4, h5, h6⟩ := (SE.drop (k + 1)) a _ st'
 exact ⟨x, S', _, rfl, h3, by rw [hR]; rfl, by rw [hR]; exact h5, by rw [hR]; exact h4⟩

/-- The round's end: on to the next. -/
theorem JN.roundN {P : Program} {M : Md P} {N l : Nat} {rec : Loop} {S : FS} {w0 : VW} {Δ0 Δ : List D} {Γ : Ga} {X : Type} {R : X → A × List D} (x : X) (k : Nat)
 (hR : R x = (.eq (.bool true), .raw l (.loop { rec with state := .ready, pending := none }) :: Δ.take k)) :
 JN ⟨P, N, S, w0, feet Δ0, some l, [], M⟩ (roundPost P l (RPost S w0 Δ0 R) .normal) Γ (.raw l (.loop rec) :: Δ) := fun _ _ st => rd_end none x k hR st

/-- The round's end: by a return. -/
theorem JN.roundR {P : Program} {M : Md P} {N l : Nat} {rec : Loop} {S : FS} {w0 : VW} {Δ0 Δ : List D} {Γ : Ga} {X : Type} {R : X → A × List D} (x : X) (k : Nat)
 (hR : R x = (.eq (.bool false), .raw l (.loop { rec with state := .done, pending := some .ret }) :: Δ.take k)) :
 JN ⟨P, N, S, w0, feet Δ0, some l, [], M⟩ (roundPost P l (RPost S w0 Δ0 R) .ret) Γ (.raw l (.loop rec) :: Δ) := fun _ _ st => rd_end (some .ret) x k hR st
end K
end Go.Proofs.Ytopgphikdglphaa

/- The calculus, part 21 (in company): the statement that ranges over a function; a body that leaves with a mark. -/
namespace Go.Proofs.Ytopgphikdglphaa
namespace K
open Go

/-- The record of a loop, its function having ended. -/
@[reducible] def recEnd (rec : Loop) (j : Option Code) : Loop := { rec with state := if j.isNone then .ready else .done, pending := j }

/-- What a loop that was left by a jump goes on with. -/
def onJump (j : Option Code) (M : Prop) (N : Code → Prop) : Prop := match j with
 | none => M
 | some jc => N jc
theorem stop_cases {b : Bool} {M : Prop} {N : Code → Prop} (h0 : b = false → M) (h1 : b = true → N .ret) : onJump (cond b (some .ret) none) M N := by
 cases b
 ·exact h0 rfl
 ·exact h1 rfl

def markOf (dl : Nat) : Deferred := { target := .collected dl, args := #[] }

theorem sem_range {f : Operand} {g : FuncId} {us : Array Value} {y : Value} {ρ : Operand → Value} (h1 : ρ f = .func (.func g) #[] us) (h2 : ρ (.const y) = y) :
 (do let d ← resolve ρ { callee := .value f, args := #[.const y], argTypes := #[] } 0; invoke d.target d.args : Sem Next) = callFunc g (#[y] ++ us) := by
 simp [resolve, h1, h2, Deferred.ofValue, invoke]

section
variable {P : Program} {b : Frame} {a : Act} {k : List Item} {cs : List Frame} {w : World}
theorem enter_runT {g : FuncId} {args : Array Value} (hen : EnterOk P g) (w : World) : (callFunc g args).runT P w #[] = (.ok (.enter g args) w, #[]) := by
 obtain ⟨fn, h1, h2, h3⟩ := hen
 show ((match P.funcs[g]? with
  | none => stuck "call: no such function"
  | some fn => if fn.name == "runtime.NumGoroutine" then pure .numGoroutine else if fn.body.isNone then _ else pure (.enter g args) : Sem Next)).runT P w #[] = _
 rw [h1];simp only [h2, h3, Bool.false_eq_true, if_false];rfl
/-- The loop's record is made, and the function is entered. -/
theorem g_range {f : Operand} {g : FuncId} {us : Array Value} {ps : Array Tmp} {asg bd : Code} (hb : b.roundOf = none) (hf : a.eval f = .func (.func g) #[] us) (hen : EnterOk P g) :
 ∃ es, (∀ e ∈ es, e ∈ (Instr.enterLoop b.fn a.tmps ps asg bd none).events P w #[]) ∧ ∀ main, stepG P main (Gr (b.atR a (.code (.rangeFunc f ps asg bd) :: k)) cs) w =
  .go (Gr (Frame.enter P g (#[.func (.yield (w.heap.size + 1)) #[] #[]] ++ us) .normal) (b.atR { a with defers := markOf w.heap.size :: a.defers } (.inRangeFunc (w.heap.size + 1) :: k) :: cs))
   ((w.alloc (.deferred (some []))).alloc (.loop { state := .ready, pending := none, fn := b.fn, tmps := a.tmps, params := ps, assign := asg, body := bd, defers := w.heap.size })) es := by
 refine ⟨seen P b.fn ((Instr.enterLoop b.fn a.tmps ps asg bd none).events P w #[]) ++ seen P b.fn (if b.kind == .early then #[] else #[]), fun e hm => ?_, fun main => ?_⟩
 ·
  rcases Array.mem_append.1 hm with hm | hm
  ·exact Conc.mem_seen hm
  ·have := Conc.mem_seen hm;split at this <;> simp at this
 ·
  have hrT : (Instr.enterLoop b.fn a.tmps ps asg bd none).runT P w #[] = (.ok (w.heap.size + 1, [markOf w.heap.size]) ((w.alloc (.deferred (some []))).alloc (.loop { state := .ready, pending := none, fn := b.fn, tmps := a.tmps, params := ps, assign := asg, body := bd, defers := w.heap.size })), (Instr.enterLoop b.fn a.tmps ps asg bd none).events P w #[]) := by
   rw [Sem.runT_eq, run_enterLoop_outer]; rfl
  have he1 : (b.atR { a with defers := markOf w.heap.size :: a.defers } (.inRangeFunc (w.heap.size + 1) :: k)).eval f = .func (.func g) #[] us := by rw [Frame.eval_atR]; exact hf
  have hsem := sem_range (y := .func (.yield (w.heap.size + 1)) #[] #[]) he1 rfl;simp only [Frame.atR, hb] at hsem;simp only [stepG, stepG.exec, Frame.atR, hb, hrT, List.cons_append, List.nil_append, hsem, stepG.apply, if_true, enter_runT hen, GStep.after, Array.append_empty]
/-- The function has come back. -/
theorem g_endRange {l : Nat} {j : Option Code} {w' : World} (hr : (Instr.endLoop l).run P w = .ok j w') : ∃ es, (∀ e ∈ es, e ∈ (Instr.endLoop l).events P w #[]) ∧ ∀ main, stepG P main (Gr (b.atR a (.endRangeFunc l :: k)) cs) w = .go (Gr (b.atR a ((j.map Item.code).toList ++ k)) cs) w' es := by
 refine ⟨seen P b.fn ((Instr.endLoop l).events P w #[]), fun e hm => Conc.mem_seen hm, fun main => ?_⟩;simp [stepG, stepG.exec, Frame.atR, hr, GStep.after]
/-- A mark is come to. -/
theorem g_mark {fr : Frame} {dl : Nat} {ds calls : List Deferred} {w' : World} (hm : fr.mode = .returning) (hd : fr.defers = markOf dl :: ds) (hr : (Instr.takeDeferred dl).run P w = .ok calls w') :
 ∃ es, (∀ e ∈ es, e ∈ (Instr.takeDeferred dl).events P w #[]) ∧ ∀ main, stepG P main (Gr fr cs) w = .go (Gr { fr with defers := calls ++ ds } cs) w' es := by
 refine ⟨seen P fr.fn ((Instr.takeDeferred dl).events P w #[]), fun e hm => Conc.mem_seen hm, fun main => ?_⟩
 simp [stepG, unwind, hm, hd, markOf, hr, GStep.after]
end

theorem finish_range {b : Frame} {a : Act} {k : List Item} {l : Nat} {x : Value} : (b.atR a (.inRangeFunc l :: k)).finish x = b.atR a (.endRangeFunc l :: k) := rfl

theorem JC.rangeFunc {c : Cx} {Q : Exit → Act → VW → Prop} {Γ : Ga} {Δ F : List D} {s g p : Nat} {cs : List Value} {asg bd : Code} {X : Type} {J : X → Option Code} {E : X → List D} {r0 : X → A} (hrd : c.rd = none)
 (hl : lk Γ s = some (.eq (.func (.func g) #[] cs.toArray))) (hen : EnterOk c.P g)
 (hcall : ∀ (rec : Loop), rec.params = #[p] → rec.assign = asg → rec.body = bd → rec.state = .ready → rec.pending = none → rec.tmps.size = c.N → (∀ s v, lk Γ s = some (.eq v) → rec.tmps.getD s undef = v) → ∀ l,
  CtrM c.M g (.eq (.func (.yield l) #[] #[]) :: cs.map .eq) (.raw l (.loop rec) :: Δ) (fun x => (r0 x, .raw l (.loop (recEnd rec (J x))) :: E x)))
 (hnext : ∀ dl x, onJump (J x) (JN { c with dfs := markOf dl :: c.dfs } (Q .normal) Γ (.raw dl (.deferred (some [])) :: (E x ++ F)))
  (fun jc => JC { c with dfs := markOf dl :: c.dfs } jc Q Γ (.raw dl (.deferred (some [])) :: (E x ++ F)))) : JC c (.rangeFunc (.tmp s) #[p] asg bd) Q Γ (Δ ++ F) := by
 intro a w0 st0 T hT b k fs hb hq
 have bc := c.M.bc T hT
 have hb0 : b.roundOf = none := hb.trans hrd
 refine bc.step _ _ _ fun w hrel => ?_
 obtain ⟨h1, h2, S, h3, h4, h5, h6⟩ := st0.rely hrel
 have hv : a.eval (.tmp s) = .func (.func g) #[] cs.toArray := h6 s _ hl
 obtain ⟨es, e1, e2⟩ := g_range (k := k) (cs := fs) (w := w.toWorld) (ps := #[p]) (asg := asg) (bd := bd) hb0 hv hen
 let dl := w.heap.size
 let rec0 : Loop := { state := .ready, pending := none, fn := b.fn, tmps := a.tmps, params := #[p], assign := asg, body := bd, defers := dl }
 let w1 : World := (w.alloc (.deferred (some []))).alloc (.loop rec0)
 have hsz1 : (w.alloc (.deferred (some []))).heap.size = dl + 1 := by simp [dl]
 have hd1 : ∀ b, S b → b < (w.alloc (.deferred (some []))).heap.size := fun b hb => by have := h3.dom b hb; omega
 have hK1 : ∀ x, x < w.heap.size → w1.heap[x]? = w.heap[x]? := fun x hx =>
  (alloc_old (w.alloc (.deferred (some []))) (.loop rec0) x (by rw [hsz1]; exact Nat.lt_succ_of_lt hx)).trans (alloc_old w (.deferred (some [])) x hx)
 have hG : Guar w w1 es := by
  have h0 : OwnsC [] S w := h5.re owns_nil (fun b hb => (feet_nil hb).elim) (fun _ h => .inl h);have hrun : ∀ w' : World, ∃ x w1, (Instr.enterLoop b.fn a.tmps #[p] asg bd none).run c.P w' = .ok x w1 := fun w' => ⟨_, _, run_enterLoop_outer ..⟩;obtain ⟨x, w', r1, r2⟩ := h0.sg (fun d hd => by simp at hd) ns_enterLoop (hrun _);rw [run_enterLoop_outer] at r1;cases r1;exact ⟨fun x hx _ => hK1 x hx, by show w.heap.size ≤ w1.heap.size; simp [w1]; omega, rfl, rfl, rfl, fun e he => r2 e (e1 e he)⟩
 refine ⟨_, _, w1, es, e2, hG, ?_⟩
 have hA := (h5.alloc h3.dom (.deferred (some []))).alloc hd1 (.loop rec0)
 have hS1 : CStep c.X c.S0 c.w0 S (w.upd w1) := (h3.trans (CStep.of (step_alloc (X := fun _ => False) h3.dom _)) (fun b hb => hb.elim)).trans (CStep.of (v := w.upd (w.alloc (.deferred (some [])))) (step_alloc (X := fun _ => False) hd1 _)) (fun b hb => hb.elim)
 have hd2 : ∀ b, S b → b < w1.heap.size := hS1.dom
 have hA : OwnsC (.raw (dl + 1) (.loop rec0) :: .raw dl (.deferred (some [])) :: (Δ ++ F)) S (w.upd w1) := by
  have e : (w.upd (w.alloc (.deferred (some [])))).heap.size = dl + 1 := hsz1;rw [e] at hA;exact hA
 have hp : (D.raw (dl + 1) (.loop rec0) :: .raw dl (.deferred (some [])) :: (Δ ++ F)).Perm ((.raw (dl + 1) (.loop rec0) :: Δ) ++ (.raw dl (.deferred (some [])) :: F)) := by
  refine List.Perm.cons _ ?_;exact (List.perm_middle (l₁ := Δ)).symm
 have hO := hA.perm hp
 have hOc : OwnsC (.raw (dl + 1) (.loop rec0) :: Δ) S (w.upd w1) := hO.part
 have hfeet : ∀ b, feet ((D.raw (dl + 1) (.loop rec0) :: Δ) ++ (.raw dl (.deferred (some [])) :: F)) b → c.X b ∨ c.w0.heap.size ≤ b := fun b ⟨d, hd, e⟩ => by
  have hle : c.w0.heap.size ≤ dl := h3.size;rcases List.mem_append.1 hd with hd | hd
  ·rcases List.mem_cons.1 hd with rfl | hd
   ·simp only [D.foot, Option.some.injEq] at e; exact .inr (by omega)
   ·exact h4 b ⟨d, List.mem_append.2 (.inl hd), e⟩
  ·rcases List.mem_cons.1 hd with rfl | hd
   ·simp only [D.foot, Option.some.injEq] at e; exact .inr (by omega)
   ·exact h4 b ⟨d, List.mem_append.2 (.inr hd), e⟩
 have hG1 : ∀ s r, lk Γ s = some r → r.holds S w1 (a.tmps.getD s undef) := fun s r hl => A.mono (fun _ h => h) (fun b hb => hK1 b (h3.dom b hb)) r (h6 s r hl)
 have heq : ∀ vs : List Value, All2 S w1 (vs.map .eq) vs := fun vs => by
  induction vs with
  | nil => rfl
  | cons v vs ih => exact ⟨v, vs, rfl, rfl, ih⟩
 have hca := hcall rec0 rfl rfl rfl rfl rfl h2 (fun s v hl => h6 s _ hl) (dl + 1) .normal S (w.upd w1) (.func (.yield (dl + 1)) #[] #[] :: cs) hd2 ⟨_, _, rfl, rfl, heq cs⟩ hOc
 have harg : (#[Value.func (.yield (w.heap.size + 1)) #[] #[]] ++ cs.toArray) = (.func (.yield (dl + 1)) #[] #[] :: cs).toArray := by simp [dl]
 rw [harg]
 refine hca T hT _ fun e w' fr he hf hk hlv => ?_
 obtain ⟨x, S', v, rfl, g1, _, g3, g4⟩ := he
 refine leave_ret bc hlv hk ?_
 rw [finish_range]
 have hO2 := hO.frame hd2 g1 g3 g4
 have hS2 := hS1.trans g1 fun b ⟨d, hd, e⟩ => hfeet b ⟨d, List.mem_append.2 (.inl hd), e⟩
 have hK2 : Keep S w1 w' := fun b hb => g1.keep b (hd2 b hb) (hOc.sees b hb) fun hx => (hOc.own b hx).1 hb
 have hfeet2 : ∀ b, feet (.raw (dl + 1) (.loop (recEnd rec0 (J x))) :: E x ++ (.raw dl (.deferred (some [])) :: F)) b → c.X b ∨ c.w0.heap.size ≤ b := fun b ⟨d, hd, e⟩ => by
  rcases List.mem_append.1 hd with hd | hd
  ·rcases g4 b ⟨d, hd, e⟩ with hh | hh
   ·obtain ⟨d', hd', e'⟩ := hh;exact hfeet b ⟨d', List.mem_append.2 (.inl hd'), e'⟩
   ·exact .inr (Nat.le_trans hS1.size hh)
  ·exact hfeet b ⟨d, List.mem_append.2 (.inr hd), e⟩
 have hst : St { c with dfs := markOf dl :: c.dfs } Γ (.raw (dl + 1) (.loop (recEnd rec0 (J x))) :: (E x ++ (.raw dl (.deferred (some [])) :: F))) { a with defers := markOf w.heap.size :: a.defers } w' :=
  ⟨by simp [h1, dl], h2, S', hS2, hfeet2, hO2, fun s r hl => A.mono g1.sub hK2 r (hG1 s r hl)⟩
 refine bc.step _ _ _ fun v1 hr1 => ?_
 have hst1 := hst.rely hr1
 obtain ⟨_, _, S3, p3, _, p5, _⟩ := hst1
 have hnb : (recEnd rec0 (J x)).state ≠ .busy := by
  show (if (J x).isNone then LoopState.ready else .done) ≠ .busy;split <;> simp
 obtain ⟨r1, r2⟩ := raw_put (P := c.P) (ob := .loop { recEnd rec0 (J x) with state := .exhausted }) p5 rfl ns_endLoop fun w hw => run_endLoop hw hnb
 obtain ⟨es', e1', e2'⟩ := g_endRange (b := b) (a := { a with defers := markOf w.heap.size :: a.defers }) (k := k) (cs := fs) r1
 refine ⟨_, _, _, es', e2', r2.sub e1', ?_⟩
 have hst2 := (hst.rely hr1).putRaw (.loop { recEnd rec0 (J x) with state := .exhausted })
 have hp2 : (E x ++ (D.raw dl (.deferred (some [])) :: F)).Perm (.raw dl (.deferred (some [])) :: (E x ++ F)) := List.perm_middle
 obtain ⟨q1, q2, S2, q3, q4, q5, q6⟩ := hst2
 have hst3 : St { c with dfs := markOf dl :: c.dfs } Γ (.raw dl (.deferred (some [])) :: (E x ++ F)) { a with defers := markOf w.heap.size :: a.defers } (v1.upd (v1.putObj (dl + 1) (.loop { recEnd rec0 (J x) with state := .exhausted }))) := by
  refine ⟨q1, q2, S2, q3, fun b hb => ?_, q5.tail.perm hp2, q6⟩;rw [feet_perm hp2.symm] at hb;obtain ⟨d, hd, e⟩ := hb;exact q4 b ⟨d, List.mem_cons_of_mem _ hd, e⟩
 have hn := hnext dl x
 have hpe : (recEnd rec0 (J x)).pending = J x := rfl
 rw [hpe]
 cases hj : J x with
 | none =>
  unfold onJump at hn;rw [hj] at hn hst3;exact hq _ _ _ (hn _ _ hst3)
 | some cc =>
  unfold onJump at hn;rw [hj] at hn hst3;exact hn _ _ hst3 T hT b k fs hb hq

/-! ### Marks -/
/-- What has to be right at the end of a function's body that may leave with a mark. -/
def bodyPostM (P : Program) (fn : Func) (R : Ending → VW → Prop) : Exit → Act → VW → Prop
 | .ret, a, v => bodyPost P fn R .ret a v ∨ ∃ dl, a.defers = [markOf dl] ∧ ∀ v1, Rely v v1 → ∃ w', (Instr.takeDeferred dl).run P v1 = .ok [] w' ∧ Guar v1 w' ((Instr.takeDeferred dl).events P v1 #[]) ∧ bodyPost P fn R .ret { a with defers := [] } (v1.upd w')
 | .normal, a, v => bodyPost P fn R .ret a v ∨ ∃ dl, a.defers = [markOf dl] ∧ ∀ v1, Rely v v1 → ∃ w', (Instr.takeDeferred dl).run P v1 = .ok [] w' ∧ Guar v1 w' ((Instr.takeDeferred dl).events P v1 #[]) ∧ bodyPost P fn R .ret { a with defers := [] } (v1.upd w')
 | .panic chain, a, v => a.defers = [] ∧ R (.panicked chain) v
 | _, _, _ => False

theorem JN.retM0 {c : Cx} {P : Program} {fn : Func} {R : Ending → VW → Prop} {Γ : Ga} {Δ : List D} (h : JN c (bodyPost P fn R .ret) Γ Δ) : JN c (bodyPostM P fn R .ret) Γ Δ := fun a w st => .inl (h a w st)

theorem JN.retM {P : Program} {M : Md P} {N dl : Nat} {S : FS} {w0 : VW} {X : Nat → Prop} {fn : Func} {R : Ending → VW → Prop} {Γ : Ga} {Δ : List D} (h : JN ⟨P, N, S, w0, X, none, [], M⟩ (bodyPost P fn R .ret) Γ Δ) :
 JN ⟨P, N, S, w0, X, none, [markOf dl], M⟩ (bodyPostM P fn R .ret) Γ (.raw dl (.deferred (some [])) :: Δ) := by
 intro a w st
 refine .inr ⟨dl, st.1, fun v1 hr => ?_⟩
 have st1 := st.rely hr
 obtain ⟨_, _, S1, _, _, p5, _⟩ := st1
 obtain ⟨r1, r2⟩ := raw_put (P := P) (x := ([] : List Deferred)) (ob := .deferred none) p5 rfl ns_takeDeferred fun w hw => run_takeDeferred hw
 refine ⟨_, r1, r2, ?_⟩
 have st2 := (st.rely hr).putRaw (.deferred none)
 obtain ⟨h1, h2, S', h3, h4, h5, h6⟩ := st2
 exact h _ _ ⟨rfl, h2, S', h3, fun b ⟨d, hd, e⟩ => h4 b ⟨d, List.mem_cons_of_mem _ hd, e⟩, h5.tail, h6⟩

/-- The frame at the entry, for a body's walk. -/
theorem St.entry {P : Program} {M : Md P} {as : List A} {Δ : List D} {N : Nat} {S : FS} {w : VW} {vs : List Value} (hn : Nat.ble as.length N = true) (hd : ∀ b, S b → b < w.heap.size) (hall : All2 S w as vs) (hO : OwnsC Δ S w) :
 St ⟨P, N, S, w, feet Δ, none, [], M⟩ (entry 0 as) Δ { tmps := vs.toArray ++ Array.replicate (N - vs.toArray.size) undef, defers := [] } w := by
 have hn := Nat.le_of_ble_eq_true hn
 refine ⟨rfl, ?_, S, CStep.refl hd, fun b hb => .inl hb, hO, fun s r hl => ?_⟩
 ·
  have := hall.length;simp only [Array.size_append, List.size_toArray, Array.size_replicate];omega
 ·
  obtain ⟨j, e, hj, hr⟩ := entry_spec hall hl;have e' : s = j := by omega
  subst e'
  have e2 : (vs.toArray ++ Array.replicate (N - vs.toArray.size) undef).getD s undef = vs.getD s undef := by
   simp [Array.getD_eq_getD_getElem?, Array.getElem?_append, hj]
  rw [e2];exact hr
theorem enter_at {P : Program} {f : Nat} {fn : Func} {C : Code} {args : Array Value} {kind : CallKind} (hf : P.funcs[f]? = some fn) (hb : fn.body = some C) :
 Frame.enter P f args kind = Frame.atR { (default : Frame) with fn := f, kind := kind } { tmps := args ++ Array.replicate (fn.ntmps - args.size) undef, defers := [] } [.code C] := by
 simp [Frame.enter, Frame.atR, hf, hb]
 rfl

/-- **A body's contract, with marks.** -/
theorem CtrM.ofM {P : Program} {M : Md P} {f : Nat} {fn : Func} {C : Code} {as : List A} {Δ : List D} {X : Type} {R : X → A × List D} (N : Nat) (hf : P.funcs[f]? = some fn) (hb : fn.body = some C) (hN : fn.ntmps = N) (hn : Nat.ble as.length N = true)
 (h : ∀ S w0, JC ⟨P, N, S, w0, feet Δ, none, [], M⟩ C (bodyPostM P fn (RPost S w0 Δ R)) (entry 0 as) Δ) : CtrM M f as Δ R := by
 subst hN
 intro kind S w vs hd hall hO T hT cs hc
 have bc := M.bc T hT
 rw [enter_at hf hb]
 refine h S w _ _ (St.entry hn hd hall hO) T hT _ [] cs rfl fun e a' v' q => ?_
 have fin : ∀ (a' : Act) (v' : VW) todo, bodyPost P fn (RPost S w Δ R) .ret a' v' → T v' { Frame.atR { (default : Frame) with fn := f, kind := kind } a' todo with mode := .returning } cs := fun a' v' todo ⟨q1, x, q2, q3⟩ => hc _ _ _ q3 rfl rfl ⟨rfl, q1, fn, hf, q2⟩
 have finM : ∀ todo, (bodyPost P fn (RPost S w Δ R) .ret a' v' ∨ ∃ dl, a'.defers = [markOf dl] ∧ ∀ v1, Rely v' v1 → ∃ w', (Instr.takeDeferred dl).run P v1 = .ok [] w' ∧ Guar v1 w' ((Instr.takeDeferred dl).events P v1 #[]) ∧ bodyPost P fn (RPost S w Δ R) .ret { a' with defers := [] } (v1.upd w')) →
  T v' { Frame.atR { (default : Frame) with fn := f, kind := kind } a' todo with mode := .returning } cs := fun todo q => by
  rcases q with q | ⟨dl, q1, q2⟩
  ·
   exact fin a' v' todo q
  ·
   refine bc.step _ _ _ fun v1 hr => ?_;obtain ⟨w', p1, p2, p3⟩ := q2 v1 hr;obtain ⟨es, e1, e2⟩ := g_mark (P := P) (fr := { Frame.atR { (default : Frame) with fn := f, kind := kind } a' todo with mode := .returning }) (cs := cs) (ds := []) rfl q1 p1;exact ⟨_, _, w', es, e2, p2.sub e1, fin { a' with defers := [] } _ todo p3⟩
 cases e with
 | normal => exact bc.move (fun _ _ => g_end rfl) (finM _ q)
 | ret => exact ⟨fun _ todo => finM todo q, fun h => by cases h⟩
 | panic chain => exact fun todo => hc _ _ _ q.2 rfl rfl ⟨rfl, q.1, fn, hf⟩
 | exit id => exact q.elim
 | goto l => exact q.elim
 | outgrown => exact q.elim
theorem Ctr.ofM {P : Program} {f : Nat} {fn : Func} {C : Code} {as : List A} {Δ : List D} {X : Type} {R : X → A × List D} (N : Nat) (hf : P.funcs[f]? = some fn) (hb : fn.body = some C) (hN : fn.ntmps = N) (hn : Nat.ble as.length N = true)
 (h : ∀ {M : Md P} (S : FS) (w0 : VW), JC ⟨P, N, S, w0, feet Δ, none, [], M⟩ C (bodyPostM P fn (RPost S w0 Δ R)) (entry 0 as) Δ) : Ctr P f as Δ R := fun _ => CtrM.ofM N hf hb hN hn h
end K
end Go.Proofs.Ytopgphikdglphaa

/- The calculus, part 22: resources behind resources that are not listed one by one; contracts over the same resources in another order. -/
namespace Go.Proofs.Ytopgphikdglphaa
namespace K
open Go

/-- A value of a type of integers, as an interface's. -/
theorem o_iface {P : Program} {M : Md P} {o : Oper} {x : Operand} {T : TypeId} {n : Int} (ho : o.op = .makeInterface T x) (hT : P.underlying T = some (.int .i64)) : OpT M o [(x, .eq (.int .i64 n))] [] (fun _ : Unit => (.eq (.iface T (.int .i64 n)), [])) :=
 .val0 fun S w a hN => by
  have e : a.eval x = .int .i64 n := hN.1
  refine ⟨_, ?_, rfl⟩
  simp [execOp, ho, e, Instr.makeInterface, run_underlying hT]

section
variable {c : Cx} {ops : Array Oper} {o : Oper} {l : List Oper} {Q : Exit → Act → VW → Prop} {Γ Γ' : Ga} {Δ Δ' F E pre pre' : List D} {N : List (Operand × A)} {d : Nat} {X : Type} {R : X → A × List D} {r : A}

/-- All resources are used. -/
theorem JO.stepA (hg : o.guard = none) (hd : o.dst = some d) (hdN : Nat.blt d c.N = true) (ht : OpT c.M o N Δ R) (hh : Has Γ N) (h : ∀ x, JO c ops l Q ((d, (R x).1) :: Γ) (R x).2) : JO c ops (o :: l) Q Γ Δ := by
 have := JO.stepG (c := c) (ops := ops) (o := o) (l := l) (Q := Q) (Γ := Γ) (Δ := Δ) (F := []) (N := N) (d := d) (R := R) (fun _ _ _ => wanted_none hg _) hd hdN ht hh (fun x => by rw [List.append_nil]; exact h x);rwa [List.append_nil] at this

/-- The last resources are used. -/
theorem JO.stepT (pre : List D) (hg : o.guard = none) (hd : o.dst = some d) (hdN : Nat.blt d c.N = true) (ht : OpT c.M o N Δ R) (hh : Has Γ N) (h : ∀ x, JO c ops l Q ((d, (R x).1) :: Γ) (pre ++ (R x).2)) : JO c ops (o :: l) Q Γ (pre ++ Δ) := by
 have h1 : JO c ops (o :: l) Q Γ (Δ ++ pre) := JO.stepG (fun _ _ _ => wanted_none hg _) hd hdN ht hh (fun x a w st => h x a w (st.perm List.perm_append_comm));exact fun a w st => h1 a w (st.perm List.perm_append_comm)

theorem feet_sub {Δ Δ' : List D} (h : ∀ d ∈ Δ', d ∈ Δ) {b : Nat} : feet Δ' b → feet Δ b := fun ⟨d, hd, e⟩ => ⟨d, h d hd, e⟩

theorem pick_mem {ks : List Nat} (hk : pickD Δ ks = some Δ') : ∀ d ∈ Δ', d ∈ Δ := fun d hd => by
 obtain ⟨k, _, e⟩ := mem_of_pickD hk d hd
 exact List.mem_of_getElem? e

theorem Owns.pick {S : FS} {w : World} {ks : List Nat} (hk : pickD Δ ks = some Δ') (hn : ks.Nodup) (h : Owns Δ S w) : Owns Δ' S w :=
 ⟨fun d hd => h.holds d (pick_mem hk d hd), fun b hb => h.own b (feet_sub (pick_mem hk) hb), pickD_pairwise (fun a b hab x e e' => hab x e' e) h.apart hn hk⟩

theorem OwnsC.pick {S : FS} {w : VW} {ks : List Nat} (hk : pickD Δ ks = some Δ') (hn : ks.Nodup) (h : OwnsC Δ S w) : OwnsC Δ' S w := h.re (h.p.pick hk hn) (fun _ hb => feet_sub (pick_mem hk) hb) fun _ h => .inl h

/-- What is kept, where a tail stands behind. -/
theorem SE.finT (pre : List D) (E : List D) (ks : List Nat) (hs : Sub Γ' Γ) (hk : pickD pre ks = some pre') (hn : ks.Nodup := by decide) : SE c Γ (pre ++ E) Γ' (pre' ++ E) := by
 rintro a w ⟨h1, h2, S, h3, h4, h5, h6⟩;have hm := pick_mem hk;have hap := List.pairwise_append.1 h5.apart;have hO : Owns pre' S w := Owns.pick hk hn h5.part.p
 have hsub : ∀ d ∈ pre' ++ E, d ∈ pre ++ E := fun d hd => by
  rcases List.mem_append.1 hd with hd | hd
  ·exact List.mem_append.2 (.inl (hm d hd))
  ·exact List.mem_append.2 (.inr hd)
 exact ⟨h1, h2, S, h3, fun b hb => h4 b (feet_sub hsub hb), h5.re ⟨fun d hd => h5.holds d (hsub d hd), fun b hb => h5.own b (feet_sub hsub hb), List.pairwise_append.2 ⟨hO.apart, hap.2.1, fun d hd d' hd' => hap.2.2 d (hm d hd) d' hd'⟩⟩ (fun b hb => feet_sub hsub hb) (fun _ h => .inl h), fun s r hl => h6 s r (hs.lk hl)⟩

/-- The same resources, in another order. -/
theorem RPost.pick {S : FS} {w : VW} {X : Type} {R R' : X → A × List D} {ks ks2 : List Nat} (hk : pickD Δ ks = some Δ') (h1 : ∀ x, (R' x).1 = (R x).1) (hk2 : ∀ x, pickD (R' x).2 ks2 = some (R x).2) (hn2 : ks2.Nodup) {e : Ending} {w' : VW}
 (h : RPost S w Δ' R' e w') : RPost S w Δ R e w' := by
 obtain ⟨x, S', v, he, g1, g2, g3, g4⟩ := h
 refine ⟨x, S', v, he, g1.mono (fun b hb => feet_sub (pick_mem hk) hb), by rw [← h1]; exact g2, g3.pick (hk2 x) hn2, fun b hb => ?_⟩
 rcases g4 b (feet_sub (pick_mem (hk2 x)) hb) with hh | hh
 ·
  exact .inl (feet_sub (pick_mem hk) hh)
 ·
  exact .inr hh

theorem CtrM.pick {P : Program} {M : Md P} {M : Md P} {f : Nat} {as : List A} {X : Type} {R R' : X → A × List D} (ks ks2 : List Nat) (h : CtrM M f as Δ' R') (hk : pickD Δ ks = some Δ') (hk2 : ∀ x, pickD (R' x).2 ks2 = some (R x).2) (h1 : ∀ x, (R' x).1 = (R x).1)
 (hn : ks.Nodup := by decide) (hn2 : ks2.Nodup := by decide) : CtrM M f as Δ R :=
 fun k S w vs hd hall hO => (h k S w vs hd hall (hO.pick hk hn)).mono fun _ _ hh => RPost.pick hk h1 hk2 hn2 hh
theorem Ctr.pick {P : Program} {M : Md P} {f : Nat} {as : List A} {X : Type} {R R' : X → A × List D} (ks ks2 : List Nat) (h : Ctr P f as Δ' R') (hk : pickD Δ ks = some Δ') (hk2 : ∀ x, pickD (R' x).2 ks2 = some (R x).2) (h1 : ∀ x, (R' x).1 = (R x).1)
 (hn : ks.Nodup := by decide) (hn2 : ks2.Nodup := by decide) : Ctr P f as Δ R := fun M => CtrM.pick (M := M) ks ks2 (h M) hk hk2 h1 hn hn2

theorem YT.pick {P : Program} {M : Md P} {i : Nat} {as : List A} {X : Type} {R R' : X → A × List D} (ks ks2 : List Nat) (h : YT M i as Δ' R') (hk : pickD Δ ks = some Δ') (hk2 : ∀ x, pickD (R' x).2 ks2 = some (R x).2) (h1 : ∀ x, (R' x).1 = (R x).1)
 (hn : ks.Nodup := by decide) (hn2 : ks2.Nodup := by decide) : YT M i as Δ R := fun S w vs hd hall hO => by
 obtain ⟨fn, tm, asg, bd, g1, g0, g2⟩ := h S w vs hd hall (hO.pick hk hn)
 exact ⟨fn, tm, asg, bd, g1, g0, g2.mono fun _ _ hh => RPost.pick hk h1 hk2 hn2 hh⟩

/-- A raw block, told by a property. -/
theorem SE.rawInv {b : Nat} {ob : Obj} (p : Obj → Prop) (hp : p ob) : SE c Γ (.raw b ob :: F) Γ (.inv b p :: F) := fun a w h =>
 h.swap (d := .raw b ob) (d' := .inv b p) (fun b' => Iff.rfl) fun S hs => ⟨ob, hs, hp⟩

/-- The return of all that is left. -/
theorem JN.retA {P : Program} {M : Md P} {S : FS} {w0 : VW} {Δ0 : List D} {X : Type} {R : X → A × List D} {N : Nat} {fn : Func} (x : X) (rs : List A)
 (hr : Res P Γ Δ fn.results.toList rs) (hR : R x = (resA rs, Δ)) : JN ⟨P, N, S, w0, feet Δ0, none, [], M⟩ (bodyPost P fn (RPost S w0 Δ0 R) .ret) Γ Δ :=
 JN.ret x rs Δ.length hr (by rw [hR, List.take_length])

/-- The second resource, an own slice that was made, is frozen at once. -/
theorem OpT.frzB {P : Program} {M : Md P} {TE : TypeId} {t : Ty} {dd : List t.den} {e : D} (h : OpT M o N Δ (fun v : Value => (.eq v, [e, .sl v TE t dd]))) : OpT M o N Δ (fun _ : Unit => (.rep (.slice t) dd, [e])) := by
 have h2 : OpT M o N Δ (fun v : Value => (.eq v, .sl v TE t dd :: [e])) := by
  refine ⟨h.1, fun ro S w a next Q hd hN hO k => h.2 ro S w a next Q hd hN hO fun x S' w' v hs hr ho hf => k x S' w' v hs hr (ho.perm (List.Perm.swap _ _ _)) fun b hb => hf b (by rwa [feet_perm (List.Perm.swap _ _ _)])⟩
 exact OpT.frz h2
end
end K
end Go.Proofs.Ytopgphikdglphaa

/- The calculus, part 23: a loop's body over an iterator, as a function that is not asked any more behind a stop. -/
namespace Go.Proofs.Ytopgphikdglphaa
namespace K
open Go

/-- The body of a loop over an iterator: the state, and whether it has been left. -/
def stopY {σ α : Type} (Y : σ → α → Option (σ × Bool)) : σ × Bool → α → Option ((σ × Bool) × Bool)
 | (_, true), _ => none
 | (s, false), p => (Y s p).bind fun r => some ((r.1, !r.2), r.2)

theorem stopY_some {σ α : Type} {Y : σ → α → Option (σ × Bool)} {q : σ × Bool} {p : α} {r : (σ × Bool) × Bool} (h : stopY Y q p = some r) : ∃ r', q.2 = false ∧ Y q.1 p = some r' ∧ r = ((r'.1, !r'.2), r'.2) := by
 obtain ⟨s, b⟩ := q;cases b with
 | true => cases h
 | false =>
  simp only [stopY] at h;cases hY : Y s p with
  | none => rw [hY] at h; cases h
  | some r' => rw [hY] at h; exact ⟨r', rfl, rfl, (Option.some.inj h).symm⟩

/-- The resources behind a loop's record. -/
@[reducible] def jOf (b : Bool) : Option Code := cond b (some .ret) none
end K
end Go.Proofs.Ytopgphikdglphaa

/- The calculus, part 24: an own array looked at as a slice; copying into it. -/
namespace Go.Proofs.Ytopgphikdglphaa
namespace K
open Go

section
variable {P : Program} {M : Md P} {o : Oper} {x y : Operand} {T T' e : TypeId} {t : Ty}

/-- All of an own array, as a slice. -/
theorem o_slice_arr {b n m : Nat} {g : Bool} (ho : o.op = .slice T x none none none) (hT : P.underlying T = some (.array n e)) (he : SzOk P e m g) :
 OpT M o [(x, .eq (.pointer (some ⟨b, 0, none⟩)))] [] (fun _ : Unit => (.eq (.slice (some ⟨b, 0, none⟩) n n), [])) :=
 .val0 fun S w a hN => by
  have e1 : a.eval x = .pointer (some ⟨b, 0, none⟩) := hN.1
  refine ⟨.slice (some ⟨b, 0, none⟩) n n, ?_, rfl⟩
  simp [execOp, ho, e1, Instr.sliceAt, Instr.sureAddr, run_underlying hT, Instr.sliceBounds, he.size, Addr.add]

/-- Copying into an own array. -/
theorem o_copy_arr {b n : Nat} {T0 T1 : TypeId} {g : Bool} {l l2 : List t.den} {c : Call} (ho : o.op = .call c) (hc : c = { callee := .builtin .copy, args := #[x, y], argTypes := #[T, T1] }) (hT : P.underlying T = some (.slice e)) (he : SzOk P e t.cells g) :
 OpT M o [(x, .eq (.slice (some ⟨b, 0, none⟩) n n)), (y, .rep (.slice t) l2)] [.obj b T0 (.rep (.arr n t) l)] (fun _ : Unit => (.eq (.int .i64 (min l2.length n : Nat)), [.obj b T0 (.rep (.arr n t) (l2.take n ++ l.drop l2.length))])) := by
 refine OpP.T ⟨by simp only [nd, *], fun S w a next hd hN hO k => ?_⟩ (fun _ _ a _ _ => ns_exec (by simp only [nsOp, *]) a.eval) (fun d hd => by first | (simp at hd; done) | (simp at hd; subst hd; trivial))
 have e1 : a.eval x = .slice (some ⟨b, 0, none⟩) n n := hN.1
 obtain ⟨a2, cap2, e2, hr2⟩ := rep_slice hN.2.1
 obtain ⟨cs, h3, h4⟩ := hO.holds _ (List.mem_singleton.2 rfl)
 obtain ⟨hlen, hrd⟩ := (h4 : l.length = n ∧ rdAll (rd S w t) l cs)
 obtain ⟨hnb, hbs⟩ := hO.own b (feet_obj.2 rfl)
 have hcl := rdAll_length (fun _ _ h => rd_length t h) hrd
 have main : ∃ news : List Value, (Builtin.firstCells t.cells (Nat.min l2.length n) (a.eval y)).run P w = .ok news.toArray w ∧ rdAll (rd S w t) (l2.take n) news := by
  rcases hr2 with ⟨a3, cap3, h5, h6⟩ | ⟨b2, off2, cap3, c2, T2, fz, h5, hle, hS, hb2, hr⟩
  ·subst h6;refine ⟨[], ?_, by simp [rdAll]⟩;rw [e2];cases a2 with
   | none => simp [Builtin.firstCells]
   | some q => simp [Builtin.firstCells, loadCells, loadCellsFrom]
  ·simp only [List.cons.injEq, Value.slice.injEq, true_and, and_true] at h5;obtain ⟨rfl, rfl⟩ := h5;have h7 := rdAll_take (fun _ _ h => rd_length t h) n hr;have h8 := rdAll_length (fun _ _ h => rd_length t h) h7;refine ⟨_, ?_, h7⟩;rw [e2];refine run_firstCells_some (P := P) w t.cells (Nat.min l2.length n) ⟨b2, off2, none⟩ _ _ _ (by rw [h8, List.length_take, Nat.min_comm]) fun j v hj => ?_;rw [Addr.add_mk];rw [List.getElem?_take] at hj;split at hj
   ·rw [List.getElem?_take] at hj;split at hj
    ·simp only [List.getElem?_drop, Array.getElem?_toList] at hj;simp [World.cell?, hb2, hj]
    ·cases hj
   ·cases hj
 obtain ⟨news, hn1, hn2⟩ := main
 have hnl := rdAll_length (fun _ _ h => rd_length t h) hn2
 have hone := rdAll_one (fun _ _ h => rd_one t h) hn2
 have hbnd : news.length ≤ cs.length := by
  rw [hnl, hcl, List.length_take, hlen];exact Nat.mul_le_mul_right _ (Nat.min_le_left _ _)
 have hst := run_storeCells P b T0 0 news 0 w cs.toArray h3 hone (by simpa using hbnd)
 simp only [Nat.add_zero, Nat.zero_add, List.take_zero, List.nil_append] at hst
 have hrun : (execOp a.eval o).run P w = .ok (.value (.int .i64 (min l2.length n : Nat))) { w with heap := w.heap.setIfInBounds b (.cells (news ++ cs.drop news.length).toArray T0 (0, 0)) } := by
  have h1 : (Builtin.copy_ #[T, T1] o.type #[a.eval x, a.eval y]).run P w = .ok (.int .i64 (min l2.length n : Nat)) { w with heap := w.heap.setIfInBounds b (.cells (news ++ cs.drop news.length).toArray T0 (0, 0)) } := by
   have hlo : (Builtin.lenOf (a.eval y)).run P w = .ok l2.length w := by rw [e2]; rfl
   simp only [Builtin.copy_, List.getElem?_toArray, List.getElem?_cons_zero, List.getElem?_cons_succ, e1, Sem.run_bind, run_underlying hT, Result.andThen_ok, hlo, he.size, hn1, hst, Sem.run_pure];rfl
  simp [execOp, ho, hc, resolve, invoke, builtin, h1]
 rw [hrun]
 have hset := step_set (X := feet [D.obj b T0 (.rep (.arr n t) l)]) hd (feet_obj.2 rfl) (.cells (news ++ cs.drop news.length).toArray T0 (0, 0))
 have hK : Keep S w { w with heap := w.heap.setIfInBounds b (.cells (news ++ cs.drop news.length).toArray T0 (0, 0)) } := fun b' hb' => by
  have hne : b ≠ b' := fun e => hnb (by rw [e]; exact hb');simp [Array.getElem?_setIfInBounds_ne hne]
 refine k () S _ _ hset rfl (owns_one ⟨news ++ cs.drop news.length, by simp [hbs], ?_⟩ fun b' hb' => ?_) fun b' hb' => .inl ?_
 ·
  refine ⟨?_, ?_⟩
  ·simp only [List.length_append, List.length_take, List.length_drop];rw [hlen];omega
  ·refine rdAll_append (rdAll_mono (R := rd S w t) (fun _ _ h => rd_mono (fun _ h => h) hK t h) hn2) ?_;have h9 := rdAll_drop (fun _ _ h => rd_length t h) l2.length hrd
   have e9 : cs.drop news.length = cs.drop (l2.length * t.cells) := by
    rw [hnl, List.length_take];rcases Nat.le_total n l2.length with hh | hh
    ·rw [Nat.min_eq_left hh];rw [List.drop_eq_nil_of_le (by rw [hcl, hlen]; exact Nat.le_refl _), List.drop_eq_nil_of_le (by rw [hcl, hlen]; exact Nat.mul_le_mul_right _ hh)]
    ·rw [Nat.min_eq_right hh]
   rw [← e9] at h9;exact rdAll_mono (R := rd S w t) (fun _ _ h => rd_mono (fun _ h => h) hK t h) h9
 ·
  simp only [D.foot, Option.some.injEq] at hb';subst hb';exact ⟨hnb, by simpa using hbs⟩
 ·
  exact feet_obj.2 (feet_obj.1 hb')
end

section
variable {c : Cx} {Γ : Ga} {F : List D} {T : TypeId} {t : Ty}
/-- An own array, as an own slice, and back. -/
theorem SE.arrSl' {b n : Nat} {dd : List t.den} (hm : n ≤ maxLen) : SE c Γ (.obj b T (.rep (.arr n t) dd) :: F) Γ (.sl (.slice (some ⟨b, 0, none⟩) n n) T t dd :: F) := fun a w h => by
 have hn : dd.length = n := by
  obtain ⟨_, _, S, _, _, h5, _⟩ := h;obtain ⟨cs, _, h2⟩ := h5.holds _ (List.mem_cons_self ..);exact h2.1
 exact SE.arrSl hn hm a w h
theorem SE.slArr' {b n : Nat} {dd : List t.den} : SE c Γ (.sl (.slice (some ⟨b, 0, none⟩) n n) T t dd :: F) Γ (.obj b T (.rep (.arr n t) dd) :: F) := fun a w h => by
 have hn : dd.length = n := by
  obtain ⟨_, _, S, _, _, h5, _⟩ := h;rcases h5.holds _ (List.mem_cons_self ..) with ⟨h1, _⟩ | ⟨b', cap, cc, h1, _⟩
  ·simp at h1
  ·simp only [Value.slice.injEq] at h1;exact h1.2.1.symm
 exact SE.slArr hn a w h
end

/-! ### A byte of a literal string -/
section
variable {P : Program} {M : Md P} {o : Oper} {y : Operand} {T : TypeId}
/-- The byte of a string at an index of Go. -/
def idxStr (s : ByteArray) (i : Int) : Option UInt8 := if 0 ≤ i then s[i.toNat]? else none
theorem o_index_str {s : ByteArray} {k : IntKind} {i : Int} {b : UInt8} (ho : o.op = .index T (.const (.string s)) y) (hT : P.underlying T = some .string) (hd : idxStr s i = some b) :
 OpT M o [(y, .eq (.int k i))] [] (fun _ : Unit => (.eq (.int .u8 b.toNat), [])) :=
 .val0 fun S w a hN => by
  have e1 : a.eval y = .int k i := hN.1
  have e2 : a.eval (.const (.string s)) = .string s := rfl
  refine ⟨.int .u8 b.toNat, ?_, rfl⟩
  unfold idxStr at hd
  have h1 : (Instr.index T (.string s) (.int k i)).run P w = .ok (.int .u8 b.toNat) w := by
   unfold Instr.index;simp only [asIntOf, Sem.run_bind, Sem.run_pure, Result.andThen_ok, run_underlying hT, hd]
  simp only [execOp, ho, e1, e2, Sem.run_bind, h1, Result.andThen_ok, Sem.run_pure]
end
end K
end Go.Proofs.Ytopgphikdglphaa

/- The calculus, part 25: maps whose entries all meet a relation; arrays compared. -/
namespace Go.Proofs.Ytopgphikdglphaa
namespace K
open Go

/-- All entries of a map meet a relation between key and number. -/
def MapInv (P : Program) (k : TypeId) (R : Value → Int → Prop) (o : Obj) : Prop :=
 ∃ es cl, o = .map es cl ∧ ∀ e ∈ es.toList, (∃ lt, keyOf P k e.key = some lt) ∧ nop e.key = true ∧ ∃ n, e.val = .int .i64 n ∧ R e.key n

theorem MapInv.nil {P : Program} {k : TypeId} {R : Value → Int → Prop} : MapInv P k R (.map #[] 0) := ⟨#[], 0, rfl, by simp⟩

section
variable {P : Program} {M : Md P} {o : Oper} {x y v : Operand} {T T' k e : TypeId} {R : Value → Int → Prop} {kv : Value}

theorem MapInv.calm {P : Program} {k : TypeId} {R : Value → Int → Prop} {o : Obj} (h : MapInv P k R o) : calm o = true := by
 obtain ⟨es, cl, rfl, h⟩ := h;show (es.toList.all fun e => nop e.key) = true;rw [List.all_eq_true];exact fun e he => (h e he).2.1
theorem run_getMap {w : World} {z : Nat} {es : Array MapEntry} {cl : Nat} (h : w.heap[z]? = some (.map es cl)) : (getObj z).run P w = .ok (.map es cl) w := by simp [getObj, Sem.run, h]
theorem run_setMap {w : World} {z : Nat} {es : Array MapEntry} {cl : Nat} (o : Obj) (h : w.heap[z]? = some (.map es cl)) : (setObj z o).run P w = .ok () (w.putObj z o) := by simp [setObj, Sem.run, h, World.putObj]

theorem ns_keyv {b : Bool} {ρ : Operand → Value} (ho : o.op = .lookup T x y b) (h : nop (ρ y) = true) : Ns P (execOp ρ o) := by
 unfold execOp;rw [ho];exact ns_v (ns_lookup h)
theorem ns_updv {ρ : Operand → Value} (ho : o.op = .mapUpdate T x y v) (h : nop (ρ y) = true) : Ns P (execOp ρ o) := by
 unfold execOp;rw [ho];exact ns_u (ns_mapUpdate h)

/-- What a look-up finds is known ahead. -/
theorem lookup_cases {z : Nat} {ob : Obj} (hT : P.underlying T = some (.map k e)) (hz : ∀ w, (zeroValue e).run P w = .ok (.int .i64 0) w) (hk : WideMaps.KeyLaw P k) (hkv : ∃ lt, keyOf P k kv = some lt)
 (hfun : ∀ n n', R kv n → R kv n' → n = n') (hob : MapInv P k R ob) :
 ∃ n b, (b = true → R kv n) ∧ ∀ w, w.heap[z]? = some ob → (Instr.lookup T (.map (some z)) kv true).run P w = .ok (.tuple #[.int .i64 n, .bool b]) w := by
 obtain ⟨es, cl, rfl, h2⟩ := hob
 obtain ⟨lt, hlt⟩ := hkv
 by_cases he : ∃ en ∈ es.toList, en.key = kv
 ·
  obtain ⟨e0, he0, hk0⟩ := he;obtain ⟨_, _, n0, _, hR0⟩ := h2 e0 he0;rw [hk0] at hR0;refine ⟨n0, true, fun _ => hR0, fun w h1 => ?_⟩;have hc := hk.check w es.isEmpty hlt;rcases hk.find w hlt es.toList (fun e he => (h2 e he).1) with ⟨h3, h4⟩ | ⟨j, en, h3, h4, h5⟩
  ·exact absurd hk0 (h4 e0 he0)
  ·obtain ⟨_, _, n, hn, hR⟩ := h2 en (List.mem_of_getElem? h4);rw [h5] at hR;obtain rfl := hfun _ _ hR hR0;simp only [Instr.lookup, Sem.run_bind, run_underlying hT, Result.andThen_ok, run_getMap h1, Sem.run_pure, hc, h3, hn, if_true]
 ·
  refine ⟨0, false, fun h => Bool.noConfusion h, fun w h1 => ?_⟩;have hc := hk.check w es.isEmpty hlt;rcases hk.find w hlt es.toList (fun e he => (h2 e he).1) with ⟨h3, h4⟩ | ⟨j, en, h3, h4, h5⟩
  ·simp only [Instr.lookup, Sem.run_bind, run_underlying hT, Result.andThen_ok, run_getMap h1, Sem.run_pure, hc, h3, hz, if_true]
  ·exact absurd ⟨en, List.mem_of_getElem? h4, h5⟩ he

theorem o_lookupD {z : Nat} {rk : A} {ob : Obj} {n : Int} {b : Bool} (hnk : nop kv = true) (hcm : calm ob = true) (ho : o.op = .lookup T x y true) (hy : ∀ S w u, rk.holds S w u → u = kv)
 (hr : ∀ w, w.heap[z]? = some ob → (Instr.lookup T (.map (some z)) kv true).run P w = .ok (.tuple #[.int .i64 n, .bool b]) w) :
 OpT M o [(x, .eq (.map (some z))), (y, rk)] [.raw z ob] (fun _ : Unit => (.tup (.pair (.eq (.int .i64 n)) (.pair (.eq (.bool b)) .any)), [.raw z ob])) := by
 refine OpP.T ⟨by simp only [nd, *], fun S w a next hd hN hO kk => ?_⟩ (fun S w a hN _ => ns_keyv ho (by have e : a.eval y = kv := hy _ _ _ hN.2.1; rw [e]; exact hnk)) (fun d hd => by rw [List.mem_singleton.1 hd]; exact hcm)
 have e1 : a.eval x = .map (some z) := hN.1
 have e2 : a.eval y = kv := hy S w _ hN.2.1
 have h1 : w.heap[z]? = some ob := hO.holds _ (List.mem_singleton.2 rfl)
 have hrun : (execOp a.eval o).run P w = .ok (.value (.tuple #[.int .i64 n, .bool b])) w := by
  simp only [execOp, ho, e1, e2, Sem.run_bind, hr w h1, Result.andThen_ok, Sem.run_pure]
 rw [hrun]
 exact kk () S w _ (Step.refl hd) ⟨[_, _], rfl, _, _, rfl, rfl, _, _, rfl, rfl, rfl⟩ hO (fun b hb => .inl hb)

/-- A store into such a map. -/
theorem o_mapUpdate {z : Nat} {rk : A} {n : Int} (hnk : nop kv = true) (ho : o.op = .mapUpdate T x y v) (hT : P.underlying T = some (.map k e)) (hk : WideMaps.KeyLaw P k) (hy : ∀ S w u, rk.holds S w u → u = kv) (hkv : ∃ lt, keyOf P k kv = some lt) (hR : R kv n) :
 OpT M o [(x, .eq (.map (some z))), (y, rk), (v, .eq (.int .i64 n))] [.inv z (MapInv P k R)] (fun _ : Unit => (.eq undef, [.inv z (MapInv P k R)])) := by
 refine OpP.T ⟨by simp only [nd, *], fun S w a next hd hN hO kk => ?_⟩ (fun S w a hN _ => ns_updv ho (by have e : a.eval y = kv := hy _ _ _ hN.2.1; rw [e]; exact hnk)) (fun d hd => by rw [List.mem_singleton.1 hd]; exact fun _ h => h.calm)
 have e1 : a.eval x = .map (some z) := hN.1
 have e2 : a.eval y = kv := hy S w _ hN.2.1
 have e3 : a.eval v = .int .i64 n := hN.2.2.1
 obtain ⟨ob, h1, es, cl, rfl, h2⟩ := hO.holds _ (List.mem_singleton.2 rfl)
 have hb := hO.own z ⟨_, List.mem_singleton.2 rfl, rfl⟩
 obtain ⟨lt, hlt⟩ := hkv
 have hc := hk.check w false hlt
 have hgo : ∀ ob', (Instr.mapUpdate T (.map (some z)) kv (.int .i64 n)).run P w = .ok () (w.putObj z ob') → MapInv P k R ob' → upP o a next ((execOp a.eval o).run P w) := fun ob' hr hM => by
  have hrun : (execOp a.eval o).run P w = .ok .skip (w.putObj z ob') := by
   simp only [execOp, ho, e1, e2, e3, Sem.run_bind, hr, Result.andThen_ok, Sem.run_pure]
  rw [hrun];refine kk () S _ _ (step_put hd ⟨_, List.mem_singleton.2 rfl, rfl⟩ ob') rfl (owns_one ⟨ob', put_at hb.2, hM⟩ fun b h => ?_) (fun b hb => .inl hb);simp only [D.foot, Option.some.injEq] at h;subst h;exact ⟨hb.1, by rw [put_size]; exact hb.2⟩
 rcases hk.find w hlt es.toList (fun e he => (h2 e he).1) with ⟨h3, h4⟩ | ⟨j, en, h3, h4, h5⟩
 ·
  refine hgo (.map (es.push { key := kv, val := .int .i64 n, born := cl }) (cl + 1)) ?_ ⟨_, _, rfl, fun e he => ?_⟩
  ·simp only [Instr.mapUpdate, Sem.run_bind, run_underlying hT, Result.andThen_ok, run_getMap h1, Sem.run_pure, hc, h3, run_setMap _ h1]
  ·simp only [Array.toList_push, List.mem_append, List.mem_singleton] at he;rcases he with he | rfl
   ·exact h2 e he
   ·exact ⟨⟨lt, hlt⟩, hnk, n, rfl, hR⟩
 ·
  have hst := hk.stays w hlt;have hj : es[j]? = some en := by simpa using h4
  refine hgo (.map (es.modify j fun e => { e with key := kv, val := .int .i64 n }) cl) ?_ ⟨_, _, rfl, fun e he => ?_⟩
  ·simp only [Instr.mapUpdate, Sem.run_bind, run_underlying hT, Result.andThen_ok, run_getMap h1, Sem.run_pure, hc, h3, hj, Option.map_some, Option.getD_some, h5, hst, run_setMap _ h1]
  ·obtain ⟨i, hi⟩ := List.mem_iff_getElem?.1 he;have hi' : (es.modify j fun e => { e with key := kv, val := .int .i64 n })[i]? = some e := by rw [← Array.getElem?_toList]; exact hi
   rw [Array.getElem?_modify] at hi';split at hi'
   ·obtain ⟨e0, _, rfl⟩ := Option.map_eq_some_iff.1 hi';exact ⟨⟨lt, hlt⟩, hnk, n, rfl, hR⟩
   ·exact h2 e (List.mem_of_getElem? (by simpa using hi'))

/-- Two arrays compared. -/
theorem o_eqkey {rx ry : A} {kw : Value} (hnk : nop kv = true) (hnw : nop kw = true) (ho : o.op = .binOp .eql k x y T') (hg : P.eqGuardType P.depth k = false) (hd : P.keyTypeAt 9999 k = true) (hk : WideMaps.KeyLaw P k) (hw : (match P.underlying k with | some (.array _ _) | some (.struct _) => true | _ => false) = true)
 (hx : ∀ S w u, rx.holds S w u → u = kv) (hy : ∀ S w u, ry.holds S w u → u = kw) (hkv : ∃ lt, keyOf P k kv = some lt) (hkw : ∃ lt, keyOf P k kw = some lt) :
 OpT M o [(x, rx), (y, ry)] [] (fun q : { q : Bool // q = true ↔ kv = kw } => (.eq (.bool q.1), [])) := by
 refine OpP.T ⟨by simp only [nd, *], fun S w a next hdm hN hO kk => ?_⟩ (fun S w a hN _ => ns_binv ho (by have e1 : a.eval x = kv := hx _ _ _ hN.1; have e2 : a.eval y = kw := hy _ _ _ hN.2.1; rw [e1, e2]; exact ns_binOp hnk hnw)) (fun d hd => by simp at hd)
 have e1 : a.eval x = kv := hx S w _ hN.1
 have e2 : a.eval y = kw := hy S w _ hN.2.1
 obtain ⟨l1, h1⟩ := hkv
 obtain ⟨l2, h2⟩ := hkw
 obtain ⟨r, hr, hiff⟩ := run_equal_deep (P := P) w (Nat.le_succ 9999) hd hw h1 h2
 have hrun : (execOp a.eval o).run P w = .ok (.value (.bool r)) w := by
  obtain ⟨xs, _, rfl, _⟩ := keyOf_top hw h1;obtain ⟨ys, _, rfl, _⟩ := keyOf_top hw h2;have h3 : (Op.equalIn 10000 k (.agg xs) (.agg ys)).run P w = .ok r w := hr;simp only [execOp, ho, e1, e2, Sem.run_bind, run_eqGuard_agg w _ _ _ _ _ _ hg, run_eql_struct, h3, Result.andThen_ok, Sem.run_pure]
 rw [hrun]
 refine kk ⟨r, hiff.trans ⟨fun h => hk.inj h1 (h ▸ h2), fun h => ?_⟩⟩ S w _ (Step.refl hdm) rfl hO (fun b hb => .inl hb)
 subst h
 rw [h1] at h2
 exact Option.some.inj h2
end
theorem JC.openInv {c : Cx} {C : Code} {Q : Exit → Act → VW → Prop} {Γ : Ga} {F : List D} {z : Nat} {p : Obj → Prop} (h : ∀ ob, p ob → JC c C Q Γ (.raw z ob :: F)) : JC c C Q Γ (.inv z p :: F) := by
 intro a w st
 obtain ⟨ob, h1, h2⟩ : ∃ o, w.heap[z]? = some o ∧ p o := by
  obtain ⟨_, _, S, _, _, h5, _⟩ := st;exact h5.holds _ (List.mem_cons_self ..)
 exact h ob h2 a w (st.swap (d := .inv z p) (d' := .raw z ob) (fun b' => Iff.rfl) fun S _ => h1)
/-- A round, its codes by their names. -/
theorem YT.of' {P : Program} {M : Md P} {N l p : Nat} {rec : Loop} {cA cB : Code} (hcA : rec.assign = cA) (hcB : rec.body = cB) {as : A} {Δ : List D} {Γ : Ga} {X : Type} {R : X → A × List D} (hp : rec.params = #[p]) (hN : rec.tmps.size = N) (hpN : p < N) (hΓ : Vals rec.tmps Γ)
 (h : ∀ S w, JC ⟨P, N, S, w, feet (.raw l (.loop rec) :: Δ), some l, [], M⟩ cA (Ex.thn (rdBegin M l cB (roundPost P l (RPost S w (.raw l (.loop rec) :: Δ) R))) (fun _ _ _ => False)) ((p, as) :: Γ) (.raw l (.loop rec) :: Δ)) :
 YT M l [as] (.raw l (.loop rec) :: Δ) R := by
 subst hcA hcB
 exact YT.of hp hN hpN hΓ h
end K
end Go.Proofs.Ytopgphikdglphaa

/- The calculus, part 26: scopes, the label walked where it stands. -/
namespace Go.Proofs.Ytopgphikdglphaa
namespace K
open Go

section
variable {c : Cx} {Q : Exit → Act → VW → Prop} {Γ Γ' : Ga} {Δ Δ' : List D} {C : Code}

theorem fl_hit {a b r : Code} {l : Nat} (h : findLabel a l = some r) : findLabel (.seq a b) l = some (.seq r b) := by rw [findLabel, h]
theorem fl_miss {a b r : Code} {l : Nat} (h : findLabel a l = none) (h' : findLabel b l = some r) : findLabel (.seq a b) l = some r := by rw [findLabel, h]; exact h'
theorem fl_lab {l : Nat} : findLabel (.label l) l = some .skip := by simp [findLabel]

/-- From here the rest is right, with less than n jumps back. -/
def Jn {P : Program} (M : Md P) (rest : Code) (i : Nat) (Q : Exit → Act → VW → Prop) : Nat → Act → VW → Prop
 | 0 => fun _ _ => False
 | n + 1 => fun a w => rest.wk M none (Ex.jmp i (Jn M rest i Q n) Q) a w

def Ja {P : Program} (M : Md P) (rest : Code) (i : Nat) (Q : Exit → Act → VW → Prop) : Act → VW → Prop := fun a w => ∃ n, Jn M rest i Q n a w

theorem JC.scopeS {i : Nat} {rest : Code} (hrd : c.rd = none) (hf : findLabel C i = some rest) (first : JC c C (Ex.jmp i (Ja c.M rest i Q) Q) Γ Δ) : JC c (.scope C) Q Γ Δ := by
 intro a w st;refine wk_scope_fuel i hf (Jn c.M rest i Q) (first a w st) fun n a w hJ => ?_;cases n with
 | zero => exact hJ.elim
 | succ n =>
  have hJ : rest.wk c.M none (Ex.jmp i (Jn c.M rest i Q n) Q) a w := hJ;rw [hrd];refine wk_mono (fun e a' w' hq => ?_) hJ;cases e with
  | goto l' => exact ⟨hq.1, n, Nat.lt_succ_self n, hq.2⟩
  | _ => exact hq

/-- The label, following a function L with fuel. -/
theorem JC.atLabel {α β ρ Z : Type} {K : β → Option ρ} {q : ρ} {i : Nat} {rest : Code} (hrd : c.rd = none) (G : Z → α → Ga) (E : Z → α → List D) (L : Nat → α → Option β) (n : Nat) (z : Z) (x : α) (h0 : ∀ x, L 0 x = none) (h : (L n x).bind K = some q) (hs : SE c Γ Δ (G z x) (E z x))
 (pass : ∀ n z x, (L (n + 1) x).bind K = some q → JC c rest (Ex.jmp i (fun a w => ∃ z' : Z × α, (L n z'.2).bind K = some q ∧ St c (G z'.1 z'.2) (E z'.1 z'.2) a w) Q) (G z x) (E z x)) :
 JC c rest (Ex.jmp i (Ja c.M (.seq .skip rest) i Q) Q) Γ Δ := by
 have key : ∀ n a w, (∃ z' : Z × α, (L n z'.2).bind K = some q ∧ St c (G z'.1 z'.2) (E z'.1 z'.2) a w) → Jn c.M (.seq .skip rest) i Q n a w := by
  intro n
  induction n with
  | zero => rintro a w ⟨z', h, _⟩; rw [h0] at h; cases h
  | succ n ih =>
   rintro a w ⟨z', h, st⟩;have hp := JC.seq (JC.skip (JN.then_n (pass n z'.1 z'.2 h))) a w st;rw [hrd] at hp;refine wk_mono (fun e a' w' hq => ?_) hp;cases e with
   | goto l' => exact ⟨hq.1, ih a' w' hq.2⟩
   | _ => exact hq
 intro a w st
 cases n with
 | zero => rw [h0] at h; cases h
 | succ n =>
  refine wk_mono (fun e a' w' hq => ?_) (pass n z x h a w (hs a w st));cases e with
  | goto l' => exact ⟨hq.1, _, key n a' w' hq.2⟩
  | _ => exact hq

/-- The jump back. -/
theorem JN.jmpz {Z : Type} {i : Nat} {G : Z → Ga} {E : Z → List D} {p : Z → Prop} (z : Z) (hp : p z) (h : SE c Γ Δ (G z) (E z)) :
 JN c (Ex.jmp i (fun a w => ∃ z, p z ∧ St c (G z) (E z) a w) Q (.goto i)) Γ Δ := fun a w st => ⟨rfl, z, hp, h a w st⟩
/-! ### A slice of structs whose first part is own for a while -/
@[reducible] def altF {α β : Type} (x : α × β) : (α ⊕ Value) × β := (.inl x.1, x.2)

theorem rdAll_to {α β : Type} {R : α → List Value → Prop} {R' : β → List Value → Prop} {f : α → β} (h : ∀ x cs, R x cs → R' (f x) cs) : ∀ {l : List α} {cs : List Value}, rdAll R l cs → rdAll R' (l.map f) cs
 | [], _, e => e
 | _ :: _, _, ⟨c1, c2, e, h1, h2⟩ => ⟨c1, c2, e, h _ _ h1, rdAll_to h h2⟩

theorem rdAll_of {α β : Type} {R : α → List Value → Prop} {R' : β → List Value → Prop} {f : α → β} (h : ∀ x cs, R' (f x) cs → R x cs) {y : β} {z : α} (hy : ∀ cs, R' y cs → R z cs) : ∀ {l : List α} {i : Nat} {cs : List Value}, rdAll R' ((l.map f).set i y) cs → rdAll R (l.set i z) cs
 | [], _, _, e => e
 | x :: l, 0, _, ⟨c1, c2, e, h1, h2⟩ => ⟨c1, c2, e, hy _ h1, by
  have key : ∀ {l : List α} {cs : List Value}, rdAll R' (l.map f) cs → rdAll R l cs := by
   intro l
   induction l with
   | nil => intro cs e; exact e
   | cons x l ih => rintro cs ⟨c1, c2, e, h1, h2⟩; exact ⟨c1, c2, e, h _ _ h1, ih h2⟩
  exact key h2⟩
 | x :: l, i + 1, _, ⟨c1, c2, e, h1, h2⟩ => ⟨c1, c2, e, h _ _ h1, rdAll_of h hy h2⟩

theorem geti_map {α β : Type} {f : α → β} {l : List α} {i : Int} {x : α} (h : geti l i = some x) : geti (List.map f l) i = some (f x) := by
 obtain ⟨h0, h1, h2⟩ := geti_some h;unfold geti;rw [if_pos h0, List.getElem?_map, h2];rfl
theorem geti_set {α : Type} {l : List α} {i : Int} {x : α} (y : α) (h : geti l i = some x) : geti (List.set l (Int.toNat i) y) i = some y := by
 obtain ⟨h0, h1, h2⟩ := geti_some h;unfold geti;rw [if_pos h0, List.getElem?_set];simp only [if_true];rw [if_pos (by omega)]

section
variable {u r : Ty} {v : Value} {T : TypeId} {F : List D}

theorem SE.toAlt {l : List (Ty.agg (.pair (.slice u) r)).den} : SE c Γ (.sl v T (.agg (.pair (.slice u) r)) l :: F) Γ (.sl v T (.agg (.pair (.alt (.slice u)) r)) (List.map altF l) :: F) := fun a w h =>
 h.swap (d := .sl v T (.agg (.pair (.slice u) r)) l) (d' := .sl v T (.agg (.pair (.alt (.slice u)) r)) (List.map altF l)) (fun _ => Iff.rfl) fun S hs => by
  rcases hs with ⟨h1, rfl⟩ | ⟨b, cap, cc, rfl, q1, q1', q2, q3, q4⟩
  ·
   exact .inl ⟨h1, rfl⟩
  ·
   refine .inr ⟨b, cap, cc, by rw [List.length_map], by rw [List.length_map]; exact q1, q1', q2, q3, ?_⟩
   rw [List.length_map]
   refine rdAll_to (R' := rd S w (.agg (.pair (.alt (.slice u)) r))) (fun x cs hx => ?_) q4
   obtain ⟨c1, c2, e, g1, g2⟩ := hx
   exact ⟨c1, c2, e, ⟨g1, rd_length (.slice u) g1⟩, g2⟩

theorem SE.ofAlt {nm : Value} {Tu : TypeId} {d : List u.den} {l : List (Ty.agg (.pair (.slice u) r)).den} {i : Nat} {q : r.den} :
 SE c Γ (.sl nm Tu u d :: .sl v T (.agg (.pair (.alt (.slice u)) r)) (List.set (List.map altF l) i (.inr nm, q)) :: F) Γ (.sl v T (.agg (.pair (.slice u) r)) (List.set l i (d, q)) :: F) := fun a w h => by
 obtain ⟨h1, h2, S, h3, h4, h5, h6, h7⟩ := frz_core h
 have st : St c Γ (.sl v T (.agg (.pair (.alt (.slice u)) r)) (List.set (List.map altF l) i (.inr nm, q)) :: F) a w := ⟨h1, h2, S, h3, h4, h5, h6⟩
 obtain ⟨xs, e1, e2⟩ := h7
 have e3 : xs = [nm] := by
  have l1 := rd_length (.slice u) e1;match xs, l1 with
  | [x], _ => simp [mk] at e2; rw [e2]
 subst e3
 have hd : (D.sl v T (.agg (.pair (.slice u) r)) (List.set l i (d, q))).holds S w := by
  rcases h5.holds _ (List.mem_cons_self ..) with ⟨g1, g2⟩ | ⟨b, cap, cc, rfl, q1, q1', q2, q3, q4⟩
  ·refine .inl ⟨g1, ?_⟩;cases l with
   | nil => rfl
   | cons x l => cases i <;> cases g2
  ·have hlen : (List.set (List.map altF l) i (.inr nm, q)).length = (List.set l i (d, q)).length := by simp
   refine .inr ⟨b, cap, cc, by rw [hlen], by rw [← hlen]; exact q1, q1', q2, q3, ?_⟩;rw [hlen] at q4;refine rdAll_of (R := rd S w (.agg (.pair (.slice u) r))) (fun x cs hx => ?_) (fun cs hx => ?_) q4
   ·obtain ⟨c1, c2, e, g1, g2⟩ := hx;exact ⟨c1, c2, e, g1.1, g2⟩
   ·obtain ⟨c1, c2, e, g1, g2⟩ := hx;obtain ⟨rfl, _⟩ := g1;exact ⟨_, c2, e, e1, g2⟩
 have hp := List.pairwise_cons.1 h5.apart
 refine ⟨h1, h2, S, h3, fun x ⟨e, he, hb⟩ => ?_, h5.re ⟨fun e he => ?_, fun x ⟨e, he, hb⟩ => ?_, List.pairwise_cons.2 ⟨fun e he => hp.1 e he, hp.2⟩⟩ (fun x ⟨e, he, hb⟩ => by
  rcases List.mem_cons.1 he with rfl | he
  ·exact ⟨_, List.mem_cons_self .., hb⟩
  ·exact ⟨e, List.mem_cons_of_mem _ he, hb⟩) (fun _ h => .inl h), h6⟩
 ·
  rcases List.mem_cons.1 he with rfl | he
  ·exact h4 x ⟨_, List.mem_cons_self .., hb⟩
  ·exact h4 x ⟨e, List.mem_cons_of_mem _ he, hb⟩
 ·
  rcases List.mem_cons.1 he with rfl | he
  ·exact hd
  ·exact h5.holds e (List.mem_cons_of_mem _ he)
 ·
  rcases List.mem_cons.1 he with rfl | he
  ·exact h5.own x ⟨_, List.mem_cons_self .., hb⟩
  ·exact h5.own x ⟨e, List.mem_cons_of_mem _ he, hb⟩

/-- A slot, known otherwise. -/
theorem SE.altR {t : Ty} {v : Value} (s : Nat) (ht : t.isAgg = false) (hl : lk Γ s = some (.rep (.alt t) (.inr v))) : SE c Γ Δ ((s, .eq v) :: Γ) Δ := fun a w h => by
 obtain ⟨h1, h2, S, h3, h4, h5, h6⟩ := h
 refine ⟨h1, h2, S, h3, h4, h5, fun s' q hq => ?_⟩
 simp only [lk] at hq
 split at hq
 ·
  rename_i e
  subst e
  cases hq
  obtain ⟨xs, e1, e2⟩ := h6 _ _ hl
  obtain ⟨rfl, _⟩ := e1
  exact e2
 ·
  exact h6 s' q hq
end
end
end K
end Go.Proofs.Ytopgphikdglphaa

/- The calculus, part 27 (in company): one deferred call that recovers; panics that carry a number. -/
namespace Go.Proofs.Ytopgphikdglphaa
namespace K
open Go

/-- A panic that carries a number of this type. -/
def chain1 (T : TypeId) (n : Int) (r : Bool) : List PanicEntry := [{ v := .iface T (.int .i64 n), recovered := r }]

/-- The deferred call. -/
def dfr (g b : Nat) : Deferred := { target := .fn (.func g) #[.pointer (some ⟨b, 0, none⟩)], args := #[] }

/-! ### Steps -/
section
variable {P : Program} {a : Act} {cs : List Frame} {w : World}
/-- recover. -/
theorem g_recover {b : Frame} {k : List Item} {ops : Array Oper} {i : Nat} {rest : List Nat} {o : Oper} (hb : b.roundOf = none) (ho : ops[i]? = some o) (hw : Region.wanted o (yielded ops a.tmps) = true) (hr : ∀ ρ, execOp ρ o = pure .recover) :
 ∃ es, (∀ e ∈ es, e ∈ (#[] : Array Event)) ∧ ∀ main, stepG P main (Gr (b.atR a (.inRegion ops (i :: rest) :: k)) cs) w = match tryRecover (b.atR a (.inRegion ops (i :: rest) :: k)) cs with
  | some (x, cs') => .go (Gr (b.atR (a.put o.dst x) (.inRegion ops rest :: k)) cs') w es
  | none => .go (Gr (b.atR (a.put o.dst .nilIface) (.inRegion ops rest :: k)) cs) w es := by
 have hfin : ∀ x, (b.atR a (.inRegion ops (i :: rest) :: k)).finish x = b.atR (a.put o.dst x) (.inRegion ops rest :: k) := fun x => by rw [Frame.finish_atR, ho]; rfl
 refine ⟨seen P b.fn (if b.kind == .early then #[] else #[]), fun e he => ?_, fun main => ?_⟩
 ·
  have := Conc.mem_seen he;split at this <;> exact this
 ·
  rw [g_op ho hw, hb, Oper.semAt_none, hr];have hT : (pure Next.recover : Sem Next).runT P w #[] = (.ok .recover w, #[]) := rfl;have hro : (b.atR a (.inRegion ops (i :: rest) :: k)).roundOf = none := hb;simp only [stepG.apply, if_true, hT, hro];cases htr : tryRecover (b.atR a (.inRegion ops (i :: rest) :: k)) cs with
  | none => simp only [GStep.after, Array.append_empty, hfin]; rfl
  | some p => obtain ⟨x, cs'⟩ := p; simp only [GStep.after, Array.append_empty, hfin]; rfl
/-- The deferred call is made. -/
theorem g_deferCall {fr : Frame} {g b : Nat} {ds : List Deferred} (m : FrameMode) (hen : EnterOk P g) (hm : fr.mode = m) (hm' : m ≠ .run) (hd : fr.defers = dfr g b :: ds) :
 ∃ es, (∀ e ∈ es, e ∈ (#[] : Array Event)) ∧ ∀ main, stepG P main (Gr fr cs) w = .go (Gr (Frame.enter P g #[.pointer (some ⟨b, 0, none⟩)] .deferred) ({ fr with defers := ds } :: cs)) w es := by
 refine ⟨seen P fr.fn #[], fun e he => Conc.mem_seen he, fun main => ?_⟩
 have hi : invoke (.fn (.func g) #[.pointer (some ⟨b, 0, none⟩)]) #[] = callFunc g #[.pointer (some ⟨b, 0, none⟩)] := by simp [invoke]
 cases m with
 | run => exact absurd rfl hm'
 | returning => simp only [stepG, hm, unwind, hd, dfr, callDeferred, hi, enter_runT hen, GStep.after, Array.append_empty]; rfl
 | panicking ch => simp only [stepG, hm, unwind, hd, dfr, callDeferred, hi, enter_runT hen, GStep.after, Array.append_empty]; rfl
/-- The deferred call comes back. -/
theorem g_leaveD {fr c : Frame} {x : Value} {fn : Func} (h1 : fr.mode = .returning) (h2 : fr.defers = []) (hk : fr.kind = .deferred) (h3 : P.funcs[fr.fn]? = some fn) (h4 : (results fn fr.tmps).run P w = .ok x w) (hc : c.mode = .returning ∨ ∃ T n, c.mode = .panicking (chain1 T n true)) :
 ∀ main, stepG P main (Gr fr (c :: cs)) w = .go (Gr { c with mode := .returning } cs) w (seen P fr.fn ((results fn fr.tmps).events P w #[])) := fun main => by
 rcases hc with hc | ⟨T, n, hc⟩
 ·
  have e : ({ c with mode := .returning } : Frame) = c := by cases c; cases hc; rfl
  rw [e]
  simp [stepG, unwind, h1, h2, h3, h4, doReturn, hk, GStep.after, hc]
 ·
  simp [stepG, unwind, h1, h2, h3, h4, doReturn, hk, GStep.after, hc, chain1]
end

/-- A run of a deferred function: it turns what the variable b holds, and the mode of the frame that it belongs to. -/
def CatchRun {P : Program} (M : Md P) (g : Nat) (m : FrameMode) (Tc : TypeId) (e0 e1 : Int) : Prop :=
 ∀ T, M.ok T → ∀ (b : Nat) (S : FS) (w : VW) (fr : Frame) (cs : List Frame), (∀ b, S b → b < w.heap.size) → OwnsC [.obj b Tc (.eq (.int .i64 e0))] S w → fr.mode = m →
  (∀ S' w', CStep (feet [.obj b Tc (.eq (.int .i64 e0))]) S w S' w' → OwnsC [.obj b Tc (.eq (.int .i64 e1))] S' w' → T w' { fr with mode := .returning } cs) →
  T w (Frame.enter P g #[.pointer (some ⟨b, 0, none⟩)] .deferred) (fr :: cs)

/-- A function that is deferred: what a panic carries it puts into the variable b. -/
structure CatchOk (P : Program) (g : Nat) (T Tc : TypeId) : Prop where
 enter : EnterOk P g
 calm : ∀ (M : Md P) (e0 : Int), CatchRun M g .returning Tc e0 e0
 caught : ∀ (M : Md P) (e0 n : Int), CatchRun M g (.panicking (chain1 T n false)) Tc e0 n

/-- **Out of the walk behind recover.** -/
theorem CatchRun.of {P : Program} {M : Md P} {g d id N : Nat} {fn : Func} {o : Oper} {l : List Oper} {C : Code} {m m1 : FrameMode} {val : Value} {Tc : TypeId} {e0 e1 : Int} (hf : P.funcs[g]? = some fn) (hb : fn.body = some (.seq (.region id (o :: l).toArray false) C)) (hN : fn.ntmps = N) (hn : 0 < N)
 (hg : o.guard = none) (hd : o.dst = some d) (hdN : d < N) (ho : ∀ ρ, execOp ρ o = pure .recover)
 (hm : ∀ (fr b : Frame) (cs : List Frame), b.kind = .deferred → fr.mode = m → (match tryRecover b (fr :: cs) with | some (x, cs') => x = val ∧ cs' = { fr with mode := m1 } :: cs | none => val = .nilIface ∧ m1 = m)) (hm1 : m1 = .returning ∨ ∃ T n, m1 = .panicking (chain1 T n true))
 (h : ∀ (b : Nat) (S : FS) (w0 : VW), JO ⟨P, N, S, w0, feet [.obj b Tc (.eq (.int .i64 e0))], none, [], M⟩ (o :: l).toArray l
  (Ex.thn (C.wk M none (bodyPost P fn (RPost S w0 [.obj b Tc (.eq (.int .i64 e0))] (fun _ : Unit => (resA [], [.obj b Tc (.eq (.int .i64 e1))]))))) (bodyPost P fn (RPost S w0 [.obj b Tc (.eq (.int .i64 e0))] (fun _ : Unit => (resA [], [.obj b Tc (.eq (.int .i64 e1))])))))
  [(d, .eq val), (0, .eq (.pointer (some ⟨b, 0, none⟩)))] [.obj b Tc (.eq (.int .i64 e0))]) : CatchRun M g m Tc e0 e1 := by
 subst hN
 intro T hT b S w fr cs hdom hO hfr hk
 have bc := M.bc T hT
 rw [enter_at hf hb]
 refine bc.move (fun _ _ => g_seq) (bc.move (fun _ _ => g_region) ?_)
 let a : Act := { tmps := #[Value.pointer (some ⟨b, 0, none⟩)] ++ Array.replicate (fn.ntmps - 1) undef, defers := [] }
 let fb : Frame := { (default : Frame) with fn := g, kind := .deferred }
 have hst : St ⟨P, fn.ntmps, S, w, feet [.obj b Tc (.eq (.int .i64 e0))], none, [], M⟩ [(0, .eq (.pointer (some ⟨b, 0, none⟩)))] [.obj b Tc (.eq (.int .i64 e0))] a w :=
  St.entry (as := [.eq (.pointer (some ⟨b, 0, none⟩))]) (vs := [.pointer (some ⟨b, 0, none⟩)]) (by rw [Nat.ble_eq]; exact hn) hdom ⟨_, _, rfl, rfl, rfl⟩ hO
 have hst2 : ∀ v1, Rely w v1 → St ⟨P, fn.ntmps, S, w, feet [.obj b Tc (.eq (.int .i64 e0))], none, [], M⟩ [(d, .eq val), (0, .eq (.pointer (some ⟨b, 0, none⟩)))] [.obj b Tc (.eq (.int .i64 e0))] (a.put o.dst val) v1 := fun v1 hr => by
  obtain ⟨h1, h2, S', h3, h4, h5, h6⟩ := hst.rely hr;rw [hd];refine ⟨h1, by simpa [Act.put] using h2, S', h3, h4, h5, fun s r hl => ?_⟩;rw [getD_put (by rw [h2]; exact hdN)];simp only [lk] at hl;split at hl
  ·rename_i e; cases hl; rw [if_pos e]; rfl
  ·rename_i e;rw [if_neg e];exact h6 s r (by simp only [lk]; exact hl)
 have hsz : (o :: l).toArray.size = l.length + 1 := by simp
 have hlist : List.range (o :: l).toArray.size = 0 :: List.range' 1 l.length := by rw [hsz, List.range_eq_range', List.range'_succ]
 rw [hlist]
 have go : ∀ v1, Rely w v1 → T v1 (fb.atR (a.put o.dst val) (.inRegion (o :: l).toArray (List.range' 1 l.length) :: [.code C])) ({ fr with mode := m1 } :: cs) := fun v1 hr => by
  have hw := wkOps_of_wkL l 1 (ops := (o :: l).toArray) (fun j => by simp [Nat.add_comm 1 j]) (h b S w _ _ (hst2 v1 hr))
  have finR : ∀ a' v' todo, bodyPost P fn (RPost S w [.obj b Tc (.eq (.int .i64 e0))] (fun _ : Unit => (resA [], [.obj b Tc (.eq (.int .i64 e1))]))) .ret a' v' → T v' { fb.atR a' todo with mode := .returning } ({ fr with mode := m1 } :: cs) := by
   rintro a' v' todo ⟨q1, x, q2, _, S', v, _, q3, _, q4, _⟩;refine bc.step _ _ _ fun v1 hr => ?_;obtain ⟨r1, r2⟩ := q2 v1 hr;exact ⟨_, _, v1.toWorld, _, g_leaveD (fr := { fb.atR a' todo with mode := .returning }) (c := { fr with mode := m1 }) rfl q1 rfl hf r1 hm1, r2.sub fun e he => Conc.mem_seen he, bc.rely _ _ _ _ hr (hk S' v' q3 q4)⟩
  have out : ∀ e a' v', e ≠ .normal → bodyPost P fn (RPost S w [.obj b Tc (.eq (.int .i64 e0))] (fun _ : Unit => (resA [], [.obj b Tc (.eq (.int .i64 e1))]))) e a' v' → ∀ k, After T fb k ({ fr with mode := m1 } :: cs) e a' v' := by
   intro e a' v' he q k;cases e with
   | normal => exact absurd rfl he
   | ret => exact ⟨fun _ todo => finR a' v' todo q, fun h => by cases h⟩
   | panic ch => obtain ⟨_, _, _, _, q2, _⟩ := q; cases q2
   | exit id => exact q.elim
   | goto i => exact q.elim
   | outgrown => exact q.elim
  refine wkOps_sound _ hw T hT fb [.code C] _ rfl fun e a' v' q => ?_;cases e with
  | normal =>
   refine q T hT fb [] _ rfl fun e a' v' q => ?_
   cases e with
    | normal => exact bc.move (fun _ _ => g_end rfl) (finR a' v' [] q)
    | ret => exact out _ a' v' (by simp) q []
    | panic ch => exact out _ a' v' (by simp) q []
    | exit id => exact out _ a' v' (by simp) q []
    | goto i => exact out _ a' v' (by simp) q []
    | outgrown => exact out _ a' v' (by simp) q []
  | ret => exact out .ret a' v' (by simp) q _
  | panic ch => exact out (.panic ch) a' v' (by simp) q _
  | exit id => exact out (.exit id) a' v' (by simp) q _
  | goto i => exact out (.goto i) a' v' (by simp) q _
  | outgrown => exact out .outgrown a' v' (by simp) q _
 refine bc.step _ _ _ fun v1 hr => ?_
 obtain ⟨es, e1', e2⟩ := g_recover (P := P) (a := a) (cs := fr :: cs) (w := v1.toWorld) (b := fb) (k := [.code C]) (ops := (o :: l).toArray) (i := 0) (rest := List.range' 1 l.length) (o := o) rfl (by simp) (wanted_none hg _) ho
 have hm' := hm fr (fb.atR a (.inRegion (o :: l).toArray (0 :: List.range' 1 l.length) :: [.code C])) cs rfl hfr
 cases htr : tryRecover (fb.atR a (.inRegion (o :: l).toArray (0 :: List.range' 1 l.length) :: [.code C])) (fr :: cs) with
 | none =>
  rw [htr] at hm' e2;obtain ⟨rfl, rfl⟩ := hm';have e : ({ fr with mode := m1 } : Frame) = fr := by cases fr; cases hfr; rfl
  have := go v1 hr;rw [e] at this;exact ⟨_, _, v1.toWorld, es, e2, (Guar.refl v1).sub e1', this⟩
 | some p =>
  obtain ⟨x, cs'⟩ := p;rw [htr] at hm' e2;obtain ⟨rfl, rfl⟩ := hm';exact ⟨_, _, v1.toWorld, es, e2, (Guar.refl v1).sub e1', go v1 hr⟩
/-! ### Bodies with one deferred call -/
/-- Left this way, the deferred calls being made, the function returns as it should. -/
def LvD {P : Program} (M : Md P) (fn : Func) (R : Ending → VW → Prop) (m : FrameMode) (a : Act) (v : VW) : Prop :=
 ∀ T, M.ok T → ∀ (fr : Frame) (cs : List Frame), P.funcs[fr.fn]? = some fn → fr.mode = m → fr.defers = a.defers → fr.tmps = a.tmps →
  (∀ v', bodyPost P fn R .ret { a with defers := [] } v' → T v' { fr with mode := .returning, defers := [] } cs) → T v fr cs
def bodyPostD {P : Program} (M : Md P) (fn : Func) (R : Ending → VW → Prop) : Exit → Act → VW → Prop
 | .ret, a, v => LvD M fn R .returning a v
 | .normal, a, v => LvD M fn R .returning a v
 | .panic ch, a, v => LvD M fn R (.panicking ch) a v
 | _, _, _ => False

section
variable {P : Program} {M : Md P} {N : Nat} {S : FS} {w0 : VW} {X : Nat → Prop} {ops : Array Oper} {o : Oper} {l : List Oper} {Q : Exit → Act → VW → Prop} {Γ : Ga} {Δ F : List D} {b g s : Nat} {T Tc : TypeId} {fn : Func} {R : Ending → VW → Prop} {n e0 : Int} {a0 : A}

theorem JO.defer {cl : Call} {ts : Array TypeId} (hg : o.guard = none) (hd : o.dst = none) (ho : o.op = .defer cl) (hcl : cl = { callee := .value (.tmp s), args := #[], argTypes := ts }) (hl : lk Γ s = some (.eq (.func (.func g) #[] #[.pointer (some ⟨b, 0, none⟩)])))
 (h : JO ⟨P, N, S, w0, X, none, [dfr g b], M⟩ ops l Q Γ Δ) : JO ⟨P, N, S, w0, X, none, [], M⟩ ops (o :: l) Q Γ Δ := by
 intro a w hst
 have hw : Region.wanted o (yielded ops a.tmps) = true := wanted_none hg _
 refine wkL_step fun K hK => ?_
 rw [if_pos hw]
 intro v1 hr
 obtain ⟨h1, h2, S', h3, h4, h5, h6⟩ := hst.rely hr
 have e1 : a.eval (.tmp s) = .func (.func g) #[] #[.pointer (some ⟨b, 0, none⟩)] := h6 s _ hl
 have hex : (o.semAt none a.eval) = pure (.defer (dfr g b)) := by
  rw [Oper.semAt_none];simp [execOp, ho, hcl, resolve, Deferred.ofValue, e1, dfr]
 show Sg P v1 (o.semAt none a.eval) ∧ upC M v1 o a K Q ((o.semAt none a.eval).run P v1)
 rw [hex]
 refine ⟨Guar.refl v1, hK _ _ (h _ _ ⟨?_, by rw [hd]; simpa [Act.put] using h2, S', h3, h4, h5, fun s r hl => by rw [hd]; simpa [Act.put] using h6 s r hl⟩)⟩
 have h1 : a.defers = [] := h1
 rw [hd]
 simp [Act.put, h1]

theorem JO.panicN {c : Cx} (hrd : c.rd = none) (hg : o.guard = none) (ho : o.op = .panic (.tmp s)) (hl : lk Γ s = some (.eq (.iface T (.int .i64 n)))) (h : JN c (Q (.panic (chain1 T n false))) Γ Δ) : JO c ops (o :: l) Q Γ Δ := by
 intro a w hst;have hw : Region.wanted o (yielded ops a.tmps) = true := wanted_none hg _;refine wkL_step fun K hK => ?_;rw [if_pos hw, hrd];intro v1 hr;have hst' := hst.rely hr;obtain ⟨h1, h2, S', h3, h4, h5, h6⟩ := hst';have e1 : a.eval (.tmp s) = .iface T (.int .i64 n) := h6 s _ hl
 have hex : (o.semAt none a.eval) = .halt (.panic (.iface T (.int .i64 n))) := by
  rw [Oper.semAt_none];unfold execOp;rw [ho];show ((Instr.panic (a.eval (.tmp s))).bind _) = _;rw [e1];rfl
 rw [hex];exact ⟨Guar.refl v1, h a _ (hst.rely hr)⟩

theorem JN.then_p {c : Cx} {M1 : Act → VW → Prop} {ch : List PanicEntry} (h : JN c (Q (.panic ch)) Γ Δ) : JN c (Ex.thn M1 Q (.panic ch)) Γ Δ := h
theorem JN.blk_p {c : Cx} {id : Nat} {ch : List PanicEntry} (h : JN c (Q (.panic ch)) Γ Δ) : JN c (Ex.blk id Q (.panic ch)) Γ Δ := h

theorem lvD {m : FrameMode} {e1 : Int} (hE : EnterOk P g) (hc : CatchRun M g m Tc e0 e1) (hm : m ≠ .run) (h : JN ⟨P, N, S, w0, X, none, [], M⟩ (bodyPost P fn R .ret) Γ (.obj b Tc (.eq (.int .i64 e1)) :: F)) :
 JN ⟨P, N, S, w0, X, none, [dfr g b], M⟩ (LvD M fn R m) Γ (.obj b Tc (.eq (.int .i64 e0)) :: F) := by
 intro a w st T hT fr cs hfn hmo hdf htm hk
 have bc := M.bc T hT
 have h1 : a.defers = [dfr g b] := st.1
 refine bc.step _ _ _ fun v1 hr => ?_
 obtain ⟨es, q1, q2⟩ := g_deferCall (P := P) (cs := cs) (w := v1.toWorld) m hE hmo hm (hdf.trans h1)
 refine ⟨_, _, v1.toWorld, es, q2, (Guar.refl v1).sub q1, ?_⟩
 obtain ⟨_, h2, S1, h3, h4, h5, h6⟩ := st.rely hr
 have hO1 : OwnsC [.obj b Tc (.eq (.int .i64 e0))] S1 v1 := OwnsC.part (F := F) h5
 refine hc T hT b S1 v1 { fr with defers := [] } cs h3.dom hO1 hmo fun S' w' g1 g2 => ?_
 refine hk w' (h _ _ ⟨rfl, h2, S', h3.trans g1 (fun x hx => h4 x (by obtain ⟨d, hd, e⟩ := hx; rw [List.mem_singleton.1 hd] at e; exact ⟨_, List.mem_cons_self .., e⟩)), ?_, ?_, fun s r hl => ?_⟩)
 ·
  rintro x ⟨d, hd, e⟩;rcases List.mem_cons.1 hd with rfl | hd
  ·exact h4 x ⟨_, List.mem_cons_self .., e⟩
  ·exact h4 x ⟨d, List.mem_cons_of_mem _ hd, e⟩
 ·
  refine OwnsC.frame (Δ := [.obj b Tc (.eq (.int .i64 e0))]) (Δ' := [.obj b Tc (.eq (.int .i64 e1))]) (F := F) h3.dom h5 g1 g2 fun x hx => .inl ?_;obtain ⟨d, hd, e⟩ := hx;rw [List.mem_singleton.1 hd] at e;exact ⟨_, List.mem_singleton.2 rfl, e⟩
 ·
  have hK : Keep S1 v1 w' := fun x hx => g1.keep x (h3.dom x hx) (h5.sees x hx) fun hf => (hO1.own x hf).1 hx;exact A.mono g1.sub hK r (h6 s r hl)

theorem JN.retD (hc : CatchOk P g T Tc) (h : JN ⟨P, N, S, w0, X, none, [], M⟩ (bodyPost P fn R .ret) Γ (.obj b Tc (.eq (.int .i64 e0)) :: F)) :
 JN ⟨P, N, S, w0, X, none, [dfr g b], M⟩ (bodyPostD M fn R .ret) Γ (.obj b Tc (.eq (.int .i64 e0)) :: F) := lvD hc.enter (hc.calm M e0) (by simp) h

theorem JN.panicD (hc : CatchOk P g T Tc) (h : JN ⟨P, N, S, w0, X, none, [], M⟩ (bodyPost P fn R .ret) Γ (.obj b Tc (.eq (.int .i64 n)) :: F)) :
 JN ⟨P, N, S, w0, X, none, [dfr g b], M⟩ (bodyPostD M fn R (.panic (chain1 T n false))) Γ (.obj b Tc (.eq (.int .i64 e0)) :: F) := lvD hc.enter (hc.caught M e0 n) (by simp) h

theorem CtrM.ofD {f : Nat} {C : Code} {as : List A} {Y : Type} {R : Y → A × List D} (N : Nat) (hf : P.funcs[f]? = some fn) (hb : fn.body = some C) (hN : fn.ntmps = N) (hn : Nat.ble as.length N = true)
 (h : ∀ S w0, JC ⟨P, N, S, w0, feet Δ, none, [], M⟩ C (bodyPostD M fn (RPost S w0 Δ R)) (entry 0 as) Δ) : CtrM M f as Δ R := by
 subst hN
 intro kind S w vs hd hall hO T hT cs hc
 have bc := M.bc T hT
 rw [enter_at hf hb]
 refine h S w _ _ (St.entry hn hd hall hO) T hT _ [] cs rfl fun e a' v' q => ?_
 have fin : ∀ (m : FrameMode) (todo : List Item), LvD M fn (RPost S w Δ R) m a' v' → T v' { Frame.atR { (default : Frame) with fn := f, kind := kind } a' todo with mode := m } cs := fun m todo q =>
  q T hT { Frame.atR { (default : Frame) with fn := f, kind := kind } a' todo with mode := m } cs hf rfl rfl rfl fun v'' ⟨p1, x, p2, p3⟩ => hc _ _ _ p3 rfl rfl ⟨rfl, rfl, fn, hf, p2⟩
 cases e with
 | normal => exact bc.move (fun _ _ => g_end rfl) (fin .returning [] q)
 | ret => exact ⟨fun _ todo => fin .returning todo q, fun h => by cases h⟩
 | panic chain => exact fun todo => fin (.panicking chain) todo q
 | exit id => exact q.elim
 | goto l => exact q.elim
 | outgrown => exact q.elim
theorem Ctr.ofD {f : Nat} {C : Code} {as : List A} {Y : Type} {R : Y → A × List D} (N : Nat) (hf : P.funcs[f]? = some fn) (hb : fn.body = some C) (hN : fn.ntmps = N) (hn : Nat.ble as.length N = true)
 (h : ∀ {M : Md P} (S : FS) (w0 : VW), JC ⟨P, N, S, w0, feet Δ, none, [], M⟩ C (bodyPostD M fn (RPost S w0 Δ R)) (entry 0 as) Δ) : Ctr P f as Δ R := fun _ => CtrM.ofD N hf hb hN hn h
end

section
variable {P : Program} {M : Md P} {o : Oper} {x : Operand} {T T' : TypeId} {n : Int}
/-- What recover gave, asked for a number of this type. -/
theorem o_taNil (ho : o.op = .typeAssert x T' T true) (h : TaOk P T) : OpT M o [(x, .eq .nilIface)] [] (fun _ : Unit => (.tup (.pair (.eq (.int .i64 0)) (.pair (.eq (.bool false)) .any)), [])) :=
 .val0 fun S w a hN => by
  have e1 : a.eval x = .nilIface := hN.1
  refine ⟨.tuple #[.int .i64 0, .bool false], ?_, [_, _], rfl, _, _, rfl, rfl, _, _, rfl, rfl, rfl⟩
  have : (Instr.typeAssert .nilIface T' T true).run P w = .ok (.tuple #[.int .i64 0, .bool false]) w := by
   unfold Instr.typeAssert;simp only [Sem.run_bind, run_underlying h.1, Result.andThen_ok, h.2, Sem.run_pure, if_true]
  simp only [execOp, ho, e1, Sem.run_bind, this, Result.andThen_ok, Sem.run_pure]
theorem o_taNum (ho : o.op = .typeAssert x T' T true) (h : TaOk P T) : OpT M o [(x, .eq (.iface T (.int .i64 n)))] [] (fun _ : Unit => (.tup (.pair (.eq (.int .i64 n)) (.pair (.eq (.bool true)) .any)), [])) :=
 .val0 fun S w a hN => by
  have e1 : a.eval x = .iface T (.int .i64 n) := hN.1
  refine ⟨.tuple #[.int .i64 n, .bool true], ?_, [_, _], rfl, _, _, rfl, rfl, _, _, rfl, rfl, rfl⟩
  have : (Instr.typeAssert (.iface T (.int .i64 n)) T' T true).run P w = .ok (.tuple #[.int .i64 n, .bool true]) w := by rw [run_assert h]; simp
  simp only [execOp, ho, e1, Sem.run_bind, this, Result.andThen_ok, Sem.run_pure]
theorem rec_none {fr b : Frame} {cs : List Frame} {m : FrameMode} (hb : b.kind = .deferred) (hm : fr.mode = .returning) (he : m = .returning) :
 (match tryRecover b (fr :: cs) with | some (x, cs') => x = .nilIface ∧ cs' = { fr with mode := m } :: cs | none => Value.nilIface = .nilIface ∧ m = .returning) := by
 simp [tryRecover, hb, hm, he]
theorem rec_some {fr b : Frame} {cs : List Frame} (hb : b.kind = .deferred) (hm : fr.mode = .panicking (chain1 T n false)) :
 (match tryRecover b (fr :: cs) with | some (x, cs') => x = .iface T (.int .i64 n) ∧ cs' = { fr with mode := .panicking (chain1 T n true) } :: cs | none => Value.iface T (.int .i64 n) = .nilIface ∧ FrameMode.panicking (chain1 T n true) = .panicking (chain1 T n false)) := by
 simp [tryRecover, hb, hm, chain1]
end
end K
end Go.Proofs.Ytopgphikdglphaa

/- The calculus, part 28: from a contract to the given statement: one argument, a slice of ints; the answer true; no goroutine is started. -/
namespace Go.Proofs.Ytopgphikdglphaa
namespace K
open Go Go.ChangeShapes Go.WideShapes Go.ChangeAt Go.RowKit

/-- A world in which nothing belongs to others. -/
@[reducible] def vw (W : World) : VW := ⟨W, fun _ => False, fun _ => False⟩
theorem ownsC_vw {S : FS} {W : World} : OwnsC [] S (vw W) := ⟨fun _ h => by simp at h, fun _ hb => (feet_nil hb).elim, List.Pairwise.nil, fun _ hb => (feet_nil hb).elim, fun _ _ h => h, fun _ h => h.elim, fun _ h => h.elim⟩

section
variable {H : Type} {enc : TypeId × Value → H} {P : Program} {M : Md P}

/-- A conclusion where what was there stands as it was. -/
theorem post_new {f : Func} {s : ChangeSpec} {apart fresh handsOn again : Bool} {W W' : World} {args : Array Value} {v : Value} {ds gs : List (DataW H)} {before pa pv : List MemPlace}
 (hW : DataW.Whole enc P f.params.toList s.vars apart W args.toList ds gs before)
 (hres : ∀ (b : Nat) (sp : Nat → Bool) (hd : Bool), DataW.TrodAll enc P W' b sp hd f.resultTypes.toList (v.resultList f.resultTypes.size) (s.fn H (ds ++ gs)).results [])
 (hargs : ∀ sp : Nat → Bool, (∀ p ∈ before, sp p.block = true) → DataW.TrodAll enc P W' 0 sp true f.params.toList args.toList (s.fn H (ds ++ gs)).args pa)
 (hvars : ∀ sp : Nat → Bool, (∀ p ∈ before, sp p.block = true) → DataW.TrodVars enc P W' sp s.vars (s.fn H (ds ++ gs)).vars pv)
 (hps : before = pa ++ pv) (hk : W.keptBut W' (· ∈ before)) (hfz : ∀ a : Addr, a.block < W.heap.size → W'.frozen? a = W.frozen? a)
 (hok : ∀ (j : Nat) (t : TypeId) (r : Value), f.resultTypes[j]? = some t → (v.resultList f.resultTypes.size)[j]? = some r → Value.okWide P W' .any 0 t r) :
 s.post enc P f apart fresh handsOn again W args v W' := by
 have hlt : ∀ p ∈ before, p.block < W.heap.size := fun p hp => hW.lt p hp
 have hold : ∀ p ∈ before, (fun b => decide (b < W.heap.size)) p.block = true := fun p hp => by simpa using hlt p hp
 refine ⟨ds, gs, before, [], pa, pv, hW, hres _ _ _, hargs _ hold, hvars _ hold, World.keptBut_mono (fun p hp => ⟨hp, ?_⟩) hk, fun _ => ?_⟩
 ·
  rw [hps, List.mem_append] at hp;exact Or.inr hp
 ·
  obtain ⟨_, _, _, _, _, hz, hn⟩ := hW;refine ⟨hok, _, _, ([] ++ pa) ++ pv, ⟨[] ++ pa, pv, trodAll_append (hargs _ (fun _ _ => rfl)) (hres _ _ _), hvars _ (fun _ _ => rfl), rfl, ?_, ?_⟩, ?_⟩
  ·intro b off hp;have hp' : MemPlace.cell b off ∈ before := by rw [hps]; simpa using hp
   rw [hfz _ (hlt _ hp')];exact hz b off hp'
  ·intro ha;have := hn ha;rw [hps] at this;simpa using this
  ·intro p hp _;rw [hps];simpa using hp

theorem step_kept {S S' : FS} {W : World} {W' : VW} {may : MemPlace → Prop} (h : CStep (feet []) S (vw W) S' W') : W.keptBut W' may ∧ ∀ a : Addr, a.block < W.heap.size → W'.frozen? a = W.frozen? a := by
 have hk : ∀ b, b < W.heap.size → W'.heap[b]? = W.heap[b]? := fun b hb => h.keep b hb (fun hx => hx) (fun hx => feet_nil hx);refine ⟨⟨h.os, h.output, fun i hi => by rw [hk i hi]; exact (World.keptBut_refl W may).2.2 i hi⟩, fun a ha => ?_⟩;unfold World.frozen?;rw [hk _ ha]

end
end K
end Go.Proofs.Ytopgphikdglphaa
