/- The calculus, part 15: short forms for regions with a tail; what frozen and lent values become. -/
import Derived.Test.YtfhdclhbdmhnmaaCore14
namespace Go.Proofs.Ytfhdclhbdmhnmaa
namespace K
open Go

section
variable {c : Cx} {full : List Oper} {Q : Exit → Act → World → Prop} {Γ0 Γ Γt : Ga} {Δ Δr Δt F : List D} {acc : List DE} {l : List Oper} {id : Nat} {must : List Bool} {T : List Nat} {vs : List Value} {k : Nat}
variable {o : Oper} {N : List (Operand × A)} {X : Type} {r r' : A} {d j s : Nat} {e e' : D} {g b : Bool} {oj : Oper} {P : Program}

/-- What an entry of such a region is like: what makes something is known by nothing but its value; what neither makes nor turns anything leaves nothing. -/
def WF1 (e : DE) : Prop := (e.b = true → e.r = .any) ∧ ((e.b = false ∧ ∀ k, eats e k = false) → ∀ v, e.E v = [])
def WF (acc : List DE) : Prop := ∀ e ∈ acc, WF1 e
theorem WF.snoc {x : DE} (h : WF acc) (hx : WF1 x) : WF (acc ++ [x]) := fun e he => by
  rcases List.mem_append.1 he with he | he
  · exact h e he
  · simp at he; subst he; exact hx

def DW (c : Cx) (id : Nat) (full : List Oper) (Q : Exit → Act → World → Prop) (Γ0 : Ga) (Δ : List D) (acc : List DE) (l : List Oper) (Γ : Ga) : Prop := WF acc.reverse → DR c id full Q Γ0 Δ acc.reverse l Γ

theorem JC.drawW (h : DW c id full Q Γ Δ [] full Γ) : JC c (.region id full.toArray true) Q Γ Δ := JC.draw (h fun e he => by simp at he)
/-- What may come up behind the tail's first operation only reads, and only these resources. -/
def chkF (kr : List Nat) : List DE → List Bool → Bool
  | [], _ => true
  | e :: es, ms => (ms.headD false || (!e.b && match e.u with | none => true | some (k, x) => !x && kr.contains k)) && chkF kr es ms.tail

theorem mem_pickD : ∀ {ks : List Nat} {Δ' : List D} {k : Nat}, pickD Δ ks = some Δ' → k ∈ ks → ∃ d, Δ[k]? = some d ∧ d ∈ Δ'
  | [], _, _, _, h => by simp at h
  | k0 :: ks, _, k, h, hk => by
    simp only [pickD] at h
    split at h
    · rename_i d l h1 h2
      cases h
      rcases List.mem_cons.1 hk with rfl | hk
      · exact ⟨d, h1, List.mem_cons_self ..⟩
      · obtain ⟨d', h3, h4⟩ := mem_pickD h2 hk
        exact ⟨d', h3, List.mem_cons_of_mem _ h4⟩
    · cases h

theorem Fl.of {kr : List Nat} (hk : pickD Δ kr = some Δr) : ∀ {es : List DE} {ms : List Bool}, (∀ e ∈ es, WF1 e) → chkF kr es ms = true → Fl Δ Δr es ms
  | [], _, _, _ => trivial
  | e :: es, ms, hw, h => by
    simp only [chkF, Bool.and_eq_true, Bool.or_eq_true, Bool.not_eq_true'] at h
    refine ⟨?_, Fl.of hk (fun e he => hw e (List.mem_cons_of_mem _ he)) h.2⟩
    have hwe := hw e (List.mem_cons_self ..)
    rcases h.1 with h1 | ⟨h1, h2⟩
    · exact .inl ⟨h1, hwe.1⟩
    · cases hu : e.u with
      | none => exact .inr ⟨h1, hwe.2 ⟨h1, fun k => by simp [eats, hu]⟩, .inl rfl⟩
      | some p =>
        obtain ⟨k, x⟩ := p
        rw [hu] at h2
        simp only [Bool.and_eq_true, Bool.not_eq_true'] at h2
        obtain ⟨rfl, h3⟩ := h2
        obtain ⟨d, g1, g2⟩ := mem_pickD hk (by simpa using h3)
        exact .inr ⟨h1, hwe.2 ⟨h1, fun k => by simp [eats, hu]⟩, .inr ⟨k, d, rfl, g1, g2⟩⟩

theorem DW.fin (n : Nat) (must : List Bool) (T : List Nat) (kr : List Nat) (Δr : List D) (hk : pickD Δ kr = some Δr) (hck : chkT full acc.reverse must T = true) (hcf : chkF kr acc.reverse must = true) (hn : acc.reverse.length = n) (hm : c.P.follows .mixedOrders = true)
    (h : ∀ vs : List Value, vs.length = n → BH acc.reverse vs → ∃ ks Δt, pickD (endD Δ acc.reverse vs) ks = some (Δr ++ Δt) ∧ ks.Nodup ∧ JT c full Q Γ0 Δ acc.reverse must T vs Δr 0 l Γ0 Δt) : DW c id full Q Γ0 Δ acc l Γ :=
  fun hw => DR.finT must T Δr hck (Fl.of hk hw hcf) hm fun vs hv => h vs (hv.trans hn)

theorem DW.push {x : DE} {Γ' : Ga} (hs : DR c id full Q Γ0 Δ (acc.reverse ++ [x]) l Γ' → DR c id full Q Γ0 Δ acc.reverse (o :: l) Γ) (hw : WF acc.reverse) (hx : WF1 x) (h : DW c id full Q Γ0 Δ (x :: acc) l Γ') : DR c id full Q Γ0 Δ acc.reverse (o :: l) Γ := by
  unfold DW at h
  rw [List.reverse_cons] at h
  exact hs (h (hw.snoc hx))

theorem DW.t00 (hg : o.guard = none) (hd : o.dst = some d) (hdN : Nat.blt d c.N = true) (ht : OpT c.P o N [] (fun _ : Unit => (r, []))) (hh : Has Γ N)
    (h : DW c id full Q Γ0 Δ (⟨o, d, N, r, none, false, fun _ => []⟩ :: acc) l ((d, r) :: Γ)) : DW c id full Q Γ0 Δ acc (o :: l) Γ :=
  fun hw => DW.push (DR.step rfl (DV.of00 hg hd hdN ht) hh) hw ⟨(fun h => nomatch h), fun _ _ => rfl⟩ h
theorem DW.t11 (k : Nat) (hk : Δ[k]? = some e) (hg : o.guard = none) (hd : o.dst = some d) (hdN : Nat.blt d c.N = true) (ht : OpT c.P o N [e] (fun _ : Unit => (r, [e]))) (hh : Has Γ N)
    (h : DW c id full Q Γ0 Δ (⟨o, d, N, r, some (k, false), false, fun _ => []⟩ :: acc) l ((d, r) :: Γ)) : DW c id full Q Γ0 Δ acc (o :: l) Γ :=
  fun hw => DW.push (DR.step rfl (DV.of11 k hk hg hd hdN ht) hh) hw ⟨(fun h => nomatch h), fun _ _ => rfl⟩ h
/-- A guard that was itself passed over. -/
theorem wanted_undef {ops : Array Oper} (hg : o.guard = some (j, g)) (hj : ops[j]? = some oj) (hs : oj.dst = some s) {a : Act} (h : a.tmps.getD s undef = undef) : Region.wanted o (yielded ops a.tmps) = false := by
  have h8 : yielded ops a.tmps j = none := by
    unfold yielded
    simp only [hj, Option.bind_some, hs]
    rw [Array.getD_eq_getD_getElem?] at h
    cases h9 : a.tmps[s]? with
    | none => rfl
    | some v => rw [h9] at h; simp at h; subst h; rfl
  simp only [Region.wanted, hg, h8]
  cases g <;> rfl

theorem JO.gnou {ops : Array Oper} {l : List Oper} (hg : o.guard = some (j, g)) (hj : ops[j]? = some oj) (hs : oj.dst = some s) (hl : lk Γ s = some (.eq undef)) (hd : o.dst = some d) (hdN : Nat.blt d c.N = true) (h : JO c ops l Q ((d, .eq undef) :: Γ) Δ) : JO c ops (o :: l) Q Γ Δ := by
  intro a w hst
  obtain ⟨h1, h2, S, h3, h4, h5, h6⟩ := hst
  have hw : Region.wanted o (yielded ops a.tmps) = false := wanted_undef hg hj hs (h6 s _ hl)
  refine wpListIn_step fun K hK => ?_
  rw [if_neg (by rw [hw]; simp)]
  refine ⟨fun _ _ => trivial, hK _ _ ?_⟩
  rw [hd]
  refine h _ _ (St.put (Δ := []) (Δ' := []) h1 h2 h3 h4 h5 h6 (Step.refl h3.dom) rfl ⟨fun _ h => by simp at h, fun b ⟨e, he, _⟩ => by simp at he, List.Pairwise.nil⟩ (fun b ⟨e, he, _⟩ => by simp at he) (Nat.blt_eq ▸ hdN))

theorem DV.gnou {ops : Array Oper} (hg : o.guard = some (j, g)) (hj : ops[j]? = some oj) (hs : oj.dst = some s) (hd : o.dst = some d) (hdN : Nat.blt d c.N = true) :
    DV c ops Δ ⟨o, d, [(.tmp s, .eq undef)], .eq undef, none, false, fun _ => []⟩ :=
  ⟨hd, Nat.blt_eq ▸ hdN, fun S w a K Q hdm hN hO k => by
    have hb' : a.tmps.getD s undef = undef := hN.1
    rw [if_neg (by rw [wanted_undef hg hj hs hb']; simp)]
    exact k S w undef (Step.refl hdm) rfl (by simpa [keepD] using owns_nil) (fun b hb => (feet_nil (by simpa [keepD] using hb)).elim)⟩

theorem DN.sgnou {m : Bool} (hg : o.guard = some (j, g)) (hj : full.toArray[j]? = some oj) (hs : oj.dst = some s) (hl : lk Γ s = some (.eq undef)) (hd : o.dst = some d) (hdN : Nat.blt d c.N = true)
    (h : DN c id full Q Γ0 Δ (acc ++ [⟨o, d, [(.tmp s, .eq undef)], .eq undef, none, false, fun _ => []⟩]) l ((d, .eq undef) :: Γ) m) : DN c id full Q Γ0 Δ acc (o :: l) Γ m :=
  fun h1 h2 => DR.step rfl (DV.gnou hg hj hs hd hdN) ⟨hl, trivial⟩ (h (h1.snoc ⟨rfl, fun _ => rfl⟩) fun e => (h2 e).snoc ⟨fun _ => rfl, rfl⟩)

/-- It makes resources that its value tells. -/
theorem DW.tNew {f : X → Value} {E : X → List D} (E' : Value → List D) (hE : ∀ x, E' (f x) = E x) (hg : o.guard = none) (hd : o.dst = some d) (hdN : Nat.blt d c.N = true) (ht : OpT c.P o N [] (fun x => (.eq (f x), E x))) (hh : Has Γ N)
    (h : DW c id full Q Γ0 Δ (⟨o, d, N, .any, none, true, E'⟩ :: acc) l ((d, .any) :: Γ)) : DW c id full Q Γ0 Δ acc (o :: l) Γ :=
  fun hw => DW.push (DR.step rfl (DV.ofNew E' hE hg hd hdN ht) hh) hw ⟨fun _ => rfl, fun h => nomatch h.1⟩ h
theorem DW.tTurn {f : X → Value} {E : X → List D} (k : Nat) (hk : Δ[k]? = some e) (E' : Value → List D) (hE : ∀ x, E' (f x) = E x) (hg : o.guard = none) (hd : o.dst = some d) (hdN : Nat.blt d c.N = true) (ht : OpT c.P o N [e] (fun x => (.eq (f x), E x))) (hh : Has Γ N)
    (h : DW c id full Q Γ0 Δ (⟨o, d, N, .any, some (k, true), true, E'⟩ :: acc) l ((d, .any) :: Γ)) : DW c id full Q Γ0 Δ acc (o :: l) Γ :=
  fun hw => DW.push (DR.step rfl (DV.ofTurn k hk E' hE hg hd hdN ht) hh) hw ⟨fun _ => rfl, fun h => nomatch h.1⟩ h

theorem len_cons {α : Type} {vs : List α} {n : Nat} (h : vs.length = n + 1) : ∃ v vs', vs = v :: vs' ∧ vs'.length = n := by
  cases vs with
  | nil => simp at h
  | cons v vs => exact ⟨v, vs, rfl, by simpa using h⟩
theorem len_nil {α : Type} {vs : List α} (h : vs.length = 0) : vs = [] := List.length_eq_zero_iff.1 h

/-- A resource that is never there. -/
def dBad : D := .sl undef 0 .bool []
theorem dBad_not {S : FS} {w : World} : ¬ dBad.holds S w := by
  rintro (⟨h, _⟩ | ⟨b, cap, cs, h, _⟩) <;> simp [undef] at h

/-- A variable, told by the pointer to it. -/
def ptrD (T : TypeId) (a : A) : Value → List D
  | .pointer (some ⟨b, 0, none⟩) => [.obj b T a]
  | _ => [dBad]

theorem ptr_of {T : TypeId} {a : A} {v : Value} (h : ∀ d ∈ ptrD T a v, ∃ S w, d.holds S w) : ∃ b, v = .pointer (some ⟨b, 0, none⟩) := by
  unfold ptrD at h
  split at h
  · exact ⟨_, rfl⟩
  · obtain ⟨S, w, hb⟩ := h dBad (by simp)
    exact absurd hb dBad_not

/-! ### The tail -/

theorem TI.permT {a : Act} {w : World} {L : Array Bool} {Δt' : List D} (hp : Δt.Perm Δt') (h : TI c full Γ0 acc must T vs Δr k Γt Δt L a w) : TI c full Γ0 acc must T vs Δr k Γt Δt' L a w := by
  obtain ⟨h1, h2, h3, h4, h5, h6, h7, S, g1, g2, g3, g4, g5⟩ := h
  have hp' := hp.append_left Δr
  exact ⟨h1, h2, h3, h4, h5, h6, h7, S, g1, fun b hb => g2 b ((feet_perm hp' b).2 hb), g3.perm hp', g4, g5⟩

theorem JT.front (i : Nat) (h : Δt[i]? = some e) (hj : JT c full Q Γ0 Δ acc must T vs Δr k l Γt (e :: Δt.eraseIdx i)) : JT c full Q Γ0 Δ acc must T vs Δr k l Γt Δt :=
  fun q1 q2 q3 q4 q5 q6 fuel L a w hI hf => hj q1 q2 q3 q4 q5 q6 fuel L a w (hI.permT (perm_front i e h)) hf

theorem JT.one {v : Value} {TE : TypeId} {t : Ty} {dd : List t.den} (h : oneCell v = true → JT c full Q Γ0 Δ acc must T vs Δr k l Γt (.sl v TE t dd :: F)) : JT c full Q Γ0 Δ acc must T vs Δr k l Γt (.sl v TE t dd :: F) :=
  fun q1 q2 q3 q4 q5 q6 fuel L a w hI hf => by
    refine h ?_ q1 q2 q3 q4 q5 q6 fuel L a w hI hf
    obtain ⟨S, _, _, h5, _⟩ := hI.ex
    rcases h5.holds _ (List.mem_append.2 (.inr (List.mem_cons_self ..))) with ⟨rfl, _⟩ | ⟨b, cap, cc, rfl, _⟩ <;> rfl

theorem JT.n11 (hg : o.guard = none) (hd : o.dst = none) (ht : OpT c.P o N [e] (fun _ : Unit => (r, [e']))) (hh : Has (GB acc vs ++ Γt) N) (hN : chkN full acc (acc.length + k) N = true)
    (h : JT c full Q Γ0 Δ acc must T vs Δr (k + 1) l Γt (e' :: F)) : JT c full Q Γ0 Δ acc must T vs Δr k (o :: l) Γt (e :: F) := JT.n (Δu := [e]) hg hd ht hh hN fun _ => h
theorem JT.y00 (hg : o.guard = none) (hd : o.dst = some d) (hdN : Nat.blt d c.N = true) (hdT : T.contains d = true) (ht : OpT c.P o N [] (fun _ : Unit => (r, []))) (hh : Has (GB acc vs ++ Γt) N) (hN : chkN full acc (acc.length + k) N = true)
    (h : JT c full Q Γ0 Δ acc must T vs Δr (k + 1) l ((d, r) :: Γt) Δt) : JT c full Q Γ0 Δ acc must T vs Δr k (o :: l) Γt Δt := JT.y (Δu := []) hg hd hdN hdT ht hh hN fun _ => h
theorem JT.y11 (hg : o.guard = none) (hd : o.dst = some d) (hdN : Nat.blt d c.N = true) (hdT : T.contains d = true) (ht : OpT c.P o N [e] (fun _ : Unit => (r, [e']))) (hh : Has (GB acc vs ++ Γt) N) (hN : chkN full acc (acc.length + k) N = true)
    (h : JT c full Q Γ0 Δ acc must T vs Δr (k + 1) l ((d, r) :: Γt) (e' :: F)) : JT c full Q Γ0 Δ acc must T vs Δr k (o :: l) Γt (e :: F) := JT.y (Δu := [e]) hg hd hdN hdT ht hh hN fun _ => h
/-! ### Cuts behind which nothing follows but what stands around -/

theorem JC.cutBN {C : Code} {α β ρ Z : Type} {Y : Option α} {f : α → Option β} {K : β → Option ρ} {q : ρ} (G : Z → α → Ga) (E : Z → α → List D) (h : (Y.bind f).bind K = some q)
    (h1 : ∀ K' : α → Option ρ, Y.bind K' = some q → JC c C (Exit.then (fun a w => ∃ z : Z × α, K' z.2 = some q ∧ St c (G z.1 z.2) (E z.1 z.2) a w) Q) Γ Δ)
    (h2 : ∀ z x, (f x).bind K = some q → JN c (Q .normal) (G z x) (E z x)) : JC c C Q Γ Δ := fun a w s => by
  refine Code.wpIn_mono (fun e a w q => ?_) (h1 (fun x => (f x).bind K) (by
    cases Y with
    | none => cases h
    | some x => exact h) a w s)
  cases e with
  | normal => obtain ⟨z, hp, hs⟩ := q; exact h2 z.1 z.2 hp a w hs
  | _ => exact q

/-! ### Own results that are frozen at once -/

theorem OpT.frz {TE : TypeId} {t : Ty} {dd : List t.den} {Δ' : List D} (h : OpT P o N Δ (fun v : Value => (.eq v, .sl v TE t dd :: Δ'))) : OpT P o N Δ (fun _ : Unit => (.rep (.slice t) dd, Δ')) := by
  refine ⟨h.1, fun ro S w a next Q hd hN hO k => ?_⟩
  refine h.2 ro S w a next Q hd hN hO fun v S' w' u hs hr ho hf => ?_
  have e : u = v := hr
  subst e
  have hsl := ho.holds _ (List.mem_cons_self ..)
  have hp := List.pairwise_cons.1 ho.apart
  rcases hsl with ⟨rfl, rfl⟩ | ⟨b, cap, cc, rfl, q1, q1', q2, q3, q4⟩
  · refine k () S' w' _ hs ⟨_, .inl ⟨none, 0, rfl, rfl⟩, rfl⟩ ⟨fun e he => ho.holds e (List.mem_cons_of_mem _ he), fun b ⟨e, he, hb⟩ => ho.own b ⟨e, List.mem_cons_of_mem _ he, hb⟩, hp.2⟩ fun b ⟨e, he, hb⟩ => hf b ⟨e, List.mem_cons_of_mem _ he, hb⟩
  · have hfe : feet (.sl (.slice (some ⟨b, 0, none⟩) dd.length cap) TE t dd :: Δ') b := ⟨_, List.mem_cons_self .., rfl⟩
    have hown := ho.own b hfe
    have hK : Keep S' w' w' := fun _ _ => rfl
    refine k () (fun x => S' x ∨ x = b) w' _ ⟨fun x hx => .inl (hs.sub x hx), fun x hx => ?_, fun x hx => ?_, hs.size, hs.keep, hs.os, hs.tape, hs.output⟩ ?_ ⟨fun e he => ?_, fun x ⟨e, he, hb⟩ => ?_, hp.2⟩ fun x ⟨e, he, hb⟩ => hf x ⟨e, List.mem_cons_of_mem _ he, hb⟩
    · rcases hx with hx | rfl
      · exact hs.new x hx
      · exact .inr ((hf x hfe).symm)
    · rcases hx with hx | rfl
      · exact hs.dom x hx
      · exact hown.2
    · refine ⟨_, .inr ⟨b, 0, cap, cc, TE, (0, 0), rfl, q1, .inr rfl, q2, ?_⟩, rfl⟩
      rw [List.drop_zero]
      exact rdAll_mono (fun _ _ h => rd_mono (fun _ h => .inl h) hK t h) q4
    · exact D.holds_mono (fun _ h => .inl h) hK e (fun _ _ => rfl) (ho.holds e (List.mem_cons_of_mem _ he))
    · have h7 := ho.own x ⟨e, List.mem_cons_of_mem _ he, hb⟩
      refine ⟨fun hx => ?_, h7.2⟩
      rcases hx with hx | rfl
      · exact h7.1 hx
      · exact hp.1 e he x rfl hb
end
end K
end Go.Proofs.Ytfhdclhbdmhnmaa
