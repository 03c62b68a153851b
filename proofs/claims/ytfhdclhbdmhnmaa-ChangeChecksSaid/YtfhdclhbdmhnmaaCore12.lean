/- The calculus, part 12: loops that follow a function with fuel, forms of contents, what calls ask, short regions, and some more operations. -/
import Derived.Test.YtfhdclhbdmhnmaaCore11
namespace Go.Proofs.Ytfhdclhbdmhnmaa
namespace K
open Go

theorem v_t {b : Bool} (h : b = true) : b = true := h
theorem n_fn {p : Prop} [Decidable p] (h : (!decide p) = false) : ¬ ¬ p := fun hn => hn (n_f h)
theorem nv_fn {b : Bool} (h : (!b) = false) : ¬ ¬ b = true := fun hn => hn (nv_f h)

section
variable {c : Cx} {ops : Array Oper} {o : Oper} {l : List Oper} {Q : Exit → Act → World → Prop} {Γ Γ' Γ0 : Ga} {Δ Δ' F : List D} {N N' : List (Operand × A)} {d : Nat} {X : Type} {r r' : A} {C C' : Code} {P : Program}

/-- A loop that follows a function L with fuel. -/
theorem JC.loopB {α β ρ Z : Type} {K : β → Option ρ} {q : ρ} (G : Z → α → Ga) (E : Z → α → List D) (L : Nat → α → Option β) (n : Nat) (z : Z) (x : α) (h0 : ∀ x, L 0 x = none) (h : (L n x).bind K = some q) (hs : SE c Γ Δ (G z x) (E z x))
    (round : ∀ n z x, (L (n + 1) x).bind K = some q → JC c C (Exit.then (fun a w => ∃ z' : Z × α, (L n z'.2).bind K = some q ∧ St c (G z'.1 z'.2) (E z'.1 z'.2) a w) Q) (G z x) (E z x)) : JC c (.loop C) Q Γ Δ := by
  refine JC.loop (Z := Z × α) (fun z => G z.1 z.2) (fun z => E z.1 z.2) (fun n z => (L n z.2).bind K = some q) n (z, x) h hs ?_
  rintro n ⟨z, x⟩ h
  cases n with
  | zero => rw [h0] at h; cases h
  | succ n =>
    intro a w st
    refine Code.wpIn_mono (fun e a w q => ?_) (round n z x h a w st)
    cases e with
    | normal => obtain ⟨z', hp, hs⟩ := q; exact ⟨(n, z'), ⟨Nat.lt_succ_self n, hp⟩, hs⟩
    | _ => exact q

/-! ### Forms of contents -/

def AE (a a' : A) : Prop := ∀ S w cs, a.cells S w cs → a'.cells S w cs

theorem AE.rfl {a : A} : AE a a := fun _ _ _ h => h
theorem AE.trans {a b e : A} (h : AE a b) (h' : AE b e) : AE a e := fun S w cs q => h' S w cs (h S w cs q)
theorem AE.pair {a a' b b' : A} (h : AE a a') (h' : AE b b') : AE (.pair a b) (.pair a' b') := fun S w _ ⟨c1, c2, e, q1, q2⟩ => ⟨c1, c2, e, h S w c1 q1, h' S w c2 q2⟩
theorem AE.agg {a a' : A} (h : AE a a') : AE (.agg a) (.agg a') := fun S w cs q => h S w cs q
theorem AE.split {t u : Ty} {x : (Ty.pair t u).den} : AE (.rep (.pair t u) x) (.pair (.rep t x.1) (.rep u x.2)) := fun _ _ _ h => h
theorem AE.aggR {t : Ty} {x : t.den} : AE (.rep (.agg t) x) (.agg (.rep t x)) := fun _ _ _ h => h
theorem AE.ent {a : A} {t : Ty} {x : t.den} (h : Ent a t x) : AE a (.rep t x) := fun _ _ _ q => h.cells q
theorem AE.int {k : IntKind} {n : Int} : AE (.rep (.int k) n) (.eq (.int k n)) := fun _ _ _ h => ⟨h, Eq.refl _⟩
theorem AE.bool {b : Bool} : AE (.rep .bool b) (.eq (.bool b)) := fun _ _ _ h => ⟨h, Eq.refl _⟩
theorem AE.ptr {t : Ty} {x : t.den} : AE (.rep (.ptr t) x) (.at t x) := fun _ _ _ h => h
theorem AE.val {v : Value} : AE (.rep .val v) (.eq v) := fun _ _ _ h => h

theorem SE.objE {b : Nat} {T : TypeId} {a a' : A} (h : AE a a') : SE c Γ (.obj b T a :: F) Γ (.obj b T a' :: F) := fun act w ⟨h1, h2, S, h3, h4, h5, h6⟩ => by
  have hm : ∀ e, e ∈ (.obj b T a' :: F : List D) → ∃ e', e' ∈ (.obj b T a :: F : List D) ∧ e'.foot = e.foot := fun e he => by
    rcases List.mem_cons.1 he with e' | he
    · subst e'; exact ⟨_, List.mem_cons_self .., Eq.refl _⟩
    · exact ⟨e, List.mem_cons_of_mem _ he, Eq.refl _⟩
  refine ⟨h1, h2, S, h3, fun x ⟨e, he, hb⟩ => ?_, ⟨fun e he => ?_, fun x ⟨e, he, hb⟩ => ?_, ?_⟩, h6⟩
  · obtain ⟨e', q1, q2⟩ := hm e he
    exact h4 x ⟨e', q1, q2.trans hb⟩
  · rcases List.mem_cons.1 he with e' | he
    · subst e'
      obtain ⟨cs, q1, q2⟩ := h5.holds _ (List.mem_cons_self ..)
      exact ⟨cs, q1, h S w cs q2⟩
    · exact h5.holds e (List.mem_cons_of_mem _ he)
  · obtain ⟨e', q1, q2⟩ := hm e he
    exact h5.own x ⟨e', q1, q2.trans hb⟩
  · have hp := List.pairwise_cons.1 h5.apart
    exact List.pairwise_cons.2 ⟨fun e he => hp.1 e he, hp.2⟩

/-! ### What a call asks -/

theorem OpT.need {R : X → A × List D} (h : OpT P o N' Δ R) (hN : ∀ S w a, Needs S w a N → Needs S w a N') : OpT P o N Δ R := ⟨h.1, fun ro S w a next Q hd hn hO k => h.2 ro S w a next Q hd (hN S w a hn) hO k⟩

theorem ent_holds {S : FS} {w : World} {a : A} {t : Ty} {x : t.den} {v : Value} (h : Ent a t x) (hs : a.stor) (hg : a.isAgg = t.isAgg) (hv : a.holds S w v) : (mkA t x).holds S w v := h.holds hs hg hv
theorem lend {S : FS} {w : World} {u v : Value} {r : A} (h1 : (A.eq v).holds S w u) (hv : r.holds S w v) : r.holds S w u := by
  have e : u = v := h1
  rw [e]; exact hv
theorem flat_nil : ∀ d ∈ ([] : List D), d.flat = true := fun _ h => nomatch h
theorem flat_all {l : List D} (h : ∀ d ∈ l, d.flat = true) : ∀ d ∈ l, d.flat = true := h

/-! ### A region that draws its order, of which nothing free makes anything that its value tells -/

def NB : List DE → Prop
  | [] => True
  | e :: es => (e.b = false ∧ ∀ v, e.E v = e.E undef) ∧ NB es

@[reducible] def births0 : List DE → List D
  | [] => []
  | e :: es => e.E undef ++ births0 es

theorem births_nb : ∀ {es : List DE} {vs : List Value}, NB es → vs.length = es.length → births es vs = births0 es
  | [], [], _, _ => rfl
  | e :: es, v :: vs, h, hl => by
    simp only [births, births0, h.1.2 v]
    rw [births_nb h.2 (by simpa using hl)]
  | [], _ :: _, _, h => by simp at h
  | _ :: _, [], _, h => by simp at h
theorem birthG_nb : ∀ {es : List DE} {vs : List Value}, NB es → birthG es vs = []
  | [], _, _ => by simp [birthG]
  | e :: es, [], h => by simp [birthG]
  | e :: es, v :: vs, h => by
    simp only [birthG, h.1.1, Bool.false_eq_true, if_false]
    exact birthG_nb h.2

theorem DR.fin0 {full : List Oper} {acc : List DE} {id : Nat} (hn : NB acc) (hck : chk full acc = true) (hm : c.P.follows .mixedOrders = true) (h : JO c full.toArray l Q Γ (endD.keepFrom acc 0 Δ ++ births0 acc)) : DR c id full Q Γ0 Δ acc l Γ :=
  DR.fin hck hm fun vs hv => by
    rw [birthG_nb hn, List.nil_append]
    unfold endD
    rw [births_nb hn hv]
    exact h


section
variable {full : List Oper} {acc : List DE} {id : Nat} {e e' : D} {j s : Nat} {g b m : Bool} {oj : Oper}

/-- No resource is turned. -/
def NM : List DE → Prop
  | [] => True
  | e :: es => ((∀ k, eats e k = false) ∧ e.E undef = []) ∧ NM es

theorem NB.snoc {x : DE} : ∀ {es : List DE}, NB es → (x.b = false ∧ ∀ v, x.E v = x.E undef) → NB (es ++ [x])
  | [], _, h => ⟨h, trivial⟩
  | _ :: _, ⟨h1, h2⟩, h => ⟨h1, NB.snoc h2 h⟩
theorem NM.snoc {x : DE} : ∀ {es : List DE}, NM es → ((∀ k, eats x k = false) ∧ x.E undef = []) → NM (es ++ [x])
  | [], _, h => ⟨h, trivial⟩
  | _ :: _, ⟨h1, h2⟩, h => ⟨h1, NM.snoc h2 h⟩
theorem NM.births : ∀ {es : List DE}, NM es → births0 es = []
  | [], _ => rfl
  | e :: es, ⟨h1, h2⟩ => by simp only [births0, h1.2, NM.births h2, List.append_nil]
theorem NM.used : ∀ {es : List DE} {k : Nat}, NM es → usedUp es k = false
  | [], _, _ => rfl
  | e :: es, k, ⟨h1, h2⟩ => by
    have := NM.used (k := k) h2
    unfold usedUp at this ⊢
    simp only [List.any_cons, h1.1 k, this, Bool.or_false]
theorem NM.keep {es : List DE} (h : NM es) : ∀ {Δ : List D} {k : Nat}, endD.keepFrom es k Δ = Δ
  | [], _ => rfl
  | d :: Δ, k => by
    unfold endD.keepFrom
    rw [NM.used h, if_neg (by simp), NM.keep h]

/-- A region at hand of which nothing free makes anything that its value tells; m: so far no resource has been turned. -/
def DN (c : Cx) (id : Nat) (full : List Oper) (Q : Exit → Act → World → Prop) (Γ0 : Ga) (Δ : List D) (acc : List DE) (l : List Oper) (Γ : Ga) (m : Bool) : Prop :=
  NB acc → (m = true → NM acc) → DR c id full Q Γ0 Δ acc l Γ

theorem JC.drawN (h : DN c id full Q Γ Δ [] full Γ true) : JC c (.region id full.toArray true) Q Γ Δ := JC.draw (h trivial fun _ => trivial)
theorem DN.fin {m : Bool} (hck : chk full acc = true) (hm : c.P.follows .mixedOrders = true) (h : JO c full.toArray l Q Γ Δ) (ht : m = true := by rfl) : DN c id full Q Γ0 Δ acc l Γ m :=
  fun h1 h2 => DR.fin0 h1 hck hm (by rw [NM.keep (h2 ht), NM.births (h2 ht), List.append_nil]; exact h)
theorem DN.finM {m : Bool} (hck : chk full acc = true) (hm : c.P.follows .mixedOrders = true) (h : JO c full.toArray l Q Γ (endD.keepFrom acc 0 Δ ++ births0 acc)) : DN c id full Q Γ0 Δ acc l Γ m :=
  fun h1 _ => DR.fin0 h1 hck hm h

theorem DN.s00 (hg : o.guard = none) (hd : o.dst = some d) (hdN : Nat.blt d c.N = true) (ht : OpT c.P o N [] (fun _ : Unit => (r, []))) (hh : Has Γ N)
    (h : DN c id full Q Γ0 Δ (acc ++ [⟨o, d, N, r, none, false, fun _ => []⟩]) l ((d, r) :: Γ) m) : DN c id full Q Γ0 Δ acc (o :: l) Γ m :=
  fun h1 h2 => DR.step rfl (DV.of00 hg hd hdN ht) hh (h (h1.snoc ⟨rfl, fun _ => rfl⟩) fun e => (h2 e).snoc ⟨fun _ => rfl, rfl⟩)
theorem DN.s11 (k : Nat) (hk : Δ[k]? = some e) (hg : o.guard = none) (hd : o.dst = some d) (hdN : Nat.blt d c.N = true) (ht : OpT c.P o N [e] (fun _ : Unit => (r, [e]))) (hh : Has Γ N)
    (h : DN c id full Q Γ0 Δ (acc ++ [⟨o, d, N, r, some (k, false), false, fun _ => []⟩]) l ((d, r) :: Γ) m) : DN c id full Q Γ0 Δ acc (o :: l) Γ m :=
  fun h1 h2 => DR.step rfl (DV.of11 k hk hg hd hdN ht) hh (h (h1.snoc ⟨rfl, fun _ => rfl⟩) fun e => (h2 e).snoc ⟨fun _ => rfl, rfl⟩)
theorem DN.sMod (k : Nat) (hk : Δ[k]? = some e) (hg : o.guard = none) (hd : o.dst = some d) (hdN : Nat.blt d c.N = true) (ht : OpT c.P o N [e] (fun _ : Unit => (r, [e']))) (hh : Has Γ N)
    (h : DN c id full Q Γ0 Δ (acc ++ [⟨o, d, N, r, some (k, true), false, fun _ => [e']⟩]) l ((d, r) :: Γ) false) : DN c id full Q Γ0 Δ acc (o :: l) Γ m :=
  fun h1 _ => DR.step rfl (DV.ofMod k hk hg hd hdN ht) hh (h (h1.snoc ⟨rfl, fun _ => rfl⟩) fun e => nomatch e)
theorem DN.sg00 (hg : o.guard = some (j, g)) (hj : full.toArray[j]? = some oj) (hs : oj.dst = some s) (hd : o.dst = some d) (hdN : Nat.blt d c.N = true) (ht : OpT c.P o N [] (fun _ : Unit => (r, []))) (hh : Has Γ ((.tmp s, .eq (.bool g)) :: N))
    (h : DN c id full Q Γ0 Δ (acc ++ [⟨o, d, (.tmp s, .eq (.bool g)) :: N, r, none, false, fun _ => []⟩]) l ((d, r) :: Γ) m) : DN c id full Q Γ0 Δ acc (o :: l) Γ m :=
  fun h1 h2 => DR.step rfl (DV.g00 hg hj hs hd hdN ht) hh (h (h1.snoc ⟨rfl, fun _ => rfl⟩) fun e => (h2 e).snoc ⟨fun _ => rfl, rfl⟩)
theorem DN.sg11 (k : Nat) (hk : Δ[k]? = some e) (hg : o.guard = some (j, g)) (hj : full.toArray[j]? = some oj) (hs : oj.dst = some s) (hd : o.dst = some d) (hdN : Nat.blt d c.N = true) (ht : OpT c.P o N [e] (fun _ : Unit => (r, [e]))) (hh : Has Γ ((.tmp s, .eq (.bool g)) :: N))
    (h : DN c id full Q Γ0 Δ (acc ++ [⟨o, d, (.tmp s, .eq (.bool g)) :: N, r, some (k, false), false, fun _ => []⟩]) l ((d, r) :: Γ) m) : DN c id full Q Γ0 Δ acc (o :: l) Γ m :=
  fun h1 h2 => DR.step rfl (DV.g11 k hk hg hj hs hd hdN ht) hh (h (h1.snoc ⟨rfl, fun _ => rfl⟩) fun e => (h2 e).snoc ⟨fun _ => rfl, rfl⟩)
theorem DN.sgno (hg : o.guard = some (j, g)) (hj : full.toArray[j]? = some oj) (hs : oj.dst = some s) (hl : lk Γ s = some (.eq (.bool b))) (hb : (b == g) = false) (hd : o.dst = some d) (hdN : Nat.blt d c.N = true)
    (h : DN c id full Q Γ0 Δ (acc ++ [⟨o, d, [(.tmp s, .eq (.bool b))], .eq undef, none, false, fun _ => []⟩]) l ((d, .eq undef) :: Γ) m) : DN c id full Q Γ0 Δ acc (o :: l) Γ m :=
  fun h1 h2 => DR.step rfl (DV.gno hg hj hs hb hd hdN) ⟨hl, trivial⟩ (h (h1.snoc ⟨rfl, fun _ => rfl⟩) fun e => (h2 e).snoc ⟨fun _ => rfl, rfl⟩)
/-- A test's outcome, looked at where it is made. -/
theorem DN.fork (hg : o.guard = none) (hd : o.dst = some d) (hdN : Nat.blt d c.N = true) (ht : OpT c.P o N [] (fun _ : Unit => (.eq (.bool b), []))) (hh : Has Γ N)
    (h1 : b = true → DN c id full Q Γ0 Δ (acc ++ [⟨o, d, N, .eq (.bool true), none, false, fun _ => []⟩]) l ((d, .eq (.bool true)) :: Γ) m)
    (h2 : b = false → DN c id full Q Γ0 Δ (acc ++ [⟨o, d, N, .eq (.bool false), none, false, fun _ => []⟩]) l ((d, .eq (.bool false)) :: Γ) m) : DN c id full Q Γ0 Δ acc (o :: l) Γ m := by
  cases b
  · exact DN.s00 hg hd hdN ht hh (h2 rfl)
  · exact DN.s00 hg hd hdN ht hh (h1 rfl)
theorem DN.forkg (hg : o.guard = some (j, g)) (hj : full.toArray[j]? = some oj) (hs : oj.dst = some s) (hd : o.dst = some d) (hdN : Nat.blt d c.N = true) (ht : OpT c.P o N [] (fun _ : Unit => (.eq (.bool b), []))) (hh : Has Γ ((.tmp s, .eq (.bool g)) :: N))
    (h1 : b = true → DN c id full Q Γ0 Δ (acc ++ [⟨o, d, (.tmp s, .eq (.bool g)) :: N, .eq (.bool true), none, false, fun _ => []⟩]) l ((d, .eq (.bool true)) :: Γ) m)
    (h2 : b = false → DN c id full Q Γ0 Δ (acc ++ [⟨o, d, (.tmp s, .eq (.bool g)) :: N, .eq (.bool false), none, false, fun _ => []⟩]) l ((d, .eq (.bool false)) :: Γ) m) : DN c id full Q Γ0 Δ acc (o :: l) Γ m := by
  cases b
  · exact DN.sg00 hg hj hs hd hdN ht hh (h2 rfl)
  · exact DN.sg00 hg hj hs hd hdN ht hh (h1 rfl)
end

/-! ### More operations -/

theorem geti_ne {α : Type} {l : List α} {i : Int} {x : α} (h : geti l i = some x) : l ≠ [] := by
  rintro rfl
  have := (geti_some h).2.2
  simp at this

theorem zrd_of {T : TypeId} {t : Ty} {d : t.den} {z0 : Value} (h : (P.info? T).map (·.zero) = some (some z0)) (hr : ∀ S w, rd S w t d z0.cells.toList) : ∀ i z, P.info? T = some i → i.zero = some z → ∀ S w, rd S w t d z.cells.toList := by
  intro i z h1 h2 S w
  rw [h1] at h
  simp only [Option.map_some, Option.some.injEq] at h
  rw [h2] at h
  cases h
  exact hr S w

/-- All may be stored. -/
def Stors : List (Nat × Operand × A) → Prop
  | [] => True
  | p :: ps => p.2.2.stor ∧ Stors ps
theorem stors : ∀ {ps : List (Nat × Operand × A)}, Stors ps → ∀ p ∈ ps, p.2.2.stor
  | p :: ps, h, q, hq => by
    rcases List.mem_cons.1 hq with e | hq
    · rw [e]; exact h.1
    · exact stors h.2 q hq

def imax (a b : Int) : Int := if a < b then b else a
end
end K
end Go.Proofs.Ytfhdclhbdmhnmaa
