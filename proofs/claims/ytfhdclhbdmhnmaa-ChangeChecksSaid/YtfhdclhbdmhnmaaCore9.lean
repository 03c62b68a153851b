/- The calculus, part 9: a region that draws its order: operations that do not touch one another's things, proved in the order of the text, then a tail that is forced. -/
import Derived.Test.YtfhdclhbdmhnmaaCore8
import Derived.Orders
namespace Go.Proofs.Ytfhdclhbdmhnmaa
namespace K
open Go

/-- An operation whose forerunners have other numbers. -/
def renO (p : Nat → Nat) (o : Oper) : Oper := { o with after := o.after.map fun e => { e with on := p e.on }, guard := o.guard.map fun g => (p g.1, g.2) }

/-- The same operations under other numbers. -/
def Ren (ops ops' : Array Oper) : Prop := ops'.size = ops.size ∧ ∃ p q : Nat → Nat, (∀ i, q (p i) = i) ∧ (∀ j, p (q j) = j) ∧ ∀ i, ops'[p i]? = (ops[i]?).map (renO p)

theorem renO_id (o : Oper) : renO id o = o := by
  cases o
  simp [renO]

theorem Ren.refl (ops : Array Oper) : Ren ops ops := ⟨rfl, id, id, fun _ => rfl, fun _ => rfl, fun i => by
  cases h : ops[i]? <;> simp [h, renO_id]⟩

section
variable {F : Fence} {n : Nat} {P : Program} {ops ops' : Array Oper} {Q : Exit → Act → World → Prop} {p q : Nat → Nat}

theorem getD_same {L L' : Array Bool} (hL : ∀ i, L'[p i]? = L[i]?) (i : Nat) (b : Bool) : L'.getD (p i) b = L.getD i b := by
  simp only [Array.getD_eq_getD_getElem?, hL]

theorem ready_ren (hp : ∀ i, ops'[p i]? = (ops[i]?).map (renO p)) {L L' : Array Bool} (hL : ∀ i, L'[p i]? = L[i]?) (i : Nat) : p i ∈ Region.ready .any ops' L' ↔ i ∈ Region.ready .any ops L := by
  have hs : p i < ops'.size ↔ i < ops.size := by
    have := hp i
    constructor
    · intro h
      rw [Array.getElem?_eq_getElem h] at this
      cases h2 : ops[i]? with
      | none => rw [h2] at this; cases this
      | some o => exact (Array.getElem?_eq_some_iff.1 h2).1
    · intro h
      rw [Array.getElem?_eq_getElem h] at this
      exact (Array.getElem?_eq_some_iff.1 this).1
  unfold Region.ready
  simp only [List.mem_filter, List.mem_range, hs, getD_same hL, hp i, Option.map_map, Bool.and_eq_true]
  refine and_congr Iff.rfl (and_congr Iff.rfl ?_)
  cases ops[i]? with
  | none => exact Iff.rfl
  | some o =>
    simp only [Option.map_some, Function.comp_apply, Option.getD_some, renO, Array.all_map]
    have : ∀ e : Edge, ((!Region.binds .any { e with on := p e.on } || L'.getD (p e.on) false) = (!Region.binds .any e || L.getD e.on false)) := fun e => by
      rw [getD_same hL]; rfl
    simp only [this]

theorem yielded_ren (hp : ∀ i, ops'[p i]? = (ops[i]?).map (renO p)) {tm : Array Value} (j : Nat) : yielded ops' tm (p j) = yielded ops tm j := by
  unfold yielded
  rw [hp j]
  cases ops[j]? <;> rfl

theorem wpOp_ren (hp : ∀ i, ops'[p i]? = (ops[i]?).map (renO p)) {K K' : Act → World → Prop} (hK : ∀ a w, K' a w → K a w) {i : Nat} {a : Act} {w : World} (h : wpOpIn F n P ops' Q (p i) K' a w) : wpOpIn F n P ops Q i K a w := by
  unfold wpOpIn at h ⊢
  rw [hp i] at h
  cases ho : ops[i]? with
  | none => rw [ho] at h; exact hK _ _ h
  | some o =>
    rw [ho] at h
    simp only [Option.map_some] at h
    have hw : Region.wanted (renO p o) (yielded ops' a.tmps) = Region.wanted o (yielded ops a.tmps) := by
      unfold Region.wanted renO
      cases hg : o.guard with
      | none => simp
      | some g => simp [yielded_ren hp]
    rw [hw] at h
    simp only
    split at h
    · rename_i hh
      rw [if_pos hh]
      have h' : o.wpIn F n P a w K' Q := h
      exact Oper.wpIn_mono hK h'
    · rename_i hh
      rw [if_neg hh]
      exact ⟨h.1, hK _ _ h.2⟩

theorem any_ren (hqp : ∀ i, q (p i) = i) (hpq : ∀ j, p (q j) = j) (hp : ∀ i, ops'[p i]? = (ops[i]?).map (renO p)) : ∀ (fuel : Nat) {L L' : Array Bool} {a : Act} {w : World}, (∀ i, L'[p i]? = L[i]?) → wpAnyIn F n P .any ops' Q fuel L' a w → wpAnyIn F n P .any ops Q fuel L a w := by
  have hnil : ∀ {L L' : Array Bool}, (∀ i, L'[p i]? = L[i]?) → Region.ready .any ops L = [] → Region.ready .any ops' L' = [] := fun {L L'} hL h => by
    rw [List.eq_nil_iff_forall_not_mem]
    intro j hj
    rw [← hpq j, ready_ren hp hL] at hj
    rw [h] at hj
    cases hj
  have hnil' : ∀ {L L' : Array Bool}, (∀ i, L'[p i]? = L[i]?) → Region.ready .any ops' L' = [] → Region.ready .any ops L = [] := fun {L L'} hL h => by
    rw [List.eq_nil_iff_forall_not_mem]
    intro j hj
    rw [← ready_ren hp hL, h] at hj
    cases hj
  intro fuel
  induction fuel with
  | zero => intro L L' a w hL h; exact ⟨hnil' hL h.1, h.2⟩
  | succ fuel ih =>
    intro L L' a w hL h
    refine ⟨fun h0 => h.1 (hnil hL h0), fun i hi => ?_⟩
    refine wpOp_ren hp (fun a w h' => ih ?_ h') (h.2 (p i) ((ready_ren hp hL i).2 hi))
    intro j
    have hsz : p i < L'.size ↔ i < L.size := by
      have := hL i
      constructor
      · intro h
        rw [Array.getElem?_eq_getElem h] at this
        exact (Array.getElem?_eq_some_iff.1 this.symm).1
      · intro h
        rw [Array.getElem?_eq_getElem h] at this
        exact (Array.getElem?_eq_some_iff.1 this).1
    rw [Array.getElem?_setIfInBounds, Array.getElem?_setIfInBounds]
    by_cases hij : i = j
    · subst hij
      simp only [if_true, hsz]
    · rw [if_neg (fun e => hij (by rw [← hqp i, e, hqp])), if_neg hij, hL]

theorem wpIn_region_ren {id : Nat} {a : Act} {w : World} (hr : Ren ops ops') (hm : P.follows .mixedOrders = true)
    (h : wpAnyIn F n P .any ops' Q ops'.size (Array.replicate ops'.size false) a { w with drawn := w.drawn + 1 }) : (Code.region id ops true).wpIn F n P Q a w := by
  obtain ⟨hs, p, q, h1, h2, h3⟩ := hr
  rw [hs] at h
  refine wpIn_region_any hm (any_ren h1 h2 h3 _ (fun i => ?_) h)
  have : p i < ops.size ↔ i < ops.size := by
    have := h3 i
    rw [← hs]
    constructor
    · intro h
      rw [Array.getElem?_eq_getElem h] at this
      cases h2 : ops[i]? with
      | none => rw [h2] at this; cases this
      | some o => rw [hs]; exact (Array.getElem?_eq_some_iff.1 h2).1
    · intro h
      rw [hs] at h
      rw [Array.getElem?_eq_getElem h] at this
      exact (Array.getElem?_eq_some_iff.1 this).1
  simp only [Array.getElem?_replicate, this]
end

/-- The new number of the operation i, where ps tells the old numbers in their new order. -/
@[reducible] def newNo (ps : List Nat) (i : Nat) : Nat := if i < ps.length then ps.idxOf i else i
@[reducible] def oldNo (ps : List Nat) (j : Nat) : Nat := if j < ps.length then ps.getD j 0 else j
/-- The operations in a new order. -/
@[reducible] def permL (ps : List Nat) (l : List Oper) : List Oper := ps.map fun i => renO (newNo ps) (l.getD i default)
/-- What is known of one operation of a region: where it yields, what it asks, what it yields; the resource that it uses (and whether it uses it up), the resources that it makes, told by its value. -/
structure DE where
  o : Oper
  d : Nat
  N : List (Operand × A)
  r : A
  u : Option (Nat × Bool)
  b : Bool
  E : Value → List D

@[reducible] def useD (Δ : List D) : Option (Nat × Bool) → List D
  | none => []
  | some (k, _) => match Δ[k]? with | some d => [d] | none => []

@[reducible] def keepD (Δ : List D) : Option (Nat × Bool) → List D
  | some (k, false) => match Δ[k]? with | some d => [d] | none => []
  | _ => []

/-- The operation does what is said of it. -/
structure DV (c : Cx) (ops : Array Oper) (Δ : List D) (e : DE) : Prop where
  dst : e.o.dst = some e.d
  lt : e.d < c.N
  run : ∀ (S : FS) (w : World) (a : Act) (K : Act → World → Prop) (Q : Exit → Act → World → Prop), (∀ b, S b → b < w.heap.size) → Needs S w a e.N → Owns (useD Δ e.u) S w →
    (∀ S' w' v, Step (feet (useD Δ e.u)) S w S' w' → e.r.holds S' w' v → Owns (keepD Δ e.u ++ e.E v) S' w' → (∀ b, feet (keepD Δ e.u ++ e.E v) b → feet (useD Δ e.u) b ∨ w.heap.size ≤ b) → K (a.put (some e.d) v) w') →
    if Region.wanted e.o (yielded ops a.tmps) then e.o.wpIn (FW c.rd) 0 c.P a w K Q else K (a.put (some e.d) undef) w

/-- All are valid, and each one's needs are met by what stands ahead of it in the text. -/
def DRs (c : Cx) (ops : Array Oper) (Δ : List D) : Ga → List DE → Prop
  | _, [] => True
  | Γ, e :: es => DV c ops Δ e ∧ Has Γ e.N ∧ DRs c ops Δ ((e.d, e.r) :: Γ) es

def endT : Ga → List DE → Ga
  | Γ, [] => Γ
  | Γ, e :: es => endT ((e.d, e.r) :: Γ) es

/-- The slots of what makes resources. -/
def birthG : List DE → List Value → Ga
  | e :: es, v :: vs => if e.b then (e.d, .eq v) :: birthG es vs else birthG es vs
  | _, _ => []

/-- Does it use up resource k? -/
def eats (e : DE) (k : Nat) : Bool := match e.u with | some (k', true) => k' == k | _ => false

def usedUp (es : List DE) (k : Nat) : Bool := es.any fun e => eats e k

def births : List DE → List Value → List D
  | e :: es, v :: vs => e.E v ++ births es vs
  | _, _ => []

/-- The resources behind all. -/
def endD (Δ : List D) (es : List DE) (vs : List Value) : List D := keepFrom 0 Δ ++ births es vs
where
  keepFrom (k : Nat) : List D → List D
  | [] => []
  | d :: l => if usedUp es k then keepFrom (k + 1) l else d :: keepFrom (k + 1) l

/-! ### The static look at a region -/

def dpreds (o : Oper) : List Nat := (o.after.toList.filter (Region.binds .any)).map (·.on)

/-- For each operation, the set of those that stand ahead of it on every road, as bits. -/
def closTo (masks : List Nat) : List Nat → Nat
  | [] => 0
  | j :: js => (1 <<< j ||| masks.getD j 0) ||| closTo masks js

def clos : List Nat → List Oper → List Nat
  | masks, [] => masks
  | masks, o :: l => clos (masks ++ [closTo masks (dpreds o)]) l

def slotsOf : List (Operand × A) → List Nat
  | [] => []
  | (.tmp t, _) :: l => t :: slotsOf l
  | _ :: l => slotsOf l

/-- The conditions on one operation against the others. -/
def chkOne (M : List Nat) (es : List DE) (i : Nat) (e : DE) : Bool :=
  es.zipIdx.all fun (e', j) => j == i ||
    (e'.d != e.d && (!(slotsOf e.N).contains e'.d || (if j < i then (M.getD i 0).testBit j else (M.getD j 0).testBit i)) &&
      (match e.u, e'.u with | some (k, x), some (k', x') => k != k' || (!x && !x') | _, _ => true))

def chk0 (full : List Oper) (es : List DE) : Bool :=
  let M := clos [] full
  (es.zipIdx.all fun (e, i) => chkOne M es i e) && (full.zipIdx.all fun (o, i) => (dpreds o).all (· < i))

def chk (full : List Oper) (es : List DE) : Bool :=
  let M := clos [] full
  (es.zipIdx.all fun (e, i) => chkOne M es i e) && (full.zipIdx.all fun (o, i) => (dpreds o).all (· < i)) &&
  ((List.range full.length).all fun j => j < es.length || (List.range j).all fun i => (M.getD j 0).testBit i)

section
variable {c : Cx} {full : List Oper} {Q : Exit → Act → World → Prop} {Γ0 Γ : Ga} {Δ : List D} {acc : List DE} {o : Oper} {l : List Oper} {N : List (Operand × A)} {r : A} {d : Nat} {id : Nat}

/-- The region at hand; 'acc' has come up to here in the text, 'l' is left. -/
def DR (c : Cx) (id : Nat) (full : List Oper) (Q : Exit → Act → World → Prop) (Γ0 : Ga) (Δ : List D) (acc : List DE) (l : List Oper) (Γ : Ga) : Prop :=
  full = acc.map (·.o) ++ l → DRs c full.toArray Δ Γ0 acc → Γ = endT Γ0 acc → ∀ ops, Ren ops full.toArray → JC c (.region id ops true) Q Γ0 Δ

theorem DRs.snoc {ops : Array Oper} {e : DE} : ∀ {acc : List DE} {Γ0 : Ga}, DRs c ops Δ Γ0 acc → DV c ops Δ e → Has (endT Γ0 acc) e.N → DRs c ops Δ Γ0 (acc ++ [e])
  | [], _, _, h, h' => ⟨h, h', trivial⟩
  | _ :: _, _, ⟨h1, h2, h3⟩, h, h' => ⟨h1, h2, DRs.snoc h3 h h'⟩

theorem endT_snoc {e : DE} (acc : List DE) : ∀ {Γ0 : Ga}, endT Γ0 (acc ++ [e]) = (e.d, e.r) :: endT Γ0 acc := by
  induction acc with
  | nil => intro Γ0; rfl
  | cons x acc ih => intro Γ0; exact ih

theorem DR.step {e : DE} (ho : e.o = o) (hv : DV c full.toArray Δ e) (hh : Has Γ e.N) (h : DR c id full Q Γ0 Δ (acc ++ [e]) l ((e.d, e.r) :: Γ)) : DR c id full Q Γ0 Δ acc (o :: l) Γ := by
  intro h1 h2 h3
  subst h3
  exact h (by rw [h1, List.map_append, List.append_assoc]; simp [ho]) (DRs.snoc h2 hv hh) (endT_snoc acc).symm

theorem JC.draw (h : DR c id full Q Γ Δ [] full Γ) : JC c (.region id full.toArray true) Q Γ Δ := h rfl trivial rfl _ (Ren.refl _)
/-! ### What single operations do in such a region -/

theorem DV.of00 {ops : Array Oper} (hg : o.guard = none) (hd : o.dst = some d) (hdN : Nat.blt d c.N = true) (ht : OpT c.P o N [] (fun _ : Unit => (r, []))) : DV c ops Δ ⟨o, d, N, r, none, false, fun _ => []⟩ :=
  ⟨hd, Nat.blt_eq ▸ hdN, fun S w a K Q hdm hN hO k => by
    rw [if_pos (wanted_none hg _)]
    exact ht.run c.rd S w a K Q hdm hN hO fun _ S' w' v h1 h2 h3 h4 => by rw [hd]; exact k S' w' v h1 h2 h3 h4⟩

theorem DV.of11 {ops : Array Oper} {e : D} (k : Nat) (hk : Δ[k]? = some e) (hg : o.guard = none) (hd : o.dst = some d) (hdN : Nat.blt d c.N = true) (ht : OpT c.P o N [e] (fun _ : Unit => (r, [e]))) : DV c ops Δ ⟨o, d, N, r, some (k, false), false, fun _ => []⟩ :=
  ⟨hd, Nat.blt_eq ▸ hdN, fun S w a K Q hdm hN hO kk => by
    rw [if_pos (wanted_none hg _)]
    simp only [useD, keepD, hk, List.append_nil] at hO kk
    exact ht.run c.rd S w a K Q hdm hN hO fun _ S' w' v h1 h2 h3 h4 => by rw [hd]; exact kk S' w' v h1 h2 h3 h4⟩

/-- It turns one resource into another one. -/
theorem DV.ofMod {ops : Array Oper} {e e' : D} (k : Nat) (hk : Δ[k]? = some e) (hg : o.guard = none) (hd : o.dst = some d) (hdN : Nat.blt d c.N = true) (ht : OpT c.P o N [e] (fun _ : Unit => (r, [e']))) : DV c ops Δ ⟨o, d, N, r, some (k, true), false, fun _ => [e']⟩ :=
  ⟨hd, Nat.blt_eq ▸ hdN, fun S w a K Q hdm hN hO kk => by
    rw [if_pos (wanted_none hg _)]
    simp only [useD, keepD, hk, List.nil_append] at hO kk
    exact ht.run c.rd S w a K Q hdm hN hO fun _ S' w' v h1 h2 h3 h4 => by rw [hd]; exact kk S' w' v h1 h2 h3 h4⟩

/-- It makes resources that its value tells. -/
theorem DV.ofNew {ops : Array Oper} {X : Type} {f : X → Value} {E : X → List D} (E' : Value → List D) (hE : ∀ x, E' (f x) = E x) (hg : o.guard = none) (hd : o.dst = some d) (hdN : Nat.blt d c.N = true) (ht : OpT c.P o N [] (fun x => (.eq (f x), E x))) :
    DV c ops Δ ⟨o, d, N, .any, none, true, E'⟩ :=
  ⟨hd, Nat.blt_eq ▸ hdN, fun S w a K Q hdm hN hO k => by
    rw [if_pos (wanted_none hg _)]
    exact ht.run c.rd S w a K Q hdm hN hO fun x S' w' v h1 h2 h3 h4 => by
      have e : v = f x := h2
      subst e
      rw [hd]
      exact k S' w' _ h1 trivial (by simpa [keepD, hE] using h3) (by simpa [keepD, hE] using h4)⟩

theorem DV.ofTurn {ops : Array Oper} {X : Type} {f : X → Value} {e : D} {E : X → List D} (k : Nat) (hk : Δ[k]? = some e) (E' : Value → List D) (hE : ∀ x, E' (f x) = E x) (hg : o.guard = none) (hd : o.dst = some d) (hdN : Nat.blt d c.N = true)
    (ht : OpT c.P o N [e] (fun x => (.eq (f x), E x))) : DV c ops Δ ⟨o, d, N, .any, some (k, true), true, E'⟩ :=
  ⟨hd, Nat.blt_eq ▸ hdN, fun S w a K Q hdm hN hO kk => by
    rw [if_pos (wanted_none hg _)]
    simp only [useD, keepD, hk] at hO kk
    exact ht.run c.rd S w a K Q hdm hN hO fun x S' w' v h1 h2 h3 h4 => by
      have e : v = f x := h2
      subst e
      rw [hd]
      exact kk S' w' _ h1 trivial (by simpa [hE] using h3) (by simpa [hE] using h4)⟩

/-- The guard, as a need. -/
theorem wanted_need {ops : Array Oper} {j s : Nat} {g b : Bool} {oj : Oper} (hg : o.guard = some (j, g)) (hj : ops[j]? = some oj) (hs : oj.dst = some s) {a : Act} (h : a.tmps.getD s undef = .bool b) : Region.wanted o (yielded ops a.tmps) = (b == g) := by
  have h8 : yielded ops a.tmps j = some b := by
    unfold yielded
    simp only [hj, Option.bind_some, hs]
    rw [Array.getD_eq_getD_getElem?] at h
    cases h9 : a.tmps[s]? with
    | none => rw [h9] at h; simp [undef] at h
    | some v => rw [h9] at h; simp at h; subst h; rfl
  simp only [Region.wanted, hg, h8]
  cases b <;> cases g <;> rfl

theorem DV.g00 {ops : Array Oper} {j s : Nat} {g : Bool} {oj : Oper} (hg : o.guard = some (j, g)) (hj : ops[j]? = some oj) (hs : oj.dst = some s) (hd : o.dst = some d) (hdN : Nat.blt d c.N = true) (ht : OpT c.P o N [] (fun _ : Unit => (r, []))) :
    DV c ops Δ ⟨o, d, (.tmp s, .eq (.bool g)) :: N, r, none, false, fun _ => []⟩ :=
  ⟨hd, Nat.blt_eq ▸ hdN, fun S w a K Q hdm hN hO k => by
    have hb : a.tmps.getD s undef = .bool g := hN.1
    rw [if_pos (by rw [wanted_need hg hj hs hb]; simp)]
    exact ht.run c.rd S w a K Q hdm hN.2 hO fun _ S' w' v h1 h2 h3 h4 => by rw [hd]; exact k S' w' v h1 h2 h3 h4⟩

theorem DV.g11 {ops : Array Oper} {e : D} (k : Nat) (hk : Δ[k]? = some e) {j s : Nat} {g : Bool} {oj : Oper} (hg : o.guard = some (j, g)) (hj : ops[j]? = some oj) (hs : oj.dst = some s) (hd : o.dst = some d) (hdN : Nat.blt d c.N = true) (ht : OpT c.P o N [e] (fun _ : Unit => (r, [e]))) :
    DV c ops Δ ⟨o, d, (.tmp s, .eq (.bool g)) :: N, r, some (k, false), false, fun _ => []⟩ :=
  ⟨hd, Nat.blt_eq ▸ hdN, fun S w a K Q hdm hN hO kk => by
    have hb : a.tmps.getD s undef = .bool g := hN.1
    rw [if_pos (by rw [wanted_need hg hj hs hb]; simp)]
    simp only [useD, keepD, hk, List.append_nil] at hO kk
    exact ht.run c.rd S w a K Q hdm hN.2 hO fun _ S' w' v h1 h2 h3 h4 => by rw [hd]; exact kk S' w' v h1 h2 h3 h4⟩

theorem DV.gno {ops : Array Oper} {j s : Nat} {g b : Bool} {oj : Oper} (hg : o.guard = some (j, g)) (hj : ops[j]? = some oj) (hs : oj.dst = some s) (hb : (b == g) = false) (hd : o.dst = some d) (hdN : Nat.blt d c.N = true) :
    DV c ops Δ ⟨o, d, [(.tmp s, .eq (.bool b))], .eq undef, none, false, fun _ => []⟩ :=
  ⟨hd, Nat.blt_eq ▸ hdN, fun S w a K Q hdm hN hO k => by
    have hb' : a.tmps.getD s undef = .bool b := hN.1
    rw [if_neg (by rw [wanted_need hg hj hs hb', hb]; simp)]
    exact k S w undef (Step.refl hdm) rfl (by simpa [keepD] using owns_nil) (fun b hb => (feet_nil (by simpa [keepD] using hb)).elim)⟩

/-! ### Any order -/

def lst (L : Array Bool) (j : Nat) : Bool := L.getD j false

def upTo (L : Array Bool) (k : Nat) : Nat → List DE → Bool
  | _, [] => false
  | j, e :: es => (lst L j && eats e k) || upTo L k (j + 1) es

def keepP (p : Nat → Bool) : Nat → List D → List D
  | _, [] => []
  | k, d :: l => if p k then d :: keepP p (k + 1) l else keepP p (k + 1) l

def blist (L : Array Bool) (a : Act) : Nat → List DE → List D
  | _, [] => []
  | j, e :: es => (if lst L j then e.E (a.tmps.getD e.d undef) else []) ++ blist L a (j + 1) es

def atD (Δ : List D) (es : List DE) (L : Array Bool) (a : Act) : List D := keepP (fun k => !upTo L k 0 es) 0 Δ ++ blist L a 0 es

theorem keepP_congr {p q : Nat → Bool} : ∀ {l : List D} {k : Nat}, (∀ j, p j = q j) → keepP p k l = keepP q k l
  | [], _, _ => rfl
  | d :: l, k, h => by simp only [keepP, h k, keepP_congr h]

theorem keepP_split {p : Nat → Bool} {d : D} : ∀ {l : List D} {i k : Nat}, l[i]? = some d → p (k + i) = true → (keepP p k l).Perm (d :: keepP (fun j => p j && j != k + i) k l)
  | [], _, _, h, _ => by simp at h
  | x :: l, 0, k, h, hp => by
    simp at h
    subst h
    have e : keepP p (k + 1) l = keepP (fun j => p j && j != k) (k + 1) l := by
      have : ∀ (l : List D) (m : Nat), k < m → keepP p m l = keepP (fun j => p j && j != k) m l := by
        intro l
        induction l with
        | nil => intro m _; rfl
        | cons y l ih =>
          intro m hm
          have : (m != k) = true := by simp; omega
          simp only [keepP, this, Bool.and_true, ih (m + 1) (by omega)]
      exact this l (k + 1) (by omega)
    simp only [Nat.add_zero] at hp ⊢
    simp only [keepP, hp, if_true, bne_self_eq_false, Bool.and_false, Bool.false_eq_true, if_false]
    rw [e]
  | x :: l, i + 1, k, h, hp => by
    have ih := keepP_split (l := l) (i := i) (k := k + 1) (by simpa using h) (by rw [← hp]; congr 1; omega)
    have e1 : k + 1 + i = k + (i + 1) := by omega
    rw [e1] at ih
    have hne : (k != k + (i + 1)) = true := by simp
    simp only [keepP, hne, Bool.and_true]
    split
    · exact (ih.cons x).trans (List.Perm.swap _ _ _)
    · exact ih

end

end K
end Go.Proofs.Ytfhdclhbdmhnmaa
