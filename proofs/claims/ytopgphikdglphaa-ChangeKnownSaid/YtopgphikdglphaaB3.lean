/- The calculus, part 9: a region that draws its order: operations that do not touch one another's things, proved in the order of the text, then a tail that is forced. -/
import Derived.Test.YtopgphikdglphaaB2
import Derived.Orders
import Derived.Laws.StructEq
namespace Go.Proofs.Ytopgphikdglphaa
namespace K
open Go

/-- An operation whose forerunners have other numbers. -/
def renO (p : Nat → Nat) (o : Oper) : Oper := { o with after := o.after.map fun e => { e with on := p e.on }, guard := o.guard.map fun g => (p g.1, g.2) }

/-- The same operations under other numbers. -/
def Ren0 (ops ops' : Array Oper) : Prop := ops'.size = ops.size ∧ ∃ p q : Nat → Nat, (∀ i, q (p i) = i) ∧ (∀ j, p (q j) = j) ∧ ∀ i, ops'[p i]? = (ops[i]?).map (renO p)

theorem renO_id (o : Oper) : renO id o = o := by
 cases o;simp [renO]

theorem Ren0.refl (ops : Array Oper) : Ren0 ops ops := ⟨rfl, id, id, fun _ => rfl, fun _ => rfl, fun i => by
 cases h : ops[i]? <;> simp [h, renO_id]⟩

section
variable {P : Program} {M : Md P} {M : Md P} {rd : Option Nat} {ops ops' : Array Oper} {Q : Exit → Act → VW → Prop} {p q : Nat → Nat}

theorem getD_same {L L' : Array Bool} (hL : ∀ i, L'[p i]? = L[i]?) (i : Nat) (b : Bool) : L'.getD (p i) b = L.getD i b := by
 simp only [Array.getD_eq_getD_getElem?, hL]

theorem ready_ren (hp : ∀ i, ops'[p i]? = (ops[i]?).map (renO p)) {L L' : Array Bool} (hL : ∀ i, L'[p i]? = L[i]?) (i : Nat) : p i ∈ Region.ready .any ops' L' ↔ i ∈ Region.ready .any ops L := by
 have hs : p i < ops'.size ↔ i < ops.size := by
  have := hp i;constructor
  ·intro h;rw [Array.getElem?_eq_getElem h] at this;cases h2 : ops[i]? with
   | none => rw [h2] at this; cases this
   | some o => exact (Array.getElem?_eq_some_iff.1 h2).1
  ·intro h;rw [Array.getElem?_eq_getElem h] at this;exact (Array.getElem?_eq_some_iff.1 this).1
 unfold Region.ready;simp only [List.mem_filter, List.mem_range, hs, getD_same hL, hp i, Option.map_map, Bool.and_eq_true];refine and_congr Iff.rfl (and_congr Iff.rfl ?_);cases ops[i]? with
 | none => exact Iff.rfl
 | some o =>
  simp only [Option.map_some, Function.comp_apply, Option.getD_some, renO, Array.all_map]
  have : ∀ e : Edge, ((!Region.binds .any { e with on := p e.on } || L'.getD (p e.on) false) = (!Region.binds .any e || L.getD e.on false)) := fun e => by
   rw [getD_same hL]; rfl
  simp only [this]

theorem yielded_ren (hp : ∀ i, ops'[p i]? = (ops[i]?).map (renO p)) {tm : Array Value} (j : Nat) : yielded ops' tm (p j) = yielded ops tm j := by
 unfold yielded;rw [hp j];cases ops[j]? <;> rfl

theorem wpOp_ren (hp : ∀ i, ops'[p i]? = (ops[i]?).map (renO p)) {K K' : Act → VW → Prop} (hK : ∀ a w, K' a w → K a w) {i : Nat} {a : Act} {w : VW} (h : wkOp M rd ops' Q (p i) K' a w) : wkOp M rd ops Q i K a w := by
 unfold wkOp at h ⊢;rw [hp i] at h;cases ho : ops[i]? with
 | none => rw [ho] at h; exact hK _ _ h
 | some o =>
  rw [ho] at h;simp only [Option.map_some] at h
  have hw : Region.wanted (renO p o) (yielded ops' a.tmps) = Region.wanted o (yielded ops a.tmps) := by
   unfold Region.wanted renO;cases hg : o.guard with
   | none => simp
   | some g => simp [yielded_ren hp]
  rw [hw] at h;simp only;split at h
  ·rename_i hh;rw [if_pos hh];have h' : o.wk M rd a w K' Q := h;exact owk_mono hK h'
  ·rename_i hh;rw [if_neg hh];exact hK _ _ h

theorem any_ren (hqp : ∀ i, q (p i) = i) (hpq : ∀ j, p (q j) = j) (hp : ∀ i, ops'[p i]? = (ops[i]?).map (renO p)) : ∀ (fuel : Nat) {L L' : Array Bool} {a : Act} {w : VW}, (∀ i, L'[p i]? = L[i]?) → wkAny M rd .any ops' Q fuel L' a w → wkAny M rd .any ops Q fuel L a w := by
 have hnil : ∀ {L L' : Array Bool}, (∀ i, L'[p i]? = L[i]?) → Region.ready .any ops L = [] → Region.ready .any ops' L' = [] := fun {L L'} hL h => by
  rw [List.eq_nil_iff_forall_not_mem];intro j hj;rw [← hpq j, ready_ren hp hL] at hj;rw [h] at hj;cases hj
 have hnil' : ∀ {L L' : Array Bool}, (∀ i, L'[p i]? = L[i]?) → Region.ready .any ops' L' = [] → Region.ready .any ops L = [] := fun {L L'} hL h => by
  rw [List.eq_nil_iff_forall_not_mem];intro j hj;rw [← ready_ren hp hL, h] at hj;cases hj
 intro fuel
 induction fuel with
 | zero => intro L L' a w hL h; exact ⟨hnil' hL h.1, h.2⟩
 | succ fuel ih =>
  intro L L' a w hL h;refine ⟨fun h0 => h.1 (hnil hL h0), fun i hi => ?_⟩;refine wpOp_ren hp (fun a w h' => ih ?_ h') (h.2 (p i) ((ready_ren hp hL i).2 hi));intro j
  have hsz : p i < L'.size ↔ i < L.size := by
   have := hL i;constructor
   ·intro h;rw [Array.getElem?_eq_getElem h] at this;exact (Array.getElem?_eq_some_iff.1 this.symm).1
   ·intro h;rw [Array.getElem?_eq_getElem h] at this;exact (Array.getElem?_eq_some_iff.1 this).1
  rw [Array.getElem?_setIfInBounds, Array.getElem?_setIfInBounds];by_cases hij : i = j
  ·subst hij;simp only [if_true, hsz]
  ·rw [if_neg (fun e => hij (by rw [← hqp i, e, hqp])), if_neg hij, hL]

/-- An operation without some of its forerunners. -/
def dropO (xs : List Nat) (o : Oper) : Oper := { o with after := o.after.filter fun e => !xs.contains e.on }
/-- The same operations, some with fewer forerunners; in the first ones each forerunner stands ahead. -/
def Drop (ops ops' : Array Oper) : Prop := ops'.size = ops.size ∧ (∀ (i : Nat) o, ops[i]? = some o → ∀ e ∈ o.after, e.on < i) ∧ ∃ f : Nat → List Nat, ∀ i, ops'[i]? = (ops[i]?).map (dropO (f i))
/-- The same operations under other numbers, and perhaps with fewer forerunners. -/
def Ren (ops ops' : Array Oper) : Prop := ∃ ops1, (ops1 = ops ∨ Drop ops ops1) ∧ Ren0 ops1 ops'
theorem Ren.refl (ops : Array Oper) : Ren ops ops := ⟨ops, .inl rfl, Ren0.refl ops⟩

theorem mem_ready0 {L : Array Bool} {i : Nat} : i ∈ Region.ready .any ops L ↔ i < ops.size ∧ L.getD i true = false ∧ ∀ o, ops[i]? = some o → ∀ e ∈ o.after, Region.binds .any e = true → L.getD e.on false = true := by
 unfold Region.ready;simp only [List.mem_filter, List.mem_range, Bool.and_eq_true, Bool.not_eq_true'];refine and_congr_right fun hi => and_congr Iff.rfl ?_;rw [Array.getElem?_eq_getElem hi];simp only [Option.map_some, Option.getD_some, Option.some.injEq];constructor
 ·rintro h o' rfl e he hb
  have := Array.all_eq_true_iff_forall_mem.1 h e he;simpa [hb] using this
 ·intro h;rw [Array.all_eq_true_iff_forall_mem];intro e he;cases hb : Region.binds .any e with
  | false => simp
  | true => simp [h _ rfl e he hb]

theorem drop_ready {L : Array Bool} {i : Nat} (hd : Drop ops ops') (h : i ∈ Region.ready .any ops L) : i ∈ Region.ready .any ops' L := by
 obtain ⟨hs, _, f, hf⟩ := hd;rw [mem_ready0] at h ⊢;refine ⟨by omega, h.2.1, fun o ho e he hb => ?_⟩;rw [hf] at ho;cases h2 : ops[i]? with
 | none => rw [h2] at ho; cases ho
 | some o' =>
  rw [h2] at ho;cases ho;exact h.2.2 o' h2 e (Array.mem_filter.1 he).1 hb
theorem drop_nil {L : Array Bool} (hd : Drop ops ops') (hL : L.size = ops.size) (h : Region.ready .any ops L = []) : Region.ready .any ops' L = [] := by
 obtain ⟨hs, hw, f, hf⟩ := hd;rw [List.eq_nil_iff_forall_not_mem] at h ⊢
 have key : ∀ i, i < ops.size → L.getD i false = true := by
  intro i
  induction i using Nat.strongRecOn with
  | _ i ih =>
   intro hi;cases hb : L.getD i false with
   | true => rfl
   | false =>
    have hb' : L.getD i true = false := by
     rw [Array.getD_eq_getD_getElem?, Array.getElem?_eq_getElem (by omega)] at hb ⊢;exact hb
    exact absurd (mem_ready0.2 ⟨hi, hb', fun o ho e he _ => ih e.on (hw i o ho e he) (by have := hw i o ho e he; omega)⟩) (h i)
 intro i hi;rw [mem_ready0] at hi;have := key i (by omega);have h2 := hi.2.1;rw [Array.getD_eq_getD_getElem?, Array.getElem?_eq_getElem (by omega)] at this h2;rw [Option.getD_some] at this h2;rw [h2] at this;cases this
theorem yielded_drop {f : Nat → List Nat} (hf : ∀ i, ops'[i]? = (ops[i]?).map (dropO (f i))) {tm : Array Value} (j : Nat) : yielded ops' tm j = yielded ops tm j := by
 unfold yielded;rw [hf j];cases ops[j]? <;> rfl
theorem any_drop (hd : Drop ops ops') : ∀ (fuel : Nat) {L : Array Bool} {a : Act} {w : VW}, L.size = ops.size → wkAny M rd .any ops' Q fuel L a w → wkAny M rd .any ops Q fuel L a w := by
 obtain ⟨hs, hw, f, hf⟩ := hd;have hd : Drop ops ops' := ⟨hs, hw, f, hf⟩
 have hnil' : ∀ {L : Array Bool}, Region.ready .any ops' L = [] → Region.ready .any ops L = [] := fun {L} h => by
  rw [List.eq_nil_iff_forall_not_mem] at h ⊢;exact fun i hi => h i (drop_ready hd hi)
 intro fuel
 induction fuel with
 | zero => intro L a w _ h; exact ⟨hnil' h.1, h.2⟩
 | succ fuel ih =>
  intro L a w hL h;refine ⟨fun h0 => h.1 (drop_nil hd hL h0), fun i hi => ?_⟩;have h2 := h.2 i (drop_ready hd hi);unfold wkOp at h2 ⊢;rw [hf i] at h2;cases ho : ops[i]? with
  | none => rw [ho] at h2; exact ih (by simpa using hL) h2
  | some o =>
   rw [ho] at h2;simp only [Option.map_some] at h2
   have hw : Region.wanted (dropO (f i) o) (yielded ops' a.tmps) = Region.wanted o (yielded ops a.tmps) := by
    unfold Region.wanted dropO;cases hg : o.guard with
    | none => simp
    | some g => simp [yielded_drop hf]
   rw [hw] at h2;simp only;split at h2
   ·rename_i hh;rw [if_pos hh];have h' : o.wk M rd a w (wkAny M rd .any ops' Q fuel (L.setIfInBounds i true)) Q := h2;exact owk_mono (fun a w h => ih (by simpa using hL) h) h'
   ·rename_i hh;rw [if_neg hh];exact ih (by simpa using hL) h2

theorem wk_region_ren {id : Nat} {a : Act} {w : VW} (hr : Ren ops ops') (hm : P.follows .mixedOrders = true)
 (h : ∀ v1, Rely w v1 → wkAny M rd .any ops' Q ops'.size (Array.replicate ops'.size false) a (v1.upd { v1.toWorld with drawn := v1.drawn + 1 })) : (Code.region id ops true).wk M rd Q a w := by
 obtain ⟨ops1, hx, hs, p, q, h1, h2, h3⟩ := hr
 have hs1 : ops1.size = ops.size := by
  rcases hx with rfl | hx
  ·rfl
  ·exact hx.1
 have fin : (∀ v1, Rely w v1 → wkAny M rd .any ops1 Q ops1.size (Array.replicate ops1.size false) a (v1.upd { v1.toWorld with drawn := v1.drawn + 1 })) → (Code.region id ops true).wk M rd Q a w := fun h => by
  rw [hs1] at h;rcases hx with rfl | hx
  ·exact wk_region_any hm h
  ·exact wk_region_any hm fun v1 hv => any_drop hx _ (by simp) (h v1 hv)
 rw [hs] at h
 refine fin fun v1 hv => any_ren h1 h2 h3 _ (fun i => ?_) (h v1 hv)
 have : p i < ops1.size ↔ i < ops1.size := by
  have := h3 i;rw [← hs];constructor
  ·intro h;rw [Array.getElem?_eq_getElem h] at this;cases h2 : ops1[i]? with
   | none => rw [h2] at this; cases this
   | some o => rw [hs]; exact (Array.getElem?_eq_some_iff.1 h2).1
  ·intro h;rw [hs] at h;rw [Array.getElem?_eq_getElem h] at this;exact (Array.getElem?_eq_some_iff.1 this).1
 simp only [Array.getElem?_replicate, this]
end

/-- The new number of the operation i, where ps tells the old numbers in their new order. -/
@[reducible] def newNo (ps : List Nat) (i : Nat) : Nat := if i < ps.length then ps.idxOf i else i
@[reducible] def oldNo (ps : List Nat) (j : Nat) : Nat := if j < ps.length then ps.getD j 0 else j
/-- The operations in a new order. -/
@[reducible] def permL (ps : List Nat) (l : List Oper) : List Oper := ps.map fun i => renO (newNo ps) (l.getD i default)
/-- The operations without some forerunners (ds tells which, by the operation's number), in a new order. -/
@[reducible] def dropL (ds : List (List Nat)) (l : List Oper) : List Oper := (List.range l.length).map fun i => dropO (ds.getD i []) (l.getD i default)
/-- What is known of one operation of a region: where it yields, what it asks, what it yields; the resource that it uses (and whether it uses it up), the resources that it makes, told by its value. -/
structure DE where
 o : Oper
 d : Nat
 N : List (Operand × A)
 r : A
 u : Option (Nat × Bool)
 b : Bool
 E : Value → List D

@[reducible] def useD (Δ : List D) : Option (Nat × Bool) → List D
 | none => []
 | some (k, _) => match Δ[k]? with | some d => [d] | none => []

@[reducible] def keepD (Δ : List D) : Option (Nat × Bool) → List D
 | some (k, false) => match Δ[k]? with | some d => [d] | none => []
 | _ => []

/-- The operation does what is said of it. -/
structure DV (c : Cx) (ops : Array Oper) (Δ : List D) (e : DE) : Prop where
 dst : e.o.dst = some e.d
 lt : e.d < c.N
 run : ∀ (S : FS) (w : VW) (a : Act) (K : Act → VW → Prop) (Q : Exit → Act → VW → Prop), (∀ b, S b → b < w.heap.size) → Needs S w a e.N → OwnsC (useD Δ e.u) S w →
  (∀ S' w' v, CStep (feet (useD Δ e.u)) S w S' w' → e.r.holds S' w' v → OwnsC (keepD Δ e.u ++ e.E v) S' w' → (∀ b, feet (keepD Δ e.u ++ e.E v) b → feet (useD Δ e.u) b ∨ w.heap.size ≤ b) → K (a.put (some e.d) v) w') →
  if Region.wanted e.o (yielded ops a.tmps) then e.o.wk c.M c.rd a w K Q else K (a.put (some e.d) undef) w

/-- All are valid, and each one's needs are met by what stands ahead of it in the text. -/
def DRs (c : Cx) (ops : Array Oper) (Δ : List D) : Ga → List DE → Prop
 | _, [] => True
 | Γ, e :: es => DV c ops Δ e ∧ Has Γ e.N ∧ DRs c ops Δ ((e.d, e.r) :: Γ) es

def endT : Ga → List DE → Ga
 | Γ, [] => Γ
 | Γ, e :: es => endT ((e.d, e.r) :: Γ) es

/-- The slots of what makes resources. -/
def birthG : List DE → List Value → Ga
 | e :: es, v :: vs => if e.b then (e.d, .eq v) :: birthG es vs else birthG es vs
 | _, _ => []

/-- Does it use up resource k? -/
def eats (e : DE) (k : Nat) : Bool := match e.u with | some (k', true) => k' == k | _ => false

def usedUp (es : List DE) (k : Nat) : Bool := es.any fun e => eats e k

def births : List DE → List Value → List D
 | e :: es, v :: vs => e.E v ++ births es vs
 | _, _ => []

/-- The resources behind all. -/
def endD (Δ : List D) (es : List DE) (vs : List Value) : List D := keepFrom 0 Δ ++ births es vs
where
 keepFrom (k : Nat) : List D → List D
 | [] => []
 | d :: l => if usedUp es k then keepFrom (k + 1) l else d :: keepFrom (k + 1) l

/-! ### The static look at a region -/

def dpreds (o : Oper) : List Nat := (o.after.toList.filter (Region.binds .any)).map (·.on)

/-- For each operation, the set of those that stand ahead of it on every road, as bits. -/
def closTo (masks : List Nat) : List Nat → Nat
 | [] => 0
 | j :: js => (1 <<< j ||| masks.getD j 0) ||| closTo masks js

def clos : List Nat → List Oper → List Nat
 | masks, [] => masks
 | masks, o :: l => clos (masks ++ [closTo masks (dpreds o)]) l

def slotsOf : List (Operand × A) → List Nat
 | [] => []
 | (.tmp t, _) :: l => t :: slotsOf l
 | _ :: l => slotsOf l

/-- The conditions on one operation against the others. -/
def chkOne (M : List Nat) (es : List DE) (i : Nat) (e : DE) : Bool :=
 es.zipIdx.all fun (e', j) => j == i ||
  (e'.d != e.d && (!(slotsOf e.N).contains e'.d || (if j < i then (M.getD i 0).testBit j else (M.getD j 0).testBit i)) &&
   (match e.u, e'.u with | some (k, x), some (k', x') => k != k' || (!x && !x') | _, _ => true))

def chk0 (full : List Oper) (es : List DE) : Bool :=
 let M := clos [] full
 (es.zipIdx.all fun (e, i) => chkOne M es i e) && (full.zipIdx.all fun (o, i) => (dpreds o).all (· < i))

def chk (full : List Oper) (es : List DE) : Bool :=
 let M := clos [] full
 (es.zipIdx.all fun (e, i) => chkOne M es i e) && (full.zipIdx.all fun (o, i) => (dpreds o).all (· < i)) &&
 ((List.range full.length).all fun j => j < es.length || (List.range j).all fun i => (M.getD j 0).testBit i)

section
variable {c : Cx} {full : List Oper} {Q : Exit → Act → VW → Prop} {Γ0 Γ : Ga} {Δ : List D} {acc : List DE} {o : Oper} {l : List Oper} {N : List (Operand × A)} {r : A} {d : Nat} {id : Nat}

/-- The region at hand; 'acc' has come up to here in the text, 'l' is left. -/
def DR (c : Cx) (id : Nat) (full : List Oper) (Q : Exit → Act → VW → Prop) (Γ0 : Ga) (Δ : List D) (acc : List DE) (l : List Oper) (Γ : Ga) : Prop :=
 full = acc.map (·.o) ++ l → DRs c full.toArray Δ Γ0 acc → Γ = endT Γ0 acc → ∀ ops, Ren ops full.toArray → JC c (.region id ops true) Q Γ0 Δ

theorem DRs.snoc {ops : Array Oper} {e : DE} : ∀ {acc : List DE} {Γ0 : Ga}, DRs c ops Δ Γ0 acc → DV c ops Δ e → Has (endT Γ0 acc) e.N → DRs c ops Δ Γ0 (acc ++ [e])
 | [], _, _, h, h' => ⟨h, h', trivial⟩
 | _ :: _, _, ⟨h1, h2, h3⟩, h, h' => ⟨h1, h2, DRs.snoc h3 h h'⟩

theorem endT_snoc {e : DE} (acc : List DE) : ∀ {Γ0 : Ga}, endT Γ0 (acc ++ [e]) = (e.d, e.r) :: endT Γ0 acc := by
 induction acc with
 | nil => intro Γ0; rfl
 | cons x acc ih => intro Γ0; exact ih

theorem DR.step {e : DE} (ho : e.o = o) (hv : DV c full.toArray Δ e) (hh : Has Γ e.N) (h : DR c id full Q Γ0 Δ (acc ++ [e]) l ((e.d, e.r) :: Γ)) : DR c id full Q Γ0 Δ acc (o :: l) Γ := by
 intro h1 h2 h3;subst h3;exact h (by rw [h1, List.map_append, List.append_assoc]; simp [ho]) (DRs.snoc h2 hv hh) (endT_snoc acc).symm

theorem JC.draw (h : DR c id full Q Γ Δ [] full Γ) : JC c (.region id full.toArray true) Q Γ Δ := h rfl trivial rfl _ (Ren.refl _)
/-! ### What single operations do in such a region -/

theorem DV.of00 {ops : Array Oper} (hg : o.guard = none) (hd : o.dst = some d) (hdN : Nat.blt d c.N = true) (ht : OpT c.M o N [] (fun _ : Unit => (r, []))) : DV c ops Δ ⟨o, d, N, r, none, false, fun _ => []⟩ :=
 ⟨hd, Nat.blt_eq ▸ hdN, fun S w a K Q hdm hN hO k => by
  rw [if_pos (wanted_none hg _)]
  exact ht.run c.rd S w a K Q hdm hN hO fun _ S' w' v h1 h2 h3 h4 => by rw [hd]; exact k S' w' v h1 h2 h3 h4⟩

theorem DV.of11 {ops : Array Oper} {e : D} (k : Nat) (hk : Δ[k]? = some e) (hg : o.guard = none) (hd : o.dst = some d) (hdN : Nat.blt d c.N = true) (ht : OpT c.M o N [e] (fun _ : Unit => (r, [e]))) : DV c ops Δ ⟨o, d, N, r, some (k, false), false, fun _ => []⟩ :=
 ⟨hd, Nat.blt_eq ▸ hdN, fun S w a K Q hdm hN hO kk => by
  rw [if_pos (wanted_none hg _)]
  simp only [useD, keepD, hk, List.append_nil] at hO kk
  exact ht.run c.rd S w a K Q hdm hN hO fun _ S' w' v h1 h2 h3 h4 => by rw [hd]; exact kk S' w' v h1 h2 h3 h4⟩

/-- It makes resources that its value tells. -/
theorem DV.ofNew {ops : Array Oper} {X : Type} {f : X → Value} {E : X → List D} (E' : Value → List D) (hE : ∀ x, E' (f x) = E x) (hg : o.guard = none) (hd : o.dst = some d) (hdN : Nat.blt d c.N = true) (ht : OpT c.M o N [] (fun x => (.eq (f x), E x))) :
 DV c ops Δ ⟨o, d, N, .any, none, true, E'⟩ :=
 ⟨hd, Nat.blt_eq ▸ hdN, fun S w a K Q hdm hN hO k => by
  rw [if_pos (wanted_none hg _)]
  exact ht.run c.rd S w a K Q hdm hN hO fun x S' w' v h1 h2 h3 h4 => by
   have e : v = f x := h2
   subst e
   rw [hd]
   exact k S' w' _ h1 trivial (by simpa [keepD, hE] using h3) (by simpa [keepD, hE] using h4)⟩

theorem DV.ofTurn {ops : Array Oper} {X : Type} {f : X → Value} {e : D} {E : X → List D} (k : Nat) (hk : Δ[k]? = some e) (E' : Value → List D) (hE : ∀ x, E' (f x) = E x) (hg : o.guard = none) (hd : o.dst = some d) (hdN : Nat.blt d c.N = true)
 (ht : OpT c.M o N [e] (fun x => (.eq (f x), E x))) : DV c ops Δ ⟨o, d, N, .any, some (k, true), true, E'⟩ :=
 ⟨hd, Nat.blt_eq ▸ hdN, fun S w a K Q hdm hN hO kk => by
  rw [if_pos (wanted_none hg _)]
  simp only [useD, keepD, hk] at hO kk
  exact ht.run c.rd S w a K Q hdm hN hO fun x S' w' v h1 h2 h3 h4 => by
   have e : v = f x := h2
   subst e
   rw [hd]
   exact kk S' w' _ h1 trivial (by simpa [hE] using h3) (by simpa [hE] using h4)⟩

/-- The guard, as a need. -/
theorem wanted_need {ops : Array Oper} {j s : Nat} {g b : Bool} {oj : Oper} (hg : o.guard = some (j, g)) (hj : ops[j]? = some oj) (hs : oj.dst = some s) {a : Act} (h : a.tmps.getD s undef = .bool b) : Region.wanted o (yielded ops a.tmps) = (b == g) := by
 have h8 : yielded ops a.tmps j = some b := by
  unfold yielded;simp only [hj, Option.bind_some, hs];rw [Array.getD_eq_getD_getElem?] at h;cases h9 : a.tmps[s]? with
  | none => rw [h9] at h; simp [undef] at h
  | some v => rw [h9] at h; simp at h; subst h; rfl
 simp only [Region.wanted, hg, h8];cases b <;> cases g <;> rfl

theorem DV.g00 {ops : Array Oper} {j s : Nat} {g : Bool} {oj : Oper} (hg : o.guard = some (j, g)) (hj : ops[j]? = some oj) (hs : oj.dst = some s) (hd : o.dst = some d) (hdN : Nat.blt d c.N = true) (ht : OpT c.M o N [] (fun _ : Unit => (r, []))) :
 DV c ops Δ ⟨o, d, (.tmp s, .eq (.bool g)) :: N, r, none, false, fun _ => []⟩ :=
 ⟨hd, Nat.blt_eq ▸ hdN, fun S w a K Q hdm hN hO k => by
  have hb : a.tmps.getD s undef = .bool g := hN.1
  rw [if_pos (by rw [wanted_need hg hj hs hb]; simp)]
  exact ht.run c.rd S w a K Q hdm hN.2 hO fun _ S' w' v h1 h2 h3 h4 => by rw [hd]; exact k S' w' v h1 h2 h3 h4⟩

theorem DV.g11 {ops : Array Oper} {e : D} (k : Nat) (hk : Δ[k]? = some e) {j s : Nat} {g : Bool} {oj : Oper} (hg : o.guard = some (j, g)) (hj : ops[j]? = some oj) (hs : oj.dst = some s) (hd : o.dst = some d) (hdN : Nat.blt d c.N = true) (ht : OpT c.M o N [e] (fun _ : Unit => (r, [e]))) :
 DV c ops Δ ⟨o, d, (.tmp s, .eq (.bool g)) :: N, r, some (k, false), false, fun _ => []⟩ :=
 ⟨hd, Nat.blt_eq ▸ hdN, fun S w a K Q hdm hN hO kk => by
  have hb : a.tmps.getD s undef = .bool g := hN.1
  rw [if_pos (by rw [wanted_need hg hj hs hb]; simp)]
  simp only [useD, keepD, hk, List.append_nil] at hO kk
  exact ht.run c.rd S w a K Q hdm hN.2 hO fun _ S' w' v h1 h2 h3 h4 => by rw [hd]; exact kk S' w' v h1 h2 h3 h4⟩

theorem DV.gno {ops : Array Oper} {j s : Nat} {g b : Bool} {oj : Oper} (hg : o.guard = some (j, g)) (hj : ops[j]? = some oj) (hs : oj.dst = some s) (hb : (b == g) = false) (hd : o.dst = some d) (hdN : Nat.blt d c.N = true) :
 DV c ops Δ ⟨o, d, [(.tmp s, .eq (.bool b))], .eq undef, none, false, fun _ => []⟩ :=
 ⟨hd, Nat.blt_eq ▸ hdN, fun S w a K Q hdm hN hO k => by
  have hb' : a.tmps.getD s undef = .bool b := hN.1
  rw [if_neg (by rw [wanted_need hg hj hs hb', hb]; simp)]
  exact k S w undef (CStep.refl hdm) rfl (by simpa [keepD, useD] using hO) (fun b hb => (feet_nil (by simpa [keepD] using hb)).elim)⟩

/-! ### Any order -/

def lst (L : Array Bool) (j : Nat) : Bool := L.getD j false

def upTo (L : Array Bool) (k : Nat) : Nat → List DE → Bool
 | _, [] => false
 | j, e :: es => (lst L j && eats e k) || upTo L k (j + 1) es

def keepP (p : Nat → Bool) : Nat → List D → List D
 | _, [] => []
 | k, d :: l => if p k then d :: keepP p (k + 1) l else keepP p (k + 1) l

def blist (L : Array Bool) (a : Act) : Nat → List DE → List D
 | _, [] => []
 | j, e :: es => (if lst L j then e.E (a.tmps.getD e.d undef) else []) ++ blist L a (j + 1) es

def atD (Δ : List D) (es : List DE) (L : Array Bool) (a : Act) : List D := keepP (fun k => !upTo L k 0 es) 0 Δ ++ blist L a 0 es

theorem keepP_congr {p q : Nat → Bool} : ∀ {l : List D} {k : Nat}, (∀ j, p j = q j) → keepP p k l = keepP q k l
 | [], _, _ => rfl
 | d :: l, k, h => by simp only [keepP, h k, keepP_congr h]

theorem keepP_split {p : Nat → Bool} {d : D} : ∀ {l : List D} {i k : Nat}, l[i]? = some d → p (k + i) = true → (keepP p k l).Perm (d :: keepP (fun j => p j && j != k + i) k l)
 | [], _, _, h, _ => by simp at h
 | x :: l, 0, k, h, hp => by
  simp at h
  subst h
  have e : keepP p (k + 1) l = keepP (fun j => p j && j != k) (k + 1) l := by
   have : ∀ (l : List D) (m : Nat), k < m → keepP p m l = keepP (fun j => p j && j != k) m l := by
    intro l
    induction l with
    | nil => intro m _; rfl
    | cons y l ih =>
     intro m hm;have : (m != k) = true := by simp; omega
     simp only [keepP, this, Bool.and_true, ih (m + 1) (by omega)]
   exact this l (k + 1) (by omega)
  simp only [Nat.add_zero] at hp ⊢;simp only [keepP, hp, if_true, bne_self_eq_false, Bool.and_false, Bool.false_eq_true, if_false];rw [e]
 | x :: l, i + 1, k, h, hp => by
  have ih := keepP_split (l := l) (i := i) (k := k + 1) (by simpa using h) (by rw [← hp]; congr 1; omega);have e1 : k + 1 + i = k + (i + 1) := by omega
  rw [e1] at ih;have hne : (k != k + (i + 1)) = true := by simp
  simp only [keepP, hne, Bool.and_true];split
  ·exact (ih.cons x).trans (List.Perm.swap _ _ _)
  ·exact ih

end

end K
end Go.Proofs.Ytopgphikdglphaa

/- The calculus, part 10: that any order of such a region comes to the same. -/
namespace Go.Proofs.Ytopgphikdglphaa
namespace K
open Go

section
variable {L L' : Array Bool} {a a' : Act} {i : Nat} {e : DE} {v : Value}

theorem blist_past (hL : ∀ j, j ≠ i → lst L' j = lst L j) : ∀ {es : List DE} {m : Nat}, i < m → (∀ (j : Nat) (e' : DE), es[j]? = some e' → a'.tmps.getD e'.d undef = a.tmps.getD e'.d undef) → blist L' a' m es = blist L a m es
 | [], _, _, _ => rfl
 | x :: es, m, hm, hs => by
  simp only [blist, hL m (by omega), hs 0 x rfl]
  rw [blist_past hL (by omega) (fun j e' h => hs (j + 1) e' (by simpa using h))]

theorem blist_at (hL : ∀ j, j ≠ i → lst L' j = lst L j) (hi : lst L i = false) (hi' : lst L' i = true) (hv : a'.tmps.getD e.d undef = v) :
 ∀ {es : List DE} {m k : Nat}, m + k = i → es[k]? = some e → (∀ (j : Nat) (e' : DE), es[j]? = some e' → m + j ≠ i → a'.tmps.getD e'.d undef = a.tmps.getD e'.d undef) → (blist L' a' m es).Perm (e.E v ++ blist L a m es)
 | [], _, _, _, h, _ => by simp at h
 | x :: es, m, 0, hm, h, hs => by
  simp at h hm
  subst h hm
  simp only [blist, hi, hi', if_true, Bool.false_eq_true, if_false, List.nil_append, hv]
  rw [blist_past hL (by omega) (fun j e' h => hs (j + 1) e' (by simpa using h) (by omega))]
 | x :: es, m, k + 1, hm, h, hs => by
  have ih := blist_at hL hi hi' hv (es := es) (m := m + 1) (k := k) (by omega) (by simpa using h) (fun j e' h hj => hs (j + 1) e' (by simpa using h) (by omega))
  simp only [blist, hL m (by omega), hs 0 x rfl (by omega)]
  refine (List.Perm.append_left _ ih).trans ?_
  rw [← List.append_assoc, ← List.append_assoc]
  exact List.Perm.append_right _ List.perm_append_comm

theorem upTo_past (hL : ∀ j, j ≠ i → lst L' j = lst L j) {k : Nat} : ∀ {es : List DE} {m : Nat}, i < m → upTo L' k m es = upTo L k m es
 | [], _, _ => rfl
 | x :: es, m, hm => by simp only [upTo, hL m (by omega), upTo_past hL (es := es) (m := m + 1) (by omega)]

theorem upTo_at (hL : ∀ j, j ≠ i → lst L' j = lst L j) (hi : lst L i = false) (hi' : lst L' i = true) {k : Nat} : ∀ {es : List DE} {m q : Nat}, m + q = i → es[q]? = some e → upTo L' k m es = (upTo L k m es || eats e k)
 | [], _, _, _, h => by simp at h
 | x :: es, m, 0, hm, h => by
  simp at h hm
  subst h hm
  simp only [upTo, hi, hi', Bool.true_and, Bool.false_and, Bool.false_or, upTo_past hL (es := es) (m := m + 1) (by omega)]
  rw [Bool.or_comm]
 | x :: es, m, q + 1, hm, h => by
  simp only [upTo, hL m (by omega), upTo_at hL hi hi' (k := k) (es := es) (m := m + 1) (q := q) (by omega) (by simpa using h), Bool.or_assoc]

theorem upTo_false {k : Nat} : ∀ {es : List DE} {m : Nat}, (∀ (j : Nat) (e' : DE), es[j]? = some e' → lst L (m + j) = true → eats e' k = false) → upTo L k m es = false
 | [], _, _ => rfl
 | x :: es, m, h => by
  simp only [upTo]
  rw [upTo_false (es := es) (m := m + 1) (fun j e' he hl => h (j + 1) e' (by simpa using he) (by rw [← hl]; congr 1; omega))]
  have h0 := h 0 x rfl
  cases hl : lst L m with
  | false => rfl
  | true =>
   rw [h0 (by simpa using hl)]
   rfl

theorem lst_set {L : Array Bool} {i j : Nat} (hi : i < L.size) : lst (L.setIfInBounds i true) j = if i = j then true else lst L j := by
 simp only [lst, Array.getD_eq_getD_getElem?, Array.getElem?_setIfInBounds];split
 ·rename_i h; subst h; first | rfl | simp [hi]
 ·rfl

/-- How many of the first t are still to come. -/
def cnt (L : Array Bool) : Nat → Nat
 | 0 => 0
 | t + 1 => cnt L t + if lst L t then 0 else 1

theorem cnt_same (hL : ∀ j, j ≠ i → lst L' j = lst L j) : ∀ {t : Nat}, t ≤ i → cnt L' t = cnt L t
 | 0, _ => rfl
 | t + 1, h => by simp only [cnt, hL t (by omega), cnt_same hL (t := t) (by omega)]

theorem cnt_set (hL : ∀ j, j ≠ i → lst L' j = lst L j) (hi : lst L i = false) (hi' : lst L' i = true) : ∀ {t : Nat}, i < t → cnt L' t + 1 = cnt L t
 | 0, h => by omega
 | t + 1, h => by
  simp only [cnt]
  rcases Nat.lt_or_ge i t with hlt | hge
  ·
   have := cnt_set hL hi hi' (t := t) hlt
   rw [hL t (by omega)]
   omega
  ·
   have e : i = t := by omega
   subst e
   rw [cnt_same hL (Nat.le_refl _), hi, hi']
   simp

theorem cnt_zero : ∀ {t : Nat}, cnt L t = 0 → ∀ j, j < t → lst L j = true
 | 0, _, _, h => by omega
 | t + 1, h0, j, h => by
  simp only [cnt] at h0
  rcases Nat.lt_or_ge j t with hlt | hge
  ·
   exact cnt_zero (t := t) (by omega) j hlt
  ·
   have e : j = t := by omega
   subst e
   cases hl : lst L j with
   | true => rfl
   | false => rw [hl] at h0; simp at h0

theorem cnt_pos : ∀ {t : Nat}, cnt L t ≠ 0 → ∃ j, j < t ∧ lst L j = false ∧ ∀ k, k < j → lst L k = true
 | 0, h => absurd rfl h
 | t + 1, h => by
  by_cases h0 : cnt L t = 0
  ·
   refine ⟨t, by omega, ?_, fun k hk => cnt_zero h0 k hk⟩
   cases hl : lst L t with
   | false => rfl
   | true => simp [cnt, h0, hl] at h
  ·
   obtain ⟨j, h1, h2, h3⟩ := cnt_pos h0
   exact ⟨j, by omega, h2, h3⟩
end

/-! ### Who stands ahead of whom -/

theorem closTo_spec {M : List Nat} {k : Nat} : ∀ {js : List Nat}, (closTo M js).testBit k = true → ∃ j ∈ js, k = j ∨ (M.getD j 0).testBit k = true
 | [], h => by simp [closTo] at h
 | j :: js, h => by
  simp only [closTo, Nat.testBit_or, Bool.or_eq_true] at h
  rcases h with (h | h) | h
  ·
   refine ⟨j, List.mem_cons_self .., .inl ?_⟩
   rw [Nat.one_shiftLeft, Nat.testBit_two_pow] at h
   exact (by simpa using h : j = k).symm
  ·
   exact ⟨j, List.mem_cons_self .., .inr h⟩
  ·
   obtain ⟨j', h1, h2⟩ := closTo_spec h
   exact ⟨j', List.mem_cons_of_mem _ h1, h2⟩

theorem clos_prefix : ∀ {l : List Oper} {M : List Nat} {j : Nat}, j < M.length → (clos M l)[j]? = M[j]?
 | [], _, _, _ => rfl
 | o :: l, M, j, h => by
  rw [clos, clos_prefix (by simp; omega), List.getElem?_append_left h]

theorem clos_at : ∀ {l : List Oper} {M : List Nat} {q : Nat} {o : Oper}, l[q]? = some o → ∃ M', M'.length = M.length + q ∧ (∀ j, j < M'.length → (clos M l)[j]? = M'[j]?) ∧ (clos M l)[M.length + q]? = some (closTo M' (dpreds o))
 | [], _, _, _, h => by simp at h
 | o :: l, M, 0, o', h => by
  simp at h
  subst h
  refine ⟨M, rfl, fun j hj => clos_prefix hj, ?_⟩
  rw [clos, Nat.add_zero, clos_prefix (by simp)]
  simp
 | x :: l, M, q + 1, o, h => by
  obtain ⟨M', h1, h2, h3⟩ := clos_at (l := l) (M := M ++ [closTo M (dpreds x)]) (q := q) (by simpa using h)
  refine ⟨M', by rw [h1]; simp; omega, h2, ?_⟩
  rw [clos, ← h3]
  congr 1
  simp
  omega

/-- What stands ahead of an operation has come up, where what stands right ahead of it has. -/
theorem ahead {full : List Oper} {L : Array Bool} (hcl : ∀ j o, full[j]? = some o → lst L j = true → ∀ i ∈ dpreds o, lst L i = true) (hlt : ∀ j o, full[j]? = some o → ∀ i ∈ dpreds o, i < j) :
 ∀ (n j : Nat) (o : Oper), j ≤ n → full[j]? = some o → (∀ i ∈ dpreds o, lst L i = true) → ∀ k, ((clos [] full).getD j 0).testBit k = true → lst L k = true := by
 intro n
 induction n with
 | zero =>
  intro j o hj ho hp k hk;have : j = 0 := by omega
  subst this;obtain ⟨M', h1, h2, h3⟩ := clos_at (M := []) ho;simp only [List.length_nil, Nat.zero_add] at h3;rw [List.getD_eq_getElem?_getD, h3, Option.getD_some] at hk;obtain ⟨i, hi, _⟩ := closTo_spec hk;have := hlt 0 o ho i hi;omega
 | succ n ih =>
  intro j o hj ho hp k hk;obtain ⟨M', h1, h2, h3⟩ := clos_at (M := []) ho;simp only [List.length_nil, Nat.zero_add] at h1 h3;rw [List.getD_eq_getElem?_getD, h3, Option.getD_some] at hk;obtain ⟨i, hi, hk⟩ := closTo_spec hk;rcases hk with rfl | hk
  ·exact hp k hi
  ·have hij := hlt j o ho i hi
   have hjl : j < full.length := by
    rcases Nat.lt_or_ge j full.length with h | h
    ·exact h
    ·simp [List.getElem?_eq_none h] at ho
   obtain ⟨oi, hoi⟩ : ∃ oi, full[i]? = some oi := ⟨_, List.getElem?_eq_getElem (by omega)⟩;refine ih i oi (by omega) hoi (hcl i oi hoi (hp i hi)) k ?_;rw [List.getD_eq_getElem?_getD] at hk ⊢;rw [h2 i (by omega)];exact hk

theorem lst_size {L : Array Bool} {j : Nat} (h : lst L j = true) : j < L.size := by
 rcases Nat.lt_or_ge j L.size with h' | h'
 ·exact h'
 ·simp [lst, Array.getD_eq_getD_getElem?, Array.getElem?_eq_none h'] at h

theorem ready_iff {full : List Oper} {L : Array Bool} (hs : L.size = full.length) {i : Nat} : i ∈ Region.ready .any full.toArray L ↔ ∃ o, full[i]? = some o ∧ lst L i = false ∧ ∀ j ∈ dpreds o, lst L j = true := by
 rw [mem_ready];constructor
 ·rintro ⟨h1, o, h2, h3⟩;have h2' : full[i]? = some o := by simpa using h2
  have hi : i < L.size := by
   rw [hs];rcases Nat.lt_or_ge i full.length with h | h
   ·exact h
   ·simp [List.getElem?_eq_none h] at h2'
  refine ⟨o, h2', ?_, fun j hj => ?_⟩
  ·simp only [lst, Array.getD_eq_getD_getElem?, Array.getElem?_eq_getElem hi, Option.getD_some] at h1 ⊢;exact h1
  ·simp only [dpreds, List.mem_map, List.mem_filter, Array.mem_toList_iff] at hj;obtain ⟨ed, ⟨h4, h5⟩, rfl⟩ := hj;exact h3 ed h4 h5
 ·rintro ⟨o, h1, h2, h3⟩
  have hi : i < L.size := by
   rw [hs];rcases Nat.lt_or_ge i full.length with h | h
   ·exact h
   ·simp [List.getElem?_eq_none h] at h1
  refine ⟨?_, o, by simpa using h1, fun ed h4 h5 => h3 ed.on ?_⟩
  ·simp only [lst, Array.getD_eq_getD_getElem?, Array.getElem?_eq_getElem hi, Option.getD_some] at h2 ⊢;exact h2
  ·simp only [dpreds, List.mem_map, List.mem_filter, Array.mem_toList_iff];exact ⟨ed, ⟨h4, h5⟩, rfl⟩

theorem mem_zipIdx {α : Type} {l : List α} {p : α × Nat → Bool} (h : l.zipIdx.all p = true) {i : Nat} {x : α} (hx : l[i]? = some x) : p (x, i) = true := by
 rw [List.all_eq_true] at h;exact h (x, i) (List.mem_zipIdx_iff_getElem?.2 hx)

section
variable {c : Cx} {full : List Oper} {Q : Exit → Act → VW → Prop} {Γ0 Γ : Ga} {Δ : List D} {acc : List DE} {l : List Oper} {id : Nat}

/-- The tail, in its order. -/
theorem tail_any {P : Program} {M : Md P} {rd : Option Nat} (hlt : ∀ j o, full[j]? = some o → ∀ i ∈ dpreds o, i < j) : ∀ (l : List Oper) (j : Nat), full.drop j = l → (∀ m, j ≤ m → m < full.length → ∀ i, i < m → ((clos [] full).getD m 0).testBit i = true) →
 ∀ (L : Array Bool), L.size = full.length → (∀ i, i < j → i < full.length → lst L i = true) → (∀ i, j ≤ i → lst L i = false) → ∀ (a : Act) (w : VW), wkL M rd full.toArray Q l a w → ∀ fuel, l.length ≤ fuel → wkAny M rd .any full.toArray Q fuel L a w := by
 intro l
 induction l with
 | nil =>
  intro j hd _ L hs h1 h2 a w hw fuel _
  have hr : Region.ready .any full.toArray L = [] := by
   rw [List.eq_nil_iff_forall_not_mem];intro i hi;obtain ⟨o, h3, h4, _⟩ := (ready_iff hs).1 hi
   have hlen : i < full.length := by
    rcases Nat.lt_or_ge i full.length with h | h
    ·exact h
    ·simp [List.getElem?_eq_none h] at h3
   have hj : full.length ≤ j := by simpa using hd
   rw [h1 i (by omega) hlen] at h4;cases h4
  cases fuel with
  | zero => exact ⟨hr, hw⟩
  | succ n => exact ⟨fun _ => hw, by rw [hr]; simp⟩
 | cons o l ih =>
  intro j hd hf L hs h1 h2 a w hw fuel hfuel
  have hjl : j < full.length := by
   rcases Nat.lt_or_ge j full.length with h | h
   ·exact h
   ·rw [List.drop_eq_nil_of_le h] at hd; cases hd
  rw [List.drop_eq_getElem_cons hjl] at hd;simp only [List.cons.injEq] at hd;obtain ⟨hd1, hd2⟩ := hd;have ho : full[j]? = some o := by rw [List.getElem?_eq_getElem hjl, hd1]
  have hcl : ∀ j o, full[j]? = some o → lst L j = true → ∀ i ∈ dpreds o, lst L i = true := fun j' o' h3 h4 i hi => by
   have h5 := hlt j' o' h3 i hi
   have h6 : j' < j := by
    rcases Nat.lt_or_ge j' j with h | h
    ·exact h
    ·rw [h2 j' h] at h4; cases h4
   exact h1 i (by omega) (by omega)
  have hrj : j ∈ Region.ready .any full.toArray L := (ready_iff hs).2 ⟨o, ho, h2 j (Nat.le_refl _), fun i hi => h1 i (hlt j o ho i hi) (by have := hlt j o ho i hi; omega)⟩;obtain ⟨m, rfl⟩ : ∃ m, fuel = m + 1 := ⟨fuel - 1, by simp only [List.length_cons] at hfuel; omega⟩;refine ⟨fun h0 => (by rw [h0] at hrj; cases hrj), fun i hi => ?_⟩;obtain ⟨oi, h3, h4, h5⟩ := (ready_iff hs).1 hi
  have hij : i = j := by
   have hil : i < full.length := by
    rcases Nat.lt_or_ge i full.length with h | h
    ·exact h
    ·simp [List.getElem?_eq_none h] at h3
   rcases Nat.lt_trichotomy i j with h | h | h
   ·rw [h1 i h hil] at h4; cases h4
   ·exact h
   ·have := ahead hcl hlt i i oi (Nat.le_refl _) h3 h5 j (hf i (by omega) hil j h);rw [h2 j (Nat.le_refl _)] at this;cases this
  subst hij;have ho' : full.toArray[i]? = some o := by simpa using ho
  unfold wkOp;simp only [ho']
  have hnext : ∀ a' w', wkL M rd full.toArray Q l a' w' → wkAny M rd .any full.toArray Q m (L.setIfInBounds i true) a' w' := fun a' w' h => by
   have hsz : i < L.size := by omega
   refine ih (i + 1) hd2 (fun m hm => hf m (by omega)) _ (by simpa using hs) (fun k hk hk2 => ?_) (fun k hk => ?_) a' w' h m (by simp only [List.length_cons] at hfuel; omega)
   ·rw [lst_set hsz];split
    ·rfl
    ·exact h1 k (by omega) hk2
   ·rw [lst_set hsz, if_neg (by omega)];exact h2 k (by omega)
  unfold wkL at hw;split
  ·rename_i hwt;rw [if_pos hwt] at hw;exact owk_mono hnext hw
  ·rename_i hwt;rw [if_neg hwt] at hw;exact hnext _ _ hw

/-- What holds when some of the first operations have come up. -/
structure Inv (c : Cx) (full : List Oper) (Γ0 : Ga) (Δ : List D) (acc : List DE) (L : Array Bool) (a : Act) (w : VW) : Prop where
 size : L.size = full.length
 past : ∀ j, acc.length ≤ j → lst L j = false
 closed : ∀ j o, full[j]? = some o → lst L j = true → ∀ i ∈ dpreds o, lst L i = true
 defers : a.defers = c.dfs
 tmps : a.tmps.size = c.N
 ex : ∃ S : FS, CStep c.X c.S0 c.w0 S w ∧ (∀ b, feet (atD Δ acc L a) b → c.X b ∨ c.w0.heap.size ≤ b) ∧ OwnsC (atD Δ acc L a) S w ∧
  (∀ s r, lk Γ0 s = some r → (∀ j (e : DE), acc[j]? = some e → lst L j = true → e.d ≠ s) → r.holds S w (a.tmps.getD s undef)) ∧
  (∀ j (e : DE), acc[j]? = some e → lst L j = true → e.r.holds S w (a.tmps.getD e.d undef))

theorem DRs.nth {ops : Array Oper} (acc : List DE) : ∀ {Γ0 : Ga} {i : Nat} {e : DE}, DRs c ops Δ Γ0 acc → acc[i]? = some e → DV c ops Δ e ∧ Has (endT Γ0 (acc.take i)) e.N := by
 induction acc with
 | nil => intro Γ0 i e _ h; simp at h
 | cons x acc ih =>
  rintro Γ0 i e ⟨h1, h2, h3⟩ h;cases i with
  | zero => simp at h; subst h; exact ⟨h1, h2⟩
  | succ i => exact ih h3 (by simpa using h)

theorem lk_endT {s : Nat} {r : A} : ∀ {acc : List DE} {Γ0 : Ga}, lk (endT Γ0 acc) s = some r → (∃ (j : Nat) (e : DE), acc[j]? = some e ∧ e.d = s ∧ e.r = r) ∨ (lk Γ0 s = some r ∧ ∀ (j : Nat) (e : DE), acc[j]? = some e → e.d ≠ s)
 | [], Γ0, h => .inr ⟨h, fun j e h => by simp at h⟩
 | x :: acc, Γ0, h => by
  rcases lk_endT (acc := acc) h with ⟨j, e, h1, h2⟩ | ⟨h1, h2⟩
  ·
   exact .inl ⟨j + 1, e, by simpa using h1, h2⟩
  ·
   simp only [lk] at h1
   split at h1
   ·
    rename_i e; cases h1; exact .inl ⟨0, x, rfl, e, rfl⟩
   ·
    rename_i e
    refine .inr ⟨h1, fun j e' h3 => ?_⟩
    cases j with
    | zero => simp at h3; subst h3; exact e
    | succ j => exact h2 j e' (by simpa using h3)

theorem Needs.of_slots {S : FS} {w : VW} {a : Act} {Γ : Ga} : ∀ {N : List (Operand × A)}, Has Γ N → (∀ s r, s ∈ slotsOf N → lk Γ s = some r → r.holds S w (a.tmps.getD s undef)) → Needs S w a N
 | [], _, _ => trivial
 | (.tmp t, r) :: l, hh, h => ⟨h t r (by simp [slotsOf]) hh.1, Needs.of_slots hh.2 fun s r hs hl => h s r (by simp [slotsOf, hs]) hl⟩
 | (.const v, r) :: l, hh, h => ⟨by rw [hh.1]; rfl, Needs.of_slots hh.2 fun s r hs hl => h s r (by simpa [slotsOf] using hs) hl⟩
 | (.func f, r) :: l, hh, h => ⟨by rw [hh.1]; rfl, Needs.of_slots hh.2 fun s r hs hl => h s r (by simpa [slotsOf] using hs) hl⟩
 | (.global _, _) :: _, hh, _ => hh.elim

/-- The resources, the one that the operation uses first. -/
theorem atD_split {L : Array Bool} {a : Act} {u : Option (Nat × Bool)} (hu : ∀ k x, u = some (k, x) → upTo L k 0 acc = false) : ∃ rest, (atD Δ acc L a).Perm (useD Δ u ++ rest) ∧
 ∀ L' a', (∀ k, upTo L' k 0 acc = (upTo L k 0 acc || (match u with | some (k', true) => k' == k | _ => false))) → ∀ B, (blist L' a' 0 acc).Perm (B ++ blist L a 0 acc) → (atD Δ acc L' a').Perm ((keepD Δ u ++ B) ++ rest) := by
 have same : ∀ L', (∀ k, upTo L' k 0 acc = upTo L k 0 acc) → keepP (fun k => !upTo L' k 0 acc) 0 Δ = keepP (fun k => !upTo L k 0 acc) 0 Δ := fun L' h => keepP_congr fun j => by rw [h]
 have plain : ∀ {u : Option (Nat × Bool)}, useD Δ u = [] → keepD Δ u = [] → (∀ k, k < Δ.length → (match u with | some (k', true) => k' == k | _ => false) = false) →
  ∃ rest, (atD Δ acc L a).Perm (useD Δ u ++ rest) ∧ ∀ L' a', (∀ k, upTo L' k 0 acc = (upTo L k 0 acc || (match u with | some (k', true) => k' == k | _ => false))) → ∀ B, (blist L' a' 0 acc).Perm (B ++ blist L a 0 acc) → (atD Δ acc L' a').Perm ((keepD Δ u ++ B) ++ rest) := by
  intro u h1 h2 h3
  refine ⟨atD Δ acc L a, by rw [h1]; exact List.Perm.refl _, fun L' a' hL B hB => ?_⟩
  rw [h2, List.nil_append]
  have hk : keepP (fun k => !upTo L' k 0 acc) 0 Δ = keepP (fun k => !upTo L k 0 acc) 0 Δ := by
   have : ∀ (l : List D) (m : Nat), m + l.length ≤ Δ.length → keepP (fun k => !upTo L' k 0 acc) m l = keepP (fun k => !upTo L k 0 acc) m l := by
    intro l
    induction l with
    | nil => intro m _; rfl
    | cons x l ih =>
     intro m hm;simp only [List.length_cons] at hm;simp only [keepP, hL m, h3 m (by omega), Bool.or_false, ih (m + 1) (by omega)]
   exact this Δ 0 (by omega)
  unfold atD
  rw [hk]
  refine (List.Perm.append_left _ hB).trans ?_
  rw [← List.append_assoc, ← List.append_assoc]
  exact List.Perm.append_right _ List.perm_append_comm
 rcases u with _ | ⟨k, x⟩
 ·
  exact plain rfl rfl fun _ _ => rfl
 ·
  cases hk : Δ[k]? with
  | none =>
   have hge : Δ.length ≤ k := by simpa using hk
   refine plain (by simp [useD, hk]) (by cases x <;> simp [keepD, hk]) fun k' hk' => ?_;cases x
   ·rfl
   ·simp; omega
  | some d =>
   have h0 := hu k x rfl;have hsp := keepP_split (p := fun k => !upTo L k 0 acc) (l := Δ) (i := k) (k := 0) hk (by simp [h0]);simp only [Nat.zero_add] at hsp;refine ⟨keepP (fun j => !upTo L j 0 acc && j != k) 0 Δ ++ blist L a 0 acc, ?_, fun L' a' hL B hB => ?_⟩
   ·unfold atD;simp only [useD, hk];exact List.Perm.append_right _ hsp
   ·unfold atD;cases x with
    | false =>
     have : keepP (fun k => !upTo L' k 0 acc) 0 Δ = keepP (fun k => !upTo L k 0 acc) 0 Δ := same L' fun j => by rw [hL]; simp
     rw [this];simp only [keepD, hk];refine ((List.Perm.append_right _ hsp).trans (List.Perm.append_left _ hB)).trans ?_;simp only [List.cons_append, List.nil_append];refine List.Perm.cons _ ?_;rw [← List.append_assoc, ← List.append_assoc];exact List.Perm.append_right _ List.perm_append_comm
    | true =>
     have : keepP (fun k => !upTo L' k 0 acc) 0 Δ = keepP (fun j => !upTo L j 0 acc && j != k) 0 Δ := keepP_congr fun j => by
      rw [hL];simp only [Bool.not_or];congr 1;cases h : (k == j) <;> simp_all [bne, Bool.beq_comm]
     rw [this];simp only [keepD, List.nil_append];refine (List.Perm.append_left _ hB).trans ?_;rw [← List.append_assoc, ← List.append_assoc];exact List.Perm.append_right _ List.perm_append_comm
/-- One operation comes up. -/
theorem Inv.step (hfull : full = acc.map (·.o) ++ l) (hDR : DRs c full.toArray Δ Γ0 acc) (hck : chk0 full acc = true) {L : Array Bool} {a : Act} {w : VW} (h : Inv c full Γ0 Δ acc L a w) {i : Nat} (hi : i < acc.length) (hri : i ∈ Region.ready .any full.toArray L) :
 wkOp c.M c.rd full.toArray Q i (fun a' w' => Inv c full Γ0 Δ acc (L.setIfInBounds i true) a' w') a w := by
 unfold chk0 at hck
 simp only [Bool.and_eq_true] at hck
 obtain ⟨hc1, hc2⟩ := hck
 have hlt : ∀ j o, full[j]? = some o → ∀ i ∈ dpreds o, i < j := fun j o ho i hi => by
  have := mem_zipIdx hc2 ho;rw [List.all_eq_true] at this;simpa using this i hi
 obtain ⟨e, he⟩ : ∃ e, acc[i]? = some e := ⟨_, List.getElem?_eq_getElem hi⟩
 obtain ⟨hDV, hHas⟩ := DRs.nth acc hDR he
 have hone := mem_zipIdx hc1 he
 simp only [chkOne] at hone
 have hother : ∀ (j : Nat) (e' : DE), acc[j]? = some e' → j ≠ i → e'.d ≠ e.d ∧ (e'.d ∈ slotsOf e.N → if j < i then ((clos [] full).getD i 0).testBit j = true else ((clos [] full).getD j 0).testBit i = true) ∧
  (∀ k x k' x', e.u = some (k, x) → e'.u = some (k', x') → k ≠ k' ∨ (x = false ∧ x' = false)) := fun j e' hj hne => by
  have := mem_zipIdx hone hj
  simp only [Bool.or_eq_true, beq_iff_eq, hne, false_or, Bool.and_eq_true, bne_iff_ne, Bool.not_eq_true'] at this
  obtain ⟨⟨h1, h2⟩, h3⟩ := this
  refine ⟨h1, fun hm => ?_, fun k x k' x' hu hu' => ?_⟩
  ·
   rcases h2 with h2 | h2
   ·simp [hm] at h2
   ·split <;> rename_i hji
    ·rw [if_pos hji] at h2; exact h2
    ·rw [if_neg hji] at h2; exact h2
  ·
   rw [hu, hu'] at h3;simp only [Bool.or_eq_true, bne_iff_ne, Bool.and_eq_true, Bool.not_eq_true'] at h3;exact h3
 obtain ⟨oi, hoi, hli, hpi⟩ := (ready_iff h.size).1 hri
 have hoe : oi = e.o := by
  rw [hfull, List.getElem?_append_left (by simpa using hi)] at hoi;simp [he] at hoi;exact hoi.symm
 subst hoe
 have hiL : i < L.size := by rw [h.size, hfull]; simp; omega
 have hahead := ahead h.closed hlt i i e.o (Nat.le_refl _) hoi hpi
 obtain ⟨S, h3, h4, h5, h6, h7⟩ := h.ex
 have hsetL : ∀ j, j ≠ i → lst (L.setIfInBounds i true) j = lst L j := fun j hj => by rw [lst_set hiL, if_neg (Ne.symm hj)]
 have hsetI : lst (L.setIfInBounds i true) i = true := by rw [lst_set hiL, if_pos rfl]
 have hnot : ∀ (j : Nat) (e' : DE), acc[j]? = some e' → ((clos [] full).getD j 0).testBit i = true → lst L j = false := fun j e' hj hb => by
  cases hl : lst L j with
  | false => rfl
  | true =>
   obtain ⟨oj, hoj⟩ : ∃ oj, full[j]? = some oj := ⟨_, List.getElem?_eq_getElem (by rw [← h.size]; exact lst_size hl)⟩;have := ahead h.closed hlt j j oj (Nat.le_refl _) hoj (h.closed j oj hoj hl) i hb;rw [hli] at this;cases this
 have hneeds : Needs S w a e.N := Needs.of_slots hHas fun s r hs hl => by
  rcases lk_endT hl with ⟨j, e', hj, hd, hr⟩ | ⟨h8, h9⟩
  ·have hji : j < i := by
    rcases Nat.lt_or_ge j i with hh | hh
    ·exact hh
    ·rw [List.getElem?_eq_none (by simp; omega)] at hj; cases hj
   have hj' : acc[j]? = some e' := by
    rw [List.getElem?_take] at hj;simpa [hji] using hj
   have hb := (hother j e' hj' (by omega)).2.1 (by rw [hd]; exact hs);rw [if_pos hji] at hb;have := h7 j e' hj' (hahead j hb);rw [hd, hr] at this;exact this
  ·refine h6 s r h8 fun j e' hj hlj hds => ?_;rcases Nat.lt_trichotomy j i with hh | hh | hh
   ·exact h9 j e' (by rw [List.getElem?_take]; simpa [hh] using hj) hds
   ·subst hh; rw [hli] at hlj; cases hlj
   ·have hb := (hother j e' hj (by omega)).2.1 (by rw [hds]; exact hs);rw [if_neg (by omega)] at hb;rw [hnot j e' hj hb] at hlj;cases hlj
 have hup : ∀ k x, e.u = some (k, x) → upTo L k 0 acc = false := fun k x hu => upTo_false fun j e' hj hlj => by
  simp only [Nat.zero_add] at hlj;have hne : j ≠ i := fun hh => by subst hh; rw [hli] at hlj; cases hlj
  have h3 := (hother j e' hj hne).2.2;unfold eats;split
  ·rename_i k' hu';rcases h3 k x k' true hu hu' with hh | ⟨_, hh⟩
   ·simpa using Ne.symm hh
   ·cases hh
  ·rfl
 obtain ⟨rest, hp1, hp2⟩ := atD_split (Δ := Δ) (acc := acc) (L := L) (a := a) hup
 have hown := h5.perm hp1
 have hownU : OwnsC (useD Δ e.u) S w := hown.part
 have hgo := hDV.run S w a (fun a' w' => Inv c full Γ0 Δ acc (L.setIfInBounds i true) a' w') Q h3.dom hneeds hownU fun S' w' v hs hr ho hf => by
  have hdl : e.d < a.tmps.size := by rw [h.tmps]; exact hDV.lt
  have hput : ∀ s, (a.put (some e.d) v).tmps.getD s undef = if e.d = s then v else a.tmps.getD s undef := fun s => getD_put hdl
  have hbl : (blist (L.setIfInBounds i true) (a.put (some e.d) v) 0 acc).Perm (e.E v ++ blist L a 0 acc) :=
   blist_at hsetL hli hsetI (by rw [hput, if_pos rfl]) (Nat.zero_add i) he fun j e' hj hne => by
    rw [hput, if_neg (Ne.symm (hother j e' hj (by omega)).1)]
  have hperm := hp2 (L.setIfInBounds i true) (a.put (some e.d) v) (fun k => upTo_at hsetL hli hsetI (Nat.zero_add i) he) _ hbl;have hin : ∀ b, feet (useD Δ e.u) b → feet (atD Δ acc L a) b := fun b ⟨d, hd, hb⟩ => ⟨d, hp1.mem_iff.2 (List.mem_append.2 (.inl hd)), hb⟩;have hK : Keep S w w' := fun b hb => hs.keep b (h3.dom b hb) (h5.sees b hb) (fun hx => (h5.own b (hin b hx)).1 hb);have hfr := hown.frame h3.dom hs ho hf;refine ⟨by simpa using h.size, fun j hj => by rw [hsetL j (by omega)]; exact h.past j hj, fun j o hj hlj k hk => ?_, h.defers, by simpa [Act.put] using h.tmps, S', h3.trans hs fun b hb => h4 b (hin b hb), fun b hb => ?_, hfr.perm hperm.symm, fun s r hl hno => ?_, fun j e' hj hlj => ?_⟩
  ·rw [lst_set hiL];split
   ·rfl
   ·rw [lst_set hiL] at hlj;split at hlj
    ·rename_i hij;subst hij;have : o = e.o := by rw [hoi] at hj; cases hj; rfl
     subst this;exact hpi k hk
    ·exact h.closed j o hj hlj k hk
  ·rw [feet_perm hperm] at hb;obtain ⟨d, hd, hbd⟩ := hb;rcases List.mem_append.1 hd with hd | hd
   ·rcases hf b ⟨d, hd, hbd⟩ with hh | hh
    ·exact h4 b (hin b hh)
    ·exact .inr (Nat.le_trans h3.size hh)
   ·exact h4 b ⟨d, hp1.mem_iff.2 (List.mem_append.2 (.inr hd)), hbd⟩
  ·rw [hput, if_neg (hno i e he hsetI)];exact A.mono hs.sub hK r (h6 s r hl fun j e' hj hlj => hno j e' hj (by rw [lst_set hiL]; split <;> first | rfl | exact hlj))
  ·rw [hput];by_cases hji : j = i
   ·subst hji;have : e' = e := by rw [he] at hj; cases hj; rfl
    subst this;rw [if_pos rfl];exact hr
   ·rw [if_neg (Ne.symm (hother j e' hj hji).1)];exact A.mono hs.sub hK e'.r (h7 j e' hj (by rw [hsetL j hji] at hlj; exact hlj))
 have hoi' : full.toArray[i]? = some e.o := by simpa using hoi
 unfold wkOp
 simp only [hoi']
 split
 ·
  rename_i hw;rw [if_pos hw] at hgo;exact hgo
 ·
  rename_i hw;rw [if_neg hw] at hgo;rw [hDV.dst];exact hgo

theorem St.drew {a : Act} {w v1 : VW} (h : St c Γ Δ a w) (hr : Rely w v1) : St c Γ Δ a (v1.upd { v1.toWorld with drawn := v1.drawn + 1 }) := (h.rely hr).rely (Rely.drawn v1 _)

theorem lk_birthG {s : Nat} {r : A} {a : Act} : ∀ {acc : List DE}, lk (birthG acc (acc.map fun e => a.tmps.getD e.d undef) ++ Γ) s = some r → r = .eq (a.tmps.getD s undef) ∨ lk Γ s = some r
 | [], h => .inr h
 | e :: es, h => by
  simp only [List.map_cons, birthG] at h
  split at h
  ·
   simp only [List.cons_append, lk] at h
   split at h
   ·
    rename_i hd; subst hd; cases h; exact .inl rfl
   ·
    exact lk_birthG h
  ·
   exact lk_birthG h

theorem Inv.start {a : Act} {w1 : VW} (hst' : St c Γ0 Δ a w1) : Inv c full Γ0 Δ acc (Array.replicate full.toArray.size false) a w1 := by
 refine ⟨by simp, fun j _ => ?_, fun j o _ hj => ?_, hst'.defers, hst'.size, ?_⟩
 ·simp [lst, Array.getD_eq_getD_getElem?, Array.getElem?_replicate];split <;> rfl
 ·exfalso;simp [lst, Array.getD_eq_getD_getElem?, Array.getElem?_replicate] at hj;split at hj <;> simp at hj
 ·obtain ⟨h1, h2, S, h3, h4, h5, h6⟩ := hst'
  have hz : ∀ j, lst (Array.replicate full.toArray.size false) j = false := fun j => by
   simp [lst, Array.getD_eq_getD_getElem?, Array.getElem?_replicate];split <;> rfl
  have hD : atD Δ acc (Array.replicate full.toArray.size false) a = Δ := by
   unfold atD
   have e1 : ∀ (es : List DE) (m : Nat), blist (Array.replicate full.toArray.size false) a m es = [] := by
    intro es
    induction es with
    | nil => intro m; rfl
    | cons x es ih => intro m; simp only [blist, hz m, ih (m + 1)]; rfl
   have e2 : ∀ (l : List D) (k : Nat), keepP (fun k => !upTo (Array.replicate full.toArray.size false) k 0 acc) k l = l := by
    intro l
    induction l with
    | nil => intro k; rfl
    | cons x l ih =>
     intro k;have : upTo (Array.replicate full.toArray.size false) k 0 acc = false := upTo_false fun j e' _ hl => by rw [hz] at hl; cases hl
     simp only [keepP, this, ih (k + 1), Bool.not_false, if_true]
   rw [e1, e2, List.append_nil]
  rw [hD];exact ⟨S, h3, h4, h5, fun s r hl _ => h6 s r hl, fun j e hj hl => by rw [hz] at hl; cases hl⟩

/-- **The tail of such a region: forced; it is walked in its order.** -/
theorem DR.fin (hck : chk full acc = true) (hm : c.P.follows .mixedOrders = true) (h : ∀ vs : List Value, vs.length = acc.length → JO c full.toArray l Q (birthG acc vs ++ Γ) (endD Δ acc vs)) : DR c id full Q Γ0 Δ acc l Γ := by
 intro hfull hDR hΓ ops hren a w hst;refine wk_region_ren hren hm fun v1 hv => ?_;have hst' := hst.drew hv;generalize (v1.upd { v1.toWorld with drawn := v1.drawn + 1 }) = w1 at hst' ⊢
 have hck0 : chk0 full acc = true := by
  unfold chk at hck;simp only [Bool.and_eq_true] at hck;exact Bool.and_eq_true_iff.2 ⟨hck.1.1, hck.1.2⟩
 have hck' := hck;unfold chk at hck';simp only [Bool.and_eq_true] at hck';obtain ⟨⟨hc1, hc2⟩, hc3⟩ := hck'
 have hlt : ∀ j o, full[j]? = some o → ∀ i ∈ dpreds o, i < j := fun j o ho i hi => by
  have := mem_zipIdx hc2 ho;rw [List.all_eq_true] at this;simpa using this i hi
 have hforced : ∀ m, acc.length ≤ m → m < full.length → ∀ i, i < m → ((clos [] full).getD m 0).testBit i = true := fun m hm1 hm2 i hi => by
  rw [List.all_eq_true] at hc3;have := hc3 m (List.mem_range.2 hm2);simp only [Bool.or_eq_true, decide_eq_true_eq] at this;rcases this with h | h
  ·omega
  ·rw [List.all_eq_true] at h;exact h i (List.mem_range.2 hi)
 have hlen : full.length = acc.length + l.length := by rw [hfull]; simp
 have full_up : ∀ L a w, Inv c full Γ0 Δ acc L a w → cnt L acc.length = 0 → ∀ fuel, l.length ≤ fuel → wkAny c.M c.rd .any full.toArray Q fuel L a w := by
  intro L a w hI h0 fuel hf;have hall := cnt_zero h0;refine tail_any hlt l acc.length (by rw [hfull]; simp) hforced L hI.size (fun i hi _ => hall i hi) hI.past a w ?_ fuel hf;refine h (acc.map fun e => a.tmps.getD e.d undef) (by simp) a w ?_;obtain ⟨S, h3, h4, h5, h6, h7⟩ := hI.ex
  have hD : endD Δ acc (acc.map fun e => a.tmps.getD e.d undef) = atD Δ acc L a := by
   unfold endD atD
   have e1 : ∀ (es : List DE) (m : Nat), (∀ j (e : DE), es[j]? = some e → lst L (m + j) = true) → births es (es.map fun e => a.tmps.getD e.d undef) = blist L a m es := by
    intro es
    induction es with
    | nil => intro m _; rfl
    | cons x es ih =>
     intro m hh;have := hh 0 x rfl;simp only [Nat.add_zero] at this;simp only [List.map_cons, births, blist, this, if_true];rw [ih (m + 1) fun j e he => by have := hh (j + 1) e (by simpa using he); rwa [show m + 1 + j = m + (j + 1) by omega]]
   have e2 : ∀ (k : Nat) (es : List DE) (m : Nat), (∀ j (e : DE), es[j]? = some e → lst L (m + j) = true) → upTo L k m es = usedUp es k := by
    intro k es
    induction es with
    | nil => intro m _; rfl
    | cons x es ih =>
     intro m hh;have := hh 0 x rfl;simp only [Nat.add_zero] at this;simp only [upTo, usedUp, List.any_cons, this, Bool.true_and];rw [ih (m + 1) fun j e he => by have := hh (j + 1) e (by simpa using he); rwa [show m + 1 + j = m + (j + 1) by omega]];rfl
   have hl : ∀ j (e : DE), acc[j]? = some e → lst L (0 + j) = true := fun j e he => by
    rw [Nat.zero_add];refine hall j ?_;rcases Nat.lt_or_ge j acc.length with h | h
    ·exact h
    ·simp [List.getElem?_eq_none h] at he
   rw [e1 acc 0 hl];congr 1
   have : ∀ (l : List D) (k : Nat), endD.keepFrom acc k l = keepP (fun k => !upTo L k 0 acc) k l := by
    intro l
    induction l with
    | nil => intro k; rfl
    | cons x l ih =>
     intro k;simp only [endD.keepFrom, keepP, e2 k acc 0 hl, ih];cases usedUp acc k <;> rfl
   exact this Δ 0
  rw [hD];refine ⟨hI.defers, hI.tmps, S, h3, h4, h5, fun s r hl => ?_⟩;rcases lk_birthG hl with rfl | hl
  ·rfl
  ·rw [hΓ] at hl;rcases lk_endT hl with ⟨j, e, hj, hd, hr⟩ | ⟨h8, h9⟩
   ·have hjl : j < acc.length := by
     rcases Nat.lt_or_ge j acc.length with h | h
     ·exact h
     ·simp [List.getElem?_eq_none h] at hj
    have := h7 j e hj (hall j hjl);rw [hd, hr] at this;exact this
   ·exact h6 s r h8 fun j e hj _ => h9 j e hj
 have key : ∀ fuel L a w, Inv c full Γ0 Δ acc L a w → cnt L acc.length + l.length ≤ fuel → wkAny c.M c.rd .any full.toArray Q fuel L a w := by
  intro fuel
  induction fuel with
  | zero => intro L a w hI hf; exact full_up L a w hI (by omega) 0 (by omega)
  | succ n ih =>
   intro L a w hI hf;by_cases h0 : cnt L acc.length = 0
   ·exact full_up L a w hI h0 (n + 1) (by omega)
   ·obtain ⟨j, hj1, hj2, hj3⟩ := cnt_pos h0;obtain ⟨oj, hoj⟩ : ∃ oj, full[j]? = some oj := ⟨_, List.getElem?_eq_getElem (by omega)⟩;have hrj : j ∈ Region.ready .any full.toArray L := (ready_iff hI.size).2 ⟨oj, hoj, hj2, fun i hi => hj3 i (hlt j oj hoj i hi)⟩;refine ⟨fun hh => (by rw [hh] at hrj; cases hrj), fun i hi => ?_⟩;obtain ⟨oi, hoi, hli, hpi⟩ := (ready_iff hI.size).1 hi
    have hil : i < full.length := by
     rcases Nat.lt_or_ge i full.length with h | h
     ·exact h
     ·simp [List.getElem?_eq_none h] at hoi
    have hit : i < acc.length := by
     rcases Nat.lt_or_ge i acc.length with h | h
     ·exact h
     ·have := ahead hI.closed hlt i i oi (Nat.le_refl _) hoi hpi j (hforced i h hil j (by omega));rw [hj2] at this;cases this
    refine wkOp_mono (fun a' w' hI' => ih _ a' w' hI' ?_) (Inv.step hfull hDR hck0 hI hit hi);have hiL : i < L.size := by rw [hI.size]; exact hil
    have := cnt_set (L := L) (L' := L.setIfInBounds i true) (i := i) (fun j hj => by rw [lst_set hiL, if_neg (Ne.symm hj)]) hli (by rw [lst_set hiL, if_pos rfl]) hit;omega
 refine key full.toArray.size _ a w1 ⟨by simp, fun j _ => ?_, fun j o _ hj => ?_, hst'.defers, hst'.size, ?_⟩ ?_
 ·simp [lst, Array.getD_eq_getD_getElem?, Array.getElem?_replicate];split <;> rfl
 ·exfalso;simp [lst, Array.getD_eq_getD_getElem?, Array.getElem?_replicate] at hj;split at hj <;> simp at hj
 ·obtain ⟨h1, h2, S, h3, h4, h5, h6⟩ := hst'
  have hz : ∀ j, lst (Array.replicate full.toArray.size false) j = false := fun j => by
   simp [lst, Array.getD_eq_getD_getElem?, Array.getElem?_replicate];split <;> rfl
  have hD : atD Δ acc (Array.replicate full.toArray.size false) a = Δ := by
   unfold atD
   have e1 : ∀ (es : List DE) (m : Nat), blist (Array.replicate full.toArray.size false) a m es = [] := by
    intro es
    induction es with
    | nil => intro m; rfl
    | cons x es ih => intro m; simp only [blist, hz m, ih (m + 1)]; rfl
   have e2 : ∀ (l : List D) (k : Nat), keepP (fun k => !upTo (Array.replicate full.toArray.size false) k 0 acc) k l = l := by
    intro l
    induction l with
    | nil => intro k; rfl
    | cons x l ih =>
     intro k;have : upTo (Array.replicate full.toArray.size false) k 0 acc = false := upTo_false fun j e' _ hl => by rw [hz] at hl; cases hl
     simp only [keepP, this, ih (k + 1), Bool.not_false, if_true]
   rw [e1, e2, List.append_nil]
  rw [hD];exact ⟨S, h3, h4, h5, fun s r hl _ => h6 s r hl, fun j e hj hl => by rw [hz] at hl; cases hl⟩
 ·have : cnt (Array.replicate full.toArray.size false) acc.length ≤ acc.length := by
   have : ∀ t, cnt (Array.replicate full.toArray.size false) t ≤ t := by
    intro t
    induction t with
    | zero => exact Nat.le_refl _
    | succ t ih => simp only [cnt]; split <;> omega
   exact this _
  simp only [List.size_toArray];simp only [List.size_toArray] at this;omega
end

end K
end Go.Proofs.Ytopgphikdglphaa

/- The calculus, part 11: how the walk follows a function in Option: binds, tests, cuts; short forms of the rules. -/
namespace Go.Proofs.Ytopgphikdglphaa
namespace K
open Go

/-! ### Following a computation in Option -/

section
variable {α β γ ρ : Type} {K : β → Option ρ} {r : ρ}

theorem b_bind {X : Option α} {f : α → Option β} (h : (X.bind f).bind K = some r) : ∃ x, X = some x ∧ (f x).bind K = some r := by
 cases X with
 | none => cases h
 | some x => exact ⟨x, rfl, h⟩

theorem b_if {p : Prop} [Decidable p] {X Y : Option β} (hp : p) (h : (if p then X else Y).bind K = some r) : X.bind K = some r := by rwa [if_pos hp] at h
theorem b_ifn {p : Prop} [Decidable p] {X Y : Option β} (hp : ¬ p) (h : (if p then X else Y).bind K = some r) : Y.bind K = some r := by rwa [if_neg hp] at h

theorem d_t {p : Prop} [Decidable p] (h : decide p = true) : p := of_decide_eq_true h
theorem d_f {p : Prop} [Decidable p] (h : decide p = false) : ¬ p := of_decide_eq_false h
theorem n_t {p : Prop} [Decidable p] (h : (!decide p) = true) : ¬ p := by simpa using h
theorem n_f {p : Prop} [Decidable p] (h : (!decide p) = false) : p := by simpa using h
theorem v_f {b : Bool} (h : b = false) : ¬ b = true := by simp [h]
theorem nv_t {b : Bool} (h : (!b) = true) : ¬ b = true := by simpa using h
theorem nv_f {b : Bool} (h : (!b) = false) : b = true := by simpa using h

theorem b_top {X : Option ρ} (h : X = some r) : X.bind some = some r := by rw [h]; rfl

/-- An inner piece of code that may return: 'g' says what a return comes to, 'f' goes on. -/
def bE {ε : Type} (X : Option (Except ε α)) (g : ε → Option β) (f : α → Option β) : Option β := match X with
 | none => none
 | some (.error e) => g e
 | some (.ok x) => f x

/-- A condition without which there is no answer. -/
def chkP (p : Prop) [Decidable p] : Option Unit := if p then some () else none
theorem chkP_some {p : Prop} [Decidable p] {u : Unit} (h : chkP p = some u) : p := by
 unfold chkP at h;split at h
 ·assumption
 ·cases h
end

section
variable {c : Cx} {ops : Array Oper} {o : Oper} {l : List Oper} {Q : Exit → Act → VW → Prop} {Γ Γ' : Ga} {Δ Δ' F : List D} {N : List (Operand × A)} {d : Nat} {X : Type} {r r' : A} {C C' : Code}

/-- A cut behind a piece of code that does not return. -/
theorem JC.cutB {α β ρ Z : Type} {Y : Option α} {f : α → Option β} {K : β → Option ρ} {q : ρ} (G : Z → α → Ga) (E : Z → α → List D) (h : (Y.bind f).bind K = some q)
 (h1 : ∀ K' : α → Option ρ, Y.bind K' = some q → JC c C (Ex.thn (fun a w => ∃ z : Z × α, K' z.2 = some q ∧ St c (G z.1 z.2) (E z.1 z.2) a w) Q) Γ Δ)
 (h2 : ∀ z x, (f x).bind K = some q → JC c C' Q (G z x) (E z x)) : JC c (.seq C C') Q Γ Δ :=
 JC.cut (Z := Z × α) (fun z => G z.1 z.2) (fun z => E z.1 z.2) (fun z => (f z.2).bind K = some q) (h1 (fun x => (f x).bind K) (by
  cases Y with
  | none => cases h
  | some x => exact h)) fun z h => h2 z.1 z.2 h

/-- A cut behind a piece of code that may return. -/
theorem JC.cutE {α β ρ ε Z : Type} {Y : Option (Except ε α)} {g : ε → Option β} {f : α → Option β} {K : β → Option ρ} {q : ρ} (G : Z → α → Ga) (E : Z → α → List D) (p : ε → Prop) (h : (bE Y g f).bind K = some q) (hg : ∀ e, (g e).bind K = some q → p e)
 (h1 : ∀ K' : Except ε α → Option ρ, (∀ e, K' (.error e) = some q → p e) → Y.bind K' = some q → JC c C (Ex.thn (fun a w => ∃ z : Z × α, K' (.ok z.2) = some q ∧ St c (G z.1 z.2) (E z.1 z.2) a w) Q) Γ Δ)
 (h2 : ∀ z x, (f x).bind K = some q → JC c C' Q (G z x) (E z x)) : JC c (.seq C C') Q Γ Δ :=
 JC.cut (Z := Z × α) (fun z => G z.1 z.2) (fun z => E z.1 z.2) (fun z => (f z.2).bind K = some q) (h1 (fun | .error e => (g e).bind K | .ok x => (f x).bind K) hg (by
  cases Y with
  | none => cases h
  | some x => cases x with
   | error e => exact h
   | ok x => exact h)) fun z h => h2 z.1 z.2 h

/-! ### States -/

def pickD (Δ : List D) : List Nat → Option (List D)
 | [] => some []
 | k :: ks => match Δ[k]?, pickD Δ ks with
  | some d, some l => some (d :: l)
  | _, _ => none

theorem mem_of_pickD {Δ : List D} : ∀ {ks : List Nat} {Δ' : List D}, pickD Δ ks = some Δ' → ∀ d ∈ Δ', ∃ k ∈ ks, Δ[k]? = some d
 | [], _, h, d, hd => by cases h; simp at hd
 | k :: ks, _, h, d, hd => by
  simp only [pickD] at h
  split at h
  ·
   rename_i d' l h1 h2
   cases h
   rcases List.mem_cons.1 hd with rfl | hd
   ·
    exact ⟨k, List.mem_cons_self .., h1⟩
   ·
    obtain ⟨k', h3, h4⟩ := mem_of_pickD h2 d hd
    exact ⟨k', List.mem_cons_of_mem _ h3, h4⟩
  ·
   cases h

theorem pairwise_idx {α : Type} {R : α → α → Prop} (hR : ∀ a b, R a b → R b a) : ∀ {l : List α}, l.Pairwise R → ∀ {i j : Nat} {a b : α}, i ≠ j → l[i]? = some a → l[j]? = some b → R a b
 | [], _, i, _, _, _, _, h, _ => by simp at h
 | x :: l, hp, i, j, a, b, hne, hi, hj => by
  obtain ⟨h1, h2⟩ := List.pairwise_cons.1 hp
  cases i with
  | zero =>
   cases j with
   | zero => exact absurd rfl hne
   | succ j =>
    simp at hi hj
    subst hi
    exact h1 b (List.mem_of_getElem? hj)
  | succ i =>
   cases j with
   | zero =>
    simp at hi hj
    subst hj
    exact hR _ _ (h1 a (List.mem_of_getElem? hi))
   | succ j => exact pairwise_idx hR h2 (i := i) (j := j) (by omega) (by simpa using hi) (by simpa using hj)

theorem pickD_pairwise {Δ : List D} {R : D → D → Prop} (hR : ∀ a b, R a b → R b a) (hp : Δ.Pairwise R) : ∀ {ks : List Nat} {Δ' : List D}, ks.Nodup → pickD Δ ks = some Δ' → Δ'.Pairwise R
 | [], _, _, h => by cases h; exact List.Pairwise.nil
 | k :: ks, _, hn, h => by
  simp only [pickD] at h
  split at h
  ·
   rename_i d' l h1 h2
   cases h
   obtain ⟨hn1, hn2⟩ := List.nodup_cons.1 hn
   refine List.pairwise_cons.2 ⟨fun d hd => ?_, pickD_pairwise hR hp hn2 h2⟩
   obtain ⟨k', h3, h4⟩ := mem_of_pickD h2 d hd
   exact pairwise_idx hR hp (fun e => hn1 (by rw [e]; exact h3)) h1 h4
  ·
   cases h

/-- What is kept: these slots, and the resources of these numbers. -/
theorem SE.fin (ks : List Nat) (hs : Sub Γ' Γ) (hk : pickD Δ ks = some Δ') (hn : ks.Nodup := by decide) : SE c Γ Δ Γ' Δ' := fun a w ⟨h1, h2, S, h3, h4, h5, h6⟩ => by
 have hm : ∀ d ∈ Δ', d ∈ Δ := fun d hd => by
  obtain ⟨k, _, h⟩ := mem_of_pickD hk d hd
  exact List.mem_of_getElem? h
 exact ⟨h1, h2, S, h3, fun b ⟨d, hd, e⟩ => h4 b ⟨d, hm d hd, e⟩, h5.re ⟨fun d hd => h5.holds d (hm d hd), fun b ⟨d, hd, e⟩ => h5.own b ⟨d, hm d hd, e⟩, pickD_pairwise (fun _ _ h b e e' => h b e' e) h5.apart hn hk⟩ (fun b ⟨d, hd, e⟩ => ⟨d, hm d hd, e⟩) (fun _ h => .inl h), fun s r hl => h6 s r (hs.lk hl)⟩

theorem JO.bool {s : Nat} {b : Bool} (hl : lk Γ s = some (.eq (.bool b))) (h1 : b = true → JO c ops l Q ((s, .eq (.bool true)) :: Γ) Δ) (h2 : b = false → JO c ops l Q ((s, .eq (.bool false)) :: Γ) Δ) : JO c ops l Q Γ Δ := by
 have key : ∀ b' : Bool, b = b' → ∀ a w, St c Γ Δ a w → St c ((s, .eq (.bool b')) :: Γ) Δ a w := fun b' e a w ⟨g1, g2, S, g3, g4, g5, g6⟩ => ⟨g1, g2, S, g3, g4, g5, fun s' q hq => by
  simp only [lk] at hq;split at hq
  ·rename_i e'; subst e' e; cases hq; exact g6 s _ hl
  ·exact g6 s' q hq⟩
 intro a w st;cases b
 ·exact h2 rfl a w (key _ rfl a w st)
 ·exact h1 rfl a w (key _ rfl a w st)

/-- An own slice that lies in a variable of the call's own, and in slots, is frozen. -/
theorem SE.frzBoth {v : Value} {T T' : TypeId} {t : Ty} {dd : List t.den} {b off : Nat} {a0 a1 : A} (ss : List Nat) (hh : Holding Γ v ss) (hg : a0.get off 1 false = some (.eq v)) (hs : a0.set off 1 false (.rep (.slice t) dd) = some a1) :
 SE c Γ (.sl v T t dd :: .obj b T' a0 :: F) (setAll Γ (.rep (.slice t) dd) ss) (.obj b T' a1 :: F) := fun a w h => by
 have k1 := SE.frz (F := .obj b T' a0 :: F) ss hh a w h
 have k2 := SE.frzIn hg hs a w h
 obtain ⟨h1, h2, S, h3, h4, h5, h6, h7⟩ := frz_core h
 obtain ⟨_, _, S2, p3, p4, p5, p6⟩ := k2
 have hK : Keep S2 w w := fun _ _ => rfl
 have hK1 : Keep S w w := fun _ _ => rfl
 obtain ⟨cs, q1, q2⟩ := h5.holds _ (List.mem_cons_self ..)
 obtain ⟨g1, g2⟩ := A.get_spec a0 q2 hg
 have l0 := a0.cells_length q2
 have gv : mk false ((cs.drop off).take 1) = v := g1
 have hlt : off < cs.length := by omega
 have hc : (cs.drop off).take 1 = [v] := by
  have e9 : (cs.drop off).take 1 = [cs[off]] := by rw [List.drop_eq_getElem_cons hlt]; rfl
  rw [e9] at gv ⊢;have e10 : cs[off] = v := gv;rw [e10]
 obtain ⟨xs, e1, e2⟩ := h7
 have e3 : xs = [v] := by
  have l1 := rd_length (.slice t) e1;match xs, l1 with
  | [u], _ => simp [mk] at e2; rw [e2]
 subst e3
 obtain ⟨m1, _⟩ := A.set_spec a0 q2 (r := .rep (.slice t) dd) (new := [v]) e1 rfl hs
 have e4 : cs.take off ++ [v] ++ cs.drop (off + [v].length) = cs := by
  show cs.take off ++ [v] ++ cs.drop (off + 1) = cs;rw [← hc, ← List.take_add, List.take_append_drop]
 rw [e4] at m1
 refine ⟨h1, h2, S, h3, fun x ⟨e, he, hb⟩ => ?_, h5.re ⟨fun e he => ?_, fun x ⟨e, he, hb⟩ => ?_, ?_⟩ (fun x ⟨e, he, hb⟩ => by
  rcases List.mem_cons.1 he with rfl | he
  ·exact ⟨_, List.mem_cons_self .., hb⟩
  ·exact ⟨e, List.mem_cons_of_mem _ he, hb⟩) (fun _ h => .inl h), fun s q hq => ?_⟩
 ·
  rcases List.mem_cons.1 he with rfl | he
  ·exact h4 x ⟨_, List.mem_cons_self .., hb⟩
  ·exact h4 x ⟨e, List.mem_cons_of_mem _ he, hb⟩
 ·
  rcases List.mem_cons.1 he with rfl | he
  ·exact ⟨cs, q1, m1⟩
  ·exact h5.holds e (List.mem_cons_of_mem _ he)
 ·
  rcases List.mem_cons.1 he with rfl | he
  ·exact h5.own x ⟨_, List.mem_cons_self .., hb⟩
  ·exact h5.own x ⟨e, List.mem_cons_of_mem _ he, hb⟩
 ·
  have hp := List.pairwise_cons.1 h5.apart;exact List.pairwise_cons.2 ⟨fun e he => hp.1 e he, hp.2⟩
 ·
  rcases lk_setAll hq with ⟨hs', rfl⟩ | hq
  ·have := h6 s _ (hh.mem hs');have e : a.tmps.getD s undef = v := this;rw [e];exact ⟨_, e1, rfl⟩
  ·exact h6 s q hq

/-! ### Short forms -/

theorem JO.s {op : Op} {ty : TypeId} {pos : String} {af : Array Edge} (hdN : Nat.blt d c.N = true) (ht : OpT c.M ⟨some d, op, ty, pos, af, none⟩ N [] (fun _ : Unit => (r, []))) (hh : Has Γ N) (h : JO c ops l Q ((d, r) :: Γ) Δ) :
 JO c ops (⟨some d, op, ty, pos, af, none⟩ :: l) Q Γ Δ := JO.s00 rfl rfl hdN ht hh h

theorem JO.mv {t : Nat} {ty : TypeId} {pos : String} {af : Array Edge} (hdN : Nat.blt d c.N = true) (hl : lk Γ t = some r) (h : JO c ops l Q ((d, r) :: Γ) Δ) :
 JO c ops (⟨some d, .move (.tmp t), ty, pos, af, none⟩ :: l) Q Γ Δ := JO.s hdN (o_move rfl) ⟨hl, trivial⟩ h
theorem JO.mc {v : Value} {ty : TypeId} {pos : String} {af : Array Edge} (hdN : Nat.blt d c.N = true) (h : JO c ops l Q ((d, .eq v) :: Γ) Δ) :
 JO c ops (⟨some d, .move (.const v), ty, pos, af, none⟩ :: l) Q Γ Δ := JO.s hdN (o_move rfl) ⟨rfl, trivial⟩ h
theorem JO.as {t : Nat} {ty : TypeId} {pos : String} {af : Array Edge} (hdN : Nat.blt d c.N = true) (hl : lk Γ t = some r) (h : JO c ops l Q ((d, r) :: Γ) Δ) :
 JO c ops (⟨some d, .assign (.tmp t), ty, pos, af, none⟩ :: l) Q Γ Δ := JO.s hdN (o_assign rfl) ⟨hl, trivial⟩ h
theorem JO.ac {v : Value} {ty : TypeId} {pos : String} {af : Array Edge} (hdN : Nat.blt d c.N = true) (h : JO c ops l Q ((d, .eq v) :: Γ) Δ) :
 JO c ops (⟨some d, .assign (.const v), ty, pos, af, none⟩ :: l) Q Γ Δ := JO.s hdN (o_assign rfl) ⟨rfl, trivial⟩ h

end
end K
end Go.Proofs.Ytopgphikdglphaa

/- The calculus, part 12: loops that follow a function with fuel, forms of contents, what calls ask, short regions, and some more operations. -/
namespace Go.Proofs.Ytopgphikdglphaa
namespace K
open Go

theorem v_t {b : Bool} (h : b = true) : b = true := h
theorem n_fn {p : Prop} [Decidable p] (h : (!decide p) = false) : ¬ ¬ p := fun hn => hn (n_f h)
theorem nv_fn {b : Bool} (h : (!b) = false) : ¬ ¬ b = true := fun hn => hn (nv_f h)

section
variable {c : Cx} {ops : Array Oper} {o : Oper} {l : List Oper} {Q : Exit → Act → VW → Prop} {Γ Γ' Γ0 : Ga} {Δ Δ' F : List D} {N N' : List (Operand × A)} {d : Nat} {X : Type} {r r' : A} {C C' : Code} {P : Program} {M : Md P}

/-- A loop that follows a function L with fuel. -/
theorem JC.loopB {α β ρ Z : Type} {K : β → Option ρ} {q : ρ} (G : Z → α → Ga) (E : Z → α → List D) (L : Nat → α → Option β) (n : Nat) (z : Z) (x : α) (h0 : ∀ x, L 0 x = none) (h : (L n x).bind K = some q) (hs : SE c Γ Δ (G z x) (E z x))
 (round : ∀ n z x, (L (n + 1) x).bind K = some q → JC c C (Ex.thn (fun a w => ∃ z' : Z × α, (L n z'.2).bind K = some q ∧ St c (G z'.1 z'.2) (E z'.1 z'.2) a w) Q) (G z x) (E z x)) : JC c (.loop C) Q Γ Δ := by
 refine JC.loop (Z := Z × α) (fun z => G z.1 z.2) (fun z => E z.1 z.2) (fun n z => (L n z.2).bind K = some q) n (z, x) h hs ?_
 rintro n ⟨z, x⟩ h
 cases n with
 | zero => rw [h0] at h; cases h
 | succ n =>
  intro a w st;refine wk_mono (fun e a w q => ?_) (round n z x h a w st);cases e with
  | normal => obtain ⟨z', hp, hs⟩ := q; exact ⟨(n, z'), ⟨Nat.lt_succ_self n, hp⟩, hs⟩
  | _ => exact q

/-! ### Forms of contents -/

def AE (a a' : A) : Prop := ∀ S w cs, a.cells S w cs → a'.cells S w cs

theorem AE.rfl {a : A} : AE a a := fun _ _ _ h => h
theorem AE.trans {a b e : A} (h : AE a b) (h' : AE b e) : AE a e := fun S w cs q => h' S w cs (h S w cs q)
theorem AE.pair {a a' b b' : A} (h : AE a a') (h' : AE b b') : AE (.pair a b) (.pair a' b') := fun S w _ ⟨c1, c2, e, q1, q2⟩ => ⟨c1, c2, e, h S w c1 q1, h' S w c2 q2⟩
theorem AE.agg {a a' : A} (h : AE a a') : AE (.agg a) (.agg a') := fun S w cs q => h S w cs q
theorem AE.split {t u : Ty} {x : (Ty.pair t u).den} : AE (.rep (.pair t u) x) (.pair (.rep t x.1) (.rep u x.2)) := fun _ _ _ h => h
theorem AE.aggR {t : Ty} {x : t.den} : AE (.rep (.agg t) x) (.agg (.rep t x)) := fun _ _ _ h => h
theorem AE.ent {a : A} {t : Ty} {x : t.den} (h : Ent a t x) : AE a (.rep t x) := fun _ _ _ q => h.cells q
theorem AE.int {k : IntKind} {n : Int} : AE (.rep (.int k) n) (.eq (.int k n)) := fun _ _ _ h => ⟨h, Eq.refl _⟩
theorem AE.bool {b : Bool} : AE (.rep .bool b) (.eq (.bool b)) := fun _ _ _ h => ⟨h, Eq.refl _⟩
theorem AE.ptr {t : Ty} {x : t.den} : AE (.rep (.ptr t) x) (.at t x) := fun _ _ _ h => h
theorem AE.val {v : Value} : AE (.rep .val v) (.eq v) := fun _ _ _ h => h

theorem SE.objE {b : Nat} {T : TypeId} {a a' : A} (h : AE a a') : SE c Γ (.obj b T a :: F) Γ (.obj b T a' :: F) := fun act w ⟨h1, h2, S, h3, h4, h5, h6⟩ => by
 have hm : ∀ e, e ∈ (.obj b T a' :: F : List D) → ∃ e', e' ∈ (.obj b T a :: F : List D) ∧ e'.foot = e.foot := fun e he => by
  rcases List.mem_cons.1 he with e' | he
  ·
   subst e'; exact ⟨_, List.mem_cons_self .., Eq.refl _⟩
  ·
   exact ⟨e, List.mem_cons_of_mem _ he, Eq.refl _⟩
 refine ⟨h1, h2, S, h3, fun x ⟨e, he, hb⟩ => ?_, h5.re ⟨fun e he => ?_, fun x ⟨e, he, hb⟩ => ?_, ?_⟩ (fun x ⟨e, he, hb⟩ => by obtain ⟨e', q1, q2⟩ := hm e he; exact ⟨e', q1, q2.trans hb⟩) (fun _ h => .inl h), h6⟩
 ·
  obtain ⟨e', q1, q2⟩ := hm e he
  exact h4 x ⟨e', q1, q2.trans hb⟩
 ·
  rcases List.mem_cons.1 he with e' | he
  ·
   subst e'
   obtain ⟨cs, q1, q2⟩ := h5.holds _ (List.mem_cons_self ..)
   exact ⟨cs, q1, h S w cs q2⟩
  ·
   exact h5.holds e (List.mem_cons_of_mem _ he)
 ·
  obtain ⟨e', q1, q2⟩ := hm e he
  exact h5.own x ⟨e', q1, q2.trans hb⟩
 ·
  have hp := List.pairwise_cons.1 h5.apart
  exact List.pairwise_cons.2 ⟨fun e he => hp.1 e he, hp.2⟩

/-! ### What a call asks -/

theorem OpT.need {R : X → A × List D} (h : OpT M o N' Δ R) (hN : ∀ S w a, Needs S w a N → Needs S w a N') : OpT M o N Δ R := ⟨h.1, fun ro S w a next Q hd hn hO k => h.2 ro S w a next Q hd (hN S w a hn) hO k⟩

theorem ent_holds {S : FS} {w : World} {a : A} {t : Ty} {x : t.den} {v : Value} (h : Ent a t x) (hs : a.stor) (hg : a.isAgg = t.isAgg) (hv : a.holds S w v) : (mkA t x).holds S w v := h.holds hs hg hv
theorem lend {S : FS} {w : World} {u v : Value} {r : A} (h1 : (A.eq v).holds S w u) (hv : r.holds S w v) : r.holds S w u := by
 have e : u = v := h1;rw [e]; exact hv
theorem flat_nil : ∀ d ∈ ([] : List D), d.flat = true := fun _ h => nomatch h
theorem flat_all {l : List D} (h : ∀ d ∈ l, d.flat = true) : ∀ d ∈ l, d.flat = true := h

/-! ### A region that draws its order, of which nothing free makes anything that its value tells -/

def NB : List DE → Prop
 | [] => True
 | e :: es => (e.b = false ∧ ∀ v, e.E v = e.E undef) ∧ NB es

@[reducible] def births0 : List DE → List D
 | [] => []
 | e :: es => e.E undef ++ births0 es

theorem births_nb : ∀ {es : List DE} {vs : List Value}, NB es → vs.length = es.length → births es vs = births0 es
 | [], [], _, _ => rfl
 | e :: es, v :: vs, h, hl => by
  simp only [births, births0, h.1.2 v]
  rw [births_nb h.2 (by simpa using hl)]
 | [], _ :: _, _, h => by simp at h
 | _ :: _, [], _, h => by simp at h
theorem birthG_nb : ∀ {es : List DE} {vs : List Value}, NB es → birthG es vs = []
 | [], _, _ => by simp [birthG]
 | e :: es, [], h => by simp [birthG]
 | e :: es, v :: vs, h => by
  simp only [birthG, h.1.1, Bool.false_eq_true, if_false]
  exact birthG_nb h.2

theorem DR.fin0 {full : List Oper} {acc : List DE} {id : Nat} (hn : NB acc) (hck : chk full acc = true) (hm : c.P.follows .mixedOrders = true) (h : JO c full.toArray l Q Γ (endD.keepFrom acc 0 Δ ++ births0 acc)) : DR c id full Q Γ0 Δ acc l Γ :=
 DR.fin hck hm fun vs hv => by
  rw [birthG_nb hn, List.nil_append]
  unfold endD
  rw [births_nb hn hv]
  exact h


section
variable {full : List Oper} {acc : List DE} {id : Nat} {e e' : D} {j s : Nat} {g b m : Bool} {oj : Oper}

/-- No resource is turned. -/
def NM : List DE → Prop
 | [] => True
 | e :: es => ((∀ k, eats e k = false) ∧ e.E undef = []) ∧ NM es

theorem NB.snoc {x : DE} : ∀ {es : List DE}, NB es → (x.b = false ∧ ∀ v, x.E v = x.E undef) → NB (es ++ [x])
 | [], _, h => ⟨h, trivial⟩
 | _ :: _, ⟨h1, h2⟩, h => ⟨h1, NB.snoc h2 h⟩
theorem NM.snoc {x : DE} : ∀ {es : List DE}, NM es → ((∀ k, eats x k = false) ∧ x.E undef = []) → NM (es ++ [x])
 | [], _, h => ⟨h, trivial⟩
 | _ :: _, ⟨h1, h2⟩, h => ⟨h1, NM.snoc h2 h⟩
theorem NM.births : ∀ {es : List DE}, NM es → births0 es = []
 | [], _ => rfl
 | e :: es, ⟨h1, h2⟩ => by simp only [births0, h1.2, NM.births h2, List.append_nil]
theorem NM.used : ∀ {es : List DE} {k : Nat}, NM es → usedUp es k = false
 | [], _, _ => rfl
 | e :: es, k, ⟨h1, h2⟩ => by
  have := NM.used (k := k) h2
  unfold usedUp at this ⊢
  simp only [List.any_cons, h1.1 k, this, Bool.or_false]
theorem NM.keep {es : List DE} (h : NM es) : ∀ {Δ : List D} {k : Nat}, endD.keepFrom es k Δ = Δ
 | [], _ => rfl
 | d :: Δ, k => by
  unfold endD.keepFrom
  rw [NM.used h, if_neg (by simp), NM.keep h]

/-- A region at hand of which nothing free makes anything that its value tells; m: so far no resource has been turned. -/
def DN (c : Cx) (id : Nat) (full : List Oper) (Q : Exit → Act → VW → Prop) (Γ0 : Ga) (Δ : List D) (acc : List DE) (l : List Oper) (Γ : Ga) (m : Bool) : Prop :=
 NB acc → (m = true → NM acc) → DR c id full Q Γ0 Δ acc l Γ

theorem JC.drawN (h : DN c id full Q Γ Δ [] full Γ true) : JC c (.region id full.toArray true) Q Γ Δ := JC.draw (h trivial fun _ => trivial)
theorem DN.fin {m : Bool} (hck : chk full acc = true) (hm : c.P.follows .mixedOrders = true) (h : JO c full.toArray l Q Γ Δ) (ht : m = true := by rfl) : DN c id full Q Γ0 Δ acc l Γ m :=
 fun h1 h2 => DR.fin0 h1 hck hm (by rw [NM.keep (h2 ht), NM.births (h2 ht), List.append_nil]; exact h)
theorem DN.s00 (hg : o.guard = none) (hd : o.dst = some d) (hdN : Nat.blt d c.N = true) (ht : OpT c.M o N [] (fun _ : Unit => (r, []))) (hh : Has Γ N)
 (h : DN c id full Q Γ0 Δ (acc ++ [⟨o, d, N, r, none, false, fun _ => []⟩]) l ((d, r) :: Γ) m) : DN c id full Q Γ0 Δ acc (o :: l) Γ m :=
 fun h1 h2 => DR.step rfl (DV.of00 hg hd hdN ht) hh (h (h1.snoc ⟨rfl, fun _ => rfl⟩) fun e => (h2 e).snoc ⟨fun _ => rfl, rfl⟩)
theorem DN.s11 (k : Nat) (hk : Δ[k]? = some e) (hg : o.guard = none) (hd : o.dst = some d) (hdN : Nat.blt d c.N = true) (ht : OpT c.M o N [e] (fun _ : Unit => (r, [e]))) (hh : Has Γ N)
 (h : DN c id full Q Γ0 Δ (acc ++ [⟨o, d, N, r, some (k, false), false, fun _ => []⟩]) l ((d, r) :: Γ) m) : DN c id full Q Γ0 Δ acc (o :: l) Γ m :=
 fun h1 h2 => DR.step rfl (DV.of11 k hk hg hd hdN ht) hh (h (h1.snoc ⟨rfl, fun _ => rfl⟩) fun e => (h2 e).snoc ⟨fun _ => rfl, rfl⟩)
theorem DN.sg00 (hg : o.guard = some (j, g)) (hj : full.toArray[j]? = some oj) (hs : oj.dst = some s) (hd : o.dst = some d) (hdN : Nat.blt d c.N = true) (ht : OpT c.M o N [] (fun _ : Unit => (r, []))) (hh : Has Γ ((.tmp s, .eq (.bool g)) :: N))
 (h : DN c id full Q Γ0 Δ (acc ++ [⟨o, d, (.tmp s, .eq (.bool g)) :: N, r, none, false, fun _ => []⟩]) l ((d, r) :: Γ) m) : DN c id full Q Γ0 Δ acc (o :: l) Γ m :=
 fun h1 h2 => DR.step rfl (DV.g00 hg hj hs hd hdN ht) hh (h (h1.snoc ⟨rfl, fun _ => rfl⟩) fun e => (h2 e).snoc ⟨fun _ => rfl, rfl⟩)
theorem DN.sg11 (k : Nat) (hk : Δ[k]? = some e) (hg : o.guard = some (j, g)) (hj : full.toArray[j]? = some oj) (hs : oj.dst = some s) (hd : o.dst = some d) (hdN : Nat.blt d c.N = true) (ht : OpT c.M o N [e] (fun _ : Unit => (r, [e]))) (hh : Has Γ ((.tmp s, .eq (.bool g)) :: N))
 (h : DN c id full Q Γ0 Δ (acc ++ [⟨o, d, (.tmp s, .eq (.bool g)) :: N, r, some (k, false), false, fun _ => []⟩]) l ((d, r) :: Γ) m) : DN c id full Q Γ0 Δ acc (o :: l) Γ m :=
 fun h1 h2 => DR.step rfl (DV.g11 k hk hg hj hs hd hdN ht) hh (h (h1.snoc ⟨rfl, fun _ => rfl⟩) fun e => (h2 e).snoc ⟨fun _ => rfl, rfl⟩)
theorem DN.sgno (hg : o.guard = some (j, g)) (hj : full.toArray[j]? = some oj) (hs : oj.dst = some s) (hl : lk Γ s = some (.eq (.bool b))) (hb : (b == g) = false) (hd : o.dst = some d) (hdN : Nat.blt d c.N = true)
 (h : DN c id full Q Γ0 Δ (acc ++ [⟨o, d, [(.tmp s, .eq (.bool b))], .eq undef, none, false, fun _ => []⟩]) l ((d, .eq undef) :: Γ) m) : DN c id full Q Γ0 Δ acc (o :: l) Γ m :=
 fun h1 h2 => DR.step rfl (DV.gno hg hj hs hb hd hdN) ⟨hl, trivial⟩ (h (h1.snoc ⟨rfl, fun _ => rfl⟩) fun e => (h2 e).snoc ⟨fun _ => rfl, rfl⟩)
/-- A test's outcome, looked at where it is made. -/
theorem DN.fork (hg : o.guard = none) (hd : o.dst = some d) (hdN : Nat.blt d c.N = true) (ht : OpT c.M o N [] (fun _ : Unit => (.eq (.bool b), []))) (hh : Has Γ N)
 (h1 : b = true → DN c id full Q Γ0 Δ (acc ++ [⟨o, d, N, .eq (.bool true), none, false, fun _ => []⟩]) l ((d, .eq (.bool true)) :: Γ) m)
 (h2 : b = false → DN c id full Q Γ0 Δ (acc ++ [⟨o, d, N, .eq (.bool false), none, false, fun _ => []⟩]) l ((d, .eq (.bool false)) :: Γ) m) : DN c id full Q Γ0 Δ acc (o :: l) Γ m := by
 cases b
 ·
  exact DN.s00 hg hd hdN ht hh (h2 rfl)
 ·
  exact DN.s00 hg hd hdN ht hh (h1 rfl)
theorem DN.forkg (hg : o.guard = some (j, g)) (hj : full.toArray[j]? = some oj) (hs : oj.dst = some s) (hd : o.dst = some d) (hdN : Nat.blt d c.N = true) (ht : OpT c.M o N [] (fun _ : Unit => (.eq (.bool b), []))) (hh : Has Γ ((.tmp s, .eq (.bool g)) :: N))
 (h1 : b = true → DN c id full Q Γ0 Δ (acc ++ [⟨o, d, (.tmp s, .eq (.bool g)) :: N, .eq (.bool true), none, false, fun _ => []⟩]) l ((d, .eq (.bool true)) :: Γ) m)
 (h2 : b = false → DN c id full Q Γ0 Δ (acc ++ [⟨o, d, (.tmp s, .eq (.bool g)) :: N, .eq (.bool false), none, false, fun _ => []⟩]) l ((d, .eq (.bool false)) :: Γ) m) : DN c id full Q Γ0 Δ acc (o :: l) Γ m := by
 cases b
 ·
  exact DN.sg00 hg hj hs hd hdN ht hh (h2 rfl)
 ·
  exact DN.sg00 hg hj hs hd hdN ht hh (h1 rfl)
end

/-! ### More operations -/

theorem geti_ne {α : Type} {l : List α} {i : Int} {x : α} (h : geti l i = some x) : l ≠ [] := by
 rintro rfl;have := (geti_some h).2.2;simp at this

/-- All may be stored. -/
def Stors : List (Nat × Operand × A) → Prop
 | [] => True
 | p :: ps => p.2.2.stor ∧ Stors ps
theorem stors : ∀ {ps : List (Nat × Operand × A)}, Stors ps → ∀ p ∈ ps, p.2.2.stor
 | p :: ps, h, q, hq => by
  rcases List.mem_cons.1 hq with e | hq
  ·
   rw [e]; exact h.1
  ·
   exact stors h.2 q hq

def imax (a b : Int) : Int := if a < b then b else a
end
end K
end Go.Proofs.Ytopgphikdglphaa

/- The calculus, part 13: fields of values, the greater and the lesser, elements of own arrays and slices, comparisons of structs, parts of slices. -/
namespace Go.Proofs.Ytopgphikdglphaa
namespace K
open Go

/-- A datum's cells, where it is made of numbers and truth values alone. -/
@[reducible] def encT : (t : Ty) → t.den → List Value
 | .int k, n => [.int k n]
 | .bool, b => [.bool b]
 | .pair a b, x => encT a x.1 ++ encT b x.2
 | .agg t, x => encT t x
 | _, _ => []

@[reducible] def Ty.plain : Ty → Bool
 | .int _ => true
 | .bool => true
 | .pair a b => a.plain && b.plain
 | .agg t => t.plain
 | _ => false

theorem rd_enc {S : FS} {w : World} (t : Ty) : ∀ {x : t.den} {cs : List Value}, t.plain = true → rd S w t x cs → cs = encT t x := by
 induction t with
 | int k => intro x cs _ h; exact h
 | bool => intro x cs _ h; exact h
 | pair a b iha ihb =>
  rintro x cs hp ⟨c1, c2, rfl, h1, h2⟩;simp only [Ty.plain, Bool.and_eq_true] at hp;rw [iha hp.1 h1, ihb hp.2 h2]
 | agg t ih => intro x cs hp h; exact ih hp h
 | _ => intro x cs hp _; simp [Ty.plain] at hp

theorem encT_one (t : Ty) : ∀ (x : t.den), t.plain = true → (encT t x).all one0 = true := by
 induction t with
 | int k => intro x _; rfl
 | bool => intro x _; rfl
 | pair a b iha ihb =>
  intro x hp;simp only [Ty.plain, Bool.and_eq_true] at hp;simp only [encT, List.all_append, iha _ hp.1, ihb _ hp.2, Bool.and_self]
 | agg t ih => intro x hp; exact ih x hp
 | _ => intro x hp; simp [Ty.plain] at hp
theorem nop_rep {S : FS} {w : World} {t : Ty} {p : t.den} {v : Value} (hag : t.isAgg = true) (hp : t.plain = true) (h : (A.rep t p).holds S w v) : nop v = true := by
 obtain ⟨c, h1, e⟩ := h;rw [rd_enc t hp h1] at e;subst e;simp only [mk, hag, ↓reduceIte];show (encT t p).toArray.toList.all one0 = true;exact encT_one t p hp
theorem ns_eqv {P : Program} {o : Oper} {x y : Operand} {T T' : TypeId} {t : Ty} {p q : t.den} {b : BinOp} {S S' : FS} {w w' : World} {ρ : Operand → Value} (ho : o.op = .binOp b T x y T') (hag : t.isAgg = true) (hp : t.plain = true) (h1 : (A.rep t p).holds S w (ρ x)) (h2 : (A.rep t q).holds S' w' (ρ y)) : Ns P (execOp ρ o) :=
 ns_binv ho (ns_binOp (nop_rep hag hp h1) (nop_rep hag hp h2))

/-- Structs of this type are compared as data. -/
structure EqOk (P : Program) (T : TypeId) (t : Ty) : Prop where
 plain : t.plain = true
 guard : P.eqGuardType P.depth T = false
 eql : ∀ (w : World) (x y : t.den), ∃ r : Bool, (Op.equalIn 10000 T (.agg (encT t x).toArray) (.agg (encT t y).toArray)).run P w = .ok r w ∧ (r = true ↔ x = y)

section
variable {P : Program} {M : Md P} {o : Oper} {x y z : Operand} {T T' e : TypeId} {r r' : A} {t u : Ty}

theorem o_neqs {p q : t.den} [Decidable (p = q)] (ho : o.op = .binOp .neq T x y T') (h : EqOk P T t) (hag : t.isAgg = true) : OpT M o [(x, .rep t p), (y, .rep t q)] [] (fun _ : Unit => (.eq (.bool (!decide (p = q))), [])) :=
 OpT.val0 (hns := fun _ _ a hN => ns_eqv ho hag h.plain hN.1 hN.2.1) fun S w a hN => by
  obtain ⟨c1, h1, e1⟩ := hN.1
  obtain ⟨c2, h2, e2⟩ := hN.2.1
  have h1 := rd_enc t h.plain h1
  have h2 := rd_enc t h.plain h2
  subst h1 h2
  obtain ⟨b, g1, g2⟩ := h.eql w p q
  have e1' : a.eval x = .agg (encT t p).toArray := by rw [e1]; simp [mk, hag]
  have e2' : a.eval y = .agg (encT t q).toArray := by rw [e2]; simp [mk, hag]
  refine ⟨.bool (!b), by simp only [execOp, ho, e1', e2', Sem.run_bind, run_eqGuard_agg w _ _ _ _ _ _ h.guard, run_neq_struct, g1, Result.andThen_ok, Sem.run_pure], ?_⟩
  show Value.bool (!b) = _
  congr 2
  by_cases hpq : p = q
  ·
   rw [decide_eq_true hpq, g2.2 hpq]
  ·
   rw [decide_eq_false hpq]
   cases b
   ·
    rfl
   ·
    exact absurd (g2.1 rfl) hpq

/-! ### The greater and the lesser -/

theorem o_max {k : IntKind} {n m : Int} {c : Call} {ts : Array TypeId} (ho : o.op = .call c) (hc : c = { callee := .builtin .max, args := #[x, y], argTypes := ts }) :
 OpT M o [(x, .eq (.int k n)), (y, .eq (.int k m))] [] (fun _ : Unit => (.eq (.int k (imax n m)), [])) :=
 .val0 fun S w a h => by
  have e1 : a.eval x = .int k n := h.1
  have e2 : a.eval y = .int k m := h.2.1
  refine ⟨.int k (imax n m), ?_, rfl⟩
  have hm := run_max_int2 (P := P) w ts o.type k k n m
  simp [execOp, ho, hc, resolve, invoke, builtin, e1, e2, hm, imax]

/-! ### Structs that are made -/

def BdOk (P : Program) (T : TypeId) (places : Array (Nat × Nat)) : Prop := ∃ fs : Array Field, P.underlying T = some (.struct fs) ∧ ∀ w, (fs.mapM fun f => (do pure (f.offset, ← sizeOf f.type) : Sem (Nat × Nat))).run P w = .ok places w

theorem o_buildT {places : Array (Nat × Nat)} {zv : Value} {a0 a1 : A} (ps : List (Nat × Operand × A)) (ho : o.op = .build T (ps.map fun p => (p.1, p.2.1)).toArray) (hT : BdOk P T places)
 (hz : ∀ w, (zeroValue T).run P w = .ok zv w) (ha : ∀ S w, a0.cells S w zv.cells.toList) (hs : ∀ p ∈ ps, p.2.2.stor) (hf : fillA places a0 ps = some a1) : OpT M o (ps.map (·.2)) [] (fun _ : Unit => (.agg a1, [])) := by
 obtain ⟨fs, h1, h2⟩ := hT
 exact o_build ps ho h1 h2 hz ha hs hf

/-! ### Literal slices, with their size by computation -/

theorem lit_small {n m : Nat} {k : Nat} (hn : n = k) (h : Nat.ble (n * m) 16777216 = true) : k * m ≤ 16777216 := by
 subst hn;exact Nat.le_of_ble_eq_true h

theorem o_litB {bytes n : Nat} (ps : List (Operand × A)) (l : List t.den) (ho : o.op = .buildSlice T n (ps.zipIdx.map fun p => (p.2, p.1.1)).toArray) (hn : n = ps.length) (hT : SlOk P T e t.cells bytes) (he : Ents t ps l)
 (hb : Nat.ble (n * t.cells) 16777216 = true) (hl : l.length = ps.length) : OpT M o ps [] (fun _ : Unit => (.rep (.slice t) l, [])) := o_lit ps l ho hn hT he (lit_small hn hb) hl
theorem o_litB_own {bytes n : Nat} (ps : List (Operand × A)) (l : List t.den) (ho : o.op = .buildSlice T n (ps.zipIdx.map fun p => (p.2, p.1.1)).toArray) (hn : n = ps.length) (hT : SlOk P T e t.cells bytes) (he : Ents t ps l)
 (hb : Nat.ble (n * t.cells) 16777216 = true) (hl : l.length = ps.length) : OpT M o ps [] (fun v : Value => (.eq v, [.sl v e t l])) := o_lit_own ps l ho hn hT he (lit_small hn hb) hl

/-! ### Elements of arrays in own variables -/

theorem rdAll_take_drop {α : Type} {R : α → List Value → Prop} {m : Nat} (hR : ∀ x cs, R x cs → cs.length = m) : ∀ {l : List α} {cs : List Value} {i : Nat} {x' : α} {new : List Value}, rdAll R l cs → i < l.length → R x' new →
 rdAll R (l.set i x') (cs.take (i * m) ++ new ++ cs.drop (i * m + m))
 | [], _, i, _, _, _, hi, _ => by simp at hi
 | x0 :: l, _, i, x', new, ⟨c1, c2, rfl, h1, h2⟩, hi, hx => by
  have l1 := hR _ _ h1
  cases i with
  | zero =>
   rw [Nat.zero_mul, List.take_zero, List.nil_append, Nat.zero_add, List.drop_append, List.drop_eq_nil_of_le (by omega), List.nil_append, l1, Nat.sub_self, List.drop_zero]
   exact ⟨new, c2, rfl, hx, h2⟩
  | succ i =>
   have ih := rdAll_take_drop hR h2 (i := i) (by simpa using hi) hx
   refine ⟨c1, _, ?_, h1, ih⟩
   have e1 : (i + 1) * m = c1.length + i * m := by rw [Nat.add_mul, l1]; omega
   rw [e1, List.take_append, List.take_of_length_le (by omega), Nat.add_sub_cancel_left, List.append_assoc, List.append_assoc, List.append_assoc,
    show c1.length + i * m + m = c1.length + (i * m + m) by omega, List.drop_append, List.drop_eq_nil_of_le (by omega), Nat.add_sub_cancel_left, List.nil_append]

theorem o_load_arr {b off n N k : Nat} {i : Int} {g : Bool} {T0 : TypeId} {a0 : A} {l : List t.den} {d : t.den} (ho : o.op = .load T x) (ht : SzOk P T n g) (hg : g = false → n = 1) (hget : a0.get off (N * t.cells) true = some (.rep (.arr N t) l))
 (hn : t.cells = n) (hag : t.isAgg = g) (hk : k = off + i.toNat * t.cells) (hl : geti l i = some d) :
 OpT M o [(x, .eq (.pointer (some ⟨b, k, none⟩)))] [.obj b T0 a0] (fun _ : Unit => (mkA t d, [.obj b T0 a0])) :=
 .val1 fun S w a h hs => by
  have e : a.eval x = .pointer (some ⟨b, k, none⟩) := h.1
  obtain ⟨cs, h1, h2⟩ := hs
  have l0 := a0.cells_length h2
  obtain ⟨h3, h4⟩ := A.get_spec a0 h2 hget
  subst hn hk
  obtain ⟨cs', ⟨q1, q2⟩, q3⟩ := h3
  have q4 : (cs.drop off).take (N * t.cells) = cs' := by simpa [mk] using q3
  subst q4
  obtain ⟨g0, g1, g2⟩ := geti_some hl
  obtain ⟨r1, r2⟩ := rdAll_get (fun _ _ h => rd_length t h) q2 g2
  have hi : i.toNat < N := by omega
  have hle : i.toNat * t.cells + t.cells ≤ N * t.cells := by
   rw [← Nat.succ_mul]; exact Nat.mul_le_mul_right _ hi
  have r3 : ((cs.drop off).drop (i.toNat * t.cells)).take t.cells = (((cs.drop off).take (N * t.cells)).drop (i.toNat * t.cells)).take t.cells := by
   rw [List.drop_take, List.take_take, Nat.min_eq_left (by omega)]
  rw [← r3, List.drop_drop] at r1;have hr := run_loadVar' ht hg h1 (off := off + i.toNat * t.cells) (by simp only [List.size_toArray]; omega);rw [← hag] at hr;refine ⟨_, ?_, mkA_holds r1⟩;simp [execOp, ho, Instr.loadAt, e, Instr.sureAddr, hr]

theorem o_store_arr {b off n N k : Nat} {i : Int} {g : Bool} {T0 : TypeId} {a0 a1 : A} {l : List t.den} {d : t.den} (ho : o.op = .store T x y) (ht : SzOk P T n g) (he : Ent r t d) (hs : r.stor) (hget : a0.get off (N * t.cells) true = some (.rep (.arr N t) l))
 (hn : t.cells = n) (hk : k = off + i.toNat * t.cells) (h0 : 0 ≤ i) (hi : i < N) (hset : a0.set off (N * t.cells) true (.rep (.arr N t) (l.set i.toNat d)) = some a1) :
 OpT M o [(x, .eq (.pointer (some ⟨b, k, none⟩))), (y, r)] [.obj b T0 a0] (fun _ : Unit => (.eq undef, [.obj b T0 a1])) := by
 refine OpP.T ⟨by simp only [nd, *], fun S w a next hd hN hO kk => ?_⟩ (fun _ _ a _ _ => ns_exec (by simp only [nsOp, *]) a.eval) (fun d hd => by first | (simp at hd; done) | (simp at hd; subst hd; trivial))
 subst hn hk
 have e1 : a.eval x = .pointer (some ⟨b, off + i.toNat * t.cells, none⟩) := hN.1
 obtain ⟨p1, p2, _⟩ := A.holds_cells hN.2.1 hs
 have p3 := he.cells p1
 have l3 := rd_length t p3
 obtain ⟨cs, h3, h4⟩ := hO.holds _ (by simp : D.obj b T0 a0 ∈ [D.obj b T0 a0])
 obtain ⟨hnb, hbs⟩ := hO.own b (feet_obj.2 rfl)
 have l0 := a0.cells_length h4
 obtain ⟨g1, g2⟩ := A.get_spec a0 h4 hget
 obtain ⟨cs', ⟨q1, q2⟩, q3⟩ := g1
 have q4 : (cs.drop off).take (N * t.cells) = cs' := by simpa [mk] using q3
 subst q4
 have hi' : i.toNat < N := by omega
 have hle : i.toNat * t.cells + t.cells ≤ N * t.cells := by
  rw [← Nat.succ_mul]; exact Nat.mul_le_mul_right _ hi'
 have hrow := rdAll_take_drop (fun _ _ h => rd_length t h) q2 (i := i.toNat) (by omega) p3
 have hlen : (((cs.drop off).take (N * t.cells)).take (i.toNat * t.cells) ++ (a.eval y).cells.toList ++ ((cs.drop off).take (N * t.cells)).drop (i.toNat * t.cells + t.cells)).length = N * t.cells := by
  simp only [List.length_append, List.length_take, List.length_drop]; omega
 obtain ⟨s1, s2⟩ := A.set_spec a0 h4 (r := .rep (.arr N t) (l.set i.toNat d)) ⟨by rw [List.length_set]; exact q1, hrow⟩ hlen hset
 have hcs : cs.take off ++ (((cs.drop off).take (N * t.cells)).take (i.toNat * t.cells) ++ (a.eval y).cells.toList ++ ((cs.drop off).take (N * t.cells)).drop (i.toNat * t.cells + t.cells)) ++ cs.drop (off + N * t.cells) =
  cs.take (off + i.toNat * t.cells) ++ (a.eval y).cells.toList ++ cs.drop (off + i.toNat * t.cells + t.cells) := by
  rw [List.take_take, Nat.min_eq_left (by omega), List.take_add, List.drop_take, List.drop_drop]
  have e5 : cs.drop (off + i.toNat * t.cells + t.cells) = (cs.drop (off + (i.toNat * t.cells + t.cells))).take (N * t.cells - (i.toNat * t.cells + t.cells)) ++ cs.drop (off + N * t.cells) := by
   rw [← Nat.add_assoc];conv => lhs; rw [← List.take_append_drop (N * t.cells - (i.toNat * t.cells + t.cells)) (cs.drop (off + i.toNat * t.cells + t.cells))]
   rw [List.drop_drop];congr 2;omega
  rw [e5]
  simp only [List.append_assoc]
 rw [hcs] at s1
 have hst := run_storeCells P b T0 (off + i.toNat * t.cells) (a.eval y).cells.toList 0 w cs.toArray h3 (fun v hv => A.cells_one r p1 v hv) (by simp only [Nat.add_zero, List.size_toArray]; omega)
 have hsz : (a.eval y).cells.size = t.cells := by rw [← Array.length_toList]; omega
 have hr : (execOp a.eval o).run P w = .ok .skip { w with heap := w.heap.setIfInBounds b (.cells (cs.take (off + i.toNat * t.cells) ++ (a.eval y).cells.toList ++ cs.drop (off + i.toNat * t.cells + t.cells)).toArray T0 (0, 0)) } := by
  simp only [Nat.add_zero, l3] at hst;simp [execOp, ho, Instr.storeAt, e1, Instr.sureAddr, storeVar, ht.size, hsz, hst]
 rw [hr]
 have hK : Keep S w { w with heap := w.heap.setIfInBounds b (.cells (cs.take (off + i.toNat * t.cells) ++ (a.eval y).cells.toList ++ cs.drop (off + i.toNat * t.cells + t.cells)).toArray T0 (0, 0)) } := fun b' hb' => by
  have hne : b ≠ b' := fun e => hnb (by rw [e]; exact hb');simp [Array.getElem?_setIfInBounds_ne hne]
 refine kk () S _ _ (step_set hd (feet_obj.2 rfl) _) rfl (owns_one ⟨_, by simp [hbs], A.cells_mono (fun _ h => h) hK a1 s1⟩ ?_) (fun b' hb' => .inl ?_)
 ·
  intro b' hb';simp only [D.foot, Option.some.injEq] at hb';subst hb';exact ⟨hnb, by simpa using hbs⟩
 ·
  rw [feet_obj] at hb' ⊢; exact hb'

/-! ### Elements of own slices -/

/-- A part of a datum is another one. -/
inductive Upd : (t : Ty) → t.den → (off n : Nat) → (u : Ty) → u.den → t.den → Prop
 | whole {t : Ty} {x y : t.den} : Upd t x 0 t.cells t y y
 | left {a b u : Ty} {x : (Ty.pair a b).den} {off n : Nat} {y : u.den} {x' : a.den} (h : Upd a x.1 off n u y x') : Upd (.pair a b) x off n u y (x', x.2)
 | right {a b u : Ty} {x : (Ty.pair a b).den} {off k n : Nat} {y : u.den} {x' : b.den} (h : Upd b x.2 off n u y x') (hk : k = a.cells + off) : Upd (.pair a b) x k n u y (x.1, x')
 | agg {t u : Ty} {x : (Ty.agg t).den} {off n : Nat} {y : u.den} {x' : t.den} (h : Upd t x off n u y x') : Upd (.agg t) x off n u y x'

theorem Upd.spec {S : FS} {w : World} {t u : Ty} {x x' : t.den} {off n : Nat} {y : u.den} (h : Upd t x off n u y x') : ∀ {cs new : List Value}, rd S w t x cs → rd S w u y new → rd S w t x' (cs.take off ++ new ++ cs.drop (off + n)) ∧ off + n ≤ t.cells ∧ n = u.cells := by
 induction h with
 | @whole t x y =>
  intro cs new h1 h2;have l1 := rd_length t h1;refine ⟨?_, by omega, rfl⟩;rw [List.take_zero, List.nil_append, Nat.zero_add, List.drop_eq_nil_of_le (by omega), List.append_nil];exact h2
 | @left a b u x off n y x' _ ih =>
  rintro cs new ⟨c1, c2, rfl, h1, h2⟩ h3;obtain ⟨q1, q2, q3⟩ := ih h1 h3;have l1 := rd_length a h1;refine ⟨⟨_, c2, ?_, q1, h2⟩, by simp only [Ty.cells]; omega, q3⟩;rw [List.take_append_of_le_length (by omega), List.drop_append_of_le_length (by omega)];simp only [List.append_assoc]
 | @right a b u x off k n y x' _ hk ih =>
  rintro cs new ⟨c1, c2, rfl, h1, h2⟩ h3;obtain ⟨q1, q2, q3⟩ := ih h2 h3;have l1 := rd_length a h1;refine ⟨⟨c1, _, ?_, h1, q1⟩, by simp only [Ty.cells]; omega, q3⟩
  rw [hk, ← l1, List.take_append, List.take_of_length_le (by omega), Nat.add_sub_cancel_left, List.append_assoc, List.append_assoc, List.append_assoc, show c1.length + off + n = c1.length + (off + n) by omega,
   List.drop_append, List.drop_eq_nil_of_le (by omega), Nat.add_sub_cancel_left, List.nil_append]
 | agg _ ih => intro cs new h1 h2; exact ih h1 h2

theorem splice {α : Type} (C V : List α) (p off n m L : Nat) (hV : V.length = n) (h1 : off + n ≤ m) (h2 : p + m ≤ L) (h3 : L ≤ C.length) :
 (C.take (p + off) ++ V ++ C.drop (p + off + n)).take L = (C.take L).take p ++ ((((C.take L).drop p).take m).take off ++ V ++ (((C.take L).drop p).take m).drop (off + n)) ++ (C.take L).drop (p + m) := by
 have e1 : (C.take L).take p = C.take p := by rw [List.take_take, Nat.min_eq_left (by omega)]
 have e2 : (((C.take L).drop p).take m).take off = (C.drop p).take off := by
  rw [List.take_take, Nat.min_eq_left (by omega), List.drop_take, List.take_take, Nat.min_eq_left (by omega)]
 have e3 : (((C.take L).drop p).take m).drop (off + n) = (C.drop (p + (off + n))).take (m - (off + n)) := by
  rw [List.drop_take, List.drop_drop, List.drop_take, List.take_take, Nat.min_eq_left (by omega)]
 have e4 : (C.take L).drop (p + m) = (C.drop (p + m)).take (L - (p + m)) := by rw [List.drop_take]
 rw [e1, e2, e3, e4]
 have e5 : C.take (p + off) = C.take p ++ (C.drop p).take off := List.take_add
 have e6 : (C.drop (p + (off + n))).take (m - (off + n)) ++ (C.drop (p + m)).take (L - (p + m)) = (C.drop (p + off + n)).take (L - (p + off + n)) := by
  have : L - (p + off + n) = (m - (off + n)) + (L - (p + m)) := by omega
  rw [this, List.take_add, List.drop_drop, show p + off + n + (m - (off + n)) = p + m by omega, ← Nat.add_assoc]
 rw [List.take_append, List.take_of_length_le (by simp only [List.length_append, List.length_take]; omega), e5]
 have e7 : L - (C.take p ++ (C.drop p).take off ++ V).length = L - (p + off + n) := by
  simp only [List.length_append, List.length_take, List.length_drop]; omega
 rw [e7, ← e6]
 simp only [List.append_assoc]

theorem o_store_el {v : Value} {TE : TypeId} {u : Ty} {l : List t.den} {k i off n : Nat} {g : Bool} {d d' : t.den} {z : u.den} (ho : o.op = .store T x y) (ht : SzOk P T n g) (hk : k = i * t.cells + off) (hl : l[i]? = some d) (he : Ent r u z) (hs : r.stor) (hu : Upd t d off n u z d') :
 OpT M o [(x, .eq (elPtr v k)), (y, r)] [.sl v TE t l] (fun _ : Unit => (.eq undef, [.sl v TE t (l.set i d')])) := by
 refine OpP.T ⟨by simp only [nd, *], fun S w a next hd hN hO kk => ?_⟩ (fun _ _ a _ _ => ns_exec (by simp only [nsOp, *]) a.eval) (fun d hd => by first | (simp at hd; done) | (simp at hd; subst hd; trivial))
 have e1 : a.eval x = elPtr v k := hN.1
 obtain ⟨p1, p2, _⟩ := A.holds_cells hN.2.1 hs
 have p3 := he.cells p1
 have l3 := rd_length u p3
 have hi : i < l.length := by
  rcases Nat.lt_or_ge i l.length with h | h
  ·exact h
  ·simp [List.getElem?_eq_none h] at hl
 rcases hO.holds _ (by simp : D.sl v TE t l ∈ [D.sl v TE t l]) with ⟨rfl, rfl⟩ | ⟨b, cap, c, rfl, q1, q1', q2, q3, q4⟩
 ·
  simp at hi
 have hfoot : ∀ b', feet [D.sl (.slice (some ⟨b, 0, none⟩) l.length cap) TE t l] b' ↔ b' = b := fun b' => by
  rw [feet_one]; simp [D.foot, Value.ownBlock, eq_comm]
 obtain ⟨hnb, hbs⟩ := hO.own b ((hfoot b).2 rfl)
 obtain ⟨r1, r2⟩ := rdAll_get (fun _ _ h => rd_length t h) q4 hl
 obtain ⟨u1, u2, u3⟩ := hu.spec r1 p3
 have hrow := rdAll_take_drop (fun _ _ h => rd_length t h) q4 hi u1
 have hle : i * t.cells + t.cells ≤ l.length * t.cells := by
  rw [← Nat.succ_mul]; exact Nat.mul_le_mul_right _ hi
 have hcap : l.length * t.cells ≤ c.size := by rw [q3]; exact Nat.mul_le_mul_right _ q1
 have lc : c.toList.length = c.size := Array.length_toList
 have hc : c = c.toList.toArray := (Array.toArray_toList).symm
 rw [hc] at q2
 have hst := run_storeCells P b TE k (a.eval y).cells.toList 0 w c.toList.toArray q2 (fun v hv => A.cells_one r p1 v hv) (by simp only [Nat.add_zero, List.size_toArray]; omega)
 have hsz : (a.eval y).cells.size = n := by rw [← Array.length_toList]; omega
 have hr : (execOp a.eval o).run P w = .ok .skip { w with heap := w.heap.setIfInBounds b (.cells (c.toList.take k ++ (a.eval y).cells.toList ++ c.toList.drop (k + n)).toArray TE (0, 0)) } := by
  have e1' : a.eval x = .pointer (some ⟨b, k, none⟩) := by rw [e1]; simp [elPtr]
  have l4 : (a.eval y).cells.toList.length = n := by omega
  simp only [Nat.add_zero, l4] at hst;simp only [execOp, ho, Instr.storeAt, e1', Instr.sureAddr, storeVar, Sem.run_bind, Sem.run_pure, ht.size, Result.andThen_ok, hsz, ne_eq, not_true, if_false];simpa using congrArg (fun r : Result Unit => r.andThen fun _ w' => .ok Next.skip w') hst
 rw [hr]
 generalize hw' : ({ w with heap := w.heap.setIfInBounds b (.cells (c.toList.take k ++ (a.eval y).cells.toList ++ c.toList.drop (k + n)).toArray TE (0, 0)) } : World) = w'
 have hK : Keep S w w' := fun b' hb' => by
  have hne : b ≠ b' := fun e => hnb (by rw [e]; exact hb');subst hw';simp [Array.getElem?_setIfInBounds_ne hne]
 have hstep : Step (feet [D.sl (.slice (some ⟨b, 0, none⟩) l.length cap) TE t l]) S w S w' := by
  subst hw';exact step_set hd ((hfoot b).2 rfl) _
 refine kk () S _ _ hstep rfl (owns_one (.inr ⟨b, cap, (c.toList.take k ++ (a.eval y).cells.toList ++ c.toList.drop (k + n)).toArray, by rw [List.length_set], by rw [List.length_set]; exact q1, q1', by subst hw'; simp [hbs], ?_, ?_⟩) ?_) (fun b' hb' => .inl ?_)
 ·
  simp only [List.size_toArray, List.length_append, List.length_take, List.length_drop]; omega
 ·
  rw [List.length_set, List.toList_toArray]
  have e6 : (c.toList.take k ++ (a.eval y).cells.toList ++ c.toList.drop (k + n)).take (l.length * t.cells) =
   (c.toList.take (l.length * t.cells)).take (i * t.cells) ++ ((((c.toList.take (l.length * t.cells)).drop (i * t.cells)).take t.cells).take off ++ (a.eval y).cells.toList ++ (((c.toList.take (l.length * t.cells)).drop (i * t.cells)).take t.cells).drop (off + n)) ++ (c.toList.take (l.length * t.cells)).drop (i * t.cells + t.cells) := by
   subst hk
   exact splice _ _ _ _ _ _ _ (by omega) u2 hle (by omega)
  rw [e6];exact rdAll_mono (fun _ _ h => rd_mono (fun _ h => h) hK t h) hrow
 ·
  intro b' hb';have : b' = b := by simpa [D.foot, Value.ownBlock, eq_comm] using hb'
  subst this;exact ⟨hnb, Nat.lt_of_lt_of_le hbs hstep.size⟩
 ·
  rw [feet_one] at hb';have : b' = b := by simpa [D.foot, Value.ownBlock, eq_comm] using hb'
  exact (hfoot b').2 this

theorem geti_lt {α : Type} {l : List α} {i : Int} {x : α} (h : geti l i = some x) : i.toNat < l.length := by
 obtain ⟨h0, h1, _⟩ := geti_some h;omega

/-- A whole element. -/
theorem o_store_elW {v : Value} {TE : TypeId} {l : List t.den} {k i n : Nat} {g : Bool} {d' : t.den} (ho : o.op = .store T x y) (ht : SzOk P T n g) (hk : k = i * t.cells) (hi : i < l.length) (hn : t.cells = n) (he : Ent r t d') (hs : r.stor) :
 OpT M o [(x, .eq (elPtr v k)), (y, r)] [.sl v TE t l] (fun _ : Unit => (.eq undef, [.sl v TE t (l.set i d')])) := by
 subst hn
 exact o_store_el (off := 0) ho ht hk (List.getElem?_eq_getElem hi) he hs .whole
end
end K
end Go.Proofs.Ytopgphikdglphaa

/- The calculus, part 14: a region that draws its order and whose tail (stores, say) need not wait for all that only reads. -/
namespace Go.Proofs.Ytopgphikdglphaa
namespace K
open Go

section
variable {c : Cx} {full : List Oper} {Q : Exit → Act → VW → Prop} {Γ0 Γ Γt : Ga} {Δ Δr Δt F : List D} {acc : List DE} {l : List Oper} {id : Nat} {must : List Bool} {T : List Nat} {vs : List Value} {k : Nat}

/-- What may come up behind the tail's first operation only reads. -/
def Fl (Δ Δr : List D) : List DE → List Bool → Prop
 | [], _ => True
 | e :: es, ms => ((ms.headD false = true ∧ (e.b = true → e.r = .any)) ∨ (e.b = false ∧ (∀ v, e.E v = []) ∧ (e.u = none ∨ ∃ k d, e.u = some (k, false) ∧ Δ[k]? = some d ∧ d ∈ Δr))) ∧ Fl Δ Δr es ms.tail

theorem Fl.nth : ∀ {acc : List DE} {must : List Bool} {i : Nat} {e : DE}, Fl Δ Δr acc must → acc[i]? = some e → must.getD i false = false → e.b = false ∧ (∀ v, e.E v = []) ∧ (e.u = none ∨ ∃ k d, e.u = some (k, false) ∧ Δ[k]? = some d ∧ d ∈ Δr)
 | [], _, _, _, _, h, _ => by simp at h
 | x :: acc, must, 0, e, h, he, hm => by
  simp at he
  subst he
  rcases h.1 with h1 | h1
  ·
   cases must <;> simp at h1 hm
   rw [h1.1] at hm; cases hm
  ·
   exact h1
 | x :: acc, must, i + 1, e, h, he, hm => by
  refine Fl.nth (acc := acc) (must := must.tail) (i := i) h.2 (by simpa using he) ?_
  cases must with
  | nil => simp
  | cons m ms => simpa using hm

def chkT (full : List Oper) (es : List DE) (must : List Bool) (T : List Nat) : Bool :=
 let M := clos [] full
 (es.zipIdx.all fun (e, i) => chkOne M es i e) && (full.zipIdx.all fun (o, i) => (dpreds o).all (· < i)) &&
 ((List.range full.length).all fun j => j < es.length || (List.range j).all fun i => i < es.length || (M.getD j 0).testBit i) &&
 (es.zipIdx.all fun (_, i) => !must.getD i false || (M.getD es.length 0).testBit i) &&
 (es.zipIdx.all fun (e, i) => must.getD i false || (slotsOf e.N).all fun s => es.zipIdx.all fun (e', j) => e'.d != s || (M.getD i 0).testBit j) &&
 (es.zipIdx.all fun (e, i) => !T.contains e.d && (must.getD i false || (slotsOf e.N).all fun s => !T.contains s)) && decide (es.length < full.length)

/-- What is known of the slots of the free operations. -/
@[reducible] def rB (e : DE) (v : Value) : A := if e.b then .eq v else e.r
@[reducible] def GB : List DE → List Value → Ga
 | e :: es, v :: vs => (e.d, rB e v) :: GB es vs
 | _, _ => []

theorem lk_GB {s : Nat} {r : A} : ∀ {acc : List DE} {vs : List Value}, vs.length = acc.length → lk (GB acc vs ++ Γt) s = some r →
 (∃ (j : Nat) (e : DE), acc[j]? = some e ∧ e.d = s ∧ r = rB e (vs.getD j undef)) ∨ ((∀ (j : Nat) (e : DE), acc[j]? = some e → e.d ≠ s) ∧ lk Γt s = some r)
 | [], [], _, h => .inr ⟨fun j e h => by simp at h, h⟩
 | e :: es, v :: vs, hl, h => by
  simp only [GB, List.cons_append, lk] at h
  split at h
  ·
   rename_i hd
   exact .inl ⟨0, e, rfl, hd, (Option.some.inj h).symm⟩
  ·
   rename_i hd
   rcases lk_GB (acc := es) (vs := vs) (by simpa using hl) h with ⟨j, e', h1, h2, h3⟩ | ⟨h1, h2⟩
   ·
    exact .inl ⟨j + 1, e', by simpa using h1, h2, by simpa using h3⟩
   ·
    refine .inr ⟨fun j e' h3 => ?_, h2⟩
    cases j with
    | zero => simp at h3; subst h3; exact hd
    | succ j => exact h1 j e' (by simpa using h3)
 | [], _ :: _, hl, _ => by simp at hl
 | _ :: _, [], hl, _ => by simp at hl

/-- What holds when the tail is at work: its first k operations have come up. -/
structure TI (c : Cx) (full : List Oper) (Γ0 : Ga) (acc : List DE) (must : List Bool) (T : List Nat) (vs : List Value) (Δr : List D) (k : Nat) (Γt : Ga) (Δt : List D) (L : Array Bool) (a : Act) (w : VW) : Prop where
 size : L.size = full.length
 tail : ∀ j, acc.length ≤ j → lst L j = decide (j < acc.length + k)
 must : ∀ j, must.getD j false = true → j < acc.length → lst L j = true
 closed : ∀ j o, full[j]? = some o → lst L j = true → ∀ i ∈ dpreds o, lst L i = true
 defers : a.defers = c.dfs
 tmps : a.tmps.size = c.N
 keep : ∀ s, T.contains s = false → lk Γt s = lk Γ0 s
 ex : ∃ S : FS, CStep c.X c.S0 c.w0 S w ∧ (∀ b, feet (Δr ++ Δt) b → c.X b ∨ c.w0.heap.size ≤ b) ∧ OwnsC (Δr ++ Δt) S w ∧
  (∀ s r, lk Γt s = some r → (∀ (j : Nat) (e : DE), acc[j]? = some e → e.d ≠ s) → r.holds S w (a.tmps.getD s undef)) ∧
  (∀ (j : Nat) (e : DE), acc[j]? = some e → lst L j = true → (rB e (vs.getD j undef)).holds S w (a.tmps.getD e.d undef))

theorem chkT_parts (h : chkT full acc must T = true) :
 (∀ (i : Nat) (e : DE), acc[i]? = some e → chkOne (clos [] full) acc i e = true) ∧ (∀ (j : Nat) (o : Oper), full[j]? = some o → ∀ i ∈ dpreds o, i < j) ∧
 (∀ j, acc.length ≤ j → j < full.length → ∀ i, acc.length ≤ i → i < j → ((clos [] full).getD j 0).testBit i = true) ∧
 (∀ i, i < acc.length → must.getD i false = true → ((clos [] full).getD acc.length 0).testBit i = true) ∧
 (∀ (i : Nat) (e : DE), acc[i]? = some e → must.getD i false = false → ∀ s ∈ slotsOf e.N, ∀ (j : Nat) (e' : DE), acc[j]? = some e' → e'.d = s → ((clos [] full).getD i 0).testBit j = true) ∧
 (∀ (i : Nat) (e : DE), acc[i]? = some e → T.contains e.d = false ∧ (must.getD i false = false → ∀ s ∈ slotsOf e.N, T.contains s = false)) ∧ acc.length < full.length := by
 unfold chkT at h
 simp only [Bool.and_eq_true, decide_eq_true_eq] at h
 obtain ⟨⟨⟨⟨⟨⟨h1, h2⟩, h3⟩, h4⟩, h5⟩, h6⟩, h7⟩ := h
 refine ⟨fun i e he => mem_zipIdx h1 he, fun j o ho i hi => ?_, fun j hj hjl i hi hij => ?_, fun i hi hm => ?_, fun i e he hm s hs j e' he' hd => ?_, fun i e he => ?_, h7⟩
 ·
  have := mem_zipIdx h2 ho;rw [List.all_eq_true] at this;simpa using this i hi
 ·
  rw [List.all_eq_true] at h3;have := h3 j (List.mem_range.2 hjl);simp only [Bool.or_eq_true, decide_eq_true_eq] at this;rcases this with h | h
  ·omega
  ·rw [List.all_eq_true] at h;have := h i (List.mem_range.2 hij);simp only [Bool.or_eq_true, decide_eq_true_eq] at this;rcases this with h | h
   ·omega
   ·exact h
 ·
  have := mem_zipIdx h4 (List.getElem?_eq_getElem hi);simp only [hm, Bool.not_true, Bool.false_or] at this;exact this
 ·
  have := mem_zipIdx h5 he;simp only [hm, Bool.false_or] at this;rw [List.all_eq_true] at this;have := mem_zipIdx (this s hs) he';simpa [hd] using this
 ·
  have := mem_zipIdx h6 he;simp only [Bool.and_eq_true, Bool.not_eq_true'] at this;refine ⟨this.1, fun hm s hs => ?_⟩;have h8 := this.2;simp only [hm, Bool.false_or] at h8;rw [List.all_eq_true] at h8;simpa using h8 s hs

theorem Fl.any : ∀ {acc : List DE} {must : List Bool} {i : Nat} {e : DE}, Fl Δ Δr acc must → acc[i]? = some e → e.b = true → e.r = .any
 | [], _, _, _, _, h, _ => by simp at h
 | x :: acc, must, 0, e, h, he, hb => by
  simp at he
  subst he
  rcases h.1 with h1 | h1
  ·
   exact h1.2 hb
  ·
   rw [h1.1] at hb; cases hb
 | x :: acc, must, i + 1, e, h, he, hb => Fl.any (acc := acc) (must := must.tail) (i := i) h.2 (by simpa using he) hb

/-- What stands ahead of an operation on some road stands ahead of it in the text. -/
theorem clos_lt (hlt : ∀ (j : Nat) (o : Oper), full[j]? = some o → ∀ i ∈ dpreds o, i < j) : ∀ (n m : Nat) (o : Oper), m ≤ n → full[m]? = some o → ∀ q, ((clos [] full).getD m 0).testBit q = true → q < m := by
 intro n
 induction n with
 | zero =>
  intro m o hm ho q hq;have : m = 0 := by omega
  subst this;obtain ⟨M', g1, g2, g3⟩ := clos_at (M := []) ho;simp only [List.length_nil, Nat.zero_add] at g3;rw [List.getD_eq_getElem?_getD, g3, Option.getD_some] at hq;obtain ⟨p, hp, _⟩ := closTo_spec hq;have := hlt 0 o ho p hp;omega
 | succ n ih =>
  intro m o hm ho q hq;obtain ⟨M', g1, g2, g3⟩ := clos_at (M := []) ho;simp only [List.length_nil, Nat.zero_add] at g1 g3;rw [List.getD_eq_getElem?_getD, g3, Option.getD_some] at hq;obtain ⟨p, hp, hq⟩ := closTo_spec hq;have hpm := hlt m o ho p hp;rcases hq with rfl | hq
  ·exact hpm
  ·have hml : m < full.length := by
    rcases Nat.lt_or_ge m full.length with h | h
    ·exact h
    ·simp [List.getElem?_eq_none h] at ho
   have := ih p _ (by omega) (List.getElem?_eq_getElem (by omega : p < full.length)) q (by
    rw [List.getD_eq_getElem?_getD] at hq ⊢;rw [g2 p (by omega)];exact hq)
   omega

/-- One that only reads comes up while the tail is at work. -/
theorem TI.float (hfull : full = acc.map (·.o) ++ l) (hDR : DRs c full.toArray Δ Γ0 acc) (hck : chkT full acc must T = true) (hfl : Fl Δ Δr acc must) {L : Array Bool} {a : Act} {w : VW} (h : TI c full Γ0 acc must T vs Δr k Γt Δt L a w) {i : Nat}
 (hi : i < acc.length) (hri : i ∈ Region.ready .any full.toArray L) : wkOp c.M c.rd full.toArray Q i (fun a' w' => TI c full Γ0 acc must T vs Δr k Γt Δt (L.setIfInBounds i true) a' w') a w := by
 obtain ⟨hc1, hlt, hc3, hc4, hc5, hc6, hc7⟩ := chkT_parts hck
 obtain ⟨e, he⟩ : ∃ e, acc[i]? = some e := ⟨_, List.getElem?_eq_getElem hi⟩
 obtain ⟨hDV, hHas⟩ := DRs.nth acc hDR he
 have hone := hc1 i e he
 simp only [chkOne] at hone
 have hother : ∀ (j : Nat) (e' : DE), acc[j]? = some e' → j ≠ i → e'.d ≠ e.d := fun j e' hj hne => by
  have := mem_zipIdx hone hj;simp only [Bool.or_eq_true, beq_iff_eq, hne, false_or, Bool.and_eq_true, bne_iff_ne, Bool.not_eq_true'] at this;exact this.1.1
 obtain ⟨oi, hoi, hli, hpi⟩ := (ready_iff h.size).1 hri
 have hoe : oi = e.o := by
  rw [hfull, List.getElem?_append_left (by simpa using hi)] at hoi;simp [he] at hoi;exact hoi.symm
 subst hoe
 have hiL : i < L.size := by rw [h.size, hfull]; simp; omega
 have hahead := ahead h.closed hlt i i e.o (Nat.le_refl _) hoi hpi
 have hmf : must.getD i false = false := by
  cases hm : must.getD i false with
  | false => rfl
  | true => have := h.must i hm hi; rw [hli] at this; cases this
 obtain ⟨f1, f2, f3⟩ := hfl.nth he hmf
 obtain ⟨S, h3, h4, h5, h6, h7⟩ := h.ex
 have hsetL : ∀ j, j ≠ i → lst (L.setIfInBounds i true) j = lst L j := fun j hj => by rw [lst_set hiL, if_neg (Ne.symm hj)]
 have hsetI : lst (L.setIfInBounds i true) i = true := by rw [lst_set hiL, if_pos rfl]
 have hrB : ∀ (j : Nat) (e' : DE), acc[j]? = some e' → lst L j = true → e'.b = false → e'.r.holds S w (a.tmps.getD e'.d undef) := fun j e' hj hl hb => by
  have := h7 j e' hj hl;simpa [rB, hb] using this
 have hneeds : Needs S w a e.N := Needs.of_slots hHas fun s r hs hl => by
  rcases lk_endT hl with ⟨j, e', hj, hd, hr⟩ | ⟨h8, h9⟩
  ·have hji : j < i := by
    rcases Nat.lt_or_ge j i with hh | hh
    ·exact hh
    ·rw [List.getElem?_eq_none (by simp; omega)] at hj; cases hj
   rw [List.getElem?_take_of_lt hji] at hj;have hlj := hahead j (hc5 i e he hmf s hs j e' hj hd);subst hr hd;cases hb : e'.b with
   | false => exact hrB j e' hj hlj hb
   | true =>
    rw [hfl.any hj hb];trivial
  ·refine h6 s r ?_ fun j e' hj hd => ?_
   ·rw [h.keep s ((hc6 i e he).2 hmf s hs)]; exact h8
   ·have hb := hc5 i e he hmf s hs j e' hj hd;have hji := clos_lt hlt i i _ (Nat.le_refl _) hoi j hb;exact h9 j e' (by rw [List.getElem?_take_of_lt hji]; exact hj) hd
 obtain ⟨rest, hp1, hk1⟩ : ∃ rest, (Δr ++ Δt).Perm (useD Δ e.u ++ rest) ∧ keepD Δ e.u = useD Δ e.u := by
  rcases f3 with hu | ⟨kk, d, hu, hkd, hd⟩
  ·rw [hu]; exact ⟨_, List.Perm.refl _, rfl⟩
  ·rw [hu];obtain ⟨q, hq⟩ := List.getElem?_of_mem (List.mem_append_left Δt hd);exact ⟨_, by simp only [useD, hkd]; exact perm_front q d hq, by simp [useD, keepD, hkd]⟩
 have hown := h5.perm hp1
 have hownU : OwnsC (useD Δ e.u) S w := hown.part
 have hgo := hDV.run S w a (fun a' w' => TI c full Γ0 acc must T vs Δr k Γt Δt (L.setIfInBounds i true) a' w') Q h3.dom hneeds hownU fun S' w' v hs hr ho hf => by
  have hdl : e.d < a.tmps.size := by rw [h.tmps]; exact hDV.lt
  have hput : ∀ s, (a.put (some e.d) v).tmps.getD s undef = if e.d = s then v else a.tmps.getD s undef := fun s => getD_put hdl;have hin : ∀ b, feet (useD Δ e.u) b → feet (Δr ++ Δt) b := fun b ⟨d, hd, hb⟩ => ⟨d, hp1.mem_iff.2 (List.mem_append.2 (.inl hd)), hb⟩;have hK : Keep S w w' := fun b hb => hs.keep b (h3.dom b hb) (h5.sees b hb) (fun hx => (h5.own b (hin b hx)).1 hb);rw [f2 v, List.append_nil, hk1] at ho;have hfr := hown.frame h3.dom hs ho (fun b hb => .inl hb);refine ⟨by simpa using h.size, fun j hj => by rw [hsetL j (by omega)]; exact h.tail j hj, fun j hj hjl => ?_, fun j o hj hlj kk hkk => ?_, h.defers, by simpa [Act.put] using h.tmps, h.keep, S', h3.trans hs fun b hb => h4 b (hin b hb), h4, hfr.perm hp1.symm, fun s r hl hno => ?_, fun j e' hj hlj => ?_⟩
  ·rw [lst_set hiL]; split
   ·rfl
   ·exact h.must j hj hjl
  ·rw [lst_set hiL];split
   ·rfl
   ·rw [lst_set hiL] at hlj;split at hlj
    ·rename_i hij;subst hij;have : o = e.o := by rw [hoi] at hj; cases hj; rfl
     subst this;exact hpi kk hkk
    ·exact h.closed j o hj hlj kk hkk
  ·rw [hput, if_neg (hno i e he)];exact A.mono hs.sub hK r (h6 s r hl hno)
  ·rw [hput];by_cases hji : j = i
   ·subst hji;have : e' = e := by rw [he] at hj; cases hj; rfl
    subst this;rw [if_pos rfl];simpa [rB, f1] using hr
   ·rw [if_neg (Ne.symm (hother j e' hj hji))];exact A.mono hs.sub hK _ (h7 j e' hj (by rw [hsetL j hji] at hlj; exact hlj))
 have hoi' : full.toArray[i]? = some e.o := by simpa using hoi
 unfold wkOp
 simp only [hoi']
 split
 ·
  rename_i hw;rw [if_pos hw] at hgo;exact hgo
 ·
  rename_i hw;rw [if_neg hw] at hgo;rw [hDV.dst];exact hgo

/-- The tail at work, l left. -/
def JT (c : Cx) (full : List Oper) (Q : Exit → Act → VW → Prop) (Γ0 : Ga) (Δ : List D) (acc : List DE) (must : List Bool) (T : List Nat) (vs : List Value) (Δr : List D) (k : Nat) (l : List Oper) (Γt : Ga) (Δt : List D) : Prop :=
 full = acc.map (·.o) ++ full.drop acc.length → full.drop (acc.length + k) = l → DRs c full.toArray Δ Γ0 acc → chkT full acc must T = true → Fl Δ Δr acc must → vs.length = acc.length →
  ∀ fuel L a w, TI c full Γ0 acc must T vs Δr k Γt Δt L a w → cnt L acc.length + l.length ≤ fuel → wkAny c.M c.rd .any full.toArray Q fuel L a w

theorem JT.nil (h : JN c (Q .normal) (GB acc vs ++ Γt) (Δr ++ Δt)) : JT c full Q Γ0 Δ acc must T vs Δr k [] Γt Δt := by
 intro hfull hdr hDR hck hfl hvs fuel;obtain ⟨hc1, hlt, hc3, hc4, hc5, hc6, hc7⟩ := chkT_parts hck;have hlen : full.length ≤ acc.length + k := by simpa using hdr
 have fin : ∀ L a w, TI c full Γ0 acc must T vs Δr k Γt Δt L a w → cnt L acc.length = 0 → Region.ready .any full.toArray L = [] ∧ Q .normal a w := by
  intro L a w hI h0;have hall := cnt_zero h0;constructor
  ·rw [List.eq_nil_iff_forall_not_mem];intro i hi;obtain ⟨o, h3, h4, _⟩ := (ready_iff hI.size).1 hi
   have hil : i < full.length := by
    rcases Nat.lt_or_ge i full.length with h | h
    ·exact h
    ·simp [List.getElem?_eq_none h] at h3
   rcases Nat.lt_or_ge i acc.length with h | h
   ·rw [hall i h] at h4; cases h4
   ·rw [hI.tail i h] at h4;simp at h4;omega
  ·obtain ⟨S, h3, h4, h5, h6, h7⟩ := hI.ex;refine h a w ⟨hI.defers, hI.tmps, S, h3, h4, h5, fun s r hl => ?_⟩;rcases lk_GB hvs hl with ⟨j, e, hj, hd, hr⟩ | ⟨h8, h9⟩
   ·have hjl : j < acc.length := by
     rcases Nat.lt_or_ge j acc.length with h | h
     ·exact h
     ·simp [List.getElem?_eq_none h] at hj
    subst hd hr;exact h7 j e hj (hall j hjl)
   ·exact h6 s r h9 h8
 induction fuel with
 | zero =>
  intro L a w hI hf;exact fin L a w hI (by omega)
 | succ n ih =>
  intro L a w hI hf;refine ⟨fun hr => ?_, fun i hi => ?_⟩
  ·by_cases h0 : cnt L acc.length = 0
   ·exact (fin L a w hI h0).2
   ·obtain ⟨j, hj1, hj2, hj3⟩ := cnt_pos h0;obtain ⟨oj, hoj⟩ : ∃ oj, full[j]? = some oj := ⟨_, List.getElem?_eq_getElem (by omega)⟩;have : j ∈ Region.ready .any full.toArray L := (ready_iff hI.size).2 ⟨oj, hoj, hj2, fun i hi => hj3 i (hlt j oj hoj i hi)⟩;rw [hr] at this;cases this
  ·obtain ⟨oi, hoi, hli, hpi⟩ := (ready_iff hI.size).1 hi
   have hil : i < full.length := by
    rcases Nat.lt_or_ge i full.length with h | h
    ·exact h
    ·simp [List.getElem?_eq_none h] at hoi
   have hia : i < acc.length := by
    rcases Nat.lt_or_ge i acc.length with h | h
    ·exact h
    ·rw [hI.tail i h] at hli;simp at hli;omega
   refine wkOp_mono (fun a' w' hI' => ih _ a' w' hI' ?_) (TI.float hfull hDR hck hfl hI hia hi);have hiL : i < L.size := by rw [hI.size]; exact hil
   have := cnt_set (L := L) (L' := L.setIfInBounds i true) (i := i) (fun j hj => by rw [lst_set hiL, if_neg (Ne.symm hj)]) hli (by rw [lst_set hiL, if_pos rfl]) hia;omega

/-- The slots that a tail's operation asks for have come up ahead of it. -/
def chkN (full : List Oper) (acc : List DE) (i : Nat) (N : List (Operand × A)) : Bool :=
 (slotsOf N).all fun s => acc.zipIdx.all fun (e', j) => e'.d != s || ((clos [] full).getD i 0).testBit j

section
variable {o : Oper} {N : List (Operand × A)} {Δu : List D} {X : Type} {R : X → A × List D} {r : A} {d : Nat}

theorem JT.core (hg : o.guard = none) (ht : OpT c.M o N Δu R) (hh : Has (GB acc vs ++ Γt) N) (hN : chkN full acc (acc.length + k) N = true)
 (G' : X → Ga) (hG : ∀ x (a : Act) (v : Value) (S' : FS) (w' : World), a.tmps.size = c.N → (R x).1.holds S' w' v → (∀ s r, lk Γt s = some r → (∀ (j : Nat) (e : DE), acc[j]? = some e → e.d ≠ s) → r.holds S' w' (a.tmps.getD s undef)) →
  (∀ s r, lk (G' x) s = some r → (∀ (j : Nat) (e : DE), acc[j]? = some e → e.d ≠ s) → r.holds S' w' ((a.put o.dst v).tmps.getD s undef)))
 (hK : ∀ x, (∀ s, T.contains s = false → lk Γt s = lk Γ0 s) → ∀ s, T.contains s = false → lk (G' x) s = lk Γ0 s)
 (hD : ∀ (a : Act) (v : Value) (e : DE), a.tmps.size = c.N → e ∈ acc → T.contains e.d = false → (a.put o.dst v).tmps.getD e.d undef = a.tmps.getD e.d undef)
 (h : ∀ x, JT c full Q Γ0 Δ acc must T vs Δr (k + 1) l (G' x) ((R x).2 ++ F)) : JT c full Q Γ0 Δ acc must T vs Δr k (o :: l) Γt (Δu ++ F) := by
 intro hfull hdr hDR hck hfl hvs fuel
 obtain ⟨hc1, hlt, hc3, hc4, hc5, hc6, hc7⟩ := chkT_parts hck
 have hjl : acc.length + k < full.length := by
  rcases Nat.lt_or_ge (acc.length + k) full.length with h | h
  ·exact h
  ·rw [List.drop_eq_nil_of_le h] at hdr; cases hdr
 have hdr0 := hdr
 rw [List.drop_eq_getElem_cons hjl] at hdr
 simp only [List.cons.injEq] at hdr
 obtain ⟨hd1, hd2⟩ := hdr
 have ho : full[acc.length + k]? = some o := by rw [List.getElem?_eq_getElem hjl, hd1]
 induction fuel with
 | zero =>
  intro L a w hI hf;simp only [List.length_cons] at hf;omega
 | succ n ih =>
  intro L a w hI hf;simp only [List.length_cons] at hf
  have hne : Region.ready .any full.toArray L ≠ [] := by
   by_cases h0 : cnt L acc.length = 0
   ·have hall := cnt_zero h0
    have hrj : acc.length + k ∈ Region.ready .any full.toArray L := (ready_iff hI.size).2 ⟨o, ho, by rw [hI.tail _ (by omega)]; simp, fun i hi => by
     have := hlt _ o ho i hi;rcases Nat.lt_or_ge i acc.length with h | h
     ·exact hall i h
     ·rw [hI.tail i h]; simpa using this⟩
    intro hr; rw [hr] at hrj; cases hrj
   ·obtain ⟨j, hj1, hj2, hj3⟩ := cnt_pos h0;obtain ⟨oj, hoj⟩ : ∃ oj, full[j]? = some oj := ⟨_, List.getElem?_eq_getElem (by omega)⟩;have : j ∈ Region.ready .any full.toArray L := (ready_iff hI.size).2 ⟨oj, hoj, hj2, fun i hi => hj3 i (hlt j oj hoj i hi)⟩;intro hr; rw [hr] at this; cases this
  refine ⟨fun hr => absurd hr hne, fun i hi => ?_⟩;obtain ⟨oi, hoi, hli, hpi⟩ := (ready_iff hI.size).1 hi
  have hil : i < full.length := by
   rcases Nat.lt_or_ge i full.length with h | h
   ·exact h
   ·simp [List.getElem?_eq_none h] at hoi
  have hiL : i < L.size := by rw [hI.size]; exact hil
  rcases Nat.lt_or_ge i acc.length with hia | hia
  ·refine wkOp_mono (fun a' w' hI' => ih _ a' w' hI' ?_) (TI.float hfull hDR hck hfl hI hia hi);have := cnt_set (L := L) (L' := L.setIfInBounds i true) (i := i) (fun j hj => by rw [lst_set hiL, if_neg (Ne.symm hj)]) hli (by rw [lst_set hiL, if_pos rfl]) hia;simp only [List.length_cons];omega
  ·have hle : acc.length + k ≤ i := by
    rw [hI.tail i hia] at hli;simpa using hli
   have hik : i = acc.length + k := by
    rcases Nat.lt_or_ge (acc.length + k) i with hh | hh
    ·exfalso;have := ahead hI.closed hlt i i oi (Nat.le_refl _) hoi hpi (acc.length + k) (hc3 i hia hil _ (by omega) hh);rw [hI.tail _ (by omega)] at this;simp at this
    ·omega
   subst hik;have hoe : oi = o := by rw [ho] at hoi; cases hoi; rfl
   subst hoe;have hahead := ahead hI.closed hlt _ _ oi (Nat.le_refl _) ho hpi;obtain ⟨S, h3, h4, h5, h6, h7⟩ := hI.ex
   have hneeds : Needs S w a N := Needs.of_slots hh fun s r hs hl => by
    rcases lk_GB hvs hl with ⟨j, e, hj, hd, hr⟩ | ⟨h8, h9⟩
    ·unfold chkN at hN;rw [List.all_eq_true] at hN;have := mem_zipIdx (hN s hs) hj;simp only [hd, bne_self_eq_false, Bool.false_or] at this;subst hd hr;exact h7 j e hj (hahead j this)
    ·exact h6 s r h9 h8
   have hp1 : (Δr ++ (Δu ++ F)).Perm (Δu ++ (Δr ++ F)) := by
    rw [← List.append_assoc, ← List.append_assoc];exact List.Perm.append_right _ List.perm_append_comm
   have hown := h5.perm hp1;have hownU : OwnsC Δu S w := hown.part
   have hgo : oi.wk c.M c.rd a w (fun a' w' => wkAny c.M c.rd .any full.toArray Q n (L.setIfInBounds (acc.length + k) true) a' w') Q := ht.run c.rd S w a _ Q h3.dom hneeds hownU fun x S' w' v hs hr ho' hf' => by
    have hin : ∀ b, feet Δu b → feet (Δr ++ (Δu ++ F)) b := fun b ⟨d, hd, hb⟩ => ⟨d, hp1.mem_iff.2 (List.mem_append.2 (.inl hd)), hb⟩;have hKp : Keep S w w' := fun b hb => hs.keep b (h3.dom b hb) (h5.sees b hb) (fun hx => (h5.own b (hin b hx)).1 hb);have hfr := hown.frame h3.dom hs ho' hf'
    have hp2 : ((R x).2 ++ (Δr ++ F)).Perm (Δr ++ ((R x).2 ++ F)) := by
     rw [← List.append_assoc, ← List.append_assoc];exact List.Perm.append_right _ List.perm_append_comm
    refine h x hfull (by rw [← hd2]; rfl) hDR hck hfl hvs n _ _ w' ⟨by simpa using hI.size, fun j hj => ?_, fun j hj hjl => ?_, fun j o' hj hlj kk hkk => ?_, (by cases oi.dst <;> simpa [Act.put] using hI.defers), by simpa [Act.put] using (by cases oi.dst <;> simpa [Act.put] using hI.tmps : (a.put oi.dst v).tmps.size = c.N), hK x hI.keep, S', h3.trans hs fun b hb => h4 b (hin b hb), fun b hb => ?_, hfr.perm hp2, hG x a v S' w' hI.tmps hr (fun s r hl hno => A.mono hs.sub hKp r (h6 s r hl hno)), fun j e hj hlj => ?_⟩ ?_
    ·rw [lst_set hiL];split
     ·rename_i hh; subst hh; simp
     ·rename_i hh;rw [hI.tail j hj];rw [decide_eq_decide];omega
    ·rw [lst_set hiL]; split
     ·rfl
     ·exact hI.must j hj hjl
    ·rw [lst_set hiL];split
     ·rfl
     ·rw [lst_set hiL] at hlj;split at hlj
      ·rename_i hij;subst hij;have : o' = oi := by rw [ho] at hj; cases hj; rfl
       subst this;exact hpi kk hkk
      ·exact hI.closed j o' hj hlj kk hkk
    ·rw [feet_perm hp2.symm] at hb;obtain ⟨d', hd', hbd⟩ := hb;rcases List.mem_append.1 hd' with hd' | hd'
     ·rcases hf' b ⟨d', hd', hbd⟩ with hh | hh
      ·exact h4 b (hin b hh)
      ·exact .inr (Nat.le_trans h3.size hh)
     ·exact h4 b ⟨d', hp1.mem_iff.2 (List.mem_append.2 (.inr hd')), hbd⟩
    ·rw [hD a v e hI.tmps (List.mem_of_getElem? hj) (hc6 j e hj).1];refine A.mono hs.sub hKp _ (h7 j e hj ?_)
     rw [lst_set hiL, if_neg (by
      intro hh
      have : j < acc.length := by
       rcases Nat.lt_or_ge j acc.length with h | h
       ·exact h
       ·simp [List.getElem?_eq_none h] at hj
      omega)] at hlj
     exact hlj
    ·have := cnt_same (L := L) (L' := L.setIfInBounds (acc.length + k) true) (i := acc.length + k) (fun j hj => by rw [lst_set hiL, if_neg (Ne.symm hj)]) (t := acc.length) (by omega);rw [this];omega
   have ho2 : full.toArray[acc.length + k]? = some oi := by simpa using ho
   unfold wkOp;simp only [ho2];rw [if_pos (wanted_none hg _)];exact hgo

/-- A tail's operation that yields nothing. -/
theorem JT.n (hg : o.guard = none) (hd : o.dst = none) (ht : OpT c.M o N Δu R) (hh : Has (GB acc vs ++ Γt) N) (hN : chkN full acc (acc.length + k) N = true)
 (h : ∀ x, JT c full Q Γ0 Δ acc must T vs Δr (k + 1) l Γt ((R x).2 ++ F)) : JT c full Q Γ0 Δ acc must T vs Δr k (o :: l) Γt (Δu ++ F) :=
 JT.core hg ht hh hN (fun _ => Γt) (fun x a v S' w' _ _ hs => by rw [hd]; exact hs) (fun _ h => h) (fun a v e _ _ _ => by rw [hd]; rfl) h

/-- A tail's operation that yields into slot d. -/
theorem JT.y (hg : o.guard = none) (hd : o.dst = some d) (hdN : Nat.blt d c.N = true) (hdT : T.contains d = true) (ht : OpT c.M o N Δu R) (hh : Has (GB acc vs ++ Γt) N) (hN : chkN full acc (acc.length + k) N = true)
 (h : ∀ x, JT c full Q Γ0 Δ acc must T vs Δr (k + 1) l ((d, (R x).1) :: Γt) ((R x).2 ++ F)) : JT c full Q Γ0 Δ acc must T vs Δr k (o :: l) Γt (Δu ++ F) := by
 have hlt : d < c.N := Nat.blt_eq ▸ hdN
 refine JT.core hg ht hh hN (fun x => (d, (R x).1) :: Γt) (fun x a v S' w' hsz hr hs s r hl hno => ?_) (fun x hk s hsT => ?_) (fun a v e hsz he hT => ?_) h
 ·
  rw [hd, getD_put (by omega)];simp only [lk] at hl;split at hl
  ·rename_i e; cases hl; rw [if_pos e]; exact hr
  ·rename_i e; rw [if_neg e]; exact hs s r hl hno
 ·
  simp only [lk];rw [if_neg (fun e => by subst e; rw [hdT] at hsT; cases hsT)];exact hk s hsT
 ·
  rw [hd, getD_put (by omega), if_neg (fun e' => by rw [e'] at hdT; rw [hdT] at hT; cases hT)]

/-- What is made by free operations is there. -/
def BH : List DE → List Value → Prop
 | e :: es, v :: vs => (∀ d ∈ e.E v, ∃ S w, d.holds S w) ∧ BH es vs
 | _, _ => True

theorem BH.of : ∀ {es : List DE} {vs : List Value}, (∀ d ∈ births es vs, ∃ S w, d.holds S w) → BH es vs
 | e :: es, v :: vs, h => ⟨fun d hd => h d (List.mem_append.2 (.inl hd)), BH.of fun d hd => h d (List.mem_append.2 (.inr hd))⟩
 | [], _, _ => by unfold BH; trivial
 | _ :: _, [], _ => by unfold BH; trivial

theorem DR.finT (must : List Bool) (T : List Nat) (Δr : List D) (hck : chkT full acc must T = true) (hfl : Fl Δ Δr acc must) (hm : c.P.follows .mixedOrders = true)
 (h : ∀ vs : List Value, vs.length = acc.length → BH acc vs → ∃ ks Δt, pickD (endD Δ acc vs) ks = some (Δr ++ Δt) ∧ ks.Nodup ∧ JT c full Q Γ0 Δ acc must T vs Δr 0 l Γ0 Δt) : DR c id full Q Γ0 Δ acc l Γ := by
 intro hfull hDR hΓ ops hren a w hst
 refine wk_region_ren hren hm fun v1 hv => ?_
 have hst' := hst.drew hv
 generalize (v1.upd { v1.toWorld with drawn := v1.drawn + 1 }) = w1 at hst' ⊢
 have hck0 : chk0 full acc = true := by
  unfold chkT at hck;simp only [Bool.and_eq_true] at hck;exact Bool.and_eq_true_iff.2 ⟨hck.1.1.1.1.1.1, hck.1.1.1.1.1.2⟩
 obtain ⟨hc1, hlt, hc3, hc4, hc5, hc6, hc7⟩ := chkT_parts hck
 have hdrop : full.drop acc.length = l := by
  rw [hfull, List.drop_append_of_le_length (by simp), List.drop_eq_nil_of_le (by simp), List.nil_append]
 have hlen : full.length = acc.length + l.length := by rw [hfull]; simp
 have conv : ∀ L a w, Inv c full Γ0 Δ acc L a w → (∀ j, must.getD j false = true → j < acc.length → lst L j = true) → ∀ fuel, cnt L acc.length + l.length ≤ fuel → wkAny c.M c.rd .any full.toArray Q fuel L a w := by
  intro L a w hI hmu fuel hf;obtain ⟨S, h3, h4, h5, h6, h7⟩ := hI.ex
  have hund : ∀ (j : Nat) (e : DE), acc[j]? = some e → lst L j = false → (∀ v, e.E v = []) ∧ ∀ k, eats e k = false := fun j e he hl => by
   have hjl : j < acc.length := by
    rcases Nat.lt_or_ge j acc.length with h | h
    ·exact h
    ·simp [List.getElem?_eq_none h] at he
   have hmf : must.getD j false = false := by
    cases hm : must.getD j false with
    | false => rfl
    | true => have := hmu j hm hjl; rw [hl] at this; cases this
   obtain ⟨f1, f2, f3⟩ := hfl.nth he hmf;refine ⟨f2, fun k => ?_⟩;rcases f3 with hu | ⟨kk, d, hu, _⟩ <;> simp [eats, hu]
  have hD : endD Δ acc (acc.map fun e => a.tmps.getD e.d undef) = atD Δ acc L a := by
   unfold endD atD
   have e1 : ∀ (es : List DE) (m : Nat), (∀ (j : Nat) (e : DE), es[j]? = some e → lst L (m + j) = false → ∀ v, e.E v = []) → births es (es.map fun e => a.tmps.getD e.d undef) = blist L a m es := by
    intro es
    induction es with
    | nil => intro m _; rfl
    | cons x es ih =>
     intro m hh;simp only [List.map_cons, births, blist];rw [ih (m + 1) fun j e he hl => hh (j + 1) e (by simpa using he) (by rw [← hl]; congr 1; omega)];cases hl : lst L m with
     | true => rfl
     | false => rw [hh 0 x rfl (by simpa using hl)]; rfl
   have e2 : ∀ (k : Nat) (es : List DE) (m : Nat), (∀ (j : Nat) (e : DE), es[j]? = some e → lst L (m + j) = false → eats e k = false) → upTo L k m es = usedUp es k := by
    intro k es
    induction es with
    | nil => intro m _; rfl
    | cons x es ih =>
     intro m hh;simp only [upTo, usedUp, List.any_cons];rw [ih (m + 1) fun j e he hl => hh (j + 1) e (by simpa using he) (by rw [← hl]; congr 1; omega)];cases hl : lst L m with
     | true => rfl
     | false => rw [hh 0 x rfl (by simpa using hl)]; rfl
   rw [e1 acc 0 fun j e he hl => (hund j e he (by simpa using hl)).1];congr 1
   have : ∀ (l : List D) (k : Nat), endD.keepFrom acc k l = keepP (fun k => !upTo L k 0 acc) k l := by
    intro l
    induction l with
    | nil => intro k; rfl
    | cons x l ih =>
     intro k;simp only [endD.keepFrom, keepP, e2 k acc 0 (fun j e he hl => (hund j e he (by simpa using hl)).2 k), ih];cases usedUp acc k <;> rfl
   exact this Δ 0
  have hBH : BH acc (acc.map fun e => a.tmps.getD e.d undef) := BH.of fun d hd => ⟨S, w, h5.holds d (by rw [← hD]; exact List.mem_append.2 (.inr hd))⟩;obtain ⟨ks, Δt, hk, hn, hj⟩ := h (acc.map fun e => a.tmps.getD e.d undef) (by simp) hBH;refine hj (by rw [hdrop]; exact hfull) (by simpa using hdrop) hDR hck hfl (by simp) fuel L a w ?_ hf;rw [hD] at hk
  have hm' : ∀ d ∈ Δr ++ Δt, d ∈ atD Δ acc L a := fun d hd => by
   obtain ⟨k, _, h⟩ := mem_of_pickD hk d hd;exact List.mem_of_getElem? h
  refine ⟨hI.size, fun j hj => by rw [hI.past j hj]; simp; omega, hmu, hI.closed, hI.defers, hI.tmps, fun _ _ => rfl, S, h3, fun b ⟨d, hd, e⟩ => h4 b ⟨d, hm' d hd, e⟩,
   h5.re ⟨fun d hd => h5.holds d (hm' d hd), fun b ⟨d, hd, e⟩ => h5.own b ⟨d, hm' d hd, e⟩, pickD_pairwise (fun _ _ h b e e' => h b e' e) h5.apart hn hk⟩ (fun b ⟨d, hd, e⟩ => ⟨d, hm' d hd, e⟩) (fun _ h => .inl h),
   fun s r hl hno => h6 s r hl fun j e hj _ => hno j e hj, fun j e hj hlj => ?_⟩
  have := h7 j e hj hlj;unfold rB;split
  ·have hv : (acc.map fun e => a.tmps.getD e.d undef).getD j undef = a.tmps.getD e.d undef := by
    rw [List.getD_eq_getElem?_getD, List.getElem?_map, hj]; rfl
   rw [hv];exact rfl
  ·exact this
 have key : ∀ fuel L a w, Inv c full Γ0 Δ acc L a w → cnt L acc.length + l.length ≤ fuel → wkAny c.M c.rd .any full.toArray Q fuel L a w := by
  intro fuel
  induction fuel with
  | zero =>
   intro L a w hI hf;exact conv L a w hI (fun j _ hj => cnt_zero (by omega) j hj) 0 hf
  | succ n ih =>
   intro L a w hI hf;by_cases hmu : ∀ j, must.getD j false = true → j < acc.length → lst L j = true
   ·exact conv L a w hI hmu (n + 1) hf
   ·have h0 : cnt L acc.length ≠ 0 := fun h0 => hmu fun j _ hj => cnt_zero h0 j hj;obtain ⟨j, hj1, hj2, hj3⟩ := cnt_pos h0;obtain ⟨oj, hoj⟩ : ∃ oj, full[j]? = some oj := ⟨_, List.getElem?_eq_getElem (by omega)⟩;have hrj : j ∈ Region.ready .any full.toArray L := (ready_iff hI.size).2 ⟨oj, hoj, hj2, fun i hi => hj3 i (hlt j oj hoj i hi)⟩;refine ⟨fun hh => (by rw [hh] at hrj; cases hrj), fun i hi => ?_⟩;obtain ⟨oi, hoi, hli, hpi⟩ := (ready_iff hI.size).1 hi
    have hil : i < full.length := by
     rcases Nat.lt_or_ge i full.length with h | h
     ·exact h
     ·simp [List.getElem?_eq_none h] at hoi
    have hahead := ahead hI.closed hlt i i oi (Nat.le_refl _) hoi hpi
    have hit : i < acc.length := by
     rcases Nat.lt_or_ge i acc.length with h | h
     ·exact h
     ·exfalso;by_cases hip : i = acc.length
      ·exact hmu fun j hm hj => hahead j (by rw [hip]; exact hc4 j hj hm)
      ·have := hahead acc.length (hc3 i h hil _ (Nat.le_refl _) (by omega));rw [hI.past _ (Nat.le_refl _)] at this;cases this
    refine wkOp_mono (fun a' w' hI' => ih _ a' w' hI' ?_) (Inv.step hfull hDR hck0 hI hit hi);have hiL : i < L.size := by rw [hI.size]; exact hil
    have := cnt_set (L := L) (L' := L.setIfInBounds i true) (i := i) (fun j hj => by rw [lst_set hiL, if_neg (Ne.symm hj)]) hli (by rw [lst_set hiL, if_pos rfl]) hit;omega
 refine key full.toArray.size _ a w1 (Inv.start hst') ?_
 have : ∀ t, cnt (Array.replicate full.toArray.size false) t ≤ t := by
  intro t
  induction t with
  | zero => exact Nat.le_refl _
  | succ t ih => simp only [cnt]; split <;> omega
 have := this acc.length
 simp only [List.size_toArray] at this ⊢
 omega
end
end
end K
end Go.Proofs.Ytopgphikdglphaa
