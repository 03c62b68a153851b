/- The calculus, part 10: that any order of such a region comes to the same. -/
import Derived.Test.YtfhdclhbdmhnmaaCore9
namespace Go.Proofs.Ytfhdclhbdmhnmaa
namespace K
open Go

section
variable {L L' : Array Bool} {a a' : Act} {i : Nat} {e : DE} {v : Value}

theorem blist_past (hL : ∀ j, j ≠ i → lst L' j = lst L j) : ∀ {es : List DE} {m : Nat}, i < m → (∀ (j : Nat) (e' : DE), es[j]? = some e' → a'.tmps.getD e'.d undef = a.tmps.getD e'.d undef) → blist L' a' m es = blist L a m es
  | [], _, _, _ => rfl
  | x :: es, m, hm, hs => by
    simp only [blist, hL m (by omega), hs 0 x rfl]
    rw [blist_past hL (by omega) (fun j e' h => hs (j + 1) e' (by simpa using h))]

theorem blist_at (hL : ∀ j, j ≠ i → lst L' j = lst L j) (hi : lst L i = false) (hi' : lst L' i = true) (hv : a'.tmps.getD e.d undef = v) :
    ∀ {es : List DE} {m k : Nat}, m + k = i → es[k]? = some e → (∀ (j : Nat) (e' : DE), es[j]? = some e' → m + j ≠ i → a'.tmps.getD e'.d undef = a.tmps.getD e'.d undef) → (blist L' a' m es).Perm (e.E v ++ blist L a m es)
  | [], _, _, _, h, _ => by simp at h
  | x :: es, m, 0, hm, h, hs => by
    simp at h hm
    subst h hm
    simp only [blist, hi, hi', if_true, Bool.false_eq_true, if_false, List.nil_append, hv]
    rw [blist_past hL (by omega) (fun j e' h => hs (j + 1) e' (by simpa using h) (by omega))]
  | x :: es, m, k + 1, hm, h, hs => by
    have ih := blist_at hL hi hi' hv (es := es) (m := m + 1) (k := k) (by omega) (by simpa using h) (fun j e' h hj => hs (j + 1) e' (by simpa using h) (by omega))
    simp only [blist, hL m (by omega), hs 0 x rfl (by omega)]
    refine (List.Perm.append_left _ ih).trans ?_
    rw [← List.append_assoc, ← List.append_assoc]
    exact List.Perm.append_right _ List.perm_append_comm

theorem upTo_past (hL : ∀ j, j ≠ i → lst L' j = lst L j) {k : Nat} : ∀ {es : List DE} {m : Nat}, i < m → upTo L' k m es = upTo L k m es
  | [], _, _ => rfl
  | x :: es, m, hm => by simp only [upTo, hL m (by omega), upTo_past hL (es := es) (m := m + 1) (by omega)]

theorem upTo_at (hL : ∀ j, j ≠ i → lst L' j = lst L j) (hi : lst L i = false) (hi' : lst L' i = true) {k : Nat} : ∀ {es : List DE} {m q : Nat}, m + q = i → es[q]? = some e → upTo L' k m es = (upTo L k m es || eats e k)
  | [], _, _, _, h => by simp at h
  | x :: es, m, 0, hm, h => by
    simp at h hm
    subst h hm
    simp only [upTo, hi, hi', Bool.true_and, Bool.false_and, Bool.false_or, upTo_past hL (es := es) (m := m + 1) (by omega)]
    rw [Bool.or_comm]
  | x :: es, m, q + 1, hm, h => by
    simp only [upTo, hL m (by omega), upTo_at hL hi hi' (k := k) (es := es) (m := m + 1) (q := q) (by omega) (by simpa using h), Bool.or_assoc]

theorem upTo_false {k : Nat} : ∀ {es : List DE} {m : Nat}, (∀ (j : Nat) (e' : DE), es[j]? = some e' → lst L (m + j) = true → eats e' k = false) → upTo L k m es = false
  | [], _, _ => rfl
  | x :: es, m, h => by
    simp only [upTo]
    rw [upTo_false (es := es) (m := m + 1) (fun j e' he hl => h (j + 1) e' (by simpa using he) (by rw [← hl]; congr 1; omega))]
    have h0 := h 0 x rfl
    cases hl : lst L m with
    | false => rfl
    | true =>
      rw [h0 (by simpa using hl)]
      rfl

theorem lst_set {L : Array Bool} {i j : Nat} (hi : i < L.size) : lst (L.setIfInBounds i true) j = if i = j then true else lst L j := by
  simp only [lst, Array.getD_eq_getD_getElem?, Array.getElem?_setIfInBounds]
  split
  · rename_i h; subst h; first | rfl | simp [hi]
  · rfl

/-- How many of the first t are still to come. -/
def cnt (L : Array Bool) : Nat → Nat
  | 0 => 0
  | t + 1 => cnt L t + if lst L t then 0 else 1

theorem cnt_same (hL : ∀ j, j ≠ i → lst L' j = lst L j) : ∀ {t : Nat}, t ≤ i → cnt L' t = cnt L t
  | 0, _ => rfl
  | t + 1, h => by simp only [cnt, hL t (by omega), cnt_same hL (t := t) (by omega)]

theorem cnt_set (hL : ∀ j, j ≠ i → lst L' j = lst L j) (hi : lst L i = false) (hi' : lst L' i = true) : ∀ {t : Nat}, i < t → cnt L' t + 1 = cnt L t
  | 0, h => by omega
  | t + 1, h => by
    simp only [cnt]
    rcases Nat.lt_or_ge i t with hlt | hge
    · have := cnt_set hL hi hi' (t := t) hlt
      rw [hL t (by omega)]
      omega
    · have e : i = t := by omega
      subst e
      rw [cnt_same hL (Nat.le_refl _), hi, hi']
      simp

theorem cnt_zero : ∀ {t : Nat}, cnt L t = 0 → ∀ j, j < t → lst L j = true
  | 0, _, _, h => by omega
  | t + 1, h0, j, h => by
    simp only [cnt] at h0
    rcases Nat.lt_or_ge j t with hlt | hge
    · exact cnt_zero (t := t) (by omega) j hlt
    · have e : j = t := by omega
      subst e
      cases hl : lst L j with
      | true => rfl
      | false => rw [hl] at h0; simp at h0

theorem cnt_pos : ∀ {t : Nat}, cnt L t ≠ 0 → ∃ j, j < t ∧ lst L j = false ∧ ∀ k, k < j → lst L k = true
  | 0, h => absurd rfl h
  | t + 1, h => by
    by_cases h0 : cnt L t = 0
    · refine ⟨t, by omega, ?_, fun k hk => cnt_zero h0 k hk⟩
      cases hl : lst L t with
      | false => rfl
      | true => simp [cnt, h0, hl] at h
    · obtain ⟨j, h1, h2, h3⟩ := cnt_pos h0
      exact ⟨j, by omega, h2, h3⟩
end

/-! ### Who stands ahead of whom -/

theorem closTo_spec {M : List Nat} {k : Nat} : ∀ {js : List Nat}, (closTo M js).testBit k = true → ∃ j ∈ js, k = j ∨ (M.getD j 0).testBit k = true
  | [], h => by simp [closTo] at h
  | j :: js, h => by
    simp only [closTo, Nat.testBit_or, Bool.or_eq_true] at h
    rcases h with (h | h) | h
    · refine ⟨j, List.mem_cons_self .., .inl ?_⟩
      rw [Nat.one_shiftLeft, Nat.testBit_two_pow] at h
      exact (by simpa using h : j = k).symm
    · exact ⟨j, List.mem_cons_self .., .inr h⟩
    · obtain ⟨j', h1, h2⟩ := closTo_spec h
      exact ⟨j', List.mem_cons_of_mem _ h1, h2⟩

theorem clos_prefix : ∀ {l : List Oper} {M : List Nat} {j : Nat}, j < M.length → (clos M l)[j]? = M[j]?
  | [], _, _, _ => rfl
  | o :: l, M, j, h => by
    rw [clos, clos_prefix (by simp; omega), List.getElem?_append_left h]

theorem clos_at : ∀ {l : List Oper} {M : List Nat} {q : Nat} {o : Oper}, l[q]? = some o → ∃ M', M'.length = M.length + q ∧ (∀ j, j < M'.length → (clos M l)[j]? = M'[j]?) ∧ (clos M l)[M.length + q]? = some (closTo M' (dpreds o))
  | [], _, _, _, h => by simp at h
  | o :: l, M, 0, o', h => by
    simp at h
    subst h
    refine ⟨M, rfl, fun j hj => clos_prefix hj, ?_⟩
    rw [clos, Nat.add_zero, clos_prefix (by simp)]
    simp
  | x :: l, M, q + 1, o, h => by
    obtain ⟨M', h1, h2, h3⟩ := clos_at (l := l) (M := M ++ [closTo M (dpreds x)]) (q := q) (by simpa using h)
    refine ⟨M', by rw [h1]; simp; omega, h2, ?_⟩
    rw [clos, ← h3]
    congr 1
    simp
    omega

/-- What stands ahead of an operation has come up, where what stands right ahead of it has. -/
theorem ahead {full : List Oper} {L : Array Bool} (hcl : ∀ j o, full[j]? = some o → lst L j = true → ∀ i ∈ dpreds o, lst L i = true) (hlt : ∀ j o, full[j]? = some o → ∀ i ∈ dpreds o, i < j) :
    ∀ (n j : Nat) (o : Oper), j ≤ n → full[j]? = some o → (∀ i ∈ dpreds o, lst L i = true) → ∀ k, ((clos [] full).getD j 0).testBit k = true → lst L k = true := by
  intro n
  induction n with
  | zero =>
    intro j o hj ho hp k hk
    have : j = 0 := by omega
    subst this
    obtain ⟨M', h1, h2, h3⟩ := clos_at (M := []) ho
    simp only [List.length_nil, Nat.zero_add] at h3
    rw [List.getD_eq_getElem?_getD, h3, Option.getD_some] at hk
    obtain ⟨i, hi, _⟩ := closTo_spec hk
    have := hlt 0 o ho i hi
    omega
  | succ n ih =>
    intro j o hj ho hp k hk
    obtain ⟨M', h1, h2, h3⟩ := clos_at (M := []) ho
    simp only [List.length_nil, Nat.zero_add] at h1 h3
    rw [List.getD_eq_getElem?_getD, h3, Option.getD_some] at hk
    obtain ⟨i, hi, hk⟩ := closTo_spec hk
    rcases hk with rfl | hk
    · exact hp k hi
    · have hij := hlt j o ho i hi
      have hjl : j < full.length := by
        rcases Nat.lt_or_ge j full.length with h | h
        · exact h
        · simp [List.getElem?_eq_none h] at ho
      obtain ⟨oi, hoi⟩ : ∃ oi, full[i]? = some oi := ⟨_, List.getElem?_eq_getElem (by omega)⟩
      refine ih i oi (by omega) hoi (hcl i oi hoi (hp i hi)) k ?_
      rw [List.getD_eq_getElem?_getD] at hk ⊢
      rw [h2 i (by omega)]
      exact hk

theorem lst_size {L : Array Bool} {j : Nat} (h : lst L j = true) : j < L.size := by
  rcases Nat.lt_or_ge j L.size with h' | h'
  · exact h'
  · simp [lst, Array.getD_eq_getD_getElem?, Array.getElem?_eq_none h'] at h

theorem ready_iff {full : List Oper} {L : Array Bool} (hs : L.size = full.length) {i : Nat} : i ∈ Region.ready .any full.toArray L ↔ ∃ o, full[i]? = some o ∧ lst L i = false ∧ ∀ j ∈ dpreds o, lst L j = true := by
  rw [mem_ready]
  constructor
  · rintro ⟨h1, o, h2, h3⟩
    have h2' : full[i]? = some o := by simpa using h2
    have hi : i < L.size := by
      rw [hs]
      rcases Nat.lt_or_ge i full.length with h | h
      · exact h
      · simp [List.getElem?_eq_none h] at h2'
    refine ⟨o, h2', ?_, fun j hj => ?_⟩
    · simp only [lst, Array.getD_eq_getD_getElem?, Array.getElem?_eq_getElem hi, Option.getD_some] at h1 ⊢
      exact h1
    · simp only [dpreds, List.mem_map, List.mem_filter, Array.mem_toList_iff] at hj
      obtain ⟨ed, ⟨h4, h5⟩, rfl⟩ := hj
      exact h3 ed h4 h5
  · rintro ⟨o, h1, h2, h3⟩
    have hi : i < L.size := by
      rw [hs]
      rcases Nat.lt_or_ge i full.length with h | h
      · exact h
      · simp [List.getElem?_eq_none h] at h1
    refine ⟨?_, o, by simpa using h1, fun ed h4 h5 => h3 ed.on ?_⟩
    · simp only [lst, Array.getD_eq_getD_getElem?, Array.getElem?_eq_getElem hi, Option.getD_some] at h2 ⊢
      exact h2
    · simp only [dpreds, List.mem_map, List.mem_filter, Array.mem_toList_iff]
      exact ⟨ed, ⟨h4, h5⟩, rfl⟩

theorem mem_zipIdx {α : Type} {l : List α} {p : α × Nat → Bool} (h : l.zipIdx.all p = true) {i : Nat} {x : α} (hx : l[i]? = some x) : p (x, i) = true := by
  rw [List.all_eq_true] at h
  exact h (x, i) (List.mem_zipIdx_iff_getElem?.2 hx)

section
variable {c : Cx} {full : List Oper} {Q : Exit → Act → World → Prop} {Γ0 Γ : Ga} {Δ : List D} {acc : List DE} {l : List Oper} {id : Nat}

/-- The tail, in its order. -/
theorem tail_any {F : Fence} {n : Nat} {P : Program} (hlt : ∀ j o, full[j]? = some o → ∀ i ∈ dpreds o, i < j) : ∀ (l : List Oper) (j : Nat), full.drop j = l → (∀ m, j ≤ m → m < full.length → ∀ i, i < m → ((clos [] full).getD m 0).testBit i = true) →
    ∀ (L : Array Bool), L.size = full.length → (∀ i, i < j → i < full.length → lst L i = true) → (∀ i, j ≤ i → lst L i = false) → ∀ (a : Act) (w : World), wpListIn F n P full.toArray Q l a w → ∀ fuel, l.length ≤ fuel → wpAnyIn F n P .any full.toArray Q fuel L a w := by
  intro l
  induction l with
  | nil =>
    intro j hd _ L hs h1 h2 a w hw fuel _
    have hr : Region.ready .any full.toArray L = [] := by
      rw [List.eq_nil_iff_forall_not_mem]
      intro i hi
      obtain ⟨o, h3, h4, _⟩ := (ready_iff hs).1 hi
      have hlen : i < full.length := by
        rcases Nat.lt_or_ge i full.length with h | h
        · exact h
        · simp [List.getElem?_eq_none h] at h3
      have hj : full.length ≤ j := by simpa using hd
      rw [h1 i (by omega) hlen] at h4
      cases h4
    cases fuel with
    | zero => exact ⟨hr, hw⟩
    | succ n => exact ⟨fun _ => hw, by rw [hr]; simp⟩
  | cons o l ih =>
    intro j hd hf L hs h1 h2 a w hw fuel hfuel
    have hjl : j < full.length := by
      rcases Nat.lt_or_ge j full.length with h | h
      · exact h
      · rw [List.drop_eq_nil_of_le h] at hd; cases hd
    rw [List.drop_eq_getElem_cons hjl] at hd
    simp only [List.cons.injEq] at hd
    obtain ⟨hd1, hd2⟩ := hd
    have ho : full[j]? = some o := by rw [List.getElem?_eq_getElem hjl, hd1]
    have hcl : ∀ j o, full[j]? = some o → lst L j = true → ∀ i ∈ dpreds o, lst L i = true := fun j' o' h3 h4 i hi => by
      have h5 := hlt j' o' h3 i hi
      have h6 : j' < j := by
        rcases Nat.lt_or_ge j' j with h | h
        · exact h
        · rw [h2 j' h] at h4; cases h4
      exact h1 i (by omega) (by omega)
    have hrj : j ∈ Region.ready .any full.toArray L := (ready_iff hs).2 ⟨o, ho, h2 j (Nat.le_refl _), fun i hi => h1 i (hlt j o ho i hi) (by have := hlt j o ho i hi; omega)⟩
    obtain ⟨m, rfl⟩ : ∃ m, fuel = m + 1 := ⟨fuel - 1, by simp only [List.length_cons] at hfuel; omega⟩
    refine ⟨fun h0 => (by rw [h0] at hrj; cases hrj), fun i hi => ?_⟩
    obtain ⟨oi, h3, h4, h5⟩ := (ready_iff hs).1 hi
    have hij : i = j := by
      have hil : i < full.length := by
        rcases Nat.lt_or_ge i full.length with h | h
        · exact h
        · simp [List.getElem?_eq_none h] at h3
      rcases Nat.lt_trichotomy i j with h | h | h
      · rw [h1 i h hil] at h4; cases h4
      · exact h
      · have := ahead hcl hlt i i oi (Nat.le_refl _) h3 h5 j (hf i (by omega) hil j h)
        rw [h2 j (Nat.le_refl _)] at this
        cases this
    subst hij
    have ho' : full.toArray[i]? = some o := by simpa using ho
    unfold wpOpIn
    simp only [ho']
    have hnext : ∀ a' w', wpListIn F n P full.toArray Q l a' w' → wpAnyIn F n P .any full.toArray Q m (L.setIfInBounds i true) a' w' := fun a' w' h => by
      have hsz : i < L.size := by omega
      refine ih (i + 1) hd2 (fun m hm => hf m (by omega)) _ (by simpa using hs) (fun k hk hk2 => ?_) (fun k hk => ?_) a' w' h m (by simp only [List.length_cons] at hfuel; omega)
      · rw [lst_set hsz]
        split
        · rfl
        · exact h1 k (by omega) hk2
      · rw [lst_set hsz, if_neg (by omega)]
        exact h2 k (by omega)
    unfold wpListIn at hw
    split
    · rename_i hwt
      rw [if_pos hwt] at hw
      exact Oper.wpIn_mono hnext hw
    · rename_i hwt
      rw [if_neg hwt] at hw
      exact ⟨hw.1, hnext _ _ hw.2⟩

/-- What holds when some of the first operations have come up. -/
structure Inv (c : Cx) (full : List Oper) (Γ0 : Ga) (Δ : List D) (acc : List DE) (L : Array Bool) (a : Act) (w : World) : Prop where
  size : L.size = full.length
  past : ∀ j, acc.length ≤ j → lst L j = false
  closed : ∀ j o, full[j]? = some o → lst L j = true → ∀ i ∈ dpreds o, lst L i = true
  defers : a.defers = c.dfs
  tmps : a.tmps.size = c.N
  ex : ∃ S : FS, Step c.X c.S0 c.w0 S w ∧ (∀ b, feet (atD Δ acc L a) b → c.X b ∨ c.w0.heap.size ≤ b) ∧ Owns (atD Δ acc L a) S w ∧
    (∀ s r, lk Γ0 s = some r → (∀ j (e : DE), acc[j]? = some e → lst L j = true → e.d ≠ s) → r.holds S w (a.tmps.getD s undef)) ∧
    (∀ j (e : DE), acc[j]? = some e → lst L j = true → e.r.holds S w (a.tmps.getD e.d undef))

theorem DRs.nth {ops : Array Oper} (acc : List DE) : ∀ {Γ0 : Ga} {i : Nat} {e : DE}, DRs c ops Δ Γ0 acc → acc[i]? = some e → DV c ops Δ e ∧ Has (endT Γ0 (acc.take i)) e.N := by
  induction acc with
  | nil => intro Γ0 i e _ h; simp at h
  | cons x acc ih =>
    rintro Γ0 i e ⟨h1, h2, h3⟩ h
    cases i with
    | zero => simp at h; subst h; exact ⟨h1, h2⟩
    | succ i => exact ih h3 (by simpa using h)

theorem lk_endT {s : Nat} {r : A} : ∀ {acc : List DE} {Γ0 : Ga}, lk (endT Γ0 acc) s = some r → (∃ (j : Nat) (e : DE), acc[j]? = some e ∧ e.d = s ∧ e.r = r) ∨ (lk Γ0 s = some r ∧ ∀ (j : Nat) (e : DE), acc[j]? = some e → e.d ≠ s)
  | [], Γ0, h => .inr ⟨h, fun j e h => by simp at h⟩
  | x :: acc, Γ0, h => by
    rcases lk_endT (acc := acc) h with ⟨j, e, h1, h2⟩ | ⟨h1, h2⟩
    · exact .inl ⟨j + 1, e, by simpa using h1, h2⟩
    · simp only [lk] at h1
      split at h1
      · rename_i e; cases h1; exact .inl ⟨0, x, rfl, e, rfl⟩
      · rename_i e
        refine .inr ⟨h1, fun j e' h3 => ?_⟩
        cases j with
        | zero => simp at h3; subst h3; exact e
        | succ j => exact h2 j e' (by simpa using h3)

theorem Needs.of_slots {S : FS} {w : World} {a : Act} {Γ : Ga} : ∀ {N : List (Operand × A)}, Has Γ N → (∀ s r, s ∈ slotsOf N → lk Γ s = some r → r.holds S w (a.tmps.getD s undef)) → Needs S w a N
  | [], _, _ => trivial
  | (.tmp t, r) :: l, hh, h => ⟨h t r (by simp [slotsOf]) hh.1, Needs.of_slots hh.2 fun s r hs hl => h s r (by simp [slotsOf, hs]) hl⟩
  | (.const v, r) :: l, hh, h => ⟨by rw [hh.1]; rfl, Needs.of_slots hh.2 fun s r hs hl => h s r (by simpa [slotsOf] using hs) hl⟩
  | (.func f, r) :: l, hh, h => ⟨by rw [hh.1]; rfl, Needs.of_slots hh.2 fun s r hs hl => h s r (by simpa [slotsOf] using hs) hl⟩
  | (.global _, _) :: _, hh, _ => hh.elim

/-- The resources, the one that the operation uses first. -/
theorem atD_split {L : Array Bool} {a : Act} {u : Option (Nat × Bool)} (hu : ∀ k x, u = some (k, x) → upTo L k 0 acc = false) : ∃ rest, (atD Δ acc L a).Perm (useD Δ u ++ rest) ∧
    ∀ L' a', (∀ k, upTo L' k 0 acc = (upTo L k 0 acc || (match u with | some (k', true) => k' == k | _ => false))) → ∀ B, (blist L' a' 0 acc).Perm (B ++ blist L a 0 acc) → (atD Δ acc L' a').Perm ((keepD Δ u ++ B) ++ rest) := by
  have same : ∀ L', (∀ k, upTo L' k 0 acc = upTo L k 0 acc) → keepP (fun k => !upTo L' k 0 acc) 0 Δ = keepP (fun k => !upTo L k 0 acc) 0 Δ := fun L' h => keepP_congr fun j => by rw [h]
  have plain : ∀ {u : Option (Nat × Bool)}, useD Δ u = [] → keepD Δ u = [] → (∀ k, k < Δ.length → (match u with | some (k', true) => k' == k | _ => false) = false) →
      ∃ rest, (atD Δ acc L a).Perm (useD Δ u ++ rest) ∧ ∀ L' a', (∀ k, upTo L' k 0 acc = (upTo L k 0 acc || (match u with | some (k', true) => k' == k | _ => false))) → ∀ B, (blist L' a' 0 acc).Perm (B ++ blist L a 0 acc) → (atD Δ acc L' a').Perm ((keepD Δ u ++ B) ++ rest) := by
    intro u h1 h2 h3
    refine ⟨atD Δ acc L a, by rw [h1]; exact List.Perm.refl _, fun L' a' hL B hB => ?_⟩
    rw [h2, List.nil_append]
    have hk : keepP (fun k => !upTo L' k 0 acc) 0 Δ = keepP (fun k => !upTo L k 0 acc) 0 Δ := by
      have : ∀ (l : List D) (m : Nat), m + l.length ≤ Δ.length → keepP (fun k => !upTo L' k 0 acc) m l = keepP (fun k => !upTo L k 0 acc) m l := by
        intro l
        induction l with
        | nil => intro m _; rfl
        | cons x l ih =>
          intro m hm
          simp only [List.length_cons] at hm
          simp only [keepP, hL m, h3 m (by omega), Bool.or_false, ih (m + 1) (by omega)]
      exact this Δ 0 (by omega)
    unfold atD
    rw [hk]
    refine (List.Perm.append_left _ hB).trans ?_
    rw [← List.append_assoc, ← List.append_assoc]
    exact List.Perm.append_right _ List.perm_append_comm
  rcases u with _ | ⟨k, x⟩
  · exact plain rfl rfl fun _ _ => rfl
  · cases hk : Δ[k]? with
    | none =>
      have hge : Δ.length ≤ k := by simpa using hk
      refine plain (by simp [useD, hk]) (by cases x <;> simp [keepD, hk]) fun k' hk' => ?_
      cases x
      · rfl
      · simp; omega
    | some d =>
      have h0 := hu k x rfl
      have hsp := keepP_split (p := fun k => !upTo L k 0 acc) (l := Δ) (i := k) (k := 0) hk (by simp [h0])
      simp only [Nat.zero_add] at hsp
      refine ⟨keepP (fun j => !upTo L j 0 acc && j != k) 0 Δ ++ blist L a 0 acc, ?_, fun L' a' hL B hB => ?_⟩
      · unfold atD
        simp only [useD, hk]
        exact List.Perm.append_right _ hsp
      · unfold atD
        cases x with
        | false =>
          have : keepP (fun k => !upTo L' k 0 acc) 0 Δ = keepP (fun k => !upTo L k 0 acc) 0 Δ := same L' fun j => by rw [hL]; simp
          rw [this]
          simp only [keepD, hk]
          refine ((List.Perm.append_right _ hsp).trans (List.Perm.append_left _ hB)).trans ?_
          simp only [List.cons_append, List.nil_append]
          refine List.Perm.cons _ ?_
          rw [← List.append_assoc, ← List.append_assoc]
          exact List.Perm.append_right _ List.perm_append_comm
        | true =>
          have : keepP (fun k => !upTo L' k 0 acc) 0 Δ = keepP (fun j => !upTo L j 0 acc && j != k) 0 Δ := keepP_congr fun j => by
            rw [hL]
            simp only [Bool.not_or]
            congr 1
            cases h : (k == j) <;> simp_all [bne, Bool.beq_comm]
          rw [this]
          simp only [keepD, List.nil_append]
          refine (List.Perm.append_left _ hB).trans ?_
          rw [← List.append_assoc, ← List.append_assoc]
          exact List.Perm.append_right _ List.perm_append_comm
/-- One operation comes up. -/
theorem Inv.step (hfull : full = acc.map (·.o) ++ l) (hDR : DRs c full.toArray Δ Γ0 acc) (hck : chk0 full acc = true) {L : Array Bool} {a : Act} {w : World} (h : Inv c full Γ0 Δ acc L a w) {i : Nat} (hi : i < acc.length) (hri : i ∈ Region.ready .any full.toArray L) :
    wpOpIn (FW c.rd) 0 c.P full.toArray Q i (fun a' w' => Inv c full Γ0 Δ acc (L.setIfInBounds i true) a' w') a w := by
  unfold chk0 at hck
  simp only [Bool.and_eq_true] at hck
  obtain ⟨hc1, hc2⟩ := hck
  have hlt : ∀ j o, full[j]? = some o → ∀ i ∈ dpreds o, i < j := fun j o ho i hi => by
    have := mem_zipIdx hc2 ho
    rw [List.all_eq_true] at this
    simpa using this i hi
  obtain ⟨e, he⟩ : ∃ e, acc[i]? = some e := ⟨_, List.getElem?_eq_getElem hi⟩
  obtain ⟨hDV, hHas⟩ := DRs.nth acc hDR he
  have hone := mem_zipIdx hc1 he
  simp only [chkOne] at hone
  have hother : ∀ (j : Nat) (e' : DE), acc[j]? = some e' → j ≠ i → e'.d ≠ e.d ∧ (e'.d ∈ slotsOf e.N → if j < i then ((clos [] full).getD i 0).testBit j = true else ((clos [] full).getD j 0).testBit i = true) ∧
      (∀ k x k' x', e.u = some (k, x) → e'.u = some (k', x') → k ≠ k' ∨ (x = false ∧ x' = false)) := fun j e' hj hne => by
    have := mem_zipIdx hone hj
    simp only [Bool.or_eq_true, beq_iff_eq, hne, false_or, Bool.and_eq_true, bne_iff_ne, Bool.not_eq_true'] at this
    obtain ⟨⟨h1, h2⟩, h3⟩ := this
    refine ⟨h1, fun hm => ?_, fun k x k' x' hu hu' => ?_⟩
    · rcases h2 with h2 | h2
      · simp [hm] at h2
      · split <;> rename_i hji
        · rw [if_pos hji] at h2; exact h2
        · rw [if_neg hji] at h2; exact h2
    · rw [hu, hu'] at h3
      simp only [Bool.or_eq_true, bne_iff_ne, Bool.and_eq_true, Bool.not_eq_true'] at h3
      exact h3
  obtain ⟨oi, hoi, hli, hpi⟩ := (ready_iff h.size).1 hri
  have hoe : oi = e.o := by
    rw [hfull, List.getElem?_append_left (by simpa using hi)] at hoi
    simp [he] at hoi
    exact hoi.symm
  subst hoe
  have hiL : i < L.size := by rw [h.size, hfull]; simp; omega
  have hahead := ahead h.closed hlt i i e.o (Nat.le_refl _) hoi hpi
  obtain ⟨S, h3, h4, h5, h6, h7⟩ := h.ex
  have hsetL : ∀ j, j ≠ i → lst (L.setIfInBounds i true) j = lst L j := fun j hj => by rw [lst_set hiL, if_neg (Ne.symm hj)]
  have hsetI : lst (L.setIfInBounds i true) i = true := by rw [lst_set hiL, if_pos rfl]
  -- a later writer has not come up
  have hnot : ∀ (j : Nat) (e' : DE), acc[j]? = some e' → ((clos [] full).getD j 0).testBit i = true → lst L j = false := fun j e' hj hb => by
    cases hl : lst L j with
    | false => rfl
    | true =>
      obtain ⟨oj, hoj⟩ : ∃ oj, full[j]? = some oj := ⟨_, List.getElem?_eq_getElem (by rw [← h.size]; exact lst_size hl)⟩
      have := ahead h.closed hlt j j oj (Nat.le_refl _) hoj (h.closed j oj hoj hl) i hb
      rw [hli] at this
      cases this
  have hneeds : Needs S w a e.N := Needs.of_slots hHas fun s r hs hl => by
    rcases lk_endT hl with ⟨j, e', hj, hd, hr⟩ | ⟨h8, h9⟩
    · have hji : j < i := by
        rcases Nat.lt_or_ge j i with hh | hh
        · exact hh
        · rw [List.getElem?_eq_none (by simp; omega)] at hj; cases hj
      have hj' : acc[j]? = some e' := by
        rw [List.getElem?_take] at hj
        simpa [hji] using hj
      have hb := (hother j e' hj' (by omega)).2.1 (by rw [hd]; exact hs)
      rw [if_pos hji] at hb
      have := h7 j e' hj' (hahead j hb)
      rw [hd, hr] at this
      exact this
    · refine h6 s r h8 fun j e' hj hlj hds => ?_
      rcases Nat.lt_trichotomy j i with hh | hh | hh
      · exact h9 j e' (by rw [List.getElem?_take]; simpa [hh] using hj) hds
      · subst hh; rw [hli] at hlj; cases hlj
      · have hb := (hother j e' hj (by omega)).2.1 (by rw [hds]; exact hs)
        rw [if_neg (by omega)] at hb
        rw [hnot j e' hj hb] at hlj
        cases hlj
  have hup : ∀ k x, e.u = some (k, x) → upTo L k 0 acc = false := fun k x hu => upTo_false fun j e' hj hlj => by
    simp only [Nat.zero_add] at hlj
    have hne : j ≠ i := fun hh => by subst hh; rw [hli] at hlj; cases hlj
    have h3 := (hother j e' hj hne).2.2
    unfold eats
    split
    · rename_i k' hu'
      rcases h3 k x k' true hu hu' with hh | ⟨_, hh⟩
      · simpa using Ne.symm hh
      · cases hh
    · rfl
  obtain ⟨rest, hp1, hp2⟩ := atD_split (Δ := Δ) (acc := acc) (L := L) (a := a) hup
  have hown := h5.perm hp1
  have hownU : Owns (useD Δ e.u) S w := ⟨fun d hd => hown.holds d (List.mem_append.2 (.inl hd)), fun b ⟨d, hd, hb⟩ => hown.own b ⟨d, List.mem_append.2 (.inl hd), hb⟩, (List.pairwise_append.1 hown.apart).1⟩
  have hgo := hDV.run S w a (fun a' w' => Inv c full Γ0 Δ acc (L.setIfInBounds i true) a' w') Q h3.dom hneeds hownU fun S' w' v hs hr ho hf => by
    have hdl : e.d < a.tmps.size := by rw [h.tmps]; exact hDV.lt
    have hput : ∀ s, (a.put (some e.d) v).tmps.getD s undef = if e.d = s then v else a.tmps.getD s undef := fun s => getD_put hdl
    have hbl : (blist (L.setIfInBounds i true) (a.put (some e.d) v) 0 acc).Perm (e.E v ++ blist L a 0 acc) :=
      blist_at hsetL hli hsetI (by rw [hput, if_pos rfl]) (Nat.zero_add i) he fun j e' hj hne => by
        rw [hput, if_neg (Ne.symm (hother j e' hj (by omega)).1)]
    have hperm := hp2 (L.setIfInBounds i true) (a.put (some e.d) v) (fun k => upTo_at hsetL hli hsetI (Nat.zero_add i) he) _ hbl
    have hin : ∀ b, feet (useD Δ e.u) b → feet (atD Δ acc L a) b := fun b ⟨d, hd, hb⟩ => ⟨d, hp1.mem_iff.2 (List.mem_append.2 (.inl hd)), hb⟩
    have hK : Keep S w w' := fun b hb => hs.keep b (h3.dom b hb) (fun hx => (h5.own b (hin b hx)).1 hb)
    have hfr := hown.frame h3.dom hs ho hf
    refine ⟨by simpa using h.size, fun j hj => by rw [hsetL j (by omega)]; exact h.past j hj, fun j o hj hlj k hk => ?_, h.defers, by simpa [Act.put] using h.tmps, S', h3.trans hs fun b hb => h4 b (hin b hb), fun b hb => ?_, hfr.perm hperm.symm, fun s r hl hno => ?_, fun j e' hj hlj => ?_⟩
    · rw [lst_set hiL]
      split
      · rfl
      · rw [lst_set hiL] at hlj
        split at hlj
        · rename_i hij
          subst hij
          have : o = e.o := by rw [hoi] at hj; cases hj; rfl
          subst this
          exact hpi k hk
        · exact h.closed j o hj hlj k hk
    · rw [feet_perm hperm] at hb
      obtain ⟨d, hd, hbd⟩ := hb
      rcases List.mem_append.1 hd with hd | hd
      · rcases hf b ⟨d, hd, hbd⟩ with hh | hh
        · exact h4 b (hin b hh)
        · exact .inr (Nat.le_trans h3.size hh)
      · exact h4 b ⟨d, hp1.mem_iff.2 (List.mem_append.2 (.inr hd)), hbd⟩
    · rw [hput, if_neg (hno i e he hsetI)]
      exact A.mono hs.sub hK r (h6 s r hl fun j e' hj hlj => hno j e' hj (by rw [lst_set hiL]; split <;> first | rfl | exact hlj))
    · rw [hput]
      by_cases hji : j = i
      · subst hji
        have : e' = e := by rw [he] at hj; cases hj; rfl
        subst this
        rw [if_pos rfl]
        exact hr
      · rw [if_neg (Ne.symm (hother j e' hj hji).1)]
        exact A.mono hs.sub hK e'.r (h7 j e' hj (by rw [hsetL j hji] at hlj; exact hlj))
  have hoi' : full.toArray[i]? = some e.o := by simpa using hoi
  unfold wpOpIn
  simp only [hoi']
  split
  · rename_i hw
    rw [if_pos hw] at hgo
    exact hgo
  · rename_i hw
    rw [if_neg hw] at hgo
    rw [hDV.dst]
    exact ⟨fun _ _ => trivial, hgo⟩

theorem St.drew {a : Act} {w : World} (h : St c Γ Δ a w) : St c Γ Δ a { w with drawn := w.drawn + 1 } := by
  obtain ⟨h1, h2, S, h3, h4, h5, h6⟩ := h
  have hK : Keep S w { w with drawn := w.drawn + 1 } := fun _ _ => rfl
  exact ⟨h1, h2, S, ⟨h3.sub, h3.new, h3.dom, h3.size, h3.keep, h3.os, h3.tape, h3.output⟩, h4, ⟨fun d hd => D.holds_mono (fun _ h => h) hK d (fun _ _ => rfl) (h5.holds d hd), h5.own, h5.apart⟩, fun s r hl => A.mono (fun _ h => h) hK r (h6 s r hl)⟩

theorem lk_birthG {s : Nat} {r : A} {a : Act} : ∀ {acc : List DE}, lk (birthG acc (acc.map fun e => a.tmps.getD e.d undef) ++ Γ) s = some r → r = .eq (a.tmps.getD s undef) ∨ lk Γ s = some r
  | [], h => .inr h
  | e :: es, h => by
    simp only [List.map_cons, birthG] at h
    split at h
    · simp only [List.cons_append, lk] at h
      split at h
      · rename_i hd; subst hd; cases h; exact .inl rfl
      · exact lk_birthG h
    · exact lk_birthG h

theorem Inv.start {a : Act} {w1 : World} (hst' : St c Γ0 Δ a w1) : Inv c full Γ0 Δ acc (Array.replicate full.toArray.size false) a w1 := by
  refine ⟨by simp, fun j _ => ?_, fun j o _ hj => ?_, hst'.defers, hst'.size, ?_⟩
  · simp [lst, Array.getD_eq_getD_getElem?, Array.getElem?_replicate]
    split <;> rfl
  · exfalso
    simp [lst, Array.getD_eq_getD_getElem?, Array.getElem?_replicate] at hj
    split at hj <;> simp at hj
  · obtain ⟨h1, h2, S, h3, h4, h5, h6⟩ := hst'
    have hz : ∀ j, lst (Array.replicate full.toArray.size false) j = false := fun j => by
      simp [lst, Array.getD_eq_getD_getElem?, Array.getElem?_replicate]
      split <;> rfl
    have hD : atD Δ acc (Array.replicate full.toArray.size false) a = Δ := by
      unfold atD
      have e1 : ∀ (es : List DE) (m : Nat), blist (Array.replicate full.toArray.size false) a m es = [] := by
        intro es
        induction es with
        | nil => intro m; rfl
        | cons x es ih => intro m; simp only [blist, hz m, ih (m + 1)]; rfl
      have e2 : ∀ (l : List D) (k : Nat), keepP (fun k => !upTo (Array.replicate full.toArray.size false) k 0 acc) k l = l := by
        intro l
        induction l with
        | nil => intro k; rfl
        | cons x l ih =>
          intro k
          have : upTo (Array.replicate full.toArray.size false) k 0 acc = false := upTo_false fun j e' _ hl => by rw [hz] at hl; cases hl
          simp only [keepP, this, ih (k + 1), Bool.not_false, if_true]
      rw [e1, e2, List.append_nil]
    rw [hD]
    exact ⟨S, h3, h4, h5, fun s r hl _ => h6 s r hl, fun j e hj hl => by rw [hz] at hl; cases hl⟩

/-- **The tail of such a region: forced; it is walked in its order.** -/
theorem DR.fin (hck : chk full acc = true) (hm : c.P.follows .mixedOrders = true) (h : ∀ vs : List Value, vs.length = acc.length → JO c full.toArray l Q (birthG acc vs ++ Γ) (endD Δ acc vs)) : DR c id full Q Γ0 Δ acc l Γ := by
  intro hfull hDR hΓ ops hren a w hst
  refine wpIn_region_ren hren hm ?_
  have hst' := hst.drew
  generalize { w with drawn := w.drawn + 1 } = w1 at hst'
  have hck0 : chk0 full acc = true := by
    unfold chk at hck
    simp only [Bool.and_eq_true] at hck
    exact Bool.and_eq_true_iff.2 ⟨hck.1.1, hck.1.2⟩
  have hck' := hck
  unfold chk at hck'
  simp only [Bool.and_eq_true] at hck'
  obtain ⟨⟨hc1, hc2⟩, hc3⟩ := hck'
  have hlt : ∀ j o, full[j]? = some o → ∀ i ∈ dpreds o, i < j := fun j o ho i hi => by
    have := mem_zipIdx hc2 ho
    rw [List.all_eq_true] at this
    simpa using this i hi
  have hforced : ∀ m, acc.length ≤ m → m < full.length → ∀ i, i < m → ((clos [] full).getD m 0).testBit i = true := fun m hm1 hm2 i hi => by
    rw [List.all_eq_true] at hc3
    have := hc3 m (List.mem_range.2 hm2)
    simp only [Bool.or_eq_true, decide_eq_true_eq] at this
    rcases this with h | h
    · omega
    · rw [List.all_eq_true] at h
      exact h i (List.mem_range.2 hi)
  have hlen : full.length = acc.length + l.length := by rw [hfull]; simp
  -- all of the first have come up
  have full_up : ∀ L a w, Inv c full Γ0 Δ acc L a w → cnt L acc.length = 0 → ∀ fuel, l.length ≤ fuel → wpAnyIn (FW c.rd) 0 c.P .any full.toArray Q fuel L a w := by
    intro L a w hI h0 fuel hf
    have hall := cnt_zero h0
    refine tail_any hlt l acc.length (by rw [hfull]; simp) hforced L hI.size (fun i hi _ => hall i hi) hI.past a w ?_ fuel hf
    refine h (acc.map fun e => a.tmps.getD e.d undef) (by simp) a w ?_
    obtain ⟨S, h3, h4, h5, h6, h7⟩ := hI.ex
    have hD : endD Δ acc (acc.map fun e => a.tmps.getD e.d undef) = atD Δ acc L a := by
      unfold endD atD
      have e1 : ∀ (es : List DE) (m : Nat), (∀ j (e : DE), es[j]? = some e → lst L (m + j) = true) → births es (es.map fun e => a.tmps.getD e.d undef) = blist L a m es := by
        intro es
        induction es with
        | nil => intro m _; rfl
        | cons x es ih =>
          intro m hh
          have := hh 0 x rfl
          simp only [Nat.add_zero] at this
          simp only [List.map_cons, births, blist, this, if_true]
          rw [ih (m + 1) fun j e he => by have := hh (j + 1) e (by simpa using he); rwa [show m + 1 + j = m + (j + 1) by omega]]
      have e2 : ∀ (k : Nat) (es : List DE) (m : Nat), (∀ j (e : DE), es[j]? = some e → lst L (m + j) = true) → upTo L k m es = usedUp es k := by
        intro k es
        induction es with
        | nil => intro m _; rfl
        | cons x es ih =>
          intro m hh
          have := hh 0 x rfl
          simp only [Nat.add_zero] at this
          simp only [upTo, usedUp, List.any_cons, this, Bool.true_and]
          rw [ih (m + 1) fun j e he => by have := hh (j + 1) e (by simpa using he); rwa [show m + 1 + j = m + (j + 1) by omega]]
          rfl
      have hl : ∀ j (e : DE), acc[j]? = some e → lst L (0 + j) = true := fun j e he => by
        rw [Nat.zero_add]
        refine hall j ?_
        rcases Nat.lt_or_ge j acc.length with h | h
        · exact h
        · simp [List.getElem?_eq_none h] at he
      rw [e1 acc 0 hl]
      congr 1
      have : ∀ (l : List D) (k : Nat), endD.keepFrom acc k l = keepP (fun k => !upTo L k 0 acc) k l := by
        intro l
        induction l with
        | nil => intro k; rfl
        | cons x l ih =>
          intro k
          simp only [endD.keepFrom, keepP, e2 k acc 0 hl, ih]
          cases usedUp acc k <;> rfl
      exact this Δ 0
    rw [hD]
    refine ⟨hI.defers, hI.tmps, S, h3, h4, h5, fun s r hl => ?_⟩
    rcases lk_birthG hl with rfl | hl
    · rfl
    · rw [hΓ] at hl
      rcases lk_endT hl with ⟨j, e, hj, hd, hr⟩ | ⟨h8, h9⟩
      · have hjl : j < acc.length := by
          rcases Nat.lt_or_ge j acc.length with h | h
          · exact h
          · simp [List.getElem?_eq_none h] at hj
        have := h7 j e hj (hall j hjl)
        rw [hd, hr] at this
        exact this
      · exact h6 s r h8 fun j e hj _ => h9 j e hj
  -- the walk over the first ones
  have key : ∀ fuel L a w, Inv c full Γ0 Δ acc L a w → cnt L acc.length + l.length ≤ fuel → wpAnyIn (FW c.rd) 0 c.P .any full.toArray Q fuel L a w := by
    intro fuel
    induction fuel with
    | zero => intro L a w hI hf; exact full_up L a w hI (by omega) 0 (by omega)
    | succ n ih =>
      intro L a w hI hf
      by_cases h0 : cnt L acc.length = 0
      · exact full_up L a w hI h0 (n + 1) (by omega)
      · obtain ⟨j, hj1, hj2, hj3⟩ := cnt_pos h0
        obtain ⟨oj, hoj⟩ : ∃ oj, full[j]? = some oj := ⟨_, List.getElem?_eq_getElem (by omega)⟩
        have hrj : j ∈ Region.ready .any full.toArray L := (ready_iff hI.size).2 ⟨oj, hoj, hj2, fun i hi => hj3 i (hlt j oj hoj i hi)⟩
        refine ⟨fun hh => (by rw [hh] at hrj; cases hrj), fun i hi => ?_⟩
        obtain ⟨oi, hoi, hli, hpi⟩ := (ready_iff hI.size).1 hi
        have hil : i < full.length := by
          rcases Nat.lt_or_ge i full.length with h | h
          · exact h
          · simp [List.getElem?_eq_none h] at hoi
        have hit : i < acc.length := by
          rcases Nat.lt_or_ge i acc.length with h | h
          · exact h
          · have := ahead hI.closed hlt i i oi (Nat.le_refl _) hoi hpi j (hforced i h hil j (by omega))
            rw [hj2] at this
            cases this
        refine wpOpIn_mono (fun a' w' hI' => ih _ a' w' hI' ?_) (Inv.step hfull hDR hck0 hI hit hi)
        have hiL : i < L.size := by rw [hI.size]; exact hil
        have := cnt_set (L := L) (L' := L.setIfInBounds i true) (i := i) (fun j hj => by rw [lst_set hiL, if_neg (Ne.symm hj)]) hli (by rw [lst_set hiL, if_pos rfl]) hit
        omega
  refine key full.toArray.size _ a w1 ⟨by simp, fun j _ => ?_, fun j o _ hj => ?_, hst'.defers, hst'.size, ?_⟩ ?_
  · simp [lst, Array.getD_eq_getD_getElem?, Array.getElem?_replicate]
    split <;> rfl
  · exfalso
    simp [lst, Array.getD_eq_getD_getElem?, Array.getElem?_replicate] at hj
    split at hj <;> simp at hj
  · obtain ⟨h1, h2, S, h3, h4, h5, h6⟩ := hst'
    have hz : ∀ j, lst (Array.replicate full.toArray.size false) j = false := fun j => by
      simp [lst, Array.getD_eq_getD_getElem?, Array.getElem?_replicate]
      split <;> rfl
    have hD : atD Δ acc (Array.replicate full.toArray.size false) a = Δ := by
      unfold atD
      have e1 : ∀ (es : List DE) (m : Nat), blist (Array.replicate full.toArray.size false) a m es = [] := by
        intro es
        induction es with
        | nil => intro m; rfl
        | cons x es ih => intro m; simp only [blist, hz m, ih (m + 1)]; rfl
      have e2 : ∀ (l : List D) (k : Nat), keepP (fun k => !upTo (Array.replicate full.toArray.size false) k 0 acc) k l = l := by
        intro l
        induction l with
        | nil => intro k; rfl
        | cons x l ih =>
          intro k
          have : upTo (Array.replicate full.toArray.size false) k 0 acc = false := upTo_false fun j e' _ hl => by rw [hz] at hl; cases hl
          simp only [keepP, this, ih (k + 1), Bool.not_false, if_true]
      rw [e1, e2, List.append_nil]
    rw [hD]
    exact ⟨S, h3, h4, h5, fun s r hl _ => h6 s r hl, fun j e hj hl => by rw [hz] at hl; cases hl⟩
  · have : cnt (Array.replicate full.toArray.size false) acc.length ≤ acc.length := by
      have : ∀ t, cnt (Array.replicate full.toArray.size false) t ≤ t := by
        intro t
        induction t with
        | zero => exact Nat.le_refl _
        | succ t ih => simp only [cnt]; split <;> omega
      exact this _
    simp only [List.size_toArray]
    simp only [List.size_toArray] at this
    omega
end

end K
end Go.Proofs.Ytfhdclhbdmhnmaa
