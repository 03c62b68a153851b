/- The calculus, part 14: a region that draws its order and whose tail (stores, say) need not wait for all that only reads. -/
import Derived.Test.YtfhdclhbdmhnmaaCore13
namespace Go.Proofs.Ytfhdclhbdmhnmaa
namespace K
open Go

section
variable {c : Cx} {full : List Oper} {Q : Exit → Act → World → Prop} {Γ0 Γ Γt : Ga} {Δ Δr Δt F : List D} {acc : List DE} {l : List Oper} {id : Nat} {must : List Bool} {T : List Nat} {vs : List Value} {k : Nat}

/-- What may come up behind the tail's first operation only reads. -/
def Fl (Δ Δr : List D) : List DE → List Bool → Prop
  | [], _ => True
  | e :: es, ms => ((ms.headD false = true ∧ (e.b = true → e.r = .any)) ∨ (e.b = false ∧ (∀ v, e.E v = []) ∧ (e.u = none ∨ ∃ k d, e.u = some (k, false) ∧ Δ[k]? = some d ∧ d ∈ Δr))) ∧ Fl Δ Δr es ms.tail

theorem Fl.nth : ∀ {acc : List DE} {must : List Bool} {i : Nat} {e : DE}, Fl Δ Δr acc must → acc[i]? = some e → must.getD i false = false → e.b = false ∧ (∀ v, e.E v = []) ∧ (e.u = none ∨ ∃ k d, e.u = some (k, false) ∧ Δ[k]? = some d ∧ d ∈ Δr)
  | [], _, _, _, _, h, _ => by simp at h
  | x :: acc, must, 0, e, h, he, hm => by
    simp at he
    subst he
    rcases h.1 with h1 | h1
    · cases must <;> simp at h1 hm
      rw [h1.1] at hm; cases hm
    · exact h1
  | x :: acc, must, i + 1, e, h, he, hm => by
    refine Fl.nth (acc := acc) (must := must.tail) (i := i) h.2 (by simpa using he) ?_
    cases must with
    | nil => simp
    | cons m ms => simpa using hm

def chkT (full : List Oper) (es : List DE) (must : List Bool) (T : List Nat) : Bool :=
  let M := clos [] full
  (es.zipIdx.all fun (e, i) => chkOne M es i e) && (full.zipIdx.all fun (o, i) => (dpreds o).all (· < i)) &&
  ((List.range full.length).all fun j => j < es.length || (List.range j).all fun i => i < es.length || (M.getD j 0).testBit i) &&
  (es.zipIdx.all fun (_, i) => !must.getD i false || (M.getD es.length 0).testBit i) &&
  (es.zipIdx.all fun (e, i) => must.getD i false || (slotsOf e.N).all fun s => es.zipIdx.all fun (e', j) => e'.d != s || (M.getD i 0).testBit j) &&
  (es.zipIdx.all fun (e, i) => !T.contains e.d && (must.getD i false || (slotsOf e.N).all fun s => !T.contains s)) && decide (es.length < full.length)

/-- What is known of the slots of the free operations. -/
@[reducible] def rB (e : DE) (v : Value) : A := if e.b then .eq v else e.r
@[reducible] def GB : List DE → List Value → Ga
  | e :: es, v :: vs => (e.d, rB e v) :: GB es vs
  | _, _ => []

theorem lk_GB {s : Nat} {r : A} : ∀ {acc : List DE} {vs : List Value}, vs.length = acc.length → lk (GB acc vs ++ Γt) s = some r →
    (∃ (j : Nat) (e : DE), acc[j]? = some e ∧ e.d = s ∧ r = rB e (vs.getD j undef)) ∨ ((∀ (j : Nat) (e : DE), acc[j]? = some e → e.d ≠ s) ∧ lk Γt s = some r)
  | [], [], _, h => .inr ⟨fun j e h => by simp at h, h⟩
  | e :: es, v :: vs, hl, h => by
    simp only [GB, List.cons_append, lk] at h
    split at h
    · rename_i hd
      exact .inl ⟨0, e, rfl, hd, (Option.some.inj h).symm⟩
    · rename_i hd
      rcases lk_GB (acc := es) (vs := vs) (by simpa using hl) h with ⟨j, e', h1, h2, h3⟩ | ⟨h1, h2⟩
      · exact .inl ⟨j + 1, e', by simpa using h1, h2, by simpa using h3⟩
      · refine .inr ⟨fun j e' h3 => ?_, h2⟩
        cases j with
        | zero => simp at h3; subst h3; exact hd
        | succ j => exact h1 j e' (by simpa using h3)
  | [], _ :: _, hl, _ => by simp at hl
  | _ :: _, [], hl, _ => by simp at hl

/-- What holds when the tail is at work: its first k operations have come up. -/
structure TI (c : Cx) (full : List Oper) (Γ0 : Ga) (acc : List DE) (must : List Bool) (T : List Nat) (vs : List Value) (Δr : List D) (k : Nat) (Γt : Ga) (Δt : List D) (L : Array Bool) (a : Act) (w : World) : Prop where
  size : L.size = full.length
  tail : ∀ j, acc.length ≤ j → lst L j = decide (j < acc.length + k)
  must : ∀ j, must.getD j false = true → j < acc.length → lst L j = true
  closed : ∀ j o, full[j]? = some o → lst L j = true → ∀ i ∈ dpreds o, lst L i = true
  defers : a.defers = c.dfs
  tmps : a.tmps.size = c.N
  keep : ∀ s, T.contains s = false → lk Γt s = lk Γ0 s
  ex : ∃ S : FS, Step c.X c.S0 c.w0 S w ∧ (∀ b, feet (Δr ++ Δt) b → c.X b ∨ c.w0.heap.size ≤ b) ∧ Owns (Δr ++ Δt) S w ∧
    (∀ s r, lk Γt s = some r → (∀ (j : Nat) (e : DE), acc[j]? = some e → e.d ≠ s) → r.holds S w (a.tmps.getD s undef)) ∧
    (∀ (j : Nat) (e : DE), acc[j]? = some e → lst L j = true → (rB e (vs.getD j undef)).holds S w (a.tmps.getD e.d undef))

theorem chkT_parts (h : chkT full acc must T = true) :
    (∀ (i : Nat) (e : DE), acc[i]? = some e → chkOne (clos [] full) acc i e = true) ∧ (∀ (j : Nat) (o : Oper), full[j]? = some o → ∀ i ∈ dpreds o, i < j) ∧
    (∀ j, acc.length ≤ j → j < full.length → ∀ i, acc.length ≤ i → i < j → ((clos [] full).getD j 0).testBit i = true) ∧
    (∀ i, i < acc.length → must.getD i false = true → ((clos [] full).getD acc.length 0).testBit i = true) ∧
    (∀ (i : Nat) (e : DE), acc[i]? = some e → must.getD i false = false → ∀ s ∈ slotsOf e.N, ∀ (j : Nat) (e' : DE), acc[j]? = some e' → e'.d = s → ((clos [] full).getD i 0).testBit j = true) ∧
    (∀ (i : Nat) (e : DE), acc[i]? = some e → T.contains e.d = false ∧ (must.getD i false = false → ∀ s ∈ slotsOf e.N, T.contains s = false)) ∧ acc.length < full.length := by
  unfold chkT at h
  simp only [Bool.and_eq_true, decide_eq_true_eq] at h
  obtain ⟨⟨⟨⟨⟨⟨h1, h2⟩, h3⟩, h4⟩, h5⟩, h6⟩, h7⟩ := h
  refine ⟨fun i e he => mem_zipIdx h1 he, fun j o ho i hi => ?_, fun j hj hjl i hi hij => ?_, fun i hi hm => ?_, fun i e he hm s hs j e' he' hd => ?_, fun i e he => ?_, h7⟩
  · have := mem_zipIdx h2 ho
    rw [List.all_eq_true] at this
    simpa using this i hi
  · rw [List.all_eq_true] at h3
    have := h3 j (List.mem_range.2 hjl)
    simp only [Bool.or_eq_true, decide_eq_true_eq] at this
    rcases this with h | h
    · omega
    · rw [List.all_eq_true] at h
      have := h i (List.mem_range.2 hij)
      simp only [Bool.or_eq_true, decide_eq_true_eq] at this
      rcases this with h | h
      · omega
      · exact h
  · have := mem_zipIdx h4 (List.getElem?_eq_getElem hi)
    simp only [hm, Bool.not_true, Bool.false_or] at this
    exact this
  · have := mem_zipIdx h5 he
    simp only [hm, Bool.false_or] at this
    rw [List.all_eq_true] at this
    have := mem_zipIdx (this s hs) he'
    simpa [hd] using this
  · have := mem_zipIdx h6 he
    simp only [Bool.and_eq_true, Bool.not_eq_true'] at this
    refine ⟨this.1, fun hm s hs => ?_⟩
    have h8 := this.2
    simp only [hm, Bool.false_or] at h8
    rw [List.all_eq_true] at h8
    simpa using h8 s hs

theorem Fl.any : ∀ {acc : List DE} {must : List Bool} {i : Nat} {e : DE}, Fl Δ Δr acc must → acc[i]? = some e → e.b = true → e.r = .any
  | [], _, _, _, _, h, _ => by simp at h
  | x :: acc, must, 0, e, h, he, hb => by
    simp at he
    subst he
    rcases h.1 with h1 | h1
    · exact h1.2 hb
    · rw [h1.1] at hb; cases hb
  | x :: acc, must, i + 1, e, h, he, hb => Fl.any (acc := acc) (must := must.tail) (i := i) h.2 (by simpa using he) hb

/-- What stands ahead of an operation on some road stands ahead of it in the text. -/
theorem clos_lt (hlt : ∀ (j : Nat) (o : Oper), full[j]? = some o → ∀ i ∈ dpreds o, i < j) : ∀ (n m : Nat) (o : Oper), m ≤ n → full[m]? = some o → ∀ q, ((clos [] full).getD m 0).testBit q = true → q < m := by
  intro n
  induction n with
  | zero =>
    intro m o hm ho q hq
    have : m = 0 := by omega
    subst this
    obtain ⟨M', g1, g2, g3⟩ := clos_at (M := []) ho
    simp only [List.length_nil, Nat.zero_add] at g3
    rw [List.getD_eq_getElem?_getD, g3, Option.getD_some] at hq
    obtain ⟨p, hp, _⟩ := closTo_spec hq
    have := hlt 0 o ho p hp
    omega
  | succ n ih =>
    intro m o hm ho q hq
    obtain ⟨M', g1, g2, g3⟩ := clos_at (M := []) ho
    simp only [List.length_nil, Nat.zero_add] at g1 g3
    rw [List.getD_eq_getElem?_getD, g3, Option.getD_some] at hq
    obtain ⟨p, hp, hq⟩ := closTo_spec hq
    have hpm := hlt m o ho p hp
    rcases hq with rfl | hq
    · exact hpm
    · have hml : m < full.length := by
        rcases Nat.lt_or_ge m full.length with h | h
        · exact h
        · simp [List.getElem?_eq_none h] at ho
      have := ih p _ (by omega) (List.getElem?_eq_getElem (by omega : p < full.length)) q (by
        rw [List.getD_eq_getElem?_getD] at hq ⊢
        rw [g2 p (by omega)]
        exact hq)
      omega

/-- One that only reads comes up while the tail is at work. -/
theorem TI.float (hfull : full = acc.map (·.o) ++ l) (hDR : DRs c full.toArray Δ Γ0 acc) (hck : chkT full acc must T = true) (hfl : Fl Δ Δr acc must) {L : Array Bool} {a : Act} {w : World} (h : TI c full Γ0 acc must T vs Δr k Γt Δt L a w) {i : Nat}
    (hi : i < acc.length) (hri : i ∈ Region.ready .any full.toArray L) : wpOpIn (FW c.rd) 0 c.P full.toArray Q i (fun a' w' => TI c full Γ0 acc must T vs Δr k Γt Δt (L.setIfInBounds i true) a' w') a w := by
  obtain ⟨hc1, hlt, hc3, hc4, hc5, hc6, hc7⟩ := chkT_parts hck
  obtain ⟨e, he⟩ : ∃ e, acc[i]? = some e := ⟨_, List.getElem?_eq_getElem hi⟩
  obtain ⟨hDV, hHas⟩ := DRs.nth acc hDR he
  have hone := hc1 i e he
  simp only [chkOne] at hone
  have hother : ∀ (j : Nat) (e' : DE), acc[j]? = some e' → j ≠ i → e'.d ≠ e.d := fun j e' hj hne => by
    have := mem_zipIdx hone hj
    simp only [Bool.or_eq_true, beq_iff_eq, hne, false_or, Bool.and_eq_true, bne_iff_ne, Bool.not_eq_true'] at this
    exact this.1.1
  obtain ⟨oi, hoi, hli, hpi⟩ := (ready_iff h.size).1 hri
  have hoe : oi = e.o := by
    rw [hfull, List.getElem?_append_left (by simpa using hi)] at hoi
    simp [he] at hoi
    exact hoi.symm
  subst hoe
  have hiL : i < L.size := by rw [h.size, hfull]; simp; omega
  have hahead := ahead h.closed hlt i i e.o (Nat.le_refl _) hoi hpi
  have hmf : must.getD i false = false := by
    cases hm : must.getD i false with
    | false => rfl
    | true => have := h.must i hm hi; rw [hli] at this; cases this
  obtain ⟨f1, f2, f3⟩ := hfl.nth he hmf
  obtain ⟨S, h3, h4, h5, h6, h7⟩ := h.ex
  have hsetL : ∀ j, j ≠ i → lst (L.setIfInBounds i true) j = lst L j := fun j hj => by rw [lst_set hiL, if_neg (Ne.symm hj)]
  have hsetI : lst (L.setIfInBounds i true) i = true := by rw [lst_set hiL, if_pos rfl]
  have hrB : ∀ (j : Nat) (e' : DE), acc[j]? = some e' → lst L j = true → e'.b = false → e'.r.holds S w (a.tmps.getD e'.d undef) := fun j e' hj hl hb => by
    have := h7 j e' hj hl
    simpa [rB, hb] using this
  have hneeds : Needs S w a e.N := Needs.of_slots hHas fun s r hs hl => by
    rcases lk_endT hl with ⟨j, e', hj, hd, hr⟩ | ⟨h8, h9⟩
    · have hji : j < i := by
        rcases Nat.lt_or_ge j i with hh | hh
        · exact hh
        · rw [List.getElem?_eq_none (by simp; omega)] at hj; cases hj
      rw [List.getElem?_take_of_lt hji] at hj
      have hlj := hahead j (hc5 i e he hmf s hs j e' hj hd)
      subst hr hd
      cases hb : e'.b with
      | false => exact hrB j e' hj hlj hb
      | true =>
        rw [hfl.any hj hb]
        trivial
    · refine h6 s r ?_ fun j e' hj hd => ?_
      · rw [h.keep s ((hc6 i e he).2 hmf s hs)]; exact h8
      · have hb := hc5 i e he hmf s hs j e' hj hd
        have hji := clos_lt hlt i i _ (Nat.le_refl _) hoi j hb
        exact h9 j e' (by rw [List.getElem?_take_of_lt hji]; exact hj) hd
  -- its resource
  obtain ⟨rest, hp1, hk1⟩ : ∃ rest, (Δr ++ Δt).Perm (useD Δ e.u ++ rest) ∧ keepD Δ e.u = useD Δ e.u := by
    rcases f3 with hu | ⟨kk, d, hu, hkd, hd⟩
    · rw [hu]; exact ⟨_, List.Perm.refl _, rfl⟩
    · rw [hu]
      obtain ⟨q, hq⟩ := List.getElem?_of_mem (List.mem_append_left Δt hd)
      exact ⟨_, by simp only [useD, hkd]; exact perm_front q d hq, by simp [useD, keepD, hkd]⟩
  have hown := h5.perm hp1
  have hownU : Owns (useD Δ e.u) S w := ⟨fun d hd => hown.holds d (List.mem_append.2 (.inl hd)), fun b ⟨d, hd, hb⟩ => hown.own b ⟨d, List.mem_append.2 (.inl hd), hb⟩, (List.pairwise_append.1 hown.apart).1⟩
  have hgo := hDV.run S w a (fun a' w' => TI c full Γ0 acc must T vs Δr k Γt Δt (L.setIfInBounds i true) a' w') Q h3.dom hneeds hownU fun S' w' v hs hr ho hf => by
    have hdl : e.d < a.tmps.size := by rw [h.tmps]; exact hDV.lt
    have hput : ∀ s, (a.put (some e.d) v).tmps.getD s undef = if e.d = s then v else a.tmps.getD s undef := fun s => getD_put hdl
    have hin : ∀ b, feet (useD Δ e.u) b → feet (Δr ++ Δt) b := fun b ⟨d, hd, hb⟩ => ⟨d, hp1.mem_iff.2 (List.mem_append.2 (.inl hd)), hb⟩
    have hK : Keep S w w' := fun b hb => hs.keep b (h3.dom b hb) (fun hx => (h5.own b (hin b hx)).1 hb)
    rw [f2 v, List.append_nil, hk1] at ho
    have hfr := hown.frame h3.dom hs ho (fun b hb => .inl hb)
    refine ⟨by simpa using h.size, fun j hj => by rw [hsetL j (by omega)]; exact h.tail j hj, fun j hj hjl => ?_, fun j o hj hlj kk hkk => ?_, h.defers, by simpa [Act.put] using h.tmps, h.keep, S', h3.trans hs fun b hb => h4 b (hin b hb), h4, hfr.perm hp1.symm, fun s r hl hno => ?_, fun j e' hj hlj => ?_⟩
    · rw [lst_set hiL]; split
      · rfl
      · exact h.must j hj hjl
    · rw [lst_set hiL]
      split
      · rfl
      · rw [lst_set hiL] at hlj
        split at hlj
        · rename_i hij
          subst hij
          have : o = e.o := by rw [hoi] at hj; cases hj; rfl
          subst this
          exact hpi kk hkk
        · exact h.closed j o hj hlj kk hkk
    · rw [hput, if_neg (hno i e he)]
      exact A.mono hs.sub hK r (h6 s r hl hno)
    · rw [hput]
      by_cases hji : j = i
      · subst hji
        have : e' = e := by rw [he] at hj; cases hj; rfl
        subst this
        rw [if_pos rfl]
        simpa [rB, f1] using hr
      · rw [if_neg (Ne.symm (hother j e' hj hji))]
        exact A.mono hs.sub hK _ (h7 j e' hj (by rw [hsetL j hji] at hlj; exact hlj))
  have hoi' : full.toArray[i]? = some e.o := by simpa using hoi
  unfold wpOpIn
  simp only [hoi']
  split
  · rename_i hw
    rw [if_pos hw] at hgo
    exact hgo
  · rename_i hw
    rw [if_neg hw] at hgo
    rw [hDV.dst]
    exact ⟨fun _ _ => trivial, hgo⟩

/-- The tail at work, l left. -/
def JT (c : Cx) (full : List Oper) (Q : Exit → Act → World → Prop) (Γ0 : Ga) (Δ : List D) (acc : List DE) (must : List Bool) (T : List Nat) (vs : List Value) (Δr : List D) (k : Nat) (l : List Oper) (Γt : Ga) (Δt : List D) : Prop :=
  full = acc.map (·.o) ++ full.drop acc.length → full.drop (acc.length + k) = l → DRs c full.toArray Δ Γ0 acc → chkT full acc must T = true → Fl Δ Δr acc must → vs.length = acc.length →
    ∀ fuel L a w, TI c full Γ0 acc must T vs Δr k Γt Δt L a w → cnt L acc.length + l.length ≤ fuel → wpAnyIn (FW c.rd) 0 c.P .any full.toArray Q fuel L a w

theorem JT.nil (h : JN c (Q .normal) (GB acc vs ++ Γt) (Δr ++ Δt)) : JT c full Q Γ0 Δ acc must T vs Δr k [] Γt Δt := by
  intro hfull hdr hDR hck hfl hvs fuel
  obtain ⟨hc1, hlt, hc3, hc4, hc5, hc6, hc7⟩ := chkT_parts hck
  have hlen : full.length ≤ acc.length + k := by simpa using hdr
  have fin : ∀ L a w, TI c full Γ0 acc must T vs Δr k Γt Δt L a w → cnt L acc.length = 0 → Region.ready .any full.toArray L = [] ∧ Q .normal a w := by
    intro L a w hI h0
    have hall := cnt_zero h0
    constructor
    · rw [List.eq_nil_iff_forall_not_mem]
      intro i hi
      obtain ⟨o, h3, h4, _⟩ := (ready_iff hI.size).1 hi
      have hil : i < full.length := by
        rcases Nat.lt_or_ge i full.length with h | h
        · exact h
        · simp [List.getElem?_eq_none h] at h3
      rcases Nat.lt_or_ge i acc.length with h | h
      · rw [hall i h] at h4; cases h4
      · rw [hI.tail i h] at h4
        simp at h4
        omega
    · obtain ⟨S, h3, h4, h5, h6, h7⟩ := hI.ex
      refine h a w ⟨hI.defers, hI.tmps, S, h3, h4, h5, fun s r hl => ?_⟩
      rcases lk_GB hvs hl with ⟨j, e, hj, hd, hr⟩ | ⟨h8, h9⟩
      · have hjl : j < acc.length := by
          rcases Nat.lt_or_ge j acc.length with h | h
          · exact h
          · simp [List.getElem?_eq_none h] at hj
        subst hd hr
        exact h7 j e hj (hall j hjl)
      · exact h6 s r h9 h8
  induction fuel with
  | zero =>
    intro L a w hI hf
    exact fin L a w hI (by omega)
  | succ n ih =>
    intro L a w hI hf
    refine ⟨fun hr => ?_, fun i hi => ?_⟩
    · by_cases h0 : cnt L acc.length = 0
      · exact (fin L a w hI h0).2
      · obtain ⟨j, hj1, hj2, hj3⟩ := cnt_pos h0
        obtain ⟨oj, hoj⟩ : ∃ oj, full[j]? = some oj := ⟨_, List.getElem?_eq_getElem (by omega)⟩
        have : j ∈ Region.ready .any full.toArray L := (ready_iff hI.size).2 ⟨oj, hoj, hj2, fun i hi => hj3 i (hlt j oj hoj i hi)⟩
        rw [hr] at this
        cases this
    · obtain ⟨oi, hoi, hli, hpi⟩ := (ready_iff hI.size).1 hi
      have hil : i < full.length := by
        rcases Nat.lt_or_ge i full.length with h | h
        · exact h
        · simp [List.getElem?_eq_none h] at hoi
      have hia : i < acc.length := by
        rcases Nat.lt_or_ge i acc.length with h | h
        · exact h
        · rw [hI.tail i h] at hli
          simp at hli
          omega
      refine wpOpIn_mono (fun a' w' hI' => ih _ a' w' hI' ?_) (TI.float hfull hDR hck hfl hI hia hi)
      have hiL : i < L.size := by rw [hI.size]; exact hil
      have := cnt_set (L := L) (L' := L.setIfInBounds i true) (i := i) (fun j hj => by rw [lst_set hiL, if_neg (Ne.symm hj)]) hli (by rw [lst_set hiL, if_pos rfl]) hia
      omega

/-- The slots that a tail's operation asks for have come up ahead of it. -/
def chkN (full : List Oper) (acc : List DE) (i : Nat) (N : List (Operand × A)) : Bool :=
  (slotsOf N).all fun s => acc.zipIdx.all fun (e', j) => e'.d != s || ((clos [] full).getD i 0).testBit j

section
variable {o : Oper} {N : List (Operand × A)} {Δu : List D} {X : Type} {R : X → A × List D} {r : A} {d : Nat}

theorem JT.core (hg : o.guard = none) (ht : OpT c.P o N Δu R) (hh : Has (GB acc vs ++ Γt) N) (hN : chkN full acc (acc.length + k) N = true)
    (G' : X → Ga) (hG : ∀ x (a : Act) (v : Value) (S' : FS) (w' : World), a.tmps.size = c.N → (R x).1.holds S' w' v → (∀ s r, lk Γt s = some r → (∀ (j : Nat) (e : DE), acc[j]? = some e → e.d ≠ s) → r.holds S' w' (a.tmps.getD s undef)) →
      (∀ s r, lk (G' x) s = some r → (∀ (j : Nat) (e : DE), acc[j]? = some e → e.d ≠ s) → r.holds S' w' ((a.put o.dst v).tmps.getD s undef)))
    (hK : ∀ x, (∀ s, T.contains s = false → lk Γt s = lk Γ0 s) → ∀ s, T.contains s = false → lk (G' x) s = lk Γ0 s)
    (hD : ∀ (a : Act) (v : Value) (e : DE), a.tmps.size = c.N → e ∈ acc → T.contains e.d = false → (a.put o.dst v).tmps.getD e.d undef = a.tmps.getD e.d undef)
    (h : ∀ x, JT c full Q Γ0 Δ acc must T vs Δr (k + 1) l (G' x) ((R x).2 ++ F)) : JT c full Q Γ0 Δ acc must T vs Δr k (o :: l) Γt (Δu ++ F) := by
  intro hfull hdr hDR hck hfl hvs fuel
  obtain ⟨hc1, hlt, hc3, hc4, hc5, hc6, hc7⟩ := chkT_parts hck
  have hjl : acc.length + k < full.length := by
    rcases Nat.lt_or_ge (acc.length + k) full.length with h | h
    · exact h
    · rw [List.drop_eq_nil_of_le h] at hdr; cases hdr
  have hdr0 := hdr
  rw [List.drop_eq_getElem_cons hjl] at hdr
  simp only [List.cons.injEq] at hdr
  obtain ⟨hd1, hd2⟩ := hdr
  have ho : full[acc.length + k]? = some o := by rw [List.getElem?_eq_getElem hjl, hd1]
  induction fuel with
  | zero =>
    intro L a w hI hf
    simp only [List.length_cons] at hf
    omega
  | succ n ih =>
    intro L a w hI hf
    simp only [List.length_cons] at hf
    have hne : Region.ready .any full.toArray L ≠ [] := by
      by_cases h0 : cnt L acc.length = 0
      · have hall := cnt_zero h0
        have hrj : acc.length + k ∈ Region.ready .any full.toArray L := (ready_iff hI.size).2 ⟨o, ho, by rw [hI.tail _ (by omega)]; simp, fun i hi => by
          have := hlt _ o ho i hi
          rcases Nat.lt_or_ge i acc.length with h | h
          · exact hall i h
          · rw [hI.tail i h]; simpa using this⟩
        intro hr; rw [hr] at hrj; cases hrj
      · obtain ⟨j, hj1, hj2, hj3⟩ := cnt_pos h0
        obtain ⟨oj, hoj⟩ : ∃ oj, full[j]? = some oj := ⟨_, List.getElem?_eq_getElem (by omega)⟩
        have : j ∈ Region.ready .any full.toArray L := (ready_iff hI.size).2 ⟨oj, hoj, hj2, fun i hi => hj3 i (hlt j oj hoj i hi)⟩
        intro hr; rw [hr] at this; cases this
    refine ⟨fun hr => absurd hr hne, fun i hi => ?_⟩
    obtain ⟨oi, hoi, hli, hpi⟩ := (ready_iff hI.size).1 hi
    have hil : i < full.length := by
      rcases Nat.lt_or_ge i full.length with h | h
      · exact h
      · simp [List.getElem?_eq_none h] at hoi
    have hiL : i < L.size := by rw [hI.size]; exact hil
    rcases Nat.lt_or_ge i acc.length with hia | hia
    · refine wpOpIn_mono (fun a' w' hI' => ih _ a' w' hI' ?_) (TI.float hfull hDR hck hfl hI hia hi)
      have := cnt_set (L := L) (L' := L.setIfInBounds i true) (i := i) (fun j hj => by rw [lst_set hiL, if_neg (Ne.symm hj)]) hli (by rw [lst_set hiL, if_pos rfl]) hia
      simp only [List.length_cons]
      omega
    · have hle : acc.length + k ≤ i := by
        rw [hI.tail i hia] at hli
        simpa using hli
      have hik : i = acc.length + k := by
        rcases Nat.lt_or_ge (acc.length + k) i with hh | hh
        · exfalso
          have := ahead hI.closed hlt i i oi (Nat.le_refl _) hoi hpi (acc.length + k) (hc3 i hia hil _ (by omega) hh)
          rw [hI.tail _ (by omega)] at this
          simp at this
        · omega
      subst hik
      have hoe : oi = o := by rw [ho] at hoi; cases hoi; rfl
      subst hoe
      have hahead := ahead hI.closed hlt _ _ oi (Nat.le_refl _) ho hpi
      obtain ⟨S, h3, h4, h5, h6, h7⟩ := hI.ex
      have hneeds : Needs S w a N := Needs.of_slots hh fun s r hs hl => by
        rcases lk_GB hvs hl with ⟨j, e, hj, hd, hr⟩ | ⟨h8, h9⟩
        · unfold chkN at hN
          rw [List.all_eq_true] at hN
          have := mem_zipIdx (hN s hs) hj
          simp only [hd, bne_self_eq_false, Bool.false_or] at this
          subst hd hr
          exact h7 j e hj (hahead j this)
        · exact h6 s r h9 h8
      have hp1 : (Δr ++ (Δu ++ F)).Perm (Δu ++ (Δr ++ F)) := by
        rw [← List.append_assoc, ← List.append_assoc]
        exact List.Perm.append_right _ List.perm_append_comm
      have hown := h5.perm hp1
      have hownU : Owns Δu S w := ⟨fun d hd => hown.holds d (List.mem_append.2 (.inl hd)), fun b ⟨d, hd, hb⟩ => hown.own b ⟨d, List.mem_append.2 (.inl hd), hb⟩, (List.pairwise_append.1 hown.apart).1⟩
      have hgo : oi.wpIn (FW c.rd) 0 c.P a w (fun a' w' => wpAnyIn (FW c.rd) 0 c.P .any full.toArray Q n (L.setIfInBounds (acc.length + k) true) a' w') Q := ht.run c.rd S w a _ Q h3.dom hneeds hownU fun x S' w' v hs hr ho' hf' => by
        have hin : ∀ b, feet Δu b → feet (Δr ++ (Δu ++ F)) b := fun b ⟨d, hd, hb⟩ => ⟨d, hp1.mem_iff.2 (List.mem_append.2 (.inl hd)), hb⟩
        have hKp : Keep S w w' := fun b hb => hs.keep b (h3.dom b hb) (fun hx => (h5.own b (hin b hx)).1 hb)
        have hfr := hown.frame h3.dom hs ho' hf'
        have hp2 : ((R x).2 ++ (Δr ++ F)).Perm (Δr ++ ((R x).2 ++ F)) := by
          rw [← List.append_assoc, ← List.append_assoc]
          exact List.Perm.append_right _ List.perm_append_comm
        refine h x hfull (by rw [← hd2]; rfl) hDR hck hfl hvs n _ _ w' ⟨by simpa using hI.size, fun j hj => ?_, fun j hj hjl => ?_, fun j o' hj hlj kk hkk => ?_, (by cases oi.dst <;> simpa [Act.put] using hI.defers), by simpa [Act.put] using (by cases oi.dst <;> simpa [Act.put] using hI.tmps : (a.put oi.dst v).tmps.size = c.N), hK x hI.keep, S', h3.trans hs fun b hb => h4 b (hin b hb), fun b hb => ?_, hfr.perm hp2, hG x a v S' w' hI.tmps hr (fun s r hl hno => A.mono hs.sub hKp r (h6 s r hl hno)), fun j e hj hlj => ?_⟩ ?_
        · rw [lst_set hiL]
          split
          · rename_i hh; subst hh; simp
          · rename_i hh
            rw [hI.tail j hj]
            rw [decide_eq_decide]
            omega
        · rw [lst_set hiL]; split
          · rfl
          · exact hI.must j hj hjl
        · rw [lst_set hiL]
          split
          · rfl
          · rw [lst_set hiL] at hlj
            split at hlj
            · rename_i hij
              subst hij
              have : o' = oi := by rw [ho] at hj; cases hj; rfl
              subst this
              exact hpi kk hkk
            · exact hI.closed j o' hj hlj kk hkk
        · rw [feet_perm hp2.symm] at hb
          obtain ⟨d', hd', hbd⟩ := hb
          rcases List.mem_append.1 hd' with hd' | hd'
          · rcases hf' b ⟨d', hd', hbd⟩ with hh | hh
            · exact h4 b (hin b hh)
            · exact .inr (Nat.le_trans h3.size hh)
          · exact h4 b ⟨d', hp1.mem_iff.2 (List.mem_append.2 (.inr hd')), hbd⟩
        · rw [hD a v e hI.tmps (List.mem_of_getElem? hj) (hc6 j e hj).1]
          refine A.mono hs.sub hKp _ (h7 j e hj ?_)
          rw [lst_set hiL, if_neg (by
            intro hh
            have : j < acc.length := by
              rcases Nat.lt_or_ge j acc.length with h | h
              · exact h
              · simp [List.getElem?_eq_none h] at hj
            omega)] at hlj
          exact hlj
        · have := cnt_same (L := L) (L' := L.setIfInBounds (acc.length + k) true) (i := acc.length + k) (fun j hj => by rw [lst_set hiL, if_neg (Ne.symm hj)]) (t := acc.length) (by omega)
          rw [this]
          omega
      have ho2 : full.toArray[acc.length + k]? = some oi := by simpa using ho
      unfold wpOpIn
      simp only [ho2]
      rw [if_pos (wanted_none hg _)]
      exact hgo

/-- A tail's operation that yields nothing. -/
theorem JT.n (hg : o.guard = none) (hd : o.dst = none) (ht : OpT c.P o N Δu R) (hh : Has (GB acc vs ++ Γt) N) (hN : chkN full acc (acc.length + k) N = true)
    (h : ∀ x, JT c full Q Γ0 Δ acc must T vs Δr (k + 1) l Γt ((R x).2 ++ F)) : JT c full Q Γ0 Δ acc must T vs Δr k (o :: l) Γt (Δu ++ F) :=
  JT.core hg ht hh hN (fun _ => Γt) (fun x a v S' w' _ _ hs => by rw [hd]; exact hs) (fun _ h => h) (fun a v e _ _ _ => by rw [hd]; rfl) h

/-- A tail's operation that yields into slot d. -/
theorem JT.y (hg : o.guard = none) (hd : o.dst = some d) (hdN : Nat.blt d c.N = true) (hdT : T.contains d = true) (ht : OpT c.P o N Δu R) (hh : Has (GB acc vs ++ Γt) N) (hN : chkN full acc (acc.length + k) N = true)
    (h : ∀ x, JT c full Q Γ0 Δ acc must T vs Δr (k + 1) l ((d, (R x).1) :: Γt) ((R x).2 ++ F)) : JT c full Q Γ0 Δ acc must T vs Δr k (o :: l) Γt (Δu ++ F) := by
  have hlt : d < c.N := Nat.blt_eq ▸ hdN
  refine JT.core hg ht hh hN (fun x => (d, (R x).1) :: Γt) (fun x a v S' w' hsz hr hs s r hl hno => ?_) (fun x hk s hsT => ?_) (fun a v e hsz he hT => ?_) h
  · rw [hd, getD_put (by omega)]
    simp only [lk] at hl
    split at hl
    · rename_i e; cases hl; rw [if_pos e]; exact hr
    · rename_i e; rw [if_neg e]; exact hs s r hl hno
  · simp only [lk]
    rw [if_neg (fun e => by subst e; rw [hdT] at hsT; cases hsT)]
    exact hk s hsT
  · rw [hd, getD_put (by omega), if_neg (fun e' => by rw [e'] at hdT; rw [hdT] at hT; cases hT)]

/-- What is made by free operations is there. -/
def BH : List DE → List Value → Prop
  | e :: es, v :: vs => (∀ d ∈ e.E v, ∃ S w, d.holds S w) ∧ BH es vs
  | _, _ => True

theorem BH.of : ∀ {es : List DE} {vs : List Value}, (∀ d ∈ births es vs, ∃ S w, d.holds S w) → BH es vs
  | e :: es, v :: vs, h => ⟨fun d hd => h d (List.mem_append.2 (.inl hd)), BH.of fun d hd => h d (List.mem_append.2 (.inr hd))⟩
  | [], _, _ => by unfold BH; trivial
  | _ :: _, [], _ => by unfold BH; trivial

theorem DR.finT (must : List Bool) (T : List Nat) (Δr : List D) (hck : chkT full acc must T = true) (hfl : Fl Δ Δr acc must) (hm : c.P.follows .mixedOrders = true)
    (h : ∀ vs : List Value, vs.length = acc.length → BH acc vs → ∃ ks Δt, pickD (endD Δ acc vs) ks = some (Δr ++ Δt) ∧ ks.Nodup ∧ JT c full Q Γ0 Δ acc must T vs Δr 0 l Γ0 Δt) : DR c id full Q Γ0 Δ acc l Γ := by
  intro hfull hDR hΓ ops hren a w hst
  refine wpIn_region_ren hren hm ?_
  have hst' := hst.drew
  generalize { w with drawn := w.drawn + 1 } = w1 at hst'
  have hck0 : chk0 full acc = true := by
    unfold chkT at hck
    simp only [Bool.and_eq_true] at hck
    exact Bool.and_eq_true_iff.2 ⟨hck.1.1.1.1.1.1, hck.1.1.1.1.1.2⟩
  obtain ⟨hc1, hlt, hc3, hc4, hc5, hc6, hc7⟩ := chkT_parts hck
  have hdrop : full.drop acc.length = l := by
    rw [hfull, List.drop_append_of_le_length (by simp), List.drop_eq_nil_of_le (by simp), List.nil_append]
  have hlen : full.length = acc.length + l.length := by rw [hfull]; simp
  have conv : ∀ L a w, Inv c full Γ0 Δ acc L a w → (∀ j, must.getD j false = true → j < acc.length → lst L j = true) → ∀ fuel, cnt L acc.length + l.length ≤ fuel → wpAnyIn (FW c.rd) 0 c.P .any full.toArray Q fuel L a w := by
    intro L a w hI hmu fuel hf
    obtain ⟨S, h3, h4, h5, h6, h7⟩ := hI.ex
    have hund : ∀ (j : Nat) (e : DE), acc[j]? = some e → lst L j = false → (∀ v, e.E v = []) ∧ ∀ k, eats e k = false := fun j e he hl => by
      have hjl : j < acc.length := by
        rcases Nat.lt_or_ge j acc.length with h | h
        · exact h
        · simp [List.getElem?_eq_none h] at he
      have hmf : must.getD j false = false := by
        cases hm : must.getD j false with
        | false => rfl
        | true => have := hmu j hm hjl; rw [hl] at this; cases this
      obtain ⟨f1, f2, f3⟩ := hfl.nth he hmf
      refine ⟨f2, fun k => ?_⟩
      rcases f3 with hu | ⟨kk, d, hu, _⟩ <;> simp [eats, hu]
    have hD : endD Δ acc (acc.map fun e => a.tmps.getD e.d undef) = atD Δ acc L a := by
      unfold endD atD
      have e1 : ∀ (es : List DE) (m : Nat), (∀ (j : Nat) (e : DE), es[j]? = some e → lst L (m + j) = false → ∀ v, e.E v = []) → births es (es.map fun e => a.tmps.getD e.d undef) = blist L a m es := by
        intro es
        induction es with
        | nil => intro m _; rfl
        | cons x es ih =>
          intro m hh
          simp only [List.map_cons, births, blist]
          rw [ih (m + 1) fun j e he hl => hh (j + 1) e (by simpa using he) (by rw [← hl]; congr 1; omega)]
          cases hl : lst L m with
          | true => rfl
          | false => rw [hh 0 x rfl (by simpa using hl)]; rfl
      have e2 : ∀ (k : Nat) (es : List DE) (m : Nat), (∀ (j : Nat) (e : DE), es[j]? = some e → lst L (m + j) = false → eats e k = false) → upTo L k m es = usedUp es k := by
        intro k es
        induction es with
        | nil => intro m _; rfl
        | cons x es ih =>
          intro m hh
          simp only [upTo, usedUp, List.any_cons]
          rw [ih (m + 1) fun j e he hl => hh (j + 1) e (by simpa using he) (by rw [← hl]; congr 1; omega)]
          cases hl : lst L m with
          | true => rfl
          | false => rw [hh 0 x rfl (by simpa using hl)]; rfl
      rw [e1 acc 0 fun j e he hl => (hund j e he (by simpa using hl)).1]
      congr 1
      have : ∀ (l : List D) (k : Nat), endD.keepFrom acc k l = keepP (fun k => !upTo L k 0 acc) k l := by
        intro l
        induction l with
        | nil => intro k; rfl
        | cons x l ih =>
          intro k
          simp only [endD.keepFrom, keepP, e2 k acc 0 (fun j e he hl => (hund j e he (by simpa using hl)).2 k), ih]
          cases usedUp acc k <;> rfl
      exact this Δ 0
    have hBH : BH acc (acc.map fun e => a.tmps.getD e.d undef) := BH.of fun d hd => ⟨S, w, h5.holds d (by rw [← hD]; exact List.mem_append.2 (.inr hd))⟩
    obtain ⟨ks, Δt, hk, hn, hj⟩ := h (acc.map fun e => a.tmps.getD e.d undef) (by simp) hBH
    refine hj (by rw [hdrop]; exact hfull) (by simpa using hdrop) hDR hck hfl (by simp) fuel L a w ?_ hf
    rw [hD] at hk
    have hm' : ∀ d ∈ Δr ++ Δt, d ∈ atD Δ acc L a := fun d hd => by
      obtain ⟨k, _, h⟩ := mem_of_pickD hk d hd
      exact List.mem_of_getElem? h
    refine ⟨hI.size, fun j hj => by rw [hI.past j hj]; simp; omega, hmu, hI.closed, hI.defers, hI.tmps, fun _ _ => rfl, S, h3, fun b ⟨d, hd, e⟩ => h4 b ⟨d, hm' d hd, e⟩,
      ⟨fun d hd => h5.holds d (hm' d hd), fun b ⟨d, hd, e⟩ => h5.own b ⟨d, hm' d hd, e⟩, pickD_pairwise (fun _ _ h b e e' => h b e' e) h5.apart hn hk⟩,
      fun s r hl hno => h6 s r hl fun j e hj _ => hno j e hj, fun j e hj hlj => ?_⟩
    have := h7 j e hj hlj
    unfold rB
    split
    · have hv : (acc.map fun e => a.tmps.getD e.d undef).getD j undef = a.tmps.getD e.d undef := by
        rw [List.getD_eq_getElem?_getD, List.getElem?_map, hj]; rfl
      rw [hv]
      exact rfl
    · exact this
  have key : ∀ fuel L a w, Inv c full Γ0 Δ acc L a w → cnt L acc.length + l.length ≤ fuel → wpAnyIn (FW c.rd) 0 c.P .any full.toArray Q fuel L a w := by
    intro fuel
    induction fuel with
    | zero =>
      intro L a w hI hf
      exact conv L a w hI (fun j _ hj => cnt_zero (by omega) j hj) 0 hf
    | succ n ih =>
      intro L a w hI hf
      by_cases hmu : ∀ j, must.getD j false = true → j < acc.length → lst L j = true
      · exact conv L a w hI hmu (n + 1) hf
      · have h0 : cnt L acc.length ≠ 0 := fun h0 => hmu fun j _ hj => cnt_zero h0 j hj
        obtain ⟨j, hj1, hj2, hj3⟩ := cnt_pos h0
        obtain ⟨oj, hoj⟩ : ∃ oj, full[j]? = some oj := ⟨_, List.getElem?_eq_getElem (by omega)⟩
        have hrj : j ∈ Region.ready .any full.toArray L := (ready_iff hI.size).2 ⟨oj, hoj, hj2, fun i hi => hj3 i (hlt j oj hoj i hi)⟩
        refine ⟨fun hh => (by rw [hh] at hrj; cases hrj), fun i hi => ?_⟩
        obtain ⟨oi, hoi, hli, hpi⟩ := (ready_iff hI.size).1 hi
        have hil : i < full.length := by
          rcases Nat.lt_or_ge i full.length with h | h
          · exact h
          · simp [List.getElem?_eq_none h] at hoi
        have hahead := ahead hI.closed hlt i i oi (Nat.le_refl _) hoi hpi
        have hit : i < acc.length := by
          rcases Nat.lt_or_ge i acc.length with h | h
          · exact h
          · exfalso
            by_cases hip : i = acc.length
            · exact hmu fun j hm hj => hahead j (by rw [hip]; exact hc4 j hj hm)
            · have := hahead acc.length (hc3 i h hil _ (Nat.le_refl _) (by omega))
              rw [hI.past _ (Nat.le_refl _)] at this
              cases this
        refine wpOpIn_mono (fun a' w' hI' => ih _ a' w' hI' ?_) (Inv.step hfull hDR hck0 hI hit hi)
        have hiL : i < L.size := by rw [hI.size]; exact hil
        have := cnt_set (L := L) (L' := L.setIfInBounds i true) (i := i) (fun j hj => by rw [lst_set hiL, if_neg (Ne.symm hj)]) hli (by rw [lst_set hiL, if_pos rfl]) hit
        omega
  refine key full.toArray.size _ a w1 (Inv.start hst') ?_
  have : ∀ t, cnt (Array.replicate full.toArray.size false) t ≤ t := by
    intro t
    induction t with
    | zero => exact Nat.le_refl _
    | succ t ih => simp only [cnt]; split <;> omega
  have := this acc.length
  simp only [List.size_toArray] at this ⊢
  omega
end
end
end K
end Go.Proofs.Ytfhdclhbdmhnmaa
