/- The calculus, part 28: from a contract to the given statement: one argument, a slice of ints; the answer true; no goroutine is started. -/
import Derived.Test.YtfhdclhbdmhnmaaCore27
import Derived.Conc.Holds
import Derived.ChangeSame
import Derived.ChangeSlices
import Derived.JoinedOf
import Derived.JoinedAt
import Derived.RowKit3
import Derived.SizedLaws
namespace Go.Proofs.Ytfhdclhbdmhnmaa
namespace K
open Go Go.ChangeShapes Go.WideShapes Go.ChangeAt Go.RowKit

/-- Nobody else is there: so nobody else does anything. -/
theorem leaving_of_handed {a : Assume} {C : Checked} {os : Os} {f : FuncId} {r : Reach} {Pre : World → Array Value → Prop} {Post : World → Array Value → Value → World → Prop} (h : ReturnsInHanded a C os f r Pre Post) : ReturnsInLeavingWide a C os f r Pre Post := fun enter => by
  obtain ⟨g0, g1, g2, g3, all1⟩ := h enter
  refine ⟨g0, g1, g2, g3, fun w tape i hf => ?_⟩
  obtain ⟨n, v, w', hn, hc, hr, hp, ⟨j, last, hj, hs, hq, hh, he⟩, ha⟩ := all1 w tape i hf
  exact ⟨n, v, w', hn, hc, hr, hp, ⟨j, last, hj, hs, hh, onlyLeaving_of_quiet hq, he⟩, ha⟩

section
variable {H : Type} {enc : TypeId × Value → H} {P : Program}

/-- A conclusion where what was there stands as it was. -/
theorem post_new {f : Func} {s : ChangeSpec} {apart fresh handsOn again : Bool} {W W' : World} {args : Array Value} {v : Value} {ds gs : List (DataW H)} {before pa pv : List MemPlace}
    (hW : DataW.Whole enc P f.params.toList s.vars apart W args.toList ds gs before)
    (hres : ∀ (b : Nat) (sp : Nat → Bool) (hd : Bool), DataW.TrodAll enc P W' b sp hd f.resultTypes.toList (v.resultList f.resultTypes.size) (s.fn H (ds ++ gs)).results [])
    (hargs : ∀ sp : Nat → Bool, (∀ p ∈ before, sp p.block = true) → DataW.TrodAll enc P W' 0 sp true f.params.toList args.toList (s.fn H (ds ++ gs)).args pa)
    (hvars : ∀ sp : Nat → Bool, (∀ p ∈ before, sp p.block = true) → DataW.TrodVars enc P W' sp s.vars (s.fn H (ds ++ gs)).vars pv)
    (hps : before = pa ++ pv) (hk : W.keptBut W' (· ∈ before)) (hfz : ∀ a : Addr, a.block < W.heap.size → W'.frozen? a = W.frozen? a)
    (hok : ∀ (j : Nat) (t : TypeId) (r : Value), f.resultTypes[j]? = some t → (v.resultList f.resultTypes.size)[j]? = some r → Value.okWide P W' .any 0 t r) :
    s.post enc P f apart fresh handsOn again W args v W' := by
  have hlt : ∀ p ∈ before, p.block < W.heap.size := fun p hp => hW.lt p hp
  have hold : ∀ p ∈ before, (fun b => decide (b < W.heap.size)) p.block = true := fun p hp => by simpa using hlt p hp
  refine ⟨ds, gs, before, [], pa, pv, hW, hres _ _ _, hargs _ hold, hvars _ hold, World.keptBut_mono (fun p hp => ⟨hp, ?_⟩) hk, fun _ => ?_⟩
  · rw [hps, List.mem_append] at hp
    exact Or.inr hp
  · obtain ⟨_, _, _, _, _, hz, hn⟩ := hW
    refine ⟨hok, _, _, ([] ++ pa) ++ pv, ⟨[] ++ pa, pv, trodAll_append (hargs _ (fun _ _ => rfl)) (hres _ _ _), hvars _ (fun _ _ => rfl), rfl, ?_, ?_⟩, ?_⟩
    · intro b off hp
      have hp' : MemPlace.cell b off ∈ before := by rw [hps]; simpa using hp
      rw [hfz _ (hlt _ hp')]
      exact hz b off hp'
    · intro ha
      have := hn ha
      rw [hps] at this
      simpa using this
    · intro p hp _
      rw [hps]
      simpa using hp

theorem step_kept {S S' : FS} {W W' : World} {may : MemPlace → Prop} (h : Step (feet []) S W S' W') : W.keptBut W' may ∧ ∀ a : Addr, a.block < W.heap.size → W'.frozen? a = W.frozen? a := by
  have hk : ∀ b, b < W.heap.size → W'.heap[b]? = W.heap[b]? := fun b hb => h.keep b hb (fun hx => feet_nil hx)
  refine ⟨⟨h.os, h.output, fun i hi => by rw [hk i hi]; exact (World.keptBut_refl W may).2.2 i hi⟩, fun a ha => ?_⟩
  unfold World.frozen?
  rw [hk _ ha]

theorem rd_ints {S : FS} {W : World} {a : Addr} {len cap : Nat} {zs : List Int} (hl : len ≤ cap) (hz : len ≤ zs.length) (hS : S a.block) (hcell : ∀ i, i < zs.length → W.cell? (a.add i) = some (.int .i64 (zs.getD i 0))) :
    rd S W (.slice (.int .i64)) (zs.take len) [.slice (some a) len cap] := by
  cases len with
  | zero => exact .inl ⟨some a, cap, rfl, by simp⟩
  | succ n =>
    have h0 := hcell 0 (by omega)
    obtain ⟨b, off, sp⟩ := a
    unfold World.cell? at h0
    split at h0
    · rename_i c T fz hb
      split at h0
      · cases h0
      rename_i hsp
      have hsp' : sp = none := by cases sp with
        | none => rfl
        | some x => simp [Addr.add] at hsp
      subst hsp'
      have hb' : W.heap[b]? = some (.cells c T fz) := hb
      have hlen : (zs.take (n + 1)).length = n + 1 := by rw [List.length_take]; omega
      refine .inr ⟨b, off, cap, c, T, fz, by rw [hlen], by rw [hlen]; exact hl, hS, hb', ?_⟩
      have hc : ∀ i, i < zs.length → c[off + i]? = some (.int .i64 (zs.getD i 0)) := fun i hi => by
        have := hcell i hi
        by_cases hi0 : i = 0
        · subst hi0
          simpa [World.cell?, Addr.add, hb'] using this
        · simpa [World.cell?, Addr.add, hb', hi0] using this
      rw [hlen]
      have key : (c.toList.drop off).take ((n + 1) * 1) = (zs.take (n + 1)).map (fun x => Value.int .i64 x) := by
        apply List.ext_getElem?
        intro i
        rw [Nat.mul_one, List.getElem?_map]
        by_cases hi : i < n + 1
        · have hi' : i < zs.length := by omega
          have e1 : c.toList[off + i]? = some (.int .i64 (zs.getD i 0)) := by rw [Array.getElem?_toList]; exact hc i hi'
          rw [List.getElem?_take, if_pos hi, List.getElem?_drop, e1, List.getElem?_take, if_pos hi]
          simp [List.getD, hi']
        · rw [List.getElem?_take, if_neg hi, List.getElem?_take, if_neg hi]
          rfl
      show rdAll _ _ ((c.toList.drop off).take ((n + 1) * 1))
      rw [key]
      generalize zs.take (n + 1) = l
      induction l with
      | nil => rfl
      | cons x l ih => exact ⟨[.int .i64 x], l.map _, rfl, rfl, ih⟩
    · cases h0

/-- **From a contract to what the row asks of a call.** -/
theorem close_ints {f : Nat} {fn : Func} {T e B : TypeId} {s : ChangeSpec} (hp : fn.params = #[T]) (hr : fn.resultTypes = #[B]) (hT : P.underlying T = some (.slice e)) (he : P.underlying e = some (.int .i64)) (hc : P.cellsOf e = 1) (hB : P.underlying B = some .bool)
    (hs : ∀ d : DataW H, s.fn H [d] = { results := [.lit (.bool true)], args := [d] }) (hv : s.vars = [])
    (law : ∀ a0 : List Int, (∀ n ∈ a0, (Lit.int .i64 n).wf = true) → a0.length ≤ maxLen → Ctr P f [.rep (.slice (.int .i64)) a0] [] (fun _ : Unit => (resA [.eq (.bool true)], [])))
    (W : World) (base : Nat) (args : Array Value) (ds gs : List (DataW H)) (before : List MemPlace)
    (hval : ∀ (j : Nat) t v, fn.params[j]? = some t → args[j]? = some v → Value.okWide P W .any base t v)
    (hW : DataW.Whole enc P fn.params.toList s.vars false W args.toList ds gs before) :
    Calls P f args W fun e W' => ∃ v, e = .returned v ∧ s.post enc P fn false true false false W args v W' := by
  have hW' := hW
  obtain ⟨p, q, hA, hV, rfl, _, _⟩ := hW
  rw [hp] at hA hval
  rw [hv] at hV
  obtain ⟨v0, d0, rfl, rfl, h0⟩ := trodAll_one hA
  obtain ⟨rfl, rfl⟩ := trodVars_none hV
  obtain ⟨a0, len, cap, rfl⟩ := okWide_slice hT (hval 0 T v0 rfl rfl)
  obtain ⟨fuel, hf⟩ := h0
  simp only [List.append_nil] at hW'
  rcases open_ints hT he hc hf with ⟨hcs, hx⟩ | ⟨a, len', cap', zs, hcs, _, hl, hm, hz, hx, hcell, hwz⟩
  · simp [Value.cells] at hcs
    obtain ⟨rfl, rfl, rfl⟩ := hcs
    simp only [Prod.mk.injEq] at hx
    obtain ⟨rfl, rfl⟩ := hx
    refine (law [] (by simp) (Nat.zero_le _) (fun _ => False) W [.slice none 0 0] (fun _ h => h.elim) ⟨_, _, rfl, ⟨[.slice none 0 0], .inl ⟨none, 0, rfl, rfl⟩, rfl⟩, rfl⟩ owns_nil).mono ?_
    rintro e' W' ⟨_, S', v, rfl, h1, h2, _, _⟩
    obtain rfl : v = .bool true := h2
    obtain ⟨k1, k2⟩ := step_kept (may := (· ∈ ([] : List MemPlace))) h1
    refine ⟨_, rfl, post_new (pa := []) (pv := []) hW' (fun _ _ _ => ?_) (fun sp _ => ?_) (fun _ _ => ?_) rfl k1 k2 (ok_one hr rfl (okWide_bool_mk hB _))⟩
    · rw [hr, List.append_nil, hs]; exact trodAll_mk1 (shut_bool hB _)
    · rw [hp, List.append_nil, hs]; exact trodAll_mk1 (shut_slice_nil hT)
    · rw [hv, List.append_nil, hs]; rfl
  · simp [Value.cells] at hcs
    obtain ⟨rfl, rfl, rfl⟩ := hcs
    simp only [Prod.mk.injEq] at hx
    obtain ⟨rfl, rfl⟩ := hx
    simp only [if_true] at hz
    have hlz : len ≤ zs.length := by omega
    have hrd : ∀ S : FS, S a.block → rd S W (.slice (.int .i64)) (zs.take len) [.slice (some a) len cap] := fun S hS => rd_ints hl hlz hS hcell
    have hcl : ∀ W' : World, (∀ b, b < W.heap.size → W'.heap[b]? = W.heap[b]?) → ∀ i, i < zs.length → W'.cell? (a.add i) = some (.int .i64 (zs.getD i 0)) := fun W' hk i hi => by
      have h0 := hcell i hi
      have hb : (a.add i).block < W.heap.size := by
        rcases Nat.lt_or_ge (a.add i).block W.heap.size with h | h
        · exact h
        · simp [World.cell?, Array.getElem?_eq_none h] at h0
      rw [← h0]
      simp only [World.cell?, hk _ hb]
    have again : ∀ W' : World, (∀ b, b < W.heap.size → W'.heap[b]? = W.heap[b]?) → ∀ sp : Nat → Bool, (∀ p ∈ MemPlace.row a zs.length, sp p.block = true) → DataW.Trod enc P W' 0 sp true T (.slice (some a) len cap) (.slice (lits .i64 (zs.take len)) (lits .i64 (zs.drop len))) (MemPlace.row a zs.length) := by
      intro W' hk sp hsp
      by_cases hz0 : zs.length = 0
      · have hc0 : cap = 0 := by omega
        have hl0 : len = 0 := by omega
        subst hc0; subst hl0
        have t0 := shut_ints (enc := enc) (w := W') (base := 0) (spare := sp) (held := true) (a := a) (len := 0) (cap := 0) (zs := zs) 0 hT he hc (Nat.zero_le _) (Nat.le_refl _) hm (by simp [hz0]) (hcl W' hk) hwz
        exact ⟨2, by simpa [Value.cells] using t0⟩
      · have hspb : sp a.block = true := by
          have := hsp (.cell a.block a.off) (MemPlace.mem_row.2 ⟨0, by omega, by simp⟩)
          exact this
        have t0 := shut_ints (enc := enc) (w := W') (base := 0) (spare := sp) (held := true) (a := a) (len := len) (cap := cap) (zs := zs) 0 hT he hc (Nat.zero_le _) hl hm (by simp [hspb, hz]) (hcl W' hk) hwz
        exact ⟨2, by simpa [Value.cells] using t0⟩
    have hwl : ∀ n ∈ zs.take len, (Lit.int .i64 n).wf = true := fun n hn => hwz n (List.mem_of_mem_take hn)
    have hll : (zs.take len).length ≤ maxLen := by rw [List.length_take]; omega
    have hcall : Calls P f #[.slice (some a) len cap] W (RPost (fun b => b = a.block ∧ b < W.heap.size) W [] (fun _ : Unit => (resA [.eq (.bool true)], []))) := by
      by_cases hin : a.block < W.heap.size
      · exact law (zs.take len) hwl hll (fun b => b = a.block ∧ b < W.heap.size) W [.slice (some a) len cap] (fun _ h => h.2) ⟨_, _, rfl, ⟨_, hrd _ ⟨rfl, hin⟩, rfl⟩, rfl⟩ owns_nil
      · have hl0 : len = 0 := by
          rcases Nat.eq_zero_or_pos len with h | h
          · exact h
          · exfalso
            have h0 := hcell 0 (by omega)
            have : (a.add 0).block = a.block := by simp [Addr.add]
            simp [World.cell?, this, Array.getElem?_eq_none (Nat.le_of_not_lt hin)] at h0
        subst hl0
        have h1 := law [] (by simp) (Nat.zero_le _) (fun b => b = a.block ∧ b < W.heap.size) W [.slice (some a) 0 cap] (fun _ h => h.2) ⟨_, _, rfl, ⟨[.slice (some a) 0 cap], .inl ⟨some a, cap, rfl, rfl⟩, rfl⟩, rfl⟩ owns_nil
        exact h1
    refine hcall.mono ?_
    rintro e' W' ⟨_, S', v, rfl, h1, h2, _, _⟩
    obtain rfl : v = .bool true := h2
    obtain ⟨k1, k2⟩ := step_kept (may := (· ∈ MemPlace.row a zs.length)) h1
    have hk : ∀ b, b < W.heap.size → W'.heap[b]? = W.heap[b]? := fun b hb => h1.keep b hb (fun hx => feet_nil hx)
    refine ⟨_, rfl, post_new (pa := MemPlace.row a zs.length) (pv := []) hW' (fun _ _ _ => ?_) (fun sp hsp => ?_) (fun _ _ => ?_) (by simp) k1 k2 (ok_one hr rfl (okWide_bool_mk hB _))⟩
    · rw [hr, List.append_nil, hs]; exact trodAll_mk1 (shut_bool hB _)
    · rw [hp, List.append_nil, hs]; exact trodAll_mk1 (again W' hk sp hsp)
    · rw [hv, List.append_nil, hs]; rfl
end
end K
end Go.Proofs.Ytfhdclhbdmhnmaa
