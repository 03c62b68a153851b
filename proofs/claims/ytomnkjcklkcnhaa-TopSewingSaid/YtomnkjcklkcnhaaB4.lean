/- The calculus, part 30: from a contract to the given statement: arguments of any plain type; the answer true; no goroutine is started. -/
import Derived.Test.YtomnkjcklkcnhaaB3
import Derived.Carry
namespace Go.Proofs.Ytomnkjcklkcnhaa
namespace K
open Go Go.ChangeShapes Go.WideShapes Go.ChangeAt Go.RowKit

/-- A type of the program, or a row of fields from a place on, is laid out as a type of the calculus. -/
def MT (P : Program) : Ty → TypeId ⊕ (List Field × Nat) → Prop
 | .int k, .inl T => P.underlying T = some (.int k)
 | .bool, .inl T => P.underlying T = some .bool
 | .slice t, .inl T => ∃ e, P.underlying T = some (.slice e) ∧ P.cellsOf e = t.cells ∧ MT P t (.inl e)
 | .agg t, .inl T => ∃ fs : Array Field, P.underlying T = some (.struct fs) ∧ P.cellsOf T = t.cells ∧ MT P t (.inr (fs.toList, 0))
 | .pair t u, .inr (f :: fs, off) => f.offset = off ∧ P.cellsOf f.type = t.cells ∧ MT P t (.inl f.type) ∧
  ((∃ g, fs = [g] ∧ g.offset = off + t.cells ∧ P.cellsOf g.type = u.cells ∧ MT P u (.inl g.type)) ∨ MT P u (.inr (fs, off + t.cells)))
 | _, _ => False

theorem MT.pos {P : Program} : ∀ (t : Ty) {s : TypeId ⊕ (List Field × Nat)}, MT P t s → 0 < t.cells
 | .int _, _, _ => by simp [Ty.cells]
 | .bool, _, _ => by simp [Ty.cells]
 | .slice _, _, _ => by simp [Ty.cells]
 | .agg t, .inl T, ⟨_, _, _, h⟩ => MT.pos t h
 | .pair t u, .inr (f :: fs, off), ⟨_, _, h, _⟩ => by have := MT.pos t h; simp only [Ty.cells]; omega
 | .agg _, .inr _, h => h.elim
 | .pair _ _, .inl _, h => h.elim
 | .pair _ _, .inr ([], _), h => h.elim
 | .val, .inl _, h => h.elim
 | .val, .inr _, h => h.elim
 | .arr _ _, .inl _, h => h.elim
 | .arr _ _, .inr _, h => h.elim
 | .ptr _, .inl _, h => h.elim
 | .ptr _, .inr _, h => h.elim
 | .tag _ _, .inl _, h => h.elim
 | .tag _ _, .inr _, h => h.elim
 | .ign, .inl _, h => h.elim
 | .ign, .inr _, h => h.elim
 | .alt _, .inl _, h => h.elim
 | .alt _, .inr _, h => h.elim

theorem add_mk {b off i : Nat} : Addr.add ⟨b, off, none⟩ i = ⟨b, off + i, none⟩ := by
 unfold Addr.add;by_cases h : i = 0
 ·subst h; simp
 ·simp [h]
theorem add_inv {a : Addr} {b off i : Nat} (h : a.add (0 * i) = ⟨b, off, none⟩) : a = ⟨b, off, none⟩ := by
 unfold Addr.add at h;rwa [if_pos (Nat.zero_mul i)] at h

/-- Cells that are read stand in a row. -/
theorem cells_row {W : World} {base n : Nat} {a : Addr} {row : List Value} (hn : 0 < n) (h : W.cells? base a n = some row) :
 ∃ b off c T fz, a = ⟨b, off, none⟩ ∧ W.heap[b]? = some (.cells c T fz) ∧ row = (c.toList.drop off).take n := by
 unfold World.cells? at h;split at h
 ·have hl := mapM_some_length h;have hg := mapM_some_get h;rw [List.length_range] at hl;have h0 := hg 0 0 (by simp [hn]);obtain ⟨b, off, sp⟩ := a;rw [List.getElem?_eq_getElem (by omega)] at h0;unfold World.cell? at h0;split at h0
  ·rename_i c T fz hb;split at h0
   ·cases h0
   rename_i hsp
   have hsp' : sp = none := by cases sp with
    | none => rfl
    | some x => simp [Addr.add] at hsp
   subst hsp';have hb' : W.heap[b]? = some (.cells c T fz) := hb;refine ⟨b, off, c, T, fz, rfl, hb', ?_⟩;apply List.ext_getElem?;intro i;by_cases hi : i < n
   ·have := hg i i (by simp [hi]);rw [← this, List.getElem?_take, if_pos hi, List.getElem?_drop, Array.getElem?_toList];rw [add_mk];simp [World.cell?, hb']
   ·rw [List.getElem?_take, if_neg hi, List.getElem?_eq_none (by omega)]
  ·cases h0
 ·cases h

theorem rows_of {α : Type} {R : α → List Value → Prop} {m : Nat} {cl : List Value} : ∀ {len off : Nat}, (∀ i, i < len → ∃ d, R d ((cl.drop (off + i * m)).take m)) → ∃ l : List α, l.length = len ∧ rdAll R l ((cl.drop off).take (len * m))
 | 0, _, _ => ⟨[], rfl, by simp [rdAll]⟩
 | len + 1, off, h => by
  obtain ⟨d, hd⟩ := h 0 (by omega)
  obtain ⟨l, hl, hr⟩ := rows_of (R := R) (m := m) (cl := cl) (len := len) (off := off + m) (fun i hi => by
   have := h (i + 1) (by omega)
   rwa [Nat.succ_mul, show off + (i * m + m) = off + m + i * m from by omega] at this)
  refine ⟨d :: l, by simp [hl], _, _, ?_, hd, hr⟩
  rw [Nat.succ_mul, Nat.add_comm (len * m) m, List.take_add, List.drop_drop]
  simp

section
variable {H : Type} {enc : TypeId × Value → H} {P : Program}

/-- **What is read of an argument is a datum of the calculus.** -/
theorem rd_of_trod {W : World} {S : FS} : ∀ (t : Ty),
 (∀ T fuel cs (x : DataW H × List MemPlace), MT P t (.inl T) → DataW.trod enc P W 0 (fun _ => true) true fuel T cs = some x → (∀ p ∈ x.2, S p.block) → ∃ d : t.den, rd S W t d cs) ∧
 (∀ (fs : List Field) (off n : Nat) (cs : List Value) (xs : List (DataW H × List MemPlace)), MT P t (.inr (fs, off)) → cs.length = off + t.cells → xs.length = fs.length →
  (∀ (i : Nat) f, fs[i]? = some f → DataW.trod enc P W 0 (fun _ => true) true n f.type ((cs.drop f.offset).take (P.cellsOf f.type)) = xs[i]?) → (∀ y ∈ xs, ∀ p ∈ y.2, S p.block) → ∃ d : t.den, rd S W t d (cs.drop off)) := by
 intro t
 induction t with
 | int k =>
  refine ⟨fun T fuel cs x hm h _ => ?_, fun fs off n cs xs hm => by cases fs <;> exact hm.elim⟩;obtain ⟨n, rfl, _, _⟩ := DataW.trod_int hm h;exact ⟨n, rfl⟩
 | bool =>
  refine ⟨fun T fuel cs x hm h _ => ?_, fun fs off n cs xs hm => by cases fs <;> exact hm.elim⟩;obtain ⟨n, rfl, _⟩ := DataW.trod_bool hm h;exact ⟨n, rfl⟩
 | slice t ih =>
  refine ⟨fun T fuel cs x hm h hS => ?_, fun fs off n cs xs hm => by cases fs <;> exact hm.elim⟩;obtain ⟨e, he, hce, hme⟩ := hm;have hpos := MT.pos t hme;rcases DataW.trod_slice he h with ⟨rfl, _⟩ | ⟨a, len, cap, elems, rest, n, _, rfl, rfl, _, hl, _, hlen, hel, _, _⟩
  ·exact ⟨[], .inl ⟨none, 0, rfl, rfl⟩⟩
  ·cases len with
   | zero => exact ⟨[], .inl ⟨some a, cap, rfl, rfl⟩⟩
   | succ len =>
    rw [hce] at hel
    have row : ∀ i, i < len + 1 → ∃ r y, W.cells? 0 (a.add (i * t.cells)) t.cells = some r ∧ DataW.trod enc P W 0 (fun _ => true) true n e r = some y ∧ y ∈ elems := fun i hi => by
     have := hel i hi;rw [List.getElem?_eq_getElem (by omega)] at this;obtain ⟨r, e1, e2⟩ := Option.bind_eq_some_iff.1 this;exact ⟨r, _, e1, e2, List.getElem_mem _⟩
    obtain ⟨r0, y0, e0, _, _⟩ := row 0 (by omega);obtain ⟨b, off, c, T', fz, ha, hb, _⟩ := cells_row hpos e0;have ha' := add_inv ha;subst ha'
    obtain ⟨l, hl1, hl2⟩ := rows_of (R := rd S W t) (m := t.cells) (cl := c.toList) (len := len + 1) (off := off) (fun i hi => by
     obtain ⟨r, y, e1, e2, hy⟩ := row i hi;obtain ⟨b', off', c', T2, fz', ha2, hb2, hr⟩ := cells_row hpos e1;rw [add_mk, Addr.mk.injEq] at ha2;obtain ⟨rfl, rfl, _⟩ := ha2;rw [hb] at hb2;cases hb2;subst hr;exact ih.1 e n _ y hme e2 (fun p hp => hS p (List.mem_append.2 (.inr (List.mem_flatMap.2 ⟨y, List.mem_append.2 (.inl hy), hp⟩)))))
    refine ⟨l, .inr ⟨b, off, cap, c, T', fz, by rw [hl1], by rw [hl1]; exact hl, ?_, hb, by rw [hl1]; exact hl2⟩⟩;have := hS (.cell b (off + 0)) (List.mem_append.2 (.inl (MemPlace.mem_row.2 ⟨0, Nat.mul_pos (by omega) (by omega), rfl⟩)));exact this
 | agg t ih =>
  refine ⟨fun T fuel cs x hm h hS => ?_, fun fs off n cs xs hm => by cases fs <;> exact hm.elim⟩;obtain ⟨fs, hf, hc, hmf⟩ := hm;obtain ⟨xs, n, _, rfl, hl, hxl, hx⟩ := DataW.trod_struct hf h;obtain ⟨d, hd⟩ := ih.2 fs.toList 0 n cs xs hmf (by omega) (by simpa using hxl) (fun i f hi => hx i f (by simpa using hi)) (fun y hy p hp => hS p (List.mem_flatMap.2 ⟨y, hy, hp⟩));exact ⟨d, by simpa [rd] using hd⟩
 | pair t u iht ihu =>
  refine ⟨fun T fuel cs x hm => hm.elim, fun fs off n cs xs hm hl hxl hx hS => ?_⟩;cases fs with
  | nil => exact hm.elim
  | cons f fs =>
   obtain ⟨h1, h2, h3, h4⟩ := hm;simp only [Ty.cells] at hl;cases xs with
   | nil => simp at hxl
   | cons y ys =>
    have e0 := hx 0 f rfl;rw [h1, h2] at e0;obtain ⟨d1, hd1⟩ := iht.1 f.type n _ y h3 e0 (hS y (by simp))
    have hrest : ∃ d : u.den, rd S W u d (cs.drop (off + t.cells)) := by
     rcases h4 with ⟨g, rfl, g1, g2, g3⟩ | h4
     ·cases ys with
      | nil => simp at hxl
      | cons z zs =>
       have e1 := hx 1 g rfl;rw [g1, g2] at e1;obtain ⟨d2, hd2⟩ := ihu.1 g.type n _ z g3 e1 (hS z (by simp));rw [List.take_of_length_le (by rw [List.length_drop]; omega)] at hd2;exact ⟨d2, hd2⟩
     ·exact ihu.2 fs (off + t.cells) n cs ys h4 (by omega) (by simpa using hxl) (fun i g hi => hx (i + 1) g hi) (fun z hz => hS z (by simp [hz]))
    obtain ⟨d2, hd2⟩ := hrest;refine ⟨(d1, d2), _, _, ?_, hd1, hd2⟩;rw [← List.drop_drop, List.take_append_drop]
 | val => exact ⟨fun T fuel cs x hm => hm.elim, fun fs off n cs xs hm => by cases fs <;> exact hm.elim⟩
 | arr _ _ _ => exact ⟨fun T fuel cs x hm => hm.elim, fun fs off n cs xs hm => by cases fs <;> exact hm.elim⟩
 | ptr _ _ => exact ⟨fun T fuel cs x hm => hm.elim, fun fs off n cs xs hm => by cases fs <;> exact hm.elim⟩
 | tag _ _ => exact ⟨fun T fuel cs x hm => hm.elim, fun fs off n cs xs hm => by cases fs <;> exact hm.elim⟩
 | ign => exact ⟨fun T fuel cs x hm => hm.elim, fun fs off n cs xs hm => by cases fs <;> exact hm.elim⟩
 | alt _ _ => exact ⟨fun T fuel cs x hm => hm.elim, fun fs off n cs xs hm => by cases fs <;> exact hm.elim⟩

theorem holds_of {W : World} {S : FS} {base : Nat} {t : Ty} {T : TypeId} {v : Value} {d : t.den} (hm : MT P t (.inl T)) (hv : Value.okWide P W .any base T v) (h : rd S W t d v.cells.toList) : (A.rep t d).holds S W v := by
 refine ⟨_, h, ?_⟩;cases t with
 | int k => obtain ⟨n, rfl⟩ := okWide_int hm hv; rfl
 | bool => obtain ⟨n, rfl⟩ := okWide_bool hm hv; rfl
 | slice t => obtain ⟨e, he, _⟩ := hm; obtain ⟨a, l, c, rfl⟩ := okWide_slice he hv; rfl
 | agg t => obtain ⟨fs, hf, _⟩ := hm; obtain ⟨cs, rfl, _⟩ := okWide_struct hf hv; simp [mk, Ty.isAgg, Value.cells]
 | val => exact hm.elim
 | pair _ _ => exact hm.elim
 | arr _ _ => exact hm.elim
 | ptr _ => exact hm.elim
 | tag _ _ => exact hm.elim
 | ign => exact hm.elim
 | alt _ => exact hm.elim

theorem trod_len {W : World} {sp : Nat → Bool} : ∀ {ts : List TypeId} {vs : List Value} {ds : List (DataW H)} {ps : List MemPlace}, DataW.TrodAll enc P W 0 sp true ts vs ds ps → ds.length = ts.length
 | [], [], [], _, _ => rfl
 | _ :: _, _ :: _, _ :: _, _, h => by
  obtain ⟨q, r, h1, h2, _⟩ := h
  simp [trod_len h2]
 | [], _ :: _, _, _, h => h.elim
 | [], [], _ :: _, _, h => h.elim
 | _ :: _, [], _, _, h => h.elim
 | _ :: _, _ :: _, [], _, h => h.elim

def Lk : List (TypeId × Ty) → List A → Prop
 | [], as => as = []
 | p :: l, as => ∃ d as', as = .rep p.2 d :: as' ∧ Lk l as'

theorem all2_of {W : World} {S : FS} {base : Nat} : ∀ {ts : List (TypeId × Ty)} {vs : List Value} {ds : List (DataW H)} {ps : List MemPlace}, (∀ p ∈ ts, MT P p.2 (.inl p.1)) → (∀ (j : Nat) t v, (ts.map (·.1))[j]? = some t → vs[j]? = some v → Value.okWide P W .any base t v) →
 DataW.TrodAll enc P W 0 (fun _ => true) true (ts.map (·.1)) vs ds ps → (∀ p ∈ ps, S p.block) → ∃ as, Lk ts as ∧ All2 S W as vs
 | [], [], [], _, _, _, _, _ => ⟨[], rfl, rfl⟩
 | p :: ts, v :: vs, d :: ds, ps, hm, hv, h, hS => by
  obtain ⟨q, r, ⟨fuel, h1⟩, h2, rfl⟩ := h
  obtain ⟨a, ha⟩ := (rd_of_trod p.2).1 p.1 fuel _ _ (hm p (by simp)) h1 (fun x hx => hS x (List.mem_append.2 (.inl hx)))
  obtain ⟨as, hl, h3⟩ := all2_of (ts := ts) (fun x hx => hm x (by simp [hx])) (fun j t w h h' => hv (j + 1) t w h h') h2 (fun x hx => hS x (List.mem_append.2 (.inr hx)))
  exact ⟨.rep p.2 a :: as, ⟨a, as, rfl, hl⟩, v, vs, rfl, holds_of (hm p (by simp)) (hv 0 _ _ rfl rfl) ha, h3⟩
 | [], _ :: _, _, _, _, _, h, _ => h.elim
 | [], [], _ :: _, _, _, _, h, _ => h.elim
 | _ :: _, [], _, _, _, _, h, _ => h.elim
 | _ :: _, _ :: _, [], _, _, _, h, _ => h.elim

theorem again_of (laid : laidOutB P = true) {W W' : World} {sp : Nat → Bool} (hk : ∀ b, b < W.heap.size → W'.heap[b]? = W.heap[b]?) : ∀ {ts : List TypeId} {vs : List Value} {ds : List (DataW H)} {ps : List MemPlace}, (∀ T ∈ ts, P.readableRec T = true ∧ T < P.types.size) →
 DataW.TrodAll enc P W 0 (fun _ => true) true ts vs ds ps → (∀ p ∈ ps, p.block < W.heap.size ∧ sp p.block = true) → DataW.TrodAll enc P W' 0 sp true ts vs ds ps
 | [], [], [], _, _, h, _ => h
 | T :: ts, v :: vs, d :: ds, ps, hT, h, hp => by
  obtain ⟨q, r, h1, h2, rfl⟩ := h
  obtain ⟨t1, t2⟩ := hT T (by simp)
  refine ⟨q, r, WideElems.Trod_stays laid t1 t2 h1 (fun p hq => ?_) (fun p hq => (hp p (List.mem_append.2 (.inl hq))).2), again_of laid hk (fun x hx => hT x (by simp [hx])) h2 (fun p hq => hp p (List.mem_append.2 (.inr hq))), rfl⟩
  have hb := hk _ (hp p (List.mem_append.2 (.inl hq))).1
  cases p with
  | cell b off => have hb : W'.heap[b]? = W.heap[b]? := hb; simp only [World.sameAt, World.cell?, hb]
  | map b => exact hb
 | [], _ :: _, _, _, _, h, _ => h.elim
 | [], [], _ :: _, _, _, h, _ => h.elim
 | _ :: _, [], _, _, _, h, _ => h.elim
 | _ :: _, _ :: _, [], _, _, h, _ => h.elim

/-- **From a contract to what the row asks of a call: arguments of any plain type.** -/
theorem close_all {f : Nat} {fn : Func} {B : TypeId} {s : ChangeSpec} (ts : List (TypeId × Ty)) (hp : fn.params.toList = ts.map (·.1)) (hr : fn.resultTypes = #[B]) (hB : P.underlying B = some .bool)
 (hm : ∀ p ∈ ts, MT P p.2 (.inl p.1)) (laid : laidOutB P = true) (hT : ∀ T ∈ ts.map (·.1), P.readableRec T = true ∧ T < P.types.size)
 (hs : ∀ ds : List (DataW H), ds.length = ts.length → s.fn H ds = { results := [.lit (.bool true)], args := ds }) (hv : s.vars = [])
 (law : ∀ as, Lk ts as → Ctr P f as [] (fun _ : Unit => (resA [.eq (.bool true)], [])))
 (W : World) (base : Nat) (args : Array Value) (ds gs : List (DataW H)) (before : List MemPlace)
 (hval : ∀ (j : Nat) t v, fn.params[j]? = some t → args[j]? = some v → Value.okWide P W .any base t v)
 (hW : DataW.Whole enc P fn.params.toList s.vars false W args.toList ds gs before) :
 Calls P f args W fun e W' => ∃ v, e = .returned v ∧ s.post enc P fn false true false false W args v W' := by
 have hW' := hW;obtain ⟨p, q, hA, hV, rfl, _, _⟩ := hW;rw [hv] at hV;obtain ⟨rfl, rfl⟩ := trodVars_none hV;have hlt : ∀ x ∈ p, x.block < W.heap.size := hA.lt;have hlen := trod_len hA;rw [hp, List.length_map] at hlen;rw [hp] at hA;obtain ⟨as, hL, h2⟩ := all2_of (S := fun b => b < W.heap.size) (base := base) hm (fun j t v h1 h2 => hval j t v (by rw [← hp] at h1; simpa using h1) (by simpa using h2)) hA hlt;have := law as hL (fun b => b < W.heap.size) W args.toList (fun _ h => h) h2 owns_nil;rw [Array.toArray_toList] at this;refine this.mono ?_;rintro e' W' ⟨_, S', v, rfl, h1, h2, _, _⟩;obtain rfl : v = .bool true := h2;obtain ⟨k1, k2⟩ := step_kept (may := (· ∈ p ++ [])) h1;have hk : ∀ b, b < W.heap.size → W'.heap[b]? = W.heap[b]? := fun b hb => h1.keep b hb (fun hx => feet_nil hx);refine ⟨_, rfl, post_new (pa := p) (pv := []) hW' (fun _ _ _ => ?_) (fun sp hsp => ?_) (fun _ _ => ?_) rfl k1 k2 (ok_one hr rfl (okWide_bool_mk hB _))⟩
 ·rw [hr, List.append_nil, hs ds hlen]; exact trodAll_mk1 (shut_bool hB _)
 ·rw [hp, List.append_nil, hs ds hlen]; exact again_of laid hk hT hA (fun x hx => ⟨hlt x hx, hsp x (by simpa using hx)⟩)
 ·rw [hv, List.append_nil, hs ds hlen]; rfl
end
end K
end Go.Proofs.Ytomnkjcklkcnhaa

/- The calculus, part 31: an own list of own slices of numbers. -/
namespace Go.Proofs.Ytomnkjcklkcnhaa
namespace K
open Go

/-- The resources of the slices of a list, at the values vs, and these values. -/
def owF (vs : Nat → Value) : Nat → List (List Int) → List D
 | _, [] => []
 | j, l :: ls => .sl (vs j) 3 (.int .i64) l :: owF vs (j + 1) ls
def vlF (vs : Nat → Value) : Nat → List (List Int) → List Value
 | _, [] => []
 | j, _ :: ls => vs j :: vlF vs (j + 1) ls
theorem vlF_len {vs : Nat → Value} : ∀ {ls : List (List Int)} {j : Nat}, (vlF vs j ls).length = ls.length
 | [], _ => rfl
 | _ :: ls, _ => by rw [vlF, List.length_cons, vlF_len, List.length_cons]
section
variable {c : Cx} {ops : Array Oper} {l : List Oper} {Q : Exit → Act → World → Prop} {Γ Γ' : Ga} {Δ Δ' F : List D}

theorem vl_rd {S S' : FS} {w : World} {vs : Nat → Value} (hSS : ∀ b, S b → S' b) : ∀ {ls : List (List Int)} {j : Nat} {cs : List Value}, (∀ d ∈ owF vs j ls, d.holds S w ∧ ∀ b, d.foot = some b → S' b) → rdAll (rd S w .val) (vlF vs j ls) cs → rdAll (rd S' w (.slice (.int .i64))) ls cs
 | [], _, _, _, h => h
 | l :: ls, j, cs, hd, h => by
  obtain ⟨c1, c2, rfl, ⟨rfl, _⟩, h2⟩ := h
  refine ⟨[vs j], c2, rfl, ?_, vl_rd hSS (fun d hm => hd d (List.mem_cons_of_mem _ hm)) h2⟩
  obtain ⟨g1, g2⟩ := hd _ (List.mem_cons_self ..)
  rcases g1 with ⟨e, rfl⟩ | ⟨b, cap, cc, e, q1, q1', q2, q3, q4⟩
  ·
   rw [e]; exact .inl ⟨none, 0, rfl, rfl⟩
  ·
   have hb : S' b := g2 b (by rw [D.foot, e]; rfl)
   rw [e]
   refine .inr ⟨b, 0, cap, cc, 3, (0, 0), rfl, q1, hb, q2, ?_⟩
   rw [List.drop_zero]
   exact rdAll_mono (fun _ _ h => rd_mono hSS (fun _ _ => rfl) (.int .i64) h) q4

/-- **The list and all of its slices are frozen.** -/
theorem SE.frzAll {z : Value} {vs : Nat → Value} {ls : List (List Int)} {T : TypeId} : SE c Γ (.sl z T .val (vlF vs 0 ls) :: (owF vs 0 ls ++ F)) Γ (.sl z T (.slice (.int .i64)) ls :: F) := fun a w h => by
 obtain ⟨h1, h2, S, h3, h4, h5, h6⟩ := h
 have hK : Keep S w w := fun _ _ => rfl
 have hp := List.pairwise_cons.1 h5.apart
 obtain ⟨pO, pF, pOF⟩ := List.pairwise_append.1 hp.2
 have hmO : ∀ d ∈ owF vs 0 ls, d ∈ D.sl z T .val (vlF vs 0 ls) :: (owF vs 0 ls ++ F) := fun d hd => List.mem_cons_of_mem _ (List.mem_append.2 (.inl hd))
 have hmF : ∀ d ∈ F, d ∈ D.sl z T .val (vlF vs 0 ls) :: (owF vs 0 ls ++ F) := fun d hd => List.mem_cons_of_mem _ (List.mem_append.2 (.inr hd))
 have hft : ∀ b, feet (owF vs 0 ls) b → feet (D.sl z T .val (vlF vs 0 ls) :: (owF vs 0 ls ++ F)) b := fun b ⟨d, hd, e⟩ => ⟨d, hmO d hd, e⟩
 refine ⟨h1, h2, fun x => S x ∨ feet (owF vs 0 ls) x, ⟨fun x hx => .inl (h3.sub x hx), fun x hx => ?_, fun x hx => ?_, h3.size, h3.keep, h3.os, h3.tape, h3.output⟩, fun x ⟨e, he, hb⟩ => ?_, ⟨fun e he => ?_, fun x ⟨e, he, hb⟩ => ?_, ?_⟩, fun s r hl => A.mono (fun _ h => .inl h) hK r (h6 s r hl)⟩
 ·
  rcases hx with hx | hx
  ·
   exact h3.new x hx
  ·
   exact .inr ((h4 x (hft x hx)).symm)
 ·
  rcases hx with hx | hx
  ·
   exact h3.dom x hx
  ·
   exact (h5.own x (hft x hx)).2
 ·
  rcases List.mem_cons.1 he with rfl | he
  ·
   exact h4 x ⟨_, List.mem_cons_self .., hb⟩
  ·
   exact h4 x ⟨e, hmF e he, hb⟩
 ·
  rcases List.mem_cons.1 he with rfl | he
  ·
   rcases h5.holds _ (List.mem_cons_self ..) with ⟨e, hl⟩ | ⟨b, cap, cc, e, q1, q1', q2, q3, q4⟩
   ·
    refine .inl ⟨e, ?_⟩
    have := congrArg List.length hl
    rw [vlF_len] at this
    exact List.eq_nil_of_length_eq_zero this
   ·
    rw [vlF_len] at e q1 q4
    refine .inr ⟨b, cap, cc, e, q1, q1', q2, q3, ?_⟩
    exact vl_rd (S := S) (fun _ h => .inl h) (fun d hd => ⟨h5.holds d (hmO d hd), fun b hb => .inr ⟨d, hd, hb⟩⟩) q4
  ·
   exact D.holds_mono (fun _ h => .inl h) hK e (fun _ _ => rfl) (h5.holds e (hmF e he))
 ·
  have hx : feet (D.sl z T .val (vlF vs 0 ls) :: (owF vs 0 ls ++ F)) x ∧ ¬ feet (owF vs 0 ls) x := by
   rcases List.mem_cons.1 he with rfl | he
   ·exact ⟨⟨_, List.mem_cons_self .., hb⟩, fun ⟨d, hd, hb'⟩ => hp.1 d (List.mem_append.2 (.inl hd)) x hb hb'⟩
   ·exact ⟨⟨e, hmF e he, hb⟩, fun ⟨d, hd, hb'⟩ => pOF d hd e he x hb' hb⟩
  have h7 := h5.own x hx.1;exact ⟨fun h => h.elim h7.1 hx.2, h7.2⟩
 ·exact List.pairwise_cons.2 ⟨fun d hd b e => hp.1 d (List.mem_append.2 (.inr hd)) b e, pF⟩
end

theorem frz_owns {z : Value} {vs : Nat → Value} {ls : List (List Int)} {T : TypeId} {S : FS} {w : World} (h5 : Owns (.sl z T .val (vlF vs 0 ls) :: owF vs 0 ls) S w) : Owns [.sl z T (.slice (.int .i64)) ls] (fun x => S x ∨ feet (owF vs 0 ls) x) w := by
 have hp := List.pairwise_cons.1 h5.apart;refine ⟨fun e he => ?_, fun x ⟨e, he, hb⟩ => ?_, List.pairwise_singleton _ _⟩
 ·simp only [List.mem_cons, List.not_mem_nil, or_false] at he;subst he;rcases h5.holds _ (List.mem_cons_self ..) with ⟨e, hl⟩ | ⟨b, cap, cc, e, q1, q1', q2, q3, q4⟩
  ·refine .inl ⟨e, ?_⟩;have := congrArg List.length hl;rw [vlF_len] at this;exact List.eq_nil_of_length_eq_zero this
  ·rw [vlF_len] at e q1 q4;refine .inr ⟨b, cap, cc, e, q1, q1', q2, q3, ?_⟩;exact vl_rd (S := S) (fun _ h => .inl h) (fun d hd => ⟨h5.holds d (List.mem_cons_of_mem _ hd), fun b hb => .inr ⟨d, hd, hb⟩⟩) q4
 ·simp only [List.mem_cons, List.not_mem_nil, or_false] at he;subst he;have h7 := h5.own x ⟨_, List.mem_cons_self .., hb⟩;exact ⟨fun h => h.elim h7.1 fun ⟨d, hd, hb'⟩ => hp.1 d hd x hb hb', h7.2⟩

/-- A contract that hands back such a list: frozen slices in an own one. -/
theorem Ctr.frzAll {P : Program} {f : Nat} {as : List A} {T : TypeId} {r : List (List Int)} (h : Ctr P f as [] (fun z : Value × (Nat → Value) => (resA [.eq z.1], .sl z.1 T .val (vlF z.2 0 r) :: owF z.2 0 r))) :
 Ctr P f as [] (fun z : Value => (resA [.eq z], [.sl z T (.slice (.int .i64)) r])) := fun S w vs hd hall hO => (h S w vs hd hall hO).mono fun _ _ hh => by
 obtain ⟨x, S', v, he, g1, g2, g3, g4⟩ := hh
 have hft : ∀ b, feet (owF x.2 0 r) b → feet (.sl x.1 T .val (vlF x.2 0 r) :: owF x.2 0 r) b := fun b ⟨d, hd, e⟩ => ⟨d, List.mem_cons_of_mem _ hd, e⟩
 refine ⟨x.1, fun b => S' b ∨ feet (owF x.2 0 r) b, v, he, ⟨fun b hb => .inl (g1.sub b hb), fun b hb => ?_, fun b hb => ?_, g1.size, g1.keep, g1.os, g1.tape, g1.output⟩, g2, frz_owns g3, fun b ⟨d, hd, e⟩ => ?_⟩
 ·
  rcases hb with hb | hb
  ·
   exact g1.new b hb
  ·
   exact .inr ((g4 b (hft b hb)).symm)
 ·
  rcases hb with hb | hb
  ·
   exact g1.dom b hb
  ·
   exact (g3.own b (hft b hb)).2
 ·
  simp only [List.mem_cons, List.not_mem_nil, or_false] at hd
  subst hd
  exact g4 b ⟨_, List.mem_cons_self .., e⟩

end K
end Go.Proofs.Ytomnkjcklkcnhaa

/- The calculus, part 32: errors: a struct of one number as an interface's value; comparison with nil. -/
namespace Go.Proofs.Ytomnkjcklkcnhaa
namespace K
open Go

/-- Is it an interface's value; is it one that is not nil? -/
def isIf : Value → Bool
 | .nilIface => true
 | .iface _ _ => true
 | _ => false
def isErr : Value → Bool
 | .iface _ _ => true
 | _ => false

section
variable {P : Program} {o : Oper} {x y : Operand} {T T' : TypeId}
theorem o_neqNil {v : Value} {ms : Array (String × TypeId)} (ho : o.op = .binOp .neq T x (.const .nilIface) T') (hT : P.underlying T = some (.interface ms)) (hv : isIf v = true) : OpT P o [(x, .eq v), (.const .nilIface, .eq .nilIface)] [] (fun _ : Unit => (.eq (.bool (isErr v)), [])) :=
 o_bin ho fun w => by
  cases v with
  | nilIface =>
   have h : ∀ d : Nat, (Op.equalIn (d + 1) T .nilIface .nilIface).run P w = .ok true w := fun d => by simp [Op.equalIn, run_underlying hT]
   simp [eqGuard, binOp, Op.equal, Op.maxDepth, h 9999, isErr]
  | iface t u =>
   have h : ∀ d : Nat, (Op.equalIn (d + 1) T (.iface t u) .nilIface).run P w = .ok false w := fun d => by simp [Op.equalIn, run_underlying hT]
   simp [eqGuard, binOp, Op.equal, Op.maxDepth, h 9999, isErr]
  | _ => cases hv

theorem o_ifaceS {n : Int} {fs : Array Field} (ho : o.op = .makeInterface T x) (hT : P.underlying T = some (.struct fs)) : OpT P o [(x, .agg (.eq (.int .i64 n)))] [] (fun _ : Unit => (.eq (.iface T (.agg #[.int .i64 n])), [])) :=
 .val0 fun S w a hN => by
  have e : a.eval x = .agg #[.int .i64 n] := by
   obtain ⟨cs, h1, h2⟩ := hN.1;simp_all [A.cells]
  refine ⟨_, ?_, rfl⟩;simp [execOp, ho, e, Instr.makeInterface, run_underlying hT]
end

/-! A slice of one element that is made by a literal, as an object of the call's own. -/
section
variable {P : Program} {o : Oper} {x y : Operand} {T e : TypeId} {t : Ty}
theorem o_lit1 {bytes : Nat} {r : A} (d : t.den) (ho : o.op = .buildSlice T 1 #[(0, x)]) (hT : SlOk P T e t.cells bytes) (he : Ents t [(x, r)] [d]) (hsz : Nat.ble t.cells 16777216 = true) :
 OpT P o [(x, r)] [] (fun b : Nat => (.eq (.slice (some ⟨b, 0, none⟩) 1 1), [.obj b e (.rep t d)])) := by
 refine ⟨by simp only [nd, *], fun ro S w a next Q hd hN _ k => ?_⟩;have hsz' : [(x, r)].length * t.cells ≤ 16777216 := by simpa using Nat.ble_eq ▸ hsz
 obtain ⟨news, h1, h2, h3⟩ := run_buildSlice hT [(x, r)] [d] he hN hsz' rfl
 have hr : (execOp a.eval o).run P w = .ok (.value (.slice (some ⟨w.heap.size, 0, none⟩) 1 1)) (w.alloc (.cells news.toArray e)) := by
  have e1 : (#[(0, x)] : Array (Nat × Operand)).map (fun (q : Nat × Operand) => (q.1, a.eval q.2)) = ([(x, r)].zipIdx.map fun p => (p.2, a.eval p.1.1)).toArray := by simp
  have h1' := h1;simp only [List.length_cons, List.length_nil, Nat.zero_add] at h1';simp only [execOp, ho, e1, Sem.run_bind, h1', Result.andThen_ok, Sem.run_pure]
 rw [hr];have hK : Keep S w (w.alloc (.cells news.toArray e)) := fun b hb => alloc_old w _ b (hd b hb);obtain ⟨c1, c2, ec, g1, g2⟩ := h2;have g2' : c2 = [] := g2;subst g2';rw [List.append_nil] at ec;subst ec;refine k w.heap.size S _ _ (step_alloc hd _) rfl (owns_one ⟨news, heap_alloc_new w _, ?_⟩ ?_) ?_
 ·exact rd_mono (fun _ h => h) hK t g1
 ·intro b hb;simp only [D.foot, Option.some.injEq] at hb;subst hb;exact ⟨fun h => by have := hd _ h; omega, by simp⟩
 ·intro b hb;rw [feet_obj] at hb;subst hb;exact .inr (Nat.le_refl _)

theorem o_index1 {b n : Nat} {g : Bool} {k : IntKind} (ho : o.op = .indexAddr T x y) (hT : P.underlying T = some (.slice e)) (he : SzOk P e n g) :
 OpT P o [(x, .eq (.slice (some ⟨b, 0, none⟩) 1 1)), (y, .eq (.int k 0))] [] (fun _ : Unit => (.eq (.pointer (some ⟨b, 0, none⟩)), [])) :=
 .val0 fun S w a h => by
  have e1 : a.eval x = .slice (some ⟨b, 0, none⟩) 1 1 := h.1
  have e2 : a.eval y = .int k 0 := h.2.1
  exact ⟨.pointer (some ⟨b, 0, none⟩), by simp [execOp, ho, e1, e2, run_indexAt_slice hT he b 0 1 1 k 0 (by decide) (by decide) w], rfl⟩

theorem SE.obj1 {c : Cx} {Γ : Ga} {F : List D} {b : Nat} {d : t.den} : SE c Γ (.obj b e (.rep t d) :: F) Γ (.sl (.slice (some ⟨b, 0, none⟩) 1 1) e t [d] :: F) := fun a w h =>
 h.swap (d := .obj b e (.rep t d)) (d' := .sl (.slice (some ⟨b, 0, none⟩) 1 1) e t [d]) (fun _ => Iff.rfl) fun S hs => by
  obtain ⟨cs, h1, h2⟩ := hs
  have h2' : rd S w t d cs := h2
  have hl := rd_length t h2'
  refine .inr ⟨b, 1, cs.toArray, rfl, Nat.le_refl _, by unfold maxLen; decide, h1, by simp [hl], cs, [], ?_, h2', rfl⟩
  simp [← hl]
end
end K
end Go.Proofs.Ytomnkjcklkcnhaa
