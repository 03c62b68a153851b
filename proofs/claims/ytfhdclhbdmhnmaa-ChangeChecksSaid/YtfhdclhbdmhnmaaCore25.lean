/- The calculus, part 25: maps whose entries all meet a relation; arrays compared. -/
import Derived.Test.YtfhdclhbdmhnmaaCore24
import Derived.DeepKeys5
namespace Go.Proofs.Ytfhdclhbdmhnmaa
namespace K
open Go

/-- All entries of a map meet a relation between key and number. -/
def MapInv (P : Program) (k : TypeId) (R : Value → Int → Prop) (o : Obj) : Prop :=
  ∃ es cl, o = .map es cl ∧ ∀ e ∈ es.toList, (∃ lt, keyOf P k e.key = some lt) ∧ ∃ n, e.val = .int .i64 n ∧ R e.key n

theorem MapInv.nil {P : Program} {k : TypeId} {R : Value → Int → Prop} : MapInv P k R (.map #[] 0) := ⟨#[], 0, rfl, by simp⟩

section
variable {P : Program} {o : Oper} {x y v : Operand} {T T' k e : TypeId} {R : Value → Int → Prop} {kv : Value}

theorem run_getMap {w : World} {z : Nat} {es : Array MapEntry} {cl : Nat} (h : w.heap[z]? = some (.map es cl)) : (getObj z).run P w = .ok (.map es cl) w := by simp [getObj, Sem.run, h]
theorem run_setMap {w : World} {z : Nat} {es : Array MapEntry} {cl : Nat} (o : Obj) (h : w.heap[z]? = some (.map es cl)) : (setObj z o).run P w = .ok () (w.putObj z o) := by simp [setObj, Sem.run, h, World.putObj]

/-- What a look-up finds is known ahead. -/
theorem lookup_cases {z : Nat} {ob : Obj} (hT : P.underlying T = some (.map k e)) (hz : ∀ w, (zeroValue e).run P w = .ok (.int .i64 0) w) (hk : WideMaps.KeyLaw P k) (hkv : ∃ lt, keyOf P k kv = some lt)
    (hfun : ∀ n n', R kv n → R kv n' → n = n') (hob : MapInv P k R ob) :
    ∃ n b, (b = true → R kv n) ∧ ∀ w, w.heap[z]? = some ob → (Instr.lookup T (.map (some z)) kv true).run P w = .ok (.tuple #[.int .i64 n, .bool b]) w := by
  obtain ⟨es, cl, rfl, h2⟩ := hob
  obtain ⟨lt, hlt⟩ := hkv
  by_cases he : ∃ en ∈ es.toList, en.key = kv
  · obtain ⟨e0, he0, hk0⟩ := he
    obtain ⟨_, n0, _, hR0⟩ := h2 e0 he0
    rw [hk0] at hR0
    refine ⟨n0, true, fun _ => hR0, fun w h1 => ?_⟩
    have hc := hk.check w es.isEmpty hlt
    rcases hk.find w hlt es.toList (fun e he => (h2 e he).1) with ⟨h3, h4⟩ | ⟨j, en, h3, h4, h5⟩
    · exact absurd hk0 (h4 e0 he0)
    · obtain ⟨_, n, hn, hR⟩ := h2 en (List.mem_of_getElem? h4)
      rw [h5] at hR
      obtain rfl := hfun _ _ hR hR0
      simp only [Instr.lookup, Sem.run_bind, run_underlying hT, Result.andThen_ok, run_getMap h1, Sem.run_pure, hc, h3, hn, if_true]
  · refine ⟨0, false, fun h => Bool.noConfusion h, fun w h1 => ?_⟩
    have hc := hk.check w es.isEmpty hlt
    rcases hk.find w hlt es.toList (fun e he => (h2 e he).1) with ⟨h3, h4⟩ | ⟨j, en, h3, h4, h5⟩
    · simp only [Instr.lookup, Sem.run_bind, run_underlying hT, Result.andThen_ok, run_getMap h1, Sem.run_pure, hc, h3, hz, if_true]
    · exact absurd ⟨en, List.mem_of_getElem? h4, h5⟩ he

theorem o_lookupD {z : Nat} {rk : A} {ob : Obj} {n : Int} {b : Bool} (ho : o.op = .lookup T x y true) (hy : ∀ S w u, rk.holds S w u → u = kv)
    (hr : ∀ w, w.heap[z]? = some ob → (Instr.lookup T (.map (some z)) kv true).run P w = .ok (.tuple #[.int .i64 n, .bool b]) w) :
    OpT P o [(x, .eq (.map (some z))), (y, rk)] [.raw z ob] (fun _ : Unit => (.tup (.pair (.eq (.int .i64 n)) (.pair (.eq (.bool b)) .any)), [.raw z ob])) := by
  refine ⟨by simp only [nd, *], fun ro S w a next Q hd hN hO kk => ?_⟩
  have e1 : a.eval x = .map (some z) := hN.1
  have e2 : a.eval y = kv := hy S w _ hN.2.1
  have h1 : w.heap[z]? = some ob := hO.holds _ (List.mem_singleton.2 rfl)
  have hrun : (execOp a.eval o).run P w = .ok (.value (.tuple #[.int .i64 n, .bool b])) w := by
    simp only [execOp, ho, e1, e2, Sem.run_bind, hr w h1, Result.andThen_ok, Sem.run_pure]
  rw [hrun]
  exact kk () S w _ (Step.refl hd) ⟨[_, _], rfl, _, _, rfl, rfl, _, _, rfl, rfl, rfl⟩ hO (fun b hb => .inl hb)

/-- A store into such a map. -/
theorem o_mapUpdate {z : Nat} {rk : A} {n : Int} (ho : o.op = .mapUpdate T x y v) (hT : P.underlying T = some (.map k e)) (hk : WideMaps.KeyLaw P k) (hy : ∀ S w u, rk.holds S w u → u = kv) (hkv : ∃ lt, keyOf P k kv = some lt) (hR : R kv n) :
    OpT P o [(x, .eq (.map (some z))), (y, rk), (v, .eq (.int .i64 n))] [.inv z (MapInv P k R)] (fun _ : Unit => (.eq undef, [.inv z (MapInv P k R)])) := by
  refine ⟨by simp only [nd, *], fun ro S w a next Q hd hN hO kk => ?_⟩
  have e1 : a.eval x = .map (some z) := hN.1
  have e2 : a.eval y = kv := hy S w _ hN.2.1
  have e3 : a.eval v = .int .i64 n := hN.2.2.1
  obtain ⟨ob, h1, es, cl, rfl, h2⟩ := hO.holds _ (List.mem_singleton.2 rfl)
  have hb := hO.own z ⟨_, List.mem_singleton.2 rfl, rfl⟩
  obtain ⟨lt, hlt⟩ := hkv
  have hc := hk.check w false hlt
  have hgo : ∀ ob', (Instr.mapUpdate T (.map (some z)) kv (.int .i64 n)).run P w = .ok () (w.putObj z ob') → MapInv P k R ob' → o.uponIn (FW ro) 0 P a next Q ((execOp a.eval o).run P w) := fun ob' hr hM => by
    have hrun : (execOp a.eval o).run P w = .ok .skip (w.putObj z ob') := by
      simp only [execOp, ho, e1, e2, e3, Sem.run_bind, hr, Result.andThen_ok, Sem.run_pure]
    rw [hrun]
    refine kk () S _ _ (step_put hd ⟨_, List.mem_singleton.2 rfl, rfl⟩ ob') rfl (owns_one ⟨ob', put_at hb.2, hM⟩ fun b h => ?_) (fun b hb => .inl hb)
    simp only [D.foot, Option.some.injEq] at h
    subst h
    exact ⟨hb.1, by rw [put_size]; exact hb.2⟩
  rcases hk.find w hlt es.toList (fun e he => (h2 e he).1) with ⟨h3, h4⟩ | ⟨j, en, h3, h4, h5⟩
  · refine hgo (.map (es.push { key := kv, val := .int .i64 n, born := cl }) (cl + 1)) ?_ ⟨_, _, rfl, fun e he => ?_⟩
    · simp only [Instr.mapUpdate, Sem.run_bind, run_underlying hT, Result.andThen_ok, run_getMap h1, Sem.run_pure, hc, h3, run_setMap _ h1]
    · simp only [Array.toList_push, List.mem_append, List.mem_singleton] at he
      rcases he with he | rfl
      · exact h2 e he
      · exact ⟨⟨lt, hlt⟩, n, rfl, hR⟩
  · have hst := hk.stays w hlt
    have hj : es[j]? = some en := by simpa using h4
    refine hgo (.map (es.modify j fun e => { e with key := kv, val := .int .i64 n }) cl) ?_ ⟨_, _, rfl, fun e he => ?_⟩
    · simp only [Instr.mapUpdate, Sem.run_bind, run_underlying hT, Result.andThen_ok, run_getMap h1, Sem.run_pure, hc, h3, hj, Option.map_some, Option.getD_some, h5, hst, run_setMap _ h1]
    · obtain ⟨i, hi⟩ := List.mem_iff_getElem?.1 he
      have hi' : (es.modify j fun e => { e with key := kv, val := .int .i64 n })[i]? = some e := by rw [← Array.getElem?_toList]; exact hi
      rw [Array.getElem?_modify] at hi'
      split at hi'
      · obtain ⟨e0, _, rfl⟩ := Option.map_eq_some_iff.1 hi'
        exact ⟨⟨lt, hlt⟩, n, rfl, hR⟩
      · exact h2 e (List.mem_of_getElem? (by simpa using hi'))

/-- Two arrays compared. -/
theorem o_eqkey {rx ry : A} {kw : Value} (ho : o.op = .binOp .eql k x y T') (hg : P.eqGuardType P.depth k = false) (hd : P.keyTypeAt 9999 k = true) (hk : WideMaps.KeyLaw P k) (hw : (match P.underlying k with | some (.array _ _) | some (.struct _) => true | _ => false) = true)
    (hx : ∀ S w u, rx.holds S w u → u = kv) (hy : ∀ S w u, ry.holds S w u → u = kw) (hkv : ∃ lt, keyOf P k kv = some lt) (hkw : ∃ lt, keyOf P k kw = some lt) :
    OpT P o [(x, rx), (y, ry)] [] (fun q : { q : Bool // q = true ↔ kv = kw } => (.eq (.bool q.1), [])) := by
  refine ⟨by simp only [nd, *], fun ro S w a next Q hdm hN hO kk => ?_⟩
  have e1 : a.eval x = kv := hx S w _ hN.1
  have e2 : a.eval y = kw := hy S w _ hN.2.1
  obtain ⟨l1, h1⟩ := hkv
  obtain ⟨l2, h2⟩ := hkw
  obtain ⟨r, hr, hiff⟩ := run_equal_deep (P := P) w (Nat.le_succ 9999) hd hw h1 h2
  have hrun : (execOp a.eval o).run P w = .ok (.value (.bool r)) w := by
    obtain ⟨xs, _, rfl, _⟩ := keyOf_top hw h1
    obtain ⟨ys, _, rfl, _⟩ := keyOf_top hw h2
    have h3 : (Op.equalIn 10000 k (.agg xs) (.agg ys)).run P w = .ok r w := hr
    simp only [execOp, ho, e1, e2, Sem.run_bind, run_eqGuard_agg w _ _ _ _ _ _ hg, run_eql_struct, h3, Result.andThen_ok, Sem.run_pure]
  rw [hrun]
  refine kk ⟨r, hiff.trans ⟨fun h => hk.inj h1 (h ▸ h2), fun h => ?_⟩⟩ S w _ (Step.refl hdm) rfl hO (fun b hb => .inl hb)
  subst h
  rw [h1] at h2
  exact Option.some.inj h2
end
theorem JC.openInv {c : Cx} {C : Code} {Q : Exit → Act → World → Prop} {Γ : Ga} {F : List D} {z : Nat} {p : Obj → Prop} (h : ∀ ob, p ob → JC c C Q Γ (.raw z ob :: F)) : JC c C Q Γ (.inv z p :: F) := by
  intro a w st
  obtain ⟨ob, h1, h2⟩ : ∃ o, w.heap[z]? = some o ∧ p o := by
    obtain ⟨_, _, S, _, _, h5, _⟩ := st
    exact h5.holds _ (List.mem_cons_self ..)
  exact h ob h2 a w (st.swap (d := .inv z p) (d' := .raw z ob) (fun b' => Iff.rfl) fun S _ => h1)
/-- A round, its codes by their names. -/
theorem YT.of' {P : Program} {N l p : Nat} {rec : Loop} {cA cB : Code} (hcA : rec.assign = cA) (hcB : rec.body = cB) {as : A} {Δ : List D} {Γ : Ga} {X : Type} {R : X → A × List D} (hp : rec.params = #[p]) (hN : rec.tmps.size = N) (hpN : p < N) (hΓ : Vals rec.tmps Γ)
    (h : ∀ S w, JC ⟨P, N, S, w, feet (.raw l (.loop rec) :: Δ), some l, []⟩ cA (Exit.then (rdBegin P l cB (roundPost P l (RPost S w (.raw l (.loop rec) :: Δ) R))) (fun _ _ _ => False)) ((p, as) :: Γ) (.raw l (.loop rec) :: Δ)) :
    YT P l [as] (.raw l (.loop rec) :: Δ) R := by
  subst hcA hcB
  exact YT.of hp hN hpN hΓ h
end K
end Go.Proofs.Ytfhdclhbdmhnmaa
