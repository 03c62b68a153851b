/- change.Needless: one of its goroutines. -/
import Derived.Test.YtopgphikdglphaaF1
import Derived.Test.YtopgphikdglphaaB5
import Derived.Test.YtopgphikdglphaaMa10
set_option linter.unusedVariables false
set_option maxRecDepth 4000
namespace Go.Proofs.Ytopgphikdglphaa
open K Go Go.Proofs Go.Conc

theorem nd_en39 : EnterOk Try.prog 39 := EnterOk.of Try.func39 (by kernel_rfl) (by kernel_rfl)
theorem nd_en38 : EnterOk Try.prog 38 := EnterOk.of Try.func38 (by kernel_rfl) (by kernel_rfl)
theorem nd_sz92 : SzOk Try.prog 92 1 false := ⟨fun w => by kernel_rfl, fun w => by kernel_rfl⟩

/-- Is the dresser needless? -/
def ndFree (r : Int × Bool) (now : Int) : Bool := r.2 && decide (r.1 ≤ now)

theorem JC.runT {c : Cx} {C : Code} {Q : Exit → Act → VW → Prop} {Γ : Ga} {Δ : List D} {a : Act} {v : VW} {T : Tq} {b : Frame} {k : List Item} {cs : List Frame} (hT : c.M.ok T) (hb : b.roundOf = c.rd) (st : St c Γ Δ a v) (h : JC c C Q Γ Δ) (hc : ∀ e a' v', Q e a' v' → After T b k cs e a' v') :
 T v (b.atR a (.code C :: k)) cs := h a v st T hT b k cs hb hc

/-- The state that is kept, the rest being an error. -/
@[reducible] noncomputable def ndQ (c : Cx) (Γ : Ga) (Δ : List D) : Exit → Act → VW → Prop := Ex.thn (fun a w => St c Γ Δ a w) (fun _ _ _ => False)

theorem JO.runT {c : Cx} {ops : Array Oper} {o : Oper} {i : Nat} {rest : List Nat} {Γ Γ' : Ga} {Δ Δ' : List D} {a : Act} {v : VW} {T : Tq} {b : Frame} {k : List Item} {cs : List Frame} (hT : c.M.ok T) (hb : b.roundOf = c.rd) (st : St c Γ Δ a v) (ho : ops[i]? = some o) (hg : o.guard = none)
 (h : JO c ops [o] (ndQ c Γ' Δ') Γ Δ) (hK : ∀ a' v', St c Γ' Δ' a' v' → T v' (b.atR a' (.inRegion ops rest :: k)) cs) : T v (b.atR a (.inRegion ops (i :: rest) :: k)) cs := by
 have h1 := h a v st
 simp only [wkL] at h1
 rw [if_pos (wanted_none hg _)] at h1
 exact op_sound ho (wanted_none hg _) h1 hT hb (fun a' v' q => hK a' v' q) fun ch a' v' q => q.elim

/-- What a slot holds. -/
theorem St.slot {c : Cx} {Γ : Ga} {Δ : List D} {a : Act} {v : VW} {s : Nat} {x : Value} (st : St c Γ Δ a v) (h : lk Γ s = some (.eq x)) : a.eval (.tmp s) = x := by
 obtain ⟨_, _, S, _, _, _, h6⟩ := st;exact h6 s _ h

section
variable {k : Nat} {q : dquick} {d now : Int} {r : Int × Bool} {cf cb : Nat}

@[reducible] noncomputable def ndC (Sh : FS) (v : VW) : Cx := ⟨Try.prog, 23, Sh, v, feet [], none, [], Md.plain Try.prog⟩
@[reducible] noncomputable def ndA (q : dquick) (d now : Int) (cf cb : Nat) : List A := [.at (.ptr tquick) q, .at (.int .i64) d, .at (.int .i64) now, .at .val (.chan (some cf)), .at .val (.chan (some cb))]
@[reducible] noncomputable def ndG1 (d now : Int) (cf cb : Nat) (r : Int × Bool) : Ga := [(1, .at (.int .i64) d), (2, .at (.int .i64) now), (3, .at .val (.chan (some cf))), (4, .at .val (.chan (some cb))), (5, .eq (.int .i64 r.1)), (6, .eq (.bool r.2))]
@[reducible] noncomputable def ndG2 (d : Int) (cf cb : Nat) (b : Bool) : Ga := [(1, .at (.int .i64) d), (3, .at .val (.chan (some cf))), (4, .at .val (.chan (some cb))), (18, .eq (.bool b))]

theorem nd_worker (hw : chg_quick_without k q d = some r) {p0 p1 p2 p3 p4 : Value} {Sh : FS} {v : VW} (hd : ∀ b, Sh b → b < v.heap.size) (hO : OwnsC [] Sh v) (hall : All2 Sh v (ndA q d now cf cb) [p0, p1, p2, p3, p4]) :
 Wk Try.prog (Snd Try.prog (cond (ndFree r now) cf cb) (.int .i64 d)) v (childOf Try.prog { target := .fn (.func 38) #[p0, p1, p2, p3, p4], args := #[] }) [] := by
 obtain ⟨rn, rs⟩ := r
 have bc : BC Try.prog (Wk Try.prog (Snd Try.prog (cond (ndFree (rn, rs) now) cf cb) (.int .i64 d))) := Wk.bc
 refine bc.move (fun m w => g_childStart nd_en38) ?_
 rw [enter_at Try.func38 rfl]
 have st0 : St (ndC Sh v) (entry 0 (ndA q d now cf cb)) [] { tmps := #[p0, p1, p2, p3, p4] ++ Array.replicate (23 - 5) undef, defers := [] } v := St.entry (vs := [p0, p1, p2, p3, p4]) rfl hd hall hO
 refine bc.move (fun _ _ => g_seq) ?_
 refine JC.runT (c := ndC Sh v) (Q := ndQ (ndC Sh v) (ndG1 d now cf cb (rn, rs)) []) bc rfl st0 ?_ (fun e a1 v1 q1 => ?_)
 ·
  refine JC.region ?_;refine JO.s rfl (o_load_at (t := .ptr tquick) rfl sz83 rfl) ⟨rfl, trivial⟩ ?_;refine JO.s rfl (o_load_at (t := .int .i64) rfl sz3 rfl) ⟨rfl, trivial⟩ ?_;refine JO.s rfl (o_call [.tmp 8, .tmp 9] rfl rfl nd_en39 rfl (chg_quick_without_ok k q d _ hw)) ⟨rfl, rfl, trivial⟩ ?_;refine JO.mv rfl rfl ?_;refine JO.s rfl (o_extract rfl rfl) ⟨rfl, trivial⟩ ?_;refine JO.s rfl (o_extract rfl rfl) ⟨rfl, trivial⟩ ?_;refine JO.as rfl rfl ?_;refine JO.as rfl rfl ?_;refine JO.nil ?_;refine JN.then_n ?_;exact SE.fin [] (by repeat (first | exact trivial | refine ⟨rfl, ?_⟩)) rfl
 ·
  have send : ∀ (s1 s2 : Nat) (a3 : Act) (v3 : VW) (ops : Array Oper) (o : Oper) (c : Nat), c = cond (ndFree (rn, rs) now) cf cb → ops[2]? = some o → o.guard = none → o.dst = none → o.op = .send (.tmp s1) (.tmp s2) → a3.defers = [] → a3.eval (.tmp s1) = .chan (some c) → a3.eval (.tmp s2) = .int .i64 d →
   Wk Try.prog (Snd Try.prog (cond (ndFree (rn, rs) now) cf cb) (.int .i64 d)) v3 (Frame.atR { (default : Frame) with fn := 38, kind := .deferred } a3 [.inRegion ops [2]]) [{ childOf Try.prog { target := .fn (.func 38) #[p0, p1, p2, p3, p4], args := #[] } with defers := [] }] := by
   intro s1 s2 a3 v3 ops o c hc ho hg hdst hop hdf e1 e2
   subst hc
   refine .stop fun v4 _ => ⟨Gr (Frame.atR { (default : Frame) with fn := 38, kind := .deferred } a3 [.inRegion ops [2]]) [{ childOf Try.prog { target := .fn (.func 38) #[p0, p1, p2, p3, p4], args := #[] } with defers := [] }], .tuple #[], #[], 4, ?_, fun e he => by simp at he, ?_⟩
   ·
    rw [g_send (i := 2) (rest := []) (k := []) ho (wanted_none hg _) hop e1, e2]
   ·
    rw [served_send];refine quits_child rfl rfl Try.func38 rfl ?_;rw [ho];simp [hdst, Act.put, hdf]
  cases e with
  | normal =>
   refine bc.move (fun _ _ => g_seq) ?_;refine JC.runT (c := ndC Sh v) (Q := ndQ (ndC Sh v) (ndG2 d cf cb (ndFree (rn, rs) now)) []) bc rfl q1 ?_ (fun e a2 v2 q2 => ?_)
   ·refine JC.region ?_;cases rs with
    | true =>
     refine JO.mv rfl rfl ?_;refine JO.mv rfl rfl ?_;refine JO.g00 rfl rfl rfl rfl rfl rfl (o_move rfl) ⟨rfl, trivial⟩ ?_;refine JO.g00 rfl rfl rfl rfl rfl rfl (o_load_at (t := .int .i64) rfl sz3 rfl) ⟨rfl, trivial⟩ ?_;refine JO.g00 rfl rfl rfl rfl rfl rfl (o_leq rfl) ⟨rfl, rfl, trivial⟩ ?_;refine JO.s rfl (o_pick_t rfl) ⟨rfl, rfl, trivial⟩ ?_;refine JO.nil ?_;refine JN.then_n ?_;exact SE.fin [] (by repeat (first | exact trivial | refine ⟨rfl, ?_⟩)) rfl
    | false =>
     refine JO.mv rfl rfl ?_;refine JO.mv rfl rfl ?_;refine JO.gno rfl rfl rfl rfl rfl rfl rfl ?_;refine JO.gno rfl rfl rfl rfl rfl rfl rfl ?_;refine JO.gno rfl rfl rfl rfl rfl rfl rfl ?_;refine JO.s rfl (o_pick_f rfl) ⟨rfl, rfl, trivial⟩ ?_;refine JO.nil ?_;refine JN.then_n ?_;exact SE.fin [] (by repeat (first | exact trivial | refine ⟨rfl, ?_⟩)) rfl
   ·cases e with
    | normal =>
     have hb := St.slot q2 (s := 18) rfl;refine bc.move (fun _ _ => g_cond hb) ?_;by_cases hf : ndFree (rn, rs) now = true
     ·rw [if_pos hf];refine bc.move (fun _ _ => g_region) ?_;refine JO.runT (c := ndC Sh v) (i := 0) (rest := [1, 2]) (Γ' := (19, .eq (.chan (some cf))) :: ndG2 d cf cb (ndFree (rn, rs) now)) (Δ' := []) bc rfl q2 rfl rfl (JO.s rfl (o_load_at (t := .val) rfl nd_sz92 rfl) ⟨rfl, trivial⟩ (JO.nil (JN.then_n fun _ _ h => h))) fun a3 v3 q3 => ?_;refine JO.runT (c := ndC Sh v) (i := 1) (rest := [2]) (Γ' := (20, .eq (.int .i64 d)) :: (19, .eq (.chan (some cf))) :: ndG2 d cf cb (ndFree (rn, rs) now)) (Δ' := []) bc rfl q3 rfl rfl (JO.s rfl (o_load_at (t := .int .i64) rfl sz3 rfl) ⟨rfl, trivial⟩ (JO.nil (JN.then_n fun _ _ h => h))) fun a4 v4 q4 => ?_;exact send 19 20 a4 v4 _ _ cf (by rw [hf]; rfl) rfl rfl rfl rfl q4.1 (St.slot q4 (s := 19) rfl) (St.slot q4 (s := 20) rfl)
     ·rw [if_neg hf];have hf : ndFree (rn, rs) now = false := by simpa using hf
      refine bc.move (fun _ _ => g_region) ?_;refine JO.runT (c := ndC Sh v) (i := 0) (rest := [1, 2]) (Γ' := (21, .eq (.chan (some cb))) :: ndG2 d cf cb (ndFree (rn, rs) now)) (Δ' := []) bc rfl q2 rfl rfl (JO.s rfl (o_load_at (t := .val) rfl nd_sz92 rfl) ⟨rfl, trivial⟩ (JO.nil (JN.then_n fun _ _ h => h))) fun a3 v3 q3 => ?_;refine JO.runT (c := ndC Sh v) (i := 1) (rest := [2]) (Γ' := (22, .eq (.int .i64 d)) :: (21, .eq (.chan (some cb))) :: ndG2 d cf cb (ndFree (rn, rs) now)) (Δ' := []) bc rfl q3 rfl rfl (JO.s rfl (o_load_at (t := .int .i64) rfl sz3 rfl) ⟨rfl, trivial⟩ (JO.nil (JN.then_n fun _ _ h => h))) fun a4 v4 q4 => ?_;exact send 21 22 a4 v4 _ _ cb (by rw [hf]; rfl) rfl rfl rfl rfl q4.1 (St.slot q4 (s := 21) rfl) (St.slot q4 (s := 22) rfl)
    | ret => exact q2.elim
    | exit id => exact q2.elim
    | goto l => exact q2.elim
    | panic ch => exact q2.elim
    | outgrown => exact q2.elim
  | ret => exact q1.elim
  | exit id => exact q1.elim
  | goto l => exact q1.elim
  | panic ch => exact q1.elim
  | outgrown => exact q1.elim
end
end Go.Proofs.Ytopgphikdglphaa

/- change.Needless: it starts its goroutines. -/
set_option linter.unusedVariables false
set_option maxRecDepth 4000
namespace Go.Proofs.Ytopgphikdglphaa
open K Go Go.Proofs Go.Conc

@[reducible] noncomputable def nmC (S : FS) (v : VW) (rest : List D) : Cx := ⟨Try.prog, 69, S, v, feet rest, none, [], Md.plain Try.prog⟩

/-- What holds of the starter among its crew: since S0, v0 nothing of another's has changed. -/
def NI (v0 : VW) (S0 : FS) (rest : List D) (Γ : Ga) (a : Act) (v : VW) : Prop :=
 ∃ S, a.defers = [] ∧ a.tmps.size = 69 ∧ CStep (feet rest) S0 (ez v0) S (ez v) ∧ OwnsC rest S v ∧ ∀ s r, lk Γ s = some r → r.holds S v (a.tmps.getD s undef)

theorem NI.st {v0 : VW} {S0 : FS} {rest : List D} {Γ : Ga} {a : Act} {v : VW} (h : NI v0 S0 rest Γ a v) : ∃ S, St (nmC S v rest) Γ rest a v ∧ ∀ Γ' a' v', St (nmC S v rest) Γ' rest a' v' → NI v0 S0 rest Γ' a' v' := by
 obtain ⟨S, h1, h2, h3, h4, h5⟩ := h;refine ⟨S, ⟨h1, h2, S, CStep.refl h3.dom, fun b hb => .inl hb, h4, h5⟩, ?_⟩;rintro Γ' a' v' ⟨g1, g2, S', g3, g4, g5, g6⟩;exact ⟨S', g1, g2, h3.trans g3.ez fun b hb => .inl hb, g5, g6⟩

section
variable {k : Nat} {q : dquick} {now m : Int} {cf cb : Nat} {v0 : VW} {S0 : FS} {rest : List D} {sd : Nat → Nat × Value} {n : Nat} {pe : Nat → Prop} {Gd : Machine → Trace → Prop}

@[reducible] noncomputable def ndG40 (q : dquick) (now m : Int) (cf cb : Nat) (i : Int) : Ga := [(4, .at (.ptr tquick) q), (7, .at (.int .i64) now), (9, .at .val (.chan (some cf))), (10, .at .val (.chan (some cb))), (40, .eq (.int .i64 m)), (41, .eq (.int .i64 i))]
@[reducible] noncomputable def ndG42 (q : dquick) (now m : Int) (cf cb : Nat) (i : Int) (b : Bool) : Ga := (42, .eq (.bool b)) :: ndG40 q now m cf cb i
@[reducible] noncomputable def ndG11 (q : dquick) (now m : Int) (cf cb : Nat) (i : Int) : Ga := (11, .at (.int .i64) i) :: ndG40 q now m cf cb i

/-- The body of the loop that starts them. -/
@[reducible] def ndBody (t1 t2 t3 t4 t5 t6 t7 t8 : TypeId) (s1 s2 s3 s4 s5 s6 s7 s8 : String) (e1 e2 e3 e4 e5 e6 e7 e8 : Array Edge) : Code :=
 .seq (.region 9 #[⟨some 42, .binOp .lss 3 (.tmp 41) (.tmp 40) 3, t1, s1, e1, none⟩] false) (.seq (.cond (.tmp 42) .skip (.exit 0)) (.seq (.block 1 (.seq
  (.region 10 #[⟨some 43, .move (.tmp 41), t2, s2, e2, none⟩, ⟨some 11, .alloc 3, t3, s3, e3, none⟩, ⟨none, .store 3 (.tmp 11) (.tmp 43), t4, s4, e4, none⟩] false)
  (.region 11 #[⟨some 44, .makeFunc (.func 38) #[] #[.tmp 4, .tmp 11, .tmp 7, .tmp 9, .tmp 10], t5, s5, e5, none⟩, ⟨none, .go { callee := .value (.tmp 44), args := #[], argTypes := #[] }, t6, s6, e6, none⟩] false)))
  (.region 12 #[⟨some 45, .binOp .add 3 (.tmp 41) (.const (.int .i64 1)) 3, t7, s7, e7, none⟩, ⟨some 41, .move (.tmp 45), t8, s8, e8, none⟩] false)))

/-- **One goroutine more.** -/
theorem nd_spawn1 (hnx : ∀ m m' t ops, stepT Try.prog m = (.next m', ops) → Gd m' (t ++ ops) → Gd m t) {i : Nat} {r : Int × Bool} (him : (i : Int) < m) (hmm : m ≤ 1000000) (hw : chg_quick_without k q i = some r) (hn : 0 < n) (hsd : sd n = (cond (ndFree r now) cf cb, .int .i64 i))
 {t1 t2 t3 t4 t5 t6 t7 t8 : TypeId} {s1 s2 s3 s4 s5 s6 s7 s8 : String} {e1 e2 e3 e4 e5 e6 e7 e8 : Array Edge}
 {a : Act} {v : VW} {b : Frame} {kk : List Item} {cs : List Frame} (hb : b.roundOf = none) (hcf : v.A cf) (hcb : v.A cb) (hI : NI v0 S0 rest (ndG40 q now m cf cb i) a v)
 (next : ∀ a' v', v'.A cf → v'.A cb → NI v0 S0 rest (ndG40 q now m cf cb ((i + 1 : Nat) : Int)) a' v' → TC Try.prog cf cb sd (n + 1) (upd pe n True) Gd v' (b.atR a' kk) cs) :
 TC Try.prog cf cb sd n pe Gd v (b.atR a (.code (ndBody t1 t2 t3 t4 t5 t6 t7 t8 s1 s2 s3 s4 s5 s6 s7 s8 e1 e2 e3 e4 e5 e6 e7 e8) :: kk)) cs := by
 have bc : BC Try.prog (TC Try.prog cf cb sd n pe Gd) := TC.bc hnx
 obtain ⟨S, i1, i2, i3, i4, i5⟩ := hI
 have st : St (nmC S v rest) (ndG40 q now m cf cb i) rest a v := ⟨i1, i2, S, CStep.refl i3.dom, fun b hb => .inl hb, i4, i5⟩
 refine bc.move (fun _ _ => g_seq) ?_
 refine JC.runT (c := nmC S v rest) (Q := ndQ (nmC S v rest) (ndG42 q now m cf cb i true) rest) bc hb st ?_ (fun e a1 v1 q1 => ?_)
 ·
  refine JC.region ?_;refine JO.s rfl (o_lss rfl) ⟨rfl, rfl, trivial⟩ ?_;refine JO.nil (JN.then_n ?_);rw [decide_eq_true him];exact fun _ _ h => h
 cases e with
 | normal =>
  refine bc.move (fun _ _ => g_seq) ?_;refine bc.move (fun _ _ => g_cond (t := true) (St.slot q1 (s := 42) rfl)) ?_;rw [if_pos rfl];refine bc.move (fun _ _ => g_skip) ?_;refine bc.move (fun _ _ => g_seq) ?_;refine bc.move (fun _ _ => g_block) ?_;refine bc.move (fun _ _ => g_seq) ?_;refine JC.runT (c := nmC S v rest) (Q := ndQ (nmC S v rest) (ndG11 q now m cf cb i) rest) bc hb q1 ?_ (fun e a2 v2 q2 => ?_)
  ·refine JC.region ?_;refine JO.mv rfl rfl ?_;refine JO.s01 rfl rfl rfl (o_alloc rfl za3 al3) trivial fun b11 => ?_;refine JO.n11 rfl rfl (o_store rfl sz3 rfl rfl rfl) ⟨rfl, rfl, trivial⟩ ?_;refine JO.se (SE.frzObj (t := .int .i64) (x := (i : Int)) [11] .int ⟨rfl, trivial⟩) ?_;refine JO.nil (JN.then_n ?_);exact SE.pf (junk := []) (by repeat (first | exact trivial | refine ⟨rfl, ?_⟩)) perm0
  ·cases e with
   | normal =>
    obtain ⟨g1, g2, S2, g3, g4, g5, g6⟩ := q2;have g1 : a2.defers = [] := g1;have g2 : a2.tmps.size = 69 := g2;refine bc.move (fun _ _ => g_region) ?_;let x : Value := .func (.func 38) #[] #[a2.tmps.getD 4 undef, a2.tmps.getD 11 undef, a2.tmps.getD 7 undef, a2.tmps.getD 9 undef, a2.tmps.getD 10 undef];refine bc.step _ _ _ fun v3 hr => ?_
    have hsem : Oper.semAt b.roundOf a2.eval ⟨some 44, .makeFunc (.func 38) #[] #[.tmp 4, .tmp 11, .tmp 7, .tmp 9, .tmp 10], t5, s5, e5, none⟩ = pure (.value x) := by
     rw [hb, Oper.semAt_none];simp [execOp, Instr.makeFunc, x, Act.eval]
    obtain ⟨es, h1, h2⟩ := g_value (P := Try.prog) (b := b) (a := a2) (w := v3.toWorld) (w' := v3.toWorld) (x := x) (k := .inBlock 1 :: .code (.region 12 #[⟨some 45, .binOp .add 3 (.tmp 41) (.const (.int .i64 1)) 3, t7, s7, e7, none⟩, ⟨some 41, .move (.tmp 45), t8, s8, e8, none⟩] false) :: kk) (cs := cs) (rest := [1]) (i := 0) (o := ⟨some 44, .makeFunc (.func 38) #[] #[.tmp 4, .tmp 11, .tmp 7, .tmp 9, .tmp 10], t5, s5, e5, none⟩)
     (ops := #[⟨some 44, .makeFunc (.func 38) #[] #[.tmp 4, .tmp 11, .tmp 7, .tmp 9, .tmp 10], t5, s5, e5, none⟩, ⟨none, .go { callee := .value (.tmp 44), args := #[], argTypes := #[] }, t6, s6, e6, none⟩]) rfl (wanted_none rfl _) (by rw [hsem]; rfl)
    refine ⟨_, _, v3.toWorld, es, h2, (Guar.refl v3).sub (fun e he => by have := h1 e he; rw [hsem] at this; exact this), ?_⟩;have hO3 := g5.rely g3.dom hr;have hd3 : ∀ y, S2 y → y < v3.heap.size := fun y hy => Nat.lt_of_lt_of_le (g3.dom y hy) hr.size;have hK3 := keep_rely g3.dom g5.sees hr;have h63 : ∀ s r, lk (ndG11 q now m cf cb i) s = some r → r.holds S2 v3 (a2.tmps.getD s undef) := fun s r hl => A.mono (fun _ h => h) hK3 r (g6 s r hl);have hcf3 : v3.A cf := hr.sub cf (g3.subA cf hcf);have hcb3 : v3.A cb := hr.sub cb (g3.subA cb hcb)
    have hx : (a2.put (some 44) x).eval (.tmp 44) = x := by
     show (a2.put (some 44) x).tmps.getD 44 undef = x;rw [getD_put (by rw [g2]; decide), if_pos rfl]
    have hchS : ∀ c, c = cf ∨ c = cb → ¬ S2 c := fun c hc hS => by
     rcases hc with rfl | rfl
     ·exact hO3.sees _ hS hcf3
     ·exact hO3.sees _ hS hcb3
    have hsdc : (sd n).1 = cf ∨ (sd n).1 = cb := by
     rw [hsd];cases ndFree r now
     ·exact .inr rfl
     ·exact .inl rfl
    refine TC.spawn hnx (Sh := S2) (fc := childOf Try.prog { target := .fn (.func 38) #[a2.tmps.getD 4 undef, a2.tmps.getD 11 undef, a2.tmps.getD 7 undef, a2.tmps.getD 9 undef, a2.tmps.getD 10 undef], args := #[] }) hn (fun w0 => g_go (i := 1) (rest := []) rfl (wanted_none rfl _) rfl rfl hx) (fun y hy => ⟨hd3 y hy, hO3.sees y hy⟩)
     hchS (fun v4 hr4 => ?_) hsdc ?_
    ·rw [hsd];have hd4 : ∀ y, S2 y → y < v4.heap.size := fun y hy => Nat.lt_of_lt_of_le (hd3 y hy) hr4.size;have h64 : ∀ s r, lk (ndG11 q now m cf cb i) s = some r → r.holds S2 v4 (a2.tmps.getD s undef) := fun s r hl => A.mono (fun _ h => h) (keep_rely hd3 hO3.sees hr4) r (h63 s r hl)
     exact nd_worker hw (v := ⟨v4.toWorld, fun b => b < v4.heap.size ∧ ¬ S2 b, S2⟩) hd4 ⟨fun _ h => by simp at h, fun _ hb => (feet_nil hb).elim, List.Pairwise.nil, fun _ hb => (feet_nil hb).elim, fun y hy h => h.2 hy, fun _ h => h.1, hd4⟩
      ⟨_, _, rfl, h64 4 _ rfl, _, _, rfl, h64 11 _ rfl, _, _, rfl, h64 7 _ rfl, _, _, rfl, h64 9 _ rfl, _, _, rfl, h64 10 _ rfl, rfl⟩
    ·have bc' : BC Try.prog (TC Try.prog cf cb sd (n + 1) (upd pe n True) Gd) := TC.bc hnx;refine bc'.move (fun _ _ => g_region_end) ?_;refine bc'.move (fun _ _ => g_inBlock) ?_;have hO4 : OwnsC rest S2 ⟨v3.toWorld, v3.A, fun b => v3.Z b ∨ S2 b⟩ := ⟨hO3.holds, hO3.own, hO3.apart, fun y hy => ⟨(hO3.far y hy).1, fun hz => hz.elim (hO3.far y hy).2 (hO3.own y hy).1⟩, hO3.sees, hO3.domA, fun y hy => hy.elim (hO3.domZ y) (hd3 y)⟩;have hE : CStep (feet rest) S0 (ez v0) S2 (ez ⟨v3.toWorld, v3.A, fun b => v3.Z b ∨ S2 b⟩) := (i3.trans g3.ez fun b hb => .inl hb).trans (CStep.rely (X := feet rest) g3.dom hr).ez fun b hb => .inl hb
     have st4 : St (nmC S2 ⟨v3.toWorld, v3.A, fun b => v3.Z b ∨ S2 b⟩ rest) (ndG40 q now m cf cb i) rest ((a2.put (some 44) x).put none undef) ⟨v3.toWorld, v3.A, fun b => v3.Z b ∨ S2 b⟩ := by
      refine ⟨g1, by simpa [Act.put] using g2, S2, CStep.refl hd3, fun b hb => .inl hb, hO4, fun s r hl => ?_⟩;have hs : s ≠ 44 := fun e => by subst e; simp [lk] at hl
      have e1 : ((a2.put (some 44) x).put none undef).tmps.getD s undef = a2.tmps.getD s undef := by
       show (a2.put (some 44) x).tmps.getD s undef = _;rw [getD_put (by rw [g2]; decide), if_neg (fun e => hs e.symm)]
      rw [e1];have hs11 : s ≠ 11 := fun e => by subst e; simp [lk] at hl
      refine h63 s r ?_;simp only [ndG11, lk];rw [if_neg (fun e => hs11 e.symm)];exact hl
     refine JC.runT (c := nmC S2 ⟨v3.toWorld, v3.A, fun b => v3.Z b ∨ S2 b⟩ rest) (Q := ndQ (nmC S2 ⟨v3.toWorld, v3.A, fun b => v3.Z b ∨ S2 b⟩ rest) (ndG40 q now m cf cb ((i + 1 : Nat) : Int)) rest) bc' hb st4 ?_ (fun e a5 v5 q5 => ?_)
     ·refine JC.region ?_;refine JO.s rfl (o_add rfl (q := ((i + 1 : Nat) : Int)) (by unfold ck; rw [if_pos (by omega)]; congr 1)) ⟨rfl, rfl, trivial⟩ ?_;refine JO.mv rfl rfl ?_;refine JO.nil (JN.then_n ?_);exact SE.pf (junk := []) (by repeat (first | exact trivial | refine ⟨rfl, ?_⟩)) perm0
     ·cases e with
      | normal =>
       obtain ⟨k1, k2, S5, k3, k4, k5, k6⟩ := q5;exact next a5 v5 (k3.subA cf hcf3) (k3.subA cb hcb3) ⟨S5, k1, k2, hE.trans k3.ez fun b hb => .inl hb, k5, k6⟩
      | ret => exact q5.elim
      | exit id => exact q5.elim
      | goto l => exact q5.elim
      | panic ch => exact q5.elim
      | outgrown => exact q5.elim
   | ret => exact q2.elim
   | exit id => exact q2.elim
   | goto l => exact q2.elim
   | panic ch => exact q2.elim
   | outgrown => exact q2.elim
 | ret => exact q1.elim
 | exit id => exact q1.elim
 | goto l => exact q1.elim
 | panic ch => exact q1.elim
 | outgrown => exact q1.elim

theorem pe_up {n0 i : Nat} : upd (fun j => n0 ≤ j ∧ j < n0 + i) (n0 + i) True = fun j => n0 ≤ j ∧ j < n0 + (i + 1) := by
 funext j;unfold upd;split
 ·rename_i e; subst e; simp
 ·rename_i e;simp only [eq_iff_iff];omega

/-- **All goroutines are started.** -/
theorem nd_spawns (hnx : ∀ m m' t ops, stepT Try.prog m = (.next m', ops) → Gd m' (t ++ ops) → Gd m t) {N n0 : Nat} {rs : Nat → Int × Bool} (hN : N ≤ 1000000) (hn0 : 0 < n0) (hws : ∀ i, i < N → chg_quick_without k q i = some (rs i)) (hsd : ∀ i, i < N → sd (n0 + i) = (cond (ndFree (rs i) now) cf cb, .int .i64 i))
 {t1 t2 t3 t4 t5 t6 t7 t8 : TypeId} {s1 s2 s3 s4 s5 s6 s7 s8 : String} {e1 e2 e3 e4 e5 e6 e7 e8 : Array Edge} {b : Frame} {kk : List Item} {cs : List Frame} (hb : b.roundOf = none)
 (next : ∀ a' v', v'.A cf → v'.A cb → NI v0 S0 rest (ndG40 q now N cf cb N) a' v' → TC Try.prog cf cb sd (n0 + N) (fun j => n0 ≤ j ∧ j < n0 + N) Gd v' (b.atR a' kk) cs) :
 ∀ (d i : Nat), i + d = N → ∀ (a : Act) (v : VW), v.A cf → v.A cb → NI v0 S0 rest (ndG40 q now N cf cb i) a v →
  TC Try.prog cf cb sd (n0 + i) (fun j => n0 ≤ j ∧ j < n0 + i) Gd v (b.atR a (.code (ndBody t1 t2 t3 t4 t5 t6 t7 t8 s1 s2 s3 s4 s5 s6 s7 s8 e1 e2 e3 e4 e5 e6 e7 e8) :: .inLoop (ndBody t1 t2 t3 t4 t5 t6 t7 t8 s1 s2 s3 s4 s5 s6 s7 s8 e1 e2 e3 e4 e5 e6 e7 e8) :: .inBlock 0 :: kk)) cs
 | 0, i, hi, a, v, hcf, hcb, hI => by
  have e : i = N := by omega
  subst e
  have bc : BC Try.prog (TC Try.prog cf cb sd (n0 + i) (fun j => n0 ≤ j ∧ j < n0 + i) Gd) := TC.bc hnx
  obtain ⟨S, i1, i2, i3, i4, i5⟩ := hI
  have st : St (nmC S v rest) (ndG40 q now i cf cb i) rest a v := ⟨i1, i2, S, CStep.refl i3.dom, fun b hb => .inl hb, i4, i5⟩
  refine bc.move (fun _ _ => g_seq) ?_
  refine JC.runT (c := nmC S v rest) (Q := ndQ (nmC S v rest) (ndG42 q now i cf cb i false) rest) bc hb st ?_ (fun e a1 v1 q1 => ?_)
  ·
   refine JC.region ?_
   refine JO.s rfl (o_lss rfl) ⟨rfl, rfl, trivial⟩ ?_
   refine JO.nil (JN.then_n ?_)
   rw [decide_eq_false (Int.lt_irrefl _)]
   exact fun _ _ h => h
  cases e with
  | normal =>
   refine bc.move (fun _ _ => g_seq) ?_
   refine bc.move (fun _ _ => g_cond (t := false) (St.slot q1 (s := 42) rfl)) ?_
   rw [if_neg (by decide)]
   refine bc.move (fun _ _ => g_exit (k' := kk) (by simp [exitTo])) ?_
   obtain ⟨k1, k2, S5, k3, k4, k5, k6⟩ := q1
   refine next a1 v1 (k3.subA cf hcf) (k3.subA cb hcb) ⟨S5, k1, k2, i3.trans k3.ez fun b hb => .inl hb, k5, fun s r hl => k6 s r ?_⟩
   have hs : s ≠ 42 := fun e => by subst e; simp [lk] at hl
   simp only [lk]
   rw [if_neg (fun e => hs e.symm)]
   exact hl
  | ret => exact q1.elim
  | exit id => exact q1.elim
  | goto l => exact q1.elim
  | panic ch => exact q1.elim
  | outgrown => exact q1.elim
 | d + 1, i, hi, a, v, hcf, hcb, hI => by
  refine nd_spawn1 hnx (r := rs i) (by omega) (by omega) (hws i (by omega)) (by omega) (hsd i (by omega)) hb hcf hcb hI fun a' v' hcf' hcb' hI' => ?_
  rw [pe_up]
  have bc : BC Try.prog (TC Try.prog cf cb sd (n0 + i + 1) (fun j => n0 ≤ j ∧ j < n0 + (i + 1)) Gd) := TC.bc hnx
  refine bc.move (fun _ _ => g_inLoop) ?_
  exact nd_spawns hnx hN hn0 hws hsd hb next d (i + 1) (by omega) a' v' hcf' hcb' hI'
end
end Go.Proofs.Ytopgphikdglphaa

/- change.Needless: it takes what its goroutines hand over. -/
set_option linter.unusedVariables false
set_option maxRecDepth 4000
namespace Go.Proofs.Ytopgphikdglphaa
open K Go Go.Proofs Go.Conc

/-- The set, having heard of these. -/
def ndStep (rs : Nat → Int × Bool) (o : Nat → Int) (now : Int) (s : Int) (i : Nat) : Int := if ndFree (rs i) now then ior .u8 s (o i) else s
def ndAcc (rs : Nat → Int × Bool) (o : Nat → Int) (now : Int) (l : List Nat) : Int := l.foldl (ndStep rs o now) 0
theorem ndAcc_snoc {rs : Nat → Int × Bool} {o : Nat → Int} {now : Int} {l : List Nat} {i : Nat} : ndAcc rs o now (l ++ [i]) = ndStep rs o now (ndAcc rs o now l) i := by simp [ndAcc]

section
variable {k : Nat} {now : Int} {cf cb N n0 : Nat} {v0 : VW} {S0 : FS} {rest : List D} {sd : Nat → Nat × Value} {Gd : Machine → Trace → Prop} {rs : Nat → Int × Bool} {o : Nat → Int}

@[reducible] noncomputable def ndG52 (cf cb : Nat) (m s j : Int) : Ga := [(9, .at .val (.chan (some cf))), (10, .at .val (.chan (some cb))), (12, .eq (.int .u8 s)), (51, .eq (.int .i64 m)), (52, .eq (.int .i64 j))]
@[reducible] noncomputable def ndG53 (cf cb : Nat) (m s j : Int) (b : Bool) : Ga := (53, .eq (.bool b)) :: ndG52 cf cb m s j
@[reducible] noncomputable def ndG55 (cf cb : Nat) (m s j : Int) : Ga := (55, .eq (.chan (some cb))) :: (54, .eq (.chan (some cf))) :: ndG52 cf cb m s j
@[reducible] noncomputable def ndG56 (cf cb : Nat) (m s j kk x0 x1 : Int) : Ga := (56, .tup (.pair (.eq (.int .i64 kk)) (.pair (.eq (.bool true)) (.pair (.eq (.int .i64 x0)) (.pair (.eq (.int .i64 x1)) .any))))) :: ndG52 cf cb m s j

/-- The body of the loop that hears of them. -/
@[reducible] def ndRecv (t : Nat → TypeId) (s : Nat → String) (e : Nat → Array Edge) : Code :=
 .seq (.region 15 #[⟨some 53, .binOp .lss 3 (.tmp 52) (.tmp 51) 3, t 0, s 0, e 0, none⟩] false) (.seq (.cond (.tmp 53) .skip (.exit 2)) (.seq
  (.block 3 (.seq (.seq (.region 16 #[⟨some 54, .load 92 (.tmp 9), t 1, s 1, e 1, none⟩] false) (.region 17 #[⟨some 55, .load 92 (.tmp 10), t 2, s 2, e 2, none⟩] false))
   (.seq (.region 18 #[⟨some 56, .select #[{ chan := .tmp 54, send := none, elem := 3 }, { chan := .tmp 55, send := none, elem := 3 }] true, t 3, s 3, e 3, none⟩, ⟨some 57, .extract (.tmp 56) 0, t 4, s 4, e 4, none⟩,
    ⟨some 58, .binOp .eql 3 (.tmp 57) (.const (.int .i64 0)) 3, t 5, s 5, e 5, none⟩, ⟨some 59, .binOp .eql 3 (.tmp 57) (.const (.int .i64 1)) 3, t 6, s 6, e 6, none⟩] false)
    (.block 4 (.cond (.tmp 58) (.seq (.region 19 #[⟨some 60, .extract (.tmp 56) 2, t 7, s 7, e 7, none⟩, ⟨some 13, .assign (.tmp 60), t 8, s 8, e 8, none⟩] false)
     (.region 20 #[⟨some 61, .move (.tmp 12), t 9, s 9, e 9, none⟩, ⟨some 62, .move (.tmp 13), t 10, s 10, e 10, none⟩, ⟨some 63, .buildSlice 22 1 #[(0, .tmp 62)], t 11, s 11, e 11, none⟩,
      ⟨some 64, .call { callee := .value (.func 40), args := #[.tmp 63], argTypes := #[22] }, t 12, s 12, e 12, none⟩, ⟨some 65, .binOp .or 94 (.tmp 61) (.tmp 64) 94, t 13, s 13, e 13, none⟩, ⟨some 12, .assign (.tmp 65), t 14, s 14, e 14, none⟩] false)) (.cond (.tmp 59) .skip .skip))))))
  (.region 21 #[⟨some 66, .binOp .add 3 (.tmp 52) (.const (.int .i64 1)) 3, t 15, s 15, e 15, none⟩, ⟨some 52, .move (.tmp 66), t 16, s 16, e 16, none⟩] false)))

theorem nd_z3 : ∀ w : World, (zeroValue 3).runT Try.prog w #[] = (.ok (.int .i64 0) w, #[]) := fun w => by kernel_rfl

/-- What is behind the select: which, and what. -/
theorem nd_after {pe : Nat → Prop} {n : Nat} (bc : BC Try.prog (TC Try.prog cf cb sd n pe Gd)) {t : Nat → TypeId} {s : Nat → String} {e : Nat → Array Edge} {m sv j kk x0 x1 : Int} {S : FS} {u v : VW} {a : Act} {b : Frame} {K : List Item} {cs : List Frame} (hb : b.roundOf = none)
 (hkk : kk = 0 ∨ kk = 1) {s' : Int} (h0 : kk = 0 → ∃ i : Nat, x0 = i ∧ ∃ y, chg_of k [x0] = some y ∧ s' = ior .u8 sv y) (h1 : kk = 1 → s' = sv) (hj : ck (j + 1) = some (j + 1))
 (st : St (nmC S u rest) (ndG56 cf cb m sv j kk x0 x1) rest a v)
 (next : ∀ a' v', St (nmC S u rest) (ndG52 cf cb m s' (j + 1)) rest a' v' → TC Try.prog cf cb sd n pe Gd v' (b.atR a' K) cs) :
 TC Try.prog cf cb sd n pe Gd v (b.atR a (.inRegion #[⟨some 56, .select #[{ chan := .tmp 54, send := none, elem := 3 }, { chan := .tmp 55, send := none, elem := 3 }] true, t 3, s 3, e 3, none⟩, ⟨some 57, .extract (.tmp 56) 0, t 4, s 4, e 4, none⟩,
  ⟨some 58, .binOp .eql 3 (.tmp 57) (.const (.int .i64 0)) 3, t 5, s 5, e 5, none⟩, ⟨some 59, .binOp .eql 3 (.tmp 57) (.const (.int .i64 1)) 3, t 6, s 6, e 6, none⟩] [1, 2, 3] :: 
  .code (.block 4 (.cond (.tmp 58) (.seq (.region 19 #[⟨some 60, .extract (.tmp 56) 2, t 7, s 7, e 7, none⟩, ⟨some 13, .assign (.tmp 60), t 8, s 8, e 8, none⟩] false)
   (.region 20 #[⟨some 61, .move (.tmp 12), t 9, s 9, e 9, none⟩, ⟨some 62, .move (.tmp 13), t 10, s 10, e 10, none⟩, ⟨some 63, .buildSlice 22 1 #[(0, .tmp 62)], t 11, s 11, e 11, none⟩,
    ⟨some 64, .call { callee := .value (.func 40), args := #[.tmp 63], argTypes := #[22] }, t 12, s 12, e 12, none⟩, ⟨some 65, .binOp .or 94 (.tmp 61) (.tmp 64) 94, t 13, s 13, e 13, none⟩, ⟨some 12, .assign (.tmp 65), t 14, s 14, e 14, none⟩] false)) (.cond (.tmp 59) .skip .skip))) ::
  .inBlock 3 :: .code (.region 21 #[⟨some 66, .binOp .add 3 (.tmp 52) (.const (.int .i64 1)) 3, t 15, s 15, e 15, none⟩, ⟨some 52, .move (.tmp 66), t 16, s 16, e 16, none⟩] false) :: K)) cs := by
 refine JO.runT (c := nmC S u rest) (i := 1) (rest := [2, 3]) (Γ' := (57, .eq (.int .i64 kk)) :: ndG56 cf cb m sv j kk x0 x1) (Δ' := rest) bc hb st rfl rfl (JO.s rfl (o_extract rfl rfl) ⟨rfl, trivial⟩ (JO.nil (JN.then_n fun _ _ h => h))) fun a1 v1 q1 => ?_
 refine JO.runT (c := nmC S u rest) (i := 2) (rest := [3]) (Γ' := (58, .eq (.bool (decide (kk = 0)))) :: (57, .eq (.int .i64 kk)) :: ndG56 cf cb m sv j kk x0 x1) (Δ' := rest) bc hb q1 rfl rfl (JO.s rfl (o_eql rfl) ⟨rfl, rfl, trivial⟩ (JO.nil (JN.then_n fun _ _ h => h))) fun a2 v2 q2 => ?_
 refine JO.runT (c := nmC S u rest) (i := 3) (rest := []) (Γ' := (59, .eq (.bool (decide (kk = 1)))) :: (58, .eq (.bool (decide (kk = 0)))) :: (57, .eq (.int .i64 kk)) :: ndG56 cf cb m sv j kk x0 x1) (Δ' := rest) bc hb q2 rfl rfl (JO.s rfl (o_eql rfl) ⟨rfl, rfl, trivial⟩ (JO.nil (JN.then_n fun _ _ h => h))) fun a3 v3 q3 => ?_
 refine bc.move (fun _ _ => g_region_end) ?_
 refine bc.move (fun _ _ => g_block) ?_
 have tail : ∀ a4 v4, St (nmC S u rest) (ndG52 cf cb m s' j) rest a4 v4 → TC Try.prog cf cb sd n pe Gd v4 (b.atR a4 (.inBlock 4 :: .inBlock 3 :: .code (.region 21 #[⟨some 66, .binOp .add 3 (.tmp 52) (.const (.int .i64 1)) 3, t 15, s 15, e 15, none⟩, ⟨some 52, .move (.tmp 66), t 16, s 16, e 16, none⟩] false) :: K)) cs := fun a4 v4 q4 => by
  refine bc.move (fun _ _ => g_inBlock) ?_;refine bc.move (fun _ _ => g_inBlock) ?_;refine JC.runT (c := nmC S u rest) (Q := ndQ (nmC S u rest) (ndG52 cf cb m s' (j + 1)) rest) bc hb q4 ?_ (fun e a5 v5 q5 => ?_)
  ·refine JC.region ?_;refine JO.s rfl (o_add rfl hj) ⟨rfl, rfl, trivial⟩ ?_;refine JO.mv rfl rfl ?_;refine JO.nil (JN.then_n ?_);exact SE.pf (junk := []) (by repeat (first | exact trivial | refine ⟨rfl, ?_⟩)) perm0
  ·cases e with
   | normal => exact next a5 v5 q5
   | ret => exact q5.elim
   | exit id => exact q5.elim
   | goto l => exact q5.elim
   | panic ch => exact q5.elim
   | outgrown => exact q5.elim
 refine bc.move (fun _ _ => g_cond (St.slot q3 (s := 58) rfl)) ?_
 rcases hkk with rfl | rfl
 ·
  rw [if_pos (by decide)];obtain ⟨i, rfl, y, hy, rfl⟩ := h0 rfl;refine JC.runT (c := nmC S u rest) (Q := ndQ (nmC S u rest) (ndG52 cf cb m (ior .u8 sv y) j) rest) bc hb q3 ?_ (fun e a4 v4 q4 => ?_)
  ·refine JC.seq ?_;refine JC.region ?_;refine JO.s rfl (o_extract rfl rfl) ⟨rfl, trivial⟩ ?_;refine JO.as rfl rfl ?_;refine JO.nil (JN.then_n ?_);show JC _ _ _ _ _;refine JC.region ?_;refine JO.mv rfl rfl ?_;refine JO.mv rfl rfl ?_;refine JO.s rfl (o_litB (t := (.int .i64)) [(.tmp 62, _)] [(i : Int)] rfl rfl sl22 (.cons rfl .int .nil) rfl rfl) ⟨rfl, trivial⟩ ?_;refine JO.s rfl (o_call [.tmp 63] rfl rfl en40 rfl (chg_of_ok k [(i : Int)] y hy)) ⟨rfl, trivial⟩ ?_;refine JO.s rfl (o_or rfl) ⟨rfl, rfl, trivial⟩ ?_;refine JO.as rfl rfl ?_;refine JO.nil (JN.then_n ?_);exact SE.pf (junk := []) (by repeat (first | exact trivial | refine ⟨rfl, ?_⟩)) perm0
  ·cases e with
   | normal => exact tail a4 v4 q4
   | ret => exact q4.elim
   | exit id => exact q4.elim
   | goto l => exact q4.elim
   | panic ch => exact q4.elim
   | outgrown => exact q4.elim
 ·
  rw [if_neg (by decide)];obtain rfl := h1 rfl;refine bc.move (fun _ _ => g_cond (St.slot q3 (s := 59) rfl)) ?_;rw [if_pos (by decide)];refine bc.move (fun _ _ => g_skip) ?_;exact tail a3 v3 ((SE.pf (junk := []) (by repeat (first | exact trivial | refine ⟨rfl, ?_⟩)) perm0) a3 v3 q3)

theorem pe_down {n0 : Nat} {pd : List Nat} (hn : pd.Nodup) {j : Nat} (hj : n0 ≤ j) : upd (fun j => n0 ≤ j ∧ (j - n0) ∈ pd) j False = fun j' => n0 ≤ j' ∧ (j' - n0) ∈ pd.erase (j - n0) := by
 funext j';unfold upd;split
 ·rename_i e;subst e;simp only [eq_iff_iff, false_iff, not_and];intro _ h;exact ((hn.mem_erase_iff).1 h).1 rfl
 ·rename_i e;simp only [eq_iff_iff];constructor
  ·exact fun h => ⟨h.1, (hn.mem_erase_iff).2 ⟨by omega, h.2⟩⟩
  ·exact fun h => ⟨h.1, ((hn.mem_erase_iff).1 h.2).2⟩
/-- What the select hands over when its first, and when its second, channel brought the number. -/
theorem nd_res0 (a b : Nat) (v : Value) : commResult #[rcase a (.int .i64 0), rcase b (.int .i64 0)] .select ((0 : Nat) : Int) v true = .tuple #[.int .i64 0, .bool true, v, .int .i64 0] := by
 simp [commResult, rcase, List.zipIdx_cons, goInt]
theorem nd_res1 (a b : Nat) (v : Value) : commResult #[rcase a (.int .i64 0), rcase b (.int .i64 0)] .select ((1 : Nat) : Int) v true = .tuple #[.int .i64 1, .bool true, .int .i64 0, v] := by
 simp [commResult, rcase, List.zipIdx_cons, goInt]

/-- **All are heard of**, in whatever order. -/
theorem nd_recvs (hnx : ∀ m m' t ops, stepT Try.prog m = (.next m', ops) → Gd m' (t ++ ops) → Gd m t) (hcfb : cf ≠ cb) (hN : N ≤ 1000000) (hn0 : 0 < n0) (hsd : ∀ i, i < N → sd (n0 + i) = (cond (ndFree (rs i) now) cf cb, .int .i64 i)) (ho : ∀ i, i < N → chg_of k [(i : Int)] = some (o i))
 {t : Nat → TypeId} {s : Nat → String} {e : Nat → Array Edge} {b : Frame} {kk : List Item} {cs : List Frame} (hb : b.roundOf = none)
 (next : ∀ a' v' (rc : List Nat), rc.Perm (List.range N) → v'.A cf → v'.A cb → NI v0 S0 rest (ndG52 cf cb N (ndAcc rs o now rc) N) a' v' → TC Try.prog cf cb sd (n0 + N) (fun j => n0 ≤ j ∧ (j - n0) ∈ ([] : List Nat)) Gd v' (b.atR a' kk) cs) :
 ∀ (d : Nat) (rc pd : List Nat), pd.length = d → (rc ++ pd).Perm (List.range N) → ∀ (a : Act) (v : VW), v.A cf → v.A cb → NI v0 S0 rest (ndG52 cf cb N (ndAcc rs o now rc) rc.length) a v →
  TC Try.prog cf cb sd (n0 + N) (fun j => n0 ≤ j ∧ (j - n0) ∈ pd) Gd v (b.atR a (.code (ndRecv t s e) :: .inLoop (ndRecv t s e) :: .inBlock 2 :: kk)) cs := by
 intro d
 induction d with
 | zero =>
  intro rc pd hd hp a v hcf hcb hI;obtain rfl := List.eq_nil_of_length_eq_zero hd;rw [List.append_nil] at hp;have hlen : rc.length = N := by rw [hp.length_eq, List.length_range]
  have bc : BC Try.prog (TC Try.prog cf cb sd (n0 + N) (fun j => n0 ≤ j ∧ (j - n0) ∈ ([] : List Nat)) Gd) := TC.bc hnx;obtain ⟨S, i1, i2, i3, i4, i5⟩ := hI;have st : St (nmC S v rest) (ndG52 cf cb N (ndAcc rs o now rc) rc.length) rest a v := ⟨i1, i2, S, CStep.refl i3.dom, fun b hb => .inl hb, i4, i5⟩;refine bc.move (fun _ _ => g_seq) ?_;refine JC.runT (c := nmC S v rest) (Q := ndQ (nmC S v rest) (ndG53 cf cb N (ndAcc rs o now rc) rc.length false) rest) bc hb st ?_ (fun e a1 v1 q1 => ?_)
  ·refine JC.region ?_;refine JO.s rfl (o_lss rfl) ⟨rfl, rfl, trivial⟩ ?_;refine JO.nil (JN.then_n ?_);rw [decide_eq_false (by omega)];exact fun _ _ h => h
  cases e with
  | normal =>
   refine bc.move (fun _ _ => g_seq) ?_;refine bc.move (fun _ _ => g_cond (t := false) (St.slot q1 (s := 53) rfl)) ?_;rw [if_neg (by decide)];refine bc.move (fun _ _ => g_exit (k' := kk) (by simp [exitTo])) ?_;obtain ⟨k1, k2, S5, k3, k4, k5, k6⟩ := q1;refine next a1 v1 rc hp (k3.subA cf hcf) (k3.subA cb hcb) ⟨S5, k1, k2, i3.trans k3.ez fun b hb => .inl hb, k5, fun s r hl => k6 s r ?_⟩;have hs : s ≠ 53 := fun e => by subst e; simp [lk] at hl
   simp only [ndG53, lk];rw [if_neg (fun e => hs e.symm), hlen];exact hl
  | ret => exact q1.elim
  | exit id => exact q1.elim
  | goto l => exact q1.elim
  | panic ch => exact q1.elim
  | outgrown => exact q1.elim
 | succ d ih =>
  intro rc pd hd hp a v hcf hcb hI;have hlen : rc.length + (d + 1) = N := by have := hp.length_eq; rw [List.length_append, List.length_range, hd] at this; exact this
  have hnd : pd.Nodup := (List.nodup_append.1 ((hp.nodup_iff).2 List.nodup_range)).2.1;have hlt : ∀ i ∈ pd, i < N := fun i hi => List.mem_range.1 (hp.mem_iff.1 (List.mem_append.2 (.inr hi)));have bc : BC Try.prog (TC Try.prog cf cb sd (n0 + N) (fun j => n0 ≤ j ∧ (j - n0) ∈ pd) Gd) := TC.bc hnx;obtain ⟨S, i1, i2, i3, i4, i5⟩ := hI;have st : St (nmC S v rest) (ndG52 cf cb N (ndAcc rs o now rc) rc.length) rest a v := ⟨i1, i2, S, CStep.refl i3.dom, fun b hb => .inl hb, i4, i5⟩;refine bc.move (fun _ _ => g_seq) ?_;refine JC.runT (c := nmC S v rest) (Q := ndQ (nmC S v rest) (ndG53 cf cb N (ndAcc rs o now rc) rc.length true) rest) bc hb st ?_ (fun e a1 v1 q1 => ?_)
  ·refine JC.region ?_;refine JO.s rfl (o_lss rfl) ⟨rfl, rfl, trivial⟩ ?_;refine JO.nil (JN.then_n ?_);rw [decide_eq_true (by omega)];exact fun _ _ h => h
  cases e with
  | normal =>
   refine bc.move (fun _ _ => g_seq) ?_;refine bc.move (fun _ _ => g_cond (t := true) (St.slot q1 (s := 53) rfl)) ?_;rw [if_pos rfl];refine bc.move (fun _ _ => g_skip) ?_;refine bc.move (fun _ _ => g_seq) ?_;refine bc.move (fun _ _ => g_block) ?_;refine bc.move (fun _ _ => g_seq) ?_;refine JC.runT (c := nmC S v rest) (Q := ndQ (nmC S v rest) (ndG55 cf cb N (ndAcc rs o now rc) rc.length) rest) bc hb q1 ?_ (fun e a2 v2 q2 => ?_)
   ·refine JC.seq (JC.region ?_);refine JO.s rfl (o_load_at (t := .val) rfl nd_sz92 rfl) ⟨rfl, trivial⟩ ?_;refine JO.nil (JN.then_n ?_);show JC _ _ _ _ _;refine JC.region ?_;refine JO.s rfl (o_load_at (t := .val) rfl nd_sz92 rfl) ⟨rfl, trivial⟩ ?_;refine JO.nil (JN.then_n ?_);exact SE.pf (junk := []) (by repeat (first | exact trivial | refine ⟨rfl, ?_⟩)) perm0
   cases e with
   | normal =>
    refine bc.move (fun _ _ => g_seq) ?_;refine bc.move (fun _ _ => g_region) ?_
    obtain ⟨i, hi⟩ : ∃ i, i ∈ pd := by
     cases pd with
     | nil => simp at hd
     | cons x l => exact ⟨x, List.mem_cons_self ..⟩
    refine TC.recv hnx hcfb (z1 := .int .i64 0) (z2 := .int .i64 0) (fun w0 => g_select (i := 0) (rest := [1, 2, 3]) rfl (wanted_none rfl _) rfl (St.slot q2 (s := 54) rfl) (St.slot q2 (s := 55) rfl) nd_z3 nd_z3)
     ⟨n0 + i, by omega, by have := hlt i hi; omega, by omega, by rw [Nat.add_sub_cancel_left]; exact hi⟩ fun j hj0 hjn hpj kk' hkk => ?_
    obtain ⟨hjn0, hjm⟩ := hpj;have hjN := hlt _ hjm;have hsdj := hsd (j - n0) hjN;rw [Nat.add_sub_cancel' hjn0] at hsdj;rw [pe_down hnd hjn0];have bc' : BC Try.prog (TC Try.prog cf cb sd (n0 + N) (fun j' => n0 ≤ j' ∧ (j' - n0) ∈ pd.erase (j - n0)) Gd) := TC.bc hnx
    have fin : ∀ (x0 x1 : Int) (kI : Int), (kI = 0 ∨ kI = 1) → (kI = 0 → x0 = ((j - n0 : Nat) : Int)) → (kI = 0 ↔ ndFree (rs (j - n0)) now = true) →
     TC Try.prog cf cb sd (n0 + N) (fun j' => n0 ≤ j' ∧ (j' - n0) ∈ pd.erase (j - n0)) Gd v2 (b.atR (a2.put (some 56) (.tuple #[.int .i64 kI, .bool true, .int .i64 x0, .int .i64 x1])) (.inRegion #[⟨some 56, .select #[{ chan := .tmp 54, send := none, elem := 3 }, { chan := .tmp 55, send := none, elem := 3 }] true, t 3, s 3, e 3, none⟩, ⟨some 57, .extract (.tmp 56) 0, t 4, s 4, e 4, none⟩,
      ⟨some 58, .binOp .eql 3 (.tmp 57) (.const (.int .i64 0)) 3, t 5, s 5, e 5, none⟩, ⟨some 59, .binOp .eql 3 (.tmp 57) (.const (.int .i64 1)) 3, t 6, s 6, e 6, none⟩] [1, 2, 3] :: 
      .code (.block 4 (.cond (.tmp 58) (.seq (.region 19 #[⟨some 60, .extract (.tmp 56) 2, t 7, s 7, e 7, none⟩, ⟨some 13, .assign (.tmp 60), t 8, s 8, e 8, none⟩] false)
       (.region 20 #[⟨some 61, .move (.tmp 12), t 9, s 9, e 9, none⟩, ⟨some 62, .move (.tmp 13), t 10, s 10, e 10, none⟩, ⟨some 63, .buildSlice 22 1 #[(0, .tmp 62)], t 11, s 11, e 11, none⟩,
        ⟨some 64, .call { callee := .value (.func 40), args := #[.tmp 63], argTypes := #[22] }, t 12, s 12, e 12, none⟩, ⟨some 65, .binOp .or 94 (.tmp 61) (.tmp 64) 94, t 13, s 13, e 13, none⟩, ⟨some 12, .assign (.tmp 65), t 14, s 14, e 14, none⟩] false)) (.cond (.tmp 59) .skip .skip))) ::
      .inBlock 3 :: .code (.region 21 #[⟨some 66, .binOp .add 3 (.tmp 52) (.const (.int .i64 1)) 3, t 15, s 15, e 15, none⟩, ⟨some 52, .move (.tmp 66), t 16, s 16, e 16, none⟩] false) :: .inLoop (ndRecv t s e) :: .inBlock 2 :: kk)) cs := by
     intro x0 x1 kI hkI hx0 hfree
     obtain ⟨g1, g2, S2, g3, g4, g5, g6⟩ := q2
     have g2 : a2.tmps.size = 69 := g2
     refine nd_after bc' (S := S) (u := v) (v := v2) (kk := kI) (x0 := x0) (x1 := x1) (m := N) (sv := ndAcc rs o now rc) (j := rc.length) (s' := ndAcc rs o now (rc ++ [j - n0])) hb hkI (fun h => ⟨j - n0, hx0 h, o (j - n0), by rw [hx0 h]; exact ho _ hjN, by rw [ndAcc_snoc, ndStep, if_pos (hfree.1 h)]⟩)
      (fun h => by rw [ndAcc_snoc, ndStep, if_neg (fun hf => by have := hfree.2 hf; omega)]) (by unfold ck; rw [if_pos (by omega)]) ⟨g1, by simpa [Act.put] using g2, S2, g3, g4, g5, fun s r hl => ?_⟩ fun a5 v5 q5 => ?_
     ·
      rw [getD_put (by rw [g2]; decide)];simp only [ndG56, lk] at hl;split at hl
      ·rename_i e;cases hl;rw [if_pos e];exact ⟨[_, _, _, _], rfl, _, _, rfl, rfl, _, _, rfl, rfl, _, _, rfl, rfl, _, _, rfl, rfl, rfl⟩
      ·rename_i e;rw [if_neg e];refine g6 s r ?_;have h54 : s ≠ 54 := fun e' => by subst e'; simp [lk] at hl
       have h55 : s ≠ 55 := fun e' => by subst e'; simp [lk] at hl
       simp only [ndG55, lk];rw [if_neg (fun e' => h55 e'.symm), if_neg (fun e' => h54 e'.symm)];exact hl
     ·
      refine bc'.move (fun _ _ => g_inLoop) ?_;obtain ⟨k1, k2, S5, k3, k4, k5, k6⟩ := q5;refine ih (rc ++ [j - n0]) (pd.erase (j - n0)) (by rw [List.length_erase_of_mem hjm, hd]; rfl) ?_ a5 v5 (k3.subA cf hcf) (k3.subA cb hcb) ⟨S5, k1, k2, i3.trans k3.ez fun b hb => .inl hb, k5, fun s r hl => k6 s r ?_⟩
      ·rw [List.append_assoc, List.singleton_append];exact ((List.perm_cons_erase hjm).symm.append_left rc).trans hp
      ·rw [List.length_append] at hl;exact hl
    show TC Try.prog cf cb sd (n0 + N) (fun j' => n0 ≤ j' ∧ (j' - n0) ∈ pd.erase (j - n0)) Gd v2 ((b.atR a2 (.inRegion _ (0 :: [1, 2, 3]) :: _)).finish _) cs;rw [Frame.finish_atR];rcases hkk with ⟨h1, rfl⟩ | ⟨h1, rfl⟩
    ·have hf : ndFree (rs (j - n0)) now = true := by
      cases hc : ndFree (rs (j - n0)) now with
      | true => rfl
      | false => rw [hsdj, hc] at h1; exact absurd h1.symm hcfb
     rw [hsdj, nd_res0];exact fin ((j - n0 : Nat) : Int) 0 0 (.inl rfl) (fun _ => rfl) ⟨fun _ => hf, fun _ => rfl⟩
    ·have hf : ndFree (rs (j - n0)) now = false := by
      cases hc : ndFree (rs (j - n0)) now with
      | false => rfl
      | true => rw [hsdj, hc] at h1; exact absurd h1 hcfb
     rw [hsdj, nd_res1];exact fin 0 ((j - n0 : Nat) : Int) 1 (.inr rfl) (fun h => by omega) ⟨fun h => by omega, fun h => by rw [hf] at h; cases h⟩
   | ret => exact q2.elim
   | exit id => exact q2.elim
   | goto l => exact q2.elim
   | panic ch => exact q2.elim
   | outgrown => exact q2.elim
  | ret => exact q1.elim
  | exit id => exact q1.elim
  | goto l => exact q1.elim
  | panic ch => exact q1.elim
  | outgrown => exact q1.elim
end
end Go.Proofs.Ytopgphikdglphaa

/- change.Needless: from the crew back to the lone walk. -/
set_option linter.unusedVariables false
set_option maxRecDepth 4000
namespace Go.Proofs.Ytopgphikdglphaa
open K Go Go.Proofs Go.Conc

/-- The crew has gone: what the starter knew holds again. -/
theorem nd_back {c : Cx} {Γ' : Ga} {Δ rest : List D} {S S' : FS} {v v1 v' : VW} {a' : Act} {cf cb : Nat} (hX : ∀ b, ¬ c.X b) (h3 : CStep c.X c.S0 c.w0 S v) (h4 : ∀ b, feet Δ b → c.X b ∨ c.w0.heap.size ≤ b) (hO : OwnsC Δ S v) (hr : Rely v v1)
 (hsub : ∀ b, feet rest b ∨ b = cf ∨ b = cb → feet Δ b) (i1 : a'.defers = c.dfs) (i2 : a'.tmps.size = c.N) (hE : CStep (feet rest) S (ez ⟨v1.toWorld, fun b => v1.A b ∨ b = cf ∨ b = cb, v1.Z⟩) S' (ez v')) (hO' : OwnsC rest S' v')
 (hs : ∀ s r, lk Γ' s = some r → r.holds S' v' (a'.tmps.getD s undef)) : St c Γ' rest a' ⟨v'.toWorld, v'.A, c.w0.Z⟩ := by
 have hge : ∀ b, feet Δ b → c.w0.heap.size ≤ b := fun b hb => (h4 b hb).resolve_left (hX b)
 have hsz : c.w0.heap.size ≤ v'.heap.size := Nat.le_trans h3.size (Nat.le_trans hr.size hE.size)
 have hZ : v.Z = c.w0.Z := h3.Z
 have holdA1 : ∀ b, v1.A b → c.w0.A b ∨ c.w0.heap.size ≤ b := fun b hb => by
  rcases hr.old b hb with h | h
  ·exact h3.oldA b h
  ·exact .inr (Nat.le_trans h3.size h)
 have holdA : ∀ b, v'.A b → c.w0.A b ∨ c.w0.heap.size ≤ b := fun b hb => by
  rcases hE.oldA b hb with (h | h) | h
  ·exact holdA1 b h
  ·exact .inr (hge b (hsub b (.inr h)))
  ·exact .inr (Nat.le_trans (Nat.le_trans h3.size hr.size) h)
 refine ⟨i1, i2, S', ⟨fun b hb => hE.sub b (h3.sub b hb), fun b hb => ?_, hE.dom, hsz, fun b hb hA hx => ?_, hE.os.trans (hr.os.trans h3.os), hE.tape.trans (hr.tape.trans h3.tape), hE.output.trans (hr.output.trans h3.output), fun b hb => hE.subA b (.inl (hr.sub b (h3.subA b hb))), holdA, rfl⟩, fun b hb => h4 b (hsub b (.inl hb)), ⟨hO'.holds, hO'.own, hO'.apart, fun b hb => ⟨(hO'.far b hb).1, fun hz => ?_⟩, hO'.sees, hO'.domA, fun b hb => ?_⟩, hs⟩
 ·
  rcases hE.new b hb with h | h | h
  ·exact h3.new b h
  ·exact .inr (.inl (Nat.le_trans (Nat.le_trans h3.size hr.size) h))
  ·exact .inr (.inl (hge b (hsub b (.inl h))))
 ·
  have k1 : v.heap[b]? = c.w0.heap[b]? := h3.keep b hb hA hx;have nA : ¬ v.A b := fun h => (h3.oldA b h).elim hA fun h => by omega
  have nA1 : ¬ v1.A b := fun h => (holdA1 b h).elim hA fun h => by omega
  have nf : ¬ (feet rest b ∨ b = cf ∨ b = cb) := fun h => by have := hge b (hsub b h); omega
  have k2 : v1.heap[b]? = v.heap[b]? := hr.keep b (by have := h3.size; omega) nA;have k3 : v'.heap[b]? = v1.heap[b]? := hE.keep b (by have := h3.size; have := hr.size; show b < v1.heap.size; omega) (fun h => h.elim nA1 fun h => nf (.inr h)) (fun h => nf (.inl h));exact k3.trans (k2.trans k1)
 ·
  exact (hO.far b (hsub b (.inl hb))).2 (hZ ▸ hz)
 ·
  have := hO.domZ b (hZ ▸ hb);exact Nat.lt_of_lt_of_le this (Nat.le_trans hr.size hE.size)

@[reducible] noncomputable def nmM (S : FS) (v : VW) : Cx := ⟨Try.prog, 69, S, v, feet [], none, [], MMain Try.prog⟩
@[reducible] def chZ : Obj := .chan 0 #[] false 0 0 false

section
variable {k : Nat} {q : dquick} {now : Int} {N z1 z2 : Nat} {rs : Nat → Int × Bool} {o : Nat → Int} {S0 : FS} {w0 : VW} {rest : List D} {R8 R13 R14 Rest : Code} {Q : Exit → Act → VW → Prop} {Γ : Ga}

/-- **The crew from start to end.** -/
theorem nd_tail {t1 t2 t3 t4 t5 t6 t7 t8 : TypeId} {s1 s2 s3 s4 s5 s6 s7 s8 : String} {e1 e2 e3 e4 e5 e6 e7 e8 : Array Edge} {t : Nat → TypeId} {s : Nat → String} {e : Nat → Array Edge}
 (hN : N ≤ 1000000) (hws : ∀ i, i < N → chg_quick_without k q i = some (rs i)) (ho : ∀ i, i < N → chg_of k [(i : Int)] = some (o i))
 (h8 : JC (nmM S0 w0) R8 (ndQ (nmM S0 w0) (ndG40 q now N z1 z2 0) (.raw z1 chZ :: .raw z2 chZ :: rest)) Γ (.raw z1 chZ :: .raw z2 chZ :: rest))
 (h13 : ∀ S v, JC (nmC S v rest) R13 (ndQ (nmC S v rest) ((12, .eq (.int .u8 0)) :: ndG40 q now N z1 z2 N) rest) (ndG40 q now N z1 z2 N) rest)
 (h14 : ∀ S v, JC (nmC S v rest) R14 (ndQ (nmC S v rest) (ndG52 z1 z2 N 0 0) rest) ((12, .eq (.int .u8 0)) :: ndG40 q now N z1 z2 N) rest)
 (hR : ∀ rc : List Nat, rc.Perm (List.range N) → JC (nmM S0 w0) Rest Q [(12, .eq (.int .u8 (ndAcc rs o now rc)))] rest) :
 JC (nmM S0 w0) (.seq (.seq R8 (.block 0 (.loop (ndBody t1 t2 t3 t4 t5 t6 t7 t8 s1 s2 s3 s4 s5 s6 s7 s8 e1 e2 e3 e4 e5 e6 e7 e8)))) (.seq R13 (.seq (.seq R14 (.block 2 (.loop (ndRecv t s e)))) Rest))) Q Γ (.raw z1 chZ :: .raw z2 chZ :: rest) := by
 intro a0 v0 st0 T hT b K cs hb hc
 have bc : BC Try.prog T := hT.1
 refine bc.move (fun _ _ => g_seq) ?_
 refine bc.move (fun _ _ => g_seq) ?_
 refine JC.runT (c := nmM S0 w0) (Q := ndQ (nmM S0 w0) (ndG40 q now N z1 z2 0) (.raw z1 chZ :: .raw z2 chZ :: rest)) hT hb st0 h8 fun x a v st => ?_
 cases x with
 | normal =>
  obtain ⟨i1, i2, S, i3, i4, i5, i6⟩ := st;refine hT.2 _ _ _ fun Gd hG v1 hr gs sl tt kq hg0 hq ht hk => ?_;have hap := List.pairwise_cons.1 i5.apart;have hne : z1 ≠ z2 := fun h => hap.1 (.raw z2 chZ) (List.mem_cons_self ..) z1 rfl (by rw [h]; rfl);have f1 : feet (.raw z1 chZ :: .raw z2 chZ :: rest) z1 := ⟨_, List.mem_cons_self .., rfl⟩;have f2 : feet (.raw z1 chZ :: .raw z2 chZ :: rest) z2 := ⟨_, List.mem_cons_of_mem _ (List.mem_cons_self ..), rfl⟩;have fr : ∀ y, feet rest y → feet (.raw z1 chZ :: .raw z2 chZ :: rest) y := fun y ⟨d, hd, hy⟩ => ⟨d, List.mem_cons_of_mem _ (List.mem_cons_of_mem _ hd), hy⟩
  have hsub : ∀ y, feet rest y ∨ y = z1 ∨ y = z2 → feet (.raw z1 chZ :: .raw z2 chZ :: rest) y := fun y h => by
   rcases h with h | rfl | rfl
   ·exact fr y h
   ·exact f1
   ·exact f2
  have hnx := hG.next;have hO1 := i5.rely i3.dom hr;have hn0 : 0 < gs.size := (Array.getElem?_eq_some_iff.1 hg0).1;obtain ⟨sd, hsd⟩ : ∃ sd : Nat → Nat × Value, ∀ i, i < N → sd (gs.size + i) = (cond (ndFree (rs i) now) z1 z2, .int .i64 i) := ⟨fun j => (cond (ndFree (rs (j - gs.size)) now) z1 z2, .int .i64 ((j - gs.size : Nat) : Int)), fun i _ => by simp⟩;refine TC.begin (P := Try.prog) (cf := z1) (cb := z2) (sd := sd) hO1.domA hO1.domZ (fun c hcc => ⟨0, ?_⟩) hg0 hq ht hk ?_
  ·rcases hcc with rfl | rfl
   ·exact hO1.holds (.raw c chZ) (List.mem_cons_self ..)
   ·exact hO1.holds (.raw c chZ) (List.mem_cons_of_mem _ (List.mem_cons_self ..))
  ·have bc2 : ∀ n pe, BC Try.prog (TC Try.prog z1 z2 sd n pe Gd) := fun _ _ => TC.bc hnx;refine (bc2 _ _).move (fun _ _ => g_block) ?_;refine (bc2 _ _).move (fun _ _ => g_loop) ?_;have e0 : (fun _ : Nat => False) = fun j => gs.size ≤ j ∧ j < gs.size + 0 := by funext j; simp
   rw [e0]
   have hI0 : NI ⟨v1.toWorld, fun y => v1.A y ∨ y = z1 ∨ y = z2, v1.Z⟩ S rest (ndG40 q now N z1 z2 ((0 : Nat) : Int)) a ⟨v1.toWorld, fun y => v1.A y ∨ y = z1 ∨ y = z2, v1.Z⟩ := by
    refine ⟨S, i1, i2, CStep.refl fun y hy => Nat.lt_of_lt_of_le (i3.dom y hy) hr.size, ⟨fun d hd => hO1.holds d (List.mem_cons_of_mem _ (List.mem_cons_of_mem _ hd)), fun y hy => hO1.own y (fr y hy), (List.pairwise_cons.1 hap.2).2, fun y hy => ⟨fun h => ?_, (hO1.far y (fr y hy)).2⟩, fun y hy h => ?_, fun y h => ?_, hO1.domZ⟩, fun s r hl => A.mono (fun _ h => h) (keep_rely i3.dom i5.sees hr) r (i6 s r hl)⟩
    ·obtain ⟨d, hd, hy⟩ := hy;rcases h with h | rfl | rfl
     ·exact (hO1.far y (fr y ⟨d, hd, hy⟩)).1 h
     ·exact hap.1 d (List.mem_cons_of_mem _ hd) y rfl hy
     ·exact (List.pairwise_cons.1 hap.2).1 d hd y rfl hy
    ·rcases h with h | rfl | rfl
     ·exact hO1.sees y hy h
     ·exact (hO1.own y f1).1 hy
     ·exact (hO1.own y f2).1 hy
    ·rcases h with h | rfl | rfl
     ·exact hO1.domA y h
     ·exact (hO1.own y f1).2
     ·exact (hO1.own y f2).2
   refine nd_spawns hnx hN hn0 hws hsd hb (fun a1 w1 hc1 hc2 hI => ?_) N 0 (Nat.zero_add N) a _ (.inr (.inl rfl)) (.inr (.inr rfl)) hI0;obtain ⟨S1, st1, back1⟩ := hI.st;refine (bc2 _ _).move (fun _ _ => g_seq) ?_;refine JC.runT (c := nmC S1 w1 rest) (Q := ndQ (nmC S1 w1 rest) ((12, .eq (.int .u8 0)) :: ndG40 q now N z1 z2 N) rest) (bc2 _ _) hb st1 (h13 S1 w1) (fun x a2 v2 q2 => ?_);cases x with
   | normal =>
    refine (bc2 _ _).move (fun _ _ => g_seq) ?_;refine (bc2 _ _).move (fun _ _ => g_seq) ?_;refine JC.runT (c := nmC S1 w1 rest) (Q := ndQ (nmC S1 w1 rest) (ndG52 z1 z2 N 0 0) rest) (bc2 _ _) hb q2 (h14 S1 w1) (fun x a3 v3 q3 => ?_);cases x with
    | normal =>
     have hI3 : NI _ S rest (ndG52 z1 z2 N 0 0) a3 v3 := back1 _ _ _ q3;obtain ⟨_, _, S3, g3, _, _, _⟩ := q3;refine (bc2 _ _).move (fun _ _ => g_block) ?_;refine (bc2 _ _).move (fun _ _ => g_loop) ?_
     have e1 : (fun j : Nat => gs.size ≤ j ∧ j < gs.size + N) = fun j => gs.size ≤ j ∧ (j - gs.size) ∈ List.range N := by
      funext j;simp only [List.mem_range, eq_iff_iff];omega
     rw [e1];refine nd_recvs hnx hne hN hn0 hsd ho hb (fun a4 v4 rc hrc d1 d2 hI4 => ?_) N [] (List.range N) (by simp) (by simp) a3 v3 (g3.subA z1 hc1) (g3.subA z2 hc2) hI3;refine TC.fin (Z0 := w0.Z) hT.1 hG (fun i _ _ h => by simp at h) ?_;obtain ⟨S4, j1, j2, j3, j4, j5⟩ := hI4;refine hR rc hrc a4 _ (nd_back (c := nmM S0 w0) (fun y ⟨d, hd, _⟩ => by simp at hd) i3 i4 i5 hr hsub j1 j2 j3 j4 fun s r hl => j5 s r ?_) T hT b K cs hb hc;simp only [lk] at hl ⊢;split at hl
     ·rename_i h12; subst h12; cases hl; rfl
     ·cases hl
    | ret => exact q3.elim
    | exit id => exact q3.elim
    | goto l => exact q3.elim
    | panic ch => exact q3.elim
    | outgrown => exact q3.elim
   | ret => exact q2.elim
   | exit id => exact q2.elim
   | goto l => exact q2.elim
   | panic ch => exact q2.elim
   | outgrown => exact q2.elim
 | ret => exact st.elim
 | exit id => exact st.elim
 | goto l => exact st.elim
 | panic ch => exact st.elim
 | outgrown => exact st.elim
end
end Go.Proofs.Ytopgphikdglphaa

/- change.Needless: the order in which the dressers are heard of does not matter; what the function answers. -/
set_option linter.unusedVariables false
set_option maxRecDepth 4000
namespace Go.Proofs.Ytopgphikdglphaa
open K Go Go.Proofs Go.Conc

theorem nd_wrap8 (x : BitVec 8) : BitVec.ofInt 8 (IntKind.u8.wrap x.toNat) = x := by
 have e : IntKind.u8.wrap (x.toNat : Int) = x.toNat := by
  have h1 : IntKind.u8.wrap (x.toNat : Int) = (x.toNat : Int) % 256 := by simp [IntKind.wrap, IntKind.signed, IntKind.bits]
  have := x.isLt;rw [h1];omega
 rw [e, BitVec.ofInt_natCast];simp
theorem ior_u8 (s a : Int) : BitVec.ofInt 8 (ior .u8 s a) = BitVec.ofInt 8 s ||| BitVec.ofInt 8 a := nd_wrap8 _
theorem ior_rc (s a b : Int) : ior .u8 (ior .u8 s a) b = ior .u8 (ior .u8 s b) a := by
 have h : ∀ x y : Int, ior .u8 x y = IntKind.u8.wrap ((BitVec.ofInt 8 x ||| BitVec.ofInt 8 y).toNat) := fun _ _ => rfl;rw [h (ior .u8 s a), h (ior .u8 s b), ior_u8, ior_u8, BitVec.or_assoc, BitVec.or_assoc, BitVec.or_comm (BitVec.ofInt 8 a)]

theorem ndAcc_perm {rs : Nat → Int × Bool} {o : Nat → Int} {now : Int} {l l' : List Nat} (h : l.Perm l') : ndAcc rs o now l = ndAcc rs o now l' := by
 unfold ndAcc;refine h.foldl_eq' (fun x _ y _ z => ?_) 0;unfold ndStep;split <;> split <;> first | rfl | exact ior_rc ..

/-- All the answers of a partial function below N. -/
def ndAll {α : Type} (d : α) (f : Nat → Option α) (N : Nat) : Option (Nat → α) := if (List.range N).all (fun i => (f i).isSome) then some (fun i => (f i).getD d) else none
theorem ndAll_some {α : Type} {d : α} {f : Nat → Option α} {N : Nat} {g : Nat → α} (h : ndAll d f N = some g) : ∀ i, i < N → f i = some (g i) := fun i hi => by
 unfold ndAll at h
 split at h
 ·
  rename_i ha
  cases h
  have := List.all_eq_true.1 ha i (List.mem_range.2 hi)
  cases hf : f i with
  | none => rw [hf] at this; cases this
  | some x => simp [hf]
 ·
  cases h

/-- Behind the channels. -/
def nd_rest (k : Nat) (q : dquick) (now : Int) : Option (List Int × Int) :=
 (ndAll (0, false) (fun i => chg_quick_without k q (i : Int)) q.1.2.1.length).bind fun rs =>
 (ndAll 0 (fun i => chg_of k [(i : Int)]) q.1.2.1.length).bind fun o =>
 if q.1.2.1.length ≤ 1000000 then (chg_set_list k (ndAcc rs o now (List.range q.1.2.1.length))).bind fun r => some (r, 0) else none
theorem nd_rest_some {k : Nat} {q : dquick} {now : Int} {r : List Int × Int} (h : nd_rest k q now = some r) : ∃ rs o, q.1.2.1.length ≤ 1000000 ∧ (∀ i, i < q.1.2.1.length → chg_quick_without k q (i : Int) = some (rs i)) ∧ (∀ i, i < q.1.2.1.length → chg_of k [(i : Int)] = some (o i)) ∧ r.2 = 0 ∧ ∀ rc : List Nat, rc.Perm (List.range q.1.2.1.length) → chg_set_list k (ndAcc rs o now rc) = some r.1 := by
 unfold nd_rest at h;obtain ⟨rs, hrs, h⟩ := Option.bind_eq_some_iff.1 h;obtain ⟨o, ho, h⟩ := Option.bind_eq_some_iff.1 h;split at h
 ·rename_i hN;obtain ⟨x, hx, h⟩ := Option.bind_eq_some_iff.1 h;cases h;exact ⟨rs, o, hN, ndAll_some hrs, ndAll_some ho, rfl, fun rc hrc => by rw [ndAcc_perm hrc]; exact hx⟩
 ·cases h
theorem nd_top {α : Type} {x : Option α} {r : α} (h : x.bind some = some r) : x = some r := by
 cases x with
 | none => cases h
 | some y => exact h

/-- A command's operations, in the order of the text. -/
def opsIn : Code → List Oper
 | .region _ ops _ => ops.toList
 | .seq x y => opsIn x ++ opsIn y
 | .block _ x => opsIn x
 | .loop x => opsIn x
 | .cond _ x y => opsIn x ++ opsIn y
 | _ => []

section
variable {k : Nat} {q : dquick} {now : Int} {N z1 z2 : Nat} {rs : Nat → Int × Bool} {o : Nat → Int} {S0 : FS} {w0 : VW} {rest : List D} {R8 R13 R14 Rest : Code} {Q : Exit → Act → VW → Prop} {Γ : Ga}
theorem nd_tail2 {t1 t2 t3 t4 t5 t6 t7 t8 : TypeId} {s1 s2 s3 s4 s5 s6 s7 s8 : String} {e1 e2 e3 e4 e5 e6 e7 e8 : Array Edge} {B2 : Code}
 (hB2 : B2 = ndRecv (fun i => ((opsIn B2).getD i default).type) (fun i => ((opsIn B2).getD i default).pos) (fun i => ((opsIn B2).getD i default).after))
 (hN : N ≤ 1000000) (hws : ∀ i, i < N → chg_quick_without k q i = some (rs i)) (ho : ∀ i, i < N → chg_of k [(i : Int)] = some (o i))
 (h8 : JC (nmM S0 w0) R8 (ndQ (nmM S0 w0) (ndG40 q now N z1 z2 0) (.raw z1 chZ :: .raw z2 chZ :: rest)) Γ (.raw z1 chZ :: .raw z2 chZ :: rest))
 (h13 : ∀ S v, JC (nmC S v rest) R13 (ndQ (nmC S v rest) ((12, .eq (.int .u8 0)) :: ndG40 q now N z1 z2 N) rest) (ndG40 q now N z1 z2 N) rest)
 (h14 : ∀ S v, JC (nmC S v rest) R14 (ndQ (nmC S v rest) (ndG52 z1 z2 N 0 0) rest) ((12, .eq (.int .u8 0)) :: ndG40 q now N z1 z2 N) rest)
 (hR : ∀ rc : List Nat, rc.Perm (List.range N) → JC (nmM S0 w0) Rest Q [(12, .eq (.int .u8 (ndAcc rs o now rc)))] rest) :
 JC (nmM S0 w0) (.seq (.seq R8 (.block 0 (.loop (ndBody t1 t2 t3 t4 t5 t6 t7 t8 s1 s2 s3 s4 s5 s6 s7 s8 e1 e2 e3 e4 e5 e6 e7 e8)))) (.seq R13 (.seq (.seq R14 (.block 2 (.loop B2))) Rest))) Q Γ (.raw z1 chZ :: .raw z2 chZ :: rest) := by
 rw [hB2]
 exact nd_tail hN hws ho h8 h13 h14 hR
end
end Go.Proofs.Ytopgphikdglphaa

/- change.Needless as a whole. -/
set_option linter.unusedVariables false
set_option maxRecDepth 4000
set_option maxHeartbeats 1000000
namespace Go.Proofs.Ytopgphikdglphaa
open K Go Go.Proofs Go.Conc
def chg_Needless (k : Nat) (a0 : dChange) : Option ((List Int) × Int) :=
 (chg_begin k a0).bind fun r2 =>
 casesO r2.1 (if ¬ (r2.2 = (0 : Int)) then (some ([], r2.2)) else (none)) (fun q3 => if ¬ (r2.2 = (0 : Int)) then (some ([], r2.2)) else ((chg_least k ((q3.1.1, q3.1.2.1, q3.1.2.2.1, q3.1.2.2.2), q3.2.1, q3.2.2)).bind fun r8 =>
 if ¬ (r8.2.2 = true) then (some ([], (11 : Int))) else (nd_rest k ((q3.1.1, q3.1.2.1, q3.1.2.2.1, q3.1.2.2.2), q3.2.1, q3.2.2, ()) r8.2.1)))

theorem chg_Needless_ok (k : Nat) (a0 : dChange) (r : (List Int) × Int) (h : chg_Needless k a0 = some r) :
 CtrM (MMain Try.prog) 7 [.rep tChange a0] [] (fun _ : Unit => (resA [Ri r.1, I r.2], [])) := by
 unfold chg_Needless at h
 replace h := b_top h
 refine CtrM.of 69 Try.func7 rfl Try.ntmps7 rfl fun S w0 => ?_
 refine sr ?_
 refine bx fun b1 => ?_
 refine cq ?_
 refine cq ?_
 refine nt ?_
 refine sr ?_
 refine lo sz26 ?_
 obtain ⟨r2, er2, h⟩ := b_bind h
 have cr2 := chg_begin_ok k a0 r2 er2
 rcases hr : r2.1 with _ | q3
 ·
  rw [hr] at h cr2; replace h := co_n h;refine JO.stepG (Δ := []) (F := _) (fun _ _ _ => wanted_none rfl _) rfl rfl (o_call [.tmp 15] rfl rfl en34 rfl cr2) ⟨rfl, trivial⟩ fun _ => ?_;refine mq ?_;refine xr ?_;refine xr ?_;refine JO.s01 rfl rfl rfl (o_alloc rfl za83 al83) trivial fun b4 => ?_;refine JO.n11 rfl rfl (o_store rfl sz83 rfl rfl rfl) ⟨rfl, rfl, trivial⟩ ?_;refine aq (nt (JC.seq (sr ?_)));refine mq ?_;refine jb (o_neq rfl) ?_;refine nt (cn h (fun h => ?_) (fun h => ?_))
  ·refine sr (mq ?_);refine cq ?_;refine aq (nt (rx ?_));refine JN.se (SE.ent (t := (.slice (.int .i64))) (x := []) 2 rfl .nil rfl rfl) ?_;cases h;exact rb
  ·refine sk (JC.seq (JC.drawW ?_));refine DW.t11 0 rfl rfl rfl rfl (o_load_obj rfl sz83 nfs rfl) ⟨rfl, trivial⟩ ?_;cases h
 ·
  rw [hr] at h cr2; replace h := co_s h;refine JO.stepG (Δ := []) (F := _) (fun _ _ _ => wanted_none rfl _) rfl rfl (o_call [.tmp 15] rfl rfl en34 rfl cr2) ⟨rfl, trivial⟩ fun z5 => ?_;refine mq ?_;refine xr ?_;refine xr ?_;refine JO.s01 rfl rfl rfl (o_alloc rfl za83 al83) trivial fun b6 => ?_;refine JO.n11 rfl rfl (o_store rfl sz83 rfl rfl rfl) ⟨rfl, rfl, trivial⟩ ?_;refine aq (nt (JC.seq (sr ?_)));refine mq ?_;refine jb (o_neq rfl) ?_;refine nt (cn h (fun h => ?_) (fun h => ?_))
  ·refine sr (mq ?_);refine cq ?_;refine aq (nt (rx ?_));refine JN.se (SE.ent (t := (.slice (.int .i64))) (x := []) 2 rfl .nil rfl rfl) ?_;cases h;exact rb
  ·refine sk (JC.seq ?_);obtain ⟨r8, er8, h⟩ := b_bind h;refine JC.se (SE.fin (Γ' := [(4, Pt b6)]) (Δ' := [.obj b6 83 (.eq (.pointer (some ⟨z5.1, 0, none⟩))), .obj z5.1 98 (Qq q3 (.eq (.map (some z5.2)))), .raw z5.2 (.map #[] 0), .obj b1 26 (.rep tChange a0)]) [0, 1, 2, 3] ⟨rfl, trivial⟩ rfl) ?_;refine JC.drawI (I := Nat × Nat) (Ge := fun i => [(4, Pt b6), (7, .eq (.pointer (some ⟨i.2, 0, none⟩))), (8, .eq (.bool r8.2.2))]) (De := fun i => [.obj b1 26 (.rep tChange a0), .inv z5.2 (Known k ((q3.1.1, q3.1.2.1, q3.1.2.2.1, q3.1.2.2.2), q3.2.1, q3.2.2)), .obj z5.1 98 (Qq q3 (.eq (.map (some z5.2)))), .obj b6 83 (.eq (.pointer (some ⟨z5.1, 0, none⟩))), .obj i.1 83 (.eq (.pointer (some ⟨z5.1, 0, none⟩))), .obj i.2 3 (I r8.2.1)]) (L := [true, true, true, true, true, true, true, true, true, true, true, true, true]) mixed rfl (fun J hJ hE => ?_) (by kernel_rfl) ?_
   ·have s4095 : ∀ (b7 b9 : Nat), J 1 [true, true, true, true, true, true, true, true, true, true, true, true, false] [(4, Pt b6), (7, Pt b9), (30, .eq (.bool r8.2.2))] [.obj b1 26 (.rep tChange a0), .inv z5.2 (Known k ((q3.1.1, q3.1.2.1, q3.1.2.2.1, q3.1.2.2.2), q3.2.1, q3.2.2)), .obj z5.1 98 (Qq q3 (.eq (.map (some z5.2)))), .obj b6 83 (.eq (.pointer (some ⟨z5.1, 0, none⟩))), .obj b7 83 (.eq (.pointer (some ⟨z5.1, 0, none⟩))), .obj b9 3 (I r8.2.1)] := fun b7 b9 => by
     subst hJ;refine JD.step [12] (by kernel_rfl) rfl ?_;refine JDs.cons rfl ?_ ?_
     ·refine aq ?_;exact JO.go (hE ⟨b7, b9⟩) [0, 1, 2, 3, 4, 5] ⟨rfl, rfl, rfl, trivial⟩
     exact trivial
    have s2047 : ∀ (b7 b9 : Nat), J 2 [true, true, true, true, true, true, true, true, true, true, true, false, false] [(4, Pt b6), (7, Pt b9), (29, I r8.2.1), (30, .eq (.bool r8.2.2))] [.obj b1 26 (.rep tChange a0), .inv z5.2 (Known k ((q3.1.1, q3.1.2.1, q3.1.2.2.1, q3.1.2.2.2), q3.2.1, q3.2.2)), .obj z5.1 98 (Qq q3 (.eq (.map (some z5.2)))), .obj b6 83 (.eq (.pointer (some ⟨z5.1, 0, none⟩))), .obj b7 83 (.eq (.pointer (some ⟨z5.1, 0, none⟩))), .obj b9 3 (I (0 : Int))] := fun b7 b9 => by
     subst hJ;refine JD.step [11] (by kernel_rfl) rfl ?_;refine JDs.cons rfl ?_ ?_
     ·refine fr 5 ?_;refine JO.n11 rfl rfl (o_store rfl sz3 rfl rfl rfl) ⟨rfl, rfl, trivial⟩ ?_;exact JO.go (s4095 b7 b9) [1, 2, 3, 4, 5, 0] ⟨rfl, rfl, rfl, trivial⟩
     exact trivial
    have s3839 : ∀ (b7 b9 : Nat), J 2 [true, true, true, true, true, true, true, true, false, true, true, true, false] [(4, Pt b6), (7, Pt b9), (22, .tup (.pair (Rs tStep r8.1) (.pair (I r8.2.1) (.pair (.eq (.bool r8.2.2)) (.any)))))] [.obj b1 26 (.rep tChange a0), .inv z5.2 (Known k ((q3.1.1, q3.1.2.1, q3.1.2.2.1, q3.1.2.2.2), q3.2.1, q3.2.2)), .obj z5.1 98 (Qq q3 (.eq (.map (some z5.2)))), .obj b6 83 (.eq (.pointer (some ⟨z5.1, 0, none⟩))), .obj b7 83 (.eq (.pointer (some ⟨z5.1, 0, none⟩))), .obj b9 3 (I r8.2.1)] := fun b7 b9 => by
     subst hJ;refine JD.step [8] (by kernel_rfl) rfl ?_;refine JDs.cons rfl ?_ ?_
     ·refine xr ?_;exact JO.go (s4095 b7 b9) [0, 1, 2, 3, 4, 5] ⟨rfl, rfl, rfl, trivial⟩
     exact trivial
    have s1023 : ∀ (b7 b9 : Nat), J 3 [true, true, true, true, true, true, true, true, true, true, false, false, false] [(4, Pt b6), (7, Pt b9), (28, Rs tStep r8.1), (29, I r8.2.1), (30, .eq (.bool r8.2.2))] [.obj b1 26 (.rep tChange a0), .inv z5.2 (Known k ((q3.1.1, q3.1.2.1, q3.1.2.2.1, q3.1.2.2.2), q3.2.1, q3.2.2)), .obj z5.1 98 (Qq q3 (.eq (.map (some z5.2)))), .obj b6 83 (.eq (.pointer (some ⟨z5.1, 0, none⟩))), .obj b7 83 (.eq (.pointer (some ⟨z5.1, 0, none⟩))), .obj b9 3 (I (0 : Int))] := fun b7 b9 => by
     subst hJ;refine JD.step [10] (by kernel_rfl) rfl ?_;refine JDs.cons rfl ?_ ?_
     ·refine aq ?_;exact JO.go (s2047 b7 b9) [0, 1, 2, 3, 4, 5] ⟨rfl, rfl, rfl, rfl, trivial⟩
     exact trivial
    have s1791 : ∀ (b7 b9 : Nat), J 3 [true, true, true, true, true, true, true, true, false, true, true, false, false] [(4, Pt b6), (7, Pt b9), (22, .tup (.pair (Rs tStep r8.1) (.pair (I r8.2.1) (.pair (.eq (.bool r8.2.2)) (.any))))), (29, I r8.2.1)] [.obj b1 26 (.rep tChange a0), .inv z5.2 (Known k ((q3.1.1, q3.1.2.1, q3.1.2.2.1, q3.1.2.2.2), q3.2.1, q3.2.2)), .obj z5.1 98 (Qq q3 (.eq (.map (some z5.2)))), .obj b6 83 (.eq (.pointer (some ⟨z5.1, 0, none⟩))), .obj b7 83 (.eq (.pointer (some ⟨z5.1, 0, none⟩))), .obj b9 3 (I (0 : Int))] := fun b7 b9 => by
     subst hJ;refine JD.step [8, 11] (by kernel_rfl) rfl ?_;refine JDs.cons rfl ?_ ?_
     ·refine xr ?_;exact JO.go (s2047 b7 b9) [0, 1, 2, 3, 4, 5] ⟨rfl, rfl, rfl, rfl, trivial⟩
     refine JDs.cons rfl ?_ ?_
     ·refine fr 5 ?_;refine JO.n11 rfl rfl (o_store rfl sz3 rfl rfl rfl) ⟨rfl, rfl, trivial⟩ ?_;exact JO.go (s3839 b7 b9) [1, 2, 3, 4, 5, 0] ⟨rfl, rfl, rfl, trivial⟩
     exact trivial
    have s1919 : ∀ (b7 b9 : Nat), J 3 [true, true, true, true, true, true, true, false, true, true, true, false, false] [(4, Pt b6), (7, Pt b9), (22, .tup (.pair (Rs tStep r8.1) (.pair (I r8.2.1) (.pair (.eq (.bool r8.2.2)) (.any))))), (30, .eq (.bool r8.2.2))] [.obj b1 26 (.rep tChange a0), .inv z5.2 (Known k ((q3.1.1, q3.1.2.1, q3.1.2.2.1, q3.1.2.2.2), q3.2.1, q3.2.2)), .obj z5.1 98 (Qq q3 (.eq (.map (some z5.2)))), .obj b6 83 (.eq (.pointer (some ⟨z5.1, 0, none⟩))), .obj b7 83 (.eq (.pointer (some ⟨z5.1, 0, none⟩))), .obj b9 3 (I (0 : Int))] := fun b7 b9 => by
     subst hJ;refine JD.step [7] (by kernel_rfl) rfl ?_;refine JDs.cons rfl ?_ ?_
     ·refine xr ?_;exact JO.go (s2047 b7 b9) [0, 1, 2, 3, 4, 5] ⟨rfl, rfl, rfl, rfl, trivial⟩
     exact trivial
    have s511 : ∀ (b7 : Nat), J 4 [true, true, true, true, true, true, true, true, true, false, false, false, false] [(4, Pt b6), (28, Rs tStep r8.1), (29, I r8.2.1), (30, .eq (.bool r8.2.2))] [.obj b1 26 (.rep tChange a0), .inv z5.2 (Known k ((q3.1.1, q3.1.2.1, q3.1.2.2.1, q3.1.2.2.2), q3.2.1, q3.2.2)), .obj z5.1 98 (Qq q3 (.eq (.map (some z5.2)))), .obj b6 83 (.eq (.pointer (some ⟨z5.1, 0, none⟩))), .obj b7 83 (.eq (.pointer (some ⟨z5.1, 0, none⟩)))] := fun b7 => by
     subst hJ;refine JD.step [9] (by kernel_rfl) rfl ?_;refine JDs.cons rfl ?_ ?_
     ·refine JO.s01 rfl rfl rfl (o_alloc rfl za3 al3) trivial fun b9 => ?_;exact JO.go (s1023 b7 b9) [1, 2, 3, 4, 5, 0] ⟨rfl, rfl, rfl, rfl, rfl, trivial⟩
     exact trivial
    have s767 : ∀ (b7 b9 : Nat), J 4 [true, true, true, true, true, true, true, true, false, true, false, false, false] [(4, Pt b6), (7, Pt b9), (22, .tup (.pair (Rs tStep r8.1) (.pair (I r8.2.1) (.pair (.eq (.bool r8.2.2)) (.any))))), (28, Rs tStep r8.1), (29, I r8.2.1)] [.obj b1 26 (.rep tChange a0), .inv z5.2 (Known k ((q3.1.1, q3.1.2.1, q3.1.2.2.1, q3.1.2.2.2), q3.2.1, q3.2.2)), .obj z5.1 98 (Qq q3 (.eq (.map (some z5.2)))), .obj b6 83 (.eq (.pointer (some ⟨z5.1, 0, none⟩))), .obj b7 83 (.eq (.pointer (some ⟨z5.1, 0, none⟩))), .obj b9 3 (I (0 : Int))] := fun b7 b9 => by
     subst hJ;refine JD.step [8, 10] (by kernel_rfl) rfl ?_;refine JDs.cons rfl ?_ ?_
     ·refine xr ?_;exact JO.go (s1023 b7 b9) [0, 1, 2, 3, 4, 5] ⟨rfl, rfl, rfl, rfl, rfl, trivial⟩
     refine JDs.cons rfl ?_ ?_
     ·refine aq ?_;exact JO.go (s1791 b7 b9) [0, 1, 2, 3, 4, 5] ⟨rfl, rfl, rfl, rfl, trivial⟩
     exact trivial
    have s895 : ∀ (b7 b9 : Nat), J 4 [true, true, true, true, true, true, true, false, true, true, false, false, false] [(4, Pt b6), (7, Pt b9), (22, .tup (.pair (Rs tStep r8.1) (.pair (I r8.2.1) (.pair (.eq (.bool r8.2.2)) (.any))))), (28, Rs tStep r8.1), (30, .eq (.bool r8.2.2))] [.obj b1 26 (.rep tChange a0), .inv z5.2 (Known k ((q3.1.1, q3.1.2.1, q3.1.2.2.1, q3.1.2.2.2), q3.2.1, q3.2.2)), .obj z5.1 98 (Qq q3 (.eq (.map (some z5.2)))), .obj b6 83 (.eq (.pointer (some ⟨z5.1, 0, none⟩))), .obj b7 83 (.eq (.pointer (some ⟨z5.1, 0, none⟩))), .obj b9 3 (I (0 : Int))] := fun b7 b9 => by
     subst hJ;refine JD.step [7, 10] (by kernel_rfl) rfl ?_;refine JDs.cons rfl ?_ ?_
     ·refine xr ?_;exact JO.go (s1023 b7 b9) [0, 1, 2, 3, 4, 5] ⟨rfl, rfl, rfl, rfl, rfl, trivial⟩
     refine JDs.cons rfl ?_ ?_
     ·refine aq ?_;exact JO.go (s1919 b7 b9) [0, 1, 2, 3, 4, 5] ⟨rfl, rfl, rfl, rfl, trivial⟩
     exact trivial
    have s1663 : ∀ (b7 b9 : Nat), J 4 [true, true, true, true, true, true, true, false, false, true, true, false, false] [(4, Pt b6), (7, Pt b9), (22, .tup (.pair (Rs tStep r8.1) (.pair (I r8.2.1) (.pair (.eq (.bool r8.2.2)) (.any)))))] [.obj b1 26 (.rep tChange a0), .inv z5.2 (Known k ((q3.1.1, q3.1.2.1, q3.1.2.2.1, q3.1.2.2.2), q3.2.1, q3.2.2)), .obj z5.1 98 (Qq q3 (.eq (.map (some z5.2)))), .obj b6 83 (.eq (.pointer (some ⟨z5.1, 0, none⟩))), .obj b7 83 (.eq (.pointer (some ⟨z5.1, 0, none⟩))), .obj b9 3 (I (0 : Int))] := fun b7 b9 => by
     subst hJ;refine JD.step [7, 8] (by kernel_rfl) rfl ?_;refine JDs.cons rfl ?_ ?_
     ·refine xr ?_;exact JO.go (s1791 b7 b9) [0, 1, 2, 3, 4, 5] ⟨rfl, rfl, rfl, rfl, trivial⟩
     refine JDs.cons rfl ?_ ?_
     ·refine xr ?_;exact JO.go (s1919 b7 b9) [0, 1, 2, 3, 4, 5] ⟨rfl, rfl, rfl, rfl, trivial⟩
     exact trivial
    have s959 : ∀ (b7 b9 : Nat), J 4 [true, true, true, true, true, true, false, true, true, true, false, false, false] [(4, Pt b6), (7, Pt b9), (22, .tup (.pair (Rs tStep r8.1) (.pair (I r8.2.1) (.pair (.eq (.bool r8.2.2)) (.any))))), (29, I r8.2.1), (30, .eq (.bool r8.2.2))] [.obj b1 26 (.rep tChange a0), .inv z5.2 (Known k ((q3.1.1, q3.1.2.1, q3.1.2.2.1, q3.1.2.2.2), q3.2.1, q3.2.2)), .obj z5.1 98 (Qq q3 (.eq (.map (some z5.2)))), .obj b6 83 (.eq (.pointer (some ⟨z5.1, 0, none⟩))), .obj b7 83 (.eq (.pointer (some ⟨z5.1, 0, none⟩))), .obj b9 3 (I (0 : Int))] := fun b7 b9 => by
     subst hJ;refine JD.step [6] (by kernel_rfl) rfl ?_;refine JDs.cons rfl ?_ ?_
     ·refine xr ?_;exact JO.go (s1023 b7 b9) [0, 1, 2, 3, 4, 5] ⟨rfl, rfl, rfl, rfl, rfl, trivial⟩
     exact trivial
    have s255 : ∀ (b7 : Nat), J 5 [true, true, true, true, true, true, true, true, false, false, false, false, false] [(4, Pt b6), (22, .tup (.pair (Rs tStep r8.1) (.pair (I r8.2.1) (.pair (.eq (.bool r8.2.2)) (.any))))), (28, Rs tStep r8.1), (29, I r8.2.1)] [.obj b1 26 (.rep tChange a0), .inv z5.2 (Known k ((q3.1.1, q3.1.2.1, q3.1.2.2.1, q3.1.2.2.2), q3.2.1, q3.2.2)), .obj z5.1 98 (Qq q3 (.eq (.map (some z5.2)))), .obj b6 83 (.eq (.pointer (some ⟨z5.1, 0, none⟩))), .obj b7 83 (.eq (.pointer (some ⟨z5.1, 0, none⟩)))] := fun b7 => by
     subst hJ;refine JD.step [8, 9] (by kernel_rfl) rfl ?_;refine JDs.cons rfl ?_ ?_
     ·refine xr ?_;exact JO.go (s511 b7) [0, 1, 2, 3, 4] ⟨rfl, rfl, rfl, rfl, trivial⟩
     refine JDs.cons rfl ?_ ?_
     ·refine JO.s01 rfl rfl rfl (o_alloc rfl za3 al3) trivial fun b9 => ?_;exact JO.go (s767 b7 b9) [1, 2, 3, 4, 5, 0] ⟨rfl, rfl, rfl, rfl, rfl, trivial⟩
     exact trivial
    have s383 : ∀ (b7 : Nat), J 5 [true, true, true, true, true, true, true, false, true, false, false, false, false] [(4, Pt b6), (22, .tup (.pair (Rs tStep r8.1) (.pair (I r8.2.1) (.pair (.eq (.bool r8.2.2)) (.any))))), (28, Rs tStep r8.1), (30, .eq (.bool r8.2.2))] [.obj b1 26 (.rep tChange a0), .inv z5.2 (Known k ((q3.1.1, q3.1.2.1, q3.1.2.2.1, q3.1.2.2.2), q3.2.1, q3.2.2)), .obj z5.1 98 (Qq q3 (.eq (.map (some z5.2)))), .obj b6 83 (.eq (.pointer (some ⟨z5.1, 0, none⟩))), .obj b7 83 (.eq (.pointer (some ⟨z5.1, 0, none⟩)))] := fun b7 => by
     subst hJ;refine JD.step [7, 9] (by kernel_rfl) rfl ?_;refine JDs.cons rfl ?_ ?_
     ·refine xr ?_;exact JO.go (s511 b7) [0, 1, 2, 3, 4] ⟨rfl, rfl, rfl, rfl, trivial⟩
     refine JDs.cons rfl ?_ ?_
     ·refine JO.s01 rfl rfl rfl (o_alloc rfl za3 al3) trivial fun b9 => ?_;exact JO.go (s895 b7 b9) [1, 2, 3, 4, 5, 0] ⟨rfl, rfl, rfl, rfl, rfl, trivial⟩
     exact trivial
    have s639 : ∀ (b7 b9 : Nat), J 5 [true, true, true, true, true, true, true, false, false, true, false, false, false] [(4, Pt b6), (7, Pt b9), (22, .tup (.pair (Rs tStep r8.1) (.pair (I r8.2.1) (.pair (.eq (.bool r8.2.2)) (.any))))), (28, Rs tStep r8.1)] [.obj b1 26 (.rep tChange a0), .inv z5.2 (Known k ((q3.1.1, q3.1.2.1, q3.1.2.2.1, q3.1.2.2.2), q3.2.1, q3.2.2)), .obj z5.1 98 (Qq q3 (.eq (.map (some z5.2)))), .obj b6 83 (.eq (.pointer (some ⟨z5.1, 0, none⟩))), .obj b7 83 (.eq (.pointer (some ⟨z5.1, 0, none⟩))), .obj b9 3 (I (0 : Int))] := fun b7 b9 => by
     subst hJ;refine JD.step [7, 8, 10] (by kernel_rfl) rfl ?_;refine JDs.cons rfl ?_ ?_
     ·refine xr ?_;exact JO.go (s767 b7 b9) [0, 1, 2, 3, 4, 5] ⟨rfl, rfl, rfl, rfl, rfl, trivial⟩
     refine JDs.cons rfl ?_ ?_
     ·refine xr ?_;exact JO.go (s895 b7 b9) [0, 1, 2, 3, 4, 5] ⟨rfl, rfl, rfl, rfl, rfl, trivial⟩
     refine JDs.cons rfl ?_ ?_
     ·refine aq ?_;exact JO.go (s1663 b7 b9) [0, 1, 2, 3, 4, 5] ⟨rfl, rfl, rfl, trivial⟩
     exact trivial
    have s447 : ∀ (b7 : Nat), J 5 [true, true, true, true, true, true, false, true, true, false, false, false, false] [(4, Pt b6), (22, .tup (.pair (Rs tStep r8.1) (.pair (I r8.2.1) (.pair (.eq (.bool r8.2.2)) (.any))))), (29, I r8.2.1), (30, .eq (.bool r8.2.2))] [.obj b1 26 (.rep tChange a0), .inv z5.2 (Known k ((q3.1.1, q3.1.2.1, q3.1.2.2.1, q3.1.2.2.2), q3.2.1, q3.2.2)), .obj z5.1 98 (Qq q3 (.eq (.map (some z5.2)))), .obj b6 83 (.eq (.pointer (some ⟨z5.1, 0, none⟩))), .obj b7 83 (.eq (.pointer (some ⟨z5.1, 0, none⟩)))] := fun b7 => by
     subst hJ;refine JD.step [6, 9] (by kernel_rfl) rfl ?_;refine JDs.cons rfl ?_ ?_
     ·refine xr ?_;exact JO.go (s511 b7) [0, 1, 2, 3, 4] ⟨rfl, rfl, rfl, rfl, trivial⟩
     refine JDs.cons rfl ?_ ?_
     ·refine JO.s01 rfl rfl rfl (o_alloc rfl za3 al3) trivial fun b9 => ?_;exact JO.go (s959 b7 b9) [1, 2, 3, 4, 5, 0] ⟨rfl, rfl, rfl, rfl, rfl, trivial⟩
     exact trivial
    have s703 : ∀ (b7 b9 : Nat), J 5 [true, true, true, true, true, true, false, true, false, true, false, false, false] [(4, Pt b6), (7, Pt b9), (22, .tup (.pair (Rs tStep r8.1) (.pair (I r8.2.1) (.pair (.eq (.bool r8.2.2)) (.any))))), (29, I r8.2.1)] [.obj b1 26 (.rep tChange a0), .inv z5.2 (Known k ((q3.1.1, q3.1.2.1, q3.1.2.2.1, q3.1.2.2.2), q3.2.1, q3.2.2)), .obj z5.1 98 (Qq q3 (.eq (.map (some z5.2)))), .obj b6 83 (.eq (.pointer (some ⟨z5.1, 0, none⟩))), .obj b7 83 (.eq (.pointer (some ⟨z5.1, 0, none⟩))), .obj b9 3 (I (0 : Int))] := fun b7 b9 => by
     subst hJ;refine JD.step [6, 8] (by kernel_rfl) rfl ?_;refine JDs.cons rfl ?_ ?_
     ·refine xr ?_;exact JO.go (s767 b7 b9) [0, 1, 2, 3, 4, 5] ⟨rfl, rfl, rfl, rfl, rfl, trivial⟩
     refine JDs.cons rfl ?_ ?_
     ·refine xr ?_;exact JO.go (s959 b7 b9) [0, 1, 2, 3, 4, 5] ⟨rfl, rfl, rfl, rfl, rfl, trivial⟩
     exact trivial
    have s831 : ∀ (b7 b9 : Nat), J 5 [true, true, true, true, true, true, false, false, true, true, false, false, false] [(4, Pt b6), (7, Pt b9), (22, .tup (.pair (Rs tStep r8.1) (.pair (I r8.2.1) (.pair (.eq (.bool r8.2.2)) (.any))))), (30, .eq (.bool r8.2.2))] [.obj b1 26 (.rep tChange a0), .inv z5.2 (Known k ((q3.1.1, q3.1.2.1, q3.1.2.2.1, q3.1.2.2.2), q3.2.1, q3.2.2)), .obj z5.1 98 (Qq q3 (.eq (.map (some z5.2)))), .obj b6 83 (.eq (.pointer (some ⟨z5.1, 0, none⟩))), .obj b7 83 (.eq (.pointer (some ⟨z5.1, 0, none⟩))), .obj b9 3 (I (0 : Int))] := fun b7 b9 => by
     subst hJ;refine JD.step [6, 7] (by kernel_rfl) rfl ?_;refine JDs.cons rfl ?_ ?_
     ·refine xr ?_;exact JO.go (s895 b7 b9) [0, 1, 2, 3, 4, 5] ⟨rfl, rfl, rfl, rfl, rfl, trivial⟩
     refine JDs.cons rfl ?_ ?_
     ·refine xr ?_;exact JO.go (s959 b7 b9) [0, 1, 2, 3, 4, 5] ⟨rfl, rfl, rfl, rfl, rfl, trivial⟩
     exact trivial
    have s127 : ∀ (b7 : Nat), J 6 [true, true, true, true, true, true, true, false, false, false, false, false, false] [(4, Pt b6), (22, .tup (.pair (Rs tStep r8.1) (.pair (I r8.2.1) (.pair (.eq (.bool r8.2.2)) (.any))))), (28, Rs tStep r8.1)] [.obj b1 26 (.rep tChange a0), .inv z5.2 (Known k ((q3.1.1, q3.1.2.1, q3.1.2.2.1, q3.1.2.2.2), q3.2.1, q3.2.2)), .obj z5.1 98 (Qq q3 (.eq (.map (some z5.2)))), .obj b6 83 (.eq (.pointer (some ⟨z5.1, 0, none⟩))), .obj b7 83 (.eq (.pointer (some ⟨z5.1, 0, none⟩)))] := fun b7 => by
     subst hJ;refine JD.step [7, 8, 9] (by kernel_rfl) rfl ?_;refine JDs.cons rfl ?_ ?_
     ·refine xr ?_;exact JO.go (s255 b7) [0, 1, 2, 3, 4] ⟨rfl, rfl, rfl, rfl, trivial⟩
     refine JDs.cons rfl ?_ ?_
     ·refine xr ?_;exact JO.go (s383 b7) [0, 1, 2, 3, 4] ⟨rfl, rfl, rfl, rfl, trivial⟩
     refine JDs.cons rfl ?_ ?_
     ·refine JO.s01 rfl rfl rfl (o_alloc rfl za3 al3) trivial fun b9 => ?_;exact JO.go (s639 b7 b9) [1, 2, 3, 4, 5, 0] ⟨rfl, rfl, rfl, rfl, trivial⟩
     exact trivial
    have s191 : ∀ (b7 : Nat), J 6 [true, true, true, true, true, true, false, true, false, false, false, false, false] [(4, Pt b6), (22, .tup (.pair (Rs tStep r8.1) (.pair (I r8.2.1) (.pair (.eq (.bool r8.2.2)) (.any))))), (29, I r8.2.1)] [.obj b1 26 (.rep tChange a0), .inv z5.2 (Known k ((q3.1.1, q3.1.2.1, q3.1.2.2.1, q3.1.2.2.2), q3.2.1, q3.2.2)), .obj z5.1 98 (Qq q3 (.eq (.map (some z5.2)))), .obj b6 83 (.eq (.pointer (some ⟨z5.1, 0, none⟩))), .obj b7 83 (.eq (.pointer (some ⟨z5.1, 0, none⟩)))] := fun b7 => by
     subst hJ;refine JD.step [6, 8, 9] (by kernel_rfl) rfl ?_;refine JDs.cons rfl ?_ ?_
     ·refine xr ?_;exact JO.go (s255 b7) [0, 1, 2, 3, 4] ⟨rfl, rfl, rfl, rfl, trivial⟩
     refine JDs.cons rfl ?_ ?_
     ·refine xr ?_;exact JO.go (s447 b7) [0, 1, 2, 3, 4] ⟨rfl, rfl, rfl, rfl, trivial⟩
     refine JDs.cons rfl ?_ ?_
     ·refine JO.s01 rfl rfl rfl (o_alloc rfl za3 al3) trivial fun b9 => ?_;exact JO.go (s703 b7 b9) [1, 2, 3, 4, 5, 0] ⟨rfl, rfl, rfl, rfl, trivial⟩
     exact trivial
    have s319 : ∀ (b7 : Nat), J 6 [true, true, true, true, true, true, false, false, true, false, false, false, false] [(4, Pt b6), (22, .tup (.pair (Rs tStep r8.1) (.pair (I r8.2.1) (.pair (.eq (.bool r8.2.2)) (.any))))), (30, .eq (.bool r8.2.2))] [.obj b1 26 (.rep tChange a0), .inv z5.2 (Known k ((q3.1.1, q3.1.2.1, q3.1.2.2.1, q3.1.2.2.2), q3.2.1, q3.2.2)), .obj z5.1 98 (Qq q3 (.eq (.map (some z5.2)))), .obj b6 83 (.eq (.pointer (some ⟨z5.1, 0, none⟩))), .obj b7 83 (.eq (.pointer (some ⟨z5.1, 0, none⟩)))] := fun b7 => by
     subst hJ;refine JD.step [6, 7, 9] (by kernel_rfl) rfl ?_;refine JDs.cons rfl ?_ ?_
     ·refine xr ?_;exact JO.go (s383 b7) [0, 1, 2, 3, 4] ⟨rfl, rfl, rfl, rfl, trivial⟩
     refine JDs.cons rfl ?_ ?_
     ·refine xr ?_;exact JO.go (s447 b7) [0, 1, 2, 3, 4] ⟨rfl, rfl, rfl, rfl, trivial⟩
     refine JDs.cons rfl ?_ ?_
     ·refine JO.s01 rfl rfl rfl (o_alloc rfl za3 al3) trivial fun b9 => ?_;exact JO.go (s831 b7 b9) [1, 2, 3, 4, 5, 0] ⟨rfl, rfl, rfl, rfl, trivial⟩
     exact trivial
    have s575 : ∀ (b7 b9 : Nat), J 6 [true, true, true, true, true, true, false, false, false, true, false, false, false] [(4, Pt b6), (7, Pt b9), (22, .tup (.pair (Rs tStep r8.1) (.pair (I r8.2.1) (.pair (.eq (.bool r8.2.2)) (.any)))))] [.obj b1 26 (.rep tChange a0), .inv z5.2 (Known k ((q3.1.1, q3.1.2.1, q3.1.2.2.1, q3.1.2.2.2), q3.2.1, q3.2.2)), .obj z5.1 98 (Qq q3 (.eq (.map (some z5.2)))), .obj b6 83 (.eq (.pointer (some ⟨z5.1, 0, none⟩))), .obj b7 83 (.eq (.pointer (some ⟨z5.1, 0, none⟩))), .obj b9 3 (I (0 : Int))] := fun b7 b9 => by
     subst hJ;refine JD.step [6, 7, 8] (by kernel_rfl) rfl ?_;refine JDs.cons rfl ?_ ?_
     ·refine xr ?_;exact JO.go (s639 b7 b9) [0, 1, 2, 3, 4, 5] ⟨rfl, rfl, rfl, rfl, trivial⟩
     refine JDs.cons rfl ?_ ?_
     ·refine xr ?_;exact JO.go (s703 b7 b9) [0, 1, 2, 3, 4, 5] ⟨rfl, rfl, rfl, rfl, trivial⟩
     refine JDs.cons rfl ?_ ?_
     ·refine xr ?_;exact JO.go (s831 b7 b9) [0, 1, 2, 3, 4, 5] ⟨rfl, rfl, rfl, rfl, trivial⟩
     exact trivial
    have s63 : ∀ (b7 : Nat), J 7 [true, true, true, true, true, true, false, false, false, false, false, false, false] [(4, Pt b6), (22, .tup (.pair (Rs tStep r8.1) (.pair (I r8.2.1) (.pair (.eq (.bool r8.2.2)) (.any)))))] [.obj b1 26 (.rep tChange a0), .inv z5.2 (Known k ((q3.1.1, q3.1.2.1, q3.1.2.2.1, q3.1.2.2.2), q3.2.1, q3.2.2)), .obj z5.1 98 (Qq q3 (.eq (.map (some z5.2)))), .obj b6 83 (.eq (.pointer (some ⟨z5.1, 0, none⟩))), .obj b7 83 (.eq (.pointer (some ⟨z5.1, 0, none⟩)))] := fun b7 => by
     subst hJ;refine JD.step [6, 7, 8, 9] (by kernel_rfl) rfl ?_;refine JDs.cons rfl ?_ ?_
     ·refine xr ?_;exact JO.go (s127 b7) [0, 1, 2, 3, 4] ⟨rfl, rfl, rfl, trivial⟩
     refine JDs.cons rfl ?_ ?_
     ·refine xr ?_;exact JO.go (s191 b7) [0, 1, 2, 3, 4] ⟨rfl, rfl, rfl, trivial⟩
     refine JDs.cons rfl ?_ ?_
     ·refine xr ?_;exact JO.go (s319 b7) [0, 1, 2, 3, 4] ⟨rfl, rfl, rfl, trivial⟩
     refine JDs.cons rfl ?_ ?_
     ·refine JO.s01 rfl rfl rfl (o_alloc rfl za3 al3) trivial fun b9 => ?_;exact JO.go (s575 b7 b9) [1, 2, 3, 4, 5, 0] ⟨rfl, rfl, rfl, trivial⟩
     exact trivial
    have s543 : ∀ (b7 b9 : Nat), J 7 [true, true, true, true, true, false, false, false, false, true, false, false, false] [(4, Pt b6), (7, Pt b9), (27, .tup (.pair (Rs tStep r8.1) (.pair (I r8.2.1) (.pair (.eq (.bool r8.2.2)) (.any)))))] [.obj b1 26 (.rep tChange a0), .inv z5.2 (Known k ((q3.1.1, q3.1.2.1, q3.1.2.2.1, q3.1.2.2.2), q3.2.1, q3.2.2)), .obj z5.1 98 (Qq q3 (.eq (.map (some z5.2)))), .obj b6 83 (.eq (.pointer (some ⟨z5.1, 0, none⟩))), .obj b7 83 (.eq (.pointer (some ⟨z5.1, 0, none⟩))), .obj b9 3 (I (0 : Int))] := fun b7 b9 => by
     subst hJ;refine JD.step [5] (by kernel_rfl) rfl ?_;refine JDs.cons rfl ?_ ?_
     ·refine mq ?_;exact JO.go (s575 b7 b9) [0, 1, 2, 3, 4, 5] ⟨rfl, rfl, rfl, trivial⟩
     exact trivial
    have s31 : ∀ (b7 : Nat), J 8 [true, true, true, true, true, false, false, false, false, false, false, false, false] [(4, Pt b6), (27, .tup (.pair (Rs tStep r8.1) (.pair (I r8.2.1) (.pair (.eq (.bool r8.2.2)) (.any)))))] [.obj b1 26 (.rep tChange a0), .inv z5.2 (Known k ((q3.1.1, q3.1.2.1, q3.1.2.2.1, q3.1.2.2.2), q3.2.1, q3.2.2)), .obj z5.1 98 (Qq q3 (.eq (.map (some z5.2)))), .obj b6 83 (.eq (.pointer (some ⟨z5.1, 0, none⟩))), .obj b7 83 (.eq (.pointer (some ⟨z5.1, 0, none⟩)))] := fun b7 => by
     subst hJ;refine JD.step [5, 9] (by kernel_rfl) rfl ?_;refine JDs.cons rfl ?_ ?_
     ·refine mq ?_;exact JO.go (s63 b7) [0, 1, 2, 3, 4] ⟨rfl, rfl, trivial⟩
     refine JDs.cons rfl ?_ ?_
     ·refine JO.s01 rfl rfl rfl (o_alloc rfl za3 al3) trivial fun b9 => ?_;exact JO.go (s543 b7 b9) [1, 2, 3, 4, 5, 0] ⟨rfl, rfl, rfl, trivial⟩
     exact trivial
    have s527 : ∀ (b7 b9 : Nat), J 8 [true, true, true, true, false, false, false, false, false, true, false, false, false] [(4, Pt b6), (7, Pt b9), (24, .eq (.func (.func 64) #[] #[(Pv b7)])), (26, .eq (.func (.func 37) #[(.pointer (some ⟨z5.1, 0, none⟩))] #[]))] [.obj b1 26 (.rep tChange a0), .raw z5.2 (.map #[] 0), .obj z5.1 98 (Qq q3 (.eq (.map (some z5.2)))), .obj b6 83 (.eq (.pointer (some ⟨z5.1, 0, none⟩))), .obj b7 83 (.eq (.pointer (some ⟨z5.1, 0, none⟩))), .obj b9 3 (I (0 : Int))] := fun b7 b9 => by
     subst hJ;refine JD.step [4] (by kernel_rfl) rfl ?_;refine JDs.cons rfl ?_ ?_
     ·refine fr 1 ?_;refine JO.se (SE.rawInv (Known k ((q3.1.1, q3.1.2.1, q3.1.2.2.1, q3.1.2.2.2), q3.2.1, q3.2.2)) known_nil) ?_;refine fr 4 ?_;refine fr 1 ?_;refine fr 3 ?_;refine JO.stepG (Δ := [_, _, _]) (F := _) (fun _ _ _ => wanted_none rfl _) rfl rfl (o_call [.tmp 24, .tmp 26] rfl rfl en35 rfl (chg_least_ok k ((q3.1.1, q3.1.2.1, q3.1.2.2.1, q3.1.2.2.2), q3.2.1, q3.2.2) z5.1 z5.2 b7 r8 er8)) ⟨rfl, rfl, trivial⟩ fun _ => ?_;exact JO.go (s543 b7 b9) [3, 1, 0, 4, 2, 5] ⟨rfl, rfl, rfl, trivial⟩
     exact trivial
    have s15 : ∀ (b7 : Nat), J 9 [true, true, true, true, false, false, false, false, false, false, false, false, false] [(4, Pt b6), (24, .eq (.func (.func 64) #[] #[(Pv b7)])), (26, .eq (.func (.func 37) #[(.pointer (some ⟨z5.1, 0, none⟩))] #[]))] [.obj b1 26 (.rep tChange a0), .raw z5.2 (.map #[] 0), .obj z5.1 98 (Qq q3 (.eq (.map (some z5.2)))), .obj b6 83 (.eq (.pointer (some ⟨z5.1, 0, none⟩))), .obj b7 83 (.eq (.pointer (some ⟨z5.1, 0, none⟩)))] := fun b7 => by
     subst hJ;refine JD.step [4, 9] (by kernel_rfl) rfl ?_;refine JDs.cons rfl ?_ ?_
     ·refine fr 1 ?_;refine JO.se (SE.rawInv (Known k ((q3.1.1, q3.1.2.1, q3.1.2.2.1, q3.1.2.2.2), q3.2.1, q3.2.2)) known_nil) ?_;refine fr 4 ?_;refine fr 1 ?_;refine fr 3 ?_;refine JO.stepG (Δ := [_, _, _]) (F := _) (fun _ _ _ => wanted_none rfl _) rfl rfl (o_call [.tmp 24, .tmp 26] rfl rfl en35 rfl (chg_least_ok k ((q3.1.1, q3.1.2.1, q3.1.2.2.1, q3.1.2.2.2), q3.2.1, q3.2.2) z5.1 z5.2 b7 r8 er8)) ⟨rfl, rfl, trivial⟩ fun _ => ?_;exact JO.go (s31 b7) [3, 1, 0, 4, 2] ⟨rfl, rfl, trivial⟩
     refine JDs.cons rfl ?_ ?_
     ·refine JO.s01 rfl rfl rfl (o_alloc rfl za3 al3) trivial fun b9 => ?_;exact JO.go (s527 b7 b9) [1, 2, 3, 4, 5, 0] ⟨rfl, rfl, rfl, rfl, trivial⟩
     exact trivial
    have s519 : ∀ (b7 b9 : Nat), J 9 [true, true, true, false, false, false, false, false, false, true, false, false, false] [(4, Pt b6), (7, Pt b9), (24, .eq (.func (.func 64) #[] #[(Pv b7)])), (25, .eq (.pointer (some ⟨z5.1, 0, none⟩)))] [.obj b1 26 (.rep tChange a0), .raw z5.2 (.map #[] 0), .obj z5.1 98 (Qq q3 (.eq (.map (some z5.2)))), .obj b6 83 (.eq (.pointer (some ⟨z5.1, 0, none⟩))), .obj b7 83 (.eq (.pointer (some ⟨z5.1, 0, none⟩))), .obj b9 3 (I (0 : Int))] := fun b7 b9 => by
     subst hJ;refine JD.step [3] (by kernel_rfl) rfl ?_;refine JDs.cons rfl ?_ ?_
     ·refine ja (o_mkfn [.tmp 25] [] [(.pointer (some ⟨z5.1, 0, none⟩))] [] rfl rfl rfl) ?_;exact JO.go (s527 b7 b9) [0, 1, 2, 3, 4, 5] ⟨rfl, rfl, rfl, rfl, trivial⟩
     exact trivial
    have s525 : ∀ (b9 : Nat), J 9 [true, false, true, true, false, false, false, false, false, true, false, false, false] [(4, Pt b6), (7, Pt b9), (23, .eq (.pointer (some ⟨z5.1, 0, none⟩))), (26, .eq (.func (.func 37) #[(.pointer (some ⟨z5.1, 0, none⟩))] #[]))] [.obj b1 26 (.rep tChange a0), .raw z5.2 (.map #[] 0), .obj z5.1 98 (Qq q3 (.eq (.map (some z5.2)))), .obj b6 83 (.eq (.pointer (some ⟨z5.1, 0, none⟩))), .obj b9 3 (I (0 : Int))] := fun b9 => by
     subst hJ;refine JD.step [1] (by kernel_rfl) rfl ?_;refine JDs.cons rfl ?_ ?_
     ·refine JO.s01 rfl rfl rfl (o_call [.tmp 23] rfl rfl en36 rfl (chg_quick_plans_ok z5.1)) ⟨rfl, trivial⟩ fun b7 => ?_;exact JO.go (s527 b7 b9) [1, 2, 3, 4, 0, 5] ⟨rfl, rfl, rfl, rfl, trivial⟩
     exact trivial
    have s7 : ∀ (b7 : Nat), J 10 [true, true, true, false, false, false, false, false, false, false, false, false, false] [(4, Pt b6), (24, .eq (.func (.func 64) #[] #[(Pv b7)])), (25, .eq (.pointer (some ⟨z5.1, 0, none⟩)))] [.obj b1 26 (.rep tChange a0), .raw z5.2 (.map #[] 0), .obj z5.1 98 (Qq q3 (.eq (.map (some z5.2)))), .obj b6 83 (.eq (.pointer (some ⟨z5.1, 0, none⟩))), .obj b7 83 (.eq (.pointer (some ⟨z5.1, 0, none⟩)))] := fun b7 => by
     subst hJ;refine JD.step [3, 9] (by kernel_rfl) rfl ?_;refine JDs.cons rfl ?_ ?_
     ·refine ja (o_mkfn [.tmp 25] [] [(.pointer (some ⟨z5.1, 0, none⟩))] [] rfl rfl rfl) ?_;exact JO.go (s15 b7) [0, 1, 2, 3, 4] ⟨rfl, rfl, rfl, trivial⟩
     refine JDs.cons rfl ?_ ?_
     ·refine JO.s01 rfl rfl rfl (o_alloc rfl za3 al3) trivial fun b9 => ?_;exact JO.go (s519 b7 b9) [1, 2, 3, 4, 5, 0] ⟨rfl, rfl, rfl, rfl, trivial⟩
     exact trivial
    have s515 : ∀ (b7 b9 : Nat), J 10 [true, true, false, false, false, false, false, false, false, true, false, false, false] [(4, Pt b6), (7, Pt b9), (24, .eq (.func (.func 64) #[] #[(Pv b7)]))] [.obj b1 26 (.rep tChange a0), .raw z5.2 (.map #[] 0), .obj z5.1 98 (Qq q3 (.eq (.map (some z5.2)))), .obj b6 83 (.eq (.pointer (some ⟨z5.1, 0, none⟩))), .obj b7 83 (.eq (.pointer (some ⟨z5.1, 0, none⟩))), .obj b9 3 (I (0 : Int))] := fun b7 b9 => by
     subst hJ;refine JD.step [2] (by kernel_rfl) rfl ?_;refine JDs.cons rfl ?_ ?_
     ·refine fr 3 ?_;refine lo sz83 ?_;exact JO.go (s519 b7 b9) [1, 2, 3, 0, 4, 5] ⟨rfl, rfl, rfl, rfl, trivial⟩
     exact trivial
    have s13 : J 10 [true, false, true, true, false, false, false, false, false, false, false, false, false] [(4, Pt b6), (23, .eq (.pointer (some ⟨z5.1, 0, none⟩))), (26, .eq (.func (.func 37) #[(.pointer (some ⟨z5.1, 0, none⟩))] #[]))] [.obj b1 26 (.rep tChange a0), .raw z5.2 (.map #[] 0), .obj z5.1 98 (Qq q3 (.eq (.map (some z5.2)))), .obj b6 83 (.eq (.pointer (some ⟨z5.1, 0, none⟩)))] := by
     subst hJ;refine JD.step [1, 9] (by kernel_rfl) rfl ?_;refine JDs.cons rfl ?_ ?_
     ·refine JO.s01 rfl rfl rfl (o_call [.tmp 23] rfl rfl en36 rfl (chg_quick_plans_ok z5.1)) ⟨rfl, trivial⟩ fun b7 => ?_;exact JO.go (s15 b7) [1, 2, 3, 4, 0] ⟨rfl, rfl, rfl, trivial⟩
     refine JDs.cons rfl ?_ ?_
     ·refine JO.s01 rfl rfl rfl (o_alloc rfl za3 al3) trivial fun b9 => ?_;exact JO.go (s525 b9) [1, 2, 3, 4, 0] ⟨rfl, rfl, rfl, rfl, trivial⟩
     exact trivial
    have s517 : ∀ (b9 : Nat), J 10 [true, false, true, false, false, false, false, false, false, true, false, false, false] [(4, Pt b6), (7, Pt b9), (23, .eq (.pointer (some ⟨z5.1, 0, none⟩))), (25, .eq (.pointer (some ⟨z5.1, 0, none⟩)))] [.obj b1 26 (.rep tChange a0), .raw z5.2 (.map #[] 0), .obj z5.1 98 (Qq q3 (.eq (.map (some z5.2)))), .obj b6 83 (.eq (.pointer (some ⟨z5.1, 0, none⟩))), .obj b9 3 (I (0 : Int))] := fun b9 => by
     subst hJ;refine JD.step [1, 3] (by kernel_rfl) rfl ?_;refine JDs.cons rfl ?_ ?_
     ·refine JO.s01 rfl rfl rfl (o_call [.tmp 23] rfl rfl en36 rfl (chg_quick_plans_ok z5.1)) ⟨rfl, trivial⟩ fun b7 => ?_;exact JO.go (s519 b7 b9) [1, 2, 3, 4, 0, 5] ⟨rfl, rfl, rfl, rfl, trivial⟩
     refine JDs.cons rfl ?_ ?_
     ·refine ja (o_mkfn [.tmp 25] [] [(.pointer (some ⟨z5.1, 0, none⟩))] [] rfl rfl rfl) ?_;exact JO.go (s525 b9) [0, 1, 2, 3, 4] ⟨rfl, rfl, rfl, rfl, trivial⟩
     exact trivial
    have s524 : ∀ (b9 : Nat), J 10 [false, false, true, true, false, false, false, false, false, true, false, false, false] [(4, Pt b6), (7, Pt b9), (26, .eq (.func (.func 37) #[(.pointer (some ⟨z5.1, 0, none⟩))] #[]))] [.obj b1 26 (.rep tChange a0), .raw z5.2 (.map #[] 0), .obj z5.1 98 (Qq q3 (.eq (.map (some z5.2)))), .obj b6 83 (.eq (.pointer (some ⟨z5.1, 0, none⟩))), .obj b9 3 (I (0 : Int))] := fun b9 => by
     subst hJ;refine JD.step [0] (by kernel_rfl) rfl ?_;refine JDs.cons rfl ?_ ?_
     ·refine fr 3 ?_;refine lo sz83 ?_;exact JO.go (s525 b9) [1, 2, 3, 0, 4] ⟨rfl, rfl, rfl, rfl, trivial⟩
     exact trivial
    have s3 : ∀ (b7 : Nat), J 11 [true, true, false, false, false, false, false, false, false, false, false, false, false] [(4, Pt b6), (24, .eq (.func (.func 64) #[] #[(Pv b7)]))] [.obj b1 26 (.rep tChange a0), .raw z5.2 (.map #[] 0), .obj z5.1 98 (Qq q3 (.eq (.map (some z5.2)))), .obj b6 83 (.eq (.pointer (some ⟨z5.1, 0, none⟩))), .obj b7 83 (.eq (.pointer (some ⟨z5.1, 0, none⟩)))] := fun b7 => by
     subst hJ;refine JD.step [2, 9] (by kernel_rfl) rfl ?_;refine JDs.cons rfl ?_ ?_
     ·refine fr 3 ?_;refine lo sz83 ?_;exact JO.go (s7 b7) [1, 2, 3, 0, 4] ⟨rfl, rfl, rfl, trivial⟩
     refine JDs.cons rfl ?_ ?_
     ·refine JO.s01 rfl rfl rfl (o_alloc rfl za3 al3) trivial fun b9 => ?_;exact JO.go (s515 b7 b9) [1, 2, 3, 4, 5, 0] ⟨rfl, rfl, rfl, trivial⟩
     exact trivial
    have s5 : J 11 [true, false, true, false, false, false, false, false, false, false, false, false, false] [(4, Pt b6), (23, .eq (.pointer (some ⟨z5.1, 0, none⟩))), (25, .eq (.pointer (some ⟨z5.1, 0, none⟩)))] [.obj b1 26 (.rep tChange a0), .raw z5.2 (.map #[] 0), .obj z5.1 98 (Qq q3 (.eq (.map (some z5.2)))), .obj b6 83 (.eq (.pointer (some ⟨z5.1, 0, none⟩)))] := by
     subst hJ;refine JD.step [1, 3, 9] (by kernel_rfl) rfl ?_;refine JDs.cons rfl ?_ ?_
     ·refine JO.s01 rfl rfl rfl (o_call [.tmp 23] rfl rfl en36 rfl (chg_quick_plans_ok z5.1)) ⟨rfl, trivial⟩ fun b7 => ?_;exact JO.go (s7 b7) [1, 2, 3, 4, 0] ⟨rfl, rfl, rfl, trivial⟩
     refine JDs.cons rfl ?_ ?_
     ·refine ja (o_mkfn [.tmp 25] [] [(.pointer (some ⟨z5.1, 0, none⟩))] [] rfl rfl rfl) ?_;exact JO.go s13 [0, 1, 2, 3] ⟨rfl, rfl, rfl, trivial⟩
     refine JDs.cons rfl ?_ ?_
     ·refine JO.s01 rfl rfl rfl (o_alloc rfl za3 al3) trivial fun b9 => ?_;exact JO.go (s517 b9) [1, 2, 3, 4, 0] ⟨rfl, rfl, rfl, rfl, trivial⟩
     exact trivial
    have s513 : ∀ (b9 : Nat), J 11 [true, false, false, false, false, false, false, false, false, true, false, false, false] [(4, Pt b6), (7, Pt b9), (23, .eq (.pointer (some ⟨z5.1, 0, none⟩)))] [.obj b1 26 (.rep tChange a0), .raw z5.2 (.map #[] 0), .obj z5.1 98 (Qq q3 (.eq (.map (some z5.2)))), .obj b6 83 (.eq (.pointer (some ⟨z5.1, 0, none⟩))), .obj b9 3 (I (0 : Int))] := fun b9 => by
     subst hJ;refine JD.step [1, 2] (by kernel_rfl) rfl ?_;refine JDs.cons rfl ?_ ?_
     ·refine JO.s01 rfl rfl rfl (o_call [.tmp 23] rfl rfl en36 rfl (chg_quick_plans_ok z5.1)) ⟨rfl, trivial⟩ fun b7 => ?_;exact JO.go (s515 b7 b9) [1, 2, 3, 4, 0, 5] ⟨rfl, rfl, rfl, trivial⟩
     refine JDs.cons rfl ?_ ?_
     ·refine fr 3 ?_;refine lo sz83 ?_;exact JO.go (s517 b9) [1, 2, 3, 0, 4] ⟨rfl, rfl, rfl, rfl, trivial⟩
     exact trivial
    have s12 : J 11 [false, false, true, true, false, false, false, false, false, false, false, false, false] [(4, Pt b6), (26, .eq (.func (.func 37) #[(.pointer (some ⟨z5.1, 0, none⟩))] #[]))] [.obj b1 26 (.rep tChange a0), .raw z5.2 (.map #[] 0), .obj z5.1 98 (Qq q3 (.eq (.map (some z5.2)))), .obj b6 83 (.eq (.pointer (some ⟨z5.1, 0, none⟩)))] := by
     subst hJ;refine JD.step [0, 9] (by kernel_rfl) rfl ?_;refine JDs.cons rfl ?_ ?_
     ·refine fr 3 ?_;refine lo sz83 ?_;exact JO.go s13 [1, 2, 3, 0] ⟨rfl, rfl, rfl, trivial⟩
     refine JDs.cons rfl ?_ ?_
     ·refine JO.s01 rfl rfl rfl (o_alloc rfl za3 al3) trivial fun b9 => ?_;exact JO.go (s524 b9) [1, 2, 3, 4, 0] ⟨rfl, rfl, rfl, trivial⟩
     exact trivial
    have s516 : ∀ (b9 : Nat), J 11 [false, false, true, false, false, false, false, false, false, true, false, false, false] [(4, Pt b6), (7, Pt b9), (25, .eq (.pointer (some ⟨z5.1, 0, none⟩)))] [.obj b1 26 (.rep tChange a0), .raw z5.2 (.map #[] 0), .obj z5.1 98 (Qq q3 (.eq (.map (some z5.2)))), .obj b6 83 (.eq (.pointer (some ⟨z5.1, 0, none⟩))), .obj b9 3 (I (0 : Int))] := fun b9 => by
     subst hJ;refine JD.step [0, 3] (by kernel_rfl) rfl ?_;refine JDs.cons rfl ?_ ?_
     ·refine fr 3 ?_;refine lo sz83 ?_;exact JO.go (s517 b9) [1, 2, 3, 0, 4] ⟨rfl, rfl, rfl, rfl, trivial⟩
     refine JDs.cons rfl ?_ ?_
     ·refine ja (o_mkfn [.tmp 25] [] [(.pointer (some ⟨z5.1, 0, none⟩))] [] rfl rfl rfl) ?_;exact JO.go (s524 b9) [0, 1, 2, 3, 4] ⟨rfl, rfl, rfl, trivial⟩
     exact trivial
    have s1 : J 12 [true, false, false, false, false, false, false, false, false, false, false, false, false] [(4, Pt b6), (23, .eq (.pointer (some ⟨z5.1, 0, none⟩)))] [.obj b1 26 (.rep tChange a0), .raw z5.2 (.map #[] 0), .obj z5.1 98 (Qq q3 (.eq (.map (some z5.2)))), .obj b6 83 (.eq (.pointer (some ⟨z5.1, 0, none⟩)))] := by
     subst hJ;refine JD.step [1, 2, 9] (by kernel_rfl) rfl ?_;refine JDs.cons rfl ?_ ?_
     ·refine JO.s01 rfl rfl rfl (o_call [.tmp 23] rfl rfl en36 rfl (chg_quick_plans_ok z5.1)) ⟨rfl, trivial⟩ fun b7 => ?_;exact JO.go (s3 b7) [1, 2, 3, 4, 0] ⟨rfl, rfl, trivial⟩
     refine JDs.cons rfl ?_ ?_
     ·refine fr 3 ?_;refine lo sz83 ?_;exact JO.go s5 [1, 2, 3, 0] ⟨rfl, rfl, rfl, trivial⟩
     refine JDs.cons rfl ?_ ?_
     ·refine JO.s01 rfl rfl rfl (o_alloc rfl za3 al3) trivial fun b9 => ?_;exact JO.go (s513 b9) [1, 2, 3, 4, 0] ⟨rfl, rfl, rfl, trivial⟩
     exact trivial
    have s4 : J 12 [false, false, true, false, false, false, false, false, false, false, false, false, false] [(4, Pt b6), (25, .eq (.pointer (some ⟨z5.1, 0, none⟩)))] [.obj b1 26 (.rep tChange a0), .raw z5.2 (.map #[] 0), .obj z5.1 98 (Qq q3 (.eq (.map (some z5.2)))), .obj b6 83 (.eq (.pointer (some ⟨z5.1, 0, none⟩)))] := by
     subst hJ;refine JD.step [0, 3, 9] (by kernel_rfl) rfl ?_;refine JDs.cons rfl ?_ ?_
     ·refine fr 3 ?_;refine lo sz83 ?_;exact JO.go s5 [1, 2, 3, 0] ⟨rfl, rfl, rfl, trivial⟩
     refine JDs.cons rfl ?_ ?_
     ·refine ja (o_mkfn [.tmp 25] [] [(.pointer (some ⟨z5.1, 0, none⟩))] [] rfl rfl rfl) ?_;exact JO.go s12 [0, 1, 2, 3] ⟨rfl, rfl, trivial⟩
     refine JDs.cons rfl ?_ ?_
     ·refine JO.s01 rfl rfl rfl (o_alloc rfl za3 al3) trivial fun b9 => ?_;exact JO.go (s516 b9) [1, 2, 3, 4, 0] ⟨rfl, rfl, rfl, trivial⟩
     exact trivial
    have s512 : ∀ (b9 : Nat), J 12 [false, false, false, false, false, false, false, false, false, true, false, false, false] [(4, Pt b6), (7, Pt b9)] [.obj b1 26 (.rep tChange a0), .raw z5.2 (.map #[] 0), .obj z5.1 98 (Qq q3 (.eq (.map (some z5.2)))), .obj b6 83 (.eq (.pointer (some ⟨z5.1, 0, none⟩))), .obj b9 3 (I (0 : Int))] := fun b9 => by
     subst hJ;refine JD.step [0, 2] (by kernel_rfl) rfl ?_;refine JDs.cons rfl ?_ ?_
     ·refine fr 3 ?_;refine lo sz83 ?_;exact JO.go (s513 b9) [1, 2, 3, 0, 4] ⟨rfl, rfl, rfl, trivial⟩
     refine JDs.cons rfl ?_ ?_
     ·refine fr 3 ?_;refine lo sz83 ?_;exact JO.go (s516 b9) [1, 2, 3, 0, 4] ⟨rfl, rfl, rfl, trivial⟩
     exact trivial
    have s0 : J 13 [false, false, false, false, false, false, false, false, false, false, false, false, false] [(4, Pt b6)] [.obj b6 83 (.eq (.pointer (some ⟨z5.1, 0, none⟩))), .obj z5.1 98 (Qq q3 (.eq (.map (some z5.2)))), .raw z5.2 (.map #[] 0), .obj b1 26 (.rep tChange a0)] := by
     subst hJ;refine JD.step [0, 2, 9] (by kernel_rfl) rfl ?_;refine JDs.cons rfl ?_ ?_
     ·refine lo sz83 ?_;exact JO.go s1 [3, 2, 1, 0] ⟨rfl, rfl, trivial⟩
     refine JDs.cons rfl ?_ ?_
     ·refine lo sz83 ?_;exact JO.go s4 [3, 2, 1, 0] ⟨rfl, rfl, trivial⟩
     refine JDs.cons rfl ?_ ?_
     ·refine JO.s01 rfl rfl rfl (o_alloc rfl za3 al3) trivial fun b9 => ?_;exact JO.go (s512 b9) [4, 3, 2, 1, 0] ⟨rfl, rfl, trivial⟩
     exact trivial
    exact s0
   rintro ⟨b7, b9⟩;show JN _ _ [(4, Pt b6), (7, Pt b9), (8, .eq (.bool r8.2.2))] [.obj b1 26 (.rep tChange a0), .inv z5.2 (Known k ((q3.1.1, q3.1.2.1, q3.1.2.2.1, q3.1.2.2.2), q3.2.1, q3.2.2)), .obj z5.1 98 (Qq q3 (.eq (.map (some z5.2)))), .obj b6 83 (.eq (.pointer (some ⟨z5.1, 0, none⟩))), .obj b7 83 (.eq (.pointer (some ⟨z5.1, 0, none⟩))), .obj b9 3 (I r8.2.1)];refine tn (JC.seq (sr (mq ?_)));refine ja (o_not rfl) ?_;refine nt (cw h (fun h => ?_) (fun h => ?_))
   ·refine sr (cq ?_);refine cq (nt (rx ?_));refine JN.se (SE.ent (t := (.slice (.int .i64))) (x := []) 2 rfl .nil rfl rfl) ?_;cases h;exact rb
   ·refine sk (JC.seq (JC.se (SE.fin (Γ' := [(4, Pt b6), (7, Pt b9)]) (Δ' := [.obj b1 26 (.rep tChange a0), .inv z5.2 (Known k ((q3.1.1, q3.1.2.1, q3.1.2.2.1, q3.1.2.2.2), q3.2.1, q3.2.2)), .obj z5.1 98 (Qq q3 (.eq (.map (some z5.2)))), .obj b6 83 (.eq (.pointer (some ⟨z5.1, 0, none⟩))), .obj b7 83 (.eq (.pointer (some ⟨z5.1, 0, none⟩))), .obj b9 3 (I r8.2.1)]) [0, 1, 2, 3, 4, 5] ⟨rfl, rfl, trivial⟩ rfl) ?_));refine JC.drawI (I := Nat × Nat × Nat × Nat) (Ge := fun i => [(4, Pt b6), (7, Pt b9), (9, .eq (.pointer (some ⟨i.2.2.1, 0, none⟩))), (10, .eq (.pointer (some ⟨i.2.2.2, 0, none⟩)))]) (De := fun i => [.obj b1 26 (.rep tChange a0), .inv z5.2 (Known k ((q3.1.1, q3.1.2.1, q3.1.2.2.1, q3.1.2.2.2), q3.2.1, q3.2.2)), .obj z5.1 98 (Qq q3 (.eq (.map (some z5.2)))), .obj b6 83 (.eq (.pointer (some ⟨z5.1, 0, none⟩))), .obj b7 83 (.eq (.pointer (some ⟨z5.1, 0, none⟩))), .obj b9 3 (I r8.2.1), .raw i.1 (.chan 0 #[] false 0 0 false), .raw i.2.1 (.chan 0 #[] false 0 0 false), .obj i.2.2.1 92 (.eq (.chan (some i.1))), .obj i.2.2.2 92 (.eq (.chan (some i.2.1)))]) (L := [true, true, true, true, true, true]) mixed rfl (fun J hJ hE => ?_) (by kernel_rfl) ?_
    ·have s31 : ∀ (z10 z11 b12 b13 : Nat), J 1 [true, true, true, true, true, false] [(4, Pt b6), (7, Pt b9), (9, Pt b12), (10, Pt b13), (34, .eq (.chan (some z11)))] [.obj b1 26 (.rep tChange a0), .inv z5.2 (Known k ((q3.1.1, q3.1.2.1, q3.1.2.2.1, q3.1.2.2.2), q3.2.1, q3.2.2)), .obj z5.1 98 (Qq q3 (.eq (.map (some z5.2)))), .obj b6 83 (.eq (.pointer (some ⟨z5.1, 0, none⟩))), .obj b7 83 (.eq (.pointer (some ⟨z5.1, 0, none⟩))), .obj b9 3 (I r8.2.1), .raw z10 (.chan 0 #[] false 0 0 false), .raw z11 (.chan 0 #[] false 0 0 false), .obj b12 92 (.eq (.chan (some z10))), .obj b13 92 (.eq (.chan none))] := fun z10 z11 b12 b13 => by
      subst hJ;refine JD.step [5] (by kernel_rfl) rfl ?_;refine JDs.cons rfl ?_ ?_
      ·refine fr 9 ?_;refine JO.n11 rfl rfl (o_store rfl sz92 rfl rfl rfl) ⟨rfl, rfl, trivial⟩ ?_;exact JO.go (hE ⟨z10, z11, b12, b13⟩) [1, 2, 3, 4, 5, 6, 7, 8, 9, 0] ⟨rfl, rfl, rfl, rfl, trivial⟩
      exact trivial
     have s15 : ∀ (z10 z11 b12 b13 : Nat), J 2 [true, true, true, true, false, false] [(4, Pt b6), (7, Pt b9), (9, Pt b12), (10, Pt b13), (33, .eq (.chan (some z10))), (34, .eq (.chan (some z11)))] [.obj b1 26 (.rep tChange a0), .inv z5.2 (Known k ((q3.1.1, q3.1.2.1, q3.1.2.2.1, q3.1.2.2.2), q3.2.1, q3.2.2)), .obj z5.1 98 (Qq q3 (.eq (.map (some z5.2)))), .obj b6 83 (.eq (.pointer (some ⟨z5.1, 0, none⟩))), .obj b7 83 (.eq (.pointer (some ⟨z5.1, 0, none⟩))), .obj b9 3 (I r8.2.1), .raw z10 (.chan 0 #[] false 0 0 false), .raw z11 (.chan 0 #[] false 0 0 false), .obj b12 92 (.eq (.chan none)), .obj b13 92 (.eq (.chan none))] := fun z10 z11 b12 b13 => by
      subst hJ;refine JD.step [4] (by kernel_rfl) rfl ?_;refine JDs.cons rfl ?_ ?_
      ·refine fr 8 ?_;refine JO.n11 rfl rfl (o_store rfl sz92 rfl rfl rfl) ⟨rfl, rfl, trivial⟩ ?_;exact JO.go (s31 z10 z11 b12 b13) [1, 2, 3, 4, 5, 6, 7, 8, 0, 9] ⟨rfl, rfl, rfl, rfl, rfl, trivial⟩
      exact trivial
     have s29 : ∀ (z10 b12 b13 : Nat), J 2 [true, false, true, true, true, false] [(4, Pt b6), (7, Pt b9), (9, Pt b12), (10, Pt b13)] [.obj b1 26 (.rep tChange a0), .inv z5.2 (Known k ((q3.1.1, q3.1.2.1, q3.1.2.2.1, q3.1.2.2.2), q3.2.1, q3.2.2)), .obj z5.1 98 (Qq q3 (.eq (.map (some z5.2)))), .obj b6 83 (.eq (.pointer (some ⟨z5.1, 0, none⟩))), .obj b7 83 (.eq (.pointer (some ⟨z5.1, 0, none⟩))), .obj b9 3 (I r8.2.1), .raw z10 (.chan 0 #[] false 0 0 false), .obj b12 92 (.eq (.chan (some z10))), .obj b13 92 (.eq (.chan none))] := fun z10 b12 b13 => by
      subst hJ;refine JD.step [1] (by kernel_rfl) rfl ?_;refine JDs.cons rfl ?_ ?_
      ·refine JO.s01 rfl rfl rfl (o_makeChan rfl mc92) trivial fun z11 => ?_;exact JO.go (s31 z10 z11 b12 b13) [1, 2, 3, 4, 5, 6, 7, 0, 8, 9] ⟨rfl, rfl, rfl, rfl, rfl, trivial⟩
      exact trivial
     have s7 : ∀ (z10 z11 b12 : Nat), J 3 [true, true, true, false, false, false] [(4, Pt b6), (7, Pt b9), (9, Pt b12), (33, .eq (.chan (some z10))), (34, .eq (.chan (some z11)))] [.obj b1 26 (.rep tChange a0), .inv z5.2 (Known k ((q3.1.1, q3.1.2.1, q3.1.2.2.1, q3.1.2.2.2), q3.2.1, q3.2.2)), .obj z5.1 98 (Qq q3 (.eq (.map (some z5.2)))), .obj b6 83 (.eq (.pointer (some ⟨z5.1, 0, none⟩))), .obj b7 83 (.eq (.pointer (some ⟨z5.1, 0, none⟩))), .obj b9 3 (I r8.2.1), .raw z10 (.chan 0 #[] false 0 0 false), .raw z11 (.chan 0 #[] false 0 0 false), .obj b12 92 (.eq (.chan none))] := fun z10 z11 b12 => by
      subst hJ;refine JD.step [3] (by kernel_rfl) rfl ?_;refine JDs.cons rfl ?_ ?_
      ·refine JO.s01 rfl rfl rfl (o_alloc rfl za92 al92) trivial fun b13 => ?_;exact JO.go (s15 z10 z11 b12 b13) [1, 2, 3, 4, 5, 6, 7, 8, 9, 0] ⟨rfl, rfl, rfl, rfl, rfl, rfl, trivial⟩
      exact trivial
     have s11 : ∀ (z10 z11 b13 : Nat), J 3 [true, true, false, true, false, false] [(4, Pt b6), (7, Pt b9), (10, Pt b13), (33, .eq (.chan (some z10))), (34, .eq (.chan (some z11)))] [.obj b1 26 (.rep tChange a0), .inv z5.2 (Known k ((q3.1.1, q3.1.2.1, q3.1.2.2.1, q3.1.2.2.2), q3.2.1, q3.2.2)), .obj z5.1 98 (Qq q3 (.eq (.map (some z5.2)))), .obj b6 83 (.eq (.pointer (some ⟨z5.1, 0, none⟩))), .obj b7 83 (.eq (.pointer (some ⟨z5.1, 0, none⟩))), .obj b9 3 (I r8.2.1), .raw z10 (.chan 0 #[] false 0 0 false), .raw z11 (.chan 0 #[] false 0 0 false), .obj b13 92 (.eq (.chan none))] := fun z10 z11 b13 => by
      subst hJ;refine JD.step [2] (by kernel_rfl) rfl ?_;refine JDs.cons rfl ?_ ?_
      ·refine JO.s01 rfl rfl rfl (o_alloc rfl za92 al92) trivial fun b12 => ?_;exact JO.go (s15 z10 z11 b12 b13) [1, 2, 3, 4, 5, 6, 7, 8, 0, 9] ⟨rfl, rfl, rfl, rfl, rfl, rfl, trivial⟩
      exact trivial
     have s13 : ∀ (z10 b12 b13 : Nat), J 3 [true, false, true, true, false, false] [(4, Pt b6), (7, Pt b9), (9, Pt b12), (10, Pt b13), (33, .eq (.chan (some z10)))] [.obj b1 26 (.rep tChange a0), .inv z5.2 (Known k ((q3.1.1, q3.1.2.1, q3.1.2.2.1, q3.1.2.2.2), q3.2.1, q3.2.2)), .obj z5.1 98 (Qq q3 (.eq (.map (some z5.2)))), .obj b6 83 (.eq (.pointer (some ⟨z5.1, 0, none⟩))), .obj b7 83 (.eq (.pointer (some ⟨z5.1, 0, none⟩))), .obj b9 3 (I r8.2.1), .raw z10 (.chan 0 #[] false 0 0 false), .obj b12 92 (.eq (.chan none)), .obj b13 92 (.eq (.chan none))] := fun z10 b12 b13 => by
      subst hJ;refine JD.step [1, 4] (by kernel_rfl) rfl ?_;refine JDs.cons rfl ?_ ?_
      ·refine JO.s01 rfl rfl rfl (o_makeChan rfl mc92) trivial fun z11 => ?_;exact JO.go (s15 z10 z11 b12 b13) [1, 2, 3, 4, 5, 6, 7, 0, 8, 9] ⟨rfl, rfl, rfl, rfl, rfl, rfl, trivial⟩
      refine JDs.cons rfl ?_ ?_
      ·refine fr 7 ?_;refine JO.n11 rfl rfl (o_store rfl sz92 rfl rfl rfl) ⟨rfl, rfl, trivial⟩ ?_;exact JO.go (s29 z10 b12 b13) [1, 2, 3, 4, 5, 6, 7, 0, 8] ⟨rfl, rfl, rfl, rfl, trivial⟩
      exact trivial
     have s14 : ∀ (z11 b12 b13 : Nat), J 3 [false, true, true, true, false, false] [(4, Pt b6), (7, Pt b9), (9, Pt b12), (10, Pt b13), (34, .eq (.chan (some z11)))] [.obj b1 26 (.rep tChange a0), .inv z5.2 (Known k ((q3.1.1, q3.1.2.1, q3.1.2.2.1, q3.1.2.2.2), q3.2.1, q3.2.2)), .obj z5.1 98 (Qq q3 (.eq (.map (some z5.2)))), .obj b6 83 (.eq (.pointer (some ⟨z5.1, 0, none⟩))), .obj b7 83 (.eq (.pointer (some ⟨z5.1, 0, none⟩))), .obj b9 3 (I r8.2.1), .raw z11 (.chan 0 #[] false 0 0 false), .obj b12 92 (.eq (.chan none)), .obj b13 92 (.eq (.chan none))] := fun z11 b12 b13 => by
      subst hJ;refine JD.step [0] (by kernel_rfl) rfl ?_;refine JDs.cons rfl ?_ ?_
      ·refine JO.s01 rfl rfl rfl (o_makeChan rfl mc92) trivial fun z10 => ?_;exact JO.go (s15 z10 z11 b12 b13) [1, 2, 3, 4, 5, 6, 0, 7, 8, 9] ⟨rfl, rfl, rfl, rfl, rfl, rfl, trivial⟩
      exact trivial
     have s3 : ∀ (z10 z11 : Nat), J 4 [true, true, false, false, false, false] [(4, Pt b6), (7, Pt b9), (33, .eq (.chan (some z10))), (34, .eq (.chan (some z11)))] [.obj b1 26 (.rep tChange a0), .inv z5.2 (Known k ((q3.1.1, q3.1.2.1, q3.1.2.2.1, q3.1.2.2.2), q3.2.1, q3.2.2)), .obj z5.1 98 (Qq q3 (.eq (.map (some z5.2)))), .obj b6 83 (.eq (.pointer (some ⟨z5.1, 0, none⟩))), .obj b7 83 (.eq (.pointer (some ⟨z5.1, 0, none⟩))), .obj b9 3 (I r8.2.1), .raw z10 (.chan 0 #[] false 0 0 false), .raw z11 (.chan 0 #[] false 0 0 false)] := fun z10 z11 => by
      subst hJ;refine JD.step [2, 3] (by kernel_rfl) rfl ?_;refine JDs.cons rfl ?_ ?_
      ·refine JO.s01 rfl rfl rfl (o_alloc rfl za92 al92) trivial fun b12 => ?_;exact JO.go (s7 z10 z11 b12) [1, 2, 3, 4, 5, 6, 7, 8, 0] ⟨rfl, rfl, rfl, rfl, rfl, trivial⟩
      refine JDs.cons rfl ?_ ?_
      ·refine JO.s01 rfl rfl rfl (o_alloc rfl za92 al92) trivial fun b13 => ?_;exact JO.go (s11 z10 z11 b13) [1, 2, 3, 4, 5, 6, 7, 8, 0] ⟨rfl, rfl, rfl, rfl, rfl, trivial⟩
      exact trivial
     have s5 : ∀ (z10 b12 : Nat), J 4 [true, false, true, false, false, false] [(4, Pt b6), (7, Pt b9), (9, Pt b12), (33, .eq (.chan (some z10)))] [.obj b1 26 (.rep tChange a0), .inv z5.2 (Known k ((q3.1.1, q3.1.2.1, q3.1.2.2.1, q3.1.2.2.2), q3.2.1, q3.2.2)), .obj z5.1 98 (Qq q3 (.eq (.map (some z5.2)))), .obj b6 83 (.eq (.pointer (some ⟨z5.1, 0, none⟩))), .obj b7 83 (.eq (.pointer (some ⟨z5.1, 0, none⟩))), .obj b9 3 (I r8.2.1), .raw z10 (.chan 0 #[] false 0 0 false), .obj b12 92 (.eq (.chan none))] := fun z10 b12 => by
      subst hJ;refine JD.step [1, 3] (by kernel_rfl) rfl ?_;refine JDs.cons rfl ?_ ?_
      ·refine JO.s01 rfl rfl rfl (o_makeChan rfl mc92) trivial fun z11 => ?_;exact JO.go (s7 z10 z11 b12) [1, 2, 3, 4, 5, 6, 7, 0, 8] ⟨rfl, rfl, rfl, rfl, rfl, trivial⟩
      refine JDs.cons rfl ?_ ?_
      ·refine JO.s01 rfl rfl rfl (o_alloc rfl za92 al92) trivial fun b13 => ?_;exact JO.go (s13 z10 b12 b13) [1, 2, 3, 4, 5, 6, 7, 8, 0] ⟨rfl, rfl, rfl, rfl, rfl, trivial⟩
      exact trivial
     have s9 : ∀ (z10 b13 : Nat), J 4 [true, false, false, true, false, false] [(4, Pt b6), (7, Pt b9), (10, Pt b13), (33, .eq (.chan (some z10)))] [.obj b1 26 (.rep tChange a0), .inv z5.2 (Known k ((q3.1.1, q3.1.2.1, q3.1.2.2.1, q3.1.2.2.2), q3.2.1, q3.2.2)), .obj z5.1 98 (Qq q3 (.eq (.map (some z5.2)))), .obj b6 83 (.eq (.pointer (some ⟨z5.1, 0, none⟩))), .obj b7 83 (.eq (.pointer (some ⟨z5.1, 0, none⟩))), .obj b9 3 (I r8.2.1), .raw z10 (.chan 0 #[] false 0 0 false), .obj b13 92 (.eq (.chan none))] := fun z10 b13 => by
      subst hJ;refine JD.step [1, 2] (by kernel_rfl) rfl ?_;refine JDs.cons rfl ?_ ?_
      ·refine JO.s01 rfl rfl rfl (o_makeChan rfl mc92) trivial fun z11 => ?_;exact JO.go (s11 z10 z11 b13) [1, 2, 3, 4, 5, 6, 7, 0, 8] ⟨rfl, rfl, rfl, rfl, rfl, trivial⟩
      refine JDs.cons rfl ?_ ?_
      ·refine JO.s01 rfl rfl rfl (o_alloc rfl za92 al92) trivial fun b12 => ?_;exact JO.go (s13 z10 b12 b13) [1, 2, 3, 4, 5, 6, 7, 0, 8] ⟨rfl, rfl, rfl, rfl, rfl, trivial⟩
      exact trivial
     have s6 : ∀ (z11 b12 : Nat), J 4 [false, true, true, false, false, false] [(4, Pt b6), (7, Pt b9), (9, Pt b12), (34, .eq (.chan (some z11)))] [.obj b1 26 (.rep tChange a0), .inv z5.2 (Known k ((q3.1.1, q3.1.2.1, q3.1.2.2.1, q3.1.2.2.2), q3.2.1, q3.2.2)), .obj z5.1 98 (Qq q3 (.eq (.map (some z5.2)))), .obj b6 83 (.eq (.pointer (some ⟨z5.1, 0, none⟩))), .obj b7 83 (.eq (.pointer (some ⟨z5.1, 0, none⟩))), .obj b9 3 (I r8.2.1), .raw z11 (.chan 0 #[] false 0 0 false), .obj b12 92 (.eq (.chan none))] := fun z11 b12 => by
      subst hJ;refine JD.step [0, 3] (by kernel_rfl) rfl ?_;refine JDs.cons rfl ?_ ?_
      ·refine JO.s01 rfl rfl rfl (o_makeChan rfl mc92) trivial fun z10 => ?_;exact JO.go (s7 z10 z11 b12) [1, 2, 3, 4, 5, 6, 0, 7, 8] ⟨rfl, rfl, rfl, rfl, rfl, trivial⟩
      refine JDs.cons rfl ?_ ?_
      ·refine JO.s01 rfl rfl rfl (o_alloc rfl za92 al92) trivial fun b13 => ?_;exact JO.go (s14 z11 b12 b13) [1, 2, 3, 4, 5, 6, 7, 8, 0] ⟨rfl, rfl, rfl, rfl, rfl, trivial⟩
      exact trivial
     have s10 : ∀ (z11 b13 : Nat), J 4 [false, true, false, true, false, false] [(4, Pt b6), (7, Pt b9), (10, Pt b13), (34, .eq (.chan (some z11)))] [.obj b1 26 (.rep tChange a0), .inv z5.2 (Known k ((q3.1.1, q3.1.2.1, q3.1.2.2.1, q3.1.2.2.2), q3.2.1, q3.2.2)), .obj z5.1 98 (Qq q3 (.eq (.map (some z5.2)))), .obj b6 83 (.eq (.pointer (some ⟨z5.1, 0, none⟩))), .obj b7 83 (.eq (.pointer (some ⟨z5.1, 0, none⟩))), .obj b9 3 (I r8.2.1), .raw z11 (.chan 0 #[] false 0 0 false), .obj b13 92 (.eq (.chan none))] := fun z11 b13 => by
      subst hJ;refine JD.step [0, 2] (by kernel_rfl) rfl ?_;refine JDs.cons rfl ?_ ?_
      ·refine JO.s01 rfl rfl rfl (o_makeChan rfl mc92) trivial fun z10 => ?_;exact JO.go (s11 z10 z11 b13) [1, 2, 3, 4, 5, 6, 0, 7, 8] ⟨rfl, rfl, rfl, rfl, rfl, trivial⟩
      refine JDs.cons rfl ?_ ?_
      ·refine JO.s01 rfl rfl rfl (o_alloc rfl za92 al92) trivial fun b12 => ?_;exact JO.go (s14 z11 b12 b13) [1, 2, 3, 4, 5, 6, 7, 0, 8] ⟨rfl, rfl, rfl, rfl, rfl, trivial⟩
      exact trivial
     have s12 : ∀ (b12 b13 : Nat), J 4 [false, false, true, true, false, false] [(4, Pt b6), (7, Pt b9), (9, Pt b12), (10, Pt b13)] [.obj b1 26 (.rep tChange a0), .inv z5.2 (Known k ((q3.1.1, q3.1.2.1, q3.1.2.2.1, q3.1.2.2.2), q3.2.1, q3.2.2)), .obj z5.1 98 (Qq q3 (.eq (.map (some z5.2)))), .obj b6 83 (.eq (.pointer (some ⟨z5.1, 0, none⟩))), .obj b7 83 (.eq (.pointer (some ⟨z5.1, 0, none⟩))), .obj b9 3 (I r8.2.1), .obj b12 92 (.eq (.chan none)), .obj b13 92 (.eq (.chan none))] := fun b12 b13 => by
      subst hJ;refine JD.step [0, 1] (by kernel_rfl) rfl ?_;refine JDs.cons rfl ?_ ?_
      ·refine JO.s01 rfl rfl rfl (o_makeChan rfl mc92) trivial fun z10 => ?_;exact JO.go (s13 z10 b12 b13) [1, 2, 3, 4, 5, 6, 0, 7, 8] ⟨rfl, rfl, rfl, rfl, rfl, trivial⟩
      refine JDs.cons rfl ?_ ?_
      ·refine JO.s01 rfl rfl rfl (o_makeChan rfl mc92) trivial fun z11 => ?_;exact JO.go (s14 z11 b12 b13) [1, 2, 3, 4, 5, 6, 0, 7, 8] ⟨rfl, rfl, rfl, rfl, rfl, trivial⟩
      exact trivial
     have s1 : ∀ (z10 : Nat), J 5 [true, false, false, false, false, false] [(4, Pt b6), (7, Pt b9), (33, .eq (.chan (some z10)))] [.obj b1 26 (.rep tChange a0), .inv z5.2 (Known k ((q3.1.1, q3.1.2.1, q3.1.2.2.1, q3.1.2.2.2), q3.2.1, q3.2.2)), .obj z5.1 98 (Qq q3 (.eq (.map (some z5.2)))), .obj b6 83 (.eq (.pointer (some ⟨z5.1, 0, none⟩))), .obj b7 83 (.eq (.pointer (some ⟨z5.1, 0, none⟩))), .obj b9 3 (I r8.2.1), .raw z10 (.chan 0 #[] false 0 0 false)] := fun z10 => by
      subst hJ;refine JD.step [1, 2, 3] (by kernel_rfl) rfl ?_;refine JDs.cons rfl ?_ ?_
      ·refine JO.s01 rfl rfl rfl (o_makeChan rfl mc92) trivial fun z11 => ?_;exact JO.go (s3 z10 z11) [1, 2, 3, 4, 5, 6, 7, 0] ⟨rfl, rfl, rfl, rfl, trivial⟩
      refine JDs.cons rfl ?_ ?_
      ·refine JO.s01 rfl rfl rfl (o_alloc rfl za92 al92) trivial fun b12 => ?_;exact JO.go (s5 z10 b12) [1, 2, 3, 4, 5, 6, 7, 0] ⟨rfl, rfl, rfl, rfl, trivial⟩
      refine JDs.cons rfl ?_ ?_
      ·refine JO.s01 rfl rfl rfl (o_alloc rfl za92 al92) trivial fun b13 => ?_;exact JO.go (s9 z10 b13) [1, 2, 3, 4, 5, 6, 7, 0] ⟨rfl, rfl, rfl, rfl, trivial⟩
      exact trivial
     have s2 : ∀ (z11 : Nat), J 5 [false, true, false, false, false, false] [(4, Pt b6), (7, Pt b9), (34, .eq (.chan (some z11)))] [.obj b1 26 (.rep tChange a0), .inv z5.2 (Known k ((q3.1.1, q3.1.2.1, q3.1.2.2.1, q3.1.2.2.2), q3.2.1, q3.2.2)), .obj z5.1 98 (Qq q3 (.eq (.map (some z5.2)))), .obj b6 83 (.eq (.pointer (some ⟨z5.1, 0, none⟩))), .obj b7 83 (.eq (.pointer (some ⟨z5.1, 0, none⟩))), .obj b9 3 (I r8.2.1), .raw z11 (.chan 0 #[] false 0 0 false)] := fun z11 => by
      subst hJ;refine JD.step [0, 2, 3] (by kernel_rfl) rfl ?_;refine JDs.cons rfl ?_ ?_
      ·refine JO.s01 rfl rfl rfl (o_makeChan rfl mc92) trivial fun z10 => ?_;exact JO.go (s3 z10 z11) [1, 2, 3, 4, 5, 6, 0, 7] ⟨rfl, rfl, rfl, rfl, trivial⟩
      refine JDs.cons rfl ?_ ?_
      ·refine JO.s01 rfl rfl rfl (o_alloc rfl za92 al92) trivial fun b12 => ?_;exact JO.go (s6 z11 b12) [1, 2, 3, 4, 5, 6, 7, 0] ⟨rfl, rfl, rfl, rfl, trivial⟩
      refine JDs.cons rfl ?_ ?_
      ·refine JO.s01 rfl rfl rfl (o_alloc rfl za92 al92) trivial fun b13 => ?_;exact JO.go (s10 z11 b13) [1, 2, 3, 4, 5, 6, 7, 0] ⟨rfl, rfl, rfl, rfl, trivial⟩
      exact trivial
     have s4 : ∀ (b12 : Nat), J 5 [false, false, true, false, false, false] [(4, Pt b6), (7, Pt b9), (9, Pt b12)] [.obj b1 26 (.rep tChange a0), .inv z5.2 (Known k ((q3.1.1, q3.1.2.1, q3.1.2.2.1, q3.1.2.2.2), q3.2.1, q3.2.2)), .obj z5.1 98 (Qq q3 (.eq (.map (some z5.2)))), .obj b6 83 (.eq (.pointer (some ⟨z5.1, 0, none⟩))), .obj b7 83 (.eq (.pointer (some ⟨z5.1, 0, none⟩))), .obj b9 3 (I r8.2.1), .obj b12 92 (.eq (.chan none))] := fun b12 => by
      subst hJ;refine JD.step [0, 1, 3] (by kernel_rfl) rfl ?_;refine JDs.cons rfl ?_ ?_
      ·refine JO.s01 rfl rfl rfl (o_makeChan rfl mc92) trivial fun z10 => ?_;exact JO.go (s5 z10 b12) [1, 2, 3, 4, 5, 6, 0, 7] ⟨rfl, rfl, rfl, rfl, trivial⟩
      refine JDs.cons rfl ?_ ?_
      ·refine JO.s01 rfl rfl rfl (o_makeChan rfl mc92) trivial fun z11 => ?_;exact JO.go (s6 z11 b12) [1, 2, 3, 4, 5, 6, 0, 7] ⟨rfl, rfl, rfl, rfl, trivial⟩
      refine JDs.cons rfl ?_ ?_
      ·refine JO.s01 rfl rfl rfl (o_alloc rfl za92 al92) trivial fun b13 => ?_;exact JO.go (s12 b12 b13) [1, 2, 3, 4, 5, 6, 7, 0] ⟨rfl, rfl, rfl, rfl, trivial⟩
      exact trivial
     have s8 : ∀ (b13 : Nat), J 5 [false, false, false, true, false, false] [(4, Pt b6), (7, Pt b9), (10, Pt b13)] [.obj b1 26 (.rep tChange a0), .inv z5.2 (Known k ((q3.1.1, q3.1.2.1, q3.1.2.2.1, q3.1.2.2.2), q3.2.1, q3.2.2)), .obj z5.1 98 (Qq q3 (.eq (.map (some z5.2)))), .obj b6 83 (.eq (.pointer (some ⟨z5.1, 0, none⟩))), .obj b7 83 (.eq (.pointer (some ⟨z5.1, 0, none⟩))), .obj b9 3 (I r8.2.1), .obj b13 92 (.eq (.chan none))] := fun b13 => by
      subst hJ;refine JD.step [0, 1, 2] (by kernel_rfl) rfl ?_;refine JDs.cons rfl ?_ ?_
      ·refine JO.s01 rfl rfl rfl (o_makeChan rfl mc92) trivial fun z10 => ?_;exact JO.go (s9 z10 b13) [1, 2, 3, 4, 5, 6, 0, 7] ⟨rfl, rfl, rfl, rfl, trivial⟩
      refine JDs.cons rfl ?_ ?_
      ·refine JO.s01 rfl rfl rfl (o_makeChan rfl mc92) trivial fun z11 => ?_;exact JO.go (s10 z11 b13) [1, 2, 3, 4, 5, 6, 0, 7] ⟨rfl, rfl, rfl, rfl, trivial⟩
      refine JDs.cons rfl ?_ ?_
      ·refine JO.s01 rfl rfl rfl (o_alloc rfl za92 al92) trivial fun b12 => ?_;exact JO.go (s12 b12 b13) [1, 2, 3, 4, 5, 6, 0, 7] ⟨rfl, rfl, rfl, rfl, trivial⟩
      exact trivial
     have s0 : J 6 [false, false, false, false, false, false] [(4, Pt b6), (7, Pt b9)] [.obj b1 26 (.rep tChange a0), .inv z5.2 (Known k ((q3.1.1, q3.1.2.1, q3.1.2.2.1, q3.1.2.2.2), q3.2.1, q3.2.2)), .obj z5.1 98 (Qq q3 (.eq (.map (some z5.2)))), .obj b6 83 (.eq (.pointer (some ⟨z5.1, 0, none⟩))), .obj b7 83 (.eq (.pointer (some ⟨z5.1, 0, none⟩))), .obj b9 3 (I r8.2.1)] := by
      subst hJ;refine JD.step [0, 1, 2, 3] (by kernel_rfl) rfl ?_;refine JDs.cons rfl ?_ ?_
      ·refine JO.s01 rfl rfl rfl (o_makeChan rfl mc92) trivial fun z10 => ?_;exact JO.go (s1 z10) [1, 2, 3, 4, 5, 6, 0] ⟨rfl, rfl, rfl, trivial⟩
      refine JDs.cons rfl ?_ ?_
      ·refine JO.s01 rfl rfl rfl (o_makeChan rfl mc92) trivial fun z11 => ?_;exact JO.go (s2 z11) [1, 2, 3, 4, 5, 6, 0] ⟨rfl, rfl, rfl, trivial⟩
      refine JDs.cons rfl ?_ ?_
      ·refine JO.s01 rfl rfl rfl (o_alloc rfl za92 al92) trivial fun b12 => ?_;exact JO.go (s4 b12) [1, 2, 3, 4, 5, 6, 0] ⟨rfl, rfl, rfl, trivial⟩
      refine JDs.cons rfl ?_ ?_
      ·refine JO.s01 rfl rfl rfl (o_alloc rfl za92 al92) trivial fun b13 => ?_;exact JO.go (s8 b13) [1, 2, 3, 4, 5, 6, 0] ⟨rfl, rfl, rfl, trivial⟩
      exact trivial
     exact s0
    rintro ⟨z10, z11, b12, b13⟩;show JN _ _ [(4, Pt b6), (7, Pt b9), (9, Pt b12), (10, Pt b13)] [.obj b1 26 (.rep tChange a0), .inv z5.2 (Known k ((q3.1.1, q3.1.2.1, q3.1.2.2.1, q3.1.2.2.2), q3.2.1, q3.2.2)), .obj z5.1 98 (Qq q3 (.eq (.map (some z5.2)))), .obj b6 83 (.eq (.pointer (some ⟨z5.1, 0, none⟩))), .obj b7 83 (.eq (.pointer (some ⟨z5.1, 0, none⟩))), .obj b9 3 (I r8.2.1), .raw z10 (.chan 0 #[] false 0 0 false), .raw z11 (.chan 0 #[] false 0 0 false), .obj b12 92 (.eq (.chan (some z10))), .obj b13 92 (.eq (.chan (some z11)))];refine tn (JC.front 3 rfl ?_);refine JC.front 3 rfl ?_;refine JC.se (SE.frzBox (t := tquick) (x := ((q3.1.1, q3.1.2.1, q3.1.2.2.1, q3.1.2.2.2), q3.2.1, q3.2.2, ())) [] (.agg (.pair (.agg (.pair .rep (.pair .rep (.pair .rep .rep)))) (.pair .rep (.pair .rep (.ign rfl))))) trivial) ?_;refine JC.se (SE.frzObj (t := .ptr tquick) (x := ((q3.1.1, q3.1.2.1, q3.1.2.2.1, q3.1.2.2.2), q3.2.1, q3.2.2, ())) [4] .ptr ⟨rfl, trivial⟩) ?_;refine JC.front 3 rfl ?_;refine JC.se (SE.frzObj (t := .int .i64) (x := r8.2.1) [7] .int ⟨rfl, trivial⟩) ?_;refine JC.front 5 rfl ?_;refine JC.se (SE.frzObj (t := .val) (x := .chan (some z10)) [9] (.val rfl) ⟨rfl, trivial⟩) ?_;refine JC.front 5 rfl ?_;refine JC.se (SE.frzObj (t := .val) (x := .chan (some z11)) [10] (.val rfl) ⟨rfl, trivial⟩) ?_;refine JC.se (SE.fin (Γ' := [(4, .at (.ptr tquick) ((q3.1.1, q3.1.2.1, q3.1.2.2.1, q3.1.2.2.2), q3.2.1, q3.2.2, ())), (7, .at (.int .i64) r8.2.1), (9, .at .val (.chan (some z10))), (10, .at .val (.chan (some z11)))]) (Δ' := [.raw z10 chZ, .raw z11 chZ]) [3, 4] ⟨rfl, rfl, rfl, rfl, trivial⟩ rfl) ?_;obtain ⟨rs, o, hN, hws, ho, h2, hp⟩ := nd_rest_some (nd_top h);refine nd_tail2 (q := ((q3.1.1, q3.1.2.1, q3.1.2.2.1, q3.1.2.2.2), q3.2.1, q3.2.2, ())) (now := r8.2.1) (rest := []) rfl hN hws ho ?_ (fun S v => ?_) (fun S v => ?_) (fun rc hrc => ?_)
    ·refine JC.region (ja (o_load_at (t := (.ptr tquick)) rfl sz83 rfl) ?_);refine ja (o_nil_at rfl) ?_;refine ja (o_field_at 4 true rfl fo98_0 rfl) ?_;refine ja (o_field_at 1 false rfl fo26_1 rfl) ?_;refine ja (o_load_at (t := (.slice tDresser)) rfl sz24 rfl) ?_;refine ol U24 ?_;refine JO.mc rfl ?_;refine JO.nil (JN.then_n ?_);exact SE.pf (junk := []) (by repeat (first | exact trivial | refine ⟨rfl, ?_⟩)) perm0
    ·refine JC.region (cq ?_);refine JO.nil (JN.then_n ?_);exact SE.pf (junk := []) (by repeat (first | exact trivial | refine ⟨rfl, ?_⟩)) perm0
    ·refine JC.region (ja (o_load_at (t := (.ptr tquick)) rfl sz83 rfl) ?_);refine ja (o_nil_at rfl) ?_;refine ja (o_field_at 4 true rfl fo98_0 rfl) ?_;refine ja (o_field_at 1 false rfl fo26_1 rfl) ?_;refine ja (o_load_at (t := (.slice tDresser)) rfl sz24 rfl) ?_;refine ol U24 ?_;refine JO.mc rfl ?_;refine JO.nil (JN.then_n ?_);exact SE.pf (junk := []) (by repeat (first | exact trivial | refine ⟨rfl, ?_⟩)) perm0
    ·refine JC.seq (JC.region ?_);refine mq ?_;refine ja (o_call [.tmp 67] rfl rfl en41 rfl (chg_set_list_ok k _ _ (hp rc hrc))) ?_;refine aq ?_;refine cq (nt (JC.ret ?_));rw [h2];exact rb

end Go.Proofs.Ytopgphikdglphaa
