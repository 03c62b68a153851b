/- Plain law: the tasks. -/
import Derived.Test.YtfhdclhbdmhnmaaLaw11
namespace Go.Proofs.Ytfhdclhbdmhnmaa
open K Go Go.Proofs

theorem tasks_l1_ok {k : Nat} (hk : 50 ≤ k) {q : dQuick} (hl : q.2.1.length ≤ 8) : chg_Tasks_l1 k q k ([], 0) = some (q.2.1.map fun x => (x.2, x.1)) := by
  have key : W (chg_Tasks_l1 k q k ([], 0)) fun r => r = q.2.1.map fun x => (x.2, x.1) := by
    refine W.loop (f := chg_Tasks_l1 k q) (fun m y => ∃ j : Nat, y.2 = (j : Int) ∧ j ≤ q.2.1.length ∧ m = q.2.1.length - j ∧ y.1 = (q.2.1.take j).map fun x => (x.2, x.1)) ?_ q.2.1.length k _ (by omega) ⟨0, rfl, by omega, by omega, by simp⟩
    rintro fuel m ⟨o, y⟩ ⟨j, hj, hle, hq, ho⟩ ih
    simp only at hj ho
    subst hj ho
    unfold chg_Tasks_l1
    dsimp only
    refine W.ite (fun hlt => ?_) (fun hge => W.ret (by have : j = q.2.1.length := by omega
                                                       subst this; rw [List.take_length]))
    have hlt' : j < q.2.1.length := by omega
    refine W.bindEB (geti_W hlt') ?_
    have hok : ∀ z : dTask, okLen (List.length ((q.2.1.take j).map fun x => (x.2, x.1)) + List.length [z]) := fun z => okLen_of (by simp only [List.length_map, List.length_take, List.length_cons, List.length_nil]; omega)
    have next : ∀ z : dTask, z = (q.2.1[j].2, q.2.1[j].1) → W ((some (((q.2.1.take j).map fun x => (x.2, x.1)) ++ [z]) : Option (List dTask)).bind fun x11 => (K.ck ((j : Int) + (1 : Int))).bind fun x20 => chg_Tasks_l1 k q fuel (x11, x20)) fun r => r = q.2.1.map fun x => (x.2, x.1) := by
      intro z hz
      refine W.sb (W.ck (by omega) (by omega) (ih (m - 1) (_, (j : Int) + 1) (by omega) ⟨j + 1, ?_, by omega, by omega, ?_⟩))
      · show (j : Int) + 1 = ((j + 1 : Nat) : Int)
        omega
      · show _ ++ [z] = _
        rw [hz, List.take_add_one, List.getElem?_eq_getElem hlt', List.map_append]
        rfl
    generalize hx : q.2.1[j] = x at next
    obtain ⟨b, v⟩ := x
    cases b with
    | false =>
      rw [if_pos (by simp)]
      exact W.bindEB (show chg_off_thing k v = some v from rfl) (W.chkB (hok _) (next _ rfl))
    | true =>
      rw [if_neg (by simp), if_pos rfl]
      exact W.bindEB (show chg_on_thing k v = some v from rfl) (W.chkB (hok _) (next _ rfl))
  obtain ⟨r, e, rfl⟩ := key
  exact e

theorem tasks_eq {k : Nat} (hk : 50 ≤ k) {n : Int} {c : dChange} {mv : List Bool} {q : dQuick} (hq : QV n c mv q) (hb : chg_begin k c = some (some q, 0)) : chg_Tasks k c = some ((tsC c mv).map fun x => (x.2, x.1), 0) := by
  unfold chg_Tasks
  rw [hb]
  simp only [bs, co_some, not_true_eq_false, if_false]
  rw [tasks_l1_ok hk (by rw [hq.tasks]; have := hq.t4; omega), hq.tasks, bs]

theorem sameTasks_self {k : Nat} {l : List dTask} (h : l.length < k) (hk : l.length ≤ 1000000) : kit_SameTasks k l l = some true := by
  unfold kit_SameTasks
  have key := for_all (f := kit_SameTasks_l1 k l l) 0 l.length (fun n j _ hj => by simp (disch := omega) only [kit_SameTasks_l1, Int.ofNat_lt, hj, if_true, geti_W hj, bs, not_true_eq_false, if_false, ck_ok]) (fun n j _ hj => by simp only [kit_SameTasks_l1]; rw [if_neg (by omega)]) k (by omega)
  rw [if_neg (by simp), show kit_SameTasks_l1 k l l k 0 = _ from key, bE_k]
end Go.Proofs.Ytfhdclhbdmhnmaa
