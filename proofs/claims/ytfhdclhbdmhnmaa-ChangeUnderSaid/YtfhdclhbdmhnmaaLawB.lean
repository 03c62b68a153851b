/- Plain law: the bars of a plan. -/
import Derived.Test.YtfhdclhbdmhnmaaLaw14
namespace Go.Proofs.Ytfhdclhbdmhnmaa
open K Go Go.Proofs

theorem Bars_eq {k : Nat} (hk : 50 ≤ k) {n : Int} {c : dChange} {mv : List Bool} {q : dQuick} (h : QV n c mv q) (hb : chg_begin k c = some (some q, 0)) {p : List dStep} (hp : p.length ≤ 30) :
    chg_Bars k c p = some (if cpS c (tsC c mv) p = 0 then (lenS c (tsC c mv) p, 0) else (0, cpS c (tsC c mv) p)) := by
  have hcq : (((q.1.1, q.1.2.1, q.1.2.2.1, q.1.2.2.2), q.2.1, q.2.2) : dQuick) = q := rfl
  unfold chg_Bars
  rw [asked_eq hk h hb (by omega), bs, co_some]
  by_cases h0 : cpS c (tsC c mv) p = 0
  · rw [if_neg (by simpa using h0), if_pos h0, hcq, length_eq hk h h0, bs]
  · rw [if_pos (by simpa using h0), if_neg h0]

end Go.Proofs.Ytfhdclhbdmhnmaa
