/- Printed by the kit and by programs of this work for the claim of aaRowFrameHead, without what the claim does not name. -/
import Derived.Test.YtnnnfnebobaiiaaLF
namespace Go.Proofs.Ytnnnfnebobaiiaa.L
theorem head_short (f : Fr) (m : List Bool) (i : Nat) (h : i < headL f.ext) : lenN ((headN f ++ m).take i) = (0, false) := by
  unfold lenN
  have hl : ((headN f ++ m).take i).length = min i ((headN f ++ m).length) := List.length_take
  have hz : hlenN ((headN f ++ m).take i) = 0 := by
    unfold hlenN
    have hle : ((headN f ++ m).take i).length ≤ i := by omega
    by_cases h14 : ((headN f ++ m).take i).length < 14
    · rw [if_pos h14]
    · rw [if_neg h14]
      have hk : ((headN f ++ m).take i).getD 13 false = f.ext := by
        rw [← head_kind f m, List.getD_eq_getElem?_getD, List.getD_eq_getElem?_getD, List.getElem?_take, if_pos (by omega)]
      rw [hk, if_pos (by omega)]
  rw [if_pos hz]
end Go.Proofs.Ytnnnfnebobaiiaa.L
