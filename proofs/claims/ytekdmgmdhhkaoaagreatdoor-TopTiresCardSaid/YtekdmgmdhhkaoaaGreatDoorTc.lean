/- EVERY INPUT: the call of tethertop.TopTires returns true and leaves what was there. Conditions: the two listed errors lie in the first two blocks; the arguments are in the ranges of their kinds. -/
import Derived.Test.YtekdmgmdhhkaoaaGreatDoorTb
import Derived.Test.YtekdmgmdhhkaoaaGreatDoorRm6
import Derived.Test.YtekdmgmdhhkaoaaGreatDoorRm5
import Derived.Test.YtekdmgmdhhkaoaaGreatDoorRm4
import Derived.Test.YtekdmgmdhhkaoaaGreatDoorRm3
import Derived.Test.YtekdmgmdhhkaoaaGreatDoorRm2
import Derived.Test.YtekdmgmdhhkaoaaGreatDoorRm1
import Derived.Test.YtekdmgmdhhkaoaaGreatDoorR0
import Derived.Test.YtekdmgmdhhkaoaaGreatDoorR1
import Derived.Test.YtekdmgmdhhkaoaaGreatDoorR2
import Derived.Test.YtekdmgmdhhkaoaaGreatDoorR3
import Derived.Test.YtekdmgmdhhkaoaaGreatDoorR4
import Derived.Test.YtekdmgmdhhkaoaaGreatDoorR5
import Derived.Test.YtekdmgmdhhkaoaaGreatDoorR6

namespace Go.Proofs.YtekdmgmdhhkaoaaGreatDoor.SE
open Go.Proofs

theorem tmod7 (a : Int) : -6 ≤ a.tmod 7 ∧ a.tmod 7 ≤ 6 := by
  rcases Int.le_total 0 a with h | h
  · rw [Int.tmod_eq_emod_of_nonneg h]; omega
  · have e : a.tmod 7 = -((-a).tmod 7) := by rw [Int.neg_tmod]; omega
    rw [e, Int.tmod_eq_emod_of_nonneg (by omega)]; omega
section
variable {W : World} {t0 t1 : TypeId} {a0 a1 : Addr}
  (h0 : W.heap[0]? = some (.cells #[.iface 598 (.pointer (some a0))] t0 (0, 0))) (s0 : a0.spot = none)
  (h1 : W.heap[1]? = some (.cells #[.iface 598 (.pointer (some a1))] t1 (0, 0))) (s1 : a1.spot = none)
  {a b c d : Int} (ha : -9223372036854775808 ≤ a ∧ a ≤ 9223372036854775807) (hb : -9223372036854775808 ≤ b ∧ b ≤ 9223372036854775807) (hc : -9223372036854775808 ≤ c ∧ c ≤ 9223372036854775807)
  (hd : 0 ≤ d ∧ d ≤ 18446744073709551615)
include h0 s0 h1 s1 ha hb hc hd
/-- EVERY INPUT -/
theorem law_any : Calls Tryz.prog 3 #[.int .i64 a, .int .i64 b, .int .i64 c, .int .u64 d] W fun e w' =>
    e = .returned (.bool true) ∧ w'.os = W.os ∧ w'.output = W.output ∧ W.heap.size ≤ w'.heap.size ∧ ∀ i, i < W.heap.size → w'.heap[i]? = W.heap[i]? := by
  obtain ⟨m1, m2⟩ := tmod7 a
  have l2 := holdOf_le c
  have hcl : holdOf c = 0 ∨ (1 ≤ holdOf c ∧ holdOf c ≤ 9) ∨ (10 ≤ holdOf c ∧ holdOf c ≤ 99) ∨ (100 ≤ holdOf c ∧ holdOf c ≤ 999) ∨ 1000 ≤ holdOf c := by omega
  have hm : a.tmod 7 = -6 ∨ a.tmod 7 = -5 ∨ a.tmod 7 = -4 ∨ a.tmod 7 = -3 ∨ a.tmod 7 = -2 ∨ a.tmod 7 = -1 ∨ a.tmod 7 = 0 ∨ a.tmod 7 = 1 ∨ a.tmod 7 = 2 ∨ a.tmod 7 = 3 ∨ a.tmod 7 = 4 ∨ a.tmod 7 = 5 ∨ a.tmod 7 = 6 := by omega
  rcases hm with hr | hr | hr | hr | hr | hr | hr | hr | hr | hr | hr | hr | hr <;> rcases hcl with h | h | h | h | h
  · exact top (ρ := rhoT a b c d) h0 s0 h1 s1 (ctx0_ok ha hb hc hd hr h) run0_m6
  · exact top (ρ := rhoT a b c d) h0 s0 h1 s1 (ctx1_ok ha hb hc hd hr h) run1_m6
  · exact top (ρ := rhoT a b c d) h0 s0 h1 s1 (ctx2_ok ha hb hc hd hr h) run2_m6
  · exact top (ρ := rhoT a b c d) h0 s0 h1 s1 (ctx3_ok ha hb hc hd hr h) run3_m6
  · exact top (ρ := rhoT a b c d) h0 s0 h1 s1 (ctx4_ok ha hb hc hd hr h) run4_m6
  · exact top (ρ := rhoT a b c d) h0 s0 h1 s1 (ctx0_ok ha hb hc hd hr h) run0_m5
  · exact top (ρ := rhoT a b c d) h0 s0 h1 s1 (ctx1_ok ha hb hc hd hr h) run1_m5
  · exact top (ρ := rhoT a b c d) h0 s0 h1 s1 (ctx2_ok ha hb hc hd hr h) run2_m5
  · exact top (ρ := rhoT a b c d) h0 s0 h1 s1 (ctx3_ok ha hb hc hd hr h) run3_m5
  · exact top (ρ := rhoT a b c d) h0 s0 h1 s1 (ctx4_ok ha hb hc hd hr h) run4_m5
  · exact top (ρ := rhoT a b c d) h0 s0 h1 s1 (ctx0_ok ha hb hc hd hr h) run0_m4
  · exact top (ρ := rhoT a b c d) h0 s0 h1 s1 (ctx1_ok ha hb hc hd hr h) run1_m4
  · exact top (ρ := rhoT a b c d) h0 s0 h1 s1 (ctx2_ok ha hb hc hd hr h) run2_m4
  · exact top (ρ := rhoT a b c d) h0 s0 h1 s1 (ctx3_ok ha hb hc hd hr h) run3_m4
  · exact top (ρ := rhoT a b c d) h0 s0 h1 s1 (ctx4_ok ha hb hc hd hr h) run4_m4
  · exact top (ρ := rhoT a b c d) h0 s0 h1 s1 (ctx0_ok ha hb hc hd hr h) run0_m3
  · exact top (ρ := rhoT a b c d) h0 s0 h1 s1 (ctx1_ok ha hb hc hd hr h) run1_m3
  · exact top (ρ := rhoT a b c d) h0 s0 h1 s1 (ctx2_ok ha hb hc hd hr h) run2_m3
  · exact top (ρ := rhoT a b c d) h0 s0 h1 s1 (ctx3_ok ha hb hc hd hr h) run3_m3
  · exact top (ρ := rhoT a b c d) h0 s0 h1 s1 (ctx4_ok ha hb hc hd hr h) run4_m3
  · exact top (ρ := rhoT a b c d) h0 s0 h1 s1 (ctx0_ok ha hb hc hd hr h) run0_m2
  · exact top (ρ := rhoT a b c d) h0 s0 h1 s1 (ctx1_ok ha hb hc hd hr h) run1_m2
  · exact top (ρ := rhoT a b c d) h0 s0 h1 s1 (ctx2_ok ha hb hc hd hr h) run2_m2
  · exact top (ρ := rhoT a b c d) h0 s0 h1 s1 (ctx3_ok ha hb hc hd hr h) run3_m2
  · exact top (ρ := rhoT a b c d) h0 s0 h1 s1 (ctx4_ok ha hb hc hd hr h) run4_m2
  · exact top (ρ := rhoT a b c d) h0 s0 h1 s1 (ctx0_ok ha hb hc hd hr h) run0_m1
  · exact top (ρ := rhoT a b c d) h0 s0 h1 s1 (ctx1_ok ha hb hc hd hr h) run1_m1
  · exact top (ρ := rhoT a b c d) h0 s0 h1 s1 (ctx2_ok ha hb hc hd hr h) run2_m1
  · exact top (ρ := rhoT a b c d) h0 s0 h1 s1 (ctx3_ok ha hb hc hd hr h) run3_m1
  · exact top (ρ := rhoT a b c d) h0 s0 h1 s1 (ctx4_ok ha hb hc hd hr h) run4_m1
  · exact top (ρ := rhoT a b c d) h0 s0 h1 s1 (ctx0_ok ha hb hc hd hr h) run0_0
  · exact top (ρ := rhoT a b c d) h0 s0 h1 s1 (ctx1_ok ha hb hc hd hr h) run1_0
  · exact top (ρ := rhoT a b c d) h0 s0 h1 s1 (ctx2_ok ha hb hc hd hr h) run2_0
  · exact top (ρ := rhoT a b c d) h0 s0 h1 s1 (ctx3_ok ha hb hc hd hr h) run3_0
  · exact top (ρ := rhoT a b c d) h0 s0 h1 s1 (ctx4_ok ha hb hc hd hr h) run4_0
  · exact top (ρ := rhoT a b c d) h0 s0 h1 s1 (ctx0_ok ha hb hc hd hr h) run0_1
  · exact top (ρ := rhoT a b c d) h0 s0 h1 s1 (ctx1_ok ha hb hc hd hr h) run1_1
  · exact top (ρ := rhoT a b c d) h0 s0 h1 s1 (ctx2_ok ha hb hc hd hr h) run2_1
  · exact top (ρ := rhoT a b c d) h0 s0 h1 s1 (ctx3_ok ha hb hc hd hr h) run3_1
  · exact top (ρ := rhoT a b c d) h0 s0 h1 s1 (ctx4_ok ha hb hc hd hr h) run4_1
  · exact top (ρ := rhoT a b c d) h0 s0 h1 s1 (ctx0_ok ha hb hc hd hr h) run0_2
  · exact top (ρ := rhoT a b c d) h0 s0 h1 s1 (ctx1_ok ha hb hc hd hr h) run1_2
  · exact top (ρ := rhoT a b c d) h0 s0 h1 s1 (ctx2_ok ha hb hc hd hr h) run2_2
  · exact top (ρ := rhoT a b c d) h0 s0 h1 s1 (ctx3_ok ha hb hc hd hr h) run3_2
  · exact top (ρ := rhoT a b c d) h0 s0 h1 s1 (ctx4_ok ha hb hc hd hr h) run4_2
  · exact top (ρ := rhoT a b c d) h0 s0 h1 s1 (ctx0_ok ha hb hc hd hr h) run0_3
  · exact top (ρ := rhoT a b c d) h0 s0 h1 s1 (ctx1_ok ha hb hc hd hr h) run1_3
  · exact top (ρ := rhoT a b c d) h0 s0 h1 s1 (ctx2_ok ha hb hc hd hr h) run2_3
  · exact top (ρ := rhoT a b c d) h0 s0 h1 s1 (ctx3_ok ha hb hc hd hr h) run3_3
  · exact top (ρ := rhoT a b c d) h0 s0 h1 s1 (ctx4_ok ha hb hc hd hr h) run4_3
  · exact top (ρ := rhoT a b c d) h0 s0 h1 s1 (ctx0_ok ha hb hc hd hr h) run0_4
  · exact top (ρ := rhoT a b c d) h0 s0 h1 s1 (ctx1_ok ha hb hc hd hr h) run1_4
  · exact top (ρ := rhoT a b c d) h0 s0 h1 s1 (ctx2_ok ha hb hc hd hr h) run2_4
  · exact top (ρ := rhoT a b c d) h0 s0 h1 s1 (ctx3_ok ha hb hc hd hr h) run3_4
  · exact top (ρ := rhoT a b c d) h0 s0 h1 s1 (ctx4_ok ha hb hc hd hr h) run4_4
  · exact top (ρ := rhoT a b c d) h0 s0 h1 s1 (ctx0_ok ha hb hc hd hr h) run0_5
  · exact top (ρ := rhoT a b c d) h0 s0 h1 s1 (ctx1_ok ha hb hc hd hr h) run1_5
  · exact top (ρ := rhoT a b c d) h0 s0 h1 s1 (ctx2_ok ha hb hc hd hr h) run2_5
  · exact top (ρ := rhoT a b c d) h0 s0 h1 s1 (ctx3_ok ha hb hc hd hr h) run3_5
  · exact top (ρ := rhoT a b c d) h0 s0 h1 s1 (ctx4_ok ha hb hc hd hr h) run4_5
  · exact top (ρ := rhoT a b c d) h0 s0 h1 s1 (ctx0_ok ha hb hc hd hr h) run0_6
  · exact top (ρ := rhoT a b c d) h0 s0 h1 s1 (ctx1_ok ha hb hc hd hr h) run1_6
  · exact top (ρ := rhoT a b c d) h0 s0 h1 s1 (ctx2_ok ha hb hc hd hr h) run2_6
  · exact top (ρ := rhoT a b c d) h0 s0 h1 s1 (ctx3_ok ha hb hc hd hr h) run3_6
  · exact top (ρ := rhoT a b c d) h0 s0 h1 s1 (ctx4_ok ha hb hc hd hr h) run4_6
end
end Go.Proofs.YtekdmgmdhhkaoaaGreatDoor.SE
