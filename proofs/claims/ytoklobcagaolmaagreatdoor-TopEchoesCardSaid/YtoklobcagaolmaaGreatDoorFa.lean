/- THE FUNCTIONS that the call comes to (the closure), piece by piece. No condition. -/
import Derived.Test.YtoklobcagaolmaaGreatDoorSd
import Derived.JoinedOf
import Derived.KernelRfl
import Derived.Test.YtoklobcagaolmaaGreatDoorRows

namespace Go.Proofs.YtoklobcagaolmaaGreatDoor
set_option maxRecDepth 1000000
/-! ## which functions the call comes to: the closure, once, piece by piece -/
def closT (g : FuncId → List FuncId) : Nat → List FuncId → List FuncId → List FuncId
  | 0, _, seen => seen.reverse
  | _, [], seen => seen.reverse
  | n + 1, f :: todo, seen => if seen.contains f then closT g n todo seen else closT g n (g f ++ todo) (f :: seen)
def closE (g : FuncId → List FuncId) : Nat → List FuncId → List FuncId → Option (List FuncId)
  | _, [], seen => some seen.reverse
  | 0, _ :: _, _ => none
  | n + 1, f :: todo, seen => if seen.contains f then closE g n todo seen else closE g n (g f ++ todo) (f :: seen)
noncomputable def leadF (i : FuncId) : List FuncId := (Tryz.prog.funcs[i]?).elim [] Tryz.prog.leadsTo
theorem clos_eq : ∀ (n : Nat) (todo seen : List FuncId), Tryz.prog.closureVia n todo seen = closT leadF n todo seen
  | 0, todo, seen => by cases todo <;> rfl
  | n + 1, [], seen => rfl
  | n + 1, f :: todo, seen => by
    unfold Program.closureVia closT
    split
    · exact clos_eq n _ _
    · exact clos_eq n _ _
theorem closE_done {g : FuncId → List FuncId} : ∀ (n m : Nat) (todo seen r : List FuncId), closE g n todo seen = some r → n ≤ m → closT g m todo seen = r
  | n, 0, [], seen, r, h, _ => by cases n <;> (cases h; rfl)
  | n, m + 1, [], seen, r, h, _ => by cases n <;> (cases h; rfl)
  | 0, m, f :: todo, seen, r, h, _ => by cases h
  | n + 1, 0, f :: todo, seen, r, h, hm => by omega
  | n + 1, m + 1, f :: todo, seen, r, h, hm => by
    unfold closE at h
    unfold closT
    split
    · rename_i hs
      rw [if_pos hs] at h
      exact closE_done n m _ _ r h (by omega)
    · rename_i hs
      rw [if_neg hs] at h
      exact closE_done n m _ _ r h (by omega)
theorem closE_seen {g : FuncId → List FuncId} : ∀ (n : Nat) (todo seen r : List FuncId), closE g n todo seen = some r → ∀ i ∈ seen, i ∈ r
  | n, [], seen, r, h, i, hi => by cases n <;> (cases h; simpa using hi)
  | 0, f :: todo, seen, r, h, i, hi => by cases h
  | n + 1, f :: todo, seen, r, h, i, hi => by
    unfold closE at h
    split at h
    · exact closE_seen n _ _ r h i hi
    · exact closE_seen n _ _ r h i (by simp [hi])
theorem closE_congr {g g' : FuncId → List FuncId} : ∀ (n : Nat) (todo seen r : List FuncId), closE g n todo seen = some r → (∀ i ∈ r, g' i = g i) → closE g' n todo seen = some r
  | n, [], seen, r, h, _ => by cases n <;> exact h
  | 0, f :: todo, seen, r, h, _ => by cases h
  | n + 1, f :: todo, seen, r, h, hg => by
    unfold closE at h ⊢
    split
    · rename_i hs
      rw [if_pos hs] at h
      exact closE_congr n _ _ r h hg
    · rename_i hs
      rw [if_neg hs] at h
      rw [hg f (closE_seen n _ _ r h f (by simp))]
      exact closE_congr n _ _ r h hg
/-- a sum over all, at least -/
theorem sum_ge {α : Type} {g : α → Nat} {lb : Nat → Nat} : ∀ (l : List α) (k : Nat), (∀ i x, l[i]? = some x → lb (k + i) ≤ g x) → ((List.range l.length).map fun i => lb (k + i)).sum ≤ (l.map g).sum
  | [], k, _ => by simp
  | x :: l, k, h => by
    have ih := sum_ge (g := g) (lb := lb) l (k + 1) (fun i y hy => by rw [show k + 1 + i = k + (i + 1) by omega]; exact h (i + 1) y (by simpa using hy))
    have h0 := h 0 x rfl
    simp only [List.length_cons, List.range_succ_eq_map, List.map_cons, List.map_map, List.sum_cons]
    have e : ((List.range l.length).map ((fun i => lb (k + i)) ∘ Nat.succ)) = ((List.range l.length).map fun i => lb (k + 1 + i)) := by
      apply List.map_congr_left
      intro i _
      simp only [Function.comp]
      congr 1
      omega
    rw [e]
    omega
noncomputable def leadTab : SE.T (List FuncId) := (.n (.n (.n (.n (.n (.n (.n (.n (.n (.n .e (some [515]) .e) (some [423]) (.n .e (some [702, 702, 834, 834]) .e)) (some [232, 66, 233, 225, 234, 221, 226, 227, 226, 235, 60, 237, 236, 238]) (.n (.n .e (some []) .e) (some [565]) .e)) (some []) (.n (.n (.n .e (some [402]) .e) (some [526, 527, 319, 318]) (.n .e (some [865, 865, 830, 756, 866, 866, 866, 864, 756]) .e)) (some [313, 314]) (.n (.n .e (some [780]) .e) (some []) .e))) (some [32, 30]) (.n (.n (.n (.n .e (some [574, 250, 340, 340]) .e) (some [444, 444, 281, 444, 281, 286, 445, 281, 286, 284, 284]) (.n .e (some [816]) .e)) (some [155, 163, 274]) (.n (.n .e (some [558]) .e) (some [396, 340, 339, 338, 416]) .e)) (some [179, 183]) (.n (.n (.n .e (some []) .e) (some [552, 550]) (.n .e (some [879]) .e)) (some [390, 391]) (.n (.n .e (some [811, 787, 812, 795, 796, 813, 814, 814]) .e) (some []) .e)))) (some []) (.n (.n (.n (.n (.n .e (some [199, 105]) .e) (some [434]) (.n .e (some [179, 705]) .e)) (some [258, 259, 258, 260, 261]) (.n (.n .e (some []) .e) (some []) .e)) (some [159, 158, 160, 158, 159, 158, 160, 158, 68]) (.n (.n (.n .e (some []) .e) (some [217]) (.n .e (some [870, 869]) .e)) (some []) (.n (.n .e (some []) .e) (some []) .e))) (some [66]) (.n (.n (.n (.n .e (some [641]) .e) (some [253, 302, 315]) (.n .e (some [838]) .e)) (some [299]) (.n (.n .e (some []) .e) (some []) .e)) (some [110, 111, 111, 110, 111, 111, 111, 111]) (.n (.n (.n .e (some []) .e) (some [557]) (.n .e (some []) .e)) (some [246, 409]) (.n (.n .e (some [826, 827, 826, 684, 640]) .e) (some []) .e))))) (some []) (.n (.n (.n (.n (.n (.n .e (some []) .e) (some [427, 428, 124]) (.n .e (some [836, 774]) .e)) (some [254]) (.n (.n .e (some [716]) .e) (some [570, 571, 572, 252]) .e)) (some [143, 144, 138, 145, 143]) (.n (.n (.n .e (some [666, 667, 668, 669]) .e) (some [529, 217, 530, 530, 531, 531, 530]) (.n .e (some []) .e)) (some []) (.n (.n .e (some [787, 113]) .e) (some []) .e))) (some [53, 54, 55, 56, 57, 58, 59]) (.n (.n (.n (.n .e (some []) .e) (some [456, 457, 458, 457, 458, 267, 457, 457, 457, 253]) (.n .e (some [803]) .e)) (some []) (.n (.n .e (some [746, 747]) .e) (some []) .e)) (some []) (.n (.n (.n .e (some []) .e) (some [361, 360]) (.n .e (some []) .e)) (some []) (.n (.n .e (some [569]) .e) (some [626]) .e)))) none (.n (.n (.n (.n (.n .e (some [558]) .e) (some [438, 439, 440, 441, 133, 67]) (.n .e (some []) .e)) (some [266]) (.n (.n .e (some [67, 440, 710, 728, 727, 589]) .e) (some []) .e)) (some [55, 168, 172, 165]) (.n (.n (.n .e (some []) .e) (some []) (.n .e (some [854, 854, 859, 859, 859, 854, 873]) .e)) (some [322]) (.n (.n .e (some [795, 796]) .e) (some []) .e))) (some [98, 99, 100, 101, 102, 103]) (.n (.n (.n (.n .e (some [560, 562]) .e) (some []) (.n .e (some [824, 822]) .e)) (some [308, 309, 310]) (.n (.n .e (some [421]) .e) (some [611]) .e)) (some [214, 213]) (.n (.n (.n .e (some []) .e) (some []) .e) (some [394, 414]) (.n (.n .e (some [300, 212, 832]) .e) (some []) .e)))))) (some [7, 7, 7, 8, 8, 9, 10, 11, 10, 12, 10, 13, 10, 14, 14, 13, 14, 10, 13, 15, 16, 16, 14, 17]) (.n (.n (.n (.n (.n (.n (.n .e (some [179, 631]) .e) (some []) (.n .e (some []) .e)) (some [248]) (.n (.n .e (some []) .e) (some [567, 568]) .e)) (some []) (.n (.n (.n .e (some []) .e) (some [325, 324, 217]) (.n .e (some []) .e)) (some [317]) (.n (.n .e (some []) .e) (some []) .e))) (some []) (.n (.n (.n (.n .e (some [648, 649]) .e) (some []) (.n .e (some []) .e)) (some []) (.n (.n .e (some [742, 133, 340]) .e) (some []) .e)) (some []) (.n (.n (.n .e (some []) .e) (some []) (.n .e (some []) .e)) (some [48]) (.n (.n .e (some [817]) .e) (some []) .e)))) none (.n (.n (.n (.n (.n .e (some []) .e) (some []) (.n .e (some [310]) .e)) (some [63, 262, 60, 62]) (.n (.n .e (some [722, 548]) .e) (some []) .e)) (some [164, 157]) (.n (.n (.n .e (some [686]) .e) (some []) (.n .e (some []) .e)) (some [116]) (.n (.n .e (some []) .e) (some []) .e))) (some [72, 73, 74, 75, 76, 77, 78, 79, 80, 81, 82, 83, 84, 85, 86, 87, 88, 89, 90, 91, 92]) (.n (.n (.n (.n .e (some []) .e) (some [179, 181, 181, 181, 515, 181]) (.n .e (some [853, 707]) .e)) (some [301]) (.n (.n .e (some [762, 763]) .e) (some [608, 609]) .e)) (some []) (.n (.n (.n .e (some [628]) .e) (some [559]) .e) (some []) (.n (.n .e (some [756, 756, 828, 829, 830, 831, 828, 830]) .e) (some []) .e))))) (some [34, 34, 14, 14]) (.n (.n (.n (.n (.n (.n .e (some [632]) .e) (some [254]) (.n .e (some [774]) .e)) (some [145]) (.n (.n .e (some [718, 590, 589]) .e) (some [396, 338, 340]) .e)) (some [149]) (.n (.n (.n .e (some [606]) .e) (some [539, 217, 534, 540]) (.n .e (some []) .e)) (some []) (.n (.n .e (some [787, 113]) .e) (some []) .e))) (some [40]) (.n (.n (.n (.n .e (some []) .e) (some [462, 463]) (.n .e (some [851, 852]) .e)) (some [109, 292, 108, 293]) (.n (.n .e (some [753, 754, 755, 756, 757, 758]) .e) (some [399]) .e)) (some [198, 199, 200, 199, 199]) (.n (.n (.n .e (some [618]) .e) (some [556]) (.n .e (some [859, 873, 873]) .e)) (some [407, 124]) (.n (.n .e (some [754, 758]) .e) (some []) .e)))) (some []) (.n (.n (.n (.n (.n .e (some []) .e) (some []) (.n .e (some []) .e)) (some [270]) (.n (.n .e (some [730, 589, 612, 612, 731, 732, 615, 615, 731]) .e) (some []) .e)) (some [170, 49, 175, 176]) (.n (.n (.n .e (some []) .e) (some [552, 553, 553, 551, 551, 538]) (.n .e (some []) .e)) (some [359, 362, 364, 366, 368, 370, 372, 358, 358]) (.n (.n .e (some [801, 645]) .e) (some []) .e))) (some [121, 121, 121]) (.n (.n (.n (.n .e (some []) .e) (some [417]) (.n .e (some [824, 822, 821, 861, 862, 558, 863, 823, 861, 862]) .e)) (some []) (.n (.n .e (some [777, 778, 779]) .e) (some [617, 195, 195, 195, 195, 195, 251, 252, 289, 289, 289, 253, 252, 253]) .e)) (some [226, 227, 228, 221]) (.n (.n (.n .e (some []) .e) (some [564, 565, 561, 563, 566, 566, 566]) .e) (some [417, 418]) (.n (.n .e (some [762]) .e) (some []) .e))))))) none (.n (.n (.n (.n (.n (.n (.n (.n .e (some [179, 510]) .e) (some [424, 255]) (.n .e (some []) .e)) (some [240, 241, 242, 60, 240, 237, 238, 243, 244]) (.n (.n .e (some [558]) .e) (some []) .e)) (some []) (.n (.n (.n .e (some [439, 659, 660, 661, 662, 663]) .e) (some []) (.n .e (some []) .e)) (some []) (.n (.n .e (some [200, 781]) .e) (some [618, 618, 618, 618, 618]) .e))) (some []) (.n (.n (.n (.n .e (some [647]) .e) (some []) (.n .e (some [67, 338, 67, 543]) .e)) (some []) (.n (.n .e (some [671, 740, 250, 648, 340, 340]) .e) (some [598]) .e)) (some [186, 187, 188, 189]) (.n (.n (.n .e (some [689, 690, 691, 692, 693, 601, 700, 420, 695, 693, 600, 600, 601, 696, 420, 695, 693, 697, 698, 699, 699, 699, 693]) .e) (some [550]) (.n .e (some []) .e)) (some [392, 221]) (.n (.n .e (some []) .e) (some []) .e)))) (some [39, 40, 41]) (.n (.n (.n (.n (.n .e (some []) .e) (some [436, 314]) (.n .e (some []) .e)) (some []) (.n (.n .e (some []) .e) (some []) .e)) (some [162, 69]) (.n (.n (.n .e (some [677, 655, 678, 655, 683, 684]) .e) (some [338, 339, 340]) (.n .e (some []) .e)) (some [207]) (.n (.n .e (some []) .e) (some [623, 624, 466]) .e))) (some [69, 68]) (.n (.n (.n (.n .e (some []) .e) (some [487, 488, 204, 487, 489, 204, 487, 490, 491, 487, 492, 491, 493, 494, 493, 495, 493, 496, 493, 497, 493, 498, 493, 499, 493, 500, 493, 501, 502, 503, 502, 504, 502, 505, 502, 506, 502, 507, 502, 508, 509, 511, 512]) (.n .e (some []) .e)) (some [300]) (.n (.n .e (some []) .e) (some [606]) .e)) (some [210, 211]) (.n (.n (.n .e (some [425, 261, 425, 260, 261, 703]) .e) (some [557, 555]) (.n .e (some []) .e)) (some [240, 410]) (.n (.n .e (some []) .e) (some []) .e))))) (some [25, 25, 26, 10, 10]) (.n (.n (.n (.n (.n (.n .e (some [520, 520, 520, 520, 520, 520]) .e) (some []) (.n .e (some []) .e)) (some []) (.n (.n .e (some []) .e) (some [575, 124]) .e)) (some [148, 146]) (.n (.n (.n .e (some [677, 678, 655, 679, 680, 655, 681]) .e) (some [532, 534, 535, 536, 530, 530, 537, 537, 320, 531, 530, 535, 538]) (.n .e (some []) .e)) (some [202]) (.n (.n .e (some [784, 784]) .e) (some [258, 252, 258, 252, 315, 315, 315, 253]) .e))) (some [63, 64, 62]) (.n (.n (.n (.n .e (some [558]) .e) (some [460]) (.n .e (some [296, 297, 297, 297, 298]) .e)) (some [108, 56, 290]) (.n (.n .e (some [655, 750, 751, 752, 678]) .e) (some [605]) .e)) (some [194, 195, 195]) (.n (.n (.n .e (some [701, 702]) .e) (some []) (.n .e (some [859]) .e)) (some []) (.n (.n .e (some []) .e) (some []) .e)))) (some [39]) (.n (.n (.n (.n (.n .e (some [531, 640]) .e) (some [134, 252]) (.n .e (some [558]) .e)) (some [268]) (.n (.n .e (some []) .e) (some [595, 570, 595, 595, 391]) .e)) (some [167, 93, 168, 166, 165]) (.n (.n (.n .e (some []) .e) (some [549, 550, 551]) (.n .e (some [876, 876]) .e)) (some []) (.n (.n .e (some []) .e) (some []) .e))) (some [109, 110, 111]) (.n (.n (.n (.n .e (some [655, 658, 657]) .e) (some [520, 520, 520, 520, 520, 520, 521]) (.n .e (some [854, 854, 855, 857, 856, 858, 859]) .e)) (some [185]) (.n (.n .e (some [774]) .e) (some [615]) .e)) (some []) (.n (.n (.n .e (some []) .e) (some [560, 561, 562, 563]) .e) (some [415, 394]) (.n (.n .e (some []) .e) (some []) .e)))))) none (.n (.n (.n (.n (.n (.n (.n .e (some [258]) .e) (some []) (.n .e (some [835]) .e)) (some [250]) (.n (.n .e (some [338, 340]) .e) (some []) .e)) (some [135]) (.n (.n (.n .e (some []) .e) (some [361]) (.n .e (some [625]) .e)) (some [319, 196]) (.n (.n .e (some [785, 113, 115, 116]) .e) (some []) .e))) (some [48]) (.n (.n (.n (.n .e (some []) .e) (some [452, 451, 453, 451, 454, 451]) (.n .e (some [807, 807, 808, 809, 813]) .e)) (some [49]) (.n (.n .e (some [745]) .e) (some []) .e)) (some [193, 102, 192]) (.n (.n (.n .e (some []) .e) (some [554]) (.n .e (some []) .e)) (some [397, 400, 230]) (.n (.n .e (some [536]) .e) (some []) .e)))) none (.n (.n (.n (.n (.n .e (some []) .e) (some [437]) (.n .e (some [839]) .e)) (some [243, 264]) (.n (.n .e (some [441, 714, 645, 589, 645]) .e) (some [578]) .e)) (some [56, 168, 169, 165]) (.n (.n (.n .e (some []) .e) (some [338]) (.n .e (some []) .e)) (some [321]) (.n (.n .e (some [794]) .e) (some []) .e))) (some [94, 93]) (.n (.n (.n (.n .e (some [562]) .e) (some [179, 273, 69]) (.n .e (some []) .e)) (some []) (.n (.n .e (some []) .e) (some []) .e)) (some []) (.n (.n (.n .e (some [630, 630, 631]) .e) (some []) .e) (some [124]) (.n (.n .e (some []) .e) (some []) .e))))) (some [10, 10]) (.n (.n (.n (.n (.n (.n .e (some [632, 69, 633]) .e) (some [432]) (.n .e (some [610, 314]) .e)) (some [255, 256]) (.n (.n .e (some [719, 719, 720]) .e) (some [398, 399]) .e)) (some [153, 154, 49]) (.n (.n (.n .e (some [653, 594]) .e) (some [536, 533]) (.n .e (some [869]) .e)) (some []) (.n (.n .e (some [790, 791, 791, 791, 791, 791, 791, 791, 791, 791, 791, 791, 791, 791, 791, 791, 791, 791, 791, 791, 791, 791, 791, 791, 791, 791, 791, 791, 791, 791, 791, 791, 791, 791, 791, 791, 791, 791, 791, 791, 791, 791, 791, 791, 791, 791, 791, 791, 791, 791, 791, 791, 791, 791, 791, 791, 791, 792]) .e) (some []) .e))) (some [41, 38]) (.n (.n (.n (.n .e (some []) .e) (some [464, 465, 466]) (.n .e (some []) .e)) (some [296, 297, 298]) (.n (.n .e (some [759, 760]) .e) (some []) .e)) (some [169]) (.n (.n (.n .e (some []) .e) (some [557, 558, 555, 363, 538, 538]) (.n .e (some [854, 859]) .e)) (some [66, 240, 240]) (.n (.n .e (some [822, 821, 820, 823, 822, 821, 820, 824]) .e) (some [627]) .e)))) (some [31]) (.n (.n (.n (.n (.n .e (some [643, 546, 546]) .e) (some [442, 443]) (.n .e (some [839, 840, 841, 842, 842]) .e)) (some [267]) (.n (.n .e (some [728, 735, 589, 614, 614, 731, 736, 589, 737, 737, 731]) .e) (some [570, 572, 571, 391]) .e)) (some [178, 112, 114, 179, 180, 181, 182]) (.n (.n (.n .e (some []) .e) (some [552, 550]) (.n .e (some []) .e)) (some [241, 242, 60]) (.n (.n .e (some [803, 804, 805, 806]) .e) (some []) .e))) (some [125, 124]) (.n (.n (.n (.n .e (some [338, 416, 250, 215, 574, 250, 340, 340]) .e) (some []) (.n .e (some []) .e)) (some [184, 311, 186, 312, 189]) (.n (.n .e (some []) .e) (some [285, 285, 285, 285]) .e)) (some [126]) (.n (.n (.n .e (some [105, 706, 318, 105, 706, 318, 105, 636, 318, 107]) .e) (some [565, 559]) .e) (some []) (.n (.n .e (some []) .e) (some [510]) .e)))))))) none (.n (.n (.n (.n (.n (.n (.n (.n (.n .e (some [513]) .e) (some [143]) (.n .e (some []) .e)) (some [239, 224, 227, 234, 221]) (.n (.n .e (some []) .e) (some [385]) .e)) (some [128, 129, 130, 131, 132]) (.n (.n (.n .e (some []) .e) (some [528]) (.n .e (some [175, 867]) .e)) (some [315, 258, 258, 315, 258, 315, 253, 316, 191, 315, 253]) (.n (.n .e (some [761]) .e) (some [618, 619, 618, 618, 620, 620]) .e))) (some []) (.n (.n (.n (.n .e (some [643, 546]) .e) (some [284, 284, 284, 284, 284, 284, 284, 284, 284, 284, 286, 286, 284, 280, 280]) (.n .e (some [839, 843]) .e)) (some [155, 274]) (.n (.n .e (some [738, 739]) .e) (some []) .e)) (some [184, 185]) (.n (.n (.n .e (some [689, 690, 691, 692, 693, 601, 694, 420, 695, 693, 600, 600, 601, 696, 420, 695, 693, 697, 698, 699, 699, 699, 693]) .e) (some [353]) (.n .e (some [756]) .e)) (some [221]) (.n (.n .e (some [811, 815, 815, 816, 815, 809, 815, 815]) .e) (some []) .e)))) (some [38]) (.n (.n (.n (.n (.n .e (some []) .e) (some [435]) (.n .e (some [310]) .e)) (some []) (.n (.n .e (some [721]) .e) (some [401, 402]) .e)) (some [161, 69]) (.n (.n (.n .e (some [586, 133, 133, 593, 594, 587]) .e) (some [541, 67, 542, 543]) (.n .e (some [872, 847]) .e)) (some [205]) (.n (.n .e (some []) .e) (some [623, 255]) .e))) (some [67]) (.n (.n (.n (.n .e (some []) .e) (some [467, 468, 469, 470, 471, 472, 473, 474, 475, 476, 477, 478, 479, 480, 481, 482, 483, 484, 485, 486]) (.n .e (some [356]) .e)) (some []) (.n (.n .e (some []) .e) (some [465, 251, 466, 252, 252, 252, 255, 252, 252, 252, 253]) .e)) (some [203, 204, 204, 205, 206, 205, 207, 207, 207, 207, 207, 208, 208, 207, 205, 205, 205, 209, 205, 209, 209, 209, 209, 205]) (.n (.n (.n .e (some []) .e) (some [361, 369]) (.n .e (some [881]) .e)) (some []) (.n (.n .e (some [745]) .e) (some []) .e))))) (some []) (.n (.n (.n (.n (.n (.n .e (some []) .e) (some []) (.n .e (some [774]) .e)) (some []) (.n (.n .e (some [717]) .e) (some [396, 403, 573, 394]) .e)) (some [147, 146]) (.n (.n (.n .e (some [666, 670, 671, 672, 340, 673, 340, 340, 340, 340, 674, 675, 676, 340]) .e) (some [325, 329]) (.n .e (some []) .e)) (some []) (.n (.n .e (some [788]) .e) (some [289, 315, 252]) .e))) (some [61, 60, 62]) (.n (.n (.n (.n .e (some []) .e) (some [459]) (.n .e (some [356]) .e)) (some [49, 69, 68]) (.n (.n .e (some [748, 749]) .e) (some []) .e)) (some []) (.n (.n (.n .e (some [419, 420, 421, 422]) .e) (some [555]) (.n .e (some []) .e)) (some []) (.n (.n .e (some [568]) .e) (some []) .e)))) none (.n (.n (.n (.n (.n .e (some []) .e) (some [154, 281]) (.n .e (some [790, 791, 791, 791, 791, 791, 791, 791, 791, 791, 791, 791, 791, 791, 791, 791, 791, 791, 791, 791, 791, 791, 791, 791, 791, 791, 791, 791, 791, 791, 791, 791, 791, 791, 791, 791, 791, 791, 791, 791, 791, 791, 791, 791, 791, 791, 791, 791, 791, 791, 791, 791, 791, 791, 791, 791, 791, 791, 791, 791, 791, 791, 791, 791, 791]) .e)) (some [207, 267, 134]) (.n (.n .e (some [299, 729]) .e) (some [586, 133, 592, 394]) .e)) (some [54, 168, 69]) (.n (.n (.n .e (some []) .e) (some [345]) (.n .e (some [874, 873, 859, 865, 854, 874, 859, 866, 854, 875]) .e)) (some [323, 326, 328, 330, 332, 334, 336, 337, 341]) (.n (.n .e (some [361]) .e) (some []) .e))) (some [104, 105, 106, 107, 108]) (.n (.n (.n (.n .e (some [655, 656, 657]) .e) (some []) (.n .e (some [822]) .e)) (some []) (.n (.n .e (some [600, 766, 765, 767, 772, 773, 773, 771]) .e) (some [612, 613, 613, 614, 614]) .e)) (some [215, 216, 217, 215, 218, 215, 219, 215, 220]) (.n (.n (.n .e (some []) .e) (some [377]) .e) (some []) (.n (.n .e (some [212, 833]) .e) (some []) .e)))))) none (.n (.n (.n (.n (.n (.n (.n .e (some []) .e) (some []) (.n .e (some []) .e)) (some [225, 226, 227, 249, 221]) (.n (.n .e (some [708, 709, 710, 711, 712, 589]) .e) (some [567, 569]) .e)) (some [134]) (.n (.n (.n .e (some [416, 664, 177]) .e) (some []) (.n .e (some []) .e)) (some [105, 318]) (.n (.n .e (some [784, 113]) .e) (some []) .e))) (some []) (.n (.n (.n (.n .e (some [650, 651, 652, 590, 589, 589, 653, 590, 591, 589, 589]) .e) (some [447, 448, 449, 450]) (.n .e (some [845, 846, 847, 848, 849, 785]) .e)) (some [276, 277, 278, 279]) (.n (.n .e (some [133, 743, 744, 589]) .e) (some [601, 600, 602]) .e)) (some [191, 192]) (.n (.n (.n .e (some []) .e) (some [310, 211]) (.n .e (some []) .e)) (some [395, 394]) (.n (.n .e (some [672, 818, 819]) .e) (some []) .e)))) none (.n (.n (.n (.n (.n .e (some [533]) .e) (some []) (.n .e (some [838, 794]) .e)) (some [63, 263, 60, 62]) (.n (.n .e (some [440, 723, 645, 724, 589, 725, 645, 589, 645]) .e) (some [405, 406]) .e)) (some [167, 166, 165]) (.n (.n (.n .e (some [597]) .e) (some [547, 548]) (.n .e (some []) .e)) (some []) (.n (.n .e (some [793]) .e) (some []) .e))) (some [50]) (.n (.n (.n (.n .e (some [559]) .e) (some [516, 258, 517, 71, 518]) (.n .e (some []) .e)) (some [258, 302, 303, 302]) (.n (.n .e (some [520]) .e) (some [610]) .e)) (some []) (.n (.n (.n .e (some [631, 207]) .e) (some [373, 340]) .e) (some []) (.n (.n .e (some []) .e) (some []) .e))))) (some [35, 36]) (.n (.n (.n (.n (.n (.n .e (some [632, 69, 633]) .e) (some [429, 430, 431]) (.n .e (some []) .e)) (some [145]) (.n (.n .e (some [589, 671]) .e) (some [67]) .e)) (some [151, 152, 152, 68]) (.n (.n (.n .e (some [133, 585, 406, 682, 590, 589]) .e) (some [325, 333]) (.n .e (some []) .e)) (some []) (.n (.n .e (some []) .e) (some [621, 622]) .e))) (some [65, 46]) (.n (.n (.n (.n .e (some []) .e) (some []) (.n .e (some [816]) .e)) (some [294, 295]) (.n (.n .e (some [748, 720, 749]) .e) (some []) .e)) (some [201]) (.n (.n (.n .e (some [618, 618]) .e) (some [361, 365]) (.n .e (some [880]) .e)) (some []) (.n (.n .e (some []) .e) (some []) .e)))) (some [30, 30]) (.n (.n (.n (.n (.n .e (some [642, 533, 536, 537]) .e) (some [267, 281]) (.n .e (some [788, 812, 809]) .e)) (some []) (.n (.n .e (some [733, 589, 613, 613, 731, 734, 645, 589, 731]) .e) (some [126]) .e)) (some [170, 49, 177, 49, 69, 176, 68]) (.n (.n (.n .e (some [687, 688]) .e) (some [349]) (.n .e (some []) .e)) (some [374, 376, 378, 380, 382, 384, 386, 389, 358]) (.n (.n .e (some [802]) .e) (some []) .e))) (some [122, 123]) (.n (.n (.n (.n .e (some []) .e) (some []) (.n .e (some []) .e)) (some []) (.n (.n .e (some [764, 600, 600, 766, 765, 767, 768, 769, 767, 768, 770, 767, 771]) .e) (some [152]) .e)) (some [229, 230]) (.n (.n (.n .e (some [705, 199, 199, 105]) .e) (some [381]) .e) (some [417]) (.n (.n .e (some []) .e) (some []) .e))))))) none (.n (.n (.n (.n (.n (.n (.n (.n .e (some []) .e) (some [425]) (.n .e (some []) .e)) (some [245, 60, 246, 224, 227, 247, 221]) (.n (.n .e (some []) .e) (some [381, 387, 388]) .e)) (some [133, 133]) (.n (.n (.n .e (some [579, 580]) .e) (some []) (.n .e (some []) .e)) (some []) (.n (.n .e (some [199, 782, 783, 705, 199, 105]) .e) (some [618, 618, 618, 618]) .e))) (some [47]) (.n (.n (.n (.n .e (some []) .e) (some [446]) (.n .e (some [839, 844, 841, 842, 843]) .e)) (some [275]) (.n (.n .e (some [741, 133, 340, 581, 340, 340]) .e) (some [599]) .e)) (some [190, 190, 190]) (.n (.n (.n .e (some [313]) .e) (some [355, 268, 356, 357, 340]) (.n .e (some []) .e)) (some [221, 393, 60]) (.n (.n .e (some []) .e) (some []) .e)))) none (.n (.n (.n (.n (.n .e (some []) .e) (some [213]) (.n .e (some [810, 793]) .e)) (some [49]) (.n (.n .e (some [721]) .e) (some [231]) .e)) (some [163, 157]) (.n (.n (.n .e (some [133, 685]) .e) (some [544, 545, 546]) (.n .e (some []) .e)) (some [310]) (.n (.n .e (some [439, 547, 547]) .e) (some [625]) .e))) (some [70, 71, 70]) (.n (.n (.n (.n .e (some []) .e) (some [181, 282, 514, 206, 181]) (.n .e (some [739]) .e)) (some [96, 97]) (.n (.n .e (some []) .e) (some [607, 321]) .e)) (some []) (.n (.n (.n .e (some []) .e) (some [371]) .e) (some [124, 411, 412, 124]) (.n (.n .e (some []) .e) (some []) .e))))) (some [27, 28, 29, 30, 30, 30, 30, 31, 32, 33]) (.n (.n (.n (.n (.n (.n .e (some [632]) .e) (some [66]) (.n .e (some []) .e)) (some []) (.n (.n .e (some [649]) .e) (some [576, 577]) .e)) (some [149, 47, 37, 150, 68, 68]) (.n (.n (.n .e (some []) .e) (some [331]) (.n .e (some []) .e)) (some []) (.n (.n .e (some [789]) .e) (some [457, 457]) .e))) none (.n (.n (.n (.n .e (some [654]) .e) (some [460, 461]) (.n .e (some [785]) .e)) (some [291, 291]) (.n (.n .e (some []) .e) (some [231, 401, 402]) .e)) (some [197, 196]) (.n (.n (.n .e (some []) .e) (some [363]) (.n .e (some [859, 854, 859]) .e)) (some [396, 403, 404, 394]) (.n (.n .e (some []) .e) (some []) .e)))) (some [43, 44]) (.n (.n (.n (.n (.n .e (some [320, 641]) .e) (some []) (.n .e (some []) .e)) (some [269, 269]) (.n (.n .e (some [558]) .e) (some [596, 597]) .e)) (some [170, 49, 173, 174]) (.n (.n (.n .e (some []) .e) (some [347]) (.n .e (some [877, 877, 854, 854, 876, 859, 878, 876, 876, 859, 856]) .e)) (some [342, 344, 346, 348, 350, 352, 354, 358, 358]) (.n (.n .e (some [797, 798, 784, 799, 800]) .e) (some []) .e))) (some [112, 113, 114, 115, 116, 117, 118, 119, 120]) (.n (.n (.n (.n .e (some []) .e) (some [522, 523, 524, 525]) (.n .e (some [860]) .e)) (some []) (.n (.n .e (some [775, 775, 776, 776]) .e) (some [616]) .e)) (some [221, 222, 223, 224, 225]) (.n (.n (.n .e (some []) .e) (some [379]) .e) (some []) (.n (.n .e (some [419, 420, 421, 422]) .e) (some []) .e)))))) none (.n (.n (.n (.n (.n (.n (.n .e (some [466]) .e) (some [426, 124]) (.n .e (some []) .e)) (some [251, 252, 252, 252, 253]) (.n (.n .e (some [356, 713, 714, 589, 715]) .e) (some []) .e)) (some [137, 136, 138, 140, 139, 142, 141]) (.n (.n (.n .e (some [665]) .e) (some [327]) (.n .e (some [851, 851, 868]) .e)) (some []) (.n (.n .e (some [728, 786, 589]) .e) (some []) .e))) (some [49, 49, 50, 51, 52, 49, 49]) (.n (.n (.n (.n .e (some []) .e) (some [103, 455, 455]) (.n .e (some [850, 850]) .e)) (some [112, 94, 280, 280, 282, 281, 283, 282, 281, 284, 285, 281, 286, 286, 286, 287, 288, 289, 253]) (.n (.n .e (some []) .e) (some [603, 604]) .e)) (some [192]) (.n (.n (.n .e (some []) .e) (some []) (.n .e (some []) .e)) (some []) (.n (.n .e (some [536, 726]) .e) (some []) .e)))) none (.n (.n (.n (.n (.n .e (some [639, 638]) .e) (some []) (.n .e (some [791]) .e)) (some [265]) (.n (.n .e (some [133, 340, 590, 726, 589]) .e) (some [581, 67, 582, 583, 584, 133, 585, 586, 133, 587, 588, 133, 590, 591, 589]) .e)) (some [56, 168, 170, 49, 171, 49]) (.n (.n (.n .e (some []) .e) (some [343]) (.n .e (some [859]) .e)) (some [321]) (.n (.n .e (some [530]) .e) (some []) .e))) (some [95, 96, 97]) (.n (.n (.n (.n .e (some []) .e) (some [519, 519, 519]) (.n .e (some []) .e)) (some [304, 181, 305, 181, 181, 306, 307]) (.n (.n .e (some [764, 600, 600, 766, 765, 767, 768, 769, 767, 768, 770, 767, 771]) .e) (some []) .e)) (some [212]) (.n (.n (.n .e (some [704]) .e) (some [375]) .e) (some [390, 413]) (.n (.n .e (some []) .e) (some [629]) .e))))) (some [37]) (.n (.n (.n (.n (.n (.n .e (some [634, 105, 635, 318, 527, 106, 107, 105, 318, 105, 636, 318, 105, 636, 318, 105, 636, 318, 105, 637, 105, 637, 637]) .e) (some [433]) (.n .e (some [837]) .e)) (some [257, 256]) (.n (.n .e (some []) .e) (some [401, 401]) .e)) (some [155, 155, 156, 157, 157, 157, 157, 157, 157, 157, 157, 68]) (.n (.n (.n .e (some []) .e) (some [335]) (.n .e (some [870, 871]) .e)) (some [320]) (.n (.n .e (some [719]) .e) (some []) .e))) (some []) (.n (.n (.n (.n .e (some []) .e) (some []) (.n .e (some [838]) .e)) (some []) (.n (.n .e (some [761]) .e) (some []) .e)) (some [110, 110, 110]) (.n (.n (.n .e (some []) .e) (some [367]) (.n .e (some [874, 859, 854, 854, 854, 859]) .e)) (some [408, 221]) (.n (.n .e (some [746, 825, 758]) .e) (some []) .e)))) (some [45, 46, 44]) (.n (.n (.n (.n (.n .e (some [644, 645, 67, 646, 645]) .e) (some [281, 281]) (.n .e (some []) .e)) (some [271, 271, 272, 258, 273, 272]) (.n (.n .e (some [671, 718, 340]) .e) (some []) .e)) (some []) (.n (.n (.n .e (some []) .e) (some [351]) (.n .e (some []) .e)) (some [294]) (.n (.n .e (some [807, 785, 808, 809, 810]) .e) (some []) .e))) (some [127]) (.n (.n (.n (.n .e (some []) .e) (some []) (.n .e (some [864, 864, 864, 864]) .e)) (some []) (.n (.n .e (some []) .e) (some []) .e)) (some [231]) (.n (.n (.n .e (some [707]) .e) (some [383]) .e) (some [419, 420, 421, 422]) (.n (.n .e (some []) .e) (some [191]) .e)))))))))
noncomputable def leadT (i : FuncId) : List FuncId := (leadTab.get i).getD []
def ck0 : List FuncId := [3, 7, 8, 9, 25, 39, 53, 94, 93, 178, 96, 184, 185, 97, 186, 187, 188, 189, 311, 312, 112, 203, 204, 205, 206, 320, 528, 207, 208, 209, 114, 179, 301, 464, 623, 255, 423, 465, 624, 466]
def ck1 : List FuncId := [625, 425, 605, 261, 260, 703, 780, 180, 258, 302, 303, 253, 315, 417, 598, 181, 182, 304, 467, 468, 469, 470, 471, 472, 473, 474, 475, 476, 477, 478, 479, 480, 481, 482, 483, 484, 485, 486, 305, 487]
def ck2 : List FuncId := [626, 488, 489, 490, 491, 492, 493, 627, 628, 631, 494, 495, 496, 497, 498, 499, 500, 501, 502, 629, 630, 704, 761, 503, 504, 505, 506, 507, 508, 509, 510, 191, 313, 520, 521, 314, 522, 632, 523, 524]
def ck3 : List FuncId := [69, 135, 254, 419, 420, 601, 600, 602, 421, 422, 603, 604, 687, 688, 633, 525, 511, 515, 512, 513, 306, 282, 514, 307, 54, 95, 183, 308, 516, 517, 71, 143, 259, 144, 138, 145, 518, 309, 273, 436]
def ck4 : List FuncId := [610, 310, 519, 55, 98, 190, 99, 100, 192, 316, 101, 193, 102, 103, 56, 104, 105, 194, 195, 317, 106, 197, 319, 526, 634, 635, 318, 527, 199, 107, 198, 200, 636, 705, 781, 637, 706, 782, 837, 783]
def ck5 : List FuncId := [196, 108, 201, 202, 57, 109, 169, 290, 446, 110, 111, 58, 113, 210, 211, 116, 115, 117, 118, 212, 119, 214, 321, 213, 120, 215, 322, 216, 323, 325, 361, 324, 217, 326, 327, 529, 530, 531, 328, 329]
def ck6 : List FuncId := [532, 533, 534, 639, 638, 707, 535, 558, 536, 537, 640, 538, 641, 330, 331, 539, 540, 642, 332, 333, 334, 335, 336, 541, 643, 546, 67, 542, 644, 708, 784, 709, 785, 710, 728, 786, 810, 793, 589, 653]
def ck7 : List FuncId := [719, 720, 594, 133, 250, 685, 759, 300, 832, 175, 299, 462, 463, 867, 760, 833, 711, 787, 712, 788, 838, 851, 868, 794, 645, 338, 544, 545, 647, 716, 340, 547, 648, 717, 790, 791, 792, 649, 548, 650]
def ck8 : List FuncId := [651, 718, 590, 652, 671, 591, 646, 356, 713, 714, 789, 839, 715, 543, 574, 337, 339, 341, 218, 342, 343, 344, 345, 549, 550, 551, 346, 347, 552, 553, 348, 349, 350, 351, 352, 353, 354, 355, 268, 429]
def ck9 : List FuncId := [430, 431, 357, 554, 654, 358, 219, 359, 360, 555, 362, 363, 556, 364, 365, 557, 366, 367, 368, 369, 370, 371, 559, 372, 373, 220, 374, 375, 376, 377, 560, 561, 562, 563, 378, 379, 564, 565, 566, 380]
def ck10 : List FuncId := [381, 382, 383, 384, 385, 386, 387, 567, 568, 655, 656, 721, 657, 388, 569, 658, 389, 59, 121, 26, 43, 40, 61, 125, 126, 231, 124, 229, 397, 398, 401, 399, 400, 402, 230, 60, 122, 221, 241, 240]
def ck11 : List FuncId := [410, 596, 597, 242, 411, 412, 222, 294, 455, 223, 390, 391, 570, 571, 572, 252, 224, 225, 392, 396, 403, 573, 416, 394, 576, 577, 439, 611, 659, 722, 660, 440, 612, 613, 614, 723, 724, 725, 661, 441]
def ck12 : List FuncId := [615, 662, 726, 663, 727, 795, 796, 812, 816, 809, 296, 459, 297, 460, 621, 622, 298, 461, 123, 226, 393, 575, 227, 48, 228, 395, 62, 127, 232, 66, 233, 234, 404, 405, 578, 579, 580, 664, 729, 177]
def ck13 : List FuncId := [406, 581, 582, 665, 583, 666, 667, 730, 797, 840, 841, 842, 798, 799, 800, 843, 731, 801, 732, 802, 844, 668, 733, 803, 804, 845, 869, 846, 870, 871, 847, 848, 872, 849, 805, 807, 808, 813, 806, 850]
def ck14 : List FuncId := [734, 669, 735, 811, 852, 814, 736, 815, 737, 584, 670, 672, 738, 739, 817, 673, 740, 818, 819, 853, 674, 741, 675, 742, 676, 743, 744, 585, 677, 745, 678, 679, 746, 747, 754, 758, 680, 748, 749, 822]
def ck15 : List FuncId := [821, 820, 823, 824, 681, 750, 825, 854, 859, 855, 873, 857, 876, 880, 881, 856, 874, 865, 866, 875, 858, 877, 878, 751, 826, 860, 827, 861, 862, 863, 879, 684, 752, 586, 587, 606, 588, 682, 235, 407]
def ck16 : List FuncId := [237, 236, 238, 408, 592, 593, 683, 753, 755, 756, 828, 829, 830, 864, 831, 757, 44, 65, 46, 10, 27, 28, 30, 45, 41, 63, 64, 128, 239, 246, 413, 409, 595, 686, 129, 243, 244, 130, 245, 247]
def ck17 : List FuncId := [414, 131, 248, 132, 249, 415, 38, 49, 68, 134, 251, 418, 599, 50, 70, 137, 136, 140, 139, 142, 257, 424, 256, 141, 51, 72, 147, 262, 426, 146, 73, 148, 263, 427, 428, 74, 149, 264, 47, 37]
def ck18 : List FuncId := [150, 265, 75, 76, 151, 266, 152, 267, 77, 153, 154, 269, 432, 78, 155, 270, 433, 156, 157, 79, 159, 163, 274, 158, 271, 434, 607, 272, 435, 608, 689, 690, 691, 762, 763, 692, 693, 694, 764, 766]
def ck19 : List FuncId := [765, 767, 702, 834, 768, 769, 770, 771, 695, 696, 772, 773, 835, 697, 774, 698, 775, 836, 776, 699, 777, 778, 779, 609, 700, 160, 80, 161, 81, 162, 275, 82, 83, 164, 276, 277, 437, 278, 279, 438]
def ck20 : List FuncId := [84, 167, 166, 280, 281, 283, 284, 285, 442, 616, 443, 617, 701, 289, 286, 287, 444, 445, 288, 165, 85, 168, 86, 170, 291, 171, 292, 447, 448, 618, 619, 620, 449, 450, 293, 452, 451, 453, 454, 87]
def ck21 : List FuncId := [172, 295, 456, 457, 458, 88, 89, 90, 173, 174, 91, 176, 92, 52, 29, 31, 32, 33, 11, 34, 14, 12, 35, 36, 13, 15, 16, 17]
def clL : List FuncId := ck0 ++ (ck1 ++ (ck2 ++ (ck3 ++ (ck4 ++ (ck5 ++ (ck6 ++ (ck7 ++ (ck8 ++ (ck9 ++ (ck10 ++ (ck11 ++ (ck12 ++ (ck13 ++ (ck14 ++ (ck15 ++ (ck16 ++ (ck17 ++ (ck18 ++ (ck19 ++ (ck20 ++ (ck21)))))))))))))))))))))
theorem lead0 : ck0.map leadF = ck0.map leadT := by kernel_rfl
theorem lead1 : ck1.map leadF = ck1.map leadT := by kernel_rfl
theorem lead2 : ck2.map leadF = ck2.map leadT := by kernel_rfl
theorem lead3 : ck3.map leadF = ck3.map leadT := by kernel_rfl
theorem lead4 : ck4.map leadF = ck4.map leadT := by kernel_rfl
theorem lead5 : ck5.map leadF = ck5.map leadT := by kernel_rfl
theorem lead6 : ck6.map leadF = ck6.map leadT := by kernel_rfl
theorem lead7 : ck7.map leadF = ck7.map leadT := by kernel_rfl
theorem lead8 : ck8.map leadF = ck8.map leadT := by kernel_rfl
theorem lead9 : ck9.map leadF = ck9.map leadT := by kernel_rfl
theorem lead10 : ck10.map leadF = ck10.map leadT := by kernel_rfl
theorem lead11 : ck11.map leadF = ck11.map leadT := by kernel_rfl
theorem lead12 : ck12.map leadF = ck12.map leadT := by kernel_rfl
theorem lead13 : ck13.map leadF = ck13.map leadT := by kernel_rfl
theorem lead14 : ck14.map leadF = ck14.map leadT := by kernel_rfl
theorem lead15 : ck15.map leadF = ck15.map leadT := by kernel_rfl
theorem lead16 : ck16.map leadF = ck16.map leadT := by kernel_rfl
theorem lead17 : ck17.map leadF = ck17.map leadT := by kernel_rfl
theorem lead18 : ck18.map leadF = ck18.map leadT := by kernel_rfl
theorem lead19 : ck19.map leadF = ck19.map leadT := by kernel_rfl
theorem lead20 : ck20.map leadF = ck20.map leadT := by kernel_rfl
theorem lead21 : ck21.map leadF = ck21.map leadT := by kernel_rfl
theorem clos_run : closE leadT 1970 [3] [] = some clL := by kernel_rfl
theorem lead_all : ∀ i ∈ clL, leadF i = leadT i := by
  intro i hi
  simp only [clL, List.mem_append] at hi
  rcases hi with hi | hi | hi | hi | hi | hi | hi | hi | hi | hi | hi | hi | hi | hi | hi | hi | hi | hi | hi | hi | hi | hi
  · exact List.map_inj_left.1 lead0 i hi
  · exact List.map_inj_left.1 lead1 i hi
  · exact List.map_inj_left.1 lead2 i hi
  · exact List.map_inj_left.1 lead3 i hi
  · exact List.map_inj_left.1 lead4 i hi
  · exact List.map_inj_left.1 lead5 i hi
  · exact List.map_inj_left.1 lead6 i hi
  · exact List.map_inj_left.1 lead7 i hi
  · exact List.map_inj_left.1 lead8 i hi
  · exact List.map_inj_left.1 lead9 i hi
  · exact List.map_inj_left.1 lead10 i hi
  · exact List.map_inj_left.1 lead11 i hi
  · exact List.map_inj_left.1 lead12 i hi
  · exact List.map_inj_left.1 lead13 i hi
  · exact List.map_inj_left.1 lead14 i hi
  · exact List.map_inj_left.1 lead15 i hi
  · exact List.map_inj_left.1 lead16 i hi
  · exact List.map_inj_left.1 lead17 i hi
  · exact List.map_inj_left.1 lead18 i hi
  · exact List.map_inj_left.1 lead19 i hi
  · exact List.map_inj_left.1 lead20 i hi
  · exact List.map_inj_left.1 lead21 i hi
noncomputable def lbT (i : Nat) : Nat := (leadT i).length + 1
theorem lb_sum : 1970 ≤ 1 + ((List.range 985).map lbT).sum := Nat.le_of_ble_eq_true (by kernel_rfl)
theorem funcs_size : Tryz.prog.funcs.size = 985 := by kernel_rfl
theorem tab_in : SE.T.allI (fun i => clL.contains i) leadTab id = true := by kernel_rfl
theorem lb_in : ∀ i, (leadTab.get i).isSome = true → i ∈ clL := by
  intro i hi
  cases hg : leadTab.get i with
  | none => rw [hg] at hi; cases hi
  | some l => exact List.contains_iff_mem.1 (SE.T.allI_get tab_in hg)
theorem closure3 : Tryz.prog.closure 3 = clL := by
  unfold Program.closure
  rw [clos_eq]
  refine closE_done 1970 _ _ _ _ (closE_congr _ _ _ _ clos_run lead_all) ?_
  have h1 := sum_ge (g := fun g => (Tryz.prog.leadsTo g).length + 1) (lb := lbT) Tryz.prog.funcs.toList 0 (by
    intro i x hx
    rw [Nat.zero_add]
    have hx' : Tryz.prog.funcs[i]? = some x := by simpa using hx
    show (leadT i).length + 1 ≤ (Tryz.prog.leadsTo x).length + 1
    cases hs : (leadTab.get i).isSome with
    | true =>
      have h2 := lead_all i (lb_in i hs)
      unfold leadF at h2
      rw [hx'] at h2
      have h2 : Tryz.prog.leadsTo x = leadT i := h2
      rw [h2]
      exact Nat.le_refl _
    | false =>
      have : leadT i = [] := by
        unfold leadT
        cases hg : leadTab.get i with
        | none => rfl
        | some l => rw [hg] at hs; cases hs
      rw [this]
      simp)
  rw [Array.length_toList, funcs_size] at h1
  simp only [Nat.zero_add] at h1
  have h1 : ((List.range 985).map lbT).sum ≤ _ := h1
  have := lb_sum
  show _ ≤ 1 + (Tryz.prog.funcs.toList.map fun g => (Tryz.prog.leadsTo g).length + 1).sum
  omega
end Go.Proofs.YtoklobcagaolmaaGreatDoor
