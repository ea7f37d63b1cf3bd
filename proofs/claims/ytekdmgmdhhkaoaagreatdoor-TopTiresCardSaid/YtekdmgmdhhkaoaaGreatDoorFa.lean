/- THE FUNCTIONS that the call comes to (the closure), piece by piece. No condition. -/
import Derived.Test.YtekdmgmdhhkaoaaGreatDoorSd
import Derived.JoinedOf
import Derived.KernelRfl
import Derived.Test.YtekdmgmdhhkaoaaGreatDoorRows

namespace Go.Proofs.YtekdmgmdhhkaoaaGreatDoor
set_option maxRecDepth 1000000
/-! ## which functions the call comes to: the closure, once, piece by piece -/
def closT (g : FuncId → List FuncId) : Nat → List FuncId → List FuncId → List FuncId
  | 0, _, seen => seen.reverse
  | _, [], seen => seen.reverse
  | n + 1, f :: todo, seen => if seen.contains f then closT g n todo seen else closT g n (g f ++ todo) (f :: seen)
def closE (g : FuncId → List FuncId) : Nat → List FuncId → List FuncId → Option (List FuncId)
  | _, [], seen => some seen.reverse
  | 0, _ :: _, _ => none
  | n + 1, f :: todo, seen => if seen.contains f then closE g n todo seen else closE g n (g f ++ todo) (f :: seen)
noncomputable def leadF (i : FuncId) : List FuncId := (Tryz.prog.funcs[i]?).elim [] Tryz.prog.leadsTo
theorem clos_eq : ∀ (n : Nat) (todo seen : List FuncId), Tryz.prog.closureVia n todo seen = closT leadF n todo seen
  | 0, todo, seen => by cases todo <;> rfl
  | n + 1, [], seen => rfl
  | n + 1, f :: todo, seen => by
    unfold Program.closureVia closT
    split
    · exact clos_eq n _ _
    · exact clos_eq n _ _
theorem closE_done {g : FuncId → List FuncId} : ∀ (n m : Nat) (todo seen r : List FuncId), closE g n todo seen = some r → n ≤ m → closT g m todo seen = r
  | n, 0, [], seen, r, h, _ => by cases n <;> (cases h; rfl)
  | n, m + 1, [], seen, r, h, _ => by cases n <;> (cases h; rfl)
  | 0, m, f :: todo, seen, r, h, _ => by cases h
  | n + 1, 0, f :: todo, seen, r, h, hm => by omega
  | n + 1, m + 1, f :: todo, seen, r, h, hm => by
    unfold closE at h
    unfold closT
    split
    · rename_i hs
      rw [if_pos hs] at h
      exact closE_done n m _ _ r h (by omega)
    · rename_i hs
      rw [if_neg hs] at h
      exact closE_done n m _ _ r h (by omega)
theorem closE_seen {g : FuncId → List FuncId} : ∀ (n : Nat) (todo seen r : List FuncId), closE g n todo seen = some r → ∀ i ∈ seen, i ∈ r
  | n, [], seen, r, h, i, hi => by cases n <;> (cases h; simpa using hi)
  | 0, f :: todo, seen, r, h, i, hi => by cases h
  | n + 1, f :: todo, seen, r, h, i, hi => by
    unfold closE at h
    split at h
    · exact closE_seen n _ _ r h i hi
    · exact closE_seen n _ _ r h i (by simp [hi])
theorem closE_congr {g g' : FuncId → List FuncId} : ∀ (n : Nat) (todo seen r : List FuncId), closE g n todo seen = some r → (∀ i ∈ r, g' i = g i) → closE g' n todo seen = some r
  | n, [], seen, r, h, _ => by cases n <;> exact h
  | 0, f :: todo, seen, r, h, _ => by cases h
  | n + 1, f :: todo, seen, r, h, hg => by
    unfold closE at h ⊢
    split
    · rename_i hs
      rw [if_pos hs] at h
      exact closE_congr n _ _ r h hg
    · rename_i hs
      rw [if_neg hs] at h
      rw [hg f (closE_seen n _ _ r h f (by simp))]
      exact closE_congr n _ _ r h hg
/-- a sum over all, at least -/
theorem sum_ge {α : Type} {g : α → Nat} {lb : Nat → Nat} : ∀ (l : List α) (k : Nat), (∀ i x, l[i]? = some x → lb (k + i) ≤ g x) → ((List.range l.length).map fun i => lb (k + i)).sum ≤ (l.map g).sum
  | [], k, _ => by simp
  | x :: l, k, h => by
    have ih := sum_ge (g := g) (lb := lb) l (k + 1) (fun i y hy => by rw [show k + 1 + i = k + (i + 1) by omega]; exact h (i + 1) y (by simpa using hy))
    have h0 := h 0 x rfl
    simp only [List.length_cons, List.range_succ_eq_map, List.map_cons, List.map_map, List.sum_cons]
    have e : ((List.range l.length).map ((fun i => lb (k + i)) ∘ Nat.succ)) = ((List.range l.length).map fun i => lb (k + 1 + i)) := by
      apply List.map_congr_left
      intro i _
      simp only [Function.comp]
      congr 1
      omega
    rw [e]
    omega
noncomputable def leadTab : SE.T (List FuncId) := (.n (.n (.n (.n (.n (.n (.n (.n (.n (.n .e (some [177]) .e) (some [397, 399]) .e) (some [208, 210, 212, 214, 216, 218, 220, 225, 225]) (.n (.n .e (some []) .e) (some []) .e)) (some []) (.n (.n (.n .e (some []) .e) (some []) .e) (some [228]) (.n .e (some []) .e))) (some []) (.n (.n (.n (.n .e (some [601, 602, 603, 604]) .e) (some [434]) .e) (some [66]) (.n (.n .e (some [538]) .e) (some [483, 484, 485, 486]) .e)) (some []) (.n (.n (.n .e (some [651, 652, 652, 652, 653]) .e) (some [449]) .e) (some [381, 382, 383]) (.n .e (some [76, 73, 518, 536, 535, 421]) .e)))) (some [36, 35]) (.n (.n (.n (.n (.n .e (some []) .e) (some [272, 273]) .e) (some [265, 270, 271, 263]) (.n (.n .e (some []) .e) (some [471, 474, 473]) .e)) (some []) (.n (.n (.n .e (some []) .e) (some []) .e) (some [204]) (.n .e (some [524]) .e))) (some [102, 103, 103]) (.n (.n (.n (.n .e (some [620, 619, 618, 621, 620, 619, 618, 622]) .e) (some []) .e) (some []) (.n (.n .e (some [683, 662, 657, 657, 657, 662]) .e) (some [505]) .e)) (some [50, 18, 185]) (.n (.n (.n .e (some [657, 657, 658, 660, 659, 661, 662]) .e) (some [458, 360, 363, 364]) .e) (some [240, 206]) (.n .e (some []) .e))))) (some [23, 22, 24]) (.n (.n (.n (.n (.n (.n .e (some [583, 55]) .e) (some [408, 409]) .e) (some [130, 261, 22]) (.n (.n .e (some [676, 675]) .e) (some []) .e)) (some []) (.n (.n (.n .e (some [174]) .e) (some []) .e) (some [363, 360]) (.n .e (some []) .e))) (some [94, 95, 96, 97]) (.n (.n (.n (.n .e (some [363]) .e) (some []) .e) (some [180, 166, 179]) (.n (.n .e (some []) .e) (some []) .e)) (some [182]) (.n (.n (.n .e (some []) .e) (some [360]) .e) (some [228, 232]) (.n .e (some [488, 526, 206]) .e)))) (some [67, 66]) (.n (.n (.n (.n (.n .e (some [591, 592]) .e) (some [68]) .e) (some []) (.n (.n .e (some []) .e) (some [80]) .e)) (some [164]) (.n (.n (.n .e (some [76, 204, 76, 370]) .e) (some [446]) .e) (some [379, 377]) (.n .e (some []) .e))) (some [119, 120]) (.n (.n (.n (.n .e (some []) .e) (some []) .e) (some []) (.n .e (some [509]) .e)) (some [174]) (.n (.n (.n .e (some []) .e) (some [466, 467, 468, 422, 421, 421, 469, 422, 423, 421, 421]) .e) (some [248]) (.n .e (some [569, 570]) .e)))))) (some [4, 4, 6, 6, 6, 5, 7, 8, 8, 9, 10, 9, 11, 12, 10, 13, 14]) (.n (.n (.n (.n (.n (.n (.n .e (some []) .e) (some [401, 402, 403, 404]) .e) (some [257]) (.n (.n .e (some []) .e) (some []) .e)) (some [68]) (.n (.n (.n .e (some [87, 513]) .e) (some [438]) .e) (some [359, 361, 362, 363, 357, 357, 364, 364, 186, 358, 357, 362, 365]) (.n .e (some []) .e))) (some [86, 54, 56, 87, 88, 89, 90]) (.n (.n (.n (.n .e (some []) .e) (some []) .e) (some [282, 263]) (.n (.n .e (some []) .e) (some [499]) .e)) (some [177, 178]) (.n (.n (.n .e (some []) .e) (some []) .e) (some [385]) (.n .e (some [388]) .e)))) (some [51, 52, 53]) (.n (.n (.n (.n (.n .e (some []) .e) (some [418, 75, 424, 263]) .e) (some [275, 130]) (.n (.n .e (some [683, 682, 662, 668, 657, 683, 662, 669, 657, 684]) .e) (some []) .e)) (some [159, 22, 160, 133, 136, 161, 130]) (.n (.n (.n .e (some [639, 640, 641, 642, 642]) .e) (some [165]) .e) (some [376, 377, 378]) (.n .e (some [526, 422, 421]) .e))) (some [111]) (.n (.n (.n (.n .e (some []) .e) (some []) .e) (some [351]) (.n (.n .e (some [692]) .e) (some []) .e)) (some [186]) (.n (.n (.n .e (some []) .e) (some [459, 373]) .e) (some [244]) (.n .e (some []) .e))))) (some [27, 28, 29, 30]) (.n (.n (.n (.n (.n (.n .e (some [583, 55]) .e) (some [79, 79]) .e) (some []) (.n (.n .e (some [679]) .e) (some [392]) .e)) (some [153]) (.n (.n (.n .e (some []) .e) (some [99]) .e) (some [204, 205, 206]) (.n .e (some []) .e))) (some [101, 44, 100]) (.n (.n (.n (.n .e (some []) .e) (some []) .e) (some [87, 89, 89, 89, 337, 89]) (.n (.n .e (some [662, 657, 662]) .e) (some [504]) .e)) (some []) (.n (.n (.n .e (some []) .e) (some []) .e) (some [228, 236]) (.n .e (some [551, 75, 206, 413, 206, 206]) .e)))) (some []) (.n (.n (.n (.n (.n .e (some []) .e) (some []) .e) (some []) (.n (.n .e (some [566]) .e) (some []) .e)) (some [172, 173, 174]) (.n (.n (.n .e (some [605, 605, 606, 607, 611]) .e) (some [447]) .e) (some [377]) (.n .e (some [530, 375]) .e))) (some []) (.n (.n (.n (.n .e (some []) .e) (some []) .e) (some []) (.n .e (some []) .e)) (some [187]) (.n (.n (.n .e (some []) .e) (some []) .e) (some [252]) (.n .e (some []) .e))))))) none (.n (.n (.n (.n (.n (.n (.n (.n .e (some [108, 577]) .e) (some [45, 400, 400]) .e) (some [241, 243, 245, 247, 249, 251, 253, 256, 225]) (.n (.n .e (some []) .e) (some []) .e)) (some [135, 136, 137, 130]) (.n (.n (.n .e (some [511, 178]) .e) (some []) .e) (some [356, 126, 357, 357, 358, 358, 357]) (.n .e (some []) .e))) (some [77, 66]) (.n (.n (.n (.n .e (some [609, 583, 610, 591, 592, 611, 612, 612]) .e) (some []) .e) (some [263, 281]) (.n (.n .e (some []) .e) (some [494, 495, 471, 496, 497, 471, 498]) .e)) (some [92, 175, 94, 176, 97]) (.n (.n (.n .e (some [654, 655]) .e) (some [107, 47]) .e) (some []) (.n .e (some [539]) .e)))) (some [40, 41, 42, 43, 44, 45]) (.n (.n (.n (.n (.n .e (some []) .e) (some [413, 76, 414, 415, 416, 75, 417, 418, 75, 419, 420, 75, 422, 423, 421]) .e) (some []) (.n (.n .e (some [662]) .e) (some []) .e)) (some [154, 133, 136, 143, 130]) (.n (.n (.n .e (some []) .e) (some [87, 440]) .e) (some []) (.n .e (some []) .e))) (some [106, 107, 108, 107, 107]) (.n (.n (.n (.n .e (some [624, 625, 624, 502, 456]) .e) (some []) .e) (some [345, 345, 345, 345, 345, 345, 346]) (.n (.n .e (some []) .e) (some [287, 506, 287, 507, 506, 508]) .e)) (some []) (.n (.n (.n .e (some [622, 620, 619, 664, 665, 388, 666, 621, 664, 665]) .e) (some [460, 461, 76, 462, 461]) .e) (some [242]) (.n .e (some [558, 559]) .e))))) (some [25, 26]) (.n (.n (.n (.n (.n (.n .e (some [580, 580]) .e) (some [76]) .e) (some [264, 263]) (.n (.n .e (some []) .e) (some []) .e)) (some [149, 150, 150, 151, 151]) (.n (.n (.n .e (some [639]) .e) (some []) .e) (some [126]) (.n .e (some [388]) .e))) (some []) (.n (.n (.n (.n .e (some [399]) .e) (some []) .e) (some [308, 309, 113, 308, 310, 113, 308, 311, 312, 308, 313, 312, 314, 315, 314, 316, 314, 317, 314, 318, 314, 319, 314, 320, 314, 321, 314, 322, 323, 324, 323, 325, 323, 326, 323, 327, 323, 328, 323, 329, 330, 332, 333]) (.n (.n .e (some []) .e) (some [494, 471, 495, 471, 501, 502]) .e)) (some [184, 104]) (.n (.n (.n .e (some [656, 515]) .e) (some [455, 454]) .e) (some [234]) (.n .e (some [548, 549]) .e)))) (some []) (.n (.n (.n (.n (.n .e (some []) .e) (some []) .e) (some []) (.n (.n .e (some []) .e) (some [72, 475, 476, 477, 478, 479]) .e)) (some []) (.n (.n (.n .e (some []) .e) (some []) .e) (some [379, 377]) (.n .e (some []) .e))) (some []) (.n (.n (.n (.n .e (some [539, 121, 630]) .e) (some []) .e) (some [354]) (.n .e (some [165, 510, 165, 507, 506]) .e)) (some []) (.n (.n (.n .e (some []) .e) (some []) .e) (some [250]) (.n .e (some []) .e)))))) (some [15, 16, 17, 18, 19, 20, 21]) (.n (.n (.n (.n (.n (.n (.n .e (some [581, 55, 57, 58]) .e) (some [407, 66]) .e) (some [130]) (.n (.n .e (some [675]) .e) (some [457]) .e)) (some [140, 141, 142, 134, 143, 130, 135, 136, 135, 144, 22, 146, 145, 147]) (.n (.n (.n .e (some []) .e) (some []) .e) (some [366, 126, 361, 367]) (.n .e (some [47, 514, 183, 47, 514, 183, 47, 452, 183, 49]) .e))) (some [87, 91]) (.n (.n (.n (.n .e (some [615]) .e) (some []) .e) (some [287]) (.n (.n .e (some []) .e) (some [469, 426]) .e)) (some []) (.n (.n (.n .e (some [638]) .e) (some []) .e) (some [230]) (.n .e (some [543, 421, 150, 150, 541, 544, 461, 421, 541]) .e)))) (some [63, 63, 63]) (.n (.n (.n (.n (.n .e (some [590]) .e) (some [428, 429]) .e) (some []) (.n (.n .e (some [686, 686, 657, 657, 685, 662, 687, 685, 685, 662, 659]) .e) (some [204, 283, 153, 124, 406, 153, 206, 206]) .e)) (some [134, 135, 136, 163, 130]) (.n (.n (.n .e (some [614]) .e) (some [286]) .e) (some [379, 380, 380, 378, 378, 365]) (.n .e (some [527, 527, 528]) .e))) (some [52, 53, 53, 52, 53, 53, 53, 53]) (.n (.n (.n (.n .e (some [566, 566, 626, 627, 628, 629, 626, 628]) .e) (some []) .e) (some []) (.n .e (some [440, 116]) .e)) (some [114]) (.n (.n (.n .e (some [668, 668, 628, 566, 669, 669, 669, 667, 566]) .e) (some []) .e) (some [246]) (.n .e (some [563, 564, 565, 566, 567, 568]) .e))))) (some [32, 33, 22, 24]) (.n (.n (.n (.n (.n (.n .e (some [586, 587, 587, 587, 587, 587, 587, 587, 587, 587, 587, 587, 587, 587, 587, 587, 587, 587, 587, 587, 587, 587, 587, 587, 587, 587, 587, 587, 587, 587, 587, 587, 587, 587, 587, 587, 587, 587, 587, 587, 587, 587, 587, 587, 587, 587, 587, 587, 587, 587, 587, 587, 587, 587, 587, 587, 587, 588]) .e) (some [79, 80]) .e) (some [75, 75]) (.n (.n .e (some [680, 681]) .e) (some [390, 392]) .e)) (some [78, 79, 80]) (.n (.n (.n .e (some [388]) .e) (some [334]) .e) (some []) (.n .e (some [204, 206]) .e))) (some []) (.n (.n (.n (.n .e (some [564, 568]) .e) (some []) .e) (some [87, 342, 343]) (.n (.n .e (some [691]) .e) (some []) .e)) (some [110]) (.n (.n (.n .e (some [622, 620]) .e) (some [186, 457]) .e) (some [238]) (.n .e (some [75, 553, 554, 421]) .e)))) (some []) (.n (.n (.n (.n (.n .e (some [599, 461]) .e) (some [430, 432, 286]) .e) (some [66, 278, 279, 66]) (.n (.n .e (some []) .e) (some []) .e)) (some [93]) (.n (.n (.n .e (some [601]) .e) (some [447, 343, 448]) .e) (some []) (.n .e (some [74, 522, 461, 421, 461]) .e))) (some [123, 122]) (.n (.n (.n (.n .e (some []) .e) (some []) .e) (some [191, 190, 126]) (.n .e (some [511]) .e)) (some [189, 192, 194, 196, 198, 200, 202, 203, 207]) (.n (.n (.n .e (some [433]) .e) (some []) .e) (some [248, 254, 255]) (.n .e (some [571]) .e)))))))) none (.n (.n (.n (.n (.n (.n (.n (.n (.n .e (some [573, 574, 575, 576]) .e) (some []) .e) (some [226, 229, 231, 233, 235, 237, 239, 225, 225]) (.n (.n .e (some []) .e) (some [470]) .e)) (some [130, 131, 132, 133, 134]) (.n (.n (.n .e (some [635, 636]) .e) (some []) .e) (some [193]) (.n .e (some []) .e))) (some []) (.n (.n (.n (.n .e (some [605, 581, 606, 607, 608]) .e) (some []) .e) (some [258, 280]) (.n (.n .e (some []) .e) (some [483, 487, 488, 489, 206, 490, 206, 206, 206, 206, 491, 492, 493, 206]) .e)) (some []) (.n (.n (.n .e (some [581]) .e) (some [450, 47, 451, 183, 353, 48, 49, 47, 183, 47, 452, 183, 47, 452, 183, 47, 452, 183, 47, 453, 47, 453, 453]) .e) (some [384]) (.n .e (some [538, 537]) .e)))) (some [37, 38, 39]) (.n (.n (.n (.n (.n .e (some []) .e) (some [410]) .e) (some [274, 66]) (.n (.n .e (some []) .e) (some []) .e)) (some [78]) (.n (.n (.n .e (some [584, 610, 607]) .e) (some []) .e) (some [209]) (.n .e (some [525]) .e))) (some [105, 104]) (.n (.n (.n (.n .e (some [556, 623, 568]) .e) (some []) .e) (some []) (.n (.n .e (some []) .e) (some []) .e)) (some []) (.n (.n (.n .e (some [663]) .e) (some [459, 373, 373]) .e) (some []) (.n .e (some [556, 557]) .e))))) (some []) (.n (.n (.n (.n (.n (.n .e (some [584]) .e) (some [265, 204, 206]) .e) (some [262]) (.n (.n .e (some [678, 647]) .e) (some []) .e)) (some [148]) (.n (.n (.n .e (some [638, 590]) .e) (some []) .e) (some [201]) (.n .e (some []) .e))) (some [98, 98, 98]) (.n (.n (.n (.n .e (some [363, 534]) .e) (some []) .e) (some [288, 289, 290, 291, 292, 293, 294, 295, 296, 297, 298, 299, 300, 301, 302, 303, 304, 305, 306, 307]) (.n (.n .e (some [689, 690]) .e) (some [418, 75, 75, 425, 426, 419]) .e)) (some [47, 183]) (.n (.n (.n .e (some [549]) .e) (some []) .e) (some [387, 388, 385, 230, 365, 365]) (.n .e (some [388]) .e)))) (some [69]) (.n (.n (.n (.n (.n .e (some [228]) .e) (some [401, 403, 402, 259]) .e) (some []) (.n (.n .e (some []) .e) (some []) .e)) (some [165, 166, 167, 166]) (.n (.n (.n .e (some [639, 644, 641, 642, 643]) .e) (some []) .e) (some [217]) (.n .e (some [529]) .e))) (some []) (.n (.n (.n (.n .e (some []) .e) (some []) .e) (some [352, 353, 184, 183]) (.n .e (some []) .e)) (some [58]) (.n (.n (.n .e (some []) .e) (some []) .e) (some [395, 389]) (.n .e (some [571]) .e)))))) (some []) (.n (.n (.n (.n (.n (.n (.n .e (some [580, 55]) .e) (some [265, 270, 405, 263]) .e) (some [258, 259]) (.n (.n .e (some []) .e) (some []) .e)) (some [78]) (.n (.n (.n .e (some [174]) .e) (some []) .e) (some [197]) (.n .e (some [513, 107, 107, 47]) .e))) (some []) (.n (.n (.n (.n .e (some []) .e) (some []) .e) (some [284, 285, 286]) (.n (.n .e (some []) .e) (some [75, 417, 273, 500, 422, 421]) .e)) (some [179, 165, 165, 179, 165, 179, 180, 181, 99, 179, 180]) (.n (.n (.n .e (some [638]) .e) (some []) .e) (some []) (.n .e (some [540, 421, 149, 149, 541, 542, 152, 152, 541]) .e)))) (some [54, 55, 56, 57, 58, 59, 60, 61, 62]) (.n (.n (.n (.n (.n .e (some [589]) .e) (some [427, 401, 427, 427, 259]) .e) (some []) (.n (.n .e (some [685, 685]) .e) (some [351]) .e)) (some [162]) (.n (.n (.n .e (some []) .e) (some [441, 442, 443, 444, 441]) .e) (some [213]) (.n .e (some [421, 488]) .e))) (some [52, 52, 52]) (.n (.n (.n (.n .e (some []) .e) (some [435]) .e) (some []) (.n (.n .e (some []) .e) (some [437]) .e)) (some []) (.n (.n (.n .e (some [667, 667, 667, 667]) .e) (some [463]) .e) (some [390, 391, 392, 393]) (.n .e (some []) .e))))) (some [31]) (.n (.n (.n (.n (.n (.n .e (some []) .e) (some []) .e) (some []) (.n (.n .e (some [680]) .e) (some []) .e)) (some []) (.n (.n (.n .e (some [586, 587, 587, 587, 587, 587, 587, 587, 587, 587, 587, 587, 587, 587, 587, 587, 587, 587, 587, 587, 587, 587, 587, 587, 587, 587, 587, 587, 587, 587, 587, 587, 587, 587, 587, 587, 587, 587, 587, 587, 587, 587, 587, 587, 587, 587, 587, 587, 587, 587, 587, 587, 587, 587, 587, 587, 587, 587, 587, 587, 587, 587, 587, 587, 587]) .e) (some [337]) .e) (some [371, 372, 373]) (.n .e (some [516, 517, 518, 519, 520, 421]) .e))) (some [100]) (.n (.n (.n (.n .e (some []) .e) (some []) .e) (some [338, 165, 339, 340, 341]) (.n (.n .e (some [662, 682, 682]) .e) (some [429]) .e)) (some []) (.n (.n (.n .e (some []) .e) (some [358, 456]) .e) (some [387, 385]) (.n .e (some [552, 75, 206]) .e)))) (some [70]) (.n (.n (.n (.n (.n .e (some [595, 596, 580, 597, 598]) .e) (some [430, 431]) .e) (some [155, 277]) (.n (.n .e (some []) .e) (some [283, 480, 481]) .e)) (some []) (.n (.n (.n .e (some [650, 650]) .e) (some [447]) .e) (some [221, 223, 222, 224, 206]) (.n .e (some [73, 531, 461, 532, 421, 533, 461, 421, 461]) .e))) (some [121]) (.n (.n (.n (.n .e (some []) .e) (some []) .e) (some []) (.n .e (some []) .e)) (some [188]) (.n (.n (.n .e (some [672, 673]) .e) (some [388]) .e) (some []) (.n .e (some [572]) .e))))))) none (.n (.n (.n (.n (.n (.n (.n (.n .e (some [107, 578, 579, 513, 107, 47]) .e) (some []) .e) (some [156, 157, 22]) (.n (.n .e (some []) .e) (some []) .e)) (some [138, 139]) (.n (.n (.n .e (some [637]) .e) (some []) .e) (some [191, 195]) (.n .e (some []) .e))) (some [81, 82, 83, 84, 85]) (.n (.n (.n (.n .e (some [609, 613, 613, 614, 613, 607, 613, 613]) .e) (some []) .e) (some []) (.n (.n .e (some []) .e) (some []) .e)) (some []) (.n (.n (.n .e (some [614]) .e) (some []) .e) (some [228, 227]) (.n .e (some []) .e)))) (some [46, 47, 48, 49, 50]) (.n (.n (.n (.n (.n .e (some [72, 374, 374]) .e) (some []) .e) (some [141, 155, 155]) (.n (.n .e (some [657, 657, 662, 662, 662, 657, 682]) .e) (some []) .e)) (some [155, 156, 157, 22, 155, 146, 147, 25, 158]) (.n (.n (.n .e (some []) .e) (some []) .e) (some [211]) (.n .e (some [465]) .e))) (some [109]) (.n (.n (.n (.n .e (some [555]) .e) (some []) .e) (some [347, 348, 349, 350]) (.n (.n .e (some []) .e) (some []) .e)) (some []) (.n (.n (.n .e (some []) .e) (some [406, 153, 206, 206]) .e) (some []) (.n .e (some [471, 560, 561, 562, 495]) .e))))) (some [5, 7, 14]) (.n (.n (.n (.n (.n (.n .e (some [585]) .e) (some [267, 268]) .e) (some [266, 269, 139]) (.n (.n .e (some []) .e) (some [389]) .e)) (some [152]) (.n (.n (.n .e (some [587]) .e) (some [331]) .e) (some [368, 76, 369, 370]) (.n .e (some []) .e))) (some [99, 100]) (.n (.n (.n (.n .e (some [398]) .e) (some []) .e) (some [89, 336, 335, 115, 89]) (.n (.n .e (some [662]) .e) (some [75, 503]) .e)) (some []) (.n (.n (.n .e (some []) .e) (some [388]) .e) (some [387]) (.n .e (some [488, 550, 153, 464, 206, 206]) .e)))) (some []) (.n (.n (.n (.n (.n .e (some [593, 594]) .e) (some [265, 206, 205, 204, 283]) .e) (some [160, 276]) (.n (.n .e (some [688]) .e) (some [411, 412]) .e)) (some [168, 89, 169, 89, 89, 170, 171]) (.n (.n (.n .e (some [645, 646, 647, 648, 649, 581]) .e) (some [345, 345, 345, 345, 345, 345]) .e) (some [219]) (.n .e (some [529]) .e))) (some []) (.n (.n (.n (.n .e (some [121, 631]) .e) (some [436]) .e) (some [355]) (.n .e (some []) .e)) (some [187]) (.n (.n (.n .e (some []) .e) (some []) .e) (some [395]) (.n .e (some []) .e)))))) (some []) (.n (.n (.n (.n (.n (.n (.n .e (some [536, 582, 421]) .e) (some [76]) .e) (some [260, 130]) (.n (.n .e (some [676, 677]) .e) (some []) .e)) (some []) (.n (.n (.n .e (some [608, 589]) .e) (some []) .e) (some [191, 199]) (.n .e (some [515]) .e))) (some [92, 93]) (.n (.n (.n (.n .e (some [489, 616, 617]) .e) (some []) .e) (some []) (.n (.n .e (some []) .e) (some []) .e)) (some []) (.n (.n (.n .e (some [222]) .e) (some []) .e) (some [386]) (.n .e (some [536, 545, 421, 151, 151, 541, 546, 421, 547, 547, 541]) .e)))) (some [64, 65]) (.n (.n (.n (.n (.n .e (some [357]) .e) (some []) .e) (some []) (.n (.n .e (some []) .e) (some []) .e)) (some [38, 39]) (.n (.n (.n .e (some [639, 643]) .e) (some [445, 178]) .e) (some [215]) (.n .e (some []) .e))) (some [112, 113, 113, 114, 115, 114, 116, 116, 116, 116, 116, 117, 117, 116, 114, 114, 114, 118, 114, 118, 118, 118, 118, 114]) (.n (.n (.n (.n .e (some []) .e) (some []) .e) (some []) (.n .e (some [439, 439, 440]) .e)) (some [116]) (.n (.n (.n .e (some [671, 670]) .e) (some [464, 465]) .e) (some [394, 395, 391, 393, 396, 396, 396]) (.n .e (some [558, 528, 559]) .e))))) (some [32, 34, 24]) (.n (.n (.n (.n (.n (.n .e (some [527]) .e) (some []) .e) (some []) (.n (.n .e (some []) .e) (some [471, 472, 473]) .e)) (some []) (.n (.n (.n .e (some []) .e) (some [87, 331]) .e) (some [374, 375]) (.n .e (some [222, 521, 522, 421, 523]) .e))) (some []) (.n (.n (.n (.n .e (some []) .e) (some []) .e) (some [344, 344, 344]) (.n (.n .e (some [657, 662]) .e) (some []) .e)) (some []) (.n (.n (.n .e (some [620]) .e) (some []) .e) (some [389]) (.n .e (some [555]) .e)))) (some [71, 72, 73, 74, 75, 76]) (.n (.n (.n (.n (.n .e (some [600]) .e) (some [433]) .e) (some []) (.n (.n .e (some []) .e) (some [482]) .e)) (some []) (.n (.n (.n .e (some [222]) .e) (some [447, 343, 448]) .e) (some [174, 120]) (.n .e (some [75, 206, 422, 534, 421]) .e))) (some [124, 125, 126, 124, 127, 124, 128, 124, 129]) (.n (.n (.n (.n .e (some [633, 632, 634]) .e) (some []) .e) (some []) (.n .e (some [512]) .e)) (some []) (.n (.n (.n .e (some [654, 654, 674]) .e) (some []) .e) (some [397, 398]) (.n .e (some []) .e)))))))))
noncomputable def leadT (i : FuncId) : List FuncId := (leadTab.get i).getD []
def ck0 : List FuncId := [3, 4, 6, 5, 15, 36, 35, 86, 38, 92, 93, 39, 94, 95, 96, 97, 175, 176, 54, 112, 113, 114, 115, 186, 355, 116, 117, 118, 56, 87, 164, 284, 430, 431, 505, 285, 432, 286, 433, 287]
def ck1 : List FuncId := [434, 506, 507, 508, 572, 88, 165, 166, 167, 180, 179, 351, 449, 89, 90, 168, 288, 289, 290, 291, 292, 293, 294, 295, 296, 297, 298, 299, 300, 301, 302, 303, 304, 305, 306, 307, 169, 308, 435, 309]
def ck2 : List FuncId := [310, 311, 312, 313, 314, 436, 437, 440, 315, 316, 317, 318, 319, 320, 321, 322, 323, 438, 439, 509, 571, 324, 325, 326, 327, 328, 329, 330, 331, 99, 177, 345, 346, 178, 347, 447, 348, 349, 343, 446]
def ck3 : List FuncId := [512, 573, 574, 633, 632, 634, 575, 576, 635, 636, 672, 673, 448, 350, 332, 337, 333, 334, 170, 336, 335, 171, 16, 37, 91, 172, 338, 339, 340, 441, 510, 442, 443, 444, 341, 173, 342, 445, 511, 174]
def ck4 : List FuncId := [344, 17, 40, 98, 41, 42, 100, 181, 43, 101, 44, 45, 18, 46, 47, 102, 103, 182, 48, 105, 184, 352, 450, 451, 183, 353, 107, 49, 106, 108, 452, 513, 577, 453, 514, 578, 637, 579, 104, 50]
def ck5 : List FuncId := [109, 110, 19, 51, 111, 185, 354, 52, 53, 20, 55, 119, 120, 58, 57, 59, 60, 121, 61, 123, 187, 122, 62, 124, 188, 125, 189, 191, 228, 190, 126, 192, 193, 356, 357, 358, 194, 195, 359, 360]
def ck6 : List FuncId := [361, 455, 454, 515, 362, 388, 363, 364, 456, 365, 457, 196, 197, 366, 367, 458, 198, 199, 200, 201, 202, 368, 459, 373, 76, 369, 460, 516, 580, 517, 581, 518, 536, 582, 608, 589, 421, 469, 527, 528]
def ck7 : List FuncId := [426, 75, 153, 503, 569, 539, 630, 671, 538, 593, 594, 670, 570, 631, 519, 583, 520, 584, 638, 654, 674, 590, 461, 204, 371, 372, 463, 524, 206, 374, 464, 525, 586, 587, 588, 465, 375, 466, 467, 526]
def ck8 : List FuncId := [422, 468, 488, 423, 462, 222, 521, 522, 585, 639, 523, 370, 406, 203, 205, 207, 127, 208, 209, 210, 211, 376, 377, 378, 212, 213, 379, 380, 214, 215, 216, 217, 218, 219, 220, 221, 223, 381, 382, 383]
def ck9 : List FuncId := [224, 384, 470, 225, 128, 226, 227, 385, 229, 230, 386, 231, 232, 387, 233, 234, 235, 236, 237, 238, 389, 239, 240, 129, 241, 242, 243, 244, 390, 391, 392, 393, 245, 246, 394, 395, 396, 247, 248, 249]
def ck10 : List FuncId := [250, 251, 252, 253, 254, 397, 398, 471, 472, 529, 473, 255, 399, 474, 256, 21, 63, 7, 23, 67, 68, 78, 66, 138, 266, 267, 79, 268, 269, 80, 139, 22, 64, 130, 156, 155, 277, 428, 429, 157]
def ck11 : List FuncId := [278, 279, 131, 257, 400, 132, 258, 259, 401, 402, 403, 404, 133, 134, 260, 265, 270, 405, 283, 263, 408, 409, 72, 148, 475, 530, 476, 73, 149, 150, 151, 531, 532, 533, 477, 74, 152, 478, 534, 479]
def ck12 : List FuncId := [535, 591, 592, 610, 614, 607, 651, 679, 652, 680, 689, 690, 653, 681, 65, 135, 261, 407, 136, 262, 137, 264, 24, 69, 140, 141, 142, 143, 271, 272, 410, 411, 412, 480, 537, 481, 273, 413, 414, 482]
def ck13 : List FuncId := [415, 483, 484, 540, 595, 640, 641, 642, 596, 597, 598, 643, 541, 599, 542, 600, 644, 485, 543, 601, 602, 645, 675, 646, 676, 677, 647, 648, 678, 649, 603, 605, 606, 611, 604, 650, 544, 486, 545, 609]
def ck14 : List FuncId := [655, 612, 546, 613, 547, 416, 487, 489, 548, 549, 615, 490, 550, 616, 617, 656, 491, 551, 492, 552, 493, 553, 554, 417, 494, 555, 495, 496, 556, 557, 564, 568, 497, 558, 559, 620, 619, 618, 621, 622]
def ck15 : List FuncId := [498, 560, 623, 657, 662, 658, 682, 660, 685, 691, 692, 659, 683, 668, 669, 684, 661, 686, 687, 561, 624, 663, 625, 664, 665, 666, 688, 502, 562, 418, 419, 499, 420, 500, 144, 274, 146, 145, 147, 275]
def ck16 : List FuncId := [424, 425, 501, 563, 565, 566, 626, 627, 628, 667, 629, 567, 8, 9, 25, 26, 10, 14, 32, 34, 81, 154, 160, 280, 276, 427, 504, 82, 158, 83, 159, 161, 281, 84, 162, 85, 163, 282, 11, 27]
def ck17 : List FuncId := [28, 70, 29, 30, 71, 12, 31, 13, 33, 77]
def clL : List FuncId := ck0 ++ (ck1 ++ (ck2 ++ (ck3 ++ (ck4 ++ (ck5 ++ (ck6 ++ (ck7 ++ (ck8 ++ (ck9 ++ (ck10 ++ (ck11 ++ (ck12 ++ (ck13 ++ (ck14 ++ (ck15 ++ (ck16 ++ (ck17)))))))))))))))))
theorem lead0 : ck0.map leadF = ck0.map leadT := by kernel_rfl
theorem lead1 : ck1.map leadF = ck1.map leadT := by kernel_rfl
theorem lead2 : ck2.map leadF = ck2.map leadT := by kernel_rfl
theorem lead3 : ck3.map leadF = ck3.map leadT := by kernel_rfl
theorem lead4 : ck4.map leadF = ck4.map leadT := by kernel_rfl
theorem lead5 : ck5.map leadF = ck5.map leadT := by kernel_rfl
theorem lead6 : ck6.map leadF = ck6.map leadT := by kernel_rfl
theorem lead7 : ck7.map leadF = ck7.map leadT := by kernel_rfl
theorem lead8 : ck8.map leadF = ck8.map leadT := by kernel_rfl
theorem lead9 : ck9.map leadF = ck9.map leadT := by kernel_rfl
theorem lead10 : ck10.map leadF = ck10.map leadT := by kernel_rfl
theorem lead11 : ck11.map leadF = ck11.map leadT := by kernel_rfl
theorem lead12 : ck12.map leadF = ck12.map leadT := by kernel_rfl
theorem lead13 : ck13.map leadF = ck13.map leadT := by kernel_rfl
theorem lead14 : ck14.map leadF = ck14.map leadT := by kernel_rfl
theorem lead15 : ck15.map leadF = ck15.map leadT := by kernel_rfl
theorem lead16 : ck16.map leadF = ck16.map leadT := by kernel_rfl
theorem lead17 : ck17.map leadF = ck17.map leadT := by kernel_rfl
theorem clos_run : closE leadT 1467 [3] [] = some clL := by kernel_rfl
theorem lead_all : ∀ i ∈ clL, leadF i = leadT i := by
  intro i hi
  simp only [clL, List.mem_append] at hi
  rcases hi with hi | hi | hi | hi | hi | hi | hi | hi | hi | hi | hi | hi | hi | hi | hi | hi | hi | hi
  · exact List.map_inj_left.1 lead0 i hi
  · exact List.map_inj_left.1 lead1 i hi
  · exact List.map_inj_left.1 lead2 i hi
  · exact List.map_inj_left.1 lead3 i hi
  · exact List.map_inj_left.1 lead4 i hi
  · exact List.map_inj_left.1 lead5 i hi
  · exact List.map_inj_left.1 lead6 i hi
  · exact List.map_inj_left.1 lead7 i hi
  · exact List.map_inj_left.1 lead8 i hi
  · exact List.map_inj_left.1 lead9 i hi
  · exact List.map_inj_left.1 lead10 i hi
  · exact List.map_inj_left.1 lead11 i hi
  · exact List.map_inj_left.1 lead12 i hi
  · exact List.map_inj_left.1 lead13 i hi
  · exact List.map_inj_left.1 lead14 i hi
  · exact List.map_inj_left.1 lead15 i hi
  · exact List.map_inj_left.1 lead16 i hi
  · exact List.map_inj_left.1 lead17 i hi
noncomputable def lbT (i : Nat) : Nat := (leadT i).length + 1
theorem lb_sum : 1467 ≤ 1 + ((List.range 807).map lbT).sum := Nat.le_of_ble_eq_true (by kernel_rfl)
theorem funcs_size : Tryz.prog.funcs.size = 807 := by kernel_rfl
theorem tab_in : SE.T.allI (fun i => clL.contains i) leadTab id = true := by kernel_rfl
theorem lb_in : ∀ i, (leadTab.get i).isSome = true → i ∈ clL := by
  intro i hi
  cases hg : leadTab.get i with
  | none => rw [hg] at hi; cases hi
  | some l => exact List.contains_iff_mem.1 (SE.T.allI_get tab_in hg)
theorem closure3 : Tryz.prog.closure 3 = clL := by
  unfold Program.closure
  rw [clos_eq]
  refine closE_done 1467 _ _ _ _ (closE_congr _ _ _ _ clos_run lead_all) ?_
  have h1 := sum_ge (g := fun g => (Tryz.prog.leadsTo g).length + 1) (lb := lbT) Tryz.prog.funcs.toList 0 (by
    intro i x hx
    rw [Nat.zero_add]
    have hx' : Tryz.prog.funcs[i]? = some x := by simpa using hx
    show (leadT i).length + 1 ≤ (Tryz.prog.leadsTo x).length + 1
    cases hs : (leadTab.get i).isSome with
    | true =>
      have h2 := lead_all i (lb_in i hs)
      unfold leadF at h2
      rw [hx'] at h2
      have h2 : Tryz.prog.leadsTo x = leadT i := h2
      rw [h2]
      exact Nat.le_refl _
    | false =>
      have : leadT i = [] := by
        unfold leadT
        cases hg : leadTab.get i with
        | none => rfl
        | some l => rw [hg] at hs; cases hs
      rw [this]
      simp)
  rw [Array.length_toList, funcs_size] at h1
  simp only [Nat.zero_add] at h1
  have h1 : ((List.range 807).map lbT).sum ≤ _ := h1
  have := lb_sum
  show _ ≤ 1 + (Tryz.prog.funcs.toList.map fun g => (Tryz.prog.leadsTo g).length + 1).sum
  omega
end Go.Proofs.YtekdmgmdhhkaoaaGreatDoor
