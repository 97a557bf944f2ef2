/- Printed by a program of this claim: the machine side of its law, for every input; no condition. -/
import Derived.Test.YtifpomknkjegeaaDoorPAllx0
namespace Go.Proofs.YtifpomknkjegeaaDoor.PAll
open Go.RowKit Go.Proofs.YtifpomknkjegeaaDoorW.PrintWords Go.Proofs.YtifpomknkjegeaaDoorW.PrintLast Go.Proofs.YtifpomknkjegeaaDoorW.PrintMore
attribute [local go_sem] max2_int min2_int max_two min_two max_three min_three max_four min_four
set_option linter.unusedVariables false
set_option linter.unusedSimpArgs false
attribute [local go_sem] all_u8 all_u32 all_u64
mutual
def sandglassref07_above.l0 : Nat → List Int → Int → Int → Int → Option (Bool)
 | 0, _, _, _, _ => none
 | k + 1, x0, x1, x2, x7 => if x7 > x2 then (if 0 ≤ x7 then (if x7 < (x0.length : Int) then (if (rd x0 x7) > 0 then (some true) else (sandglassref07_above.l0 k x0 x1 x2 (wrap64 (x7 - 1)))) else (none)) else (none)) else (if 0 ≤ x2 then (if x2 < (x0.length : Int) then (if (rd x0 x2) = x1 then (sandglassref07_above.l1 k x0 x2 0) else (some (decide ((rd x0 x2) > x1)))) else (none)) else (none))
def sandglassref07_above.l1 : Nat → List Int → Int → Int → Option (Bool)
 | 0, _, _, _ => none
 | k + 1, x0, x2, x8 => if x8 < x2 then (if 0 ≤ x8 then (if x8 < (x0.length : Int) then (if (rd x0 x8) > 0 then (some true) else (sandglassref07_above.l1 k x0 x2 (wrap64 (x8 + 1)))) else (none)) else (none)) else (some false)
end
def sandglassref07_above.f (k : Nat) (l0 : List Int) (a1 : Int) (a2 : Int) : Option (Bool) := sandglassref07_above.l0 k l0 a1 a2 (wrap64 ((l0.length : Int) - 1))
theorem sandglassref07_above.mono_l : ∀ k, (∀ y0 y1 y2 y3, LeO (sandglassref07_above.l0 k y0 y1 y2 y3) (sandglassref07_above.l0 (k + 1) y0 y1 y2 y3)) ∧ (∀ y0 y1 y2, LeO (sandglassref07_above.l1 k y0 y1 y2) (sandglassref07_above.l1 (k + 1) y0 y1 y2))
 | 0 => ⟨fun _ _ _ _ r h => by simp [sandglassref07_above.l0] at h, fun _ _ _ r h => by simp [sandglassref07_above.l1] at h⟩
 | k + 1 => by
  obtain ⟨ih0, ih1⟩ := sandglassref07_above.mono_l k
  refine ⟨?_, ?_⟩
  ·
   intro y0 y1 y2 y3
   unfold sandglassref07_above.l0
   repeat' first
   | (with_reducible exact ih0 _ _ _ _)
   | (with_reducible exact ih1 _ _ _)
   | (with_reducible exact LeO.refl _)
   | (with_reducible exact LeO.none _)
   | (with_reducible refine LeO.ite ?_ ?_)
   | (with_reducible refine LeO.bind ?_ (fun _ => ?_))
   | exact ih0 _ _ _ _
   | exact ih1 _ _ _
   | exact LeO.none _
   | refine LeO.ite ?_ ?_
   | refine LeO.bind ?_ (fun _ => ?_)
  ·
   intro y0 y1 y2
   unfold sandglassref07_above.l1
   repeat' first
   | (with_reducible exact ih0 _ _ _ _)
   | (with_reducible exact ih1 _ _ _)
   | (with_reducible exact LeO.refl _)
   | (with_reducible exact LeO.none _)
   | (with_reducible refine LeO.ite ?_ ?_)
   | (with_reducible refine LeO.bind ?_ (fun _ => ?_))
   | exact ih0 _ _ _ _
   | exact ih1 _ _ _
   | exact LeO.none _
   | refine LeO.ite ?_ ?_
   | refine LeO.bind ?_ (fun _ => ?_)
theorem sandglassref07_above.mono : ∀ a0 a1 a2 k, LeO (sandglassref07_above.f k a0 a1 a2) (sandglassref07_above.f (k + 1) a0 a1 a2) := by
 intro a0 a1 a2 k
 obtain ⟨ih0, ih1⟩ := sandglassref07_above.mono_l k
 unfold sandglassref07_above.f
 repeat' first
   | (with_reducible exact ih0 _ _ _ _)
   | (with_reducible exact ih1 _ _ _)
   | (with_reducible exact LeO.refl _)
   | (with_reducible exact LeO.none _)
   | (with_reducible refine LeO.ite ?_ ?_)
   | (with_reducible refine LeO.bind ?_ (fun _ => ?_))
   | exact ih0 _ _ _ _
   | exact ih1 _ _ _
   | exact LeO.none _
   | refine LeO.ite ?_ ?_
   | refine LeO.bind ?_ (fun _ => ?_)
set_option maxHeartbeats 8000000 in
set_option maxRecDepth 100000 in
theorem sandglassref07_above.calls (k : Nat) (A0 : Option Addr) (c0 : Nat) (l0 : List Int) (a1 : Int) (a2 : Int) (r : Bool) (w : World) (hr0 : Kd.C (Kd.int .u64) w A0 l0.length l0) (hc0 : l0.length ≤ c0) (h : sandglassref07_above.f k l0 a1 a2 = some r) :
  Calls Tryd.prog 64 #[.slice A0 l0.length c0, .int .u64 a1, .int .i64 a2] w fun e w' => e = .returned (.bool r) ∧ Drawn0 w w' := by
 have HR0 := sqA hr0
 have HC0 := sqA hc0
 clear hr0 hc0
 have H : (sandglassref07_above.l0 k l0 a1 a2 (wrap64 ((l0.length : Int) - 1))) = some r := h
 clear h
 have H' := sqA H
 clear H
 go_enter Tryd.func64, Tryd.ntmps64
 go_wp2
 go_loopg [7] k (fun kq v7 w' => ∃ (x7_1 : Int), v7 = .int .i64 x7_1 ∧ Aside0 (sandglassref07_above.l0 kq l0 a1 a2 x7_1 = some r) ∧ Aside0 (kq ≤ k) ∧ Drawn0 w w')
 case atStart => exact ⟨(wrap64 ((l0.length : Int) - 1)), sqd, H', ⟨Nat.le_refl _⟩, by repeat (first | exact Drawn0.refl _ | apply Drawn0.step)⟩
 case round =>
  clear H'
  try clear p2
  obtain ⟨x7_1, rfl, HA, HK1, ⟨m1, rfl⟩⟩ := hrel
  cases gk with
  | zero => exact absurd HA.out (by simp [sandglassref07_above.l0])
  | succ k1 =>
   have H := HA.out
   clear HA
   simp only [sandglassref07_above.l0] at H
   by_cases c4 : x7_1 > a2
   ·
    rw [if_pos c4] at H
    have c4b0 : decide (a2 < x7_1) = true := decide_eq_true c4
    clear c4
    by_cases c5 : 0 ≤ x7_1
    ·
     rw [if_pos c5] at H
     have c5b0 : decide (0 ≤ x7_1) = true := decide_eq_true c5
     clear c5
     by_cases c6 : x7_1 < (l0.length : Int)
     ·
      rw [if_pos c6] at H
      have c6b0 : decide (x7_1 < (l0.length : Int)) = true := decide_eq_true c6
      clear c6
      by_cases c7 : (rd l0 x7_1) > 0
      ·
       rw [if_pos c7] at H
       have c7b0 : decide (0 < (rd l0 x7_1)) = true := decide_eq_true c7
       clear c7
       obtain rfl := Option.some.inj H
       have p314 : 0 ≤ (x7_1 : Int) := of_decide_eq_true sqa
       have q314 : x7_1 < (l0.length : Int) := of_decide_eq_true sqa
       obtain ⟨ad314, e314, hx314_0⟩ := Kd.at_int HR0.out x7_1 p314 q314
       cases e314
       replace p314 := eq_true p314
       replace q314 := eq_true q314
       go_wp2
       go_ret
       exact ⟨by first | rfl | (simp; done) | (simp [*]; done), by repeat (first | exact Drawn0.refl _ | apply Drawn0.step)⟩
      ·
       rw [if_neg c7] at H
       have c7b0 : decide (0 < (rd l0 x7_1)) = false := decide_eq_false c7
       clear c7
       have H' := sqA H
       clear H
       have p314 : 0 ≤ (x7_1 : Int) := of_decide_eq_true sqa
       have q314 : x7_1 < (l0.length : Int) := of_decide_eq_true sqa
       obtain ⟨ad314, e314, hx314_0⟩ := Kd.at_int HR0.out x7_1 p314 q314
       cases e314
       replace p314 := eq_true p314
       replace q314 := eq_true q314
       go_wp2
       go_roundg k1
       case measure => have := HK1.out; omega
       case rel => exact ⟨(wrap64 (x7_1 - 1)), sqd, H', ⟨by have := HK1.out; omega⟩, by repeat (first | exact Drawn0.refl _ | apply Drawn0.step)⟩
     ·
      rw [if_neg c6] at H
      exact absurd H (by simp)
    ·
     rw [if_neg c5] at H
     exact absurd H (by simp)
   ·
    rw [if_neg c4] at H
    have c4b0 : decide (a2 < x7_1) = false := decide_eq_false c4
    clear c4
    by_cases c8 : 0 ≤ a2
    ·
     rw [if_pos c8] at H
     have c8b0 : decide (0 ≤ a2) = true := decide_eq_true c8
     clear c8
     by_cases c9 : a2 < (l0.length : Int)
     ·
      rw [if_pos c9] at H
      have c9b0 : decide (a2 < (l0.length : Int)) = true := decide_eq_true c9
      clear c9
      by_cases c10 : (rd l0 a2) = a1
      ·
       rw [if_pos c10] at H
       have c10b0 : ((rd l0 a2) == a1) = true := beq_iff_eq.mpr c10
       have c10b1 : ((rd l0 a2) != a1) = false := bne_eq_false_iff_eq.mpr c10
       clear c10
       have H' := sqA H
       clear H
       have p315 : 0 ≤ (a2 : Int) := of_decide_eq_true sqa
       have q315 : a2 < (l0.length : Int) := of_decide_eq_true sqa
       obtain ⟨ad315, e315, hx315_0⟩ := Kd.at_int HR0.out a2 p315 q315
       cases e315
       replace p315 := eq_true p315
       replace q315 := eq_true q315
       go_wp2
       go_loopg [8] k1 (fun kq v8 w' => ∃ (x8_2 : Int), v8 = .int .i64 x8_2 ∧ Aside0 (sandglassref07_above.l1 kq l0 a2 x8_2 = some r) ∧ Aside0 (kq ≤ k1) ∧ Drawn0 w w')
       case atStart => exact ⟨(0), sqd, H', ⟨Nat.le_refl _⟩, by repeat (first | exact Drawn0.refl _ | apply Drawn0.step)⟩
       case round =>
        clear H'
        try clear c1
        try clear p2
        try clear p3
        try clear q3
        try clear hx3
        try clear c4
        try clear c4b0
        try clear c5
        try clear c5b0
        try clear c6
        try clear c6b0
        try clear p6
        try clear c7
        try clear c7b0
        try clear c8
        try clear c8b0
        try clear c9
        try clear c9b0
        try clear c10
        try clear c10b0
        try clear c10b1
        try clear hx314_0
        try clear hx315_0
        try clear p2
        try clear p314
        try clear p315
        try clear q314
        try clear q315
        obtain ⟨x8_2, rfl, HA, HK2, ⟨m2, rfl⟩⟩ := hrel
        cases gk with
        | zero => exact absurd HA.out (by simp [sandglassref07_above.l1])
        | succ k2 =>
         have H := HA.out
         clear HA
         simp only [sandglassref07_above.l1] at H
         by_cases c11 : x8_2 < a2
         ·
          rw [if_pos c11] at H
          have c11b0 : decide (x8_2 < a2) = true := decide_eq_true c11
          clear c11
          by_cases c12 : 0 ≤ x8_2
          ·
           rw [if_pos c12] at H
           have c12b0 : decide (0 ≤ x8_2) = true := decide_eq_true c12
           clear c12
           by_cases c13 : x8_2 < (l0.length : Int)
           ·
            rw [if_pos c13] at H
            have c13b0 : decide (x8_2 < (l0.length : Int)) = true := decide_eq_true c13
            clear c13
            by_cases c14 : (rd l0 x8_2) > 0
            ·
             rw [if_pos c14] at H
             have c14b0 : decide (0 < (rd l0 x8_2)) = true := decide_eq_true c14
             clear c14
             obtain rfl := Option.some.inj H
             have p317 : 0 ≤ (x8_2 : Int) := of_decide_eq_true sqa
             have q317 : x8_2 < (l0.length : Int) := of_decide_eq_true sqa
             obtain ⟨ad317, e317, hx317_0⟩ := Kd.at_int HR0.out x8_2 p317 q317
             obtain rfl : ad315 = ad317 := (by injection e317)
             replace p317 := eq_true p317
             replace q317 := eq_true q317
             go_wp2
             go_ret
             exact ⟨by first | rfl | (simp; done) | (simp [*]; done), by repeat (first | exact Drawn0.refl _ | apply Drawn0.step)⟩
            ·
             rw [if_neg c14] at H
             have c14b0 : decide (0 < (rd l0 x8_2)) = false := decide_eq_false c14
             clear c14
             have H' := sqA H
             clear H
             have p317 : 0 ≤ (x8_2 : Int) := of_decide_eq_true sqa
             have q317 : x8_2 < (l0.length : Int) := of_decide_eq_true sqa
             obtain ⟨ad317, e317, hx317_0⟩ := Kd.at_int HR0.out x8_2 p317 q317
             obtain rfl : ad315 = ad317 := (by injection e317)
             replace p317 := eq_true p317
             replace q317 := eq_true q317
             go_wp2
             go_roundg k2
             case measure => have := HK1.out; have := HK2.out; omega
             case rel => exact ⟨(wrap64 (x8_2 + 1)), sqd, H', ⟨by have := HK1.out; have := HK2.out; omega⟩, by repeat (first | exact Drawn0.refl _ | apply Drawn0.step)⟩
           ·
            rw [if_neg c13] at H
            exact absurd H (by simp)
          ·
           rw [if_neg c12] at H
           exact absurd H (by simp)
         ·
          rw [if_neg c11] at H
          have c11b0 : decide (x8_2 < a2) = false := decide_eq_false c11
          clear c11
          obtain rfl := Option.some.inj H
          go_wp2
          go_ret
          exact ⟨by first | rfl | (simp; done) | (simp [*]; done), by repeat (first | exact Drawn0.refl _ | apply Drawn0.step)⟩
      ·
       rw [if_neg c10] at H
       have c10b0 : ((rd l0 a2) == a1) = false := beq_eq_false_iff_ne.mpr c10
       have c10b1 : ((rd l0 a2) != a1) = true := bne_iff_ne.mpr c10
       obtain rfl := Option.some.inj H
       have p315 : 0 ≤ (a2 : Int) := of_decide_eq_true sqa
       have q315 : a2 < (l0.length : Int) := of_decide_eq_true sqa
       obtain ⟨ad315, e315, hx315_0⟩ := Kd.at_int HR0.out a2 p315 q315
       cases e315
       replace p315 := eq_true p315
       replace q315 := eq_true q315
       have p316 : 0 ≤ (a2 : Int) := of_decide_eq_true sqa
       have q316 : a2 < (l0.length : Int) := of_decide_eq_true sqa
       obtain ⟨ad316, e316, hx316_0⟩ := Kd.at_int HR0.out a2 p316 q316
       obtain rfl : ad315 = ad316 := (by injection e316)
       replace p316 := eq_true p316
       replace q316 := eq_true q316
       go_wp2
       go_ret
       exact ⟨by first | rfl | (simp; done) | (simp [*]; done), by repeat (first | exact Drawn0.refl _ | apply Drawn0.step)⟩
     ·
      rw [if_neg c9] at H
      exact absurd H (by simp)
    ·
     rw [if_neg c8] at H
     exact absurd H (by simp)
end Go.Proofs.YtifpomknkjegeaaDoor.PAll
