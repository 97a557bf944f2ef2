/- Printed by a program of this claim: the machine side of its law, for every input; no condition. -/
import Derived.Test.YtifpomknkjegeaaDoorPAllx0
namespace Go.Proofs.YtifpomknkjegeaaDoor.PAll
open Go.RowKit Go.Proofs.YtifpomknkjegeaaDoorW.PrintWords Go.Proofs.YtifpomknkjegeaaDoorW.PrintLast Go.Proofs.YtifpomknkjegeaaDoorW.PrintMore
attribute [local go_sem] max2_int min2_int max_two min_two max_three min_three max_four min_four
set_option linter.unusedVariables false
set_option linter.unusedSimpArgs false
attribute [local go_sem] all_u8 all_u32 all_u64
mutual
def sandglassref07_primes.l0 : Nat → Int → List Int → Int → Option (List Int)
 | 0, _, _, _ => none
 | k + 1, x0, x3, x4 => if (x3.length : Int) < x0 then (sandglassref07_primes.l1 k x0 x3 x4 true 0) else (some x3)
def sandglassref07_primes.l1 : Nat → Int → List Int → Int → Bool → Int → Option (List Int)
 | 0, _, _, _, _, _ => none
 | k + 1, x0, x3, x4, x5, x6 => if x6 < (x3.length : Int) then (if 0 ≤ x6 then (if (rd x3 x6) = 0 then (none) else (if (Int.tmod x4 (rd x3 x6)) = 0 then (sandglassref07_primes.l1 k x0 x3 x4 false (wrap64 (x6 + 1))) else (sandglassref07_primes.l1 k x0 x3 x4 x5 (wrap64 (x6 + 1))))) else (none)) else (if x5 = true then (if x3.length < 17592186044416 then (sandglassref07_primes.l0 k x0 (x3 ++ [x4]) (IntKind.u64.wrap (x4 + 1))) else (none)) else (sandglassref07_primes.l0 k x0 x3 (IntKind.u64.wrap (x4 + 1))))
end
def sandglassref07_primes.f (k : Nat) (a0 : Int) : Option (List Int) := sandglassref07_primes.l0 k a0 ([] : List Int) 2
theorem sandglassref07_primes.mono_l : ∀ k, (∀ y0 y1 y2, LeO (sandglassref07_primes.l0 k y0 y1 y2) (sandglassref07_primes.l0 (k + 1) y0 y1 y2)) ∧ (∀ y0 y1 y2 y3 y4, LeO (sandglassref07_primes.l1 k y0 y1 y2 y3 y4) (sandglassref07_primes.l1 (k + 1) y0 y1 y2 y3 y4))
 | 0 => ⟨fun _ _ _ r h => by simp [sandglassref07_primes.l0] at h, fun _ _ _ _ _ r h => by simp [sandglassref07_primes.l1] at h⟩
 | k + 1 => by
  obtain ⟨ih0, ih1⟩ := sandglassref07_primes.mono_l k
  refine ⟨?_, ?_⟩
  ·
   intro y0 y1 y2
   unfold sandglassref07_primes.l0
   repeat' first
   | (with_reducible exact ih0 _ _ _)
   | (with_reducible exact ih1 _ _ _ _ _)
   | (with_reducible exact LeO.refl _)
   | (with_reducible exact LeO.none _)
   | (with_reducible refine LeO.ite ?_ ?_)
   | (with_reducible refine LeO.bind ?_ (fun _ => ?_))
   | exact ih0 _ _ _
   | exact ih1 _ _ _ _ _
   | exact LeO.none _
   | refine LeO.ite ?_ ?_
   | refine LeO.bind ?_ (fun _ => ?_)
  ·
   intro y0 y1 y2 y3 y4
   unfold sandglassref07_primes.l1
   repeat' first
   | (with_reducible exact ih0 _ _ _)
   | (with_reducible exact ih1 _ _ _ _ _)
   | (with_reducible exact LeO.refl _)
   | (with_reducible exact LeO.none _)
   | (with_reducible refine LeO.ite ?_ ?_)
   | (with_reducible refine LeO.bind ?_ (fun _ => ?_))
   | exact ih0 _ _ _
   | exact ih1 _ _ _ _ _
   | exact LeO.none _
   | refine LeO.ite ?_ ?_
   | refine LeO.bind ?_ (fun _ => ?_)
theorem sandglassref07_primes.mono : ∀ a0 k, LeO (sandglassref07_primes.f k a0) (sandglassref07_primes.f (k + 1) a0) := by
 intro a0 k
 obtain ⟨ih0, ih1⟩ := sandglassref07_primes.mono_l k
 unfold sandglassref07_primes.f
 repeat' first
   | (with_reducible exact ih0 _ _ _)
   | (with_reducible exact ih1 _ _ _ _ _)
   | (with_reducible exact LeO.refl _)
   | (with_reducible exact LeO.none _)
   | (with_reducible refine LeO.ite ?_ ?_)
   | (with_reducible refine LeO.bind ?_ (fun _ => ?_))
   | exact ih0 _ _ _
   | exact ih1 _ _ _ _ _
   | exact LeO.none _
   | refine LeO.ite ?_ ?_
   | refine LeO.bind ?_ (fun _ => ?_)
set_option maxHeartbeats 8000000 in
set_option maxRecDepth 100000 in
theorem sandglassref07_primes.calls (k : Nat) (a0 : Int) (r : List Int) (w : World) (h : sandglassref07_primes.f k a0 = some r) :
  Calls Tryd.prog 56 #[.int .i64 a0] w fun e w' => ∃ v0_ : Value, e = .returned (v0_) ∧ Kd.R (Kd.int .u64) 87 w' w.heap.size (fun _ => True) v0_ r ∧ Below w.heap.size w w' := by
 have HB := sqA (Below.refl w.heap.size w)
 have H : (sandglassref07_primes.l0 k a0 ([] : List Int) 2) = some r := h
 clear h
 have H' := sqA H
 clear H
 go_enter Tryd.func56, Tryd.ntmps56
 go_wp2
 go_loopg [3, 4] k (fun kq v3 v4 w' => ∃ (x3_1 : List Int) (x4_1 : Int), v4 = .int .u64 x4_1 ∧ Aside0 (sandglassref07_primes.l0 kq a0 x3_1 x4_1 = some r) ∧ Aside0 (kq ≤ k) ∧ Aside0 (Kd.R (Kd.int .u64) 87 w' w.heap.size (fun _ => True) v3 x3_1) ∧ Aside0 (Below w.heap.size w w'))
 case atStart => exact ⟨(([] : List Int)), (2), sqd, H', ⟨Nat.le_refl _⟩, ⟨by first | exact Kd.R_nil _ _ _ _ _ | exact Kd.N_nil _ _ _ _ _ | exact Kd.V_nil _ _ _ _ _ | exact Kd.Q_nil _ _ _ _ _ | exact Kd.S_nil _ _ _ _ _⟩, ⟨sqb HB.out⟩⟩
 case round =>
  clear H'
  obtain ⟨x3_1, x4_1, rfl, HA, HK1, HO_3, HB⟩ := hrel
  cases gk with
  | zero => exact absurd HA.out (by simp [sandglassref07_primes.l0])
  | succ k1 =>
   have H := HA.out
   clear HA
   simp only [sandglassref07_primes.l0] at H
   by_cases c2 : (x3_1.length : Int) < a0
   ·
    rw [if_pos c2] at H
    have c2b0 : decide ((x3_1.length : Int) < a0) = true := decide_eq_true c2
    clear c2
    have H' := sqA H
    clear H
    obtain ⟨Ao3, co3, eo3⟩ := Kd.R_slice HO_3.out
    subst eo3
    go_wp2
    go_loopg [5, 6] k1 (fun kq v5 v6 w' => ∃ (x5_2 : Bool) (x6_2 : Int), v5 = .bool x5_2 ∧ v6 = .int .i64 x6_2 ∧ Aside0 (sandglassref07_primes.l1 kq a0 x3_1 x4_1 x5_2 x6_2 = some r) ∧ Aside0 (kq ≤ k1) ∧ Aside0 (Kd.R (Kd.int .u64) 87 w' w.heap.size (fun _ => True) (.slice Ao3 x3_1.length co3) x3_1) ∧ Aside0 (Below w.heap.size w w'))
    case atStart => exact ⟨(true), (0), sqd, sqd, H', ⟨Nat.le_refl _⟩, ⟨sqr HO_3.out⟩, ⟨sqb HB.out⟩⟩
    case round =>
     clear H'
     try clear c2
     try clear c2b0
     try clear p2
     obtain ⟨x5_2, x6_2, rfl, rfl, HA, HK2, HO_3, HB⟩ := hrel
     cases gk with
     | zero => exact absurd HA.out (by simp [sandglassref07_primes.l1])
     | succ k2 =>
      have H := HA.out
      clear HA
      simp only [sandglassref07_primes.l1] at H
      by_cases c4 : x6_2 < (x3_1.length : Int)
      ·
       rw [if_pos c4] at H
       have c4b0 : decide (x6_2 < (x3_1.length : Int)) = true := decide_eq_true c4
       clear c4
       by_cases c5 : 0 ≤ x6_2
       ·
        rw [if_pos c5] at H
        have c5b0 : decide (0 ≤ x6_2) = true := decide_eq_true c5
        clear c5
        by_cases c6 : (rd x3_1 x6_2) = 0
        ·
         rw [if_pos c6] at H
         exact absurd H (by simp)
        ·
         rw [if_neg c6] at H
         have c6b0 : ((rd x3_1 x6_2) == 0) = false := beq_eq_false_iff_ne.mpr c6
         have c6b1 : ((rd x3_1 x6_2) != 0) = true := bne_iff_ne.mpr c6
         by_cases c7 : (Int.tmod x4_1 (rd x3_1 x6_2)) = 0
         ·
          rw [if_pos c7] at H
          have c7b0 : ((Int.tmod x4_1 (rd x3_1 x6_2)) == 0) = true := beq_iff_eq.mpr c7
          have c7b1 : ((Int.tmod x4_1 (rd x3_1 x6_2)) != 0) = false := bne_eq_false_iff_eq.mpr c7
          clear c7
          have H' := sqA H
          clear H
          have p302 : 0 ≤ (x6_2 : Int) := of_decide_eq_true sqa
          have q302 : x6_2 < (x3_1.length : Int) := of_decide_eq_true sqa
          obtain ⟨ad302, e302, hx302_0⟩ := Kd.at_int (Kd.R_reads' HO_3.out).2.2 x6_2 p302 q302
          cases e302
          replace p302 := eq_true p302
          replace q302 := eq_true q302
          go_wp2
          go_roundg k2
          case measure => have := HK1.out; have := HK2.out; omega
          case rel => exact ⟨(false), (wrap64 (x6_2 + 1)), sqd, sqd, H', ⟨by have := HK1.out; have := HK2.out; omega⟩, ⟨sqr HO_3.out⟩, ⟨sqb HB.out⟩⟩
         ·
          rw [if_neg c7] at H
          have c7b0 : ((Int.tmod x4_1 (rd x3_1 x6_2)) == 0) = false := beq_eq_false_iff_ne.mpr c7
          have c7b1 : ((Int.tmod x4_1 (rd x3_1 x6_2)) != 0) = true := bne_iff_ne.mpr c7
          have H' := sqA H
          clear H
          have p302 : 0 ≤ (x6_2 : Int) := of_decide_eq_true sqa
          have q302 : x6_2 < (x3_1.length : Int) := of_decide_eq_true sqa
          obtain ⟨ad302, e302, hx302_0⟩ := Kd.at_int (Kd.R_reads' HO_3.out).2.2 x6_2 p302 q302
          cases e302
          replace p302 := eq_true p302
          replace q302 := eq_true q302
          go_wp2
          go_roundg k2
          case measure => have := HK1.out; have := HK2.out; omega
          case rel => exact ⟨(x5_2), (wrap64 (x6_2 + 1)), sqd, sqd, H', ⟨by have := HK1.out; have := HK2.out; omega⟩, ⟨sqr HO_3.out⟩, ⟨sqb HB.out⟩⟩
       ·
        rw [if_neg c5] at H
        exact absurd H (by simp)
      ·
       rw [if_neg c4] at H
       have c4b0 : decide (x6_2 < (x3_1.length : Int)) = false := decide_eq_false c4
       clear c4
       by_cases c8 : x5_2 = true
       ·
        subst c8
        have H1 : (if x3_1.length < 17592186044416 then (sandglassref07_primes.l0 k2 a0 (x3_1 ++ [x4_1]) (IntKind.u64.wrap (x4_1 + 1))) else (none)) = some r := by rw [if_pos rfl] at H; exact H
        clear H
        have H := H1
        clear H1
        by_cases c9 : x3_1.length < 17592186044416
        ·
         rw [if_pos c9] at H
         have LMc9 := sqA c9
         clear c9
         obtain ⟨y303, hy303⟩ : ∃ y_ : List Int, y_ = (x3_1 ++ [x4_1]) := ⟨_, rfl⟩
         replace H : (sandglassref07_primes.l0 k2 a0 y303 (IntKind.u64.wrap (x4_1 + 1))) = some r := by first | (rw [hy303]; with_reducible exact H) | (have H2_ := (Option.bind_some _ _).symm.trans H; rw [hy303]; with_reducible exact H2_) | (have H2_ := (Option.bind_some _ _).symm.trans H; with_reducible exact H2_) | with_reducible exact H | (rw [hy303]; exact H) | exact H
         have Ny303 := sqA hy303
         clear hy303
         have H' := sqA H
         clear H
         go_wp2_with (first | ((with_reducible refine gate_builtin (b := .append) (xs := #[.tmp 27, .tmp 29]) rfl ?_); at_builtin; refine Kd.R_append (Kd.int .u64) (w0 := w) w.heap.size rfl (.tmp 27) (.tmp 29) 90 87 (.int .u64 0) 8 rfl Tryd.underlying90 info87 rfl (by decide) (by omega) (.slice Ao3 x3_1.length co3) x3_1 x4_1 [.int .u64 x4_1] (fun _ => True) (fun _ => False) rfl rfl ?aP (fun _ hk => hk.elim) ?aF ?aO ?aB ?aS ?aL ?_; (case aP => exact rfl); (case aB => exact (sqb HB.out)); (case aF => exact (fun _ _ => trivial)); (case aO => exact (sqr HO_3.out)); (case aS => exact (below_size (sqb HB.out))); (case aL => have := LMc9.out; omega); intro v304 w10 ho hb hg hat; rw [← Ny303.out] at ho; have n0_ := sqA (hb); have n1_ := sqA (ho); clear HB; clear HO_3; have HB := n0_; have HO305 := n1_; clear n0_ n1_; clear ho hb hg hat))
         go_roundg k2
         case measure => have := HK1.out; have := HK2.out; omega
         case rel => exact ⟨(y303), (IntKind.u64.wrap (x4_1 + 1)), sqd, H', ⟨by have := HK1.out; have := HK2.out; omega⟩, ⟨sqr HO305.out⟩, ⟨sqb HB.out⟩⟩
        ·
         rw [if_neg c9] at H
         exact absurd H (by simp)
       ·
        replace c8 := Bool.eq_false_iff.mpr c8
        subst c8
        have H1 : (sandglassref07_primes.l0 k2 a0 x3_1 (IntKind.u64.wrap (x4_1 + 1))) = some r := by rw [if_neg (show ¬ (false = true) by decide)] at H; exact H
        clear H
        have H := H1
        clear H1
        have H' := sqA H
        clear H
        go_wp2
        go_roundg k2
        case measure => have := HK1.out; have := HK2.out; omega
        case rel => exact ⟨(x3_1), (IntKind.u64.wrap (x4_1 + 1)), sqd, H', ⟨by have := HK1.out; have := HK2.out; omega⟩, ⟨sqr HO_3.out⟩, ⟨sqb HB.out⟩⟩
   ·
    rw [if_neg c2] at H
    have c2b0 : decide ((x3_1.length : Int) < a0) = false := decide_eq_false c2
    clear c2
    obtain rfl := Option.some.inj H
    obtain ⟨Ao11, co11, eo11⟩ := Kd.R_slice HO_3.out
    subst eo11
    go_wp2
    go_ret
    exact ⟨_, sqe, by (with_reducible repeat (first | apply Kd.R_alloc | apply Kd.R_drewN | apply Kd.R_drew)); exact HO_3.out, sqb HB.out⟩
end Go.Proofs.YtifpomknkjegeaaDoor.PAll
