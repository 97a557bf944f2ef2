/- Printed by a program of this claim: the machine side of its law, for every input; no condition. -/
import Derived.Test.YtmlggcpanjociaaPAllx0
import Derived.Test.YtmlggcpanjociaaPAllx22
import Derived.Test.YtmlggcpanjociaaPAllx31
namespace Go.Proofs.Ytmlggcpanjociaa.PAll
open Go.RowKit Go.Proofs.YtmlggcpanjociaaW.PrintWords Go.Proofs.YtmlggcpanjociaaW.PrintLast Go.Proofs.YtmlggcpanjociaaW.PrintMore
attribute [local go_sem] max2_int min2_int max_two min_two max_three min_three max_four min_four   -- for this text's walks alone
set_option linter.unusedVariables false
set_option linter.unusedSimpArgs false

attribute [local go_sem] all_u8 all_u32 all_u64
/-! ### sandglassref16_ReadWord: function 25 -/
def sandglassref16_ReadWord.j0 : Nat → List ByteArray → Bool → Option (Int × Int × Int × Int × ByteArray × Int)
  | 0, _, _ => none
  | k + 1, x4, x46 => if x46 = true then (some (0, 0, 0, 0, (⟨#[]⟩ : ByteArray), 3)) else (if 0 < (x4.length : Int) then (if 0 < ((rdOf ByteArray.empty x4 0).size : Int) then (if 1 < (x4.length : Int) then (if 0 < ((rdOf ByteArray.empty x4 1).size : Int) then (if 2 < (x4.length : Int) then (if 0 < ((rdOf ByteArray.empty x4 2).size : Int) then (if 3 < (x4.length : Int) then (if 0 < ((rdOf ByteArray.empty x4 3).size : Int) then (if 4 < (x4.length : Int) then ((sandglassref16_CheckWord.f k (wrap64 (bt (rdOf ByteArray.empty x4 0) 0)) (wrap64 (bt (rdOf ByteArray.empty x4 1) 0)) (wrap64 (bt (rdOf ByteArray.empty x4 2) 0)) (wrap64 ((wrap64 (bt (rdOf ByteArray.empty x4 3) 0)) - 1)) (rdOf ByteArray.empty x4 4)).bind fun t344 => (if t344 = 0 then (some (wrap64 (bt (rdOf ByteArray.empty x4 0) 0), wrap64 (bt (rdOf ByteArray.empty x4 1) 0), wrap64 (bt (rdOf ByteArray.empty x4 2) 0), wrap64 ((wrap64 (bt (rdOf ByteArray.empty x4 3) 0)) - 1), rdOf ByteArray.empty x4 4, 0)) else (some (0, 0, 0, 0, (⟨#[]⟩ : ByteArray), 3)))) else (none)) else (none)) else (none)) else (none)) else (none)) else (none)) else (none)) else (none)) else (none))
def sandglassref16_ReadWord.f (k : Nat) (a0 : ByteArray) : Option (Int × Int × Int × Int × ByteArray × Int) := (sandglassref16_Read.f k a0).bind fun bt330 => (if bt330.2 = 0 then (if (bt330.1.length : Int) = 5 then (if 0 < (bt330.1.length : Int) then (if ((rdOf ByteArray.empty bt330.1 0).size : Int) = 1 then (if 1 < (bt330.1.length : Int) then (if ((rdOf ByteArray.empty bt330.1 1).size : Int) = 1 then (if 2 < (bt330.1.length : Int) then (if ((rdOf ByteArray.empty bt330.1 2).size : Int) = 1 then (if 3 < (bt330.1.length : Int) then (sandglassref16_ReadWord.j0 k bt330.1 (((rdOf ByteArray.empty bt330.1 3).size : Int) != 1)) else (none)) else (sandglassref16_ReadWord.j0 k bt330.1 true)) else (none)) else (sandglassref16_ReadWord.j0 k bt330.1 true)) else (none)) else (sandglassref16_ReadWord.j0 k bt330.1 true)) else (none)) else (sandglassref16_ReadWord.j0 k bt330.1 true)) else (sandglassref16_ReadWord.j0 k bt330.1 true))
theorem sandglassref16_ReadWord.mono_l : ∀ k, (∀ y0 y1, LeO (sandglassref16_ReadWord.j0 k y0 y1) (sandglassref16_ReadWord.j0 (k + 1) y0 y1))
  | 0 => fun _ _ r h => by simp [sandglassref16_ReadWord.j0] at h
  | k + 1 => by
    have ih0 := sandglassref16_ReadWord.mono_l k
    · intro y0 y1
      unfold sandglassref16_ReadWord.j0
      repeat' first
      | (with_reducible exact ih0 _ _)
      | (with_reducible exact sandglassref16_CheckWord.mono _ _ _ _ _ _)
      | (with_reducible exact sandglassref16_Read.mono _ _)
      | (with_reducible exact LeO.refl _)
      | (with_reducible exact LeO.none _)
      | (with_reducible refine LeO.ite ?_ ?_)
      | (with_reducible refine LeO.bind ?_ (fun _ => ?_))
      | exact ih0 _ _
      | exact sandglassref16_CheckWord.mono _ _ _ _ _ _
      | exact sandglassref16_Read.mono _ _
      | exact LeO.none _
      | refine LeO.ite ?_ ?_
      | refine LeO.bind ?_ (fun _ => ?_)
theorem sandglassref16_ReadWord.mono : ∀ a0 k, LeO (sandglassref16_ReadWord.f k a0) (sandglassref16_ReadWord.f (k + 1) a0) := by
  intro a0 k
  have ih0 := sandglassref16_ReadWord.mono_l k
  unfold sandglassref16_ReadWord.f
  repeat' first
      | (with_reducible exact ih0 _ _)
      | (with_reducible exact sandglassref16_CheckWord.mono _ _ _ _ _ _)
      | (with_reducible exact sandglassref16_Read.mono _ _)
      | (with_reducible exact LeO.refl _)
      | (with_reducible exact LeO.none _)
      | (with_reducible refine LeO.ite ?_ ?_)
      | (with_reducible refine LeO.bind ?_ (fun _ => ?_))
      | exact ih0 _ _
      | exact sandglassref16_CheckWord.mono _ _ _ _ _ _
      | exact sandglassref16_Read.mono _ _
      | exact LeO.none _
      | refine LeO.ite ?_ ?_
      | refine LeO.bind ?_ (fun _ => ?_)
def sandglassref16_ReadWord.T4 : Bool × List (List Nat × List Nat) := (true, [([], []), ([0], [0]), ([1], [1]), ([2], [2]), ([3], [3]), ([], []), ([5], [5]), ([6], [6]), ([7], [7]), ([8], [8]), ([], []), ([10], [10]), ([11], [11]), ([12], [12]), ([13], [13]), ([], []), ([15], [15]), ([16], [16]), ([17], [17]), ([18], [18]), ([19], [19]), ([], []), ([21], [21]), ([22], [22]), ([4, 9, 14, 20, 23], [4, 9, 14, 20, 23]), ([], []), ([25, 24, 0, 1, 2, 3, 4, 5, 6, 7, 8, 9, 10, 11, 12, 13, 14, 15, 16, 17, 18, 19, 20, 21, 22, 23, 24, 25], [24, 25])])
def sandglassref16_ReadWord.B4 : List Nat := [0, 1, 3, 7, 15, 0, 32, 96, 224, 480, 0, 1024, 3072, 7168, 15360, 0, 32768, 98304, 229376, 491520, 1015808, 0, 2097152, 6291456, 16777215, 0, 67108863]
theorem sandglassref16_ReadWord.tab4 : rtab .any (opsOf Try.f25 4) = sandglassref16_ReadWord.T4 := by kernel_rfl
theorem sandglassref16_ReadWord.bits4 : waitsOk sandglassref16_ReadWord.T4.2 sandglassref16_ReadWord.B4 = true := by kernel_rfl
set_option maxHeartbeats 8000000 in
set_option maxRecDepth 100000 in
theorem sandglassref16_ReadWord.calls (k : Nat) (a0 : ByteArray) (r1 : Int) (r2 : Int) (r3 : Int) (r4 : Int) (r5 : ByteArray) (r6 : Int) (w : World) (h : sandglassref16_ReadWord.f k a0 = some (r1, r2, r3, r4, r5, r6)) :
    Calls Try.prog 25 #[.string a0] w fun e w' => e = .returned (.tuple #[.agg #[.int .i64 r1, .int .i64 r2, .int .i64 r3, .int .i64 r4, .string r5], .int .i64 r6]) ∧ Below w.heap.size w w' := by
  have hu47 := Try.underlying47
  have HB := Aside0.mk (Below.refl w.heap.size w)
  have H : ((sandglassref16_Read.f k a0).bind fun bt330 => (if bt330.2 = 0 then (if (bt330.1.length : Int) = 5 then (if 0 < (bt330.1.length : Int) then (if ((rdOf ByteArray.empty bt330.1 0).size : Int) = 1 then (if 1 < (bt330.1.length : Int) then (if ((rdOf ByteArray.empty bt330.1 1).size : Int) = 1 then (if 2 < (bt330.1.length : Int) then (if ((rdOf ByteArray.empty bt330.1 2).size : Int) = 1 then (if 3 < (bt330.1.length : Int) then (sandglassref16_ReadWord.j0 k bt330.1 (((rdOf ByteArray.empty bt330.1 3).size : Int) != 1)) else (none)) else (sandglassref16_ReadWord.j0 k bt330.1 true)) else (none)) else (sandglassref16_ReadWord.j0 k bt330.1 true)) else (none)) else (sandglassref16_ReadWord.j0 k bt330.1 true)) else (none)) else (sandglassref16_ReadWord.j0 k bt330.1 true)) else (sandglassref16_ReadWord.j0 k bt330.1 true))) = some (r1, r2, r3, r4, r5, r6) := h
  clear h
  replace H := Option.bind_eq_some_iff.mp H
  obtain ⟨⟨t330, t331⟩, A20, H⟩ := H
  replace H : (if t331 = 0 then (if (t330.length : Int) = 5 then (if 0 < (t330.length : Int) then (if ((rdOf ByteArray.empty t330 0).size : Int) = 1 then (if 1 < (t330.length : Int) then (if ((rdOf ByteArray.empty t330 1).size : Int) = 1 then (if 2 < (t330.length : Int) then (if ((rdOf ByteArray.empty t330 2).size : Int) = 1 then (if 3 < (t330.length : Int) then (sandglassref16_ReadWord.j0 k t330 (((rdOf ByteArray.empty t330 3).size : Int) != 1)) else (none)) else (sandglassref16_ReadWord.j0 k t330 true)) else (none)) else (sandglassref16_ReadWord.j0 k t330 true)) else (none)) else (sandglassref16_ReadWord.j0 k t330 true)) else (none)) else (sandglassref16_ReadWord.j0 k t330 true)) else (sandglassref16_ReadWord.j0 k t330 true)) = some (r1, r2, r3, r4, r5, r6) := H
  have A2 := Aside0.mk A20
  clear A20
  have HC3 := Aside0.mk H
  clear H
  go_enter Try.func25, Try.ntmps25
  go_upto_region 2 with (first | ((with_reducible refine gate_dst (N := 2) rfl ?_); (try (refine gate_guard (by rfl) ?_; dsimp only)); refine box_event ?hg (N := 2) ?hd (cs := #[.int .i64 0, .int .i64 0, .int .i64 0, .int .i64 0, .string (⟨#[]⟩ : ByteArray)]) (t := 47) ?hr ?_; (case hd => rfl); (case hg => rfl); (case hr => first | (go_simp; done) | (go_simp; rfl)); intro gb329 hg w4 hbox hb; have n0_ := Aside0.mk (below_step (by repeat (first | (with_reducible first | exact HB.out | apply below_alloc | apply pw_below_drewN | apply below_drew1) | exact HB.out)) hb); have n1_ := Aside0.mk (hbox); have n2_ := Aside0.mk ((by rw [hg]; exact (below_size (by repeat (first | (with_reducible first | exact HB.out | apply below_alloc | apply pw_below_drewN | apply below_drew1) | exact HB.out))) : w.heap.size ≤ gb329)); have n3_ := Aside0.mk ((by rw [hg]; exact (below_size (by repeat (first | (with_reducible first | exact HB.out | apply below_alloc | apply pw_below_drewN | apply below_drew1) | exact HB.out))) : w.heap.size ≤ gb329)); clear HB; have HB := n0_; have BK329 := n1_; have GW329 := n2_; have GE329 := n3_; clear n0_ n1_ n2_ n3_; clear hb hbox hg) | ((with_reducible refine gate_callee (f := 16) rfl ?_); refine goesL_ (some 9) rfl rfl Try.func16 (by kernel_rfl) rfl #[.string a0] rfl (by (try simp only [List.map_toArray, List.map_cons, List.map_nil]); first | done | rfl | (simp only [List.length_drop, List.length_take]; rfl)) ?_; (with_reducible refine (sandglassref16_Read.calls k a0 t330 t331 _ A2.out).mono ?_); rintro e w5 ⟨v332, rfl, ho0, hb⟩; refine ⟨_, rfl, ?_⟩; have n0_ := Aside0.mk (Kd.R_lower ho0 (below_size (by repeat (first | (with_reducible first | exact HB.out | apply below_alloc | apply pw_below_drewN | apply below_drew1 | refine below_set ?_ GE329.out) | exact HB.out)))); have n1_ := Aside0.mk (blk_below (g := gb329) (o := .cells #[.int .i64 0, .int .i64 0, .int .i64 0, .int .i64 0, .string (⟨#[]⟩ : ByteArray)] 47 (0, 0)) (by (with_reducible repeat (first | refine blk_drewN ?_ _ | refine blk_drew ?_ | refine blk_alloc ?_ _)); exact BK329.out) hb); have n2_ := Aside0.mk (below_step (by repeat (first | (with_reducible first | exact HB.out | apply below_alloc | apply pw_below_drewN | apply below_drew1 | refine below_set ?_ GE329.out) | exact HB.out)) hb); clear BK329; clear HB; have HO333 := n0_; have BK329 := n1_; have HB := n2_; clear n0_ n1_ n2_; (try clear hb); (try clear hb2); (try clear hk); (try clear hi); (try clear ho0)))
  (try simp only [Act.put, List.setIfInBounds_toArray, List.set_cons_zero, List.set_cons_succ])
  go_cut [46] (fun v46 wc => ∃ (kq : Nat) (x46_2 : Bool), v46 = .bool x46_2 ∧ Aside0 (sandglassref16_ReadWord.j0 kq t330 x46_2 = some (r1, r2, r3, r4, r5, r6)) ∧ Aside0 (kq ≤ k) ∧ Aside0 (Kd.R Kd.string 9 wc w.heap.size (fun _ => True) v332 t330) ∧ Aside0 (wc.heap[gb329]? = some (.cells #[.int .i64 0, .int .i64 0, .int .i64 0, .int .i64 0, .string (⟨#[]⟩ : ByteArray)] 47 (0, 0))) ∧ Aside0 (Below w.heap.size w wc))
  case first =>
    have H := HC3.out
    clear HC3
    by_cases c6 : t331 = 0
    · rw [if_pos c6] at H
      have c6b0 : (t331 == 0) = true := beq_iff_eq.mpr c6
      have c6b1 : (t331 != 0) = false := bne_eq_false_iff_eq.mpr c6
      clear c6
      (first | rw [c6b0] | (simp only [i64_w, i32_w]; rw [c6b0]) | skip)
      by_cases c7 : (t330.length : Int) = 5
      · rw [if_pos c7] at H
        have c7b0 : ((t330.length : Int) == 5) = true := beq_iff_eq.mpr c7
        have c7b1 : ((t330.length : Int) != 5) = false := bne_eq_false_iff_eq.mpr c7
        clear c7
        by_cases c8 : 0 < (t330.length : Int)
        · rw [if_pos c8] at H
          have c8b0 : decide (0 < (t330.length : Int)) = true := decide_eq_true c8
          have c8b1 : decide (0 < t330.length) = true := decide_eq_true (by omega)
          clear c8
          by_cases c9 : ((rdOf ByteArray.empty t330 0).size : Int) = 1
          · rw [if_pos c9] at H
            have c9b0 : (((rdOf ByteArray.empty t330 0).size : Int) == 1) = true := beq_iff_eq.mpr c9
            have c9b1 : (((rdOf ByteArray.empty t330 0).size : Int) != 1) = false := bne_eq_false_iff_eq.mpr c9
            clear c9
            by_cases c10 : 1 < (t330.length : Int)
            · rw [if_pos c10] at H
              have c10b0 : decide (1 < (t330.length : Int)) = true := decide_eq_true c10
              have c10b1 : decide (1 < t330.length) = true := decide_eq_true (by omega)
              clear c10
              by_cases c11 : ((rdOf ByteArray.empty t330 1).size : Int) = 1
              · rw [if_pos c11] at H
                have c11b0 : (((rdOf ByteArray.empty t330 1).size : Int) == 1) = true := beq_iff_eq.mpr c11
                have c11b1 : (((rdOf ByteArray.empty t330 1).size : Int) != 1) = false := bne_eq_false_iff_eq.mpr c11
                clear c11
                by_cases c12 : 2 < (t330.length : Int)
                · rw [if_pos c12] at H
                  have c12b0 : decide (2 < (t330.length : Int)) = true := decide_eq_true c12
                  have c12b1 : decide (2 < t330.length) = true := decide_eq_true (by omega)
                  clear c12
                  by_cases c13 : ((rdOf ByteArray.empty t330 2).size : Int) = 1
                  · rw [if_pos c13] at H
                    have c13b0 : (((rdOf ByteArray.empty t330 2).size : Int) == 1) = true := beq_iff_eq.mpr c13
                    have c13b1 : (((rdOf ByteArray.empty t330 2).size : Int) != 1) = false := bne_eq_false_iff_eq.mpr c13
                    clear c13
                    by_cases c14 : 3 < (t330.length : Int)
                    · rw [if_pos c14] at H
                      have c14b0 : decide (3 < (t330.length : Int)) = true := decide_eq_true c14
                      have c14b1 : decide (3 < t330.length) = true := decide_eq_true (by omega)
                      clear c14
                      have H' := Aside0.mk H
                      clear H
                      obtain ⟨Ao15, co15, eo15⟩ := Kd.R_slice HO333.out
                      subst eo15
                      have p334 : 0 ≤ (0 : Int) := (by omega)
                      have q334 : 0 < (t330.length : Int) := of_decide_eq_true (by first | (with_reducible assumption) | assumption)
                      obtain ⟨ad334, e334, hx334_0⟩ := Kd.at_string (Kd.R_reads' HO333.out).2.2 0 p334 q334
                      cases e334
                      have qi334 : (0 < t330.length) = True := eq_true (by omega)
                      (try rw [show ((0 : Int)).toNat = 0 from rfl] at hx334_0)
                      (try rw [Addr.add_zero'] at hx334_0)
                      replace p334 := eq_true p334
                      replace q334 := eq_true q334
                      have p335 : 0 ≤ (1 : Int) := (by omega)
                      have q335 : 1 < (t330.length : Int) := of_decide_eq_true (by first | (with_reducible assumption) | assumption)
                      obtain ⟨ad335, e335, hx335_0⟩ := Kd.at_string (Kd.R_reads' HO333.out).2.2 1 p335 q335
                      obtain rfl : ad334 = ad335 := (by injection e335)
                      (try simp only [show (1 : Int).toNat = 1 from rfl, Nat.reduceMul, Nat.reduceEqDiff, Go.Addr.add, ↓reduceIte] at hx335_0)
                      have qi335 : (1 < t330.length) = True := eq_true (by omega)
                      (try rw [show ((1 : Int)).toNat = 1 from rfl] at hx335_0)
                      replace p335 := eq_true p335
                      replace q335 := eq_true q335
                      have p336 : 0 ≤ (2 : Int) := (by omega)
                      have q336 : 2 < (t330.length : Int) := of_decide_eq_true (by first | (with_reducible assumption) | assumption)
                      obtain ⟨ad336, e336, hx336_0⟩ := Kd.at_string (Kd.R_reads' HO333.out).2.2 2 p336 q336
                      obtain rfl : ad334 = ad336 := (by injection e336)
                      (try simp only [show (2 : Int).toNat = 2 from rfl, Nat.reduceMul, Nat.reduceEqDiff, Go.Addr.add, ↓reduceIte] at hx336_0)
                      have qi336 : (2 < t330.length) = True := eq_true (by omega)
                      (try rw [show ((2 : Int)).toNat = 2 from rfl] at hx336_0)
                      replace p336 := eq_true p336
                      replace q336 := eq_true q336
                      have p337 : 0 ≤ (3 : Int) := (by omega)
                      have q337 : 3 < (t330.length : Int) := of_decide_eq_true (by first | (with_reducible assumption) | assumption)
                      obtain ⟨ad337, e337, hx337_0⟩ := Kd.at_string (Kd.R_reads' HO333.out).2.2 3 p337 q337
                      obtain rfl : ad334 = ad337 := (by injection e337)
                      (try simp only [show (3 : Int).toNat = 3 from rfl, Nat.reduceMul, Nat.reduceEqDiff, Go.Addr.add, ↓reduceIte] at hx337_0)
                      have qi337 : (3 < t330.length) = True := eq_true (by omega)
                      (try rw [show ((3 : Int)).toNat = 3 from rfl] at hx337_0)
                      replace p337 := eq_true p337
                      replace q337 := eq_true q337
                      go_wp2
                      go_meet
                      case rel => exact ⟨_, ((((rdOf ByteArray.empty t330 3).size : Int) != 1)), (by first | rfl | (simp; done) | (simp [*]; done)), H', ⟨by first | omega | exact Nat.le_refl _⟩, ⟨by (with_reducible repeat (first | apply Kd.R_alloc | apply Kd.R_drewN | apply Kd.R_drew)); exact HO333.out⟩, ⟨by (with_reducible repeat (first | refine blk_drewN ?_ _ | refine blk_drew ?_ | refine blk_alloc ?_ _)); exact BK329.out⟩, ⟨by repeat (first | (with_reducible first | exact HB.out | apply below_alloc | apply pw_below_drewN | apply below_drew1 | refine below_set ?_ GE329.out) | exact HB.out)⟩⟩
                    · rw [if_neg c14] at H
                      exact absurd H (by simp)
                  · rw [if_neg c13] at H
                    have c13b0 : (((rdOf ByteArray.empty t330 2).size : Int) == 1) = false := beq_eq_false_iff_ne.mpr c13
                    have c13b1 : (((rdOf ByteArray.empty t330 2).size : Int) != 1) = true := bne_iff_ne.mpr c13
                    have H' := Aside0.mk H
                    clear H
                    obtain ⟨Ao16, co16, eo16⟩ := Kd.R_slice HO333.out
                    subst eo16
                    have p334 : 0 ≤ (0 : Int) := (by omega)
                    have q334 : 0 < (t330.length : Int) := of_decide_eq_true (by first | (with_reducible assumption) | assumption)
                    obtain ⟨ad334, e334, hx334_0⟩ := Kd.at_string (Kd.R_reads' HO333.out).2.2 0 p334 q334
                    cases e334
                    have qi334 : (0 < t330.length) = True := eq_true (by omega)
                    (try rw [show ((0 : Int)).toNat = 0 from rfl] at hx334_0)
                    (try rw [Addr.add_zero'] at hx334_0)
                    replace p334 := eq_true p334
                    replace q334 := eq_true q334
                    have p335 : 0 ≤ (1 : Int) := (by omega)
                    have q335 : 1 < (t330.length : Int) := of_decide_eq_true (by first | (with_reducible assumption) | assumption)
                    obtain ⟨ad335, e335, hx335_0⟩ := Kd.at_string (Kd.R_reads' HO333.out).2.2 1 p335 q335
                    obtain rfl : ad334 = ad335 := (by injection e335)
                    (try simp only [show (1 : Int).toNat = 1 from rfl, Nat.reduceMul, Nat.reduceEqDiff, Go.Addr.add, ↓reduceIte] at hx335_0)
                    have qi335 : (1 < t330.length) = True := eq_true (by omega)
                    (try rw [show ((1 : Int)).toNat = 1 from rfl] at hx335_0)
                    replace p335 := eq_true p335
                    replace q335 := eq_true q335
                    have p336 : 0 ≤ (2 : Int) := (by omega)
                    have q336 : 2 < (t330.length : Int) := of_decide_eq_true (by first | (with_reducible assumption) | assumption)
                    obtain ⟨ad336, e336, hx336_0⟩ := Kd.at_string (Kd.R_reads' HO333.out).2.2 2 p336 q336
                    obtain rfl : ad334 = ad336 := (by injection e336)
                    (try simp only [show (2 : Int).toNat = 2 from rfl, Nat.reduceMul, Nat.reduceEqDiff, Go.Addr.add, ↓reduceIte] at hx336_0)
                    have qi336 : (2 < t330.length) = True := eq_true (by omega)
                    (try rw [show ((2 : Int)).toNat = 2 from rfl] at hx336_0)
                    replace p336 := eq_true p336
                    replace q336 := eq_true q336
                    go_wp2
                    go_meet
                    case rel => exact ⟨_, (true), (by first | rfl | (simp; done) | (simp [*]; done)), H', ⟨by first | omega | exact Nat.le_refl _⟩, ⟨by (with_reducible repeat (first | apply Kd.R_alloc | apply Kd.R_drewN | apply Kd.R_drew)); exact HO333.out⟩, ⟨by (with_reducible repeat (first | refine blk_drewN ?_ _ | refine blk_drew ?_ | refine blk_alloc ?_ _)); exact BK329.out⟩, ⟨by repeat (first | (with_reducible first | exact HB.out | apply below_alloc | apply pw_below_drewN | apply below_drew1 | refine below_set ?_ GE329.out) | exact HB.out)⟩⟩
                · rw [if_neg c12] at H
                  exact absurd H (by simp)
              · rw [if_neg c11] at H
                have c11b0 : (((rdOf ByteArray.empty t330 1).size : Int) == 1) = false := beq_eq_false_iff_ne.mpr c11
                have c11b1 : (((rdOf ByteArray.empty t330 1).size : Int) != 1) = true := bne_iff_ne.mpr c11
                have H' := Aside0.mk H
                clear H
                obtain ⟨Ao17, co17, eo17⟩ := Kd.R_slice HO333.out
                subst eo17
                have p334 : 0 ≤ (0 : Int) := (by omega)
                have q334 : 0 < (t330.length : Int) := of_decide_eq_true (by first | (with_reducible assumption) | assumption)
                obtain ⟨ad334, e334, hx334_0⟩ := Kd.at_string (Kd.R_reads' HO333.out).2.2 0 p334 q334
                cases e334
                have qi334 : (0 < t330.length) = True := eq_true (by omega)
                (try rw [show ((0 : Int)).toNat = 0 from rfl] at hx334_0)
                (try rw [Addr.add_zero'] at hx334_0)
                replace p334 := eq_true p334
                replace q334 := eq_true q334
                have p335 : 0 ≤ (1 : Int) := (by omega)
                have q335 : 1 < (t330.length : Int) := of_decide_eq_true (by first | (with_reducible assumption) | assumption)
                obtain ⟨ad335, e335, hx335_0⟩ := Kd.at_string (Kd.R_reads' HO333.out).2.2 1 p335 q335
                obtain rfl : ad334 = ad335 := (by injection e335)
                (try simp only [show (1 : Int).toNat = 1 from rfl, Nat.reduceMul, Nat.reduceEqDiff, Go.Addr.add, ↓reduceIte] at hx335_0)
                have qi335 : (1 < t330.length) = True := eq_true (by omega)
                (try rw [show ((1 : Int)).toNat = 1 from rfl] at hx335_0)
                replace p335 := eq_true p335
                replace q335 := eq_true q335
                go_wp2
                go_meet
                case rel => exact ⟨_, (true), (by first | rfl | (simp; done) | (simp [*]; done)), H', ⟨by first | omega | exact Nat.le_refl _⟩, ⟨by (with_reducible repeat (first | apply Kd.R_alloc | apply Kd.R_drewN | apply Kd.R_drew)); exact HO333.out⟩, ⟨by (with_reducible repeat (first | refine blk_drewN ?_ _ | refine blk_drew ?_ | refine blk_alloc ?_ _)); exact BK329.out⟩, ⟨by repeat (first | (with_reducible first | exact HB.out | apply below_alloc | apply pw_below_drewN | apply below_drew1 | refine below_set ?_ GE329.out) | exact HB.out)⟩⟩
            · rw [if_neg c10] at H
              exact absurd H (by simp)
          · rw [if_neg c9] at H
            have c9b0 : (((rdOf ByteArray.empty t330 0).size : Int) == 1) = false := beq_eq_false_iff_ne.mpr c9
            have c9b1 : (((rdOf ByteArray.empty t330 0).size : Int) != 1) = true := bne_iff_ne.mpr c9
            have H' := Aside0.mk H
            clear H
            obtain ⟨Ao18, co18, eo18⟩ := Kd.R_slice HO333.out
            subst eo18
            have p334 : 0 ≤ (0 : Int) := (by omega)
            have q334 : 0 < (t330.length : Int) := of_decide_eq_true (by first | (with_reducible assumption) | assumption)
            obtain ⟨ad334, e334, hx334_0⟩ := Kd.at_string (Kd.R_reads' HO333.out).2.2 0 p334 q334
            cases e334
            have qi334 : (0 < t330.length) = True := eq_true (by omega)
            (try rw [show ((0 : Int)).toNat = 0 from rfl] at hx334_0)
            (try rw [Addr.add_zero'] at hx334_0)
            replace p334 := eq_true p334
            replace q334 := eq_true q334
            go_wp2
            go_meet
            case rel => exact ⟨_, (true), (by first | rfl | (simp; done) | (simp [*]; done)), H', ⟨by first | omega | exact Nat.le_refl _⟩, ⟨by (with_reducible repeat (first | apply Kd.R_alloc | apply Kd.R_drewN | apply Kd.R_drew)); exact HO333.out⟩, ⟨by (with_reducible repeat (first | refine blk_drewN ?_ _ | refine blk_drew ?_ | refine blk_alloc ?_ _)); exact BK329.out⟩, ⟨by repeat (first | (with_reducible first | exact HB.out | apply below_alloc | apply pw_below_drewN | apply below_drew1 | refine below_set ?_ GE329.out) | exact HB.out)⟩⟩
        · rw [if_neg c8] at H
          exact absurd H (by simp)
      · rw [if_neg c7] at H
        have c7b0 : ((t330.length : Int) == 5) = false := beq_eq_false_iff_ne.mpr c7
        have c7b1 : ((t330.length : Int) != 5) = true := bne_iff_ne.mpr c7
        have H' := Aside0.mk H
        clear H
        obtain ⟨Ao19, co19, eo19⟩ := Kd.R_slice HO333.out
        subst eo19
        go_wp2
        go_meet
        case rel => exact ⟨_, (true), (by first | rfl | (simp; done) | (simp [*]; done)), H', ⟨by first | omega | exact Nat.le_refl _⟩, ⟨by (with_reducible repeat (first | apply Kd.R_alloc | apply Kd.R_drewN | apply Kd.R_drew)); exact HO333.out⟩, ⟨by (with_reducible repeat (first | refine blk_drewN ?_ _ | refine blk_drew ?_ | refine blk_alloc ?_ _)); exact BK329.out⟩, ⟨by repeat (first | (with_reducible first | exact HB.out | apply below_alloc | apply pw_below_drewN | apply below_drew1 | refine below_set ?_ GE329.out) | exact HB.out)⟩⟩
    · rw [if_neg c6] at H
      have c6b0 : (t331 == 0) = false := beq_eq_false_iff_ne.mpr c6
      have c6b1 : (t331 != 0) = true := bne_iff_ne.mpr c6
      (first | rw [c6b0] | (simp only [i64_w, i32_w]; rw [c6b0]) | skip)
      have H' := Aside0.mk H
      clear H
      go_wp2
      go_meet
      case rel => exact ⟨_, (true), (by first | rfl | (simp; done) | (simp [*]; done)), H', ⟨by first | omega | exact Nat.le_refl _⟩, ⟨by (with_reducible repeat (first | apply Kd.R_alloc | apply Kd.R_drewN | apply Kd.R_drew)); exact HO333.out⟩, ⟨by (with_reducible repeat (first | refine blk_drewN ?_ _ | refine blk_drew ?_ | refine blk_alloc ?_ _)); exact BK329.out⟩, ⟨by repeat (first | (with_reducible first | exact HB.out | apply below_alloc | apply pw_below_drewN | apply below_drew1 | refine below_set ?_ GE329.out) | exact HB.out)⟩⟩
  case rest =>
    clear HC3
    try clear c1
    try clear c2
    try clear p2
    try clear p3
    try clear q3
    try clear hx3
    try clear qi3
    try clear c6
    try clear c6b0
    try clear c6b1
    try clear c7
    try clear c7b0
    try clear c7b1
    try clear c8
    try clear c8b0
    try clear c8b1
    try clear c9
    try clear c9b0
    try clear c9b1
    try clear c10
    try clear c10b0
    try clear c10b1
    try clear c11
    try clear c11b0
    try clear c11b1
    try clear c12
    try clear c12b0
    try clear c12b1
    try clear c13
    try clear c13b0
    try clear c13b1
    try clear c14
    try clear c14b0
    try clear c14b1
    try clear c16
    try clear hx334_0
    try clear hx335_0
    try clear hx336_0
    try clear hx337_0
    try clear p334
    try clear p335
    try clear p336
    try clear p337
    try clear q334
    try clear q335
    try clear q336
    try clear q337
    obtain ⟨kq, x46_2, rfl, HA, HJ2, HO_4, BK329, HB⟩ := hcut
    cases kq with
    | zero => exact absurd HA.out (by simp [sandglassref16_ReadWord.j0])
    | succ kj2 =>
      have H := HA.out
      clear HA
      simp only [sandglassref16_ReadWord.j0] at H
      by_cases c20 : x46_2 = true
      · subst c20
        have H1 : (some (0, 0, 0, 0, (⟨#[]⟩ : ByteArray), 3)) = some (r1, r2, r3, r4, r5, r6) := by rw [if_pos rfl] at H; exact H
        clear H
        have H := H1
        clear H1
        simp only [Option.some.injEq, Prod.mk.injEq] at H
        obtain ⟨rfl, rfl, rfl, rfl, rfl, rfl⟩ := H
        have hcz21_0 : wc.cell? ⟨gb329, 0, none⟩ = some (.int .i64 0) := (blk_cell BK329.out 0).trans rfl
        have hcz21_1 : wc.cell? ⟨gb329, 1, none⟩ = some (.int .i64 0) := (blk_cell BK329.out 1).trans rfl
        have hcz21_2 : wc.cell? ⟨gb329, 2, none⟩ = some (.int .i64 0) := (blk_cell BK329.out 2).trans rfl
        have hcz21_3 : wc.cell? ⟨gb329, 3, none⟩ = some (.int .i64 0) := (blk_cell BK329.out 3).trans rfl
        have hcz21_4 : wc.cell? ⟨gb329, 4, none⟩ = some (.string (⟨#[]⟩ : ByteArray)) := (blk_cell BK329.out 4).trans rfl
        have hfz21_0 := blk_frozen BK329.out 0
        have hfz21_1 := blk_frozen BK329.out 1
        have hfz21_2 := blk_frozen BK329.out 2
        have hfz21_3 := blk_frozen BK329.out 3
        have hfz21_4 := blk_frozen BK329.out 4
        go_wp2
        refine bodyPost_ret (results_ct rfl _ _ gb329 47 #[.int .i64 0, .int .i64 0, .int .i64 0, .int .i64 0, .string (⟨#[]⟩ : ByteArray)] (0, 0) _ rfl (by (with_reducible repeat (first | refine blk_drewN ?_ _ | refine blk_drew ?_ | refine blk_alloc ?_ _)); refine blk_put (cs := #[.int .i64 0, .int .i64 0, .int .i64 0, .int .i64 0, .string (⟨#[]⟩ : ByteArray)]) ?_ 4 _ rfl; (with_reducible repeat (first | refine blk_drewN ?_ _ | refine blk_drew ?_ | refine blk_alloc ?_ _)); refine blk_put (cs := #[.int .i64 0, .int .i64 0, .int .i64 0, .int .i64 0, .string (⟨#[]⟩ : ByteArray)]) ?_ 3 _ rfl; (with_reducible repeat (first | refine blk_drewN ?_ _ | refine blk_drew ?_ | refine blk_alloc ?_ _)); refine blk_put (cs := #[.int .i64 0, .int .i64 0, .int .i64 0, .int .i64 0, .string (⟨#[]⟩ : ByteArray)]) ?_ 2 _ rfl; (with_reducible repeat (first | refine blk_drewN ?_ _ | refine blk_drew ?_ | refine blk_alloc ?_ _)); refine blk_put (cs := #[.int .i64 0, .int .i64 0, .int .i64 0, .int .i64 0, .string (⟨#[]⟩ : ByteArray)]) ?_ 1 _ rfl; (with_reducible repeat (first | refine blk_drewN ?_ _ | refine blk_drew ?_ | refine blk_alloc ?_ _)); refine blk_put (cs := #[.int .i64 0, .int .i64 0, .int .i64 0, .int .i64 0, .string (⟨#[]⟩ : ByteArray)]) ?_ 0 _ rfl; (with_reducible repeat (first | refine blk_drewN ?_ _ | refine blk_drew ?_ | refine blk_alloc ?_ _)); exact BK329.out) Try.underlying47 rfl (by kernel_rfl)) rfl ?_
        exact ⟨by first | rfl | (simp [errW_none, errW_some] <;> rfl) | (simp [*, errW_none, errW_some] <;> rfl), by repeat (first | (with_reducible first | exact HB.out | apply below_alloc | apply pw_below_drewN | apply below_drew1 | refine below_set ?_ GE329.out) | exact HB.out)⟩
      · replace c20 := Bool.eq_false_iff.mpr c20
        subst c20
        have H1 : (if 0 < (t330.length : Int) then (if 0 < ((rdOf ByteArray.empty t330 0).size : Int) then (if 1 < (t330.length : Int) then (if 0 < ((rdOf ByteArray.empty t330 1).size : Int) then (if 2 < (t330.length : Int) then (if 0 < ((rdOf ByteArray.empty t330 2).size : Int) then (if 3 < (t330.length : Int) then (if 0 < ((rdOf ByteArray.empty t330 3).size : Int) then (if 4 < (t330.length : Int) then ((sandglassref16_CheckWord.f kj2 (wrap64 (bt (rdOf ByteArray.empty t330 0) 0)) (wrap64 (bt (rdOf ByteArray.empty t330 1) 0)) (wrap64 (bt (rdOf ByteArray.empty t330 2) 0)) (wrap64 ((wrap64 (bt (rdOf ByteArray.empty t330 3) 0)) - 1)) (rdOf ByteArray.empty t330 4)).bind fun t344 => (if t344 = 0 then (some (wrap64 (bt (rdOf ByteArray.empty t330 0) 0), wrap64 (bt (rdOf ByteArray.empty t330 1) 0), wrap64 (bt (rdOf ByteArray.empty t330 2) 0), wrap64 ((wrap64 (bt (rdOf ByteArray.empty t330 3) 0)) - 1), rdOf ByteArray.empty t330 4, 0)) else (some (0, 0, 0, 0, (⟨#[]⟩ : ByteArray), 3)))) else (none)) else (none)) else (none)) else (none)) else (none)) else (none)) else (none)) else (none)) else (none)) = some (r1, r2, r3, r4, r5, r6) := by rw [if_neg (show ¬ (false = true) by decide)] at H; exact H
        clear H
        have H := H1
        clear H1
        by_cases c22 : 0 < (t330.length : Int)
        · rw [if_pos c22] at H
          have c22b0 : decide (0 < (t330.length : Int)) = true := decide_eq_true c22
          have c22b1 : decide (0 < t330.length) = true := decide_eq_true (by omega)
          clear c22
          by_cases c23 : 0 < ((rdOf ByteArray.empty t330 0).size : Int)
          · rw [if_pos c23] at H
            have c23b0 : decide (0 < ((rdOf ByteArray.empty t330 0).size : Int)) = true := decide_eq_true c23
            have c23b1 : decide (0 < (rdOf ByteArray.empty t330 0).size) = true := decide_eq_true (by omega)
            clear c23
            by_cases c25 : 1 < (t330.length : Int)
            · rw [if_pos c25] at H
              have c25b0 : decide (1 < (t330.length : Int)) = true := decide_eq_true c25
              have c25b1 : decide (1 < t330.length) = true := decide_eq_true (by omega)
              clear c25
              by_cases c26 : 0 < ((rdOf ByteArray.empty t330 1).size : Int)
              · rw [if_pos c26] at H
                have c26b0 : decide (0 < ((rdOf ByteArray.empty t330 1).size : Int)) = true := decide_eq_true c26
                have c26b1 : decide (0 < (rdOf ByteArray.empty t330 1).size) = true := decide_eq_true (by omega)
                clear c26
                by_cases c28 : 2 < (t330.length : Int)
                · rw [if_pos c28] at H
                  have c28b0 : decide (2 < (t330.length : Int)) = true := decide_eq_true c28
                  have c28b1 : decide (2 < t330.length) = true := decide_eq_true (by omega)
                  clear c28
                  by_cases c29 : 0 < ((rdOf ByteArray.empty t330 2).size : Int)
                  · rw [if_pos c29] at H
                    have c29b0 : decide (0 < ((rdOf ByteArray.empty t330 2).size : Int)) = true := decide_eq_true c29
                    have c29b1 : decide (0 < (rdOf ByteArray.empty t330 2).size) = true := decide_eq_true (by omega)
                    clear c29
                    by_cases c31 : 3 < (t330.length : Int)
                    · rw [if_pos c31] at H
                      have c31b0 : decide (3 < (t330.length : Int)) = true := decide_eq_true c31
                      have c31b1 : decide (3 < t330.length) = true := decide_eq_true (by omega)
                      clear c31
                      by_cases c32 : 0 < ((rdOf ByteArray.empty t330 3).size : Int)
                      · rw [if_pos c32] at H
                        have c32b0 : decide (0 < ((rdOf ByteArray.empty t330 3).size : Int)) = true := decide_eq_true c32
                        have c32b1 : decide (0 < (rdOf ByteArray.empty t330 3).size) = true := decide_eq_true (by omega)
                        clear c32
                        by_cases c34 : 4 < (t330.length : Int)
                        · rw [if_pos c34] at H
                          have c34b0 : decide (4 < (t330.length : Int)) = true := decide_eq_true c34
                          have c34b1 : decide (4 < t330.length) = true := decide_eq_true (by omega)
                          clear c34
                          replace H := Option.bind_eq_some_iff.mp H
                          obtain ⟨t344, A350, H⟩ := H
                          replace H : (if t344 = 0 then (some (wrap64 (bt (rdOf ByteArray.empty t330 0) 0), wrap64 (bt (rdOf ByteArray.empty t330 1) 0), wrap64 (bt (rdOf ByteArray.empty t330 2) 0), wrap64 ((wrap64 (bt (rdOf ByteArray.empty t330 3) 0)) - 1), rdOf ByteArray.empty t330 4, 0)) else (some (0, 0, 0, 0, (⟨#[]⟩ : ByteArray), 3))) = some (r1, r2, r3, r4, r5, r6) := H
                          have A35 := Aside0.mk A350
                          clear A350
                          by_cases c36 : t344 = 0
                          · rw [if_pos c36] at H
                            have c36b0 : (t344 == 0) = true := beq_iff_eq.mpr c36
                            have c36b1 : (t344 != 0) = false := bne_eq_false_iff_eq.mpr c36
                            clear c36
                            simp only [Option.some.injEq, Prod.mk.injEq] at H
                            obtain ⟨rfl, rfl, rfl, rfl, rfl, rfl⟩ := H
                            try go_wp2
                            have n0_ := Aside0.mk (Kd.R_drew HO_4.out)
                            have n1_ := Aside0.mk (blk_drew BK329.out)
                            have n2_ := Aside0.mk (below_drew1 HB.out)
                            clear HO_4
                            clear BK329
                            clear HB
                            have HO_4 := n0_
                            have BK329 := n1_
                            have HB := n2_
                            clear n0_ n1_ n2_
                            obtain ⟨Ao38, co38, eo38⟩ := Kd.R_slice HO_4.out
                            (first | subst eo38 | (injection eo38 with f1_ f2_ f3_; have f4_ := f1_.symm; have f5_ := f3_.symm; clear f1_ f2_ f3_; subst f4_; subst f5_))
                            have p338 : 0 ≤ (0 : Int) := (by omega)
                            have q338 : 0 < (t330.length : Int) := of_decide_eq_true (by first | (with_reducible assumption) | assumption)
                            obtain ⟨ad338, e338, hx338_0⟩ := Kd.at_string (Kd.R_reads' HO_4.out).2.2 0 p338 q338
                            cases e338
                            have qi338 : (0 < t330.length) = True := eq_true (by omega)
                            (try rw [show ((0 : Int)).toNat = 0 from rfl] at hx338_0)
                            (try rw [Addr.add_zero'] at hx338_0)
                            replace p338 := eq_true p338
                            replace q338 := eq_true q338
                            have p24 : 0 ≤ (0 : Int) := (by omega)
                            have q24 : 0 < (rdOf ByteArray.empty t330 0).size := (by have : (0 : Int) < ((rdOf ByteArray.empty t330 0).size : Int) := of_decide_eq_true (by first | (with_reducible assumption) | assumption); omega)
                            have hx24 : ∀ h : 0 < (rdOf ByteArray.empty t330 0).size, (((rdOf ByteArray.empty t330 0)[0]'h).toNat : Int) = bt (rdOf ByteArray.empty t330 0) 0 := bt_at (rdOf ByteArray.empty t330 0) 0
                            clear p24
                            have qi24 : (0 < ((rdOf ByteArray.empty t330 0).size : Int)) = True := eq_true (of_decide_eq_true (by first | (with_reducible assumption) | assumption))
                            replace q24 := eq_true q24
                            have p339 : 0 ≤ (1 : Int) := (by omega)
                            have q339 : 1 < (t330.length : Int) := of_decide_eq_true (by first | (with_reducible assumption) | assumption)
                            obtain ⟨ad339, e339, hx339_0⟩ := Kd.at_string (Kd.R_reads' HO_4.out).2.2 1 p339 q339
                            obtain rfl : ad338 = ad339 := (by injection e339)
                            (try simp only [show (1 : Int).toNat = 1 from rfl, Nat.reduceMul, Nat.reduceEqDiff, Go.Addr.add, ↓reduceIte] at hx339_0)
                            have qi339 : (1 < t330.length) = True := eq_true (by omega)
                            (try rw [show ((1 : Int)).toNat = 1 from rfl] at hx339_0)
                            replace p339 := eq_true p339
                            replace q339 := eq_true q339
                            have p27 : 0 ≤ (0 : Int) := (by omega)
                            have q27 : 0 < (rdOf ByteArray.empty t330 1).size := (by have : (0 : Int) < ((rdOf ByteArray.empty t330 1).size : Int) := of_decide_eq_true (by first | (with_reducible assumption) | assumption); omega)
                            have hx27 : ∀ h : 0 < (rdOf ByteArray.empty t330 1).size, (((rdOf ByteArray.empty t330 1)[0]'h).toNat : Int) = bt (rdOf ByteArray.empty t330 1) 0 := bt_at (rdOf ByteArray.empty t330 1) 0
                            clear p27
                            have qi27 : (0 < ((rdOf ByteArray.empty t330 1).size : Int)) = True := eq_true (of_decide_eq_true (by first | (with_reducible assumption) | assumption))
                            replace q27 := eq_true q27
                            have p340 : 0 ≤ (2 : Int) := (by omega)
                            have q340 : 2 < (t330.length : Int) := of_decide_eq_true (by first | (with_reducible assumption) | assumption)
                            obtain ⟨ad340, e340, hx340_0⟩ := Kd.at_string (Kd.R_reads' HO_4.out).2.2 2 p340 q340
                            obtain rfl : ad338 = ad340 := (by injection e340)
                            (try simp only [show (2 : Int).toNat = 2 from rfl, Nat.reduceMul, Nat.reduceEqDiff, Go.Addr.add, ↓reduceIte] at hx340_0)
                            have qi340 : (2 < t330.length) = True := eq_true (by omega)
                            (try rw [show ((2 : Int)).toNat = 2 from rfl] at hx340_0)
                            replace p340 := eq_true p340
                            replace q340 := eq_true q340
                            have p30 : 0 ≤ (0 : Int) := (by omega)
                            have q30 : 0 < (rdOf ByteArray.empty t330 2).size := (by have : (0 : Int) < ((rdOf ByteArray.empty t330 2).size : Int) := of_decide_eq_true (by first | (with_reducible assumption) | assumption); omega)
                            have hx30 : ∀ h : 0 < (rdOf ByteArray.empty t330 2).size, (((rdOf ByteArray.empty t330 2)[0]'h).toNat : Int) = bt (rdOf ByteArray.empty t330 2) 0 := bt_at (rdOf ByteArray.empty t330 2) 0
                            clear p30
                            have qi30 : (0 < ((rdOf ByteArray.empty t330 2).size : Int)) = True := eq_true (of_decide_eq_true (by first | (with_reducible assumption) | assumption))
                            replace q30 := eq_true q30
                            have p341 : 0 ≤ (3 : Int) := (by omega)
                            have q341 : 3 < (t330.length : Int) := of_decide_eq_true (by first | (with_reducible assumption) | assumption)
                            obtain ⟨ad341, e341, hx341_0⟩ := Kd.at_string (Kd.R_reads' HO_4.out).2.2 3 p341 q341
                            obtain rfl : ad338 = ad341 := (by injection e341)
                            (try simp only [show (3 : Int).toNat = 3 from rfl, Nat.reduceMul, Nat.reduceEqDiff, Go.Addr.add, ↓reduceIte] at hx341_0)
                            have qi341 : (3 < t330.length) = True := eq_true (by omega)
                            (try rw [show ((3 : Int)).toNat = 3 from rfl] at hx341_0)
                            replace p341 := eq_true p341
                            replace q341 := eq_true q341
                            have p33 : 0 ≤ (0 : Int) := (by omega)
                            have q33 : 0 < (rdOf ByteArray.empty t330 3).size := (by have : (0 : Int) < ((rdOf ByteArray.empty t330 3).size : Int) := of_decide_eq_true (by first | (with_reducible assumption) | assumption); omega)
                            have hx33 : ∀ h : 0 < (rdOf ByteArray.empty t330 3).size, (((rdOf ByteArray.empty t330 3)[0]'h).toNat : Int) = bt (rdOf ByteArray.empty t330 3) 0 := bt_at (rdOf ByteArray.empty t330 3) 0
                            clear p33
                            have qi33 : (0 < ((rdOf ByteArray.empty t330 3).size : Int)) = True := eq_true (of_decide_eq_true (by first | (with_reducible assumption) | assumption))
                            replace q33 := eq_true q33
                            have p342 : 0 ≤ (4 : Int) := (by omega)
                            have q342 : 4 < (t330.length : Int) := of_decide_eq_true (by first | (with_reducible assumption) | assumption)
                            obtain ⟨ad342, e342, hx342_0⟩ := Kd.at_string (Kd.R_reads' HO_4.out).2.2 4 p342 q342
                            obtain rfl : ad338 = ad342 := (by injection e342)
                            (try simp only [show (4 : Int).toNat = 4 from rfl, Nat.reduceMul, Nat.reduceEqDiff, Go.Addr.add, ↓reduceIte] at hx342_0)
                            have qi342 : (4 < t330.length) = True := eq_true (by omega)
                            (try rw [show ((4 : Int)).toNat = 4 from rfl] at hx342_0)
                            replace p342 := eq_true p342
                            replace q342 := eq_true q342
                            refine start_ (n := 27) (S := fun w' => w'.cell? ad338 = some (.string (rdOf ByteArray.empty t330 0)) ∧ w'.cell? ⟨ad338.block, ad338.off + 1, none⟩ = some (.string (rdOf ByteArray.empty t330 1)) ∧ w'.cell? ⟨ad338.block, ad338.off + 2, none⟩ = some (.string (rdOf ByteArray.empty t330 2)) ∧ w'.cell? ⟨ad338.block, ad338.off + 3, none⟩ = some (.string (rdOf ByteArray.empty t330 3)) ∧ w'.cell? ⟨ad338.block, ad338.off + 4, none⟩ = some (.string (rdOf ByteArray.empty t330 4))) (ds := []) #[false, false, false, false, false, false, false, false, false, false, false, false, false, false, false, false, false, false, false, false, false, false, false, false, false, false, false] (by kernel_rfl) rfl rfl ⟨hx338_0, hx339_0, hx340_0, hx341_0, hx342_0⟩ (fun hHeld => ?_); refine with_tabW sandglassref16_ReadWord.tab4 sandglassref16_ReadWord.bits4 (fun HT_ HW_ => ?_)
                            generalize wc.drew = w37 at HO_4 BK329 HB hx338_0 hx339_0 hx340_0 hx341_0 hx342_0 hHeld ⊢
                            refine pure_ (i := 0) (N := some 48) (v := ?_) (a' := ?_) #[true, false, false, false, false, false, false, false, false, false, false, false, false, false, false, false, false, false, false, false, false, false, false, false, false, false, false] rfl rfl (any_of HT_.out (by kernel_rfl)) (fun _ _ _ h => h) (Or.inl ⟨by rfl, ?_⟩) ?_ ?_
                            rotate_left
                            · intro w'
                              go_simp
                              with_reducible rfl
                            rotate_left
                            · simp only [Act.put, List.setIfInBounds_toArray, List.set_cons_zero, List.set_cons_succ, i64_w, i32_w]
                              rfl
                            refine pure_ (i := 1) (N := some 49) (v := ?_) (a' := ?_) #[true, true, false, false, false, false, false, false, false, false, false, false, false, false, false, false, false, false, false, false, false, false, false, false, false, false, false] rfl rfl (any_of HT_.out (by kernel_rfl)) (fun _ _ _ h => h) (Or.inl ⟨by rfl, ?_⟩) ?_ ?_
                            rotate_left
                            · intro w'
                              go_simp
                              with_reducible rfl
                            rotate_left
                            · simp only [Act.put, List.setIfInBounds_toArray, List.set_cons_zero, List.set_cons_succ, i64_w, i32_w]
                              rfl
                            refine pure_ (i := 5) (N := some 53) (v := ?_) (a' := ?_) #[true, true, false, false, false, true, false, false, false, false, false, false, false, false, false, false, false, false, false, false, false, false, false, false, false, false, false] rfl rfl (any_of HT_.out (by kernel_rfl)) (fun _ _ _ h => h) (Or.inl ⟨by rfl, ?_⟩) ?_ ?_
                            rotate_left
                            · intro w'
                              go_simp
                              with_reducible rfl
                            rotate_left
                            · simp only [Act.put, List.setIfInBounds_toArray, List.set_cons_zero, List.set_cons_succ, i64_w, i32_w]
                              rfl
                            refine pure_ (i := 6) (N := some 54) (v := ?_) (a' := ?_) #[true, true, false, false, false, true, true, false, false, false, false, false, false, false, false, false, false, false, false, false, false, false, false, false, false, false, false] rfl rfl (any_of HT_.out (by kernel_rfl)) (fun _ _ _ h => h) (Or.inl ⟨by rfl, ?_⟩) ?_ ?_
                            rotate_left
                            · intro w'
                              go_simp
                              with_reducible rfl
                            rotate_left
                            · simp only [Act.put, List.setIfInBounds_toArray, List.set_cons_zero, List.set_cons_succ, i64_w, i32_w]
                              rfl
                            refine pure_ (i := 10) (N := some 58) (v := ?_) (a' := ?_) #[true, true, false, false, false, true, true, false, false, false, true, false, false, false, false, false, false, false, false, false, false, false, false, false, false, false, false] rfl rfl (any_of HT_.out (by kernel_rfl)) (fun _ _ _ h => h) (Or.inl ⟨by rfl, ?_⟩) ?_ ?_
                            rotate_left
                            · intro w'
                              go_simp
                              with_reducible rfl
                            rotate_left
                            · simp only [Act.put, List.setIfInBounds_toArray, List.set_cons_zero, List.set_cons_succ, i64_w, i32_w]
                              rfl
                            refine pure_ (i := 11) (N := some 59) (v := ?_) (a' := ?_) #[true, true, false, false, false, true, true, false, false, false, true, true, false, false, false, false, false, false, false, false, false, false, false, false, false, false, false] rfl rfl (any_of HT_.out (by kernel_rfl)) (fun _ _ _ h => h) (Or.inl ⟨by rfl, ?_⟩) ?_ ?_
                            rotate_left
                            · intro w'
                              go_simp
                              with_reducible rfl
                            rotate_left
                            · simp only [Act.put, List.setIfInBounds_toArray, List.set_cons_zero, List.set_cons_succ, i64_w, i32_w]
                              rfl
                            refine pure_ (i := 15) (N := some 63) (v := ?_) (a' := ?_) #[true, true, false, false, false, true, true, false, false, false, true, true, false, false, false, true, false, false, false, false, false, false, false, false, false, false, false] rfl rfl (any_of HT_.out (by kernel_rfl)) (fun _ _ _ h => h) (Or.inl ⟨by rfl, ?_⟩) ?_ ?_
                            rotate_left
                            · intro w'
                              go_simp
                              with_reducible rfl
                            rotate_left
                            · simp only [Act.put, List.setIfInBounds_toArray, List.set_cons_zero, List.set_cons_succ, i64_w, i32_w]
                              rfl
                            refine pure_ (i := 16) (N := some 64) (v := ?_) (a' := ?_) #[true, true, false, false, false, true, true, false, false, false, true, true, false, false, false, true, true, false, false, false, false, false, false, false, false, false, false] rfl rfl (any_of HT_.out (by kernel_rfl)) (fun _ _ _ h => h) (Or.inl ⟨by rfl, ?_⟩) ?_ ?_
                            rotate_left
                            · intro w'
                              go_simp
                              with_reducible rfl
                            rotate_left
                            · simp only [Act.put, List.setIfInBounds_toArray, List.set_cons_zero, List.set_cons_succ, i64_w, i32_w]
                              rfl
                            refine pure_ (i := 21) (N := some 69) (v := ?_) (a' := ?_) #[true, true, false, false, false, true, true, false, false, false, true, true, false, false, false, true, true, false, false, false, false, true, false, false, false, false, false] rfl rfl (any_of HT_.out (by kernel_rfl)) (fun _ _ _ h => h) (Or.inl ⟨by rfl, ?_⟩) ?_ ?_
                            rotate_left
                            · intro w'
                              go_simp
                              with_reducible rfl
                            rotate_left
                            · simp only [Act.put, List.setIfInBounds_toArray, List.set_cons_zero, List.set_cons_succ, i64_w, i32_w]
                              rfl
                            refine pure_ (i := 22) (N := some 70) (v := ?_) (a' := ?_) #[true, true, false, false, false, true, true, false, false, false, true, true, false, false, false, true, true, false, false, false, false, true, true, false, false, false, false] rfl rfl (any_of HT_.out (by kernel_rfl)) (fun _ _ _ h => h) (Or.inl ⟨by rfl, ?_⟩) ?_ ?_
                            rotate_left
                            · intro w'
                              go_simp
                              with_reducible rfl
                            rotate_left
                            · simp only [Act.put, List.setIfInBounds_toArray, List.set_cons_zero, List.set_cons_succ, i64_w, i32_w]
                              rfl
                            refine take_ (i := 2) (N := some 50) (v := ?_) (a' := ?_) #[true, true, true, false, false, true, true, false, false, false, true, true, false, false, false, true, true, false, false, false, false, true, true, false, false, false, false] rfl rfl (take_ofW HT_.out HW_.out (by kernel_rfl)) (fun _ _ _ h => h) (Or.inl ⟨by rfl, ?_⟩) hHeld ?_ ?_
                            rotate_left
                            · rintro w' ⟨s0, s1, s2, s3, s4⟩
                              go_simp
                              with_reducible rfl
                            rotate_left
                            · simp only [Act.put, List.setIfInBounds_toArray, List.set_cons_zero, List.set_cons_succ, i64_w, i32_w]
                              rfl
                            refine take_ (i := 3) (N := some 51) (v := ?_) (a' := ?_) #[true, true, true, true, false, true, true, false, false, false, true, true, false, false, false, true, true, false, false, false, false, true, true, false, false, false, false] rfl rfl (take_ofW HT_.out HW_.out (by kernel_rfl)) (fun _ _ _ h => h) (Or.inl ⟨by rfl, ?_⟩) hHeld ?_ ?_
                            rotate_left
                            · rintro w' ⟨s0, s1, s2, s3, s4⟩
                              go_simp
                              with_reducible rfl
                            rotate_left
                            · simp only [Act.put, List.setIfInBounds_toArray, List.set_cons_zero, List.set_cons_succ, i64_w, i32_w]
                              rfl
                            refine pure_ (i := 4) (N := some 52) (v := ?_) (a' := ?_) #[true, true, true, true, true, true, true, false, false, false, true, true, false, false, false, true, true, false, false, false, false, true, true, false, false, false, false] rfl rfl (any_of HT_.out (by kernel_rfl)) (fun _ _ _ h => h) (Or.inl ⟨by rfl, ?_⟩) ?_ ?_
                            rotate_left
                            · intro w'
                              go_simp
                              with_reducible rfl
                            rotate_left
                            · simp only [Act.put, List.setIfInBounds_toArray, List.set_cons_zero, List.set_cons_succ, i64_w, i32_w]
                              rfl
                            refine take_ (i := 7) (N := some 55) (v := ?_) (a' := ?_) #[true, true, true, true, true, true, true, true, false, false, true, true, false, false, false, true, true, false, false, false, false, true, true, false, false, false, false] rfl rfl (take_ofW HT_.out HW_.out (by kernel_rfl)) (fun _ _ _ h => h) (Or.inl ⟨by rfl, ?_⟩) hHeld ?_ ?_
                            rotate_left
                            · rintro w' ⟨s0, s1, s2, s3, s4⟩
                              go_simp
                              with_reducible rfl
                            rotate_left
                            · simp only [Act.put, List.setIfInBounds_toArray, List.set_cons_zero, List.set_cons_succ, i64_w, i32_w]
                              rfl
                            refine take_ (i := 8) (N := some 56) (v := ?_) (a' := ?_) #[true, true, true, true, true, true, true, true, true, false, true, true, false, false, false, true, true, false, false, false, false, true, true, false, false, false, false] rfl rfl (take_ofW HT_.out HW_.out (by kernel_rfl)) (fun _ _ _ h => h) (Or.inl ⟨by rfl, ?_⟩) hHeld ?_ ?_
                            rotate_left
                            · rintro w' ⟨s0, s1, s2, s3, s4⟩
                              go_simp
                              with_reducible rfl
                            rotate_left
                            · simp only [Act.put, List.setIfInBounds_toArray, List.set_cons_zero, List.set_cons_succ, i64_w, i32_w]
                              rfl
                            refine pure_ (i := 9) (N := some 57) (v := ?_) (a' := ?_) #[true, true, true, true, true, true, true, true, true, true, true, true, false, false, false, true, true, false, false, false, false, true, true, false, false, false, false] rfl rfl (any_of HT_.out (by kernel_rfl)) (fun _ _ _ h => h) (Or.inl ⟨by rfl, ?_⟩) ?_ ?_
                            rotate_left
                            · intro w'
                              go_simp
                              with_reducible rfl
                            rotate_left
                            · simp only [Act.put, List.setIfInBounds_toArray, List.set_cons_zero, List.set_cons_succ, i64_w, i32_w]
                              rfl
                            refine take_ (i := 12) (N := some 60) (v := ?_) (a' := ?_) #[true, true, true, true, true, true, true, true, true, true, true, true, true, false, false, true, true, false, false, false, false, true, true, false, false, false, false] rfl rfl (take_ofW HT_.out HW_.out (by kernel_rfl)) (fun _ _ _ h => h) (Or.inl ⟨by rfl, ?_⟩) hHeld ?_ ?_
                            rotate_left
                            · rintro w' ⟨s0, s1, s2, s3, s4⟩
                              go_simp
                              with_reducible rfl
                            rotate_left
                            · simp only [Act.put, List.setIfInBounds_toArray, List.set_cons_zero, List.set_cons_succ, i64_w, i32_w]
                              rfl
                            refine take_ (i := 13) (N := some 61) (v := ?_) (a' := ?_) #[true, true, true, true, true, true, true, true, true, true, true, true, true, true, false, true, true, false, false, false, false, true, true, false, false, false, false] rfl rfl (take_ofW HT_.out HW_.out (by kernel_rfl)) (fun _ _ _ h => h) (Or.inl ⟨by rfl, ?_⟩) hHeld ?_ ?_
                            rotate_left
                            · rintro w' ⟨s0, s1, s2, s3, s4⟩
                              go_simp
                              with_reducible rfl
                            rotate_left
                            · simp only [Act.put, List.setIfInBounds_toArray, List.set_cons_zero, List.set_cons_succ, i64_w, i32_w]
                              rfl
                            refine pure_ (i := 14) (N := some 62) (v := ?_) (a' := ?_) #[true, true, true, true, true, true, true, true, true, true, true, true, true, true, true, true, true, false, false, false, false, true, true, false, false, false, false] rfl rfl (any_of HT_.out (by kernel_rfl)) (fun _ _ _ h => h) (Or.inl ⟨by rfl, ?_⟩) ?_ ?_
                            rotate_left
                            · intro w'
                              go_simp
                              with_reducible rfl
                            rotate_left
                            · simp only [Act.put, List.setIfInBounds_toArray, List.set_cons_zero, List.set_cons_succ, i64_w, i32_w]
                              rfl
                            refine take_ (i := 17) (N := some 65) (v := ?_) (a' := ?_) #[true, true, true, true, true, true, true, true, true, true, true, true, true, true, true, true, true, true, false, false, false, true, true, false, false, false, false] rfl rfl (take_ofW HT_.out HW_.out (by kernel_rfl)) (fun _ _ _ h => h) (Or.inl ⟨by rfl, ?_⟩) hHeld ?_ ?_
                            rotate_left
                            · rintro w' ⟨s0, s1, s2, s3, s4⟩
                              go_simp
                              with_reducible rfl
                            rotate_left
                            · simp only [Act.put, List.setIfInBounds_toArray, List.set_cons_zero, List.set_cons_succ, i64_w, i32_w]
                              rfl
                            refine take_ (i := 18) (N := some 66) (v := ?_) (a' := ?_) #[true, true, true, true, true, true, true, true, true, true, true, true, true, true, true, true, true, true, true, false, false, true, true, false, false, false, false] rfl rfl (take_ofW HT_.out HW_.out (by kernel_rfl)) (fun _ _ _ h => h) (Or.inl ⟨by rfl, ?_⟩) hHeld ?_ ?_
                            rotate_left
                            · rintro w' ⟨s0, s1, s2, s3, s4⟩
                              go_simp
                              with_reducible rfl
                            rotate_left
                            · simp only [Act.put, List.setIfInBounds_toArray, List.set_cons_zero, List.set_cons_succ, i64_w, i32_w]
                              rfl
                            refine pure_ (i := 19) (N := some 67) (v := ?_) (a' := ?_) #[true, true, true, true, true, true, true, true, true, true, true, true, true, true, true, true, true, true, true, true, false, true, true, false, false, false, false] rfl rfl (any_of HT_.out (by kernel_rfl)) (fun _ _ _ h => h) (Or.inl ⟨by rfl, ?_⟩) ?_ ?_
                            rotate_left
                            · intro w'
                              go_simp
                              with_reducible rfl
                            rotate_left
                            · simp only [Act.put, List.setIfInBounds_toArray, List.set_cons_zero, List.set_cons_succ, i64_w, i32_w]
                              rfl
                            refine pure_ (i := 20) (N := some 68) (v := ?_) (a' := ?_) #[true, true, true, true, true, true, true, true, true, true, true, true, true, true, true, true, true, true, true, true, true, true, true, false, false, false, false] rfl rfl (any_of HT_.out (by kernel_rfl)) (fun _ _ _ h => h) (Or.inl ⟨by rfl, ?_⟩) ?_ ?_
                            rotate_left
                            · intro w'
                              go_simp
                              with_reducible rfl
                            rotate_left
                            · simp only [Act.put, List.setIfInBounds_toArray, List.set_cons_zero, List.set_cons_succ, i64_w, i32_w]
                              rfl
                            refine take_ (i := 23) (N := some 71) (v := ?_) (a' := ?_) #[true, true, true, true, true, true, true, true, true, true, true, true, true, true, true, true, true, true, true, true, true, true, true, true, false, false, false] rfl rfl (take_ofW HT_.out HW_.out (by kernel_rfl)) (fun _ _ _ h => h) (Or.inl ⟨by rfl, ?_⟩) hHeld ?_ ?_
                            rotate_left
                            · rintro w' ⟨s0, s1, s2, s3, s4⟩
                              go_simp
                              with_reducible rfl
                            rotate_left
                            · simp only [Act.put, List.setIfInBounds_toArray, List.set_cons_zero, List.set_cons_succ, i64_w, i32_w]
                              rfl
                            refine pure_ (i := 24) (N := some 72) (v := ?_) (a' := ?_) #[true, true, true, true, true, true, true, true, true, true, true, true, true, true, true, true, true, true, true, true, true, true, true, true, true, false, false] rfl rfl (any_of HT_.out (by kernel_rfl)) (fun _ _ _ h => h) (Or.inl ⟨by rfl, ?_⟩) ?_ ?_
                            rotate_left
                            · intro w'
                              go_simp
                              with_reducible rfl
                            rotate_left
                            · simp only [Act.put, List.setIfInBounds_toArray, List.set_cons_zero, List.set_cons_succ, i64_w, i32_w]
                              rfl
                            refine one_ (i := 25) (N := some 6) #[true, true, true, true, true, true, true, true, true, true, true, true, true, true, true, true, true, true, true, true, true, true, true, true, true, true, false] rfl rfl (one_of HT_.out (by kernel_rfl)) (by decide) (fun K hK => ?_)
                            refine box_step ?hg (N := 6) ?hd (cs := #[.int .i64 0, .int .i64 0, .int .i64 0, .int .i64 0, .string (⟨#[]⟩ : ByteArray)]) (t := 47) ?hr ?_; (case hd => rfl); (case hg => rfl); (case hr => first | (go_simp; done) | (go_simp; rfl))
                            intro gb343 hg w39 hbox hb
                            have HS0_ := (hb.cell (World.block_lt_of_cell? _ _ (hHeld.1))).trans (hHeld.1)
                            have HS1_ := (hb.cell (World.block_lt_of_cell? _ _ (hHeld.2.1))).trans (hHeld.2.1)
                            have HS2_ := (hb.cell (World.block_lt_of_cell? _ _ (hHeld.2.2.1))).trans (hHeld.2.2.1)
                            have HS3_ := (hb.cell (World.block_lt_of_cell? _ _ (hHeld.2.2.2.1))).trans (hHeld.2.2.2.1)
                            have HS4_ := (hb.cell (World.block_lt_of_cell? _ _ (hHeld.2.2.2.2))).trans (hHeld.2.2.2.2)
                            have n0_ := Aside0.mk (Kd.R_below (by (with_reducible repeat (first | apply Kd.R_alloc | apply Kd.R_drewN | apply Kd.R_drew)); exact HO_4.out) hb)
                            have n1_ := Aside0.mk (blk_below (g := gb329) (o := .cells #[.int .i64 0, .int .i64 0, .int .i64 0, .int .i64 0, .string (⟨#[]⟩ : ByteArray)] 47 (0, 0)) (by (with_reducible repeat (first | refine blk_drewN ?_ _ | refine blk_drew ?_ | refine blk_alloc ?_ _)); exact BK329.out) hb)
                            have n2_ := Aside0.mk (below_step (by repeat (first | (with_reducible first | exact HB.out | apply below_alloc | apply pw_below_drewN | apply below_drew1 | refine below_set ?_ GE329.out) | exact HB.out)) hb)
                            have n3_ := Aside0.mk (hbox)
                            have n4_ := Aside0.mk ((by rw [hg]; exact (below_size (by repeat (first | (with_reducible first | exact HB.out | apply below_alloc | apply pw_below_drewN | apply below_drew1 | refine below_set ?_ GE329.out) | exact HB.out))) : w.heap.size ≤ gb343))
                            have n5_ := Aside0.mk ((by rw [hg]; exact (below_size (by repeat (first | (with_reducible first | exact HB.out | apply below_alloc | apply pw_below_drewN | apply below_drew1 | refine below_set ?_ GE329.out) | exact HB.out))) : w.heap.size ≤ gb343))
                            have n6_ := Aside0.mk ((by rw [hg]; exact Nat.ne_of_lt (blk_lt (g := gb329) (o := .cells #[.int .i64 0, .int .i64 0, .int .i64 0, .int .i64 0, .string (⟨#[]⟩ : ByteArray)] 47 (0, 0)) (by (with_reducible repeat (first | refine blk_drewN ?_ _ | refine blk_drew ?_ | refine blk_alloc ?_ _)); exact BK329.out)) : gb329 ≠ gb343))
                            have n7_ := Aside0.mk ((by rw [hg]; exact Nat.ne_of_gt (blk_lt (g := gb329) (o := .cells #[.int .i64 0, .int .i64 0, .int .i64 0, .int .i64 0, .string (⟨#[]⟩ : ByteArray)] 47 (0, 0)) (by (with_reducible repeat (first | refine blk_drewN ?_ _ | refine blk_drew ?_ | refine blk_alloc ?_ _)); exact BK329.out)) : gb343 ≠ gb329))
                            clear HO_4
                            clear BK329
                            clear HB
                            have HO_4 := n0_
                            have BK329 := n1_
                            have HB := n2_
                            have BK343 := n3_
                            have GW343 := n4_
                            have GE343 := n5_
                            have NB329_343 := n6_
                            have NB343_329 := n7_
                            clear n0_ n1_ n2_ n3_ n4_ n5_ n6_ n7_
                            clear hb hbox hg
                            refine hK.out _ _ ⟨HS0_, HS1_, HS2_, HS3_, HS4_⟩ (fun hHeld => ?_)
                            clear hK K
                            refine norm_ (a' := ?_) ?_ ?_
                            rotate_left
                            · show Act.put _ (some 6) _ = _
                              simp only [Act.put, List.setIfInBounds_toArray, List.set_cons_zero, List.set_cons_succ, i64_w, i32_w]
                              rfl
                            refine one_ (i := 26) (N := none) #[true, true, true, true, true, true, true, true, true, true, true, true, true, true, true, true, true, true, true, true, true, true, true, true, true, true, true] rfl rfl (one_of HT_.out (by kernel_rfl)) (by decide) (fun K hK => ?_)
                            have hs40 : w39.cell? ⟨gb343, 0, none⟩ = some (.int .i64 0) := (blk_cell BK343.out 0).trans rfl
                            have hfs40 := blk_frozen BK343.out 0
                            have hns40_0 := NB329_343.out
                            have hms40_0 := NB343_329.out
                            have hs41 : w39.cell? ⟨gb343, 1, none⟩ = some (.int .i64 0) := (blk_cell BK343.out 1).trans rfl
                            have hfs41 := blk_frozen BK343.out 1
                            have hns41_0 := NB329_343.out
                            have hms41_0 := NB343_329.out
                            have hs42 : w39.cell? ⟨gb343, 2, none⟩ = some (.int .i64 0) := (blk_cell BK343.out 2).trans rfl
                            have hfs42 := blk_frozen BK343.out 2
                            have hns42_0 := NB329_343.out
                            have hms42_0 := NB343_329.out
                            have hs43 : w39.cell? ⟨gb343, 3, none⟩ = some (.int .i64 0) := (blk_cell BK343.out 3).trans rfl
                            have hfs43 := blk_frozen BK343.out 3
                            have hns43_0 := NB329_343.out
                            have hms43_0 := NB343_329.out
                            have hs44 : w39.cell? ⟨gb343, 4, none⟩ = some (.string (⟨#[]⟩ : ByteArray)) := (blk_cell BK343.out 4).trans rfl
                            have hfs44 := blk_frozen BK343.out 4
                            have hns44_0 := NB329_343.out
                            have hms44_0 := NB343_329.out
                            refine skip_ (w1 := ?_) (by rfl) rfl ?_ ?_
                            rotate_left
                            · go_simp
                              rfl
                            refine hK.out _ _ ⟨((cell_far (p := ⟨gb343, _, none⟩) (by first | exact Kd.own_blk (Kd.R_ne HO_4.out BK343.out (by decide)) | (rw [add_block]; exact Kd.own_blk (Kd.R_ne HO_4.out BK343.out (by decide))) | (show (Addr.add _ _).block ≠ _; rw [add_block]; exact Kd.own_blk (Kd.R_ne HO_4.out BK343.out (by decide))) | (dsimp only; exact Kd.own_blk (Kd.R_ne HO_4.out BK343.out (by decide)))) _).trans (((cell_far (p := ⟨gb343, _, none⟩) (by first | exact Kd.own_blk (Kd.R_ne HO_4.out BK343.out (by decide)) | (rw [add_block]; exact Kd.own_blk (Kd.R_ne HO_4.out BK343.out (by decide))) | (show (Addr.add _ _).block ≠ _; rw [add_block]; exact Kd.own_blk (Kd.R_ne HO_4.out BK343.out (by decide))) | (dsimp only; exact Kd.own_blk (Kd.R_ne HO_4.out BK343.out (by decide)))) _).trans (((cell_far (p := ⟨gb343, _, none⟩) (by first | exact Kd.own_blk (Kd.R_ne HO_4.out BK343.out (by decide)) | (rw [add_block]; exact Kd.own_blk (Kd.R_ne HO_4.out BK343.out (by decide))) | (show (Addr.add _ _).block ≠ _; rw [add_block]; exact Kd.own_blk (Kd.R_ne HO_4.out BK343.out (by decide))) | (dsimp only; exact Kd.own_blk (Kd.R_ne HO_4.out BK343.out (by decide)))) _).trans (((cell_far (p := ⟨gb343, _, none⟩) (by first | exact Kd.own_blk (Kd.R_ne HO_4.out BK343.out (by decide)) | (rw [add_block]; exact Kd.own_blk (Kd.R_ne HO_4.out BK343.out (by decide))) | (show (Addr.add _ _).block ≠ _; rw [add_block]; exact Kd.own_blk (Kd.R_ne HO_4.out BK343.out (by decide))) | (dsimp only; exact Kd.own_blk (Kd.R_ne HO_4.out BK343.out (by decide)))) _).trans (((cell_far (p := ⟨gb343, _, none⟩) (by first | exact Kd.own_blk (Kd.R_ne HO_4.out BK343.out (by decide)) | (rw [add_block]; exact Kd.own_blk (Kd.R_ne HO_4.out BK343.out (by decide))) | (show (Addr.add _ _).block ≠ _; rw [add_block]; exact Kd.own_blk (Kd.R_ne HO_4.out BK343.out (by decide))) | (dsimp only; exact Kd.own_blk (Kd.R_ne HO_4.out BK343.out (by decide)))) _).trans (hHeld.1)))))))))), ((cell_far (p := ⟨gb343, _, none⟩) (by first | exact Kd.own_blk (Kd.R_ne HO_4.out BK343.out (by decide)) | (rw [add_block]; exact Kd.own_blk (Kd.R_ne HO_4.out BK343.out (by decide))) | (show (Addr.add _ _).block ≠ _; rw [add_block]; exact Kd.own_blk (Kd.R_ne HO_4.out BK343.out (by decide))) | (dsimp only; exact Kd.own_blk (Kd.R_ne HO_4.out BK343.out (by decide)))) _).trans (((cell_far (p := ⟨gb343, _, none⟩) (by first | exact Kd.own_blk (Kd.R_ne HO_4.out BK343.out (by decide)) | (rw [add_block]; exact Kd.own_blk (Kd.R_ne HO_4.out BK343.out (by decide))) | (show (Addr.add _ _).block ≠ _; rw [add_block]; exact Kd.own_blk (Kd.R_ne HO_4.out BK343.out (by decide))) | (dsimp only; exact Kd.own_blk (Kd.R_ne HO_4.out BK343.out (by decide)))) _).trans (((cell_far (p := ⟨gb343, _, none⟩) (by first | exact Kd.own_blk (Kd.R_ne HO_4.out BK343.out (by decide)) | (rw [add_block]; exact Kd.own_blk (Kd.R_ne HO_4.out BK343.out (by decide))) | (show (Addr.add _ _).block ≠ _; rw [add_block]; exact Kd.own_blk (Kd.R_ne HO_4.out BK343.out (by decide))) | (dsimp only; exact Kd.own_blk (Kd.R_ne HO_4.out BK343.out (by decide)))) _).trans (((cell_far (p := ⟨gb343, _, none⟩) (by first | exact Kd.own_blk (Kd.R_ne HO_4.out BK343.out (by decide)) | (rw [add_block]; exact Kd.own_blk (Kd.R_ne HO_4.out BK343.out (by decide))) | (show (Addr.add _ _).block ≠ _; rw [add_block]; exact Kd.own_blk (Kd.R_ne HO_4.out BK343.out (by decide))) | (dsimp only; exact Kd.own_blk (Kd.R_ne HO_4.out BK343.out (by decide)))) _).trans (((cell_far (p := ⟨gb343, _, none⟩) (by first | exact Kd.own_blk (Kd.R_ne HO_4.out BK343.out (by decide)) | (rw [add_block]; exact Kd.own_blk (Kd.R_ne HO_4.out BK343.out (by decide))) | (show (Addr.add _ _).block ≠ _; rw [add_block]; exact Kd.own_blk (Kd.R_ne HO_4.out BK343.out (by decide))) | (dsimp only; exact Kd.own_blk (Kd.R_ne HO_4.out BK343.out (by decide)))) _).trans (hHeld.2.1)))))))))), ((cell_far (p := ⟨gb343, _, none⟩) (by first | exact Kd.own_blk (Kd.R_ne HO_4.out BK343.out (by decide)) | (rw [add_block]; exact Kd.own_blk (Kd.R_ne HO_4.out BK343.out (by decide))) | (show (Addr.add _ _).block ≠ _; rw [add_block]; exact Kd.own_blk (Kd.R_ne HO_4.out BK343.out (by decide))) | (dsimp only; exact Kd.own_blk (Kd.R_ne HO_4.out BK343.out (by decide)))) _).trans (((cell_far (p := ⟨gb343, _, none⟩) (by first | exact Kd.own_blk (Kd.R_ne HO_4.out BK343.out (by decide)) | (rw [add_block]; exact Kd.own_blk (Kd.R_ne HO_4.out BK343.out (by decide))) | (show (Addr.add _ _).block ≠ _; rw [add_block]; exact Kd.own_blk (Kd.R_ne HO_4.out BK343.out (by decide))) | (dsimp only; exact Kd.own_blk (Kd.R_ne HO_4.out BK343.out (by decide)))) _).trans (((cell_far (p := ⟨gb343, _, none⟩) (by first | exact Kd.own_blk (Kd.R_ne HO_4.out BK343.out (by decide)) | (rw [add_block]; exact Kd.own_blk (Kd.R_ne HO_4.out BK343.out (by decide))) | (show (Addr.add _ _).block ≠ _; rw [add_block]; exact Kd.own_blk (Kd.R_ne HO_4.out BK343.out (by decide))) | (dsimp only; exact Kd.own_blk (Kd.R_ne HO_4.out BK343.out (by decide)))) _).trans (((cell_far (p := ⟨gb343, _, none⟩) (by first | exact Kd.own_blk (Kd.R_ne HO_4.out BK343.out (by decide)) | (rw [add_block]; exact Kd.own_blk (Kd.R_ne HO_4.out BK343.out (by decide))) | (show (Addr.add _ _).block ≠ _; rw [add_block]; exact Kd.own_blk (Kd.R_ne HO_4.out BK343.out (by decide))) | (dsimp only; exact Kd.own_blk (Kd.R_ne HO_4.out BK343.out (by decide)))) _).trans (((cell_far (p := ⟨gb343, _, none⟩) (by first | exact Kd.own_blk (Kd.R_ne HO_4.out BK343.out (by decide)) | (rw [add_block]; exact Kd.own_blk (Kd.R_ne HO_4.out BK343.out (by decide))) | (show (Addr.add _ _).block ≠ _; rw [add_block]; exact Kd.own_blk (Kd.R_ne HO_4.out BK343.out (by decide))) | (dsimp only; exact Kd.own_blk (Kd.R_ne HO_4.out BK343.out (by decide)))) _).trans (hHeld.2.2.1)))))))))), ((cell_far (p := ⟨gb343, _, none⟩) (by first | exact Kd.own_blk (Kd.R_ne HO_4.out BK343.out (by decide)) | (rw [add_block]; exact Kd.own_blk (Kd.R_ne HO_4.out BK343.out (by decide))) | (show (Addr.add _ _).block ≠ _; rw [add_block]; exact Kd.own_blk (Kd.R_ne HO_4.out BK343.out (by decide))) | (dsimp only; exact Kd.own_blk (Kd.R_ne HO_4.out BK343.out (by decide)))) _).trans (((cell_far (p := ⟨gb343, _, none⟩) (by first | exact Kd.own_blk (Kd.R_ne HO_4.out BK343.out (by decide)) | (rw [add_block]; exact Kd.own_blk (Kd.R_ne HO_4.out BK343.out (by decide))) | (show (Addr.add _ _).block ≠ _; rw [add_block]; exact Kd.own_blk (Kd.R_ne HO_4.out BK343.out (by decide))) | (dsimp only; exact Kd.own_blk (Kd.R_ne HO_4.out BK343.out (by decide)))) _).trans (((cell_far (p := ⟨gb343, _, none⟩) (by first | exact Kd.own_blk (Kd.R_ne HO_4.out BK343.out (by decide)) | (rw [add_block]; exact Kd.own_blk (Kd.R_ne HO_4.out BK343.out (by decide))) | (show (Addr.add _ _).block ≠ _; rw [add_block]; exact Kd.own_blk (Kd.R_ne HO_4.out BK343.out (by decide))) | (dsimp only; exact Kd.own_blk (Kd.R_ne HO_4.out BK343.out (by decide)))) _).trans (((cell_far (p := ⟨gb343, _, none⟩) (by first | exact Kd.own_blk (Kd.R_ne HO_4.out BK343.out (by decide)) | (rw [add_block]; exact Kd.own_blk (Kd.R_ne HO_4.out BK343.out (by decide))) | (show (Addr.add _ _).block ≠ _; rw [add_block]; exact Kd.own_blk (Kd.R_ne HO_4.out BK343.out (by decide))) | (dsimp only; exact Kd.own_blk (Kd.R_ne HO_4.out BK343.out (by decide)))) _).trans (((cell_far (p := ⟨gb343, _, none⟩) (by first | exact Kd.own_blk (Kd.R_ne HO_4.out BK343.out (by decide)) | (rw [add_block]; exact Kd.own_blk (Kd.R_ne HO_4.out BK343.out (by decide))) | (show (Addr.add _ _).block ≠ _; rw [add_block]; exact Kd.own_blk (Kd.R_ne HO_4.out BK343.out (by decide))) | (dsimp only; exact Kd.own_blk (Kd.R_ne HO_4.out BK343.out (by decide)))) _).trans (hHeld.2.2.2.1)))))))))), ((cell_far (p := ⟨gb343, _, none⟩) (by first | exact Kd.own_blk (Kd.R_ne HO_4.out BK343.out (by decide)) | (rw [add_block]; exact Kd.own_blk (Kd.R_ne HO_4.out BK343.out (by decide))) | (show (Addr.add _ _).block ≠ _; rw [add_block]; exact Kd.own_blk (Kd.R_ne HO_4.out BK343.out (by decide))) | (dsimp only; exact Kd.own_blk (Kd.R_ne HO_4.out BK343.out (by decide)))) _).trans (((cell_far (p := ⟨gb343, _, none⟩) (by first | exact Kd.own_blk (Kd.R_ne HO_4.out BK343.out (by decide)) | (rw [add_block]; exact Kd.own_blk (Kd.R_ne HO_4.out BK343.out (by decide))) | (show (Addr.add _ _).block ≠ _; rw [add_block]; exact Kd.own_blk (Kd.R_ne HO_4.out BK343.out (by decide))) | (dsimp only; exact Kd.own_blk (Kd.R_ne HO_4.out BK343.out (by decide)))) _).trans (((cell_far (p := ⟨gb343, _, none⟩) (by first | exact Kd.own_blk (Kd.R_ne HO_4.out BK343.out (by decide)) | (rw [add_block]; exact Kd.own_blk (Kd.R_ne HO_4.out BK343.out (by decide))) | (show (Addr.add _ _).block ≠ _; rw [add_block]; exact Kd.own_blk (Kd.R_ne HO_4.out BK343.out (by decide))) | (dsimp only; exact Kd.own_blk (Kd.R_ne HO_4.out BK343.out (by decide)))) _).trans (((cell_far (p := ⟨gb343, _, none⟩) (by first | exact Kd.own_blk (Kd.R_ne HO_4.out BK343.out (by decide)) | (rw [add_block]; exact Kd.own_blk (Kd.R_ne HO_4.out BK343.out (by decide))) | (show (Addr.add _ _).block ≠ _; rw [add_block]; exact Kd.own_blk (Kd.R_ne HO_4.out BK343.out (by decide))) | (dsimp only; exact Kd.own_blk (Kd.R_ne HO_4.out BK343.out (by decide)))) _).trans (((cell_far (p := ⟨gb343, _, none⟩) (by first | exact Kd.own_blk (Kd.R_ne HO_4.out BK343.out (by decide)) | (rw [add_block]; exact Kd.own_blk (Kd.R_ne HO_4.out BK343.out (by decide))) | (show (Addr.add _ _).block ≠ _; rw [add_block]; exact Kd.own_blk (Kd.R_ne HO_4.out BK343.out (by decide))) | (dsimp only; exact Kd.own_blk (Kd.R_ne HO_4.out BK343.out (by decide)))) _).trans (hHeld.2.2.2.2))))))))))⟩ (fun hHeld => ?_)
                            clear hK K
                            refine done_ (done_of HT_.out (by kernel_rfl)) ?_
                            have hnb45 := NB343_329.out
                            have hnc45 := NB329_343.out
                            have hcz46_0 : w39.cell? ⟨gb343, 0, none⟩ = some (.int .i64 0) := (blk_cell BK343.out 0).trans rfl
                            have hcz46_1 : w39.cell? ⟨gb343, 1, none⟩ = some (.int .i64 0) := (blk_cell BK343.out 1).trans rfl
                            have hcz46_2 : w39.cell? ⟨gb343, 2, none⟩ = some (.int .i64 0) := (blk_cell BK343.out 2).trans rfl
                            have hcz46_3 : w39.cell? ⟨gb343, 3, none⟩ = some (.int .i64 0) := (blk_cell BK343.out 3).trans rfl
                            have hcz46_4 : w39.cell? ⟨gb343, 4, none⟩ = some (.string (⟨#[]⟩ : ByteArray)) := (blk_cell BK343.out 4).trans rfl
                            have hfz46_0 := blk_frozen BK343.out 0
                            have hfz46_1 := blk_frozen BK343.out 1
                            have hfz46_2 := blk_frozen BK343.out 2
                            have hfz46_3 := blk_frozen BK343.out 3
                            have hfz46_4 := blk_frozen BK343.out 4
                            try go_wp2_with (first | ((with_reducible refine gate_callee (f := 35) rfl ?_); refine goesL_ (some 74) rfl rfl Try.func35 (by kernel_rfl) rfl #[.agg #[.int .i64 (wrap64 (bt (rdOf ByteArray.empty t330 0) 0)), .int .i64 (wrap64 (bt (rdOf ByteArray.empty t330 1) 0)), .int .i64 (wrap64 (bt (rdOf ByteArray.empty t330 2) 0)), .int .i64 (wrap64 ((wrap64 (bt (rdOf ByteArray.empty t330 3) 0)) - 1)), .string (rdOf ByteArray.empty t330 4)]] rfl (by (try simp only [List.map_toArray, List.map_cons, List.map_nil]); first | done | rfl | (simp only [List.length_drop, List.length_take]; rfl)) ?_; (with_reducible refine (sandglassref16_CheckWord.calls kj2 (wrap64 (bt (rdOf ByteArray.empty t330 0) 0)) (wrap64 (bt (rdOf ByteArray.empty t330 1) 0)) (wrap64 (bt (rdOf ByteArray.empty t330 2) 0)) (wrap64 ((wrap64 (bt (rdOf ByteArray.empty t330 3) 0)) - 1)) (rdOf ByteArray.empty t330 4) t344 _ A35.out).mono ?_); rintro e w47 ⟨rfl, hb⟩; refine ⟨_, rfl, ?_⟩; have n0_ := Aside0.mk (Kd.R_below (by (with_reducible repeat (first | apply Kd.R_alloc | apply Kd.R_drewN | apply Kd.R_drew)); exact (Kd.R_mono (Kd.R_far (p := ⟨gb343, 4, none⟩) (Kd.R_far (p := ⟨gb343, 3, none⟩) (Kd.R_far (p := ⟨gb343, 2, none⟩) (Kd.R_far (p := ⟨gb343, 1, none⟩) (Kd.R_far (p := ⟨gb343, 0, none⟩) (Kd.R_types HO_4.out BK343.out (by decide)) (fun _ hk => hk.2) (.int .i64 (wrap64 (bt (rdOf ByteArray.empty t330 0) 0)))) (fun _ hk => hk.2) (.int .i64 (wrap64 (bt (rdOf ByteArray.empty t330 1) 0)))) (fun _ hk => hk.2) (.int .i64 (wrap64 (bt (rdOf ByteArray.empty t330 2) 0)))) (fun _ hk => hk.2) (.int .i64 (wrap64 ((wrap64 (bt (rdOf ByteArray.empty t330 3) 0)) - 1)))) (fun _ hk => hk.2) (.string (rdOf ByteArray.empty t330 4))) (fun _ h_ => h_.1))) hb); have n1_ := Aside0.mk (blk_below (g := gb329) (o := .cells #[.int .i64 0, .int .i64 0, .int .i64 0, .int .i64 0, .string (⟨#[]⟩ : ByteArray)] 47 (0, 0)) (by (with_reducible repeat (first | refine blk_drewN ?_ _ | refine blk_drew ?_ | refine blk_alloc ?_ _)); refine blk_far ?_ NB329_343.out _; (with_reducible repeat (first | refine blk_drewN ?_ _ | refine blk_drew ?_ | refine blk_alloc ?_ _)); refine blk_far ?_ NB329_343.out _; (with_reducible repeat (first | refine blk_drewN ?_ _ | refine blk_drew ?_ | refine blk_alloc ?_ _)); refine blk_far ?_ NB329_343.out _; (with_reducible repeat (first | refine blk_drewN ?_ _ | refine blk_drew ?_ | refine blk_alloc ?_ _)); refine blk_far ?_ NB329_343.out _; (with_reducible repeat (first | refine blk_drewN ?_ _ | refine blk_drew ?_ | refine blk_alloc ?_ _)); refine blk_far ?_ NB329_343.out _; (with_reducible repeat (first | refine blk_drewN ?_ _ | refine blk_drew ?_ | refine blk_alloc ?_ _)); exact BK329.out) hb); have n2_ := Aside0.mk (blk_below (g := gb343) (o := .cells #[.int .i64 (wrap64 (bt (rdOf ByteArray.empty t330 0) 0)), .int .i64 (wrap64 (bt (rdOf ByteArray.empty t330 1) 0)), .int .i64 (wrap64 (bt (rdOf ByteArray.empty t330 2) 0)), .int .i64 (wrap64 ((wrap64 (bt (rdOf ByteArray.empty t330 3) 0)) - 1)), .string (rdOf ByteArray.empty t330 4)] 47 (0, 0)) (by (with_reducible repeat (first | refine blk_drewN ?_ _ | refine blk_drew ?_ | refine blk_alloc ?_ _)); refine blk_put (cs := #[.int .i64 (wrap64 (bt (rdOf ByteArray.empty t330 0) 0)), .int .i64 (wrap64 (bt (rdOf ByteArray.empty t330 1) 0)), .int .i64 (wrap64 (bt (rdOf ByteArray.empty t330 2) 0)), .int .i64 (wrap64 ((wrap64 (bt (rdOf ByteArray.empty t330 3) 0)) - 1)), .string (⟨#[]⟩ : ByteArray)]) ?_ 4 _ rfl; (with_reducible repeat (first | refine blk_drewN ?_ _ | refine blk_drew ?_ | refine blk_alloc ?_ _)); refine blk_put (cs := #[.int .i64 (wrap64 (bt (rdOf ByteArray.empty t330 0) 0)), .int .i64 (wrap64 (bt (rdOf ByteArray.empty t330 1) 0)), .int .i64 (wrap64 (bt (rdOf ByteArray.empty t330 2) 0)), .int .i64 0, .string (⟨#[]⟩ : ByteArray)]) ?_ 3 _ rfl; (with_reducible repeat (first | refine blk_drewN ?_ _ | refine blk_drew ?_ | refine blk_alloc ?_ _)); refine blk_put (cs := #[.int .i64 (wrap64 (bt (rdOf ByteArray.empty t330 0) 0)), .int .i64 (wrap64 (bt (rdOf ByteArray.empty t330 1) 0)), .int .i64 0, .int .i64 0, .string (⟨#[]⟩ : ByteArray)]) ?_ 2 _ rfl; (with_reducible repeat (first | refine blk_drewN ?_ _ | refine blk_drew ?_ | refine blk_alloc ?_ _)); refine blk_put (cs := #[.int .i64 (wrap64 (bt (rdOf ByteArray.empty t330 0) 0)), .int .i64 0, .int .i64 0, .int .i64 0, .string (⟨#[]⟩ : ByteArray)]) ?_ 1 _ rfl; (with_reducible repeat (first | refine blk_drewN ?_ _ | refine blk_drew ?_ | refine blk_alloc ?_ _)); refine blk_put (cs := #[.int .i64 0, .int .i64 0, .int .i64 0, .int .i64 0, .string (⟨#[]⟩ : ByteArray)]) ?_ 0 _ rfl; (with_reducible repeat (first | refine blk_drewN ?_ _ | refine blk_drew ?_ | refine blk_alloc ?_ _)); exact BK343.out) hb); have n3_ := Aside0.mk (below_step (by repeat (first | (with_reducible first | exact HB.out | apply below_alloc | apply pw_below_drewN | apply below_drew1 | refine below_set ?_ GE329.out | refine below_set ?_ GE343.out) | exact HB.out)) hb); clear HO_4; clear BK329; clear BK343; clear HB; have HO_4 := n0_; have BK329 := n1_; have BK343 := n2_; have HB := n3_; clear n0_ n1_ n2_ n3_; (try clear hb); (try clear hb2); (try clear hk); (try clear hi); have hcz48_0 : w47.cell? ⟨gb343, 0, none⟩ = some (.int .i64 (wrap64 (bt (rdOf ByteArray.empty t330 0) 0))) := (blk_cell BK343.out 0).trans rfl; have hcz48_1 : w47.cell? ⟨gb343, 1, none⟩ = some (.int .i64 (wrap64 (bt (rdOf ByteArray.empty t330 1) 0))) := (blk_cell BK343.out 1).trans rfl; have hcz48_2 : w47.cell? ⟨gb343, 2, none⟩ = some (.int .i64 (wrap64 (bt (rdOf ByteArray.empty t330 2) 0))) := (blk_cell BK343.out 2).trans rfl; have hcz48_3 : w47.cell? ⟨gb343, 3, none⟩ = some (.int .i64 (wrap64 ((wrap64 (bt (rdOf ByteArray.empty t330 3) 0)) - 1))) := (blk_cell BK343.out 3).trans rfl; have hcz48_4 : w47.cell? ⟨gb343, 4, none⟩ = some (.string (rdOf ByteArray.empty t330 4)) := (blk_cell BK343.out 4).trans rfl; have hfz48_0 := blk_frozen BK343.out 0; have hfz48_1 := blk_frozen BK343.out 1; have hfz48_2 := blk_frozen BK343.out 2; have hfz48_3 := blk_frozen BK343.out 3; have hfz48_4 := blk_frozen BK343.out 4; have hcz49_0 : w47.cell? ⟨gb329, 0, none⟩ = some (.int .i64 0) := (blk_cell BK329.out 0).trans rfl; have hcz49_1 : w47.cell? ⟨gb329, 1, none⟩ = some (.int .i64 0) := (blk_cell BK329.out 1).trans rfl; have hcz49_2 : w47.cell? ⟨gb329, 2, none⟩ = some (.int .i64 0) := (blk_cell BK329.out 2).trans rfl; have hcz49_3 : w47.cell? ⟨gb329, 3, none⟩ = some (.int .i64 0) := (blk_cell BK329.out 3).trans rfl; have hcz49_4 : w47.cell? ⟨gb329, 4, none⟩ = some (.string (⟨#[]⟩ : ByteArray)) := (blk_cell BK329.out 4).trans rfl; have hfz49_0 := blk_frozen BK329.out 0; have hfz49_1 := blk_frozen BK329.out 1; have hfz49_2 := blk_frozen BK329.out 2; have hfz49_3 := blk_frozen BK329.out 3; have hfz49_4 := blk_frozen BK329.out 4))
                            refine bodyPost_ret (results_ct rfl _ _ gb329 47 #[.int .i64 (wrap64 (bt (rdOf ByteArray.empty t330 0) 0)), .int .i64 (wrap64 (bt (rdOf ByteArray.empty t330 1) 0)), .int .i64 (wrap64 (bt (rdOf ByteArray.empty t330 2) 0)), .int .i64 (wrap64 ((wrap64 (bt (rdOf ByteArray.empty t330 3) 0)) - 1)), .string (rdOf ByteArray.empty t330 4)] (0, 0) _ rfl (by (with_reducible repeat (first | refine blk_drewN ?_ _ | refine blk_drew ?_ | refine blk_alloc ?_ _)); refine blk_put (cs := #[.int .i64 (wrap64 (bt (rdOf ByteArray.empty t330 0) 0)), .int .i64 (wrap64 (bt (rdOf ByteArray.empty t330 1) 0)), .int .i64 (wrap64 (bt (rdOf ByteArray.empty t330 2) 0)), .int .i64 (wrap64 ((wrap64 (bt (rdOf ByteArray.empty t330 3) 0)) - 1)), .string (⟨#[]⟩ : ByteArray)]) ?_ 4 _ rfl; (with_reducible repeat (first | refine blk_drewN ?_ _ | refine blk_drew ?_ | refine blk_alloc ?_ _)); refine blk_put (cs := #[.int .i64 (wrap64 (bt (rdOf ByteArray.empty t330 0) 0)), .int .i64 (wrap64 (bt (rdOf ByteArray.empty t330 1) 0)), .int .i64 (wrap64 (bt (rdOf ByteArray.empty t330 2) 0)), .int .i64 0, .string (⟨#[]⟩ : ByteArray)]) ?_ 3 _ rfl; (with_reducible repeat (first | refine blk_drewN ?_ _ | refine blk_drew ?_ | refine blk_alloc ?_ _)); refine blk_put (cs := #[.int .i64 (wrap64 (bt (rdOf ByteArray.empty t330 0) 0)), .int .i64 (wrap64 (bt (rdOf ByteArray.empty t330 1) 0)), .int .i64 0, .int .i64 0, .string (⟨#[]⟩ : ByteArray)]) ?_ 2 _ rfl; (with_reducible repeat (first | refine blk_drewN ?_ _ | refine blk_drew ?_ | refine blk_alloc ?_ _)); refine blk_put (cs := #[.int .i64 (wrap64 (bt (rdOf ByteArray.empty t330 0) 0)), .int .i64 0, .int .i64 0, .int .i64 0, .string (⟨#[]⟩ : ByteArray)]) ?_ 1 _ rfl; (with_reducible repeat (first | refine blk_drewN ?_ _ | refine blk_drew ?_ | refine blk_alloc ?_ _)); refine blk_put (cs := #[.int .i64 0, .int .i64 0, .int .i64 0, .int .i64 0, .string (⟨#[]⟩ : ByteArray)]) ?_ 0 _ rfl; (with_reducible repeat (first | refine blk_drewN ?_ _ | refine blk_drew ?_ | refine blk_alloc ?_ _)); exact BK329.out) Try.underlying47 rfl (by kernel_rfl)) rfl ?_
                            exact ⟨by first | rfl | (simp [errW_none, errW_some] <;> rfl) | (simp [*, errW_none, errW_some] <;> rfl), by repeat (first | (with_reducible first | exact HB.out | apply below_alloc | apply pw_below_drewN | apply below_drew1 | refine below_set ?_ GE329.out | refine below_set ?_ GE343.out) | exact HB.out)⟩
                          · rw [if_neg c36] at H
                            have c36b0 : (t344 == 0) = false := beq_eq_false_iff_ne.mpr c36
                            have c36b1 : (t344 != 0) = true := bne_iff_ne.mpr c36
                            simp only [Option.some.injEq, Prod.mk.injEq] at H
                            obtain ⟨rfl, rfl, rfl, rfl, rfl, rfl⟩ := H
                            try go_wp2
                            have n0_ := Aside0.mk (Kd.R_drew HO_4.out)
                            have n1_ := Aside0.mk (blk_drew BK329.out)
                            have n2_ := Aside0.mk (below_drew1 HB.out)
                            clear HO_4
                            clear BK329
                            clear HB
                            have HO_4 := n0_
                            have BK329 := n1_
                            have HB := n2_
                            clear n0_ n1_ n2_
                            obtain ⟨Ao51, co51, eo51⟩ := Kd.R_slice HO_4.out
                            (first | subst eo51 | (injection eo51 with f1_ f2_ f3_; have f4_ := f1_.symm; have f5_ := f3_.symm; clear f1_ f2_ f3_; subst f4_; subst f5_))
                            have p338 : 0 ≤ (0 : Int) := (by omega)
                            have q338 : 0 < (t330.length : Int) := of_decide_eq_true (by first | (with_reducible assumption) | assumption)
                            obtain ⟨ad338, e338, hx338_0⟩ := Kd.at_string (Kd.R_reads' HO_4.out).2.2 0 p338 q338
                            cases e338
                            have qi338 : (0 < t330.length) = True := eq_true (by omega)
                            (try rw [show ((0 : Int)).toNat = 0 from rfl] at hx338_0)
                            (try rw [Addr.add_zero'] at hx338_0)
                            replace p338 := eq_true p338
                            replace q338 := eq_true q338
                            have p24 : 0 ≤ (0 : Int) := (by omega)
                            have q24 : 0 < (rdOf ByteArray.empty t330 0).size := (by have : (0 : Int) < ((rdOf ByteArray.empty t330 0).size : Int) := of_decide_eq_true (by first | (with_reducible assumption) | assumption); omega)
                            have hx24 : ∀ h : 0 < (rdOf ByteArray.empty t330 0).size, (((rdOf ByteArray.empty t330 0)[0]'h).toNat : Int) = bt (rdOf ByteArray.empty t330 0) 0 := bt_at (rdOf ByteArray.empty t330 0) 0
                            clear p24
                            have qi24 : (0 < ((rdOf ByteArray.empty t330 0).size : Int)) = True := eq_true (of_decide_eq_true (by first | (with_reducible assumption) | assumption))
                            replace q24 := eq_true q24
                            have p339 : 0 ≤ (1 : Int) := (by omega)
                            have q339 : 1 < (t330.length : Int) := of_decide_eq_true (by first | (with_reducible assumption) | assumption)
                            obtain ⟨ad339, e339, hx339_0⟩ := Kd.at_string (Kd.R_reads' HO_4.out).2.2 1 p339 q339
                            obtain rfl : ad338 = ad339 := (by injection e339)
                            (try simp only [show (1 : Int).toNat = 1 from rfl, Nat.reduceMul, Nat.reduceEqDiff, Go.Addr.add, ↓reduceIte] at hx339_0)
                            have qi339 : (1 < t330.length) = True := eq_true (by omega)
                            (try rw [show ((1 : Int)).toNat = 1 from rfl] at hx339_0)
                            replace p339 := eq_true p339
                            replace q339 := eq_true q339
                            have p27 : 0 ≤ (0 : Int) := (by omega)
                            have q27 : 0 < (rdOf ByteArray.empty t330 1).size := (by have : (0 : Int) < ((rdOf ByteArray.empty t330 1).size : Int) := of_decide_eq_true (by first | (with_reducible assumption) | assumption); omega)
                            have hx27 : ∀ h : 0 < (rdOf ByteArray.empty t330 1).size, (((rdOf ByteArray.empty t330 1)[0]'h).toNat : Int) = bt (rdOf ByteArray.empty t330 1) 0 := bt_at (rdOf ByteArray.empty t330 1) 0
                            clear p27
                            have qi27 : (0 < ((rdOf ByteArray.empty t330 1).size : Int)) = True := eq_true (of_decide_eq_true (by first | (with_reducible assumption) | assumption))
                            replace q27 := eq_true q27
                            have p340 : 0 ≤ (2 : Int) := (by omega)
                            have q340 : 2 < (t330.length : Int) := of_decide_eq_true (by first | (with_reducible assumption) | assumption)
                            obtain ⟨ad340, e340, hx340_0⟩ := Kd.at_string (Kd.R_reads' HO_4.out).2.2 2 p340 q340
                            obtain rfl : ad338 = ad340 := (by injection e340)
                            (try simp only [show (2 : Int).toNat = 2 from rfl, Nat.reduceMul, Nat.reduceEqDiff, Go.Addr.add, ↓reduceIte] at hx340_0)
                            have qi340 : (2 < t330.length) = True := eq_true (by omega)
                            (try rw [show ((2 : Int)).toNat = 2 from rfl] at hx340_0)
                            replace p340 := eq_true p340
                            replace q340 := eq_true q340
                            have p30 : 0 ≤ (0 : Int) := (by omega)
                            have q30 : 0 < (rdOf ByteArray.empty t330 2).size := (by have : (0 : Int) < ((rdOf ByteArray.empty t330 2).size : Int) := of_decide_eq_true (by first | (with_reducible assumption) | assumption); omega)
                            have hx30 : ∀ h : 0 < (rdOf ByteArray.empty t330 2).size, (((rdOf ByteArray.empty t330 2)[0]'h).toNat : Int) = bt (rdOf ByteArray.empty t330 2) 0 := bt_at (rdOf ByteArray.empty t330 2) 0
                            clear p30
                            have qi30 : (0 < ((rdOf ByteArray.empty t330 2).size : Int)) = True := eq_true (of_decide_eq_true (by first | (with_reducible assumption) | assumption))
                            replace q30 := eq_true q30
                            have p341 : 0 ≤ (3 : Int) := (by omega)
                            have q341 : 3 < (t330.length : Int) := of_decide_eq_true (by first | (with_reducible assumption) | assumption)
                            obtain ⟨ad341, e341, hx341_0⟩ := Kd.at_string (Kd.R_reads' HO_4.out).2.2 3 p341 q341
                            obtain rfl : ad338 = ad341 := (by injection e341)
                            (try simp only [show (3 : Int).toNat = 3 from rfl, Nat.reduceMul, Nat.reduceEqDiff, Go.Addr.add, ↓reduceIte] at hx341_0)
                            have qi341 : (3 < t330.length) = True := eq_true (by omega)
                            (try rw [show ((3 : Int)).toNat = 3 from rfl] at hx341_0)
                            replace p341 := eq_true p341
                            replace q341 := eq_true q341
                            have p33 : 0 ≤ (0 : Int) := (by omega)
                            have q33 : 0 < (rdOf ByteArray.empty t330 3).size := (by have : (0 : Int) < ((rdOf ByteArray.empty t330 3).size : Int) := of_decide_eq_true (by first | (with_reducible assumption) | assumption); omega)
                            have hx33 : ∀ h : 0 < (rdOf ByteArray.empty t330 3).size, (((rdOf ByteArray.empty t330 3)[0]'h).toNat : Int) = bt (rdOf ByteArray.empty t330 3) 0 := bt_at (rdOf ByteArray.empty t330 3) 0
                            clear p33
                            have qi33 : (0 < ((rdOf ByteArray.empty t330 3).size : Int)) = True := eq_true (of_decide_eq_true (by first | (with_reducible assumption) | assumption))
                            replace q33 := eq_true q33
                            have p342 : 0 ≤ (4 : Int) := (by omega)
                            have q342 : 4 < (t330.length : Int) := of_decide_eq_true (by first | (with_reducible assumption) | assumption)
                            obtain ⟨ad342, e342, hx342_0⟩ := Kd.at_string (Kd.R_reads' HO_4.out).2.2 4 p342 q342
                            obtain rfl : ad338 = ad342 := (by injection e342)
                            (try simp only [show (4 : Int).toNat = 4 from rfl, Nat.reduceMul, Nat.reduceEqDiff, Go.Addr.add, ↓reduceIte] at hx342_0)
                            have qi342 : (4 < t330.length) = True := eq_true (by omega)
                            (try rw [show ((4 : Int)).toNat = 4 from rfl] at hx342_0)
                            replace p342 := eq_true p342
                            replace q342 := eq_true q342
                            refine start_ (n := 27) (S := fun w' => w'.cell? ad338 = some (.string (rdOf ByteArray.empty t330 0)) ∧ w'.cell? ⟨ad338.block, ad338.off + 1, none⟩ = some (.string (rdOf ByteArray.empty t330 1)) ∧ w'.cell? ⟨ad338.block, ad338.off + 2, none⟩ = some (.string (rdOf ByteArray.empty t330 2)) ∧ w'.cell? ⟨ad338.block, ad338.off + 3, none⟩ = some (.string (rdOf ByteArray.empty t330 3)) ∧ w'.cell? ⟨ad338.block, ad338.off + 4, none⟩ = some (.string (rdOf ByteArray.empty t330 4))) (ds := []) #[false, false, false, false, false, false, false, false, false, false, false, false, false, false, false, false, false, false, false, false, false, false, false, false, false, false, false] (by kernel_rfl) rfl rfl ⟨hx338_0, hx339_0, hx340_0, hx341_0, hx342_0⟩ (fun hHeld => ?_); refine with_tabW sandglassref16_ReadWord.tab4 sandglassref16_ReadWord.bits4 (fun HT_ HW_ => ?_)
                            generalize wc.drew = w50 at HO_4 BK329 HB hx338_0 hx339_0 hx340_0 hx341_0 hx342_0 hHeld ⊢
                            refine pure_ (i := 0) (N := some 48) (v := ?_) (a' := ?_) #[true, false, false, false, false, false, false, false, false, false, false, false, false, false, false, false, false, false, false, false, false, false, false, false, false, false, false] rfl rfl (any_of HT_.out (by kernel_rfl)) (fun _ _ _ h => h) (Or.inl ⟨by rfl, ?_⟩) ?_ ?_
                            rotate_left
                            · intro w'
                              go_simp
                              with_reducible rfl
                            rotate_left
                            · simp only [Act.put, List.setIfInBounds_toArray, List.set_cons_zero, List.set_cons_succ, i64_w, i32_w]
                              rfl
                            refine pure_ (i := 1) (N := some 49) (v := ?_) (a' := ?_) #[true, true, false, false, false, false, false, false, false, false, false, false, false, false, false, false, false, false, false, false, false, false, false, false, false, false, false] rfl rfl (any_of HT_.out (by kernel_rfl)) (fun _ _ _ h => h) (Or.inl ⟨by rfl, ?_⟩) ?_ ?_
                            rotate_left
                            · intro w'
                              go_simp
                              with_reducible rfl
                            rotate_left
                            · simp only [Act.put, List.setIfInBounds_toArray, List.set_cons_zero, List.set_cons_succ, i64_w, i32_w]
                              rfl
                            refine pure_ (i := 5) (N := some 53) (v := ?_) (a' := ?_) #[true, true, false, false, false, true, false, false, false, false, false, false, false, false, false, false, false, false, false, false, false, false, false, false, false, false, false] rfl rfl (any_of HT_.out (by kernel_rfl)) (fun _ _ _ h => h) (Or.inl ⟨by rfl, ?_⟩) ?_ ?_
                            rotate_left
                            · intro w'
                              go_simp
                              with_reducible rfl
                            rotate_left
                            · simp only [Act.put, List.setIfInBounds_toArray, List.set_cons_zero, List.set_cons_succ, i64_w, i32_w]
                              rfl
                            refine pure_ (i := 6) (N := some 54) (v := ?_) (a' := ?_) #[true, true, false, false, false, true, true, false, false, false, false, false, false, false, false, false, false, false, false, false, false, false, false, false, false, false, false] rfl rfl (any_of HT_.out (by kernel_rfl)) (fun _ _ _ h => h) (Or.inl ⟨by rfl, ?_⟩) ?_ ?_
                            rotate_left
                            · intro w'
                              go_simp
                              with_reducible rfl
                            rotate_left
                            · simp only [Act.put, List.setIfInBounds_toArray, List.set_cons_zero, List.set_cons_succ, i64_w, i32_w]
                              rfl
                            refine pure_ (i := 10) (N := some 58) (v := ?_) (a' := ?_) #[true, true, false, false, false, true, true, false, false, false, true, false, false, false, false, false, false, false, false, false, false, false, false, false, false, false, false] rfl rfl (any_of HT_.out (by kernel_rfl)) (fun _ _ _ h => h) (Or.inl ⟨by rfl, ?_⟩) ?_ ?_
                            rotate_left
                            · intro w'
                              go_simp
                              with_reducible rfl
                            rotate_left
                            · simp only [Act.put, List.setIfInBounds_toArray, List.set_cons_zero, List.set_cons_succ, i64_w, i32_w]
                              rfl
                            refine pure_ (i := 11) (N := some 59) (v := ?_) (a' := ?_) #[true, true, false, false, false, true, true, false, false, false, true, true, false, false, false, false, false, false, false, false, false, false, false, false, false, false, false] rfl rfl (any_of HT_.out (by kernel_rfl)) (fun _ _ _ h => h) (Or.inl ⟨by rfl, ?_⟩) ?_ ?_
                            rotate_left
                            · intro w'
                              go_simp
                              with_reducible rfl
                            rotate_left
                            · simp only [Act.put, List.setIfInBounds_toArray, List.set_cons_zero, List.set_cons_succ, i64_w, i32_w]
                              rfl
                            refine pure_ (i := 15) (N := some 63) (v := ?_) (a' := ?_) #[true, true, false, false, false, true, true, false, false, false, true, true, false, false, false, true, false, false, false, false, false, false, false, false, false, false, false] rfl rfl (any_of HT_.out (by kernel_rfl)) (fun _ _ _ h => h) (Or.inl ⟨by rfl, ?_⟩) ?_ ?_
                            rotate_left
                            · intro w'
                              go_simp
                              with_reducible rfl
                            rotate_left
                            · simp only [Act.put, List.setIfInBounds_toArray, List.set_cons_zero, List.set_cons_succ, i64_w, i32_w]
                              rfl
                            refine pure_ (i := 16) (N := some 64) (v := ?_) (a' := ?_) #[true, true, false, false, false, true, true, false, false, false, true, true, false, false, false, true, true, false, false, false, false, false, false, false, false, false, false] rfl rfl (any_of HT_.out (by kernel_rfl)) (fun _ _ _ h => h) (Or.inl ⟨by rfl, ?_⟩) ?_ ?_
                            rotate_left
                            · intro w'
                              go_simp
                              with_reducible rfl
                            rotate_left
                            · simp only [Act.put, List.setIfInBounds_toArray, List.set_cons_zero, List.set_cons_succ, i64_w, i32_w]
                              rfl
                            refine pure_ (i := 21) (N := some 69) (v := ?_) (a' := ?_) #[true, true, false, false, false, true, true, false, false, false, true, true, false, false, false, true, true, false, false, false, false, true, false, false, false, false, false] rfl rfl (any_of HT_.out (by kernel_rfl)) (fun _ _ _ h => h) (Or.inl ⟨by rfl, ?_⟩) ?_ ?_
                            rotate_left
                            · intro w'
                              go_simp
                              with_reducible rfl
                            rotate_left
                            · simp only [Act.put, List.setIfInBounds_toArray, List.set_cons_zero, List.set_cons_succ, i64_w, i32_w]
                              rfl
                            refine pure_ (i := 22) (N := some 70) (v := ?_) (a' := ?_) #[true, true, false, false, false, true, true, false, false, false, true, true, false, false, false, true, true, false, false, false, false, true, true, false, false, false, false] rfl rfl (any_of HT_.out (by kernel_rfl)) (fun _ _ _ h => h) (Or.inl ⟨by rfl, ?_⟩) ?_ ?_
                            rotate_left
                            · intro w'
                              go_simp
                              with_reducible rfl
                            rotate_left
                            · simp only [Act.put, List.setIfInBounds_toArray, List.set_cons_zero, List.set_cons_succ, i64_w, i32_w]
                              rfl
                            refine take_ (i := 2) (N := some 50) (v := ?_) (a' := ?_) #[true, true, true, false, false, true, true, false, false, false, true, true, false, false, false, true, true, false, false, false, false, true, true, false, false, false, false] rfl rfl (take_ofW HT_.out HW_.out (by kernel_rfl)) (fun _ _ _ h => h) (Or.inl ⟨by rfl, ?_⟩) hHeld ?_ ?_
                            rotate_left
                            · rintro w' ⟨s0, s1, s2, s3, s4⟩
                              go_simp
                              with_reducible rfl
                            rotate_left
                            · simp only [Act.put, List.setIfInBounds_toArray, List.set_cons_zero, List.set_cons_succ, i64_w, i32_w]
                              rfl
                            refine take_ (i := 3) (N := some 51) (v := ?_) (a' := ?_) #[true, true, true, true, false, true, true, false, false, false, true, true, false, false, false, true, true, false, false, false, false, true, true, false, false, false, false] rfl rfl (take_ofW HT_.out HW_.out (by kernel_rfl)) (fun _ _ _ h => h) (Or.inl ⟨by rfl, ?_⟩) hHeld ?_ ?_
                            rotate_left
                            · rintro w' ⟨s0, s1, s2, s3, s4⟩
                              go_simp
                              with_reducible rfl
                            rotate_left
                            · simp only [Act.put, List.setIfInBounds_toArray, List.set_cons_zero, List.set_cons_succ, i64_w, i32_w]
                              rfl
                            refine pure_ (i := 4) (N := some 52) (v := ?_) (a' := ?_) #[true, true, true, true, true, true, true, false, false, false, true, true, false, false, false, true, true, false, false, false, false, true, true, false, false, false, false] rfl rfl (any_of HT_.out (by kernel_rfl)) (fun _ _ _ h => h) (Or.inl ⟨by rfl, ?_⟩) ?_ ?_
                            rotate_left
                            · intro w'
                              go_simp
                              with_reducible rfl
                            rotate_left
                            · simp only [Act.put, List.setIfInBounds_toArray, List.set_cons_zero, List.set_cons_succ, i64_w, i32_w]
                              rfl
                            refine take_ (i := 7) (N := some 55) (v := ?_) (a' := ?_) #[true, true, true, true, true, true, true, true, false, false, true, true, false, false, false, true, true, false, false, false, false, true, true, false, false, false, false] rfl rfl (take_ofW HT_.out HW_.out (by kernel_rfl)) (fun _ _ _ h => h) (Or.inl ⟨by rfl, ?_⟩) hHeld ?_ ?_
                            rotate_left
                            · rintro w' ⟨s0, s1, s2, s3, s4⟩
                              go_simp
                              with_reducible rfl
                            rotate_left
                            · simp only [Act.put, List.setIfInBounds_toArray, List.set_cons_zero, List.set_cons_succ, i64_w, i32_w]
                              rfl
                            refine take_ (i := 8) (N := some 56) (v := ?_) (a' := ?_) #[true, true, true, true, true, true, true, true, true, false, true, true, false, false, false, true, true, false, false, false, false, true, true, false, false, false, false] rfl rfl (take_ofW HT_.out HW_.out (by kernel_rfl)) (fun _ _ _ h => h) (Or.inl ⟨by rfl, ?_⟩) hHeld ?_ ?_
                            rotate_left
                            · rintro w' ⟨s0, s1, s2, s3, s4⟩
                              go_simp
                              with_reducible rfl
                            rotate_left
                            · simp only [Act.put, List.setIfInBounds_toArray, List.set_cons_zero, List.set_cons_succ, i64_w, i32_w]
                              rfl
                            refine pure_ (i := 9) (N := some 57) (v := ?_) (a' := ?_) #[true, true, true, true, true, true, true, true, true, true, true, true, false, false, false, true, true, false, false, false, false, true, true, false, false, false, false] rfl rfl (any_of HT_.out (by kernel_rfl)) (fun _ _ _ h => h) (Or.inl ⟨by rfl, ?_⟩) ?_ ?_
                            rotate_left
                            · intro w'
                              go_simp
                              with_reducible rfl
                            rotate_left
                            · simp only [Act.put, List.setIfInBounds_toArray, List.set_cons_zero, List.set_cons_succ, i64_w, i32_w]
                              rfl
                            refine take_ (i := 12) (N := some 60) (v := ?_) (a' := ?_) #[true, true, true, true, true, true, true, true, true, true, true, true, true, false, false, true, true, false, false, false, false, true, true, false, false, false, false] rfl rfl (take_ofW HT_.out HW_.out (by kernel_rfl)) (fun _ _ _ h => h) (Or.inl ⟨by rfl, ?_⟩) hHeld ?_ ?_
                            rotate_left
                            · rintro w' ⟨s0, s1, s2, s3, s4⟩
                              go_simp
                              with_reducible rfl
                            rotate_left
                            · simp only [Act.put, List.setIfInBounds_toArray, List.set_cons_zero, List.set_cons_succ, i64_w, i32_w]
                              rfl
                            refine take_ (i := 13) (N := some 61) (v := ?_) (a' := ?_) #[true, true, true, true, true, true, true, true, true, true, true, true, true, true, false, true, true, false, false, false, false, true, true, false, false, false, false] rfl rfl (take_ofW HT_.out HW_.out (by kernel_rfl)) (fun _ _ _ h => h) (Or.inl ⟨by rfl, ?_⟩) hHeld ?_ ?_
                            rotate_left
                            · rintro w' ⟨s0, s1, s2, s3, s4⟩
                              go_simp
                              with_reducible rfl
                            rotate_left
                            · simp only [Act.put, List.setIfInBounds_toArray, List.set_cons_zero, List.set_cons_succ, i64_w, i32_w]
                              rfl
                            refine pure_ (i := 14) (N := some 62) (v := ?_) (a' := ?_) #[true, true, true, true, true, true, true, true, true, true, true, true, true, true, true, true, true, false, false, false, false, true, true, false, false, false, false] rfl rfl (any_of HT_.out (by kernel_rfl)) (fun _ _ _ h => h) (Or.inl ⟨by rfl, ?_⟩) ?_ ?_
                            rotate_left
                            · intro w'
                              go_simp
                              with_reducible rfl
                            rotate_left
                            · simp only [Act.put, List.setIfInBounds_toArray, List.set_cons_zero, List.set_cons_succ, i64_w, i32_w]
                              rfl
                            refine take_ (i := 17) (N := some 65) (v := ?_) (a' := ?_) #[true, true, true, true, true, true, true, true, true, true, true, true, true, true, true, true, true, true, false, false, false, true, true, false, false, false, false] rfl rfl (take_ofW HT_.out HW_.out (by kernel_rfl)) (fun _ _ _ h => h) (Or.inl ⟨by rfl, ?_⟩) hHeld ?_ ?_
                            rotate_left
                            · rintro w' ⟨s0, s1, s2, s3, s4⟩
                              go_simp
                              with_reducible rfl
                            rotate_left
                            · simp only [Act.put, List.setIfInBounds_toArray, List.set_cons_zero, List.set_cons_succ, i64_w, i32_w]
                              rfl
                            refine take_ (i := 18) (N := some 66) (v := ?_) (a' := ?_) #[true, true, true, true, true, true, true, true, true, true, true, true, true, true, true, true, true, true, true, false, false, true, true, false, false, false, false] rfl rfl (take_ofW HT_.out HW_.out (by kernel_rfl)) (fun _ _ _ h => h) (Or.inl ⟨by rfl, ?_⟩) hHeld ?_ ?_
                            rotate_left
                            · rintro w' ⟨s0, s1, s2, s3, s4⟩
                              go_simp
                              with_reducible rfl
                            rotate_left
                            · simp only [Act.put, List.setIfInBounds_toArray, List.set_cons_zero, List.set_cons_succ, i64_w, i32_w]
                              rfl
                            refine pure_ (i := 19) (N := some 67) (v := ?_) (a' := ?_) #[true, true, true, true, true, true, true, true, true, true, true, true, true, true, true, true, true, true, true, true, false, true, true, false, false, false, false] rfl rfl (any_of HT_.out (by kernel_rfl)) (fun _ _ _ h => h) (Or.inl ⟨by rfl, ?_⟩) ?_ ?_
                            rotate_left
                            · intro w'
                              go_simp
                              with_reducible rfl
                            rotate_left
                            · simp only [Act.put, List.setIfInBounds_toArray, List.set_cons_zero, List.set_cons_succ, i64_w, i32_w]
                              rfl
                            refine pure_ (i := 20) (N := some 68) (v := ?_) (a' := ?_) #[true, true, true, true, true, true, true, true, true, true, true, true, true, true, true, true, true, true, true, true, true, true, true, false, false, false, false] rfl rfl (any_of HT_.out (by kernel_rfl)) (fun _ _ _ h => h) (Or.inl ⟨by rfl, ?_⟩) ?_ ?_
                            rotate_left
                            · intro w'
                              go_simp
                              with_reducible rfl
                            rotate_left
                            · simp only [Act.put, List.setIfInBounds_toArray, List.set_cons_zero, List.set_cons_succ, i64_w, i32_w]
                              rfl
                            refine take_ (i := 23) (N := some 71) (v := ?_) (a' := ?_) #[true, true, true, true, true, true, true, true, true, true, true, true, true, true, true, true, true, true, true, true, true, true, true, true, false, false, false] rfl rfl (take_ofW HT_.out HW_.out (by kernel_rfl)) (fun _ _ _ h => h) (Or.inl ⟨by rfl, ?_⟩) hHeld ?_ ?_
                            rotate_left
                            · rintro w' ⟨s0, s1, s2, s3, s4⟩
                              go_simp
                              with_reducible rfl
                            rotate_left
                            · simp only [Act.put, List.setIfInBounds_toArray, List.set_cons_zero, List.set_cons_succ, i64_w, i32_w]
                              rfl
                            refine pure_ (i := 24) (N := some 72) (v := ?_) (a' := ?_) #[true, true, true, true, true, true, true, true, true, true, true, true, true, true, true, true, true, true, true, true, true, true, true, true, true, false, false] rfl rfl (any_of HT_.out (by kernel_rfl)) (fun _ _ _ h => h) (Or.inl ⟨by rfl, ?_⟩) ?_ ?_
                            rotate_left
                            · intro w'
                              go_simp
                              with_reducible rfl
                            rotate_left
                            · simp only [Act.put, List.setIfInBounds_toArray, List.set_cons_zero, List.set_cons_succ, i64_w, i32_w]
                              rfl
                            refine one_ (i := 25) (N := some 6) #[true, true, true, true, true, true, true, true, true, true, true, true, true, true, true, true, true, true, true, true, true, true, true, true, true, true, false] rfl rfl (one_of HT_.out (by kernel_rfl)) (by decide) (fun K hK => ?_)
                            refine box_step ?hg (N := 6) ?hd (cs := #[.int .i64 0, .int .i64 0, .int .i64 0, .int .i64 0, .string (⟨#[]⟩ : ByteArray)]) (t := 47) ?hr ?_; (case hd => rfl); (case hg => rfl); (case hr => first | (go_simp; done) | (go_simp; rfl))
                            intro gb343 hg w52 hbox hb
                            have HS0_ := (hb.cell (World.block_lt_of_cell? _ _ (hHeld.1))).trans (hHeld.1)
                            have HS1_ := (hb.cell (World.block_lt_of_cell? _ _ (hHeld.2.1))).trans (hHeld.2.1)
                            have HS2_ := (hb.cell (World.block_lt_of_cell? _ _ (hHeld.2.2.1))).trans (hHeld.2.2.1)
                            have HS3_ := (hb.cell (World.block_lt_of_cell? _ _ (hHeld.2.2.2.1))).trans (hHeld.2.2.2.1)
                            have HS4_ := (hb.cell (World.block_lt_of_cell? _ _ (hHeld.2.2.2.2))).trans (hHeld.2.2.2.2)
                            have n0_ := Aside0.mk (Kd.R_below (by (with_reducible repeat (first | apply Kd.R_alloc | apply Kd.R_drewN | apply Kd.R_drew)); exact HO_4.out) hb)
                            have n1_ := Aside0.mk (blk_below (g := gb329) (o := .cells #[.int .i64 0, .int .i64 0, .int .i64 0, .int .i64 0, .string (⟨#[]⟩ : ByteArray)] 47 (0, 0)) (by (with_reducible repeat (first | refine blk_drewN ?_ _ | refine blk_drew ?_ | refine blk_alloc ?_ _)); exact BK329.out) hb)
                            have n2_ := Aside0.mk (below_step (by repeat (first | (with_reducible first | exact HB.out | apply below_alloc | apply pw_below_drewN | apply below_drew1 | refine below_set ?_ GE329.out) | exact HB.out)) hb)
                            have n3_ := Aside0.mk (hbox)
                            have n4_ := Aside0.mk ((by rw [hg]; exact (below_size (by repeat (first | (with_reducible first | exact HB.out | apply below_alloc | apply pw_below_drewN | apply below_drew1 | refine below_set ?_ GE329.out) | exact HB.out))) : w.heap.size ≤ gb343))
                            have n5_ := Aside0.mk ((by rw [hg]; exact (below_size (by repeat (first | (with_reducible first | exact HB.out | apply below_alloc | apply pw_below_drewN | apply below_drew1 | refine below_set ?_ GE329.out) | exact HB.out))) : w.heap.size ≤ gb343))
                            have n6_ := Aside0.mk ((by rw [hg]; exact Nat.ne_of_lt (blk_lt (g := gb329) (o := .cells #[.int .i64 0, .int .i64 0, .int .i64 0, .int .i64 0, .string (⟨#[]⟩ : ByteArray)] 47 (0, 0)) (by (with_reducible repeat (first | refine blk_drewN ?_ _ | refine blk_drew ?_ | refine blk_alloc ?_ _)); exact BK329.out)) : gb329 ≠ gb343))
                            have n7_ := Aside0.mk ((by rw [hg]; exact Nat.ne_of_gt (blk_lt (g := gb329) (o := .cells #[.int .i64 0, .int .i64 0, .int .i64 0, .int .i64 0, .string (⟨#[]⟩ : ByteArray)] 47 (0, 0)) (by (with_reducible repeat (first | refine blk_drewN ?_ _ | refine blk_drew ?_ | refine blk_alloc ?_ _)); exact BK329.out)) : gb343 ≠ gb329))
                            clear HO_4
                            clear BK329
                            clear HB
                            have HO_4 := n0_
                            have BK329 := n1_
                            have HB := n2_
                            have BK343 := n3_
                            have GW343 := n4_
                            have GE343 := n5_
                            have NB329_343 := n6_
                            have NB343_329 := n7_
                            clear n0_ n1_ n2_ n3_ n4_ n5_ n6_ n7_
                            clear hb hbox hg
                            refine hK.out _ _ ⟨HS0_, HS1_, HS2_, HS3_, HS4_⟩ (fun hHeld => ?_)
                            clear hK K
                            refine norm_ (a' := ?_) ?_ ?_
                            rotate_left
                            · show Act.put _ (some 6) _ = _
                              simp only [Act.put, List.setIfInBounds_toArray, List.set_cons_zero, List.set_cons_succ, i64_w, i32_w]
                              rfl
                            refine one_ (i := 26) (N := none) #[true, true, true, true, true, true, true, true, true, true, true, true, true, true, true, true, true, true, true, true, true, true, true, true, true, true, true] rfl rfl (one_of HT_.out (by kernel_rfl)) (by decide) (fun K hK => ?_)
                            have hs53 : w52.cell? ⟨gb343, 0, none⟩ = some (.int .i64 0) := (blk_cell BK343.out 0).trans rfl
                            have hfs53 := blk_frozen BK343.out 0
                            have hns53_0 := NB329_343.out
                            have hms53_0 := NB343_329.out
                            have hs54 : w52.cell? ⟨gb343, 1, none⟩ = some (.int .i64 0) := (blk_cell BK343.out 1).trans rfl
                            have hfs54 := blk_frozen BK343.out 1
                            have hns54_0 := NB329_343.out
                            have hms54_0 := NB343_329.out
                            have hs55 : w52.cell? ⟨gb343, 2, none⟩ = some (.int .i64 0) := (blk_cell BK343.out 2).trans rfl
                            have hfs55 := blk_frozen BK343.out 2
                            have hns55_0 := NB329_343.out
                            have hms55_0 := NB343_329.out
                            have hs56 : w52.cell? ⟨gb343, 3, none⟩ = some (.int .i64 0) := (blk_cell BK343.out 3).trans rfl
                            have hfs56 := blk_frozen BK343.out 3
                            have hns56_0 := NB329_343.out
                            have hms56_0 := NB343_329.out
                            have hs57 : w52.cell? ⟨gb343, 4, none⟩ = some (.string (⟨#[]⟩ : ByteArray)) := (blk_cell BK343.out 4).trans rfl
                            have hfs57 := blk_frozen BK343.out 4
                            have hns57_0 := NB329_343.out
                            have hms57_0 := NB343_329.out
                            refine skip_ (w1 := ?_) (by rfl) rfl ?_ ?_
                            rotate_left
                            · go_simp
                              rfl
                            refine hK.out _ _ ⟨((cell_far (p := ⟨gb343, _, none⟩) (by first | exact Kd.own_blk (Kd.R_ne HO_4.out BK343.out (by decide)) | (rw [add_block]; exact Kd.own_blk (Kd.R_ne HO_4.out BK343.out (by decide))) | (show (Addr.add _ _).block ≠ _; rw [add_block]; exact Kd.own_blk (Kd.R_ne HO_4.out BK343.out (by decide))) | (dsimp only; exact Kd.own_blk (Kd.R_ne HO_4.out BK343.out (by decide)))) _).trans (((cell_far (p := ⟨gb343, _, none⟩) (by first | exact Kd.own_blk (Kd.R_ne HO_4.out BK343.out (by decide)) | (rw [add_block]; exact Kd.own_blk (Kd.R_ne HO_4.out BK343.out (by decide))) | (show (Addr.add _ _).block ≠ _; rw [add_block]; exact Kd.own_blk (Kd.R_ne HO_4.out BK343.out (by decide))) | (dsimp only; exact Kd.own_blk (Kd.R_ne HO_4.out BK343.out (by decide)))) _).trans (((cell_far (p := ⟨gb343, _, none⟩) (by first | exact Kd.own_blk (Kd.R_ne HO_4.out BK343.out (by decide)) | (rw [add_block]; exact Kd.own_blk (Kd.R_ne HO_4.out BK343.out (by decide))) | (show (Addr.add _ _).block ≠ _; rw [add_block]; exact Kd.own_blk (Kd.R_ne HO_4.out BK343.out (by decide))) | (dsimp only; exact Kd.own_blk (Kd.R_ne HO_4.out BK343.out (by decide)))) _).trans (((cell_far (p := ⟨gb343, _, none⟩) (by first | exact Kd.own_blk (Kd.R_ne HO_4.out BK343.out (by decide)) | (rw [add_block]; exact Kd.own_blk (Kd.R_ne HO_4.out BK343.out (by decide))) | (show (Addr.add _ _).block ≠ _; rw [add_block]; exact Kd.own_blk (Kd.R_ne HO_4.out BK343.out (by decide))) | (dsimp only; exact Kd.own_blk (Kd.R_ne HO_4.out BK343.out (by decide)))) _).trans (((cell_far (p := ⟨gb343, _, none⟩) (by first | exact Kd.own_blk (Kd.R_ne HO_4.out BK343.out (by decide)) | (rw [add_block]; exact Kd.own_blk (Kd.R_ne HO_4.out BK343.out (by decide))) | (show (Addr.add _ _).block ≠ _; rw [add_block]; exact Kd.own_blk (Kd.R_ne HO_4.out BK343.out (by decide))) | (dsimp only; exact Kd.own_blk (Kd.R_ne HO_4.out BK343.out (by decide)))) _).trans (hHeld.1)))))))))), ((cell_far (p := ⟨gb343, _, none⟩) (by first | exact Kd.own_blk (Kd.R_ne HO_4.out BK343.out (by decide)) | (rw [add_block]; exact Kd.own_blk (Kd.R_ne HO_4.out BK343.out (by decide))) | (show (Addr.add _ _).block ≠ _; rw [add_block]; exact Kd.own_blk (Kd.R_ne HO_4.out BK343.out (by decide))) | (dsimp only; exact Kd.own_blk (Kd.R_ne HO_4.out BK343.out (by decide)))) _).trans (((cell_far (p := ⟨gb343, _, none⟩) (by first | exact Kd.own_blk (Kd.R_ne HO_4.out BK343.out (by decide)) | (rw [add_block]; exact Kd.own_blk (Kd.R_ne HO_4.out BK343.out (by decide))) | (show (Addr.add _ _).block ≠ _; rw [add_block]; exact Kd.own_blk (Kd.R_ne HO_4.out BK343.out (by decide))) | (dsimp only; exact Kd.own_blk (Kd.R_ne HO_4.out BK343.out (by decide)))) _).trans (((cell_far (p := ⟨gb343, _, none⟩) (by first | exact Kd.own_blk (Kd.R_ne HO_4.out BK343.out (by decide)) | (rw [add_block]; exact Kd.own_blk (Kd.R_ne HO_4.out BK343.out (by decide))) | (show (Addr.add _ _).block ≠ _; rw [add_block]; exact Kd.own_blk (Kd.R_ne HO_4.out BK343.out (by decide))) | (dsimp only; exact Kd.own_blk (Kd.R_ne HO_4.out BK343.out (by decide)))) _).trans (((cell_far (p := ⟨gb343, _, none⟩) (by first | exact Kd.own_blk (Kd.R_ne HO_4.out BK343.out (by decide)) | (rw [add_block]; exact Kd.own_blk (Kd.R_ne HO_4.out BK343.out (by decide))) | (show (Addr.add _ _).block ≠ _; rw [add_block]; exact Kd.own_blk (Kd.R_ne HO_4.out BK343.out (by decide))) | (dsimp only; exact Kd.own_blk (Kd.R_ne HO_4.out BK343.out (by decide)))) _).trans (((cell_far (p := ⟨gb343, _, none⟩) (by first | exact Kd.own_blk (Kd.R_ne HO_4.out BK343.out (by decide)) | (rw [add_block]; exact Kd.own_blk (Kd.R_ne HO_4.out BK343.out (by decide))) | (show (Addr.add _ _).block ≠ _; rw [add_block]; exact Kd.own_blk (Kd.R_ne HO_4.out BK343.out (by decide))) | (dsimp only; exact Kd.own_blk (Kd.R_ne HO_4.out BK343.out (by decide)))) _).trans (hHeld.2.1)))))))))), ((cell_far (p := ⟨gb343, _, none⟩) (by first | exact Kd.own_blk (Kd.R_ne HO_4.out BK343.out (by decide)) | (rw [add_block]; exact Kd.own_blk (Kd.R_ne HO_4.out BK343.out (by decide))) | (show (Addr.add _ _).block ≠ _; rw [add_block]; exact Kd.own_blk (Kd.R_ne HO_4.out BK343.out (by decide))) | (dsimp only; exact Kd.own_blk (Kd.R_ne HO_4.out BK343.out (by decide)))) _).trans (((cell_far (p := ⟨gb343, _, none⟩) (by first | exact Kd.own_blk (Kd.R_ne HO_4.out BK343.out (by decide)) | (rw [add_block]; exact Kd.own_blk (Kd.R_ne HO_4.out BK343.out (by decide))) | (show (Addr.add _ _).block ≠ _; rw [add_block]; exact Kd.own_blk (Kd.R_ne HO_4.out BK343.out (by decide))) | (dsimp only; exact Kd.own_blk (Kd.R_ne HO_4.out BK343.out (by decide)))) _).trans (((cell_far (p := ⟨gb343, _, none⟩) (by first | exact Kd.own_blk (Kd.R_ne HO_4.out BK343.out (by decide)) | (rw [add_block]; exact Kd.own_blk (Kd.R_ne HO_4.out BK343.out (by decide))) | (show (Addr.add _ _).block ≠ _; rw [add_block]; exact Kd.own_blk (Kd.R_ne HO_4.out BK343.out (by decide))) | (dsimp only; exact Kd.own_blk (Kd.R_ne HO_4.out BK343.out (by decide)))) _).trans (((cell_far (p := ⟨gb343, _, none⟩) (by first | exact Kd.own_blk (Kd.R_ne HO_4.out BK343.out (by decide)) | (rw [add_block]; exact Kd.own_blk (Kd.R_ne HO_4.out BK343.out (by decide))) | (show (Addr.add _ _).block ≠ _; rw [add_block]; exact Kd.own_blk (Kd.R_ne HO_4.out BK343.out (by decide))) | (dsimp only; exact Kd.own_blk (Kd.R_ne HO_4.out BK343.out (by decide)))) _).trans (((cell_far (p := ⟨gb343, _, none⟩) (by first | exact Kd.own_blk (Kd.R_ne HO_4.out BK343.out (by decide)) | (rw [add_block]; exact Kd.own_blk (Kd.R_ne HO_4.out BK343.out (by decide))) | (show (Addr.add _ _).block ≠ _; rw [add_block]; exact Kd.own_blk (Kd.R_ne HO_4.out BK343.out (by decide))) | (dsimp only; exact Kd.own_blk (Kd.R_ne HO_4.out BK343.out (by decide)))) _).trans (hHeld.2.2.1)))))))))), ((cell_far (p := ⟨gb343, _, none⟩) (by first | exact Kd.own_blk (Kd.R_ne HO_4.out BK343.out (by decide)) | (rw [add_block]; exact Kd.own_blk (Kd.R_ne HO_4.out BK343.out (by decide))) | (show (Addr.add _ _).block ≠ _; rw [add_block]; exact Kd.own_blk (Kd.R_ne HO_4.out BK343.out (by decide))) | (dsimp only; exact Kd.own_blk (Kd.R_ne HO_4.out BK343.out (by decide)))) _).trans (((cell_far (p := ⟨gb343, _, none⟩) (by first | exact Kd.own_blk (Kd.R_ne HO_4.out BK343.out (by decide)) | (rw [add_block]; exact Kd.own_blk (Kd.R_ne HO_4.out BK343.out (by decide))) | (show (Addr.add _ _).block ≠ _; rw [add_block]; exact Kd.own_blk (Kd.R_ne HO_4.out BK343.out (by decide))) | (dsimp only; exact Kd.own_blk (Kd.R_ne HO_4.out BK343.out (by decide)))) _).trans (((cell_far (p := ⟨gb343, _, none⟩) (by first | exact Kd.own_blk (Kd.R_ne HO_4.out BK343.out (by decide)) | (rw [add_block]; exact Kd.own_blk (Kd.R_ne HO_4.out BK343.out (by decide))) | (show (Addr.add _ _).block ≠ _; rw [add_block]; exact Kd.own_blk (Kd.R_ne HO_4.out BK343.out (by decide))) | (dsimp only; exact Kd.own_blk (Kd.R_ne HO_4.out BK343.out (by decide)))) _).trans (((cell_far (p := ⟨gb343, _, none⟩) (by first | exact Kd.own_blk (Kd.R_ne HO_4.out BK343.out (by decide)) | (rw [add_block]; exact Kd.own_blk (Kd.R_ne HO_4.out BK343.out (by decide))) | (show (Addr.add _ _).block ≠ _; rw [add_block]; exact Kd.own_blk (Kd.R_ne HO_4.out BK343.out (by decide))) | (dsimp only; exact Kd.own_blk (Kd.R_ne HO_4.out BK343.out (by decide)))) _).trans (((cell_far (p := ⟨gb343, _, none⟩) (by first | exact Kd.own_blk (Kd.R_ne HO_4.out BK343.out (by decide)) | (rw [add_block]; exact Kd.own_blk (Kd.R_ne HO_4.out BK343.out (by decide))) | (show (Addr.add _ _).block ≠ _; rw [add_block]; exact Kd.own_blk (Kd.R_ne HO_4.out BK343.out (by decide))) | (dsimp only; exact Kd.own_blk (Kd.R_ne HO_4.out BK343.out (by decide)))) _).trans (hHeld.2.2.2.1)))))))))), ((cell_far (p := ⟨gb343, _, none⟩) (by first | exact Kd.own_blk (Kd.R_ne HO_4.out BK343.out (by decide)) | (rw [add_block]; exact Kd.own_blk (Kd.R_ne HO_4.out BK343.out (by decide))) | (show (Addr.add _ _).block ≠ _; rw [add_block]; exact Kd.own_blk (Kd.R_ne HO_4.out BK343.out (by decide))) | (dsimp only; exact Kd.own_blk (Kd.R_ne HO_4.out BK343.out (by decide)))) _).trans (((cell_far (p := ⟨gb343, _, none⟩) (by first | exact Kd.own_blk (Kd.R_ne HO_4.out BK343.out (by decide)) | (rw [add_block]; exact Kd.own_blk (Kd.R_ne HO_4.out BK343.out (by decide))) | (show (Addr.add _ _).block ≠ _; rw [add_block]; exact Kd.own_blk (Kd.R_ne HO_4.out BK343.out (by decide))) | (dsimp only; exact Kd.own_blk (Kd.R_ne HO_4.out BK343.out (by decide)))) _).trans (((cell_far (p := ⟨gb343, _, none⟩) (by first | exact Kd.own_blk (Kd.R_ne HO_4.out BK343.out (by decide)) | (rw [add_block]; exact Kd.own_blk (Kd.R_ne HO_4.out BK343.out (by decide))) | (show (Addr.add _ _).block ≠ _; rw [add_block]; exact Kd.own_blk (Kd.R_ne HO_4.out BK343.out (by decide))) | (dsimp only; exact Kd.own_blk (Kd.R_ne HO_4.out BK343.out (by decide)))) _).trans (((cell_far (p := ⟨gb343, _, none⟩) (by first | exact Kd.own_blk (Kd.R_ne HO_4.out BK343.out (by decide)) | (rw [add_block]; exact Kd.own_blk (Kd.R_ne HO_4.out BK343.out (by decide))) | (show (Addr.add _ _).block ≠ _; rw [add_block]; exact Kd.own_blk (Kd.R_ne HO_4.out BK343.out (by decide))) | (dsimp only; exact Kd.own_blk (Kd.R_ne HO_4.out BK343.out (by decide)))) _).trans (((cell_far (p := ⟨gb343, _, none⟩) (by first | exact Kd.own_blk (Kd.R_ne HO_4.out BK343.out (by decide)) | (rw [add_block]; exact Kd.own_blk (Kd.R_ne HO_4.out BK343.out (by decide))) | (show (Addr.add _ _).block ≠ _; rw [add_block]; exact Kd.own_blk (Kd.R_ne HO_4.out BK343.out (by decide))) | (dsimp only; exact Kd.own_blk (Kd.R_ne HO_4.out BK343.out (by decide)))) _).trans (hHeld.2.2.2.2))))))))))⟩ (fun hHeld => ?_)
                            clear hK K
                            refine done_ (done_of HT_.out (by kernel_rfl)) ?_
                            have hnb58 := NB343_329.out
                            have hnc58 := NB329_343.out
                            have hcz59_0 : w52.cell? ⟨gb343, 0, none⟩ = some (.int .i64 0) := (blk_cell BK343.out 0).trans rfl
                            have hcz59_1 : w52.cell? ⟨gb343, 1, none⟩ = some (.int .i64 0) := (blk_cell BK343.out 1).trans rfl
                            have hcz59_2 : w52.cell? ⟨gb343, 2, none⟩ = some (.int .i64 0) := (blk_cell BK343.out 2).trans rfl
                            have hcz59_3 : w52.cell? ⟨gb343, 3, none⟩ = some (.int .i64 0) := (blk_cell BK343.out 3).trans rfl
                            have hcz59_4 : w52.cell? ⟨gb343, 4, none⟩ = some (.string (⟨#[]⟩ : ByteArray)) := (blk_cell BK343.out 4).trans rfl
                            have hfz59_0 := blk_frozen BK343.out 0
                            have hfz59_1 := blk_frozen BK343.out 1
                            have hfz59_2 := blk_frozen BK343.out 2
                            have hfz59_3 := blk_frozen BK343.out 3
                            have hfz59_4 := blk_frozen BK343.out 4
                            try go_wp2_with (first | ((with_reducible refine gate_callee (f := 35) rfl ?_); refine goesL_ (some 74) rfl rfl Try.func35 (by kernel_rfl) rfl #[.agg #[.int .i64 (wrap64 (bt (rdOf ByteArray.empty t330 0) 0)), .int .i64 (wrap64 (bt (rdOf ByteArray.empty t330 1) 0)), .int .i64 (wrap64 (bt (rdOf ByteArray.empty t330 2) 0)), .int .i64 (wrap64 ((wrap64 (bt (rdOf ByteArray.empty t330 3) 0)) - 1)), .string (rdOf ByteArray.empty t330 4)]] rfl (by (try simp only [List.map_toArray, List.map_cons, List.map_nil]); first | done | rfl | (simp only [List.length_drop, List.length_take]; rfl)) ?_; (with_reducible refine (sandglassref16_CheckWord.calls kj2 (wrap64 (bt (rdOf ByteArray.empty t330 0) 0)) (wrap64 (bt (rdOf ByteArray.empty t330 1) 0)) (wrap64 (bt (rdOf ByteArray.empty t330 2) 0)) (wrap64 ((wrap64 (bt (rdOf ByteArray.empty t330 3) 0)) - 1)) (rdOf ByteArray.empty t330 4) t344 _ A35.out).mono ?_); rintro e w60 ⟨rfl, hb⟩; refine ⟨_, rfl, ?_⟩; have n0_ := Aside0.mk (Kd.R_below (by (with_reducible repeat (first | apply Kd.R_alloc | apply Kd.R_drewN | apply Kd.R_drew)); exact (Kd.R_mono (Kd.R_far (p := ⟨gb343, 4, none⟩) (Kd.R_far (p := ⟨gb343, 3, none⟩) (Kd.R_far (p := ⟨gb343, 2, none⟩) (Kd.R_far (p := ⟨gb343, 1, none⟩) (Kd.R_far (p := ⟨gb343, 0, none⟩) (Kd.R_types HO_4.out BK343.out (by decide)) (fun _ hk => hk.2) (.int .i64 (wrap64 (bt (rdOf ByteArray.empty t330 0) 0)))) (fun _ hk => hk.2) (.int .i64 (wrap64 (bt (rdOf ByteArray.empty t330 1) 0)))) (fun _ hk => hk.2) (.int .i64 (wrap64 (bt (rdOf ByteArray.empty t330 2) 0)))) (fun _ hk => hk.2) (.int .i64 (wrap64 ((wrap64 (bt (rdOf ByteArray.empty t330 3) 0)) - 1)))) (fun _ hk => hk.2) (.string (rdOf ByteArray.empty t330 4))) (fun _ h_ => h_.1))) hb); have n1_ := Aside0.mk (blk_below (g := gb329) (o := .cells #[.int .i64 0, .int .i64 0, .int .i64 0, .int .i64 0, .string (⟨#[]⟩ : ByteArray)] 47 (0, 0)) (by (with_reducible repeat (first | refine blk_drewN ?_ _ | refine blk_drew ?_ | refine blk_alloc ?_ _)); refine blk_far ?_ NB329_343.out _; (with_reducible repeat (first | refine blk_drewN ?_ _ | refine blk_drew ?_ | refine blk_alloc ?_ _)); refine blk_far ?_ NB329_343.out _; (with_reducible repeat (first | refine blk_drewN ?_ _ | refine blk_drew ?_ | refine blk_alloc ?_ _)); refine blk_far ?_ NB329_343.out _; (with_reducible repeat (first | refine blk_drewN ?_ _ | refine blk_drew ?_ | refine blk_alloc ?_ _)); refine blk_far ?_ NB329_343.out _; (with_reducible repeat (first | refine blk_drewN ?_ _ | refine blk_drew ?_ | refine blk_alloc ?_ _)); refine blk_far ?_ NB329_343.out _; (with_reducible repeat (first | refine blk_drewN ?_ _ | refine blk_drew ?_ | refine blk_alloc ?_ _)); exact BK329.out) hb); have n2_ := Aside0.mk (blk_below (g := gb343) (o := .cells #[.int .i64 (wrap64 (bt (rdOf ByteArray.empty t330 0) 0)), .int .i64 (wrap64 (bt (rdOf ByteArray.empty t330 1) 0)), .int .i64 (wrap64 (bt (rdOf ByteArray.empty t330 2) 0)), .int .i64 (wrap64 ((wrap64 (bt (rdOf ByteArray.empty t330 3) 0)) - 1)), .string (rdOf ByteArray.empty t330 4)] 47 (0, 0)) (by (with_reducible repeat (first | refine blk_drewN ?_ _ | refine blk_drew ?_ | refine blk_alloc ?_ _)); refine blk_put (cs := #[.int .i64 (wrap64 (bt (rdOf ByteArray.empty t330 0) 0)), .int .i64 (wrap64 (bt (rdOf ByteArray.empty t330 1) 0)), .int .i64 (wrap64 (bt (rdOf ByteArray.empty t330 2) 0)), .int .i64 (wrap64 ((wrap64 (bt (rdOf ByteArray.empty t330 3) 0)) - 1)), .string (⟨#[]⟩ : ByteArray)]) ?_ 4 _ rfl; (with_reducible repeat (first | refine blk_drewN ?_ _ | refine blk_drew ?_ | refine blk_alloc ?_ _)); refine blk_put (cs := #[.int .i64 (wrap64 (bt (rdOf ByteArray.empty t330 0) 0)), .int .i64 (wrap64 (bt (rdOf ByteArray.empty t330 1) 0)), .int .i64 (wrap64 (bt (rdOf ByteArray.empty t330 2) 0)), .int .i64 0, .string (⟨#[]⟩ : ByteArray)]) ?_ 3 _ rfl; (with_reducible repeat (first | refine blk_drewN ?_ _ | refine blk_drew ?_ | refine blk_alloc ?_ _)); refine blk_put (cs := #[.int .i64 (wrap64 (bt (rdOf ByteArray.empty t330 0) 0)), .int .i64 (wrap64 (bt (rdOf ByteArray.empty t330 1) 0)), .int .i64 0, .int .i64 0, .string (⟨#[]⟩ : ByteArray)]) ?_ 2 _ rfl; (with_reducible repeat (first | refine blk_drewN ?_ _ | refine blk_drew ?_ | refine blk_alloc ?_ _)); refine blk_put (cs := #[.int .i64 (wrap64 (bt (rdOf ByteArray.empty t330 0) 0)), .int .i64 0, .int .i64 0, .int .i64 0, .string (⟨#[]⟩ : ByteArray)]) ?_ 1 _ rfl; (with_reducible repeat (first | refine blk_drewN ?_ _ | refine blk_drew ?_ | refine blk_alloc ?_ _)); refine blk_put (cs := #[.int .i64 0, .int .i64 0, .int .i64 0, .int .i64 0, .string (⟨#[]⟩ : ByteArray)]) ?_ 0 _ rfl; (with_reducible repeat (first | refine blk_drewN ?_ _ | refine blk_drew ?_ | refine blk_alloc ?_ _)); exact BK343.out) hb); have n3_ := Aside0.mk (below_step (by repeat (first | (with_reducible first | exact HB.out | apply below_alloc | apply pw_below_drewN | apply below_drew1 | refine below_set ?_ GE329.out | refine below_set ?_ GE343.out) | exact HB.out)) hb); clear HO_4; clear BK329; clear BK343; clear HB; have HO_4 := n0_; have BK329 := n1_; have BK343 := n2_; have HB := n3_; clear n0_ n1_ n2_ n3_; (try clear hb); (try clear hb2); (try clear hk); (try clear hi); have hcz61_0 : w60.cell? ⟨gb329, 0, none⟩ = some (.int .i64 0) := (blk_cell BK329.out 0).trans rfl; have hcz61_1 : w60.cell? ⟨gb329, 1, none⟩ = some (.int .i64 0) := (blk_cell BK329.out 1).trans rfl; have hcz61_2 : w60.cell? ⟨gb329, 2, none⟩ = some (.int .i64 0) := (blk_cell BK329.out 2).trans rfl; have hcz61_3 : w60.cell? ⟨gb329, 3, none⟩ = some (.int .i64 0) := (blk_cell BK329.out 3).trans rfl; have hcz61_4 : w60.cell? ⟨gb329, 4, none⟩ = some (.string (⟨#[]⟩ : ByteArray)) := (blk_cell BK329.out 4).trans rfl; have hfz61_0 := blk_frozen BK329.out 0; have hfz61_1 := blk_frozen BK329.out 1; have hfz61_2 := blk_frozen BK329.out 2; have hfz61_3 := blk_frozen BK329.out 3; have hfz61_4 := blk_frozen BK329.out 4))
                            refine bodyPost_ret (results_ct rfl _ _ gb329 47 #[.int .i64 0, .int .i64 0, .int .i64 0, .int .i64 0, .string (⟨#[]⟩ : ByteArray)] (0, 0) _ rfl (by (with_reducible repeat (first | refine blk_drewN ?_ _ | refine blk_drew ?_ | refine blk_alloc ?_ _)); refine blk_put (cs := #[.int .i64 0, .int .i64 0, .int .i64 0, .int .i64 0, .string (⟨#[]⟩ : ByteArray)]) ?_ 4 _ rfl; (with_reducible repeat (first | refine blk_drewN ?_ _ | refine blk_drew ?_ | refine blk_alloc ?_ _)); refine blk_put (cs := #[.int .i64 0, .int .i64 0, .int .i64 0, .int .i64 0, .string (⟨#[]⟩ : ByteArray)]) ?_ 3 _ rfl; (with_reducible repeat (first | refine blk_drewN ?_ _ | refine blk_drew ?_ | refine blk_alloc ?_ _)); refine blk_put (cs := #[.int .i64 0, .int .i64 0, .int .i64 0, .int .i64 0, .string (⟨#[]⟩ : ByteArray)]) ?_ 2 _ rfl; (with_reducible repeat (first | refine blk_drewN ?_ _ | refine blk_drew ?_ | refine blk_alloc ?_ _)); refine blk_put (cs := #[.int .i64 0, .int .i64 0, .int .i64 0, .int .i64 0, .string (⟨#[]⟩ : ByteArray)]) ?_ 1 _ rfl; (with_reducible repeat (first | refine blk_drewN ?_ _ | refine blk_drew ?_ | refine blk_alloc ?_ _)); refine blk_put (cs := #[.int .i64 0, .int .i64 0, .int .i64 0, .int .i64 0, .string (⟨#[]⟩ : ByteArray)]) ?_ 0 _ rfl; (with_reducible repeat (first | refine blk_drewN ?_ _ | refine blk_drew ?_ | refine blk_alloc ?_ _)); exact BK329.out) Try.underlying47 rfl (by kernel_rfl)) rfl ?_
                            exact ⟨by first | rfl | (simp [errW_none, errW_some] <;> rfl) | (simp [*, errW_none, errW_some] <;> rfl), by repeat (first | (with_reducible first | exact HB.out | apply below_alloc | apply pw_below_drewN | apply below_drew1 | refine below_set ?_ GE329.out | refine below_set ?_ GE343.out) | exact HB.out)⟩
                        · rw [if_neg c34] at H
                          exact absurd H (by simp)
                      · rw [if_neg c32] at H
                        exact absurd H (by simp)
                    · rw [if_neg c31] at H
                      exact absurd H (by simp)
                  · rw [if_neg c29] at H
                    exact absurd H (by simp)
                · rw [if_neg c28] at H
                  exact absurd H (by simp)
              · rw [if_neg c26] at H
                exact absurd H (by simp)
            · rw [if_neg c25] at H
              exact absurd H (by simp)
          · rw [if_neg c23] at H
            exact absurd H (by simp)
        · rw [if_neg c22] at H
          exact absurd H (by simp)

end Go.Proofs.Ytmlggcpanjociaa.PAll
