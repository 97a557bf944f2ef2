/- Printed by a program of this claim: the machine side of its law, for every input; no condition. -/
import Derived.Test.YtifpomknkjegeaaDoorPAllx0
import Derived.Test.YtifpomknkjegeaaDoorPAllx38
import Derived.Test.YtifpomknkjegeaaDoorPAllx48
namespace Go.Proofs.YtifpomknkjegeaaDoor.PAll
open Go.RowKit Go.Proofs.YtifpomknkjegeaaDoorW.PrintWords Go.Proofs.YtifpomknkjegeaaDoorW.PrintLast Go.Proofs.YtifpomknkjegeaaDoorW.PrintMore
attribute [local go_sem] max2_int min2_int max_two min_two max_three min_three max_four min_four
set_option linter.unusedVariables false
set_option linter.unusedSimpArgs false
attribute [local go_sem] all_u8 all_u32 all_u64
def sandglassref16_ReadCommand.j0 : Nat → List ByteArray → Bool → Option (Int × Int × ByteArray × ByteArray × Int)
 | 0, _, _ => none
 | k + 1, x4, x32 => if x32 = true then (some (0, 0, (⟨#[]⟩ : ByteArray), (⟨#[]⟩ : ByteArray), 3)) else (if 0 < (x4.length : Int) then (if 0 < ((rdOf ByteArray.empty x4 0).size : Int) then (if 1 < (x4.length : Int) then (if 0 < ((rdOf ByteArray.empty x4 1).size : Int) then (if 2 < (x4.length : Int) then (if 3 < (x4.length : Int) then ((sandglassref16_CheckCommand.f (wrap64 (bt (rdOf ByteArray.empty x4 0) 0)) (wrap64 (bt (rdOf ByteArray.empty x4 1) 0)) (rdOf ByteArray.empty x4 2) (rdOf ByteArray.empty x4 3)).bind fun t267 => (if t267 = 0 then (some (wrap64 (bt (rdOf ByteArray.empty x4 0) 0), wrap64 (bt (rdOf ByteArray.empty x4 1) 0), rdOf ByteArray.empty x4 2, rdOf ByteArray.empty x4 3, 0)) else (some (0, 0, (⟨#[]⟩ : ByteArray), (⟨#[]⟩ : ByteArray), 3)))) else (none)) else (none)) else (none)) else (none)) else (none)) else (none))
def sandglassref16_ReadCommand.f (k : Nat) (a0 : ByteArray) : Option (Int × Int × ByteArray × ByteArray × Int) := (sandglassref16_Read.f k a0).bind fun bt256 => (if bt256.2 = 0 then (if (bt256.1.length : Int) = 4 then (if 0 < (bt256.1.length : Int) then (if ((rdOf ByteArray.empty bt256.1 0).size : Int) = 1 then (if 1 < (bt256.1.length : Int) then (sandglassref16_ReadCommand.j0 k bt256.1 (((rdOf ByteArray.empty bt256.1 1).size : Int) != 1)) else (none)) else (sandglassref16_ReadCommand.j0 k bt256.1 true)) else (none)) else (sandglassref16_ReadCommand.j0 k bt256.1 true)) else (sandglassref16_ReadCommand.j0 k bt256.1 true))
theorem sandglassref16_ReadCommand.mono_l : ∀ k, (∀ y0 y1, LeO (sandglassref16_ReadCommand.j0 k y0 y1) (sandglassref16_ReadCommand.j0 (k + 1) y0 y1))
 | 0 => fun _ _ r h => by simp [sandglassref16_ReadCommand.j0] at h
 | k + 1 => by
  have ih0 := sandglassref16_ReadCommand.mono_l k
  ·
   intro y0 y1
   unfold sandglassref16_ReadCommand.j0
   repeat' first
   | (with_reducible exact ih0 _ _)
   | (with_reducible exact sandglassref16_Read.mono _ _)
   | (with_reducible exact LeO.refl _)
   | (with_reducible exact LeO.none _)
   | (with_reducible refine LeO.ite ?_ ?_)
   | (with_reducible refine LeO.bind ?_ (fun _ => ?_))
   | exact ih0 _ _
   | exact sandglassref16_Read.mono _ _
   | exact LeO.none _
   | refine LeO.ite ?_ ?_
   | refine LeO.bind ?_ (fun _ => ?_)
theorem sandglassref16_ReadCommand.mono : ∀ a0 k, LeO (sandglassref16_ReadCommand.f k a0) (sandglassref16_ReadCommand.f (k + 1) a0) := by
 intro a0 k
 have ih0 := sandglassref16_ReadCommand.mono_l k
 unfold sandglassref16_ReadCommand.f
 repeat' first
   | (with_reducible exact ih0 _ _)
   | (with_reducible exact sandglassref16_Read.mono _ _)
   | (with_reducible exact LeO.refl _)
   | (with_reducible exact LeO.none _)
   | (with_reducible refine LeO.ite ?_ ?_)
   | (with_reducible refine LeO.bind ?_ (fun _ => ?_))
   | exact ih0 _ _
   | exact sandglassref16_Read.mono _ _
   | exact LeO.none _
   | refine LeO.ite ?_ ?_
   | refine LeO.bind ?_ (fun _ => ?_)
def sandglassref16_ReadCommand.T4 : Bool × List (List Nat × List Nat) := (true, [([], []), ([0], [0]), ([1], [1]), ([2], [2]), ([3], [3]), ([], []), ([5], [5]), ([6], [6]), ([7], [7]), ([8], [8]), ([], []), ([10], [10]), ([11], [11]), ([], []), ([13], [13]), ([14], [14]), ([4, 9, 12, 15], [4, 9, 12, 15]), ([], []), ([17, 16, 0, 1, 2, 3, 4, 5, 6, 7, 8, 9, 10, 11, 12, 13, 14, 15, 16, 17], [16, 17])])
def sandglassref16_ReadCommand.B4 : List Nat := [0, 1, 3, 7, 15, 0, 32, 96, 224, 480, 0, 1024, 3072, 0, 8192, 24576, 65535, 0, 262143]
theorem sandglassref16_ReadCommand.tab4 : rtab .any (opsOf Tryd.f35 4) = sandglassref16_ReadCommand.T4 := by kernel_rfl
theorem sandglassref16_ReadCommand.bits4 : waitsOk sandglassref16_ReadCommand.T4.2 sandglassref16_ReadCommand.B4 = true := by kernel_rfl
set_option maxHeartbeats 8000000 in
set_option maxRecDepth 100000 in
theorem sandglassref16_ReadCommand.calls (k : Nat) (a0 : ByteArray) (r1 : Int) (r2 : Int) (r3 : ByteArray) (r4 : ByteArray) (r5 : Int) (w : World) (h : sandglassref16_ReadCommand.f k a0 = some (r1, r2, r3, r4, r5)) :
  Calls Tryd.prog 35 #[.string a0] w fun e w' => e = .returned (.tuple #[.agg #[.int .i64 r1, .int .i64 r2, .string r3, .string r4], .int .i64 r5]) ∧ Below w.heap.size w w' := by
 have hu51 := Tryd.underlying51
 have HB := sqA (Below.refl w.heap.size w)
 have H : ((sandglassref16_Read.f k a0).bind fun bt256 => (if bt256.2 = 0 then (if (bt256.1.length : Int) = 4 then (if 0 < (bt256.1.length : Int) then (if ((rdOf ByteArray.empty bt256.1 0).size : Int) = 1 then (if 1 < (bt256.1.length : Int) then (sandglassref16_ReadCommand.j0 k bt256.1 (((rdOf ByteArray.empty bt256.1 1).size : Int) != 1)) else (none)) else (sandglassref16_ReadCommand.j0 k bt256.1 true)) else (none)) else (sandglassref16_ReadCommand.j0 k bt256.1 true)) else (sandglassref16_ReadCommand.j0 k bt256.1 true))) = some (r1, r2, r3, r4, r5) := h
 clear h
 replace H := Option.bind_eq_some_iff.mp H
 obtain ⟨⟨t256, t257⟩, A20, H⟩ := H
 replace H : (if t257 = 0 then (if (t256.length : Int) = 4 then (if 0 < (t256.length : Int) then (if ((rdOf ByteArray.empty t256 0).size : Int) = 1 then (if 1 < (t256.length : Int) then (sandglassref16_ReadCommand.j0 k t256 (((rdOf ByteArray.empty t256 1).size : Int) != 1)) else (none)) else (sandglassref16_ReadCommand.j0 k t256 true)) else (none)) else (sandglassref16_ReadCommand.j0 k t256 true)) else (sandglassref16_ReadCommand.j0 k t256 true)) = some (r1, r2, r3, r4, r5) := H
 have A2 := sqA A20
 clear A20
 have HC3 := sqA H
 clear H
 go_enter Tryd.func35, Tryd.ntmps35
 go_upto_region 2 with (first | ((with_reducible refine gate_dst (N := 2) rfl ?_); (try (refine gate_guard (by rfl) ?_; dsimp only)); refine sqo (N := 2) (cs := #[.int .i64 0, .int .i64 0, .string (⟨#[]⟩ : ByteArray), .string (⟨#[]⟩ : ByteArray)]) (t := 51) ?_; intro gb255 hg w4 hbox hb; have n0_ := sqA (below_step (sqb HB.out) hb); have n1_ := sqA (hbox); have n2_ := sqA ((by rw [hg]; exact (below_size (sqb HB.out)) : w.heap.size ≤ gb255)); have n3_ := sqA ((by rw [hg]; exact (below_size (sqb HB.out)) : w.heap.size ≤ gb255)); clear HB; have HB := n0_; have BK255 := n1_; have GW255 := n2_; have GE255 := n3_; clear n0_ n1_ n2_ n3_; clear hb hbox hg) | ((with_reducible refine gate_callee (f := 34) rfl ?_); refine goesL_ (some 9) rfl rfl Tryd.func34 (by kernel_rfl) rfl #[.string a0] rfl sqn ?_; (with_reducible refine (sandglassref16_Read.calls k a0 t256 t257 _ A2.out).mono ?_); rintro e w5 ⟨v258, rfl, ho0, hb⟩; refine ⟨_, rfl, ?_⟩; have n0_ := sqA (Kd.R_lower ho0 (below_size (sqs HB.out))); have n1_ := sqA (blk_below (g := gb255) (o := .cells #[.int .i64 0, .int .i64 0, .string (⟨#[]⟩ : ByteArray), .string (⟨#[]⟩ : ByteArray)] 51 (0, 0)) (sqk BK255.out) hb); have n2_ := sqA (below_step (sqs HB.out) hb); clear BK255; clear HB; have HO259 := n0_; have BK255 := n1_; have HB := n2_; clear n0_ n1_ n2_; (try clear hb); (try clear hb2); (try clear hk); (try clear hi); (try clear ho0)))
 (try simp only [Act.put, List.setIfInBounds_toArray, List.set_cons_zero, List.set_cons_succ])
 go_cut [32] (fun v32 wc => ∃ (kq : Nat) (x32_2 : Bool), v32 = .bool x32_2 ∧ Aside0 (sandglassref16_ReadCommand.j0 kq t256 x32_2 = some (r1, r2, r3, r4, r5)) ∧ Aside0 (kq ≤ k) ∧ Aside0 (Kd.R Kd.string 9 wc w.heap.size (fun _ => True) v258 t256) ∧ Aside0 (wc.heap[gb255]? = some (.cells #[.int .i64 0, .int .i64 0, .string (⟨#[]⟩ : ByteArray), .string (⟨#[]⟩ : ByteArray)] 51 (0, 0))) ∧ Aside0 (Below w.heap.size w wc))
 case first =>
  have H := HC3.out
  clear HC3
  by_cases c6 : t257 = 0
  ·
   rw [if_pos c6] at H
   have c6b0 : (t257 == 0) = true := beq_iff_eq.mpr c6
   have c6b1 : (t257 != 0) = false := bne_eq_false_iff_eq.mpr c6
   clear c6
   (first | rw [c6b0] | (simp only [i64_w, i32_w]; rw [c6b0]) | skip)
   by_cases c7 : (t256.length : Int) = 4
   ·
    rw [if_pos c7] at H
    have c7b0 : ((t256.length : Int) == 4) = true := beq_iff_eq.mpr c7
    have c7b1 : ((t256.length : Int) != 4) = false := bne_eq_false_iff_eq.mpr c7
    clear c7
    by_cases c8 : 0 < (t256.length : Int)
    ·
     rw [if_pos c8] at H
     have c8b0 : decide (0 < (t256.length : Int)) = true := decide_eq_true c8
     have c8b1 : decide (0 < t256.length) = true := decide_eq_true (by omega)
     clear c8
     by_cases c9 : ((rdOf ByteArray.empty t256 0).size : Int) = 1
     ·
      rw [if_pos c9] at H
      have c9b0 : (((rdOf ByteArray.empty t256 0).size : Int) == 1) = true := beq_iff_eq.mpr c9
      have c9b1 : (((rdOf ByteArray.empty t256 0).size : Int) != 1) = false := bne_eq_false_iff_eq.mpr c9
      clear c9
      by_cases c10 : 1 < (t256.length : Int)
      ·
       rw [if_pos c10] at H
       have c10b0 : decide (1 < (t256.length : Int)) = true := decide_eq_true c10
       have c10b1 : decide (1 < t256.length) = true := decide_eq_true (by omega)
       clear c10
       have H' := sqA H
       clear H
       obtain ⟨Ao11, co11, eo11⟩ := Kd.R_slice HO259.out
       subst eo11
       have p260 : 0 ≤ (0 : Int) := (by omega)
       have q260 : 0 < (t256.length : Int) := of_decide_eq_true sqa
       obtain ⟨ad260, e260, hx260_0⟩ := Kd.at_string (Kd.R_reads' HO259.out).2.2 0 p260 q260
       cases e260
       have qi260 : (0 < t256.length) = True := eq_true (by omega)
       (try rw [show ((0 : Int)).toNat = 0 from rfl] at hx260_0)
       (try rw [Addr.add_zero'] at hx260_0)
       replace p260 := eq_true p260
       replace q260 := eq_true q260
       have p261 : 0 ≤ (1 : Int) := (by omega)
       have q261 : 1 < (t256.length : Int) := of_decide_eq_true sqa
       obtain ⟨ad261, e261, hx261_0⟩ := Kd.at_string (Kd.R_reads' HO259.out).2.2 1 p261 q261
       obtain rfl : ad260 = ad261 := (by injection e261)
       (try simp only [show (1 : Int).toNat = 1 from rfl, Nat.reduceMul, Nat.reduceEqDiff, Go.Addr.add, ↓reduceIte] at hx261_0)
       have qi261 : (1 < t256.length) = True := eq_true (by omega)
       (try rw [show ((1 : Int)).toNat = 1 from rfl] at hx261_0)
       replace p261 := eq_true p261
       replace q261 := eq_true q261
       go_wp2
       go_meet
       case rel => exact ⟨_, ((((rdOf ByteArray.empty t256 1).size : Int) != 1)), sqd, H', ⟨by first | omega | exact Nat.le_refl _⟩, ⟨sqr HO259.out⟩, ⟨sqk BK255.out⟩, ⟨sqs HB.out⟩⟩
      ·
       rw [if_neg c10] at H
       exact absurd H (by simp)
     ·
      rw [if_neg c9] at H
      have c9b0 : (((rdOf ByteArray.empty t256 0).size : Int) == 1) = false := beq_eq_false_iff_ne.mpr c9
      have c9b1 : (((rdOf ByteArray.empty t256 0).size : Int) != 1) = true := bne_iff_ne.mpr c9
      have H' := sqA H
      clear H
      obtain ⟨Ao12, co12, eo12⟩ := Kd.R_slice HO259.out
      subst eo12
      have p260 : 0 ≤ (0 : Int) := (by omega)
      have q260 : 0 < (t256.length : Int) := of_decide_eq_true sqa
      obtain ⟨ad260, e260, hx260_0⟩ := Kd.at_string (Kd.R_reads' HO259.out).2.2 0 p260 q260
      cases e260
      have qi260 : (0 < t256.length) = True := eq_true (by omega)
      (try rw [show ((0 : Int)).toNat = 0 from rfl] at hx260_0)
      (try rw [Addr.add_zero'] at hx260_0)
      replace p260 := eq_true p260
      replace q260 := eq_true q260
      go_wp2
      go_meet
      case rel => exact ⟨_, (true), sqd, H', ⟨by first | omega | exact Nat.le_refl _⟩, ⟨sqr HO259.out⟩, ⟨sqk BK255.out⟩, ⟨sqs HB.out⟩⟩
    ·
     rw [if_neg c8] at H
     exact absurd H (by simp)
   ·
    rw [if_neg c7] at H
    have c7b0 : ((t256.length : Int) == 4) = false := beq_eq_false_iff_ne.mpr c7
    have c7b1 : ((t256.length : Int) != 4) = true := bne_iff_ne.mpr c7
    have H' := sqA H
    clear H
    obtain ⟨Ao13, co13, eo13⟩ := Kd.R_slice HO259.out
    subst eo13
    go_wp2
    go_meet
    case rel => exact ⟨_, (true), sqd, H', ⟨by first | omega | exact Nat.le_refl _⟩, ⟨sqr HO259.out⟩, ⟨sqk BK255.out⟩, ⟨sqs HB.out⟩⟩
  ·
   rw [if_neg c6] at H
   have c6b0 : (t257 == 0) = false := beq_eq_false_iff_ne.mpr c6
   have c6b1 : (t257 != 0) = true := bne_iff_ne.mpr c6
   (first | rw [c6b0] | (simp only [i64_w, i32_w]; rw [c6b0]) | skip)
   have H' := sqA H
   clear H
   go_wp2
   go_meet
   case rel => exact ⟨_, (true), sqd, H', ⟨by first | omega | exact Nat.le_refl _⟩, ⟨sqr HO259.out⟩, ⟨sqk BK255.out⟩, ⟨sqs HB.out⟩⟩
 case rest =>
  clear HC3
  try clear c1
  try clear p2
  try clear q2
  try clear hx2
  try clear qi2
  try clear c3
  try clear c6
  try clear c6b0
  try clear c6b1
  try clear c7
  try clear c7b0
  try clear c7b1
  try clear c8
  try clear c8b0
  try clear c8b1
  try clear c9
  try clear c9b0
  try clear c9b1
  try clear c10
  try clear c10b0
  try clear c10b1
  try clear hx260_0
  try clear hx261_0
  try clear p260
  try clear p261
  try clear q260
  try clear q261
  obtain ⟨kq, x32_2, rfl, HA, HJ2, HO_4, BK255, HB⟩ := hcut
  cases kq with
  | zero => exact absurd HA.out (by simp [sandglassref16_ReadCommand.j0])
  | succ kj2 =>
   have H := HA.out
   clear HA
   simp only [sandglassref16_ReadCommand.j0] at H
   by_cases c14 : x32_2 = true
   ·
    subst c14
    have H1 : (some (0, 0, (⟨#[]⟩ : ByteArray), (⟨#[]⟩ : ByteArray), 3)) = some (r1, r2, r3, r4, r5) := by rw [if_pos rfl] at H; exact H
    clear H
    have H := H1
    clear H1
    simp only [Option.some.injEq, Prod.mk.injEq] at H
    obtain ⟨rfl, rfl, rfl, rfl, rfl⟩ := H
    have hcz15_0 : wc.cell? ⟨gb255, 0, none⟩ = some (.int .i64 0) := (blk_cell BK255.out 0).trans rfl
    have hcz15_1 : wc.cell? ⟨gb255, 1, none⟩ = some (.int .i64 0) := (blk_cell BK255.out 1).trans rfl
    have hcz15_2 : wc.cell? ⟨gb255, 2, none⟩ = some (.string (⟨#[]⟩ : ByteArray)) := (blk_cell BK255.out 2).trans rfl
    have hcz15_3 : wc.cell? ⟨gb255, 3, none⟩ = some (.string (⟨#[]⟩ : ByteArray)) := (blk_cell BK255.out 3).trans rfl
    have hfz15_0 := blk_frozen BK255.out 0
    have hfz15_1 := blk_frozen BK255.out 1
    have hfz15_2 := blk_frozen BK255.out 2
    have hfz15_3 := blk_frozen BK255.out 3
    go_wp2
    refine bodyPost_ret (results_ct rfl _ _ gb255 51 #[.int .i64 0, .int .i64 0, .string (⟨#[]⟩ : ByteArray), .string (⟨#[]⟩ : ByteArray)] (0, 0) _ rfl (by (with_reducible repeat (first | refine blk_drewN ?_ _ | refine blk_drew ?_ | refine blk_alloc ?_ _)); refine blk_put (cs := #[.int .i64 0, .int .i64 0, .string (⟨#[]⟩ : ByteArray), .string (⟨#[]⟩ : ByteArray)]) ?_ 3 _ rfl; (with_reducible repeat (first | refine blk_drewN ?_ _ | refine blk_drew ?_ | refine blk_alloc ?_ _)); refine blk_put (cs := #[.int .i64 0, .int .i64 0, .string (⟨#[]⟩ : ByteArray), .string (⟨#[]⟩ : ByteArray)]) ?_ 2 _ rfl; (with_reducible repeat (first | refine blk_drewN ?_ _ | refine blk_drew ?_ | refine blk_alloc ?_ _)); refine blk_put (cs := #[.int .i64 0, .int .i64 0, .string (⟨#[]⟩ : ByteArray), .string (⟨#[]⟩ : ByteArray)]) ?_ 1 _ rfl; (with_reducible repeat (first | refine blk_drewN ?_ _ | refine blk_drew ?_ | refine blk_alloc ?_ _)); refine blk_put (cs := #[.int .i64 0, .int .i64 0, .string (⟨#[]⟩ : ByteArray), .string (⟨#[]⟩ : ByteArray)]) ?_ 0 _ rfl; (with_reducible repeat (first | refine blk_drewN ?_ _ | refine blk_drew ?_ | refine blk_alloc ?_ _)); exact BK255.out) Tryd.underlying51 rfl (by kernel_rfl)) rfl ?_
    exact ⟨sqe, sqs HB.out⟩
   ·
    replace c14 := Bool.eq_false_iff.mpr c14
    subst c14
    have H1 : (if 0 < (t256.length : Int) then (if 0 < ((rdOf ByteArray.empty t256 0).size : Int) then (if 1 < (t256.length : Int) then (if 0 < ((rdOf ByteArray.empty t256 1).size : Int) then (if 2 < (t256.length : Int) then (if 3 < (t256.length : Int) then ((sandglassref16_CheckCommand.f (wrap64 (bt (rdOf ByteArray.empty t256 0) 0)) (wrap64 (bt (rdOf ByteArray.empty t256 1) 0)) (rdOf ByteArray.empty t256 2) (rdOf ByteArray.empty t256 3)).bind fun t267 => (if t267 = 0 then (some (wrap64 (bt (rdOf ByteArray.empty t256 0) 0), wrap64 (bt (rdOf ByteArray.empty t256 1) 0), rdOf ByteArray.empty t256 2, rdOf ByteArray.empty t256 3, 0)) else (some (0, 0, (⟨#[]⟩ : ByteArray), (⟨#[]⟩ : ByteArray), 3)))) else (none)) else (none)) else (none)) else (none)) else (none)) else (none)) = some (r1, r2, r3, r4, r5) := by rw [if_neg (show ¬ (false = true) by decide)] at H; exact H
    clear H
    have H := H1
    clear H1
    by_cases c16 : 0 < (t256.length : Int)
    ·
     rw [if_pos c16] at H
     have c16b0 : decide (0 < (t256.length : Int)) = true := decide_eq_true c16
     have c16b1 : decide (0 < t256.length) = true := decide_eq_true (by omega)
     clear c16
     by_cases c17 : 0 < ((rdOf ByteArray.empty t256 0).size : Int)
     ·
      rw [if_pos c17] at H
      have c17b0 : decide (0 < ((rdOf ByteArray.empty t256 0).size : Int)) = true := decide_eq_true c17
      have c17b1 : decide (0 < (rdOf ByteArray.empty t256 0).size) = true := decide_eq_true (by omega)
      clear c17
      by_cases c19 : 1 < (t256.length : Int)
      ·
       rw [if_pos c19] at H
       have c19b0 : decide (1 < (t256.length : Int)) = true := decide_eq_true c19
       have c19b1 : decide (1 < t256.length) = true := decide_eq_true (by omega)
       clear c19
       by_cases c20 : 0 < ((rdOf ByteArray.empty t256 1).size : Int)
       ·
        rw [if_pos c20] at H
        have c20b0 : decide (0 < ((rdOf ByteArray.empty t256 1).size : Int)) = true := decide_eq_true c20
        have c20b1 : decide (0 < (rdOf ByteArray.empty t256 1).size) = true := decide_eq_true (by omega)
        clear c20
        by_cases c22 : 2 < (t256.length : Int)
        ·
         rw [if_pos c22] at H
         have c22b0 : decide (2 < (t256.length : Int)) = true := decide_eq_true c22
         have c22b1 : decide (2 < t256.length) = true := decide_eq_true (by omega)
         clear c22
         by_cases c23 : 3 < (t256.length : Int)
         ·
          rw [if_pos c23] at H
          have c23b0 : decide (3 < (t256.length : Int)) = true := decide_eq_true c23
          have c23b1 : decide (3 < t256.length) = true := decide_eq_true (by omega)
          clear c23
          replace H := Option.bind_eq_some_iff.mp H
          obtain ⟨t267, A240, H⟩ := H
          replace H : (if t267 = 0 then (some (wrap64 (bt (rdOf ByteArray.empty t256 0) 0), wrap64 (bt (rdOf ByteArray.empty t256 1) 0), rdOf ByteArray.empty t256 2, rdOf ByteArray.empty t256 3, 0)) else (some (0, 0, (⟨#[]⟩ : ByteArray), (⟨#[]⟩ : ByteArray), 3))) = some (r1, r2, r3, r4, r5) := H
          have A24 := sqA A240
          clear A240
          by_cases c25 : t267 = 0
          ·
           rw [if_pos c25] at H
           have c25b0 : (t267 == 0) = true := beq_iff_eq.mpr c25
           have c25b1 : (t267 != 0) = false := bne_eq_false_iff_eq.mpr c25
           clear c25
           simp only [Option.some.injEq, Prod.mk.injEq] at H
           obtain ⟨rfl, rfl, rfl, rfl, rfl⟩ := H
           try go_wp2
           have n0_ := sqA (Kd.R_drew HO_4.out)
           have n1_ := sqA (blk_drew BK255.out)
           have n2_ := sqA (below_drew1 HB.out)
           clear HO_4
           clear BK255
           clear HB
           have HO_4 := n0_
           have BK255 := n1_
           have HB := n2_
           clear n0_ n1_ n2_
           obtain ⟨Ao27, co27, eo27⟩ := Kd.R_slice HO_4.out
           (first | subst eo27 | (injection eo27 with f1_ f2_ f3_; have f4_ := f1_.symm; have f5_ := f3_.symm; clear f1_ f2_ f3_; subst f4_; subst f5_))
           have p262 : 0 ≤ (0 : Int) := (by omega)
           have q262 : 0 < (t256.length : Int) := of_decide_eq_true sqa
           obtain ⟨ad262, e262, hx262_0⟩ := Kd.at_string (Kd.R_reads' HO_4.out).2.2 0 p262 q262
           cases e262
           have qi262 : (0 < t256.length) = True := eq_true (by omega)
           (try rw [show ((0 : Int)).toNat = 0 from rfl] at hx262_0)
           (try rw [Addr.add_zero'] at hx262_0)
           replace p262 := eq_true p262
           replace q262 := eq_true q262
           have p18 : 0 ≤ (0 : Int) := (by omega)
           have q18 : 0 < (rdOf ByteArray.empty t256 0).size := (by have : (0 : Int) < ((rdOf ByteArray.empty t256 0).size : Int) := of_decide_eq_true sqa; omega)
           have hx18 : ∀ h : 0 < (rdOf ByteArray.empty t256 0).size, (((rdOf ByteArray.empty t256 0)[0]'h).toNat : Int) = bt (rdOf ByteArray.empty t256 0) 0 := bt_at (rdOf ByteArray.empty t256 0) 0
           clear p18
           have qi18 : (0 < ((rdOf ByteArray.empty t256 0).size : Int)) = True := eq_true (of_decide_eq_true sqa)
           replace q18 := eq_true q18
           have p263 : 0 ≤ (1 : Int) := (by omega)
           have q263 : 1 < (t256.length : Int) := of_decide_eq_true sqa
           obtain ⟨ad263, e263, hx263_0⟩ := Kd.at_string (Kd.R_reads' HO_4.out).2.2 1 p263 q263
           obtain rfl : ad262 = ad263 := (by injection e263)
           (try simp only [show (1 : Int).toNat = 1 from rfl, Nat.reduceMul, Nat.reduceEqDiff, Go.Addr.add, ↓reduceIte] at hx263_0)
           have qi263 : (1 < t256.length) = True := eq_true (by omega)
           (try rw [show ((1 : Int)).toNat = 1 from rfl] at hx263_0)
           replace p263 := eq_true p263
           replace q263 := eq_true q263
           have p21 : 0 ≤ (0 : Int) := (by omega)
           have q21 : 0 < (rdOf ByteArray.empty t256 1).size := (by have : (0 : Int) < ((rdOf ByteArray.empty t256 1).size : Int) := of_decide_eq_true sqa; omega)
           have hx21 : ∀ h : 0 < (rdOf ByteArray.empty t256 1).size, (((rdOf ByteArray.empty t256 1)[0]'h).toNat : Int) = bt (rdOf ByteArray.empty t256 1) 0 := bt_at (rdOf ByteArray.empty t256 1) 0
           clear p21
           have qi21 : (0 < ((rdOf ByteArray.empty t256 1).size : Int)) = True := eq_true (of_decide_eq_true sqa)
           replace q21 := eq_true q21
           have p264 : 0 ≤ (2 : Int) := (by omega)
           have q264 : 2 < (t256.length : Int) := of_decide_eq_true sqa
           obtain ⟨ad264, e264, hx264_0⟩ := Kd.at_string (Kd.R_reads' HO_4.out).2.2 2 p264 q264
           obtain rfl : ad262 = ad264 := (by injection e264)
           (try simp only [show (2 : Int).toNat = 2 from rfl, Nat.reduceMul, Nat.reduceEqDiff, Go.Addr.add, ↓reduceIte] at hx264_0)
           have qi264 : (2 < t256.length) = True := eq_true (by omega)
           (try rw [show ((2 : Int)).toNat = 2 from rfl] at hx264_0)
           replace p264 := eq_true p264
           replace q264 := eq_true q264
           have p265 : 0 ≤ (3 : Int) := (by omega)
           have q265 : 3 < (t256.length : Int) := of_decide_eq_true sqa
           obtain ⟨ad265, e265, hx265_0⟩ := Kd.at_string (Kd.R_reads' HO_4.out).2.2 3 p265 q265
           obtain rfl : ad262 = ad265 := (by injection e265)
           (try simp only [show (3 : Int).toNat = 3 from rfl, Nat.reduceMul, Nat.reduceEqDiff, Go.Addr.add, ↓reduceIte] at hx265_0)
           have qi265 : (3 < t256.length) = True := eq_true (by omega)
           (try rw [show ((3 : Int)).toNat = 3 from rfl] at hx265_0)
           replace p265 := eq_true p265
           replace q265 := eq_true q265
           refine start_ (n := 19) (S := fun w' => w'.cell? ad262 = some (.string (rdOf ByteArray.empty t256 0)) ∧ w'.cell? ⟨ad262.block, ad262.off + 1, none⟩ = some (.string (rdOf ByteArray.empty t256 1)) ∧ w'.cell? ⟨ad262.block, ad262.off + 2, none⟩ = some (.string (rdOf ByteArray.empty t256 2)) ∧ w'.cell? ⟨ad262.block, ad262.off + 3, none⟩ = some (.string (rdOf ByteArray.empty t256 3))) (ds := []) #[false, false, false, false, false, false, false, false, false, false, false, false, false, false, false, false, false, false, false] (by kernel_rfl) rfl rfl ⟨hx262_0, hx263_0, hx264_0, hx265_0⟩ (fun hHeld => ?_); refine with_tabW sandglassref16_ReadCommand.tab4 sandglassref16_ReadCommand.bits4 (fun HT_ HW_ => ?_)
           generalize wc.drew = w26 at HO_4 BK255 HB hx262_0 hx263_0 hx264_0 hx265_0 hHeld ⊢
           refine pure_ (i := 0) (N := some 34) (v := ?_) (a' := ?_) #[true, false, false, false, false, false, false, false, false, false, false, false, false, false, false, false, false, false, false] rfl rfl (any_of HT_.out (by kernel_rfl)) (fun _ _ _ h => h) (Or.inl ⟨by rfl, ?_⟩) ?_ ?_
           rotate_left
           ·
            intro w'
            go_simp
            with_reducible rfl
           rotate_left
           ·
            simp only [Act.put, List.setIfInBounds_toArray, List.set_cons_zero, List.set_cons_succ, i64_w, i32_w]
            rfl
           refine pure_ (i := 1) (N := some 35) (v := ?_) (a' := ?_) #[true, true, false, false, false, false, false, false, false, false, false, false, false, false, false, false, false, false, false] rfl rfl (any_of HT_.out (by kernel_rfl)) (fun _ _ _ h => h) (Or.inl ⟨by rfl, ?_⟩) ?_ ?_
           rotate_left
           ·
            intro w'
            go_simp
            with_reducible rfl
           rotate_left
           ·
            simp only [Act.put, List.setIfInBounds_toArray, List.set_cons_zero, List.set_cons_succ, i64_w, i32_w]
            rfl
           refine pure_ (i := 5) (N := some 39) (v := ?_) (a' := ?_) #[true, true, false, false, false, true, false, false, false, false, false, false, false, false, false, false, false, false, false] rfl rfl (any_of HT_.out (by kernel_rfl)) (fun _ _ _ h => h) (Or.inl ⟨by rfl, ?_⟩) ?_ ?_
           rotate_left
           ·
            intro w'
            go_simp
            with_reducible rfl
           rotate_left
           ·
            simp only [Act.put, List.setIfInBounds_toArray, List.set_cons_zero, List.set_cons_succ, i64_w, i32_w]
            rfl
           refine pure_ (i := 6) (N := some 40) (v := ?_) (a' := ?_) #[true, true, false, false, false, true, true, false, false, false, false, false, false, false, false, false, false, false, false] rfl rfl (any_of HT_.out (by kernel_rfl)) (fun _ _ _ h => h) (Or.inl ⟨by rfl, ?_⟩) ?_ ?_
           rotate_left
           ·
            intro w'
            go_simp
            with_reducible rfl
           rotate_left
           ·
            simp only [Act.put, List.setIfInBounds_toArray, List.set_cons_zero, List.set_cons_succ, i64_w, i32_w]
            rfl
           refine pure_ (i := 10) (N := some 44) (v := ?_) (a' := ?_) #[true, true, false, false, false, true, true, false, false, false, true, false, false, false, false, false, false, false, false] rfl rfl (any_of HT_.out (by kernel_rfl)) (fun _ _ _ h => h) (Or.inl ⟨by rfl, ?_⟩) ?_ ?_
           rotate_left
           ·
            intro w'
            go_simp
            with_reducible rfl
           rotate_left
           ·
            simp only [Act.put, List.setIfInBounds_toArray, List.set_cons_zero, List.set_cons_succ, i64_w, i32_w]
            rfl
           refine pure_ (i := 11) (N := some 45) (v := ?_) (a' := ?_) #[true, true, false, false, false, true, true, false, false, false, true, true, false, false, false, false, false, false, false] rfl rfl (any_of HT_.out (by kernel_rfl)) (fun _ _ _ h => h) (Or.inl ⟨by rfl, ?_⟩) ?_ ?_
           rotate_left
           ·
            intro w'
            go_simp
            with_reducible rfl
           rotate_left
           ·
            simp only [Act.put, List.setIfInBounds_toArray, List.set_cons_zero, List.set_cons_succ, i64_w, i32_w]
            rfl
           refine pure_ (i := 13) (N := some 47) (v := ?_) (a' := ?_) #[true, true, false, false, false, true, true, false, false, false, true, true, false, true, false, false, false, false, false] rfl rfl (any_of HT_.out (by kernel_rfl)) (fun _ _ _ h => h) (Or.inl ⟨by rfl, ?_⟩) ?_ ?_
           rotate_left
           ·
            intro w'
            go_simp
            with_reducible rfl
           rotate_left
           ·
            simp only [Act.put, List.setIfInBounds_toArray, List.set_cons_zero, List.set_cons_succ, i64_w, i32_w]
            rfl
           refine pure_ (i := 14) (N := some 48) (v := ?_) (a' := ?_) #[true, true, false, false, false, true, true, false, false, false, true, true, false, true, true, false, false, false, false] rfl rfl (any_of HT_.out (by kernel_rfl)) (fun _ _ _ h => h) (Or.inl ⟨by rfl, ?_⟩) ?_ ?_
           rotate_left
           ·
            intro w'
            go_simp
            with_reducible rfl
           rotate_left
           ·
            simp only [Act.put, List.setIfInBounds_toArray, List.set_cons_zero, List.set_cons_succ, i64_w, i32_w]
            rfl
           refine take_ (i := 2) (N := some 36) (v := ?_) (a' := ?_) #[true, true, true, false, false, true, true, false, false, false, true, true, false, true, true, false, false, false, false] rfl rfl (take_ofW HT_.out HW_.out (by kernel_rfl)) (fun _ _ _ h => h) (Or.inl ⟨by rfl, ?_⟩) hHeld ?_ ?_
           rotate_left
           ·
            rintro w' ⟨s0, s1, s2, s3⟩
            go_simp
            with_reducible rfl
           rotate_left
           ·
            simp only [Act.put, List.setIfInBounds_toArray, List.set_cons_zero, List.set_cons_succ, i64_w, i32_w]
            rfl
           refine take_ (i := 3) (N := some 37) (v := ?_) (a' := ?_) #[true, true, true, true, false, true, true, false, false, false, true, true, false, true, true, false, false, false, false] rfl rfl (take_ofW HT_.out HW_.out (by kernel_rfl)) (fun _ _ _ h => h) (Or.inl ⟨by rfl, ?_⟩) hHeld ?_ ?_
           rotate_left
           ·
            rintro w' ⟨s0, s1, s2, s3⟩
            go_simp
            with_reducible rfl
           rotate_left
           ·
            simp only [Act.put, List.setIfInBounds_toArray, List.set_cons_zero, List.set_cons_succ, i64_w, i32_w]
            rfl
           refine pure_ (i := 4) (N := some 38) (v := ?_) (a' := ?_) #[true, true, true, true, true, true, true, false, false, false, true, true, false, true, true, false, false, false, false] rfl rfl (any_of HT_.out (by kernel_rfl)) (fun _ _ _ h => h) (Or.inl ⟨by rfl, ?_⟩) ?_ ?_
           rotate_left
           ·
            intro w'
            go_simp
            with_reducible rfl
           rotate_left
           ·
            simp only [Act.put, List.setIfInBounds_toArray, List.set_cons_zero, List.set_cons_succ, i64_w, i32_w]
            rfl
           refine take_ (i := 7) (N := some 41) (v := ?_) (a' := ?_) #[true, true, true, true, true, true, true, true, false, false, true, true, false, true, true, false, false, false, false] rfl rfl (take_ofW HT_.out HW_.out (by kernel_rfl)) (fun _ _ _ h => h) (Or.inl ⟨by rfl, ?_⟩) hHeld ?_ ?_
           rotate_left
           ·
            rintro w' ⟨s0, s1, s2, s3⟩
            go_simp
            with_reducible rfl
           rotate_left
           ·
            simp only [Act.put, List.setIfInBounds_toArray, List.set_cons_zero, List.set_cons_succ, i64_w, i32_w]
            rfl
           refine take_ (i := 8) (N := some 42) (v := ?_) (a' := ?_) #[true, true, true, true, true, true, true, true, true, false, true, true, false, true, true, false, false, false, false] rfl rfl (take_ofW HT_.out HW_.out (by kernel_rfl)) (fun _ _ _ h => h) (Or.inl ⟨by rfl, ?_⟩) hHeld ?_ ?_
           rotate_left
           ·
            rintro w' ⟨s0, s1, s2, s3⟩
            go_simp
            with_reducible rfl
           rotate_left
           ·
            simp only [Act.put, List.setIfInBounds_toArray, List.set_cons_zero, List.set_cons_succ, i64_w, i32_w]
            rfl
           refine pure_ (i := 9) (N := some 43) (v := ?_) (a' := ?_) #[true, true, true, true, true, true, true, true, true, true, true, true, false, true, true, false, false, false, false] rfl rfl (any_of HT_.out (by kernel_rfl)) (fun _ _ _ h => h) (Or.inl ⟨by rfl, ?_⟩) ?_ ?_
           rotate_left
           ·
            intro w'
            go_simp
            with_reducible rfl
           rotate_left
           ·
            simp only [Act.put, List.setIfInBounds_toArray, List.set_cons_zero, List.set_cons_succ, i64_w, i32_w]
            rfl
           refine take_ (i := 12) (N := some 46) (v := ?_) (a' := ?_) #[true, true, true, true, true, true, true, true, true, true, true, true, true, true, true, false, false, false, false] rfl rfl (take_ofW HT_.out HW_.out (by kernel_rfl)) (fun _ _ _ h => h) (Or.inl ⟨by rfl, ?_⟩) hHeld ?_ ?_
           rotate_left
           ·
            rintro w' ⟨s0, s1, s2, s3⟩
            go_simp
            with_reducible rfl
           rotate_left
           ·
            simp only [Act.put, List.setIfInBounds_toArray, List.set_cons_zero, List.set_cons_succ, i64_w, i32_w]
            rfl
           refine take_ (i := 15) (N := some 49) (v := ?_) (a' := ?_) #[true, true, true, true, true, true, true, true, true, true, true, true, true, true, true, true, false, false, false] rfl rfl (take_ofW HT_.out HW_.out (by kernel_rfl)) (fun _ _ _ h => h) (Or.inl ⟨by rfl, ?_⟩) hHeld ?_ ?_
           rotate_left
           ·
            rintro w' ⟨s0, s1, s2, s3⟩
            go_simp
            with_reducible rfl
           rotate_left
           ·
            simp only [Act.put, List.setIfInBounds_toArray, List.set_cons_zero, List.set_cons_succ, i64_w, i32_w]
            rfl
           refine pure_ (i := 16) (N := some 50) (v := ?_) (a' := ?_) #[true, true, true, true, true, true, true, true, true, true, true, true, true, true, true, true, true, false, false] rfl rfl (any_of HT_.out (by kernel_rfl)) (fun _ _ _ h => h) (Or.inl ⟨by rfl, ?_⟩) ?_ ?_
           rotate_left
           ·
            intro w'
            go_simp
            with_reducible rfl
           rotate_left
           ·
            simp only [Act.put, List.setIfInBounds_toArray, List.set_cons_zero, List.set_cons_succ, i64_w, i32_w]
            rfl
           refine one_ (i := 17) (N := some 6) #[true, true, true, true, true, true, true, true, true, true, true, true, true, true, true, true, true, true, false] rfl rfl (one_of HT_.out (by kernel_rfl)) (by decide) (fun K hK => ?_)
           refine box_step ?hg (N := 6) ?hd (cs := #[.int .i64 0, .int .i64 0, .string (⟨#[]⟩ : ByteArray), .string (⟨#[]⟩ : ByteArray)]) (t := 51) ?hr ?_; (case hd => rfl); (case hg => rfl); (case hr => first | (go_simp; done) | (go_simp; rfl))
           intro gb266 hg w28 hbox hb
           have HS0_ := (hb.cell (World.block_lt_of_cell? _ _ (hHeld.1))).trans (hHeld.1)
           have HS1_ := (hb.cell (World.block_lt_of_cell? _ _ (hHeld.2.1))).trans (hHeld.2.1)
           have HS2_ := (hb.cell (World.block_lt_of_cell? _ _ (hHeld.2.2.1))).trans (hHeld.2.2.1)
           have HS3_ := (hb.cell (World.block_lt_of_cell? _ _ (hHeld.2.2.2))).trans (hHeld.2.2.2)
           have n0_ := sqA (Kd.R_below (sqr HO_4.out) hb)
           have n1_ := sqA (blk_below (g := gb255) (o := .cells #[.int .i64 0, .int .i64 0, .string (⟨#[]⟩ : ByteArray), .string (⟨#[]⟩ : ByteArray)] 51 (0, 0)) (sqk BK255.out) hb)
           have n2_ := sqA (below_step (sqs HB.out) hb)
           have n3_ := sqA (hbox)
           have n4_ := sqA ((by rw [hg]; exact (below_size (sqs HB.out)) : w.heap.size ≤ gb266))
           have n5_ := sqA ((by rw [hg]; exact (below_size (sqs HB.out)) : w.heap.size ≤ gb266))
           have n6_ := sqA ((by rw [hg]; exact Nat.ne_of_lt (blk_lt (g := gb255) (o := .cells #[.int .i64 0, .int .i64 0, .string (⟨#[]⟩ : ByteArray), .string (⟨#[]⟩ : ByteArray)] 51 (0, 0)) (sqk BK255.out)) : gb255 ≠ gb266))
           have n7_ := sqA ((by rw [hg]; exact Nat.ne_of_gt (blk_lt (g := gb255) (o := .cells #[.int .i64 0, .int .i64 0, .string (⟨#[]⟩ : ByteArray), .string (⟨#[]⟩ : ByteArray)] 51 (0, 0)) (sqk BK255.out)) : gb266 ≠ gb255))
           clear HO_4
           clear BK255
           clear HB
           have HO_4 := n0_
           have BK255 := n1_
           have HB := n2_
           have BK266 := n3_
           have GW266 := n4_
           have GE266 := n5_
           have NB255_266 := n6_
           have NB266_255 := n7_
           clear n0_ n1_ n2_ n3_ n4_ n5_ n6_ n7_
           clear hb hbox hg
           refine hK.out _ _ ⟨HS0_, HS1_, HS2_, HS3_⟩ (fun hHeld => ?_)
           clear hK K
           refine norm_ (a' := ?_) ?_ ?_
           rotate_left
           ·
            show Act.put _ (some 6) _ = _
            simp only [Act.put, List.setIfInBounds_toArray, List.set_cons_zero, List.set_cons_succ, i64_w, i32_w]
            rfl
           refine one_ (i := 18) (N := none) #[true, true, true, true, true, true, true, true, true, true, true, true, true, true, true, true, true, true, true] rfl rfl (one_of HT_.out (by kernel_rfl)) (by decide) (fun K hK => ?_)
           have hs29 : w28.cell? ⟨gb266, 0, none⟩ = some (.int .i64 0) := (blk_cell BK266.out 0).trans rfl
           have hfs29 := blk_frozen BK266.out 0
           have hns29_0 := NB255_266.out
           have hms29_0 := NB266_255.out
           have hs30 : w28.cell? ⟨gb266, 1, none⟩ = some (.int .i64 0) := (blk_cell BK266.out 1).trans rfl
           have hfs30 := blk_frozen BK266.out 1
           have hns30_0 := NB255_266.out
           have hms30_0 := NB266_255.out
           have hs31 : w28.cell? ⟨gb266, 2, none⟩ = some (.string (⟨#[]⟩ : ByteArray)) := (blk_cell BK266.out 2).trans rfl
           have hfs31 := blk_frozen BK266.out 2
           have hns31_0 := NB255_266.out
           have hms31_0 := NB266_255.out
           have hs32 : w28.cell? ⟨gb266, 3, none⟩ = some (.string (⟨#[]⟩ : ByteArray)) := (blk_cell BK266.out 3).trans rfl
           have hfs32 := blk_frozen BK266.out 3
           have hns32_0 := NB255_266.out
           have hms32_0 := NB266_255.out
           refine skip_ (w1 := ?_) (by rfl) rfl ?_ ?_
           rotate_left
           ·
            go_simp
            rfl
           refine hK.out _ _ ⟨((cell_far (p := ⟨gb266, _, none⟩) (sqf (Kd.own_blk (Kd.R_ne HO_4.out BK266.out (by decide)))) _).trans (((cell_far (p := ⟨gb266, _, none⟩) (sqf (Kd.own_blk (Kd.R_ne HO_4.out BK266.out (by decide)))) _).trans (((cell_far (p := ⟨gb266, _, none⟩) (sqf (Kd.own_blk (Kd.R_ne HO_4.out BK266.out (by decide)))) _).trans (((cell_far (p := ⟨gb266, _, none⟩) (sqf (Kd.own_blk (Kd.R_ne HO_4.out BK266.out (by decide)))) _).trans (hHeld.1)))))))), ((cell_far (p := ⟨gb266, _, none⟩) (sqf (Kd.own_blk (Kd.R_ne HO_4.out BK266.out (by decide)))) _).trans (((cell_far (p := ⟨gb266, _, none⟩) (sqf (Kd.own_blk (Kd.R_ne HO_4.out BK266.out (by decide)))) _).trans (((cell_far (p := ⟨gb266, _, none⟩) (sqf (Kd.own_blk (Kd.R_ne HO_4.out BK266.out (by decide)))) _).trans (((cell_far (p := ⟨gb266, _, none⟩) (sqf (Kd.own_blk (Kd.R_ne HO_4.out BK266.out (by decide)))) _).trans (hHeld.2.1)))))))), ((cell_far (p := ⟨gb266, _, none⟩) (sqf (Kd.own_blk (Kd.R_ne HO_4.out BK266.out (by decide)))) _).trans (((cell_far (p := ⟨gb266, _, none⟩) (sqf (Kd.own_blk (Kd.R_ne HO_4.out BK266.out (by decide)))) _).trans (((cell_far (p := ⟨gb266, _, none⟩) (sqf (Kd.own_blk (Kd.R_ne HO_4.out BK266.out (by decide)))) _).trans (((cell_far (p := ⟨gb266, _, none⟩) (sqf (Kd.own_blk (Kd.R_ne HO_4.out BK266.out (by decide)))) _).trans (hHeld.2.2.1)))))))), ((cell_far (p := ⟨gb266, _, none⟩) (sqf (Kd.own_blk (Kd.R_ne HO_4.out BK266.out (by decide)))) _).trans (((cell_far (p := ⟨gb266, _, none⟩) (sqf (Kd.own_blk (Kd.R_ne HO_4.out BK266.out (by decide)))) _).trans (((cell_far (p := ⟨gb266, _, none⟩) (sqf (Kd.own_blk (Kd.R_ne HO_4.out BK266.out (by decide)))) _).trans (((cell_far (p := ⟨gb266, _, none⟩) (sqf (Kd.own_blk (Kd.R_ne HO_4.out BK266.out (by decide)))) _).trans (hHeld.2.2.2))))))))⟩ (fun hHeld => ?_)
           clear hK K
           refine done_ (done_of HT_.out (by kernel_rfl)) ?_
           have hnb33 := NB266_255.out
           have hnc33 := NB255_266.out
           have hcz34_0 : w28.cell? ⟨gb266, 0, none⟩ = some (.int .i64 0) := (blk_cell BK266.out 0).trans rfl
           have hcz34_1 : w28.cell? ⟨gb266, 1, none⟩ = some (.int .i64 0) := (blk_cell BK266.out 1).trans rfl
           have hcz34_2 : w28.cell? ⟨gb266, 2, none⟩ = some (.string (⟨#[]⟩ : ByteArray)) := (blk_cell BK266.out 2).trans rfl
           have hcz34_3 : w28.cell? ⟨gb266, 3, none⟩ = some (.string (⟨#[]⟩ : ByteArray)) := (blk_cell BK266.out 3).trans rfl
           have hfz34_0 := blk_frozen BK266.out 0
           have hfz34_1 := blk_frozen BK266.out 1
           have hfz34_2 := blk_frozen BK266.out 2
           have hfz34_3 := blk_frozen BK266.out 3
           try go_wp2_with (first | ((with_reducible refine gate_callee (f := 45) rfl ?_); refine goesL_ (some 52) rfl rfl Tryd.func45 (by kernel_rfl) rfl #[.agg #[.int .i64 (wrap64 (bt (rdOf ByteArray.empty t256 0) 0)), .int .i64 (wrap64 (bt (rdOf ByteArray.empty t256 1) 0)), .string (rdOf ByteArray.empty t256 2), .string (rdOf ByteArray.empty t256 3)]] rfl sqn ?_; (with_reducible refine (sandglassref16_CheckCommand.calls (wrap64 (bt (rdOf ByteArray.empty t256 0) 0)) (wrap64 (bt (rdOf ByteArray.empty t256 1) 0)) (rdOf ByteArray.empty t256 2) (rdOf ByteArray.empty t256 3) t267 _ A24.out).mono ?_); rintro e w35 ⟨rfl, hb⟩; refine ⟨_, rfl, ?_⟩; have n0_ := sqA (Kd.R_below (sqr (Kd.R_mono (Kd.R_far (p := ⟨gb266, 3, none⟩) (Kd.R_far (p := ⟨gb266, 2, none⟩) (Kd.R_far (p := ⟨gb266, 1, none⟩) (Kd.R_far (p := ⟨gb266, 0, none⟩) (Kd.R_types HO_4.out BK266.out (by decide)) (fun _ hk => hk.2) (.int .i64 (wrap64 (bt (rdOf ByteArray.empty t256 0) 0)))) (fun _ hk => hk.2) (.int .i64 (wrap64 (bt (rdOf ByteArray.empty t256 1) 0)))) (fun _ hk => hk.2) (.string (rdOf ByteArray.empty t256 2))) (fun _ hk => hk.2) (.string (rdOf ByteArray.empty t256 3))) (fun _ h_ => h_.1))) hb); have n1_ := sqA (blk_below (g := gb255) (o := .cells #[.int .i64 0, .int .i64 0, .string (⟨#[]⟩ : ByteArray), .string (⟨#[]⟩ : ByteArray)] 51 (0, 0)) (by (with_reducible repeat (first | refine blk_drewN ?_ _ | refine blk_drew ?_ | refine blk_alloc ?_ _)); refine blk_far ?_ NB255_266.out _; (with_reducible repeat (first | refine blk_drewN ?_ _ | refine blk_drew ?_ | refine blk_alloc ?_ _)); refine blk_far ?_ NB255_266.out _; (with_reducible repeat (first | refine blk_drewN ?_ _ | refine blk_drew ?_ | refine blk_alloc ?_ _)); refine blk_far ?_ NB255_266.out _; (with_reducible repeat (first | refine blk_drewN ?_ _ | refine blk_drew ?_ | refine blk_alloc ?_ _)); refine blk_far ?_ NB255_266.out _; (with_reducible repeat (first | refine blk_drewN ?_ _ | refine blk_drew ?_ | refine blk_alloc ?_ _)); exact BK255.out) hb); have n2_ := sqA (blk_below (g := gb266) (o := .cells #[.int .i64 (wrap64 (bt (rdOf ByteArray.empty t256 0) 0)), .int .i64 (wrap64 (bt (rdOf ByteArray.empty t256 1) 0)), .string (rdOf ByteArray.empty t256 2), .string (rdOf ByteArray.empty t256 3)] 51 (0, 0)) (by (with_reducible repeat (first | refine blk_drewN ?_ _ | refine blk_drew ?_ | refine blk_alloc ?_ _)); refine blk_put (cs := #[.int .i64 (wrap64 (bt (rdOf ByteArray.empty t256 0) 0)), .int .i64 (wrap64 (bt (rdOf ByteArray.empty t256 1) 0)), .string (rdOf ByteArray.empty t256 2), .string (⟨#[]⟩ : ByteArray)]) ?_ 3 _ rfl; (with_reducible repeat (first | refine blk_drewN ?_ _ | refine blk_drew ?_ | refine blk_alloc ?_ _)); refine blk_put (cs := #[.int .i64 (wrap64 (bt (rdOf ByteArray.empty t256 0) 0)), .int .i64 (wrap64 (bt (rdOf ByteArray.empty t256 1) 0)), .string (⟨#[]⟩ : ByteArray), .string (⟨#[]⟩ : ByteArray)]) ?_ 2 _ rfl; (with_reducible repeat (first | refine blk_drewN ?_ _ | refine blk_drew ?_ | refine blk_alloc ?_ _)); refine blk_put (cs := #[.int .i64 (wrap64 (bt (rdOf ByteArray.empty t256 0) 0)), .int .i64 0, .string (⟨#[]⟩ : ByteArray), .string (⟨#[]⟩ : ByteArray)]) ?_ 1 _ rfl; (with_reducible repeat (first | refine blk_drewN ?_ _ | refine blk_drew ?_ | refine blk_alloc ?_ _)); refine blk_put (cs := #[.int .i64 0, .int .i64 0, .string (⟨#[]⟩ : ByteArray), .string (⟨#[]⟩ : ByteArray)]) ?_ 0 _ rfl; (with_reducible repeat (first | refine blk_drewN ?_ _ | refine blk_drew ?_ | refine blk_alloc ?_ _)); exact BK266.out) hb); have n3_ := sqA (below_step (sqs HB.out) hb); clear HO_4; clear BK255; clear BK266; clear HB; have HO_4 := n0_; have BK255 := n1_; have BK266 := n2_; have HB := n3_; clear n0_ n1_ n2_ n3_; (try clear hb); (try clear hb2); (try clear hk); (try clear hi); have hcz36_0 : w35.cell? ⟨gb266, 0, none⟩ = some (.int .i64 (wrap64 (bt (rdOf ByteArray.empty t256 0) 0))) := (blk_cell BK266.out 0).trans rfl; have hcz36_1 : w35.cell? ⟨gb266, 1, none⟩ = some (.int .i64 (wrap64 (bt (rdOf ByteArray.empty t256 1) 0))) := (blk_cell BK266.out 1).trans rfl; have hcz36_2 : w35.cell? ⟨gb266, 2, none⟩ = some (.string (rdOf ByteArray.empty t256 2)) := (blk_cell BK266.out 2).trans rfl; have hcz36_3 : w35.cell? ⟨gb266, 3, none⟩ = some (.string (rdOf ByteArray.empty t256 3)) := (blk_cell BK266.out 3).trans rfl; have hfz36_0 := blk_frozen BK266.out 0; have hfz36_1 := blk_frozen BK266.out 1; have hfz36_2 := blk_frozen BK266.out 2; have hfz36_3 := blk_frozen BK266.out 3; have hcz37_0 : w35.cell? ⟨gb255, 0, none⟩ = some (.int .i64 0) := (blk_cell BK255.out 0).trans rfl; have hcz37_1 : w35.cell? ⟨gb255, 1, none⟩ = some (.int .i64 0) := (blk_cell BK255.out 1).trans rfl; have hcz37_2 : w35.cell? ⟨gb255, 2, none⟩ = some (.string (⟨#[]⟩ : ByteArray)) := (blk_cell BK255.out 2).trans rfl; have hcz37_3 : w35.cell? ⟨gb255, 3, none⟩ = some (.string (⟨#[]⟩ : ByteArray)) := (blk_cell BK255.out 3).trans rfl; have hfz37_0 := blk_frozen BK255.out 0; have hfz37_1 := blk_frozen BK255.out 1; have hfz37_2 := blk_frozen BK255.out 2; have hfz37_3 := blk_frozen BK255.out 3))
           refine bodyPost_ret (results_ct rfl _ _ gb255 51 #[.int .i64 (wrap64 (bt (rdOf ByteArray.empty t256 0) 0)), .int .i64 (wrap64 (bt (rdOf ByteArray.empty t256 1) 0)), .string (rdOf ByteArray.empty t256 2), .string (rdOf ByteArray.empty t256 3)] (0, 0) _ rfl (by (with_reducible repeat (first | refine blk_drewN ?_ _ | refine blk_drew ?_ | refine blk_alloc ?_ _)); refine blk_put (cs := #[.int .i64 (wrap64 (bt (rdOf ByteArray.empty t256 0) 0)), .int .i64 (wrap64 (bt (rdOf ByteArray.empty t256 1) 0)), .string (rdOf ByteArray.empty t256 2), .string (⟨#[]⟩ : ByteArray)]) ?_ 3 _ rfl; (with_reducible repeat (first | refine blk_drewN ?_ _ | refine blk_drew ?_ | refine blk_alloc ?_ _)); refine blk_put (cs := #[.int .i64 (wrap64 (bt (rdOf ByteArray.empty t256 0) 0)), .int .i64 (wrap64 (bt (rdOf ByteArray.empty t256 1) 0)), .string (⟨#[]⟩ : ByteArray), .string (⟨#[]⟩ : ByteArray)]) ?_ 2 _ rfl; (with_reducible repeat (first | refine blk_drewN ?_ _ | refine blk_drew ?_ | refine blk_alloc ?_ _)); refine blk_put (cs := #[.int .i64 (wrap64 (bt (rdOf ByteArray.empty t256 0) 0)), .int .i64 0, .string (⟨#[]⟩ : ByteArray), .string (⟨#[]⟩ : ByteArray)]) ?_ 1 _ rfl; (with_reducible repeat (first | refine blk_drewN ?_ _ | refine blk_drew ?_ | refine blk_alloc ?_ _)); refine blk_put (cs := #[.int .i64 0, .int .i64 0, .string (⟨#[]⟩ : ByteArray), .string (⟨#[]⟩ : ByteArray)]) ?_ 0 _ rfl; (with_reducible repeat (first | refine blk_drewN ?_ _ | refine blk_drew ?_ | refine blk_alloc ?_ _)); exact BK255.out) Tryd.underlying51 rfl (by kernel_rfl)) rfl ?_
           exact ⟨sqe, sqs HB.out⟩
          ·
           rw [if_neg c25] at H
           have c25b0 : (t267 == 0) = false := beq_eq_false_iff_ne.mpr c25
           have c25b1 : (t267 != 0) = true := bne_iff_ne.mpr c25
           simp only [Option.some.injEq, Prod.mk.injEq] at H
           obtain ⟨rfl, rfl, rfl, rfl, rfl⟩ := H
           try go_wp2
           have n0_ := sqA (Kd.R_drew HO_4.out)
           have n1_ := sqA (blk_drew BK255.out)
           have n2_ := sqA (below_drew1 HB.out)
           clear HO_4
           clear BK255
           clear HB
           have HO_4 := n0_
           have BK255 := n1_
           have HB := n2_
           clear n0_ n1_ n2_
           obtain ⟨Ao39, co39, eo39⟩ := Kd.R_slice HO_4.out
           (first | subst eo39 | (injection eo39 with f1_ f2_ f3_; have f4_ := f1_.symm; have f5_ := f3_.symm; clear f1_ f2_ f3_; subst f4_; subst f5_))
           have p262 : 0 ≤ (0 : Int) := (by omega)
           have q262 : 0 < (t256.length : Int) := of_decide_eq_true sqa
           obtain ⟨ad262, e262, hx262_0⟩ := Kd.at_string (Kd.R_reads' HO_4.out).2.2 0 p262 q262
           cases e262
           have qi262 : (0 < t256.length) = True := eq_true (by omega)
           (try rw [show ((0 : Int)).toNat = 0 from rfl] at hx262_0)
           (try rw [Addr.add_zero'] at hx262_0)
           replace p262 := eq_true p262
           replace q262 := eq_true q262
           have p18 : 0 ≤ (0 : Int) := (by omega)
           have q18 : 0 < (rdOf ByteArray.empty t256 0).size := (by have : (0 : Int) < ((rdOf ByteArray.empty t256 0).size : Int) := of_decide_eq_true sqa; omega)
           have hx18 : ∀ h : 0 < (rdOf ByteArray.empty t256 0).size, (((rdOf ByteArray.empty t256 0)[0]'h).toNat : Int) = bt (rdOf ByteArray.empty t256 0) 0 := bt_at (rdOf ByteArray.empty t256 0) 0
           clear p18
           have qi18 : (0 < ((rdOf ByteArray.empty t256 0).size : Int)) = True := eq_true (of_decide_eq_true sqa)
           replace q18 := eq_true q18
           have p263 : 0 ≤ (1 : Int) := (by omega)
           have q263 : 1 < (t256.length : Int) := of_decide_eq_true sqa
           obtain ⟨ad263, e263, hx263_0⟩ := Kd.at_string (Kd.R_reads' HO_4.out).2.2 1 p263 q263
           obtain rfl : ad262 = ad263 := (by injection e263)
           (try simp only [show (1 : Int).toNat = 1 from rfl, Nat.reduceMul, Nat.reduceEqDiff, Go.Addr.add, ↓reduceIte] at hx263_0)
           have qi263 : (1 < t256.length) = True := eq_true (by omega)
           (try rw [show ((1 : Int)).toNat = 1 from rfl] at hx263_0)
           replace p263 := eq_true p263
           replace q263 := eq_true q263
           have p21 : 0 ≤ (0 : Int) := (by omega)
           have q21 : 0 < (rdOf ByteArray.empty t256 1).size := (by have : (0 : Int) < ((rdOf ByteArray.empty t256 1).size : Int) := of_decide_eq_true sqa; omega)
           have hx21 : ∀ h : 0 < (rdOf ByteArray.empty t256 1).size, (((rdOf ByteArray.empty t256 1)[0]'h).toNat : Int) = bt (rdOf ByteArray.empty t256 1) 0 := bt_at (rdOf ByteArray.empty t256 1) 0
           clear p21
           have qi21 : (0 < ((rdOf ByteArray.empty t256 1).size : Int)) = True := eq_true (of_decide_eq_true sqa)
           replace q21 := eq_true q21
           have p264 : 0 ≤ (2 : Int) := (by omega)
           have q264 : 2 < (t256.length : Int) := of_decide_eq_true sqa
           obtain ⟨ad264, e264, hx264_0⟩ := Kd.at_string (Kd.R_reads' HO_4.out).2.2 2 p264 q264
           obtain rfl : ad262 = ad264 := (by injection e264)
           (try simp only [show (2 : Int).toNat = 2 from rfl, Nat.reduceMul, Nat.reduceEqDiff, Go.Addr.add, ↓reduceIte] at hx264_0)
           have qi264 : (2 < t256.length) = True := eq_true (by omega)
           (try rw [show ((2 : Int)).toNat = 2 from rfl] at hx264_0)
           replace p264 := eq_true p264
           replace q264 := eq_true q264
           have p265 : 0 ≤ (3 : Int) := (by omega)
           have q265 : 3 < (t256.length : Int) := of_decide_eq_true sqa
           obtain ⟨ad265, e265, hx265_0⟩ := Kd.at_string (Kd.R_reads' HO_4.out).2.2 3 p265 q265
           obtain rfl : ad262 = ad265 := (by injection e265)
           (try simp only [show (3 : Int).toNat = 3 from rfl, Nat.reduceMul, Nat.reduceEqDiff, Go.Addr.add, ↓reduceIte] at hx265_0)
           have qi265 : (3 < t256.length) = True := eq_true (by omega)
           (try rw [show ((3 : Int)).toNat = 3 from rfl] at hx265_0)
           replace p265 := eq_true p265
           replace q265 := eq_true q265
           refine start_ (n := 19) (S := fun w' => w'.cell? ad262 = some (.string (rdOf ByteArray.empty t256 0)) ∧ w'.cell? ⟨ad262.block, ad262.off + 1, none⟩ = some (.string (rdOf ByteArray.empty t256 1)) ∧ w'.cell? ⟨ad262.block, ad262.off + 2, none⟩ = some (.string (rdOf ByteArray.empty t256 2)) ∧ w'.cell? ⟨ad262.block, ad262.off + 3, none⟩ = some (.string (rdOf ByteArray.empty t256 3))) (ds := []) #[false, false, false, false, false, false, false, false, false, false, false, false, false, false, false, false, false, false, false] (by kernel_rfl) rfl rfl ⟨hx262_0, hx263_0, hx264_0, hx265_0⟩ (fun hHeld => ?_); refine with_tabW sandglassref16_ReadCommand.tab4 sandglassref16_ReadCommand.bits4 (fun HT_ HW_ => ?_)
           generalize wc.drew = w38 at HO_4 BK255 HB hx262_0 hx263_0 hx264_0 hx265_0 hHeld ⊢
           refine pure_ (i := 0) (N := some 34) (v := ?_) (a' := ?_) #[true, false, false, false, false, false, false, false, false, false, false, false, false, false, false, false, false, false, false] rfl rfl (any_of HT_.out (by kernel_rfl)) (fun _ _ _ h => h) (Or.inl ⟨by rfl, ?_⟩) ?_ ?_
           rotate_left
           ·
            intro w'
            go_simp
            with_reducible rfl
           rotate_left
           ·
            simp only [Act.put, List.setIfInBounds_toArray, List.set_cons_zero, List.set_cons_succ, i64_w, i32_w]
            rfl
           refine pure_ (i := 1) (N := some 35) (v := ?_) (a' := ?_) #[true, true, false, false, false, false, false, false, false, false, false, false, false, false, false, false, false, false, false] rfl rfl (any_of HT_.out (by kernel_rfl)) (fun _ _ _ h => h) (Or.inl ⟨by rfl, ?_⟩) ?_ ?_
           rotate_left
           ·
            intro w'
            go_simp
            with_reducible rfl
           rotate_left
           ·
            simp only [Act.put, List.setIfInBounds_toArray, List.set_cons_zero, List.set_cons_succ, i64_w, i32_w]
            rfl
           refine pure_ (i := 5) (N := some 39) (v := ?_) (a' := ?_) #[true, true, false, false, false, true, false, false, false, false, false, false, false, false, false, false, false, false, false] rfl rfl (any_of HT_.out (by kernel_rfl)) (fun _ _ _ h => h) (Or.inl ⟨by rfl, ?_⟩) ?_ ?_
           rotate_left
           ·
            intro w'
            go_simp
            with_reducible rfl
           rotate_left
           ·
            simp only [Act.put, List.setIfInBounds_toArray, List.set_cons_zero, List.set_cons_succ, i64_w, i32_w]
            rfl
           refine pure_ (i := 6) (N := some 40) (v := ?_) (a' := ?_) #[true, true, false, false, false, true, true, false, false, false, false, false, false, false, false, false, false, false, false] rfl rfl (any_of HT_.out (by kernel_rfl)) (fun _ _ _ h => h) (Or.inl ⟨by rfl, ?_⟩) ?_ ?_
           rotate_left
           ·
            intro w'
            go_simp
            with_reducible rfl
           rotate_left
           ·
            simp only [Act.put, List.setIfInBounds_toArray, List.set_cons_zero, List.set_cons_succ, i64_w, i32_w]
            rfl
           refine pure_ (i := 10) (N := some 44) (v := ?_) (a' := ?_) #[true, true, false, false, false, true, true, false, false, false, true, false, false, false, false, false, false, false, false] rfl rfl (any_of HT_.out (by kernel_rfl)) (fun _ _ _ h => h) (Or.inl ⟨by rfl, ?_⟩) ?_ ?_
           rotate_left
           ·
            intro w'
            go_simp
            with_reducible rfl
           rotate_left
           ·
            simp only [Act.put, List.setIfInBounds_toArray, List.set_cons_zero, List.set_cons_succ, i64_w, i32_w]
            rfl
           refine pure_ (i := 11) (N := some 45) (v := ?_) (a' := ?_) #[true, true, false, false, false, true, true, false, false, false, true, true, false, false, false, false, false, false, false] rfl rfl (any_of HT_.out (by kernel_rfl)) (fun _ _ _ h => h) (Or.inl ⟨by rfl, ?_⟩) ?_ ?_
           rotate_left
           ·
            intro w'
            go_simp
            with_reducible rfl
           rotate_left
           ·
            simp only [Act.put, List.setIfInBounds_toArray, List.set_cons_zero, List.set_cons_succ, i64_w, i32_w]
            rfl
           refine pure_ (i := 13) (N := some 47) (v := ?_) (a' := ?_) #[true, true, false, false, false, true, true, false, false, false, true, true, false, true, false, false, false, false, false] rfl rfl (any_of HT_.out (by kernel_rfl)) (fun _ _ _ h => h) (Or.inl ⟨by rfl, ?_⟩) ?_ ?_
           rotate_left
           ·
            intro w'
            go_simp
            with_reducible rfl
           rotate_left
           ·
            simp only [Act.put, List.setIfInBounds_toArray, List.set_cons_zero, List.set_cons_succ, i64_w, i32_w]
            rfl
           refine pure_ (i := 14) (N := some 48) (v := ?_) (a' := ?_) #[true, true, false, false, false, true, true, false, false, false, true, true, false, true, true, false, false, false, false] rfl rfl (any_of HT_.out (by kernel_rfl)) (fun _ _ _ h => h) (Or.inl ⟨by rfl, ?_⟩) ?_ ?_
           rotate_left
           ·
            intro w'
            go_simp
            with_reducible rfl
           rotate_left
           ·
            simp only [Act.put, List.setIfInBounds_toArray, List.set_cons_zero, List.set_cons_succ, i64_w, i32_w]
            rfl
           refine take_ (i := 2) (N := some 36) (v := ?_) (a' := ?_) #[true, true, true, false, false, true, true, false, false, false, true, true, false, true, true, false, false, false, false] rfl rfl (take_ofW HT_.out HW_.out (by kernel_rfl)) (fun _ _ _ h => h) (Or.inl ⟨by rfl, ?_⟩) hHeld ?_ ?_
           rotate_left
           ·
            rintro w' ⟨s0, s1, s2, s3⟩
            go_simp
            with_reducible rfl
           rotate_left
           ·
            simp only [Act.put, List.setIfInBounds_toArray, List.set_cons_zero, List.set_cons_succ, i64_w, i32_w]
            rfl
           refine take_ (i := 3) (N := some 37) (v := ?_) (a' := ?_) #[true, true, true, true, false, true, true, false, false, false, true, true, false, true, true, false, false, false, false] rfl rfl (take_ofW HT_.out HW_.out (by kernel_rfl)) (fun _ _ _ h => h) (Or.inl ⟨by rfl, ?_⟩) hHeld ?_ ?_
           rotate_left
           ·
            rintro w' ⟨s0, s1, s2, s3⟩
            go_simp
            with_reducible rfl
           rotate_left
           ·
            simp only [Act.put, List.setIfInBounds_toArray, List.set_cons_zero, List.set_cons_succ, i64_w, i32_w]
            rfl
           refine pure_ (i := 4) (N := some 38) (v := ?_) (a' := ?_) #[true, true, true, true, true, true, true, false, false, false, true, true, false, true, true, false, false, false, false] rfl rfl (any_of HT_.out (by kernel_rfl)) (fun _ _ _ h => h) (Or.inl ⟨by rfl, ?_⟩) ?_ ?_
           rotate_left
           ·
            intro w'
            go_simp
            with_reducible rfl
           rotate_left
           ·
            simp only [Act.put, List.setIfInBounds_toArray, List.set_cons_zero, List.set_cons_succ, i64_w, i32_w]
            rfl
           refine take_ (i := 7) (N := some 41) (v := ?_) (a' := ?_) #[true, true, true, true, true, true, true, true, false, false, true, true, false, true, true, false, false, false, false] rfl rfl (take_ofW HT_.out HW_.out (by kernel_rfl)) (fun _ _ _ h => h) (Or.inl ⟨by rfl, ?_⟩) hHeld ?_ ?_
           rotate_left
           ·
            rintro w' ⟨s0, s1, s2, s3⟩
            go_simp
            with_reducible rfl
           rotate_left
           ·
            simp only [Act.put, List.setIfInBounds_toArray, List.set_cons_zero, List.set_cons_succ, i64_w, i32_w]
            rfl
           refine take_ (i := 8) (N := some 42) (v := ?_) (a' := ?_) #[true, true, true, true, true, true, true, true, true, false, true, true, false, true, true, false, false, false, false] rfl rfl (take_ofW HT_.out HW_.out (by kernel_rfl)) (fun _ _ _ h => h) (Or.inl ⟨by rfl, ?_⟩) hHeld ?_ ?_
           rotate_left
           ·
            rintro w' ⟨s0, s1, s2, s3⟩
            go_simp
            with_reducible rfl
           rotate_left
           ·
            simp only [Act.put, List.setIfInBounds_toArray, List.set_cons_zero, List.set_cons_succ, i64_w, i32_w]
            rfl
           refine pure_ (i := 9) (N := some 43) (v := ?_) (a' := ?_) #[true, true, true, true, true, true, true, true, true, true, true, true, false, true, true, false, false, false, false] rfl rfl (any_of HT_.out (by kernel_rfl)) (fun _ _ _ h => h) (Or.inl ⟨by rfl, ?_⟩) ?_ ?_
           rotate_left
           ·
            intro w'
            go_simp
            with_reducible rfl
           rotate_left
           ·
            simp only [Act.put, List.setIfInBounds_toArray, List.set_cons_zero, List.set_cons_succ, i64_w, i32_w]
            rfl
           refine take_ (i := 12) (N := some 46) (v := ?_) (a' := ?_) #[true, true, true, true, true, true, true, true, true, true, true, true, true, true, true, false, false, false, false] rfl rfl (take_ofW HT_.out HW_.out (by kernel_rfl)) (fun _ _ _ h => h) (Or.inl ⟨by rfl, ?_⟩) hHeld ?_ ?_
           rotate_left
           ·
            rintro w' ⟨s0, s1, s2, s3⟩
            go_simp
            with_reducible rfl
           rotate_left
           ·
            simp only [Act.put, List.setIfInBounds_toArray, List.set_cons_zero, List.set_cons_succ, i64_w, i32_w]
            rfl
           refine take_ (i := 15) (N := some 49) (v := ?_) (a' := ?_) #[true, true, true, true, true, true, true, true, true, true, true, true, true, true, true, true, false, false, false] rfl rfl (take_ofW HT_.out HW_.out (by kernel_rfl)) (fun _ _ _ h => h) (Or.inl ⟨by rfl, ?_⟩) hHeld ?_ ?_
           rotate_left
           ·
            rintro w' ⟨s0, s1, s2, s3⟩
            go_simp
            with_reducible rfl
           rotate_left
           ·
            simp only [Act.put, List.setIfInBounds_toArray, List.set_cons_zero, List.set_cons_succ, i64_w, i32_w]
            rfl
           refine pure_ (i := 16) (N := some 50) (v := ?_) (a' := ?_) #[true, true, true, true, true, true, true, true, true, true, true, true, true, true, true, true, true, false, false] rfl rfl (any_of HT_.out (by kernel_rfl)) (fun _ _ _ h => h) (Or.inl ⟨by rfl, ?_⟩) ?_ ?_
           rotate_left
           ·
            intro w'
            go_simp
            with_reducible rfl
           rotate_left
           ·
            simp only [Act.put, List.setIfInBounds_toArray, List.set_cons_zero, List.set_cons_succ, i64_w, i32_w]
            rfl
           refine one_ (i := 17) (N := some 6) #[true, true, true, true, true, true, true, true, true, true, true, true, true, true, true, true, true, true, false] rfl rfl (one_of HT_.out (by kernel_rfl)) (by decide) (fun K hK => ?_)
           refine box_step ?hg (N := 6) ?hd (cs := #[.int .i64 0, .int .i64 0, .string (⟨#[]⟩ : ByteArray), .string (⟨#[]⟩ : ByteArray)]) (t := 51) ?hr ?_; (case hd => rfl); (case hg => rfl); (case hr => first | (go_simp; done) | (go_simp; rfl))
           intro gb266 hg w40 hbox hb
           have HS0_ := (hb.cell (World.block_lt_of_cell? _ _ (hHeld.1))).trans (hHeld.1)
           have HS1_ := (hb.cell (World.block_lt_of_cell? _ _ (hHeld.2.1))).trans (hHeld.2.1)
           have HS2_ := (hb.cell (World.block_lt_of_cell? _ _ (hHeld.2.2.1))).trans (hHeld.2.2.1)
           have HS3_ := (hb.cell (World.block_lt_of_cell? _ _ (hHeld.2.2.2))).trans (hHeld.2.2.2)
           have n0_ := sqA (Kd.R_below (sqr HO_4.out) hb)
           have n1_ := sqA (blk_below (g := gb255) (o := .cells #[.int .i64 0, .int .i64 0, .string (⟨#[]⟩ : ByteArray), .string (⟨#[]⟩ : ByteArray)] 51 (0, 0)) (sqk BK255.out) hb)
           have n2_ := sqA (below_step (sqs HB.out) hb)
           have n3_ := sqA (hbox)
           have n4_ := sqA ((by rw [hg]; exact (below_size (sqs HB.out)) : w.heap.size ≤ gb266))
           have n5_ := sqA ((by rw [hg]; exact (below_size (sqs HB.out)) : w.heap.size ≤ gb266))
           have n6_ := sqA ((by rw [hg]; exact Nat.ne_of_lt (blk_lt (g := gb255) (o := .cells #[.int .i64 0, .int .i64 0, .string (⟨#[]⟩ : ByteArray), .string (⟨#[]⟩ : ByteArray)] 51 (0, 0)) (sqk BK255.out)) : gb255 ≠ gb266))
           have n7_ := sqA ((by rw [hg]; exact Nat.ne_of_gt (blk_lt (g := gb255) (o := .cells #[.int .i64 0, .int .i64 0, .string (⟨#[]⟩ : ByteArray), .string (⟨#[]⟩ : ByteArray)] 51 (0, 0)) (sqk BK255.out)) : gb266 ≠ gb255))
           clear HO_4
           clear BK255
           clear HB
           have HO_4 := n0_
           have BK255 := n1_
           have HB := n2_
           have BK266 := n3_
           have GW266 := n4_
           have GE266 := n5_
           have NB255_266 := n6_
           have NB266_255 := n7_
           clear n0_ n1_ n2_ n3_ n4_ n5_ n6_ n7_
           clear hb hbox hg
           refine hK.out _ _ ⟨HS0_, HS1_, HS2_, HS3_⟩ (fun hHeld => ?_)
           clear hK K
           refine norm_ (a' := ?_) ?_ ?_
           rotate_left
           ·
            show Act.put _ (some 6) _ = _
            simp only [Act.put, List.setIfInBounds_toArray, List.set_cons_zero, List.set_cons_succ, i64_w, i32_w]
            rfl
           refine one_ (i := 18) (N := none) #[true, true, true, true, true, true, true, true, true, true, true, true, true, true, true, true, true, true, true] rfl rfl (one_of HT_.out (by kernel_rfl)) (by decide) (fun K hK => ?_)
           have hs41 : w40.cell? ⟨gb266, 0, none⟩ = some (.int .i64 0) := (blk_cell BK266.out 0).trans rfl
           have hfs41 := blk_frozen BK266.out 0
           have hns41_0 := NB255_266.out
           have hms41_0 := NB266_255.out
           have hs42 : w40.cell? ⟨gb266, 1, none⟩ = some (.int .i64 0) := (blk_cell BK266.out 1).trans rfl
           have hfs42 := blk_frozen BK266.out 1
           have hns42_0 := NB255_266.out
           have hms42_0 := NB266_255.out
           have hs43 : w40.cell? ⟨gb266, 2, none⟩ = some (.string (⟨#[]⟩ : ByteArray)) := (blk_cell BK266.out 2).trans rfl
           have hfs43 := blk_frozen BK266.out 2
           have hns43_0 := NB255_266.out
           have hms43_0 := NB266_255.out
           have hs44 : w40.cell? ⟨gb266, 3, none⟩ = some (.string (⟨#[]⟩ : ByteArray)) := (blk_cell BK266.out 3).trans rfl
           have hfs44 := blk_frozen BK266.out 3
           have hns44_0 := NB255_266.out
           have hms44_0 := NB266_255.out
           refine skip_ (w1 := ?_) (by rfl) rfl ?_ ?_
           rotate_left
           ·
            go_simp
            rfl
           refine hK.out _ _ ⟨((cell_far (p := ⟨gb266, _, none⟩) (sqf (Kd.own_blk (Kd.R_ne HO_4.out BK266.out (by decide)))) _).trans (((cell_far (p := ⟨gb266, _, none⟩) (sqf (Kd.own_blk (Kd.R_ne HO_4.out BK266.out (by decide)))) _).trans (((cell_far (p := ⟨gb266, _, none⟩) (sqf (Kd.own_blk (Kd.R_ne HO_4.out BK266.out (by decide)))) _).trans (((cell_far (p := ⟨gb266, _, none⟩) (sqf (Kd.own_blk (Kd.R_ne HO_4.out BK266.out (by decide)))) _).trans (hHeld.1)))))))), ((cell_far (p := ⟨gb266, _, none⟩) (sqf (Kd.own_blk (Kd.R_ne HO_4.out BK266.out (by decide)))) _).trans (((cell_far (p := ⟨gb266, _, none⟩) (sqf (Kd.own_blk (Kd.R_ne HO_4.out BK266.out (by decide)))) _).trans (((cell_far (p := ⟨gb266, _, none⟩) (sqf (Kd.own_blk (Kd.R_ne HO_4.out BK266.out (by decide)))) _).trans (((cell_far (p := ⟨gb266, _, none⟩) (sqf (Kd.own_blk (Kd.R_ne HO_4.out BK266.out (by decide)))) _).trans (hHeld.2.1)))))))), ((cell_far (p := ⟨gb266, _, none⟩) (sqf (Kd.own_blk (Kd.R_ne HO_4.out BK266.out (by decide)))) _).trans (((cell_far (p := ⟨gb266, _, none⟩) (sqf (Kd.own_blk (Kd.R_ne HO_4.out BK266.out (by decide)))) _).trans (((cell_far (p := ⟨gb266, _, none⟩) (sqf (Kd.own_blk (Kd.R_ne HO_4.out BK266.out (by decide)))) _).trans (((cell_far (p := ⟨gb266, _, none⟩) (sqf (Kd.own_blk (Kd.R_ne HO_4.out BK266.out (by decide)))) _).trans (hHeld.2.2.1)))))))), ((cell_far (p := ⟨gb266, _, none⟩) (sqf (Kd.own_blk (Kd.R_ne HO_4.out BK266.out (by decide)))) _).trans (((cell_far (p := ⟨gb266, _, none⟩) (sqf (Kd.own_blk (Kd.R_ne HO_4.out BK266.out (by decide)))) _).trans (((cell_far (p := ⟨gb266, _, none⟩) (sqf (Kd.own_blk (Kd.R_ne HO_4.out BK266.out (by decide)))) _).trans (((cell_far (p := ⟨gb266, _, none⟩) (sqf (Kd.own_blk (Kd.R_ne HO_4.out BK266.out (by decide)))) _).trans (hHeld.2.2.2))))))))⟩ (fun hHeld => ?_)
           clear hK K
           refine done_ (done_of HT_.out (by kernel_rfl)) ?_
           have hnb45 := NB266_255.out
           have hnc45 := NB255_266.out
           have hcz46_0 : w40.cell? ⟨gb266, 0, none⟩ = some (.int .i64 0) := (blk_cell BK266.out 0).trans rfl
           have hcz46_1 : w40.cell? ⟨gb266, 1, none⟩ = some (.int .i64 0) := (blk_cell BK266.out 1).trans rfl
           have hcz46_2 : w40.cell? ⟨gb266, 2, none⟩ = some (.string (⟨#[]⟩ : ByteArray)) := (blk_cell BK266.out 2).trans rfl
           have hcz46_3 : w40.cell? ⟨gb266, 3, none⟩ = some (.string (⟨#[]⟩ : ByteArray)) := (blk_cell BK266.out 3).trans rfl
           have hfz46_0 := blk_frozen BK266.out 0
           have hfz46_1 := blk_frozen BK266.out 1
           have hfz46_2 := blk_frozen BK266.out 2
           have hfz46_3 := blk_frozen BK266.out 3
           try go_wp2_with (first | ((with_reducible refine gate_callee (f := 45) rfl ?_); refine goesL_ (some 52) rfl rfl Tryd.func45 (by kernel_rfl) rfl #[.agg #[.int .i64 (wrap64 (bt (rdOf ByteArray.empty t256 0) 0)), .int .i64 (wrap64 (bt (rdOf ByteArray.empty t256 1) 0)), .string (rdOf ByteArray.empty t256 2), .string (rdOf ByteArray.empty t256 3)]] rfl sqn ?_; (with_reducible refine (sandglassref16_CheckCommand.calls (wrap64 (bt (rdOf ByteArray.empty t256 0) 0)) (wrap64 (bt (rdOf ByteArray.empty t256 1) 0)) (rdOf ByteArray.empty t256 2) (rdOf ByteArray.empty t256 3) t267 _ A24.out).mono ?_); rintro e w47 ⟨rfl, hb⟩; refine ⟨_, rfl, ?_⟩; have n0_ := sqA (Kd.R_below (sqr (Kd.R_mono (Kd.R_far (p := ⟨gb266, 3, none⟩) (Kd.R_far (p := ⟨gb266, 2, none⟩) (Kd.R_far (p := ⟨gb266, 1, none⟩) (Kd.R_far (p := ⟨gb266, 0, none⟩) (Kd.R_types HO_4.out BK266.out (by decide)) (fun _ hk => hk.2) (.int .i64 (wrap64 (bt (rdOf ByteArray.empty t256 0) 0)))) (fun _ hk => hk.2) (.int .i64 (wrap64 (bt (rdOf ByteArray.empty t256 1) 0)))) (fun _ hk => hk.2) (.string (rdOf ByteArray.empty t256 2))) (fun _ hk => hk.2) (.string (rdOf ByteArray.empty t256 3))) (fun _ h_ => h_.1))) hb); have n1_ := sqA (blk_below (g := gb255) (o := .cells #[.int .i64 0, .int .i64 0, .string (⟨#[]⟩ : ByteArray), .string (⟨#[]⟩ : ByteArray)] 51 (0, 0)) (by (with_reducible repeat (first | refine blk_drewN ?_ _ | refine blk_drew ?_ | refine blk_alloc ?_ _)); refine blk_far ?_ NB255_266.out _; (with_reducible repeat (first | refine blk_drewN ?_ _ | refine blk_drew ?_ | refine blk_alloc ?_ _)); refine blk_far ?_ NB255_266.out _; (with_reducible repeat (first | refine blk_drewN ?_ _ | refine blk_drew ?_ | refine blk_alloc ?_ _)); refine blk_far ?_ NB255_266.out _; (with_reducible repeat (first | refine blk_drewN ?_ _ | refine blk_drew ?_ | refine blk_alloc ?_ _)); refine blk_far ?_ NB255_266.out _; (with_reducible repeat (first | refine blk_drewN ?_ _ | refine blk_drew ?_ | refine blk_alloc ?_ _)); exact BK255.out) hb); have n2_ := sqA (blk_below (g := gb266) (o := .cells #[.int .i64 (wrap64 (bt (rdOf ByteArray.empty t256 0) 0)), .int .i64 (wrap64 (bt (rdOf ByteArray.empty t256 1) 0)), .string (rdOf ByteArray.empty t256 2), .string (rdOf ByteArray.empty t256 3)] 51 (0, 0)) (by (with_reducible repeat (first | refine blk_drewN ?_ _ | refine blk_drew ?_ | refine blk_alloc ?_ _)); refine blk_put (cs := #[.int .i64 (wrap64 (bt (rdOf ByteArray.empty t256 0) 0)), .int .i64 (wrap64 (bt (rdOf ByteArray.empty t256 1) 0)), .string (rdOf ByteArray.empty t256 2), .string (⟨#[]⟩ : ByteArray)]) ?_ 3 _ rfl; (with_reducible repeat (first | refine blk_drewN ?_ _ | refine blk_drew ?_ | refine blk_alloc ?_ _)); refine blk_put (cs := #[.int .i64 (wrap64 (bt (rdOf ByteArray.empty t256 0) 0)), .int .i64 (wrap64 (bt (rdOf ByteArray.empty t256 1) 0)), .string (⟨#[]⟩ : ByteArray), .string (⟨#[]⟩ : ByteArray)]) ?_ 2 _ rfl; (with_reducible repeat (first | refine blk_drewN ?_ _ | refine blk_drew ?_ | refine blk_alloc ?_ _)); refine blk_put (cs := #[.int .i64 (wrap64 (bt (rdOf ByteArray.empty t256 0) 0)), .int .i64 0, .string (⟨#[]⟩ : ByteArray), .string (⟨#[]⟩ : ByteArray)]) ?_ 1 _ rfl; (with_reducible repeat (first | refine blk_drewN ?_ _ | refine blk_drew ?_ | refine blk_alloc ?_ _)); refine blk_put (cs := #[.int .i64 0, .int .i64 0, .string (⟨#[]⟩ : ByteArray), .string (⟨#[]⟩ : ByteArray)]) ?_ 0 _ rfl; (with_reducible repeat (first | refine blk_drewN ?_ _ | refine blk_drew ?_ | refine blk_alloc ?_ _)); exact BK266.out) hb); have n3_ := sqA (below_step (sqs HB.out) hb); clear HO_4; clear BK255; clear BK266; clear HB; have HO_4 := n0_; have BK255 := n1_; have BK266 := n2_; have HB := n3_; clear n0_ n1_ n2_ n3_; (try clear hb); (try clear hb2); (try clear hk); (try clear hi); have hcz48_0 : w47.cell? ⟨gb255, 0, none⟩ = some (.int .i64 0) := (blk_cell BK255.out 0).trans rfl; have hcz48_1 : w47.cell? ⟨gb255, 1, none⟩ = some (.int .i64 0) := (blk_cell BK255.out 1).trans rfl; have hcz48_2 : w47.cell? ⟨gb255, 2, none⟩ = some (.string (⟨#[]⟩ : ByteArray)) := (blk_cell BK255.out 2).trans rfl; have hcz48_3 : w47.cell? ⟨gb255, 3, none⟩ = some (.string (⟨#[]⟩ : ByteArray)) := (blk_cell BK255.out 3).trans rfl; have hfz48_0 := blk_frozen BK255.out 0; have hfz48_1 := blk_frozen BK255.out 1; have hfz48_2 := blk_frozen BK255.out 2; have hfz48_3 := blk_frozen BK255.out 3))
           refine bodyPost_ret (results_ct rfl _ _ gb255 51 #[.int .i64 0, .int .i64 0, .string (⟨#[]⟩ : ByteArray), .string (⟨#[]⟩ : ByteArray)] (0, 0) _ rfl (by (with_reducible repeat (first | refine blk_drewN ?_ _ | refine blk_drew ?_ | refine blk_alloc ?_ _)); refine blk_put (cs := #[.int .i64 0, .int .i64 0, .string (⟨#[]⟩ : ByteArray), .string (⟨#[]⟩ : ByteArray)]) ?_ 3 _ rfl; (with_reducible repeat (first | refine blk_drewN ?_ _ | refine blk_drew ?_ | refine blk_alloc ?_ _)); refine blk_put (cs := #[.int .i64 0, .int .i64 0, .string (⟨#[]⟩ : ByteArray), .string (⟨#[]⟩ : ByteArray)]) ?_ 2 _ rfl; (with_reducible repeat (first | refine blk_drewN ?_ _ | refine blk_drew ?_ | refine blk_alloc ?_ _)); refine blk_put (cs := #[.int .i64 0, .int .i64 0, .string (⟨#[]⟩ : ByteArray), .string (⟨#[]⟩ : ByteArray)]) ?_ 1 _ rfl; (with_reducible repeat (first | refine blk_drewN ?_ _ | refine blk_drew ?_ | refine blk_alloc ?_ _)); refine blk_put (cs := #[.int .i64 0, .int .i64 0, .string (⟨#[]⟩ : ByteArray), .string (⟨#[]⟩ : ByteArray)]) ?_ 0 _ rfl; (with_reducible repeat (first | refine blk_drewN ?_ _ | refine blk_drew ?_ | refine blk_alloc ?_ _)); exact BK255.out) Tryd.underlying51 rfl (by kernel_rfl)) rfl ?_
           exact ⟨sqe, sqs HB.out⟩
         ·
          rw [if_neg c23] at H
          exact absurd H (by simp)
        ·
         rw [if_neg c22] at H
         exact absurd H (by simp)
       ·
        rw [if_neg c20] at H
        exact absurd H (by simp)
      ·
       rw [if_neg c19] at H
       exact absurd H (by simp)
     ·
      rw [if_neg c17] at H
      exact absurd H (by simp)
    ·
     rw [if_neg c16] at H
     exact absurd H (by simp)
end Go.Proofs.YtifpomknkjegeaaDoor.PAll
