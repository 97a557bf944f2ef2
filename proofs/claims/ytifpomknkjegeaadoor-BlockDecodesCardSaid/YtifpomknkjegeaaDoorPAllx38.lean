/- Printed by a program of this claim: the machine side of its law, for every input; no condition. -/
import Derived.Test.YtifpomknkjegeaaDoorPAllx0
namespace Go.Proofs.YtifpomknkjegeaaDoor.PAll
open Go.RowKit Go.Proofs.YtifpomknkjegeaaDoorW.PrintWords Go.Proofs.YtifpomknkjegeaaDoorW.PrintLast Go.Proofs.YtifpomknkjegeaaDoorW.PrintMore
attribute [local go_sem] max2_int min2_int max_two min_two max_three min_three max_four min_four
set_option linter.unusedVariables false
set_option linter.unusedSimpArgs false
attribute [local go_sem] all_u8 all_u32 all_u64
def sandglassref16_CheckCommand.f (a0_0 : Int) (a0_1 : Int) (a0_2 : ByteArray) (a0_3 : ByteArray) : Option (Int) := if a0_0 = 1 then (if a0_2.toList = ([] : List UInt8) then (if ((a0_3.size : Int) = 33) then (if a0_1 < 0 then (some 1) else (if a0_1 > 63 then (some 1) else (some 0))) else (some 1)) else (some 1)) else (if a0_0 = 2 then (if a0_2.toList = ([] : List UInt8) then (some 1) else (if (a0_2.size : Int) ≤ 16 then (if ((a0_3.size : Int) ≤ 4096) then (if a0_1 < 0 then (some 1) else (if a0_1 > 63 then (some 1) else (some 0))) else (some 1)) else (some 1))) else (if a0_0 = 3 then (if a0_2.toList = ([] : List UInt8) then (if (a0_3.toList = ([] : List UInt8)) then (if a0_1 < 0 then (some 1) else (if a0_1 > 63 then (some 1) else (some 0))) else (some 1)) else (some 1)) else (some 1)))
set_option maxHeartbeats 8000000 in
set_option maxRecDepth 100000 in
theorem sandglassref16_CheckCommand.calls (a0_0 : Int) (a0_1 : Int) (a0_2 : ByteArray) (a0_3 : ByteArray) (r : Int) (w : World) (h : sandglassref16_CheckCommand.f a0_0 a0_1 a0_2 a0_3 = some r) :
  Calls Tryd.prog 45 #[.agg #[.int .i64 a0_0, .int .i64 a0_1, .string a0_2, .string a0_3]] w fun e w' => e = .returned (.int .i64 r) ∧ Below w.heap.size w w' := by
 have hu51 := Tryd.underlying51
 have HB := sqA (Below.refl w.heap.size w)
 have H : (if a0_0 = 1 then (if a0_2.toList = ([] : List UInt8) then (if ((a0_3.size : Int) = 33) then (if a0_1 < 0 then (some 1) else (if a0_1 > 63 then (some 1) else (some 0))) else (some 1)) else (some 1)) else (if a0_0 = 2 then (if a0_2.toList = ([] : List UInt8) then (some 1) else (if (a0_2.size : Int) ≤ 16 then (if ((a0_3.size : Int) ≤ 4096) then (if a0_1 < 0 then (some 1) else (if a0_1 > 63 then (some 1) else (some 0))) else (some 1)) else (some 1))) else (if a0_0 = 3 then (if a0_2.toList = ([] : List UInt8) then (if (a0_3.toList = ([] : List UInt8)) then (if a0_1 < 0 then (some 1) else (if a0_1 > 63 then (some 1) else (some 0))) else (some 1)) else (some 1)) else (some 1)))) = some r := h
 clear h
 by_cases c2 : a0_0 = 1
 ·
  rw [if_pos c2] at H
  have c2b0 : (a0_0 == 1) = true := beq_iff_eq.mpr c2
  have c2b1 : (a0_0 != 1) = false := bne_eq_false_iff_eq.mpr c2
  clear c2
  by_cases c3 : a0_2.toList = ([] : List UInt8)
  ·
   rw [if_pos c3] at H
   have c3b0 : (a0_2.toList == ([] : List UInt8)) = true := beq_iff_eq.mpr c3
   have c3b1 : (a0_2.toList != ([] : List UInt8)) = false := bne_eq_false_iff_eq.mpr c3
   clear c3
   by_cases c4 : ((a0_3.size : Int) = 33)
   ·
    rw [if_pos c4] at H
    have c4b0 : ((a0_3.size : Int) == 33) = true := beq_iff_eq.mpr c4
    have c4b1 : ((a0_3.size : Int) != 33) = false := bne_eq_false_iff_eq.mpr c4
    clear c4
    by_cases c5 : a0_1 < 0
    ·
     rw [if_pos c5] at H
     have c5b0 : decide (a0_1 < 0) = true := decide_eq_true c5
     clear c5
     obtain rfl := Option.some.inj H
     go_enter Tryd.func45, Tryd.ntmps45
     go_wp2_with (first | ((with_reducible refine gate_dst (N := 1) rfl ?_); (try (refine gate_guard (by rfl) ?_; dsimp only)); refine sqo (N := 1) (cs := #[.int .i64 a0_0, .int .i64 a0_1, .string a0_2, .string a0_3]) (t := 51) ?_; intro gb199 hg w6 hbox hb; have n0_ := sqA (below_step (sqb HB.out) hb); have n1_ := sqA (hbox); have n2_ := sqA ((by rw [hg]; exact (below_size (sqb HB.out)) : w.heap.size ≤ gb199)); have n3_ := sqA ((by rw [hg]; exact (below_size (sqb HB.out)) : w.heap.size ≤ gb199)); clear HB; have HB := n0_; have BK199 := n1_; have GW199 := n2_; have GE199 := n3_; clear n0_ n1_ n2_ n3_; clear hb hbox hg; have hcz7_0 : w6.cell? ⟨gb199, 0, none⟩ = some (.int .i64 a0_0) := (blk_cell BK199.out 0).trans rfl; have hcz7_1 : w6.cell? ⟨gb199, 1, none⟩ = some (.int .i64 a0_1) := (blk_cell BK199.out 1).trans rfl; have hcz7_2 : w6.cell? ⟨gb199, 2, none⟩ = some (.string a0_2) := (blk_cell BK199.out 2).trans rfl; have hcz7_3 : w6.cell? ⟨gb199, 3, none⟩ = some (.string a0_3) := (blk_cell BK199.out 3).trans rfl; have hfz7_0 := blk_frozen BK199.out 0; have hfz7_1 := blk_frozen BK199.out 1; have hfz7_2 := blk_frozen BK199.out 2; have hfz7_3 := blk_frozen BK199.out 3))
     go_ret
     exact ⟨sqe, sqs HB.out⟩
    ·
     rw [if_neg c5] at H
     have c5b0 : decide (a0_1 < 0) = false := decide_eq_false c5
     clear c5
     by_cases c8 : a0_1 > 63
     ·
      rw [if_pos c8] at H
      have c8b0 : decide (63 < a0_1) = true := decide_eq_true c8
      clear c8
      obtain rfl := Option.some.inj H
      go_enter Tryd.func45, Tryd.ntmps45
      go_wp2_with (first | ((with_reducible refine gate_dst (N := 1) rfl ?_); (try (refine gate_guard (by rfl) ?_; dsimp only)); refine sqo (N := 1) (cs := #[.int .i64 a0_0, .int .i64 a0_1, .string a0_2, .string a0_3]) (t := 51) ?_; intro gb199 hg w9 hbox hb; have n0_ := sqA (below_step (sqb HB.out) hb); have n1_ := sqA (hbox); have n2_ := sqA ((by rw [hg]; exact (below_size (sqb HB.out)) : w.heap.size ≤ gb199)); have n3_ := sqA ((by rw [hg]; exact (below_size (sqb HB.out)) : w.heap.size ≤ gb199)); clear HB; have HB := n0_; have BK199 := n1_; have GW199 := n2_; have GE199 := n3_; clear n0_ n1_ n2_ n3_; clear hb hbox hg; have hcz10_0 : w9.cell? ⟨gb199, 0, none⟩ = some (.int .i64 a0_0) := (blk_cell BK199.out 0).trans rfl; have hcz10_1 : w9.cell? ⟨gb199, 1, none⟩ = some (.int .i64 a0_1) := (blk_cell BK199.out 1).trans rfl; have hcz10_2 : w9.cell? ⟨gb199, 2, none⟩ = some (.string a0_2) := (blk_cell BK199.out 2).trans rfl; have hcz10_3 : w9.cell? ⟨gb199, 3, none⟩ = some (.string a0_3) := (blk_cell BK199.out 3).trans rfl; have hfz10_0 := blk_frozen BK199.out 0; have hfz10_1 := blk_frozen BK199.out 1; have hfz10_2 := blk_frozen BK199.out 2; have hfz10_3 := blk_frozen BK199.out 3))
      go_ret
      exact ⟨sqe, sqs HB.out⟩
     ·
      rw [if_neg c8] at H
      have c8b0 : decide (63 < a0_1) = false := decide_eq_false c8
      clear c8
      obtain rfl := Option.some.inj H
      go_enter Tryd.func45, Tryd.ntmps45
      go_wp2_with (first | ((with_reducible refine gate_dst (N := 1) rfl ?_); (try (refine gate_guard (by rfl) ?_; dsimp only)); refine sqo (N := 1) (cs := #[.int .i64 a0_0, .int .i64 a0_1, .string a0_2, .string a0_3]) (t := 51) ?_; intro gb199 hg w11 hbox hb; have n0_ := sqA (below_step (sqb HB.out) hb); have n1_ := sqA (hbox); have n2_ := sqA ((by rw [hg]; exact (below_size (sqb HB.out)) : w.heap.size ≤ gb199)); have n3_ := sqA ((by rw [hg]; exact (below_size (sqb HB.out)) : w.heap.size ≤ gb199)); clear HB; have HB := n0_; have BK199 := n1_; have GW199 := n2_; have GE199 := n3_; clear n0_ n1_ n2_ n3_; clear hb hbox hg; have hcz12_0 : w11.cell? ⟨gb199, 0, none⟩ = some (.int .i64 a0_0) := (blk_cell BK199.out 0).trans rfl; have hcz12_1 : w11.cell? ⟨gb199, 1, none⟩ = some (.int .i64 a0_1) := (blk_cell BK199.out 1).trans rfl; have hcz12_2 : w11.cell? ⟨gb199, 2, none⟩ = some (.string a0_2) := (blk_cell BK199.out 2).trans rfl; have hcz12_3 : w11.cell? ⟨gb199, 3, none⟩ = some (.string a0_3) := (blk_cell BK199.out 3).trans rfl; have hfz12_0 := blk_frozen BK199.out 0; have hfz12_1 := blk_frozen BK199.out 1; have hfz12_2 := blk_frozen BK199.out 2; have hfz12_3 := blk_frozen BK199.out 3))
      go_ret
      exact ⟨sqe, sqs HB.out⟩
   ·
    rw [if_neg c4] at H
    have c4b0 : ((a0_3.size : Int) == 33) = false := beq_eq_false_iff_ne.mpr c4
    have c4b1 : ((a0_3.size : Int) != 33) = true := bne_iff_ne.mpr c4
    obtain rfl := Option.some.inj H
    go_enter Tryd.func45, Tryd.ntmps45
    go_wp2_with (first | ((with_reducible refine gate_dst (N := 1) rfl ?_); (try (refine gate_guard (by rfl) ?_; dsimp only)); refine sqo (N := 1) (cs := #[.int .i64 a0_0, .int .i64 a0_1, .string a0_2, .string a0_3]) (t := 51) ?_; intro gb199 hg w13 hbox hb; have n0_ := sqA (below_step (sqb HB.out) hb); have n1_ := sqA (hbox); have n2_ := sqA ((by rw [hg]; exact (below_size (sqb HB.out)) : w.heap.size ≤ gb199)); have n3_ := sqA ((by rw [hg]; exact (below_size (sqb HB.out)) : w.heap.size ≤ gb199)); clear HB; have HB := n0_; have BK199 := n1_; have GW199 := n2_; have GE199 := n3_; clear n0_ n1_ n2_ n3_; clear hb hbox hg; have hcz14_0 : w13.cell? ⟨gb199, 0, none⟩ = some (.int .i64 a0_0) := (blk_cell BK199.out 0).trans rfl; have hcz14_1 : w13.cell? ⟨gb199, 1, none⟩ = some (.int .i64 a0_1) := (blk_cell BK199.out 1).trans rfl; have hcz14_2 : w13.cell? ⟨gb199, 2, none⟩ = some (.string a0_2) := (blk_cell BK199.out 2).trans rfl; have hcz14_3 : w13.cell? ⟨gb199, 3, none⟩ = some (.string a0_3) := (blk_cell BK199.out 3).trans rfl; have hfz14_0 := blk_frozen BK199.out 0; have hfz14_1 := blk_frozen BK199.out 1; have hfz14_2 := blk_frozen BK199.out 2; have hfz14_3 := blk_frozen BK199.out 3))
    go_ret
    exact ⟨sqe, sqs HB.out⟩
  ·
   rw [if_neg c3] at H
   have c3b0 : (a0_2.toList == ([] : List UInt8)) = false := beq_eq_false_iff_ne.mpr c3
   have c3b1 : (a0_2.toList != ([] : List UInt8)) = true := bne_iff_ne.mpr c3
   obtain rfl := Option.some.inj H
   go_enter Tryd.func45, Tryd.ntmps45
   go_wp2_with (first | ((with_reducible refine gate_dst (N := 1) rfl ?_); (try (refine gate_guard (by rfl) ?_; dsimp only)); refine sqo (N := 1) (cs := #[.int .i64 a0_0, .int .i64 a0_1, .string a0_2, .string a0_3]) (t := 51) ?_; intro gb199 hg w15 hbox hb; have n0_ := sqA (below_step (sqb HB.out) hb); have n1_ := sqA (hbox); have n2_ := sqA ((by rw [hg]; exact (below_size (sqb HB.out)) : w.heap.size ≤ gb199)); have n3_ := sqA ((by rw [hg]; exact (below_size (sqb HB.out)) : w.heap.size ≤ gb199)); clear HB; have HB := n0_; have BK199 := n1_; have GW199 := n2_; have GE199 := n3_; clear n0_ n1_ n2_ n3_; clear hb hbox hg; have hcz16_0 : w15.cell? ⟨gb199, 0, none⟩ = some (.int .i64 a0_0) := (blk_cell BK199.out 0).trans rfl; have hcz16_1 : w15.cell? ⟨gb199, 1, none⟩ = some (.int .i64 a0_1) := (blk_cell BK199.out 1).trans rfl; have hcz16_2 : w15.cell? ⟨gb199, 2, none⟩ = some (.string a0_2) := (blk_cell BK199.out 2).trans rfl; have hcz16_3 : w15.cell? ⟨gb199, 3, none⟩ = some (.string a0_3) := (blk_cell BK199.out 3).trans rfl; have hfz16_0 := blk_frozen BK199.out 0; have hfz16_1 := blk_frozen BK199.out 1; have hfz16_2 := blk_frozen BK199.out 2; have hfz16_3 := blk_frozen BK199.out 3))
   go_ret
   exact ⟨sqe, sqs HB.out⟩
 ·
  rw [if_neg c2] at H
  have c2b0 : (a0_0 == 1) = false := beq_eq_false_iff_ne.mpr c2
  have c2b1 : (a0_0 != 1) = true := bne_iff_ne.mpr c2
  by_cases c17 : a0_0 = 2
  ·
   rw [if_pos c17] at H
   have c17b0 : (a0_0 == 2) = true := beq_iff_eq.mpr c17
   have c17b1 : (a0_0 != 2) = false := bne_eq_false_iff_eq.mpr c17
   clear c17
   by_cases c18 : a0_2.toList = ([] : List UInt8)
   ·
    rw [if_pos c18] at H
    have c18b0 : (a0_2.toList == ([] : List UInt8)) = true := beq_iff_eq.mpr c18
    have c18b1 : (a0_2.toList != ([] : List UInt8)) = false := bne_eq_false_iff_eq.mpr c18
    clear c18
    obtain rfl := Option.some.inj H
    go_enter Tryd.func45, Tryd.ntmps45
    go_wp2_with (first | ((with_reducible refine gate_dst (N := 1) rfl ?_); (try (refine gate_guard (by rfl) ?_; dsimp only)); refine sqo (N := 1) (cs := #[.int .i64 a0_0, .int .i64 a0_1, .string a0_2, .string a0_3]) (t := 51) ?_; intro gb199 hg w19 hbox hb; have n0_ := sqA (below_step (sqb HB.out) hb); have n1_ := sqA (hbox); have n2_ := sqA ((by rw [hg]; exact (below_size (sqb HB.out)) : w.heap.size ≤ gb199)); have n3_ := sqA ((by rw [hg]; exact (below_size (sqb HB.out)) : w.heap.size ≤ gb199)); clear HB; have HB := n0_; have BK199 := n1_; have GW199 := n2_; have GE199 := n3_; clear n0_ n1_ n2_ n3_; clear hb hbox hg; have hcz20_0 : w19.cell? ⟨gb199, 0, none⟩ = some (.int .i64 a0_0) := (blk_cell BK199.out 0).trans rfl; have hcz20_1 : w19.cell? ⟨gb199, 1, none⟩ = some (.int .i64 a0_1) := (blk_cell BK199.out 1).trans rfl; have hcz20_2 : w19.cell? ⟨gb199, 2, none⟩ = some (.string a0_2) := (blk_cell BK199.out 2).trans rfl; have hcz20_3 : w19.cell? ⟨gb199, 3, none⟩ = some (.string a0_3) := (blk_cell BK199.out 3).trans rfl; have hfz20_0 := blk_frozen BK199.out 0; have hfz20_1 := blk_frozen BK199.out 1; have hfz20_2 := blk_frozen BK199.out 2; have hfz20_3 := blk_frozen BK199.out 3))
    go_ret
    exact ⟨sqe, sqs HB.out⟩
   ·
    rw [if_neg c18] at H
    have c18b0 : (a0_2.toList == ([] : List UInt8)) = false := beq_eq_false_iff_ne.mpr c18
    have c18b1 : (a0_2.toList != ([] : List UInt8)) = true := bne_iff_ne.mpr c18
    by_cases c21 : (a0_2.size : Int) ≤ 16
    ·
     rw [if_pos c21] at H
     have c21b0 : decide ((a0_2.size : Int) ≤ 16) = true := decide_eq_true c21
     have c21b1 : decide (a0_2.size ≤ 16) = true := decide_eq_true (by omega)
     clear c21
     by_cases c22 : ((a0_3.size : Int) ≤ 4096)
     ·
      rw [if_pos c22] at H
      have c22b0 : decide ((a0_3.size : Int) ≤ 4096) = true := decide_eq_true c22
      have c22b1 : decide (a0_3.size ≤ 4096) = true := decide_eq_true (by omega)
      clear c22
      by_cases c23 : a0_1 < 0
      ·
       rw [if_pos c23] at H
       have c23b0 : decide (a0_1 < 0) = true := decide_eq_true c23
       clear c23
       obtain rfl := Option.some.inj H
       go_enter Tryd.func45, Tryd.ntmps45
       go_wp2_with (first | ((with_reducible refine gate_dst (N := 1) rfl ?_); (try (refine gate_guard (by rfl) ?_; dsimp only)); refine sqo (N := 1) (cs := #[.int .i64 a0_0, .int .i64 a0_1, .string a0_2, .string a0_3]) (t := 51) ?_; intro gb199 hg w24 hbox hb; have n0_ := sqA (below_step (sqb HB.out) hb); have n1_ := sqA (hbox); have n2_ := sqA ((by rw [hg]; exact (below_size (sqb HB.out)) : w.heap.size ≤ gb199)); have n3_ := sqA ((by rw [hg]; exact (below_size (sqb HB.out)) : w.heap.size ≤ gb199)); clear HB; have HB := n0_; have BK199 := n1_; have GW199 := n2_; have GE199 := n3_; clear n0_ n1_ n2_ n3_; clear hb hbox hg; have hcz25_0 : w24.cell? ⟨gb199, 0, none⟩ = some (.int .i64 a0_0) := (blk_cell BK199.out 0).trans rfl; have hcz25_1 : w24.cell? ⟨gb199, 1, none⟩ = some (.int .i64 a0_1) := (blk_cell BK199.out 1).trans rfl; have hcz25_2 : w24.cell? ⟨gb199, 2, none⟩ = some (.string a0_2) := (blk_cell BK199.out 2).trans rfl; have hcz25_3 : w24.cell? ⟨gb199, 3, none⟩ = some (.string a0_3) := (blk_cell BK199.out 3).trans rfl; have hfz25_0 := blk_frozen BK199.out 0; have hfz25_1 := blk_frozen BK199.out 1; have hfz25_2 := blk_frozen BK199.out 2; have hfz25_3 := blk_frozen BK199.out 3))
       go_ret
       exact ⟨sqe, sqs HB.out⟩
      ·
       rw [if_neg c23] at H
       have c23b0 : decide (a0_1 < 0) = false := decide_eq_false c23
       clear c23
       by_cases c26 : a0_1 > 63
       ·
        rw [if_pos c26] at H
        have c26b0 : decide (63 < a0_1) = true := decide_eq_true c26
        clear c26
        obtain rfl := Option.some.inj H
        go_enter Tryd.func45, Tryd.ntmps45
        go_wp2_with (first | ((with_reducible refine gate_dst (N := 1) rfl ?_); (try (refine gate_guard (by rfl) ?_; dsimp only)); refine sqo (N := 1) (cs := #[.int .i64 a0_0, .int .i64 a0_1, .string a0_2, .string a0_3]) (t := 51) ?_; intro gb199 hg w27 hbox hb; have n0_ := sqA (below_step (sqb HB.out) hb); have n1_ := sqA (hbox); have n2_ := sqA ((by rw [hg]; exact (below_size (sqb HB.out)) : w.heap.size ≤ gb199)); have n3_ := sqA ((by rw [hg]; exact (below_size (sqb HB.out)) : w.heap.size ≤ gb199)); clear HB; have HB := n0_; have BK199 := n1_; have GW199 := n2_; have GE199 := n3_; clear n0_ n1_ n2_ n3_; clear hb hbox hg; have hcz28_0 : w27.cell? ⟨gb199, 0, none⟩ = some (.int .i64 a0_0) := (blk_cell BK199.out 0).trans rfl; have hcz28_1 : w27.cell? ⟨gb199, 1, none⟩ = some (.int .i64 a0_1) := (blk_cell BK199.out 1).trans rfl; have hcz28_2 : w27.cell? ⟨gb199, 2, none⟩ = some (.string a0_2) := (blk_cell BK199.out 2).trans rfl; have hcz28_3 : w27.cell? ⟨gb199, 3, none⟩ = some (.string a0_3) := (blk_cell BK199.out 3).trans rfl; have hfz28_0 := blk_frozen BK199.out 0; have hfz28_1 := blk_frozen BK199.out 1; have hfz28_2 := blk_frozen BK199.out 2; have hfz28_3 := blk_frozen BK199.out 3))
        go_ret
        exact ⟨sqe, sqs HB.out⟩
       ·
        rw [if_neg c26] at H
        have c26b0 : decide (63 < a0_1) = false := decide_eq_false c26
        clear c26
        obtain rfl := Option.some.inj H
        go_enter Tryd.func45, Tryd.ntmps45
        go_wp2_with (first | ((with_reducible refine gate_dst (N := 1) rfl ?_); (try (refine gate_guard (by rfl) ?_; dsimp only)); refine sqo (N := 1) (cs := #[.int .i64 a0_0, .int .i64 a0_1, .string a0_2, .string a0_3]) (t := 51) ?_; intro gb199 hg w29 hbox hb; have n0_ := sqA (below_step (sqb HB.out) hb); have n1_ := sqA (hbox); have n2_ := sqA ((by rw [hg]; exact (below_size (sqb HB.out)) : w.heap.size ≤ gb199)); have n3_ := sqA ((by rw [hg]; exact (below_size (sqb HB.out)) : w.heap.size ≤ gb199)); clear HB; have HB := n0_; have BK199 := n1_; have GW199 := n2_; have GE199 := n3_; clear n0_ n1_ n2_ n3_; clear hb hbox hg; have hcz30_0 : w29.cell? ⟨gb199, 0, none⟩ = some (.int .i64 a0_0) := (blk_cell BK199.out 0).trans rfl; have hcz30_1 : w29.cell? ⟨gb199, 1, none⟩ = some (.int .i64 a0_1) := (blk_cell BK199.out 1).trans rfl; have hcz30_2 : w29.cell? ⟨gb199, 2, none⟩ = some (.string a0_2) := (blk_cell BK199.out 2).trans rfl; have hcz30_3 : w29.cell? ⟨gb199, 3, none⟩ = some (.string a0_3) := (blk_cell BK199.out 3).trans rfl; have hfz30_0 := blk_frozen BK199.out 0; have hfz30_1 := blk_frozen BK199.out 1; have hfz30_2 := blk_frozen BK199.out 2; have hfz30_3 := blk_frozen BK199.out 3))
        go_ret
        exact ⟨sqe, sqs HB.out⟩
     ·
      rw [if_neg c22] at H
      have c22b0 : decide ((a0_3.size : Int) ≤ 4096) = false := decide_eq_false c22
      have c22b1 : decide (a0_3.size ≤ 4096) = false := decide_eq_false (by omega)
      clear c22
      obtain rfl := Option.some.inj H
      go_enter Tryd.func45, Tryd.ntmps45
      go_wp2_with (first | ((with_reducible refine gate_dst (N := 1) rfl ?_); (try (refine gate_guard (by rfl) ?_; dsimp only)); refine sqo (N := 1) (cs := #[.int .i64 a0_0, .int .i64 a0_1, .string a0_2, .string a0_3]) (t := 51) ?_; intro gb199 hg w31 hbox hb; have n0_ := sqA (below_step (sqb HB.out) hb); have n1_ := sqA (hbox); have n2_ := sqA ((by rw [hg]; exact (below_size (sqb HB.out)) : w.heap.size ≤ gb199)); have n3_ := sqA ((by rw [hg]; exact (below_size (sqb HB.out)) : w.heap.size ≤ gb199)); clear HB; have HB := n0_; have BK199 := n1_; have GW199 := n2_; have GE199 := n3_; clear n0_ n1_ n2_ n3_; clear hb hbox hg; have hcz32_0 : w31.cell? ⟨gb199, 0, none⟩ = some (.int .i64 a0_0) := (blk_cell BK199.out 0).trans rfl; have hcz32_1 : w31.cell? ⟨gb199, 1, none⟩ = some (.int .i64 a0_1) := (blk_cell BK199.out 1).trans rfl; have hcz32_2 : w31.cell? ⟨gb199, 2, none⟩ = some (.string a0_2) := (blk_cell BK199.out 2).trans rfl; have hcz32_3 : w31.cell? ⟨gb199, 3, none⟩ = some (.string a0_3) := (blk_cell BK199.out 3).trans rfl; have hfz32_0 := blk_frozen BK199.out 0; have hfz32_1 := blk_frozen BK199.out 1; have hfz32_2 := blk_frozen BK199.out 2; have hfz32_3 := blk_frozen BK199.out 3))
      go_ret
      exact ⟨sqe, sqs HB.out⟩
    ·
     rw [if_neg c21] at H
     have c21b0 : decide ((a0_2.size : Int) ≤ 16) = false := decide_eq_false c21
     have c21b1 : decide (a0_2.size ≤ 16) = false := decide_eq_false (by omega)
     clear c21
     obtain rfl := Option.some.inj H
     go_enter Tryd.func45, Tryd.ntmps45
     go_wp2_with (first | ((with_reducible refine gate_dst (N := 1) rfl ?_); (try (refine gate_guard (by rfl) ?_; dsimp only)); refine sqo (N := 1) (cs := #[.int .i64 a0_0, .int .i64 a0_1, .string a0_2, .string a0_3]) (t := 51) ?_; intro gb199 hg w33 hbox hb; have n0_ := sqA (below_step (sqb HB.out) hb); have n1_ := sqA (hbox); have n2_ := sqA ((by rw [hg]; exact (below_size (sqb HB.out)) : w.heap.size ≤ gb199)); have n3_ := sqA ((by rw [hg]; exact (below_size (sqb HB.out)) : w.heap.size ≤ gb199)); clear HB; have HB := n0_; have BK199 := n1_; have GW199 := n2_; have GE199 := n3_; clear n0_ n1_ n2_ n3_; clear hb hbox hg; have hcz34_0 : w33.cell? ⟨gb199, 0, none⟩ = some (.int .i64 a0_0) := (blk_cell BK199.out 0).trans rfl; have hcz34_1 : w33.cell? ⟨gb199, 1, none⟩ = some (.int .i64 a0_1) := (blk_cell BK199.out 1).trans rfl; have hcz34_2 : w33.cell? ⟨gb199, 2, none⟩ = some (.string a0_2) := (blk_cell BK199.out 2).trans rfl; have hcz34_3 : w33.cell? ⟨gb199, 3, none⟩ = some (.string a0_3) := (blk_cell BK199.out 3).trans rfl; have hfz34_0 := blk_frozen BK199.out 0; have hfz34_1 := blk_frozen BK199.out 1; have hfz34_2 := blk_frozen BK199.out 2; have hfz34_3 := blk_frozen BK199.out 3))
     go_ret
     exact ⟨sqe, sqs HB.out⟩
  ·
   rw [if_neg c17] at H
   have c17b0 : (a0_0 == 2) = false := beq_eq_false_iff_ne.mpr c17
   have c17b1 : (a0_0 != 2) = true := bne_iff_ne.mpr c17
   by_cases c35 : a0_0 = 3
   ·
    rw [if_pos c35] at H
    have c35b0 : (a0_0 == 3) = true := beq_iff_eq.mpr c35
    have c35b1 : (a0_0 != 3) = false := bne_eq_false_iff_eq.mpr c35
    clear c35
    by_cases c36 : a0_2.toList = ([] : List UInt8)
    ·
     rw [if_pos c36] at H
     have c36b0 : (a0_2.toList == ([] : List UInt8)) = true := beq_iff_eq.mpr c36
     have c36b1 : (a0_2.toList != ([] : List UInt8)) = false := bne_eq_false_iff_eq.mpr c36
     clear c36
     by_cases c37 : (a0_3.toList = ([] : List UInt8))
     ·
      rw [if_pos c37] at H
      have c37b0 : (a0_3.toList == ([] : List UInt8)) = true := beq_iff_eq.mpr c37
      have c37b1 : (a0_3.toList != ([] : List UInt8)) = false := bne_eq_false_iff_eq.mpr c37
      clear c37
      by_cases c38 : a0_1 < 0
      ·
       rw [if_pos c38] at H
       have c38b0 : decide (a0_1 < 0) = true := decide_eq_true c38
       clear c38
       obtain rfl := Option.some.inj H
       go_enter Tryd.func45, Tryd.ntmps45
       go_wp2_with (first | ((with_reducible refine gate_dst (N := 1) rfl ?_); (try (refine gate_guard (by rfl) ?_; dsimp only)); refine sqo (N := 1) (cs := #[.int .i64 a0_0, .int .i64 a0_1, .string a0_2, .string a0_3]) (t := 51) ?_; intro gb199 hg w39 hbox hb; have n0_ := sqA (below_step (sqb HB.out) hb); have n1_ := sqA (hbox); have n2_ := sqA ((by rw [hg]; exact (below_size (sqb HB.out)) : w.heap.size ≤ gb199)); have n3_ := sqA ((by rw [hg]; exact (below_size (sqb HB.out)) : w.heap.size ≤ gb199)); clear HB; have HB := n0_; have BK199 := n1_; have GW199 := n2_; have GE199 := n3_; clear n0_ n1_ n2_ n3_; clear hb hbox hg; have hcz40_0 : w39.cell? ⟨gb199, 0, none⟩ = some (.int .i64 a0_0) := (blk_cell BK199.out 0).trans rfl; have hcz40_1 : w39.cell? ⟨gb199, 1, none⟩ = some (.int .i64 a0_1) := (blk_cell BK199.out 1).trans rfl; have hcz40_2 : w39.cell? ⟨gb199, 2, none⟩ = some (.string a0_2) := (blk_cell BK199.out 2).trans rfl; have hcz40_3 : w39.cell? ⟨gb199, 3, none⟩ = some (.string a0_3) := (blk_cell BK199.out 3).trans rfl; have hfz40_0 := blk_frozen BK199.out 0; have hfz40_1 := blk_frozen BK199.out 1; have hfz40_2 := blk_frozen BK199.out 2; have hfz40_3 := blk_frozen BK199.out 3))
       go_ret
       exact ⟨sqe, sqs HB.out⟩
      ·
       rw [if_neg c38] at H
       have c38b0 : decide (a0_1 < 0) = false := decide_eq_false c38
       clear c38
       by_cases c41 : a0_1 > 63
       ·
        rw [if_pos c41] at H
        have c41b0 : decide (63 < a0_1) = true := decide_eq_true c41
        clear c41
        obtain rfl := Option.some.inj H
        go_enter Tryd.func45, Tryd.ntmps45
        go_wp2_with (first | ((with_reducible refine gate_dst (N := 1) rfl ?_); (try (refine gate_guard (by rfl) ?_; dsimp only)); refine sqo (N := 1) (cs := #[.int .i64 a0_0, .int .i64 a0_1, .string a0_2, .string a0_3]) (t := 51) ?_; intro gb199 hg w42 hbox hb; have n0_ := sqA (below_step (sqb HB.out) hb); have n1_ := sqA (hbox); have n2_ := sqA ((by rw [hg]; exact (below_size (sqb HB.out)) : w.heap.size ≤ gb199)); have n3_ := sqA ((by rw [hg]; exact (below_size (sqb HB.out)) : w.heap.size ≤ gb199)); clear HB; have HB := n0_; have BK199 := n1_; have GW199 := n2_; have GE199 := n3_; clear n0_ n1_ n2_ n3_; clear hb hbox hg; have hcz43_0 : w42.cell? ⟨gb199, 0, none⟩ = some (.int .i64 a0_0) := (blk_cell BK199.out 0).trans rfl; have hcz43_1 : w42.cell? ⟨gb199, 1, none⟩ = some (.int .i64 a0_1) := (blk_cell BK199.out 1).trans rfl; have hcz43_2 : w42.cell? ⟨gb199, 2, none⟩ = some (.string a0_2) := (blk_cell BK199.out 2).trans rfl; have hcz43_3 : w42.cell? ⟨gb199, 3, none⟩ = some (.string a0_3) := (blk_cell BK199.out 3).trans rfl; have hfz43_0 := blk_frozen BK199.out 0; have hfz43_1 := blk_frozen BK199.out 1; have hfz43_2 := blk_frozen BK199.out 2; have hfz43_3 := blk_frozen BK199.out 3))
        go_ret
        exact ⟨sqe, sqs HB.out⟩
       ·
        rw [if_neg c41] at H
        have c41b0 : decide (63 < a0_1) = false := decide_eq_false c41
        clear c41
        obtain rfl := Option.some.inj H
        go_enter Tryd.func45, Tryd.ntmps45
        go_wp2_with (first | ((with_reducible refine gate_dst (N := 1) rfl ?_); (try (refine gate_guard (by rfl) ?_; dsimp only)); refine sqo (N := 1) (cs := #[.int .i64 a0_0, .int .i64 a0_1, .string a0_2, .string a0_3]) (t := 51) ?_; intro gb199 hg w44 hbox hb; have n0_ := sqA (below_step (sqb HB.out) hb); have n1_ := sqA (hbox); have n2_ := sqA ((by rw [hg]; exact (below_size (sqb HB.out)) : w.heap.size ≤ gb199)); have n3_ := sqA ((by rw [hg]; exact (below_size (sqb HB.out)) : w.heap.size ≤ gb199)); clear HB; have HB := n0_; have BK199 := n1_; have GW199 := n2_; have GE199 := n3_; clear n0_ n1_ n2_ n3_; clear hb hbox hg; have hcz45_0 : w44.cell? ⟨gb199, 0, none⟩ = some (.int .i64 a0_0) := (blk_cell BK199.out 0).trans rfl; have hcz45_1 : w44.cell? ⟨gb199, 1, none⟩ = some (.int .i64 a0_1) := (blk_cell BK199.out 1).trans rfl; have hcz45_2 : w44.cell? ⟨gb199, 2, none⟩ = some (.string a0_2) := (blk_cell BK199.out 2).trans rfl; have hcz45_3 : w44.cell? ⟨gb199, 3, none⟩ = some (.string a0_3) := (blk_cell BK199.out 3).trans rfl; have hfz45_0 := blk_frozen BK199.out 0; have hfz45_1 := blk_frozen BK199.out 1; have hfz45_2 := blk_frozen BK199.out 2; have hfz45_3 := blk_frozen BK199.out 3))
        go_ret
        exact ⟨sqe, sqs HB.out⟩
     ·
      rw [if_neg c37] at H
      have c37b0 : (a0_3.toList == ([] : List UInt8)) = false := beq_eq_false_iff_ne.mpr c37
      have c37b1 : (a0_3.toList != ([] : List UInt8)) = true := bne_iff_ne.mpr c37
      obtain rfl := Option.some.inj H
      go_enter Tryd.func45, Tryd.ntmps45
      go_wp2_with (first | ((with_reducible refine gate_dst (N := 1) rfl ?_); (try (refine gate_guard (by rfl) ?_; dsimp only)); refine sqo (N := 1) (cs := #[.int .i64 a0_0, .int .i64 a0_1, .string a0_2, .string a0_3]) (t := 51) ?_; intro gb199 hg w46 hbox hb; have n0_ := sqA (below_step (sqb HB.out) hb); have n1_ := sqA (hbox); have n2_ := sqA ((by rw [hg]; exact (below_size (sqb HB.out)) : w.heap.size ≤ gb199)); have n3_ := sqA ((by rw [hg]; exact (below_size (sqb HB.out)) : w.heap.size ≤ gb199)); clear HB; have HB := n0_; have BK199 := n1_; have GW199 := n2_; have GE199 := n3_; clear n0_ n1_ n2_ n3_; clear hb hbox hg; have hcz47_0 : w46.cell? ⟨gb199, 0, none⟩ = some (.int .i64 a0_0) := (blk_cell BK199.out 0).trans rfl; have hcz47_1 : w46.cell? ⟨gb199, 1, none⟩ = some (.int .i64 a0_1) := (blk_cell BK199.out 1).trans rfl; have hcz47_2 : w46.cell? ⟨gb199, 2, none⟩ = some (.string a0_2) := (blk_cell BK199.out 2).trans rfl; have hcz47_3 : w46.cell? ⟨gb199, 3, none⟩ = some (.string a0_3) := (blk_cell BK199.out 3).trans rfl; have hfz47_0 := blk_frozen BK199.out 0; have hfz47_1 := blk_frozen BK199.out 1; have hfz47_2 := blk_frozen BK199.out 2; have hfz47_3 := blk_frozen BK199.out 3))
      go_ret
      exact ⟨sqe, sqs HB.out⟩
    ·
     rw [if_neg c36] at H
     have c36b0 : (a0_2.toList == ([] : List UInt8)) = false := beq_eq_false_iff_ne.mpr c36
     have c36b1 : (a0_2.toList != ([] : List UInt8)) = true := bne_iff_ne.mpr c36
     obtain rfl := Option.some.inj H
     go_enter Tryd.func45, Tryd.ntmps45
     go_wp2_with (first | ((with_reducible refine gate_dst (N := 1) rfl ?_); (try (refine gate_guard (by rfl) ?_; dsimp only)); refine sqo (N := 1) (cs := #[.int .i64 a0_0, .int .i64 a0_1, .string a0_2, .string a0_3]) (t := 51) ?_; intro gb199 hg w48 hbox hb; have n0_ := sqA (below_step (sqb HB.out) hb); have n1_ := sqA (hbox); have n2_ := sqA ((by rw [hg]; exact (below_size (sqb HB.out)) : w.heap.size ≤ gb199)); have n3_ := sqA ((by rw [hg]; exact (below_size (sqb HB.out)) : w.heap.size ≤ gb199)); clear HB; have HB := n0_; have BK199 := n1_; have GW199 := n2_; have GE199 := n3_; clear n0_ n1_ n2_ n3_; clear hb hbox hg; have hcz49_0 : w48.cell? ⟨gb199, 0, none⟩ = some (.int .i64 a0_0) := (blk_cell BK199.out 0).trans rfl; have hcz49_1 : w48.cell? ⟨gb199, 1, none⟩ = some (.int .i64 a0_1) := (blk_cell BK199.out 1).trans rfl; have hcz49_2 : w48.cell? ⟨gb199, 2, none⟩ = some (.string a0_2) := (blk_cell BK199.out 2).trans rfl; have hcz49_3 : w48.cell? ⟨gb199, 3, none⟩ = some (.string a0_3) := (blk_cell BK199.out 3).trans rfl; have hfz49_0 := blk_frozen BK199.out 0; have hfz49_1 := blk_frozen BK199.out 1; have hfz49_2 := blk_frozen BK199.out 2; have hfz49_3 := blk_frozen BK199.out 3))
     go_ret
     exact ⟨sqe, sqs HB.out⟩
   ·
    rw [if_neg c35] at H
    have c35b0 : (a0_0 == 3) = false := beq_eq_false_iff_ne.mpr c35
    have c35b1 : (a0_0 != 3) = true := bne_iff_ne.mpr c35
    obtain rfl := Option.some.inj H
    go_enter Tryd.func45, Tryd.ntmps45
    go_wp2_with (first | ((with_reducible refine gate_dst (N := 1) rfl ?_); (try (refine gate_guard (by rfl) ?_; dsimp only)); refine sqo (N := 1) (cs := #[.int .i64 a0_0, .int .i64 a0_1, .string a0_2, .string a0_3]) (t := 51) ?_; intro gb199 hg w50 hbox hb; have n0_ := sqA (below_step (sqb HB.out) hb); have n1_ := sqA (hbox); have n2_ := sqA ((by rw [hg]; exact (below_size (sqb HB.out)) : w.heap.size ≤ gb199)); have n3_ := sqA ((by rw [hg]; exact (below_size (sqb HB.out)) : w.heap.size ≤ gb199)); clear HB; have HB := n0_; have BK199 := n1_; have GW199 := n2_; have GE199 := n3_; clear n0_ n1_ n2_ n3_; clear hb hbox hg; have hcz51_0 : w50.cell? ⟨gb199, 0, none⟩ = some (.int .i64 a0_0) := (blk_cell BK199.out 0).trans rfl; have hcz51_1 : w50.cell? ⟨gb199, 1, none⟩ = some (.int .i64 a0_1) := (blk_cell BK199.out 1).trans rfl; have hcz51_2 : w50.cell? ⟨gb199, 2, none⟩ = some (.string a0_2) := (blk_cell BK199.out 2).trans rfl; have hcz51_3 : w50.cell? ⟨gb199, 3, none⟩ = some (.string a0_3) := (blk_cell BK199.out 3).trans rfl; have hfz51_0 := blk_frozen BK199.out 0; have hfz51_1 := blk_frozen BK199.out 1; have hfz51_2 := blk_frozen BK199.out 2; have hfz51_3 := blk_frozen BK199.out 3))
    go_ret
    exact ⟨sqe, sqs HB.out⟩
end Go.Proofs.YtifpomknkjegeaaDoor.PAll
