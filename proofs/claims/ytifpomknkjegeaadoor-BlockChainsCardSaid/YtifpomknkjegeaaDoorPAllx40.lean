/- Printed by a program of this claim: the machine side of its law, for every input; no condition. -/
import Derived.Test.YtifpomknkjegeaaDoorPAllx0
import Derived.Test.YtifpomknkjegeaaDoorPAllx39
namespace Go.Proofs.YtifpomknkjegeaaDoor.PAll
open Go.RowKit Go.Proofs.YtifpomknkjegeaaDoorW.PrintWords Go.Proofs.YtifpomknkjegeaaDoorW.PrintLast Go.Proofs.YtifpomknkjegeaaDoorW.PrintMore
attribute [local go_sem] max2_int min2_int max_two min_two max_three min_three max_four min_four
set_option linter.unusedVariables false
set_option linter.unusedSimpArgs false
attribute [local go_sem] all_u8 all_u32 all_u64
mutual
def sandglassref43_Check.j0 : Nat → Bool → Int → ByteArray → List (S53) → Option (Int)
 | 0, _, _, _, _ => none
 | k + 1, x24, x203000, x203001, x203002 => if x24 = true then (some 1) else (sandglassref43_Check.l0 k 0 x203000 x203001 x203002)
def sandglassref43_Check.l0 : Nat → Int → Int → ByteArray → List (S53) → Option (Int)
 | 0, _, _, _, _ => none
 | k + 1, x3, x203000, x203001, x203002 => if x3 < (x203002.length : Int) then (if 0 ≤ x3 then ((sandglassref42_May.f ((rd_T53 x203002 x3).f0) ((rd_T53 x203002 x3).f1) ((rd_T53 x203002 x3).f2.f0) ((rd_T53 x203002 x3).f2.f1) ((rd_T53 x203002 x3).f2.f2) ((rd_T53 x203002 x3).f2.f3)).bind fun t204 => (if t204 = true then (sandglassref43_Check.l1 k x3 0 x203000 x203001 x203002) else (some 1))) else (none)) else (some 0)
def sandglassref43_Check.l1 : Nat → Int → Int → Int → ByteArray → List (S53) → Option (Int)
 | 0, _, _, _, _, _ => none
 | k + 1, x3, x4, x203000, x203001, x203002 => if x4 < x3 then (if 0 ≤ x4 then (if x4 < (x203002.length : Int) then (if 0 ≤ x3 then (if x3 < (x203002.length : Int) then (if ((rd_T53 x203002 x4).f0) = ((rd_T53 x203002 x3).f0) then (if ((rd_T53 x203002 x4).f1) = ((rd_T53 x203002 x3).f1) then (some 1) else (sandglassref43_Check.l1 k x3 (wrap64 (x4 + 1)) x203000 x203001 x203002)) else (sandglassref43_Check.l1 k x3 (wrap64 (x4 + 1)) x203000 x203001 x203002)) else (none)) else (none)) else (none)) else (none)) else (sandglassref43_Check.l0 k (wrap64 (x3 + 1)) x203000 x203001 x203002)
end
def sandglassref43_Check.f (k : Nat) (a0_0 : Int) (a0_1 : ByteArray) (l0_2 : List (S53)) : Option (Int) := if a0_0 < 0 then (sandglassref43_Check.j0 k true a0_0 a0_1 l0_2) else (if a0_0 > 64 then (sandglassref43_Check.j0 k true a0_0 a0_1 l0_2) else (if (a0_1.size : Int) = 32 then (sandglassref43_Check.j0 k (decide ((l0_2.length : Int) > 8)) a0_0 a0_1 l0_2) else (sandglassref43_Check.j0 k true a0_0 a0_1 l0_2)))
theorem sandglassref43_Check.mono_l : ∀ k, (∀ y0 y1 y2 y3, LeO (sandglassref43_Check.j0 k y0 y1 y2 y3) (sandglassref43_Check.j0 (k + 1) y0 y1 y2 y3)) ∧ (∀ y0 y1 y2 y3, LeO (sandglassref43_Check.l0 k y0 y1 y2 y3) (sandglassref43_Check.l0 (k + 1) y0 y1 y2 y3)) ∧ (∀ y0 y1 y2 y3 y4, LeO (sandglassref43_Check.l1 k y0 y1 y2 y3 y4) (sandglassref43_Check.l1 (k + 1) y0 y1 y2 y3 y4))
 | 0 => ⟨fun _ _ _ _ r h => by simp [sandglassref43_Check.j0] at h, fun _ _ _ _ r h => by simp [sandglassref43_Check.l0] at h, fun _ _ _ _ _ r h => by simp [sandglassref43_Check.l1] at h⟩
 | k + 1 => by
  obtain ⟨ih0, ih1, ih2⟩ := sandglassref43_Check.mono_l k
  refine ⟨?_, ?_, ?_⟩
  ·
   intro y0 y1 y2 y3
   unfold sandglassref43_Check.j0
   repeat' first
   | (with_reducible exact ih0 _ _ _ _)
   | (with_reducible exact ih1 _ _ _ _)
   | (with_reducible exact ih2 _ _ _ _ _)
   | (with_reducible exact LeO.refl _)
   | (with_reducible exact LeO.none _)
   | (with_reducible refine LeO.ite ?_ ?_)
   | (with_reducible refine LeO.bind ?_ (fun _ => ?_))
   | exact ih0 _ _ _ _
   | exact ih1 _ _ _ _
   | exact ih2 _ _ _ _ _
   | exact LeO.none _
   | refine LeO.ite ?_ ?_
   | refine LeO.bind ?_ (fun _ => ?_)
  ·
   intro y0 y1 y2 y3
   unfold sandglassref43_Check.l0
   repeat' first
   | (with_reducible exact ih0 _ _ _ _)
   | (with_reducible exact ih1 _ _ _ _)
   | (with_reducible exact ih2 _ _ _ _ _)
   | (with_reducible exact LeO.refl _)
   | (with_reducible exact LeO.none _)
   | (with_reducible refine LeO.ite ?_ ?_)
   | (with_reducible refine LeO.bind ?_ (fun _ => ?_))
   | exact ih0 _ _ _ _
   | exact ih1 _ _ _ _
   | exact ih2 _ _ _ _ _
   | exact LeO.none _
   | refine LeO.ite ?_ ?_
   | refine LeO.bind ?_ (fun _ => ?_)
  ·
   intro y0 y1 y2 y3 y4
   unfold sandglassref43_Check.l1
   repeat' first
   | (with_reducible exact ih0 _ _ _ _)
   | (with_reducible exact ih1 _ _ _ _)
   | (with_reducible exact ih2 _ _ _ _ _)
   | (with_reducible exact LeO.refl _)
   | (with_reducible exact LeO.none _)
   | (with_reducible refine LeO.ite ?_ ?_)
   | (with_reducible refine LeO.bind ?_ (fun _ => ?_))
   | exact ih0 _ _ _ _
   | exact ih1 _ _ _ _
   | exact ih2 _ _ _ _ _
   | exact LeO.none _
   | refine LeO.ite ?_ ?_
   | refine LeO.bind ?_ (fun _ => ?_)
theorem sandglassref43_Check.mono : ∀ a0 a1 a2 k, LeO (sandglassref43_Check.f k a0 a1 a2) (sandglassref43_Check.f (k + 1) a0 a1 a2) := by
 intro a0 a1 a2 k
 obtain ⟨ih0, ih1, ih2⟩ := sandglassref43_Check.mono_l k
 unfold sandglassref43_Check.f
 repeat' first
   | (with_reducible exact ih0 _ _ _ _)
   | (with_reducible exact ih1 _ _ _ _)
   | (with_reducible exact ih2 _ _ _ _ _)
   | (with_reducible exact LeO.refl _)
   | (with_reducible exact LeO.none _)
   | (with_reducible refine LeO.ite ?_ ?_)
   | (with_reducible refine LeO.bind ?_ (fun _ => ?_))
   | exact ih0 _ _ _ _
   | exact ih1 _ _ _ _
   | exact ih2 _ _ _ _ _
   | exact LeO.none _
   | refine LeO.ite ?_ ?_
   | refine LeO.bind ?_ (fun _ => ?_)
set_option maxHeartbeats 8000000 in
set_option maxRecDepth 100000 in
theorem sandglassref43_Check.calls (k : Nat) (a0_0 : Int) (a0_1 : ByteArray) (A0_2 : Option Addr) (c0_2 : Nat) (l0_2 : List (S53)) (r : Int) (w : World) (hr0_2 : Kd.C k53 w A0_2 l0_2.length l0_2) (hc0_2 : l0_2.length ≤ c0_2) (h : sandglassref43_Check.f k a0_0 a0_1 l0_2 = some r) :
  Calls Tryd.prog 13 #[.agg #[.int .i64 a0_0, .string a0_1, .slice A0_2 l0_2.length c0_2]] w fun e w' => e = .returned (.int .i64 r) ∧ Below w.heap.size w w' := by
 have hu24 := Tryd.underlying24
 have hu53 := Tryd.underlying53
 have HR0_2 := sqA hr0_2
 have HC0_2 := sqA hc0_2
 clear hr0_2 hc0_2
 have HB := sqA (Below.refl w.heap.size w)
 have H : (if a0_0 < 0 then (sandglassref43_Check.j0 k true a0_0 a0_1 l0_2) else (if a0_0 > 64 then (sandglassref43_Check.j0 k true a0_0 a0_1 l0_2) else (if (a0_1.size : Int) = 32 then (sandglassref43_Check.j0 k (decide ((l0_2.length : Int) > 8)) a0_0 a0_1 l0_2) else (sandglassref43_Check.j0 k true a0_0 a0_1 l0_2)))) = some r := h
 clear h
 have HC2 := sqA H
 clear H
 go_enter Tryd.func13, Tryd.ntmps13
 go_upto_region 1 with (first | ((with_reducible refine gate_dst (N := 1) rfl ?_); (try (refine gate_guard (by rfl) ?_; dsimp only)); refine sqo (N := 1) (cs := #[.int .i64 a0_0, .string a0_1, .slice A0_2 l0_2.length c0_2]) (t := 24) ?_; intro gb202 hg w3 hbox hb; have n0_ := sqA (below_step (sqb HB.out) hb); have n1_ := sqA (hbox); have n2_ := sqA ((by rw [hg]; exact (below_size (sqb HB.out)) : w.heap.size ≤ gb202)); have n3_ := sqA ((by rw [hg]; exact (below_size (sqb HB.out)) : w.heap.size ≤ gb202)); clear HB; have HB := n0_; have BK202 := n1_; have GW202 := n2_; have GE202 := n3_; clear n0_ n1_ n2_ n3_; clear hb hbox hg))
 repeat (go_quiet (first | ((with_reducible refine gate_dst (N := 1) rfl ?_); (try (refine gate_guard (by rfl) ?_; dsimp only)); refine sqo (N := 1) (cs := #[.int .i64 a0_0, .string a0_1, .slice A0_2 l0_2.length c0_2]) (t := 24) ?_; intro gb202 hg w3 hbox hb; have n0_ := sqA (below_step (sqb HB.out) hb); have n1_ := sqA (hbox); have n2_ := sqA ((by rw [hg]; exact (below_size (sqb HB.out)) : w.heap.size ≤ gb202)); have n3_ := sqA ((by rw [hg]; exact (below_size (sqb HB.out)) : w.heap.size ≤ gb202)); clear HB; have HB := n0_; have BK202 := n1_; have GW202 := n2_; have GE202 := n3_; clear n0_ n1_ n2_ n3_; clear hb hbox hg)); go_upto_region 1 with (first | ((with_reducible refine gate_dst (N := 1) rfl ?_); (try (refine gate_guard (by rfl) ?_; dsimp only)); refine sqo (N := 1) (cs := #[.int .i64 a0_0, .string a0_1, .slice A0_2 l0_2.length c0_2]) (t := 24) ?_; intro gb202 hg w3 hbox hb; have n0_ := sqA (below_step (sqb HB.out) hb); have n1_ := sqA (hbox); have n2_ := sqA ((by rw [hg]; exact (below_size (sqb HB.out)) : w.heap.size ≤ gb202)); have n3_ := sqA ((by rw [hg]; exact (below_size (sqb HB.out)) : w.heap.size ≤ gb202)); clear HB; have HB := n0_; have BK202 := n1_; have GW202 := n2_; have GE202 := n3_; clear n0_ n1_ n2_ n3_; clear hb hbox hg)))
 (try simp only [Act.put, List.setIfInBounds_toArray, List.set_cons_zero, List.set_cons_succ])
 go_cut [24] (fun v24 wc => ∃ (kq : Nat) (x24_1 : Bool), v24 = .bool x24_1 ∧ Aside0 (sandglassref43_Check.j0 kq x24_1 a0_0 a0_1 l0_2 = some r) ∧ Aside0 (kq ≤ k) ∧ Aside0 (wc.heap[gb202]? = some (.cells #[.int .i64 a0_0, .string a0_1, (.slice A0_2 l0_2.length c0_2)] 24 (0, 0))) ∧ Aside0 (Below w.heap.size w wc))
 case first =>
  have H := HC2.out
  clear HC2
  by_cases c4 : a0_0 < 0
  ·
   rw [if_pos c4] at H
   have c4b0 : decide (a0_0 < 0) = true := decide_eq_true c4
   clear c4
   (first | rw [c4b0] | (simp only [i64_w, i32_w]; rw [c4b0]) | skip)
   have H' := sqA H
   clear H
   have hcz5_0 : w3.cell? ⟨gb202, 0, none⟩ = some (.int .i64 a0_0) := (blk_cell BK202.out 0).trans rfl
   have hcz5_1 : w3.cell? ⟨gb202, 1, none⟩ = some (.string a0_1) := (blk_cell BK202.out 1).trans rfl
   have hcz5_2 : w3.cell? ⟨gb202, 2, none⟩ = some (.slice A0_2 l0_2.length c0_2) := (blk_cell BK202.out 2).trans rfl
   have hfz5_0 := blk_frozen BK202.out 0
   have hfz5_1 := blk_frozen BK202.out 1
   have hfz5_2 := blk_frozen BK202.out 2
   go_wp2
   repeat (go_quiet (fail); try go_wp2)
   go_meet
   case rel => exact ⟨_, (true), sqd, H', ⟨by first | omega | exact Nat.le_refl _⟩, ⟨sqk BK202.out⟩, ⟨sqs HB.out⟩⟩
  ·
   rw [if_neg c4] at H
   have c4b0 : decide (a0_0 < 0) = false := decide_eq_false c4
   clear c4
   (first | rw [c4b0] | (simp only [i64_w, i32_w]; rw [c4b0]) | skip)
   by_cases c6 : a0_0 > 64
   ·
    rw [if_pos c6] at H
    have c6b0 : decide (64 < a0_0) = true := decide_eq_true c6
    clear c6
    have H' := sqA H
    clear H
    have hcz7_0 : w3.cell? ⟨gb202, 0, none⟩ = some (.int .i64 a0_0) := (blk_cell BK202.out 0).trans rfl
    have hcz7_1 : w3.cell? ⟨gb202, 1, none⟩ = some (.string a0_1) := (blk_cell BK202.out 1).trans rfl
    have hcz7_2 : w3.cell? ⟨gb202, 2, none⟩ = some (.slice A0_2 l0_2.length c0_2) := (blk_cell BK202.out 2).trans rfl
    have hfz7_0 := blk_frozen BK202.out 0
    have hfz7_1 := blk_frozen BK202.out 1
    have hfz7_2 := blk_frozen BK202.out 2
    go_wp2
    repeat (go_quiet (fail); try go_wp2)
    go_meet
    case rel => exact ⟨_, (true), sqd, H', ⟨by first | omega | exact Nat.le_refl _⟩, ⟨sqk BK202.out⟩, ⟨sqs HB.out⟩⟩
   ·
    rw [if_neg c6] at H
    have c6b0 : decide (64 < a0_0) = false := decide_eq_false c6
    clear c6
    by_cases c8 : (a0_1.size : Int) = 32
    ·
     rw [if_pos c8] at H
     have c8b0 : ((a0_1.size : Int) == 32) = true := beq_iff_eq.mpr c8
     have c8b1 : ((a0_1.size : Int) != 32) = false := bne_eq_false_iff_eq.mpr c8
     clear c8
     have H' := sqA H
     clear H
     have hcz9_0 : w3.cell? ⟨gb202, 0, none⟩ = some (.int .i64 a0_0) := (blk_cell BK202.out 0).trans rfl
     have hcz9_1 : w3.cell? ⟨gb202, 1, none⟩ = some (.string a0_1) := (blk_cell BK202.out 1).trans rfl
     have hcz9_2 : w3.cell? ⟨gb202, 2, none⟩ = some (.slice A0_2 l0_2.length c0_2) := (blk_cell BK202.out 2).trans rfl
     have hfz9_0 := blk_frozen BK202.out 0
     have hfz9_1 := blk_frozen BK202.out 1
     have hfz9_2 := blk_frozen BK202.out 2
     go_wp2
     repeat (go_quiet (fail); try go_wp2)
     go_meet
     case rel => exact ⟨_, (decide ((l0_2.length : Int) > 8)), sqd, H', ⟨by first | omega | exact Nat.le_refl _⟩, ⟨sqk BK202.out⟩, ⟨sqs HB.out⟩⟩
    ·
     rw [if_neg c8] at H
     have c8b0 : ((a0_1.size : Int) == 32) = false := beq_eq_false_iff_ne.mpr c8
     have c8b1 : ((a0_1.size : Int) != 32) = true := bne_iff_ne.mpr c8
     have H' := sqA H
     clear H
     have hcz10_0 : w3.cell? ⟨gb202, 0, none⟩ = some (.int .i64 a0_0) := (blk_cell BK202.out 0).trans rfl
     have hcz10_1 : w3.cell? ⟨gb202, 1, none⟩ = some (.string a0_1) := (blk_cell BK202.out 1).trans rfl
     have hcz10_2 : w3.cell? ⟨gb202, 2, none⟩ = some (.slice A0_2 l0_2.length c0_2) := (blk_cell BK202.out 2).trans rfl
     have hfz10_0 := blk_frozen BK202.out 0
     have hfz10_1 := blk_frozen BK202.out 1
     have hfz10_2 := blk_frozen BK202.out 2
     go_wp2
     repeat (go_quiet (fail); try go_wp2)
     go_meet
     case rel => exact ⟨_, (true), sqd, H', ⟨by first | omega | exact Nat.le_refl _⟩, ⟨sqk BK202.out⟩, ⟨sqs HB.out⟩⟩
 case rest =>
  clear HC2
  try clear c1
  try clear p2
  try clear c4
  try clear c4b0
  try clear c6
  try clear c6b0
  try clear c8
  try clear c8b0
  try clear c8b1
  try clear hcz10_0
  try clear hcz10_1
  try clear hcz10_2
  try clear hcz5_0
  try clear hcz5_1
  try clear hcz5_2
  try clear hcz7_0
  try clear hcz7_1
  try clear hcz7_2
  try clear hcz9_0
  try clear hcz9_1
  try clear hcz9_2
  try clear hfz10_0
  try clear hfz10_1
  try clear hfz10_2
  try clear hfz5_0
  try clear hfz5_1
  try clear hfz5_2
  try clear hfz7_0
  try clear hfz7_1
  try clear hfz7_2
  try clear hfz9_0
  try clear hfz9_1
  try clear hfz9_2
  obtain ⟨kq, x24_1, rfl, HA, HJ1, BK202, HB⟩ := hcut
  cases kq with
  | zero => exact absurd HA.out (by simp [sandglassref43_Check.j0])
  | succ kj1 =>
   have H := HA.out
   clear HA
   simp only [sandglassref43_Check.j0] at H
   by_cases c11 : x24_1 = true
   ·
    subst c11
    have H1 : (some 1) = some r := by rw [if_pos rfl] at H; exact H
    clear H
    have H := H1
    clear H1
    obtain rfl := Option.some.inj H
    go_wp2
    repeat (go_quiet (fail); try go_wp2)
    go_ret
    exact ⟨sqe, sqs HB.out⟩
   ·
    replace c11 := Bool.eq_false_iff.mpr c11
    subst c11
    have H1 : (sandglassref43_Check.l0 kj1 0 a0_0 a0_1 l0_2) = some r := by rw [if_neg (show ¬ (false = true) by decide)] at H; exact H
    clear H
    have H := H1
    clear H1
    have H' := sqA H
    clear H
    go_wp2
    repeat (go_quiet (fail); try go_wp2)
    go_loopg [3] kj1 (fun kq v3 w' => ∃ (x3_2 : Int), v3 = .int .i64 x3_2 ∧ Aside0 (sandglassref43_Check.l0 kq x3_2 a0_0 a0_1 l0_2 = some r) ∧ Aside0 (kq ≤ kj1) ∧ Aside0 (w'.heap[gb202]? = some (.cells #[.int .i64 a0_0, .string a0_1, (.slice A0_2 l0_2.length c0_2)] 24 (0, 0))) ∧ Aside0 (Below w.heap.size w w'))
    case atStart => exact ⟨(0), sqd, H', ⟨Nat.le_refl _⟩, ⟨sqk BK202.out⟩, ⟨sqs HB.out⟩⟩
    case round =>
     clear H'
     try clear c1
     try clear p2
     try clear c4
     try clear c4b0
     try clear c6
     try clear c6b0
     try clear c8
     try clear c8b0
     try clear c8b1
     try clear c11
     try clear hcz10_0
     try clear hcz10_1
     try clear hcz10_2
     try clear hcz5_0
     try clear hcz5_1
     try clear hcz5_2
     try clear hcz7_0
     try clear hcz7_1
     try clear hcz7_2
     try clear hcz9_0
     try clear hcz9_1
     try clear hcz9_2
     try clear hfz10_0
     try clear hfz10_1
     try clear hfz10_2
     try clear hfz5_0
     try clear hfz5_1
     try clear hfz5_2
     try clear hfz7_0
     try clear hfz7_1
     try clear hfz7_2
     try clear hfz9_0
     try clear hfz9_1
     try clear hfz9_2
     try clear p2
     obtain ⟨x3_2, rfl, HA, HK2, BK202, HB⟩ := hrel
     cases gk with
     | zero => exact absurd HA.out (by simp [sandglassref43_Check.l0])
     | succ k2 =>
      have H := HA.out
      clear HA
      simp only [sandglassref43_Check.l0] at H
      by_cases c12 : x3_2 < (l0_2.length : Int)
      ·
       rw [if_pos c12] at H
       have c12b0 : decide (x3_2 < (l0_2.length : Int)) = true := decide_eq_true c12
       clear c12
       by_cases c13 : 0 ≤ x3_2
       ·
        rw [if_pos c13] at H
        have c13b0 : decide (0 ≤ x3_2) = true := decide_eq_true c13
        clear c13
        replace H := Option.bind_eq_some_iff.mp H
        obtain ⟨t204, A140, H⟩ := H
        replace H : (if t204 = true then (sandglassref43_Check.l1 k2 x3_2 0 a0_0 a0_1 l0_2) else (some 1)) = some r := H
        have A14 := sqA A140
        clear A140
        by_cases c15 : t204 = true
        ·
         subst c15
         have H1 : (sandglassref43_Check.l1 k2 x3_2 0 a0_0 a0_1 l0_2) = some r := by rw [if_pos rfl] at H; exact H
         clear H
         have H := H1
         clear H1
         have H' := sqA H
         clear H
         have hcz16_0 : wr.cell? ⟨gb202, 0, none⟩ = some (.int .i64 a0_0) := (blk_cell BK202.out 0).trans rfl
         have hcz16_1 : wr.cell? ⟨gb202, 1, none⟩ = some (.string a0_1) := (blk_cell BK202.out 1).trans rfl
         have hcz16_2 : wr.cell? ⟨gb202, 2, none⟩ = some (.slice A0_2 l0_2.length c0_2) := (blk_cell BK202.out 2).trans rfl
         have hfz16_0 := blk_frozen BK202.out 0
         have hfz16_1 := blk_frozen BK202.out 1
         have hfz16_2 := blk_frozen BK202.out 2
         have p203 : 0 ≤ (x3_2 : Int) := of_decide_eq_true sqa
         have q203 : x3_2 < (l0_2.length : Int) := of_decide_eq_true sqa
         obtain ⟨ad203, e203, hx203_0, hx203_1, hx203_2, hx203_3, hx203_4, hx203_5⟩ := at_T53 HR0_2.out x3_2 p203 q203
         cases e203
         replace hx203_0 := (HB.out.cell (World.block_lt_of_cell? w _ hx203_0)).trans hx203_0
         replace hx203_1 := (HB.out.cell (World.block_lt_of_cell? w _ hx203_1)).trans hx203_1
         replace hx203_2 := (HB.out.cell (World.block_lt_of_cell? w _ hx203_2)).trans hx203_2
         replace hx203_3 := (HB.out.cell (World.block_lt_of_cell? w _ hx203_3)).trans hx203_3
         replace hx203_4 := (HB.out.cell (World.block_lt_of_cell? w _ hx203_4)).trans hx203_4
         replace hx203_5 := (HB.out.cell (World.block_lt_of_cell? w _ hx203_5)).trans hx203_5
         replace p203 := eq_true p203
         replace q203 := eq_true q203
         go_wp2_with (first | (go_at_call 31; (with_reducible refine (sandglassref42_May.calls ((rd_T53 l0_2 x3_2).f0) ((rd_T53 l0_2 x3_2).f1) ((rd_T53 l0_2 x3_2).f2.f0) ((rd_T53 l0_2 x3_2).f2.f1) ((rd_T53 l0_2 x3_2).f2.f2) ((rd_T53 l0_2 x3_2).f2.f3) true _ A14.out).mono ?_); rintro e w17 ⟨rfl, hb⟩; have n0_ := sqA (blk_below (g := gb202) (o := .cells #[.int .i64 a0_0, .string a0_1, .slice (some ad203) l0_2.length c0_2] 24 (0, 0)) (sqk BK202.out) hb); have n1_ := sqA (below_step (sqs HB.out) hb); clear BK202; clear HB; have BK202 := n0_; have HB := n1_; clear n0_ n1_; (try clear hb); (try clear hb2); (try clear hk); (try clear hi)))
         repeat (go_quiet (first | (go_at_call 31; (with_reducible refine (sandglassref42_May.calls ((rd_T53 l0_2 x3_2).f0) ((rd_T53 l0_2 x3_2).f1) ((rd_T53 l0_2 x3_2).f2.f0) ((rd_T53 l0_2 x3_2).f2.f1) ((rd_T53 l0_2 x3_2).f2.f2) ((rd_T53 l0_2 x3_2).f2.f3) true _ A14.out).mono ?_); rintro e w17 ⟨rfl, hb⟩; have n0_ := sqA (blk_below (g := gb202) (o := .cells #[.int .i64 a0_0, .string a0_1, .slice (some ad203) l0_2.length c0_2] 24 (0, 0)) (sqk BK202.out) hb); have n1_ := sqA (below_step (sqs HB.out) hb); clear BK202; clear HB; have BK202 := n0_; have HB := n1_; clear n0_ n1_; (try clear hb); (try clear hb2); (try clear hk); (try clear hi))); try go_wp2_with (first | (go_at_call 31; (with_reducible refine (sandglassref42_May.calls ((rd_T53 l0_2 x3_2).f0) ((rd_T53 l0_2 x3_2).f1) ((rd_T53 l0_2 x3_2).f2.f0) ((rd_T53 l0_2 x3_2).f2.f1) ((rd_T53 l0_2 x3_2).f2.f2) ((rd_T53 l0_2 x3_2).f2.f3) true _ A14.out).mono ?_); rintro e w17 ⟨rfl, hb⟩; have n0_ := sqA (blk_below (g := gb202) (o := .cells #[.int .i64 a0_0, .string a0_1, .slice (some ad203) l0_2.length c0_2] 24 (0, 0)) (sqk BK202.out) hb); have n1_ := sqA (below_step (sqs HB.out) hb); clear BK202; clear HB; have BK202 := n0_; have HB := n1_; clear n0_ n1_; (try clear hb); (try clear hb2); (try clear hk); (try clear hi))))
         go_loopg [4] k2 (fun kq v4 w' => ∃ (x4_3 : Int), v4 = .int .i64 x4_3 ∧ Aside0 (sandglassref43_Check.l1 kq x3_2 x4_3 a0_0 a0_1 l0_2 = some r) ∧ Aside0 (kq ≤ k2) ∧ Aside0 (w'.heap[gb202]? = some (.cells #[.int .i64 a0_0, .string a0_1, (.slice (some ad203) l0_2.length c0_2)] 24 (0, 0))) ∧ Aside0 (Below w.heap.size w w'))
         case atStart => exact ⟨(0), sqd, H', ⟨Nat.le_refl _⟩, ⟨sqk BK202.out⟩, ⟨sqs HB.out⟩⟩
         case round =>
          clear H'
          try clear c1
          try clear p2
          try clear q2
          try clear hx2
          try clear c4
          try clear c4b0
          try clear c6
          try clear c6b0
          try clear c8
          try clear c8b0
          try clear c8b1
          try clear c11
          try clear c12
          try clear c12b0
          try clear c13
          try clear c13b0
          try clear c15
          try clear hcz10_0
          try clear hcz10_1
          try clear hcz10_2
          try clear hcz16_0
          try clear hcz16_1
          try clear hcz16_2
          try clear hcz5_0
          try clear hcz5_1
          try clear hcz5_2
          try clear hcz7_0
          try clear hcz7_1
          try clear hcz7_2
          try clear hcz9_0
          try clear hcz9_1
          try clear hcz9_2
          try clear hfz10_0
          try clear hfz10_1
          try clear hfz10_2
          try clear hfz16_0
          try clear hfz16_1
          try clear hfz16_2
          try clear hfz5_0
          try clear hfz5_1
          try clear hfz5_2
          try clear hfz7_0
          try clear hfz7_1
          try clear hfz7_2
          try clear hfz9_0
          try clear hfz9_1
          try clear hfz9_2
          try clear hx203_0
          try clear hx203_1
          try clear hx203_2
          try clear hx203_3
          try clear hx203_4
          try clear hx203_5
          try clear p2
          try clear p203
          try clear q203
          obtain ⟨x4_3, rfl, HA, HK3, BK202, HB⟩ := hrel
          cases gk with
          | zero => exact absurd HA.out (by simp [sandglassref43_Check.l1])
          | succ k3 =>
           have H := HA.out
           clear HA
           simp only [sandglassref43_Check.l1] at H
           by_cases c18 : x4_3 < x3_2
           ·
            rw [if_pos c18] at H
            have c18b0 : decide (x4_3 < x3_2) = true := decide_eq_true c18
            clear c18
            by_cases c19 : 0 ≤ x4_3
            ·
             rw [if_pos c19] at H
             have c19b0 : decide (0 ≤ x4_3) = true := decide_eq_true c19
             clear c19
             by_cases c20 : x4_3 < (l0_2.length : Int)
             ·
              rw [if_pos c20] at H
              have c20b0 : decide (x4_3 < (l0_2.length : Int)) = true := decide_eq_true c20
              clear c20
              by_cases c21 : 0 ≤ x3_2
              ·
               rw [if_pos c21] at H
               have c21b0 : decide (0 ≤ x3_2) = true := decide_eq_true c21
               clear c21
               by_cases c22 : x3_2 < (l0_2.length : Int)
               ·
                rw [if_pos c22] at H
                have c22b0 : decide (x3_2 < (l0_2.length : Int)) = true := decide_eq_true c22
                clear c22
                by_cases c23 : ((rd_T53 l0_2 x4_3).f0) = ((rd_T53 l0_2 x3_2).f0)
                ·
                 rw [if_pos c23] at H
                 have c23b0 : (((rd_T53 l0_2 x4_3).f0) == ((rd_T53 l0_2 x3_2).f0)) = true := beq_iff_eq.mpr c23
                 have c23b1 : (((rd_T53 l0_2 x4_3).f0) != ((rd_T53 l0_2 x3_2).f0)) = false := bne_eq_false_iff_eq.mpr c23
                 clear c23
                 by_cases c24 : ((rd_T53 l0_2 x4_3).f1) = ((rd_T53 l0_2 x3_2).f1)
                 ·
                  rw [if_pos c24] at H
                  have c24b0 : (((rd_T53 l0_2 x4_3).f1) == ((rd_T53 l0_2 x3_2).f1)) = true := beq_iff_eq.mpr c24
                  have c24b1 : (((rd_T53 l0_2 x4_3).f1) != ((rd_T53 l0_2 x3_2).f1)) = false := bne_eq_false_iff_eq.mpr c24
                  clear c24
                  obtain rfl := Option.some.inj H
                  have hcz25_0 : wr.cell? ⟨gb202, 0, none⟩ = some (.int .i64 a0_0) := (blk_cell BK202.out 0).trans rfl
                  have hcz25_1 : wr.cell? ⟨gb202, 1, none⟩ = some (.string a0_1) := (blk_cell BK202.out 1).trans rfl
                  have hcz25_2 : wr.cell? ⟨gb202, 2, none⟩ = some (.slice (some ad203) l0_2.length c0_2) := (blk_cell BK202.out 2).trans rfl
                  have hfz25_0 := blk_frozen BK202.out 0
                  have hfz25_1 := blk_frozen BK202.out 1
                  have hfz25_2 := blk_frozen BK202.out 2
                  have p205 : 0 ≤ (x4_3 : Int) := of_decide_eq_true sqa
                  have q205 : x4_3 < (l0_2.length : Int) := of_decide_eq_true sqa
                  obtain ⟨ad205, e205, hx205_0, hx205_1, hx205_2, hx205_3, hx205_4, hx205_5⟩ := at_T53 HR0_2.out x4_3 p205 q205
                  obtain rfl : ad203 = ad205 := (by injection e205)
                  replace hx205_0 := (HB.out.cell (World.block_lt_of_cell? w _ hx205_0)).trans hx205_0
                  replace hx205_1 := (HB.out.cell (World.block_lt_of_cell? w _ hx205_1)).trans hx205_1
                  replace hx205_2 := (HB.out.cell (World.block_lt_of_cell? w _ hx205_2)).trans hx205_2
                  replace hx205_3 := (HB.out.cell (World.block_lt_of_cell? w _ hx205_3)).trans hx205_3
                  replace hx205_4 := (HB.out.cell (World.block_lt_of_cell? w _ hx205_4)).trans hx205_4
                  replace hx205_5 := (HB.out.cell (World.block_lt_of_cell? w _ hx205_5)).trans hx205_5
                  replace p205 := eq_true p205
                  replace q205 := eq_true q205
                  have p206 : 0 ≤ (x3_2 : Int) := of_decide_eq_true sqa
                  have q206 : x3_2 < (l0_2.length : Int) := of_decide_eq_true sqa
                  obtain ⟨ad206, e206, hx206_0, hx206_1, hx206_2, hx206_3, hx206_4, hx206_5⟩ := at_T53 HR0_2.out x3_2 p206 q206
                  obtain rfl : ad203 = ad206 := (by injection e206)
                  replace hx206_0 := (HB.out.cell (World.block_lt_of_cell? w _ hx206_0)).trans hx206_0
                  replace hx206_1 := (HB.out.cell (World.block_lt_of_cell? w _ hx206_1)).trans hx206_1
                  replace hx206_2 := (HB.out.cell (World.block_lt_of_cell? w _ hx206_2)).trans hx206_2
                  replace hx206_3 := (HB.out.cell (World.block_lt_of_cell? w _ hx206_3)).trans hx206_3
                  replace hx206_4 := (HB.out.cell (World.block_lt_of_cell? w _ hx206_4)).trans hx206_4
                  replace hx206_5 := (HB.out.cell (World.block_lt_of_cell? w _ hx206_5)).trans hx206_5
                  replace p206 := eq_true p206
                  replace q206 := eq_true q206
                  have p207 : 0 ≤ (x4_3 : Int) := of_decide_eq_true sqa
                  have q207 : x4_3 < (l0_2.length : Int) := of_decide_eq_true sqa
                  obtain ⟨ad207, e207, hx207_0, hx207_1, hx207_2, hx207_3, hx207_4, hx207_5⟩ := at_T53 HR0_2.out x4_3 p207 q207
                  obtain rfl : ad203 = ad207 := (by injection e207)
                  replace hx207_0 := (HB.out.cell (World.block_lt_of_cell? w _ hx207_0)).trans hx207_0
                  replace hx207_1 := (HB.out.cell (World.block_lt_of_cell? w _ hx207_1)).trans hx207_1
                  replace hx207_2 := (HB.out.cell (World.block_lt_of_cell? w _ hx207_2)).trans hx207_2
                  replace hx207_3 := (HB.out.cell (World.block_lt_of_cell? w _ hx207_3)).trans hx207_3
                  replace hx207_4 := (HB.out.cell (World.block_lt_of_cell? w _ hx207_4)).trans hx207_4
                  replace hx207_5 := (HB.out.cell (World.block_lt_of_cell? w _ hx207_5)).trans hx207_5
                  replace p207 := eq_true p207
                  replace q207 := eq_true q207
                  have p208 : 0 ≤ (x3_2 : Int) := of_decide_eq_true sqa
                  have q208 : x3_2 < (l0_2.length : Int) := of_decide_eq_true sqa
                  obtain ⟨ad208, e208, hx208_0, hx208_1, hx208_2, hx208_3, hx208_4, hx208_5⟩ := at_T53 HR0_2.out x3_2 p208 q208
                  obtain rfl : ad203 = ad208 := (by injection e208)
                  replace hx208_0 := (HB.out.cell (World.block_lt_of_cell? w _ hx208_0)).trans hx208_0
                  replace hx208_1 := (HB.out.cell (World.block_lt_of_cell? w _ hx208_1)).trans hx208_1
                  replace hx208_2 := (HB.out.cell (World.block_lt_of_cell? w _ hx208_2)).trans hx208_2
                  replace hx208_3 := (HB.out.cell (World.block_lt_of_cell? w _ hx208_3)).trans hx208_3
                  replace hx208_4 := (HB.out.cell (World.block_lt_of_cell? w _ hx208_4)).trans hx208_4
                  replace hx208_5 := (HB.out.cell (World.block_lt_of_cell? w _ hx208_5)).trans hx208_5
                  replace p208 := eq_true p208
                  replace q208 := eq_true q208
                  go_wp2
                  repeat (go_quiet (fail); try go_wp2)
                  go_ret
                  exact ⟨sqe, sqs HB.out⟩
                 ·
                  rw [if_neg c24] at H
                  have c24b0 : (((rd_T53 l0_2 x4_3).f1) == ((rd_T53 l0_2 x3_2).f1)) = false := beq_eq_false_iff_ne.mpr c24
                  have c24b1 : (((rd_T53 l0_2 x4_3).f1) != ((rd_T53 l0_2 x3_2).f1)) = true := bne_iff_ne.mpr c24
                  have H' := sqA H
                  clear H
                  have hcz26_0 : wr.cell? ⟨gb202, 0, none⟩ = some (.int .i64 a0_0) := (blk_cell BK202.out 0).trans rfl
                  have hcz26_1 : wr.cell? ⟨gb202, 1, none⟩ = some (.string a0_1) := (blk_cell BK202.out 1).trans rfl
                  have hcz26_2 : wr.cell? ⟨gb202, 2, none⟩ = some (.slice (some ad203) l0_2.length c0_2) := (blk_cell BK202.out 2).trans rfl
                  have hfz26_0 := blk_frozen BK202.out 0
                  have hfz26_1 := blk_frozen BK202.out 1
                  have hfz26_2 := blk_frozen BK202.out 2
                  have p205 : 0 ≤ (x4_3 : Int) := of_decide_eq_true sqa
                  have q205 : x4_3 < (l0_2.length : Int) := of_decide_eq_true sqa
                  obtain ⟨ad205, e205, hx205_0, hx205_1, hx205_2, hx205_3, hx205_4, hx205_5⟩ := at_T53 HR0_2.out x4_3 p205 q205
                  obtain rfl : ad203 = ad205 := (by injection e205)
                  replace hx205_0 := (HB.out.cell (World.block_lt_of_cell? w _ hx205_0)).trans hx205_0
                  replace hx205_1 := (HB.out.cell (World.block_lt_of_cell? w _ hx205_1)).trans hx205_1
                  replace hx205_2 := (HB.out.cell (World.block_lt_of_cell? w _ hx205_2)).trans hx205_2
                  replace hx205_3 := (HB.out.cell (World.block_lt_of_cell? w _ hx205_3)).trans hx205_3
                  replace hx205_4 := (HB.out.cell (World.block_lt_of_cell? w _ hx205_4)).trans hx205_4
                  replace hx205_5 := (HB.out.cell (World.block_lt_of_cell? w _ hx205_5)).trans hx205_5
                  replace p205 := eq_true p205
                  replace q205 := eq_true q205
                  have p206 : 0 ≤ (x3_2 : Int) := of_decide_eq_true sqa
                  have q206 : x3_2 < (l0_2.length : Int) := of_decide_eq_true sqa
                  obtain ⟨ad206, e206, hx206_0, hx206_1, hx206_2, hx206_3, hx206_4, hx206_5⟩ := at_T53 HR0_2.out x3_2 p206 q206
                  obtain rfl : ad203 = ad206 := (by injection e206)
                  replace hx206_0 := (HB.out.cell (World.block_lt_of_cell? w _ hx206_0)).trans hx206_0
                  replace hx206_1 := (HB.out.cell (World.block_lt_of_cell? w _ hx206_1)).trans hx206_1
                  replace hx206_2 := (HB.out.cell (World.block_lt_of_cell? w _ hx206_2)).trans hx206_2
                  replace hx206_3 := (HB.out.cell (World.block_lt_of_cell? w _ hx206_3)).trans hx206_3
                  replace hx206_4 := (HB.out.cell (World.block_lt_of_cell? w _ hx206_4)).trans hx206_4
                  replace hx206_5 := (HB.out.cell (World.block_lt_of_cell? w _ hx206_5)).trans hx206_5
                  replace p206 := eq_true p206
                  replace q206 := eq_true q206
                  have p207 : 0 ≤ (x4_3 : Int) := of_decide_eq_true sqa
                  have q207 : x4_3 < (l0_2.length : Int) := of_decide_eq_true sqa
                  obtain ⟨ad207, e207, hx207_0, hx207_1, hx207_2, hx207_3, hx207_4, hx207_5⟩ := at_T53 HR0_2.out x4_3 p207 q207
                  obtain rfl : ad203 = ad207 := (by injection e207)
                  replace hx207_0 := (HB.out.cell (World.block_lt_of_cell? w _ hx207_0)).trans hx207_0
                  replace hx207_1 := (HB.out.cell (World.block_lt_of_cell? w _ hx207_1)).trans hx207_1
                  replace hx207_2 := (HB.out.cell (World.block_lt_of_cell? w _ hx207_2)).trans hx207_2
                  replace hx207_3 := (HB.out.cell (World.block_lt_of_cell? w _ hx207_3)).trans hx207_3
                  replace hx207_4 := (HB.out.cell (World.block_lt_of_cell? w _ hx207_4)).trans hx207_4
                  replace hx207_5 := (HB.out.cell (World.block_lt_of_cell? w _ hx207_5)).trans hx207_5
                  replace p207 := eq_true p207
                  replace q207 := eq_true q207
                  have p208 : 0 ≤ (x3_2 : Int) := of_decide_eq_true sqa
                  have q208 : x3_2 < (l0_2.length : Int) := of_decide_eq_true sqa
                  obtain ⟨ad208, e208, hx208_0, hx208_1, hx208_2, hx208_3, hx208_4, hx208_5⟩ := at_T53 HR0_2.out x3_2 p208 q208
                  obtain rfl : ad203 = ad208 := (by injection e208)
                  replace hx208_0 := (HB.out.cell (World.block_lt_of_cell? w _ hx208_0)).trans hx208_0
                  replace hx208_1 := (HB.out.cell (World.block_lt_of_cell? w _ hx208_1)).trans hx208_1
                  replace hx208_2 := (HB.out.cell (World.block_lt_of_cell? w _ hx208_2)).trans hx208_2
                  replace hx208_3 := (HB.out.cell (World.block_lt_of_cell? w _ hx208_3)).trans hx208_3
                  replace hx208_4 := (HB.out.cell (World.block_lt_of_cell? w _ hx208_4)).trans hx208_4
                  replace hx208_5 := (HB.out.cell (World.block_lt_of_cell? w _ hx208_5)).trans hx208_5
                  replace p208 := eq_true p208
                  replace q208 := eq_true q208
                  go_wp2
                  repeat (go_quiet (fail); try go_wp2)
                  go_roundg k3
                  case measure => have := HJ1.out; have := HK2.out; have := HK3.out; omega
                  case rel => exact ⟨(wrap64 (x4_3 + 1)), sqd, H', ⟨by have := HJ1.out; have := HK2.out; have := HK3.out; omega⟩, ⟨sqk BK202.out⟩, ⟨sqs HB.out⟩⟩
                ·
                 rw [if_neg c23] at H
                 have c23b0 : (((rd_T53 l0_2 x4_3).f0) == ((rd_T53 l0_2 x3_2).f0)) = false := beq_eq_false_iff_ne.mpr c23
                 have c23b1 : (((rd_T53 l0_2 x4_3).f0) != ((rd_T53 l0_2 x3_2).f0)) = true := bne_iff_ne.mpr c23
                 have H' := sqA H
                 clear H
                 have hcz27_0 : wr.cell? ⟨gb202, 0, none⟩ = some (.int .i64 a0_0) := (blk_cell BK202.out 0).trans rfl
                 have hcz27_1 : wr.cell? ⟨gb202, 1, none⟩ = some (.string a0_1) := (blk_cell BK202.out 1).trans rfl
                 have hcz27_2 : wr.cell? ⟨gb202, 2, none⟩ = some (.slice (some ad203) l0_2.length c0_2) := (blk_cell BK202.out 2).trans rfl
                 have hfz27_0 := blk_frozen BK202.out 0
                 have hfz27_1 := blk_frozen BK202.out 1
                 have hfz27_2 := blk_frozen BK202.out 2
                 have p205 : 0 ≤ (x4_3 : Int) := of_decide_eq_true sqa
                 have q205 : x4_3 < (l0_2.length : Int) := of_decide_eq_true sqa
                 obtain ⟨ad205, e205, hx205_0, hx205_1, hx205_2, hx205_3, hx205_4, hx205_5⟩ := at_T53 HR0_2.out x4_3 p205 q205
                 obtain rfl : ad203 = ad205 := (by injection e205)
                 replace hx205_0 := (HB.out.cell (World.block_lt_of_cell? w _ hx205_0)).trans hx205_0
                 replace hx205_1 := (HB.out.cell (World.block_lt_of_cell? w _ hx205_1)).trans hx205_1
                 replace hx205_2 := (HB.out.cell (World.block_lt_of_cell? w _ hx205_2)).trans hx205_2
                 replace hx205_3 := (HB.out.cell (World.block_lt_of_cell? w _ hx205_3)).trans hx205_3
                 replace hx205_4 := (HB.out.cell (World.block_lt_of_cell? w _ hx205_4)).trans hx205_4
                 replace hx205_5 := (HB.out.cell (World.block_lt_of_cell? w _ hx205_5)).trans hx205_5
                 replace p205 := eq_true p205
                 replace q205 := eq_true q205
                 have p206 : 0 ≤ (x3_2 : Int) := of_decide_eq_true sqa
                 have q206 : x3_2 < (l0_2.length : Int) := of_decide_eq_true sqa
                 obtain ⟨ad206, e206, hx206_0, hx206_1, hx206_2, hx206_3, hx206_4, hx206_5⟩ := at_T53 HR0_2.out x3_2 p206 q206
                 obtain rfl : ad203 = ad206 := (by injection e206)
                 replace hx206_0 := (HB.out.cell (World.block_lt_of_cell? w _ hx206_0)).trans hx206_0
                 replace hx206_1 := (HB.out.cell (World.block_lt_of_cell? w _ hx206_1)).trans hx206_1
                 replace hx206_2 := (HB.out.cell (World.block_lt_of_cell? w _ hx206_2)).trans hx206_2
                 replace hx206_3 := (HB.out.cell (World.block_lt_of_cell? w _ hx206_3)).trans hx206_3
                 replace hx206_4 := (HB.out.cell (World.block_lt_of_cell? w _ hx206_4)).trans hx206_4
                 replace hx206_5 := (HB.out.cell (World.block_lt_of_cell? w _ hx206_5)).trans hx206_5
                 replace p206 := eq_true p206
                 replace q206 := eq_true q206
                 go_wp2
                 repeat (go_quiet (fail); try go_wp2)
                 go_roundg k3
                 case measure => have := HJ1.out; have := HK2.out; have := HK3.out; omega
                 case rel => exact ⟨(wrap64 (x4_3 + 1)), sqd, H', ⟨by have := HJ1.out; have := HK2.out; have := HK3.out; omega⟩, ⟨sqk BK202.out⟩, ⟨sqs HB.out⟩⟩
               ·
                rw [if_neg c22] at H
                exact absurd H (by simp)
              ·
               rw [if_neg c21] at H
               exact absurd H (by simp)
             ·
              rw [if_neg c20] at H
              exact absurd H (by simp)
            ·
             rw [if_neg c19] at H
             exact absurd H (by simp)
           ·
            rw [if_neg c18] at H
            have c18b0 : decide (x4_3 < x3_2) = false := decide_eq_false c18
            clear c18
            have H' := sqA H
            clear H
            go_wp2
            repeat (go_quiet (fail); try go_wp2)
            go_roundg k3
            case measure => have := HJ1.out; have := HK2.out; have := HK3.out; omega
            case rel => exact ⟨(wrap64 (x3_2 + 1)), sqd, H', ⟨by have := HJ1.out; have := HK2.out; have := HK3.out; omega⟩, ⟨sqk BK202.out⟩, ⟨sqs HB.out⟩⟩
        ·
         replace c15 := Bool.eq_false_iff.mpr c15
         subst c15
         have H1 : (some 1) = some r := by rw [if_neg (show ¬ (false = true) by decide)] at H; exact H
         clear H
         have H := H1
         clear H1
         obtain rfl := Option.some.inj H
         have hcz28_0 : wr.cell? ⟨gb202, 0, none⟩ = some (.int .i64 a0_0) := (blk_cell BK202.out 0).trans rfl
         have hcz28_1 : wr.cell? ⟨gb202, 1, none⟩ = some (.string a0_1) := (blk_cell BK202.out 1).trans rfl
         have hcz28_2 : wr.cell? ⟨gb202, 2, none⟩ = some (.slice A0_2 l0_2.length c0_2) := (blk_cell BK202.out 2).trans rfl
         have hfz28_0 := blk_frozen BK202.out 0
         have hfz28_1 := blk_frozen BK202.out 1
         have hfz28_2 := blk_frozen BK202.out 2
         have p203 : 0 ≤ (x3_2 : Int) := of_decide_eq_true sqa
         have q203 : x3_2 < (l0_2.length : Int) := of_decide_eq_true sqa
         obtain ⟨ad203, e203, hx203_0, hx203_1, hx203_2, hx203_3, hx203_4, hx203_5⟩ := at_T53 HR0_2.out x3_2 p203 q203
         cases e203
         replace hx203_0 := (HB.out.cell (World.block_lt_of_cell? w _ hx203_0)).trans hx203_0
         replace hx203_1 := (HB.out.cell (World.block_lt_of_cell? w _ hx203_1)).trans hx203_1
         replace hx203_2 := (HB.out.cell (World.block_lt_of_cell? w _ hx203_2)).trans hx203_2
         replace hx203_3 := (HB.out.cell (World.block_lt_of_cell? w _ hx203_3)).trans hx203_3
         replace hx203_4 := (HB.out.cell (World.block_lt_of_cell? w _ hx203_4)).trans hx203_4
         replace hx203_5 := (HB.out.cell (World.block_lt_of_cell? w _ hx203_5)).trans hx203_5
         replace p203 := eq_true p203
         replace q203 := eq_true q203
         go_wp2_with (first | (go_at_call 31; (with_reducible refine (sandglassref42_May.calls ((rd_T53 l0_2 x3_2).f0) ((rd_T53 l0_2 x3_2).f1) ((rd_T53 l0_2 x3_2).f2.f0) ((rd_T53 l0_2 x3_2).f2.f1) ((rd_T53 l0_2 x3_2).f2.f2) ((rd_T53 l0_2 x3_2).f2.f3) false _ A14.out).mono ?_); rintro e w29 ⟨rfl, hb⟩; have n0_ := sqA (blk_below (g := gb202) (o := .cells #[.int .i64 a0_0, .string a0_1, .slice (some ad203) l0_2.length c0_2] 24 (0, 0)) (sqk BK202.out) hb); have n1_ := sqA (below_step (sqs HB.out) hb); clear BK202; clear HB; have BK202 := n0_; have HB := n1_; clear n0_ n1_; (try clear hb); (try clear hb2); (try clear hk); (try clear hi)))
         repeat (go_quiet (first | (go_at_call 31; (with_reducible refine (sandglassref42_May.calls ((rd_T53 l0_2 x3_2).f0) ((rd_T53 l0_2 x3_2).f1) ((rd_T53 l0_2 x3_2).f2.f0) ((rd_T53 l0_2 x3_2).f2.f1) ((rd_T53 l0_2 x3_2).f2.f2) ((rd_T53 l0_2 x3_2).f2.f3) false _ A14.out).mono ?_); rintro e w29 ⟨rfl, hb⟩; have n0_ := sqA (blk_below (g := gb202) (o := .cells #[.int .i64 a0_0, .string a0_1, .slice (some ad203) l0_2.length c0_2] 24 (0, 0)) (sqk BK202.out) hb); have n1_ := sqA (below_step (sqs HB.out) hb); clear BK202; clear HB; have BK202 := n0_; have HB := n1_; clear n0_ n1_; (try clear hb); (try clear hb2); (try clear hk); (try clear hi))); try go_wp2_with (first | (go_at_call 31; (with_reducible refine (sandglassref42_May.calls ((rd_T53 l0_2 x3_2).f0) ((rd_T53 l0_2 x3_2).f1) ((rd_T53 l0_2 x3_2).f2.f0) ((rd_T53 l0_2 x3_2).f2.f1) ((rd_T53 l0_2 x3_2).f2.f2) ((rd_T53 l0_2 x3_2).f2.f3) false _ A14.out).mono ?_); rintro e w29 ⟨rfl, hb⟩; have n0_ := sqA (blk_below (g := gb202) (o := .cells #[.int .i64 a0_0, .string a0_1, .slice (some ad203) l0_2.length c0_2] 24 (0, 0)) (sqk BK202.out) hb); have n1_ := sqA (below_step (sqs HB.out) hb); clear BK202; clear HB; have BK202 := n0_; have HB := n1_; clear n0_ n1_; (try clear hb); (try clear hb2); (try clear hk); (try clear hi))))
         go_ret
         exact ⟨sqe, sqs HB.out⟩
       ·
        rw [if_neg c13] at H
        exact absurd H (by simp)
      ·
       rw [if_neg c12] at H
       have c12b0 : decide (x3_2 < (l0_2.length : Int)) = false := decide_eq_false c12
       clear c12
       obtain rfl := Option.some.inj H
       have hcz30_0 : wr.cell? ⟨gb202, 0, none⟩ = some (.int .i64 a0_0) := (blk_cell BK202.out 0).trans rfl
       have hcz30_1 : wr.cell? ⟨gb202, 1, none⟩ = some (.string a0_1) := (blk_cell BK202.out 1).trans rfl
       have hcz30_2 : wr.cell? ⟨gb202, 2, none⟩ = some (.slice A0_2 l0_2.length c0_2) := (blk_cell BK202.out 2).trans rfl
       have hfz30_0 := blk_frozen BK202.out 0
       have hfz30_1 := blk_frozen BK202.out 1
       have hfz30_2 := blk_frozen BK202.out 2
       go_wp2
       repeat (go_quiet (fail); try go_wp2)
       go_ret
       exact ⟨sqe, sqs HB.out⟩
end Go.Proofs.YtifpomknkjegeaaDoor.PAll
