/- Printed by a program of this claim: the machine side of its law, for every input; no condition. -/
import Derived.Test.YtifpomknkjegeaaDoorPAllx0
import Derived.Test.YtifpomknkjegeaaDoorPAllx57
import Derived.Test.YtifpomknkjegeaaDoorPAllx58
namespace Go.Proofs.YtifpomknkjegeaaDoor.PAll
open Go.RowKit Go.Proofs.YtifpomknkjegeaaDoorW.PrintWords Go.Proofs.YtifpomknkjegeaaDoorW.PrintLast Go.Proofs.YtifpomknkjegeaaDoorW.PrintMore
attribute [local go_sem] max2_int min2_int max_two min_two max_three min_three max_four min_four
set_option linter.unusedVariables false
set_option linter.unusedSimpArgs false
attribute [local go_sem] all_u8 all_u32 all_u64
def sandglassref07_root.l0 : Nat → Int → Int → Int → Int → Option (Int)
 | 0, _, _, _, _ => none
 | k + 1, x0, x1, x5, x6 => if x6 ≥ 0 then (if 0 ≤ (IntKind.u64.wrap (x6)) then ((some (([Go.bits .and .u64 (Go.bits .or .u64 x5 (shl .u64 1 (IntKind.u64.wrap (x6)))) 4294967295, (Go.bits .or .u64 x5 (shl .u64 1 (IntKind.u64.wrap (x6)))) / 4294967296] : List Int) : List Int)).bind fun y318 => ((sandglassref07_mul.f k y318 y318).bind fun t321 => (if x1 = 3 then ((sandglassref07_mul.f k t321 y318).bind fun t324 => ((sandglassref07_above.f k t324 x0 x1).bind fun t327 => (if t327 = true then (sandglassref07_root.l0 k x0 x1 x5 (wrap64 (x6 - 1))) else (sandglassref07_root.l0 k x0 x1 (Go.bits .or .u64 x5 (shl .u64 1 (IntKind.u64.wrap (x6)))) (wrap64 (x6 - 1)))))) else ((sandglassref07_above.f k t321 x0 x1).bind fun t328 => (if t328 = true then (sandglassref07_root.l0 k x0 x1 x5 (wrap64 (x6 - 1))) else (sandglassref07_root.l0 k x0 x1 (Go.bits .or .u64 x5 (shl .u64 1 (IntKind.u64.wrap (x6)))) (wrap64 (x6 - 1)))))))) else (none)) else (some ((x5) % 4294967296))
def sandglassref07_root.f (k : Nat) (a0 : Int) (a1 : Int) : Option (Int) := sandglassref07_root.l0 k a0 a1 0 39
theorem sandglassref07_root.mono_l : ∀ k, (∀ y0 y1 y2 y3, LeO (sandglassref07_root.l0 k y0 y1 y2 y3) (sandglassref07_root.l0 (k + 1) y0 y1 y2 y3))
 | 0 => fun _ _ _ _ r h => by simp [sandglassref07_root.l0] at h
 | k + 1 => by
  have ih0 := sandglassref07_root.mono_l k
  ·
   intro y0 y1 y2 y3
   unfold sandglassref07_root.l0
   repeat' first
   | (with_reducible exact ih0 _ _ _ _)
   | (with_reducible exact sandglassref07_above.mono _ _ _ _)
   | (with_reducible exact sandglassref07_mul.mono _ _ _)
   | (with_reducible exact LeO.refl _)
   | (with_reducible exact LeO.none _)
   | (with_reducible refine LeO.ite ?_ ?_)
   | (with_reducible refine LeO.bind ?_ (fun _ => ?_))
   | exact ih0 _ _ _ _
   | exact sandglassref07_above.mono _ _ _ _
   | exact sandglassref07_mul.mono _ _ _
   | exact LeO.none _
   | refine LeO.ite ?_ ?_
   | refine LeO.bind ?_ (fun _ => ?_)
theorem sandglassref07_root.mono : ∀ a0 a1 k, LeO (sandglassref07_root.f k a0 a1) (sandglassref07_root.f (k + 1) a0 a1) := by
 intro a0 a1 k
 have ih0 := sandglassref07_root.mono_l k
 unfold sandglassref07_root.f
 repeat' first
   | (with_reducible exact ih0 _ _ _ _)
   | (with_reducible exact sandglassref07_above.mono _ _ _ _)
   | (with_reducible exact sandglassref07_mul.mono _ _ _)
   | (with_reducible exact LeO.refl _)
   | (with_reducible exact LeO.none _)
   | (with_reducible refine LeO.ite ?_ ?_)
   | (with_reducible refine LeO.bind ?_ (fun _ => ?_))
   | exact ih0 _ _ _ _
   | exact sandglassref07_above.mono _ _ _ _
   | exact sandglassref07_mul.mono _ _ _
   | exact LeO.none _
   | refine LeO.ite ?_ ?_
   | refine LeO.bind ?_ (fun _ => ?_)
set_option maxHeartbeats 8000000 in
set_option maxRecDepth 100000 in
theorem sandglassref07_root.calls (k : Nat) (a0 : Int) (a1 : Int) (r : Int) (w : World) (h : sandglassref07_root.f k a0 a1 = some r) :
  Calls Tryd.prog 57 #[.int .u64 a0, .int .i64 a1] w fun e w' => e = .returned (.int .u32 r) ∧ Below w.heap.size w w' := by
 have HB := sqA (Below.refl w.heap.size w)
 have H : (sandglassref07_root.l0 k a0 a1 0 39) = some r := h
 clear h
 have H' := sqA H
 clear H
 go_enter Tryd.func57, Tryd.ntmps57
 go_wp2
 go_loopg [5, 6] k (fun kq v5 v6 w' => ∃ (x5_1 : Int) (x6_1 : Int), v5 = .int .u64 x5_1 ∧ v6 = .int .i64 x6_1 ∧ Aside0 (sandglassref07_root.l0 kq a0 a1 x5_1 x6_1 = some r) ∧ Aside0 (kq ≤ k) ∧ Aside0 (Below w.heap.size w w'))
 case atStart => exact ⟨(0), (39), sqd, sqd, H', ⟨Nat.le_refl _⟩, ⟨sqb HB.out⟩⟩
 case round =>
  clear H'
  try clear p2
  obtain ⟨x5_1, x6_1, rfl, rfl, HA, HK1, HB⟩ := hrel
  cases gk with
  | zero => exact absurd HA.out (by simp [sandglassref07_root.l0])
  | succ k1 =>
   have H := HA.out
   clear HA
   simp only [sandglassref07_root.l0] at H
   by_cases c3 : x6_1 ≥ 0
   ·
    rw [if_pos c3] at H
    have c3b0 : decide (0 ≤ x6_1) = true := decide_eq_true c3
    clear c3
    obtain ⟨ji4, hji4⟩ : ∃ j_ : Int, (IntKind.u64.wrap (x6_1)) = j_ := ⟨_, rfl⟩
    replace H : (if 0 ≤ (ji4) then ((some (([Go.bits .and .u64 (Go.bits .or .u64 x5_1 (shl .u64 1 (ji4))) 4294967295, (Go.bits .or .u64 x5_1 (shl .u64 1 (ji4))) / 4294967296] : List Int) : List Int)).bind fun y318 => ((sandglassref07_mul.f k1 y318 y318).bind fun t321 => (if a1 = 3 then ((sandglassref07_mul.f k1 t321 y318).bind fun t324 => ((sandglassref07_above.f k1 t324 a0 a1).bind fun t327 => (if t327 = true then (sandglassref07_root.l0 k1 a0 a1 x5_1 (wrap64 (x6_1 - 1))) else (sandglassref07_root.l0 k1 a0 a1 (Go.bits .or .u64 x5_1 (shl .u64 1 (ji4))) (wrap64 (x6_1 - 1)))))) else ((sandglassref07_above.f k1 t321 a0 a1).bind fun t328 => (if t328 = true then (sandglassref07_root.l0 k1 a0 a1 x5_1 (wrap64 (x6_1 - 1))) else (sandglassref07_root.l0 k1 a0 a1 (Go.bits .or .u64 x5_1 (shl .u64 1 (ji4))) (wrap64 (x6_1 - 1)))))))) else (none)) = some r := by first | (rw [hji4] at H; exact H) | (simp only [hji4] at H ⊢; exact H)
    by_cases c5 : 0 ≤ (ji4)
    ·
     rw [if_pos c5] at H
     have c5b0 := eq_true c5
     have c5b1 : decide (0 ≤ (ji4)) = true := decide_eq_true c5
     clear c5
     obtain ⟨ji6, hji6⟩ : ∃ j_ : Int, (shl .u64 1 (ji4)) = j_ := ⟨_, rfl⟩
     replace H : ((some (([Go.bits .and .u64 (Go.bits .or .u64 x5_1 (ji6)) 4294967295, (Go.bits .or .u64 x5_1 (ji6)) / 4294967296] : List Int) : List Int)).bind fun y318 => ((sandglassref07_mul.f k1 y318 y318).bind fun t321 => (if a1 = 3 then ((sandglassref07_mul.f k1 t321 y318).bind fun t324 => ((sandglassref07_above.f k1 t324 a0 a1).bind fun t327 => (if t327 = true then (sandglassref07_root.l0 k1 a0 a1 x5_1 (wrap64 (x6_1 - 1))) else (sandglassref07_root.l0 k1 a0 a1 (Go.bits .or .u64 x5_1 (ji6)) (wrap64 (x6_1 - 1)))))) else ((sandglassref07_above.f k1 t321 a0 a1).bind fun t328 => (if t328 = true then (sandglassref07_root.l0 k1 a0 a1 x5_1 (wrap64 (x6_1 - 1))) else (sandglassref07_root.l0 k1 a0 a1 (Go.bits .or .u64 x5_1 (ji6)) (wrap64 (x6_1 - 1)))))))) = some r := by first | (rw [hji6] at H; exact H) | (simp only [hji6] at H ⊢; exact H)
     have hji6_ : (IntKind.u64.wrap (1 * 2 ^ min (ji4).toNat 64)) = ji6 := hji6
     have hji6z : (ji4) ≤ 64 → (IntKind.u64.wrap (1 * 2 ^ (ji4).toNat)) = ji6 := shl_small hji6
     have hji6u : (IntKind.u64.wrap (2 ^ min (ji4).toNat 64)) = ji6 := by have h_ := hji6_; rw [Int.one_mul] at h_; exact h_
     have hji6v : (ji4) ≤ 64 → (IntKind.u64.wrap (2 ^ (ji4).toNat)) = ji6 := fun hle_ => by have h_ := hji6z hle_; rw [Int.one_mul] at h_; exact h_
     obtain ⟨y318, hy318⟩ : ∃ y_ : List Int, y_ = (([Go.bits .and .u64 (Go.bits .or .u64 x5_1 (ji6)) 4294967295, (Go.bits .or .u64 x5_1 (ji6)) / 4294967296] : List Int)) := ⟨_, rfl⟩
     replace H : ((sandglassref07_mul.f k1 y318 y318).bind fun t321 => (if a1 = 3 then ((sandglassref07_mul.f k1 t321 y318).bind fun t324 => ((sandglassref07_above.f k1 t324 a0 a1).bind fun t327 => (if t327 = true then (sandglassref07_root.l0 k1 a0 a1 x5_1 (wrap64 (x6_1 - 1))) else (sandglassref07_root.l0 k1 a0 a1 (Go.bits .or .u64 x5_1 (ji6)) (wrap64 (x6_1 - 1)))))) else ((sandglassref07_above.f k1 t321 a0 a1).bind fun t328 => (if t328 = true then (sandglassref07_root.l0 k1 a0 a1 x5_1 (wrap64 (x6_1 - 1))) else (sandglassref07_root.l0 k1 a0 a1 (Go.bits .or .u64 x5_1 (ji6)) (wrap64 (x6_1 - 1))))))) = some r := by first | (rw [hy318]; with_reducible exact H) | (have H2_ := (Option.bind_some _ _).symm.trans H; rw [hy318]; with_reducible exact H2_) | (have H2_ := (Option.bind_some _ _).symm.trans H; with_reducible exact H2_) | with_reducible exact H | (rw [hy318]; exact H) | exact H
     have Ny318 := sqA hy318
     clear hy318
     replace H := Option.bind_eq_some_iff.mp H
     obtain ⟨t321, A70, H⟩ := H
     replace H : (if a1 = 3 then ((sandglassref07_mul.f k1 t321 y318).bind fun t324 => ((sandglassref07_above.f k1 t324 a0 a1).bind fun t327 => (if t327 = true then (sandglassref07_root.l0 k1 a0 a1 x5_1 (wrap64 (x6_1 - 1))) else (sandglassref07_root.l0 k1 a0 a1 (Go.bits .or .u64 x5_1 (ji6)) (wrap64 (x6_1 - 1)))))) else ((sandglassref07_above.f k1 t321 a0 a1).bind fun t328 => (if t328 = true then (sandglassref07_root.l0 k1 a0 a1 x5_1 (wrap64 (x6_1 - 1))) else (sandglassref07_root.l0 k1 a0 a1 (Go.bits .or .u64 x5_1 (ji6)) (wrap64 (x6_1 - 1)))))) = some r := H
     have A7 := sqA A70
     clear A70
     by_cases c8 : a1 = 3
     ·
      rw [if_pos c8] at H
      have c8b0 : (a1 == 3) = true := beq_iff_eq.mpr c8
      have c8b1 : (a1 != 3) = false := bne_eq_false_iff_eq.mpr c8
      clear c8
      replace H := Option.bind_eq_some_iff.mp H
      obtain ⟨t324, A90, H⟩ := H
      replace H : ((sandglassref07_above.f k1 t324 a0 a1).bind fun t327 => (if t327 = true then (sandglassref07_root.l0 k1 a0 a1 x5_1 (wrap64 (x6_1 - 1))) else (sandglassref07_root.l0 k1 a0 a1 (Go.bits .or .u64 x5_1 (ji6)) (wrap64 (x6_1 - 1))))) = some r := H
      have A9 := sqA A90
      clear A90
      replace H := Option.bind_eq_some_iff.mp H
      obtain ⟨t327, A100, H⟩ := H
      replace H : (if t327 = true then (sandglassref07_root.l0 k1 a0 a1 x5_1 (wrap64 (x6_1 - 1))) else (sandglassref07_root.l0 k1 a0 a1 (Go.bits .or .u64 x5_1 (ji6)) (wrap64 (x6_1 - 1)))) = some r := H
      have A10 := sqA A100
      clear A100
      by_cases c11 : t327 = true
      ·
       subst c11
       have H1 : (sandglassref07_root.l0 k1 a0 a1 x5_1 (wrap64 (x6_1 - 1))) = some r := by rw [if_pos rfl] at H; exact H
       clear H
       have H := H1
       clear H1
       have H' := sqA H
       clear H
       go_wp2_with (first | ((with_reducible refine gate_dst (N := 23) rfl ?_); refine Kd.R_lit (Kd.int .u64) _ 87 ?hg (N := 23) ?hd (xs := ([Go.bits .and .u64 (Go.bits .or .u64 x5_1 (ji6)) 4294967295, (Go.bits .or .u64 x5_1 (ji6)) / 4294967296] : List Int)) (inner := [.int .u64 (Go.bits .and .u64 (Go.bits .or .u64 x5_1 (ji6)) 4294967295), .int .u64 ((Go.bits .or .u64 x5_1 (ji6)) / 4294967296)]) (ok := fun _ => True) (okp := fun _ => True) ?hr ?hp (fun _ hk => hk) trivial (Below.refl _ _) (Nat.le_refl _) (by simp) ?_; (case hd => rfl); (case hg => rfl); (case hr => first | (go_simp; done) | (go_simp; rfl)); (case hp => exact (Reps.one (show Kd.M (Kd.int .u64) _ _ _ (Go.bits .and .u64 (Go.bits .or .u64 x5_1 (ji6)) 4294967295) [.int .u64 (Go.bits .and .u64 (Go.bits .or .u64 x5_1 (ji6)) 4294967295)] from rfl) (Reps.one (show Kd.M (Kd.int .u64) _ _ _ ((Go.bits .or .u64 x5_1 (ji6)) / 4294967296) [.int .u64 ((Go.bits .or .u64 x5_1 (ji6)) / 4294967296)] from rfl) (Reps.none _ _)))); intro v319 w12 ho13 hb hg_ hnew_; clear hg_ hnew_; (first | rw [← Ny318.out] at ho13 | (simp only [Int.reduceToNat] at ho13; rw [← Ny318.out] at ho13)); have n0_ := sqA (Kd.R_lower ho13 (below_size (sqb HB.out))); have n1_ := sqA (below_step (sqb HB.out) hb); clear HB; have HO320 := n0_; have HB := n1_; clear n0_ n1_; clear hb ho13; obtain ⟨Ao14, co14, eo14⟩ := Kd.R_slice HO320.out; subst eo14) | ((with_reducible refine gate_callee (f := 63) rfl ?_); refine goesL_ (some 26) rfl rfl Tryd.func63 (by kernel_rfl) rfl #[.slice Ao14 y318.length co14, .slice Ao14 y318.length co14] rfl sqn ?_; (with_reducible refine (sandglassref07_mul.calls k1 _ _ y318 _ _ y318 t321 _ ?side1 ?side2 ?side3 ?side4 A7.out).mono ?_); (case side1 => repeat (first | exact (Kd.R_reads' HO320.out).2.2 | (with_reducible refine Kd.C_alloc ?_ _) | (with_reducible refine Kd.C_drewN ?_ _) | (with_reducible refine Kd.C_drew ?_))); (case side2 => exact (Kd.R_reads' HO320.out).2.1); (case side3 => repeat (first | exact (Kd.R_reads' HO320.out).2.2 | (with_reducible refine Kd.C_alloc ?_ _) | (with_reducible refine Kd.C_drewN ?_ _) | (with_reducible refine Kd.C_drew ?_))); (case side4 => exact (Kd.R_reads' HO320.out).2.1); rintro e w15 ⟨v322, rfl, ho0, hb⟩; refine ⟨_, rfl, ?_⟩; have n0_ := sqA (Kd.R_elder' (sqr HO320.out) (Kd.R_base ho0) hb); have n1_ := sqA (Kd.R_lower (Kd.R_new' ho0 (Kd.R_lt (sqr HO320.out))) (below_size (sqb HB.out))); have n2_ := sqA (below_step (sqb HB.out) hb); clear HO320; clear HB; have HO320 := n0_; have HO323 := n1_; have HB := n2_; clear n0_ n1_ n2_; (try clear hb); (try clear hb2); (try clear hk); (try clear hi); (try clear ho0); obtain ⟨Ao16, co16, eo16⟩ := Kd.R_slice HO323.out; subst eo16) | ((with_reducible refine gate_callee (f := 63) rfl ?_); refine goesL_ (some 31) rfl rfl Tryd.func63 (by kernel_rfl) rfl #[.slice Ao16 t321.length co16, .slice Ao14 y318.length co14] rfl sqn ?_; (with_reducible refine (sandglassref07_mul.calls k1 _ _ t321 _ _ y318 t324 _ ?side1 ?side2 ?side3 ?side4 A9.out).mono ?_); (case side1 => repeat (first | exact (Kd.R_reads' HO323.out).2.2 | (with_reducible refine Kd.C_alloc ?_ _) | (with_reducible refine Kd.C_drewN ?_ _) | (with_reducible refine Kd.C_drew ?_))); (case side2 => exact (Kd.R_reads' HO323.out).2.1); (case side3 => repeat (first | exact (Kd.R_reads' HO320.out).2.2 | (with_reducible refine Kd.C_alloc ?_ _) | (with_reducible refine Kd.C_drewN ?_ _) | (with_reducible refine Kd.C_drew ?_))); (case side4 => exact (Kd.R_reads' HO320.out).2.1); rintro e w17 ⟨v325, rfl, ho0, hb⟩; refine ⟨_, rfl, ?_⟩; have n0_ := sqA (Kd.R_elder' (sqr HO320.out) (Kd.R_base ho0) hb); have n1_ := sqA (Kd.R_elder' (sqr HO323.out) (Kd.R_base ho0) hb); have n2_ := sqA (Kd.R_lower (Kd.R_new' (Kd.R_new' ho0 (Kd.R_lt (sqr HO320.out))) (Kd.R_lt (sqr HO323.out))) (below_size (sqb HB.out))); have n3_ := sqA (below_step (sqb HB.out) hb); clear HO320; clear HO323; clear HB; have HO320 := n0_; have HO323 := n1_; have HO326 := n2_; have HB := n3_; clear n0_ n1_ n2_ n3_; (try clear hb); (try clear hb2); (try clear hk); (try clear hi); (try clear ho0); obtain ⟨Ao18, co18, eo18⟩ := Kd.R_slice HO326.out; subst eo18) | ((with_reducible refine gate_callee (f := 64) rfl ?_); refine goesL_ (some 35) rfl rfl Tryd.func64 (by kernel_rfl) rfl #[.slice Ao18 t324.length co18, .int .u64 a0, .int .i64 a1] rfl sqn ?_; (with_reducible refine (sandglassref07_above.calls k1 _ _ t324 a0 a1 true _ ?side1 ?side2 A10.out).mono ?_); (case side1 => repeat (first | exact (Kd.R_reads' HO326.out).2.2 | (with_reducible refine Kd.C_alloc ?_ _) | (with_reducible refine Kd.C_drewN ?_ _) | (with_reducible refine Kd.C_drew ?_))); (case side2 => exact (Kd.R_reads' HO326.out).2.1); rintro e w' ⟨rfl, ⟨nd, rfl⟩⟩; refine ⟨_, rfl, ?_⟩))
       go_roundg k1
       case measure => have := HK1.out; omega
       case rel => exact ⟨(x5_1), (wrap64 (x6_1 - 1)), sqd, sqd, H', ⟨by have := HK1.out; omega⟩, ⟨sqb HB.out⟩⟩
      ·
       replace c11 := Bool.eq_false_iff.mpr c11
       subst c11
       have H1 : (sandglassref07_root.l0 k1 a0 a1 (Go.bits .or .u64 x5_1 (ji6)) (wrap64 (x6_1 - 1))) = some r := by rw [if_neg (show ¬ (false = true) by decide)] at H; exact H
       clear H
       have H := H1
       clear H1
       have H' := sqA H
       clear H
       go_wp2_with (first | ((with_reducible refine gate_dst (N := 23) rfl ?_); refine Kd.R_lit (Kd.int .u64) _ 87 ?hg (N := 23) ?hd (xs := ([Go.bits .and .u64 (Go.bits .or .u64 x5_1 (ji6)) 4294967295, (Go.bits .or .u64 x5_1 (ji6)) / 4294967296] : List Int)) (inner := [.int .u64 (Go.bits .and .u64 (Go.bits .or .u64 x5_1 (ji6)) 4294967295), .int .u64 ((Go.bits .or .u64 x5_1 (ji6)) / 4294967296)]) (ok := fun _ => True) (okp := fun _ => True) ?hr ?hp (fun _ hk => hk) trivial (Below.refl _ _) (Nat.le_refl _) (by simp) ?_; (case hd => rfl); (case hg => rfl); (case hr => first | (go_simp; done) | (go_simp; rfl)); (case hp => exact (Reps.one (show Kd.M (Kd.int .u64) _ _ _ (Go.bits .and .u64 (Go.bits .or .u64 x5_1 (ji6)) 4294967295) [.int .u64 (Go.bits .and .u64 (Go.bits .or .u64 x5_1 (ji6)) 4294967295)] from rfl) (Reps.one (show Kd.M (Kd.int .u64) _ _ _ ((Go.bits .or .u64 x5_1 (ji6)) / 4294967296) [.int .u64 ((Go.bits .or .u64 x5_1 (ji6)) / 4294967296)] from rfl) (Reps.none _ _)))); intro v319 w19 ho20 hb hg_ hnew_; clear hg_ hnew_; (first | rw [← Ny318.out] at ho20 | (simp only [Int.reduceToNat] at ho20; rw [← Ny318.out] at ho20)); have n0_ := sqA (Kd.R_lower ho20 (below_size (sqb HB.out))); have n1_ := sqA (below_step (sqb HB.out) hb); clear HB; have HO320 := n0_; have HB := n1_; clear n0_ n1_; clear hb ho20; obtain ⟨Ao21, co21, eo21⟩ := Kd.R_slice HO320.out; subst eo21) | ((with_reducible refine gate_callee (f := 63) rfl ?_); refine goesL_ (some 26) rfl rfl Tryd.func63 (by kernel_rfl) rfl #[.slice Ao21 y318.length co21, .slice Ao21 y318.length co21] rfl sqn ?_; (with_reducible refine (sandglassref07_mul.calls k1 _ _ y318 _ _ y318 t321 _ ?side1 ?side2 ?side3 ?side4 A7.out).mono ?_); (case side1 => repeat (first | exact (Kd.R_reads' HO320.out).2.2 | (with_reducible refine Kd.C_alloc ?_ _) | (with_reducible refine Kd.C_drewN ?_ _) | (with_reducible refine Kd.C_drew ?_))); (case side2 => exact (Kd.R_reads' HO320.out).2.1); (case side3 => repeat (first | exact (Kd.R_reads' HO320.out).2.2 | (with_reducible refine Kd.C_alloc ?_ _) | (with_reducible refine Kd.C_drewN ?_ _) | (with_reducible refine Kd.C_drew ?_))); (case side4 => exact (Kd.R_reads' HO320.out).2.1); rintro e w22 ⟨v322, rfl, ho0, hb⟩; refine ⟨_, rfl, ?_⟩; have n0_ := sqA (Kd.R_elder' (sqr HO320.out) (Kd.R_base ho0) hb); have n1_ := sqA (Kd.R_lower (Kd.R_new' ho0 (Kd.R_lt (sqr HO320.out))) (below_size (sqb HB.out))); have n2_ := sqA (below_step (sqb HB.out) hb); clear HO320; clear HB; have HO320 := n0_; have HO323 := n1_; have HB := n2_; clear n0_ n1_ n2_; (try clear hb); (try clear hb2); (try clear hk); (try clear hi); (try clear ho0); obtain ⟨Ao23, co23, eo23⟩ := Kd.R_slice HO323.out; subst eo23) | ((with_reducible refine gate_callee (f := 63) rfl ?_); refine goesL_ (some 31) rfl rfl Tryd.func63 (by kernel_rfl) rfl #[.slice Ao23 t321.length co23, .slice Ao21 y318.length co21] rfl sqn ?_; (with_reducible refine (sandglassref07_mul.calls k1 _ _ t321 _ _ y318 t324 _ ?side1 ?side2 ?side3 ?side4 A9.out).mono ?_); (case side1 => repeat (first | exact (Kd.R_reads' HO323.out).2.2 | (with_reducible refine Kd.C_alloc ?_ _) | (with_reducible refine Kd.C_drewN ?_ _) | (with_reducible refine Kd.C_drew ?_))); (case side2 => exact (Kd.R_reads' HO323.out).2.1); (case side3 => repeat (first | exact (Kd.R_reads' HO320.out).2.2 | (with_reducible refine Kd.C_alloc ?_ _) | (with_reducible refine Kd.C_drewN ?_ _) | (with_reducible refine Kd.C_drew ?_))); (case side4 => exact (Kd.R_reads' HO320.out).2.1); rintro e w24 ⟨v325, rfl, ho0, hb⟩; refine ⟨_, rfl, ?_⟩; have n0_ := sqA (Kd.R_elder' (sqr HO320.out) (Kd.R_base ho0) hb); have n1_ := sqA (Kd.R_elder' (sqr HO323.out) (Kd.R_base ho0) hb); have n2_ := sqA (Kd.R_lower (Kd.R_new' (Kd.R_new' ho0 (Kd.R_lt (sqr HO320.out))) (Kd.R_lt (sqr HO323.out))) (below_size (sqb HB.out))); have n3_ := sqA (below_step (sqb HB.out) hb); clear HO320; clear HO323; clear HB; have HO320 := n0_; have HO323 := n1_; have HO326 := n2_; have HB := n3_; clear n0_ n1_ n2_ n3_; (try clear hb); (try clear hb2); (try clear hk); (try clear hi); (try clear ho0); obtain ⟨Ao25, co25, eo25⟩ := Kd.R_slice HO326.out; subst eo25) | ((with_reducible refine gate_callee (f := 64) rfl ?_); refine goesL_ (some 35) rfl rfl Tryd.func64 (by kernel_rfl) rfl #[.slice Ao25 t324.length co25, .int .u64 a0, .int .i64 a1] rfl sqn ?_; (with_reducible refine (sandglassref07_above.calls k1 _ _ t324 a0 a1 false _ ?side1 ?side2 A10.out).mono ?_); (case side1 => repeat (first | exact (Kd.R_reads' HO326.out).2.2 | (with_reducible refine Kd.C_alloc ?_ _) | (with_reducible refine Kd.C_drewN ?_ _) | (with_reducible refine Kd.C_drew ?_))); (case side2 => exact (Kd.R_reads' HO326.out).2.1); rintro e w' ⟨rfl, ⟨nd, rfl⟩⟩; refine ⟨_, rfl, ?_⟩))
       go_roundg k1
       case measure => have := HK1.out; omega
       case rel => exact ⟨(Go.bits .or .u64 x5_1 (ji6)), (wrap64 (x6_1 - 1)), (by first | rfl | (simp; done) | (simp only [← hji6] <;> (first | rfl | simp)) | (simp [*]; done)), sqd, H', ⟨by have := HK1.out; omega⟩, ⟨sqb HB.out⟩⟩
     ·
      rw [if_neg c8] at H
      have c8b0 : (a1 == 3) = false := beq_eq_false_iff_ne.mpr c8
      have c8b1 : (a1 != 3) = true := bne_iff_ne.mpr c8
      replace H := Option.bind_eq_some_iff.mp H
      obtain ⟨t328, A260, H⟩ := H
      replace H : (if t328 = true then (sandglassref07_root.l0 k1 a0 a1 x5_1 (wrap64 (x6_1 - 1))) else (sandglassref07_root.l0 k1 a0 a1 (Go.bits .or .u64 x5_1 (ji6)) (wrap64 (x6_1 - 1)))) = some r := H
      have A26 := sqA A260
      clear A260
      by_cases c27 : t328 = true
      ·
       subst c27
       have H1 : (sandglassref07_root.l0 k1 a0 a1 x5_1 (wrap64 (x6_1 - 1))) = some r := by rw [if_pos rfl] at H; exact H
       clear H
       have H := H1
       clear H1
       have H' := sqA H
       clear H
       go_wp2_with (first | ((with_reducible refine gate_dst (N := 23) rfl ?_); refine Kd.R_lit (Kd.int .u64) _ 87 ?hg (N := 23) ?hd (xs := ([Go.bits .and .u64 (Go.bits .or .u64 x5_1 (ji6)) 4294967295, (Go.bits .or .u64 x5_1 (ji6)) / 4294967296] : List Int)) (inner := [.int .u64 (Go.bits .and .u64 (Go.bits .or .u64 x5_1 (ji6)) 4294967295), .int .u64 ((Go.bits .or .u64 x5_1 (ji6)) / 4294967296)]) (ok := fun _ => True) (okp := fun _ => True) ?hr ?hp (fun _ hk => hk) trivial (Below.refl _ _) (Nat.le_refl _) (by simp) ?_; (case hd => rfl); (case hg => rfl); (case hr => first | (go_simp; done) | (go_simp; rfl)); (case hp => exact (Reps.one (show Kd.M (Kd.int .u64) _ _ _ (Go.bits .and .u64 (Go.bits .or .u64 x5_1 (ji6)) 4294967295) [.int .u64 (Go.bits .and .u64 (Go.bits .or .u64 x5_1 (ji6)) 4294967295)] from rfl) (Reps.one (show Kd.M (Kd.int .u64) _ _ _ ((Go.bits .or .u64 x5_1 (ji6)) / 4294967296) [.int .u64 ((Go.bits .or .u64 x5_1 (ji6)) / 4294967296)] from rfl) (Reps.none _ _)))); intro v319 w28 ho29 hb hg_ hnew_; clear hg_ hnew_; (first | rw [← Ny318.out] at ho29 | (simp only [Int.reduceToNat] at ho29; rw [← Ny318.out] at ho29)); have n0_ := sqA (Kd.R_lower ho29 (below_size (sqb HB.out))); have n1_ := sqA (below_step (sqb HB.out) hb); clear HB; have HO320 := n0_; have HB := n1_; clear n0_ n1_; clear hb ho29; obtain ⟨Ao30, co30, eo30⟩ := Kd.R_slice HO320.out; subst eo30) | ((with_reducible refine gate_callee (f := 63) rfl ?_); refine goesL_ (some 26) rfl rfl Tryd.func63 (by kernel_rfl) rfl #[.slice Ao30 y318.length co30, .slice Ao30 y318.length co30] rfl sqn ?_; (with_reducible refine (sandglassref07_mul.calls k1 _ _ y318 _ _ y318 t321 _ ?side1 ?side2 ?side3 ?side4 A7.out).mono ?_); (case side1 => repeat (first | exact (Kd.R_reads' HO320.out).2.2 | (with_reducible refine Kd.C_alloc ?_ _) | (with_reducible refine Kd.C_drewN ?_ _) | (with_reducible refine Kd.C_drew ?_))); (case side2 => exact (Kd.R_reads' HO320.out).2.1); (case side3 => repeat (first | exact (Kd.R_reads' HO320.out).2.2 | (with_reducible refine Kd.C_alloc ?_ _) | (with_reducible refine Kd.C_drewN ?_ _) | (with_reducible refine Kd.C_drew ?_))); (case side4 => exact (Kd.R_reads' HO320.out).2.1); rintro e w31 ⟨v322, rfl, ho0, hb⟩; refine ⟨_, rfl, ?_⟩; have n0_ := sqA (Kd.R_elder' (sqr HO320.out) (Kd.R_base ho0) hb); have n1_ := sqA (Kd.R_lower (Kd.R_new' ho0 (Kd.R_lt (sqr HO320.out))) (below_size (sqb HB.out))); have n2_ := sqA (below_step (sqb HB.out) hb); clear HO320; clear HB; have HO320 := n0_; have HO323 := n1_; have HB := n2_; clear n0_ n1_ n2_; (try clear hb); (try clear hb2); (try clear hk); (try clear hi); (try clear ho0); obtain ⟨Ao32, co32, eo32⟩ := Kd.R_slice HO323.out; subst eo32) | ((with_reducible refine gate_callee (f := 64) rfl ?_); refine goesL_ (some 35) rfl rfl Tryd.func64 (by kernel_rfl) rfl #[.slice Ao32 t321.length co32, .int .u64 a0, .int .i64 a1] rfl sqn ?_; (with_reducible refine (sandglassref07_above.calls k1 _ _ t321 a0 a1 true _ ?side1 ?side2 A26.out).mono ?_); (case side1 => repeat (first | exact (Kd.R_reads' HO323.out).2.2 | (with_reducible refine Kd.C_alloc ?_ _) | (with_reducible refine Kd.C_drewN ?_ _) | (with_reducible refine Kd.C_drew ?_))); (case side2 => exact (Kd.R_reads' HO323.out).2.1); rintro e w' ⟨rfl, ⟨nd, rfl⟩⟩; refine ⟨_, rfl, ?_⟩))
       go_roundg k1
       case measure => have := HK1.out; omega
       case rel => exact ⟨(x5_1), (wrap64 (x6_1 - 1)), sqd, sqd, H', ⟨by have := HK1.out; omega⟩, ⟨sqb HB.out⟩⟩
      ·
       replace c27 := Bool.eq_false_iff.mpr c27
       subst c27
       have H1 : (sandglassref07_root.l0 k1 a0 a1 (Go.bits .or .u64 x5_1 (ji6)) (wrap64 (x6_1 - 1))) = some r := by rw [if_neg (show ¬ (false = true) by decide)] at H; exact H
       clear H
       have H := H1
       clear H1
       have H' := sqA H
       clear H
       go_wp2_with (first | ((with_reducible refine gate_dst (N := 23) rfl ?_); refine Kd.R_lit (Kd.int .u64) _ 87 ?hg (N := 23) ?hd (xs := ([Go.bits .and .u64 (Go.bits .or .u64 x5_1 (ji6)) 4294967295, (Go.bits .or .u64 x5_1 (ji6)) / 4294967296] : List Int)) (inner := [.int .u64 (Go.bits .and .u64 (Go.bits .or .u64 x5_1 (ji6)) 4294967295), .int .u64 ((Go.bits .or .u64 x5_1 (ji6)) / 4294967296)]) (ok := fun _ => True) (okp := fun _ => True) ?hr ?hp (fun _ hk => hk) trivial (Below.refl _ _) (Nat.le_refl _) (by simp) ?_; (case hd => rfl); (case hg => rfl); (case hr => first | (go_simp; done) | (go_simp; rfl)); (case hp => exact (Reps.one (show Kd.M (Kd.int .u64) _ _ _ (Go.bits .and .u64 (Go.bits .or .u64 x5_1 (ji6)) 4294967295) [.int .u64 (Go.bits .and .u64 (Go.bits .or .u64 x5_1 (ji6)) 4294967295)] from rfl) (Reps.one (show Kd.M (Kd.int .u64) _ _ _ ((Go.bits .or .u64 x5_1 (ji6)) / 4294967296) [.int .u64 ((Go.bits .or .u64 x5_1 (ji6)) / 4294967296)] from rfl) (Reps.none _ _)))); intro v319 w33 ho34 hb hg_ hnew_; clear hg_ hnew_; (first | rw [← Ny318.out] at ho34 | (simp only [Int.reduceToNat] at ho34; rw [← Ny318.out] at ho34)); have n0_ := sqA (Kd.R_lower ho34 (below_size (sqb HB.out))); have n1_ := sqA (below_step (sqb HB.out) hb); clear HB; have HO320 := n0_; have HB := n1_; clear n0_ n1_; clear hb ho34; obtain ⟨Ao35, co35, eo35⟩ := Kd.R_slice HO320.out; subst eo35) | ((with_reducible refine gate_callee (f := 63) rfl ?_); refine goesL_ (some 26) rfl rfl Tryd.func63 (by kernel_rfl) rfl #[.slice Ao35 y318.length co35, .slice Ao35 y318.length co35] rfl sqn ?_; (with_reducible refine (sandglassref07_mul.calls k1 _ _ y318 _ _ y318 t321 _ ?side1 ?side2 ?side3 ?side4 A7.out).mono ?_); (case side1 => repeat (first | exact (Kd.R_reads' HO320.out).2.2 | (with_reducible refine Kd.C_alloc ?_ _) | (with_reducible refine Kd.C_drewN ?_ _) | (with_reducible refine Kd.C_drew ?_))); (case side2 => exact (Kd.R_reads' HO320.out).2.1); (case side3 => repeat (first | exact (Kd.R_reads' HO320.out).2.2 | (with_reducible refine Kd.C_alloc ?_ _) | (with_reducible refine Kd.C_drewN ?_ _) | (with_reducible refine Kd.C_drew ?_))); (case side4 => exact (Kd.R_reads' HO320.out).2.1); rintro e w36 ⟨v322, rfl, ho0, hb⟩; refine ⟨_, rfl, ?_⟩; have n0_ := sqA (Kd.R_elder' (sqr HO320.out) (Kd.R_base ho0) hb); have n1_ := sqA (Kd.R_lower (Kd.R_new' ho0 (Kd.R_lt (sqr HO320.out))) (below_size (sqb HB.out))); have n2_ := sqA (below_step (sqb HB.out) hb); clear HO320; clear HB; have HO320 := n0_; have HO323 := n1_; have HB := n2_; clear n0_ n1_ n2_; (try clear hb); (try clear hb2); (try clear hk); (try clear hi); (try clear ho0); obtain ⟨Ao37, co37, eo37⟩ := Kd.R_slice HO323.out; subst eo37) | ((with_reducible refine gate_callee (f := 64) rfl ?_); refine goesL_ (some 35) rfl rfl Tryd.func64 (by kernel_rfl) rfl #[.slice Ao37 t321.length co37, .int .u64 a0, .int .i64 a1] rfl sqn ?_; (with_reducible refine (sandglassref07_above.calls k1 _ _ t321 a0 a1 false _ ?side1 ?side2 A26.out).mono ?_); (case side1 => repeat (first | exact (Kd.R_reads' HO323.out).2.2 | (with_reducible refine Kd.C_alloc ?_ _) | (with_reducible refine Kd.C_drewN ?_ _) | (with_reducible refine Kd.C_drew ?_))); (case side2 => exact (Kd.R_reads' HO323.out).2.1); rintro e w' ⟨rfl, ⟨nd, rfl⟩⟩; refine ⟨_, rfl, ?_⟩))
       go_roundg k1
       case measure => have := HK1.out; omega
       case rel => exact ⟨(Go.bits .or .u64 x5_1 (ji6)), (wrap64 (x6_1 - 1)), (by first | rfl | (simp; done) | (simp only [← hji6] <;> (first | rfl | simp)) | (simp [*]; done)), sqd, H', ⟨by have := HK1.out; omega⟩, ⟨sqb HB.out⟩⟩
    ·
     rw [if_neg c5] at H
     exact absurd H (by simp)
   ·
    rw [if_neg c3] at H
    have c3b0 : decide (0 ≤ x6_1) = false := decide_eq_false c3
    clear c3
    obtain rfl := Option.some.inj H
    go_wp2
    go_ret
    exact ⟨sqe, sqb HB.out⟩
end Go.Proofs.YtifpomknkjegeaaDoor.PAll
