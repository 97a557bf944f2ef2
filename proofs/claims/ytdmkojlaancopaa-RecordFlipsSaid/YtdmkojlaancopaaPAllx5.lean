/- Printed by a program of this claim: the machine side of its law, for every input; no condition. -/
import Derived.Test.YtdmkojlaancopaaPAllx0
import Derived.Test.YtdmkojlaancopaaPAllx1
import Derived.Test.YtdmkojlaancopaaPAllx2
namespace Go.Proofs.Ytdmkojlaancopaa.PAll
open Go.RowKit Go.Proofs.YtdmkojlaancopaaW.PrintWords Go.Proofs.YtdmkojlaancopaaW.PrintLast Go.Proofs.YtdmkojlaancopaaW.PrintMore
attribute [local go_sem] max2_int min2_int max_two min_two max_three min_three max_four min_four   -- for this text's walks alone
set_option linter.unusedVariables false
set_option linter.unusedSimpArgs false

attribute [local go_sem] all_u8 all_u32 all_u64
/-! ### sandglasslaw17_RecordFlips: function 7 -/
mutual
def sandglasslaw17_RecordFlips.j0 : Nat → ByteArray → Int → Int → Bool → Option (Bool)
  | 0, _, _, _, _ => none
  | k + 1, x0, x1, x2, x21 => if x21 = true then ((sandglasslaw17_awake.f k).bind fun t213 => (some t213)) else ((record_Frame.f k x0).bind fun bt214 => (if (bt214.1.size : Int) = (wrap64 ((x0.size : Int) + 8)) then (if 0 ≤ (bt214.1.size : Int) then (if ((bt214.1.size : Int) : Int).toNat ≤ 281474976710656 then ((some (bytesOf bt214.1 : List Int)).bind fun y216 => (if (x0.size : Int) ≥ 4 then (sandglasslaw17_RecordFlips.j1 k x0 x1 x2 y216 4 ((Go.bits .and .i64 x1 1) == 0)) else (sandglasslaw17_RecordFlips.j1 k x0 x1 x2 y216 4 false))) else (none)) else (none)) else (some false)))
def sandglasslaw17_RecordFlips.j1 : Nat → ByteArray → Int → Int → List Int → Int → Bool → Option (Bool)
  | 0, _, _, _, _, _, _ => none
  | k + 1, x0, x1, x2, x9, x10, x43 => if x43 = true then (if (IntKind.u64.wrap (wrap64 ((x0.size : Int) - 3))) = 0 then (none) else (sandglasslaw17_RecordFlips.j2 k x2 x9 (wrap64 (8 + (wrap64 (Int.tmod (IntKind.u64.wrap (x1)) (IntKind.u64.wrap (wrap64 ((x0.size : Int) - 3))))))))) else (sandglasslaw17_RecordFlips.j2 k x2 x9 x10)
def sandglasslaw17_RecordFlips.j2 : Nat → Int → List Int → Int → Option (Bool)
  | 0, _, _, _ => none
  | k + 1, x2, x9, x10 => sandglasslaw17_RecordFlips.l0 k x2 x9 x10 0
def sandglasslaw17_RecordFlips.l0 : Nat → Int → List Int → Int → Int → Option (Bool)
  | 0, _, _, _, _ => none
  | k + 1, x2, x9, x10, x11 => if x11 < 4 then (if 0 ≤ (wrap64 (x10 + x11)) then (if (wrap64 (x10 + x11)) < (x9.length : Int) then (if 0 ≤ (IntKind.u64.wrap (wrap64 (8 * x11))) then (sandglasslaw17_RecordFlips.l0 k x2 (x9.set ((wrap64 (x10 + x11)) : Int).toNat (Go.bits .xor .u8 (rd x9 (wrap64 (x10 + x11))) ((shr .u32 x2 (IntKind.u64.wrap (wrap64 (8 * x11)))) % 256))) x10 (wrap64 (x11 + 1))) else (none)) else (none)) else (none)) else ((record_Next.f k (strOfNums x9)).bind fun bt221 => (if bt221.2.2 = 4 then (if bt221.1.toList = ([] : List UInt8) then (if bt221.2.1 = 0 then ((sandglasslaw17_awake.f k).bind fun t224 => (some t224)) else (some false)) else (some false)) else (some false)))
end
def sandglasslaw17_RecordFlips.f (k : Nat) (a0 : ByteArray) (a1 : Int) (a2 : Int) : Option (Bool) := if (a0.size : Int) > 1000 then (sandglasslaw17_RecordFlips.j0 k a0 a1 a2 true) else (sandglasslaw17_RecordFlips.j0 k a0 a1 a2 (a2 == 0))
theorem sandglasslaw17_RecordFlips.mono_l : ∀ k, (∀ y0 y1 y2 y3, LeO (sandglasslaw17_RecordFlips.j0 k y0 y1 y2 y3) (sandglasslaw17_RecordFlips.j0 (k + 1) y0 y1 y2 y3)) ∧ (∀ y0 y1 y2 y3 y4 y5, LeO (sandglasslaw17_RecordFlips.j1 k y0 y1 y2 y3 y4 y5) (sandglasslaw17_RecordFlips.j1 (k + 1) y0 y1 y2 y3 y4 y5)) ∧ (∀ y0 y1 y2, LeO (sandglasslaw17_RecordFlips.j2 k y0 y1 y2) (sandglasslaw17_RecordFlips.j2 (k + 1) y0 y1 y2)) ∧ (∀ y0 y1 y2 y3, LeO (sandglasslaw17_RecordFlips.l0 k y0 y1 y2 y3) (sandglasslaw17_RecordFlips.l0 (k + 1) y0 y1 y2 y3))
  | 0 => ⟨fun _ _ _ _ r h => by simp [sandglasslaw17_RecordFlips.j0] at h, fun _ _ _ _ _ _ r h => by simp [sandglasslaw17_RecordFlips.j1] at h, fun _ _ _ r h => by simp [sandglasslaw17_RecordFlips.j2] at h, fun _ _ _ _ r h => by simp [sandglasslaw17_RecordFlips.l0] at h⟩
  | k + 1 => by
    obtain ⟨ih0, ih1, ih2, ih3⟩ := sandglasslaw17_RecordFlips.mono_l k
    refine ⟨?_, ?_, ?_, ?_⟩
    · intro y0 y1 y2 y3
      unfold sandglasslaw17_RecordFlips.j0
      repeat' first
      | (with_reducible exact ih0 _ _ _ _)
      | (with_reducible exact ih1 _ _ _ _ _ _)
      | (with_reducible exact ih2 _ _ _)
      | (with_reducible exact ih3 _ _ _ _)
      | (with_reducible exact record_Frame.mono _ _)
      | (with_reducible exact record_Next.mono _ _)
      | (with_reducible exact sandglasslaw17_awake.mono _)
      | (with_reducible exact LeO.refl _)
      | (with_reducible exact LeO.none _)
      | (with_reducible refine LeO.ite ?_ ?_)
      | (with_reducible refine LeO.bind ?_ (fun _ => ?_))
      | exact ih0 _ _ _ _
      | exact ih1 _ _ _ _ _ _
      | exact ih2 _ _ _
      | exact ih3 _ _ _ _
      | exact record_Frame.mono _ _
      | exact record_Next.mono _ _
      | exact sandglasslaw17_awake.mono _
      | exact LeO.none _
      | refine LeO.ite ?_ ?_
      | refine LeO.bind ?_ (fun _ => ?_)
    · intro y0 y1 y2 y3 y4 y5
      unfold sandglasslaw17_RecordFlips.j1
      repeat' first
      | (with_reducible exact ih0 _ _ _ _)
      | (with_reducible exact ih1 _ _ _ _ _ _)
      | (with_reducible exact ih2 _ _ _)
      | (with_reducible exact ih3 _ _ _ _)
      | (with_reducible exact record_Frame.mono _ _)
      | (with_reducible exact record_Next.mono _ _)
      | (with_reducible exact sandglasslaw17_awake.mono _)
      | (with_reducible exact LeO.refl _)
      | (with_reducible exact LeO.none _)
      | (with_reducible refine LeO.ite ?_ ?_)
      | (with_reducible refine LeO.bind ?_ (fun _ => ?_))
      | exact ih0 _ _ _ _
      | exact ih1 _ _ _ _ _ _
      | exact ih2 _ _ _
      | exact ih3 _ _ _ _
      | exact record_Frame.mono _ _
      | exact record_Next.mono _ _
      | exact sandglasslaw17_awake.mono _
      | exact LeO.none _
      | refine LeO.ite ?_ ?_
      | refine LeO.bind ?_ (fun _ => ?_)
    · intro y0 y1 y2
      unfold sandglasslaw17_RecordFlips.j2
      repeat' first
      | (with_reducible exact ih0 _ _ _ _)
      | (with_reducible exact ih1 _ _ _ _ _ _)
      | (with_reducible exact ih2 _ _ _)
      | (with_reducible exact ih3 _ _ _ _)
      | (with_reducible exact record_Frame.mono _ _)
      | (with_reducible exact record_Next.mono _ _)
      | (with_reducible exact sandglasslaw17_awake.mono _)
      | (with_reducible exact LeO.refl _)
      | (with_reducible exact LeO.none _)
      | (with_reducible refine LeO.ite ?_ ?_)
      | (with_reducible refine LeO.bind ?_ (fun _ => ?_))
      | exact ih0 _ _ _ _
      | exact ih1 _ _ _ _ _ _
      | exact ih2 _ _ _
      | exact ih3 _ _ _ _
      | exact record_Frame.mono _ _
      | exact record_Next.mono _ _
      | exact sandglasslaw17_awake.mono _
      | exact LeO.none _
      | refine LeO.ite ?_ ?_
      | refine LeO.bind ?_ (fun _ => ?_)
    · intro y0 y1 y2 y3
      unfold sandglasslaw17_RecordFlips.l0
      repeat' first
      | (with_reducible exact ih0 _ _ _ _)
      | (with_reducible exact ih1 _ _ _ _ _ _)
      | (with_reducible exact ih2 _ _ _)
      | (with_reducible exact ih3 _ _ _ _)
      | (with_reducible exact record_Frame.mono _ _)
      | (with_reducible exact record_Next.mono _ _)
      | (with_reducible exact sandglasslaw17_awake.mono _)
      | (with_reducible exact LeO.refl _)
      | (with_reducible exact LeO.none _)
      | (with_reducible refine LeO.ite ?_ ?_)
      | (with_reducible refine LeO.bind ?_ (fun _ => ?_))
      | exact ih0 _ _ _ _
      | exact ih1 _ _ _ _ _ _
      | exact ih2 _ _ _
      | exact ih3 _ _ _ _
      | exact record_Frame.mono _ _
      | exact record_Next.mono _ _
      | exact sandglasslaw17_awake.mono _
      | exact LeO.none _
      | refine LeO.ite ?_ ?_
      | refine LeO.bind ?_ (fun _ => ?_)
theorem sandglasslaw17_RecordFlips.mono : ∀ a0 a1 a2 k, LeO (sandglasslaw17_RecordFlips.f k a0 a1 a2) (sandglasslaw17_RecordFlips.f (k + 1) a0 a1 a2) := by
  intro a0 a1 a2 k
  obtain ⟨ih0, ih1, ih2, ih3⟩ := sandglasslaw17_RecordFlips.mono_l k
  unfold sandglasslaw17_RecordFlips.f
  repeat' first
      | (with_reducible exact ih0 _ _ _ _)
      | (with_reducible exact ih1 _ _ _ _ _ _)
      | (with_reducible exact ih2 _ _ _)
      | (with_reducible exact ih3 _ _ _ _)
      | (with_reducible exact record_Frame.mono _ _)
      | (with_reducible exact record_Next.mono _ _)
      | (with_reducible exact sandglasslaw17_awake.mono _)
      | (with_reducible exact LeO.refl _)
      | (with_reducible exact LeO.none _)
      | (with_reducible refine LeO.ite ?_ ?_)
      | (with_reducible refine LeO.bind ?_ (fun _ => ?_))
      | exact ih0 _ _ _ _
      | exact ih1 _ _ _ _ _ _
      | exact ih2 _ _ _
      | exact ih3 _ _ _ _
      | exact record_Frame.mono _ _
      | exact record_Next.mono _ _
      | exact sandglasslaw17_awake.mono _
      | exact LeO.none _
      | refine LeO.ite ?_ ?_
      | refine LeO.bind ?_ (fun _ => ?_)
set_option maxHeartbeats 8000000 in
set_option maxRecDepth 100000 in
theorem sandglasslaw17_RecordFlips.calls (k : Nat) (a0 : ByteArray) (a1 : Int) (a2 : Int) (r : Bool) (w : World) (h : sandglasslaw17_RecordFlips.f k a0 a1 a2 = some r) :
    Calls Try.prog 7 #[.string a0, .int .i64 a1, .int .u32 a2] w fun e w' => e = .returned (.bool r) ∧ Below w.heap.size w w' := by
  have HB := Aside0.mk (Below.refl w.heap.size w)
  have H : (if (a0.size : Int) > 1000 then (sandglasslaw17_RecordFlips.j0 k a0 a1 a2 true) else (sandglasslaw17_RecordFlips.j0 k a0 a1 a2 (a2 == 0))) = some r := h
  clear h
  have HC4 := Aside0.mk H
  clear H
  go_enter Try.func7, Try.ntmps7
  go_upto_region 1 with (fail)
  go_cut [21] (fun v21 wc => ∃ (kq : Nat) (x21_3 : Bool), v21 = .bool x21_3 ∧ Aside0 (sandglasslaw17_RecordFlips.j0 kq a0 a1 a2 x21_3 = some r) ∧ Aside0 (kq ≤ k) ∧ Aside0 (Below w.heap.size w wc))
  case first =>
    have H := HC4.out
    clear HC4
    by_cases c5 : (a0.size : Int) > 1000
    · rw [if_pos c5] at H
      have c5b0 : decide (1000 < (a0.size : Int)) = true := decide_eq_true c5
      have c5b1 : decide (1000 < a0.size) = true := decide_eq_true (by omega)
      clear c5
      (first | rw [c5b0] | (simp only [i64_w, i32_w]; rw [c5b0]) | skip)
      have H' := Aside0.mk H
      clear H
      go_wp2
      go_meet
      case rel => exact ⟨_, (true), (by first | rfl | (simp; done) | (simp [*]; done)), H', ⟨by first | omega | exact Nat.le_refl _⟩, ⟨by repeat (first | (with_reducible first | exact HB.out | apply below_alloc | apply pw_below_drewN | apply below_drew1) | exact HB.out)⟩⟩
    · rw [if_neg c5] at H
      have c5b0 : decide (1000 < (a0.size : Int)) = false := decide_eq_false c5
      have c5b1 : decide (1000 < a0.size) = false := decide_eq_false (by omega)
      clear c5
      (first | rw [c5b0] | (simp only [i64_w, i32_w]; rw [c5b0]) | skip)
      have H' := Aside0.mk H
      clear H
      go_wp2
      go_meet
      case rel => exact ⟨_, ((a2 == 0)), (by first | rfl | (simp; done) | (simp [*]; done)), H', ⟨by first | omega | exact Nat.le_refl _⟩, ⟨by repeat (first | (with_reducible first | exact HB.out | apply below_alloc | apply pw_below_drewN | apply below_drew1) | exact HB.out)⟩⟩
  case rest =>
    clear HC4
    try clear p2
    try clear c5
    try clear c5b0
    try clear c5b1
    obtain ⟨kq, x21_3, rfl, HA, HJ3, HB⟩ := hcut
    cases kq with
    | zero => exact absurd HA.out (by simp [sandglasslaw17_RecordFlips.j0])
    | succ kj3 =>
      have H := HA.out
      clear HA
      simp only [sandglasslaw17_RecordFlips.j0] at H
      by_cases c6 : x21_3 = true
      · subst c6
        have H1 : ((sandglasslaw17_awake.f kj3).bind fun t213 => (some t213)) = some r := by rw [if_pos rfl] at H; exact H
        clear H
        have H := H1
        clear H1
        replace H := Option.bind_eq_some_iff.mp H
        obtain ⟨t213, A70, H⟩ := H
        replace H : (some t213) = some r := H
        have A7 := Aside0.mk A70
        clear A70
        obtain rfl := Option.some.inj H
        go_wp2_with (first | ((with_reducible refine gate_callee (f := 8) rfl ?_); refine goesL_ (some 22) rfl rfl Try.func8 (by kernel_rfl) rfl #[] rfl (by (try simp only [List.map_toArray, List.map_cons, List.map_nil]); first | done | rfl | (simp only [List.length_drop, List.length_take]; rfl)) ?_; (with_reducible refine (sandglasslaw17_awake.calls kj3  t213 _ A7.out).mono ?_); rintro e w8 ⟨rfl, hb⟩; refine ⟨_, rfl, ?_⟩; have n0_ := Aside0.mk (below_step (by repeat (first | (with_reducible first | exact HB.out | apply below_alloc | apply pw_below_drewN | apply below_drew1) | exact HB.out)) hb); clear HB; have HB := n0_; clear n0_; (try clear hb); (try clear hb2); (try clear hk); (try clear hi)))
        go_ret
        exact ⟨by first | rfl | (simp [errW_none, errW_some] <;> rfl) | (simp [*, errW_none, errW_some] <;> rfl), by repeat (first | (with_reducible first | exact HB.out | apply below_alloc | apply pw_below_drewN | apply below_drew1) | exact HB.out)⟩
      · replace c6 := Bool.eq_false_iff.mpr c6
        subst c6
        have H1 : ((record_Frame.f kj3 a0).bind fun bt214 => (if (bt214.1.size : Int) = (wrap64 ((a0.size : Int) + 8)) then (if 0 ≤ (bt214.1.size : Int) then (if ((bt214.1.size : Int) : Int).toNat ≤ 281474976710656 then ((some (bytesOf bt214.1 : List Int)).bind fun y216 => (if (a0.size : Int) ≥ 4 then (sandglasslaw17_RecordFlips.j1 kj3 a0 a1 a2 y216 4 ((Go.bits .and .i64 a1 1) == 0)) else (sandglasslaw17_RecordFlips.j1 kj3 a0 a1 a2 y216 4 false))) else (none)) else (none)) else (some false))) = some r := by rw [if_neg (show ¬ (false = true) by decide)] at H; exact H
        clear H
        have H := H1
        clear H1
        replace H := Option.bind_eq_some_iff.mp H
        obtain ⟨⟨t214, t215⟩, A90, H⟩ := H
        replace H : (if (t214.size : Int) = (wrap64 ((a0.size : Int) + 8)) then (if 0 ≤ (t214.size : Int) then (if ((t214.size : Int) : Int).toNat ≤ 281474976710656 then ((some (bytesOf t214 : List Int)).bind fun y216 => (if (a0.size : Int) ≥ 4 then (sandglasslaw17_RecordFlips.j1 kj3 a0 a1 a2 y216 4 ((Go.bits .and .i64 a1 1) == 0)) else (sandglasslaw17_RecordFlips.j1 kj3 a0 a1 a2 y216 4 false))) else (none)) else (none)) else (some false)) = some r := H
        have A9 := Aside0.mk A90
        clear A90
        by_cases c10 : (t214.size : Int) = (wrap64 ((a0.size : Int) + 8))
        · rw [if_pos c10] at H
          have c10b0 : ((t214.size : Int) == (wrap64 ((a0.size : Int) + 8))) = true := beq_iff_eq.mpr c10
          have c10b1 : ((t214.size : Int) != (wrap64 ((a0.size : Int) + 8))) = false := bne_eq_false_iff_eq.mpr c10
          clear c10
          by_cases c11 : 0 ≤ (t214.size : Int)
          · rw [if_pos c11] at H
            have c11b0 := eq_true c11
            have c11b1 : decide (0 ≤ (t214.size : Int)) = true := decide_eq_true c11
            clear c11
            by_cases c12 : ((t214.size : Int) : Int).toNat ≤ 281474976710656
            · rw [if_pos c12] at H
              have c12b0 := eq_true c12
              have c12b1 : decide (((t214.size : Int) : Int).toNat ≤ 281474976710656) = true := decide_eq_true c12
              clear c12
              obtain ⟨y216, hy216⟩ : ∃ y_ : List Int, y_ = (bytesOf t214) := ⟨_, rfl⟩
              replace H : (if (a0.size : Int) ≥ 4 then (sandglasslaw17_RecordFlips.j1 kj3 a0 a1 a2 y216 4 ((Go.bits .and .i64 a1 1) == 0)) else (sandglasslaw17_RecordFlips.j1 kj3 a0 a1 a2 y216 4 false)) = some r := by first | (rw [hy216]; with_reducible exact H) | (have H2_ := (Option.bind_some _ _).symm.trans H; rw [hy216]; with_reducible exact H2_) | (have H2_ := (Option.bind_some _ _).symm.trans H; with_reducible exact H2_) | with_reducible exact H | (rw [hy216]; exact H) | exact H
              have Ny216 := Aside0.mk hy216
              clear hy216
              have HC13 := Aside0.mk H
              clear H
              go_upto_region 8 with (first | ((with_reducible refine gate_callee (f := 9) rfl ?_); refine goesL_ (some 25) rfl rfl Try.func9 (by kernel_rfl) rfl #[.string a0] rfl (by (try simp only [List.map_toArray, List.map_cons, List.map_nil]); first | done | rfl | (simp only [List.length_drop, List.length_take]; rfl)) ?_; (with_reducible refine (record_Frame.calls kj3 a0 t214 t215 _ A9.out).mono ?_); rintro e w14 ⟨rfl, hb⟩; refine ⟨_, rfl, ?_⟩; have n0_ := Aside0.mk (below_step (by repeat (first | (with_reducible first | exact HB.out | apply below_alloc | apply pw_below_drewN | apply below_drew1) | exact HB.out)) hb); clear HB; have HB := n0_; clear n0_; (try clear hb); (try clear hb2); (try clear hk); (try clear hi)) | ((with_reducible refine gate_dst (N := 35) rfl ?_); refine BRow.BR_conv _ 5 rfl (N := 35) rfl 9 44 _ rfl t214 rfl Try.underlying9 Try.underlying44 Try.underlying5 (by have h_ : (t214.size : Int).toNat ≤ 281474976710656 := of_decide_eq_true (by first | (with_reducible assumption) | assumption); omega) (Below.refl _ _) (Nat.le_refl _) ?_; intro v217 w15 ho16 hb hg_ hnew_; clear hg_ hnew_; (first | rw [← Ny216.out] at ho16 | (simp only [Int.reduceToNat] at ho16; rw [← Ny216.out] at ho16)); have n0_ := Aside0.mk (BRow.BR_lower ho16 (below_size (by repeat (first | (with_reducible first | exact HB.out | apply below_alloc | apply pw_below_drewN | apply below_drew1) | exact HB.out)))); have n1_ := Aside0.mk (below_step (by repeat (first | (with_reducible first | exact HB.out | apply below_alloc | apply pw_below_drewN | apply below_drew1) | exact HB.out)) hb); clear HB; have HO218 := n0_; have HB := n1_; clear n0_ n1_; clear hb ho16))
              (try simp only [Act.put, List.setIfInBounds_toArray, List.set_cons_zero, List.set_cons_succ])
              go_cut [43] (fun v43 wc => ∃ (kq : Nat) (x43_12 : Bool), v43 = .bool x43_12 ∧ Aside0 (sandglasslaw17_RecordFlips.j1 kq a0 a1 a2 y216 4 x43_12 = some r) ∧ Aside0 (kq ≤ kj3) ∧ Aside0 (BRow.BR 5 wc w.heap.size v217 y216) ∧ Aside0 (Below w.heap.size w wc))
              case first =>
                have H := HC13.out
                clear HC13
                by_cases c17 : (a0.size : Int) ≥ 4
                · rw [if_pos c17] at H
                  have c17b0 : decide (4 ≤ (a0.size : Int)) = true := decide_eq_true c17
                  have c17b1 : decide (4 ≤ a0.size) = true := decide_eq_true (by omega)
                  clear c17
                  (first | rw [c17b0] | (simp only [i64_w, i32_w]; rw [c17b0]) | skip)
                  have H' := Aside0.mk H
                  clear H
                  go_wp2
                  go_meet
                  case rel => exact ⟨_, (((Go.bits .and .i64 a1 1) == 0)), (by first | rfl | (simp; done) | (simp [*]; done)), H', ⟨by have := HJ3.out; first | omega | exact Nat.le_refl _⟩, ⟨by (with_reducible repeat (first | apply BRow.BR_alloc | apply BRow.BR_drewN | apply BRow.BR_drew)); exact HO218.out⟩, ⟨by repeat (first | (with_reducible first | exact HB.out | apply below_alloc | apply pw_below_drewN | apply below_drew1) | exact HB.out)⟩⟩
                · rw [if_neg c17] at H
                  have c17b0 : decide (4 ≤ (a0.size : Int)) = false := decide_eq_false c17
                  have c17b1 : decide (4 ≤ a0.size) = false := decide_eq_false (by omega)
                  clear c17
                  (first | rw [c17b0] | (simp only [i64_w, i32_w]; rw [c17b0]) | skip)
                  have H' := Aside0.mk H
                  clear H
                  go_wp2
                  go_meet
                  case rel => exact ⟨_, (false), (by first | rfl | (simp; done) | (simp [*]; done)), H', ⟨by have := HJ3.out; first | omega | exact Nat.le_refl _⟩, ⟨by (with_reducible repeat (first | apply BRow.BR_alloc | apply BRow.BR_drewN | apply BRow.BR_drew)); exact HO218.out⟩, ⟨by repeat (first | (with_reducible first | exact HB.out | apply below_alloc | apply pw_below_drewN | apply below_drew1) | exact HB.out)⟩⟩
              case rest =>
                clear HC13
                try clear c1
                try clear p2
                try clear c5
                try clear c5b0
                try clear c5b1
                try clear c6
                try clear p6
                try clear c7
                try clear c8
                try clear c9
                try clear c10
                try clear c10b0
                try clear c10b1
                try clear c11
                try clear c11b0
                try clear c11b1
                try clear c12
                try clear c12b0
                try clear c12b1
                try clear c17
                try clear c17b0
                try clear c17b1
                try clear p2
                obtain ⟨kq, x43_12, rfl, HA, HJ12, HO_9, HB⟩ := hcut
                cases kq with
                | zero => exact absurd HA.out (by simp [sandglasslaw17_RecordFlips.j1])
                | succ kj12 =>
                  have H := HA.out
                  clear HA
                  simp only [sandglasslaw17_RecordFlips.j1] at H
                  have HC18 := Aside0.mk H
                  clear H
                  go_upto_if 43 with (fail)
                  go_cut [10] (fun v10 wc => ∃ (kq : Nat) (x10_17 : Int), v10 = .int .i64 x10_17 ∧ Aside0 (sandglasslaw17_RecordFlips.j2 kq a2 y216 x10_17 = some r) ∧ Aside0 (kq ≤ kj12) ∧ Aside0 (BRow.BR 5 wc w.heap.size v217 y216) ∧ Aside0 (Below w.heap.size w wc))
                  case first =>
                    have H := HC18.out
                    clear HC18
                    by_cases c19 : x43_12 = true
                    · subst c19
                      have H1 : (if (IntKind.u64.wrap (wrap64 ((a0.size : Int) - 3))) = 0 then (none) else (sandglasslaw17_RecordFlips.j2 kj12 a2 y216 (wrap64 (8 + (wrap64 (Int.tmod (IntKind.u64.wrap (a1)) (IntKind.u64.wrap (wrap64 ((a0.size : Int) - 3))))))))) = some r := by rw [if_pos rfl] at H; exact H
                      clear H
                      have H := H1
                      clear H1
                      by_cases c20 : (IntKind.u64.wrap (wrap64 ((a0.size : Int) - 3))) = 0
                      · rw [if_pos c20] at H
                        exact absurd H (by simp)
                      · rw [if_neg c20] at H
                        have c20b0 : ((IntKind.u64.wrap (wrap64 ((a0.size : Int) - 3))) == 0) = false := beq_eq_false_iff_ne.mpr c20
                        have c20b1 : ((IntKind.u64.wrap (wrap64 ((a0.size : Int) - 3))) != 0) = true := bne_iff_ne.mpr c20
                        (first | rw [c20b0] | (simp only [i64_w, i32_w]; rw [c20b0]) | skip)
                        have H' := Aside0.mk H
                        clear H
                        go_wp2
                        go_meet
                        case rel => exact ⟨_, (wrap64 (8 + (wrap64 (Int.tmod (IntKind.u64.wrap (a1)) (IntKind.u64.wrap (wrap64 ((a0.size : Int) - 3))))))), (by first | rfl | (simp; done) | (simp [*]; done)), H', ⟨by have := HJ3.out; have := HJ12.out; first | omega | exact Nat.le_refl _⟩, ⟨by (with_reducible repeat (first | apply BRow.BR_alloc | apply BRow.BR_drewN | apply BRow.BR_drew)); exact HO_9.out⟩, ⟨by repeat (first | (with_reducible first | exact HB.out | apply below_alloc | apply pw_below_drewN | apply below_drew1) | exact HB.out)⟩⟩
                    · replace c19 := Bool.eq_false_iff.mpr c19
                      subst c19
                      have H1 : (sandglasslaw17_RecordFlips.j2 kj12 a2 y216 4) = some r := by rw [if_neg (show ¬ (false = true) by decide)] at H; exact H
                      clear H
                      have H := H1
                      clear H1
                      have H' := Aside0.mk H
                      clear H
                      go_wp2
                      go_meet
                      case rel => exact ⟨_, (4), (by first | rfl | (simp; done) | (simp [*]; done)), H', ⟨by have := HJ3.out; have := HJ12.out; first | omega | exact Nat.le_refl _⟩, ⟨by (with_reducible repeat (first | apply BRow.BR_alloc | apply BRow.BR_drewN | apply BRow.BR_drew)); exact HO_9.out⟩, ⟨by repeat (first | (with_reducible first | exact HB.out | apply below_alloc | apply pw_below_drewN | apply below_drew1) | exact HB.out)⟩⟩
                  case rest =>
                    clear HC18
                    try clear c1
                    try clear c2
                    try clear p2
                    try clear c5
                    try clear c5b0
                    try clear c5b1
                    try clear c6
                    try clear p6
                    try clear c7
                    try clear c8
                    try clear c9
                    try clear c10
                    try clear c10b0
                    try clear c10b1
                    try clear c11
                    try clear c11b0
                    try clear c11b1
                    try clear c12
                    try clear c12b0
                    try clear c12b1
                    try clear c17
                    try clear c17b0
                    try clear c17b1
                    try clear c19
                    try clear c20
                    try clear c20b0
                    try clear c20b1
                    try clear p2
                    try clear p6
                    obtain ⟨kq, x10_17, rfl, HA, HJ17, HO_9, HB⟩ := hcut
                    cases kq with
                    | zero => exact absurd HA.out (by simp [sandglasslaw17_RecordFlips.j2])
                    | succ kj17 =>
                      have H := HA.out
                      clear HA
                      simp only [sandglasslaw17_RecordFlips.j2] at H
                      have H' := Aside0.mk H
                      clear H
                      go_wp2
                      go_loopg [11] kj17 (fun kq v11 w' => ∃ (x9_4 : List Int) (x11_4 : Int), v11 = .int .i64 x11_4 ∧ Aside0 (sandglasslaw17_RecordFlips.l0 kq a2 x9_4 x10_17 x11_4 = some r) ∧ Aside0 (kq ≤ kj17) ∧ Aside0 (BRow.BR 5 w' w.heap.size v217 x9_4) ∧ Aside0 (Below w.heap.size w w'))
                      case atStart => exact ⟨(y216), (0), (by first | rfl | (simp; done) | (simp [*]; done)), H', ⟨Nat.le_refl _⟩, ⟨by (with_reducible repeat (first | apply BRow.BR_alloc | apply BRow.BR_drewN | apply BRow.BR_drew)); exact HO_9.out⟩, ⟨by repeat (first | (with_reducible first | exact HB.out | apply below_alloc | apply pw_below_drewN | apply below_drew1) | exact HB.out)⟩⟩
                      case round =>
                        clear H'
                        try clear c1
                        try clear c2
                        try clear p2
                        try clear c5
                        try clear c5b0
                        try clear c5b1
                        try clear c6
                        try clear p6
                        try clear c7
                        try clear c8
                        try clear c9
                        try clear c10
                        try clear c10b0
                        try clear c10b1
                        try clear c11
                        try clear c11b0
                        try clear c11b1
                        try clear c12
                        try clear c12b0
                        try clear c12b1
                        try clear c17
                        try clear c17b0
                        try clear c17b1
                        try clear c19
                        try clear c20
                        try clear c20b0
                        try clear c20b1
                        try clear p2
                        try clear p6
                        obtain ⟨x9_4, x11_4, rfl, HA, HK4, HO_9, HB⟩ := hrel
                        cases gk with
                        | zero => exact absurd HA.out (by simp [sandglasslaw17_RecordFlips.l0])
                        | succ k4 =>
                          have H := HA.out
                          clear HA
                          simp only [sandglasslaw17_RecordFlips.l0] at H
                          by_cases c21 : x11_4 < 4
                          · rw [if_pos c21] at H
                            have c21b0 : decide (x11_4 < 4) = true := decide_eq_true c21
                            clear c21
                            obtain ⟨ji22, hji22⟩ : ∃ j_ : Int, (wrap64 (x10_17 + x11_4)) = j_ := ⟨_, rfl⟩
                            replace H : (if 0 ≤ (ji22) then (if (ji22) < (x9_4.length : Int) then (if 0 ≤ (IntKind.u64.wrap (wrap64 (8 * x11_4))) then (sandglasslaw17_RecordFlips.l0 k4 a2 (x9_4.set ((ji22) : Int).toNat (Go.bits .xor .u8 (rd x9_4 (ji22)) ((shr .u32 a2 (IntKind.u64.wrap (wrap64 (8 * x11_4)))) % 256))) x10_17 (wrap64 (x11_4 + 1))) else (none)) else (none)) else (none)) = some r := by first | (rw [hji22] at H; exact H) | (simp only [hji22] at H ⊢; exact H)
                            have hji22w : (IntKind.i64.wrap (x10_17 + x11_4)) = ji22 := (i64_w _).trans hji22
                            by_cases c23 : 0 ≤ (ji22)
                            · rw [if_pos c23] at H
                              have c23b0 : decide (0 ≤ (ji22)) = true := decide_eq_true c23
                              clear c23
                              by_cases c24 : (ji22) < (x9_4.length : Int)
                              · rw [if_pos c24] at H
                                have c24b0 : decide ((ji22) < (x9_4.length : Int)) = true := decide_eq_true c24
                                clear c24
                                obtain ⟨ji25, hji25⟩ : ∃ j_ : Int, (IntKind.u64.wrap (wrap64 (8 * x11_4))) = j_ := ⟨_, rfl⟩
                                replace H : (if 0 ≤ (ji25) then (sandglasslaw17_RecordFlips.l0 k4 a2 (x9_4.set ((ji22) : Int).toNat (Go.bits .xor .u8 (rd x9_4 (ji22)) ((shr .u32 a2 (ji25)) % 256))) x10_17 (wrap64 (x11_4 + 1))) else (none)) = some r := by first | (rw [hji25] at H; exact H) | (simp only [hji25] at H ⊢; exact H)
                                by_cases c26 : 0 ≤ (ji25)
                                · rw [if_pos c26] at H
                                  have c26b0 := eq_true c26
                                  have c26b1 : decide (0 ≤ (ji25)) = true := decide_eq_true c26
                                  clear c26
                                  obtain ⟨ji27, hji27⟩ : ∃ j_ : Int, (shr .u32 a2 (ji25)) = j_ := ⟨_, rfl⟩
                                  replace H : (sandglasslaw17_RecordFlips.l0 k4 a2 (x9_4.set ((ji22) : Int).toNat (Go.bits .xor .u8 (rd x9_4 (ji22)) ((ji27) % 256))) x10_17 (wrap64 (x11_4 + 1))) = some r := by first | (rw [hji27] at H; exact H) | (simp only [hji27] at H ⊢; exact H)
                                  have hji27_ : (a2 / 2 ^ min (ji25).toNat 32) = ji27 := hji27
                                  have hji27z : (ji25) ≤ 32 → (a2 / 2 ^ (ji25).toNat) = ji27 := shr_small hji27
                                  obtain ⟨y220, hy220⟩ : ∃ y_ : List Int, y_ = (x9_4.set ((ji22) : Int).toNat (Go.bits .xor .u8 (rd x9_4 (ji22)) ((ji27) % 256))) := ⟨_, rfl⟩
                                  replace H : (sandglasslaw17_RecordFlips.l0 k4 a2 y220 x10_17 (wrap64 (x11_4 + 1))) = some r := by first | (rw [hy220]; with_reducible exact H) | (have H2_ := (Option.bind_some _ _).symm.trans H; rw [hy220]; with_reducible exact H2_) | (have H2_ := (Option.bind_some _ _).symm.trans H; with_reducible exact H2_) | with_reducible exact H | (rw [hy220]; exact H) | exact H
                                  have Ny220 := Aside0.mk hy220
                                  clear hy220
                                  have H' := Aside0.mk H
                                  clear H
                                  obtain ⟨Ao29, co29, eo29⟩ := BRow.BR_slice HO_9.out
                                  subst eo29
                                  have p219 : 0 ≤ ((ji22) : Int) := of_decide_eq_true (by first | (with_reducible assumption) | assumption)
                                  have q219 : (ji22) < (x9_4.length : Int) := of_decide_eq_true (by first | (with_reducible assumption) | assumption)
                                  obtain ⟨ad219, e219, hx219_0⟩ := Kd.at_int (BRow.BR_reads' HO_9.out).2.2 (ji22) p219 q219
                                  cases e219
                                  replace p219 := eq_true p219
                                  replace q219 := eq_true q219
                                  have p28 : 0 ≤ ((ji22) : Int) := of_decide_eq_true (by first | (with_reducible assumption) | assumption)
                                  have q28 : ((ji22) : Int) < ((x9_4.length : Int) : Int) := of_decide_eq_true (by first | (with_reducible assumption) | assumption)
                                  obtain ⟨go28, co28, eo28, gb28, gl28, cl28, HG28⟩ := BRow.BR_form HO_9.out (by omega)
                                  (first | cases eo28 | (injection eo28 with ea_ en_ ec_; (first | subst ea_ | (injection ea_ with ea_; subst ea_)); subst ec_; clear en_))
                                  have GB28 := Aside0.mk gb28
                                  have GG28 := Aside0.mk HG28
                                  clear gb28 gl28 HG28
                                  (first | simp only [add_plain] at hx219_0 | skip)
                                  obtain ⟨hx28_0, hf28_0⟩ := BRow.BR_celln HO_9.out ((ji22) : Int) p28 q28
                                  replace p28 := eq_true p28
                                  replace q28 := eq_true q28
                                  have HP30 := BRow.BR_putg HO_9.out ((ji22) : Int) (Go.bits .xor .u8 (rd x9_4 (ji22)) ((ji27) % 256))
                                  go_wp2_with (first | ((with_reducible refine gate_store (t := 5) (p := 74) rfl ?_); refine store_event (t := 5) (p := 74) (v := ?vo_w31) (w1 := (wr.setCell ⟨go28, ((ji22) : Int).toNat, none⟩ (.int .u8 (Go.bits .xor .u8 (rd x9_4 (ji22)) ((ji27) % 256))))) ?hg ?ho ?hn ?hr ?_; (case ho => rfl); (case hg => rfl); (case hn => rfl); (case hr => first | (go_simp; done) | (go_simp; rfl)); intro w31 hw; have hg : wr.grownBy w31 (some go28) := (by rw [hw]; exact HP30.2); have hp_ : BRow.BR 5 w31 w.heap.size (.slice (some ⟨go28, 0, none⟩) x9_4.length co29) y220 := (by rw [hw, Ny220.out]; exact HP30.1); clear HP30; have n0_ := Aside0.mk (hp_); have n1_ := Aside0.mk ((by rw [hw]; exact below_set (HB.out) GB28.out : Below w.heap.size w w31)); clear HO_9; clear HB; have HO_9 := n0_; have HB := n1_; clear n0_ n1_; clear hg hw hp_))
                                  go_roundg k4
                                  case measure => have := HJ3.out; have := HJ12.out; have := HJ17.out; have := HK4.out; omega
                                  case rel => exact ⟨(y220), (wrap64 (x11_4 + 1)), (by first | rfl | (simp; done) | (simp [*]; done)), H', ⟨by have := HJ3.out; have := HJ12.out; have := HJ17.out; have := HK4.out; omega⟩, ⟨by (with_reducible repeat (first | apply BRow.BR_alloc | apply BRow.BR_drewN | apply BRow.BR_drew)); exact HO_9.out⟩, ⟨by repeat (first | (with_reducible first | exact HB.out | apply below_alloc | apply pw_below_drewN | apply below_drew1) | exact HB.out)⟩⟩
                                · rw [if_neg c26] at H
                                  exact absurd H (by simp)
                              · rw [if_neg c24] at H
                                exact absurd H (by simp)
                            · rw [if_neg c23] at H
                              exact absurd H (by simp)
                          · rw [if_neg c21] at H
                            have c21b0 : decide (x11_4 < 4) = false := decide_eq_false c21
                            clear c21
                            replace H := Option.bind_eq_some_iff.mp H
                            obtain ⟨⟨t221, t222, t223⟩, A320, H⟩ := H
                            replace H : (if t223 = 4 then (if t221.toList = ([] : List UInt8) then (if t222 = 0 then ((sandglasslaw17_awake.f k4).bind fun t224 => (some t224)) else (some false)) else (some false)) else (some false)) = some r := H
                            have A32 := Aside0.mk A320
                            clear A320
                            by_cases c33 : t223 = 4
                            · rw [if_pos c33] at H
                              have c33b0 : (t223 == 4) = true := beq_iff_eq.mpr c33
                              have c33b1 : (t223 != 4) = false := bne_eq_false_iff_eq.mpr c33
                              clear c33
                              by_cases c34 : t221.toList = ([] : List UInt8)
                              · rw [if_pos c34] at H
                                have c34b0 : (t221.toList == ([] : List UInt8)) = true := beq_iff_eq.mpr c34
                                have c34b1 : (t221.toList != ([] : List UInt8)) = false := bne_eq_false_iff_eq.mpr c34
                                clear c34
                                by_cases c35 : t222 = 0
                                · rw [if_pos c35] at H
                                  have c35b0 : (t222 == 0) = true := beq_iff_eq.mpr c35
                                  have c35b1 : (t222 != 0) = false := bne_eq_false_iff_eq.mpr c35
                                  clear c35
                                  replace H := Option.bind_eq_some_iff.mp H
                                  obtain ⟨t224, A360, H⟩ := H
                                  replace H : (some t224) = some r := H
                                  have A36 := Aside0.mk A360
                                  clear A360
                                  obtain rfl := Option.some.inj H
                                  have hcv37 := BRow.BR_string (P := Try.prog) Try.underlying44 Try.underlying5 Try.underlying9 HO_9.out
                                  go_wp2_with (first | ((with_reducible refine gate_callee (f := 13) rfl ?_); refine goesL_ (some 78) rfl rfl Try.func13 (by kernel_rfl) rfl #[.string (strOfNums x9_4)] rfl (by (try simp only [List.map_toArray, List.map_cons, List.map_nil]); first | done | rfl | (simp only [List.length_drop, List.length_take]; rfl)) ?_; (with_reducible refine (record_Next.calls k4 (strOfNums x9_4) t221 t222 t223 _ A32.out).mono ?_); rintro e w38 ⟨rfl, hb⟩; refine ⟨_, rfl, ?_⟩; have n0_ := Aside0.mk (BRow.BR_below (by (with_reducible repeat (first | apply BRow.BR_alloc | apply BRow.BR_drewN | apply BRow.BR_drew)); exact HO_9.out) hb); have n1_ := Aside0.mk (below_step (by repeat (first | (with_reducible first | exact HB.out | apply below_alloc | apply pw_below_drewN | apply below_drew1) | exact HB.out)) hb); clear HO_9; clear HB; have HO_9 := n0_; have HB := n1_; clear n0_ n1_; (try clear hb); (try clear hb2); (try clear hk); (try clear hi)) | (go_at_call 8; (with_reducible refine (sandglasslaw17_awake.calls k4  t224 _ A36.out).mono ?_); rintro e w39 ⟨rfl, hb⟩; have n0_ := Aside0.mk (BRow.BR_below (by (with_reducible repeat (first | apply BRow.BR_alloc | apply BRow.BR_drewN | apply BRow.BR_drew)); exact HO_9.out) hb); have n1_ := Aside0.mk (below_step (by repeat (first | (with_reducible first | exact HB.out | apply below_alloc | apply pw_below_drewN | apply below_drew1) | exact HB.out)) hb); clear HO_9; clear HB; have HO_9 := n0_; have HB := n1_; clear n0_ n1_; (try clear hb); (try clear hb2); (try clear hk); (try clear hi)))
                                  go_ret
                                  exact ⟨by first | rfl | (simp [errW_none, errW_some] <;> rfl) | (simp [*, errW_none, errW_some] <;> rfl), by repeat (first | (with_reducible first | exact HB.out | apply below_alloc | apply pw_below_drewN | apply below_drew1) | exact HB.out)⟩
                                · rw [if_neg c35] at H
                                  have c35b0 : (t222 == 0) = false := beq_eq_false_iff_ne.mpr c35
                                  have c35b1 : (t222 != 0) = true := bne_iff_ne.mpr c35
                                  obtain rfl := Option.some.inj H
                                  have hcv40 := BRow.BR_string (P := Try.prog) Try.underlying44 Try.underlying5 Try.underlying9 HO_9.out
                                  go_wp2_with (first | ((with_reducible refine gate_callee (f := 13) rfl ?_); refine goesL_ (some 78) rfl rfl Try.func13 (by kernel_rfl) rfl #[.string (strOfNums x9_4)] rfl (by (try simp only [List.map_toArray, List.map_cons, List.map_nil]); first | done | rfl | (simp only [List.length_drop, List.length_take]; rfl)) ?_; (with_reducible refine (record_Next.calls k4 (strOfNums x9_4) t221 t222 t223 _ A32.out).mono ?_); rintro e w41 ⟨rfl, hb⟩; refine ⟨_, rfl, ?_⟩; have n0_ := Aside0.mk (BRow.BR_below (by (with_reducible repeat (first | apply BRow.BR_alloc | apply BRow.BR_drewN | apply BRow.BR_drew)); exact HO_9.out) hb); have n1_ := Aside0.mk (below_step (by repeat (first | (with_reducible first | exact HB.out | apply below_alloc | apply pw_below_drewN | apply below_drew1) | exact HB.out)) hb); clear HO_9; clear HB; have HO_9 := n0_; have HB := n1_; clear n0_ n1_; (try clear hb); (try clear hb2); (try clear hk); (try clear hi)))
                                  go_ret
                                  exact ⟨by first | rfl | (simp [errW_none, errW_some] <;> rfl) | (simp [*, errW_none, errW_some] <;> rfl), by repeat (first | (with_reducible first | exact HB.out | apply below_alloc | apply pw_below_drewN | apply below_drew1) | exact HB.out)⟩
                              · rw [if_neg c34] at H
                                have c34b0 : (t221.toList == ([] : List UInt8)) = false := beq_eq_false_iff_ne.mpr c34
                                have c34b1 : (t221.toList != ([] : List UInt8)) = true := bne_iff_ne.mpr c34
                                obtain rfl := Option.some.inj H
                                have hcv42 := BRow.BR_string (P := Try.prog) Try.underlying44 Try.underlying5 Try.underlying9 HO_9.out
                                go_wp2_with (first | ((with_reducible refine gate_callee (f := 13) rfl ?_); refine goesL_ (some 78) rfl rfl Try.func13 (by kernel_rfl) rfl #[.string (strOfNums x9_4)] rfl (by (try simp only [List.map_toArray, List.map_cons, List.map_nil]); first | done | rfl | (simp only [List.length_drop, List.length_take]; rfl)) ?_; (with_reducible refine (record_Next.calls k4 (strOfNums x9_4) t221 t222 t223 _ A32.out).mono ?_); rintro e w43 ⟨rfl, hb⟩; refine ⟨_, rfl, ?_⟩; have n0_ := Aside0.mk (BRow.BR_below (by (with_reducible repeat (first | apply BRow.BR_alloc | apply BRow.BR_drewN | apply BRow.BR_drew)); exact HO_9.out) hb); have n1_ := Aside0.mk (below_step (by repeat (first | (with_reducible first | exact HB.out | apply below_alloc | apply pw_below_drewN | apply below_drew1) | exact HB.out)) hb); clear HO_9; clear HB; have HO_9 := n0_; have HB := n1_; clear n0_ n1_; (try clear hb); (try clear hb2); (try clear hk); (try clear hi)))
                                go_ret
                                exact ⟨by first | rfl | (simp [errW_none, errW_some] <;> rfl) | (simp [*, errW_none, errW_some] <;> rfl), by repeat (first | (with_reducible first | exact HB.out | apply below_alloc | apply pw_below_drewN | apply below_drew1) | exact HB.out)⟩
                            · rw [if_neg c33] at H
                              have c33b0 : (t223 == 4) = false := beq_eq_false_iff_ne.mpr c33
                              have c33b1 : (t223 != 4) = true := bne_iff_ne.mpr c33
                              obtain rfl := Option.some.inj H
                              have hcv44 := BRow.BR_string (P := Try.prog) Try.underlying44 Try.underlying5 Try.underlying9 HO_9.out
                              go_wp2_with (first | ((with_reducible refine gate_callee (f := 13) rfl ?_); refine goesL_ (some 78) rfl rfl Try.func13 (by kernel_rfl) rfl #[.string (strOfNums x9_4)] rfl (by (try simp only [List.map_toArray, List.map_cons, List.map_nil]); first | done | rfl | (simp only [List.length_drop, List.length_take]; rfl)) ?_; (with_reducible refine (record_Next.calls k4 (strOfNums x9_4) t221 t222 t223 _ A32.out).mono ?_); rintro e w45 ⟨rfl, hb⟩; refine ⟨_, rfl, ?_⟩; have n0_ := Aside0.mk (BRow.BR_below (by (with_reducible repeat (first | apply BRow.BR_alloc | apply BRow.BR_drewN | apply BRow.BR_drew)); exact HO_9.out) hb); have n1_ := Aside0.mk (below_step (by repeat (first | (with_reducible first | exact HB.out | apply below_alloc | apply pw_below_drewN | apply below_drew1) | exact HB.out)) hb); clear HO_9; clear HB; have HO_9 := n0_; have HB := n1_; clear n0_ n1_; (try clear hb); (try clear hb2); (try clear hk); (try clear hi)))
                              go_ret
                              exact ⟨by first | rfl | (simp [errW_none, errW_some] <;> rfl) | (simp [*, errW_none, errW_some] <;> rfl), by repeat (first | (with_reducible first | exact HB.out | apply below_alloc | apply pw_below_drewN | apply below_drew1) | exact HB.out)⟩
            · rw [if_neg c12] at H
              exact absurd H (by simp)
          · rw [if_neg c11] at H
            exact absurd H (by simp)
        · rw [if_neg c10] at H
          have c10b0 : ((t214.size : Int) == (wrap64 ((a0.size : Int) + 8))) = false := beq_eq_false_iff_ne.mpr c10
          have c10b1 : ((t214.size : Int) != (wrap64 ((a0.size : Int) + 8))) = true := bne_iff_ne.mpr c10
          obtain rfl := Option.some.inj H
          go_wp2_with (first | ((with_reducible refine gate_callee (f := 9) rfl ?_); refine goesL_ (some 25) rfl rfl Try.func9 (by kernel_rfl) rfl #[.string a0] rfl (by (try simp only [List.map_toArray, List.map_cons, List.map_nil]); first | done | rfl | (simp only [List.length_drop, List.length_take]; rfl)) ?_; (with_reducible refine (record_Frame.calls kj3 a0 t214 t215 _ A9.out).mono ?_); rintro e w46 ⟨rfl, hb⟩; refine ⟨_, rfl, ?_⟩; have n0_ := Aside0.mk (below_step (by repeat (first | (with_reducible first | exact HB.out | apply below_alloc | apply pw_below_drewN | apply below_drew1) | exact HB.out)) hb); clear HB; have HB := n0_; clear n0_; (try clear hb); (try clear hb2); (try clear hk); (try clear hi)))
          go_ret
          exact ⟨by first | rfl | (simp [errW_none, errW_some] <;> rfl) | (simp [*, errW_none, errW_some] <;> rfl), by repeat (first | (with_reducible first | exact HB.out | apply below_alloc | apply pw_below_drewN | apply below_drew1) | exact HB.out)⟩

/-- THE ONE PURE STATEMENT of sandglasslaw17_RecordFlips: yours. -/
def sandglasslaw17_RecordFlips.Pure : Prop := ∀ (a0 : ByteArray) (a1 : Int) (a2 : Int), a0.size ≤ 140737488351232 → (Lit.int .i64 a1).wf = true → (Lit.int .u32 a2).wf = true → ∃ k, sandglasslaw17_RecordFlips.f k a0 a1 a2 = some true
theorem sandglasslaw17_RecordFlips.walk (P : sandglasslaw17_RecordFlips.Pure) (a0 : ByteArray) (a1 : Int) (a2 : Int) (w : World) (w0 : a0.size ≤ 140737488351232) (w1 : (Lit.int .i64 a1).wf = true) (w2 : (Lit.int .u32 a2).wf = true) :
    Calls Try.prog 7 #[.string a0, .int .i64 a1, .int .u32 a2] w fun e w' => e = .returned (.bool true) ∧ Below w.heap.size w w' := by
  obtain ⟨k, h⟩ := P a0 a1 a2 w0 w1 w2
  refine (sandglasslaw17_RecordFlips.calls k a0 a1 a2 true w h).mono ?_
  rintro e w' ⟨rfl, hd⟩
  exact ⟨rfl, hd⟩

end Go.Proofs.Ytdmkojlaancopaa.PAll
