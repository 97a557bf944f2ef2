/- Printed by a program of this claim: the machine side of its law, for every input; no condition. -/
import Derived.Test.YtifpomknkjegeaaDoorPAllx0
import Derived.Test.YtifpomknkjegeaaDoorPAllx42
namespace Go.Proofs.YtifpomknkjegeaaDoor.PAll
open Go.RowKit Go.Proofs.YtifpomknkjegeaaDoorW.PrintWords Go.Proofs.YtifpomknkjegeaaDoorW.PrintLast Go.Proofs.YtifpomknkjegeaaDoorW.PrintMore
attribute [local go_sem] max2_int min2_int max_two min_two max_three min_three max_four min_four
set_option linter.unusedVariables false
set_option linter.unusedSimpArgs false
attribute [local go_sem] all_u8 all_u32 all_u64
def sandglassref16_Texts.l0 : Nat → List ByteArray → ByteArray → Int → Option (ByteArray)
 | 0, _, _, _ => none
 | k + 1, x0, x3, x4 => if x4 < (x0.length : Int) then (if 0 ≤ x4 then ((sandglassref16_Text.f (rdOf ByteArray.empty x0 x4)).bind fun t216 => (if x3.size + t216.size ≤ 9223372036854775807 then (sandglassref16_Texts.l0 k x0 (x3 ++ t216) (wrap64 (x4 + 1))) else (none))) else (none)) else (some x3)
def sandglassref16_Texts.f (k : Nat) (l0 : List ByteArray) : Option (ByteArray) := sandglassref16_Texts.l0 k l0 (⟨#[]⟩ : ByteArray) 0
theorem sandglassref16_Texts.mono_l : ∀ k, (∀ y0 y1 y2, LeO (sandglassref16_Texts.l0 k y0 y1 y2) (sandglassref16_Texts.l0 (k + 1) y0 y1 y2))
 | 0 => fun _ _ _ r h => by simp [sandglassref16_Texts.l0] at h
 | k + 1 => by
  have ih0 := sandglassref16_Texts.mono_l k
  ·
   intro y0 y1 y2
   unfold sandglassref16_Texts.l0
   repeat' first
   | (with_reducible exact ih0 _ _ _)
   | (with_reducible exact LeO.refl _)
   | (with_reducible exact LeO.none _)
   | (with_reducible refine LeO.ite ?_ ?_)
   | (with_reducible refine LeO.bind ?_ (fun _ => ?_))
   | exact ih0 _ _ _
   | exact LeO.none _
   | refine LeO.ite ?_ ?_
   | refine LeO.bind ?_ (fun _ => ?_)
theorem sandglassref16_Texts.mono : ∀ a0 k, LeO (sandglassref16_Texts.f k a0) (sandglassref16_Texts.f (k + 1) a0) := by
 intro a0 k
 have ih0 := sandglassref16_Texts.mono_l k
 unfold sandglassref16_Texts.f
 repeat' first
   | (with_reducible exact ih0 _ _ _)
   | (with_reducible exact LeO.refl _)
   | (with_reducible exact LeO.none _)
   | (with_reducible refine LeO.ite ?_ ?_)
   | (with_reducible refine LeO.bind ?_ (fun _ => ?_))
   | exact ih0 _ _ _
   | exact LeO.none _
   | refine LeO.ite ?_ ?_
   | refine LeO.bind ?_ (fun _ => ?_)
set_option maxHeartbeats 8000000 in
set_option maxRecDepth 100000 in
theorem sandglassref16_Texts.calls (k : Nat) (A0 : Option Addr) (c0 : Nat) (l0 : List ByteArray) (r : ByteArray) (w : World) (hr0 : Kd.C Kd.string w A0 l0.length l0) (hc0 : l0.length ≤ c0) (h : sandglassref16_Texts.f k l0 = some r) :
  Calls Tryd.prog 28 #[.slice A0 l0.length c0] w fun e w' => e = .returned (.string r) ∧ Below w.heap.size w w' := by
 have HR0 := sqA hr0
 have HC0 := sqA hc0
 clear hr0 hc0
 have HB := sqA (Below.refl w.heap.size w)
 have H : (sandglassref16_Texts.l0 k l0 (⟨#[]⟩ : ByteArray) 0) = some r := h
 clear h
 have H' := sqA H
 clear H
 go_enter Tryd.func28, Tryd.ntmps28
 go_wp2
 go_loopg [3, 4] k (fun kq v3 v4 w' => ∃ (x3_1 : ByteArray) (x4_1 : Int), v3 = .string x3_1 ∧ v4 = .int .i64 x4_1 ∧ Aside0 (sandglassref16_Texts.l0 kq l0 x3_1 x4_1 = some r) ∧ Aside0 (kq ≤ k) ∧ Aside0 (Below w.heap.size w w'))
 case atStart => exact ⟨((⟨#[]⟩ : ByteArray)), (0), sqd, sqd, H', ⟨Nat.le_refl _⟩, ⟨sqb HB.out⟩⟩
 case round =>
  clear H'
  obtain ⟨x3_1, x4_1, rfl, rfl, HA, HK1, HB⟩ := hrel
  cases gk with
  | zero => exact absurd HA.out (by simp [sandglassref16_Texts.l0])
  | succ k1 =>
   have H := HA.out
   clear HA
   simp only [sandglassref16_Texts.l0] at H
   by_cases c2 : x4_1 < (l0.length : Int)
   ·
    rw [if_pos c2] at H
    have c2b0 : decide (x4_1 < (l0.length : Int)) = true := decide_eq_true c2
    clear c2
    by_cases c3 : 0 ≤ x4_1
    ·
     rw [if_pos c3] at H
     have c3b0 : decide (0 ≤ x4_1) = true := decide_eq_true c3
     clear c3
     replace H := Option.bind_eq_some_iff.mp H
     obtain ⟨t216, A40, H⟩ := H
     replace H : (if x3_1.size + t216.size ≤ 9223372036854775807 then (sandglassref16_Texts.l0 k1 l0 (x3_1 ++ t216) (wrap64 (x4_1 + 1))) else (none)) = some r := H
     have A4 := sqA A40
     clear A40
     by_cases c5 : x3_1.size + t216.size ≤ 9223372036854775807
     ·
      rw [if_pos c5] at H
      have c5b0 := eq_true c5
      have c5b1 : decide (x3_1.size + t216.size ≤ 9223372036854775807) = true := decide_eq_true c5
      try have c5b2 : (9223372036854775807 < x3_1.size + t216.size) = False := eq_false (Nat.not_lt.2 c5)
      have H' := sqA H
      clear H
      have p215 : 0 ≤ (x4_1 : Int) := of_decide_eq_true sqa
      have q215 : x4_1 < (l0.length : Int) := of_decide_eq_true sqa
      obtain ⟨ad215, e215, hx215_0⟩ := Kd.at_string HR0.out x4_1 p215 q215
      cases e215
      replace hx215_0 := (HB.out.cell (World.block_lt_of_cell? w _ hx215_0)).trans hx215_0
      replace p215 := eq_true p215
      replace q215 := eq_true q215
      go_wp2_with (first | ((with_reducible refine gate_callee (f := 47) rfl ?_); refine goesL_ (some 16) rfl rfl Tryd.func47 (by kernel_rfl) rfl #[.string (rdOf ByteArray.empty l0 x4_1)] rfl sqn ?_; (with_reducible refine (sandglassref16_Text.calls (rdOf ByteArray.empty l0 x4_1) t216 _ A4.out).mono ?_); rintro e w6 ⟨rfl, hb⟩; refine ⟨_, rfl, ?_⟩; have n0_ := sqA (below_step (sqb HB.out) hb); clear HB; have HB := n0_; clear n0_; (try clear hb); (try clear hb2); (try clear hk); (try clear hi)))
      go_roundg k1
      case measure => have := HK1.out; omega
      case rel => exact ⟨(x3_1 ++ t216), (wrap64 (x4_1 + 1)), sqd, sqd, H', ⟨by have := HK1.out; omega⟩, ⟨sqb HB.out⟩⟩
     ·
      rw [if_neg c5] at H
      exact absurd H (by simp)
    ·
     rw [if_neg c3] at H
     exact absurd H (by simp)
   ·
    rw [if_neg c2] at H
    have c2b0 : decide (x4_1 < (l0.length : Int)) = false := decide_eq_false c2
    clear c2
    obtain rfl := Option.some.inj H
    go_wp2
    go_ret
    exact ⟨sqe, sqb HB.out⟩
end Go.Proofs.YtifpomknkjegeaaDoor.PAll
