/- Printed by a program of this claim: the machine side of its law, for every input; no condition. -/
import Derived.Test.YtifpomknkjegeaaDoorPAllx0
import Derived.Test.YtifpomknkjegeaaDoorPAllx16
namespace Go.Proofs.YtifpomknkjegeaaDoor.PAll
open Go.RowKit Go.Proofs.YtifpomknkjegeaaDoorW.PrintWords Go.Proofs.YtifpomknkjegeaaDoorW.PrintLast Go.Proofs.YtifpomknkjegeaaDoorW.PrintMore
attribute [local go_sem] max2_int min2_int max_two min_two max_three min_three max_four min_four
set_option linter.unusedVariables false
set_option linter.unusedSimpArgs false
attribute [local go_sem] all_u8 all_u32 all_u64
def wire_read.f (k : Nat) (a0 : ByteArray) (a1 : Int) : Option (List ByteArray × Bool) := (wire_Read.f k a0).bind fun bt143 => (if bt143.2 = 0 then (some (bt143.1, ((bt143.1.length : Int) == a1))) else (some (bt143.1, false)))
theorem wire_read.mono : ∀ a0 a1 k, LeO (wire_read.f k a0 a1) (wire_read.f (k + 1) a0 a1) := by
 intro a0 a1 k
 unfold wire_read.f
 repeat' first
   | (with_reducible exact wire_Read.mono _ _)
   | (with_reducible exact LeO.refl _)
   | (with_reducible exact LeO.none _)
   | (with_reducible refine LeO.ite ?_ ?_)
   | (with_reducible refine LeO.bind ?_ (fun _ => ?_))
   | exact wire_Read.mono _ _
   | exact LeO.none _
   | refine LeO.ite ?_ ?_
   | refine LeO.bind ?_ (fun _ => ?_)
set_option maxHeartbeats 8000000 in
set_option maxRecDepth 100000 in
theorem wire_read.calls (k : Nat) (a0 : ByteArray) (a1 : Int) (r1 : List ByteArray) (r2 : Bool) (w : World) (h : wire_read.f k a0 a1 = some (r1, r2)) :
  Calls Tryd.prog 65 #[.string a0, .int .i64 a1] w fun e w' => ∃ v0_ : Value, e = .returned (.tuple #[v0_, .bool r2]) ∧ Kd.R Kd.string 9 w' w.heap.size (fun _ => True) v0_ r1 ∧ Below w.heap.size w w' := by
 have HB := sqA (Below.refl w.heap.size w)
 have H : ((wire_Read.f k a0).bind fun bt143 => (if bt143.2 = 0 then (some (bt143.1, ((bt143.1.length : Int) == a1))) else (some (bt143.1, false)))) = some (r1, r2) := h
 clear h
 replace H := Option.bind_eq_some_iff.mp H
 obtain ⟨⟨t143, t144⟩, A30, H⟩ := H
 replace H : (if t144 = 0 then (some (t143, ((t143.length : Int) == a1))) else (some (t143, false))) = some (r1, r2) := H
 have A3 := sqA A30
 clear A30
 by_cases c4 : t144 = 0
 ·
  rw [if_pos c4] at H
  have c4b0 : (t144 == 0) = true := beq_iff_eq.mpr c4
  have c4b1 : (t144 != 0) = false := bne_eq_false_iff_eq.mpr c4
  clear c4
  simp only [Option.some.injEq, Prod.mk.injEq] at H
  obtain ⟨rfl, rfl⟩ := H
  go_enter Tryd.func65, Tryd.ntmps65
  go_wp2_with (first | ((with_reducible refine gate_callee (f := 32) rfl ?_); refine goesL_ (some 10) rfl rfl Tryd.func32 (by kernel_rfl) rfl #[.string a0] rfl sqn ?_; (with_reducible refine (wire_Read.calls k a0 t143 t144 _ A3.out).mono ?_); rintro e w5 ⟨v145, rfl, ho0, hb⟩; refine ⟨_, rfl, ?_⟩; have n0_ := sqA (Kd.R_lower ho0 (below_size (sqb HB.out))); have n1_ := sqA (below_step (sqb HB.out) hb); clear HB; have HO146 := n0_; have HB := n1_; clear n0_ n1_; (try clear hb); (try clear hb2); (try clear hk); (try clear hi); (try clear ho0); obtain ⟨Ao6, co6, eo6⟩ := Kd.R_slice HO146.out; subst eo6))
  go_ret2
  exact ⟨_, sqe, by (with_reducible repeat (first | apply Kd.R_alloc | apply Kd.R_drewN | apply Kd.R_drew)); exact HO146.out, sqb HB.out⟩
 ·
  rw [if_neg c4] at H
  have c4b0 : (t144 == 0) = false := beq_eq_false_iff_ne.mpr c4
  have c4b1 : (t144 != 0) = true := bne_iff_ne.mpr c4
  simp only [Option.some.injEq, Prod.mk.injEq] at H
  obtain ⟨rfl, rfl⟩ := H
  go_enter Tryd.func65, Tryd.ntmps65
  go_wp2_with (first | ((with_reducible refine gate_callee (f := 32) rfl ?_); refine goesL_ (some 10) rfl rfl Tryd.func32 (by kernel_rfl) rfl #[.string a0] rfl sqn ?_; (with_reducible refine (wire_Read.calls k a0 t143 t144 _ A3.out).mono ?_); rintro e w7 ⟨v145, rfl, ho0, hb⟩; refine ⟨_, rfl, ?_⟩; have n0_ := sqA (Kd.R_lower ho0 (below_size (sqb HB.out))); have n1_ := sqA (below_step (sqb HB.out) hb); clear HB; have HO146 := n0_; have HB := n1_; clear n0_ n1_; (try clear hb); (try clear hb2); (try clear hk); (try clear hi); (try clear ho0)))
  go_ret2
  exact ⟨_, sqe, by (with_reducible repeat (first | apply Kd.R_alloc | apply Kd.R_drewN | apply Kd.R_drew)); exact HO146.out, sqb HB.out⟩
end Go.Proofs.YtifpomknkjegeaaDoor.PAll
