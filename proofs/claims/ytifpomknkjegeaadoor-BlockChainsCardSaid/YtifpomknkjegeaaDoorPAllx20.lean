/- Printed by a program of this claim: the machine side of its law, for every input; no condition. -/
import Derived.Test.YtifpomknkjegeaaDoorPAllx0
import Derived.Test.YtifpomknkjegeaaDoorPAllx6
import Derived.Test.YtifpomknkjegeaaDoorPAllx17
import Derived.Test.YtifpomknkjegeaaDoorPAllx18
import Derived.Test.YtifpomknkjegeaaDoorPAllx19
namespace Go.Proofs.YtifpomknkjegeaaDoor.PAll
open Go.RowKit Go.Proofs.YtifpomknkjegeaaDoorW.PrintWords Go.Proofs.YtifpomknkjegeaaDoorW.PrintLast Go.Proofs.YtifpomknkjegeaaDoorW.PrintMore
attribute [local go_sem] max2_int min2_int max_two min_two max_three min_three max_four min_four
set_option linter.unusedVariables false
set_option linter.unusedSimpArgs false
attribute [local go_sem] all_u8 all_u32 all_u64
def wire_ReadCommand.f (k : Nat) (a0 : ByteArray) : Option (Int × Int × ByteArray × ByteArray × Int) := (wire_read.f k a0 4).bind fun bt150 => (if bt150.2 = true then (if 0 < (bt150.1.length : Int) then ((wire_one.f (rdOf ByteArray.empty bt150.1 0)).bind fun bt155 => (if 1 < (bt150.1.length : Int) then ((wire_one.f (rdOf ByteArray.empty bt150.1 1)).bind fun bt158 => (if 2 < (bt150.1.length : Int) then ((wire_text.f (rdOf ByteArray.empty bt150.1 2)).bind fun bt161 => (if 3 < (bt150.1.length : Int) then ((wire_text.f (rdOf ByteArray.empty bt150.1 3)).bind fun bt164 => (if bt155.2 = true then (some (0, 0, (⟨#[]⟩ : ByteArray), (⟨#[]⟩ : ByteArray), 3)) else (if bt158.2 = true then (some (0, 0, (⟨#[]⟩ : ByteArray), (⟨#[]⟩ : ByteArray), 3)) else ((wire_CheckCommand.f bt155.1 bt158.1 bt161.1 bt164.1).bind fun t171 => (if t171 = 0 then (some (bt155.1, bt158.1, bt161.1, bt164.1, 0)) else (some (0, 0, (⟨#[]⟩ : ByteArray), (⟨#[]⟩ : ByteArray), 3))))))) else (none))) else (none))) else (none))) else (none)) else (some (0, 0, (⟨#[]⟩ : ByteArray), (⟨#[]⟩ : ByteArray), 3)))
theorem wire_ReadCommand.mono : ∀ a0 k, LeO (wire_ReadCommand.f k a0) (wire_ReadCommand.f (k + 1) a0) := by
 intro a0 k
 unfold wire_ReadCommand.f
 repeat' first
   | (with_reducible exact wire_read.mono _ _ _)
   | (with_reducible exact LeO.refl _)
   | (with_reducible exact LeO.none _)
   | (with_reducible refine LeO.ite ?_ ?_)
   | (with_reducible refine LeO.bind ?_ (fun _ => ?_))
   | exact wire_read.mono _ _ _
   | exact LeO.none _
   | refine LeO.ite ?_ ?_
   | refine LeO.bind ?_ (fun _ => ?_)
def wire_ReadCommand.T4 : Bool × List (List Nat × List Nat) := (true, [([], []), ([0], [0]), ([1], [1]), ([2], [2]), ([], []), ([4], [4]), ([5], [5]), ([6, 3], [6]), ([], []), ([8], [8]), ([9], [9]), ([10, 7], [10]), ([], []), ([12], [12]), ([13], [13]), ([14, 11], [14]), ([], []), ([], []), ([], []), ([], []), ([16, 3, 15, 0, 1, 2, 3, 16, 17, 18, 19], [3, 16]), ([17, 7, 20, 0, 1, 2, 3, 4, 5, 6, 7, 16, 17, 18, 19, 20], [7, 17]), ([18, 11, 21, 0, 1, 2, 3, 4, 5, 6, 7, 8, 9, 10, 11, 16, 17, 18, 19, 20, 21], [11, 18]), ([19, 15, 22, 0, 1, 2, 3, 4, 5, 6, 7, 8, 9, 10, 11, 12, 13, 14, 15, 16, 17, 18, 19, 20, 21, 22], [15, 19])])
def wire_ReadCommand.B4 : List Nat := [0, 1, 3, 7, 0, 16, 48, 127, 0, 256, 768, 2047, 0, 4096, 12288, 32767, 0, 0, 0, 0, 1048575, 2097151, 4194303, 8388607]
theorem wire_ReadCommand.tab4 : rtab .any (opsOf Tryd.f60 4) = wire_ReadCommand.T4 := by kernel_rfl
theorem wire_ReadCommand.bits4 : waitsOk wire_ReadCommand.T4.2 wire_ReadCommand.B4 = true := by kernel_rfl
set_option maxHeartbeats 8000000 in
set_option maxRecDepth 100000 in
theorem wire_ReadCommand.calls (k : Nat) (a0 : ByteArray) (r1 : Int) (r2 : Int) (r3 : ByteArray) (r4 : ByteArray) (r5 : Int) (w : World) (h : wire_ReadCommand.f k a0 = some (r1, r2, r3, r4, r5)) :
  Calls Tryd.prog 60 #[.string a0] w fun e w' => e = .returned (.tuple #[.agg #[.int .i64 r1, .int .i64 r2, .string r3, .string r4], .int .i64 r5]) ∧ Below w.heap.size w w' := by
 have hu51 := Tryd.underlying51
 have hu108 := Tryd.underlying108
 have hu111 := Tryd.underlying111
 have HB := sqA (Below.refl w.heap.size w)
 have H : ((wire_read.f k a0 4).bind fun bt150 => (if bt150.2 = true then (if 0 < (bt150.1.length : Int) then ((wire_one.f (rdOf ByteArray.empty bt150.1 0)).bind fun bt155 => (if 1 < (bt150.1.length : Int) then ((wire_one.f (rdOf ByteArray.empty bt150.1 1)).bind fun bt158 => (if 2 < (bt150.1.length : Int) then ((wire_text.f (rdOf ByteArray.empty bt150.1 2)).bind fun bt161 => (if 3 < (bt150.1.length : Int) then ((wire_text.f (rdOf ByteArray.empty bt150.1 3)).bind fun bt164 => (if bt155.2 = true then (some (0, 0, (⟨#[]⟩ : ByteArray), (⟨#[]⟩ : ByteArray), 3)) else (if bt158.2 = true then (some (0, 0, (⟨#[]⟩ : ByteArray), (⟨#[]⟩ : ByteArray), 3)) else ((wire_CheckCommand.f bt155.1 bt158.1 bt161.1 bt164.1).bind fun t171 => (if t171 = 0 then (some (bt155.1, bt158.1, bt161.1, bt164.1, 0)) else (some (0, 0, (⟨#[]⟩ : ByteArray), (⟨#[]⟩ : ByteArray), 3))))))) else (none))) else (none))) else (none))) else (none)) else (some (0, 0, (⟨#[]⟩ : ByteArray), (⟨#[]⟩ : ByteArray), 3)))) = some (r1, r2, r3, r4, r5) := h
 clear h
 replace H := Option.bind_eq_some_iff.mp H
 obtain ⟨⟨t150, t151⟩, A20, H⟩ := H
 replace H : (if t151 = true then (if 0 < (t150.length : Int) then ((wire_one.f (rdOf ByteArray.empty t150 0)).bind fun bt155 => (if 1 < (t150.length : Int) then ((wire_one.f (rdOf ByteArray.empty t150 1)).bind fun bt158 => (if 2 < (t150.length : Int) then ((wire_text.f (rdOf ByteArray.empty t150 2)).bind fun bt161 => (if 3 < (t150.length : Int) then ((wire_text.f (rdOf ByteArray.empty t150 3)).bind fun bt164 => (if bt155.2 = true then (some (0, 0, (⟨#[]⟩ : ByteArray), (⟨#[]⟩ : ByteArray), 3)) else (if bt158.2 = true then (some (0, 0, (⟨#[]⟩ : ByteArray), (⟨#[]⟩ : ByteArray), 3)) else ((wire_CheckCommand.f bt155.1 bt158.1 bt161.1 bt164.1).bind fun t171 => (if t171 = 0 then (some (bt155.1, bt158.1, bt161.1, bt164.1, 0)) else (some (0, 0, (⟨#[]⟩ : ByteArray), (⟨#[]⟩ : ByteArray), 3))))))) else (none))) else (none))) else (none))) else (none)) else (some (0, 0, (⟨#[]⟩ : ByteArray), (⟨#[]⟩ : ByteArray), 3))) = some (r1, r2, r3, r4, r5) := H
 have A2 := sqA A20
 clear A20
 by_cases c3 : t151 = true
 case neg =>
  replace c3 := Bool.eq_false_iff.mpr c3
  subst c3
  have H1 : (some (0, 0, (⟨#[]⟩ : ByteArray), (⟨#[]⟩ : ByteArray), 3)) = some (r1, r2, r3, r4, r5) := by rw [if_neg (show ¬ (false = true) by decide)] at H; exact H
  clear H
  have H := H1
  clear H1
  simp only [Option.some.injEq, Prod.mk.injEq] at H
  obtain ⟨rfl, rfl, rfl, rfl, rfl⟩ := H
  go_enter Tryd.func60, Tryd.ntmps60
  go_wp2_with (first | ((with_reducible refine gate_dst (N := 2) rfl ?_); refine sqo (N := 2) (cs := #[.int .i64 0, .int .i64 0, .string (⟨#[]⟩ : ByteArray), .string (⟨#[]⟩ : ByteArray)]) (t := 51) ?_; intro gb149 hg w198 hbox hb; have n0_ := sqA (below_step (sqb HB.out) hb); have n1_ := sqA (hbox); have n2_ := sqA ((by rw [hg]; exact (below_size (sqb HB.out)) : w.heap.size ≤ gb149)); have n3_ := sqA ((by rw [hg]; exact (below_size (sqb HB.out)) : w.heap.size ≤ gb149)); clear HB; have HB := n0_; have BK149 := n1_; have GW149 := n2_; have GE149 := n3_; clear n0_ n1_ n2_ n3_; clear hb hbox hg) | ((with_reducible refine gate_callee (f := 65) rfl ?_); refine goesL_ (some 13) rfl rfl Tryd.func65 (by kernel_rfl) rfl #[.string a0, .int .i64 4] rfl sqn ?_; (with_reducible refine (wire_read.calls k a0 4 t150 false _ A2.out).mono ?_); rintro e w199 ⟨v152, rfl, ho0, hb⟩; refine ⟨_, rfl, ?_⟩; have n0_ := sqA (Kd.R_lower ho0 (below_size (sqs HB.out))); have n1_ := sqA (blk_below (g := gb149) (o := .cells #[.int .i64 0, .int .i64 0, .string (⟨#[]⟩ : ByteArray), .string (⟨#[]⟩ : ByteArray)] 51 (0, 0)) (sqk BK149.out) hb); have n2_ := sqA (below_step (sqs HB.out) hb); clear BK149; clear HB; have HO153 := n0_; have BK149 := n1_; have HB := n2_; clear n0_ n1_ n2_; (try clear hb); (try clear hb2); (try clear hk); (try clear hi); (try clear ho0); have hcz200_0 : w199.cell? ⟨gb149, 0, none⟩ = some (.int .i64 0) := (blk_cell BK149.out 0).trans rfl; have hcz200_1 : w199.cell? ⟨gb149, 1, none⟩ = some (.int .i64 0) := (blk_cell BK149.out 1).trans rfl; have hcz200_2 : w199.cell? ⟨gb149, 2, none⟩ = some (.string (⟨#[]⟩ : ByteArray)) := (blk_cell BK149.out 2).trans rfl; have hcz200_3 : w199.cell? ⟨gb149, 3, none⟩ = some (.string (⟨#[]⟩ : ByteArray)) := (blk_cell BK149.out 3).trans rfl; have hfz200_0 := blk_frozen BK149.out 0; have hfz200_1 := blk_frozen BK149.out 1; have hfz200_2 := blk_frozen BK149.out 2; have hfz200_3 := blk_frozen BK149.out 3))
  refine bodyPost_ret (results_ct rfl _ _ gb149 51 #[.int .i64 0, .int .i64 0, .string (⟨#[]⟩ : ByteArray), .string (⟨#[]⟩ : ByteArray)] (0, 0) _ rfl (by (with_reducible repeat (first | refine blk_drewN ?_ _ | refine blk_drew ?_ | refine blk_alloc ?_ _)); refine blk_put (cs := #[.int .i64 0, .int .i64 0, .string (⟨#[]⟩ : ByteArray), .string (⟨#[]⟩ : ByteArray)]) ?_ 3 _ rfl; (with_reducible repeat (first | refine blk_drewN ?_ _ | refine blk_drew ?_ | refine blk_alloc ?_ _)); refine blk_put (cs := #[.int .i64 0, .int .i64 0, .string (⟨#[]⟩ : ByteArray), .string (⟨#[]⟩ : ByteArray)]) ?_ 2 _ rfl; (with_reducible repeat (first | refine blk_drewN ?_ _ | refine blk_drew ?_ | refine blk_alloc ?_ _)); refine blk_put (cs := #[.int .i64 0, .int .i64 0, .string (⟨#[]⟩ : ByteArray), .string (⟨#[]⟩ : ByteArray)]) ?_ 1 _ rfl; (with_reducible repeat (first | refine blk_drewN ?_ _ | refine blk_drew ?_ | refine blk_alloc ?_ _)); refine blk_put (cs := #[.int .i64 0, .int .i64 0, .string (⟨#[]⟩ : ByteArray), .string (⟨#[]⟩ : ByteArray)]) ?_ 0 _ rfl; (with_reducible repeat (first | refine blk_drewN ?_ _ | refine blk_drew ?_ | refine blk_alloc ?_ _)); exact BK149.out) Tryd.underlying51 rfl (by kernel_rfl)) rfl ?_
  exact ⟨sqe, sqs HB.out⟩
 subst c3
 have H1 : (if 0 < (t150.length : Int) then ((wire_one.f (rdOf ByteArray.empty t150 0)).bind fun bt155 => (if 1 < (t150.length : Int) then ((wire_one.f (rdOf ByteArray.empty t150 1)).bind fun bt158 => (if 2 < (t150.length : Int) then ((wire_text.f (rdOf ByteArray.empty t150 2)).bind fun bt161 => (if 3 < (t150.length : Int) then ((wire_text.f (rdOf ByteArray.empty t150 3)).bind fun bt164 => (if bt155.2 = true then (some (0, 0, (⟨#[]⟩ : ByteArray), (⟨#[]⟩ : ByteArray), 3)) else (if bt158.2 = true then (some (0, 0, (⟨#[]⟩ : ByteArray), (⟨#[]⟩ : ByteArray), 3)) else ((wire_CheckCommand.f bt155.1 bt158.1 bt161.1 bt164.1).bind fun t171 => (if t171 = 0 then (some (bt155.1, bt158.1, bt161.1, bt164.1, 0)) else (some (0, 0, (⟨#[]⟩ : ByteArray), (⟨#[]⟩ : ByteArray), 3))))))) else (none))) else (none))) else (none))) else (none)) = some (r1, r2, r3, r4, r5) := by rw [if_pos rfl] at H; exact H
 clear H
 have H := H1
 clear H1
 by_cases c4 : 0 < (t150.length : Int)
 case neg =>
  rw [if_neg c4] at H
  exact absurd H (by simp)
 rw [if_pos c4] at H
 have c4b0 : decide (0 < (t150.length : Int)) = true := decide_eq_true c4
 have c4b1 : decide (0 < t150.length) = true := decide_eq_true (by omega)
 clear c4
 replace H := Option.bind_eq_some_iff.mp H
 obtain ⟨⟨t155, t156⟩, A50, H⟩ := H
 replace H : (if 1 < (t150.length : Int) then ((wire_one.f (rdOf ByteArray.empty t150 1)).bind fun bt158 => (if 2 < (t150.length : Int) then ((wire_text.f (rdOf ByteArray.empty t150 2)).bind fun bt161 => (if 3 < (t150.length : Int) then ((wire_text.f (rdOf ByteArray.empty t150 3)).bind fun bt164 => (if t156 = true then (some (0, 0, (⟨#[]⟩ : ByteArray), (⟨#[]⟩ : ByteArray), 3)) else (if bt158.2 = true then (some (0, 0, (⟨#[]⟩ : ByteArray), (⟨#[]⟩ : ByteArray), 3)) else ((wire_CheckCommand.f t155 bt158.1 bt161.1 bt164.1).bind fun t171 => (if t171 = 0 then (some (t155, bt158.1, bt161.1, bt164.1, 0)) else (some (0, 0, (⟨#[]⟩ : ByteArray), (⟨#[]⟩ : ByteArray), 3))))))) else (none))) else (none))) else (none)) = some (r1, r2, r3, r4, r5) := H
 have A5 := sqA A50
 clear A50
 by_cases c6 : 1 < (t150.length : Int)
 case neg =>
  rw [if_neg c6] at H
  exact absurd H (by simp)
 rw [if_pos c6] at H
 have c6b0 : decide (1 < (t150.length : Int)) = true := decide_eq_true c6
 have c6b1 : decide (1 < t150.length) = true := decide_eq_true (by omega)
 clear c6
 replace H := Option.bind_eq_some_iff.mp H
 obtain ⟨⟨t158, t159⟩, A70, H⟩ := H
 replace H : (if 2 < (t150.length : Int) then ((wire_text.f (rdOf ByteArray.empty t150 2)).bind fun bt161 => (if 3 < (t150.length : Int) then ((wire_text.f (rdOf ByteArray.empty t150 3)).bind fun bt164 => (if t156 = true then (some (0, 0, (⟨#[]⟩ : ByteArray), (⟨#[]⟩ : ByteArray), 3)) else (if t159 = true then (some (0, 0, (⟨#[]⟩ : ByteArray), (⟨#[]⟩ : ByteArray), 3)) else ((wire_CheckCommand.f t155 t158 bt161.1 bt164.1).bind fun t171 => (if t171 = 0 then (some (t155, t158, bt161.1, bt164.1, 0)) else (some (0, 0, (⟨#[]⟩ : ByteArray), (⟨#[]⟩ : ByteArray), 3))))))) else (none))) else (none)) = some (r1, r2, r3, r4, r5) := H
 have A7 := sqA A70
 clear A70
 by_cases c8 : 2 < (t150.length : Int)
 case neg =>
  rw [if_neg c8] at H
  exact absurd H (by simp)
 rw [if_pos c8] at H
 have c8b0 : decide (2 < (t150.length : Int)) = true := decide_eq_true c8
 have c8b1 : decide (2 < t150.length) = true := decide_eq_true (by omega)
 clear c8
 replace H := Option.bind_eq_some_iff.mp H
 obtain ⟨⟨t161, t162⟩, A90, H⟩ := H
 replace H : (if 3 < (t150.length : Int) then ((wire_text.f (rdOf ByteArray.empty t150 3)).bind fun bt164 => (if t156 = true then (some (0, 0, (⟨#[]⟩ : ByteArray), (⟨#[]⟩ : ByteArray), 3)) else (if t159 = true then (some (0, 0, (⟨#[]⟩ : ByteArray), (⟨#[]⟩ : ByteArray), 3)) else ((wire_CheckCommand.f t155 t158 t161 bt164.1).bind fun t171 => (if t171 = 0 then (some (t155, t158, t161, bt164.1, 0)) else (some (0, 0, (⟨#[]⟩ : ByteArray), (⟨#[]⟩ : ByteArray), 3))))))) else (none)) = some (r1, r2, r3, r4, r5) := H
 have A9 := sqA A90
 clear A90
 by_cases c10 : 3 < (t150.length : Int)
 case neg =>
  rw [if_neg c10] at H
  exact absurd H (by simp)
 rw [if_pos c10] at H
 have c10b0 : decide (3 < (t150.length : Int)) = true := decide_eq_true c10
 have c10b1 : decide (3 < t150.length) = true := decide_eq_true (by omega)
 clear c10
 replace H := Option.bind_eq_some_iff.mp H
 obtain ⟨⟨t164, t165⟩, A110, H⟩ := H
 replace H : (if t156 = true then (some (0, 0, (⟨#[]⟩ : ByteArray), (⟨#[]⟩ : ByteArray), 3)) else (if t159 = true then (some (0, 0, (⟨#[]⟩ : ByteArray), (⟨#[]⟩ : ByteArray), 3)) else ((wire_CheckCommand.f t155 t158 t161 t164).bind fun t171 => (if t171 = 0 then (some (t155, t158, t161, t164, 0)) else (some (0, 0, (⟨#[]⟩ : ByteArray), (⟨#[]⟩ : ByteArray), 3)))))) = some (r1, r2, r3, r4, r5) := H
 have A11 := sqA A110
 clear A110
 have HM_ := sqA H
 clear H
 go_enter Tryd.func60, Tryd.ntmps60
 try go_wp2_with (first | ((with_reducible refine gate_dst (N := 2) rfl ?_); refine sqo (N := 2) (cs := #[.int .i64 0, .int .i64 0, .string (⟨#[]⟩ : ByteArray), .string (⟨#[]⟩ : ByteArray)]) (t := 51) ?_; intro gb149 hg w13 hbox hb; have n0_ := sqA (below_step (sqb HB.out) hb); have n1_ := sqA (hbox); have n2_ := sqA ((by rw [hg]; exact (below_size (sqb HB.out)) : w.heap.size ≤ gb149)); have n3_ := sqA ((by rw [hg]; exact (below_size (sqb HB.out)) : w.heap.size ≤ gb149)); clear HB; have HB := n0_; have BK149 := n1_; have GW149 := n2_; have GE149 := n3_; clear n0_ n1_ n2_ n3_; clear hb hbox hg) | ((with_reducible refine gate_callee (f := 65) rfl ?_); refine goesL_ (some 13) rfl rfl Tryd.func65 (by kernel_rfl) rfl #[.string a0, .int .i64 4] rfl sqn ?_; (with_reducible refine (wire_read.calls k a0 4 t150 true _ A2.out).mono ?_); rintro e w14 ⟨v152, rfl, ho0, hb⟩; refine ⟨_, rfl, ?_⟩; have n0_ := sqA (Kd.R_lower ho0 (below_size (sqs HB.out))); have n1_ := sqA (blk_below (g := gb149) (o := .cells #[.int .i64 0, .int .i64 0, .string (⟨#[]⟩ : ByteArray), .string (⟨#[]⟩ : ByteArray)] 51 (0, 0)) (sqk BK149.out) hb); have n2_ := sqA (below_step (sqs HB.out) hb); clear BK149; clear HB; have HO153 := n0_; have BK149 := n1_; have HB := n2_; clear n0_ n1_ n2_; (try clear hb); (try clear hb2); (try clear hk); (try clear hi); (try clear ho0)))
 have n0_ := sqA (Kd.R_drew HO153.out)
 have n1_ := sqA (blk_drew BK149.out)
 have n2_ := sqA (below_drew1 HB.out)
 clear HO153
 clear BK149
 clear HB
 have HO153 := n0_
 have BK149 := n1_
 have HB := n2_
 clear n0_ n1_ n2_
 obtain ⟨Ao16, co16, eo16⟩ := Kd.R_slice HO153.out
 (first | subst eo16 | (injection eo16 with f1_ f2_ f3_; have f4_ := f1_.symm; have f5_ := f3_.symm; clear f1_ f2_ f3_; subst f4_; subst f5_))
 have p154 : 0 ≤ (0 : Int) := (by omega)
 have q154 : 0 < (t150.length : Int) := of_decide_eq_true sqa
 obtain ⟨ad154, e154, hx154_0⟩ := Kd.at_string (Kd.R_reads' HO153.out).2.2 0 p154 q154
 cases e154
 have qi154 : (0 < t150.length) = True := eq_true (by omega)
 (try rw [show ((0 : Int)).toNat = 0 from rfl] at hx154_0)
 (try rw [Addr.add_zero'] at hx154_0)
 replace p154 := eq_true p154
 replace q154 := eq_true q154
 have p157 : 0 ≤ (1 : Int) := (by omega)
 have q157 : 1 < (t150.length : Int) := of_decide_eq_true sqa
 obtain ⟨ad157, e157, hx157_0⟩ := Kd.at_string (Kd.R_reads' HO153.out).2.2 1 p157 q157
 obtain rfl : ad154 = ad157 := (by injection e157)
 (try simp only [show (1 : Int).toNat = 1 from rfl, Nat.reduceMul, Nat.reduceEqDiff, Go.Addr.add, ↓reduceIte] at hx157_0)
 have qi157 : (1 < t150.length) = True := eq_true (by omega)
 (try rw [show ((1 : Int)).toNat = 1 from rfl] at hx157_0)
 replace p157 := eq_true p157
 replace q157 := eq_true q157
 have p160 : 0 ≤ (2 : Int) := (by omega)
 have q160 : 2 < (t150.length : Int) := of_decide_eq_true sqa
 obtain ⟨ad160, e160, hx160_0⟩ := Kd.at_string (Kd.R_reads' HO153.out).2.2 2 p160 q160
 obtain rfl : ad154 = ad160 := (by injection e160)
 (try simp only [show (2 : Int).toNat = 2 from rfl, Nat.reduceMul, Nat.reduceEqDiff, Go.Addr.add, ↓reduceIte] at hx160_0)
 have qi160 : (2 < t150.length) = True := eq_true (by omega)
 (try rw [show ((2 : Int)).toNat = 2 from rfl] at hx160_0)
 replace p160 := eq_true p160
 replace q160 := eq_true q160
 have p163 : 0 ≤ (3 : Int) := (by omega)
 have q163 : 3 < (t150.length : Int) := of_decide_eq_true sqa
 obtain ⟨ad163, e163, hx163_0⟩ := Kd.at_string (Kd.R_reads' HO153.out).2.2 3 p163 q163
 obtain rfl : ad154 = ad163 := (by injection e163)
 (try simp only [show (3 : Int).toNat = 3 from rfl, Nat.reduceMul, Nat.reduceEqDiff, Go.Addr.add, ↓reduceIte] at hx163_0)
 have qi163 : (3 < t150.length) = True := eq_true (by omega)
 (try rw [show ((3 : Int)).toNat = 3 from rfl] at hx163_0)
 replace p163 := eq_true p163
 replace q163 := eq_true q163
 refine start_ (n := 24) (S := fun w' => True) (ds := []) #[false, false, false, false, false, false, false, false, false, false, false, false, false, false, false, false, false, false, false, false, false, false, false, false] (by kernel_rfl) rfl rfl trivial (fun hHeld => ?_); refine with_tabW wire_ReadCommand.tab4 wire_ReadCommand.bits4 (fun HT_ HW_ => ?_)
 generalize w14.drew = w15 at HO153 BK149 HB hx154_0 hx157_0 hx160_0 hx163_0 hHeld ⊢
 refine pure_ (i := 0) (N := some 19) (v := ?_) (a' := ?_) #[true, false, false, false, false, false, false, false, false, false, false, false, false, false, false, false, false, false, false, false, false, false, false, false] rfl rfl (any_of HT_.out (by kernel_rfl)) (fun _ _ _ h => h) (Or.inl ⟨by rfl, ?_⟩) ?_ ?_
 rotate_left
 ·
  intro w'
  go_simp
  with_reducible rfl
 rotate_left
 ·
  simp only [Act.put, List.setIfInBounds_toArray, List.set_cons_zero, List.set_cons_succ, i64_w, i32_w]
  rfl
 refine pure_ (i := 4) (N := some 23) (v := ?_) (a' := ?_) #[true, false, false, false, true, false, false, false, false, false, false, false, false, false, false, false, false, false, false, false, false, false, false, false] rfl rfl (any_of HT_.out (by kernel_rfl)) (fun _ _ _ h => h) (Or.inl ⟨by rfl, ?_⟩) ?_ ?_
 rotate_left
 ·
  intro w'
  go_simp
  with_reducible rfl
 rotate_left
 ·
  simp only [Act.put, List.setIfInBounds_toArray, List.set_cons_zero, List.set_cons_succ, i64_w, i32_w]
  rfl
 refine pure_ (i := 8) (N := some 27) (v := ?_) (a' := ?_) #[true, false, false, false, true, false, false, false, true, false, false, false, false, false, false, false, false, false, false, false, false, false, false, false] rfl rfl (any_of HT_.out (by kernel_rfl)) (fun _ _ _ h => h) (Or.inl ⟨by rfl, ?_⟩) ?_ ?_
 rotate_left
 ·
  intro w'
  go_simp
  with_reducible rfl
 rotate_left
 ·
  simp only [Act.put, List.setIfInBounds_toArray, List.set_cons_zero, List.set_cons_succ, i64_w, i32_w]
  rfl
 refine pure_ (i := 12) (N := some 31) (v := ?_) (a' := ?_) #[true, false, false, false, true, false, false, false, true, false, false, false, true, false, false, false, false, false, false, false, false, false, false, false] rfl rfl (any_of HT_.out (by kernel_rfl)) (fun _ _ _ h => h) (Or.inl ⟨by rfl, ?_⟩) ?_ ?_
 rotate_left
 ·
  intro w'
  go_simp
  with_reducible rfl
 rotate_left
 ·
  simp only [Act.put, List.setIfInBounds_toArray, List.set_cons_zero, List.set_cons_succ, i64_w, i32_w]
  rfl
 refine inv_at [1, 2, 3, 5, 6, 7, 9, 10, 11, 13, 14, 15, 16, 17, 18, 19, 20, 21, 22, 23] (fun a0_ b a w' => ∃ (gb166 : Nat) (gb167 : Nat) (gb168 : Nat) (gb169 : Nat) (m16_ : Value) (m17_ : Value) (m18_ : Value) (m19_ : Value), a = putSel a0_ b [(1, 20, .pointer (some ad154)), (2, 21, .string (rdOf ByteArray.empty t150 0)), (3, 22, .agg #[.int .i64 t155, .bool t156]), (5, 24, .pointer (some (ad154.add 1))), (6, 25, .string (rdOf ByteArray.empty t150 1)), (7, 26, .agg #[.int .i64 t158, .bool t159]), (9, 28, .pointer (some (ad154.add 2))), (10, 29, .string (rdOf ByteArray.empty t150 2)), (11, 30, .agg #[.string t161, .bool t162]), (13, 32, .pointer (some (ad154.add 3))), (14, 33, .string (rdOf ByteArray.empty t150 3)), (15, 34, .agg #[.string t164, .bool t165]), (16, 6, m16_), (17, 7, m17_), (18, 8, m18_), (19, 9, m19_)] ∧ (Kd.R Kd.string 9 w' w.heap.size (fun _ => True) (.slice (some ad154) t150.length co16) t150) ∧ (w'.heap[gb149]? = some (.cells #[.int .i64 0, .int .i64 0, .string (⟨#[]⟩ : ByteArray), .string (⟨#[]⟩ : ByteArray)] 51 (0, 0))) ∧ (Below w.heap.size w w') ∧ (b 16 = true → b 17 = true → gb167 ≠ gb166) ∧ (b 16 = true → b 17 = true → gb166 ≠ gb167) ∧ (b 16 = true → b 18 = true → gb168 ≠ gb166) ∧ (b 16 = true → b 18 = true → gb166 ≠ gb168) ∧ (b 16 = true → b 19 = true → gb169 ≠ gb166) ∧ (b 16 = true → b 19 = true → gb166 ≠ gb169) ∧ (b 17 = true → b 18 = true → gb168 ≠ gb167) ∧ (b 17 = true → b 18 = true → gb167 ≠ gb168) ∧ (b 17 = true → b 19 = true → gb169 ≠ gb167) ∧ (b 17 = true → b 19 = true → gb167 ≠ gb169) ∧ (b 18 = true → b 19 = true → gb169 ≠ gb168) ∧ (b 18 = true → b 19 = true → gb168 ≠ gb169) ∧ (b 16 = true → b 20 = false → w'.heap[gb166]? = some (.cells #[.int .i64 0, .bool false] 108 (0, 0))) ∧ (b 16 = true → w.heap.size ≤ gb166) ∧ (b 16 = true → w.heap.size ≤ gb166) ∧ (b 16 = true → gb149 ≠ gb166) ∧ (b 16 = true → gb166 ≠ gb149) ∧ (b 17 = true → b 21 = false → w'.heap[gb167]? = some (.cells #[.int .i64 0, .bool false] 108 (0, 0))) ∧ (b 17 = true → w.heap.size ≤ gb167) ∧ (b 17 = true → w.heap.size ≤ gb167) ∧ (b 17 = true → gb149 ≠ gb167) ∧ (b 17 = true → gb167 ≠ gb149) ∧ (b 18 = true → b 22 = false → w'.heap[gb168]? = some (.cells #[.string (⟨#[]⟩ : ByteArray), .bool false] 111 (0, 0))) ∧ (b 18 = true → w.heap.size ≤ gb168) ∧ (b 18 = true → w.heap.size ≤ gb168) ∧ (b 18 = true → gb149 ≠ gb168) ∧ (b 18 = true → gb168 ≠ gb149) ∧ (b 19 = true → b 23 = false → w'.heap[gb169]? = some (.cells #[.string (⟨#[]⟩ : ByteArray), .bool false] 111 (0, 0))) ∧ (b 19 = true → w.heap.size ≤ gb169) ∧ (b 19 = true → w.heap.size ≤ gb169) ∧ (b 19 = true → gb149 ≠ gb169) ∧ (b 19 = true → gb169 ≠ gb149) ∧ (b 20 = true → w'.heap[gb166]? = some (.cells #[.int .i64 t155, .bool t156] 108 (0, 0))) ∧ (b 21 = true → w'.heap[gb167]? = some (.cells #[.int .i64 t158, .bool t159] 108 (0, 0))) ∧ (b 22 = true → w'.heap[gb168]? = some (.cells #[.string t161, .bool t162] 111 (0, 0))) ∧ (b 23 = true → w'.heap[gb169]? = some (.cells #[.string t164, .bool t165] 111 (0, 0))) ∧ (b 16 = true → (m16_ : Value) = .pointer (some ⟨gb166, 0, none⟩)) ∧ (b 17 = true → (m17_ : Value) = .pointer (some ⟨gb167, 0, none⟩)) ∧ (b 18 = true → (m18_ : Value) = .pointer (some ⟨gb168, 0, none⟩)) ∧ (b 19 = true → (m19_ : Value) = .pointer (some ⟨gb169, 0, none⟩))) HT_.out HW_.out (by kernel_rfl) (by kernel_rfl) ?_ ?_ ?_
 ·
  exact ⟨0, 0, 0, 0, .bool false, .bool false, .bool false, .bool false, by simp only [putSel, Bool.false_eq_true, if_false], HO153.out, BK149.out, HB.out, fun h_ => absurd h_ (by decide), fun h_ => absurd h_ (by decide), fun h_ => absurd h_ (by decide), fun h_ => absurd h_ (by decide), fun h_ => absurd h_ (by decide), fun h_ => absurd h_ (by decide), fun h_ => absurd h_ (by decide), fun h_ => absurd h_ (by decide), fun h_ => absurd h_ (by decide), fun h_ => absurd h_ (by decide), fun h_ => absurd h_ (by decide), fun h_ => absurd h_ (by decide), fun h_ => absurd h_ (by decide), fun h_ => absurd h_ (by decide), fun h_ => absurd h_ (by decide), fun h_ => absurd h_ (by decide), fun h_ => absurd h_ (by decide), fun h_ => absurd h_ (by decide), fun h_ => absurd h_ (by decide), fun h_ => absurd h_ (by decide), fun h_ => absurd h_ (by decide), fun h_ => absurd h_ (by decide), fun h_ => absurd h_ (by decide), fun h_ => absurd h_ (by decide), fun h_ => absurd h_ (by decide), fun h_ => absurd h_ (by decide), fun h_ => absurd h_ (by decide), fun h_ => absurd h_ (by decide), fun h_ => absurd h_ (by decide), fun h_ => absurd h_ (by decide), fun h_ => absurd h_ (by decide), fun h_ => absurd h_ (by decide), fun h_ => absurd h_ (by decide), fun h_ => absurd h_ (by decide), fun h_ => absurd h_ (by decide), fun h_ => absurd h_ (by decide), fun h_ => absurd h_ (by decide), fun h_ => absurd h_ (by decide), fun h_ => absurd h_ (by decide), fun h_ => absurd h_ (by decide)⟩
 ·
  skip
  clear BK149 HB HO153
  refine steps_cons ?_ ?_
  ·
   rintro b a w' ⟨gb166, gb167, gb168, gb169, m16_, m17_, m18_, m19_, ha, Y18, Y0, Y17, Y28, Y24, Y32, Y25, Y36, Y26, Y33, Y29, Y37, Y30, Y38, Y34, Y1, Y13, Y9, Y19, Y23, Y3, Y14, Y10, Y20, Y27, Y5, Y15, Y11, Y21, Y31, Y7, Y16, Y12, Y22, Y35, Y2, Y4, Y6, Y8, Y39, Y40, Y41, Y42⟩ hb_ hon hoff
   refine ⟨_, rfl, fun K hK => ?_⟩
   have e19 : a.tmps[19]? = some (.slice (some ad154) t150.length co16) := by rw [ha]; exact (putSel_off rfl).trans rfl
   replace ha := sqA ha
   have HO153 := sqA Y18
   have BK149 := sqA Y0
   have HB := sqA Y17
   refine value_ (w1 := w') (v := .pointer (some ad154)) (by rfl) rfl ?_ ?_
   ·
    go_simp
    (try simp only [i64_w])
    try rfl
   refine hK.out _ _ ⟨gb166, gb167, gb168, gb169, m16_, m17_, m18_, m19_, (by rw [ha.out]; exact putSel_upk 0 hb_ rfl rfl rfl), Y18, Y0, Y17, Y28, Y24, Y32, Y25, Y36, Y26, Y33, Y29, Y37, Y30, Y38, Y34, Y1, Y13, Y9, Y19, Y23, Y3, Y14, Y10, Y20, Y27, Y5, Y15, Y11, Y21, Y31, Y7, Y16, Y12, Y22, Y35, fun h0_ => absurd ((hoff 20 (by kernel_rfl)).symm.trans h0_) (by decide), fun h0_ => absurd ((hoff 21 (by kernel_rfl)).symm.trans h0_) (by decide), fun h0_ => absurd ((hoff 22 (by kernel_rfl)).symm.trans h0_) (by decide), fun h0_ => absurd ((hoff 23 (by kernel_rfl)).symm.trans h0_) (by decide), Y39, Y40, Y41, Y42⟩
  refine steps_cons ?_ ?_
  ·
   rintro b a w' ⟨gb166, gb167, gb168, gb169, m16_, m17_, m18_, m19_, ha, Y18, Y0, Y17, Y28, Y24, Y32, Y25, Y36, Y26, Y33, Y29, Y37, Y30, Y38, Y34, Y1, Y13, Y9, Y19, Y23, Y3, Y14, Y10, Y20, Y27, Y5, Y15, Y11, Y21, Y31, Y7, Y16, Y12, Y22, Y35, Y2, Y4, Y6, Y8, Y39, Y40, Y41, Y42⟩ hb_ hon hoff
   refine ⟨_, rfl, fun K hK => ?_⟩
   have e20 : a.tmps[20]? = some (.pointer (some ad154)) := by rw [ha]; exact putSel_on (e := (1, 20, .pointer (some ad154))) 0 rfl rfl (hon 1 (by kernel_rfl)) rfl
   replace ha := sqA ha
   have HO153 := sqA Y18
   have BK149 := sqA Y0
   have HB := sqA Y17
   obtain ⟨ad154_z, e154_z, hx154_0_z⟩ := Kd.at_string (Kd.R_reads' HO153.out).2.2 0 (of_eq_true p154) (of_eq_true q154)
   cases e154_z
   have hs0_ : w'.cell? ad154 = some (.string (rdOf ByteArray.empty t150 0)) := (by first | exact hx154_0_z | (have h_ := hx154_0_z; (try simp only [Int.reduceToNat, Nat.zero_mul, Nat.reduceMul, Nat.reduceEqDiff, Go.Addr.add, ↓reduceIte, Addr.add_zero'] at h_); exact h_))
   refine value_ (w1 := w') (v := .string (rdOf ByteArray.empty t150 0)) (by rfl) rfl ?_ ?_
   ·
    go_simp
    (try simp only [i64_w])
    try rfl
   refine hK.out _ _ ⟨gb166, gb167, gb168, gb169, m16_, m17_, m18_, m19_, (by rw [ha.out]; exact putSel_upk 1 hb_ rfl rfl rfl), Y18, Y0, Y17, Y28, Y24, Y32, Y25, Y36, Y26, Y33, Y29, Y37, Y30, Y38, Y34, Y1, Y13, Y9, Y19, Y23, Y3, Y14, Y10, Y20, Y27, Y5, Y15, Y11, Y21, Y31, Y7, Y16, Y12, Y22, Y35, fun h0_ => absurd ((hoff 20 (by kernel_rfl)).symm.trans h0_) (by decide), fun h0_ => absurd ((hoff 21 (by kernel_rfl)).symm.trans h0_) (by decide), fun h0_ => absurd ((hoff 22 (by kernel_rfl)).symm.trans h0_) (by decide), fun h0_ => absurd ((hoff 23 (by kernel_rfl)).symm.trans h0_) (by decide), Y39, Y40, Y41, Y42⟩
  refine steps_cons ?_ ?_
  ·
   rintro b a w' ⟨gb166, gb167, gb168, gb169, m16_, m17_, m18_, m19_, ha, Y18, Y0, Y17, Y28, Y24, Y32, Y25, Y36, Y26, Y33, Y29, Y37, Y30, Y38, Y34, Y1, Y13, Y9, Y19, Y23, Y3, Y14, Y10, Y20, Y27, Y5, Y15, Y11, Y21, Y31, Y7, Y16, Y12, Y22, Y35, Y2, Y4, Y6, Y8, Y39, Y40, Y41, Y42⟩ hb_ hon hoff
   refine ⟨_, rfl, fun K hK => ?_⟩
   have e21 : a.tmps[21]? = some (.string (rdOf ByteArray.empty t150 0)) := by rw [ha]; exact putSel_on (e := (2, 21, .string (rdOf ByteArray.empty t150 0))) 1 rfl rfl (hon 2 (by kernel_rfl)) rfl
   replace ha := sqA ha
   have HO153 := sqA Y18
   have BK149 := sqA Y0
   have HB := sqA Y17
   refine goes_ Tryd.func66 (by kernel_rfl) rfl #[.string (rdOf ByteArray.empty t150 0)] (by rfl) rfl rfl (by first | (simp only [List.map_toArray, List.map_cons, List.map_nil, Act.eval, Array.getD_eq_getD_getElem?, Option.getD_some, e21]; done) | (simp only [List.map_toArray, List.map_cons, List.map_nil, Act.eval, Array.getD_eq_getD_getElem?, Option.getD_some, e21]; rfl)) ?_
   with_reducible refine (wire_one.calls (rdOf ByteArray.empty t150 0) t155 t156 _ A5.out).mono ?_
   rintro e w17 ⟨rfl, hb⟩
   refine ⟨_, rfl, ?_⟩
   have n0_ := sqA (Kd.R_below (sqr HO153.out) hb)
   have n1_ := sqA (blk_below (g := gb149) (o := .cells #[.int .i64 0, .int .i64 0, .string (⟨#[]⟩ : ByteArray), .string (⟨#[]⟩ : ByteArray)] 51 (0, 0)) (sqk BK149.out) hb)
   have n2_ := sqA (below_step (sqs HB.out) hb)
   have Y43 := fun (h0_ : b 16 = true) (h1_ : b 20 = false) => (show w17.heap[gb166]? = some (.cells #[.int .i64 0, .bool false] 108 (0, 0)) from by first | exact (blk_below (g := gb166) (o := .cells #[.int .i64 0, .bool false] 108 (0, 0)) (sqk (Y1 h0_ h1_)) hb))
   have Y44 := fun (h0_ : b 17 = true) (h1_ : b 21 = false) => (show w17.heap[gb167]? = some (.cells #[.int .i64 0, .bool false] 108 (0, 0)) from by first | exact (blk_below (g := gb167) (o := .cells #[.int .i64 0, .bool false] 108 (0, 0)) (sqk (Y3 h0_ h1_)) hb))
   have Y45 := fun (h0_ : b 18 = true) (h1_ : b 22 = false) => (show w17.heap[gb168]? = some (.cells #[.string (⟨#[]⟩ : ByteArray), .bool false] 111 (0, 0)) from by first | exact (blk_below (g := gb168) (o := .cells #[.string (⟨#[]⟩ : ByteArray), .bool false] 111 (0, 0)) (sqk (Y5 h0_ h1_)) hb))
   have Y46 := fun (h0_ : b 19 = true) (h1_ : b 23 = false) => (show w17.heap[gb169]? = some (.cells #[.string (⟨#[]⟩ : ByteArray), .bool false] 111 (0, 0)) from by first | exact (blk_below (g := gb169) (o := .cells #[.string (⟨#[]⟩ : ByteArray), .bool false] 111 (0, 0)) (sqk (Y7 h0_ h1_)) hb))
   clear HO153
   clear BK149
   clear HB
   have HO153 := n0_
   have BK149 := n1_
   have HB := n2_
   clear n0_ n1_ n2_
   (try clear hb)
   (try clear hb2)
   (try clear hk)
   (try clear hi)
   refine hK.out _ _ ⟨gb166, gb167, gb168, gb169, m16_, m17_, m18_, m19_, (by rw [ha.out]; exact putSel_upk 2 hb_ rfl rfl rfl), (sqr HO153.out), (sqk BK149.out), (sqs HB.out), Y28, Y24, Y32, Y25, Y36, Y26, Y33, Y29, Y37, Y30, Y38, Y34, Y43, Y13, Y9, Y19, Y23, Y44, Y14, Y10, Y20, Y27, Y45, Y15, Y11, Y21, Y31, Y46, Y16, Y12, Y22, Y35, fun h0_ => absurd ((hoff 20 (by kernel_rfl)).symm.trans h0_) (by decide), fun h0_ => absurd ((hoff 21 (by kernel_rfl)).symm.trans h0_) (by decide), fun h0_ => absurd ((hoff 22 (by kernel_rfl)).symm.trans h0_) (by decide), fun h0_ => absurd ((hoff 23 (by kernel_rfl)).symm.trans h0_) (by decide), Y39, Y40, Y41, Y42⟩
  refine steps_cons ?_ ?_
  ·
   rintro b a w' ⟨gb166, gb167, gb168, gb169, m16_, m17_, m18_, m19_, ha, Y18, Y0, Y17, Y28, Y24, Y32, Y25, Y36, Y26, Y33, Y29, Y37, Y30, Y38, Y34, Y1, Y13, Y9, Y19, Y23, Y3, Y14, Y10, Y20, Y27, Y5, Y15, Y11, Y21, Y31, Y7, Y16, Y12, Y22, Y35, Y2, Y4, Y6, Y8, Y39, Y40, Y41, Y42⟩ hb_ hon hoff
   refine ⟨_, rfl, fun K hK => ?_⟩
   have e23 : a.tmps[23]? = some (.slice (some ad154) t150.length co16) := by rw [ha]; exact (putSel_off rfl).trans rfl
   replace ha := sqA ha
   have HO153 := sqA Y18
   have BK149 := sqA Y0
   have HB := sqA Y17
   refine value_ (w1 := w') (v := .pointer (some (ad154.add 1))) (by rfl) rfl ?_ ?_
   ·
    go_simp
    (try simp only [i64_w])
    try rfl
   refine hK.out _ _ ⟨gb166, gb167, gb168, gb169, m16_, m17_, m18_, m19_, (by rw [ha.out]; exact putSel_upk 3 hb_ rfl rfl rfl), Y18, Y0, Y17, Y28, Y24, Y32, Y25, Y36, Y26, Y33, Y29, Y37, Y30, Y38, Y34, Y1, Y13, Y9, Y19, Y23, Y3, Y14, Y10, Y20, Y27, Y5, Y15, Y11, Y21, Y31, Y7, Y16, Y12, Y22, Y35, fun h0_ => absurd ((hoff 20 (by kernel_rfl)).symm.trans h0_) (by decide), fun h0_ => absurd ((hoff 21 (by kernel_rfl)).symm.trans h0_) (by decide), fun h0_ => absurd ((hoff 22 (by kernel_rfl)).symm.trans h0_) (by decide), fun h0_ => absurd ((hoff 23 (by kernel_rfl)).symm.trans h0_) (by decide), Y39, Y40, Y41, Y42⟩
  refine steps_cons ?_ ?_
  ·
   rintro b a w' ⟨gb166, gb167, gb168, gb169, m16_, m17_, m18_, m19_, ha, Y18, Y0, Y17, Y28, Y24, Y32, Y25, Y36, Y26, Y33, Y29, Y37, Y30, Y38, Y34, Y1, Y13, Y9, Y19, Y23, Y3, Y14, Y10, Y20, Y27, Y5, Y15, Y11, Y21, Y31, Y7, Y16, Y12, Y22, Y35, Y2, Y4, Y6, Y8, Y39, Y40, Y41, Y42⟩ hb_ hon hoff
   refine ⟨_, rfl, fun K hK => ?_⟩
   have e24 : a.tmps[24]? = some (.pointer (some (ad154.add 1))) := by rw [ha]; exact putSel_on (e := (5, 24, .pointer (some (ad154.add 1)))) 3 rfl rfl (hon 5 (by kernel_rfl)) rfl
   replace ha := sqA ha
   have HO153 := sqA Y18
   have BK149 := sqA Y0
   have HB := sqA Y17
   obtain ⟨ad157_z, e157_z, hx157_0_z⟩ := Kd.at_string (Kd.R_reads' HO153.out).2.2 1 (of_eq_true p157) (of_eq_true q157)
   cases e157_z
   have hs1_ : w'.cell? ⟨ad154.block, ad154.off + 1, none⟩ = some (.string (rdOf ByteArray.empty t150 1)) := (by first | exact hx157_0_z | (have h_ := hx157_0_z; (try simp only [Int.reduceToNat, Nat.zero_mul, Nat.reduceMul, Nat.reduceEqDiff, Go.Addr.add, ↓reduceIte, Addr.add_zero'] at h_); exact h_))
   refine value_ (w1 := w') (v := .string (rdOf ByteArray.empty t150 1)) (by rfl) rfl ?_ ?_
   ·
    go_simp
    (try simp only [i64_w])
    try rfl
   refine hK.out _ _ ⟨gb166, gb167, gb168, gb169, m16_, m17_, m18_, m19_, (by rw [ha.out]; exact putSel_upk 4 hb_ rfl rfl rfl), Y18, Y0, Y17, Y28, Y24, Y32, Y25, Y36, Y26, Y33, Y29, Y37, Y30, Y38, Y34, Y1, Y13, Y9, Y19, Y23, Y3, Y14, Y10, Y20, Y27, Y5, Y15, Y11, Y21, Y31, Y7, Y16, Y12, Y22, Y35, fun h0_ => absurd ((hoff 20 (by kernel_rfl)).symm.trans h0_) (by decide), fun h0_ => absurd ((hoff 21 (by kernel_rfl)).symm.trans h0_) (by decide), fun h0_ => absurd ((hoff 22 (by kernel_rfl)).symm.trans h0_) (by decide), fun h0_ => absurd ((hoff 23 (by kernel_rfl)).symm.trans h0_) (by decide), Y39, Y40, Y41, Y42⟩
  refine steps_cons ?_ ?_
  ·
   rintro b a w' ⟨gb166, gb167, gb168, gb169, m16_, m17_, m18_, m19_, ha, Y18, Y0, Y17, Y28, Y24, Y32, Y25, Y36, Y26, Y33, Y29, Y37, Y30, Y38, Y34, Y1, Y13, Y9, Y19, Y23, Y3, Y14, Y10, Y20, Y27, Y5, Y15, Y11, Y21, Y31, Y7, Y16, Y12, Y22, Y35, Y2, Y4, Y6, Y8, Y39, Y40, Y41, Y42⟩ hb_ hon hoff
   refine ⟨_, rfl, fun K hK => ?_⟩
   have e25 : a.tmps[25]? = some (.string (rdOf ByteArray.empty t150 1)) := by rw [ha]; exact putSel_on (e := (6, 25, .string (rdOf ByteArray.empty t150 1))) 4 rfl rfl (hon 6 (by kernel_rfl)) rfl
   replace ha := sqA ha
   have HO153 := sqA Y18
   have BK149 := sqA Y0
   have HB := sqA Y17
   refine goes_ Tryd.func66 (by kernel_rfl) rfl #[.string (rdOf ByteArray.empty t150 1)] (by rfl) rfl rfl (by first | (simp only [List.map_toArray, List.map_cons, List.map_nil, Act.eval, Array.getD_eq_getD_getElem?, Option.getD_some, e25]; done) | (simp only [List.map_toArray, List.map_cons, List.map_nil, Act.eval, Array.getD_eq_getD_getElem?, Option.getD_some, e25]; rfl)) ?_
   with_reducible refine (wire_one.calls (rdOf ByteArray.empty t150 1) t158 t159 _ A7.out).mono ?_
   rintro e w19 ⟨rfl, hb⟩
   refine ⟨_, rfl, ?_⟩
   have n0_ := sqA (Kd.R_below (sqr HO153.out) hb)
   have n1_ := sqA (blk_below (g := gb149) (o := .cells #[.int .i64 0, .int .i64 0, .string (⟨#[]⟩ : ByteArray), .string (⟨#[]⟩ : ByteArray)] 51 (0, 0)) (sqk BK149.out) hb)
   have n2_ := sqA (below_step (sqs HB.out) hb)
   have Y43 := fun (h0_ : b 16 = true) (h1_ : b 20 = false) => (show w19.heap[gb166]? = some (.cells #[.int .i64 0, .bool false] 108 (0, 0)) from by first | exact (blk_below (g := gb166) (o := .cells #[.int .i64 0, .bool false] 108 (0, 0)) (sqk (Y1 h0_ h1_)) hb))
   have Y44 := fun (h0_ : b 17 = true) (h1_ : b 21 = false) => (show w19.heap[gb167]? = some (.cells #[.int .i64 0, .bool false] 108 (0, 0)) from by first | exact (blk_below (g := gb167) (o := .cells #[.int .i64 0, .bool false] 108 (0, 0)) (sqk (Y3 h0_ h1_)) hb))
   have Y45 := fun (h0_ : b 18 = true) (h1_ : b 22 = false) => (show w19.heap[gb168]? = some (.cells #[.string (⟨#[]⟩ : ByteArray), .bool false] 111 (0, 0)) from by first | exact (blk_below (g := gb168) (o := .cells #[.string (⟨#[]⟩ : ByteArray), .bool false] 111 (0, 0)) (sqk (Y5 h0_ h1_)) hb))
   have Y46 := fun (h0_ : b 19 = true) (h1_ : b 23 = false) => (show w19.heap[gb169]? = some (.cells #[.string (⟨#[]⟩ : ByteArray), .bool false] 111 (0, 0)) from by first | exact (blk_below (g := gb169) (o := .cells #[.string (⟨#[]⟩ : ByteArray), .bool false] 111 (0, 0)) (sqk (Y7 h0_ h1_)) hb))
   clear HO153
   clear BK149
   clear HB
   have HO153 := n0_
   have BK149 := n1_
   have HB := n2_
   clear n0_ n1_ n2_
   (try clear hb)
   (try clear hb2)
   (try clear hk)
   (try clear hi)
   refine hK.out _ _ ⟨gb166, gb167, gb168, gb169, m16_, m17_, m18_, m19_, (by rw [ha.out]; exact putSel_upk 5 hb_ rfl rfl rfl), (sqr HO153.out), (sqk BK149.out), (sqs HB.out), Y28, Y24, Y32, Y25, Y36, Y26, Y33, Y29, Y37, Y30, Y38, Y34, Y43, Y13, Y9, Y19, Y23, Y44, Y14, Y10, Y20, Y27, Y45, Y15, Y11, Y21, Y31, Y46, Y16, Y12, Y22, Y35, fun h0_ => absurd ((hoff 20 (by kernel_rfl)).symm.trans h0_) (by decide), fun h0_ => absurd ((hoff 21 (by kernel_rfl)).symm.trans h0_) (by decide), fun h0_ => absurd ((hoff 22 (by kernel_rfl)).symm.trans h0_) (by decide), fun h0_ => absurd ((hoff 23 (by kernel_rfl)).symm.trans h0_) (by decide), Y39, Y40, Y41, Y42⟩
  refine steps_cons ?_ ?_
  ·
   rintro b a w' ⟨gb166, gb167, gb168, gb169, m16_, m17_, m18_, m19_, ha, Y18, Y0, Y17, Y28, Y24, Y32, Y25, Y36, Y26, Y33, Y29, Y37, Y30, Y38, Y34, Y1, Y13, Y9, Y19, Y23, Y3, Y14, Y10, Y20, Y27, Y5, Y15, Y11, Y21, Y31, Y7, Y16, Y12, Y22, Y35, Y2, Y4, Y6, Y8, Y39, Y40, Y41, Y42⟩ hb_ hon hoff
   refine ⟨_, rfl, fun K hK => ?_⟩
   have e27 : a.tmps[27]? = some (.slice (some ad154) t150.length co16) := by rw [ha]; exact (putSel_off rfl).trans rfl
   replace ha := sqA ha
   have HO153 := sqA Y18
   have BK149 := sqA Y0
   have HB := sqA Y17
   refine value_ (w1 := w') (v := .pointer (some (ad154.add 2))) (by rfl) rfl ?_ ?_
   ·
    go_simp
    (try simp only [i64_w])
    try rfl
   refine hK.out _ _ ⟨gb166, gb167, gb168, gb169, m16_, m17_, m18_, m19_, (by rw [ha.out]; exact putSel_upk 6 hb_ rfl rfl rfl), Y18, Y0, Y17, Y28, Y24, Y32, Y25, Y36, Y26, Y33, Y29, Y37, Y30, Y38, Y34, Y1, Y13, Y9, Y19, Y23, Y3, Y14, Y10, Y20, Y27, Y5, Y15, Y11, Y21, Y31, Y7, Y16, Y12, Y22, Y35, fun h0_ => absurd ((hoff 20 (by kernel_rfl)).symm.trans h0_) (by decide), fun h0_ => absurd ((hoff 21 (by kernel_rfl)).symm.trans h0_) (by decide), fun h0_ => absurd ((hoff 22 (by kernel_rfl)).symm.trans h0_) (by decide), fun h0_ => absurd ((hoff 23 (by kernel_rfl)).symm.trans h0_) (by decide), Y39, Y40, Y41, Y42⟩
  refine steps_cons ?_ ?_
  ·
   rintro b a w' ⟨gb166, gb167, gb168, gb169, m16_, m17_, m18_, m19_, ha, Y18, Y0, Y17, Y28, Y24, Y32, Y25, Y36, Y26, Y33, Y29, Y37, Y30, Y38, Y34, Y1, Y13, Y9, Y19, Y23, Y3, Y14, Y10, Y20, Y27, Y5, Y15, Y11, Y21, Y31, Y7, Y16, Y12, Y22, Y35, Y2, Y4, Y6, Y8, Y39, Y40, Y41, Y42⟩ hb_ hon hoff
   refine ⟨_, rfl, fun K hK => ?_⟩
   have e28 : a.tmps[28]? = some (.pointer (some (ad154.add 2))) := by rw [ha]; exact putSel_on (e := (9, 28, .pointer (some (ad154.add 2)))) 6 rfl rfl (hon 9 (by kernel_rfl)) rfl
   replace ha := sqA ha
   have HO153 := sqA Y18
   have BK149 := sqA Y0
   have HB := sqA Y17
   obtain ⟨ad160_z, e160_z, hx160_0_z⟩ := Kd.at_string (Kd.R_reads' HO153.out).2.2 2 (of_eq_true p160) (of_eq_true q160)
   cases e160_z
   have hs2_ : w'.cell? ⟨ad154.block, ad154.off + 2, none⟩ = some (.string (rdOf ByteArray.empty t150 2)) := (by first | exact hx160_0_z | (have h_ := hx160_0_z; (try simp only [Int.reduceToNat, Nat.zero_mul, Nat.reduceMul, Nat.reduceEqDiff, Go.Addr.add, ↓reduceIte, Addr.add_zero'] at h_); exact h_))
   refine value_ (w1 := w') (v := .string (rdOf ByteArray.empty t150 2)) (by rfl) rfl ?_ ?_
   ·
    go_simp
    (try simp only [i64_w])
    try rfl
   refine hK.out _ _ ⟨gb166, gb167, gb168, gb169, m16_, m17_, m18_, m19_, (by rw [ha.out]; exact putSel_upk 7 hb_ rfl rfl rfl), Y18, Y0, Y17, Y28, Y24, Y32, Y25, Y36, Y26, Y33, Y29, Y37, Y30, Y38, Y34, Y1, Y13, Y9, Y19, Y23, Y3, Y14, Y10, Y20, Y27, Y5, Y15, Y11, Y21, Y31, Y7, Y16, Y12, Y22, Y35, fun h0_ => absurd ((hoff 20 (by kernel_rfl)).symm.trans h0_) (by decide), fun h0_ => absurd ((hoff 21 (by kernel_rfl)).symm.trans h0_) (by decide), fun h0_ => absurd ((hoff 22 (by kernel_rfl)).symm.trans h0_) (by decide), fun h0_ => absurd ((hoff 23 (by kernel_rfl)).symm.trans h0_) (by decide), Y39, Y40, Y41, Y42⟩
  refine steps_cons ?_ ?_
  ·
   rintro b a w' ⟨gb166, gb167, gb168, gb169, m16_, m17_, m18_, m19_, ha, Y18, Y0, Y17, Y28, Y24, Y32, Y25, Y36, Y26, Y33, Y29, Y37, Y30, Y38, Y34, Y1, Y13, Y9, Y19, Y23, Y3, Y14, Y10, Y20, Y27, Y5, Y15, Y11, Y21, Y31, Y7, Y16, Y12, Y22, Y35, Y2, Y4, Y6, Y8, Y39, Y40, Y41, Y42⟩ hb_ hon hoff
   refine ⟨_, rfl, fun K hK => ?_⟩
   have e29 : a.tmps[29]? = some (.string (rdOf ByteArray.empty t150 2)) := by rw [ha]; exact putSel_on (e := (10, 29, .string (rdOf ByteArray.empty t150 2))) 7 rfl rfl (hon 10 (by kernel_rfl)) rfl
   replace ha := sqA ha
   have HO153 := sqA Y18
   have BK149 := sqA Y0
   have HB := sqA Y17
   refine goes_ Tryd.func67 (by kernel_rfl) rfl #[.string (rdOf ByteArray.empty t150 2)] (by rfl) rfl rfl (by first | (simp only [List.map_toArray, List.map_cons, List.map_nil, Act.eval, Array.getD_eq_getD_getElem?, Option.getD_some, e29]; done) | (simp only [List.map_toArray, List.map_cons, List.map_nil, Act.eval, Array.getD_eq_getD_getElem?, Option.getD_some, e29]; rfl)) ?_
   with_reducible refine (wire_text.calls (rdOf ByteArray.empty t150 2) t161 t162 _ A9.out).mono ?_
   rintro e w20 ⟨rfl, hb⟩
   refine ⟨_, rfl, ?_⟩
   have n0_ := sqA (Kd.R_below (sqr HO153.out) hb)
   have n1_ := sqA (blk_below (g := gb149) (o := .cells #[.int .i64 0, .int .i64 0, .string (⟨#[]⟩ : ByteArray), .string (⟨#[]⟩ : ByteArray)] 51 (0, 0)) (sqk BK149.out) hb)
   have n2_ := sqA (below_step (sqs HB.out) hb)
   have Y43 := fun (h0_ : b 16 = true) (h1_ : b 20 = false) => (show w20.heap[gb166]? = some (.cells #[.int .i64 0, .bool false] 108 (0, 0)) from by first | exact (blk_below (g := gb166) (o := .cells #[.int .i64 0, .bool false] 108 (0, 0)) (sqk (Y1 h0_ h1_)) hb))
   have Y44 := fun (h0_ : b 17 = true) (h1_ : b 21 = false) => (show w20.heap[gb167]? = some (.cells #[.int .i64 0, .bool false] 108 (0, 0)) from by first | exact (blk_below (g := gb167) (o := .cells #[.int .i64 0, .bool false] 108 (0, 0)) (sqk (Y3 h0_ h1_)) hb))
   have Y45 := fun (h0_ : b 18 = true) (h1_ : b 22 = false) => (show w20.heap[gb168]? = some (.cells #[.string (⟨#[]⟩ : ByteArray), .bool false] 111 (0, 0)) from by first | exact (blk_below (g := gb168) (o := .cells #[.string (⟨#[]⟩ : ByteArray), .bool false] 111 (0, 0)) (sqk (Y5 h0_ h1_)) hb))
   have Y46 := fun (h0_ : b 19 = true) (h1_ : b 23 = false) => (show w20.heap[gb169]? = some (.cells #[.string (⟨#[]⟩ : ByteArray), .bool false] 111 (0, 0)) from by first | exact (blk_below (g := gb169) (o := .cells #[.string (⟨#[]⟩ : ByteArray), .bool false] 111 (0, 0)) (sqk (Y7 h0_ h1_)) hb))
   clear HO153
   clear BK149
   clear HB
   have HO153 := n0_
   have BK149 := n1_
   have HB := n2_
   clear n0_ n1_ n2_
   (try clear hb)
   (try clear hb2)
   (try clear hk)
   (try clear hi)
   refine hK.out _ _ ⟨gb166, gb167, gb168, gb169, m16_, m17_, m18_, m19_, (by rw [ha.out]; exact putSel_upk 8 hb_ rfl rfl rfl), (sqr HO153.out), (sqk BK149.out), (sqs HB.out), Y28, Y24, Y32, Y25, Y36, Y26, Y33, Y29, Y37, Y30, Y38, Y34, Y43, Y13, Y9, Y19, Y23, Y44, Y14, Y10, Y20, Y27, Y45, Y15, Y11, Y21, Y31, Y46, Y16, Y12, Y22, Y35, fun h0_ => absurd ((hoff 20 (by kernel_rfl)).symm.trans h0_) (by decide), fun h0_ => absurd ((hoff 21 (by kernel_rfl)).symm.trans h0_) (by decide), fun h0_ => absurd ((hoff 22 (by kernel_rfl)).symm.trans h0_) (by decide), fun h0_ => absurd ((hoff 23 (by kernel_rfl)).symm.trans h0_) (by decide), Y39, Y40, Y41, Y42⟩
  refine steps_cons ?_ ?_
  ·
   rintro b a w' ⟨gb166, gb167, gb168, gb169, m16_, m17_, m18_, m19_, ha, Y18, Y0, Y17, Y28, Y24, Y32, Y25, Y36, Y26, Y33, Y29, Y37, Y30, Y38, Y34, Y1, Y13, Y9, Y19, Y23, Y3, Y14, Y10, Y20, Y27, Y5, Y15, Y11, Y21, Y31, Y7, Y16, Y12, Y22, Y35, Y2, Y4, Y6, Y8, Y39, Y40, Y41, Y42⟩ hb_ hon hoff
   refine ⟨_, rfl, fun K hK => ?_⟩
   have e31 : a.tmps[31]? = some (.slice (some ad154) t150.length co16) := by rw [ha]; exact (putSel_off rfl).trans rfl
   replace ha := sqA ha
   have HO153 := sqA Y18
   have BK149 := sqA Y0
   have HB := sqA Y17
   refine value_ (w1 := w') (v := .pointer (some (ad154.add 3))) (by rfl) rfl ?_ ?_
   ·
    go_simp
    (try simp only [i64_w])
    try rfl
   refine hK.out _ _ ⟨gb166, gb167, gb168, gb169, m16_, m17_, m18_, m19_, (by rw [ha.out]; exact putSel_upk 9 hb_ rfl rfl rfl), Y18, Y0, Y17, Y28, Y24, Y32, Y25, Y36, Y26, Y33, Y29, Y37, Y30, Y38, Y34, Y1, Y13, Y9, Y19, Y23, Y3, Y14, Y10, Y20, Y27, Y5, Y15, Y11, Y21, Y31, Y7, Y16, Y12, Y22, Y35, fun h0_ => absurd ((hoff 20 (by kernel_rfl)).symm.trans h0_) (by decide), fun h0_ => absurd ((hoff 21 (by kernel_rfl)).symm.trans h0_) (by decide), fun h0_ => absurd ((hoff 22 (by kernel_rfl)).symm.trans h0_) (by decide), fun h0_ => absurd ((hoff 23 (by kernel_rfl)).symm.trans h0_) (by decide), Y39, Y40, Y41, Y42⟩
  refine steps_cons ?_ ?_
  ·
   rintro b a w' ⟨gb166, gb167, gb168, gb169, m16_, m17_, m18_, m19_, ha, Y18, Y0, Y17, Y28, Y24, Y32, Y25, Y36, Y26, Y33, Y29, Y37, Y30, Y38, Y34, Y1, Y13, Y9, Y19, Y23, Y3, Y14, Y10, Y20, Y27, Y5, Y15, Y11, Y21, Y31, Y7, Y16, Y12, Y22, Y35, Y2, Y4, Y6, Y8, Y39, Y40, Y41, Y42⟩ hb_ hon hoff
   refine ⟨_, rfl, fun K hK => ?_⟩
   have e32 : a.tmps[32]? = some (.pointer (some (ad154.add 3))) := by rw [ha]; exact putSel_on (e := (13, 32, .pointer (some (ad154.add 3)))) 9 rfl rfl (hon 13 (by kernel_rfl)) rfl
   replace ha := sqA ha
   have HO153 := sqA Y18
   have BK149 := sqA Y0
   have HB := sqA Y17
   obtain ⟨ad163_z, e163_z, hx163_0_z⟩ := Kd.at_string (Kd.R_reads' HO153.out).2.2 3 (of_eq_true p163) (of_eq_true q163)
   cases e163_z
   have hs3_ : w'.cell? ⟨ad154.block, ad154.off + 3, none⟩ = some (.string (rdOf ByteArray.empty t150 3)) := (by first | exact hx163_0_z | (have h_ := hx163_0_z; (try simp only [Int.reduceToNat, Nat.zero_mul, Nat.reduceMul, Nat.reduceEqDiff, Go.Addr.add, ↓reduceIte, Addr.add_zero'] at h_); exact h_))
   refine value_ (w1 := w') (v := .string (rdOf ByteArray.empty t150 3)) (by rfl) rfl ?_ ?_
   ·
    go_simp
    (try simp only [i64_w])
    try rfl
   refine hK.out _ _ ⟨gb166, gb167, gb168, gb169, m16_, m17_, m18_, m19_, (by rw [ha.out]; exact putSel_upk 10 hb_ rfl rfl rfl), Y18, Y0, Y17, Y28, Y24, Y32, Y25, Y36, Y26, Y33, Y29, Y37, Y30, Y38, Y34, Y1, Y13, Y9, Y19, Y23, Y3, Y14, Y10, Y20, Y27, Y5, Y15, Y11, Y21, Y31, Y7, Y16, Y12, Y22, Y35, fun h0_ => absurd ((hoff 20 (by kernel_rfl)).symm.trans h0_) (by decide), fun h0_ => absurd ((hoff 21 (by kernel_rfl)).symm.trans h0_) (by decide), fun h0_ => absurd ((hoff 22 (by kernel_rfl)).symm.trans h0_) (by decide), fun h0_ => absurd ((hoff 23 (by kernel_rfl)).symm.trans h0_) (by decide), Y39, Y40, Y41, Y42⟩
  refine steps_cons ?_ ?_
  ·
   rintro b a w' ⟨gb166, gb167, gb168, gb169, m16_, m17_, m18_, m19_, ha, Y18, Y0, Y17, Y28, Y24, Y32, Y25, Y36, Y26, Y33, Y29, Y37, Y30, Y38, Y34, Y1, Y13, Y9, Y19, Y23, Y3, Y14, Y10, Y20, Y27, Y5, Y15, Y11, Y21, Y31, Y7, Y16, Y12, Y22, Y35, Y2, Y4, Y6, Y8, Y39, Y40, Y41, Y42⟩ hb_ hon hoff
   refine ⟨_, rfl, fun K hK => ?_⟩
   have e33 : a.tmps[33]? = some (.string (rdOf ByteArray.empty t150 3)) := by rw [ha]; exact putSel_on (e := (14, 33, .string (rdOf ByteArray.empty t150 3))) 10 rfl rfl (hon 14 (by kernel_rfl)) rfl
   replace ha := sqA ha
   have HO153 := sqA Y18
   have BK149 := sqA Y0
   have HB := sqA Y17
   refine goes_ Tryd.func67 (by kernel_rfl) rfl #[.string (rdOf ByteArray.empty t150 3)] (by rfl) rfl rfl (by first | (simp only [List.map_toArray, List.map_cons, List.map_nil, Act.eval, Array.getD_eq_getD_getElem?, Option.getD_some, e33]; done) | (simp only [List.map_toArray, List.map_cons, List.map_nil, Act.eval, Array.getD_eq_getD_getElem?, Option.getD_some, e33]; rfl)) ?_
   with_reducible refine (wire_text.calls (rdOf ByteArray.empty t150 3) t164 t165 _ A11.out).mono ?_
   rintro e w21 ⟨rfl, hb⟩
   refine ⟨_, rfl, ?_⟩
   have n0_ := sqA (Kd.R_below (sqr HO153.out) hb)
   have n1_ := sqA (blk_below (g := gb149) (o := .cells #[.int .i64 0, .int .i64 0, .string (⟨#[]⟩ : ByteArray), .string (⟨#[]⟩ : ByteArray)] 51 (0, 0)) (sqk BK149.out) hb)
   have n2_ := sqA (below_step (sqs HB.out) hb)
   have Y43 := fun (h0_ : b 16 = true) (h1_ : b 20 = false) => (show w21.heap[gb166]? = some (.cells #[.int .i64 0, .bool false] 108 (0, 0)) from by first | exact (blk_below (g := gb166) (o := .cells #[.int .i64 0, .bool false] 108 (0, 0)) (sqk (Y1 h0_ h1_)) hb))
   have Y44 := fun (h0_ : b 17 = true) (h1_ : b 21 = false) => (show w21.heap[gb167]? = some (.cells #[.int .i64 0, .bool false] 108 (0, 0)) from by first | exact (blk_below (g := gb167) (o := .cells #[.int .i64 0, .bool false] 108 (0, 0)) (sqk (Y3 h0_ h1_)) hb))
   have Y45 := fun (h0_ : b 18 = true) (h1_ : b 22 = false) => (show w21.heap[gb168]? = some (.cells #[.string (⟨#[]⟩ : ByteArray), .bool false] 111 (0, 0)) from by first | exact (blk_below (g := gb168) (o := .cells #[.string (⟨#[]⟩ : ByteArray), .bool false] 111 (0, 0)) (sqk (Y5 h0_ h1_)) hb))
   have Y46 := fun (h0_ : b 19 = true) (h1_ : b 23 = false) => (show w21.heap[gb169]? = some (.cells #[.string (⟨#[]⟩ : ByteArray), .bool false] 111 (0, 0)) from by first | exact (blk_below (g := gb169) (o := .cells #[.string (⟨#[]⟩ : ByteArray), .bool false] 111 (0, 0)) (sqk (Y7 h0_ h1_)) hb))
   clear HO153
   clear BK149
   clear HB
   have HO153 := n0_
   have BK149 := n1_
   have HB := n2_
   clear n0_ n1_ n2_
   (try clear hb)
   (try clear hb2)
   (try clear hk)
   (try clear hi)
   refine hK.out _ _ ⟨gb166, gb167, gb168, gb169, m16_, m17_, m18_, m19_, (by rw [ha.out]; exact putSel_upk 11 hb_ rfl rfl rfl), (sqr HO153.out), (sqk BK149.out), (sqs HB.out), Y28, Y24, Y32, Y25, Y36, Y26, Y33, Y29, Y37, Y30, Y38, Y34, Y43, Y13, Y9, Y19, Y23, Y44, Y14, Y10, Y20, Y27, Y45, Y15, Y11, Y21, Y31, Y46, Y16, Y12, Y22, Y35, fun h0_ => absurd ((hoff 20 (by kernel_rfl)).symm.trans h0_) (by decide), fun h0_ => absurd ((hoff 21 (by kernel_rfl)).symm.trans h0_) (by decide), fun h0_ => absurd ((hoff 22 (by kernel_rfl)).symm.trans h0_) (by decide), fun h0_ => absurd ((hoff 23 (by kernel_rfl)).symm.trans h0_) (by decide), Y39, Y40, Y41, Y42⟩
  refine steps_cons ?_ ?_
  ·
   rintro b a w' ⟨gb166, gb167, gb168, gb169, m16_, m17_, m18_, m19_, ha, Y18, Y0, Y17, Y28, Y24, Y32, Y25, Y36, Y26, Y33, Y29, Y37, Y30, Y38, Y34, Y1, Y13, Y9, Y19, Y23, Y3, Y14, Y10, Y20, Y27, Y5, Y15, Y11, Y21, Y31, Y7, Y16, Y12, Y22, Y35, Y2, Y4, Y6, Y8, Y39, Y40, Y41, Y42⟩ hb_ hon hoff
   refine ⟨_, rfl, fun K hK => ?_⟩
   replace ha := sqA ha
   have HO153 := sqA Y18
   have BK149 := sqA Y0
   have HB := sqA Y17
   refine box_step ?hg (N := 6) ?hd (cs := #[.int .i64 0, .bool false]) (t := 108) ?hr ?_; (case hd => rfl); (case hg => rfl); (case hr => first | (go_simp; done) | (go_simp; rfl))
   intro gb166 hg w17 hbox hb
   have n0_ := sqA (Kd.R_below (sqr HO153.out) hb)
   have n1_ := sqA (blk_below (g := gb149) (o := .cells #[.int .i64 0, .int .i64 0, .string (⟨#[]⟩ : ByteArray), .string (⟨#[]⟩ : ByteArray)] 51 (0, 0)) (sqk BK149.out) hb)
   have n2_ := sqA (below_step (sqs HB.out) hb)
   have n3_ := sqA (hbox)
   have n4_ := sqA ((by rw [hg]; exact (below_size (sqs HB.out)) : w.heap.size ≤ gb166))
   have n5_ := sqA ((by rw [hg]; exact (below_size (sqs HB.out)) : w.heap.size ≤ gb166))
   have n6_ := sqA ((by rw [hg]; exact Nat.ne_of_lt (blk_lt (g := gb149) (o := .cells #[.int .i64 0, .int .i64 0, .string (⟨#[]⟩ : ByteArray), .string (⟨#[]⟩ : ByteArray)] 51 (0, 0)) (sqk BK149.out)) : gb149 ≠ gb166))
   have n7_ := sqA ((by rw [hg]; exact Nat.ne_of_gt (blk_lt (g := gb149) (o := .cells #[.int .i64 0, .int .i64 0, .string (⟨#[]⟩ : ByteArray), .string (⟨#[]⟩ : ByteArray)] 51 (0, 0)) (sqk BK149.out)) : gb166 ≠ gb149))
   have Y50 := fun (h0_ : up b 16 16 = true) (h1_ : up b 16 17 = true) => (show gb167 ≠ gb166 from ((by rw [hg]; exact Nat.ne_of_lt (blk_lt (g := gb167) (o := .cells #[.int .i64 0, .bool false] 108 (0, 0)) (sqk (Y3 h1_ (hoff 21 (by kernel_rfl))))) : gb167 ≠ gb166)))
   have Y47 := fun (h0_ : up b 16 16 = true) (h1_ : up b 16 17 = true) => (show gb166 ≠ gb167 from ((by rw [hg]; exact Nat.ne_of_gt (blk_lt (g := gb167) (o := .cells #[.int .i64 0, .bool false] 108 (0, 0)) (sqk (Y3 h1_ (hoff 21 (by kernel_rfl))))) : gb166 ≠ gb167)))
   have Y53 := fun (h0_ : up b 16 16 = true) (h1_ : up b 16 18 = true) => (show gb168 ≠ gb166 from ((by rw [hg]; exact Nat.ne_of_lt (blk_lt (g := gb168) (o := .cells #[.string (⟨#[]⟩ : ByteArray), .bool false] 111 (0, 0)) (sqk (Y5 h1_ (hoff 22 (by kernel_rfl))))) : gb168 ≠ gb166)))
   have Y48 := fun (h0_ : up b 16 16 = true) (h1_ : up b 16 18 = true) => (show gb166 ≠ gb168 from ((by rw [hg]; exact Nat.ne_of_gt (blk_lt (g := gb168) (o := .cells #[.string (⟨#[]⟩ : ByteArray), .bool false] 111 (0, 0)) (sqk (Y5 h1_ (hoff 22 (by kernel_rfl))))) : gb166 ≠ gb168)))
   have Y56 := fun (h0_ : up b 16 16 = true) (h1_ : up b 16 19 = true) => (show gb169 ≠ gb166 from ((by rw [hg]; exact Nat.ne_of_lt (blk_lt (g := gb169) (o := .cells #[.string (⟨#[]⟩ : ByteArray), .bool false] 111 (0, 0)) (sqk (Y7 h1_ (hoff 23 (by kernel_rfl))))) : gb169 ≠ gb166)))
   have Y49 := fun (h0_ : up b 16 16 = true) (h1_ : up b 16 19 = true) => (show gb166 ≠ gb169 from ((by rw [hg]; exact Nat.ne_of_gt (blk_lt (g := gb169) (o := .cells #[.string (⟨#[]⟩ : ByteArray), .bool false] 111 (0, 0)) (sqk (Y7 h1_ (hoff 23 (by kernel_rfl))))) : gb166 ≠ gb169)))
   have Y44 := fun (h0_ : b 17 = true) (h1_ : b 21 = false) => (show w17.heap[gb167]? = some (.cells #[.int .i64 0, .bool false] 108 (0, 0)) from by first | exact (blk_below (g := gb167) (o := .cells #[.int .i64 0, .bool false] 108 (0, 0)) (sqk (Y3 h0_ h1_)) hb))
   have Y45 := fun (h0_ : b 18 = true) (h1_ : b 22 = false) => (show w17.heap[gb168]? = some (.cells #[.string (⟨#[]⟩ : ByteArray), .bool false] 111 (0, 0)) from by first | exact (blk_below (g := gb168) (o := .cells #[.string (⟨#[]⟩ : ByteArray), .bool false] 111 (0, 0)) (sqk (Y5 h0_ h1_)) hb))
   have Y46 := fun (h0_ : b 19 = true) (h1_ : b 23 = false) => (show w17.heap[gb169]? = some (.cells #[.string (⟨#[]⟩ : ByteArray), .bool false] 111 (0, 0)) from by first | exact (blk_below (g := gb169) (o := .cells #[.string (⟨#[]⟩ : ByteArray), .bool false] 111 (0, 0)) (sqk (Y7 h0_ h1_)) hb))
   clear HO153
   clear BK149
   clear HB
   have HO153 := n0_
   have BK149 := n1_
   have HB := n2_
   have BK166 := n3_
   have GW166 := n4_
   have GE166 := n5_
   have NB149_166 := n6_
   have NB166_149 := n7_
   clear n0_ n1_ n2_ n3_ n4_ n5_ n6_ n7_
   clear hb hbox hg
   refine hK.out _ _ ⟨gb166, gb167, gb168, gb169, (.pointer (some ⟨gb166, 0, none⟩)), m17_, m18_, m19_, (by rw [ha.out]; exact putSel_upk 12 hb_ rfl rfl rfl), (sqr HO153.out), (sqk BK149.out), (sqs HB.out), Y50, Y47, Y53, Y48, Y56, Y49, Y33, Y29, Y37, Y30, Y38, Y34, fun _ _ => (sqk BK166.out), fun _ => GW166.out, fun _ => GE166.out, fun _ => NB149_166.out, fun _ => NB166_149.out, Y44, Y14, Y10, Y20, Y27, Y45, Y15, Y11, Y21, Y31, Y46, Y16, Y12, Y22, Y35, fun h0_ => absurd ((hoff 20 (by kernel_rfl)).symm.trans h0_) (by decide), fun h0_ => absurd ((hoff 21 (by kernel_rfl)).symm.trans h0_) (by decide), fun h0_ => absurd ((hoff 22 (by kernel_rfl)).symm.trans h0_) (by decide), fun h0_ => absurd ((hoff 23 (by kernel_rfl)).symm.trans h0_) (by decide), fun _ => rfl, Y40, Y41, Y42⟩
  refine steps_cons ?_ ?_
  ·
   rintro b a w' ⟨gb166, gb167, gb168, gb169, m16_, m17_, m18_, m19_, ha, Y18, Y0, Y17, Y28, Y24, Y32, Y25, Y36, Y26, Y33, Y29, Y37, Y30, Y38, Y34, Y1, Y13, Y9, Y19, Y23, Y3, Y14, Y10, Y20, Y27, Y5, Y15, Y11, Y21, Y31, Y7, Y16, Y12, Y22, Y35, Y2, Y4, Y6, Y8, Y39, Y40, Y41, Y42⟩ hb_ hon hoff
   refine ⟨_, rfl, fun K hK => ?_⟩
   replace ha := sqA ha
   have HO153 := sqA Y18
   have BK149 := sqA Y0
   have HB := sqA Y17
   refine box_step ?hg (N := 7) ?hd (cs := #[.int .i64 0, .bool false]) (t := 108) ?hr ?_; (case hd => rfl); (case hg => rfl); (case hr => first | (go_simp; done) | (go_simp; rfl))
   intro gb167 hg w17 hbox hb
   have n0_ := sqA (Kd.R_below (sqr HO153.out) hb)
   have n1_ := sqA (blk_below (g := gb149) (o := .cells #[.int .i64 0, .int .i64 0, .string (⟨#[]⟩ : ByteArray), .string (⟨#[]⟩ : ByteArray)] 51 (0, 0)) (sqk BK149.out) hb)
   have n2_ := sqA (below_step (sqs HB.out) hb)
   have n3_ := sqA (hbox)
   have n4_ := sqA ((by rw [hg]; exact (below_size (sqs HB.out)) : w.heap.size ≤ gb167))
   have n5_ := sqA ((by rw [hg]; exact (below_size (sqs HB.out)) : w.heap.size ≤ gb167))
   have n6_ := sqA ((by rw [hg]; exact Nat.ne_of_lt (blk_lt (g := gb149) (o := .cells #[.int .i64 0, .int .i64 0, .string (⟨#[]⟩ : ByteArray), .string (⟨#[]⟩ : ByteArray)] 51 (0, 0)) (sqk BK149.out)) : gb149 ≠ gb167))
   have n7_ := sqA ((by rw [hg]; exact Nat.ne_of_gt (blk_lt (g := gb149) (o := .cells #[.int .i64 0, .int .i64 0, .string (⟨#[]⟩ : ByteArray), .string (⟨#[]⟩ : ByteArray)] 51 (0, 0)) (sqk BK149.out)) : gb167 ≠ gb149))
   have Y50 := fun (h0_ : up b 17 16 = true) (h1_ : up b 17 17 = true) => (show gb167 ≠ gb166 from ((by rw [hg]; exact Nat.ne_of_gt (blk_lt (g := gb166) (o := .cells #[.int .i64 0, .bool false] 108 (0, 0)) (sqk (Y1 h0_ (hoff 20 (by kernel_rfl))))) : gb167 ≠ gb166)))
   have Y47 := fun (h0_ : up b 17 16 = true) (h1_ : up b 17 17 = true) => (show gb166 ≠ gb167 from ((by rw [hg]; exact Nat.ne_of_lt (blk_lt (g := gb166) (o := .cells #[.int .i64 0, .bool false] 108 (0, 0)) (sqk (Y1 h0_ (hoff 20 (by kernel_rfl))))) : gb166 ≠ gb167)))
   have Y54 := fun (h0_ : up b 17 17 = true) (h1_ : up b 17 18 = true) => (show gb168 ≠ gb167 from ((by rw [hg]; exact Nat.ne_of_lt (blk_lt (g := gb168) (o := .cells #[.string (⟨#[]⟩ : ByteArray), .bool false] 111 (0, 0)) (sqk (Y5 h1_ (hoff 22 (by kernel_rfl))))) : gb168 ≠ gb167)))
   have Y51 := fun (h0_ : up b 17 17 = true) (h1_ : up b 17 18 = true) => (show gb167 ≠ gb168 from ((by rw [hg]; exact Nat.ne_of_gt (blk_lt (g := gb168) (o := .cells #[.string (⟨#[]⟩ : ByteArray), .bool false] 111 (0, 0)) (sqk (Y5 h1_ (hoff 22 (by kernel_rfl))))) : gb167 ≠ gb168)))
   have Y57 := fun (h0_ : up b 17 17 = true) (h1_ : up b 17 19 = true) => (show gb169 ≠ gb167 from ((by rw [hg]; exact Nat.ne_of_lt (blk_lt (g := gb169) (o := .cells #[.string (⟨#[]⟩ : ByteArray), .bool false] 111 (0, 0)) (sqk (Y7 h1_ (hoff 23 (by kernel_rfl))))) : gb169 ≠ gb167)))
   have Y52 := fun (h0_ : up b 17 17 = true) (h1_ : up b 17 19 = true) => (show gb167 ≠ gb169 from ((by rw [hg]; exact Nat.ne_of_gt (blk_lt (g := gb169) (o := .cells #[.string (⟨#[]⟩ : ByteArray), .bool false] 111 (0, 0)) (sqk (Y7 h1_ (hoff 23 (by kernel_rfl))))) : gb167 ≠ gb169)))
   have Y43 := fun (h0_ : b 16 = true) (h1_ : b 20 = false) => (show w17.heap[gb166]? = some (.cells #[.int .i64 0, .bool false] 108 (0, 0)) from by first | exact (blk_below (g := gb166) (o := .cells #[.int .i64 0, .bool false] 108 (0, 0)) (sqk (Y1 h0_ h1_)) hb))
   have Y45 := fun (h0_ : b 18 = true) (h1_ : b 22 = false) => (show w17.heap[gb168]? = some (.cells #[.string (⟨#[]⟩ : ByteArray), .bool false] 111 (0, 0)) from by first | exact (blk_below (g := gb168) (o := .cells #[.string (⟨#[]⟩ : ByteArray), .bool false] 111 (0, 0)) (sqk (Y5 h0_ h1_)) hb))
   have Y46 := fun (h0_ : b 19 = true) (h1_ : b 23 = false) => (show w17.heap[gb169]? = some (.cells #[.string (⟨#[]⟩ : ByteArray), .bool false] 111 (0, 0)) from by first | exact (blk_below (g := gb169) (o := .cells #[.string (⟨#[]⟩ : ByteArray), .bool false] 111 (0, 0)) (sqk (Y7 h0_ h1_)) hb))
   clear HO153
   clear BK149
   clear HB
   have HO153 := n0_
   have BK149 := n1_
   have HB := n2_
   have BK167 := n3_
   have GW167 := n4_
   have GE167 := n5_
   have NB149_167 := n6_
   have NB167_149 := n7_
   clear n0_ n1_ n2_ n3_ n4_ n5_ n6_ n7_
   clear hb hbox hg
   refine hK.out _ _ ⟨gb166, gb167, gb168, gb169, m16_, (.pointer (some ⟨gb167, 0, none⟩)), m18_, m19_, (by rw [ha.out]; exact putSel_upk 13 hb_ rfl rfl rfl), (sqr HO153.out), (sqk BK149.out), (sqs HB.out), Y50, Y47, Y32, Y25, Y36, Y26, Y54, Y51, Y57, Y52, Y38, Y34, Y43, Y13, Y9, Y19, Y23, fun _ _ => (sqk BK167.out), fun _ => GW167.out, fun _ => GE167.out, fun _ => NB149_167.out, fun _ => NB167_149.out, Y45, Y15, Y11, Y21, Y31, Y46, Y16, Y12, Y22, Y35, fun h0_ => absurd ((hoff 20 (by kernel_rfl)).symm.trans h0_) (by decide), fun h0_ => absurd ((hoff 21 (by kernel_rfl)).symm.trans h0_) (by decide), fun h0_ => absurd ((hoff 22 (by kernel_rfl)).symm.trans h0_) (by decide), fun h0_ => absurd ((hoff 23 (by kernel_rfl)).symm.trans h0_) (by decide), Y39, fun _ => rfl, Y41, Y42⟩
  refine steps_cons ?_ ?_
  ·
   rintro b a w' ⟨gb166, gb167, gb168, gb169, m16_, m17_, m18_, m19_, ha, Y18, Y0, Y17, Y28, Y24, Y32, Y25, Y36, Y26, Y33, Y29, Y37, Y30, Y38, Y34, Y1, Y13, Y9, Y19, Y23, Y3, Y14, Y10, Y20, Y27, Y5, Y15, Y11, Y21, Y31, Y7, Y16, Y12, Y22, Y35, Y2, Y4, Y6, Y8, Y39, Y40, Y41, Y42⟩ hb_ hon hoff
   refine ⟨_, rfl, fun K hK => ?_⟩
   replace ha := sqA ha
   have HO153 := sqA Y18
   have BK149 := sqA Y0
   have HB := sqA Y17
   refine box_step ?hg (N := 8) ?hd (cs := #[.string (⟨#[]⟩ : ByteArray), .bool false]) (t := 111) ?hr ?_; (case hd => rfl); (case hg => rfl); (case hr => first | (go_simp; done) | (go_simp; rfl))
   intro gb168 hg w17 hbox hb
   have n0_ := sqA (Kd.R_below (sqr HO153.out) hb)
   have n1_ := sqA (blk_below (g := gb149) (o := .cells #[.int .i64 0, .int .i64 0, .string (⟨#[]⟩ : ByteArray), .string (⟨#[]⟩ : ByteArray)] 51 (0, 0)) (sqk BK149.out) hb)
   have n2_ := sqA (below_step (sqs HB.out) hb)
   have n3_ := sqA (hbox)
   have n4_ := sqA ((by rw [hg]; exact (below_size (sqs HB.out)) : w.heap.size ≤ gb168))
   have n5_ := sqA ((by rw [hg]; exact (below_size (sqs HB.out)) : w.heap.size ≤ gb168))
   have n6_ := sqA ((by rw [hg]; exact Nat.ne_of_lt (blk_lt (g := gb149) (o := .cells #[.int .i64 0, .int .i64 0, .string (⟨#[]⟩ : ByteArray), .string (⟨#[]⟩ : ByteArray)] 51 (0, 0)) (sqk BK149.out)) : gb149 ≠ gb168))
   have n7_ := sqA ((by rw [hg]; exact Nat.ne_of_gt (blk_lt (g := gb149) (o := .cells #[.int .i64 0, .int .i64 0, .string (⟨#[]⟩ : ByteArray), .string (⟨#[]⟩ : ByteArray)] 51 (0, 0)) (sqk BK149.out)) : gb168 ≠ gb149))
   have Y53 := fun (h0_ : up b 18 16 = true) (h1_ : up b 18 18 = true) => (show gb168 ≠ gb166 from ((by rw [hg]; exact Nat.ne_of_gt (blk_lt (g := gb166) (o := .cells #[.int .i64 0, .bool false] 108 (0, 0)) (sqk (Y1 h0_ (hoff 20 (by kernel_rfl))))) : gb168 ≠ gb166)))
   have Y48 := fun (h0_ : up b 18 16 = true) (h1_ : up b 18 18 = true) => (show gb166 ≠ gb168 from ((by rw [hg]; exact Nat.ne_of_lt (blk_lt (g := gb166) (o := .cells #[.int .i64 0, .bool false] 108 (0, 0)) (sqk (Y1 h0_ (hoff 20 (by kernel_rfl))))) : gb166 ≠ gb168)))
   have Y54 := fun (h0_ : up b 18 17 = true) (h1_ : up b 18 18 = true) => (show gb168 ≠ gb167 from ((by rw [hg]; exact Nat.ne_of_gt (blk_lt (g := gb167) (o := .cells #[.int .i64 0, .bool false] 108 (0, 0)) (sqk (Y3 h0_ (hoff 21 (by kernel_rfl))))) : gb168 ≠ gb167)))
   have Y51 := fun (h0_ : up b 18 17 = true) (h1_ : up b 18 18 = true) => (show gb167 ≠ gb168 from ((by rw [hg]; exact Nat.ne_of_lt (blk_lt (g := gb167) (o := .cells #[.int .i64 0, .bool false] 108 (0, 0)) (sqk (Y3 h0_ (hoff 21 (by kernel_rfl))))) : gb167 ≠ gb168)))
   have Y58 := fun (h0_ : up b 18 18 = true) (h1_ : up b 18 19 = true) => (show gb169 ≠ gb168 from ((by rw [hg]; exact Nat.ne_of_lt (blk_lt (g := gb169) (o := .cells #[.string (⟨#[]⟩ : ByteArray), .bool false] 111 (0, 0)) (sqk (Y7 h1_ (hoff 23 (by kernel_rfl))))) : gb169 ≠ gb168)))
   have Y55 := fun (h0_ : up b 18 18 = true) (h1_ : up b 18 19 = true) => (show gb168 ≠ gb169 from ((by rw [hg]; exact Nat.ne_of_gt (blk_lt (g := gb169) (o := .cells #[.string (⟨#[]⟩ : ByteArray), .bool false] 111 (0, 0)) (sqk (Y7 h1_ (hoff 23 (by kernel_rfl))))) : gb168 ≠ gb169)))
   have Y43 := fun (h0_ : b 16 = true) (h1_ : b 20 = false) => (show w17.heap[gb166]? = some (.cells #[.int .i64 0, .bool false] 108 (0, 0)) from by first | exact (blk_below (g := gb166) (o := .cells #[.int .i64 0, .bool false] 108 (0, 0)) (sqk (Y1 h0_ h1_)) hb))
   have Y44 := fun (h0_ : b 17 = true) (h1_ : b 21 = false) => (show w17.heap[gb167]? = some (.cells #[.int .i64 0, .bool false] 108 (0, 0)) from by first | exact (blk_below (g := gb167) (o := .cells #[.int .i64 0, .bool false] 108 (0, 0)) (sqk (Y3 h0_ h1_)) hb))
   have Y46 := fun (h0_ : b 19 = true) (h1_ : b 23 = false) => (show w17.heap[gb169]? = some (.cells #[.string (⟨#[]⟩ : ByteArray), .bool false] 111 (0, 0)) from by first | exact (blk_below (g := gb169) (o := .cells #[.string (⟨#[]⟩ : ByteArray), .bool false] 111 (0, 0)) (sqk (Y7 h0_ h1_)) hb))
   clear HO153
   clear BK149
   clear HB
   have HO153 := n0_
   have BK149 := n1_
   have HB := n2_
   have BK168 := n3_
   have GW168 := n4_
   have GE168 := n5_
   have NB149_168 := n6_
   have NB168_149 := n7_
   clear n0_ n1_ n2_ n3_ n4_ n5_ n6_ n7_
   clear hb hbox hg
   refine hK.out _ _ ⟨gb166, gb167, gb168, gb169, m16_, m17_, (.pointer (some ⟨gb168, 0, none⟩)), m19_, (by rw [ha.out]; exact putSel_upk 14 hb_ rfl rfl rfl), (sqr HO153.out), (sqk BK149.out), (sqs HB.out), Y28, Y24, Y53, Y48, Y36, Y26, Y54, Y51, Y37, Y30, Y58, Y55, Y43, Y13, Y9, Y19, Y23, Y44, Y14, Y10, Y20, Y27, fun _ _ => (sqk BK168.out), fun _ => GW168.out, fun _ => GE168.out, fun _ => NB149_168.out, fun _ => NB168_149.out, Y46, Y16, Y12, Y22, Y35, fun h0_ => absurd ((hoff 20 (by kernel_rfl)).symm.trans h0_) (by decide), fun h0_ => absurd ((hoff 21 (by kernel_rfl)).symm.trans h0_) (by decide), fun h0_ => absurd ((hoff 22 (by kernel_rfl)).symm.trans h0_) (by decide), fun h0_ => absurd ((hoff 23 (by kernel_rfl)).symm.trans h0_) (by decide), Y39, Y40, fun _ => rfl, Y42⟩
  refine steps_cons ?_ ?_
  ·
   rintro b a w' ⟨gb166, gb167, gb168, gb169, m16_, m17_, m18_, m19_, ha, Y18, Y0, Y17, Y28, Y24, Y32, Y25, Y36, Y26, Y33, Y29, Y37, Y30, Y38, Y34, Y1, Y13, Y9, Y19, Y23, Y3, Y14, Y10, Y20, Y27, Y5, Y15, Y11, Y21, Y31, Y7, Y16, Y12, Y22, Y35, Y2, Y4, Y6, Y8, Y39, Y40, Y41, Y42⟩ hb_ hon hoff
   refine ⟨_, rfl, fun K hK => ?_⟩
   replace ha := sqA ha
   have HO153 := sqA Y18
   have BK149 := sqA Y0
   have HB := sqA Y17
   refine box_step ?hg (N := 9) ?hd (cs := #[.string (⟨#[]⟩ : ByteArray), .bool false]) (t := 111) ?hr ?_; (case hd => rfl); (case hg => rfl); (case hr => first | (go_simp; done) | (go_simp; rfl))
   intro gb169 hg w17 hbox hb
   have n0_ := sqA (Kd.R_below (sqr HO153.out) hb)
   have n1_ := sqA (blk_below (g := gb149) (o := .cells #[.int .i64 0, .int .i64 0, .string (⟨#[]⟩ : ByteArray), .string (⟨#[]⟩ : ByteArray)] 51 (0, 0)) (sqk BK149.out) hb)
   have n2_ := sqA (below_step (sqs HB.out) hb)
   have n3_ := sqA (hbox)
   have n4_ := sqA ((by rw [hg]; exact (below_size (sqs HB.out)) : w.heap.size ≤ gb169))
   have n5_ := sqA ((by rw [hg]; exact (below_size (sqs HB.out)) : w.heap.size ≤ gb169))
   have n6_ := sqA ((by rw [hg]; exact Nat.ne_of_lt (blk_lt (g := gb149) (o := .cells #[.int .i64 0, .int .i64 0, .string (⟨#[]⟩ : ByteArray), .string (⟨#[]⟩ : ByteArray)] 51 (0, 0)) (sqk BK149.out)) : gb149 ≠ gb169))
   have n7_ := sqA ((by rw [hg]; exact Nat.ne_of_gt (blk_lt (g := gb149) (o := .cells #[.int .i64 0, .int .i64 0, .string (⟨#[]⟩ : ByteArray), .string (⟨#[]⟩ : ByteArray)] 51 (0, 0)) (sqk BK149.out)) : gb169 ≠ gb149))
   have Y56 := fun (h0_ : up b 19 16 = true) (h1_ : up b 19 19 = true) => (show gb169 ≠ gb166 from ((by rw [hg]; exact Nat.ne_of_gt (blk_lt (g := gb166) (o := .cells #[.int .i64 0, .bool false] 108 (0, 0)) (sqk (Y1 h0_ (hoff 20 (by kernel_rfl))))) : gb169 ≠ gb166)))
   have Y49 := fun (h0_ : up b 19 16 = true) (h1_ : up b 19 19 = true) => (show gb166 ≠ gb169 from ((by rw [hg]; exact Nat.ne_of_lt (blk_lt (g := gb166) (o := .cells #[.int .i64 0, .bool false] 108 (0, 0)) (sqk (Y1 h0_ (hoff 20 (by kernel_rfl))))) : gb166 ≠ gb169)))
   have Y57 := fun (h0_ : up b 19 17 = true) (h1_ : up b 19 19 = true) => (show gb169 ≠ gb167 from ((by rw [hg]; exact Nat.ne_of_gt (blk_lt (g := gb167) (o := .cells #[.int .i64 0, .bool false] 108 (0, 0)) (sqk (Y3 h0_ (hoff 21 (by kernel_rfl))))) : gb169 ≠ gb167)))
   have Y52 := fun (h0_ : up b 19 17 = true) (h1_ : up b 19 19 = true) => (show gb167 ≠ gb169 from ((by rw [hg]; exact Nat.ne_of_lt (blk_lt (g := gb167) (o := .cells #[.int .i64 0, .bool false] 108 (0, 0)) (sqk (Y3 h0_ (hoff 21 (by kernel_rfl))))) : gb167 ≠ gb169)))
   have Y58 := fun (h0_ : up b 19 18 = true) (h1_ : up b 19 19 = true) => (show gb169 ≠ gb168 from ((by rw [hg]; exact Nat.ne_of_gt (blk_lt (g := gb168) (o := .cells #[.string (⟨#[]⟩ : ByteArray), .bool false] 111 (0, 0)) (sqk (Y5 h0_ (hoff 22 (by kernel_rfl))))) : gb169 ≠ gb168)))
   have Y55 := fun (h0_ : up b 19 18 = true) (h1_ : up b 19 19 = true) => (show gb168 ≠ gb169 from ((by rw [hg]; exact Nat.ne_of_lt (blk_lt (g := gb168) (o := .cells #[.string (⟨#[]⟩ : ByteArray), .bool false] 111 (0, 0)) (sqk (Y5 h0_ (hoff 22 (by kernel_rfl))))) : gb168 ≠ gb169)))
   have Y43 := fun (h0_ : b 16 = true) (h1_ : b 20 = false) => (show w17.heap[gb166]? = some (.cells #[.int .i64 0, .bool false] 108 (0, 0)) from by first | exact (blk_below (g := gb166) (o := .cells #[.int .i64 0, .bool false] 108 (0, 0)) (sqk (Y1 h0_ h1_)) hb))
   have Y44 := fun (h0_ : b 17 = true) (h1_ : b 21 = false) => (show w17.heap[gb167]? = some (.cells #[.int .i64 0, .bool false] 108 (0, 0)) from by first | exact (blk_below (g := gb167) (o := .cells #[.int .i64 0, .bool false] 108 (0, 0)) (sqk (Y3 h0_ h1_)) hb))
   have Y45 := fun (h0_ : b 18 = true) (h1_ : b 22 = false) => (show w17.heap[gb168]? = some (.cells #[.string (⟨#[]⟩ : ByteArray), .bool false] 111 (0, 0)) from by first | exact (blk_below (g := gb168) (o := .cells #[.string (⟨#[]⟩ : ByteArray), .bool false] 111 (0, 0)) (sqk (Y5 h0_ h1_)) hb))
   clear HO153
   clear BK149
   clear HB
   have HO153 := n0_
   have BK149 := n1_
   have HB := n2_
   have BK169 := n3_
   have GW169 := n4_
   have GE169 := n5_
   have NB149_169 := n6_
   have NB169_149 := n7_
   clear n0_ n1_ n2_ n3_ n4_ n5_ n6_ n7_
   clear hb hbox hg
   refine hK.out _ _ ⟨gb166, gb167, gb168, gb169, m16_, m17_, m18_, (.pointer (some ⟨gb169, 0, none⟩)), (by rw [ha.out]; exact putSel_upk 15 hb_ rfl rfl rfl), (sqr HO153.out), (sqk BK149.out), (sqs HB.out), Y28, Y24, Y32, Y25, Y56, Y49, Y33, Y29, Y57, Y52, Y58, Y55, Y43, Y13, Y9, Y19, Y23, Y44, Y14, Y10, Y20, Y27, Y45, Y15, Y11, Y21, Y31, fun _ _ => (sqk BK169.out), fun _ => GW169.out, fun _ => GE169.out, fun _ => NB149_169.out, fun _ => NB169_149.out, fun h0_ => absurd ((hoff 20 (by kernel_rfl)).symm.trans h0_) (by decide), fun h0_ => absurd ((hoff 21 (by kernel_rfl)).symm.trans h0_) (by decide), fun h0_ => absurd ((hoff 22 (by kernel_rfl)).symm.trans h0_) (by decide), fun h0_ => absurd ((hoff 23 (by kernel_rfl)).symm.trans h0_) (by decide), Y39, Y40, Y41, fun _ => rfl⟩
  refine steps_cons ?_ ?_
  ·
   rintro b a w' ⟨gb166, gb167, gb168, gb169, m16_, m17_, m18_, m19_, ha, Y18, Y0, Y17, Y28, Y24, Y32, Y25, Y36, Y26, Y33, Y29, Y37, Y30, Y38, Y34, Y1, Y13, Y9, Y19, Y23, Y3, Y14, Y10, Y20, Y27, Y5, Y15, Y11, Y21, Y31, Y7, Y16, Y12, Y22, Y35, Y2, Y4, Y6, Y8, Y39, Y40, Y41, Y42⟩ hb_ hon hoff
   refine ⟨_, rfl, fun K hK => ?_⟩
   have e6 : a.tmps[6]? = some (m16_) := by rw [ha]; exact putSel_on (e := (16, 6, m16_)) 12 rfl rfl (hon 16 (by kernel_rfl)) rfl
   rw [Y39 (hon 16 (by kernel_rfl))] at e6
   have e22 : a.tmps[22]? = some (.agg #[.int .i64 t155, .bool t156]) := by rw [ha]; exact putSel_on (e := (3, 22, .agg #[.int .i64 t155, .bool t156])) 2 rfl rfl (hon 3 (by kernel_rfl)) rfl
   replace ha := sqA ha
   have HO153 := sqA Y18
   have BK149 := sqA Y0
   have HB := sqA Y17
   have NB167_166 := sqA (Y28 (hon 16 (by kernel_rfl)) (hon 17 (by kernel_rfl)))
   have NB166_167 := sqA (Y24 (hon 16 (by kernel_rfl)) (hon 17 (by kernel_rfl)))
   have NB168_166 := sqA (Y32 (hon 16 (by kernel_rfl)) (hon 18 (by kernel_rfl)))
   have NB166_168 := sqA (Y25 (hon 16 (by kernel_rfl)) (hon 18 (by kernel_rfl)))
   have NB169_166 := sqA (Y36 (hon 16 (by kernel_rfl)) (hon 19 (by kernel_rfl)))
   have NB166_169 := sqA (Y26 (hon 16 (by kernel_rfl)) (hon 19 (by kernel_rfl)))
   have NB168_167 := sqA (Y33 (hon 17 (by kernel_rfl)) (hon 18 (by kernel_rfl)))
   have NB167_168 := sqA (Y29 (hon 17 (by kernel_rfl)) (hon 18 (by kernel_rfl)))
   have NB169_167 := sqA (Y37 (hon 17 (by kernel_rfl)) (hon 19 (by kernel_rfl)))
   have NB167_169 := sqA (Y30 (hon 17 (by kernel_rfl)) (hon 19 (by kernel_rfl)))
   have NB169_168 := sqA (Y38 (hon 18 (by kernel_rfl)) (hon 19 (by kernel_rfl)))
   have NB168_169 := sqA (Y34 (hon 18 (by kernel_rfl)) (hon 19 (by kernel_rfl)))
   have BK166 := sqA (Y1 (hon 16 (by kernel_rfl)) hb_)
   have GW166 := sqA (Y13 (hon 16 (by kernel_rfl)))
   have GE166 := sqA (Y9 (hon 16 (by kernel_rfl)))
   have NB149_166 := sqA (Y19 (hon 16 (by kernel_rfl)))
   have NB166_149 := sqA (Y23 (hon 16 (by kernel_rfl)))
   have BK167 := sqA (Y3 (hon 17 (by kernel_rfl)) (hoff 21 (by kernel_rfl)))
   have GW167 := sqA (Y14 (hon 17 (by kernel_rfl)))
   have GE167 := sqA (Y10 (hon 17 (by kernel_rfl)))
   have NB149_167 := sqA (Y20 (hon 17 (by kernel_rfl)))
   have NB167_149 := sqA (Y27 (hon 17 (by kernel_rfl)))
   have BK168 := sqA (Y5 (hon 18 (by kernel_rfl)) (hoff 22 (by kernel_rfl)))
   have GW168 := sqA (Y15 (hon 18 (by kernel_rfl)))
   have GE168 := sqA (Y11 (hon 18 (by kernel_rfl)))
   have NB149_168 := sqA (Y21 (hon 18 (by kernel_rfl)))
   have NB168_149 := sqA (Y31 (hon 18 (by kernel_rfl)))
   have BK169 := sqA (Y7 (hon 19 (by kernel_rfl)) (hoff 23 (by kernel_rfl)))
   have GW169 := sqA (Y16 (hon 19 (by kernel_rfl)))
   have GE169 := sqA (Y12 (hon 19 (by kernel_rfl)))
   have NB149_169 := sqA (Y22 (hon 19 (by kernel_rfl)))
   have NB169_149 := sqA (Y35 (hon 19 (by kernel_rfl)))
   have hs26 : w'.cell? ⟨gb166, 0, none⟩ = some (.int .i64 0) := (blk_cell BK166.out 0).trans rfl
   have hfs26 := blk_frozen BK166.out 0
   have hns26_0 := NB149_166.out
   have hns26_2 := NB167_166.out
   have hns26_3 := NB168_166.out
   have hns26_4 := NB169_166.out
   have hms26_0 := NB166_149.out
   have hms26_2 := NB166_167.out
   have hms26_3 := NB166_168.out
   have hms26_4 := NB166_169.out
   have hs27 : w'.cell? ⟨gb166, 1, none⟩ = some (.bool false) := (blk_cell BK166.out 1).trans rfl
   have hfs27 := blk_frozen BK166.out 1
   have hns27_0 := NB149_166.out
   have hns27_2 := NB167_166.out
   have hns27_3 := NB168_166.out
   have hns27_4 := NB169_166.out
   have hms27_0 := NB166_149.out
   have hms27_2 := NB166_167.out
   have hms27_3 := NB166_168.out
   have hms27_4 := NB166_169.out
   refine skip_ (w1 := ?_) (by rfl) rfl ?_ ?_
   rotate_left
   ·
    go_simp
    rfl
   refine hK.out _ _ ⟨gb166, gb167, gb168, gb169, m16_, m17_, m18_, m19_, (by rw [ha.out]; exact putSel_none (v := undef) rfl), (sqr (Kd.R_mono (Kd.R_far (p := ⟨gb166, 1, none⟩) (Kd.R_far (p := ⟨gb166, 0, none⟩) (Kd.R_types HO153.out BK166.out (by decide)) (fun _ hk => hk.2) (.int .i64 t155)) (fun _ hk => hk.2) (.bool t156)) (fun _ hk => trivial))), (by (with_reducible repeat (first | refine blk_drewN ?_ _ | refine blk_drew ?_ | refine blk_alloc ?_ _)); refine blk_far ?_ NB149_166.out _; (with_reducible repeat (first | refine blk_drewN ?_ _ | refine blk_drew ?_ | refine blk_alloc ?_ _)); refine blk_far ?_ NB149_166.out _; (with_reducible repeat (first | refine blk_drewN ?_ _ | refine blk_drew ?_ | refine blk_alloc ?_ _)); exact BK149.out), (sqs HB.out), fun _ _ => NB167_166.out, fun _ _ => NB166_167.out, fun _ _ => NB168_166.out, fun _ _ => NB166_168.out, fun _ _ => NB169_166.out, fun _ _ => NB166_169.out, fun _ _ => NB168_167.out, fun _ _ => NB167_168.out, fun _ _ => NB169_167.out, fun _ _ => NB167_169.out, fun _ _ => NB169_168.out, fun _ _ => NB168_169.out, fun _ h1_ => absurd ((up_self b 20).symm.trans h1_) (by decide), fun _ => GW166.out, fun _ => GE166.out, fun _ => NB149_166.out, fun _ => NB166_149.out, fun _ _ => (by (with_reducible repeat (first | refine blk_drewN ?_ _ | refine blk_drew ?_ | refine blk_alloc ?_ _)); refine blk_far ?_ NB167_166.out _; (with_reducible repeat (first | refine blk_drewN ?_ _ | refine blk_drew ?_ | refine blk_alloc ?_ _)); refine blk_far ?_ NB167_166.out _; (with_reducible repeat (first | refine blk_drewN ?_ _ | refine blk_drew ?_ | refine blk_alloc ?_ _)); exact BK167.out), fun _ => GW167.out, fun _ => GE167.out, fun _ => NB149_167.out, fun _ => NB167_149.out, fun _ _ => (by (with_reducible repeat (first | refine blk_drewN ?_ _ | refine blk_drew ?_ | refine blk_alloc ?_ _)); refine blk_far ?_ NB168_166.out _; (with_reducible repeat (first | refine blk_drewN ?_ _ | refine blk_drew ?_ | refine blk_alloc ?_ _)); refine blk_far ?_ NB168_166.out _; (with_reducible repeat (first | refine blk_drewN ?_ _ | refine blk_drew ?_ | refine blk_alloc ?_ _)); exact BK168.out), fun _ => GW168.out, fun _ => GE168.out, fun _ => NB149_168.out, fun _ => NB168_149.out, fun _ _ => (by (with_reducible repeat (first | refine blk_drewN ?_ _ | refine blk_drew ?_ | refine blk_alloc ?_ _)); refine blk_far ?_ NB169_166.out _; (with_reducible repeat (first | refine blk_drewN ?_ _ | refine blk_drew ?_ | refine blk_alloc ?_ _)); refine blk_far ?_ NB169_166.out _; (with_reducible repeat (first | refine blk_drewN ?_ _ | refine blk_drew ?_ | refine blk_alloc ?_ _)); exact BK169.out), fun _ => GW169.out, fun _ => GE169.out, fun _ => NB149_169.out, fun _ => NB169_149.out, fun _ => (by (with_reducible repeat (first | refine blk_drewN ?_ _ | refine blk_drew ?_ | refine blk_alloc ?_ _)); refine blk_put (cs := #[.int .i64 t155, .bool false]) ?_ 1 _ rfl; (with_reducible repeat (first | refine blk_drewN ?_ _ | refine blk_drew ?_ | refine blk_alloc ?_ _)); refine blk_put (cs := #[.int .i64 0, .bool false]) ?_ 0 _ rfl; (with_reducible repeat (first | refine blk_drewN ?_ _ | refine blk_drew ?_ | refine blk_alloc ?_ _)); exact BK166.out), fun h0_ => absurd ((hoff 21 (by kernel_rfl)).symm.trans h0_) (by decide), fun h0_ => absurd ((hoff 22 (by kernel_rfl)).symm.trans h0_) (by decide), fun h0_ => absurd ((hoff 23 (by kernel_rfl)).symm.trans h0_) (by decide), Y39, Y40, Y41, Y42⟩
  refine steps_cons ?_ ?_
  ·
   rintro b a w' ⟨gb166, gb167, gb168, gb169, m16_, m17_, m18_, m19_, ha, Y18, Y0, Y17, Y28, Y24, Y32, Y25, Y36, Y26, Y33, Y29, Y37, Y30, Y38, Y34, Y1, Y13, Y9, Y19, Y23, Y3, Y14, Y10, Y20, Y27, Y5, Y15, Y11, Y21, Y31, Y7, Y16, Y12, Y22, Y35, Y2, Y4, Y6, Y8, Y39, Y40, Y41, Y42⟩ hb_ hon hoff
   refine ⟨_, rfl, fun K hK => ?_⟩
   have e7 : a.tmps[7]? = some (m17_) := by rw [ha]; exact putSel_on (e := (17, 7, m17_)) 13 rfl rfl (hon 17 (by kernel_rfl)) rfl
   rw [Y40 (hon 17 (by kernel_rfl))] at e7
   have e26 : a.tmps[26]? = some (.agg #[.int .i64 t158, .bool t159]) := by rw [ha]; exact putSel_on (e := (7, 26, .agg #[.int .i64 t158, .bool t159])) 5 rfl rfl (hon 7 (by kernel_rfl)) rfl
   replace ha := sqA ha
   have HO153 := sqA Y18
   have BK149 := sqA Y0
   have HB := sqA Y17
   have NB167_166 := sqA (Y28 (hon 16 (by kernel_rfl)) (hon 17 (by kernel_rfl)))
   have NB166_167 := sqA (Y24 (hon 16 (by kernel_rfl)) (hon 17 (by kernel_rfl)))
   have NB168_166 := sqA (Y32 (hon 16 (by kernel_rfl)) (hon 18 (by kernel_rfl)))
   have NB166_168 := sqA (Y25 (hon 16 (by kernel_rfl)) (hon 18 (by kernel_rfl)))
   have NB169_166 := sqA (Y36 (hon 16 (by kernel_rfl)) (hon 19 (by kernel_rfl)))
   have NB166_169 := sqA (Y26 (hon 16 (by kernel_rfl)) (hon 19 (by kernel_rfl)))
   have NB168_167 := sqA (Y33 (hon 17 (by kernel_rfl)) (hon 18 (by kernel_rfl)))
   have NB167_168 := sqA (Y29 (hon 17 (by kernel_rfl)) (hon 18 (by kernel_rfl)))
   have NB169_167 := sqA (Y37 (hon 17 (by kernel_rfl)) (hon 19 (by kernel_rfl)))
   have NB167_169 := sqA (Y30 (hon 17 (by kernel_rfl)) (hon 19 (by kernel_rfl)))
   have NB169_168 := sqA (Y38 (hon 18 (by kernel_rfl)) (hon 19 (by kernel_rfl)))
   have NB168_169 := sqA (Y34 (hon 18 (by kernel_rfl)) (hon 19 (by kernel_rfl)))
   have GW166 := sqA (Y13 (hon 16 (by kernel_rfl)))
   have GE166 := sqA (Y9 (hon 16 (by kernel_rfl)))
   have NB149_166 := sqA (Y19 (hon 16 (by kernel_rfl)))
   have NB166_149 := sqA (Y23 (hon 16 (by kernel_rfl)))
   have BK167 := sqA (Y3 (hon 17 (by kernel_rfl)) hb_)
   have GW167 := sqA (Y14 (hon 17 (by kernel_rfl)))
   have GE167 := sqA (Y10 (hon 17 (by kernel_rfl)))
   have NB149_167 := sqA (Y20 (hon 17 (by kernel_rfl)))
   have NB167_149 := sqA (Y27 (hon 17 (by kernel_rfl)))
   have BK168 := sqA (Y5 (hon 18 (by kernel_rfl)) (hoff 22 (by kernel_rfl)))
   have GW168 := sqA (Y15 (hon 18 (by kernel_rfl)))
   have GE168 := sqA (Y11 (hon 18 (by kernel_rfl)))
   have NB149_168 := sqA (Y21 (hon 18 (by kernel_rfl)))
   have NB168_149 := sqA (Y31 (hon 18 (by kernel_rfl)))
   have BK169 := sqA (Y7 (hon 19 (by kernel_rfl)) (hoff 23 (by kernel_rfl)))
   have GW169 := sqA (Y16 (hon 19 (by kernel_rfl)))
   have GE169 := sqA (Y12 (hon 19 (by kernel_rfl)))
   have NB149_169 := sqA (Y22 (hon 19 (by kernel_rfl)))
   have NB169_149 := sqA (Y35 (hon 19 (by kernel_rfl)))
   have BK166 := sqA (Y2 (hon 20 (by kernel_rfl)))
   have hs28 : w'.cell? ⟨gb167, 0, none⟩ = some (.int .i64 0) := (blk_cell BK167.out 0).trans rfl
   have hfs28 := blk_frozen BK167.out 0
   have hns28_0 := NB149_167.out
   have hns28_1 := NB166_167.out
   have hns28_3 := NB168_167.out
   have hns28_4 := NB169_167.out
   have hms28_0 := NB167_149.out
   have hms28_1 := NB167_166.out
   have hms28_3 := NB167_168.out
   have hms28_4 := NB167_169.out
   have hs29 : w'.cell? ⟨gb167, 1, none⟩ = some (.bool false) := (blk_cell BK167.out 1).trans rfl
   have hfs29 := blk_frozen BK167.out 1
   have hns29_0 := NB149_167.out
   have hns29_1 := NB166_167.out
   have hns29_3 := NB168_167.out
   have hns29_4 := NB169_167.out
   have hms29_0 := NB167_149.out
   have hms29_1 := NB167_166.out
   have hms29_3 := NB167_168.out
   have hms29_4 := NB167_169.out
   refine skip_ (w1 := ?_) (by rfl) rfl ?_ ?_
   rotate_left
   ·
    go_simp
    rfl
   refine hK.out _ _ ⟨gb166, gb167, gb168, gb169, m16_, m17_, m18_, m19_, (by rw [ha.out]; exact putSel_none (v := undef) rfl), (sqr (Kd.R_mono (Kd.R_far (p := ⟨gb167, 1, none⟩) (Kd.R_far (p := ⟨gb167, 0, none⟩) (Kd.R_types HO153.out BK167.out (by decide)) (fun _ hk => hk.2) (.int .i64 t158)) (fun _ hk => hk.2) (.bool t159)) (fun _ hk => trivial))), (by (with_reducible repeat (first | refine blk_drewN ?_ _ | refine blk_drew ?_ | refine blk_alloc ?_ _)); refine blk_far ?_ NB149_167.out _; (with_reducible repeat (first | refine blk_drewN ?_ _ | refine blk_drew ?_ | refine blk_alloc ?_ _)); refine blk_far ?_ NB149_167.out _; (with_reducible repeat (first | refine blk_drewN ?_ _ | refine blk_drew ?_ | refine blk_alloc ?_ _)); exact BK149.out), (sqs HB.out), fun _ _ => NB167_166.out, fun _ _ => NB166_167.out, fun _ _ => NB168_166.out, fun _ _ => NB166_168.out, fun _ _ => NB169_166.out, fun _ _ => NB166_169.out, fun _ _ => NB168_167.out, fun _ _ => NB167_168.out, fun _ _ => NB169_167.out, fun _ _ => NB167_169.out, fun _ _ => NB169_168.out, fun _ _ => NB168_169.out, fun _ h1_ => absurd ((hon 20 (by kernel_rfl)).symm.trans h1_) (by decide), fun _ => GW166.out, fun _ => GE166.out, fun _ => NB149_166.out, fun _ => NB166_149.out, fun _ h1_ => absurd ((up_self b 21).symm.trans h1_) (by decide), fun _ => GW167.out, fun _ => GE167.out, fun _ => NB149_167.out, fun _ => NB167_149.out, fun _ _ => (by (with_reducible repeat (first | refine blk_drewN ?_ _ | refine blk_drew ?_ | refine blk_alloc ?_ _)); refine blk_far ?_ NB168_167.out _; (with_reducible repeat (first | refine blk_drewN ?_ _ | refine blk_drew ?_ | refine blk_alloc ?_ _)); refine blk_far ?_ NB168_167.out _; (with_reducible repeat (first | refine blk_drewN ?_ _ | refine blk_drew ?_ | refine blk_alloc ?_ _)); exact BK168.out), fun _ => GW168.out, fun _ => GE168.out, fun _ => NB149_168.out, fun _ => NB168_149.out, fun _ _ => (by (with_reducible repeat (first | refine blk_drewN ?_ _ | refine blk_drew ?_ | refine blk_alloc ?_ _)); refine blk_far ?_ NB169_167.out _; (with_reducible repeat (first | refine blk_drewN ?_ _ | refine blk_drew ?_ | refine blk_alloc ?_ _)); refine blk_far ?_ NB169_167.out _; (with_reducible repeat (first | refine blk_drewN ?_ _ | refine blk_drew ?_ | refine blk_alloc ?_ _)); exact BK169.out), fun _ => GW169.out, fun _ => GE169.out, fun _ => NB149_169.out, fun _ => NB169_149.out, fun _ => (by (with_reducible repeat (first | refine blk_drewN ?_ _ | refine blk_drew ?_ | refine blk_alloc ?_ _)); refine blk_far ?_ NB166_167.out _; (with_reducible repeat (first | refine blk_drewN ?_ _ | refine blk_drew ?_ | refine blk_alloc ?_ _)); refine blk_far ?_ NB166_167.out _; (with_reducible repeat (first | refine blk_drewN ?_ _ | refine blk_drew ?_ | refine blk_alloc ?_ _)); exact BK166.out), fun _ => (by (with_reducible repeat (first | refine blk_drewN ?_ _ | refine blk_drew ?_ | refine blk_alloc ?_ _)); refine blk_put (cs := #[.int .i64 t158, .bool false]) ?_ 1 _ rfl; (with_reducible repeat (first | refine blk_drewN ?_ _ | refine blk_drew ?_ | refine blk_alloc ?_ _)); refine blk_put (cs := #[.int .i64 0, .bool false]) ?_ 0 _ rfl; (with_reducible repeat (first | refine blk_drewN ?_ _ | refine blk_drew ?_ | refine blk_alloc ?_ _)); exact BK167.out), fun h0_ => absurd ((hoff 22 (by kernel_rfl)).symm.trans h0_) (by decide), fun h0_ => absurd ((hoff 23 (by kernel_rfl)).symm.trans h0_) (by decide), Y39, Y40, Y41, Y42⟩
  refine steps_cons ?_ ?_
  ·
   rintro b a w' ⟨gb166, gb167, gb168, gb169, m16_, m17_, m18_, m19_, ha, Y18, Y0, Y17, Y28, Y24, Y32, Y25, Y36, Y26, Y33, Y29, Y37, Y30, Y38, Y34, Y1, Y13, Y9, Y19, Y23, Y3, Y14, Y10, Y20, Y27, Y5, Y15, Y11, Y21, Y31, Y7, Y16, Y12, Y22, Y35, Y2, Y4, Y6, Y8, Y39, Y40, Y41, Y42⟩ hb_ hon hoff
   refine ⟨_, rfl, fun K hK => ?_⟩
   have e8 : a.tmps[8]? = some (m18_) := by rw [ha]; exact putSel_on (e := (18, 8, m18_)) 14 rfl rfl (hon 18 (by kernel_rfl)) rfl
   rw [Y41 (hon 18 (by kernel_rfl))] at e8
   have e30 : a.tmps[30]? = some (.agg #[.string t161, .bool t162]) := by rw [ha]; exact putSel_on (e := (11, 30, .agg #[.string t161, .bool t162])) 8 rfl rfl (hon 11 (by kernel_rfl)) rfl
   replace ha := sqA ha
   have HO153 := sqA Y18
   have BK149 := sqA Y0
   have HB := sqA Y17
   have NB167_166 := sqA (Y28 (hon 16 (by kernel_rfl)) (hon 17 (by kernel_rfl)))
   have NB166_167 := sqA (Y24 (hon 16 (by kernel_rfl)) (hon 17 (by kernel_rfl)))
   have NB168_166 := sqA (Y32 (hon 16 (by kernel_rfl)) (hon 18 (by kernel_rfl)))
   have NB166_168 := sqA (Y25 (hon 16 (by kernel_rfl)) (hon 18 (by kernel_rfl)))
   have NB169_166 := sqA (Y36 (hon 16 (by kernel_rfl)) (hon 19 (by kernel_rfl)))
   have NB166_169 := sqA (Y26 (hon 16 (by kernel_rfl)) (hon 19 (by kernel_rfl)))
   have NB168_167 := sqA (Y33 (hon 17 (by kernel_rfl)) (hon 18 (by kernel_rfl)))
   have NB167_168 := sqA (Y29 (hon 17 (by kernel_rfl)) (hon 18 (by kernel_rfl)))
   have NB169_167 := sqA (Y37 (hon 17 (by kernel_rfl)) (hon 19 (by kernel_rfl)))
   have NB167_169 := sqA (Y30 (hon 17 (by kernel_rfl)) (hon 19 (by kernel_rfl)))
   have NB169_168 := sqA (Y38 (hon 18 (by kernel_rfl)) (hon 19 (by kernel_rfl)))
   have NB168_169 := sqA (Y34 (hon 18 (by kernel_rfl)) (hon 19 (by kernel_rfl)))
   have GW166 := sqA (Y13 (hon 16 (by kernel_rfl)))
   have GE166 := sqA (Y9 (hon 16 (by kernel_rfl)))
   have NB149_166 := sqA (Y19 (hon 16 (by kernel_rfl)))
   have NB166_149 := sqA (Y23 (hon 16 (by kernel_rfl)))
   have GW167 := sqA (Y14 (hon 17 (by kernel_rfl)))
   have GE167 := sqA (Y10 (hon 17 (by kernel_rfl)))
   have NB149_167 := sqA (Y20 (hon 17 (by kernel_rfl)))
   have NB167_149 := sqA (Y27 (hon 17 (by kernel_rfl)))
   have BK168 := sqA (Y5 (hon 18 (by kernel_rfl)) hb_)
   have GW168 := sqA (Y15 (hon 18 (by kernel_rfl)))
   have GE168 := sqA (Y11 (hon 18 (by kernel_rfl)))
   have NB149_168 := sqA (Y21 (hon 18 (by kernel_rfl)))
   have NB168_149 := sqA (Y31 (hon 18 (by kernel_rfl)))
   have BK169 := sqA (Y7 (hon 19 (by kernel_rfl)) (hoff 23 (by kernel_rfl)))
   have GW169 := sqA (Y16 (hon 19 (by kernel_rfl)))
   have GE169 := sqA (Y12 (hon 19 (by kernel_rfl)))
   have NB149_169 := sqA (Y22 (hon 19 (by kernel_rfl)))
   have NB169_149 := sqA (Y35 (hon 19 (by kernel_rfl)))
   have BK166 := sqA (Y2 (hon 20 (by kernel_rfl)))
   have BK167 := sqA (Y4 (hon 21 (by kernel_rfl)))
   have hs30 : w'.cell? ⟨gb168, 0, none⟩ = some (.string (⟨#[]⟩ : ByteArray)) := (blk_cell BK168.out 0).trans rfl
   have hfs30 := blk_frozen BK168.out 0
   have hns30_0 := NB149_168.out
   have hns30_1 := NB166_168.out
   have hns30_2 := NB167_168.out
   have hns30_4 := NB169_168.out
   have hms30_0 := NB168_149.out
   have hms30_1 := NB168_166.out
   have hms30_2 := NB168_167.out
   have hms30_4 := NB168_169.out
   have hs31 : w'.cell? ⟨gb168, 1, none⟩ = some (.bool false) := (blk_cell BK168.out 1).trans rfl
   have hfs31 := blk_frozen BK168.out 1
   have hns31_0 := NB149_168.out
   have hns31_1 := NB166_168.out
   have hns31_2 := NB167_168.out
   have hns31_4 := NB169_168.out
   have hms31_0 := NB168_149.out
   have hms31_1 := NB168_166.out
   have hms31_2 := NB168_167.out
   have hms31_4 := NB168_169.out
   refine skip_ (w1 := ?_) (by rfl) rfl ?_ ?_
   rotate_left
   ·
    go_simp
    rfl
   refine hK.out _ _ ⟨gb166, gb167, gb168, gb169, m16_, m17_, m18_, m19_, (by rw [ha.out]; exact putSel_none (v := undef) rfl), (sqr (Kd.R_mono (Kd.R_far (p := ⟨gb168, 1, none⟩) (Kd.R_far (p := ⟨gb168, 0, none⟩) (Kd.R_types HO153.out BK168.out (by decide)) (fun _ hk => hk.2) (.string t161)) (fun _ hk => hk.2) (.bool t162)) (fun _ hk => trivial))), (by (with_reducible repeat (first | refine blk_drewN ?_ _ | refine blk_drew ?_ | refine blk_alloc ?_ _)); refine blk_far ?_ NB149_168.out _; (with_reducible repeat (first | refine blk_drewN ?_ _ | refine blk_drew ?_ | refine blk_alloc ?_ _)); refine blk_far ?_ NB149_168.out _; (with_reducible repeat (first | refine blk_drewN ?_ _ | refine blk_drew ?_ | refine blk_alloc ?_ _)); exact BK149.out), (sqs HB.out), fun _ _ => NB167_166.out, fun _ _ => NB166_167.out, fun _ _ => NB168_166.out, fun _ _ => NB166_168.out, fun _ _ => NB169_166.out, fun _ _ => NB166_169.out, fun _ _ => NB168_167.out, fun _ _ => NB167_168.out, fun _ _ => NB169_167.out, fun _ _ => NB167_169.out, fun _ _ => NB169_168.out, fun _ _ => NB168_169.out, fun _ h1_ => absurd ((hon 20 (by kernel_rfl)).symm.trans h1_) (by decide), fun _ => GW166.out, fun _ => GE166.out, fun _ => NB149_166.out, fun _ => NB166_149.out, fun _ h1_ => absurd ((hon 21 (by kernel_rfl)).symm.trans h1_) (by decide), fun _ => GW167.out, fun _ => GE167.out, fun _ => NB149_167.out, fun _ => NB167_149.out, fun _ h1_ => absurd ((up_self b 22).symm.trans h1_) (by decide), fun _ => GW168.out, fun _ => GE168.out, fun _ => NB149_168.out, fun _ => NB168_149.out, fun _ _ => (by (with_reducible repeat (first | refine blk_drewN ?_ _ | refine blk_drew ?_ | refine blk_alloc ?_ _)); refine blk_far ?_ NB169_168.out _; (with_reducible repeat (first | refine blk_drewN ?_ _ | refine blk_drew ?_ | refine blk_alloc ?_ _)); refine blk_far ?_ NB169_168.out _; (with_reducible repeat (first | refine blk_drewN ?_ _ | refine blk_drew ?_ | refine blk_alloc ?_ _)); exact BK169.out), fun _ => GW169.out, fun _ => GE169.out, fun _ => NB149_169.out, fun _ => NB169_149.out, fun _ => (by (with_reducible repeat (first | refine blk_drewN ?_ _ | refine blk_drew ?_ | refine blk_alloc ?_ _)); refine blk_far ?_ NB166_168.out _; (with_reducible repeat (first | refine blk_drewN ?_ _ | refine blk_drew ?_ | refine blk_alloc ?_ _)); refine blk_far ?_ NB166_168.out _; (with_reducible repeat (first | refine blk_drewN ?_ _ | refine blk_drew ?_ | refine blk_alloc ?_ _)); exact BK166.out), fun _ => (by (with_reducible repeat (first | refine blk_drewN ?_ _ | refine blk_drew ?_ | refine blk_alloc ?_ _)); refine blk_far ?_ NB167_168.out _; (with_reducible repeat (first | refine blk_drewN ?_ _ | refine blk_drew ?_ | refine blk_alloc ?_ _)); refine blk_far ?_ NB167_168.out _; (with_reducible repeat (first | refine blk_drewN ?_ _ | refine blk_drew ?_ | refine blk_alloc ?_ _)); exact BK167.out), fun _ => (by (with_reducible repeat (first | refine blk_drewN ?_ _ | refine blk_drew ?_ | refine blk_alloc ?_ _)); refine blk_put (cs := #[.string t161, .bool false]) ?_ 1 _ rfl; (with_reducible repeat (first | refine blk_drewN ?_ _ | refine blk_drew ?_ | refine blk_alloc ?_ _)); refine blk_put (cs := #[.string (⟨#[]⟩ : ByteArray), .bool false]) ?_ 0 _ rfl; (with_reducible repeat (first | refine blk_drewN ?_ _ | refine blk_drew ?_ | refine blk_alloc ?_ _)); exact BK168.out), fun h0_ => absurd ((hoff 23 (by kernel_rfl)).symm.trans h0_) (by decide), Y39, Y40, Y41, Y42⟩
  refine steps_cons ?_ ?_
  ·
   rintro b a w' ⟨gb166, gb167, gb168, gb169, m16_, m17_, m18_, m19_, ha, Y18, Y0, Y17, Y28, Y24, Y32, Y25, Y36, Y26, Y33, Y29, Y37, Y30, Y38, Y34, Y1, Y13, Y9, Y19, Y23, Y3, Y14, Y10, Y20, Y27, Y5, Y15, Y11, Y21, Y31, Y7, Y16, Y12, Y22, Y35, Y2, Y4, Y6, Y8, Y39, Y40, Y41, Y42⟩ hb_ hon hoff
   refine ⟨_, rfl, fun K hK => ?_⟩
   have e9 : a.tmps[9]? = some (m19_) := by rw [ha]; exact putSel_on (e := (19, 9, m19_)) 15 rfl rfl (hon 19 (by kernel_rfl)) rfl
   rw [Y42 (hon 19 (by kernel_rfl))] at e9
   have e34 : a.tmps[34]? = some (.agg #[.string t164, .bool t165]) := by rw [ha]; exact putSel_on (e := (15, 34, .agg #[.string t164, .bool t165])) 11 rfl rfl (hon 15 (by kernel_rfl)) rfl
   replace ha := sqA ha
   have HO153 := sqA Y18
   have BK149 := sqA Y0
   have HB := sqA Y17
   have NB167_166 := sqA (Y28 (hon 16 (by kernel_rfl)) (hon 17 (by kernel_rfl)))
   have NB166_167 := sqA (Y24 (hon 16 (by kernel_rfl)) (hon 17 (by kernel_rfl)))
   have NB168_166 := sqA (Y32 (hon 16 (by kernel_rfl)) (hon 18 (by kernel_rfl)))
   have NB166_168 := sqA (Y25 (hon 16 (by kernel_rfl)) (hon 18 (by kernel_rfl)))
   have NB169_166 := sqA (Y36 (hon 16 (by kernel_rfl)) (hon 19 (by kernel_rfl)))
   have NB166_169 := sqA (Y26 (hon 16 (by kernel_rfl)) (hon 19 (by kernel_rfl)))
   have NB168_167 := sqA (Y33 (hon 17 (by kernel_rfl)) (hon 18 (by kernel_rfl)))
   have NB167_168 := sqA (Y29 (hon 17 (by kernel_rfl)) (hon 18 (by kernel_rfl)))
   have NB169_167 := sqA (Y37 (hon 17 (by kernel_rfl)) (hon 19 (by kernel_rfl)))
   have NB167_169 := sqA (Y30 (hon 17 (by kernel_rfl)) (hon 19 (by kernel_rfl)))
   have NB169_168 := sqA (Y38 (hon 18 (by kernel_rfl)) (hon 19 (by kernel_rfl)))
   have NB168_169 := sqA (Y34 (hon 18 (by kernel_rfl)) (hon 19 (by kernel_rfl)))
   have GW166 := sqA (Y13 (hon 16 (by kernel_rfl)))
   have GE166 := sqA (Y9 (hon 16 (by kernel_rfl)))
   have NB149_166 := sqA (Y19 (hon 16 (by kernel_rfl)))
   have NB166_149 := sqA (Y23 (hon 16 (by kernel_rfl)))
   have GW167 := sqA (Y14 (hon 17 (by kernel_rfl)))
   have GE167 := sqA (Y10 (hon 17 (by kernel_rfl)))
   have NB149_167 := sqA (Y20 (hon 17 (by kernel_rfl)))
   have NB167_149 := sqA (Y27 (hon 17 (by kernel_rfl)))
   have GW168 := sqA (Y15 (hon 18 (by kernel_rfl)))
   have GE168 := sqA (Y11 (hon 18 (by kernel_rfl)))
   have NB149_168 := sqA (Y21 (hon 18 (by kernel_rfl)))
   have NB168_149 := sqA (Y31 (hon 18 (by kernel_rfl)))
   have BK169 := sqA (Y7 (hon 19 (by kernel_rfl)) hb_)
   have GW169 := sqA (Y16 (hon 19 (by kernel_rfl)))
   have GE169 := sqA (Y12 (hon 19 (by kernel_rfl)))
   have NB149_169 := sqA (Y22 (hon 19 (by kernel_rfl)))
   have NB169_149 := sqA (Y35 (hon 19 (by kernel_rfl)))
   have BK166 := sqA (Y2 (hon 20 (by kernel_rfl)))
   have BK167 := sqA (Y4 (hon 21 (by kernel_rfl)))
   have BK168 := sqA (Y6 (hon 22 (by kernel_rfl)))
   have hs32 : w'.cell? ⟨gb169, 0, none⟩ = some (.string (⟨#[]⟩ : ByteArray)) := (blk_cell BK169.out 0).trans rfl
   have hfs32 := blk_frozen BK169.out 0
   have hns32_0 := NB149_169.out
   have hns32_1 := NB166_169.out
   have hns32_2 := NB167_169.out
   have hns32_3 := NB168_169.out
   have hms32_0 := NB169_149.out
   have hms32_1 := NB169_166.out
   have hms32_2 := NB169_167.out
   have hms32_3 := NB169_168.out
   have hs33 : w'.cell? ⟨gb169, 1, none⟩ = some (.bool false) := (blk_cell BK169.out 1).trans rfl
   have hfs33 := blk_frozen BK169.out 1
   have hns33_0 := NB149_169.out
   have hns33_1 := NB166_169.out
   have hns33_2 := NB167_169.out
   have hns33_3 := NB168_169.out
   have hms33_0 := NB169_149.out
   have hms33_1 := NB169_166.out
   have hms33_2 := NB169_167.out
   have hms33_3 := NB169_168.out
   refine skip_ (w1 := ?_) (by rfl) rfl ?_ ?_
   rotate_left
   ·
    go_simp
    rfl
   refine hK.out _ _ ⟨gb166, gb167, gb168, gb169, m16_, m17_, m18_, m19_, (by rw [ha.out]; exact putSel_none (v := undef) rfl), (sqr (Kd.R_mono (Kd.R_far (p := ⟨gb169, 1, none⟩) (Kd.R_far (p := ⟨gb169, 0, none⟩) (Kd.R_types HO153.out BK169.out (by decide)) (fun _ hk => hk.2) (.string t164)) (fun _ hk => hk.2) (.bool t165)) (fun _ hk => trivial))), (by (with_reducible repeat (first | refine blk_drewN ?_ _ | refine blk_drew ?_ | refine blk_alloc ?_ _)); refine blk_far ?_ NB149_169.out _; (with_reducible repeat (first | refine blk_drewN ?_ _ | refine blk_drew ?_ | refine blk_alloc ?_ _)); refine blk_far ?_ NB149_169.out _; (with_reducible repeat (first | refine blk_drewN ?_ _ | refine blk_drew ?_ | refine blk_alloc ?_ _)); exact BK149.out), (sqs HB.out), fun _ _ => NB167_166.out, fun _ _ => NB166_167.out, fun _ _ => NB168_166.out, fun _ _ => NB166_168.out, fun _ _ => NB169_166.out, fun _ _ => NB166_169.out, fun _ _ => NB168_167.out, fun _ _ => NB167_168.out, fun _ _ => NB169_167.out, fun _ _ => NB167_169.out, fun _ _ => NB169_168.out, fun _ _ => NB168_169.out, fun _ h1_ => absurd ((hon 20 (by kernel_rfl)).symm.trans h1_) (by decide), fun _ => GW166.out, fun _ => GE166.out, fun _ => NB149_166.out, fun _ => NB166_149.out, fun _ h1_ => absurd ((hon 21 (by kernel_rfl)).symm.trans h1_) (by decide), fun _ => GW167.out, fun _ => GE167.out, fun _ => NB149_167.out, fun _ => NB167_149.out, fun _ h1_ => absurd ((hon 22 (by kernel_rfl)).symm.trans h1_) (by decide), fun _ => GW168.out, fun _ => GE168.out, fun _ => NB149_168.out, fun _ => NB168_149.out, fun _ h1_ => absurd ((up_self b 23).symm.trans h1_) (by decide), fun _ => GW169.out, fun _ => GE169.out, fun _ => NB149_169.out, fun _ => NB169_149.out, fun _ => (by (with_reducible repeat (first | refine blk_drewN ?_ _ | refine blk_drew ?_ | refine blk_alloc ?_ _)); refine blk_far ?_ NB166_169.out _; (with_reducible repeat (first | refine blk_drewN ?_ _ | refine blk_drew ?_ | refine blk_alloc ?_ _)); refine blk_far ?_ NB166_169.out _; (with_reducible repeat (first | refine blk_drewN ?_ _ | refine blk_drew ?_ | refine blk_alloc ?_ _)); exact BK166.out), fun _ => (by (with_reducible repeat (first | refine blk_drewN ?_ _ | refine blk_drew ?_ | refine blk_alloc ?_ _)); refine blk_far ?_ NB167_169.out _; (with_reducible repeat (first | refine blk_drewN ?_ _ | refine blk_drew ?_ | refine blk_alloc ?_ _)); refine blk_far ?_ NB167_169.out _; (with_reducible repeat (first | refine blk_drewN ?_ _ | refine blk_drew ?_ | refine blk_alloc ?_ _)); exact BK167.out), fun _ => (by (with_reducible repeat (first | refine blk_drewN ?_ _ | refine blk_drew ?_ | refine blk_alloc ?_ _)); refine blk_far ?_ NB168_169.out _; (with_reducible repeat (first | refine blk_drewN ?_ _ | refine blk_drew ?_ | refine blk_alloc ?_ _)); refine blk_far ?_ NB168_169.out _; (with_reducible repeat (first | refine blk_drewN ?_ _ | refine blk_drew ?_ | refine blk_alloc ?_ _)); exact BK168.out), fun _ => (by (with_reducible repeat (first | refine blk_drewN ?_ _ | refine blk_drew ?_ | refine blk_alloc ?_ _)); refine blk_put (cs := #[.string t164, .bool false]) ?_ 1 _ rfl; (with_reducible repeat (first | refine blk_drewN ?_ _ | refine blk_drew ?_ | refine blk_alloc ?_ _)); refine blk_put (cs := #[.string (⟨#[]⟩ : ByteArray), .bool false]) ?_ 0 _ rfl; (with_reducible repeat (first | refine blk_drewN ?_ _ | refine blk_drew ?_ | refine blk_alloc ?_ _)); exact BK169.out), Y39, Y40, Y41, Y42⟩
  exact steps_nil
 rintro b a w33 hall ⟨gb166, gb167, gb168, gb169, m16_, m17_, m18_, m19_, ha, Y18, Y0, Y17, Y28, Y24, Y32, Y25, Y36, Y26, Y33, Y29, Y37, Y30, Y38, Y34, Y1, Y13, Y9, Y19, Y23, Y3, Y14, Y10, Y20, Y27, Y5, Y15, Y11, Y21, Y31, Y7, Y16, Y12, Y22, Y35, Y2, Y4, Y6, Y8, Y39, Y40, Y41, Y42⟩
 clear BK149 HB HO153
 have hb1_ := hall 1 (by kernel_rfl)
 have hb2_ := hall 2 (by kernel_rfl)
 have hb3_ := hall 3 (by kernel_rfl)
 have hb5_ := hall 5 (by kernel_rfl)
 have hb6_ := hall 6 (by kernel_rfl)
 have hb7_ := hall 7 (by kernel_rfl)
 have hb9_ := hall 9 (by kernel_rfl)
 have hb10_ := hall 10 (by kernel_rfl)
 have hb11_ := hall 11 (by kernel_rfl)
 have hb13_ := hall 13 (by kernel_rfl)
 have hb14_ := hall 14 (by kernel_rfl)
 have hb15_ := hall 15 (by kernel_rfl)
 have hb16_ := hall 16 (by kernel_rfl)
 have hb17_ := hall 17 (by kernel_rfl)
 have hb18_ := hall 18 (by kernel_rfl)
 have hb19_ := hall 19 (by kernel_rfl)
 have hb20_ := hall 20 (by kernel_rfl)
 have hb21_ := hall 21 (by kernel_rfl)
 have hb22_ := hall 22 (by kernel_rfl)
 have hb23_ := hall 23 (by kernel_rfl)
 subst ha
 obtain rfl := Y39 hb16_
 obtain rfl := Y40 hb17_
 obtain rfl := Y41 hb18_
 obtain rfl := Y42 hb19_
 simp only [putSel, hb1_, hb2_, hb3_, hb5_, hb6_, hb7_, hb9_, hb10_, hb11_, hb13_, hb14_, hb15_, hb16_, hb17_, hb18_, hb19_, hb20_, hb21_, hb22_, hb23_, if_true, Act.put, List.setIfInBounds_toArray, List.set_cons_zero, List.set_cons_succ]
 have HO153 := sqA Y18
 clear Y18
 have BK149 := sqA Y0
 clear Y0
 have HB := sqA Y17
 clear Y17
 have NB167_166 := sqA (Y28 hb16_ hb17_)
 clear Y28
 have NB166_167 := sqA (Y24 hb16_ hb17_)
 clear Y24
 have NB168_166 := sqA (Y32 hb16_ hb18_)
 clear Y32
 have NB166_168 := sqA (Y25 hb16_ hb18_)
 clear Y25
 have NB169_166 := sqA (Y36 hb16_ hb19_)
 clear Y36
 have NB166_169 := sqA (Y26 hb16_ hb19_)
 clear Y26
 have NB168_167 := sqA (Y33 hb17_ hb18_)
 clear Y33
 have NB167_168 := sqA (Y29 hb17_ hb18_)
 clear Y29
 have NB169_167 := sqA (Y37 hb17_ hb19_)
 clear Y37
 have NB167_169 := sqA (Y30 hb17_ hb19_)
 clear Y30
 have NB169_168 := sqA (Y38 hb18_ hb19_)
 clear Y38
 have NB168_169 := sqA (Y34 hb18_ hb19_)
 clear Y34
 clear Y1
 have GW166 := sqA (Y13 hb16_)
 clear Y13
 have GE166 := sqA (Y9 hb16_)
 clear Y9
 have NB149_166 := sqA (Y19 hb16_)
 clear Y19
 have NB166_149 := sqA (Y23 hb16_)
 clear Y23
 clear Y3
 have GW167 := sqA (Y14 hb17_)
 clear Y14
 have GE167 := sqA (Y10 hb17_)
 clear Y10
 have NB149_167 := sqA (Y20 hb17_)
 clear Y20
 have NB167_149 := sqA (Y27 hb17_)
 clear Y27
 clear Y5
 have GW168 := sqA (Y15 hb18_)
 clear Y15
 have GE168 := sqA (Y11 hb18_)
 clear Y11
 have NB149_168 := sqA (Y21 hb18_)
 clear Y21
 have NB168_149 := sqA (Y31 hb18_)
 clear Y31
 clear Y7
 have GW169 := sqA (Y16 hb19_)
 clear Y16
 have GE169 := sqA (Y12 hb19_)
 clear Y12
 have NB149_169 := sqA (Y22 hb19_)
 clear Y22
 have NB169_149 := sqA (Y35 hb19_)
 clear Y35
 have BK166 := sqA (Y2 hb20_)
 clear Y2
 have BK167 := sqA (Y4 hb21_)
 clear Y4
 have BK168 := sqA (Y6 hb22_)
 clear Y6
 have BK169 := sqA (Y8 hb23_)
 clear Y8
 clear hall hb1_ hb2_ hb3_ hb5_ hb6_ hb7_ hb9_ hb10_ hb11_ hb13_ hb14_ hb15_ hb16_ hb17_ hb18_ hb19_ hb20_ hb21_ hb22_ hb23_
 have H := HM_.out
 clear HM_
 by_cases c12 : t156 = true
 case neg =>
  replace c12 := Bool.eq_false_iff.mpr c12
  subst c12
  have H1 : (if t159 = true then (some (0, 0, (⟨#[]⟩ : ByteArray), (⟨#[]⟩ : ByteArray), 3)) else ((wire_CheckCommand.f t155 t158 t161 t164).bind fun t171 => (if t171 = 0 then (some (t155, t158, t161, t164, 0)) else (some (0, 0, (⟨#[]⟩ : ByteArray), (⟨#[]⟩ : ByteArray), 3))))) = some (r1, r2, r3, r4, r5) := by rw [if_neg (show ¬ (false = true) by decide)] at H; exact H
  clear H
  have H := H1
  clear H1
  by_cases c57 : t159 = true
  case neg =>
   replace c57 := Bool.eq_false_iff.mpr c57
   subst c57
   have H1 : ((wire_CheckCommand.f t155 t158 t161 t164).bind fun t171 => (if t171 = 0 then (some (t155, t158, t161, t164, 0)) else (some (0, 0, (⟨#[]⟩ : ByteArray), (⟨#[]⟩ : ByteArray), 3)))) = some (r1, r2, r3, r4, r5) := by rw [if_neg (show ¬ (false = true) by decide)] at H; exact H
   clear H
   have H := H1
   clear H1
   replace H := Option.bind_eq_some_iff.mp H
   obtain ⟨t171, A1030, H⟩ := H
   replace H : (if t171 = 0 then (some (t155, t158, t161, t164, 0)) else (some (0, 0, (⟨#[]⟩ : ByteArray), (⟨#[]⟩ : ByteArray), 3))) = some (r1, r2, r3, r4, r5) := H
   have A103 := sqA A1030
   clear A1030
   by_cases c104 : t171 = 0
   case neg =>
    rw [if_neg c104] at H
    have c104b0 : (t171 == 0) = false := beq_eq_false_iff_ne.mpr c104
    have c104b1 : (t171 != 0) = true := bne_iff_ne.mpr c104
    simp only [Option.some.injEq, Prod.mk.injEq] at H
    obtain ⟨rfl, rfl, rfl, rfl, rfl⟩ := H
    have hnb173 := NB166_149.out
    have hnc173 := NB149_166.out
    have hnb174 := NB166_167.out
    have hnc174 := NB167_166.out
    have hnb175 := NB166_168.out
    have hnc175 := NB168_166.out
    have hnb176 := NB166_169.out
    have hnc176 := NB169_166.out
    have hcz177_0 : w33.cell? ⟨gb166, 0, none⟩ = some (.int .i64 t155) := (blk_cell BK166.out 0).trans rfl
    have hcz177_1 : w33.cell? ⟨gb166, 1, none⟩ = some (.bool false) := (blk_cell BK166.out 1).trans rfl
    have hfz177_0 := blk_frozen BK166.out 0
    have hfz177_1 := blk_frozen BK166.out 1
    have hnb178 := NB167_149.out
    have hnc178 := NB149_167.out
    have hnb179 := NB167_168.out
    have hnc179 := NB168_167.out
    have hnb180 := NB167_169.out
    have hnc180 := NB169_167.out
    have hcz181_0 : w33.cell? ⟨gb167, 0, none⟩ = some (.int .i64 t158) := (blk_cell BK167.out 0).trans rfl
    have hcz181_1 : w33.cell? ⟨gb167, 1, none⟩ = some (.bool false) := (blk_cell BK167.out 1).trans rfl
    have hfz181_0 := blk_frozen BK167.out 0
    have hfz181_1 := blk_frozen BK167.out 1
    have hnb182 := NB168_149.out
    have hnc182 := NB149_168.out
    have hnb183 := NB168_169.out
    have hnc183 := NB169_168.out
    have hcz184_0 : w33.cell? ⟨gb168, 0, none⟩ = some (.string t161) := (blk_cell BK168.out 0).trans rfl
    have hcz184_1 : w33.cell? ⟨gb168, 1, none⟩ = some (.bool t162) := (blk_cell BK168.out 1).trans rfl
    have hfz184_0 := blk_frozen BK168.out 0
    have hfz184_1 := blk_frozen BK168.out 1
    have hnb185 := NB169_149.out
    have hnc185 := NB149_169.out
    have hcz186_0 : w33.cell? ⟨gb169, 0, none⟩ = some (.string t164) := (blk_cell BK169.out 0).trans rfl
    have hcz186_1 : w33.cell? ⟨gb169, 1, none⟩ = some (.bool t165) := (blk_cell BK169.out 1).trans rfl
    have hfz186_0 := blk_frozen BK169.out 0
    have hfz186_1 := blk_frozen BK169.out 1
    try go_wp2_with (first | ((with_reducible refine gate_dst (N := 10) rfl ?_); refine sqo (N := 10) (cs := #[.int .i64 0, .int .i64 0, .string (⟨#[]⟩ : ByteArray), .string (⟨#[]⟩ : ByteArray)]) (t := 51) ?_; intro gb170 hg w187 hbox hb; have n0_ := sqA (Kd.R_below (sqr HO153.out) hb); have n1_ := sqA (blk_below (g := gb149) (o := .cells #[.int .i64 0, .int .i64 0, .string (⟨#[]⟩ : ByteArray), .string (⟨#[]⟩ : ByteArray)] 51 (0, 0)) (sqk BK149.out) hb); have n2_ := sqA (blk_below (g := gb166) (o := .cells #[.int .i64 t155, .bool false] 108 (0, 0)) (sqk BK166.out) hb); have n3_ := sqA (blk_below (g := gb167) (o := .cells #[.int .i64 t158, .bool false] 108 (0, 0)) (sqk BK167.out) hb); have n4_ := sqA (blk_below (g := gb168) (o := .cells #[.string t161, .bool t162] 111 (0, 0)) (sqk BK168.out) hb); have n5_ := sqA (blk_below (g := gb169) (o := .cells #[.string t164, .bool t165] 111 (0, 0)) (sqk BK169.out) hb); have n6_ := sqA (below_step (sqs HB.out) hb); have n7_ := sqA (hbox); have n8_ := sqA ((by rw [hg]; exact (below_size (sqs HB.out)) : w.heap.size ≤ gb170)); have n9_ := sqA ((by rw [hg]; exact (below_size (sqs HB.out)) : w.heap.size ≤ gb170)); have n10_ := sqA ((by rw [hg]; exact Nat.ne_of_lt (blk_lt (g := gb149) (o := .cells #[.int .i64 0, .int .i64 0, .string (⟨#[]⟩ : ByteArray), .string (⟨#[]⟩ : ByteArray)] 51 (0, 0)) (sqk BK149.out)) : gb149 ≠ gb170)); have n11_ := sqA ((by rw [hg]; exact Nat.ne_of_gt (blk_lt (g := gb149) (o := .cells #[.int .i64 0, .int .i64 0, .string (⟨#[]⟩ : ByteArray), .string (⟨#[]⟩ : ByteArray)] 51 (0, 0)) (sqk BK149.out)) : gb170 ≠ gb149)); have n12_ := sqA ((by rw [hg]; exact Nat.ne_of_lt (blk_lt (g := gb166) (o := .cells #[.int .i64 t155, .bool false] 108 (0, 0)) (sqk BK166.out)) : gb166 ≠ gb170)); have n13_ := sqA ((by rw [hg]; exact Nat.ne_of_gt (blk_lt (g := gb166) (o := .cells #[.int .i64 t155, .bool false] 108 (0, 0)) (sqk BK166.out)) : gb170 ≠ gb166)); have n14_ := sqA ((by rw [hg]; exact Nat.ne_of_lt (blk_lt (g := gb167) (o := .cells #[.int .i64 t158, .bool false] 108 (0, 0)) (sqk BK167.out)) : gb167 ≠ gb170)); have n15_ := sqA ((by rw [hg]; exact Nat.ne_of_gt (blk_lt (g := gb167) (o := .cells #[.int .i64 t158, .bool false] 108 (0, 0)) (sqk BK167.out)) : gb170 ≠ gb167)); have n16_ := sqA ((by rw [hg]; exact Nat.ne_of_lt (blk_lt (g := gb168) (o := .cells #[.string t161, .bool t162] 111 (0, 0)) (sqk BK168.out)) : gb168 ≠ gb170)); have n17_ := sqA ((by rw [hg]; exact Nat.ne_of_gt (blk_lt (g := gb168) (o := .cells #[.string t161, .bool t162] 111 (0, 0)) (sqk BK168.out)) : gb170 ≠ gb168)); have n18_ := sqA ((by rw [hg]; exact Nat.ne_of_lt (blk_lt (g := gb169) (o := .cells #[.string t164, .bool t165] 111 (0, 0)) (sqk BK169.out)) : gb169 ≠ gb170)); have n19_ := sqA ((by rw [hg]; exact Nat.ne_of_gt (blk_lt (g := gb169) (o := .cells #[.string t164, .bool t165] 111 (0, 0)) (sqk BK169.out)) : gb170 ≠ gb169)); clear HO153; clear BK149; clear BK166; clear BK167; clear BK168; clear BK169; clear HB; have HO153 := n0_; have BK149 := n1_; have BK166 := n2_; have BK167 := n3_; have BK168 := n4_; have BK169 := n5_; have HB := n6_; have BK170 := n7_; have GW170 := n8_; have GE170 := n9_; have NB149_170 := n10_; have NB170_149 := n11_; have NB166_170 := n12_; have NB170_166 := n13_; have NB167_170 := n14_; have NB170_167 := n15_; have NB168_170 := n16_; have NB170_168 := n17_; have NB169_170 := n18_; have NB170_169 := n19_; clear n0_ n1_ n2_ n3_ n4_ n5_ n6_ n7_ n8_ n9_ n10_ n11_ n12_ n13_ n14_ n15_ n16_ n17_ n18_ n19_; clear hb hbox hg; have hnb188 := NB170_149.out; have hnc188 := NB149_170.out; have hnb189 := NB170_166.out; have hnc189 := NB166_170.out; have hnb190 := NB170_167.out; have hnc190 := NB167_170.out; have hnb191 := NB170_168.out; have hnc191 := NB168_170.out; have hnb192 := NB170_169.out; have hnc192 := NB169_170.out; have hcz193_0 : w187.cell? ⟨gb170, 0, none⟩ = some (.int .i64 0) := (blk_cell BK170.out 0).trans rfl; have hcz193_1 : w187.cell? ⟨gb170, 1, none⟩ = some (.int .i64 0) := (blk_cell BK170.out 1).trans rfl; have hcz193_2 : w187.cell? ⟨gb170, 2, none⟩ = some (.string (⟨#[]⟩ : ByteArray)) := (blk_cell BK170.out 2).trans rfl; have hcz193_3 : w187.cell? ⟨gb170, 3, none⟩ = some (.string (⟨#[]⟩ : ByteArray)) := (blk_cell BK170.out 3).trans rfl; have hfz193_0 := blk_frozen BK170.out 0; have hfz193_1 := blk_frozen BK170.out 1; have hfz193_2 := blk_frozen BK170.out 2; have hfz193_3 := blk_frozen BK170.out 3; have hcz194_0 : w187.cell? ⟨gb166, 0, none⟩ = some (.int .i64 t155) := (blk_cell BK166.out 0).trans rfl; have hcz194_1 : w187.cell? ⟨gb166, 1, none⟩ = some (.bool false) := (blk_cell BK166.out 1).trans rfl; have hfz194_0 := blk_frozen BK166.out 0; have hfz194_1 := blk_frozen BK166.out 1; have hcz195_0 : w187.cell? ⟨gb167, 0, none⟩ = some (.int .i64 t158) := (blk_cell BK167.out 0).trans rfl; have hcz195_1 : w187.cell? ⟨gb167, 1, none⟩ = some (.bool false) := (blk_cell BK167.out 1).trans rfl; have hfz195_0 := blk_frozen BK167.out 0; have hfz195_1 := blk_frozen BK167.out 1) | (go_at_call 42; (with_reducible refine (wire_CheckCommand.calls t155 t158 t161 t164 t171 _ A103.out).mono ?_); rintro e w196 ⟨rfl, hb⟩; have n0_ := sqA (Kd.R_below (sqr (Kd.R_mono (Kd.R_far (p := ⟨gb170, 3, none⟩) (Kd.R_far (p := ⟨gb170, 2, none⟩) (Kd.R_far (p := ⟨gb170, 1, none⟩) (Kd.R_far (p := ⟨gb170, 0, none⟩) (Kd.R_types HO153.out BK170.out (by decide)) (fun _ hk => hk.2) (.int .i64 t155)) (fun _ hk => hk.2) (.int .i64 t158)) (fun _ hk => hk.2) (.string t161)) (fun _ hk => hk.2) (.string t164)) (fun _ h_ => h_.1))) hb); have n1_ := sqA (blk_below (g := gb149) (o := .cells #[.int .i64 0, .int .i64 0, .string (⟨#[]⟩ : ByteArray), .string (⟨#[]⟩ : ByteArray)] 51 (0, 0)) (by (with_reducible repeat (first | refine blk_drewN ?_ _ | refine blk_drew ?_ | refine blk_alloc ?_ _)); refine blk_far ?_ NB149_170.out _; (with_reducible repeat (first | refine blk_drewN ?_ _ | refine blk_drew ?_ | refine blk_alloc ?_ _)); refine blk_far ?_ NB149_170.out _; (with_reducible repeat (first | refine blk_drewN ?_ _ | refine blk_drew ?_ | refine blk_alloc ?_ _)); refine blk_far ?_ NB149_170.out _; (with_reducible repeat (first | refine blk_drewN ?_ _ | refine blk_drew ?_ | refine blk_alloc ?_ _)); refine blk_far ?_ NB149_170.out _; (with_reducible repeat (first | refine blk_drewN ?_ _ | refine blk_drew ?_ | refine blk_alloc ?_ _)); exact BK149.out) hb); have n2_ := sqA (blk_below (g := gb166) (o := .cells #[.int .i64 t155, .bool false] 108 (0, 0)) (by (with_reducible repeat (first | refine blk_drewN ?_ _ | refine blk_drew ?_ | refine blk_alloc ?_ _)); refine blk_far ?_ NB166_170.out _; (with_reducible repeat (first | refine blk_drewN ?_ _ | refine blk_drew ?_ | refine blk_alloc ?_ _)); refine blk_far ?_ NB166_170.out _; (with_reducible repeat (first | refine blk_drewN ?_ _ | refine blk_drew ?_ | refine blk_alloc ?_ _)); refine blk_far ?_ NB166_170.out _; (with_reducible repeat (first | refine blk_drewN ?_ _ | refine blk_drew ?_ | refine blk_alloc ?_ _)); refine blk_far ?_ NB166_170.out _; (with_reducible repeat (first | refine blk_drewN ?_ _ | refine blk_drew ?_ | refine blk_alloc ?_ _)); exact BK166.out) hb); have n3_ := sqA (blk_below (g := gb167) (o := .cells #[.int .i64 t158, .bool false] 108 (0, 0)) (by (with_reducible repeat (first | refine blk_drewN ?_ _ | refine blk_drew ?_ | refine blk_alloc ?_ _)); refine blk_far ?_ NB167_170.out _; (with_reducible repeat (first | refine blk_drewN ?_ _ | refine blk_drew ?_ | refine blk_alloc ?_ _)); refine blk_far ?_ NB167_170.out _; (with_reducible repeat (first | refine blk_drewN ?_ _ | refine blk_drew ?_ | refine blk_alloc ?_ _)); refine blk_far ?_ NB167_170.out _; (with_reducible repeat (first | refine blk_drewN ?_ _ | refine blk_drew ?_ | refine blk_alloc ?_ _)); refine blk_far ?_ NB167_170.out _; (with_reducible repeat (first | refine blk_drewN ?_ _ | refine blk_drew ?_ | refine blk_alloc ?_ _)); exact BK167.out) hb); have n4_ := sqA (blk_below (g := gb168) (o := .cells #[.string t161, .bool t162] 111 (0, 0)) (by (with_reducible repeat (first | refine blk_drewN ?_ _ | refine blk_drew ?_ | refine blk_alloc ?_ _)); refine blk_far ?_ NB168_170.out _; (with_reducible repeat (first | refine blk_drewN ?_ _ | refine blk_drew ?_ | refine blk_alloc ?_ _)); refine blk_far ?_ NB168_170.out _; (with_reducible repeat (first | refine blk_drewN ?_ _ | refine blk_drew ?_ | refine blk_alloc ?_ _)); refine blk_far ?_ NB168_170.out _; (with_reducible repeat (first | refine blk_drewN ?_ _ | refine blk_drew ?_ | refine blk_alloc ?_ _)); refine blk_far ?_ NB168_170.out _; (with_reducible repeat (first | refine blk_drewN ?_ _ | refine blk_drew ?_ | refine blk_alloc ?_ _)); exact BK168.out) hb); have n5_ := sqA (blk_below (g := gb169) (o := .cells #[.string t164, .bool t165] 111 (0, 0)) (by (with_reducible repeat (first | refine blk_drewN ?_ _ | refine blk_drew ?_ | refine blk_alloc ?_ _)); refine blk_far ?_ NB169_170.out _; (with_reducible repeat (first | refine blk_drewN ?_ _ | refine blk_drew ?_ | refine blk_alloc ?_ _)); refine blk_far ?_ NB169_170.out _; (with_reducible repeat (first | refine blk_drewN ?_ _ | refine blk_drew ?_ | refine blk_alloc ?_ _)); refine blk_far ?_ NB169_170.out _; (with_reducible repeat (first | refine blk_drewN ?_ _ | refine blk_drew ?_ | refine blk_alloc ?_ _)); refine blk_far ?_ NB169_170.out _; (with_reducible repeat (first | refine blk_drewN ?_ _ | refine blk_drew ?_ | refine blk_alloc ?_ _)); exact BK169.out) hb); have n6_ := sqA (blk_below (g := gb170) (o := .cells #[.int .i64 t155, .int .i64 t158, .string t161, .string t164] 51 (0, 0)) (by (with_reducible repeat (first | refine blk_drewN ?_ _ | refine blk_drew ?_ | refine blk_alloc ?_ _)); refine blk_put (cs := #[.int .i64 t155, .int .i64 t158, .string t161, .string (⟨#[]⟩ : ByteArray)]) ?_ 3 _ rfl; (with_reducible repeat (first | refine blk_drewN ?_ _ | refine blk_drew ?_ | refine blk_alloc ?_ _)); refine blk_put (cs := #[.int .i64 t155, .int .i64 t158, .string (⟨#[]⟩ : ByteArray), .string (⟨#[]⟩ : ByteArray)]) ?_ 2 _ rfl; (with_reducible repeat (first | refine blk_drewN ?_ _ | refine blk_drew ?_ | refine blk_alloc ?_ _)); refine blk_put (cs := #[.int .i64 t155, .int .i64 0, .string (⟨#[]⟩ : ByteArray), .string (⟨#[]⟩ : ByteArray)]) ?_ 1 _ rfl; (with_reducible repeat (first | refine blk_drewN ?_ _ | refine blk_drew ?_ | refine blk_alloc ?_ _)); refine blk_put (cs := #[.int .i64 0, .int .i64 0, .string (⟨#[]⟩ : ByteArray), .string (⟨#[]⟩ : ByteArray)]) ?_ 0 _ rfl; (with_reducible repeat (first | refine blk_drewN ?_ _ | refine blk_drew ?_ | refine blk_alloc ?_ _)); exact BK170.out) hb); have n7_ := sqA (below_step (sqs HB.out) hb); clear HO153; clear BK149; clear BK166; clear BK167; clear BK168; clear BK169; clear BK170; clear HB; have HO153 := n0_; have BK149 := n1_; have BK166 := n2_; have BK167 := n3_; have BK168 := n4_; have BK169 := n5_; have BK170 := n6_; have HB := n7_; clear n0_ n1_ n2_ n3_ n4_ n5_ n6_ n7_; (try clear hb); (try clear hb2); (try clear hk); (try clear hi); have hcz197_0 : w196.cell? ⟨gb149, 0, none⟩ = some (.int .i64 0) := (blk_cell BK149.out 0).trans rfl; have hcz197_1 : w196.cell? ⟨gb149, 1, none⟩ = some (.int .i64 0) := (blk_cell BK149.out 1).trans rfl; have hcz197_2 : w196.cell? ⟨gb149, 2, none⟩ = some (.string (⟨#[]⟩ : ByteArray)) := (blk_cell BK149.out 2).trans rfl; have hcz197_3 : w196.cell? ⟨gb149, 3, none⟩ = some (.string (⟨#[]⟩ : ByteArray)) := (blk_cell BK149.out 3).trans rfl; have hfz197_0 := blk_frozen BK149.out 0; have hfz197_1 := blk_frozen BK149.out 1; have hfz197_2 := blk_frozen BK149.out 2; have hfz197_3 := blk_frozen BK149.out 3))
    refine bodyPost_ret (results_ct rfl _ _ gb149 51 #[.int .i64 0, .int .i64 0, .string (⟨#[]⟩ : ByteArray), .string (⟨#[]⟩ : ByteArray)] (0, 0) _ rfl (by (with_reducible repeat (first | refine blk_drewN ?_ _ | refine blk_drew ?_ | refine blk_alloc ?_ _)); refine blk_put (cs := #[.int .i64 0, .int .i64 0, .string (⟨#[]⟩ : ByteArray), .string (⟨#[]⟩ : ByteArray)]) ?_ 3 _ rfl; (with_reducible repeat (first | refine blk_drewN ?_ _ | refine blk_drew ?_ | refine blk_alloc ?_ _)); refine blk_put (cs := #[.int .i64 0, .int .i64 0, .string (⟨#[]⟩ : ByteArray), .string (⟨#[]⟩ : ByteArray)]) ?_ 2 _ rfl; (with_reducible repeat (first | refine blk_drewN ?_ _ | refine blk_drew ?_ | refine blk_alloc ?_ _)); refine blk_put (cs := #[.int .i64 0, .int .i64 0, .string (⟨#[]⟩ : ByteArray), .string (⟨#[]⟩ : ByteArray)]) ?_ 1 _ rfl; (with_reducible repeat (first | refine blk_drewN ?_ _ | refine blk_drew ?_ | refine blk_alloc ?_ _)); refine blk_put (cs := #[.int .i64 0, .int .i64 0, .string (⟨#[]⟩ : ByteArray), .string (⟨#[]⟩ : ByteArray)]) ?_ 0 _ rfl; (with_reducible repeat (first | refine blk_drewN ?_ _ | refine blk_drew ?_ | refine blk_alloc ?_ _)); exact BK149.out) Tryd.underlying51 rfl (by kernel_rfl)) rfl ?_
    exact ⟨sqe, sqs HB.out⟩
   rw [if_pos c104] at H
   have c104b0 : (t171 == 0) = true := beq_iff_eq.mpr c104
   have c104b1 : (t171 != 0) = false := bne_eq_false_iff_eq.mpr c104
   clear c104
   simp only [Option.some.injEq, Prod.mk.injEq] at H
   obtain ⟨rfl, rfl, rfl, rfl, rfl⟩ := H
   have hnb126 := NB166_149.out
   have hnc126 := NB149_166.out
   have hnb127 := NB166_167.out
   have hnc127 := NB167_166.out
   have hnb128 := NB166_168.out
   have hnc128 := NB168_166.out
   have hnb129 := NB166_169.out
   have hnc129 := NB169_166.out
   have hcz130_0 : w33.cell? ⟨gb166, 0, none⟩ = some (.int .i64 t155) := (blk_cell BK166.out 0).trans rfl
   have hcz130_1 : w33.cell? ⟨gb166, 1, none⟩ = some (.bool false) := (blk_cell BK166.out 1).trans rfl
   have hfz130_0 := blk_frozen BK166.out 0
   have hfz130_1 := blk_frozen BK166.out 1
   have hnb131 := NB167_149.out
   have hnc131 := NB149_167.out
   have hnb132 := NB167_168.out
   have hnc132 := NB168_167.out
   have hnb133 := NB167_169.out
   have hnc133 := NB169_167.out
   have hcz134_0 : w33.cell? ⟨gb167, 0, none⟩ = some (.int .i64 t158) := (blk_cell BK167.out 0).trans rfl
   have hcz134_1 : w33.cell? ⟨gb167, 1, none⟩ = some (.bool false) := (blk_cell BK167.out 1).trans rfl
   have hfz134_0 := blk_frozen BK167.out 0
   have hfz134_1 := blk_frozen BK167.out 1
   have hnb135 := NB168_149.out
   have hnc135 := NB149_168.out
   have hnb136 := NB168_169.out
   have hnc136 := NB169_168.out
   have hcz137_0 : w33.cell? ⟨gb168, 0, none⟩ = some (.string t161) := (blk_cell BK168.out 0).trans rfl
   have hcz137_1 : w33.cell? ⟨gb168, 1, none⟩ = some (.bool t162) := (blk_cell BK168.out 1).trans rfl
   have hfz137_0 := blk_frozen BK168.out 0
   have hfz137_1 := blk_frozen BK168.out 1
   have hnb138 := NB169_149.out
   have hnc138 := NB149_169.out
   have hcz139_0 : w33.cell? ⟨gb169, 0, none⟩ = some (.string t164) := (blk_cell BK169.out 0).trans rfl
   have hcz139_1 : w33.cell? ⟨gb169, 1, none⟩ = some (.bool t165) := (blk_cell BK169.out 1).trans rfl
   have hfz139_0 := blk_frozen BK169.out 0
   have hfz139_1 := blk_frozen BK169.out 1
   try go_wp2_with (first | ((with_reducible refine gate_dst (N := 10) rfl ?_); refine sqo (N := 10) (cs := #[.int .i64 0, .int .i64 0, .string (⟨#[]⟩ : ByteArray), .string (⟨#[]⟩ : ByteArray)]) (t := 51) ?_; intro gb170 hg w140 hbox hb; have n0_ := sqA (Kd.R_below (sqr HO153.out) hb); have n1_ := sqA (blk_below (g := gb149) (o := .cells #[.int .i64 0, .int .i64 0, .string (⟨#[]⟩ : ByteArray), .string (⟨#[]⟩ : ByteArray)] 51 (0, 0)) (sqk BK149.out) hb); have n2_ := sqA (blk_below (g := gb166) (o := .cells #[.int .i64 t155, .bool false] 108 (0, 0)) (sqk BK166.out) hb); have n3_ := sqA (blk_below (g := gb167) (o := .cells #[.int .i64 t158, .bool false] 108 (0, 0)) (sqk BK167.out) hb); have n4_ := sqA (blk_below (g := gb168) (o := .cells #[.string t161, .bool t162] 111 (0, 0)) (sqk BK168.out) hb); have n5_ := sqA (blk_below (g := gb169) (o := .cells #[.string t164, .bool t165] 111 (0, 0)) (sqk BK169.out) hb); have n6_ := sqA (below_step (sqs HB.out) hb); have n7_ := sqA (hbox); have n8_ := sqA ((by rw [hg]; exact (below_size (sqs HB.out)) : w.heap.size ≤ gb170)); have n9_ := sqA ((by rw [hg]; exact (below_size (sqs HB.out)) : w.heap.size ≤ gb170)); have n10_ := sqA ((by rw [hg]; exact Nat.ne_of_lt (blk_lt (g := gb149) (o := .cells #[.int .i64 0, .int .i64 0, .string (⟨#[]⟩ : ByteArray), .string (⟨#[]⟩ : ByteArray)] 51 (0, 0)) (sqk BK149.out)) : gb149 ≠ gb170)); have n11_ := sqA ((by rw [hg]; exact Nat.ne_of_gt (blk_lt (g := gb149) (o := .cells #[.int .i64 0, .int .i64 0, .string (⟨#[]⟩ : ByteArray), .string (⟨#[]⟩ : ByteArray)] 51 (0, 0)) (sqk BK149.out)) : gb170 ≠ gb149)); have n12_ := sqA ((by rw [hg]; exact Nat.ne_of_lt (blk_lt (g := gb166) (o := .cells #[.int .i64 t155, .bool false] 108 (0, 0)) (sqk BK166.out)) : gb166 ≠ gb170)); have n13_ := sqA ((by rw [hg]; exact Nat.ne_of_gt (blk_lt (g := gb166) (o := .cells #[.int .i64 t155, .bool false] 108 (0, 0)) (sqk BK166.out)) : gb170 ≠ gb166)); have n14_ := sqA ((by rw [hg]; exact Nat.ne_of_lt (blk_lt (g := gb167) (o := .cells #[.int .i64 t158, .bool false] 108 (0, 0)) (sqk BK167.out)) : gb167 ≠ gb170)); have n15_ := sqA ((by rw [hg]; exact Nat.ne_of_gt (blk_lt (g := gb167) (o := .cells #[.int .i64 t158, .bool false] 108 (0, 0)) (sqk BK167.out)) : gb170 ≠ gb167)); have n16_ := sqA ((by rw [hg]; exact Nat.ne_of_lt (blk_lt (g := gb168) (o := .cells #[.string t161, .bool t162] 111 (0, 0)) (sqk BK168.out)) : gb168 ≠ gb170)); have n17_ := sqA ((by rw [hg]; exact Nat.ne_of_gt (blk_lt (g := gb168) (o := .cells #[.string t161, .bool t162] 111 (0, 0)) (sqk BK168.out)) : gb170 ≠ gb168)); have n18_ := sqA ((by rw [hg]; exact Nat.ne_of_lt (blk_lt (g := gb169) (o := .cells #[.string t164, .bool t165] 111 (0, 0)) (sqk BK169.out)) : gb169 ≠ gb170)); have n19_ := sqA ((by rw [hg]; exact Nat.ne_of_gt (blk_lt (g := gb169) (o := .cells #[.string t164, .bool t165] 111 (0, 0)) (sqk BK169.out)) : gb170 ≠ gb169)); clear HO153; clear BK149; clear BK166; clear BK167; clear BK168; clear BK169; clear HB; have HO153 := n0_; have BK149 := n1_; have BK166 := n2_; have BK167 := n3_; have BK168 := n4_; have BK169 := n5_; have HB := n6_; have BK170 := n7_; have GW170 := n8_; have GE170 := n9_; have NB149_170 := n10_; have NB170_149 := n11_; have NB166_170 := n12_; have NB170_166 := n13_; have NB167_170 := n14_; have NB170_167 := n15_; have NB168_170 := n16_; have NB170_168 := n17_; have NB169_170 := n18_; have NB170_169 := n19_; clear n0_ n1_ n2_ n3_ n4_ n5_ n6_ n7_ n8_ n9_ n10_ n11_ n12_ n13_ n14_ n15_ n16_ n17_ n18_ n19_; clear hb hbox hg; have hnb141 := NB170_149.out; have hnc141 := NB149_170.out; have hnb142 := NB170_166.out; have hnc142 := NB166_170.out; have hnb143 := NB170_167.out; have hnc143 := NB167_170.out; have hnb144 := NB170_168.out; have hnc144 := NB168_170.out; have hnb145 := NB170_169.out; have hnc145 := NB169_170.out; have hcz146_0 : w140.cell? ⟨gb170, 0, none⟩ = some (.int .i64 0) := (blk_cell BK170.out 0).trans rfl; have hcz146_1 : w140.cell? ⟨gb170, 1, none⟩ = some (.int .i64 0) := (blk_cell BK170.out 1).trans rfl; have hcz146_2 : w140.cell? ⟨gb170, 2, none⟩ = some (.string (⟨#[]⟩ : ByteArray)) := (blk_cell BK170.out 2).trans rfl; have hcz146_3 : w140.cell? ⟨gb170, 3, none⟩ = some (.string (⟨#[]⟩ : ByteArray)) := (blk_cell BK170.out 3).trans rfl; have hfz146_0 := blk_frozen BK170.out 0; have hfz146_1 := blk_frozen BK170.out 1; have hfz146_2 := blk_frozen BK170.out 2; have hfz146_3 := blk_frozen BK170.out 3; have hcz147_0 : w140.cell? ⟨gb166, 0, none⟩ = some (.int .i64 t155) := (blk_cell BK166.out 0).trans rfl; have hcz147_1 : w140.cell? ⟨gb166, 1, none⟩ = some (.bool false) := (blk_cell BK166.out 1).trans rfl; have hfz147_0 := blk_frozen BK166.out 0; have hfz147_1 := blk_frozen BK166.out 1; have hcz148_0 : w140.cell? ⟨gb167, 0, none⟩ = some (.int .i64 t158) := (blk_cell BK167.out 0).trans rfl; have hcz148_1 : w140.cell? ⟨gb167, 1, none⟩ = some (.bool false) := (blk_cell BK167.out 1).trans rfl; have hfz148_0 := blk_frozen BK167.out 0; have hfz148_1 := blk_frozen BK167.out 1) | (go_at_call 42; (with_reducible refine (wire_CheckCommand.calls t155 t158 t161 t164 t171 _ A103.out).mono ?_); rintro e w149 ⟨rfl, hb⟩; have n0_ := sqA (Kd.R_below (sqr (Kd.R_mono (Kd.R_far (p := ⟨gb170, 3, none⟩) (Kd.R_far (p := ⟨gb170, 2, none⟩) (Kd.R_far (p := ⟨gb170, 1, none⟩) (Kd.R_far (p := ⟨gb170, 0, none⟩) (Kd.R_types HO153.out BK170.out (by decide)) (fun _ hk => hk.2) (.int .i64 t155)) (fun _ hk => hk.2) (.int .i64 t158)) (fun _ hk => hk.2) (.string t161)) (fun _ hk => hk.2) (.string t164)) (fun _ h_ => h_.1))) hb); have n1_ := sqA (blk_below (g := gb149) (o := .cells #[.int .i64 0, .int .i64 0, .string (⟨#[]⟩ : ByteArray), .string (⟨#[]⟩ : ByteArray)] 51 (0, 0)) (by (with_reducible repeat (first | refine blk_drewN ?_ _ | refine blk_drew ?_ | refine blk_alloc ?_ _)); refine blk_far ?_ NB149_170.out _; (with_reducible repeat (first | refine blk_drewN ?_ _ | refine blk_drew ?_ | refine blk_alloc ?_ _)); refine blk_far ?_ NB149_170.out _; (with_reducible repeat (first | refine blk_drewN ?_ _ | refine blk_drew ?_ | refine blk_alloc ?_ _)); refine blk_far ?_ NB149_170.out _; (with_reducible repeat (first | refine blk_drewN ?_ _ | refine blk_drew ?_ | refine blk_alloc ?_ _)); refine blk_far ?_ NB149_170.out _; (with_reducible repeat (first | refine blk_drewN ?_ _ | refine blk_drew ?_ | refine blk_alloc ?_ _)); exact BK149.out) hb); have n2_ := sqA (blk_below (g := gb166) (o := .cells #[.int .i64 t155, .bool false] 108 (0, 0)) (by (with_reducible repeat (first | refine blk_drewN ?_ _ | refine blk_drew ?_ | refine blk_alloc ?_ _)); refine blk_far ?_ NB166_170.out _; (with_reducible repeat (first | refine blk_drewN ?_ _ | refine blk_drew ?_ | refine blk_alloc ?_ _)); refine blk_far ?_ NB166_170.out _; (with_reducible repeat (first | refine blk_drewN ?_ _ | refine blk_drew ?_ | refine blk_alloc ?_ _)); refine blk_far ?_ NB166_170.out _; (with_reducible repeat (first | refine blk_drewN ?_ _ | refine blk_drew ?_ | refine blk_alloc ?_ _)); refine blk_far ?_ NB166_170.out _; (with_reducible repeat (first | refine blk_drewN ?_ _ | refine blk_drew ?_ | refine blk_alloc ?_ _)); exact BK166.out) hb); have n3_ := sqA (blk_below (g := gb167) (o := .cells #[.int .i64 t158, .bool false] 108 (0, 0)) (by (with_reducible repeat (first | refine blk_drewN ?_ _ | refine blk_drew ?_ | refine blk_alloc ?_ _)); refine blk_far ?_ NB167_170.out _; (with_reducible repeat (first | refine blk_drewN ?_ _ | refine blk_drew ?_ | refine blk_alloc ?_ _)); refine blk_far ?_ NB167_170.out _; (with_reducible repeat (first | refine blk_drewN ?_ _ | refine blk_drew ?_ | refine blk_alloc ?_ _)); refine blk_far ?_ NB167_170.out _; (with_reducible repeat (first | refine blk_drewN ?_ _ | refine blk_drew ?_ | refine blk_alloc ?_ _)); refine blk_far ?_ NB167_170.out _; (with_reducible repeat (first | refine blk_drewN ?_ _ | refine blk_drew ?_ | refine blk_alloc ?_ _)); exact BK167.out) hb); have n4_ := sqA (blk_below (g := gb168) (o := .cells #[.string t161, .bool t162] 111 (0, 0)) (by (with_reducible repeat (first | refine blk_drewN ?_ _ | refine blk_drew ?_ | refine blk_alloc ?_ _)); refine blk_far ?_ NB168_170.out _; (with_reducible repeat (first | refine blk_drewN ?_ _ | refine blk_drew ?_ | refine blk_alloc ?_ _)); refine blk_far ?_ NB168_170.out _; (with_reducible repeat (first | refine blk_drewN ?_ _ | refine blk_drew ?_ | refine blk_alloc ?_ _)); refine blk_far ?_ NB168_170.out _; (with_reducible repeat (first | refine blk_drewN ?_ _ | refine blk_drew ?_ | refine blk_alloc ?_ _)); refine blk_far ?_ NB168_170.out _; (with_reducible repeat (first | refine blk_drewN ?_ _ | refine blk_drew ?_ | refine blk_alloc ?_ _)); exact BK168.out) hb); have n5_ := sqA (blk_below (g := gb169) (o := .cells #[.string t164, .bool t165] 111 (0, 0)) (by (with_reducible repeat (first | refine blk_drewN ?_ _ | refine blk_drew ?_ | refine blk_alloc ?_ _)); refine blk_far ?_ NB169_170.out _; (with_reducible repeat (first | refine blk_drewN ?_ _ | refine blk_drew ?_ | refine blk_alloc ?_ _)); refine blk_far ?_ NB169_170.out _; (with_reducible repeat (first | refine blk_drewN ?_ _ | refine blk_drew ?_ | refine blk_alloc ?_ _)); refine blk_far ?_ NB169_170.out _; (with_reducible repeat (first | refine blk_drewN ?_ _ | refine blk_drew ?_ | refine blk_alloc ?_ _)); refine blk_far ?_ NB169_170.out _; (with_reducible repeat (first | refine blk_drewN ?_ _ | refine blk_drew ?_ | refine blk_alloc ?_ _)); exact BK169.out) hb); have n6_ := sqA (blk_below (g := gb170) (o := .cells #[.int .i64 t155, .int .i64 t158, .string t161, .string t164] 51 (0, 0)) (by (with_reducible repeat (first | refine blk_drewN ?_ _ | refine blk_drew ?_ | refine blk_alloc ?_ _)); refine blk_put (cs := #[.int .i64 t155, .int .i64 t158, .string t161, .string (⟨#[]⟩ : ByteArray)]) ?_ 3 _ rfl; (with_reducible repeat (first | refine blk_drewN ?_ _ | refine blk_drew ?_ | refine blk_alloc ?_ _)); refine blk_put (cs := #[.int .i64 t155, .int .i64 t158, .string (⟨#[]⟩ : ByteArray), .string (⟨#[]⟩ : ByteArray)]) ?_ 2 _ rfl; (with_reducible repeat (first | refine blk_drewN ?_ _ | refine blk_drew ?_ | refine blk_alloc ?_ _)); refine blk_put (cs := #[.int .i64 t155, .int .i64 0, .string (⟨#[]⟩ : ByteArray), .string (⟨#[]⟩ : ByteArray)]) ?_ 1 _ rfl; (with_reducible repeat (first | refine blk_drewN ?_ _ | refine blk_drew ?_ | refine blk_alloc ?_ _)); refine blk_put (cs := #[.int .i64 0, .int .i64 0, .string (⟨#[]⟩ : ByteArray), .string (⟨#[]⟩ : ByteArray)]) ?_ 0 _ rfl; (with_reducible repeat (first | refine blk_drewN ?_ _ | refine blk_drew ?_ | refine blk_alloc ?_ _)); exact BK170.out) hb); have n7_ := sqA (below_step (sqs HB.out) hb); clear HO153; clear BK149; clear BK166; clear BK167; clear BK168; clear BK169; clear BK170; clear HB; have HO153 := n0_; have BK149 := n1_; have BK166 := n2_; have BK167 := n3_; have BK168 := n4_; have BK169 := n5_; have BK170 := n6_; have HB := n7_; clear n0_ n1_ n2_ n3_ n4_ n5_ n6_ n7_; (try clear hb); (try clear hb2); (try clear hk); (try clear hi); have hcz150_0 : w149.cell? ⟨gb170, 0, none⟩ = some (.int .i64 t155) := (blk_cell BK170.out 0).trans rfl; have hcz150_1 : w149.cell? ⟨gb170, 1, none⟩ = some (.int .i64 t158) := (blk_cell BK170.out 1).trans rfl; have hcz150_2 : w149.cell? ⟨gb170, 2, none⟩ = some (.string t161) := (blk_cell BK170.out 2).trans rfl; have hcz150_3 : w149.cell? ⟨gb170, 3, none⟩ = some (.string t164) := (blk_cell BK170.out 3).trans rfl; have hfz150_0 := blk_frozen BK170.out 0; have hfz150_1 := blk_frozen BK170.out 1; have hfz150_2 := blk_frozen BK170.out 2; have hfz150_3 := blk_frozen BK170.out 3; have hcz151_0 : w149.cell? ⟨gb149, 0, none⟩ = some (.int .i64 0) := (blk_cell BK149.out 0).trans rfl; have hcz151_1 : w149.cell? ⟨gb149, 1, none⟩ = some (.int .i64 0) := (blk_cell BK149.out 1).trans rfl; have hcz151_2 : w149.cell? ⟨gb149, 2, none⟩ = some (.string (⟨#[]⟩ : ByteArray)) := (blk_cell BK149.out 2).trans rfl; have hcz151_3 : w149.cell? ⟨gb149, 3, none⟩ = some (.string (⟨#[]⟩ : ByteArray)) := (blk_cell BK149.out 3).trans rfl; have hfz151_0 := blk_frozen BK149.out 0; have hfz151_1 := blk_frozen BK149.out 1; have hfz151_2 := blk_frozen BK149.out 2; have hfz151_3 := blk_frozen BK149.out 3))
   refine bodyPost_ret (results_ct rfl _ _ gb149 51 #[.int .i64 t155, .int .i64 t158, .string t161, .string t164] (0, 0) _ rfl (by (with_reducible repeat (first | refine blk_drewN ?_ _ | refine blk_drew ?_ | refine blk_alloc ?_ _)); refine blk_put (cs := #[.int .i64 t155, .int .i64 t158, .string t161, .string (⟨#[]⟩ : ByteArray)]) ?_ 3 _ rfl; (with_reducible repeat (first | refine blk_drewN ?_ _ | refine blk_drew ?_ | refine blk_alloc ?_ _)); refine blk_put (cs := #[.int .i64 t155, .int .i64 t158, .string (⟨#[]⟩ : ByteArray), .string (⟨#[]⟩ : ByteArray)]) ?_ 2 _ rfl; (with_reducible repeat (first | refine blk_drewN ?_ _ | refine blk_drew ?_ | refine blk_alloc ?_ _)); refine blk_put (cs := #[.int .i64 t155, .int .i64 0, .string (⟨#[]⟩ : ByteArray), .string (⟨#[]⟩ : ByteArray)]) ?_ 1 _ rfl; (with_reducible repeat (first | refine blk_drewN ?_ _ | refine blk_drew ?_ | refine blk_alloc ?_ _)); refine blk_put (cs := #[.int .i64 0, .int .i64 0, .string (⟨#[]⟩ : ByteArray), .string (⟨#[]⟩ : ByteArray)]) ?_ 0 _ rfl; (with_reducible repeat (first | refine blk_drewN ?_ _ | refine blk_drew ?_ | refine blk_alloc ?_ _)); exact BK149.out) Tryd.underlying51 rfl (by kernel_rfl)) rfl ?_
   exact ⟨sqe, sqs HB.out⟩
  subst c57
  have H1 : (some (0, 0, (⟨#[]⟩ : ByteArray), (⟨#[]⟩ : ByteArray), 3)) = some (r1, r2, r3, r4, r5) := by rw [if_pos rfl] at H; exact H
  clear H
  have H := H1
  clear H1
  simp only [Option.some.injEq, Prod.mk.injEq] at H
  obtain ⟨rfl, rfl, rfl, rfl, rfl⟩ := H
  have hnb79 := NB166_149.out
  have hnc79 := NB149_166.out
  have hnb80 := NB166_167.out
  have hnc80 := NB167_166.out
  have hnb81 := NB166_168.out
  have hnc81 := NB168_166.out
  have hnb82 := NB166_169.out
  have hnc82 := NB169_166.out
  have hcz83_0 : w33.cell? ⟨gb166, 0, none⟩ = some (.int .i64 t155) := (blk_cell BK166.out 0).trans rfl
  have hcz83_1 : w33.cell? ⟨gb166, 1, none⟩ = some (.bool false) := (blk_cell BK166.out 1).trans rfl
  have hfz83_0 := blk_frozen BK166.out 0
  have hfz83_1 := blk_frozen BK166.out 1
  have hnb84 := NB167_149.out
  have hnc84 := NB149_167.out
  have hnb85 := NB167_168.out
  have hnc85 := NB168_167.out
  have hnb86 := NB167_169.out
  have hnc86 := NB169_167.out
  have hcz87_0 : w33.cell? ⟨gb167, 0, none⟩ = some (.int .i64 t158) := (blk_cell BK167.out 0).trans rfl
  have hcz87_1 : w33.cell? ⟨gb167, 1, none⟩ = some (.bool true) := (blk_cell BK167.out 1).trans rfl
  have hfz87_0 := blk_frozen BK167.out 0
  have hfz87_1 := blk_frozen BK167.out 1
  have hnb88 := NB168_149.out
  have hnc88 := NB149_168.out
  have hnb89 := NB168_169.out
  have hnc89 := NB169_168.out
  have hcz90_0 : w33.cell? ⟨gb168, 0, none⟩ = some (.string t161) := (blk_cell BK168.out 0).trans rfl
  have hcz90_1 : w33.cell? ⟨gb168, 1, none⟩ = some (.bool t162) := (blk_cell BK168.out 1).trans rfl
  have hfz90_0 := blk_frozen BK168.out 0
  have hfz90_1 := blk_frozen BK168.out 1
  have hnb91 := NB169_149.out
  have hnc91 := NB149_169.out
  have hcz92_0 : w33.cell? ⟨gb169, 0, none⟩ = some (.string t164) := (blk_cell BK169.out 0).trans rfl
  have hcz92_1 : w33.cell? ⟨gb169, 1, none⟩ = some (.bool t165) := (blk_cell BK169.out 1).trans rfl
  have hfz92_0 := blk_frozen BK169.out 0
  have hfz92_1 := blk_frozen BK169.out 1
  try go_wp2_with (first | ((with_reducible refine gate_dst (N := 10) rfl ?_); refine sqo (N := 10) (cs := #[.int .i64 0, .int .i64 0, .string (⟨#[]⟩ : ByteArray), .string (⟨#[]⟩ : ByteArray)]) (t := 51) ?_; intro gb170 hg w93 hbox hb; have n0_ := sqA (Kd.R_below (sqr HO153.out) hb); have n1_ := sqA (blk_below (g := gb149) (o := .cells #[.int .i64 0, .int .i64 0, .string (⟨#[]⟩ : ByteArray), .string (⟨#[]⟩ : ByteArray)] 51 (0, 0)) (sqk BK149.out) hb); have n2_ := sqA (blk_below (g := gb166) (o := .cells #[.int .i64 t155, .bool false] 108 (0, 0)) (sqk BK166.out) hb); have n3_ := sqA (blk_below (g := gb167) (o := .cells #[.int .i64 t158, .bool true] 108 (0, 0)) (sqk BK167.out) hb); have n4_ := sqA (blk_below (g := gb168) (o := .cells #[.string t161, .bool t162] 111 (0, 0)) (sqk BK168.out) hb); have n5_ := sqA (blk_below (g := gb169) (o := .cells #[.string t164, .bool t165] 111 (0, 0)) (sqk BK169.out) hb); have n6_ := sqA (below_step (sqs HB.out) hb); have n7_ := sqA (hbox); have n8_ := sqA ((by rw [hg]; exact (below_size (sqs HB.out)) : w.heap.size ≤ gb170)); have n9_ := sqA ((by rw [hg]; exact (below_size (sqs HB.out)) : w.heap.size ≤ gb170)); have n10_ := sqA ((by rw [hg]; exact Nat.ne_of_lt (blk_lt (g := gb149) (o := .cells #[.int .i64 0, .int .i64 0, .string (⟨#[]⟩ : ByteArray), .string (⟨#[]⟩ : ByteArray)] 51 (0, 0)) (sqk BK149.out)) : gb149 ≠ gb170)); have n11_ := sqA ((by rw [hg]; exact Nat.ne_of_gt (blk_lt (g := gb149) (o := .cells #[.int .i64 0, .int .i64 0, .string (⟨#[]⟩ : ByteArray), .string (⟨#[]⟩ : ByteArray)] 51 (0, 0)) (sqk BK149.out)) : gb170 ≠ gb149)); have n12_ := sqA ((by rw [hg]; exact Nat.ne_of_lt (blk_lt (g := gb166) (o := .cells #[.int .i64 t155, .bool false] 108 (0, 0)) (sqk BK166.out)) : gb166 ≠ gb170)); have n13_ := sqA ((by rw [hg]; exact Nat.ne_of_gt (blk_lt (g := gb166) (o := .cells #[.int .i64 t155, .bool false] 108 (0, 0)) (sqk BK166.out)) : gb170 ≠ gb166)); have n14_ := sqA ((by rw [hg]; exact Nat.ne_of_lt (blk_lt (g := gb167) (o := .cells #[.int .i64 t158, .bool true] 108 (0, 0)) (sqk BK167.out)) : gb167 ≠ gb170)); have n15_ := sqA ((by rw [hg]; exact Nat.ne_of_gt (blk_lt (g := gb167) (o := .cells #[.int .i64 t158, .bool true] 108 (0, 0)) (sqk BK167.out)) : gb170 ≠ gb167)); have n16_ := sqA ((by rw [hg]; exact Nat.ne_of_lt (blk_lt (g := gb168) (o := .cells #[.string t161, .bool t162] 111 (0, 0)) (sqk BK168.out)) : gb168 ≠ gb170)); have n17_ := sqA ((by rw [hg]; exact Nat.ne_of_gt (blk_lt (g := gb168) (o := .cells #[.string t161, .bool t162] 111 (0, 0)) (sqk BK168.out)) : gb170 ≠ gb168)); have n18_ := sqA ((by rw [hg]; exact Nat.ne_of_lt (blk_lt (g := gb169) (o := .cells #[.string t164, .bool t165] 111 (0, 0)) (sqk BK169.out)) : gb169 ≠ gb170)); have n19_ := sqA ((by rw [hg]; exact Nat.ne_of_gt (blk_lt (g := gb169) (o := .cells #[.string t164, .bool t165] 111 (0, 0)) (sqk BK169.out)) : gb170 ≠ gb169)); clear HO153; clear BK149; clear BK166; clear BK167; clear BK168; clear BK169; clear HB; have HO153 := n0_; have BK149 := n1_; have BK166 := n2_; have BK167 := n3_; have BK168 := n4_; have BK169 := n5_; have HB := n6_; have BK170 := n7_; have GW170 := n8_; have GE170 := n9_; have NB149_170 := n10_; have NB170_149 := n11_; have NB166_170 := n12_; have NB170_166 := n13_; have NB167_170 := n14_; have NB170_167 := n15_; have NB168_170 := n16_; have NB170_168 := n17_; have NB169_170 := n18_; have NB170_169 := n19_; clear n0_ n1_ n2_ n3_ n4_ n5_ n6_ n7_ n8_ n9_ n10_ n11_ n12_ n13_ n14_ n15_ n16_ n17_ n18_ n19_; clear hb hbox hg; have hnb94 := NB170_149.out; have hnc94 := NB149_170.out; have hnb95 := NB170_166.out; have hnc95 := NB166_170.out; have hnb96 := NB170_167.out; have hnc96 := NB167_170.out; have hnb97 := NB170_168.out; have hnc97 := NB168_170.out; have hnb98 := NB170_169.out; have hnc98 := NB169_170.out; have hcz99_0 : w93.cell? ⟨gb170, 0, none⟩ = some (.int .i64 0) := (blk_cell BK170.out 0).trans rfl; have hcz99_1 : w93.cell? ⟨gb170, 1, none⟩ = some (.int .i64 0) := (blk_cell BK170.out 1).trans rfl; have hcz99_2 : w93.cell? ⟨gb170, 2, none⟩ = some (.string (⟨#[]⟩ : ByteArray)) := (blk_cell BK170.out 2).trans rfl; have hcz99_3 : w93.cell? ⟨gb170, 3, none⟩ = some (.string (⟨#[]⟩ : ByteArray)) := (blk_cell BK170.out 3).trans rfl; have hfz99_0 := blk_frozen BK170.out 0; have hfz99_1 := blk_frozen BK170.out 1; have hfz99_2 := blk_frozen BK170.out 2; have hfz99_3 := blk_frozen BK170.out 3; have hcz100_0 : w93.cell? ⟨gb166, 0, none⟩ = some (.int .i64 t155) := (blk_cell BK166.out 0).trans rfl; have hcz100_1 : w93.cell? ⟨gb166, 1, none⟩ = some (.bool false) := (blk_cell BK166.out 1).trans rfl; have hfz100_0 := blk_frozen BK166.out 0; have hfz100_1 := blk_frozen BK166.out 1; have hcz101_0 : w93.cell? ⟨gb167, 0, none⟩ = some (.int .i64 t158) := (blk_cell BK167.out 0).trans rfl; have hcz101_1 : w93.cell? ⟨gb167, 1, none⟩ = some (.bool true) := (blk_cell BK167.out 1).trans rfl; have hfz101_0 := blk_frozen BK167.out 0; have hfz101_1 := blk_frozen BK167.out 1; have hcz102_0 : w93.cell? ⟨gb149, 0, none⟩ = some (.int .i64 0) := (blk_cell BK149.out 0).trans rfl; have hcz102_1 : w93.cell? ⟨gb149, 1, none⟩ = some (.int .i64 0) := (blk_cell BK149.out 1).trans rfl; have hcz102_2 : w93.cell? ⟨gb149, 2, none⟩ = some (.string (⟨#[]⟩ : ByteArray)) := (blk_cell BK149.out 2).trans rfl; have hcz102_3 : w93.cell? ⟨gb149, 3, none⟩ = some (.string (⟨#[]⟩ : ByteArray)) := (blk_cell BK149.out 3).trans rfl; have hfz102_0 := blk_frozen BK149.out 0; have hfz102_1 := blk_frozen BK149.out 1; have hfz102_2 := blk_frozen BK149.out 2; have hfz102_3 := blk_frozen BK149.out 3))
  refine bodyPost_ret (results_ct rfl _ _ gb149 51 #[.int .i64 0, .int .i64 0, .string (⟨#[]⟩ : ByteArray), .string (⟨#[]⟩ : ByteArray)] (0, 0) _ rfl (by (with_reducible repeat (first | refine blk_drewN ?_ _ | refine blk_drew ?_ | refine blk_alloc ?_ _)); refine blk_put (cs := #[.int .i64 0, .int .i64 0, .string (⟨#[]⟩ : ByteArray), .string (⟨#[]⟩ : ByteArray)]) ?_ 3 _ rfl; (with_reducible repeat (first | refine blk_drewN ?_ _ | refine blk_drew ?_ | refine blk_alloc ?_ _)); refine blk_put (cs := #[.int .i64 0, .int .i64 0, .string (⟨#[]⟩ : ByteArray), .string (⟨#[]⟩ : ByteArray)]) ?_ 2 _ rfl; (with_reducible repeat (first | refine blk_drewN ?_ _ | refine blk_drew ?_ | refine blk_alloc ?_ _)); refine blk_put (cs := #[.int .i64 0, .int .i64 0, .string (⟨#[]⟩ : ByteArray), .string (⟨#[]⟩ : ByteArray)]) ?_ 1 _ rfl; (with_reducible repeat (first | refine blk_drewN ?_ _ | refine blk_drew ?_ | refine blk_alloc ?_ _)); refine blk_put (cs := #[.int .i64 0, .int .i64 0, .string (⟨#[]⟩ : ByteArray), .string (⟨#[]⟩ : ByteArray)]) ?_ 0 _ rfl; (with_reducible repeat (first | refine blk_drewN ?_ _ | refine blk_drew ?_ | refine blk_alloc ?_ _)); refine blk_far ?_ NB149_170.out _; (with_reducible repeat (first | refine blk_drewN ?_ _ | refine blk_drew ?_ | refine blk_alloc ?_ _)); refine blk_far ?_ NB149_170.out _; (with_reducible repeat (first | refine blk_drewN ?_ _ | refine blk_drew ?_ | refine blk_alloc ?_ _)); refine blk_far ?_ NB149_170.out _; (with_reducible repeat (first | refine blk_drewN ?_ _ | refine blk_drew ?_ | refine blk_alloc ?_ _)); refine blk_far ?_ NB149_170.out _; (with_reducible repeat (first | refine blk_drewN ?_ _ | refine blk_drew ?_ | refine blk_alloc ?_ _)); exact BK149.out) Tryd.underlying51 rfl (by kernel_rfl)) rfl ?_
  exact ⟨sqe, sqs HB.out⟩
 subst c12
 have H1 : (some (0, 0, (⟨#[]⟩ : ByteArray), (⟨#[]⟩ : ByteArray), 3)) = some (r1, r2, r3, r4, r5) := by rw [if_pos rfl] at H; exact H
 clear H
 have H := H1
 clear H1
 simp only [Option.some.injEq, Prod.mk.injEq] at H
 obtain ⟨rfl, rfl, rfl, rfl, rfl⟩ := H
 have hnb34 := NB166_149.out
 have hnc34 := NB149_166.out
 have hnb35 := NB166_167.out
 have hnc35 := NB167_166.out
 have hnb36 := NB166_168.out
 have hnc36 := NB168_166.out
 have hnb37 := NB166_169.out
 have hnc37 := NB169_166.out
 have hcz38_0 : w33.cell? ⟨gb166, 0, none⟩ = some (.int .i64 t155) := (blk_cell BK166.out 0).trans rfl
 have hcz38_1 : w33.cell? ⟨gb166, 1, none⟩ = some (.bool true) := (blk_cell BK166.out 1).trans rfl
 have hfz38_0 := blk_frozen BK166.out 0
 have hfz38_1 := blk_frozen BK166.out 1
 have hnb39 := NB167_149.out
 have hnc39 := NB149_167.out
 have hnb40 := NB167_168.out
 have hnc40 := NB168_167.out
 have hnb41 := NB167_169.out
 have hnc41 := NB169_167.out
 have hcz42_0 : w33.cell? ⟨gb167, 0, none⟩ = some (.int .i64 t158) := (blk_cell BK167.out 0).trans rfl
 have hcz42_1 : w33.cell? ⟨gb167, 1, none⟩ = some (.bool t159) := (blk_cell BK167.out 1).trans rfl
 have hfz42_0 := blk_frozen BK167.out 0
 have hfz42_1 := blk_frozen BK167.out 1
 have hnb43 := NB168_149.out
 have hnc43 := NB149_168.out
 have hnb44 := NB168_169.out
 have hnc44 := NB169_168.out
 have hcz45_0 : w33.cell? ⟨gb168, 0, none⟩ = some (.string t161) := (blk_cell BK168.out 0).trans rfl
 have hcz45_1 : w33.cell? ⟨gb168, 1, none⟩ = some (.bool t162) := (blk_cell BK168.out 1).trans rfl
 have hfz45_0 := blk_frozen BK168.out 0
 have hfz45_1 := blk_frozen BK168.out 1
 have hnb46 := NB169_149.out
 have hnc46 := NB149_169.out
 have hcz47_0 : w33.cell? ⟨gb169, 0, none⟩ = some (.string t164) := (blk_cell BK169.out 0).trans rfl
 have hcz47_1 : w33.cell? ⟨gb169, 1, none⟩ = some (.bool t165) := (blk_cell BK169.out 1).trans rfl
 have hfz47_0 := blk_frozen BK169.out 0
 have hfz47_1 := blk_frozen BK169.out 1
 try go_wp2_with (first | ((with_reducible refine gate_dst (N := 10) rfl ?_); refine sqo (N := 10) (cs := #[.int .i64 0, .int .i64 0, .string (⟨#[]⟩ : ByteArray), .string (⟨#[]⟩ : ByteArray)]) (t := 51) ?_; intro gb170 hg w48 hbox hb; have n0_ := sqA (Kd.R_below (sqr HO153.out) hb); have n1_ := sqA (blk_below (g := gb149) (o := .cells #[.int .i64 0, .int .i64 0, .string (⟨#[]⟩ : ByteArray), .string (⟨#[]⟩ : ByteArray)] 51 (0, 0)) (sqk BK149.out) hb); have n2_ := sqA (blk_below (g := gb166) (o := .cells #[.int .i64 t155, .bool true] 108 (0, 0)) (sqk BK166.out) hb); have n3_ := sqA (blk_below (g := gb167) (o := .cells #[.int .i64 t158, .bool t159] 108 (0, 0)) (sqk BK167.out) hb); have n4_ := sqA (blk_below (g := gb168) (o := .cells #[.string t161, .bool t162] 111 (0, 0)) (sqk BK168.out) hb); have n5_ := sqA (blk_below (g := gb169) (o := .cells #[.string t164, .bool t165] 111 (0, 0)) (sqk BK169.out) hb); have n6_ := sqA (below_step (sqs HB.out) hb); have n7_ := sqA (hbox); have n8_ := sqA ((by rw [hg]; exact (below_size (sqs HB.out)) : w.heap.size ≤ gb170)); have n9_ := sqA ((by rw [hg]; exact (below_size (sqs HB.out)) : w.heap.size ≤ gb170)); have n10_ := sqA ((by rw [hg]; exact Nat.ne_of_lt (blk_lt (g := gb149) (o := .cells #[.int .i64 0, .int .i64 0, .string (⟨#[]⟩ : ByteArray), .string (⟨#[]⟩ : ByteArray)] 51 (0, 0)) (sqk BK149.out)) : gb149 ≠ gb170)); have n11_ := sqA ((by rw [hg]; exact Nat.ne_of_gt (blk_lt (g := gb149) (o := .cells #[.int .i64 0, .int .i64 0, .string (⟨#[]⟩ : ByteArray), .string (⟨#[]⟩ : ByteArray)] 51 (0, 0)) (sqk BK149.out)) : gb170 ≠ gb149)); have n12_ := sqA ((by rw [hg]; exact Nat.ne_of_lt (blk_lt (g := gb166) (o := .cells #[.int .i64 t155, .bool true] 108 (0, 0)) (sqk BK166.out)) : gb166 ≠ gb170)); have n13_ := sqA ((by rw [hg]; exact Nat.ne_of_gt (blk_lt (g := gb166) (o := .cells #[.int .i64 t155, .bool true] 108 (0, 0)) (sqk BK166.out)) : gb170 ≠ gb166)); have n14_ := sqA ((by rw [hg]; exact Nat.ne_of_lt (blk_lt (g := gb167) (o := .cells #[.int .i64 t158, .bool t159] 108 (0, 0)) (sqk BK167.out)) : gb167 ≠ gb170)); have n15_ := sqA ((by rw [hg]; exact Nat.ne_of_gt (blk_lt (g := gb167) (o := .cells #[.int .i64 t158, .bool t159] 108 (0, 0)) (sqk BK167.out)) : gb170 ≠ gb167)); have n16_ := sqA ((by rw [hg]; exact Nat.ne_of_lt (blk_lt (g := gb168) (o := .cells #[.string t161, .bool t162] 111 (0, 0)) (sqk BK168.out)) : gb168 ≠ gb170)); have n17_ := sqA ((by rw [hg]; exact Nat.ne_of_gt (blk_lt (g := gb168) (o := .cells #[.string t161, .bool t162] 111 (0, 0)) (sqk BK168.out)) : gb170 ≠ gb168)); have n18_ := sqA ((by rw [hg]; exact Nat.ne_of_lt (blk_lt (g := gb169) (o := .cells #[.string t164, .bool t165] 111 (0, 0)) (sqk BK169.out)) : gb169 ≠ gb170)); have n19_ := sqA ((by rw [hg]; exact Nat.ne_of_gt (blk_lt (g := gb169) (o := .cells #[.string t164, .bool t165] 111 (0, 0)) (sqk BK169.out)) : gb170 ≠ gb169)); clear HO153; clear BK149; clear BK166; clear BK167; clear BK168; clear BK169; clear HB; have HO153 := n0_; have BK149 := n1_; have BK166 := n2_; have BK167 := n3_; have BK168 := n4_; have BK169 := n5_; have HB := n6_; have BK170 := n7_; have GW170 := n8_; have GE170 := n9_; have NB149_170 := n10_; have NB170_149 := n11_; have NB166_170 := n12_; have NB170_166 := n13_; have NB167_170 := n14_; have NB170_167 := n15_; have NB168_170 := n16_; have NB170_168 := n17_; have NB169_170 := n18_; have NB170_169 := n19_; clear n0_ n1_ n2_ n3_ n4_ n5_ n6_ n7_ n8_ n9_ n10_ n11_ n12_ n13_ n14_ n15_ n16_ n17_ n18_ n19_; clear hb hbox hg; have hnb49 := NB170_149.out; have hnc49 := NB149_170.out; have hnb50 := NB170_166.out; have hnc50 := NB166_170.out; have hnb51 := NB170_167.out; have hnc51 := NB167_170.out; have hnb52 := NB170_168.out; have hnc52 := NB168_170.out; have hnb53 := NB170_169.out; have hnc53 := NB169_170.out; have hcz54_0 : w48.cell? ⟨gb170, 0, none⟩ = some (.int .i64 0) := (blk_cell BK170.out 0).trans rfl; have hcz54_1 : w48.cell? ⟨gb170, 1, none⟩ = some (.int .i64 0) := (blk_cell BK170.out 1).trans rfl; have hcz54_2 : w48.cell? ⟨gb170, 2, none⟩ = some (.string (⟨#[]⟩ : ByteArray)) := (blk_cell BK170.out 2).trans rfl; have hcz54_3 : w48.cell? ⟨gb170, 3, none⟩ = some (.string (⟨#[]⟩ : ByteArray)) := (blk_cell BK170.out 3).trans rfl; have hfz54_0 := blk_frozen BK170.out 0; have hfz54_1 := blk_frozen BK170.out 1; have hfz54_2 := blk_frozen BK170.out 2; have hfz54_3 := blk_frozen BK170.out 3; have hcz55_0 : w48.cell? ⟨gb166, 0, none⟩ = some (.int .i64 t155) := (blk_cell BK166.out 0).trans rfl; have hcz55_1 : w48.cell? ⟨gb166, 1, none⟩ = some (.bool true) := (blk_cell BK166.out 1).trans rfl; have hfz55_0 := blk_frozen BK166.out 0; have hfz55_1 := blk_frozen BK166.out 1; have hcz56_0 : w48.cell? ⟨gb149, 0, none⟩ = some (.int .i64 0) := (blk_cell BK149.out 0).trans rfl; have hcz56_1 : w48.cell? ⟨gb149, 1, none⟩ = some (.int .i64 0) := (blk_cell BK149.out 1).trans rfl; have hcz56_2 : w48.cell? ⟨gb149, 2, none⟩ = some (.string (⟨#[]⟩ : ByteArray)) := (blk_cell BK149.out 2).trans rfl; have hcz56_3 : w48.cell? ⟨gb149, 3, none⟩ = some (.string (⟨#[]⟩ : ByteArray)) := (blk_cell BK149.out 3).trans rfl; have hfz56_0 := blk_frozen BK149.out 0; have hfz56_1 := blk_frozen BK149.out 1; have hfz56_2 := blk_frozen BK149.out 2; have hfz56_3 := blk_frozen BK149.out 3))
 refine bodyPost_ret (results_ct rfl _ _ gb149 51 #[.int .i64 0, .int .i64 0, .string (⟨#[]⟩ : ByteArray), .string (⟨#[]⟩ : ByteArray)] (0, 0) _ rfl (by (with_reducible repeat (first | refine blk_drewN ?_ _ | refine blk_drew ?_ | refine blk_alloc ?_ _)); refine blk_put (cs := #[.int .i64 0, .int .i64 0, .string (⟨#[]⟩ : ByteArray), .string (⟨#[]⟩ : ByteArray)]) ?_ 3 _ rfl; (with_reducible repeat (first | refine blk_drewN ?_ _ | refine blk_drew ?_ | refine blk_alloc ?_ _)); refine blk_put (cs := #[.int .i64 0, .int .i64 0, .string (⟨#[]⟩ : ByteArray), .string (⟨#[]⟩ : ByteArray)]) ?_ 2 _ rfl; (with_reducible repeat (first | refine blk_drewN ?_ _ | refine blk_drew ?_ | refine blk_alloc ?_ _)); refine blk_put (cs := #[.int .i64 0, .int .i64 0, .string (⟨#[]⟩ : ByteArray), .string (⟨#[]⟩ : ByteArray)]) ?_ 1 _ rfl; (with_reducible repeat (first | refine blk_drewN ?_ _ | refine blk_drew ?_ | refine blk_alloc ?_ _)); refine blk_put (cs := #[.int .i64 0, .int .i64 0, .string (⟨#[]⟩ : ByteArray), .string (⟨#[]⟩ : ByteArray)]) ?_ 0 _ rfl; (with_reducible repeat (first | refine blk_drewN ?_ _ | refine blk_drew ?_ | refine blk_alloc ?_ _)); refine blk_far ?_ NB149_170.out _; (with_reducible repeat (first | refine blk_drewN ?_ _ | refine blk_drew ?_ | refine blk_alloc ?_ _)); refine blk_far ?_ NB149_170.out _; (with_reducible repeat (first | refine blk_drewN ?_ _ | refine blk_drew ?_ | refine blk_alloc ?_ _)); refine blk_far ?_ NB149_170.out _; (with_reducible repeat (first | refine blk_drewN ?_ _ | refine blk_drew ?_ | refine blk_alloc ?_ _)); refine blk_far ?_ NB149_170.out _; (with_reducible repeat (first | refine blk_drewN ?_ _ | refine blk_drew ?_ | refine blk_alloc ?_ _)); exact BK149.out) Tryd.underlying51 rfl (by kernel_rfl)) rfl ?_
 exact ⟨sqe, sqs HB.out⟩
end Go.Proofs.YtifpomknkjegeaaDoor.PAll
