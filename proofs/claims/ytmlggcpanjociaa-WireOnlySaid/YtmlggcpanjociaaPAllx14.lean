/- Printed by a program of this claim: the machine side of its law, for every input; no condition. -/
import Derived.Test.YtmlggcpanjociaaPAllx0
import Derived.Test.YtmlggcpanjociaaPAllx8
import Derived.Test.YtmlggcpanjociaaPAllx11
import Derived.Test.YtmlggcpanjociaaPAllx12
import Derived.Test.YtmlggcpanjociaaPAllx13
namespace Go.Proofs.Ytmlggcpanjociaa.PAll
open Go.RowKit Go.Proofs.YtmlggcpanjociaaW.PrintWords Go.Proofs.YtmlggcpanjociaaW.PrintLast Go.Proofs.YtmlggcpanjociaaW.PrintMore
attribute [local go_sem] max2_int min2_int max_two min_two max_three min_three max_four min_four   -- for this text's walks alone
set_option linter.unusedVariables false
set_option linter.unusedSimpArgs false

attribute [local go_sem] all_u8 all_u32 all_u64
/-! ### wire_ReadCommand: function 20 -/
def wire_ReadCommand.f (k : Nat) (a0 : ByteArray) : Option (Int × Int × ByteArray × ByteArray × Int) := (wire_read.f k a0 4).bind fun bt136 => (if bt136.2 = true then (if 0 < (bt136.1.length : Int) then ((wire_one.f (rdOf ByteArray.empty bt136.1 0)).bind fun bt141 => (if 1 < (bt136.1.length : Int) then ((wire_one.f (rdOf ByteArray.empty bt136.1 1)).bind fun bt144 => (if 2 < (bt136.1.length : Int) then ((wire_text.f (rdOf ByteArray.empty bt136.1 2)).bind fun bt147 => (if 3 < (bt136.1.length : Int) then ((wire_text.f (rdOf ByteArray.empty bt136.1 3)).bind fun bt150 => (if bt141.2 = true then (some (0, 0, (⟨#[]⟩ : ByteArray), (⟨#[]⟩ : ByteArray), 3)) else (if bt144.2 = true then (some (0, 0, (⟨#[]⟩ : ByteArray), (⟨#[]⟩ : ByteArray), 3)) else ((wire_CheckCommand.f bt141.1 bt144.1 bt147.1 bt150.1).bind fun t157 => (if t157 = 0 then (some (bt141.1, bt144.1, bt147.1, bt150.1, 0)) else (some (0, 0, (⟨#[]⟩ : ByteArray), (⟨#[]⟩ : ByteArray), 3))))))) else (none))) else (none))) else (none))) else (none)) else (some (0, 0, (⟨#[]⟩ : ByteArray), (⟨#[]⟩ : ByteArray), 3)))
theorem wire_ReadCommand.mono : ∀ a0 k, LeO (wire_ReadCommand.f k a0) (wire_ReadCommand.f (k + 1) a0) := by
  intro a0 k
  unfold wire_ReadCommand.f
  repeat' first
      | (with_reducible exact wire_read.mono _ _ _)
      | (with_reducible exact LeO.refl _)
      | (with_reducible exact LeO.none _)
      | (with_reducible refine LeO.ite ?_ ?_)
      | (with_reducible refine LeO.bind ?_ (fun _ => ?_))
      | exact wire_read.mono _ _ _
      | exact LeO.none _
      | refine LeO.ite ?_ ?_
      | refine LeO.bind ?_ (fun _ => ?_)
def wire_ReadCommand.T4 : Bool × List (List Nat × List Nat) := (true, [([], []), ([0], [0]), ([1], [1]), ([2], [2]), ([], []), ([4], [4]), ([5], [5]), ([6, 3], [6]), ([], []), ([8], [8]), ([9], [9]), ([10, 7], [10]), ([], []), ([12], [12]), ([13], [13]), ([14, 11], [14]), ([], []), ([], []), ([], []), ([], []), ([16, 3, 15, 0, 1, 2, 3, 16, 17, 18, 19], [3, 16]), ([17, 7, 20, 0, 1, 2, 3, 4, 5, 6, 7, 16, 17, 18, 19, 20], [7, 17]), ([18, 11, 21, 0, 1, 2, 3, 4, 5, 6, 7, 8, 9, 10, 11, 16, 17, 18, 19, 20, 21], [11, 18]), ([19, 15, 22, 0, 1, 2, 3, 4, 5, 6, 7, 8, 9, 10, 11, 12, 13, 14, 15, 16, 17, 18, 19, 20, 21, 22], [15, 19])])
def wire_ReadCommand.B4 : List Nat := [0, 1, 3, 7, 0, 16, 48, 127, 0, 256, 768, 2047, 0, 4096, 12288, 32767, 0, 0, 0, 0, 1048575, 2097151, 4194303, 8388607]
theorem wire_ReadCommand.tab4 : rtab .any (opsOf Try.f20 4) = wire_ReadCommand.T4 := by kernel_rfl
theorem wire_ReadCommand.bits4 : waitsOk wire_ReadCommand.T4.2 wire_ReadCommand.B4 = true := by kernel_rfl
set_option maxHeartbeats 8000000 in
set_option maxRecDepth 100000 in
theorem wire_ReadCommand.calls (k : Nat) (a0 : ByteArray) (r1 : Int) (r2 : Int) (r3 : ByteArray) (r4 : ByteArray) (r5 : Int) (w : World) (h : wire_ReadCommand.f k a0 = some (r1, r2, r3, r4, r5)) :
    Calls Try.prog 20 #[.string a0] w fun e w' => e = .returned (.tuple #[.agg #[.int .i64 r1, .int .i64 r2, .string r3, .string r4], .int .i64 r5]) ∧ Below w.heap.size w w' := by
  have hu36 := Try.underlying36
  have hu66 := Try.underlying66
  have hu69 := Try.underlying69
  have HB := Aside0.mk (Below.refl w.heap.size w)
  have H : ((wire_read.f k a0 4).bind fun bt136 => (if bt136.2 = true then (if 0 < (bt136.1.length : Int) then ((wire_one.f (rdOf ByteArray.empty bt136.1 0)).bind fun bt141 => (if 1 < (bt136.1.length : Int) then ((wire_one.f (rdOf ByteArray.empty bt136.1 1)).bind fun bt144 => (if 2 < (bt136.1.length : Int) then ((wire_text.f (rdOf ByteArray.empty bt136.1 2)).bind fun bt147 => (if 3 < (bt136.1.length : Int) then ((wire_text.f (rdOf ByteArray.empty bt136.1 3)).bind fun bt150 => (if bt141.2 = true then (some (0, 0, (⟨#[]⟩ : ByteArray), (⟨#[]⟩ : ByteArray), 3)) else (if bt144.2 = true then (some (0, 0, (⟨#[]⟩ : ByteArray), (⟨#[]⟩ : ByteArray), 3)) else ((wire_CheckCommand.f bt141.1 bt144.1 bt147.1 bt150.1).bind fun t157 => (if t157 = 0 then (some (bt141.1, bt144.1, bt147.1, bt150.1, 0)) else (some (0, 0, (⟨#[]⟩ : ByteArray), (⟨#[]⟩ : ByteArray), 3))))))) else (none))) else (none))) else (none))) else (none)) else (some (0, 0, (⟨#[]⟩ : ByteArray), (⟨#[]⟩ : ByteArray), 3)))) = some (r1, r2, r3, r4, r5) := h
  clear h
  replace H := Option.bind_eq_some_iff.mp H
  obtain ⟨⟨t136, t137⟩, A20, H⟩ := H
  replace H : (if t137 = true then (if 0 < (t136.length : Int) then ((wire_one.f (rdOf ByteArray.empty t136 0)).bind fun bt141 => (if 1 < (t136.length : Int) then ((wire_one.f (rdOf ByteArray.empty t136 1)).bind fun bt144 => (if 2 < (t136.length : Int) then ((wire_text.f (rdOf ByteArray.empty t136 2)).bind fun bt147 => (if 3 < (t136.length : Int) then ((wire_text.f (rdOf ByteArray.empty t136 3)).bind fun bt150 => (if bt141.2 = true then (some (0, 0, (⟨#[]⟩ : ByteArray), (⟨#[]⟩ : ByteArray), 3)) else (if bt144.2 = true then (some (0, 0, (⟨#[]⟩ : ByteArray), (⟨#[]⟩ : ByteArray), 3)) else ((wire_CheckCommand.f bt141.1 bt144.1 bt147.1 bt150.1).bind fun t157 => (if t157 = 0 then (some (bt141.1, bt144.1, bt147.1, bt150.1, 0)) else (some (0, 0, (⟨#[]⟩ : ByteArray), (⟨#[]⟩ : ByteArray), 3))))))) else (none))) else (none))) else (none))) else (none)) else (some (0, 0, (⟨#[]⟩ : ByteArray), (⟨#[]⟩ : ByteArray), 3))) = some (r1, r2, r3, r4, r5) := H
  have A2 := Aside0.mk A20
  clear A20
  by_cases c3 : t137 = true
  case neg =>
    replace c3 := Bool.eq_false_iff.mpr c3
    subst c3
    have H1 : (some (0, 0, (⟨#[]⟩ : ByteArray), (⟨#[]⟩ : ByteArray), 3)) = some (r1, r2, r3, r4, r5) := by rw [if_neg (show ¬ (false = true) by decide)] at H; exact H
    clear H
    have H := H1
    clear H1
    simp only [Option.some.injEq, Prod.mk.injEq] at H
    obtain ⟨rfl, rfl, rfl, rfl, rfl⟩ := H
    go_enter Try.func20, Try.ntmps20
    go_wp2_with (first | ((with_reducible refine gate_dst (N := 2) rfl ?_); refine box_event ?hg (N := 2) ?hd (cs := #[.int .i64 0, .int .i64 0, .string (⟨#[]⟩ : ByteArray), .string (⟨#[]⟩ : ByteArray)]) (t := 36) ?hr ?_; (case hd => rfl); (case hg => rfl); (case hr => first | (go_simp; done) | (go_simp; rfl)); intro gb135 hg w198 hbox hb; have n0_ := Aside0.mk (below_step (by repeat (first | (with_reducible first | exact HB.out | apply below_alloc | apply pw_below_drewN | apply below_drew1) | exact HB.out)) hb); have n1_ := Aside0.mk (hbox); have n2_ := Aside0.mk ((by rw [hg]; exact (below_size (by repeat (first | (with_reducible first | exact HB.out | apply below_alloc | apply pw_below_drewN | apply below_drew1) | exact HB.out))) : w.heap.size ≤ gb135)); have n3_ := Aside0.mk ((by rw [hg]; exact (below_size (by repeat (first | (with_reducible first | exact HB.out | apply below_alloc | apply pw_below_drewN | apply below_drew1) | exact HB.out))) : w.heap.size ≤ gb135)); clear HB; have HB := n0_; have BK135 := n1_; have GW135 := n2_; have GE135 := n3_; clear n0_ n1_ n2_ n3_; clear hb hbox hg) | ((with_reducible refine gate_callee (f := 31) rfl ?_); refine goesL_ (some 13) rfl rfl Try.func31 (by kernel_rfl) rfl #[.string a0, .int .i64 4] rfl (by (try simp only [List.map_toArray, List.map_cons, List.map_nil]); first | done | rfl | (simp only [List.length_drop, List.length_take]; rfl)) ?_; (with_reducible refine (wire_read.calls k a0 4 t136 false _ A2.out).mono ?_); rintro e w199 ⟨v138, rfl, ho0, hb⟩; refine ⟨_, rfl, ?_⟩; have n0_ := Aside0.mk (Kd.R_lower ho0 (below_size (by repeat (first | (with_reducible first | exact HB.out | apply below_alloc | apply pw_below_drewN | apply below_drew1 | refine below_set ?_ GE135.out) | exact HB.out)))); have n1_ := Aside0.mk (blk_below (g := gb135) (o := .cells #[.int .i64 0, .int .i64 0, .string (⟨#[]⟩ : ByteArray), .string (⟨#[]⟩ : ByteArray)] 36 (0, 0)) (by (with_reducible repeat (first | refine blk_drewN ?_ _ | refine blk_drew ?_ | refine blk_alloc ?_ _)); exact BK135.out) hb); have n2_ := Aside0.mk (below_step (by repeat (first | (with_reducible first | exact HB.out | apply below_alloc | apply pw_below_drewN | apply below_drew1 | refine below_set ?_ GE135.out) | exact HB.out)) hb); clear BK135; clear HB; have HO139 := n0_; have BK135 := n1_; have HB := n2_; clear n0_ n1_ n2_; (try clear hb); (try clear hb2); (try clear hk); (try clear hi); (try clear ho0); have hcz200_0 : w199.cell? ⟨gb135, 0, none⟩ = some (.int .i64 0) := (blk_cell BK135.out 0).trans rfl; have hcz200_1 : w199.cell? ⟨gb135, 1, none⟩ = some (.int .i64 0) := (blk_cell BK135.out 1).trans rfl; have hcz200_2 : w199.cell? ⟨gb135, 2, none⟩ = some (.string (⟨#[]⟩ : ByteArray)) := (blk_cell BK135.out 2).trans rfl; have hcz200_3 : w199.cell? ⟨gb135, 3, none⟩ = some (.string (⟨#[]⟩ : ByteArray)) := (blk_cell BK135.out 3).trans rfl; have hfz200_0 := blk_frozen BK135.out 0; have hfz200_1 := blk_frozen BK135.out 1; have hfz200_2 := blk_frozen BK135.out 2; have hfz200_3 := blk_frozen BK135.out 3))
    refine bodyPost_ret (results_ct rfl _ _ gb135 36 #[.int .i64 0, .int .i64 0, .string (⟨#[]⟩ : ByteArray), .string (⟨#[]⟩ : ByteArray)] (0, 0) _ rfl (by (with_reducible repeat (first | refine blk_drewN ?_ _ | refine blk_drew ?_ | refine blk_alloc ?_ _)); refine blk_put (cs := #[.int .i64 0, .int .i64 0, .string (⟨#[]⟩ : ByteArray), .string (⟨#[]⟩ : ByteArray)]) ?_ 3 _ rfl; (with_reducible repeat (first | refine blk_drewN ?_ _ | refine blk_drew ?_ | refine blk_alloc ?_ _)); refine blk_put (cs := #[.int .i64 0, .int .i64 0, .string (⟨#[]⟩ : ByteArray), .string (⟨#[]⟩ : ByteArray)]) ?_ 2 _ rfl; (with_reducible repeat (first | refine blk_drewN ?_ _ | refine blk_drew ?_ | refine blk_alloc ?_ _)); refine blk_put (cs := #[.int .i64 0, .int .i64 0, .string (⟨#[]⟩ : ByteArray), .string (⟨#[]⟩ : ByteArray)]) ?_ 1 _ rfl; (with_reducible repeat (first | refine blk_drewN ?_ _ | refine blk_drew ?_ | refine blk_alloc ?_ _)); refine blk_put (cs := #[.int .i64 0, .int .i64 0, .string (⟨#[]⟩ : ByteArray), .string (⟨#[]⟩ : ByteArray)]) ?_ 0 _ rfl; (with_reducible repeat (first | refine blk_drewN ?_ _ | refine blk_drew ?_ | refine blk_alloc ?_ _)); exact BK135.out) Try.underlying36 rfl (by kernel_rfl)) rfl ?_
    exact ⟨by first | rfl | (simp [errW_none, errW_some] <;> rfl) | (simp [*, errW_none, errW_some] <;> rfl), by repeat (first | (with_reducible first | exact HB.out | apply below_alloc | apply pw_below_drewN | apply below_drew1 | refine below_set ?_ GE135.out) | exact HB.out)⟩

  subst c3
  have H1 : (if 0 < (t136.length : Int) then ((wire_one.f (rdOf ByteArray.empty t136 0)).bind fun bt141 => (if 1 < (t136.length : Int) then ((wire_one.f (rdOf ByteArray.empty t136 1)).bind fun bt144 => (if 2 < (t136.length : Int) then ((wire_text.f (rdOf ByteArray.empty t136 2)).bind fun bt147 => (if 3 < (t136.length : Int) then ((wire_text.f (rdOf ByteArray.empty t136 3)).bind fun bt150 => (if bt141.2 = true then (some (0, 0, (⟨#[]⟩ : ByteArray), (⟨#[]⟩ : ByteArray), 3)) else (if bt144.2 = true then (some (0, 0, (⟨#[]⟩ : ByteArray), (⟨#[]⟩ : ByteArray), 3)) else ((wire_CheckCommand.f bt141.1 bt144.1 bt147.1 bt150.1).bind fun t157 => (if t157 = 0 then (some (bt141.1, bt144.1, bt147.1, bt150.1, 0)) else (some (0, 0, (⟨#[]⟩ : ByteArray), (⟨#[]⟩ : ByteArray), 3))))))) else (none))) else (none))) else (none))) else (none)) = some (r1, r2, r3, r4, r5) := by rw [if_pos rfl] at H; exact H
  clear H
  have H := H1
  clear H1
  by_cases c4 : 0 < (t136.length : Int)
  case neg =>
    rw [if_neg c4] at H
    exact absurd H (by simp)
  rw [if_pos c4] at H
  have c4b0 : decide (0 < (t136.length : Int)) = true := decide_eq_true c4
  have c4b1 : decide (0 < t136.length) = true := decide_eq_true (by omega)
  clear c4
  replace H := Option.bind_eq_some_iff.mp H
  obtain ⟨⟨t141, t142⟩, A50, H⟩ := H
  replace H : (if 1 < (t136.length : Int) then ((wire_one.f (rdOf ByteArray.empty t136 1)).bind fun bt144 => (if 2 < (t136.length : Int) then ((wire_text.f (rdOf ByteArray.empty t136 2)).bind fun bt147 => (if 3 < (t136.length : Int) then ((wire_text.f (rdOf ByteArray.empty t136 3)).bind fun bt150 => (if t142 = true then (some (0, 0, (⟨#[]⟩ : ByteArray), (⟨#[]⟩ : ByteArray), 3)) else (if bt144.2 = true then (some (0, 0, (⟨#[]⟩ : ByteArray), (⟨#[]⟩ : ByteArray), 3)) else ((wire_CheckCommand.f t141 bt144.1 bt147.1 bt150.1).bind fun t157 => (if t157 = 0 then (some (t141, bt144.1, bt147.1, bt150.1, 0)) else (some (0, 0, (⟨#[]⟩ : ByteArray), (⟨#[]⟩ : ByteArray), 3))))))) else (none))) else (none))) else (none)) = some (r1, r2, r3, r4, r5) := H
  have A5 := Aside0.mk A50
  clear A50
  by_cases c6 : 1 < (t136.length : Int)
  case neg =>
    rw [if_neg c6] at H
    exact absurd H (by simp)
  rw [if_pos c6] at H
  have c6b0 : decide (1 < (t136.length : Int)) = true := decide_eq_true c6
  have c6b1 : decide (1 < t136.length) = true := decide_eq_true (by omega)
  clear c6
  replace H := Option.bind_eq_some_iff.mp H
  obtain ⟨⟨t144, t145⟩, A70, H⟩ := H
  replace H : (if 2 < (t136.length : Int) then ((wire_text.f (rdOf ByteArray.empty t136 2)).bind fun bt147 => (if 3 < (t136.length : Int) then ((wire_text.f (rdOf ByteArray.empty t136 3)).bind fun bt150 => (if t142 = true then (some (0, 0, (⟨#[]⟩ : ByteArray), (⟨#[]⟩ : ByteArray), 3)) else (if t145 = true then (some (0, 0, (⟨#[]⟩ : ByteArray), (⟨#[]⟩ : ByteArray), 3)) else ((wire_CheckCommand.f t141 t144 bt147.1 bt150.1).bind fun t157 => (if t157 = 0 then (some (t141, t144, bt147.1, bt150.1, 0)) else (some (0, 0, (⟨#[]⟩ : ByteArray), (⟨#[]⟩ : ByteArray), 3))))))) else (none))) else (none)) = some (r1, r2, r3, r4, r5) := H
  have A7 := Aside0.mk A70
  clear A70
  by_cases c8 : 2 < (t136.length : Int)
  case neg =>
    rw [if_neg c8] at H
    exact absurd H (by simp)
  rw [if_pos c8] at H
  have c8b0 : decide (2 < (t136.length : Int)) = true := decide_eq_true c8
  have c8b1 : decide (2 < t136.length) = true := decide_eq_true (by omega)
  clear c8
  replace H := Option.bind_eq_some_iff.mp H
  obtain ⟨⟨t147, t148⟩, A90, H⟩ := H
  replace H : (if 3 < (t136.length : Int) then ((wire_text.f (rdOf ByteArray.empty t136 3)).bind fun bt150 => (if t142 = true then (some (0, 0, (⟨#[]⟩ : ByteArray), (⟨#[]⟩ : ByteArray), 3)) else (if t145 = true then (some (0, 0, (⟨#[]⟩ : ByteArray), (⟨#[]⟩ : ByteArray), 3)) else ((wire_CheckCommand.f t141 t144 t147 bt150.1).bind fun t157 => (if t157 = 0 then (some (t141, t144, t147, bt150.1, 0)) else (some (0, 0, (⟨#[]⟩ : ByteArray), (⟨#[]⟩ : ByteArray), 3))))))) else (none)) = some (r1, r2, r3, r4, r5) := H
  have A9 := Aside0.mk A90
  clear A90
  by_cases c10 : 3 < (t136.length : Int)
  case neg =>
    rw [if_neg c10] at H
    exact absurd H (by simp)
  rw [if_pos c10] at H
  have c10b0 : decide (3 < (t136.length : Int)) = true := decide_eq_true c10
  have c10b1 : decide (3 < t136.length) = true := decide_eq_true (by omega)
  clear c10
  replace H := Option.bind_eq_some_iff.mp H
  obtain ⟨⟨t150, t151⟩, A110, H⟩ := H
  replace H : (if t142 = true then (some (0, 0, (⟨#[]⟩ : ByteArray), (⟨#[]⟩ : ByteArray), 3)) else (if t145 = true then (some (0, 0, (⟨#[]⟩ : ByteArray), (⟨#[]⟩ : ByteArray), 3)) else ((wire_CheckCommand.f t141 t144 t147 t150).bind fun t157 => (if t157 = 0 then (some (t141, t144, t147, t150, 0)) else (some (0, 0, (⟨#[]⟩ : ByteArray), (⟨#[]⟩ : ByteArray), 3)))))) = some (r1, r2, r3, r4, r5) := H
  have A11 := Aside0.mk A110
  clear A110
  have HM_ := Aside0.mk H
  clear H
  go_enter Try.func20, Try.ntmps20
  try go_wp2_with (first | ((with_reducible refine gate_dst (N := 2) rfl ?_); refine box_event ?hg (N := 2) ?hd (cs := #[.int .i64 0, .int .i64 0, .string (⟨#[]⟩ : ByteArray), .string (⟨#[]⟩ : ByteArray)]) (t := 36) ?hr ?_; (case hd => rfl); (case hg => rfl); (case hr => first | (go_simp; done) | (go_simp; rfl)); intro gb135 hg w13 hbox hb; have n0_ := Aside0.mk (below_step (by repeat (first | (with_reducible first | exact HB.out | apply below_alloc | apply pw_below_drewN | apply below_drew1) | exact HB.out)) hb); have n1_ := Aside0.mk (hbox); have n2_ := Aside0.mk ((by rw [hg]; exact (below_size (by repeat (first | (with_reducible first | exact HB.out | apply below_alloc | apply pw_below_drewN | apply below_drew1) | exact HB.out))) : w.heap.size ≤ gb135)); have n3_ := Aside0.mk ((by rw [hg]; exact (below_size (by repeat (first | (with_reducible first | exact HB.out | apply below_alloc | apply pw_below_drewN | apply below_drew1) | exact HB.out))) : w.heap.size ≤ gb135)); clear HB; have HB := n0_; have BK135 := n1_; have GW135 := n2_; have GE135 := n3_; clear n0_ n1_ n2_ n3_; clear hb hbox hg) | ((with_reducible refine gate_callee (f := 31) rfl ?_); refine goesL_ (some 13) rfl rfl Try.func31 (by kernel_rfl) rfl #[.string a0, .int .i64 4] rfl (by (try simp only [List.map_toArray, List.map_cons, List.map_nil]); first | done | rfl | (simp only [List.length_drop, List.length_take]; rfl)) ?_; (with_reducible refine (wire_read.calls k a0 4 t136 true _ A2.out).mono ?_); rintro e w14 ⟨v138, rfl, ho0, hb⟩; refine ⟨_, rfl, ?_⟩; have n0_ := Aside0.mk (Kd.R_lower ho0 (below_size (by repeat (first | (with_reducible first | exact HB.out | apply below_alloc | apply pw_below_drewN | apply below_drew1 | refine below_set ?_ GE135.out) | exact HB.out)))); have n1_ := Aside0.mk (blk_below (g := gb135) (o := .cells #[.int .i64 0, .int .i64 0, .string (⟨#[]⟩ : ByteArray), .string (⟨#[]⟩ : ByteArray)] 36 (0, 0)) (by (with_reducible repeat (first | refine blk_drewN ?_ _ | refine blk_drew ?_ | refine blk_alloc ?_ _)); exact BK135.out) hb); have n2_ := Aside0.mk (below_step (by repeat (first | (with_reducible first | exact HB.out | apply below_alloc | apply pw_below_drewN | apply below_drew1 | refine below_set ?_ GE135.out) | exact HB.out)) hb); clear BK135; clear HB; have HO139 := n0_; have BK135 := n1_; have HB := n2_; clear n0_ n1_ n2_; (try clear hb); (try clear hb2); (try clear hk); (try clear hi); (try clear ho0)))
  have n0_ := Aside0.mk (Kd.R_drew HO139.out)
  have n1_ := Aside0.mk (blk_drew BK135.out)
  have n2_ := Aside0.mk (below_drew1 HB.out)
  clear HO139
  clear BK135
  clear HB
  have HO139 := n0_
  have BK135 := n1_
  have HB := n2_
  clear n0_ n1_ n2_
  obtain ⟨Ao16, co16, eo16⟩ := Kd.R_slice HO139.out
  (first | subst eo16 | (injection eo16 with f1_ f2_ f3_; have f4_ := f1_.symm; have f5_ := f3_.symm; clear f1_ f2_ f3_; subst f4_; subst f5_))
  have p140 : 0 ≤ (0 : Int) := (by omega)
  have q140 : 0 < (t136.length : Int) := of_decide_eq_true (by first | (with_reducible assumption) | assumption)
  obtain ⟨ad140, e140, hx140_0⟩ := Kd.at_string (Kd.R_reads' HO139.out).2.2 0 p140 q140
  cases e140
  have qi140 : (0 < t136.length) = True := eq_true (by omega)
  (try rw [show ((0 : Int)).toNat = 0 from rfl] at hx140_0)
  (try rw [Addr.add_zero'] at hx140_0)
  replace p140 := eq_true p140
  replace q140 := eq_true q140
  have p143 : 0 ≤ (1 : Int) := (by omega)
  have q143 : 1 < (t136.length : Int) := of_decide_eq_true (by first | (with_reducible assumption) | assumption)
  obtain ⟨ad143, e143, hx143_0⟩ := Kd.at_string (Kd.R_reads' HO139.out).2.2 1 p143 q143
  obtain rfl : ad140 = ad143 := (by injection e143)
  (try simp only [show (1 : Int).toNat = 1 from rfl, Nat.reduceMul, Nat.reduceEqDiff, Go.Addr.add, ↓reduceIte] at hx143_0)
  have qi143 : (1 < t136.length) = True := eq_true (by omega)
  (try rw [show ((1 : Int)).toNat = 1 from rfl] at hx143_0)
  replace p143 := eq_true p143
  replace q143 := eq_true q143
  have p146 : 0 ≤ (2 : Int) := (by omega)
  have q146 : 2 < (t136.length : Int) := of_decide_eq_true (by first | (with_reducible assumption) | assumption)
  obtain ⟨ad146, e146, hx146_0⟩ := Kd.at_string (Kd.R_reads' HO139.out).2.2 2 p146 q146
  obtain rfl : ad140 = ad146 := (by injection e146)
  (try simp only [show (2 : Int).toNat = 2 from rfl, Nat.reduceMul, Nat.reduceEqDiff, Go.Addr.add, ↓reduceIte] at hx146_0)
  have qi146 : (2 < t136.length) = True := eq_true (by omega)
  (try rw [show ((2 : Int)).toNat = 2 from rfl] at hx146_0)
  replace p146 := eq_true p146
  replace q146 := eq_true q146
  have p149 : 0 ≤ (3 : Int) := (by omega)
  have q149 : 3 < (t136.length : Int) := of_decide_eq_true (by first | (with_reducible assumption) | assumption)
  obtain ⟨ad149, e149, hx149_0⟩ := Kd.at_string (Kd.R_reads' HO139.out).2.2 3 p149 q149
  obtain rfl : ad140 = ad149 := (by injection e149)
  (try simp only [show (3 : Int).toNat = 3 from rfl, Nat.reduceMul, Nat.reduceEqDiff, Go.Addr.add, ↓reduceIte] at hx149_0)
  have qi149 : (3 < t136.length) = True := eq_true (by omega)
  (try rw [show ((3 : Int)).toNat = 3 from rfl] at hx149_0)
  replace p149 := eq_true p149
  replace q149 := eq_true q149
  refine start_ (n := 24) (S := fun w' => True) (ds := []) #[false, false, false, false, false, false, false, false, false, false, false, false, false, false, false, false, false, false, false, false, false, false, false, false] (by kernel_rfl) rfl rfl trivial (fun hHeld => ?_); refine with_tabW wire_ReadCommand.tab4 wire_ReadCommand.bits4 (fun HT_ HW_ => ?_)
  generalize w14.drew = w15 at HO139 BK135 HB hx140_0 hx143_0 hx146_0 hx149_0 hHeld ⊢
  refine pure_ (i := 0) (N := some 19) (v := ?_) (a' := ?_) #[true, false, false, false, false, false, false, false, false, false, false, false, false, false, false, false, false, false, false, false, false, false, false, false] rfl rfl (any_of HT_.out (by kernel_rfl)) (fun _ _ _ h => h) (Or.inl ⟨by rfl, ?_⟩) ?_ ?_
  rotate_left
  · intro w'
    go_simp
    with_reducible rfl
  rotate_left
  · simp only [Act.put, List.setIfInBounds_toArray, List.set_cons_zero, List.set_cons_succ, i64_w, i32_w]
    rfl
  refine pure_ (i := 4) (N := some 23) (v := ?_) (a' := ?_) #[true, false, false, false, true, false, false, false, false, false, false, false, false, false, false, false, false, false, false, false, false, false, false, false] rfl rfl (any_of HT_.out (by kernel_rfl)) (fun _ _ _ h => h) (Or.inl ⟨by rfl, ?_⟩) ?_ ?_
  rotate_left
  · intro w'
    go_simp
    with_reducible rfl
  rotate_left
  · simp only [Act.put, List.setIfInBounds_toArray, List.set_cons_zero, List.set_cons_succ, i64_w, i32_w]
    rfl
  refine pure_ (i := 8) (N := some 27) (v := ?_) (a' := ?_) #[true, false, false, false, true, false, false, false, true, false, false, false, false, false, false, false, false, false, false, false, false, false, false, false] rfl rfl (any_of HT_.out (by kernel_rfl)) (fun _ _ _ h => h) (Or.inl ⟨by rfl, ?_⟩) ?_ ?_
  rotate_left
  · intro w'
    go_simp
    with_reducible rfl
  rotate_left
  · simp only [Act.put, List.setIfInBounds_toArray, List.set_cons_zero, List.set_cons_succ, i64_w, i32_w]
    rfl
  refine pure_ (i := 12) (N := some 31) (v := ?_) (a' := ?_) #[true, false, false, false, true, false, false, false, true, false, false, false, true, false, false, false, false, false, false, false, false, false, false, false] rfl rfl (any_of HT_.out (by kernel_rfl)) (fun _ _ _ h => h) (Or.inl ⟨by rfl, ?_⟩) ?_ ?_
  rotate_left
  · intro w'
    go_simp
    with_reducible rfl
  rotate_left
  · simp only [Act.put, List.setIfInBounds_toArray, List.set_cons_zero, List.set_cons_succ, i64_w, i32_w]
    rfl
  refine inv_at [1, 2, 3, 5, 6, 7, 9, 10, 11, 13, 14, 15, 16, 17, 18, 19, 20, 21, 22, 23] (fun a0_ b a w' => ∃ (gb152 : Nat) (gb153 : Nat) (gb154 : Nat) (gb155 : Nat) (m16_ : Value) (m17_ : Value) (m18_ : Value) (m19_ : Value), a = putSel a0_ b [(1, 20, .pointer (some ad140)), (2, 21, .string (rdOf ByteArray.empty t136 0)), (3, 22, .agg #[.int .i64 t141, .bool t142]), (5, 24, .pointer (some (ad140.add 1))), (6, 25, .string (rdOf ByteArray.empty t136 1)), (7, 26, .agg #[.int .i64 t144, .bool t145]), (9, 28, .pointer (some (ad140.add 2))), (10, 29, .string (rdOf ByteArray.empty t136 2)), (11, 30, .agg #[.string t147, .bool t148]), (13, 32, .pointer (some (ad140.add 3))), (14, 33, .string (rdOf ByteArray.empty t136 3)), (15, 34, .agg #[.string t150, .bool t151]), (16, 6, m16_), (17, 7, m17_), (18, 8, m18_), (19, 9, m19_)] ∧ (Kd.R Kd.string 9 w' w.heap.size (fun _ => True) (.slice (some ad140) t136.length co16) t136) ∧ (w'.heap[gb135]? = some (.cells #[.int .i64 0, .int .i64 0, .string (⟨#[]⟩ : ByteArray), .string (⟨#[]⟩ : ByteArray)] 36 (0, 0))) ∧ (Below w.heap.size w w') ∧ (b 16 = true → b 17 = true → gb153 ≠ gb152) ∧ (b 16 = true → b 17 = true → gb152 ≠ gb153) ∧ (b 16 = true → b 18 = true → gb154 ≠ gb152) ∧ (b 16 = true → b 18 = true → gb152 ≠ gb154) ∧ (b 16 = true → b 19 = true → gb155 ≠ gb152) ∧ (b 16 = true → b 19 = true → gb152 ≠ gb155) ∧ (b 17 = true → b 18 = true → gb154 ≠ gb153) ∧ (b 17 = true → b 18 = true → gb153 ≠ gb154) ∧ (b 17 = true → b 19 = true → gb155 ≠ gb153) ∧ (b 17 = true → b 19 = true → gb153 ≠ gb155) ∧ (b 18 = true → b 19 = true → gb155 ≠ gb154) ∧ (b 18 = true → b 19 = true → gb154 ≠ gb155) ∧ (b 16 = true → b 20 = false → w'.heap[gb152]? = some (.cells #[.int .i64 0, .bool false] 66 (0, 0))) ∧ (b 16 = true → w.heap.size ≤ gb152) ∧ (b 16 = true → w.heap.size ≤ gb152) ∧ (b 16 = true → gb135 ≠ gb152) ∧ (b 16 = true → gb152 ≠ gb135) ∧ (b 17 = true → b 21 = false → w'.heap[gb153]? = some (.cells #[.int .i64 0, .bool false] 66 (0, 0))) ∧ (b 17 = true → w.heap.size ≤ gb153) ∧ (b 17 = true → w.heap.size ≤ gb153) ∧ (b 17 = true → gb135 ≠ gb153) ∧ (b 17 = true → gb153 ≠ gb135) ∧ (b 18 = true → b 22 = false → w'.heap[gb154]? = some (.cells #[.string (⟨#[]⟩ : ByteArray), .bool false] 69 (0, 0))) ∧ (b 18 = true → w.heap.size ≤ gb154) ∧ (b 18 = true → w.heap.size ≤ gb154) ∧ (b 18 = true → gb135 ≠ gb154) ∧ (b 18 = true → gb154 ≠ gb135) ∧ (b 19 = true → b 23 = false → w'.heap[gb155]? = some (.cells #[.string (⟨#[]⟩ : ByteArray), .bool false] 69 (0, 0))) ∧ (b 19 = true → w.heap.size ≤ gb155) ∧ (b 19 = true → w.heap.size ≤ gb155) ∧ (b 19 = true → gb135 ≠ gb155) ∧ (b 19 = true → gb155 ≠ gb135) ∧ (b 20 = true → w'.heap[gb152]? = some (.cells #[.int .i64 t141, .bool t142] 66 (0, 0))) ∧ (b 21 = true → w'.heap[gb153]? = some (.cells #[.int .i64 t144, .bool t145] 66 (0, 0))) ∧ (b 22 = true → w'.heap[gb154]? = some (.cells #[.string t147, .bool t148] 69 (0, 0))) ∧ (b 23 = true → w'.heap[gb155]? = some (.cells #[.string t150, .bool t151] 69 (0, 0))) ∧ (b 16 = true → (m16_ : Value) = .pointer (some ⟨gb152, 0, none⟩)) ∧ (b 17 = true → (m17_ : Value) = .pointer (some ⟨gb153, 0, none⟩)) ∧ (b 18 = true → (m18_ : Value) = .pointer (some ⟨gb154, 0, none⟩)) ∧ (b 19 = true → (m19_ : Value) = .pointer (some ⟨gb155, 0, none⟩))) HT_.out HW_.out (by kernel_rfl) (by kernel_rfl) ?_ ?_ ?_
  · exact ⟨0, 0, 0, 0, .bool false, .bool false, .bool false, .bool false, by simp only [putSel, Bool.false_eq_true, if_false], HO139.out, BK135.out, HB.out, fun h_ => absurd h_ (by decide), fun h_ => absurd h_ (by decide), fun h_ => absurd h_ (by decide), fun h_ => absurd h_ (by decide), fun h_ => absurd h_ (by decide), fun h_ => absurd h_ (by decide), fun h_ => absurd h_ (by decide), fun h_ => absurd h_ (by decide), fun h_ => absurd h_ (by decide), fun h_ => absurd h_ (by decide), fun h_ => absurd h_ (by decide), fun h_ => absurd h_ (by decide), fun h_ => absurd h_ (by decide), fun h_ => absurd h_ (by decide), fun h_ => absurd h_ (by decide), fun h_ => absurd h_ (by decide), fun h_ => absurd h_ (by decide), fun h_ => absurd h_ (by decide), fun h_ => absurd h_ (by decide), fun h_ => absurd h_ (by decide), fun h_ => absurd h_ (by decide), fun h_ => absurd h_ (by decide), fun h_ => absurd h_ (by decide), fun h_ => absurd h_ (by decide), fun h_ => absurd h_ (by decide), fun h_ => absurd h_ (by decide), fun h_ => absurd h_ (by decide), fun h_ => absurd h_ (by decide), fun h_ => absurd h_ (by decide), fun h_ => absurd h_ (by decide), fun h_ => absurd h_ (by decide), fun h_ => absurd h_ (by decide), fun h_ => absurd h_ (by decide), fun h_ => absurd h_ (by decide), fun h_ => absurd h_ (by decide), fun h_ => absurd h_ (by decide), fun h_ => absurd h_ (by decide), fun h_ => absurd h_ (by decide), fun h_ => absurd h_ (by decide), fun h_ => absurd h_ (by decide)⟩
  · skip
    clear BK135 HB HO139
    refine steps_cons ?_ ?_
    · rintro b a w' ⟨gb152, gb153, gb154, gb155, m16_, m17_, m18_, m19_, ha, Y18, Y0, Y17, Y28, Y24, Y32, Y25, Y36, Y26, Y33, Y29, Y37, Y30, Y38, Y34, Y1, Y13, Y9, Y19, Y23, Y3, Y14, Y10, Y20, Y27, Y5, Y15, Y11, Y21, Y31, Y7, Y16, Y12, Y22, Y35, Y2, Y4, Y6, Y8, Y39, Y40, Y41, Y42⟩ hb_ hon hoff
      refine ⟨_, rfl, fun K hK => ?_⟩
      have e19 : a.tmps[19]? = some (.slice (some ad140) t136.length co16) := by rw [ha]; exact (putSel_off rfl).trans rfl
      replace ha := Aside0.mk ha
      have HO139 := Aside0.mk Y18
      have BK135 := Aside0.mk Y0
      have HB := Aside0.mk Y17
      refine value_ (w1 := w') (v := .pointer (some ad140)) (by rfl) rfl ?_ ?_
      · go_simp
        (try simp only [i64_w])
        try rfl
      refine hK.out _ _ ⟨gb152, gb153, gb154, gb155, m16_, m17_, m18_, m19_, (by rw [ha.out]; exact putSel_upk 0 hb_ rfl rfl rfl), Y18, Y0, Y17, Y28, Y24, Y32, Y25, Y36, Y26, Y33, Y29, Y37, Y30, Y38, Y34, Y1, Y13, Y9, Y19, Y23, Y3, Y14, Y10, Y20, Y27, Y5, Y15, Y11, Y21, Y31, Y7, Y16, Y12, Y22, Y35, fun h0_ => absurd ((hoff 20 (by kernel_rfl)).symm.trans h0_) (by decide), fun h0_ => absurd ((hoff 21 (by kernel_rfl)).symm.trans h0_) (by decide), fun h0_ => absurd ((hoff 22 (by kernel_rfl)).symm.trans h0_) (by decide), fun h0_ => absurd ((hoff 23 (by kernel_rfl)).symm.trans h0_) (by decide), Y39, Y40, Y41, Y42⟩
    refine steps_cons ?_ ?_
    · rintro b a w' ⟨gb152, gb153, gb154, gb155, m16_, m17_, m18_, m19_, ha, Y18, Y0, Y17, Y28, Y24, Y32, Y25, Y36, Y26, Y33, Y29, Y37, Y30, Y38, Y34, Y1, Y13, Y9, Y19, Y23, Y3, Y14, Y10, Y20, Y27, Y5, Y15, Y11, Y21, Y31, Y7, Y16, Y12, Y22, Y35, Y2, Y4, Y6, Y8, Y39, Y40, Y41, Y42⟩ hb_ hon hoff
      refine ⟨_, rfl, fun K hK => ?_⟩
      have e20 : a.tmps[20]? = some (.pointer (some ad140)) := by rw [ha]; exact putSel_on (e := (1, 20, .pointer (some ad140))) 0 rfl rfl (hon 1 (by kernel_rfl)) rfl
      replace ha := Aside0.mk ha
      have HO139 := Aside0.mk Y18
      have BK135 := Aside0.mk Y0
      have HB := Aside0.mk Y17
      obtain ⟨ad140_z, e140_z, hx140_0_z⟩ := Kd.at_string (Kd.R_reads' HO139.out).2.2 0 (of_eq_true p140) (of_eq_true q140)
      cases e140_z
      have hs0_ : w'.cell? ad140 = some (.string (rdOf ByteArray.empty t136 0)) := (by first | exact hx140_0_z | (have h_ := hx140_0_z; (try simp only [Int.reduceToNat, Nat.zero_mul, Nat.reduceMul, Nat.reduceEqDiff, Go.Addr.add, ↓reduceIte, Addr.add_zero'] at h_); exact h_))
      refine value_ (w1 := w') (v := .string (rdOf ByteArray.empty t136 0)) (by rfl) rfl ?_ ?_
      · go_simp
        (try simp only [i64_w])
        try rfl
      refine hK.out _ _ ⟨gb152, gb153, gb154, gb155, m16_, m17_, m18_, m19_, (by rw [ha.out]; exact putSel_upk 1 hb_ rfl rfl rfl), Y18, Y0, Y17, Y28, Y24, Y32, Y25, Y36, Y26, Y33, Y29, Y37, Y30, Y38, Y34, Y1, Y13, Y9, Y19, Y23, Y3, Y14, Y10, Y20, Y27, Y5, Y15, Y11, Y21, Y31, Y7, Y16, Y12, Y22, Y35, fun h0_ => absurd ((hoff 20 (by kernel_rfl)).symm.trans h0_) (by decide), fun h0_ => absurd ((hoff 21 (by kernel_rfl)).symm.trans h0_) (by decide), fun h0_ => absurd ((hoff 22 (by kernel_rfl)).symm.trans h0_) (by decide), fun h0_ => absurd ((hoff 23 (by kernel_rfl)).symm.trans h0_) (by decide), Y39, Y40, Y41, Y42⟩
    refine steps_cons ?_ ?_
    · rintro b a w' ⟨gb152, gb153, gb154, gb155, m16_, m17_, m18_, m19_, ha, Y18, Y0, Y17, Y28, Y24, Y32, Y25, Y36, Y26, Y33, Y29, Y37, Y30, Y38, Y34, Y1, Y13, Y9, Y19, Y23, Y3, Y14, Y10, Y20, Y27, Y5, Y15, Y11, Y21, Y31, Y7, Y16, Y12, Y22, Y35, Y2, Y4, Y6, Y8, Y39, Y40, Y41, Y42⟩ hb_ hon hoff
      refine ⟨_, rfl, fun K hK => ?_⟩
      have e21 : a.tmps[21]? = some (.string (rdOf ByteArray.empty t136 0)) := by rw [ha]; exact putSel_on (e := (2, 21, .string (rdOf ByteArray.empty t136 0))) 1 rfl rfl (hon 2 (by kernel_rfl)) rfl
      replace ha := Aside0.mk ha
      have HO139 := Aside0.mk Y18
      have BK135 := Aside0.mk Y0
      have HB := Aside0.mk Y17
      refine goes_ Try.func32 (by kernel_rfl) rfl #[.string (rdOf ByteArray.empty t136 0)] (by rfl) rfl rfl (by first | (simp only [List.map_toArray, List.map_cons, List.map_nil, Act.eval, Array.getD_eq_getD_getElem?, Option.getD_some, e21]; done) | (simp only [List.map_toArray, List.map_cons, List.map_nil, Act.eval, Array.getD_eq_getD_getElem?, Option.getD_some, e21]; rfl)) ?_
      with_reducible refine (wire_one.calls (rdOf ByteArray.empty t136 0) t141 t142 _ A5.out).mono ?_
      rintro e w17 ⟨rfl, hb⟩
      refine ⟨_, rfl, ?_⟩
      have n0_ := Aside0.mk (Kd.R_below (by (with_reducible repeat (first | apply Kd.R_alloc | apply Kd.R_drewN | apply Kd.R_drew)); exact HO139.out) hb)
      have n1_ := Aside0.mk (blk_below (g := gb135) (o := .cells #[.int .i64 0, .int .i64 0, .string (⟨#[]⟩ : ByteArray), .string (⟨#[]⟩ : ByteArray)] 36 (0, 0)) (by (with_reducible repeat (first | refine blk_drewN ?_ _ | refine blk_drew ?_ | refine blk_alloc ?_ _)); exact BK135.out) hb)
      have n2_ := Aside0.mk (below_step (by repeat (first | (with_reducible first | exact HB.out | apply below_alloc | apply pw_below_drewN | apply below_drew1 | refine below_set ?_ GE135.out) | exact HB.out)) hb)
      have Y43 := fun (h0_ : b 16 = true) (h1_ : b 20 = false) => (show w17.heap[gb152]? = some (.cells #[.int .i64 0, .bool false] 66 (0, 0)) from by first | exact (blk_below (g := gb152) (o := .cells #[.int .i64 0, .bool false] 66 (0, 0)) (by (with_reducible repeat (first | refine blk_drewN ?_ _ | refine blk_drew ?_ | refine blk_alloc ?_ _)); exact (Y1 h0_ h1_)) hb))
      have Y44 := fun (h0_ : b 17 = true) (h1_ : b 21 = false) => (show w17.heap[gb153]? = some (.cells #[.int .i64 0, .bool false] 66 (0, 0)) from by first | exact (blk_below (g := gb153) (o := .cells #[.int .i64 0, .bool false] 66 (0, 0)) (by (with_reducible repeat (first | refine blk_drewN ?_ _ | refine blk_drew ?_ | refine blk_alloc ?_ _)); exact (Y3 h0_ h1_)) hb))
      have Y45 := fun (h0_ : b 18 = true) (h1_ : b 22 = false) => (show w17.heap[gb154]? = some (.cells #[.string (⟨#[]⟩ : ByteArray), .bool false] 69 (0, 0)) from by first | exact (blk_below (g := gb154) (o := .cells #[.string (⟨#[]⟩ : ByteArray), .bool false] 69 (0, 0)) (by (with_reducible repeat (first | refine blk_drewN ?_ _ | refine blk_drew ?_ | refine blk_alloc ?_ _)); exact (Y5 h0_ h1_)) hb))
      have Y46 := fun (h0_ : b 19 = true) (h1_ : b 23 = false) => (show w17.heap[gb155]? = some (.cells #[.string (⟨#[]⟩ : ByteArray), .bool false] 69 (0, 0)) from by first | exact (blk_below (g := gb155) (o := .cells #[.string (⟨#[]⟩ : ByteArray), .bool false] 69 (0, 0)) (by (with_reducible repeat (first | refine blk_drewN ?_ _ | refine blk_drew ?_ | refine blk_alloc ?_ _)); exact (Y7 h0_ h1_)) hb))
      clear HO139
      clear BK135
      clear HB
      have HO139 := n0_
      have BK135 := n1_
      have HB := n2_
      clear n0_ n1_ n2_
      (try clear hb)
      (try clear hb2)
      (try clear hk)
      (try clear hi)
      refine hK.out _ _ ⟨gb152, gb153, gb154, gb155, m16_, m17_, m18_, m19_, (by rw [ha.out]; exact putSel_upk 2 hb_ rfl rfl rfl), (by (with_reducible repeat (first | apply Kd.R_alloc | apply Kd.R_drewN | apply Kd.R_drew)); exact HO139.out), (by (with_reducible repeat (first | refine blk_drewN ?_ _ | refine blk_drew ?_ | refine blk_alloc ?_ _)); exact BK135.out), (by repeat (first | (with_reducible first | exact HB.out | apply below_alloc | apply pw_below_drewN | apply below_drew1 | refine below_set ?_ GE135.out) | exact HB.out)), Y28, Y24, Y32, Y25, Y36, Y26, Y33, Y29, Y37, Y30, Y38, Y34, Y43, Y13, Y9, Y19, Y23, Y44, Y14, Y10, Y20, Y27, Y45, Y15, Y11, Y21, Y31, Y46, Y16, Y12, Y22, Y35, fun h0_ => absurd ((hoff 20 (by kernel_rfl)).symm.trans h0_) (by decide), fun h0_ => absurd ((hoff 21 (by kernel_rfl)).symm.trans h0_) (by decide), fun h0_ => absurd ((hoff 22 (by kernel_rfl)).symm.trans h0_) (by decide), fun h0_ => absurd ((hoff 23 (by kernel_rfl)).symm.trans h0_) (by decide), Y39, Y40, Y41, Y42⟩
    refine steps_cons ?_ ?_
    · rintro b a w' ⟨gb152, gb153, gb154, gb155, m16_, m17_, m18_, m19_, ha, Y18, Y0, Y17, Y28, Y24, Y32, Y25, Y36, Y26, Y33, Y29, Y37, Y30, Y38, Y34, Y1, Y13, Y9, Y19, Y23, Y3, Y14, Y10, Y20, Y27, Y5, Y15, Y11, Y21, Y31, Y7, Y16, Y12, Y22, Y35, Y2, Y4, Y6, Y8, Y39, Y40, Y41, Y42⟩ hb_ hon hoff
      refine ⟨_, rfl, fun K hK => ?_⟩
      have e23 : a.tmps[23]? = some (.slice (some ad140) t136.length co16) := by rw [ha]; exact (putSel_off rfl).trans rfl
      replace ha := Aside0.mk ha
      have HO139 := Aside0.mk Y18
      have BK135 := Aside0.mk Y0
      have HB := Aside0.mk Y17
      refine value_ (w1 := w') (v := .pointer (some (ad140.add 1))) (by rfl) rfl ?_ ?_
      · go_simp
        (try simp only [i64_w])
        try rfl
      refine hK.out _ _ ⟨gb152, gb153, gb154, gb155, m16_, m17_, m18_, m19_, (by rw [ha.out]; exact putSel_upk 3 hb_ rfl rfl rfl), Y18, Y0, Y17, Y28, Y24, Y32, Y25, Y36, Y26, Y33, Y29, Y37, Y30, Y38, Y34, Y1, Y13, Y9, Y19, Y23, Y3, Y14, Y10, Y20, Y27, Y5, Y15, Y11, Y21, Y31, Y7, Y16, Y12, Y22, Y35, fun h0_ => absurd ((hoff 20 (by kernel_rfl)).symm.trans h0_) (by decide), fun h0_ => absurd ((hoff 21 (by kernel_rfl)).symm.trans h0_) (by decide), fun h0_ => absurd ((hoff 22 (by kernel_rfl)).symm.trans h0_) (by decide), fun h0_ => absurd ((hoff 23 (by kernel_rfl)).symm.trans h0_) (by decide), Y39, Y40, Y41, Y42⟩
    refine steps_cons ?_ ?_
    · rintro b a w' ⟨gb152, gb153, gb154, gb155, m16_, m17_, m18_, m19_, ha, Y18, Y0, Y17, Y28, Y24, Y32, Y25, Y36, Y26, Y33, Y29, Y37, Y30, Y38, Y34, Y1, Y13, Y9, Y19, Y23, Y3, Y14, Y10, Y20, Y27, Y5, Y15, Y11, Y21, Y31, Y7, Y16, Y12, Y22, Y35, Y2, Y4, Y6, Y8, Y39, Y40, Y41, Y42⟩ hb_ hon hoff
      refine ⟨_, rfl, fun K hK => ?_⟩
      have e24 : a.tmps[24]? = some (.pointer (some (ad140.add 1))) := by rw [ha]; exact putSel_on (e := (5, 24, .pointer (some (ad140.add 1)))) 3 rfl rfl (hon 5 (by kernel_rfl)) rfl
      replace ha := Aside0.mk ha
      have HO139 := Aside0.mk Y18
      have BK135 := Aside0.mk Y0
      have HB := Aside0.mk Y17
      obtain ⟨ad143_z, e143_z, hx143_0_z⟩ := Kd.at_string (Kd.R_reads' HO139.out).2.2 1 (of_eq_true p143) (of_eq_true q143)
      cases e143_z
      have hs1_ : w'.cell? ⟨ad140.block, ad140.off + 1, none⟩ = some (.string (rdOf ByteArray.empty t136 1)) := (by first | exact hx143_0_z | (have h_ := hx143_0_z; (try simp only [Int.reduceToNat, Nat.zero_mul, Nat.reduceMul, Nat.reduceEqDiff, Go.Addr.add, ↓reduceIte, Addr.add_zero'] at h_); exact h_))
      refine value_ (w1 := w') (v := .string (rdOf ByteArray.empty t136 1)) (by rfl) rfl ?_ ?_
      · go_simp
        (try simp only [i64_w])
        try rfl
      refine hK.out _ _ ⟨gb152, gb153, gb154, gb155, m16_, m17_, m18_, m19_, (by rw [ha.out]; exact putSel_upk 4 hb_ rfl rfl rfl), Y18, Y0, Y17, Y28, Y24, Y32, Y25, Y36, Y26, Y33, Y29, Y37, Y30, Y38, Y34, Y1, Y13, Y9, Y19, Y23, Y3, Y14, Y10, Y20, Y27, Y5, Y15, Y11, Y21, Y31, Y7, Y16, Y12, Y22, Y35, fun h0_ => absurd ((hoff 20 (by kernel_rfl)).symm.trans h0_) (by decide), fun h0_ => absurd ((hoff 21 (by kernel_rfl)).symm.trans h0_) (by decide), fun h0_ => absurd ((hoff 22 (by kernel_rfl)).symm.trans h0_) (by decide), fun h0_ => absurd ((hoff 23 (by kernel_rfl)).symm.trans h0_) (by decide), Y39, Y40, Y41, Y42⟩
    refine steps_cons ?_ ?_
    · rintro b a w' ⟨gb152, gb153, gb154, gb155, m16_, m17_, m18_, m19_, ha, Y18, Y0, Y17, Y28, Y24, Y32, Y25, Y36, Y26, Y33, Y29, Y37, Y30, Y38, Y34, Y1, Y13, Y9, Y19, Y23, Y3, Y14, Y10, Y20, Y27, Y5, Y15, Y11, Y21, Y31, Y7, Y16, Y12, Y22, Y35, Y2, Y4, Y6, Y8, Y39, Y40, Y41, Y42⟩ hb_ hon hoff
      refine ⟨_, rfl, fun K hK => ?_⟩
      have e25 : a.tmps[25]? = some (.string (rdOf ByteArray.empty t136 1)) := by rw [ha]; exact putSel_on (e := (6, 25, .string (rdOf ByteArray.empty t136 1))) 4 rfl rfl (hon 6 (by kernel_rfl)) rfl
      replace ha := Aside0.mk ha
      have HO139 := Aside0.mk Y18
      have BK135 := Aside0.mk Y0
      have HB := Aside0.mk Y17
      refine goes_ Try.func32 (by kernel_rfl) rfl #[.string (rdOf ByteArray.empty t136 1)] (by rfl) rfl rfl (by first | (simp only [List.map_toArray, List.map_cons, List.map_nil, Act.eval, Array.getD_eq_getD_getElem?, Option.getD_some, e25]; done) | (simp only [List.map_toArray, List.map_cons, List.map_nil, Act.eval, Array.getD_eq_getD_getElem?, Option.getD_some, e25]; rfl)) ?_
      with_reducible refine (wire_one.calls (rdOf ByteArray.empty t136 1) t144 t145 _ A7.out).mono ?_
      rintro e w19 ⟨rfl, hb⟩
      refine ⟨_, rfl, ?_⟩
      have n0_ := Aside0.mk (Kd.R_below (by (with_reducible repeat (first | apply Kd.R_alloc | apply Kd.R_drewN | apply Kd.R_drew)); exact HO139.out) hb)
      have n1_ := Aside0.mk (blk_below (g := gb135) (o := .cells #[.int .i64 0, .int .i64 0, .string (⟨#[]⟩ : ByteArray), .string (⟨#[]⟩ : ByteArray)] 36 (0, 0)) (by (with_reducible repeat (first | refine blk_drewN ?_ _ | refine blk_drew ?_ | refine blk_alloc ?_ _)); exact BK135.out) hb)
      have n2_ := Aside0.mk (below_step (by repeat (first | (with_reducible first | exact HB.out | apply below_alloc | apply pw_below_drewN | apply below_drew1 | refine below_set ?_ GE135.out) | exact HB.out)) hb)
      have Y43 := fun (h0_ : b 16 = true) (h1_ : b 20 = false) => (show w19.heap[gb152]? = some (.cells #[.int .i64 0, .bool false] 66 (0, 0)) from by first | exact (blk_below (g := gb152) (o := .cells #[.int .i64 0, .bool false] 66 (0, 0)) (by (with_reducible repeat (first | refine blk_drewN ?_ _ | refine blk_drew ?_ | refine blk_alloc ?_ _)); exact (Y1 h0_ h1_)) hb))
      have Y44 := fun (h0_ : b 17 = true) (h1_ : b 21 = false) => (show w19.heap[gb153]? = some (.cells #[.int .i64 0, .bool false] 66 (0, 0)) from by first | exact (blk_below (g := gb153) (o := .cells #[.int .i64 0, .bool false] 66 (0, 0)) (by (with_reducible repeat (first | refine blk_drewN ?_ _ | refine blk_drew ?_ | refine blk_alloc ?_ _)); exact (Y3 h0_ h1_)) hb))
      have Y45 := fun (h0_ : b 18 = true) (h1_ : b 22 = false) => (show w19.heap[gb154]? = some (.cells #[.string (⟨#[]⟩ : ByteArray), .bool false] 69 (0, 0)) from by first | exact (blk_below (g := gb154) (o := .cells #[.string (⟨#[]⟩ : ByteArray), .bool false] 69 (0, 0)) (by (with_reducible repeat (first | refine blk_drewN ?_ _ | refine blk_drew ?_ | refine blk_alloc ?_ _)); exact (Y5 h0_ h1_)) hb))
      have Y46 := fun (h0_ : b 19 = true) (h1_ : b 23 = false) => (show w19.heap[gb155]? = some (.cells #[.string (⟨#[]⟩ : ByteArray), .bool false] 69 (0, 0)) from by first | exact (blk_below (g := gb155) (o := .cells #[.string (⟨#[]⟩ : ByteArray), .bool false] 69 (0, 0)) (by (with_reducible repeat (first | refine blk_drewN ?_ _ | refine blk_drew ?_ | refine blk_alloc ?_ _)); exact (Y7 h0_ h1_)) hb))
      clear HO139
      clear BK135
      clear HB
      have HO139 := n0_
      have BK135 := n1_
      have HB := n2_
      clear n0_ n1_ n2_
      (try clear hb)
      (try clear hb2)
      (try clear hk)
      (try clear hi)
      refine hK.out _ _ ⟨gb152, gb153, gb154, gb155, m16_, m17_, m18_, m19_, (by rw [ha.out]; exact putSel_upk 5 hb_ rfl rfl rfl), (by (with_reducible repeat (first | apply Kd.R_alloc | apply Kd.R_drewN | apply Kd.R_drew)); exact HO139.out), (by (with_reducible repeat (first | refine blk_drewN ?_ _ | refine blk_drew ?_ | refine blk_alloc ?_ _)); exact BK135.out), (by repeat (first | (with_reducible first | exact HB.out | apply below_alloc | apply pw_below_drewN | apply below_drew1 | refine below_set ?_ GE135.out) | exact HB.out)), Y28, Y24, Y32, Y25, Y36, Y26, Y33, Y29, Y37, Y30, Y38, Y34, Y43, Y13, Y9, Y19, Y23, Y44, Y14, Y10, Y20, Y27, Y45, Y15, Y11, Y21, Y31, Y46, Y16, Y12, Y22, Y35, fun h0_ => absurd ((hoff 20 (by kernel_rfl)).symm.trans h0_) (by decide), fun h0_ => absurd ((hoff 21 (by kernel_rfl)).symm.trans h0_) (by decide), fun h0_ => absurd ((hoff 22 (by kernel_rfl)).symm.trans h0_) (by decide), fun h0_ => absurd ((hoff 23 (by kernel_rfl)).symm.trans h0_) (by decide), Y39, Y40, Y41, Y42⟩
    refine steps_cons ?_ ?_
    · rintro b a w' ⟨gb152, gb153, gb154, gb155, m16_, m17_, m18_, m19_, ha, Y18, Y0, Y17, Y28, Y24, Y32, Y25, Y36, Y26, Y33, Y29, Y37, Y30, Y38, Y34, Y1, Y13, Y9, Y19, Y23, Y3, Y14, Y10, Y20, Y27, Y5, Y15, Y11, Y21, Y31, Y7, Y16, Y12, Y22, Y35, Y2, Y4, Y6, Y8, Y39, Y40, Y41, Y42⟩ hb_ hon hoff
      refine ⟨_, rfl, fun K hK => ?_⟩
      have e27 : a.tmps[27]? = some (.slice (some ad140) t136.length co16) := by rw [ha]; exact (putSel_off rfl).trans rfl
      replace ha := Aside0.mk ha
      have HO139 := Aside0.mk Y18
      have BK135 := Aside0.mk Y0
      have HB := Aside0.mk Y17
      refine value_ (w1 := w') (v := .pointer (some (ad140.add 2))) (by rfl) rfl ?_ ?_
      · go_simp
        (try simp only [i64_w])
        try rfl
      refine hK.out _ _ ⟨gb152, gb153, gb154, gb155, m16_, m17_, m18_, m19_, (by rw [ha.out]; exact putSel_upk 6 hb_ rfl rfl rfl), Y18, Y0, Y17, Y28, Y24, Y32, Y25, Y36, Y26, Y33, Y29, Y37, Y30, Y38, Y34, Y1, Y13, Y9, Y19, Y23, Y3, Y14, Y10, Y20, Y27, Y5, Y15, Y11, Y21, Y31, Y7, Y16, Y12, Y22, Y35, fun h0_ => absurd ((hoff 20 (by kernel_rfl)).symm.trans h0_) (by decide), fun h0_ => absurd ((hoff 21 (by kernel_rfl)).symm.trans h0_) (by decide), fun h0_ => absurd ((hoff 22 (by kernel_rfl)).symm.trans h0_) (by decide), fun h0_ => absurd ((hoff 23 (by kernel_rfl)).symm.trans h0_) (by decide), Y39, Y40, Y41, Y42⟩
    refine steps_cons ?_ ?_
    · rintro b a w' ⟨gb152, gb153, gb154, gb155, m16_, m17_, m18_, m19_, ha, Y18, Y0, Y17, Y28, Y24, Y32, Y25, Y36, Y26, Y33, Y29, Y37, Y30, Y38, Y34, Y1, Y13, Y9, Y19, Y23, Y3, Y14, Y10, Y20, Y27, Y5, Y15, Y11, Y21, Y31, Y7, Y16, Y12, Y22, Y35, Y2, Y4, Y6, Y8, Y39, Y40, Y41, Y42⟩ hb_ hon hoff
      refine ⟨_, rfl, fun K hK => ?_⟩
      have e28 : a.tmps[28]? = some (.pointer (some (ad140.add 2))) := by rw [ha]; exact putSel_on (e := (9, 28, .pointer (some (ad140.add 2)))) 6 rfl rfl (hon 9 (by kernel_rfl)) rfl
      replace ha := Aside0.mk ha
      have HO139 := Aside0.mk Y18
      have BK135 := Aside0.mk Y0
      have HB := Aside0.mk Y17
      obtain ⟨ad146_z, e146_z, hx146_0_z⟩ := Kd.at_string (Kd.R_reads' HO139.out).2.2 2 (of_eq_true p146) (of_eq_true q146)
      cases e146_z
      have hs2_ : w'.cell? ⟨ad140.block, ad140.off + 2, none⟩ = some (.string (rdOf ByteArray.empty t136 2)) := (by first | exact hx146_0_z | (have h_ := hx146_0_z; (try simp only [Int.reduceToNat, Nat.zero_mul, Nat.reduceMul, Nat.reduceEqDiff, Go.Addr.add, ↓reduceIte, Addr.add_zero'] at h_); exact h_))
      refine value_ (w1 := w') (v := .string (rdOf ByteArray.empty t136 2)) (by rfl) rfl ?_ ?_
      · go_simp
        (try simp only [i64_w])
        try rfl
      refine hK.out _ _ ⟨gb152, gb153, gb154, gb155, m16_, m17_, m18_, m19_, (by rw [ha.out]; exact putSel_upk 7 hb_ rfl rfl rfl), Y18, Y0, Y17, Y28, Y24, Y32, Y25, Y36, Y26, Y33, Y29, Y37, Y30, Y38, Y34, Y1, Y13, Y9, Y19, Y23, Y3, Y14, Y10, Y20, Y27, Y5, Y15, Y11, Y21, Y31, Y7, Y16, Y12, Y22, Y35, fun h0_ => absurd ((hoff 20 (by kernel_rfl)).symm.trans h0_) (by decide), fun h0_ => absurd ((hoff 21 (by kernel_rfl)).symm.trans h0_) (by decide), fun h0_ => absurd ((hoff 22 (by kernel_rfl)).symm.trans h0_) (by decide), fun h0_ => absurd ((hoff 23 (by kernel_rfl)).symm.trans h0_) (by decide), Y39, Y40, Y41, Y42⟩
    refine steps_cons ?_ ?_
    · rintro b a w' ⟨gb152, gb153, gb154, gb155, m16_, m17_, m18_, m19_, ha, Y18, Y0, Y17, Y28, Y24, Y32, Y25, Y36, Y26, Y33, Y29, Y37, Y30, Y38, Y34, Y1, Y13, Y9, Y19, Y23, Y3, Y14, Y10, Y20, Y27, Y5, Y15, Y11, Y21, Y31, Y7, Y16, Y12, Y22, Y35, Y2, Y4, Y6, Y8, Y39, Y40, Y41, Y42⟩ hb_ hon hoff
      refine ⟨_, rfl, fun K hK => ?_⟩
      have e29 : a.tmps[29]? = some (.string (rdOf ByteArray.empty t136 2)) := by rw [ha]; exact putSel_on (e := (10, 29, .string (rdOf ByteArray.empty t136 2))) 7 rfl rfl (hon 10 (by kernel_rfl)) rfl
      replace ha := Aside0.mk ha
      have HO139 := Aside0.mk Y18
      have BK135 := Aside0.mk Y0
      have HB := Aside0.mk Y17
      refine goes_ Try.func33 (by kernel_rfl) rfl #[.string (rdOf ByteArray.empty t136 2)] (by rfl) rfl rfl (by first | (simp only [List.map_toArray, List.map_cons, List.map_nil, Act.eval, Array.getD_eq_getD_getElem?, Option.getD_some, e29]; done) | (simp only [List.map_toArray, List.map_cons, List.map_nil, Act.eval, Array.getD_eq_getD_getElem?, Option.getD_some, e29]; rfl)) ?_
      with_reducible refine (wire_text.calls (rdOf ByteArray.empty t136 2) t147 t148 _ A9.out).mono ?_
      rintro e w20 ⟨rfl, hb⟩
      refine ⟨_, rfl, ?_⟩
      have n0_ := Aside0.mk (Kd.R_below (by (with_reducible repeat (first | apply Kd.R_alloc | apply Kd.R_drewN | apply Kd.R_drew)); exact HO139.out) hb)
      have n1_ := Aside0.mk (blk_below (g := gb135) (o := .cells #[.int .i64 0, .int .i64 0, .string (⟨#[]⟩ : ByteArray), .string (⟨#[]⟩ : ByteArray)] 36 (0, 0)) (by (with_reducible repeat (first | refine blk_drewN ?_ _ | refine blk_drew ?_ | refine blk_alloc ?_ _)); exact BK135.out) hb)
      have n2_ := Aside0.mk (below_step (by repeat (first | (with_reducible first | exact HB.out | apply below_alloc | apply pw_below_drewN | apply below_drew1 | refine below_set ?_ GE135.out) | exact HB.out)) hb)
      have Y43 := fun (h0_ : b 16 = true) (h1_ : b 20 = false) => (show w20.heap[gb152]? = some (.cells #[.int .i64 0, .bool false] 66 (0, 0)) from by first | exact (blk_below (g := gb152) (o := .cells #[.int .i64 0, .bool false] 66 (0, 0)) (by (with_reducible repeat (first | refine blk_drewN ?_ _ | refine blk_drew ?_ | refine blk_alloc ?_ _)); exact (Y1 h0_ h1_)) hb))
      have Y44 := fun (h0_ : b 17 = true) (h1_ : b 21 = false) => (show w20.heap[gb153]? = some (.cells #[.int .i64 0, .bool false] 66 (0, 0)) from by first | exact (blk_below (g := gb153) (o := .cells #[.int .i64 0, .bool false] 66 (0, 0)) (by (with_reducible repeat (first | refine blk_drewN ?_ _ | refine blk_drew ?_ | refine blk_alloc ?_ _)); exact (Y3 h0_ h1_)) hb))
      have Y45 := fun (h0_ : b 18 = true) (h1_ : b 22 = false) => (show w20.heap[gb154]? = some (.cells #[.string (⟨#[]⟩ : ByteArray), .bool false] 69 (0, 0)) from by first | exact (blk_below (g := gb154) (o := .cells #[.string (⟨#[]⟩ : ByteArray), .bool false] 69 (0, 0)) (by (with_reducible repeat (first | refine blk_drewN ?_ _ | refine blk_drew ?_ | refine blk_alloc ?_ _)); exact (Y5 h0_ h1_)) hb))
      have Y46 := fun (h0_ : b 19 = true) (h1_ : b 23 = false) => (show w20.heap[gb155]? = some (.cells #[.string (⟨#[]⟩ : ByteArray), .bool false] 69 (0, 0)) from by first | exact (blk_below (g := gb155) (o := .cells #[.string (⟨#[]⟩ : ByteArray), .bool false] 69 (0, 0)) (by (with_reducible repeat (first | refine blk_drewN ?_ _ | refine blk_drew ?_ | refine blk_alloc ?_ _)); exact (Y7 h0_ h1_)) hb))
      clear HO139
      clear BK135
      clear HB
      have HO139 := n0_
      have BK135 := n1_
      have HB := n2_
      clear n0_ n1_ n2_
      (try clear hb)
      (try clear hb2)
      (try clear hk)
      (try clear hi)
      refine hK.out _ _ ⟨gb152, gb153, gb154, gb155, m16_, m17_, m18_, m19_, (by rw [ha.out]; exact putSel_upk 8 hb_ rfl rfl rfl), (by (with_reducible repeat (first | apply Kd.R_alloc | apply Kd.R_drewN | apply Kd.R_drew)); exact HO139.out), (by (with_reducible repeat (first | refine blk_drewN ?_ _ | refine blk_drew ?_ | refine blk_alloc ?_ _)); exact BK135.out), (by repeat (first | (with_reducible first | exact HB.out | apply below_alloc | apply pw_below_drewN | apply below_drew1 | refine below_set ?_ GE135.out) | exact HB.out)), Y28, Y24, Y32, Y25, Y36, Y26, Y33, Y29, Y37, Y30, Y38, Y34, Y43, Y13, Y9, Y19, Y23, Y44, Y14, Y10, Y20, Y27, Y45, Y15, Y11, Y21, Y31, Y46, Y16, Y12, Y22, Y35, fun h0_ => absurd ((hoff 20 (by kernel_rfl)).symm.trans h0_) (by decide), fun h0_ => absurd ((hoff 21 (by kernel_rfl)).symm.trans h0_) (by decide), fun h0_ => absurd ((hoff 22 (by kernel_rfl)).symm.trans h0_) (by decide), fun h0_ => absurd ((hoff 23 (by kernel_rfl)).symm.trans h0_) (by decide), Y39, Y40, Y41, Y42⟩
    refine steps_cons ?_ ?_
    · rintro b a w' ⟨gb152, gb153, gb154, gb155, m16_, m17_, m18_, m19_, ha, Y18, Y0, Y17, Y28, Y24, Y32, Y25, Y36, Y26, Y33, Y29, Y37, Y30, Y38, Y34, Y1, Y13, Y9, Y19, Y23, Y3, Y14, Y10, Y20, Y27, Y5, Y15, Y11, Y21, Y31, Y7, Y16, Y12, Y22, Y35, Y2, Y4, Y6, Y8, Y39, Y40, Y41, Y42⟩ hb_ hon hoff
      refine ⟨_, rfl, fun K hK => ?_⟩
      have e31 : a.tmps[31]? = some (.slice (some ad140) t136.length co16) := by rw [ha]; exact (putSel_off rfl).trans rfl
      replace ha := Aside0.mk ha
      have HO139 := Aside0.mk Y18
      have BK135 := Aside0.mk Y0
      have HB := Aside0.mk Y17
      refine value_ (w1 := w') (v := .pointer (some (ad140.add 3))) (by rfl) rfl ?_ ?_
      · go_simp
        (try simp only [i64_w])
        try rfl
      refine hK.out _ _ ⟨gb152, gb153, gb154, gb155, m16_, m17_, m18_, m19_, (by rw [ha.out]; exact putSel_upk 9 hb_ rfl rfl rfl), Y18, Y0, Y17, Y28, Y24, Y32, Y25, Y36, Y26, Y33, Y29, Y37, Y30, Y38, Y34, Y1, Y13, Y9, Y19, Y23, Y3, Y14, Y10, Y20, Y27, Y5, Y15, Y11, Y21, Y31, Y7, Y16, Y12, Y22, Y35, fun h0_ => absurd ((hoff 20 (by kernel_rfl)).symm.trans h0_) (by decide), fun h0_ => absurd ((hoff 21 (by kernel_rfl)).symm.trans h0_) (by decide), fun h0_ => absurd ((hoff 22 (by kernel_rfl)).symm.trans h0_) (by decide), fun h0_ => absurd ((hoff 23 (by kernel_rfl)).symm.trans h0_) (by decide), Y39, Y40, Y41, Y42⟩
    refine steps_cons ?_ ?_
    · rintro b a w' ⟨gb152, gb153, gb154, gb155, m16_, m17_, m18_, m19_, ha, Y18, Y0, Y17, Y28, Y24, Y32, Y25, Y36, Y26, Y33, Y29, Y37, Y30, Y38, Y34, Y1, Y13, Y9, Y19, Y23, Y3, Y14, Y10, Y20, Y27, Y5, Y15, Y11, Y21, Y31, Y7, Y16, Y12, Y22, Y35, Y2, Y4, Y6, Y8, Y39, Y40, Y41, Y42⟩ hb_ hon hoff
      refine ⟨_, rfl, fun K hK => ?_⟩
      have e32 : a.tmps[32]? = some (.pointer (some (ad140.add 3))) := by rw [ha]; exact putSel_on (e := (13, 32, .pointer (some (ad140.add 3)))) 9 rfl rfl (hon 13 (by kernel_rfl)) rfl
      replace ha := Aside0.mk ha
      have HO139 := Aside0.mk Y18
      have BK135 := Aside0.mk Y0
      have HB := Aside0.mk Y17
      obtain ⟨ad149_z, e149_z, hx149_0_z⟩ := Kd.at_string (Kd.R_reads' HO139.out).2.2 3 (of_eq_true p149) (of_eq_true q149)
      cases e149_z
      have hs3_ : w'.cell? ⟨ad140.block, ad140.off + 3, none⟩ = some (.string (rdOf ByteArray.empty t136 3)) := (by first | exact hx149_0_z | (have h_ := hx149_0_z; (try simp only [Int.reduceToNat, Nat.zero_mul, Nat.reduceMul, Nat.reduceEqDiff, Go.Addr.add, ↓reduceIte, Addr.add_zero'] at h_); exact h_))
      refine value_ (w1 := w') (v := .string (rdOf ByteArray.empty t136 3)) (by rfl) rfl ?_ ?_
      · go_simp
        (try simp only [i64_w])
        try rfl
      refine hK.out _ _ ⟨gb152, gb153, gb154, gb155, m16_, m17_, m18_, m19_, (by rw [ha.out]; exact putSel_upk 10 hb_ rfl rfl rfl), Y18, Y0, Y17, Y28, Y24, Y32, Y25, Y36, Y26, Y33, Y29, Y37, Y30, Y38, Y34, Y1, Y13, Y9, Y19, Y23, Y3, Y14, Y10, Y20, Y27, Y5, Y15, Y11, Y21, Y31, Y7, Y16, Y12, Y22, Y35, fun h0_ => absurd ((hoff 20 (by kernel_rfl)).symm.trans h0_) (by decide), fun h0_ => absurd ((hoff 21 (by kernel_rfl)).symm.trans h0_) (by decide), fun h0_ => absurd ((hoff 22 (by kernel_rfl)).symm.trans h0_) (by decide), fun h0_ => absurd ((hoff 23 (by kernel_rfl)).symm.trans h0_) (by decide), Y39, Y40, Y41, Y42⟩
    refine steps_cons ?_ ?_
    · rintro b a w' ⟨gb152, gb153, gb154, gb155, m16_, m17_, m18_, m19_, ha, Y18, Y0, Y17, Y28, Y24, Y32, Y25, Y36, Y26, Y33, Y29, Y37, Y30, Y38, Y34, Y1, Y13, Y9, Y19, Y23, Y3, Y14, Y10, Y20, Y27, Y5, Y15, Y11, Y21, Y31, Y7, Y16, Y12, Y22, Y35, Y2, Y4, Y6, Y8, Y39, Y40, Y41, Y42⟩ hb_ hon hoff
      refine ⟨_, rfl, fun K hK => ?_⟩
      have e33 : a.tmps[33]? = some (.string (rdOf ByteArray.empty t136 3)) := by rw [ha]; exact putSel_on (e := (14, 33, .string (rdOf ByteArray.empty t136 3))) 10 rfl rfl (hon 14 (by kernel_rfl)) rfl
      replace ha := Aside0.mk ha
      have HO139 := Aside0.mk Y18
      have BK135 := Aside0.mk Y0
      have HB := Aside0.mk Y17
      refine goes_ Try.func33 (by kernel_rfl) rfl #[.string (rdOf ByteArray.empty t136 3)] (by rfl) rfl rfl (by first | (simp only [List.map_toArray, List.map_cons, List.map_nil, Act.eval, Array.getD_eq_getD_getElem?, Option.getD_some, e33]; done) | (simp only [List.map_toArray, List.map_cons, List.map_nil, Act.eval, Array.getD_eq_getD_getElem?, Option.getD_some, e33]; rfl)) ?_
      with_reducible refine (wire_text.calls (rdOf ByteArray.empty t136 3) t150 t151 _ A11.out).mono ?_
      rintro e w21 ⟨rfl, hb⟩
      refine ⟨_, rfl, ?_⟩
      have n0_ := Aside0.mk (Kd.R_below (by (with_reducible repeat (first | apply Kd.R_alloc | apply Kd.R_drewN | apply Kd.R_drew)); exact HO139.out) hb)
      have n1_ := Aside0.mk (blk_below (g := gb135) (o := .cells #[.int .i64 0, .int .i64 0, .string (⟨#[]⟩ : ByteArray), .string (⟨#[]⟩ : ByteArray)] 36 (0, 0)) (by (with_reducible repeat (first | refine blk_drewN ?_ _ | refine blk_drew ?_ | refine blk_alloc ?_ _)); exact BK135.out) hb)
      have n2_ := Aside0.mk (below_step (by repeat (first | (with_reducible first | exact HB.out | apply below_alloc | apply pw_below_drewN | apply below_drew1 | refine below_set ?_ GE135.out) | exact HB.out)) hb)
      have Y43 := fun (h0_ : b 16 = true) (h1_ : b 20 = false) => (show w21.heap[gb152]? = some (.cells #[.int .i64 0, .bool false] 66 (0, 0)) from by first | exact (blk_below (g := gb152) (o := .cells #[.int .i64 0, .bool false] 66 (0, 0)) (by (with_reducible repeat (first | refine blk_drewN ?_ _ | refine blk_drew ?_ | refine blk_alloc ?_ _)); exact (Y1 h0_ h1_)) hb))
      have Y44 := fun (h0_ : b 17 = true) (h1_ : b 21 = false) => (show w21.heap[gb153]? = some (.cells #[.int .i64 0, .bool false] 66 (0, 0)) from by first | exact (blk_below (g := gb153) (o := .cells #[.int .i64 0, .bool false] 66 (0, 0)) (by (with_reducible repeat (first | refine blk_drewN ?_ _ | refine blk_drew ?_ | refine blk_alloc ?_ _)); exact (Y3 h0_ h1_)) hb))
      have Y45 := fun (h0_ : b 18 = true) (h1_ : b 22 = false) => (show w21.heap[gb154]? = some (.cells #[.string (⟨#[]⟩ : ByteArray), .bool false] 69 (0, 0)) from by first | exact (blk_below (g := gb154) (o := .cells #[.string (⟨#[]⟩ : ByteArray), .bool false] 69 (0, 0)) (by (with_reducible repeat (first | refine blk_drewN ?_ _ | refine blk_drew ?_ | refine blk_alloc ?_ _)); exact (Y5 h0_ h1_)) hb))
      have Y46 := fun (h0_ : b 19 = true) (h1_ : b 23 = false) => (show w21.heap[gb155]? = some (.cells #[.string (⟨#[]⟩ : ByteArray), .bool false] 69 (0, 0)) from by first | exact (blk_below (g := gb155) (o := .cells #[.string (⟨#[]⟩ : ByteArray), .bool false] 69 (0, 0)) (by (with_reducible repeat (first | refine blk_drewN ?_ _ | refine blk_drew ?_ | refine blk_alloc ?_ _)); exact (Y7 h0_ h1_)) hb))
      clear HO139
      clear BK135
      clear HB
      have HO139 := n0_
      have BK135 := n1_
      have HB := n2_
      clear n0_ n1_ n2_
      (try clear hb)
      (try clear hb2)
      (try clear hk)
      (try clear hi)
      refine hK.out _ _ ⟨gb152, gb153, gb154, gb155, m16_, m17_, m18_, m19_, (by rw [ha.out]; exact putSel_upk 11 hb_ rfl rfl rfl), (by (with_reducible repeat (first | apply Kd.R_alloc | apply Kd.R_drewN | apply Kd.R_drew)); exact HO139.out), (by (with_reducible repeat (first | refine blk_drewN ?_ _ | refine blk_drew ?_ | refine blk_alloc ?_ _)); exact BK135.out), (by repeat (first | (with_reducible first | exact HB.out | apply below_alloc | apply pw_below_drewN | apply below_drew1 | refine below_set ?_ GE135.out) | exact HB.out)), Y28, Y24, Y32, Y25, Y36, Y26, Y33, Y29, Y37, Y30, Y38, Y34, Y43, Y13, Y9, Y19, Y23, Y44, Y14, Y10, Y20, Y27, Y45, Y15, Y11, Y21, Y31, Y46, Y16, Y12, Y22, Y35, fun h0_ => absurd ((hoff 20 (by kernel_rfl)).symm.trans h0_) (by decide), fun h0_ => absurd ((hoff 21 (by kernel_rfl)).symm.trans h0_) (by decide), fun h0_ => absurd ((hoff 22 (by kernel_rfl)).symm.trans h0_) (by decide), fun h0_ => absurd ((hoff 23 (by kernel_rfl)).symm.trans h0_) (by decide), Y39, Y40, Y41, Y42⟩
    refine steps_cons ?_ ?_
    · rintro b a w' ⟨gb152, gb153, gb154, gb155, m16_, m17_, m18_, m19_, ha, Y18, Y0, Y17, Y28, Y24, Y32, Y25, Y36, Y26, Y33, Y29, Y37, Y30, Y38, Y34, Y1, Y13, Y9, Y19, Y23, Y3, Y14, Y10, Y20, Y27, Y5, Y15, Y11, Y21, Y31, Y7, Y16, Y12, Y22, Y35, Y2, Y4, Y6, Y8, Y39, Y40, Y41, Y42⟩ hb_ hon hoff
      refine ⟨_, rfl, fun K hK => ?_⟩
      replace ha := Aside0.mk ha
      have HO139 := Aside0.mk Y18
      have BK135 := Aside0.mk Y0
      have HB := Aside0.mk Y17
      refine box_step ?hg (N := 6) ?hd (cs := #[.int .i64 0, .bool false]) (t := 66) ?hr ?_; (case hd => rfl); (case hg => rfl); (case hr => first | (go_simp; done) | (go_simp; rfl))
      intro gb152 hg w17 hbox hb
      have n0_ := Aside0.mk (Kd.R_below (by (with_reducible repeat (first | apply Kd.R_alloc | apply Kd.R_drewN | apply Kd.R_drew)); exact HO139.out) hb)
      have n1_ := Aside0.mk (blk_below (g := gb135) (o := .cells #[.int .i64 0, .int .i64 0, .string (⟨#[]⟩ : ByteArray), .string (⟨#[]⟩ : ByteArray)] 36 (0, 0)) (by (with_reducible repeat (first | refine blk_drewN ?_ _ | refine blk_drew ?_ | refine blk_alloc ?_ _)); exact BK135.out) hb)
      have n2_ := Aside0.mk (below_step (by repeat (first | (with_reducible first | exact HB.out | apply below_alloc | apply pw_below_drewN | apply below_drew1 | refine below_set ?_ GE135.out) | exact HB.out)) hb)
      have n3_ := Aside0.mk (hbox)
      have n4_ := Aside0.mk ((by rw [hg]; exact (below_size (by repeat (first | (with_reducible first | exact HB.out | apply below_alloc | apply pw_below_drewN | apply below_drew1 | refine below_set ?_ GE135.out) | exact HB.out))) : w.heap.size ≤ gb152))
      have n5_ := Aside0.mk ((by rw [hg]; exact (below_size (by repeat (first | (with_reducible first | exact HB.out | apply below_alloc | apply pw_below_drewN | apply below_drew1 | refine below_set ?_ GE135.out) | exact HB.out))) : w.heap.size ≤ gb152))
      have n6_ := Aside0.mk ((by rw [hg]; exact Nat.ne_of_lt (blk_lt (g := gb135) (o := .cells #[.int .i64 0, .int .i64 0, .string (⟨#[]⟩ : ByteArray), .string (⟨#[]⟩ : ByteArray)] 36 (0, 0)) (by (with_reducible repeat (first | refine blk_drewN ?_ _ | refine blk_drew ?_ | refine blk_alloc ?_ _)); exact BK135.out)) : gb135 ≠ gb152))
      have n7_ := Aside0.mk ((by rw [hg]; exact Nat.ne_of_gt (blk_lt (g := gb135) (o := .cells #[.int .i64 0, .int .i64 0, .string (⟨#[]⟩ : ByteArray), .string (⟨#[]⟩ : ByteArray)] 36 (0, 0)) (by (with_reducible repeat (first | refine blk_drewN ?_ _ | refine blk_drew ?_ | refine blk_alloc ?_ _)); exact BK135.out)) : gb152 ≠ gb135))
      have Y50 := fun (h0_ : up b 16 16 = true) (h1_ : up b 16 17 = true) => (show gb153 ≠ gb152 from ((by rw [hg]; exact Nat.ne_of_lt (blk_lt (g := gb153) (o := .cells #[.int .i64 0, .bool false] 66 (0, 0)) (by (with_reducible repeat (first | refine blk_drewN ?_ _ | refine blk_drew ?_ | refine blk_alloc ?_ _)); exact (Y3 h1_ (hoff 21 (by kernel_rfl))))) : gb153 ≠ gb152)))
      have Y47 := fun (h0_ : up b 16 16 = true) (h1_ : up b 16 17 = true) => (show gb152 ≠ gb153 from ((by rw [hg]; exact Nat.ne_of_gt (blk_lt (g := gb153) (o := .cells #[.int .i64 0, .bool false] 66 (0, 0)) (by (with_reducible repeat (first | refine blk_drewN ?_ _ | refine blk_drew ?_ | refine blk_alloc ?_ _)); exact (Y3 h1_ (hoff 21 (by kernel_rfl))))) : gb152 ≠ gb153)))
      have Y53 := fun (h0_ : up b 16 16 = true) (h1_ : up b 16 18 = true) => (show gb154 ≠ gb152 from ((by rw [hg]; exact Nat.ne_of_lt (blk_lt (g := gb154) (o := .cells #[.string (⟨#[]⟩ : ByteArray), .bool false] 69 (0, 0)) (by (with_reducible repeat (first | refine blk_drewN ?_ _ | refine blk_drew ?_ | refine blk_alloc ?_ _)); exact (Y5 h1_ (hoff 22 (by kernel_rfl))))) : gb154 ≠ gb152)))
      have Y48 := fun (h0_ : up b 16 16 = true) (h1_ : up b 16 18 = true) => (show gb152 ≠ gb154 from ((by rw [hg]; exact Nat.ne_of_gt (blk_lt (g := gb154) (o := .cells #[.string (⟨#[]⟩ : ByteArray), .bool false] 69 (0, 0)) (by (with_reducible repeat (first | refine blk_drewN ?_ _ | refine blk_drew ?_ | refine blk_alloc ?_ _)); exact (Y5 h1_ (hoff 22 (by kernel_rfl))))) : gb152 ≠ gb154)))
      have Y56 := fun (h0_ : up b 16 16 = true) (h1_ : up b 16 19 = true) => (show gb155 ≠ gb152 from ((by rw [hg]; exact Nat.ne_of_lt (blk_lt (g := gb155) (o := .cells #[.string (⟨#[]⟩ : ByteArray), .bool false] 69 (0, 0)) (by (with_reducible repeat (first | refine blk_drewN ?_ _ | refine blk_drew ?_ | refine blk_alloc ?_ _)); exact (Y7 h1_ (hoff 23 (by kernel_rfl))))) : gb155 ≠ gb152)))
      have Y49 := fun (h0_ : up b 16 16 = true) (h1_ : up b 16 19 = true) => (show gb152 ≠ gb155 from ((by rw [hg]; exact Nat.ne_of_gt (blk_lt (g := gb155) (o := .cells #[.string (⟨#[]⟩ : ByteArray), .bool false] 69 (0, 0)) (by (with_reducible repeat (first | refine blk_drewN ?_ _ | refine blk_drew ?_ | refine blk_alloc ?_ _)); exact (Y7 h1_ (hoff 23 (by kernel_rfl))))) : gb152 ≠ gb155)))
      have Y44 := fun (h0_ : b 17 = true) (h1_ : b 21 = false) => (show w17.heap[gb153]? = some (.cells #[.int .i64 0, .bool false] 66 (0, 0)) from by first | exact (blk_below (g := gb153) (o := .cells #[.int .i64 0, .bool false] 66 (0, 0)) (by (with_reducible repeat (first | refine blk_drewN ?_ _ | refine blk_drew ?_ | refine blk_alloc ?_ _)); exact (Y3 h0_ h1_)) hb))
      have Y45 := fun (h0_ : b 18 = true) (h1_ : b 22 = false) => (show w17.heap[gb154]? = some (.cells #[.string (⟨#[]⟩ : ByteArray), .bool false] 69 (0, 0)) from by first | exact (blk_below (g := gb154) (o := .cells #[.string (⟨#[]⟩ : ByteArray), .bool false] 69 (0, 0)) (by (with_reducible repeat (first | refine blk_drewN ?_ _ | refine blk_drew ?_ | refine blk_alloc ?_ _)); exact (Y5 h0_ h1_)) hb))
      have Y46 := fun (h0_ : b 19 = true) (h1_ : b 23 = false) => (show w17.heap[gb155]? = some (.cells #[.string (⟨#[]⟩ : ByteArray), .bool false] 69 (0, 0)) from by first | exact (blk_below (g := gb155) (o := .cells #[.string (⟨#[]⟩ : ByteArray), .bool false] 69 (0, 0)) (by (with_reducible repeat (first | refine blk_drewN ?_ _ | refine blk_drew ?_ | refine blk_alloc ?_ _)); exact (Y7 h0_ h1_)) hb))
      clear HO139
      clear BK135
      clear HB
      have HO139 := n0_
      have BK135 := n1_
      have HB := n2_
      have BK152 := n3_
      have GW152 := n4_
      have GE152 := n5_
      have NB135_152 := n6_
      have NB152_135 := n7_
      clear n0_ n1_ n2_ n3_ n4_ n5_ n6_ n7_
      clear hb hbox hg
      refine hK.out _ _ ⟨gb152, gb153, gb154, gb155, (.pointer (some ⟨gb152, 0, none⟩)), m17_, m18_, m19_, (by rw [ha.out]; exact putSel_upk 12 hb_ rfl rfl rfl), (by (with_reducible repeat (first | apply Kd.R_alloc | apply Kd.R_drewN | apply Kd.R_drew)); exact HO139.out), (by (with_reducible repeat (first | refine blk_drewN ?_ _ | refine blk_drew ?_ | refine blk_alloc ?_ _)); exact BK135.out), (by repeat (first | (with_reducible first | exact HB.out | apply below_alloc | apply pw_below_drewN | apply below_drew1 | refine below_set ?_ GE135.out | refine below_set ?_ GE152.out) | exact HB.out)), Y50, Y47, Y53, Y48, Y56, Y49, Y33, Y29, Y37, Y30, Y38, Y34, fun _ _ => (by (with_reducible repeat (first | refine blk_drewN ?_ _ | refine blk_drew ?_ | refine blk_alloc ?_ _)); exact BK152.out), fun _ => GW152.out, fun _ => GE152.out, fun _ => NB135_152.out, fun _ => NB152_135.out, Y44, Y14, Y10, Y20, Y27, Y45, Y15, Y11, Y21, Y31, Y46, Y16, Y12, Y22, Y35, fun h0_ => absurd ((hoff 20 (by kernel_rfl)).symm.trans h0_) (by decide), fun h0_ => absurd ((hoff 21 (by kernel_rfl)).symm.trans h0_) (by decide), fun h0_ => absurd ((hoff 22 (by kernel_rfl)).symm.trans h0_) (by decide), fun h0_ => absurd ((hoff 23 (by kernel_rfl)).symm.trans h0_) (by decide), fun _ => rfl, Y40, Y41, Y42⟩
    refine steps_cons ?_ ?_
    · rintro b a w' ⟨gb152, gb153, gb154, gb155, m16_, m17_, m18_, m19_, ha, Y18, Y0, Y17, Y28, Y24, Y32, Y25, Y36, Y26, Y33, Y29, Y37, Y30, Y38, Y34, Y1, Y13, Y9, Y19, Y23, Y3, Y14, Y10, Y20, Y27, Y5, Y15, Y11, Y21, Y31, Y7, Y16, Y12, Y22, Y35, Y2, Y4, Y6, Y8, Y39, Y40, Y41, Y42⟩ hb_ hon hoff
      refine ⟨_, rfl, fun K hK => ?_⟩
      replace ha := Aside0.mk ha
      have HO139 := Aside0.mk Y18
      have BK135 := Aside0.mk Y0
      have HB := Aside0.mk Y17
      refine box_step ?hg (N := 7) ?hd (cs := #[.int .i64 0, .bool false]) (t := 66) ?hr ?_; (case hd => rfl); (case hg => rfl); (case hr => first | (go_simp; done) | (go_simp; rfl))
      intro gb153 hg w17 hbox hb
      have n0_ := Aside0.mk (Kd.R_below (by (with_reducible repeat (first | apply Kd.R_alloc | apply Kd.R_drewN | apply Kd.R_drew)); exact HO139.out) hb)
      have n1_ := Aside0.mk (blk_below (g := gb135) (o := .cells #[.int .i64 0, .int .i64 0, .string (⟨#[]⟩ : ByteArray), .string (⟨#[]⟩ : ByteArray)] 36 (0, 0)) (by (with_reducible repeat (first | refine blk_drewN ?_ _ | refine blk_drew ?_ | refine blk_alloc ?_ _)); exact BK135.out) hb)
      have n2_ := Aside0.mk (below_step (by repeat (first | (with_reducible first | exact HB.out | apply below_alloc | apply pw_below_drewN | apply below_drew1 | refine below_set ?_ GE135.out) | exact HB.out)) hb)
      have n3_ := Aside0.mk (hbox)
      have n4_ := Aside0.mk ((by rw [hg]; exact (below_size (by repeat (first | (with_reducible first | exact HB.out | apply below_alloc | apply pw_below_drewN | apply below_drew1 | refine below_set ?_ GE135.out) | exact HB.out))) : w.heap.size ≤ gb153))
      have n5_ := Aside0.mk ((by rw [hg]; exact (below_size (by repeat (first | (with_reducible first | exact HB.out | apply below_alloc | apply pw_below_drewN | apply below_drew1 | refine below_set ?_ GE135.out) | exact HB.out))) : w.heap.size ≤ gb153))
      have n6_ := Aside0.mk ((by rw [hg]; exact Nat.ne_of_lt (blk_lt (g := gb135) (o := .cells #[.int .i64 0, .int .i64 0, .string (⟨#[]⟩ : ByteArray), .string (⟨#[]⟩ : ByteArray)] 36 (0, 0)) (by (with_reducible repeat (first | refine blk_drewN ?_ _ | refine blk_drew ?_ | refine blk_alloc ?_ _)); exact BK135.out)) : gb135 ≠ gb153))
      have n7_ := Aside0.mk ((by rw [hg]; exact Nat.ne_of_gt (blk_lt (g := gb135) (o := .cells #[.int .i64 0, .int .i64 0, .string (⟨#[]⟩ : ByteArray), .string (⟨#[]⟩ : ByteArray)] 36 (0, 0)) (by (with_reducible repeat (first | refine blk_drewN ?_ _ | refine blk_drew ?_ | refine blk_alloc ?_ _)); exact BK135.out)) : gb153 ≠ gb135))
      have Y50 := fun (h0_ : up b 17 16 = true) (h1_ : up b 17 17 = true) => (show gb153 ≠ gb152 from ((by rw [hg]; exact Nat.ne_of_gt (blk_lt (g := gb152) (o := .cells #[.int .i64 0, .bool false] 66 (0, 0)) (by (with_reducible repeat (first | refine blk_drewN ?_ _ | refine blk_drew ?_ | refine blk_alloc ?_ _)); exact (Y1 h0_ (hoff 20 (by kernel_rfl))))) : gb153 ≠ gb152)))
      have Y47 := fun (h0_ : up b 17 16 = true) (h1_ : up b 17 17 = true) => (show gb152 ≠ gb153 from ((by rw [hg]; exact Nat.ne_of_lt (blk_lt (g := gb152) (o := .cells #[.int .i64 0, .bool false] 66 (0, 0)) (by (with_reducible repeat (first | refine blk_drewN ?_ _ | refine blk_drew ?_ | refine blk_alloc ?_ _)); exact (Y1 h0_ (hoff 20 (by kernel_rfl))))) : gb152 ≠ gb153)))
      have Y54 := fun (h0_ : up b 17 17 = true) (h1_ : up b 17 18 = true) => (show gb154 ≠ gb153 from ((by rw [hg]; exact Nat.ne_of_lt (blk_lt (g := gb154) (o := .cells #[.string (⟨#[]⟩ : ByteArray), .bool false] 69 (0, 0)) (by (with_reducible repeat (first | refine blk_drewN ?_ _ | refine blk_drew ?_ | refine blk_alloc ?_ _)); exact (Y5 h1_ (hoff 22 (by kernel_rfl))))) : gb154 ≠ gb153)))
      have Y51 := fun (h0_ : up b 17 17 = true) (h1_ : up b 17 18 = true) => (show gb153 ≠ gb154 from ((by rw [hg]; exact Nat.ne_of_gt (blk_lt (g := gb154) (o := .cells #[.string (⟨#[]⟩ : ByteArray), .bool false] 69 (0, 0)) (by (with_reducible repeat (first | refine blk_drewN ?_ _ | refine blk_drew ?_ | refine blk_alloc ?_ _)); exact (Y5 h1_ (hoff 22 (by kernel_rfl))))) : gb153 ≠ gb154)))
      have Y57 := fun (h0_ : up b 17 17 = true) (h1_ : up b 17 19 = true) => (show gb155 ≠ gb153 from ((by rw [hg]; exact Nat.ne_of_lt (blk_lt (g := gb155) (o := .cells #[.string (⟨#[]⟩ : ByteArray), .bool false] 69 (0, 0)) (by (with_reducible repeat (first | refine blk_drewN ?_ _ | refine blk_drew ?_ | refine blk_alloc ?_ _)); exact (Y7 h1_ (hoff 23 (by kernel_rfl))))) : gb155 ≠ gb153)))
      have Y52 := fun (h0_ : up b 17 17 = true) (h1_ : up b 17 19 = true) => (show gb153 ≠ gb155 from ((by rw [hg]; exact Nat.ne_of_gt (blk_lt (g := gb155) (o := .cells #[.string (⟨#[]⟩ : ByteArray), .bool false] 69 (0, 0)) (by (with_reducible repeat (first | refine blk_drewN ?_ _ | refine blk_drew ?_ | refine blk_alloc ?_ _)); exact (Y7 h1_ (hoff 23 (by kernel_rfl))))) : gb153 ≠ gb155)))
      have Y43 := fun (h0_ : b 16 = true) (h1_ : b 20 = false) => (show w17.heap[gb152]? = some (.cells #[.int .i64 0, .bool false] 66 (0, 0)) from by first | exact (blk_below (g := gb152) (o := .cells #[.int .i64 0, .bool false] 66 (0, 0)) (by (with_reducible repeat (first | refine blk_drewN ?_ _ | refine blk_drew ?_ | refine blk_alloc ?_ _)); exact (Y1 h0_ h1_)) hb))
      have Y45 := fun (h0_ : b 18 = true) (h1_ : b 22 = false) => (show w17.heap[gb154]? = some (.cells #[.string (⟨#[]⟩ : ByteArray), .bool false] 69 (0, 0)) from by first | exact (blk_below (g := gb154) (o := .cells #[.string (⟨#[]⟩ : ByteArray), .bool false] 69 (0, 0)) (by (with_reducible repeat (first | refine blk_drewN ?_ _ | refine blk_drew ?_ | refine blk_alloc ?_ _)); exact (Y5 h0_ h1_)) hb))
      have Y46 := fun (h0_ : b 19 = true) (h1_ : b 23 = false) => (show w17.heap[gb155]? = some (.cells #[.string (⟨#[]⟩ : ByteArray), .bool false] 69 (0, 0)) from by first | exact (blk_below (g := gb155) (o := .cells #[.string (⟨#[]⟩ : ByteArray), .bool false] 69 (0, 0)) (by (with_reducible repeat (first | refine blk_drewN ?_ _ | refine blk_drew ?_ | refine blk_alloc ?_ _)); exact (Y7 h0_ h1_)) hb))
      clear HO139
      clear BK135
      clear HB
      have HO139 := n0_
      have BK135 := n1_
      have HB := n2_
      have BK153 := n3_
      have GW153 := n4_
      have GE153 := n5_
      have NB135_153 := n6_
      have NB153_135 := n7_
      clear n0_ n1_ n2_ n3_ n4_ n5_ n6_ n7_
      clear hb hbox hg
      refine hK.out _ _ ⟨gb152, gb153, gb154, gb155, m16_, (.pointer (some ⟨gb153, 0, none⟩)), m18_, m19_, (by rw [ha.out]; exact putSel_upk 13 hb_ rfl rfl rfl), (by (with_reducible repeat (first | apply Kd.R_alloc | apply Kd.R_drewN | apply Kd.R_drew)); exact HO139.out), (by (with_reducible repeat (first | refine blk_drewN ?_ _ | refine blk_drew ?_ | refine blk_alloc ?_ _)); exact BK135.out), (by repeat (first | (with_reducible first | exact HB.out | apply below_alloc | apply pw_below_drewN | apply below_drew1 | refine below_set ?_ GE135.out | refine below_set ?_ GE153.out) | exact HB.out)), Y50, Y47, Y32, Y25, Y36, Y26, Y54, Y51, Y57, Y52, Y38, Y34, Y43, Y13, Y9, Y19, Y23, fun _ _ => (by (with_reducible repeat (first | refine blk_drewN ?_ _ | refine blk_drew ?_ | refine blk_alloc ?_ _)); exact BK153.out), fun _ => GW153.out, fun _ => GE153.out, fun _ => NB135_153.out, fun _ => NB153_135.out, Y45, Y15, Y11, Y21, Y31, Y46, Y16, Y12, Y22, Y35, fun h0_ => absurd ((hoff 20 (by kernel_rfl)).symm.trans h0_) (by decide), fun h0_ => absurd ((hoff 21 (by kernel_rfl)).symm.trans h0_) (by decide), fun h0_ => absurd ((hoff 22 (by kernel_rfl)).symm.trans h0_) (by decide), fun h0_ => absurd ((hoff 23 (by kernel_rfl)).symm.trans h0_) (by decide), Y39, fun _ => rfl, Y41, Y42⟩
    refine steps_cons ?_ ?_
    · rintro b a w' ⟨gb152, gb153, gb154, gb155, m16_, m17_, m18_, m19_, ha, Y18, Y0, Y17, Y28, Y24, Y32, Y25, Y36, Y26, Y33, Y29, Y37, Y30, Y38, Y34, Y1, Y13, Y9, Y19, Y23, Y3, Y14, Y10, Y20, Y27, Y5, Y15, Y11, Y21, Y31, Y7, Y16, Y12, Y22, Y35, Y2, Y4, Y6, Y8, Y39, Y40, Y41, Y42⟩ hb_ hon hoff
      refine ⟨_, rfl, fun K hK => ?_⟩
      replace ha := Aside0.mk ha
      have HO139 := Aside0.mk Y18
      have BK135 := Aside0.mk Y0
      have HB := Aside0.mk Y17
      refine box_step ?hg (N := 8) ?hd (cs := #[.string (⟨#[]⟩ : ByteArray), .bool false]) (t := 69) ?hr ?_; (case hd => rfl); (case hg => rfl); (case hr => first | (go_simp; done) | (go_simp; rfl))
      intro gb154 hg w17 hbox hb
      have n0_ := Aside0.mk (Kd.R_below (by (with_reducible repeat (first | apply Kd.R_alloc | apply Kd.R_drewN | apply Kd.R_drew)); exact HO139.out) hb)
      have n1_ := Aside0.mk (blk_below (g := gb135) (o := .cells #[.int .i64 0, .int .i64 0, .string (⟨#[]⟩ : ByteArray), .string (⟨#[]⟩ : ByteArray)] 36 (0, 0)) (by (with_reducible repeat (first | refine blk_drewN ?_ _ | refine blk_drew ?_ | refine blk_alloc ?_ _)); exact BK135.out) hb)
      have n2_ := Aside0.mk (below_step (by repeat (first | (with_reducible first | exact HB.out | apply below_alloc | apply pw_below_drewN | apply below_drew1 | refine below_set ?_ GE135.out) | exact HB.out)) hb)
      have n3_ := Aside0.mk (hbox)
      have n4_ := Aside0.mk ((by rw [hg]; exact (below_size (by repeat (first | (with_reducible first | exact HB.out | apply below_alloc | apply pw_below_drewN | apply below_drew1 | refine below_set ?_ GE135.out) | exact HB.out))) : w.heap.size ≤ gb154))
      have n5_ := Aside0.mk ((by rw [hg]; exact (below_size (by repeat (first | (with_reducible first | exact HB.out | apply below_alloc | apply pw_below_drewN | apply below_drew1 | refine below_set ?_ GE135.out) | exact HB.out))) : w.heap.size ≤ gb154))
      have n6_ := Aside0.mk ((by rw [hg]; exact Nat.ne_of_lt (blk_lt (g := gb135) (o := .cells #[.int .i64 0, .int .i64 0, .string (⟨#[]⟩ : ByteArray), .string (⟨#[]⟩ : ByteArray)] 36 (0, 0)) (by (with_reducible repeat (first | refine blk_drewN ?_ _ | refine blk_drew ?_ | refine blk_alloc ?_ _)); exact BK135.out)) : gb135 ≠ gb154))
      have n7_ := Aside0.mk ((by rw [hg]; exact Nat.ne_of_gt (blk_lt (g := gb135) (o := .cells #[.int .i64 0, .int .i64 0, .string (⟨#[]⟩ : ByteArray), .string (⟨#[]⟩ : ByteArray)] 36 (0, 0)) (by (with_reducible repeat (first | refine blk_drewN ?_ _ | refine blk_drew ?_ | refine blk_alloc ?_ _)); exact BK135.out)) : gb154 ≠ gb135))
      have Y53 := fun (h0_ : up b 18 16 = true) (h1_ : up b 18 18 = true) => (show gb154 ≠ gb152 from ((by rw [hg]; exact Nat.ne_of_gt (blk_lt (g := gb152) (o := .cells #[.int .i64 0, .bool false] 66 (0, 0)) (by (with_reducible repeat (first | refine blk_drewN ?_ _ | refine blk_drew ?_ | refine blk_alloc ?_ _)); exact (Y1 h0_ (hoff 20 (by kernel_rfl))))) : gb154 ≠ gb152)))
      have Y48 := fun (h0_ : up b 18 16 = true) (h1_ : up b 18 18 = true) => (show gb152 ≠ gb154 from ((by rw [hg]; exact Nat.ne_of_lt (blk_lt (g := gb152) (o := .cells #[.int .i64 0, .bool false] 66 (0, 0)) (by (with_reducible repeat (first | refine blk_drewN ?_ _ | refine blk_drew ?_ | refine blk_alloc ?_ _)); exact (Y1 h0_ (hoff 20 (by kernel_rfl))))) : gb152 ≠ gb154)))
      have Y54 := fun (h0_ : up b 18 17 = true) (h1_ : up b 18 18 = true) => (show gb154 ≠ gb153 from ((by rw [hg]; exact Nat.ne_of_gt (blk_lt (g := gb153) (o := .cells #[.int .i64 0, .bool false] 66 (0, 0)) (by (with_reducible repeat (first | refine blk_drewN ?_ _ | refine blk_drew ?_ | refine blk_alloc ?_ _)); exact (Y3 h0_ (hoff 21 (by kernel_rfl))))) : gb154 ≠ gb153)))
      have Y51 := fun (h0_ : up b 18 17 = true) (h1_ : up b 18 18 = true) => (show gb153 ≠ gb154 from ((by rw [hg]; exact Nat.ne_of_lt (blk_lt (g := gb153) (o := .cells #[.int .i64 0, .bool false] 66 (0, 0)) (by (with_reducible repeat (first | refine blk_drewN ?_ _ | refine blk_drew ?_ | refine blk_alloc ?_ _)); exact (Y3 h0_ (hoff 21 (by kernel_rfl))))) : gb153 ≠ gb154)))
      have Y58 := fun (h0_ : up b 18 18 = true) (h1_ : up b 18 19 = true) => (show gb155 ≠ gb154 from ((by rw [hg]; exact Nat.ne_of_lt (blk_lt (g := gb155) (o := .cells #[.string (⟨#[]⟩ : ByteArray), .bool false] 69 (0, 0)) (by (with_reducible repeat (first | refine blk_drewN ?_ _ | refine blk_drew ?_ | refine blk_alloc ?_ _)); exact (Y7 h1_ (hoff 23 (by kernel_rfl))))) : gb155 ≠ gb154)))
      have Y55 := fun (h0_ : up b 18 18 = true) (h1_ : up b 18 19 = true) => (show gb154 ≠ gb155 from ((by rw [hg]; exact Nat.ne_of_gt (blk_lt (g := gb155) (o := .cells #[.string (⟨#[]⟩ : ByteArray), .bool false] 69 (0, 0)) (by (with_reducible repeat (first | refine blk_drewN ?_ _ | refine blk_drew ?_ | refine blk_alloc ?_ _)); exact (Y7 h1_ (hoff 23 (by kernel_rfl))))) : gb154 ≠ gb155)))
      have Y43 := fun (h0_ : b 16 = true) (h1_ : b 20 = false) => (show w17.heap[gb152]? = some (.cells #[.int .i64 0, .bool false] 66 (0, 0)) from by first | exact (blk_below (g := gb152) (o := .cells #[.int .i64 0, .bool false] 66 (0, 0)) (by (with_reducible repeat (first | refine blk_drewN ?_ _ | refine blk_drew ?_ | refine blk_alloc ?_ _)); exact (Y1 h0_ h1_)) hb))
      have Y44 := fun (h0_ : b 17 = true) (h1_ : b 21 = false) => (show w17.heap[gb153]? = some (.cells #[.int .i64 0, .bool false] 66 (0, 0)) from by first | exact (blk_below (g := gb153) (o := .cells #[.int .i64 0, .bool false] 66 (0, 0)) (by (with_reducible repeat (first | refine blk_drewN ?_ _ | refine blk_drew ?_ | refine blk_alloc ?_ _)); exact (Y3 h0_ h1_)) hb))
      have Y46 := fun (h0_ : b 19 = true) (h1_ : b 23 = false) => (show w17.heap[gb155]? = some (.cells #[.string (⟨#[]⟩ : ByteArray), .bool false] 69 (0, 0)) from by first | exact (blk_below (g := gb155) (o := .cells #[.string (⟨#[]⟩ : ByteArray), .bool false] 69 (0, 0)) (by (with_reducible repeat (first | refine blk_drewN ?_ _ | refine blk_drew ?_ | refine blk_alloc ?_ _)); exact (Y7 h0_ h1_)) hb))
      clear HO139
      clear BK135
      clear HB
      have HO139 := n0_
      have BK135 := n1_
      have HB := n2_
      have BK154 := n3_
      have GW154 := n4_
      have GE154 := n5_
      have NB135_154 := n6_
      have NB154_135 := n7_
      clear n0_ n1_ n2_ n3_ n4_ n5_ n6_ n7_
      clear hb hbox hg
      refine hK.out _ _ ⟨gb152, gb153, gb154, gb155, m16_, m17_, (.pointer (some ⟨gb154, 0, none⟩)), m19_, (by rw [ha.out]; exact putSel_upk 14 hb_ rfl rfl rfl), (by (with_reducible repeat (first | apply Kd.R_alloc | apply Kd.R_drewN | apply Kd.R_drew)); exact HO139.out), (by (with_reducible repeat (first | refine blk_drewN ?_ _ | refine blk_drew ?_ | refine blk_alloc ?_ _)); exact BK135.out), (by repeat (first | (with_reducible first | exact HB.out | apply below_alloc | apply pw_below_drewN | apply below_drew1 | refine below_set ?_ GE135.out | refine below_set ?_ GE154.out) | exact HB.out)), Y28, Y24, Y53, Y48, Y36, Y26, Y54, Y51, Y37, Y30, Y58, Y55, Y43, Y13, Y9, Y19, Y23, Y44, Y14, Y10, Y20, Y27, fun _ _ => (by (with_reducible repeat (first | refine blk_drewN ?_ _ | refine blk_drew ?_ | refine blk_alloc ?_ _)); exact BK154.out), fun _ => GW154.out, fun _ => GE154.out, fun _ => NB135_154.out, fun _ => NB154_135.out, Y46, Y16, Y12, Y22, Y35, fun h0_ => absurd ((hoff 20 (by kernel_rfl)).symm.trans h0_) (by decide), fun h0_ => absurd ((hoff 21 (by kernel_rfl)).symm.trans h0_) (by decide), fun h0_ => absurd ((hoff 22 (by kernel_rfl)).symm.trans h0_) (by decide), fun h0_ => absurd ((hoff 23 (by kernel_rfl)).symm.trans h0_) (by decide), Y39, Y40, fun _ => rfl, Y42⟩
    refine steps_cons ?_ ?_
    · rintro b a w' ⟨gb152, gb153, gb154, gb155, m16_, m17_, m18_, m19_, ha, Y18, Y0, Y17, Y28, Y24, Y32, Y25, Y36, Y26, Y33, Y29, Y37, Y30, Y38, Y34, Y1, Y13, Y9, Y19, Y23, Y3, Y14, Y10, Y20, Y27, Y5, Y15, Y11, Y21, Y31, Y7, Y16, Y12, Y22, Y35, Y2, Y4, Y6, Y8, Y39, Y40, Y41, Y42⟩ hb_ hon hoff
      refine ⟨_, rfl, fun K hK => ?_⟩
      replace ha := Aside0.mk ha
      have HO139 := Aside0.mk Y18
      have BK135 := Aside0.mk Y0
      have HB := Aside0.mk Y17
      refine box_step ?hg (N := 9) ?hd (cs := #[.string (⟨#[]⟩ : ByteArray), .bool false]) (t := 69) ?hr ?_; (case hd => rfl); (case hg => rfl); (case hr => first | (go_simp; done) | (go_simp; rfl))
      intro gb155 hg w17 hbox hb
      have n0_ := Aside0.mk (Kd.R_below (by (with_reducible repeat (first | apply Kd.R_alloc | apply Kd.R_drewN | apply Kd.R_drew)); exact HO139.out) hb)
      have n1_ := Aside0.mk (blk_below (g := gb135) (o := .cells #[.int .i64 0, .int .i64 0, .string (⟨#[]⟩ : ByteArray), .string (⟨#[]⟩ : ByteArray)] 36 (0, 0)) (by (with_reducible repeat (first | refine blk_drewN ?_ _ | refine blk_drew ?_ | refine blk_alloc ?_ _)); exact BK135.out) hb)
      have n2_ := Aside0.mk (below_step (by repeat (first | (with_reducible first | exact HB.out | apply below_alloc | apply pw_below_drewN | apply below_drew1 | refine below_set ?_ GE135.out) | exact HB.out)) hb)
      have n3_ := Aside0.mk (hbox)
      have n4_ := Aside0.mk ((by rw [hg]; exact (below_size (by repeat (first | (with_reducible first | exact HB.out | apply below_alloc | apply pw_below_drewN | apply below_drew1 | refine below_set ?_ GE135.out) | exact HB.out))) : w.heap.size ≤ gb155))
      have n5_ := Aside0.mk ((by rw [hg]; exact (below_size (by repeat (first | (with_reducible first | exact HB.out | apply below_alloc | apply pw_below_drewN | apply below_drew1 | refine below_set ?_ GE135.out) | exact HB.out))) : w.heap.size ≤ gb155))
      have n6_ := Aside0.mk ((by rw [hg]; exact Nat.ne_of_lt (blk_lt (g := gb135) (o := .cells #[.int .i64 0, .int .i64 0, .string (⟨#[]⟩ : ByteArray), .string (⟨#[]⟩ : ByteArray)] 36 (0, 0)) (by (with_reducible repeat (first | refine blk_drewN ?_ _ | refine blk_drew ?_ | refine blk_alloc ?_ _)); exact BK135.out)) : gb135 ≠ gb155))
      have n7_ := Aside0.mk ((by rw [hg]; exact Nat.ne_of_gt (blk_lt (g := gb135) (o := .cells #[.int .i64 0, .int .i64 0, .string (⟨#[]⟩ : ByteArray), .string (⟨#[]⟩ : ByteArray)] 36 (0, 0)) (by (with_reducible repeat (first | refine blk_drewN ?_ _ | refine blk_drew ?_ | refine blk_alloc ?_ _)); exact BK135.out)) : gb155 ≠ gb135))
      have Y56 := fun (h0_ : up b 19 16 = true) (h1_ : up b 19 19 = true) => (show gb155 ≠ gb152 from ((by rw [hg]; exact Nat.ne_of_gt (blk_lt (g := gb152) (o := .cells #[.int .i64 0, .bool false] 66 (0, 0)) (by (with_reducible repeat (first | refine blk_drewN ?_ _ | refine blk_drew ?_ | refine blk_alloc ?_ _)); exact (Y1 h0_ (hoff 20 (by kernel_rfl))))) : gb155 ≠ gb152)))
      have Y49 := fun (h0_ : up b 19 16 = true) (h1_ : up b 19 19 = true) => (show gb152 ≠ gb155 from ((by rw [hg]; exact Nat.ne_of_lt (blk_lt (g := gb152) (o := .cells #[.int .i64 0, .bool false] 66 (0, 0)) (by (with_reducible repeat (first | refine blk_drewN ?_ _ | refine blk_drew ?_ | refine blk_alloc ?_ _)); exact (Y1 h0_ (hoff 20 (by kernel_rfl))))) : gb152 ≠ gb155)))
      have Y57 := fun (h0_ : up b 19 17 = true) (h1_ : up b 19 19 = true) => (show gb155 ≠ gb153 from ((by rw [hg]; exact Nat.ne_of_gt (blk_lt (g := gb153) (o := .cells #[.int .i64 0, .bool false] 66 (0, 0)) (by (with_reducible repeat (first | refine blk_drewN ?_ _ | refine blk_drew ?_ | refine blk_alloc ?_ _)); exact (Y3 h0_ (hoff 21 (by kernel_rfl))))) : gb155 ≠ gb153)))
      have Y52 := fun (h0_ : up b 19 17 = true) (h1_ : up b 19 19 = true) => (show gb153 ≠ gb155 from ((by rw [hg]; exact Nat.ne_of_lt (blk_lt (g := gb153) (o := .cells #[.int .i64 0, .bool false] 66 (0, 0)) (by (with_reducible repeat (first | refine blk_drewN ?_ _ | refine blk_drew ?_ | refine blk_alloc ?_ _)); exact (Y3 h0_ (hoff 21 (by kernel_rfl))))) : gb153 ≠ gb155)))
      have Y58 := fun (h0_ : up b 19 18 = true) (h1_ : up b 19 19 = true) => (show gb155 ≠ gb154 from ((by rw [hg]; exact Nat.ne_of_gt (blk_lt (g := gb154) (o := .cells #[.string (⟨#[]⟩ : ByteArray), .bool false] 69 (0, 0)) (by (with_reducible repeat (first | refine blk_drewN ?_ _ | refine blk_drew ?_ | refine blk_alloc ?_ _)); exact (Y5 h0_ (hoff 22 (by kernel_rfl))))) : gb155 ≠ gb154)))
      have Y55 := fun (h0_ : up b 19 18 = true) (h1_ : up b 19 19 = true) => (show gb154 ≠ gb155 from ((by rw [hg]; exact Nat.ne_of_lt (blk_lt (g := gb154) (o := .cells #[.string (⟨#[]⟩ : ByteArray), .bool false] 69 (0, 0)) (by (with_reducible repeat (first | refine blk_drewN ?_ _ | refine blk_drew ?_ | refine blk_alloc ?_ _)); exact (Y5 h0_ (hoff 22 (by kernel_rfl))))) : gb154 ≠ gb155)))
      have Y43 := fun (h0_ : b 16 = true) (h1_ : b 20 = false) => (show w17.heap[gb152]? = some (.cells #[.int .i64 0, .bool false] 66 (0, 0)) from by first | exact (blk_below (g := gb152) (o := .cells #[.int .i64 0, .bool false] 66 (0, 0)) (by (with_reducible repeat (first | refine blk_drewN ?_ _ | refine blk_drew ?_ | refine blk_alloc ?_ _)); exact (Y1 h0_ h1_)) hb))
      have Y44 := fun (h0_ : b 17 = true) (h1_ : b 21 = false) => (show w17.heap[gb153]? = some (.cells #[.int .i64 0, .bool false] 66 (0, 0)) from by first | exact (blk_below (g := gb153) (o := .cells #[.int .i64 0, .bool false] 66 (0, 0)) (by (with_reducible repeat (first | refine blk_drewN ?_ _ | refine blk_drew ?_ | refine blk_alloc ?_ _)); exact (Y3 h0_ h1_)) hb))
      have Y45 := fun (h0_ : b 18 = true) (h1_ : b 22 = false) => (show w17.heap[gb154]? = some (.cells #[.string (⟨#[]⟩ : ByteArray), .bool false] 69 (0, 0)) from by first | exact (blk_below (g := gb154) (o := .cells #[.string (⟨#[]⟩ : ByteArray), .bool false] 69 (0, 0)) (by (with_reducible repeat (first | refine blk_drewN ?_ _ | refine blk_drew ?_ | refine blk_alloc ?_ _)); exact (Y5 h0_ h1_)) hb))
      clear HO139
      clear BK135
      clear HB
      have HO139 := n0_
      have BK135 := n1_
      have HB := n2_
      have BK155 := n3_
      have GW155 := n4_
      have GE155 := n5_
      have NB135_155 := n6_
      have NB155_135 := n7_
      clear n0_ n1_ n2_ n3_ n4_ n5_ n6_ n7_
      clear hb hbox hg
      refine hK.out _ _ ⟨gb152, gb153, gb154, gb155, m16_, m17_, m18_, (.pointer (some ⟨gb155, 0, none⟩)), (by rw [ha.out]; exact putSel_upk 15 hb_ rfl rfl rfl), (by (with_reducible repeat (first | apply Kd.R_alloc | apply Kd.R_drewN | apply Kd.R_drew)); exact HO139.out), (by (with_reducible repeat (first | refine blk_drewN ?_ _ | refine blk_drew ?_ | refine blk_alloc ?_ _)); exact BK135.out), (by repeat (first | (with_reducible first | exact HB.out | apply below_alloc | apply pw_below_drewN | apply below_drew1 | refine below_set ?_ GE135.out | refine below_set ?_ GE155.out) | exact HB.out)), Y28, Y24, Y32, Y25, Y56, Y49, Y33, Y29, Y57, Y52, Y58, Y55, Y43, Y13, Y9, Y19, Y23, Y44, Y14, Y10, Y20, Y27, Y45, Y15, Y11, Y21, Y31, fun _ _ => (by (with_reducible repeat (first | refine blk_drewN ?_ _ | refine blk_drew ?_ | refine blk_alloc ?_ _)); exact BK155.out), fun _ => GW155.out, fun _ => GE155.out, fun _ => NB135_155.out, fun _ => NB155_135.out, fun h0_ => absurd ((hoff 20 (by kernel_rfl)).symm.trans h0_) (by decide), fun h0_ => absurd ((hoff 21 (by kernel_rfl)).symm.trans h0_) (by decide), fun h0_ => absurd ((hoff 22 (by kernel_rfl)).symm.trans h0_) (by decide), fun h0_ => absurd ((hoff 23 (by kernel_rfl)).symm.trans h0_) (by decide), Y39, Y40, Y41, fun _ => rfl⟩
    refine steps_cons ?_ ?_
    · rintro b a w' ⟨gb152, gb153, gb154, gb155, m16_, m17_, m18_, m19_, ha, Y18, Y0, Y17, Y28, Y24, Y32, Y25, Y36, Y26, Y33, Y29, Y37, Y30, Y38, Y34, Y1, Y13, Y9, Y19, Y23, Y3, Y14, Y10, Y20, Y27, Y5, Y15, Y11, Y21, Y31, Y7, Y16, Y12, Y22, Y35, Y2, Y4, Y6, Y8, Y39, Y40, Y41, Y42⟩ hb_ hon hoff
      refine ⟨_, rfl, fun K hK => ?_⟩
      have e6 : a.tmps[6]? = some (m16_) := by rw [ha]; exact putSel_on (e := (16, 6, m16_)) 12 rfl rfl (hon 16 (by kernel_rfl)) rfl
      rw [Y39 (hon 16 (by kernel_rfl))] at e6
      have e22 : a.tmps[22]? = some (.agg #[.int .i64 t141, .bool t142]) := by rw [ha]; exact putSel_on (e := (3, 22, .agg #[.int .i64 t141, .bool t142])) 2 rfl rfl (hon 3 (by kernel_rfl)) rfl
      replace ha := Aside0.mk ha
      have HO139 := Aside0.mk Y18
      have BK135 := Aside0.mk Y0
      have HB := Aside0.mk Y17
      have NB153_152 := Aside0.mk (Y28 (hon 16 (by kernel_rfl)) (hon 17 (by kernel_rfl)))
      have NB152_153 := Aside0.mk (Y24 (hon 16 (by kernel_rfl)) (hon 17 (by kernel_rfl)))
      have NB154_152 := Aside0.mk (Y32 (hon 16 (by kernel_rfl)) (hon 18 (by kernel_rfl)))
      have NB152_154 := Aside0.mk (Y25 (hon 16 (by kernel_rfl)) (hon 18 (by kernel_rfl)))
      have NB155_152 := Aside0.mk (Y36 (hon 16 (by kernel_rfl)) (hon 19 (by kernel_rfl)))
      have NB152_155 := Aside0.mk (Y26 (hon 16 (by kernel_rfl)) (hon 19 (by kernel_rfl)))
      have NB154_153 := Aside0.mk (Y33 (hon 17 (by kernel_rfl)) (hon 18 (by kernel_rfl)))
      have NB153_154 := Aside0.mk (Y29 (hon 17 (by kernel_rfl)) (hon 18 (by kernel_rfl)))
      have NB155_153 := Aside0.mk (Y37 (hon 17 (by kernel_rfl)) (hon 19 (by kernel_rfl)))
      have NB153_155 := Aside0.mk (Y30 (hon 17 (by kernel_rfl)) (hon 19 (by kernel_rfl)))
      have NB155_154 := Aside0.mk (Y38 (hon 18 (by kernel_rfl)) (hon 19 (by kernel_rfl)))
      have NB154_155 := Aside0.mk (Y34 (hon 18 (by kernel_rfl)) (hon 19 (by kernel_rfl)))
      have BK152 := Aside0.mk (Y1 (hon 16 (by kernel_rfl)) hb_)
      have GW152 := Aside0.mk (Y13 (hon 16 (by kernel_rfl)))
      have GE152 := Aside0.mk (Y9 (hon 16 (by kernel_rfl)))
      have NB135_152 := Aside0.mk (Y19 (hon 16 (by kernel_rfl)))
      have NB152_135 := Aside0.mk (Y23 (hon 16 (by kernel_rfl)))
      have BK153 := Aside0.mk (Y3 (hon 17 (by kernel_rfl)) (hoff 21 (by kernel_rfl)))
      have GW153 := Aside0.mk (Y14 (hon 17 (by kernel_rfl)))
      have GE153 := Aside0.mk (Y10 (hon 17 (by kernel_rfl)))
      have NB135_153 := Aside0.mk (Y20 (hon 17 (by kernel_rfl)))
      have NB153_135 := Aside0.mk (Y27 (hon 17 (by kernel_rfl)))
      have BK154 := Aside0.mk (Y5 (hon 18 (by kernel_rfl)) (hoff 22 (by kernel_rfl)))
      have GW154 := Aside0.mk (Y15 (hon 18 (by kernel_rfl)))
      have GE154 := Aside0.mk (Y11 (hon 18 (by kernel_rfl)))
      have NB135_154 := Aside0.mk (Y21 (hon 18 (by kernel_rfl)))
      have NB154_135 := Aside0.mk (Y31 (hon 18 (by kernel_rfl)))
      have BK155 := Aside0.mk (Y7 (hon 19 (by kernel_rfl)) (hoff 23 (by kernel_rfl)))
      have GW155 := Aside0.mk (Y16 (hon 19 (by kernel_rfl)))
      have GE155 := Aside0.mk (Y12 (hon 19 (by kernel_rfl)))
      have NB135_155 := Aside0.mk (Y22 (hon 19 (by kernel_rfl)))
      have NB155_135 := Aside0.mk (Y35 (hon 19 (by kernel_rfl)))
      have hs26 : w'.cell? ⟨gb152, 0, none⟩ = some (.int .i64 0) := (blk_cell BK152.out 0).trans rfl
      have hfs26 := blk_frozen BK152.out 0
      have hns26_0 := NB135_152.out
      have hns26_2 := NB153_152.out
      have hns26_3 := NB154_152.out
      have hns26_4 := NB155_152.out
      have hms26_0 := NB152_135.out
      have hms26_2 := NB152_153.out
      have hms26_3 := NB152_154.out
      have hms26_4 := NB152_155.out
      have hs27 : w'.cell? ⟨gb152, 1, none⟩ = some (.bool false) := (blk_cell BK152.out 1).trans rfl
      have hfs27 := blk_frozen BK152.out 1
      have hns27_0 := NB135_152.out
      have hns27_2 := NB153_152.out
      have hns27_3 := NB154_152.out
      have hns27_4 := NB155_152.out
      have hms27_0 := NB152_135.out
      have hms27_2 := NB152_153.out
      have hms27_3 := NB152_154.out
      have hms27_4 := NB152_155.out
      refine skip_ (w1 := ?_) (by rfl) rfl ?_ ?_
      rotate_left
      · go_simp
        rfl
      refine hK.out _ _ ⟨gb152, gb153, gb154, gb155, m16_, m17_, m18_, m19_, (by rw [ha.out]; exact putSel_none (v := undef) rfl), (by (with_reducible repeat (first | apply Kd.R_alloc | apply Kd.R_drewN | apply Kd.R_drew)); exact Kd.R_mono (Kd.R_far (p := ⟨gb152, 1, none⟩) (Kd.R_far (p := ⟨gb152, 0, none⟩) (Kd.R_types HO139.out BK152.out (by decide)) (fun _ hk => hk.2) (.int .i64 t141)) (fun _ hk => hk.2) (.bool t142)) (fun _ hk => trivial)), (by (with_reducible repeat (first | refine blk_drewN ?_ _ | refine blk_drew ?_ | refine blk_alloc ?_ _)); refine blk_far ?_ NB135_152.out _; (with_reducible repeat (first | refine blk_drewN ?_ _ | refine blk_drew ?_ | refine blk_alloc ?_ _)); refine blk_far ?_ NB135_152.out _; (with_reducible repeat (first | refine blk_drewN ?_ _ | refine blk_drew ?_ | refine blk_alloc ?_ _)); exact BK135.out), (by repeat (first | (with_reducible first | exact HB.out | apply below_alloc | apply pw_below_drewN | apply below_drew1 | refine below_set ?_ GE135.out | refine below_set ?_ GE152.out | refine below_set ?_ GE153.out | refine below_set ?_ GE154.out | refine below_set ?_ GE155.out) | exact HB.out)), fun _ _ => NB153_152.out, fun _ _ => NB152_153.out, fun _ _ => NB154_152.out, fun _ _ => NB152_154.out, fun _ _ => NB155_152.out, fun _ _ => NB152_155.out, fun _ _ => NB154_153.out, fun _ _ => NB153_154.out, fun _ _ => NB155_153.out, fun _ _ => NB153_155.out, fun _ _ => NB155_154.out, fun _ _ => NB154_155.out, fun _ h1_ => absurd ((up_self b 20).symm.trans h1_) (by decide), fun _ => GW152.out, fun _ => GE152.out, fun _ => NB135_152.out, fun _ => NB152_135.out, fun _ _ => (by (with_reducible repeat (first | refine blk_drewN ?_ _ | refine blk_drew ?_ | refine blk_alloc ?_ _)); refine blk_far ?_ NB153_152.out _; (with_reducible repeat (first | refine blk_drewN ?_ _ | refine blk_drew ?_ | refine blk_alloc ?_ _)); refine blk_far ?_ NB153_152.out _; (with_reducible repeat (first | refine blk_drewN ?_ _ | refine blk_drew ?_ | refine blk_alloc ?_ _)); exact BK153.out), fun _ => GW153.out, fun _ => GE153.out, fun _ => NB135_153.out, fun _ => NB153_135.out, fun _ _ => (by (with_reducible repeat (first | refine blk_drewN ?_ _ | refine blk_drew ?_ | refine blk_alloc ?_ _)); refine blk_far ?_ NB154_152.out _; (with_reducible repeat (first | refine blk_drewN ?_ _ | refine blk_drew ?_ | refine blk_alloc ?_ _)); refine blk_far ?_ NB154_152.out _; (with_reducible repeat (first | refine blk_drewN ?_ _ | refine blk_drew ?_ | refine blk_alloc ?_ _)); exact BK154.out), fun _ => GW154.out, fun _ => GE154.out, fun _ => NB135_154.out, fun _ => NB154_135.out, fun _ _ => (by (with_reducible repeat (first | refine blk_drewN ?_ _ | refine blk_drew ?_ | refine blk_alloc ?_ _)); refine blk_far ?_ NB155_152.out _; (with_reducible repeat (first | refine blk_drewN ?_ _ | refine blk_drew ?_ | refine blk_alloc ?_ _)); refine blk_far ?_ NB155_152.out _; (with_reducible repeat (first | refine blk_drewN ?_ _ | refine blk_drew ?_ | refine blk_alloc ?_ _)); exact BK155.out), fun _ => GW155.out, fun _ => GE155.out, fun _ => NB135_155.out, fun _ => NB155_135.out, fun _ => (by (with_reducible repeat (first | refine blk_drewN ?_ _ | refine blk_drew ?_ | refine blk_alloc ?_ _)); refine blk_put (cs := #[.int .i64 t141, .bool false]) ?_ 1 _ rfl; (with_reducible repeat (first | refine blk_drewN ?_ _ | refine blk_drew ?_ | refine blk_alloc ?_ _)); refine blk_put (cs := #[.int .i64 0, .bool false]) ?_ 0 _ rfl; (with_reducible repeat (first | refine blk_drewN ?_ _ | refine blk_drew ?_ | refine blk_alloc ?_ _)); exact BK152.out), fun h0_ => absurd ((hoff 21 (by kernel_rfl)).symm.trans h0_) (by decide), fun h0_ => absurd ((hoff 22 (by kernel_rfl)).symm.trans h0_) (by decide), fun h0_ => absurd ((hoff 23 (by kernel_rfl)).symm.trans h0_) (by decide), Y39, Y40, Y41, Y42⟩
    refine steps_cons ?_ ?_
    · rintro b a w' ⟨gb152, gb153, gb154, gb155, m16_, m17_, m18_, m19_, ha, Y18, Y0, Y17, Y28, Y24, Y32, Y25, Y36, Y26, Y33, Y29, Y37, Y30, Y38, Y34, Y1, Y13, Y9, Y19, Y23, Y3, Y14, Y10, Y20, Y27, Y5, Y15, Y11, Y21, Y31, Y7, Y16, Y12, Y22, Y35, Y2, Y4, Y6, Y8, Y39, Y40, Y41, Y42⟩ hb_ hon hoff
      refine ⟨_, rfl, fun K hK => ?_⟩
      have e7 : a.tmps[7]? = some (m17_) := by rw [ha]; exact putSel_on (e := (17, 7, m17_)) 13 rfl rfl (hon 17 (by kernel_rfl)) rfl
      rw [Y40 (hon 17 (by kernel_rfl))] at e7
      have e26 : a.tmps[26]? = some (.agg #[.int .i64 t144, .bool t145]) := by rw [ha]; exact putSel_on (e := (7, 26, .agg #[.int .i64 t144, .bool t145])) 5 rfl rfl (hon 7 (by kernel_rfl)) rfl
      replace ha := Aside0.mk ha
      have HO139 := Aside0.mk Y18
      have BK135 := Aside0.mk Y0
      have HB := Aside0.mk Y17
      have NB153_152 := Aside0.mk (Y28 (hon 16 (by kernel_rfl)) (hon 17 (by kernel_rfl)))
      have NB152_153 := Aside0.mk (Y24 (hon 16 (by kernel_rfl)) (hon 17 (by kernel_rfl)))
      have NB154_152 := Aside0.mk (Y32 (hon 16 (by kernel_rfl)) (hon 18 (by kernel_rfl)))
      have NB152_154 := Aside0.mk (Y25 (hon 16 (by kernel_rfl)) (hon 18 (by kernel_rfl)))
      have NB155_152 := Aside0.mk (Y36 (hon 16 (by kernel_rfl)) (hon 19 (by kernel_rfl)))
      have NB152_155 := Aside0.mk (Y26 (hon 16 (by kernel_rfl)) (hon 19 (by kernel_rfl)))
      have NB154_153 := Aside0.mk (Y33 (hon 17 (by kernel_rfl)) (hon 18 (by kernel_rfl)))
      have NB153_154 := Aside0.mk (Y29 (hon 17 (by kernel_rfl)) (hon 18 (by kernel_rfl)))
      have NB155_153 := Aside0.mk (Y37 (hon 17 (by kernel_rfl)) (hon 19 (by kernel_rfl)))
      have NB153_155 := Aside0.mk (Y30 (hon 17 (by kernel_rfl)) (hon 19 (by kernel_rfl)))
      have NB155_154 := Aside0.mk (Y38 (hon 18 (by kernel_rfl)) (hon 19 (by kernel_rfl)))
      have NB154_155 := Aside0.mk (Y34 (hon 18 (by kernel_rfl)) (hon 19 (by kernel_rfl)))
      have GW152 := Aside0.mk (Y13 (hon 16 (by kernel_rfl)))
      have GE152 := Aside0.mk (Y9 (hon 16 (by kernel_rfl)))
      have NB135_152 := Aside0.mk (Y19 (hon 16 (by kernel_rfl)))
      have NB152_135 := Aside0.mk (Y23 (hon 16 (by kernel_rfl)))
      have BK153 := Aside0.mk (Y3 (hon 17 (by kernel_rfl)) hb_)
      have GW153 := Aside0.mk (Y14 (hon 17 (by kernel_rfl)))
      have GE153 := Aside0.mk (Y10 (hon 17 (by kernel_rfl)))
      have NB135_153 := Aside0.mk (Y20 (hon 17 (by kernel_rfl)))
      have NB153_135 := Aside0.mk (Y27 (hon 17 (by kernel_rfl)))
      have BK154 := Aside0.mk (Y5 (hon 18 (by kernel_rfl)) (hoff 22 (by kernel_rfl)))
      have GW154 := Aside0.mk (Y15 (hon 18 (by kernel_rfl)))
      have GE154 := Aside0.mk (Y11 (hon 18 (by kernel_rfl)))
      have NB135_154 := Aside0.mk (Y21 (hon 18 (by kernel_rfl)))
      have NB154_135 := Aside0.mk (Y31 (hon 18 (by kernel_rfl)))
      have BK155 := Aside0.mk (Y7 (hon 19 (by kernel_rfl)) (hoff 23 (by kernel_rfl)))
      have GW155 := Aside0.mk (Y16 (hon 19 (by kernel_rfl)))
      have GE155 := Aside0.mk (Y12 (hon 19 (by kernel_rfl)))
      have NB135_155 := Aside0.mk (Y22 (hon 19 (by kernel_rfl)))
      have NB155_135 := Aside0.mk (Y35 (hon 19 (by kernel_rfl)))
      have BK152 := Aside0.mk (Y2 (hon 20 (by kernel_rfl)))
      have hs28 : w'.cell? ⟨gb153, 0, none⟩ = some (.int .i64 0) := (blk_cell BK153.out 0).trans rfl
      have hfs28 := blk_frozen BK153.out 0
      have hns28_0 := NB135_153.out
      have hns28_1 := NB152_153.out
      have hns28_3 := NB154_153.out
      have hns28_4 := NB155_153.out
      have hms28_0 := NB153_135.out
      have hms28_1 := NB153_152.out
      have hms28_3 := NB153_154.out
      have hms28_4 := NB153_155.out
      have hs29 : w'.cell? ⟨gb153, 1, none⟩ = some (.bool false) := (blk_cell BK153.out 1).trans rfl
      have hfs29 := blk_frozen BK153.out 1
      have hns29_0 := NB135_153.out
      have hns29_1 := NB152_153.out
      have hns29_3 := NB154_153.out
      have hns29_4 := NB155_153.out
      have hms29_0 := NB153_135.out
      have hms29_1 := NB153_152.out
      have hms29_3 := NB153_154.out
      have hms29_4 := NB153_155.out
      refine skip_ (w1 := ?_) (by rfl) rfl ?_ ?_
      rotate_left
      · go_simp
        rfl
      refine hK.out _ _ ⟨gb152, gb153, gb154, gb155, m16_, m17_, m18_, m19_, (by rw [ha.out]; exact putSel_none (v := undef) rfl), (by (with_reducible repeat (first | apply Kd.R_alloc | apply Kd.R_drewN | apply Kd.R_drew)); exact Kd.R_mono (Kd.R_far (p := ⟨gb153, 1, none⟩) (Kd.R_far (p := ⟨gb153, 0, none⟩) (Kd.R_types HO139.out BK153.out (by decide)) (fun _ hk => hk.2) (.int .i64 t144)) (fun _ hk => hk.2) (.bool t145)) (fun _ hk => trivial)), (by (with_reducible repeat (first | refine blk_drewN ?_ _ | refine blk_drew ?_ | refine blk_alloc ?_ _)); refine blk_far ?_ NB135_153.out _; (with_reducible repeat (first | refine blk_drewN ?_ _ | refine blk_drew ?_ | refine blk_alloc ?_ _)); refine blk_far ?_ NB135_153.out _; (with_reducible repeat (first | refine blk_drewN ?_ _ | refine blk_drew ?_ | refine blk_alloc ?_ _)); exact BK135.out), (by repeat (first | (with_reducible first | exact HB.out | apply below_alloc | apply pw_below_drewN | apply below_drew1 | refine below_set ?_ GE135.out | refine below_set ?_ GE152.out | refine below_set ?_ GE153.out | refine below_set ?_ GE154.out | refine below_set ?_ GE155.out) | exact HB.out)), fun _ _ => NB153_152.out, fun _ _ => NB152_153.out, fun _ _ => NB154_152.out, fun _ _ => NB152_154.out, fun _ _ => NB155_152.out, fun _ _ => NB152_155.out, fun _ _ => NB154_153.out, fun _ _ => NB153_154.out, fun _ _ => NB155_153.out, fun _ _ => NB153_155.out, fun _ _ => NB155_154.out, fun _ _ => NB154_155.out, fun _ h1_ => absurd ((hon 20 (by kernel_rfl)).symm.trans h1_) (by decide), fun _ => GW152.out, fun _ => GE152.out, fun _ => NB135_152.out, fun _ => NB152_135.out, fun _ h1_ => absurd ((up_self b 21).symm.trans h1_) (by decide), fun _ => GW153.out, fun _ => GE153.out, fun _ => NB135_153.out, fun _ => NB153_135.out, fun _ _ => (by (with_reducible repeat (first | refine blk_drewN ?_ _ | refine blk_drew ?_ | refine blk_alloc ?_ _)); refine blk_far ?_ NB154_153.out _; (with_reducible repeat (first | refine blk_drewN ?_ _ | refine blk_drew ?_ | refine blk_alloc ?_ _)); refine blk_far ?_ NB154_153.out _; (with_reducible repeat (first | refine blk_drewN ?_ _ | refine blk_drew ?_ | refine blk_alloc ?_ _)); exact BK154.out), fun _ => GW154.out, fun _ => GE154.out, fun _ => NB135_154.out, fun _ => NB154_135.out, fun _ _ => (by (with_reducible repeat (first | refine blk_drewN ?_ _ | refine blk_drew ?_ | refine blk_alloc ?_ _)); refine blk_far ?_ NB155_153.out _; (with_reducible repeat (first | refine blk_drewN ?_ _ | refine blk_drew ?_ | refine blk_alloc ?_ _)); refine blk_far ?_ NB155_153.out _; (with_reducible repeat (first | refine blk_drewN ?_ _ | refine blk_drew ?_ | refine blk_alloc ?_ _)); exact BK155.out), fun _ => GW155.out, fun _ => GE155.out, fun _ => NB135_155.out, fun _ => NB155_135.out, fun _ => (by (with_reducible repeat (first | refine blk_drewN ?_ _ | refine blk_drew ?_ | refine blk_alloc ?_ _)); refine blk_far ?_ NB152_153.out _; (with_reducible repeat (first | refine blk_drewN ?_ _ | refine blk_drew ?_ | refine blk_alloc ?_ _)); refine blk_far ?_ NB152_153.out _; (with_reducible repeat (first | refine blk_drewN ?_ _ | refine blk_drew ?_ | refine blk_alloc ?_ _)); exact BK152.out), fun _ => (by (with_reducible repeat (first | refine blk_drewN ?_ _ | refine blk_drew ?_ | refine blk_alloc ?_ _)); refine blk_put (cs := #[.int .i64 t144, .bool false]) ?_ 1 _ rfl; (with_reducible repeat (first | refine blk_drewN ?_ _ | refine blk_drew ?_ | refine blk_alloc ?_ _)); refine blk_put (cs := #[.int .i64 0, .bool false]) ?_ 0 _ rfl; (with_reducible repeat (first | refine blk_drewN ?_ _ | refine blk_drew ?_ | refine blk_alloc ?_ _)); exact BK153.out), fun h0_ => absurd ((hoff 22 (by kernel_rfl)).symm.trans h0_) (by decide), fun h0_ => absurd ((hoff 23 (by kernel_rfl)).symm.trans h0_) (by decide), Y39, Y40, Y41, Y42⟩
    refine steps_cons ?_ ?_
    · rintro b a w' ⟨gb152, gb153, gb154, gb155, m16_, m17_, m18_, m19_, ha, Y18, Y0, Y17, Y28, Y24, Y32, Y25, Y36, Y26, Y33, Y29, Y37, Y30, Y38, Y34, Y1, Y13, Y9, Y19, Y23, Y3, Y14, Y10, Y20, Y27, Y5, Y15, Y11, Y21, Y31, Y7, Y16, Y12, Y22, Y35, Y2, Y4, Y6, Y8, Y39, Y40, Y41, Y42⟩ hb_ hon hoff
      refine ⟨_, rfl, fun K hK => ?_⟩
      have e8 : a.tmps[8]? = some (m18_) := by rw [ha]; exact putSel_on (e := (18, 8, m18_)) 14 rfl rfl (hon 18 (by kernel_rfl)) rfl
      rw [Y41 (hon 18 (by kernel_rfl))] at e8
      have e30 : a.tmps[30]? = some (.agg #[.string t147, .bool t148]) := by rw [ha]; exact putSel_on (e := (11, 30, .agg #[.string t147, .bool t148])) 8 rfl rfl (hon 11 (by kernel_rfl)) rfl
      replace ha := Aside0.mk ha
      have HO139 := Aside0.mk Y18
      have BK135 := Aside0.mk Y0
      have HB := Aside0.mk Y17
      have NB153_152 := Aside0.mk (Y28 (hon 16 (by kernel_rfl)) (hon 17 (by kernel_rfl)))
      have NB152_153 := Aside0.mk (Y24 (hon 16 (by kernel_rfl)) (hon 17 (by kernel_rfl)))
      have NB154_152 := Aside0.mk (Y32 (hon 16 (by kernel_rfl)) (hon 18 (by kernel_rfl)))
      have NB152_154 := Aside0.mk (Y25 (hon 16 (by kernel_rfl)) (hon 18 (by kernel_rfl)))
      have NB155_152 := Aside0.mk (Y36 (hon 16 (by kernel_rfl)) (hon 19 (by kernel_rfl)))
      have NB152_155 := Aside0.mk (Y26 (hon 16 (by kernel_rfl)) (hon 19 (by kernel_rfl)))
      have NB154_153 := Aside0.mk (Y33 (hon 17 (by kernel_rfl)) (hon 18 (by kernel_rfl)))
      have NB153_154 := Aside0.mk (Y29 (hon 17 (by kernel_rfl)) (hon 18 (by kernel_rfl)))
      have NB155_153 := Aside0.mk (Y37 (hon 17 (by kernel_rfl)) (hon 19 (by kernel_rfl)))
      have NB153_155 := Aside0.mk (Y30 (hon 17 (by kernel_rfl)) (hon 19 (by kernel_rfl)))
      have NB155_154 := Aside0.mk (Y38 (hon 18 (by kernel_rfl)) (hon 19 (by kernel_rfl)))
      have NB154_155 := Aside0.mk (Y34 (hon 18 (by kernel_rfl)) (hon 19 (by kernel_rfl)))
      have GW152 := Aside0.mk (Y13 (hon 16 (by kernel_rfl)))
      have GE152 := Aside0.mk (Y9 (hon 16 (by kernel_rfl)))
      have NB135_152 := Aside0.mk (Y19 (hon 16 (by kernel_rfl)))
      have NB152_135 := Aside0.mk (Y23 (hon 16 (by kernel_rfl)))
      have GW153 := Aside0.mk (Y14 (hon 17 (by kernel_rfl)))
      have GE153 := Aside0.mk (Y10 (hon 17 (by kernel_rfl)))
      have NB135_153 := Aside0.mk (Y20 (hon 17 (by kernel_rfl)))
      have NB153_135 := Aside0.mk (Y27 (hon 17 (by kernel_rfl)))
      have BK154 := Aside0.mk (Y5 (hon 18 (by kernel_rfl)) hb_)
      have GW154 := Aside0.mk (Y15 (hon 18 (by kernel_rfl)))
      have GE154 := Aside0.mk (Y11 (hon 18 (by kernel_rfl)))
      have NB135_154 := Aside0.mk (Y21 (hon 18 (by kernel_rfl)))
      have NB154_135 := Aside0.mk (Y31 (hon 18 (by kernel_rfl)))
      have BK155 := Aside0.mk (Y7 (hon 19 (by kernel_rfl)) (hoff 23 (by kernel_rfl)))
      have GW155 := Aside0.mk (Y16 (hon 19 (by kernel_rfl)))
      have GE155 := Aside0.mk (Y12 (hon 19 (by kernel_rfl)))
      have NB135_155 := Aside0.mk (Y22 (hon 19 (by kernel_rfl)))
      have NB155_135 := Aside0.mk (Y35 (hon 19 (by kernel_rfl)))
      have BK152 := Aside0.mk (Y2 (hon 20 (by kernel_rfl)))
      have BK153 := Aside0.mk (Y4 (hon 21 (by kernel_rfl)))
      have hs30 : w'.cell? ⟨gb154, 0, none⟩ = some (.string (⟨#[]⟩ : ByteArray)) := (blk_cell BK154.out 0).trans rfl
      have hfs30 := blk_frozen BK154.out 0
      have hns30_0 := NB135_154.out
      have hns30_1 := NB152_154.out
      have hns30_2 := NB153_154.out
      have hns30_4 := NB155_154.out
      have hms30_0 := NB154_135.out
      have hms30_1 := NB154_152.out
      have hms30_2 := NB154_153.out
      have hms30_4 := NB154_155.out
      have hs31 : w'.cell? ⟨gb154, 1, none⟩ = some (.bool false) := (blk_cell BK154.out 1).trans rfl
      have hfs31 := blk_frozen BK154.out 1
      have hns31_0 := NB135_154.out
      have hns31_1 := NB152_154.out
      have hns31_2 := NB153_154.out
      have hns31_4 := NB155_154.out
      have hms31_0 := NB154_135.out
      have hms31_1 := NB154_152.out
      have hms31_2 := NB154_153.out
      have hms31_4 := NB154_155.out
      refine skip_ (w1 := ?_) (by rfl) rfl ?_ ?_
      rotate_left
      · go_simp
        rfl
      refine hK.out _ _ ⟨gb152, gb153, gb154, gb155, m16_, m17_, m18_, m19_, (by rw [ha.out]; exact putSel_none (v := undef) rfl), (by (with_reducible repeat (first | apply Kd.R_alloc | apply Kd.R_drewN | apply Kd.R_drew)); exact Kd.R_mono (Kd.R_far (p := ⟨gb154, 1, none⟩) (Kd.R_far (p := ⟨gb154, 0, none⟩) (Kd.R_types HO139.out BK154.out (by decide)) (fun _ hk => hk.2) (.string t147)) (fun _ hk => hk.2) (.bool t148)) (fun _ hk => trivial)), (by (with_reducible repeat (first | refine blk_drewN ?_ _ | refine blk_drew ?_ | refine blk_alloc ?_ _)); refine blk_far ?_ NB135_154.out _; (with_reducible repeat (first | refine blk_drewN ?_ _ | refine blk_drew ?_ | refine blk_alloc ?_ _)); refine blk_far ?_ NB135_154.out _; (with_reducible repeat (first | refine blk_drewN ?_ _ | refine blk_drew ?_ | refine blk_alloc ?_ _)); exact BK135.out), (by repeat (first | (with_reducible first | exact HB.out | apply below_alloc | apply pw_below_drewN | apply below_drew1 | refine below_set ?_ GE135.out | refine below_set ?_ GE152.out | refine below_set ?_ GE153.out | refine below_set ?_ GE154.out | refine below_set ?_ GE155.out) | exact HB.out)), fun _ _ => NB153_152.out, fun _ _ => NB152_153.out, fun _ _ => NB154_152.out, fun _ _ => NB152_154.out, fun _ _ => NB155_152.out, fun _ _ => NB152_155.out, fun _ _ => NB154_153.out, fun _ _ => NB153_154.out, fun _ _ => NB155_153.out, fun _ _ => NB153_155.out, fun _ _ => NB155_154.out, fun _ _ => NB154_155.out, fun _ h1_ => absurd ((hon 20 (by kernel_rfl)).symm.trans h1_) (by decide), fun _ => GW152.out, fun _ => GE152.out, fun _ => NB135_152.out, fun _ => NB152_135.out, fun _ h1_ => absurd ((hon 21 (by kernel_rfl)).symm.trans h1_) (by decide), fun _ => GW153.out, fun _ => GE153.out, fun _ => NB135_153.out, fun _ => NB153_135.out, fun _ h1_ => absurd ((up_self b 22).symm.trans h1_) (by decide), fun _ => GW154.out, fun _ => GE154.out, fun _ => NB135_154.out, fun _ => NB154_135.out, fun _ _ => (by (with_reducible repeat (first | refine blk_drewN ?_ _ | refine blk_drew ?_ | refine blk_alloc ?_ _)); refine blk_far ?_ NB155_154.out _; (with_reducible repeat (first | refine blk_drewN ?_ _ | refine blk_drew ?_ | refine blk_alloc ?_ _)); refine blk_far ?_ NB155_154.out _; (with_reducible repeat (first | refine blk_drewN ?_ _ | refine blk_drew ?_ | refine blk_alloc ?_ _)); exact BK155.out), fun _ => GW155.out, fun _ => GE155.out, fun _ => NB135_155.out, fun _ => NB155_135.out, fun _ => (by (with_reducible repeat (first | refine blk_drewN ?_ _ | refine blk_drew ?_ | refine blk_alloc ?_ _)); refine blk_far ?_ NB152_154.out _; (with_reducible repeat (first | refine blk_drewN ?_ _ | refine blk_drew ?_ | refine blk_alloc ?_ _)); refine blk_far ?_ NB152_154.out _; (with_reducible repeat (first | refine blk_drewN ?_ _ | refine blk_drew ?_ | refine blk_alloc ?_ _)); exact BK152.out), fun _ => (by (with_reducible repeat (first | refine blk_drewN ?_ _ | refine blk_drew ?_ | refine blk_alloc ?_ _)); refine blk_far ?_ NB153_154.out _; (with_reducible repeat (first | refine blk_drewN ?_ _ | refine blk_drew ?_ | refine blk_alloc ?_ _)); refine blk_far ?_ NB153_154.out _; (with_reducible repeat (first | refine blk_drewN ?_ _ | refine blk_drew ?_ | refine blk_alloc ?_ _)); exact BK153.out), fun _ => (by (with_reducible repeat (first | refine blk_drewN ?_ _ | refine blk_drew ?_ | refine blk_alloc ?_ _)); refine blk_put (cs := #[.string t147, .bool false]) ?_ 1 _ rfl; (with_reducible repeat (first | refine blk_drewN ?_ _ | refine blk_drew ?_ | refine blk_alloc ?_ _)); refine blk_put (cs := #[.string (⟨#[]⟩ : ByteArray), .bool false]) ?_ 0 _ rfl; (with_reducible repeat (first | refine blk_drewN ?_ _ | refine blk_drew ?_ | refine blk_alloc ?_ _)); exact BK154.out), fun h0_ => absurd ((hoff 23 (by kernel_rfl)).symm.trans h0_) (by decide), Y39, Y40, Y41, Y42⟩
    refine steps_cons ?_ ?_
    · rintro b a w' ⟨gb152, gb153, gb154, gb155, m16_, m17_, m18_, m19_, ha, Y18, Y0, Y17, Y28, Y24, Y32, Y25, Y36, Y26, Y33, Y29, Y37, Y30, Y38, Y34, Y1, Y13, Y9, Y19, Y23, Y3, Y14, Y10, Y20, Y27, Y5, Y15, Y11, Y21, Y31, Y7, Y16, Y12, Y22, Y35, Y2, Y4, Y6, Y8, Y39, Y40, Y41, Y42⟩ hb_ hon hoff
      refine ⟨_, rfl, fun K hK => ?_⟩
      have e9 : a.tmps[9]? = some (m19_) := by rw [ha]; exact putSel_on (e := (19, 9, m19_)) 15 rfl rfl (hon 19 (by kernel_rfl)) rfl
      rw [Y42 (hon 19 (by kernel_rfl))] at e9
      have e34 : a.tmps[34]? = some (.agg #[.string t150, .bool t151]) := by rw [ha]; exact putSel_on (e := (15, 34, .agg #[.string t150, .bool t151])) 11 rfl rfl (hon 15 (by kernel_rfl)) rfl
      replace ha := Aside0.mk ha
      have HO139 := Aside0.mk Y18
      have BK135 := Aside0.mk Y0
      have HB := Aside0.mk Y17
      have NB153_152 := Aside0.mk (Y28 (hon 16 (by kernel_rfl)) (hon 17 (by kernel_rfl)))
      have NB152_153 := Aside0.mk (Y24 (hon 16 (by kernel_rfl)) (hon 17 (by kernel_rfl)))
      have NB154_152 := Aside0.mk (Y32 (hon 16 (by kernel_rfl)) (hon 18 (by kernel_rfl)))
      have NB152_154 := Aside0.mk (Y25 (hon 16 (by kernel_rfl)) (hon 18 (by kernel_rfl)))
      have NB155_152 := Aside0.mk (Y36 (hon 16 (by kernel_rfl)) (hon 19 (by kernel_rfl)))
      have NB152_155 := Aside0.mk (Y26 (hon 16 (by kernel_rfl)) (hon 19 (by kernel_rfl)))
      have NB154_153 := Aside0.mk (Y33 (hon 17 (by kernel_rfl)) (hon 18 (by kernel_rfl)))
      have NB153_154 := Aside0.mk (Y29 (hon 17 (by kernel_rfl)) (hon 18 (by kernel_rfl)))
      have NB155_153 := Aside0.mk (Y37 (hon 17 (by kernel_rfl)) (hon 19 (by kernel_rfl)))
      have NB153_155 := Aside0.mk (Y30 (hon 17 (by kernel_rfl)) (hon 19 (by kernel_rfl)))
      have NB155_154 := Aside0.mk (Y38 (hon 18 (by kernel_rfl)) (hon 19 (by kernel_rfl)))
      have NB154_155 := Aside0.mk (Y34 (hon 18 (by kernel_rfl)) (hon 19 (by kernel_rfl)))
      have GW152 := Aside0.mk (Y13 (hon 16 (by kernel_rfl)))
      have GE152 := Aside0.mk (Y9 (hon 16 (by kernel_rfl)))
      have NB135_152 := Aside0.mk (Y19 (hon 16 (by kernel_rfl)))
      have NB152_135 := Aside0.mk (Y23 (hon 16 (by kernel_rfl)))
      have GW153 := Aside0.mk (Y14 (hon 17 (by kernel_rfl)))
      have GE153 := Aside0.mk (Y10 (hon 17 (by kernel_rfl)))
      have NB135_153 := Aside0.mk (Y20 (hon 17 (by kernel_rfl)))
      have NB153_135 := Aside0.mk (Y27 (hon 17 (by kernel_rfl)))
      have GW154 := Aside0.mk (Y15 (hon 18 (by kernel_rfl)))
      have GE154 := Aside0.mk (Y11 (hon 18 (by kernel_rfl)))
      have NB135_154 := Aside0.mk (Y21 (hon 18 (by kernel_rfl)))
      have NB154_135 := Aside0.mk (Y31 (hon 18 (by kernel_rfl)))
      have BK155 := Aside0.mk (Y7 (hon 19 (by kernel_rfl)) hb_)
      have GW155 := Aside0.mk (Y16 (hon 19 (by kernel_rfl)))
      have GE155 := Aside0.mk (Y12 (hon 19 (by kernel_rfl)))
      have NB135_155 := Aside0.mk (Y22 (hon 19 (by kernel_rfl)))
      have NB155_135 := Aside0.mk (Y35 (hon 19 (by kernel_rfl)))
      have BK152 := Aside0.mk (Y2 (hon 20 (by kernel_rfl)))
      have BK153 := Aside0.mk (Y4 (hon 21 (by kernel_rfl)))
      have BK154 := Aside0.mk (Y6 (hon 22 (by kernel_rfl)))
      have hs32 : w'.cell? ⟨gb155, 0, none⟩ = some (.string (⟨#[]⟩ : ByteArray)) := (blk_cell BK155.out 0).trans rfl
      have hfs32 := blk_frozen BK155.out 0
      have hns32_0 := NB135_155.out
      have hns32_1 := NB152_155.out
      have hns32_2 := NB153_155.out
      have hns32_3 := NB154_155.out
      have hms32_0 := NB155_135.out
      have hms32_1 := NB155_152.out
      have hms32_2 := NB155_153.out
      have hms32_3 := NB155_154.out
      have hs33 : w'.cell? ⟨gb155, 1, none⟩ = some (.bool false) := (blk_cell BK155.out 1).trans rfl
      have hfs33 := blk_frozen BK155.out 1
      have hns33_0 := NB135_155.out
      have hns33_1 := NB152_155.out
      have hns33_2 := NB153_155.out
      have hns33_3 := NB154_155.out
      have hms33_0 := NB155_135.out
      have hms33_1 := NB155_152.out
      have hms33_2 := NB155_153.out
      have hms33_3 := NB155_154.out
      refine skip_ (w1 := ?_) (by rfl) rfl ?_ ?_
      rotate_left
      · go_simp
        rfl
      refine hK.out _ _ ⟨gb152, gb153, gb154, gb155, m16_, m17_, m18_, m19_, (by rw [ha.out]; exact putSel_none (v := undef) rfl), (by (with_reducible repeat (first | apply Kd.R_alloc | apply Kd.R_drewN | apply Kd.R_drew)); exact Kd.R_mono (Kd.R_far (p := ⟨gb155, 1, none⟩) (Kd.R_far (p := ⟨gb155, 0, none⟩) (Kd.R_types HO139.out BK155.out (by decide)) (fun _ hk => hk.2) (.string t150)) (fun _ hk => hk.2) (.bool t151)) (fun _ hk => trivial)), (by (with_reducible repeat (first | refine blk_drewN ?_ _ | refine blk_drew ?_ | refine blk_alloc ?_ _)); refine blk_far ?_ NB135_155.out _; (with_reducible repeat (first | refine blk_drewN ?_ _ | refine blk_drew ?_ | refine blk_alloc ?_ _)); refine blk_far ?_ NB135_155.out _; (with_reducible repeat (first | refine blk_drewN ?_ _ | refine blk_drew ?_ | refine blk_alloc ?_ _)); exact BK135.out), (by repeat (first | (with_reducible first | exact HB.out | apply below_alloc | apply pw_below_drewN | apply below_drew1 | refine below_set ?_ GE135.out | refine below_set ?_ GE152.out | refine below_set ?_ GE153.out | refine below_set ?_ GE154.out | refine below_set ?_ GE155.out) | exact HB.out)), fun _ _ => NB153_152.out, fun _ _ => NB152_153.out, fun _ _ => NB154_152.out, fun _ _ => NB152_154.out, fun _ _ => NB155_152.out, fun _ _ => NB152_155.out, fun _ _ => NB154_153.out, fun _ _ => NB153_154.out, fun _ _ => NB155_153.out, fun _ _ => NB153_155.out, fun _ _ => NB155_154.out, fun _ _ => NB154_155.out, fun _ h1_ => absurd ((hon 20 (by kernel_rfl)).symm.trans h1_) (by decide), fun _ => GW152.out, fun _ => GE152.out, fun _ => NB135_152.out, fun _ => NB152_135.out, fun _ h1_ => absurd ((hon 21 (by kernel_rfl)).symm.trans h1_) (by decide), fun _ => GW153.out, fun _ => GE153.out, fun _ => NB135_153.out, fun _ => NB153_135.out, fun _ h1_ => absurd ((hon 22 (by kernel_rfl)).symm.trans h1_) (by decide), fun _ => GW154.out, fun _ => GE154.out, fun _ => NB135_154.out, fun _ => NB154_135.out, fun _ h1_ => absurd ((up_self b 23).symm.trans h1_) (by decide), fun _ => GW155.out, fun _ => GE155.out, fun _ => NB135_155.out, fun _ => NB155_135.out, fun _ => (by (with_reducible repeat (first | refine blk_drewN ?_ _ | refine blk_drew ?_ | refine blk_alloc ?_ _)); refine blk_far ?_ NB152_155.out _; (with_reducible repeat (first | refine blk_drewN ?_ _ | refine blk_drew ?_ | refine blk_alloc ?_ _)); refine blk_far ?_ NB152_155.out _; (with_reducible repeat (first | refine blk_drewN ?_ _ | refine blk_drew ?_ | refine blk_alloc ?_ _)); exact BK152.out), fun _ => (by (with_reducible repeat (first | refine blk_drewN ?_ _ | refine blk_drew ?_ | refine blk_alloc ?_ _)); refine blk_far ?_ NB153_155.out _; (with_reducible repeat (first | refine blk_drewN ?_ _ | refine blk_drew ?_ | refine blk_alloc ?_ _)); refine blk_far ?_ NB153_155.out _; (with_reducible repeat (first | refine blk_drewN ?_ _ | refine blk_drew ?_ | refine blk_alloc ?_ _)); exact BK153.out), fun _ => (by (with_reducible repeat (first | refine blk_drewN ?_ _ | refine blk_drew ?_ | refine blk_alloc ?_ _)); refine blk_far ?_ NB154_155.out _; (with_reducible repeat (first | refine blk_drewN ?_ _ | refine blk_drew ?_ | refine blk_alloc ?_ _)); refine blk_far ?_ NB154_155.out _; (with_reducible repeat (first | refine blk_drewN ?_ _ | refine blk_drew ?_ | refine blk_alloc ?_ _)); exact BK154.out), fun _ => (by (with_reducible repeat (first | refine blk_drewN ?_ _ | refine blk_drew ?_ | refine blk_alloc ?_ _)); refine blk_put (cs := #[.string t150, .bool false]) ?_ 1 _ rfl; (with_reducible repeat (first | refine blk_drewN ?_ _ | refine blk_drew ?_ | refine blk_alloc ?_ _)); refine blk_put (cs := #[.string (⟨#[]⟩ : ByteArray), .bool false]) ?_ 0 _ rfl; (with_reducible repeat (first | refine blk_drewN ?_ _ | refine blk_drew ?_ | refine blk_alloc ?_ _)); exact BK155.out), Y39, Y40, Y41, Y42⟩
    exact steps_nil
  rintro b a w33 hall ⟨gb152, gb153, gb154, gb155, m16_, m17_, m18_, m19_, ha, Y18, Y0, Y17, Y28, Y24, Y32, Y25, Y36, Y26, Y33, Y29, Y37, Y30, Y38, Y34, Y1, Y13, Y9, Y19, Y23, Y3, Y14, Y10, Y20, Y27, Y5, Y15, Y11, Y21, Y31, Y7, Y16, Y12, Y22, Y35, Y2, Y4, Y6, Y8, Y39, Y40, Y41, Y42⟩
  clear BK135 HB HO139
  have hb1_ := hall 1 (by kernel_rfl)
  have hb2_ := hall 2 (by kernel_rfl)
  have hb3_ := hall 3 (by kernel_rfl)
  have hb5_ := hall 5 (by kernel_rfl)
  have hb6_ := hall 6 (by kernel_rfl)
  have hb7_ := hall 7 (by kernel_rfl)
  have hb9_ := hall 9 (by kernel_rfl)
  have hb10_ := hall 10 (by kernel_rfl)
  have hb11_ := hall 11 (by kernel_rfl)
  have hb13_ := hall 13 (by kernel_rfl)
  have hb14_ := hall 14 (by kernel_rfl)
  have hb15_ := hall 15 (by kernel_rfl)
  have hb16_ := hall 16 (by kernel_rfl)
  have hb17_ := hall 17 (by kernel_rfl)
  have hb18_ := hall 18 (by kernel_rfl)
  have hb19_ := hall 19 (by kernel_rfl)
  have hb20_ := hall 20 (by kernel_rfl)
  have hb21_ := hall 21 (by kernel_rfl)
  have hb22_ := hall 22 (by kernel_rfl)
  have hb23_ := hall 23 (by kernel_rfl)
  subst ha
  obtain rfl := Y39 hb16_
  obtain rfl := Y40 hb17_
  obtain rfl := Y41 hb18_
  obtain rfl := Y42 hb19_
  simp only [putSel, hb1_, hb2_, hb3_, hb5_, hb6_, hb7_, hb9_, hb10_, hb11_, hb13_, hb14_, hb15_, hb16_, hb17_, hb18_, hb19_, hb20_, hb21_, hb22_, hb23_, if_true, Act.put, List.setIfInBounds_toArray, List.set_cons_zero, List.set_cons_succ]
  have HO139 := Aside0.mk Y18
  clear Y18
  have BK135 := Aside0.mk Y0
  clear Y0
  have HB := Aside0.mk Y17
  clear Y17
  have NB153_152 := Aside0.mk (Y28 hb16_ hb17_)
  clear Y28
  have NB152_153 := Aside0.mk (Y24 hb16_ hb17_)
  clear Y24
  have NB154_152 := Aside0.mk (Y32 hb16_ hb18_)
  clear Y32
  have NB152_154 := Aside0.mk (Y25 hb16_ hb18_)
  clear Y25
  have NB155_152 := Aside0.mk (Y36 hb16_ hb19_)
  clear Y36
  have NB152_155 := Aside0.mk (Y26 hb16_ hb19_)
  clear Y26
  have NB154_153 := Aside0.mk (Y33 hb17_ hb18_)
  clear Y33
  have NB153_154 := Aside0.mk (Y29 hb17_ hb18_)
  clear Y29
  have NB155_153 := Aside0.mk (Y37 hb17_ hb19_)
  clear Y37
  have NB153_155 := Aside0.mk (Y30 hb17_ hb19_)
  clear Y30
  have NB155_154 := Aside0.mk (Y38 hb18_ hb19_)
  clear Y38
  have NB154_155 := Aside0.mk (Y34 hb18_ hb19_)
  clear Y34
  clear Y1
  have GW152 := Aside0.mk (Y13 hb16_)
  clear Y13
  have GE152 := Aside0.mk (Y9 hb16_)
  clear Y9
  have NB135_152 := Aside0.mk (Y19 hb16_)
  clear Y19
  have NB152_135 := Aside0.mk (Y23 hb16_)
  clear Y23
  clear Y3
  have GW153 := Aside0.mk (Y14 hb17_)
  clear Y14
  have GE153 := Aside0.mk (Y10 hb17_)
  clear Y10
  have NB135_153 := Aside0.mk (Y20 hb17_)
  clear Y20
  have NB153_135 := Aside0.mk (Y27 hb17_)
  clear Y27
  clear Y5
  have GW154 := Aside0.mk (Y15 hb18_)
  clear Y15
  have GE154 := Aside0.mk (Y11 hb18_)
  clear Y11
  have NB135_154 := Aside0.mk (Y21 hb18_)
  clear Y21
  have NB154_135 := Aside0.mk (Y31 hb18_)
  clear Y31
  clear Y7
  have GW155 := Aside0.mk (Y16 hb19_)
  clear Y16
  have GE155 := Aside0.mk (Y12 hb19_)
  clear Y12
  have NB135_155 := Aside0.mk (Y22 hb19_)
  clear Y22
  have NB155_135 := Aside0.mk (Y35 hb19_)
  clear Y35
  have BK152 := Aside0.mk (Y2 hb20_)
  clear Y2
  have BK153 := Aside0.mk (Y4 hb21_)
  clear Y4
  have BK154 := Aside0.mk (Y6 hb22_)
  clear Y6
  have BK155 := Aside0.mk (Y8 hb23_)
  clear Y8
  clear hall hb1_ hb2_ hb3_ hb5_ hb6_ hb7_ hb9_ hb10_ hb11_ hb13_ hb14_ hb15_ hb16_ hb17_ hb18_ hb19_ hb20_ hb21_ hb22_ hb23_
  have H := HM_.out
  clear HM_
  by_cases c12 : t142 = true
  case neg =>
    replace c12 := Bool.eq_false_iff.mpr c12
    subst c12
    have H1 : (if t145 = true then (some (0, 0, (⟨#[]⟩ : ByteArray), (⟨#[]⟩ : ByteArray), 3)) else ((wire_CheckCommand.f t141 t144 t147 t150).bind fun t157 => (if t157 = 0 then (some (t141, t144, t147, t150, 0)) else (some (0, 0, (⟨#[]⟩ : ByteArray), (⟨#[]⟩ : ByteArray), 3))))) = some (r1, r2, r3, r4, r5) := by rw [if_neg (show ¬ (false = true) by decide)] at H; exact H
    clear H
    have H := H1
    clear H1
    by_cases c57 : t145 = true
    case neg =>
      replace c57 := Bool.eq_false_iff.mpr c57
      subst c57
      have H1 : ((wire_CheckCommand.f t141 t144 t147 t150).bind fun t157 => (if t157 = 0 then (some (t141, t144, t147, t150, 0)) else (some (0, 0, (⟨#[]⟩ : ByteArray), (⟨#[]⟩ : ByteArray), 3)))) = some (r1, r2, r3, r4, r5) := by rw [if_neg (show ¬ (false = true) by decide)] at H; exact H
      clear H
      have H := H1
      clear H1
      replace H := Option.bind_eq_some_iff.mp H
      obtain ⟨t157, A1030, H⟩ := H
      replace H : (if t157 = 0 then (some (t141, t144, t147, t150, 0)) else (some (0, 0, (⟨#[]⟩ : ByteArray), (⟨#[]⟩ : ByteArray), 3))) = some (r1, r2, r3, r4, r5) := H
      have A103 := Aside0.mk A1030
      clear A1030
      by_cases c104 : t157 = 0
      case neg =>
        rw [if_neg c104] at H
        have c104b0 : (t157 == 0) = false := beq_eq_false_iff_ne.mpr c104
        have c104b1 : (t157 != 0) = true := bne_iff_ne.mpr c104
        simp only [Option.some.injEq, Prod.mk.injEq] at H
        obtain ⟨rfl, rfl, rfl, rfl, rfl⟩ := H
        have hnb173 := NB152_135.out
        have hnc173 := NB135_152.out
        have hnb174 := NB152_153.out
        have hnc174 := NB153_152.out
        have hnb175 := NB152_154.out
        have hnc175 := NB154_152.out
        have hnb176 := NB152_155.out
        have hnc176 := NB155_152.out
        have hcz177_0 : w33.cell? ⟨gb152, 0, none⟩ = some (.int .i64 t141) := (blk_cell BK152.out 0).trans rfl
        have hcz177_1 : w33.cell? ⟨gb152, 1, none⟩ = some (.bool false) := (blk_cell BK152.out 1).trans rfl
        have hfz177_0 := blk_frozen BK152.out 0
        have hfz177_1 := blk_frozen BK152.out 1
        have hnb178 := NB153_135.out
        have hnc178 := NB135_153.out
        have hnb179 := NB153_154.out
        have hnc179 := NB154_153.out
        have hnb180 := NB153_155.out
        have hnc180 := NB155_153.out
        have hcz181_0 : w33.cell? ⟨gb153, 0, none⟩ = some (.int .i64 t144) := (blk_cell BK153.out 0).trans rfl
        have hcz181_1 : w33.cell? ⟨gb153, 1, none⟩ = some (.bool false) := (blk_cell BK153.out 1).trans rfl
        have hfz181_0 := blk_frozen BK153.out 0
        have hfz181_1 := blk_frozen BK153.out 1
        have hnb182 := NB154_135.out
        have hnc182 := NB135_154.out
        have hnb183 := NB154_155.out
        have hnc183 := NB155_154.out
        have hcz184_0 : w33.cell? ⟨gb154, 0, none⟩ = some (.string t147) := (blk_cell BK154.out 0).trans rfl
        have hcz184_1 : w33.cell? ⟨gb154, 1, none⟩ = some (.bool t148) := (blk_cell BK154.out 1).trans rfl
        have hfz184_0 := blk_frozen BK154.out 0
        have hfz184_1 := blk_frozen BK154.out 1
        have hnb185 := NB155_135.out
        have hnc185 := NB135_155.out
        have hcz186_0 : w33.cell? ⟨gb155, 0, none⟩ = some (.string t150) := (blk_cell BK155.out 0).trans rfl
        have hcz186_1 : w33.cell? ⟨gb155, 1, none⟩ = some (.bool t151) := (blk_cell BK155.out 1).trans rfl
        have hfz186_0 := blk_frozen BK155.out 0
        have hfz186_1 := blk_frozen BK155.out 1
        try go_wp2_with (first | ((with_reducible refine gate_dst (N := 10) rfl ?_); refine box_event ?hg (N := 10) ?hd (cs := #[.int .i64 0, .int .i64 0, .string (⟨#[]⟩ : ByteArray), .string (⟨#[]⟩ : ByteArray)]) (t := 36) ?hr ?_; (case hd => rfl); (case hg => rfl); (case hr => first | (go_simp; done) | (go_simp; rfl)); intro gb156 hg w187 hbox hb; have n0_ := Aside0.mk (Kd.R_below (by (with_reducible repeat (first | apply Kd.R_alloc | apply Kd.R_drewN | apply Kd.R_drew)); exact HO139.out) hb); have n1_ := Aside0.mk (blk_below (g := gb135) (o := .cells #[.int .i64 0, .int .i64 0, .string (⟨#[]⟩ : ByteArray), .string (⟨#[]⟩ : ByteArray)] 36 (0, 0)) (by (with_reducible repeat (first | refine blk_drewN ?_ _ | refine blk_drew ?_ | refine blk_alloc ?_ _)); exact BK135.out) hb); have n2_ := Aside0.mk (blk_below (g := gb152) (o := .cells #[.int .i64 t141, .bool false] 66 (0, 0)) (by (with_reducible repeat (first | refine blk_drewN ?_ _ | refine blk_drew ?_ | refine blk_alloc ?_ _)); exact BK152.out) hb); have n3_ := Aside0.mk (blk_below (g := gb153) (o := .cells #[.int .i64 t144, .bool false] 66 (0, 0)) (by (with_reducible repeat (first | refine blk_drewN ?_ _ | refine blk_drew ?_ | refine blk_alloc ?_ _)); exact BK153.out) hb); have n4_ := Aside0.mk (blk_below (g := gb154) (o := .cells #[.string t147, .bool t148] 69 (0, 0)) (by (with_reducible repeat (first | refine blk_drewN ?_ _ | refine blk_drew ?_ | refine blk_alloc ?_ _)); exact BK154.out) hb); have n5_ := Aside0.mk (blk_below (g := gb155) (o := .cells #[.string t150, .bool t151] 69 (0, 0)) (by (with_reducible repeat (first | refine blk_drewN ?_ _ | refine blk_drew ?_ | refine blk_alloc ?_ _)); exact BK155.out) hb); have n6_ := Aside0.mk (below_step (by repeat (first | (with_reducible first | exact HB.out | apply below_alloc | apply pw_below_drewN | apply below_drew1 | refine below_set ?_ GE135.out | refine below_set ?_ GE152.out | refine below_set ?_ GE153.out | refine below_set ?_ GE154.out | refine below_set ?_ GE155.out) | exact HB.out)) hb); have n7_ := Aside0.mk (hbox); have n8_ := Aside0.mk ((by rw [hg]; exact (below_size (by repeat (first | (with_reducible first | exact HB.out | apply below_alloc | apply pw_below_drewN | apply below_drew1 | refine below_set ?_ GE135.out | refine below_set ?_ GE152.out | refine below_set ?_ GE153.out | refine below_set ?_ GE154.out | refine below_set ?_ GE155.out) | exact HB.out))) : w.heap.size ≤ gb156)); have n9_ := Aside0.mk ((by rw [hg]; exact (below_size (by repeat (first | (with_reducible first | exact HB.out | apply below_alloc | apply pw_below_drewN | apply below_drew1 | refine below_set ?_ GE135.out | refine below_set ?_ GE152.out | refine below_set ?_ GE153.out | refine below_set ?_ GE154.out | refine below_set ?_ GE155.out) | exact HB.out))) : w.heap.size ≤ gb156)); have n10_ := Aside0.mk ((by rw [hg]; exact Nat.ne_of_lt (blk_lt (g := gb135) (o := .cells #[.int .i64 0, .int .i64 0, .string (⟨#[]⟩ : ByteArray), .string (⟨#[]⟩ : ByteArray)] 36 (0, 0)) (by (with_reducible repeat (first | refine blk_drewN ?_ _ | refine blk_drew ?_ | refine blk_alloc ?_ _)); exact BK135.out)) : gb135 ≠ gb156)); have n11_ := Aside0.mk ((by rw [hg]; exact Nat.ne_of_gt (blk_lt (g := gb135) (o := .cells #[.int .i64 0, .int .i64 0, .string (⟨#[]⟩ : ByteArray), .string (⟨#[]⟩ : ByteArray)] 36 (0, 0)) (by (with_reducible repeat (first | refine blk_drewN ?_ _ | refine blk_drew ?_ | refine blk_alloc ?_ _)); exact BK135.out)) : gb156 ≠ gb135)); have n12_ := Aside0.mk ((by rw [hg]; exact Nat.ne_of_lt (blk_lt (g := gb152) (o := .cells #[.int .i64 t141, .bool false] 66 (0, 0)) (by (with_reducible repeat (first | refine blk_drewN ?_ _ | refine blk_drew ?_ | refine blk_alloc ?_ _)); exact BK152.out)) : gb152 ≠ gb156)); have n13_ := Aside0.mk ((by rw [hg]; exact Nat.ne_of_gt (blk_lt (g := gb152) (o := .cells #[.int .i64 t141, .bool false] 66 (0, 0)) (by (with_reducible repeat (first | refine blk_drewN ?_ _ | refine blk_drew ?_ | refine blk_alloc ?_ _)); exact BK152.out)) : gb156 ≠ gb152)); have n14_ := Aside0.mk ((by rw [hg]; exact Nat.ne_of_lt (blk_lt (g := gb153) (o := .cells #[.int .i64 t144, .bool false] 66 (0, 0)) (by (with_reducible repeat (first | refine blk_drewN ?_ _ | refine blk_drew ?_ | refine blk_alloc ?_ _)); exact BK153.out)) : gb153 ≠ gb156)); have n15_ := Aside0.mk ((by rw [hg]; exact Nat.ne_of_gt (blk_lt (g := gb153) (o := .cells #[.int .i64 t144, .bool false] 66 (0, 0)) (by (with_reducible repeat (first | refine blk_drewN ?_ _ | refine blk_drew ?_ | refine blk_alloc ?_ _)); exact BK153.out)) : gb156 ≠ gb153)); have n16_ := Aside0.mk ((by rw [hg]; exact Nat.ne_of_lt (blk_lt (g := gb154) (o := .cells #[.string t147, .bool t148] 69 (0, 0)) (by (with_reducible repeat (first | refine blk_drewN ?_ _ | refine blk_drew ?_ | refine blk_alloc ?_ _)); exact BK154.out)) : gb154 ≠ gb156)); have n17_ := Aside0.mk ((by rw [hg]; exact Nat.ne_of_gt (blk_lt (g := gb154) (o := .cells #[.string t147, .bool t148] 69 (0, 0)) (by (with_reducible repeat (first | refine blk_drewN ?_ _ | refine blk_drew ?_ | refine blk_alloc ?_ _)); exact BK154.out)) : gb156 ≠ gb154)); have n18_ := Aside0.mk ((by rw [hg]; exact Nat.ne_of_lt (blk_lt (g := gb155) (o := .cells #[.string t150, .bool t151] 69 (0, 0)) (by (with_reducible repeat (first | refine blk_drewN ?_ _ | refine blk_drew ?_ | refine blk_alloc ?_ _)); exact BK155.out)) : gb155 ≠ gb156)); have n19_ := Aside0.mk ((by rw [hg]; exact Nat.ne_of_gt (blk_lt (g := gb155) (o := .cells #[.string t150, .bool t151] 69 (0, 0)) (by (with_reducible repeat (first | refine blk_drewN ?_ _ | refine blk_drew ?_ | refine blk_alloc ?_ _)); exact BK155.out)) : gb156 ≠ gb155)); clear HO139; clear BK135; clear BK152; clear BK153; clear BK154; clear BK155; clear HB; have HO139 := n0_; have BK135 := n1_; have BK152 := n2_; have BK153 := n3_; have BK154 := n4_; have BK155 := n5_; have HB := n6_; have BK156 := n7_; have GW156 := n8_; have GE156 := n9_; have NB135_156 := n10_; have NB156_135 := n11_; have NB152_156 := n12_; have NB156_152 := n13_; have NB153_156 := n14_; have NB156_153 := n15_; have NB154_156 := n16_; have NB156_154 := n17_; have NB155_156 := n18_; have NB156_155 := n19_; clear n0_ n1_ n2_ n3_ n4_ n5_ n6_ n7_ n8_ n9_ n10_ n11_ n12_ n13_ n14_ n15_ n16_ n17_ n18_ n19_; clear hb hbox hg; have hnb188 := NB156_135.out; have hnc188 := NB135_156.out; have hnb189 := NB156_152.out; have hnc189 := NB152_156.out; have hnb190 := NB156_153.out; have hnc190 := NB153_156.out; have hnb191 := NB156_154.out; have hnc191 := NB154_156.out; have hnb192 := NB156_155.out; have hnc192 := NB155_156.out; have hcz193_0 : w187.cell? ⟨gb156, 0, none⟩ = some (.int .i64 0) := (blk_cell BK156.out 0).trans rfl; have hcz193_1 : w187.cell? ⟨gb156, 1, none⟩ = some (.int .i64 0) := (blk_cell BK156.out 1).trans rfl; have hcz193_2 : w187.cell? ⟨gb156, 2, none⟩ = some (.string (⟨#[]⟩ : ByteArray)) := (blk_cell BK156.out 2).trans rfl; have hcz193_3 : w187.cell? ⟨gb156, 3, none⟩ = some (.string (⟨#[]⟩ : ByteArray)) := (blk_cell BK156.out 3).trans rfl; have hfz193_0 := blk_frozen BK156.out 0; have hfz193_1 := blk_frozen BK156.out 1; have hfz193_2 := blk_frozen BK156.out 2; have hfz193_3 := blk_frozen BK156.out 3; have hcz194_0 : w187.cell? ⟨gb152, 0, none⟩ = some (.int .i64 t141) := (blk_cell BK152.out 0).trans rfl; have hcz194_1 : w187.cell? ⟨gb152, 1, none⟩ = some (.bool false) := (blk_cell BK152.out 1).trans rfl; have hfz194_0 := blk_frozen BK152.out 0; have hfz194_1 := blk_frozen BK152.out 1; have hcz195_0 : w187.cell? ⟨gb153, 0, none⟩ = some (.int .i64 t144) := (blk_cell BK153.out 0).trans rfl; have hcz195_1 : w187.cell? ⟨gb153, 1, none⟩ = some (.bool false) := (blk_cell BK153.out 1).trans rfl; have hfz195_0 := blk_frozen BK153.out 0; have hfz195_1 := blk_frozen BK153.out 1) | (go_at_call 27; (with_reducible refine (wire_CheckCommand.calls t141 t144 t147 t150 t157 _ A103.out).mono ?_); rintro e w196 ⟨rfl, hb⟩; have n0_ := Aside0.mk (Kd.R_below (by (with_reducible repeat (first | apply Kd.R_alloc | apply Kd.R_drewN | apply Kd.R_drew)); exact (Kd.R_mono (Kd.R_far (p := ⟨gb156, 3, none⟩) (Kd.R_far (p := ⟨gb156, 2, none⟩) (Kd.R_far (p := ⟨gb156, 1, none⟩) (Kd.R_far (p := ⟨gb156, 0, none⟩) (Kd.R_types HO139.out BK156.out (by decide)) (fun _ hk => hk.2) (.int .i64 t141)) (fun _ hk => hk.2) (.int .i64 t144)) (fun _ hk => hk.2) (.string t147)) (fun _ hk => hk.2) (.string t150)) (fun _ h_ => h_.1))) hb); have n1_ := Aside0.mk (blk_below (g := gb135) (o := .cells #[.int .i64 0, .int .i64 0, .string (⟨#[]⟩ : ByteArray), .string (⟨#[]⟩ : ByteArray)] 36 (0, 0)) (by (with_reducible repeat (first | refine blk_drewN ?_ _ | refine blk_drew ?_ | refine blk_alloc ?_ _)); refine blk_far ?_ NB135_156.out _; (with_reducible repeat (first | refine blk_drewN ?_ _ | refine blk_drew ?_ | refine blk_alloc ?_ _)); refine blk_far ?_ NB135_156.out _; (with_reducible repeat (first | refine blk_drewN ?_ _ | refine blk_drew ?_ | refine blk_alloc ?_ _)); refine blk_far ?_ NB135_156.out _; (with_reducible repeat (first | refine blk_drewN ?_ _ | refine blk_drew ?_ | refine blk_alloc ?_ _)); refine blk_far ?_ NB135_156.out _; (with_reducible repeat (first | refine blk_drewN ?_ _ | refine blk_drew ?_ | refine blk_alloc ?_ _)); exact BK135.out) hb); have n2_ := Aside0.mk (blk_below (g := gb152) (o := .cells #[.int .i64 t141, .bool false] 66 (0, 0)) (by (with_reducible repeat (first | refine blk_drewN ?_ _ | refine blk_drew ?_ | refine blk_alloc ?_ _)); refine blk_far ?_ NB152_156.out _; (with_reducible repeat (first | refine blk_drewN ?_ _ | refine blk_drew ?_ | refine blk_alloc ?_ _)); refine blk_far ?_ NB152_156.out _; (with_reducible repeat (first | refine blk_drewN ?_ _ | refine blk_drew ?_ | refine blk_alloc ?_ _)); refine blk_far ?_ NB152_156.out _; (with_reducible repeat (first | refine blk_drewN ?_ _ | refine blk_drew ?_ | refine blk_alloc ?_ _)); refine blk_far ?_ NB152_156.out _; (with_reducible repeat (first | refine blk_drewN ?_ _ | refine blk_drew ?_ | refine blk_alloc ?_ _)); exact BK152.out) hb); have n3_ := Aside0.mk (blk_below (g := gb153) (o := .cells #[.int .i64 t144, .bool false] 66 (0, 0)) (by (with_reducible repeat (first | refine blk_drewN ?_ _ | refine blk_drew ?_ | refine blk_alloc ?_ _)); refine blk_far ?_ NB153_156.out _; (with_reducible repeat (first | refine blk_drewN ?_ _ | refine blk_drew ?_ | refine blk_alloc ?_ _)); refine blk_far ?_ NB153_156.out _; (with_reducible repeat (first | refine blk_drewN ?_ _ | refine blk_drew ?_ | refine blk_alloc ?_ _)); refine blk_far ?_ NB153_156.out _; (with_reducible repeat (first | refine blk_drewN ?_ _ | refine blk_drew ?_ | refine blk_alloc ?_ _)); refine blk_far ?_ NB153_156.out _; (with_reducible repeat (first | refine blk_drewN ?_ _ | refine blk_drew ?_ | refine blk_alloc ?_ _)); exact BK153.out) hb); have n4_ := Aside0.mk (blk_below (g := gb154) (o := .cells #[.string t147, .bool t148] 69 (0, 0)) (by (with_reducible repeat (first | refine blk_drewN ?_ _ | refine blk_drew ?_ | refine blk_alloc ?_ _)); refine blk_far ?_ NB154_156.out _; (with_reducible repeat (first | refine blk_drewN ?_ _ | refine blk_drew ?_ | refine blk_alloc ?_ _)); refine blk_far ?_ NB154_156.out _; (with_reducible repeat (first | refine blk_drewN ?_ _ | refine blk_drew ?_ | refine blk_alloc ?_ _)); refine blk_far ?_ NB154_156.out _; (with_reducible repeat (first | refine blk_drewN ?_ _ | refine blk_drew ?_ | refine blk_alloc ?_ _)); refine blk_far ?_ NB154_156.out _; (with_reducible repeat (first | refine blk_drewN ?_ _ | refine blk_drew ?_ | refine blk_alloc ?_ _)); exact BK154.out) hb); have n5_ := Aside0.mk (blk_below (g := gb155) (o := .cells #[.string t150, .bool t151] 69 (0, 0)) (by (with_reducible repeat (first | refine blk_drewN ?_ _ | refine blk_drew ?_ | refine blk_alloc ?_ _)); refine blk_far ?_ NB155_156.out _; (with_reducible repeat (first | refine blk_drewN ?_ _ | refine blk_drew ?_ | refine blk_alloc ?_ _)); refine blk_far ?_ NB155_156.out _; (with_reducible repeat (first | refine blk_drewN ?_ _ | refine blk_drew ?_ | refine blk_alloc ?_ _)); refine blk_far ?_ NB155_156.out _; (with_reducible repeat (first | refine blk_drewN ?_ _ | refine blk_drew ?_ | refine blk_alloc ?_ _)); refine blk_far ?_ NB155_156.out _; (with_reducible repeat (first | refine blk_drewN ?_ _ | refine blk_drew ?_ | refine blk_alloc ?_ _)); exact BK155.out) hb); have n6_ := Aside0.mk (blk_below (g := gb156) (o := .cells #[.int .i64 t141, .int .i64 t144, .string t147, .string t150] 36 (0, 0)) (by (with_reducible repeat (first | refine blk_drewN ?_ _ | refine blk_drew ?_ | refine blk_alloc ?_ _)); refine blk_put (cs := #[.int .i64 t141, .int .i64 t144, .string t147, .string (⟨#[]⟩ : ByteArray)]) ?_ 3 _ rfl; (with_reducible repeat (first | refine blk_drewN ?_ _ | refine blk_drew ?_ | refine blk_alloc ?_ _)); refine blk_put (cs := #[.int .i64 t141, .int .i64 t144, .string (⟨#[]⟩ : ByteArray), .string (⟨#[]⟩ : ByteArray)]) ?_ 2 _ rfl; (with_reducible repeat (first | refine blk_drewN ?_ _ | refine blk_drew ?_ | refine blk_alloc ?_ _)); refine blk_put (cs := #[.int .i64 t141, .int .i64 0, .string (⟨#[]⟩ : ByteArray), .string (⟨#[]⟩ : ByteArray)]) ?_ 1 _ rfl; (with_reducible repeat (first | refine blk_drewN ?_ _ | refine blk_drew ?_ | refine blk_alloc ?_ _)); refine blk_put (cs := #[.int .i64 0, .int .i64 0, .string (⟨#[]⟩ : ByteArray), .string (⟨#[]⟩ : ByteArray)]) ?_ 0 _ rfl; (with_reducible repeat (first | refine blk_drewN ?_ _ | refine blk_drew ?_ | refine blk_alloc ?_ _)); exact BK156.out) hb); have n7_ := Aside0.mk (below_step (by repeat (first | (with_reducible first | exact HB.out | apply below_alloc | apply pw_below_drewN | apply below_drew1 | refine below_set ?_ GE135.out | refine below_set ?_ GE152.out | refine below_set ?_ GE153.out | refine below_set ?_ GE154.out | refine below_set ?_ GE155.out | refine below_set ?_ GE156.out) | exact HB.out)) hb); clear HO139; clear BK135; clear BK152; clear BK153; clear BK154; clear BK155; clear BK156; clear HB; have HO139 := n0_; have BK135 := n1_; have BK152 := n2_; have BK153 := n3_; have BK154 := n4_; have BK155 := n5_; have BK156 := n6_; have HB := n7_; clear n0_ n1_ n2_ n3_ n4_ n5_ n6_ n7_; (try clear hb); (try clear hb2); (try clear hk); (try clear hi); have hcz197_0 : w196.cell? ⟨gb135, 0, none⟩ = some (.int .i64 0) := (blk_cell BK135.out 0).trans rfl; have hcz197_1 : w196.cell? ⟨gb135, 1, none⟩ = some (.int .i64 0) := (blk_cell BK135.out 1).trans rfl; have hcz197_2 : w196.cell? ⟨gb135, 2, none⟩ = some (.string (⟨#[]⟩ : ByteArray)) := (blk_cell BK135.out 2).trans rfl; have hcz197_3 : w196.cell? ⟨gb135, 3, none⟩ = some (.string (⟨#[]⟩ : ByteArray)) := (blk_cell BK135.out 3).trans rfl; have hfz197_0 := blk_frozen BK135.out 0; have hfz197_1 := blk_frozen BK135.out 1; have hfz197_2 := blk_frozen BK135.out 2; have hfz197_3 := blk_frozen BK135.out 3))
        refine bodyPost_ret (results_ct rfl _ _ gb135 36 #[.int .i64 0, .int .i64 0, .string (⟨#[]⟩ : ByteArray), .string (⟨#[]⟩ : ByteArray)] (0, 0) _ rfl (by (with_reducible repeat (first | refine blk_drewN ?_ _ | refine blk_drew ?_ | refine blk_alloc ?_ _)); refine blk_put (cs := #[.int .i64 0, .int .i64 0, .string (⟨#[]⟩ : ByteArray), .string (⟨#[]⟩ : ByteArray)]) ?_ 3 _ rfl; (with_reducible repeat (first | refine blk_drewN ?_ _ | refine blk_drew ?_ | refine blk_alloc ?_ _)); refine blk_put (cs := #[.int .i64 0, .int .i64 0, .string (⟨#[]⟩ : ByteArray), .string (⟨#[]⟩ : ByteArray)]) ?_ 2 _ rfl; (with_reducible repeat (first | refine blk_drewN ?_ _ | refine blk_drew ?_ | refine blk_alloc ?_ _)); refine blk_put (cs := #[.int .i64 0, .int .i64 0, .string (⟨#[]⟩ : ByteArray), .string (⟨#[]⟩ : ByteArray)]) ?_ 1 _ rfl; (with_reducible repeat (first | refine blk_drewN ?_ _ | refine blk_drew ?_ | refine blk_alloc ?_ _)); refine blk_put (cs := #[.int .i64 0, .int .i64 0, .string (⟨#[]⟩ : ByteArray), .string (⟨#[]⟩ : ByteArray)]) ?_ 0 _ rfl; (with_reducible repeat (first | refine blk_drewN ?_ _ | refine blk_drew ?_ | refine blk_alloc ?_ _)); exact BK135.out) Try.underlying36 rfl (by kernel_rfl)) rfl ?_
        exact ⟨by first | rfl | (simp [errW_none, errW_some] <;> rfl) | (simp [*, errW_none, errW_some] <;> rfl), by repeat (first | (with_reducible first | exact HB.out | apply below_alloc | apply pw_below_drewN | apply below_drew1 | refine below_set ?_ GE135.out | refine below_set ?_ GE152.out | refine below_set ?_ GE153.out | refine below_set ?_ GE154.out | refine below_set ?_ GE155.out | refine below_set ?_ GE156.out) | exact HB.out)⟩
      rw [if_pos c104] at H
      have c104b0 : (t157 == 0) = true := beq_iff_eq.mpr c104
      have c104b1 : (t157 != 0) = false := bne_eq_false_iff_eq.mpr c104
      clear c104
      simp only [Option.some.injEq, Prod.mk.injEq] at H
      obtain ⟨rfl, rfl, rfl, rfl, rfl⟩ := H
      have hnb126 := NB152_135.out
      have hnc126 := NB135_152.out
      have hnb127 := NB152_153.out
      have hnc127 := NB153_152.out
      have hnb128 := NB152_154.out
      have hnc128 := NB154_152.out
      have hnb129 := NB152_155.out
      have hnc129 := NB155_152.out
      have hcz130_0 : w33.cell? ⟨gb152, 0, none⟩ = some (.int .i64 t141) := (blk_cell BK152.out 0).trans rfl
      have hcz130_1 : w33.cell? ⟨gb152, 1, none⟩ = some (.bool false) := (blk_cell BK152.out 1).trans rfl
      have hfz130_0 := blk_frozen BK152.out 0
      have hfz130_1 := blk_frozen BK152.out 1
      have hnb131 := NB153_135.out
      have hnc131 := NB135_153.out
      have hnb132 := NB153_154.out
      have hnc132 := NB154_153.out
      have hnb133 := NB153_155.out
      have hnc133 := NB155_153.out
      have hcz134_0 : w33.cell? ⟨gb153, 0, none⟩ = some (.int .i64 t144) := (blk_cell BK153.out 0).trans rfl
      have hcz134_1 : w33.cell? ⟨gb153, 1, none⟩ = some (.bool false) := (blk_cell BK153.out 1).trans rfl
      have hfz134_0 := blk_frozen BK153.out 0
      have hfz134_1 := blk_frozen BK153.out 1
      have hnb135 := NB154_135.out
      have hnc135 := NB135_154.out
      have hnb136 := NB154_155.out
      have hnc136 := NB155_154.out
      have hcz137_0 : w33.cell? ⟨gb154, 0, none⟩ = some (.string t147) := (blk_cell BK154.out 0).trans rfl
      have hcz137_1 : w33.cell? ⟨gb154, 1, none⟩ = some (.bool t148) := (blk_cell BK154.out 1).trans rfl
      have hfz137_0 := blk_frozen BK154.out 0
      have hfz137_1 := blk_frozen BK154.out 1
      have hnb138 := NB155_135.out
      have hnc138 := NB135_155.out
      have hcz139_0 : w33.cell? ⟨gb155, 0, none⟩ = some (.string t150) := (blk_cell BK155.out 0).trans rfl
      have hcz139_1 : w33.cell? ⟨gb155, 1, none⟩ = some (.bool t151) := (blk_cell BK155.out 1).trans rfl
      have hfz139_0 := blk_frozen BK155.out 0
      have hfz139_1 := blk_frozen BK155.out 1
      try go_wp2_with (first | ((with_reducible refine gate_dst (N := 10) rfl ?_); refine box_event ?hg (N := 10) ?hd (cs := #[.int .i64 0, .int .i64 0, .string (⟨#[]⟩ : ByteArray), .string (⟨#[]⟩ : ByteArray)]) (t := 36) ?hr ?_; (case hd => rfl); (case hg => rfl); (case hr => first | (go_simp; done) | (go_simp; rfl)); intro gb156 hg w140 hbox hb; have n0_ := Aside0.mk (Kd.R_below (by (with_reducible repeat (first | apply Kd.R_alloc | apply Kd.R_drewN | apply Kd.R_drew)); exact HO139.out) hb); have n1_ := Aside0.mk (blk_below (g := gb135) (o := .cells #[.int .i64 0, .int .i64 0, .string (⟨#[]⟩ : ByteArray), .string (⟨#[]⟩ : ByteArray)] 36 (0, 0)) (by (with_reducible repeat (first | refine blk_drewN ?_ _ | refine blk_drew ?_ | refine blk_alloc ?_ _)); exact BK135.out) hb); have n2_ := Aside0.mk (blk_below (g := gb152) (o := .cells #[.int .i64 t141, .bool false] 66 (0, 0)) (by (with_reducible repeat (first | refine blk_drewN ?_ _ | refine blk_drew ?_ | refine blk_alloc ?_ _)); exact BK152.out) hb); have n3_ := Aside0.mk (blk_below (g := gb153) (o := .cells #[.int .i64 t144, .bool false] 66 (0, 0)) (by (with_reducible repeat (first | refine blk_drewN ?_ _ | refine blk_drew ?_ | refine blk_alloc ?_ _)); exact BK153.out) hb); have n4_ := Aside0.mk (blk_below (g := gb154) (o := .cells #[.string t147, .bool t148] 69 (0, 0)) (by (with_reducible repeat (first | refine blk_drewN ?_ _ | refine blk_drew ?_ | refine blk_alloc ?_ _)); exact BK154.out) hb); have n5_ := Aside0.mk (blk_below (g := gb155) (o := .cells #[.string t150, .bool t151] 69 (0, 0)) (by (with_reducible repeat (first | refine blk_drewN ?_ _ | refine blk_drew ?_ | refine blk_alloc ?_ _)); exact BK155.out) hb); have n6_ := Aside0.mk (below_step (by repeat (first | (with_reducible first | exact HB.out | apply below_alloc | apply pw_below_drewN | apply below_drew1 | refine below_set ?_ GE135.out | refine below_set ?_ GE152.out | refine below_set ?_ GE153.out | refine below_set ?_ GE154.out | refine below_set ?_ GE155.out) | exact HB.out)) hb); have n7_ := Aside0.mk (hbox); have n8_ := Aside0.mk ((by rw [hg]; exact (below_size (by repeat (first | (with_reducible first | exact HB.out | apply below_alloc | apply pw_below_drewN | apply below_drew1 | refine below_set ?_ GE135.out | refine below_set ?_ GE152.out | refine below_set ?_ GE153.out | refine below_set ?_ GE154.out | refine below_set ?_ GE155.out) | exact HB.out))) : w.heap.size ≤ gb156)); have n9_ := Aside0.mk ((by rw [hg]; exact (below_size (by repeat (first | (with_reducible first | exact HB.out | apply below_alloc | apply pw_below_drewN | apply below_drew1 | refine below_set ?_ GE135.out | refine below_set ?_ GE152.out | refine below_set ?_ GE153.out | refine below_set ?_ GE154.out | refine below_set ?_ GE155.out) | exact HB.out))) : w.heap.size ≤ gb156)); have n10_ := Aside0.mk ((by rw [hg]; exact Nat.ne_of_lt (blk_lt (g := gb135) (o := .cells #[.int .i64 0, .int .i64 0, .string (⟨#[]⟩ : ByteArray), .string (⟨#[]⟩ : ByteArray)] 36 (0, 0)) (by (with_reducible repeat (first | refine blk_drewN ?_ _ | refine blk_drew ?_ | refine blk_alloc ?_ _)); exact BK135.out)) : gb135 ≠ gb156)); have n11_ := Aside0.mk ((by rw [hg]; exact Nat.ne_of_gt (blk_lt (g := gb135) (o := .cells #[.int .i64 0, .int .i64 0, .string (⟨#[]⟩ : ByteArray), .string (⟨#[]⟩ : ByteArray)] 36 (0, 0)) (by (with_reducible repeat (first | refine blk_drewN ?_ _ | refine blk_drew ?_ | refine blk_alloc ?_ _)); exact BK135.out)) : gb156 ≠ gb135)); have n12_ := Aside0.mk ((by rw [hg]; exact Nat.ne_of_lt (blk_lt (g := gb152) (o := .cells #[.int .i64 t141, .bool false] 66 (0, 0)) (by (with_reducible repeat (first | refine blk_drewN ?_ _ | refine blk_drew ?_ | refine blk_alloc ?_ _)); exact BK152.out)) : gb152 ≠ gb156)); have n13_ := Aside0.mk ((by rw [hg]; exact Nat.ne_of_gt (blk_lt (g := gb152) (o := .cells #[.int .i64 t141, .bool false] 66 (0, 0)) (by (with_reducible repeat (first | refine blk_drewN ?_ _ | refine blk_drew ?_ | refine blk_alloc ?_ _)); exact BK152.out)) : gb156 ≠ gb152)); have n14_ := Aside0.mk ((by rw [hg]; exact Nat.ne_of_lt (blk_lt (g := gb153) (o := .cells #[.int .i64 t144, .bool false] 66 (0, 0)) (by (with_reducible repeat (first | refine blk_drewN ?_ _ | refine blk_drew ?_ | refine blk_alloc ?_ _)); exact BK153.out)) : gb153 ≠ gb156)); have n15_ := Aside0.mk ((by rw [hg]; exact Nat.ne_of_gt (blk_lt (g := gb153) (o := .cells #[.int .i64 t144, .bool false] 66 (0, 0)) (by (with_reducible repeat (first | refine blk_drewN ?_ _ | refine blk_drew ?_ | refine blk_alloc ?_ _)); exact BK153.out)) : gb156 ≠ gb153)); have n16_ := Aside0.mk ((by rw [hg]; exact Nat.ne_of_lt (blk_lt (g := gb154) (o := .cells #[.string t147, .bool t148] 69 (0, 0)) (by (with_reducible repeat (first | refine blk_drewN ?_ _ | refine blk_drew ?_ | refine blk_alloc ?_ _)); exact BK154.out)) : gb154 ≠ gb156)); have n17_ := Aside0.mk ((by rw [hg]; exact Nat.ne_of_gt (blk_lt (g := gb154) (o := .cells #[.string t147, .bool t148] 69 (0, 0)) (by (with_reducible repeat (first | refine blk_drewN ?_ _ | refine blk_drew ?_ | refine blk_alloc ?_ _)); exact BK154.out)) : gb156 ≠ gb154)); have n18_ := Aside0.mk ((by rw [hg]; exact Nat.ne_of_lt (blk_lt (g := gb155) (o := .cells #[.string t150, .bool t151] 69 (0, 0)) (by (with_reducible repeat (first | refine blk_drewN ?_ _ | refine blk_drew ?_ | refine blk_alloc ?_ _)); exact BK155.out)) : gb155 ≠ gb156)); have n19_ := Aside0.mk ((by rw [hg]; exact Nat.ne_of_gt (blk_lt (g := gb155) (o := .cells #[.string t150, .bool t151] 69 (0, 0)) (by (with_reducible repeat (first | refine blk_drewN ?_ _ | refine blk_drew ?_ | refine blk_alloc ?_ _)); exact BK155.out)) : gb156 ≠ gb155)); clear HO139; clear BK135; clear BK152; clear BK153; clear BK154; clear BK155; clear HB; have HO139 := n0_; have BK135 := n1_; have BK152 := n2_; have BK153 := n3_; have BK154 := n4_; have BK155 := n5_; have HB := n6_; have BK156 := n7_; have GW156 := n8_; have GE156 := n9_; have NB135_156 := n10_; have NB156_135 := n11_; have NB152_156 := n12_; have NB156_152 := n13_; have NB153_156 := n14_; have NB156_153 := n15_; have NB154_156 := n16_; have NB156_154 := n17_; have NB155_156 := n18_; have NB156_155 := n19_; clear n0_ n1_ n2_ n3_ n4_ n5_ n6_ n7_ n8_ n9_ n10_ n11_ n12_ n13_ n14_ n15_ n16_ n17_ n18_ n19_; clear hb hbox hg; have hnb141 := NB156_135.out; have hnc141 := NB135_156.out; have hnb142 := NB156_152.out; have hnc142 := NB152_156.out; have hnb143 := NB156_153.out; have hnc143 := NB153_156.out; have hnb144 := NB156_154.out; have hnc144 := NB154_156.out; have hnb145 := NB156_155.out; have hnc145 := NB155_156.out; have hcz146_0 : w140.cell? ⟨gb156, 0, none⟩ = some (.int .i64 0) := (blk_cell BK156.out 0).trans rfl; have hcz146_1 : w140.cell? ⟨gb156, 1, none⟩ = some (.int .i64 0) := (blk_cell BK156.out 1).trans rfl; have hcz146_2 : w140.cell? ⟨gb156, 2, none⟩ = some (.string (⟨#[]⟩ : ByteArray)) := (blk_cell BK156.out 2).trans rfl; have hcz146_3 : w140.cell? ⟨gb156, 3, none⟩ = some (.string (⟨#[]⟩ : ByteArray)) := (blk_cell BK156.out 3).trans rfl; have hfz146_0 := blk_frozen BK156.out 0; have hfz146_1 := blk_frozen BK156.out 1; have hfz146_2 := blk_frozen BK156.out 2; have hfz146_3 := blk_frozen BK156.out 3; have hcz147_0 : w140.cell? ⟨gb152, 0, none⟩ = some (.int .i64 t141) := (blk_cell BK152.out 0).trans rfl; have hcz147_1 : w140.cell? ⟨gb152, 1, none⟩ = some (.bool false) := (blk_cell BK152.out 1).trans rfl; have hfz147_0 := blk_frozen BK152.out 0; have hfz147_1 := blk_frozen BK152.out 1; have hcz148_0 : w140.cell? ⟨gb153, 0, none⟩ = some (.int .i64 t144) := (blk_cell BK153.out 0).trans rfl; have hcz148_1 : w140.cell? ⟨gb153, 1, none⟩ = some (.bool false) := (blk_cell BK153.out 1).trans rfl; have hfz148_0 := blk_frozen BK153.out 0; have hfz148_1 := blk_frozen BK153.out 1) | (go_at_call 27; (with_reducible refine (wire_CheckCommand.calls t141 t144 t147 t150 t157 _ A103.out).mono ?_); rintro e w149 ⟨rfl, hb⟩; have n0_ := Aside0.mk (Kd.R_below (by (with_reducible repeat (first | apply Kd.R_alloc | apply Kd.R_drewN | apply Kd.R_drew)); exact (Kd.R_mono (Kd.R_far (p := ⟨gb156, 3, none⟩) (Kd.R_far (p := ⟨gb156, 2, none⟩) (Kd.R_far (p := ⟨gb156, 1, none⟩) (Kd.R_far (p := ⟨gb156, 0, none⟩) (Kd.R_types HO139.out BK156.out (by decide)) (fun _ hk => hk.2) (.int .i64 t141)) (fun _ hk => hk.2) (.int .i64 t144)) (fun _ hk => hk.2) (.string t147)) (fun _ hk => hk.2) (.string t150)) (fun _ h_ => h_.1))) hb); have n1_ := Aside0.mk (blk_below (g := gb135) (o := .cells #[.int .i64 0, .int .i64 0, .string (⟨#[]⟩ : ByteArray), .string (⟨#[]⟩ : ByteArray)] 36 (0, 0)) (by (with_reducible repeat (first | refine blk_drewN ?_ _ | refine blk_drew ?_ | refine blk_alloc ?_ _)); refine blk_far ?_ NB135_156.out _; (with_reducible repeat (first | refine blk_drewN ?_ _ | refine blk_drew ?_ | refine blk_alloc ?_ _)); refine blk_far ?_ NB135_156.out _; (with_reducible repeat (first | refine blk_drewN ?_ _ | refine blk_drew ?_ | refine blk_alloc ?_ _)); refine blk_far ?_ NB135_156.out _; (with_reducible repeat (first | refine blk_drewN ?_ _ | refine blk_drew ?_ | refine blk_alloc ?_ _)); refine blk_far ?_ NB135_156.out _; (with_reducible repeat (first | refine blk_drewN ?_ _ | refine blk_drew ?_ | refine blk_alloc ?_ _)); exact BK135.out) hb); have n2_ := Aside0.mk (blk_below (g := gb152) (o := .cells #[.int .i64 t141, .bool false] 66 (0, 0)) (by (with_reducible repeat (first | refine blk_drewN ?_ _ | refine blk_drew ?_ | refine blk_alloc ?_ _)); refine blk_far ?_ NB152_156.out _; (with_reducible repeat (first | refine blk_drewN ?_ _ | refine blk_drew ?_ | refine blk_alloc ?_ _)); refine blk_far ?_ NB152_156.out _; (with_reducible repeat (first | refine blk_drewN ?_ _ | refine blk_drew ?_ | refine blk_alloc ?_ _)); refine blk_far ?_ NB152_156.out _; (with_reducible repeat (first | refine blk_drewN ?_ _ | refine blk_drew ?_ | refine blk_alloc ?_ _)); refine blk_far ?_ NB152_156.out _; (with_reducible repeat (first | refine blk_drewN ?_ _ | refine blk_drew ?_ | refine blk_alloc ?_ _)); exact BK152.out) hb); have n3_ := Aside0.mk (blk_below (g := gb153) (o := .cells #[.int .i64 t144, .bool false] 66 (0, 0)) (by (with_reducible repeat (first | refine blk_drewN ?_ _ | refine blk_drew ?_ | refine blk_alloc ?_ _)); refine blk_far ?_ NB153_156.out _; (with_reducible repeat (first | refine blk_drewN ?_ _ | refine blk_drew ?_ | refine blk_alloc ?_ _)); refine blk_far ?_ NB153_156.out _; (with_reducible repeat (first | refine blk_drewN ?_ _ | refine blk_drew ?_ | refine blk_alloc ?_ _)); refine blk_far ?_ NB153_156.out _; (with_reducible repeat (first | refine blk_drewN ?_ _ | refine blk_drew ?_ | refine blk_alloc ?_ _)); refine blk_far ?_ NB153_156.out _; (with_reducible repeat (first | refine blk_drewN ?_ _ | refine blk_drew ?_ | refine blk_alloc ?_ _)); exact BK153.out) hb); have n4_ := Aside0.mk (blk_below (g := gb154) (o := .cells #[.string t147, .bool t148] 69 (0, 0)) (by (with_reducible repeat (first | refine blk_drewN ?_ _ | refine blk_drew ?_ | refine blk_alloc ?_ _)); refine blk_far ?_ NB154_156.out _; (with_reducible repeat (first | refine blk_drewN ?_ _ | refine blk_drew ?_ | refine blk_alloc ?_ _)); refine blk_far ?_ NB154_156.out _; (with_reducible repeat (first | refine blk_drewN ?_ _ | refine blk_drew ?_ | refine blk_alloc ?_ _)); refine blk_far ?_ NB154_156.out _; (with_reducible repeat (first | refine blk_drewN ?_ _ | refine blk_drew ?_ | refine blk_alloc ?_ _)); refine blk_far ?_ NB154_156.out _; (with_reducible repeat (first | refine blk_drewN ?_ _ | refine blk_drew ?_ | refine blk_alloc ?_ _)); exact BK154.out) hb); have n5_ := Aside0.mk (blk_below (g := gb155) (o := .cells #[.string t150, .bool t151] 69 (0, 0)) (by (with_reducible repeat (first | refine blk_drewN ?_ _ | refine blk_drew ?_ | refine blk_alloc ?_ _)); refine blk_far ?_ NB155_156.out _; (with_reducible repeat (first | refine blk_drewN ?_ _ | refine blk_drew ?_ | refine blk_alloc ?_ _)); refine blk_far ?_ NB155_156.out _; (with_reducible repeat (first | refine blk_drewN ?_ _ | refine blk_drew ?_ | refine blk_alloc ?_ _)); refine blk_far ?_ NB155_156.out _; (with_reducible repeat (first | refine blk_drewN ?_ _ | refine blk_drew ?_ | refine blk_alloc ?_ _)); refine blk_far ?_ NB155_156.out _; (with_reducible repeat (first | refine blk_drewN ?_ _ | refine blk_drew ?_ | refine blk_alloc ?_ _)); exact BK155.out) hb); have n6_ := Aside0.mk (blk_below (g := gb156) (o := .cells #[.int .i64 t141, .int .i64 t144, .string t147, .string t150] 36 (0, 0)) (by (with_reducible repeat (first | refine blk_drewN ?_ _ | refine blk_drew ?_ | refine blk_alloc ?_ _)); refine blk_put (cs := #[.int .i64 t141, .int .i64 t144, .string t147, .string (⟨#[]⟩ : ByteArray)]) ?_ 3 _ rfl; (with_reducible repeat (first | refine blk_drewN ?_ _ | refine blk_drew ?_ | refine blk_alloc ?_ _)); refine blk_put (cs := #[.int .i64 t141, .int .i64 t144, .string (⟨#[]⟩ : ByteArray), .string (⟨#[]⟩ : ByteArray)]) ?_ 2 _ rfl; (with_reducible repeat (first | refine blk_drewN ?_ _ | refine blk_drew ?_ | refine blk_alloc ?_ _)); refine blk_put (cs := #[.int .i64 t141, .int .i64 0, .string (⟨#[]⟩ : ByteArray), .string (⟨#[]⟩ : ByteArray)]) ?_ 1 _ rfl; (with_reducible repeat (first | refine blk_drewN ?_ _ | refine blk_drew ?_ | refine blk_alloc ?_ _)); refine blk_put (cs := #[.int .i64 0, .int .i64 0, .string (⟨#[]⟩ : ByteArray), .string (⟨#[]⟩ : ByteArray)]) ?_ 0 _ rfl; (with_reducible repeat (first | refine blk_drewN ?_ _ | refine blk_drew ?_ | refine blk_alloc ?_ _)); exact BK156.out) hb); have n7_ := Aside0.mk (below_step (by repeat (first | (with_reducible first | exact HB.out | apply below_alloc | apply pw_below_drewN | apply below_drew1 | refine below_set ?_ GE135.out | refine below_set ?_ GE152.out | refine below_set ?_ GE153.out | refine below_set ?_ GE154.out | refine below_set ?_ GE155.out | refine below_set ?_ GE156.out) | exact HB.out)) hb); clear HO139; clear BK135; clear BK152; clear BK153; clear BK154; clear BK155; clear BK156; clear HB; have HO139 := n0_; have BK135 := n1_; have BK152 := n2_; have BK153 := n3_; have BK154 := n4_; have BK155 := n5_; have BK156 := n6_; have HB := n7_; clear n0_ n1_ n2_ n3_ n4_ n5_ n6_ n7_; (try clear hb); (try clear hb2); (try clear hk); (try clear hi); have hcz150_0 : w149.cell? ⟨gb156, 0, none⟩ = some (.int .i64 t141) := (blk_cell BK156.out 0).trans rfl; have hcz150_1 : w149.cell? ⟨gb156, 1, none⟩ = some (.int .i64 t144) := (blk_cell BK156.out 1).trans rfl; have hcz150_2 : w149.cell? ⟨gb156, 2, none⟩ = some (.string t147) := (blk_cell BK156.out 2).trans rfl; have hcz150_3 : w149.cell? ⟨gb156, 3, none⟩ = some (.string t150) := (blk_cell BK156.out 3).trans rfl; have hfz150_0 := blk_frozen BK156.out 0; have hfz150_1 := blk_frozen BK156.out 1; have hfz150_2 := blk_frozen BK156.out 2; have hfz150_3 := blk_frozen BK156.out 3; have hcz151_0 : w149.cell? ⟨gb135, 0, none⟩ = some (.int .i64 0) := (blk_cell BK135.out 0).trans rfl; have hcz151_1 : w149.cell? ⟨gb135, 1, none⟩ = some (.int .i64 0) := (blk_cell BK135.out 1).trans rfl; have hcz151_2 : w149.cell? ⟨gb135, 2, none⟩ = some (.string (⟨#[]⟩ : ByteArray)) := (blk_cell BK135.out 2).trans rfl; have hcz151_3 : w149.cell? ⟨gb135, 3, none⟩ = some (.string (⟨#[]⟩ : ByteArray)) := (blk_cell BK135.out 3).trans rfl; have hfz151_0 := blk_frozen BK135.out 0; have hfz151_1 := blk_frozen BK135.out 1; have hfz151_2 := blk_frozen BK135.out 2; have hfz151_3 := blk_frozen BK135.out 3))
      refine bodyPost_ret (results_ct rfl _ _ gb135 36 #[.int .i64 t141, .int .i64 t144, .string t147, .string t150] (0, 0) _ rfl (by (with_reducible repeat (first | refine blk_drewN ?_ _ | refine blk_drew ?_ | refine blk_alloc ?_ _)); refine blk_put (cs := #[.int .i64 t141, .int .i64 t144, .string t147, .string (⟨#[]⟩ : ByteArray)]) ?_ 3 _ rfl; (with_reducible repeat (first | refine blk_drewN ?_ _ | refine blk_drew ?_ | refine blk_alloc ?_ _)); refine blk_put (cs := #[.int .i64 t141, .int .i64 t144, .string (⟨#[]⟩ : ByteArray), .string (⟨#[]⟩ : ByteArray)]) ?_ 2 _ rfl; (with_reducible repeat (first | refine blk_drewN ?_ _ | refine blk_drew ?_ | refine blk_alloc ?_ _)); refine blk_put (cs := #[.int .i64 t141, .int .i64 0, .string (⟨#[]⟩ : ByteArray), .string (⟨#[]⟩ : ByteArray)]) ?_ 1 _ rfl; (with_reducible repeat (first | refine blk_drewN ?_ _ | refine blk_drew ?_ | refine blk_alloc ?_ _)); refine blk_put (cs := #[.int .i64 0, .int .i64 0, .string (⟨#[]⟩ : ByteArray), .string (⟨#[]⟩ : ByteArray)]) ?_ 0 _ rfl; (with_reducible repeat (first | refine blk_drewN ?_ _ | refine blk_drew ?_ | refine blk_alloc ?_ _)); exact BK135.out) Try.underlying36 rfl (by kernel_rfl)) rfl ?_
      exact ⟨by first | rfl | (simp [errW_none, errW_some] <;> rfl) | (simp [*, errW_none, errW_some] <;> rfl), by repeat (first | (with_reducible first | exact HB.out | apply below_alloc | apply pw_below_drewN | apply below_drew1 | refine below_set ?_ GE135.out | refine below_set ?_ GE152.out | refine below_set ?_ GE153.out | refine below_set ?_ GE154.out | refine below_set ?_ GE155.out | refine below_set ?_ GE156.out) | exact HB.out)⟩
    subst c57
    have H1 : (some (0, 0, (⟨#[]⟩ : ByteArray), (⟨#[]⟩ : ByteArray), 3)) = some (r1, r2, r3, r4, r5) := by rw [if_pos rfl] at H; exact H
    clear H
    have H := H1
    clear H1
    simp only [Option.some.injEq, Prod.mk.injEq] at H
    obtain ⟨rfl, rfl, rfl, rfl, rfl⟩ := H
    have hnb79 := NB152_135.out
    have hnc79 := NB135_152.out
    have hnb80 := NB152_153.out
    have hnc80 := NB153_152.out
    have hnb81 := NB152_154.out
    have hnc81 := NB154_152.out
    have hnb82 := NB152_155.out
    have hnc82 := NB155_152.out
    have hcz83_0 : w33.cell? ⟨gb152, 0, none⟩ = some (.int .i64 t141) := (blk_cell BK152.out 0).trans rfl
    have hcz83_1 : w33.cell? ⟨gb152, 1, none⟩ = some (.bool false) := (blk_cell BK152.out 1).trans rfl
    have hfz83_0 := blk_frozen BK152.out 0
    have hfz83_1 := blk_frozen BK152.out 1
    have hnb84 := NB153_135.out
    have hnc84 := NB135_153.out
    have hnb85 := NB153_154.out
    have hnc85 := NB154_153.out
    have hnb86 := NB153_155.out
    have hnc86 := NB155_153.out
    have hcz87_0 : w33.cell? ⟨gb153, 0, none⟩ = some (.int .i64 t144) := (blk_cell BK153.out 0).trans rfl
    have hcz87_1 : w33.cell? ⟨gb153, 1, none⟩ = some (.bool true) := (blk_cell BK153.out 1).trans rfl
    have hfz87_0 := blk_frozen BK153.out 0
    have hfz87_1 := blk_frozen BK153.out 1
    have hnb88 := NB154_135.out
    have hnc88 := NB135_154.out
    have hnb89 := NB154_155.out
    have hnc89 := NB155_154.out
    have hcz90_0 : w33.cell? ⟨gb154, 0, none⟩ = some (.string t147) := (blk_cell BK154.out 0).trans rfl
    have hcz90_1 : w33.cell? ⟨gb154, 1, none⟩ = some (.bool t148) := (blk_cell BK154.out 1).trans rfl
    have hfz90_0 := blk_frozen BK154.out 0
    have hfz90_1 := blk_frozen BK154.out 1
    have hnb91 := NB155_135.out
    have hnc91 := NB135_155.out
    have hcz92_0 : w33.cell? ⟨gb155, 0, none⟩ = some (.string t150) := (blk_cell BK155.out 0).trans rfl
    have hcz92_1 : w33.cell? ⟨gb155, 1, none⟩ = some (.bool t151) := (blk_cell BK155.out 1).trans rfl
    have hfz92_0 := blk_frozen BK155.out 0
    have hfz92_1 := blk_frozen BK155.out 1
    try go_wp2_with (first | ((with_reducible refine gate_dst (N := 10) rfl ?_); refine box_event ?hg (N := 10) ?hd (cs := #[.int .i64 0, .int .i64 0, .string (⟨#[]⟩ : ByteArray), .string (⟨#[]⟩ : ByteArray)]) (t := 36) ?hr ?_; (case hd => rfl); (case hg => rfl); (case hr => first | (go_simp; done) | (go_simp; rfl)); intro gb156 hg w93 hbox hb; have n0_ := Aside0.mk (Kd.R_below (by (with_reducible repeat (first | apply Kd.R_alloc | apply Kd.R_drewN | apply Kd.R_drew)); exact HO139.out) hb); have n1_ := Aside0.mk (blk_below (g := gb135) (o := .cells #[.int .i64 0, .int .i64 0, .string (⟨#[]⟩ : ByteArray), .string (⟨#[]⟩ : ByteArray)] 36 (0, 0)) (by (with_reducible repeat (first | refine blk_drewN ?_ _ | refine blk_drew ?_ | refine blk_alloc ?_ _)); exact BK135.out) hb); have n2_ := Aside0.mk (blk_below (g := gb152) (o := .cells #[.int .i64 t141, .bool false] 66 (0, 0)) (by (with_reducible repeat (first | refine blk_drewN ?_ _ | refine blk_drew ?_ | refine blk_alloc ?_ _)); exact BK152.out) hb); have n3_ := Aside0.mk (blk_below (g := gb153) (o := .cells #[.int .i64 t144, .bool true] 66 (0, 0)) (by (with_reducible repeat (first | refine blk_drewN ?_ _ | refine blk_drew ?_ | refine blk_alloc ?_ _)); exact BK153.out) hb); have n4_ := Aside0.mk (blk_below (g := gb154) (o := .cells #[.string t147, .bool t148] 69 (0, 0)) (by (with_reducible repeat (first | refine blk_drewN ?_ _ | refine blk_drew ?_ | refine blk_alloc ?_ _)); exact BK154.out) hb); have n5_ := Aside0.mk (blk_below (g := gb155) (o := .cells #[.string t150, .bool t151] 69 (0, 0)) (by (with_reducible repeat (first | refine blk_drewN ?_ _ | refine blk_drew ?_ | refine blk_alloc ?_ _)); exact BK155.out) hb); have n6_ := Aside0.mk (below_step (by repeat (first | (with_reducible first | exact HB.out | apply below_alloc | apply pw_below_drewN | apply below_drew1 | refine below_set ?_ GE135.out | refine below_set ?_ GE152.out | refine below_set ?_ GE153.out | refine below_set ?_ GE154.out | refine below_set ?_ GE155.out) | exact HB.out)) hb); have n7_ := Aside0.mk (hbox); have n8_ := Aside0.mk ((by rw [hg]; exact (below_size (by repeat (first | (with_reducible first | exact HB.out | apply below_alloc | apply pw_below_drewN | apply below_drew1 | refine below_set ?_ GE135.out | refine below_set ?_ GE152.out | refine below_set ?_ GE153.out | refine below_set ?_ GE154.out | refine below_set ?_ GE155.out) | exact HB.out))) : w.heap.size ≤ gb156)); have n9_ := Aside0.mk ((by rw [hg]; exact (below_size (by repeat (first | (with_reducible first | exact HB.out | apply below_alloc | apply pw_below_drewN | apply below_drew1 | refine below_set ?_ GE135.out | refine below_set ?_ GE152.out | refine below_set ?_ GE153.out | refine below_set ?_ GE154.out | refine below_set ?_ GE155.out) | exact HB.out))) : w.heap.size ≤ gb156)); have n10_ := Aside0.mk ((by rw [hg]; exact Nat.ne_of_lt (blk_lt (g := gb135) (o := .cells #[.int .i64 0, .int .i64 0, .string (⟨#[]⟩ : ByteArray), .string (⟨#[]⟩ : ByteArray)] 36 (0, 0)) (by (with_reducible repeat (first | refine blk_drewN ?_ _ | refine blk_drew ?_ | refine blk_alloc ?_ _)); exact BK135.out)) : gb135 ≠ gb156)); have n11_ := Aside0.mk ((by rw [hg]; exact Nat.ne_of_gt (blk_lt (g := gb135) (o := .cells #[.int .i64 0, .int .i64 0, .string (⟨#[]⟩ : ByteArray), .string (⟨#[]⟩ : ByteArray)] 36 (0, 0)) (by (with_reducible repeat (first | refine blk_drewN ?_ _ | refine blk_drew ?_ | refine blk_alloc ?_ _)); exact BK135.out)) : gb156 ≠ gb135)); have n12_ := Aside0.mk ((by rw [hg]; exact Nat.ne_of_lt (blk_lt (g := gb152) (o := .cells #[.int .i64 t141, .bool false] 66 (0, 0)) (by (with_reducible repeat (first | refine blk_drewN ?_ _ | refine blk_drew ?_ | refine blk_alloc ?_ _)); exact BK152.out)) : gb152 ≠ gb156)); have n13_ := Aside0.mk ((by rw [hg]; exact Nat.ne_of_gt (blk_lt (g := gb152) (o := .cells #[.int .i64 t141, .bool false] 66 (0, 0)) (by (with_reducible repeat (first | refine blk_drewN ?_ _ | refine blk_drew ?_ | refine blk_alloc ?_ _)); exact BK152.out)) : gb156 ≠ gb152)); have n14_ := Aside0.mk ((by rw [hg]; exact Nat.ne_of_lt (blk_lt (g := gb153) (o := .cells #[.int .i64 t144, .bool true] 66 (0, 0)) (by (with_reducible repeat (first | refine blk_drewN ?_ _ | refine blk_drew ?_ | refine blk_alloc ?_ _)); exact BK153.out)) : gb153 ≠ gb156)); have n15_ := Aside0.mk ((by rw [hg]; exact Nat.ne_of_gt (blk_lt (g := gb153) (o := .cells #[.int .i64 t144, .bool true] 66 (0, 0)) (by (with_reducible repeat (first | refine blk_drewN ?_ _ | refine blk_drew ?_ | refine blk_alloc ?_ _)); exact BK153.out)) : gb156 ≠ gb153)); have n16_ := Aside0.mk ((by rw [hg]; exact Nat.ne_of_lt (blk_lt (g := gb154) (o := .cells #[.string t147, .bool t148] 69 (0, 0)) (by (with_reducible repeat (first | refine blk_drewN ?_ _ | refine blk_drew ?_ | refine blk_alloc ?_ _)); exact BK154.out)) : gb154 ≠ gb156)); have n17_ := Aside0.mk ((by rw [hg]; exact Nat.ne_of_gt (blk_lt (g := gb154) (o := .cells #[.string t147, .bool t148] 69 (0, 0)) (by (with_reducible repeat (first | refine blk_drewN ?_ _ | refine blk_drew ?_ | refine blk_alloc ?_ _)); exact BK154.out)) : gb156 ≠ gb154)); have n18_ := Aside0.mk ((by rw [hg]; exact Nat.ne_of_lt (blk_lt (g := gb155) (o := .cells #[.string t150, .bool t151] 69 (0, 0)) (by (with_reducible repeat (first | refine blk_drewN ?_ _ | refine blk_drew ?_ | refine blk_alloc ?_ _)); exact BK155.out)) : gb155 ≠ gb156)); have n19_ := Aside0.mk ((by rw [hg]; exact Nat.ne_of_gt (blk_lt (g := gb155) (o := .cells #[.string t150, .bool t151] 69 (0, 0)) (by (with_reducible repeat (first | refine blk_drewN ?_ _ | refine blk_drew ?_ | refine blk_alloc ?_ _)); exact BK155.out)) : gb156 ≠ gb155)); clear HO139; clear BK135; clear BK152; clear BK153; clear BK154; clear BK155; clear HB; have HO139 := n0_; have BK135 := n1_; have BK152 := n2_; have BK153 := n3_; have BK154 := n4_; have BK155 := n5_; have HB := n6_; have BK156 := n7_; have GW156 := n8_; have GE156 := n9_; have NB135_156 := n10_; have NB156_135 := n11_; have NB152_156 := n12_; have NB156_152 := n13_; have NB153_156 := n14_; have NB156_153 := n15_; have NB154_156 := n16_; have NB156_154 := n17_; have NB155_156 := n18_; have NB156_155 := n19_; clear n0_ n1_ n2_ n3_ n4_ n5_ n6_ n7_ n8_ n9_ n10_ n11_ n12_ n13_ n14_ n15_ n16_ n17_ n18_ n19_; clear hb hbox hg; have hnb94 := NB156_135.out; have hnc94 := NB135_156.out; have hnb95 := NB156_152.out; have hnc95 := NB152_156.out; have hnb96 := NB156_153.out; have hnc96 := NB153_156.out; have hnb97 := NB156_154.out; have hnc97 := NB154_156.out; have hnb98 := NB156_155.out; have hnc98 := NB155_156.out; have hcz99_0 : w93.cell? ⟨gb156, 0, none⟩ = some (.int .i64 0) := (blk_cell BK156.out 0).trans rfl; have hcz99_1 : w93.cell? ⟨gb156, 1, none⟩ = some (.int .i64 0) := (blk_cell BK156.out 1).trans rfl; have hcz99_2 : w93.cell? ⟨gb156, 2, none⟩ = some (.string (⟨#[]⟩ : ByteArray)) := (blk_cell BK156.out 2).trans rfl; have hcz99_3 : w93.cell? ⟨gb156, 3, none⟩ = some (.string (⟨#[]⟩ : ByteArray)) := (blk_cell BK156.out 3).trans rfl; have hfz99_0 := blk_frozen BK156.out 0; have hfz99_1 := blk_frozen BK156.out 1; have hfz99_2 := blk_frozen BK156.out 2; have hfz99_3 := blk_frozen BK156.out 3; have hcz100_0 : w93.cell? ⟨gb152, 0, none⟩ = some (.int .i64 t141) := (blk_cell BK152.out 0).trans rfl; have hcz100_1 : w93.cell? ⟨gb152, 1, none⟩ = some (.bool false) := (blk_cell BK152.out 1).trans rfl; have hfz100_0 := blk_frozen BK152.out 0; have hfz100_1 := blk_frozen BK152.out 1; have hcz101_0 : w93.cell? ⟨gb153, 0, none⟩ = some (.int .i64 t144) := (blk_cell BK153.out 0).trans rfl; have hcz101_1 : w93.cell? ⟨gb153, 1, none⟩ = some (.bool true) := (blk_cell BK153.out 1).trans rfl; have hfz101_0 := blk_frozen BK153.out 0; have hfz101_1 := blk_frozen BK153.out 1; have hcz102_0 : w93.cell? ⟨gb135, 0, none⟩ = some (.int .i64 0) := (blk_cell BK135.out 0).trans rfl; have hcz102_1 : w93.cell? ⟨gb135, 1, none⟩ = some (.int .i64 0) := (blk_cell BK135.out 1).trans rfl; have hcz102_2 : w93.cell? ⟨gb135, 2, none⟩ = some (.string (⟨#[]⟩ : ByteArray)) := (blk_cell BK135.out 2).trans rfl; have hcz102_3 : w93.cell? ⟨gb135, 3, none⟩ = some (.string (⟨#[]⟩ : ByteArray)) := (blk_cell BK135.out 3).trans rfl; have hfz102_0 := blk_frozen BK135.out 0; have hfz102_1 := blk_frozen BK135.out 1; have hfz102_2 := blk_frozen BK135.out 2; have hfz102_3 := blk_frozen BK135.out 3))
    refine bodyPost_ret (results_ct rfl _ _ gb135 36 #[.int .i64 0, .int .i64 0, .string (⟨#[]⟩ : ByteArray), .string (⟨#[]⟩ : ByteArray)] (0, 0) _ rfl (by (with_reducible repeat (first | refine blk_drewN ?_ _ | refine blk_drew ?_ | refine blk_alloc ?_ _)); refine blk_put (cs := #[.int .i64 0, .int .i64 0, .string (⟨#[]⟩ : ByteArray), .string (⟨#[]⟩ : ByteArray)]) ?_ 3 _ rfl; (with_reducible repeat (first | refine blk_drewN ?_ _ | refine blk_drew ?_ | refine blk_alloc ?_ _)); refine blk_put (cs := #[.int .i64 0, .int .i64 0, .string (⟨#[]⟩ : ByteArray), .string (⟨#[]⟩ : ByteArray)]) ?_ 2 _ rfl; (with_reducible repeat (first | refine blk_drewN ?_ _ | refine blk_drew ?_ | refine blk_alloc ?_ _)); refine blk_put (cs := #[.int .i64 0, .int .i64 0, .string (⟨#[]⟩ : ByteArray), .string (⟨#[]⟩ : ByteArray)]) ?_ 1 _ rfl; (with_reducible repeat (first | refine blk_drewN ?_ _ | refine blk_drew ?_ | refine blk_alloc ?_ _)); refine blk_put (cs := #[.int .i64 0, .int .i64 0, .string (⟨#[]⟩ : ByteArray), .string (⟨#[]⟩ : ByteArray)]) ?_ 0 _ rfl; (with_reducible repeat (first | refine blk_drewN ?_ _ | refine blk_drew ?_ | refine blk_alloc ?_ _)); refine blk_far ?_ NB135_156.out _; (with_reducible repeat (first | refine blk_drewN ?_ _ | refine blk_drew ?_ | refine blk_alloc ?_ _)); refine blk_far ?_ NB135_156.out _; (with_reducible repeat (first | refine blk_drewN ?_ _ | refine blk_drew ?_ | refine blk_alloc ?_ _)); refine blk_far ?_ NB135_156.out _; (with_reducible repeat (first | refine blk_drewN ?_ _ | refine blk_drew ?_ | refine blk_alloc ?_ _)); refine blk_far ?_ NB135_156.out _; (with_reducible repeat (first | refine blk_drewN ?_ _ | refine blk_drew ?_ | refine blk_alloc ?_ _)); exact BK135.out) Try.underlying36 rfl (by kernel_rfl)) rfl ?_
    exact ⟨by first | rfl | (simp [errW_none, errW_some] <;> rfl) | (simp [*, errW_none, errW_some] <;> rfl), by repeat (first | (with_reducible first | exact HB.out | apply below_alloc | apply pw_below_drewN | apply below_drew1 | refine below_set ?_ GE135.out | refine below_set ?_ GE152.out | refine below_set ?_ GE153.out | refine below_set ?_ GE154.out | refine below_set ?_ GE155.out | refine below_set ?_ GE156.out) | exact HB.out)⟩
  subst c12
  have H1 : (some (0, 0, (⟨#[]⟩ : ByteArray), (⟨#[]⟩ : ByteArray), 3)) = some (r1, r2, r3, r4, r5) := by rw [if_pos rfl] at H; exact H
  clear H
  have H := H1
  clear H1
  simp only [Option.some.injEq, Prod.mk.injEq] at H
  obtain ⟨rfl, rfl, rfl, rfl, rfl⟩ := H
  have hnb34 := NB152_135.out
  have hnc34 := NB135_152.out
  have hnb35 := NB152_153.out
  have hnc35 := NB153_152.out
  have hnb36 := NB152_154.out
  have hnc36 := NB154_152.out
  have hnb37 := NB152_155.out
  have hnc37 := NB155_152.out
  have hcz38_0 : w33.cell? ⟨gb152, 0, none⟩ = some (.int .i64 t141) := (blk_cell BK152.out 0).trans rfl
  have hcz38_1 : w33.cell? ⟨gb152, 1, none⟩ = some (.bool true) := (blk_cell BK152.out 1).trans rfl
  have hfz38_0 := blk_frozen BK152.out 0
  have hfz38_1 := blk_frozen BK152.out 1
  have hnb39 := NB153_135.out
  have hnc39 := NB135_153.out
  have hnb40 := NB153_154.out
  have hnc40 := NB154_153.out
  have hnb41 := NB153_155.out
  have hnc41 := NB155_153.out
  have hcz42_0 : w33.cell? ⟨gb153, 0, none⟩ = some (.int .i64 t144) := (blk_cell BK153.out 0).trans rfl
  have hcz42_1 : w33.cell? ⟨gb153, 1, none⟩ = some (.bool t145) := (blk_cell BK153.out 1).trans rfl
  have hfz42_0 := blk_frozen BK153.out 0
  have hfz42_1 := blk_frozen BK153.out 1
  have hnb43 := NB154_135.out
  have hnc43 := NB135_154.out
  have hnb44 := NB154_155.out
  have hnc44 := NB155_154.out
  have hcz45_0 : w33.cell? ⟨gb154, 0, none⟩ = some (.string t147) := (blk_cell BK154.out 0).trans rfl
  have hcz45_1 : w33.cell? ⟨gb154, 1, none⟩ = some (.bool t148) := (blk_cell BK154.out 1).trans rfl
  have hfz45_0 := blk_frozen BK154.out 0
  have hfz45_1 := blk_frozen BK154.out 1
  have hnb46 := NB155_135.out
  have hnc46 := NB135_155.out
  have hcz47_0 : w33.cell? ⟨gb155, 0, none⟩ = some (.string t150) := (blk_cell BK155.out 0).trans rfl
  have hcz47_1 : w33.cell? ⟨gb155, 1, none⟩ = some (.bool t151) := (blk_cell BK155.out 1).trans rfl
  have hfz47_0 := blk_frozen BK155.out 0
  have hfz47_1 := blk_frozen BK155.out 1
  try go_wp2_with (first | ((with_reducible refine gate_dst (N := 10) rfl ?_); refine box_event ?hg (N := 10) ?hd (cs := #[.int .i64 0, .int .i64 0, .string (⟨#[]⟩ : ByteArray), .string (⟨#[]⟩ : ByteArray)]) (t := 36) ?hr ?_; (case hd => rfl); (case hg => rfl); (case hr => first | (go_simp; done) | (go_simp; rfl)); intro gb156 hg w48 hbox hb; have n0_ := Aside0.mk (Kd.R_below (by (with_reducible repeat (first | apply Kd.R_alloc | apply Kd.R_drewN | apply Kd.R_drew)); exact HO139.out) hb); have n1_ := Aside0.mk (blk_below (g := gb135) (o := .cells #[.int .i64 0, .int .i64 0, .string (⟨#[]⟩ : ByteArray), .string (⟨#[]⟩ : ByteArray)] 36 (0, 0)) (by (with_reducible repeat (first | refine blk_drewN ?_ _ | refine blk_drew ?_ | refine blk_alloc ?_ _)); exact BK135.out) hb); have n2_ := Aside0.mk (blk_below (g := gb152) (o := .cells #[.int .i64 t141, .bool true] 66 (0, 0)) (by (with_reducible repeat (first | refine blk_drewN ?_ _ | refine blk_drew ?_ | refine blk_alloc ?_ _)); exact BK152.out) hb); have n3_ := Aside0.mk (blk_below (g := gb153) (o := .cells #[.int .i64 t144, .bool t145] 66 (0, 0)) (by (with_reducible repeat (first | refine blk_drewN ?_ _ | refine blk_drew ?_ | refine blk_alloc ?_ _)); exact BK153.out) hb); have n4_ := Aside0.mk (blk_below (g := gb154) (o := .cells #[.string t147, .bool t148] 69 (0, 0)) (by (with_reducible repeat (first | refine blk_drewN ?_ _ | refine blk_drew ?_ | refine blk_alloc ?_ _)); exact BK154.out) hb); have n5_ := Aside0.mk (blk_below (g := gb155) (o := .cells #[.string t150, .bool t151] 69 (0, 0)) (by (with_reducible repeat (first | refine blk_drewN ?_ _ | refine blk_drew ?_ | refine blk_alloc ?_ _)); exact BK155.out) hb); have n6_ := Aside0.mk (below_step (by repeat (first | (with_reducible first | exact HB.out | apply below_alloc | apply pw_below_drewN | apply below_drew1 | refine below_set ?_ GE135.out | refine below_set ?_ GE152.out | refine below_set ?_ GE153.out | refine below_set ?_ GE154.out | refine below_set ?_ GE155.out) | exact HB.out)) hb); have n7_ := Aside0.mk (hbox); have n8_ := Aside0.mk ((by rw [hg]; exact (below_size (by repeat (first | (with_reducible first | exact HB.out | apply below_alloc | apply pw_below_drewN | apply below_drew1 | refine below_set ?_ GE135.out | refine below_set ?_ GE152.out | refine below_set ?_ GE153.out | refine below_set ?_ GE154.out | refine below_set ?_ GE155.out) | exact HB.out))) : w.heap.size ≤ gb156)); have n9_ := Aside0.mk ((by rw [hg]; exact (below_size (by repeat (first | (with_reducible first | exact HB.out | apply below_alloc | apply pw_below_drewN | apply below_drew1 | refine below_set ?_ GE135.out | refine below_set ?_ GE152.out | refine below_set ?_ GE153.out | refine below_set ?_ GE154.out | refine below_set ?_ GE155.out) | exact HB.out))) : w.heap.size ≤ gb156)); have n10_ := Aside0.mk ((by rw [hg]; exact Nat.ne_of_lt (blk_lt (g := gb135) (o := .cells #[.int .i64 0, .int .i64 0, .string (⟨#[]⟩ : ByteArray), .string (⟨#[]⟩ : ByteArray)] 36 (0, 0)) (by (with_reducible repeat (first | refine blk_drewN ?_ _ | refine blk_drew ?_ | refine blk_alloc ?_ _)); exact BK135.out)) : gb135 ≠ gb156)); have n11_ := Aside0.mk ((by rw [hg]; exact Nat.ne_of_gt (blk_lt (g := gb135) (o := .cells #[.int .i64 0, .int .i64 0, .string (⟨#[]⟩ : ByteArray), .string (⟨#[]⟩ : ByteArray)] 36 (0, 0)) (by (with_reducible repeat (first | refine blk_drewN ?_ _ | refine blk_drew ?_ | refine blk_alloc ?_ _)); exact BK135.out)) : gb156 ≠ gb135)); have n12_ := Aside0.mk ((by rw [hg]; exact Nat.ne_of_lt (blk_lt (g := gb152) (o := .cells #[.int .i64 t141, .bool true] 66 (0, 0)) (by (with_reducible repeat (first | refine blk_drewN ?_ _ | refine blk_drew ?_ | refine blk_alloc ?_ _)); exact BK152.out)) : gb152 ≠ gb156)); have n13_ := Aside0.mk ((by rw [hg]; exact Nat.ne_of_gt (blk_lt (g := gb152) (o := .cells #[.int .i64 t141, .bool true] 66 (0, 0)) (by (with_reducible repeat (first | refine blk_drewN ?_ _ | refine blk_drew ?_ | refine blk_alloc ?_ _)); exact BK152.out)) : gb156 ≠ gb152)); have n14_ := Aside0.mk ((by rw [hg]; exact Nat.ne_of_lt (blk_lt (g := gb153) (o := .cells #[.int .i64 t144, .bool t145] 66 (0, 0)) (by (with_reducible repeat (first | refine blk_drewN ?_ _ | refine blk_drew ?_ | refine blk_alloc ?_ _)); exact BK153.out)) : gb153 ≠ gb156)); have n15_ := Aside0.mk ((by rw [hg]; exact Nat.ne_of_gt (blk_lt (g := gb153) (o := .cells #[.int .i64 t144, .bool t145] 66 (0, 0)) (by (with_reducible repeat (first | refine blk_drewN ?_ _ | refine blk_drew ?_ | refine blk_alloc ?_ _)); exact BK153.out)) : gb156 ≠ gb153)); have n16_ := Aside0.mk ((by rw [hg]; exact Nat.ne_of_lt (blk_lt (g := gb154) (o := .cells #[.string t147, .bool t148] 69 (0, 0)) (by (with_reducible repeat (first | refine blk_drewN ?_ _ | refine blk_drew ?_ | refine blk_alloc ?_ _)); exact BK154.out)) : gb154 ≠ gb156)); have n17_ := Aside0.mk ((by rw [hg]; exact Nat.ne_of_gt (blk_lt (g := gb154) (o := .cells #[.string t147, .bool t148] 69 (0, 0)) (by (with_reducible repeat (first | refine blk_drewN ?_ _ | refine blk_drew ?_ | refine blk_alloc ?_ _)); exact BK154.out)) : gb156 ≠ gb154)); have n18_ := Aside0.mk ((by rw [hg]; exact Nat.ne_of_lt (blk_lt (g := gb155) (o := .cells #[.string t150, .bool t151] 69 (0, 0)) (by (with_reducible repeat (first | refine blk_drewN ?_ _ | refine blk_drew ?_ | refine blk_alloc ?_ _)); exact BK155.out)) : gb155 ≠ gb156)); have n19_ := Aside0.mk ((by rw [hg]; exact Nat.ne_of_gt (blk_lt (g := gb155) (o := .cells #[.string t150, .bool t151] 69 (0, 0)) (by (with_reducible repeat (first | refine blk_drewN ?_ _ | refine blk_drew ?_ | refine blk_alloc ?_ _)); exact BK155.out)) : gb156 ≠ gb155)); clear HO139; clear BK135; clear BK152; clear BK153; clear BK154; clear BK155; clear HB; have HO139 := n0_; have BK135 := n1_; have BK152 := n2_; have BK153 := n3_; have BK154 := n4_; have BK155 := n5_; have HB := n6_; have BK156 := n7_; have GW156 := n8_; have GE156 := n9_; have NB135_156 := n10_; have NB156_135 := n11_; have NB152_156 := n12_; have NB156_152 := n13_; have NB153_156 := n14_; have NB156_153 := n15_; have NB154_156 := n16_; have NB156_154 := n17_; have NB155_156 := n18_; have NB156_155 := n19_; clear n0_ n1_ n2_ n3_ n4_ n5_ n6_ n7_ n8_ n9_ n10_ n11_ n12_ n13_ n14_ n15_ n16_ n17_ n18_ n19_; clear hb hbox hg; have hnb49 := NB156_135.out; have hnc49 := NB135_156.out; have hnb50 := NB156_152.out; have hnc50 := NB152_156.out; have hnb51 := NB156_153.out; have hnc51 := NB153_156.out; have hnb52 := NB156_154.out; have hnc52 := NB154_156.out; have hnb53 := NB156_155.out; have hnc53 := NB155_156.out; have hcz54_0 : w48.cell? ⟨gb156, 0, none⟩ = some (.int .i64 0) := (blk_cell BK156.out 0).trans rfl; have hcz54_1 : w48.cell? ⟨gb156, 1, none⟩ = some (.int .i64 0) := (blk_cell BK156.out 1).trans rfl; have hcz54_2 : w48.cell? ⟨gb156, 2, none⟩ = some (.string (⟨#[]⟩ : ByteArray)) := (blk_cell BK156.out 2).trans rfl; have hcz54_3 : w48.cell? ⟨gb156, 3, none⟩ = some (.string (⟨#[]⟩ : ByteArray)) := (blk_cell BK156.out 3).trans rfl; have hfz54_0 := blk_frozen BK156.out 0; have hfz54_1 := blk_frozen BK156.out 1; have hfz54_2 := blk_frozen BK156.out 2; have hfz54_3 := blk_frozen BK156.out 3; have hcz55_0 : w48.cell? ⟨gb152, 0, none⟩ = some (.int .i64 t141) := (blk_cell BK152.out 0).trans rfl; have hcz55_1 : w48.cell? ⟨gb152, 1, none⟩ = some (.bool true) := (blk_cell BK152.out 1).trans rfl; have hfz55_0 := blk_frozen BK152.out 0; have hfz55_1 := blk_frozen BK152.out 1; have hcz56_0 : w48.cell? ⟨gb135, 0, none⟩ = some (.int .i64 0) := (blk_cell BK135.out 0).trans rfl; have hcz56_1 : w48.cell? ⟨gb135, 1, none⟩ = some (.int .i64 0) := (blk_cell BK135.out 1).trans rfl; have hcz56_2 : w48.cell? ⟨gb135, 2, none⟩ = some (.string (⟨#[]⟩ : ByteArray)) := (blk_cell BK135.out 2).trans rfl; have hcz56_3 : w48.cell? ⟨gb135, 3, none⟩ = some (.string (⟨#[]⟩ : ByteArray)) := (blk_cell BK135.out 3).trans rfl; have hfz56_0 := blk_frozen BK135.out 0; have hfz56_1 := blk_frozen BK135.out 1; have hfz56_2 := blk_frozen BK135.out 2; have hfz56_3 := blk_frozen BK135.out 3))
  refine bodyPost_ret (results_ct rfl _ _ gb135 36 #[.int .i64 0, .int .i64 0, .string (⟨#[]⟩ : ByteArray), .string (⟨#[]⟩ : ByteArray)] (0, 0) _ rfl (by (with_reducible repeat (first | refine blk_drewN ?_ _ | refine blk_drew ?_ | refine blk_alloc ?_ _)); refine blk_put (cs := #[.int .i64 0, .int .i64 0, .string (⟨#[]⟩ : ByteArray), .string (⟨#[]⟩ : ByteArray)]) ?_ 3 _ rfl; (with_reducible repeat (first | refine blk_drewN ?_ _ | refine blk_drew ?_ | refine blk_alloc ?_ _)); refine blk_put (cs := #[.int .i64 0, .int .i64 0, .string (⟨#[]⟩ : ByteArray), .string (⟨#[]⟩ : ByteArray)]) ?_ 2 _ rfl; (with_reducible repeat (first | refine blk_drewN ?_ _ | refine blk_drew ?_ | refine blk_alloc ?_ _)); refine blk_put (cs := #[.int .i64 0, .int .i64 0, .string (⟨#[]⟩ : ByteArray), .string (⟨#[]⟩ : ByteArray)]) ?_ 1 _ rfl; (with_reducible repeat (first | refine blk_drewN ?_ _ | refine blk_drew ?_ | refine blk_alloc ?_ _)); refine blk_put (cs := #[.int .i64 0, .int .i64 0, .string (⟨#[]⟩ : ByteArray), .string (⟨#[]⟩ : ByteArray)]) ?_ 0 _ rfl; (with_reducible repeat (first | refine blk_drewN ?_ _ | refine blk_drew ?_ | refine blk_alloc ?_ _)); refine blk_far ?_ NB135_156.out _; (with_reducible repeat (first | refine blk_drewN ?_ _ | refine blk_drew ?_ | refine blk_alloc ?_ _)); refine blk_far ?_ NB135_156.out _; (with_reducible repeat (first | refine blk_drewN ?_ _ | refine blk_drew ?_ | refine blk_alloc ?_ _)); refine blk_far ?_ NB135_156.out _; (with_reducible repeat (first | refine blk_drewN ?_ _ | refine blk_drew ?_ | refine blk_alloc ?_ _)); refine blk_far ?_ NB135_156.out _; (with_reducible repeat (first | refine blk_drewN ?_ _ | refine blk_drew ?_ | refine blk_alloc ?_ _)); exact BK135.out) Try.underlying36 rfl (by kernel_rfl)) rfl ?_
  exact ⟨by first | rfl | (simp [errW_none, errW_some] <;> rfl) | (simp [*, errW_none, errW_some] <;> rfl), by repeat (first | (with_reducible first | exact HB.out | apply below_alloc | apply pw_below_drewN | apply below_drew1 | refine below_set ?_ GE135.out | refine below_set ?_ GE152.out | refine below_set ?_ GE153.out | refine below_set ?_ GE154.out | refine below_set ?_ GE155.out | refine below_set ?_ GE156.out) | exact HB.out)⟩
end Go.Proofs.Ytmlggcpanjociaa.PAll
