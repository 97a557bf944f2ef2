/- Printed by a program of this claim: the machine side of its law, for every input; no condition. -/
import Derived.Test.YtbihlbalmihbdaaPAllx0
import Derived.Test.YtbihlbalmihbdaaPAllx18
import Derived.Test.YtbihlbalmihbdaaPAllx19
import Derived.Test.YtbihlbalmihbdaaPAllx20
import Derived.Test.YtbihlbalmihbdaaPAllx21
namespace Go.Proofs.Ytbihlbalmihbdaa.PAll
open Go.RowKit Go.Proofs.YtbihlbalmihbdaaW.PrintWords Go.Proofs.YtbihlbalmihbdaaW.PrintLast Go.Proofs.YtbihlbalmihbdaaW.PrintMore
attribute [local go_sem] max2_int min2_int max_two min_two max_three min_three max_four min_four   -- for this text's walks alone
set_option linter.unusedVariables false
set_option linter.unusedSimpArgs false

attribute [local go_sem] all_u8 all_u32 all_u64
/-! ### wire_ReadWord: function 36 -/
def wire_ReadWord.f (k : Nat) (a0 : ByteArray) : Option (Int × Int × Int × Int × ByteArray × Int) := (wire_read.f k a0 5).bind fun bt127 => (if bt127.2 = true then (if 0 < (bt127.1.length : Int) then ((wire_one.f (rdOf ByteArray.empty bt127.1 0)).bind fun bt132 => (if 1 < (bt127.1.length : Int) then ((wire_one.f (rdOf ByteArray.empty bt127.1 1)).bind fun bt135 => (if 2 < (bt127.1.length : Int) then ((wire_one.f (rdOf ByteArray.empty bt127.1 2)).bind fun bt138 => (if 3 < (bt127.1.length : Int) then ((wire_one.f (rdOf ByteArray.empty bt127.1 3)).bind fun bt141 => (if 4 < (bt127.1.length : Int) then ((wire_text.f (rdOf ByteArray.empty bt127.1 4)).bind fun bt144 => (if bt132.2 = true then (some (0, 0, 0, 0, (⟨#[]⟩ : ByteArray), 3)) else (if bt135.2 = true then (some (0, 0, 0, 0, (⟨#[]⟩ : ByteArray), 3)) else (if bt138.2 = true then (some (0, 0, 0, 0, (⟨#[]⟩ : ByteArray), 3)) else (if bt141.2 = true then (some (0, 0, 0, 0, (⟨#[]⟩ : ByteArray), 3)) else ((wire_CheckWord.f k bt132.1 bt135.1 bt138.1 (wrap64 (bt141.1 - 1)) bt144.1).bind fun t152 => (if t152 = 0 then (some (bt132.1, bt135.1, bt138.1, wrap64 (bt141.1 - 1), bt144.1, 0)) else (some (0, 0, 0, 0, (⟨#[]⟩ : ByteArray), 3))))))))) else (none))) else (none))) else (none))) else (none))) else (none)) else (some (0, 0, 0, 0, (⟨#[]⟩ : ByteArray), 3)))
theorem wire_ReadWord.mono : ∀ a0 k, LeO (wire_ReadWord.f k a0) (wire_ReadWord.f (k + 1) a0) := by
  intro a0 k
  unfold wire_ReadWord.f
  repeat' first
      | (with_reducible exact wire_CheckWord.mono _ _ _ _ _ _)
      | (with_reducible exact wire_read.mono _ _ _)
      | (with_reducible exact LeO.refl _)
      | (with_reducible exact LeO.none _)
      | (with_reducible refine LeO.ite ?_ ?_)
      | (with_reducible refine LeO.bind ?_ (fun _ => ?_))
      | exact wire_CheckWord.mono _ _ _ _ _ _
      | exact wire_read.mono _ _ _
      | exact LeO.none _
      | refine LeO.ite ?_ ?_
      | refine LeO.bind ?_ (fun _ => ?_)
def wire_ReadWord.T4 : Bool × List (List Nat × List Nat) := (true, [([], []), ([0], [0]), ([1], [1]), ([2], [2]), ([], []), ([4], [4]), ([5], [5]), ([6, 3], [6]), ([], []), ([8], [8]), ([9], [9]), ([10, 7], [10]), ([], []), ([12], [12]), ([13], [13]), ([14, 11], [14]), ([], []), ([16], [16]), ([17], [17]), ([18, 15], [18]), ([], []), ([], []), ([], []), ([], []), ([], []), ([20, 3, 19, 0, 1, 2, 3, 20, 21, 22, 23, 24], [3, 20]), ([21, 7, 25, 0, 1, 2, 3, 4, 5, 6, 7, 20, 21, 22, 23, 24, 25], [7, 21]), ([22, 11, 26, 0, 1, 2, 3, 4, 5, 6, 7, 8, 9, 10, 11, 20, 21, 22, 23, 24, 25, 26], [11, 22]), ([23, 15, 27, 0, 1, 2, 3, 4, 5, 6, 7, 8, 9, 10, 11, 12, 13, 14, 15, 20, 21, 22, 23, 24, 25, 26, 27], [15, 23]), ([24, 19, 28, 0, 1, 2, 3, 4, 5, 6, 7, 8, 9, 10, 11, 12, 13, 14, 15, 16, 17, 18, 19, 20, 21, 22, 23, 24, 25, 26, 27, 28], [19, 24])])
def wire_ReadWord.B4 : List Nat := [0, 1, 3, 7, 0, 16, 48, 127, 0, 256, 768, 2047, 0, 4096, 12288, 32767, 0, 65536, 196608, 524287, 0, 0, 0, 0, 0, 33554431, 67108863, 134217727, 268435455, 536870911]
theorem wire_ReadWord.tab4 : rtab .any (opsOf Try.f36 4) = wire_ReadWord.T4 := by kernel_rfl
theorem wire_ReadWord.bits4 : waitsOk wire_ReadWord.T4.2 wire_ReadWord.B4 = true := by kernel_rfl
set_option maxHeartbeats 8000000 in
set_option maxRecDepth 100000 in
theorem wire_ReadWord.calls (k : Nat) (a0 : ByteArray) (r1 : Int) (r2 : Int) (r3 : Int) (r4 : Int) (r5 : ByteArray) (r6 : Int) (w : World) (h : wire_ReadWord.f k a0 = some (r1, r2, r3, r4, r5, r6)) :
    Calls Try.prog 36 #[.string a0] w fun e w' => e = .returned (.tuple #[.agg #[.int .i64 r1, .int .i64 r2, .int .i64 r3, .int .i64 r4, .string r5], .int .i64 r6]) ∧ Below w.heap.size w w' := by
  have hu29 := Try.underlying29
  have hu94 := Try.underlying94
  have hu97 := Try.underlying97
  have HB := Aside0.mk (Below.refl w.heap.size w)
  have H : ((wire_read.f k a0 5).bind fun bt127 => (if bt127.2 = true then (if 0 < (bt127.1.length : Int) then ((wire_one.f (rdOf ByteArray.empty bt127.1 0)).bind fun bt132 => (if 1 < (bt127.1.length : Int) then ((wire_one.f (rdOf ByteArray.empty bt127.1 1)).bind fun bt135 => (if 2 < (bt127.1.length : Int) then ((wire_one.f (rdOf ByteArray.empty bt127.1 2)).bind fun bt138 => (if 3 < (bt127.1.length : Int) then ((wire_one.f (rdOf ByteArray.empty bt127.1 3)).bind fun bt141 => (if 4 < (bt127.1.length : Int) then ((wire_text.f (rdOf ByteArray.empty bt127.1 4)).bind fun bt144 => (if bt132.2 = true then (some (0, 0, 0, 0, (⟨#[]⟩ : ByteArray), 3)) else (if bt135.2 = true then (some (0, 0, 0, 0, (⟨#[]⟩ : ByteArray), 3)) else (if bt138.2 = true then (some (0, 0, 0, 0, (⟨#[]⟩ : ByteArray), 3)) else (if bt141.2 = true then (some (0, 0, 0, 0, (⟨#[]⟩ : ByteArray), 3)) else ((wire_CheckWord.f k bt132.1 bt135.1 bt138.1 (wrap64 (bt141.1 - 1)) bt144.1).bind fun t152 => (if t152 = 0 then (some (bt132.1, bt135.1, bt138.1, wrap64 (bt141.1 - 1), bt144.1, 0)) else (some (0, 0, 0, 0, (⟨#[]⟩ : ByteArray), 3))))))))) else (none))) else (none))) else (none))) else (none))) else (none)) else (some (0, 0, 0, 0, (⟨#[]⟩ : ByteArray), 3)))) = some (r1, r2, r3, r4, r5, r6) := h
  clear h
  replace H := Option.bind_eq_some_iff.mp H
  obtain ⟨⟨t127, t128⟩, A20, H⟩ := H
  replace H : (if t128 = true then (if 0 < (t127.length : Int) then ((wire_one.f (rdOf ByteArray.empty t127 0)).bind fun bt132 => (if 1 < (t127.length : Int) then ((wire_one.f (rdOf ByteArray.empty t127 1)).bind fun bt135 => (if 2 < (t127.length : Int) then ((wire_one.f (rdOf ByteArray.empty t127 2)).bind fun bt138 => (if 3 < (t127.length : Int) then ((wire_one.f (rdOf ByteArray.empty t127 3)).bind fun bt141 => (if 4 < (t127.length : Int) then ((wire_text.f (rdOf ByteArray.empty t127 4)).bind fun bt144 => (if bt132.2 = true then (some (0, 0, 0, 0, (⟨#[]⟩ : ByteArray), 3)) else (if bt135.2 = true then (some (0, 0, 0, 0, (⟨#[]⟩ : ByteArray), 3)) else (if bt138.2 = true then (some (0, 0, 0, 0, (⟨#[]⟩ : ByteArray), 3)) else (if bt141.2 = true then (some (0, 0, 0, 0, (⟨#[]⟩ : ByteArray), 3)) else ((wire_CheckWord.f k bt132.1 bt135.1 bt138.1 (wrap64 (bt141.1 - 1)) bt144.1).bind fun t152 => (if t152 = 0 then (some (bt132.1, bt135.1, bt138.1, wrap64 (bt141.1 - 1), bt144.1, 0)) else (some (0, 0, 0, 0, (⟨#[]⟩ : ByteArray), 3))))))))) else (none))) else (none))) else (none))) else (none))) else (none)) else (some (0, 0, 0, 0, (⟨#[]⟩ : ByteArray), 3))) = some (r1, r2, r3, r4, r5, r6) := H
  have A2 := Aside0.mk A20
  clear A20
  by_cases c3 : t128 = true
  case neg =>
    replace c3 := Bool.eq_false_iff.mpr c3
    subst c3
    have H1 : (some (0, 0, 0, 0, (⟨#[]⟩ : ByteArray), 3)) = some (r1, r2, r3, r4, r5, r6) := by rw [if_neg (show ¬ (false = true) by decide)] at H; exact H
    clear H
    have H := H1
    clear H1
    simp only [Option.some.injEq, Prod.mk.injEq] at H
    obtain ⟨rfl, rfl, rfl, rfl, rfl, rfl⟩ := H
    go_enter Try.func36, Try.ntmps36
    go_wp2_with (first | ((with_reducible refine gate_dst (N := 2) rfl ?_); refine box_event ?hg (N := 2) ?hd (cs := #[.int .i64 0, .int .i64 0, .int .i64 0, .int .i64 0, .string (⟨#[]⟩ : ByteArray)]) (t := 29) ?hr ?_; (case hd => rfl); (case hg => rfl); (case hr => first | (go_simp; done) | (go_simp; rfl)); intro gb126 hg w365 hbox hb; have n0_ := Aside0.mk (below_step (by repeat (first | (with_reducible first | exact HB.out | apply below_alloc | apply pw_below_drewN | apply below_drew1) | exact HB.out)) hb); have n1_ := Aside0.mk (hbox); have n2_ := Aside0.mk ((by rw [hg]; exact (below_size (by repeat (first | (with_reducible first | exact HB.out | apply below_alloc | apply pw_below_drewN | apply below_drew1) | exact HB.out))) : w.heap.size ≤ gb126)); have n3_ := Aside0.mk ((by rw [hg]; exact (below_size (by repeat (first | (with_reducible first | exact HB.out | apply below_alloc | apply pw_below_drewN | apply below_drew1) | exact HB.out))) : w.heap.size ≤ gb126)); clear HB; have HB := n0_; have BK126 := n1_; have GW126 := n2_; have GE126 := n3_; clear n0_ n1_ n2_ n3_; clear hb hbox hg) | ((with_reducible refine gate_callee (f := 43) rfl ?_); refine goesL_ (some 14) rfl rfl Try.func43 (by kernel_rfl) rfl #[.string a0, .int .i64 5] rfl (by (try simp only [List.map_toArray, List.map_cons, List.map_nil]); first | done | rfl | (simp only [List.length_drop, List.length_take]; rfl)) ?_; (with_reducible refine (wire_read.calls k a0 5 t127 false _ A2.out).mono ?_); rintro e w366 ⟨v129, rfl, ho0, hb⟩; refine ⟨_, rfl, ?_⟩; have n0_ := Aside0.mk (Kd.R_lower ho0 (below_size (by repeat (first | (with_reducible first | exact HB.out | apply below_alloc | apply pw_below_drewN | apply below_drew1 | refine below_set ?_ GE126.out) | exact HB.out)))); have n1_ := Aside0.mk (blk_below (g := gb126) (o := .cells #[.int .i64 0, .int .i64 0, .int .i64 0, .int .i64 0, .string (⟨#[]⟩ : ByteArray)] 29 (0, 0)) (by (with_reducible repeat (first | refine blk_drewN ?_ _ | refine blk_drew ?_ | refine blk_alloc ?_ _)); exact BK126.out) hb); have n2_ := Aside0.mk (below_step (by repeat (first | (with_reducible first | exact HB.out | apply below_alloc | apply pw_below_drewN | apply below_drew1 | refine below_set ?_ GE126.out) | exact HB.out)) hb); clear BK126; clear HB; have HO130 := n0_; have BK126 := n1_; have HB := n2_; clear n0_ n1_ n2_; (try clear hb); (try clear hb2); (try clear hk); (try clear hi); (try clear ho0); have hcz367_0 : w366.cell? ⟨gb126, 0, none⟩ = some (.int .i64 0) := (blk_cell BK126.out 0).trans rfl; have hcz367_1 : w366.cell? ⟨gb126, 1, none⟩ = some (.int .i64 0) := (blk_cell BK126.out 1).trans rfl; have hcz367_2 : w366.cell? ⟨gb126, 2, none⟩ = some (.int .i64 0) := (blk_cell BK126.out 2).trans rfl; have hcz367_3 : w366.cell? ⟨gb126, 3, none⟩ = some (.int .i64 0) := (blk_cell BK126.out 3).trans rfl; have hcz367_4 : w366.cell? ⟨gb126, 4, none⟩ = some (.string (⟨#[]⟩ : ByteArray)) := (blk_cell BK126.out 4).trans rfl; have hfz367_0 := blk_frozen BK126.out 0; have hfz367_1 := blk_frozen BK126.out 1; have hfz367_2 := blk_frozen BK126.out 2; have hfz367_3 := blk_frozen BK126.out 3; have hfz367_4 := blk_frozen BK126.out 4))
    refine bodyPost_ret (results_ct rfl _ _ gb126 29 #[.int .i64 0, .int .i64 0, .int .i64 0, .int .i64 0, .string (⟨#[]⟩ : ByteArray)] (0, 0) _ rfl (by (with_reducible repeat (first | refine blk_drewN ?_ _ | refine blk_drew ?_ | refine blk_alloc ?_ _)); refine blk_put (cs := #[.int .i64 0, .int .i64 0, .int .i64 0, .int .i64 0, .string (⟨#[]⟩ : ByteArray)]) ?_ 4 _ rfl; (with_reducible repeat (first | refine blk_drewN ?_ _ | refine blk_drew ?_ | refine blk_alloc ?_ _)); refine blk_put (cs := #[.int .i64 0, .int .i64 0, .int .i64 0, .int .i64 0, .string (⟨#[]⟩ : ByteArray)]) ?_ 3 _ rfl; (with_reducible repeat (first | refine blk_drewN ?_ _ | refine blk_drew ?_ | refine blk_alloc ?_ _)); refine blk_put (cs := #[.int .i64 0, .int .i64 0, .int .i64 0, .int .i64 0, .string (⟨#[]⟩ : ByteArray)]) ?_ 2 _ rfl; (with_reducible repeat (first | refine blk_drewN ?_ _ | refine blk_drew ?_ | refine blk_alloc ?_ _)); refine blk_put (cs := #[.int .i64 0, .int .i64 0, .int .i64 0, .int .i64 0, .string (⟨#[]⟩ : ByteArray)]) ?_ 1 _ rfl; (with_reducible repeat (first | refine blk_drewN ?_ _ | refine blk_drew ?_ | refine blk_alloc ?_ _)); refine blk_put (cs := #[.int .i64 0, .int .i64 0, .int .i64 0, .int .i64 0, .string (⟨#[]⟩ : ByteArray)]) ?_ 0 _ rfl; (with_reducible repeat (first | refine blk_drewN ?_ _ | refine blk_drew ?_ | refine blk_alloc ?_ _)); exact BK126.out) Try.underlying29 rfl (by kernel_rfl)) rfl ?_
    exact ⟨by first | rfl | (simp [errW_none, errW_some] <;> rfl) | (simp [*, errW_none, errW_some] <;> rfl), by repeat (first | (with_reducible first | exact HB.out | apply below_alloc | apply pw_below_drewN | apply below_drew1 | refine below_set ?_ GE126.out) | exact HB.out)⟩

  subst c3
  have H1 : (if 0 < (t127.length : Int) then ((wire_one.f (rdOf ByteArray.empty t127 0)).bind fun bt132 => (if 1 < (t127.length : Int) then ((wire_one.f (rdOf ByteArray.empty t127 1)).bind fun bt135 => (if 2 < (t127.length : Int) then ((wire_one.f (rdOf ByteArray.empty t127 2)).bind fun bt138 => (if 3 < (t127.length : Int) then ((wire_one.f (rdOf ByteArray.empty t127 3)).bind fun bt141 => (if 4 < (t127.length : Int) then ((wire_text.f (rdOf ByteArray.empty t127 4)).bind fun bt144 => (if bt132.2 = true then (some (0, 0, 0, 0, (⟨#[]⟩ : ByteArray), 3)) else (if bt135.2 = true then (some (0, 0, 0, 0, (⟨#[]⟩ : ByteArray), 3)) else (if bt138.2 = true then (some (0, 0, 0, 0, (⟨#[]⟩ : ByteArray), 3)) else (if bt141.2 = true then (some (0, 0, 0, 0, (⟨#[]⟩ : ByteArray), 3)) else ((wire_CheckWord.f k bt132.1 bt135.1 bt138.1 (wrap64 (bt141.1 - 1)) bt144.1).bind fun t152 => (if t152 = 0 then (some (bt132.1, bt135.1, bt138.1, wrap64 (bt141.1 - 1), bt144.1, 0)) else (some (0, 0, 0, 0, (⟨#[]⟩ : ByteArray), 3))))))))) else (none))) else (none))) else (none))) else (none))) else (none)) = some (r1, r2, r3, r4, r5, r6) := by rw [if_pos rfl] at H; exact H
  clear H
  have H := H1
  clear H1
  by_cases c4 : 0 < (t127.length : Int)
  case neg =>
    rw [if_neg c4] at H
    exact absurd H (by simp)
  rw [if_pos c4] at H
  have c4b0 : decide (0 < (t127.length : Int)) = true := decide_eq_true c4
  have c4b1 : decide (0 < t127.length) = true := decide_eq_true (by omega)
  clear c4
  replace H := Option.bind_eq_some_iff.mp H
  obtain ⟨⟨t132, t133⟩, A50, H⟩ := H
  replace H : (if 1 < (t127.length : Int) then ((wire_one.f (rdOf ByteArray.empty t127 1)).bind fun bt135 => (if 2 < (t127.length : Int) then ((wire_one.f (rdOf ByteArray.empty t127 2)).bind fun bt138 => (if 3 < (t127.length : Int) then ((wire_one.f (rdOf ByteArray.empty t127 3)).bind fun bt141 => (if 4 < (t127.length : Int) then ((wire_text.f (rdOf ByteArray.empty t127 4)).bind fun bt144 => (if t133 = true then (some (0, 0, 0, 0, (⟨#[]⟩ : ByteArray), 3)) else (if bt135.2 = true then (some (0, 0, 0, 0, (⟨#[]⟩ : ByteArray), 3)) else (if bt138.2 = true then (some (0, 0, 0, 0, (⟨#[]⟩ : ByteArray), 3)) else (if bt141.2 = true then (some (0, 0, 0, 0, (⟨#[]⟩ : ByteArray), 3)) else ((wire_CheckWord.f k t132 bt135.1 bt138.1 (wrap64 (bt141.1 - 1)) bt144.1).bind fun t152 => (if t152 = 0 then (some (t132, bt135.1, bt138.1, wrap64 (bt141.1 - 1), bt144.1, 0)) else (some (0, 0, 0, 0, (⟨#[]⟩ : ByteArray), 3))))))))) else (none))) else (none))) else (none))) else (none)) = some (r1, r2, r3, r4, r5, r6) := H
  have A5 := Aside0.mk A50
  clear A50
  by_cases c6 : 1 < (t127.length : Int)
  case neg =>
    rw [if_neg c6] at H
    exact absurd H (by simp)
  rw [if_pos c6] at H
  have c6b0 : decide (1 < (t127.length : Int)) = true := decide_eq_true c6
  have c6b1 : decide (1 < t127.length) = true := decide_eq_true (by omega)
  clear c6
  replace H := Option.bind_eq_some_iff.mp H
  obtain ⟨⟨t135, t136⟩, A70, H⟩ := H
  replace H : (if 2 < (t127.length : Int) then ((wire_one.f (rdOf ByteArray.empty t127 2)).bind fun bt138 => (if 3 < (t127.length : Int) then ((wire_one.f (rdOf ByteArray.empty t127 3)).bind fun bt141 => (if 4 < (t127.length : Int) then ((wire_text.f (rdOf ByteArray.empty t127 4)).bind fun bt144 => (if t133 = true then (some (0, 0, 0, 0, (⟨#[]⟩ : ByteArray), 3)) else (if t136 = true then (some (0, 0, 0, 0, (⟨#[]⟩ : ByteArray), 3)) else (if bt138.2 = true then (some (0, 0, 0, 0, (⟨#[]⟩ : ByteArray), 3)) else (if bt141.2 = true then (some (0, 0, 0, 0, (⟨#[]⟩ : ByteArray), 3)) else ((wire_CheckWord.f k t132 t135 bt138.1 (wrap64 (bt141.1 - 1)) bt144.1).bind fun t152 => (if t152 = 0 then (some (t132, t135, bt138.1, wrap64 (bt141.1 - 1), bt144.1, 0)) else (some (0, 0, 0, 0, (⟨#[]⟩ : ByteArray), 3))))))))) else (none))) else (none))) else (none)) = some (r1, r2, r3, r4, r5, r6) := H
  have A7 := Aside0.mk A70
  clear A70
  by_cases c8 : 2 < (t127.length : Int)
  case neg =>
    rw [if_neg c8] at H
    exact absurd H (by simp)
  rw [if_pos c8] at H
  have c8b0 : decide (2 < (t127.length : Int)) = true := decide_eq_true c8
  have c8b1 : decide (2 < t127.length) = true := decide_eq_true (by omega)
  clear c8
  replace H := Option.bind_eq_some_iff.mp H
  obtain ⟨⟨t138, t139⟩, A90, H⟩ := H
  replace H : (if 3 < (t127.length : Int) then ((wire_one.f (rdOf ByteArray.empty t127 3)).bind fun bt141 => (if 4 < (t127.length : Int) then ((wire_text.f (rdOf ByteArray.empty t127 4)).bind fun bt144 => (if t133 = true then (some (0, 0, 0, 0, (⟨#[]⟩ : ByteArray), 3)) else (if t136 = true then (some (0, 0, 0, 0, (⟨#[]⟩ : ByteArray), 3)) else (if t139 = true then (some (0, 0, 0, 0, (⟨#[]⟩ : ByteArray), 3)) else (if bt141.2 = true then (some (0, 0, 0, 0, (⟨#[]⟩ : ByteArray), 3)) else ((wire_CheckWord.f k t132 t135 t138 (wrap64 (bt141.1 - 1)) bt144.1).bind fun t152 => (if t152 = 0 then (some (t132, t135, t138, wrap64 (bt141.1 - 1), bt144.1, 0)) else (some (0, 0, 0, 0, (⟨#[]⟩ : ByteArray), 3))))))))) else (none))) else (none)) = some (r1, r2, r3, r4, r5, r6) := H
  have A9 := Aside0.mk A90
  clear A90
  by_cases c10 : 3 < (t127.length : Int)
  case neg =>
    rw [if_neg c10] at H
    exact absurd H (by simp)
  rw [if_pos c10] at H
  have c10b0 : decide (3 < (t127.length : Int)) = true := decide_eq_true c10
  have c10b1 : decide (3 < t127.length) = true := decide_eq_true (by omega)
  clear c10
  replace H := Option.bind_eq_some_iff.mp H
  obtain ⟨⟨t141, t142⟩, A110, H⟩ := H
  replace H : (if 4 < (t127.length : Int) then ((wire_text.f (rdOf ByteArray.empty t127 4)).bind fun bt144 => (if t133 = true then (some (0, 0, 0, 0, (⟨#[]⟩ : ByteArray), 3)) else (if t136 = true then (some (0, 0, 0, 0, (⟨#[]⟩ : ByteArray), 3)) else (if t139 = true then (some (0, 0, 0, 0, (⟨#[]⟩ : ByteArray), 3)) else (if t142 = true then (some (0, 0, 0, 0, (⟨#[]⟩ : ByteArray), 3)) else ((wire_CheckWord.f k t132 t135 t138 (wrap64 (t141 - 1)) bt144.1).bind fun t152 => (if t152 = 0 then (some (t132, t135, t138, wrap64 (t141 - 1), bt144.1, 0)) else (some (0, 0, 0, 0, (⟨#[]⟩ : ByteArray), 3))))))))) else (none)) = some (r1, r2, r3, r4, r5, r6) := H
  have A11 := Aside0.mk A110
  clear A110
  by_cases c12 : 4 < (t127.length : Int)
  case neg =>
    rw [if_neg c12] at H
    exact absurd H (by simp)
  rw [if_pos c12] at H
  have c12b0 : decide (4 < (t127.length : Int)) = true := decide_eq_true c12
  have c12b1 : decide (4 < t127.length) = true := decide_eq_true (by omega)
  clear c12
  replace H := Option.bind_eq_some_iff.mp H
  obtain ⟨⟨t144, t145⟩, A130, H⟩ := H
  replace H : (if t133 = true then (some (0, 0, 0, 0, (⟨#[]⟩ : ByteArray), 3)) else (if t136 = true then (some (0, 0, 0, 0, (⟨#[]⟩ : ByteArray), 3)) else (if t139 = true then (some (0, 0, 0, 0, (⟨#[]⟩ : ByteArray), 3)) else (if t142 = true then (some (0, 0, 0, 0, (⟨#[]⟩ : ByteArray), 3)) else ((wire_CheckWord.f k t132 t135 t138 (wrap64 (t141 - 1)) t144).bind fun t152 => (if t152 = 0 then (some (t132, t135, t138, wrap64 (t141 - 1), t144, 0)) else (some (0, 0, 0, 0, (⟨#[]⟩ : ByteArray), 3)))))))) = some (r1, r2, r3, r4, r5, r6) := H
  have A13 := Aside0.mk A130
  clear A130
  have HM_ := Aside0.mk H
  clear H
  go_enter Try.func36, Try.ntmps36
  try go_wp2_with (first | ((with_reducible refine gate_dst (N := 2) rfl ?_); refine box_event ?hg (N := 2) ?hd (cs := #[.int .i64 0, .int .i64 0, .int .i64 0, .int .i64 0, .string (⟨#[]⟩ : ByteArray)]) (t := 29) ?hr ?_; (case hd => rfl); (case hg => rfl); (case hr => first | (go_simp; done) | (go_simp; rfl)); intro gb126 hg w15 hbox hb; have n0_ := Aside0.mk (below_step (by repeat (first | (with_reducible first | exact HB.out | apply below_alloc | apply pw_below_drewN | apply below_drew1) | exact HB.out)) hb); have n1_ := Aside0.mk (hbox); have n2_ := Aside0.mk ((by rw [hg]; exact (below_size (by repeat (first | (with_reducible first | exact HB.out | apply below_alloc | apply pw_below_drewN | apply below_drew1) | exact HB.out))) : w.heap.size ≤ gb126)); have n3_ := Aside0.mk ((by rw [hg]; exact (below_size (by repeat (first | (with_reducible first | exact HB.out | apply below_alloc | apply pw_below_drewN | apply below_drew1) | exact HB.out))) : w.heap.size ≤ gb126)); clear HB; have HB := n0_; have BK126 := n1_; have GW126 := n2_; have GE126 := n3_; clear n0_ n1_ n2_ n3_; clear hb hbox hg) | ((with_reducible refine gate_callee (f := 43) rfl ?_); refine goesL_ (some 14) rfl rfl Try.func43 (by kernel_rfl) rfl #[.string a0, .int .i64 5] rfl (by (try simp only [List.map_toArray, List.map_cons, List.map_nil]); first | done | rfl | (simp only [List.length_drop, List.length_take]; rfl)) ?_; (with_reducible refine (wire_read.calls k a0 5 t127 true _ A2.out).mono ?_); rintro e w16 ⟨v129, rfl, ho0, hb⟩; refine ⟨_, rfl, ?_⟩; have n0_ := Aside0.mk (Kd.R_lower ho0 (below_size (by repeat (first | (with_reducible first | exact HB.out | apply below_alloc | apply pw_below_drewN | apply below_drew1 | refine below_set ?_ GE126.out) | exact HB.out)))); have n1_ := Aside0.mk (blk_below (g := gb126) (o := .cells #[.int .i64 0, .int .i64 0, .int .i64 0, .int .i64 0, .string (⟨#[]⟩ : ByteArray)] 29 (0, 0)) (by (with_reducible repeat (first | refine blk_drewN ?_ _ | refine blk_drew ?_ | refine blk_alloc ?_ _)); exact BK126.out) hb); have n2_ := Aside0.mk (below_step (by repeat (first | (with_reducible first | exact HB.out | apply below_alloc | apply pw_below_drewN | apply below_drew1 | refine below_set ?_ GE126.out) | exact HB.out)) hb); clear BK126; clear HB; have HO130 := n0_; have BK126 := n1_; have HB := n2_; clear n0_ n1_ n2_; (try clear hb); (try clear hb2); (try clear hk); (try clear hi); (try clear ho0)))
  have n0_ := Aside0.mk (Kd.R_drew HO130.out)
  have n1_ := Aside0.mk (blk_drew BK126.out)
  have n2_ := Aside0.mk (below_drew1 HB.out)
  clear HO130
  clear BK126
  clear HB
  have HO130 := n0_
  have BK126 := n1_
  have HB := n2_
  clear n0_ n1_ n2_
  obtain ⟨Ao18, co18, eo18⟩ := Kd.R_slice HO130.out
  (first | subst eo18 | (injection eo18 with f1_ f2_ f3_; have f4_ := f1_.symm; have f5_ := f3_.symm; clear f1_ f2_ f3_; subst f4_; subst f5_))
  have p131 : 0 ≤ (0 : Int) := (by omega)
  have q131 : 0 < (t127.length : Int) := of_decide_eq_true (by first | (with_reducible assumption) | assumption)
  obtain ⟨ad131, e131, hx131_0⟩ := Kd.at_string (Kd.R_reads' HO130.out).2.2 0 p131 q131
  cases e131
  have qi131 : (0 < t127.length) = True := eq_true (by omega)
  (try rw [show ((0 : Int)).toNat = 0 from rfl] at hx131_0)
  (try rw [Addr.add_zero'] at hx131_0)
  replace p131 := eq_true p131
  replace q131 := eq_true q131
  have p134 : 0 ≤ (1 : Int) := (by omega)
  have q134 : 1 < (t127.length : Int) := of_decide_eq_true (by first | (with_reducible assumption) | assumption)
  obtain ⟨ad134, e134, hx134_0⟩ := Kd.at_string (Kd.R_reads' HO130.out).2.2 1 p134 q134
  obtain rfl : ad131 = ad134 := (by injection e134)
  (try simp only [show (1 : Int).toNat = 1 from rfl, Nat.reduceMul, Nat.reduceEqDiff, Go.Addr.add, ↓reduceIte] at hx134_0)
  have qi134 : (1 < t127.length) = True := eq_true (by omega)
  (try rw [show ((1 : Int)).toNat = 1 from rfl] at hx134_0)
  replace p134 := eq_true p134
  replace q134 := eq_true q134
  have p137 : 0 ≤ (2 : Int) := (by omega)
  have q137 : 2 < (t127.length : Int) := of_decide_eq_true (by first | (with_reducible assumption) | assumption)
  obtain ⟨ad137, e137, hx137_0⟩ := Kd.at_string (Kd.R_reads' HO130.out).2.2 2 p137 q137
  obtain rfl : ad131 = ad137 := (by injection e137)
  (try simp only [show (2 : Int).toNat = 2 from rfl, Nat.reduceMul, Nat.reduceEqDiff, Go.Addr.add, ↓reduceIte] at hx137_0)
  have qi137 : (2 < t127.length) = True := eq_true (by omega)
  (try rw [show ((2 : Int)).toNat = 2 from rfl] at hx137_0)
  replace p137 := eq_true p137
  replace q137 := eq_true q137
  have p140 : 0 ≤ (3 : Int) := (by omega)
  have q140 : 3 < (t127.length : Int) := of_decide_eq_true (by first | (with_reducible assumption) | assumption)
  obtain ⟨ad140, e140, hx140_0⟩ := Kd.at_string (Kd.R_reads' HO130.out).2.2 3 p140 q140
  obtain rfl : ad131 = ad140 := (by injection e140)
  (try simp only [show (3 : Int).toNat = 3 from rfl, Nat.reduceMul, Nat.reduceEqDiff, Go.Addr.add, ↓reduceIte] at hx140_0)
  have qi140 : (3 < t127.length) = True := eq_true (by omega)
  (try rw [show ((3 : Int)).toNat = 3 from rfl] at hx140_0)
  replace p140 := eq_true p140
  replace q140 := eq_true q140
  have p143 : 0 ≤ (4 : Int) := (by omega)
  have q143 : 4 < (t127.length : Int) := of_decide_eq_true (by first | (with_reducible assumption) | assumption)
  obtain ⟨ad143, e143, hx143_0⟩ := Kd.at_string (Kd.R_reads' HO130.out).2.2 4 p143 q143
  obtain rfl : ad131 = ad143 := (by injection e143)
  (try simp only [show (4 : Int).toNat = 4 from rfl, Nat.reduceMul, Nat.reduceEqDiff, Go.Addr.add, ↓reduceIte] at hx143_0)
  have qi143 : (4 < t127.length) = True := eq_true (by omega)
  (try rw [show ((4 : Int)).toNat = 4 from rfl] at hx143_0)
  replace p143 := eq_true p143
  replace q143 := eq_true q143
  refine start_ (n := 30) (S := fun w' => True) (ds := []) #[false, false, false, false, false, false, false, false, false, false, false, false, false, false, false, false, false, false, false, false, false, false, false, false, false, false, false, false, false, false] (by kernel_rfl) rfl rfl trivial (fun hHeld => ?_); refine with_tabW wire_ReadWord.tab4 wire_ReadWord.bits4 (fun HT_ HW_ => ?_)
  generalize w16.drew = w17 at HO130 BK126 HB hx131_0 hx134_0 hx137_0 hx140_0 hx143_0 hHeld ⊢
  refine pure_ (i := 0) (N := some 20) (v := ?_) (a' := ?_) #[true, false, false, false, false, false, false, false, false, false, false, false, false, false, false, false, false, false, false, false, false, false, false, false, false, false, false, false, false, false] rfl rfl (any_of HT_.out (by kernel_rfl)) (fun _ _ _ h => h) (Or.inl ⟨by rfl, ?_⟩) ?_ ?_
  rotate_left
  · intro w'
    go_simp
    with_reducible rfl
  rotate_left
  · simp only [Act.put, List.setIfInBounds_toArray, List.set_cons_zero, List.set_cons_succ, i64_w, i32_w]
    rfl
  refine pure_ (i := 4) (N := some 24) (v := ?_) (a' := ?_) #[true, false, false, false, true, false, false, false, false, false, false, false, false, false, false, false, false, false, false, false, false, false, false, false, false, false, false, false, false, false] rfl rfl (any_of HT_.out (by kernel_rfl)) (fun _ _ _ h => h) (Or.inl ⟨by rfl, ?_⟩) ?_ ?_
  rotate_left
  · intro w'
    go_simp
    with_reducible rfl
  rotate_left
  · simp only [Act.put, List.setIfInBounds_toArray, List.set_cons_zero, List.set_cons_succ, i64_w, i32_w]
    rfl
  refine pure_ (i := 8) (N := some 28) (v := ?_) (a' := ?_) #[true, false, false, false, true, false, false, false, true, false, false, false, false, false, false, false, false, false, false, false, false, false, false, false, false, false, false, false, false, false] rfl rfl (any_of HT_.out (by kernel_rfl)) (fun _ _ _ h => h) (Or.inl ⟨by rfl, ?_⟩) ?_ ?_
  rotate_left
  · intro w'
    go_simp
    with_reducible rfl
  rotate_left
  · simp only [Act.put, List.setIfInBounds_toArray, List.set_cons_zero, List.set_cons_succ, i64_w, i32_w]
    rfl
  refine pure_ (i := 12) (N := some 32) (v := ?_) (a' := ?_) #[true, false, false, false, true, false, false, false, true, false, false, false, true, false, false, false, false, false, false, false, false, false, false, false, false, false, false, false, false, false] rfl rfl (any_of HT_.out (by kernel_rfl)) (fun _ _ _ h => h) (Or.inl ⟨by rfl, ?_⟩) ?_ ?_
  rotate_left
  · intro w'
    go_simp
    with_reducible rfl
  rotate_left
  · simp only [Act.put, List.setIfInBounds_toArray, List.set_cons_zero, List.set_cons_succ, i64_w, i32_w]
    rfl
  refine pure_ (i := 16) (N := some 36) (v := ?_) (a' := ?_) #[true, false, false, false, true, false, false, false, true, false, false, false, true, false, false, false, true, false, false, false, false, false, false, false, false, false, false, false, false, false] rfl rfl (any_of HT_.out (by kernel_rfl)) (fun _ _ _ h => h) (Or.inl ⟨by rfl, ?_⟩) ?_ ?_
  rotate_left
  · intro w'
    go_simp
    with_reducible rfl
  rotate_left
  · simp only [Act.put, List.setIfInBounds_toArray, List.set_cons_zero, List.set_cons_succ, i64_w, i32_w]
    rfl
  refine inv_at [1, 2, 3, 5, 6, 7, 9, 10, 11, 13, 14, 15, 17, 18, 19, 20, 21, 22, 23, 24, 25, 26, 27, 28, 29] (fun a0_ b a w' => ∃ (gb146 : Nat) (gb147 : Nat) (gb148 : Nat) (gb149 : Nat) (gb150 : Nat) (m20_ : Value) (m21_ : Value) (m22_ : Value) (m23_ : Value) (m24_ : Value), a = putSel a0_ b [(1, 21, .pointer (some ad131)), (2, 22, .string (rdOf ByteArray.empty t127 0)), (3, 23, .agg #[.int .i64 t132, .bool t133]), (5, 25, .pointer (some (ad131.add 1))), (6, 26, .string (rdOf ByteArray.empty t127 1)), (7, 27, .agg #[.int .i64 t135, .bool t136]), (9, 29, .pointer (some (ad131.add 2))), (10, 30, .string (rdOf ByteArray.empty t127 2)), (11, 31, .agg #[.int .i64 t138, .bool t139]), (13, 33, .pointer (some (ad131.add 3))), (14, 34, .string (rdOf ByteArray.empty t127 3)), (15, 35, .agg #[.int .i64 t141, .bool t142]), (17, 37, .pointer (some (ad131.add 4))), (18, 38, .string (rdOf ByteArray.empty t127 4)), (19, 39, .agg #[.string t144, .bool t145]), (20, 6, m20_), (21, 7, m21_), (22, 8, m22_), (23, 9, m23_), (24, 10, m24_)] ∧ (Kd.R Kd.string 9 w' w.heap.size (fun _ => True) (.slice (some ad131) t127.length co18) t127) ∧ (w'.heap[gb126]? = some (.cells #[.int .i64 0, .int .i64 0, .int .i64 0, .int .i64 0, .string (⟨#[]⟩ : ByteArray)] 29 (0, 0))) ∧ (Below w.heap.size w w') ∧ (b 20 = true → b 21 = true → gb147 ≠ gb146) ∧ (b 20 = true → b 21 = true → gb146 ≠ gb147) ∧ (b 20 = true → b 22 = true → gb148 ≠ gb146) ∧ (b 20 = true → b 22 = true → gb146 ≠ gb148) ∧ (b 20 = true → b 23 = true → gb149 ≠ gb146) ∧ (b 20 = true → b 23 = true → gb146 ≠ gb149) ∧ (b 20 = true → b 24 = true → gb150 ≠ gb146) ∧ (b 20 = true → b 24 = true → gb146 ≠ gb150) ∧ (b 21 = true → b 22 = true → gb148 ≠ gb147) ∧ (b 21 = true → b 22 = true → gb147 ≠ gb148) ∧ (b 21 = true → b 23 = true → gb149 ≠ gb147) ∧ (b 21 = true → b 23 = true → gb147 ≠ gb149) ∧ (b 21 = true → b 24 = true → gb150 ≠ gb147) ∧ (b 21 = true → b 24 = true → gb147 ≠ gb150) ∧ (b 22 = true → b 23 = true → gb149 ≠ gb148) ∧ (b 22 = true → b 23 = true → gb148 ≠ gb149) ∧ (b 22 = true → b 24 = true → gb150 ≠ gb148) ∧ (b 22 = true → b 24 = true → gb148 ≠ gb150) ∧ (b 23 = true → b 24 = true → gb150 ≠ gb149) ∧ (b 23 = true → b 24 = true → gb149 ≠ gb150) ∧ (b 20 = true → b 25 = false → w'.heap[gb146]? = some (.cells #[.int .i64 0, .bool false] 94 (0, 0))) ∧ (b 20 = true → w.heap.size ≤ gb146) ∧ (b 20 = true → w.heap.size ≤ gb146) ∧ (b 20 = true → gb126 ≠ gb146) ∧ (b 20 = true → gb146 ≠ gb126) ∧ (b 21 = true → b 26 = false → w'.heap[gb147]? = some (.cells #[.int .i64 0, .bool false] 94 (0, 0))) ∧ (b 21 = true → w.heap.size ≤ gb147) ∧ (b 21 = true → w.heap.size ≤ gb147) ∧ (b 21 = true → gb126 ≠ gb147) ∧ (b 21 = true → gb147 ≠ gb126) ∧ (b 22 = true → b 27 = false → w'.heap[gb148]? = some (.cells #[.int .i64 0, .bool false] 94 (0, 0))) ∧ (b 22 = true → w.heap.size ≤ gb148) ∧ (b 22 = true → w.heap.size ≤ gb148) ∧ (b 22 = true → gb126 ≠ gb148) ∧ (b 22 = true → gb148 ≠ gb126) ∧ (b 23 = true → b 28 = false → w'.heap[gb149]? = some (.cells #[.int .i64 0, .bool false] 94 (0, 0))) ∧ (b 23 = true → w.heap.size ≤ gb149) ∧ (b 23 = true → w.heap.size ≤ gb149) ∧ (b 23 = true → gb126 ≠ gb149) ∧ (b 23 = true → gb149 ≠ gb126) ∧ (b 24 = true → b 29 = false → w'.heap[gb150]? = some (.cells #[.string (⟨#[]⟩ : ByteArray), .bool false] 97 (0, 0))) ∧ (b 24 = true → w.heap.size ≤ gb150) ∧ (b 24 = true → w.heap.size ≤ gb150) ∧ (b 24 = true → gb126 ≠ gb150) ∧ (b 24 = true → gb150 ≠ gb126) ∧ (b 25 = true → w'.heap[gb146]? = some (.cells #[.int .i64 t132, .bool t133] 94 (0, 0))) ∧ (b 26 = true → w'.heap[gb147]? = some (.cells #[.int .i64 t135, .bool t136] 94 (0, 0))) ∧ (b 27 = true → w'.heap[gb148]? = some (.cells #[.int .i64 t138, .bool t139] 94 (0, 0))) ∧ (b 28 = true → w'.heap[gb149]? = some (.cells #[.int .i64 t141, .bool t142] 94 (0, 0))) ∧ (b 29 = true → w'.heap[gb150]? = some (.cells #[.string t144, .bool t145] 97 (0, 0))) ∧ (b 20 = true → (m20_ : Value) = .pointer (some ⟨gb146, 0, none⟩)) ∧ (b 21 = true → (m21_ : Value) = .pointer (some ⟨gb147, 0, none⟩)) ∧ (b 22 = true → (m22_ : Value) = .pointer (some ⟨gb148, 0, none⟩)) ∧ (b 23 = true → (m23_ : Value) = .pointer (some ⟨gb149, 0, none⟩)) ∧ (b 24 = true → (m24_ : Value) = .pointer (some ⟨gb150, 0, none⟩))) HT_.out HW_.out (by kernel_rfl) (by kernel_rfl) ?_ ?_ ?_
  · exact ⟨0, 0, 0, 0, 0, .bool false, .bool false, .bool false, .bool false, .bool false, by simp only [putSel, Bool.false_eq_true, if_false], HO130.out, BK126.out, HB.out, fun h_ => absurd h_ (by decide), fun h_ => absurd h_ (by decide), fun h_ => absurd h_ (by decide), fun h_ => absurd h_ (by decide), fun h_ => absurd h_ (by decide), fun h_ => absurd h_ (by decide), fun h_ => absurd h_ (by decide), fun h_ => absurd h_ (by decide), fun h_ => absurd h_ (by decide), fun h_ => absurd h_ (by decide), fun h_ => absurd h_ (by decide), fun h_ => absurd h_ (by decide), fun h_ => absurd h_ (by decide), fun h_ => absurd h_ (by decide), fun h_ => absurd h_ (by decide), fun h_ => absurd h_ (by decide), fun h_ => absurd h_ (by decide), fun h_ => absurd h_ (by decide), fun h_ => absurd h_ (by decide), fun h_ => absurd h_ (by decide), fun h_ => absurd h_ (by decide), fun h_ => absurd h_ (by decide), fun h_ => absurd h_ (by decide), fun h_ => absurd h_ (by decide), fun h_ => absurd h_ (by decide), fun h_ => absurd h_ (by decide), fun h_ => absurd h_ (by decide), fun h_ => absurd h_ (by decide), fun h_ => absurd h_ (by decide), fun h_ => absurd h_ (by decide), fun h_ => absurd h_ (by decide), fun h_ => absurd h_ (by decide), fun h_ => absurd h_ (by decide), fun h_ => absurd h_ (by decide), fun h_ => absurd h_ (by decide), fun h_ => absurd h_ (by decide), fun h_ => absurd h_ (by decide), fun h_ => absurd h_ (by decide), fun h_ => absurd h_ (by decide), fun h_ => absurd h_ (by decide), fun h_ => absurd h_ (by decide), fun h_ => absurd h_ (by decide), fun h_ => absurd h_ (by decide), fun h_ => absurd h_ (by decide), fun h_ => absurd h_ (by decide), fun h_ => absurd h_ (by decide), fun h_ => absurd h_ (by decide), fun h_ => absurd h_ (by decide), fun h_ => absurd h_ (by decide), fun h_ => absurd h_ (by decide), fun h_ => absurd h_ (by decide), fun h_ => absurd h_ (by decide), fun h_ => absurd h_ (by decide), fun h_ => absurd h_ (by decide), fun h_ => absurd h_ (by decide)⟩
  · skip
    clear BK126 HB HO130
    refine steps_cons ?_ ?_
    · rintro b a w' ⟨gb146, gb147, gb148, gb149, gb150, m20_, m21_, m22_, m23_, m24_, ha, Y22, Y0, Y21, Y34, Y29, Y39, Y30, Y44, Y31, Y49, Y32, Y40, Y35, Y45, Y36, Y50, Y37, Y46, Y41, Y51, Y42, Y52, Y47, Y1, Y16, Y11, Y23, Y28, Y3, Y17, Y12, Y24, Y33, Y5, Y18, Y13, Y25, Y38, Y7, Y19, Y14, Y26, Y43, Y9, Y20, Y15, Y27, Y48, Y2, Y4, Y6, Y8, Y10, Y53, Y54, Y55, Y56, Y57⟩ hb_ hon hoff
      refine ⟨_, rfl, fun K hK => ?_⟩
      have e20 : a.tmps[20]? = some (.slice (some ad131) t127.length co18) := by rw [ha]; exact (putSel_off rfl).trans rfl
      replace ha := Aside0.mk ha
      have HO130 := Aside0.mk Y22
      have BK126 := Aside0.mk Y0
      have HB := Aside0.mk Y21
      refine value_ (w1 := w') (v := .pointer (some ad131)) (by rfl) rfl ?_ ?_
      · go_simp
        (try simp only [i64_w])
        try rfl
      refine hK.out _ _ ⟨gb146, gb147, gb148, gb149, gb150, m20_, m21_, m22_, m23_, m24_, (by rw [ha.out]; exact putSel_upk 0 hb_ rfl rfl rfl), Y22, Y0, Y21, Y34, Y29, Y39, Y30, Y44, Y31, Y49, Y32, Y40, Y35, Y45, Y36, Y50, Y37, Y46, Y41, Y51, Y42, Y52, Y47, Y1, Y16, Y11, Y23, Y28, Y3, Y17, Y12, Y24, Y33, Y5, Y18, Y13, Y25, Y38, Y7, Y19, Y14, Y26, Y43, Y9, Y20, Y15, Y27, Y48, fun h0_ => absurd ((hoff 25 (by kernel_rfl)).symm.trans h0_) (by decide), fun h0_ => absurd ((hoff 26 (by kernel_rfl)).symm.trans h0_) (by decide), fun h0_ => absurd ((hoff 27 (by kernel_rfl)).symm.trans h0_) (by decide), fun h0_ => absurd ((hoff 28 (by kernel_rfl)).symm.trans h0_) (by decide), fun h0_ => absurd ((hoff 29 (by kernel_rfl)).symm.trans h0_) (by decide), Y53, Y54, Y55, Y56, Y57⟩
    refine steps_cons ?_ ?_
    · rintro b a w' ⟨gb146, gb147, gb148, gb149, gb150, m20_, m21_, m22_, m23_, m24_, ha, Y22, Y0, Y21, Y34, Y29, Y39, Y30, Y44, Y31, Y49, Y32, Y40, Y35, Y45, Y36, Y50, Y37, Y46, Y41, Y51, Y42, Y52, Y47, Y1, Y16, Y11, Y23, Y28, Y3, Y17, Y12, Y24, Y33, Y5, Y18, Y13, Y25, Y38, Y7, Y19, Y14, Y26, Y43, Y9, Y20, Y15, Y27, Y48, Y2, Y4, Y6, Y8, Y10, Y53, Y54, Y55, Y56, Y57⟩ hb_ hon hoff
      refine ⟨_, rfl, fun K hK => ?_⟩
      have e21 : a.tmps[21]? = some (.pointer (some ad131)) := by rw [ha]; exact putSel_on (e := (1, 21, .pointer (some ad131))) 0 rfl rfl (hon 1 (by kernel_rfl)) rfl
      replace ha := Aside0.mk ha
      have HO130 := Aside0.mk Y22
      have BK126 := Aside0.mk Y0
      have HB := Aside0.mk Y21
      obtain ⟨ad131_z, e131_z, hx131_0_z⟩ := Kd.at_string (Kd.R_reads' HO130.out).2.2 0 (of_eq_true p131) (of_eq_true q131)
      cases e131_z
      have hs0_ : w'.cell? ad131 = some (.string (rdOf ByteArray.empty t127 0)) := (by first | exact hx131_0_z | (have h_ := hx131_0_z; (try simp only [Int.reduceToNat, Nat.zero_mul, Nat.reduceMul, Nat.reduceEqDiff, Go.Addr.add, ↓reduceIte, Addr.add_zero'] at h_); exact h_))
      refine value_ (w1 := w') (v := .string (rdOf ByteArray.empty t127 0)) (by rfl) rfl ?_ ?_
      · go_simp
        (try simp only [i64_w])
        try rfl
      refine hK.out _ _ ⟨gb146, gb147, gb148, gb149, gb150, m20_, m21_, m22_, m23_, m24_, (by rw [ha.out]; exact putSel_upk 1 hb_ rfl rfl rfl), Y22, Y0, Y21, Y34, Y29, Y39, Y30, Y44, Y31, Y49, Y32, Y40, Y35, Y45, Y36, Y50, Y37, Y46, Y41, Y51, Y42, Y52, Y47, Y1, Y16, Y11, Y23, Y28, Y3, Y17, Y12, Y24, Y33, Y5, Y18, Y13, Y25, Y38, Y7, Y19, Y14, Y26, Y43, Y9, Y20, Y15, Y27, Y48, fun h0_ => absurd ((hoff 25 (by kernel_rfl)).symm.trans h0_) (by decide), fun h0_ => absurd ((hoff 26 (by kernel_rfl)).symm.trans h0_) (by decide), fun h0_ => absurd ((hoff 27 (by kernel_rfl)).symm.trans h0_) (by decide), fun h0_ => absurd ((hoff 28 (by kernel_rfl)).symm.trans h0_) (by decide), fun h0_ => absurd ((hoff 29 (by kernel_rfl)).symm.trans h0_) (by decide), Y53, Y54, Y55, Y56, Y57⟩
    refine steps_cons ?_ ?_
    · rintro b a w' ⟨gb146, gb147, gb148, gb149, gb150, m20_, m21_, m22_, m23_, m24_, ha, Y22, Y0, Y21, Y34, Y29, Y39, Y30, Y44, Y31, Y49, Y32, Y40, Y35, Y45, Y36, Y50, Y37, Y46, Y41, Y51, Y42, Y52, Y47, Y1, Y16, Y11, Y23, Y28, Y3, Y17, Y12, Y24, Y33, Y5, Y18, Y13, Y25, Y38, Y7, Y19, Y14, Y26, Y43, Y9, Y20, Y15, Y27, Y48, Y2, Y4, Y6, Y8, Y10, Y53, Y54, Y55, Y56, Y57⟩ hb_ hon hoff
      refine ⟨_, rfl, fun K hK => ?_⟩
      have e22 : a.tmps[22]? = some (.string (rdOf ByteArray.empty t127 0)) := by rw [ha]; exact putSel_on (e := (2, 22, .string (rdOf ByteArray.empty t127 0))) 1 rfl rfl (hon 2 (by kernel_rfl)) rfl
      replace ha := Aside0.mk ha
      have HO130 := Aside0.mk Y22
      have BK126 := Aside0.mk Y0
      have HB := Aside0.mk Y21
      refine goes_ Try.func44 (by kernel_rfl) rfl #[.string (rdOf ByteArray.empty t127 0)] (by rfl) rfl rfl (by first | (simp only [List.map_toArray, List.map_cons, List.map_nil, Act.eval, Array.getD_eq_getD_getElem?, Option.getD_some, e22]; done) | (simp only [List.map_toArray, List.map_cons, List.map_nil, Act.eval, Array.getD_eq_getD_getElem?, Option.getD_some, e22]; rfl)) ?_
      with_reducible refine (wire_one.calls (rdOf ByteArray.empty t127 0) t132 t133 _ A5.out).mono ?_
      rintro e w19 ⟨rfl, hb⟩
      refine ⟨_, rfl, ?_⟩
      have n0_ := Aside0.mk (Kd.R_below (by (with_reducible repeat (first | apply Kd.R_alloc | apply Kd.R_drewN | apply Kd.R_drew)); exact HO130.out) hb)
      have n1_ := Aside0.mk (blk_below (g := gb126) (o := .cells #[.int .i64 0, .int .i64 0, .int .i64 0, .int .i64 0, .string (⟨#[]⟩ : ByteArray)] 29 (0, 0)) (by (with_reducible repeat (first | refine blk_drewN ?_ _ | refine blk_drew ?_ | refine blk_alloc ?_ _)); exact BK126.out) hb)
      have n2_ := Aside0.mk (below_step (by repeat (first | (with_reducible first | exact HB.out | apply below_alloc | apply pw_below_drewN | apply below_drew1 | refine below_set ?_ GE126.out) | exact HB.out)) hb)
      have Y58 := fun (h0_ : b 20 = true) (h1_ : b 25 = false) => (show w19.heap[gb146]? = some (.cells #[.int .i64 0, .bool false] 94 (0, 0)) from by first | exact (blk_below (g := gb146) (o := .cells #[.int .i64 0, .bool false] 94 (0, 0)) (by (with_reducible repeat (first | refine blk_drewN ?_ _ | refine blk_drew ?_ | refine blk_alloc ?_ _)); exact (Y1 h0_ h1_)) hb))
      have Y59 := fun (h0_ : b 21 = true) (h1_ : b 26 = false) => (show w19.heap[gb147]? = some (.cells #[.int .i64 0, .bool false] 94 (0, 0)) from by first | exact (blk_below (g := gb147) (o := .cells #[.int .i64 0, .bool false] 94 (0, 0)) (by (with_reducible repeat (first | refine blk_drewN ?_ _ | refine blk_drew ?_ | refine blk_alloc ?_ _)); exact (Y3 h0_ h1_)) hb))
      have Y60 := fun (h0_ : b 22 = true) (h1_ : b 27 = false) => (show w19.heap[gb148]? = some (.cells #[.int .i64 0, .bool false] 94 (0, 0)) from by first | exact (blk_below (g := gb148) (o := .cells #[.int .i64 0, .bool false] 94 (0, 0)) (by (with_reducible repeat (first | refine blk_drewN ?_ _ | refine blk_drew ?_ | refine blk_alloc ?_ _)); exact (Y5 h0_ h1_)) hb))
      have Y61 := fun (h0_ : b 23 = true) (h1_ : b 28 = false) => (show w19.heap[gb149]? = some (.cells #[.int .i64 0, .bool false] 94 (0, 0)) from by first | exact (blk_below (g := gb149) (o := .cells #[.int .i64 0, .bool false] 94 (0, 0)) (by (with_reducible repeat (first | refine blk_drewN ?_ _ | refine blk_drew ?_ | refine blk_alloc ?_ _)); exact (Y7 h0_ h1_)) hb))
      have Y62 := fun (h0_ : b 24 = true) (h1_ : b 29 = false) => (show w19.heap[gb150]? = some (.cells #[.string (⟨#[]⟩ : ByteArray), .bool false] 97 (0, 0)) from by first | exact (blk_below (g := gb150) (o := .cells #[.string (⟨#[]⟩ : ByteArray), .bool false] 97 (0, 0)) (by (with_reducible repeat (first | refine blk_drewN ?_ _ | refine blk_drew ?_ | refine blk_alloc ?_ _)); exact (Y9 h0_ h1_)) hb))
      clear HO130
      clear BK126
      clear HB
      have HO130 := n0_
      have BK126 := n1_
      have HB := n2_
      clear n0_ n1_ n2_
      (try clear hb)
      (try clear hb2)
      (try clear hk)
      (try clear hi)
      refine hK.out _ _ ⟨gb146, gb147, gb148, gb149, gb150, m20_, m21_, m22_, m23_, m24_, (by rw [ha.out]; exact putSel_upk 2 hb_ rfl rfl rfl), (by (with_reducible repeat (first | apply Kd.R_alloc | apply Kd.R_drewN | apply Kd.R_drew)); exact HO130.out), (by (with_reducible repeat (first | refine blk_drewN ?_ _ | refine blk_drew ?_ | refine blk_alloc ?_ _)); exact BK126.out), (by repeat (first | (with_reducible first | exact HB.out | apply below_alloc | apply pw_below_drewN | apply below_drew1 | refine below_set ?_ GE126.out) | exact HB.out)), Y34, Y29, Y39, Y30, Y44, Y31, Y49, Y32, Y40, Y35, Y45, Y36, Y50, Y37, Y46, Y41, Y51, Y42, Y52, Y47, Y58, Y16, Y11, Y23, Y28, Y59, Y17, Y12, Y24, Y33, Y60, Y18, Y13, Y25, Y38, Y61, Y19, Y14, Y26, Y43, Y62, Y20, Y15, Y27, Y48, fun h0_ => absurd ((hoff 25 (by kernel_rfl)).symm.trans h0_) (by decide), fun h0_ => absurd ((hoff 26 (by kernel_rfl)).symm.trans h0_) (by decide), fun h0_ => absurd ((hoff 27 (by kernel_rfl)).symm.trans h0_) (by decide), fun h0_ => absurd ((hoff 28 (by kernel_rfl)).symm.trans h0_) (by decide), fun h0_ => absurd ((hoff 29 (by kernel_rfl)).symm.trans h0_) (by decide), Y53, Y54, Y55, Y56, Y57⟩
    refine steps_cons ?_ ?_
    · rintro b a w' ⟨gb146, gb147, gb148, gb149, gb150, m20_, m21_, m22_, m23_, m24_, ha, Y22, Y0, Y21, Y34, Y29, Y39, Y30, Y44, Y31, Y49, Y32, Y40, Y35, Y45, Y36, Y50, Y37, Y46, Y41, Y51, Y42, Y52, Y47, Y1, Y16, Y11, Y23, Y28, Y3, Y17, Y12, Y24, Y33, Y5, Y18, Y13, Y25, Y38, Y7, Y19, Y14, Y26, Y43, Y9, Y20, Y15, Y27, Y48, Y2, Y4, Y6, Y8, Y10, Y53, Y54, Y55, Y56, Y57⟩ hb_ hon hoff
      refine ⟨_, rfl, fun K hK => ?_⟩
      have e24 : a.tmps[24]? = some (.slice (some ad131) t127.length co18) := by rw [ha]; exact (putSel_off rfl).trans rfl
      replace ha := Aside0.mk ha
      have HO130 := Aside0.mk Y22
      have BK126 := Aside0.mk Y0
      have HB := Aside0.mk Y21
      refine value_ (w1 := w') (v := .pointer (some (ad131.add 1))) (by rfl) rfl ?_ ?_
      · go_simp
        (try simp only [i64_w])
        try rfl
      refine hK.out _ _ ⟨gb146, gb147, gb148, gb149, gb150, m20_, m21_, m22_, m23_, m24_, (by rw [ha.out]; exact putSel_upk 3 hb_ rfl rfl rfl), Y22, Y0, Y21, Y34, Y29, Y39, Y30, Y44, Y31, Y49, Y32, Y40, Y35, Y45, Y36, Y50, Y37, Y46, Y41, Y51, Y42, Y52, Y47, Y1, Y16, Y11, Y23, Y28, Y3, Y17, Y12, Y24, Y33, Y5, Y18, Y13, Y25, Y38, Y7, Y19, Y14, Y26, Y43, Y9, Y20, Y15, Y27, Y48, fun h0_ => absurd ((hoff 25 (by kernel_rfl)).symm.trans h0_) (by decide), fun h0_ => absurd ((hoff 26 (by kernel_rfl)).symm.trans h0_) (by decide), fun h0_ => absurd ((hoff 27 (by kernel_rfl)).symm.trans h0_) (by decide), fun h0_ => absurd ((hoff 28 (by kernel_rfl)).symm.trans h0_) (by decide), fun h0_ => absurd ((hoff 29 (by kernel_rfl)).symm.trans h0_) (by decide), Y53, Y54, Y55, Y56, Y57⟩
    refine steps_cons ?_ ?_
    · rintro b a w' ⟨gb146, gb147, gb148, gb149, gb150, m20_, m21_, m22_, m23_, m24_, ha, Y22, Y0, Y21, Y34, Y29, Y39, Y30, Y44, Y31, Y49, Y32, Y40, Y35, Y45, Y36, Y50, Y37, Y46, Y41, Y51, Y42, Y52, Y47, Y1, Y16, Y11, Y23, Y28, Y3, Y17, Y12, Y24, Y33, Y5, Y18, Y13, Y25, Y38, Y7, Y19, Y14, Y26, Y43, Y9, Y20, Y15, Y27, Y48, Y2, Y4, Y6, Y8, Y10, Y53, Y54, Y55, Y56, Y57⟩ hb_ hon hoff
      refine ⟨_, rfl, fun K hK => ?_⟩
      have e25 : a.tmps[25]? = some (.pointer (some (ad131.add 1))) := by rw [ha]; exact putSel_on (e := (5, 25, .pointer (some (ad131.add 1)))) 3 rfl rfl (hon 5 (by kernel_rfl)) rfl
      replace ha := Aside0.mk ha
      have HO130 := Aside0.mk Y22
      have BK126 := Aside0.mk Y0
      have HB := Aside0.mk Y21
      obtain ⟨ad134_z, e134_z, hx134_0_z⟩ := Kd.at_string (Kd.R_reads' HO130.out).2.2 1 (of_eq_true p134) (of_eq_true q134)
      cases e134_z
      have hs1_ : w'.cell? ⟨ad131.block, ad131.off + 1, none⟩ = some (.string (rdOf ByteArray.empty t127 1)) := (by first | exact hx134_0_z | (have h_ := hx134_0_z; (try simp only [Int.reduceToNat, Nat.zero_mul, Nat.reduceMul, Nat.reduceEqDiff, Go.Addr.add, ↓reduceIte, Addr.add_zero'] at h_); exact h_))
      refine value_ (w1 := w') (v := .string (rdOf ByteArray.empty t127 1)) (by rfl) rfl ?_ ?_
      · go_simp
        (try simp only [i64_w])
        try rfl
      refine hK.out _ _ ⟨gb146, gb147, gb148, gb149, gb150, m20_, m21_, m22_, m23_, m24_, (by rw [ha.out]; exact putSel_upk 4 hb_ rfl rfl rfl), Y22, Y0, Y21, Y34, Y29, Y39, Y30, Y44, Y31, Y49, Y32, Y40, Y35, Y45, Y36, Y50, Y37, Y46, Y41, Y51, Y42, Y52, Y47, Y1, Y16, Y11, Y23, Y28, Y3, Y17, Y12, Y24, Y33, Y5, Y18, Y13, Y25, Y38, Y7, Y19, Y14, Y26, Y43, Y9, Y20, Y15, Y27, Y48, fun h0_ => absurd ((hoff 25 (by kernel_rfl)).symm.trans h0_) (by decide), fun h0_ => absurd ((hoff 26 (by kernel_rfl)).symm.trans h0_) (by decide), fun h0_ => absurd ((hoff 27 (by kernel_rfl)).symm.trans h0_) (by decide), fun h0_ => absurd ((hoff 28 (by kernel_rfl)).symm.trans h0_) (by decide), fun h0_ => absurd ((hoff 29 (by kernel_rfl)).symm.trans h0_) (by decide), Y53, Y54, Y55, Y56, Y57⟩
    refine steps_cons ?_ ?_
    · rintro b a w' ⟨gb146, gb147, gb148, gb149, gb150, m20_, m21_, m22_, m23_, m24_, ha, Y22, Y0, Y21, Y34, Y29, Y39, Y30, Y44, Y31, Y49, Y32, Y40, Y35, Y45, Y36, Y50, Y37, Y46, Y41, Y51, Y42, Y52, Y47, Y1, Y16, Y11, Y23, Y28, Y3, Y17, Y12, Y24, Y33, Y5, Y18, Y13, Y25, Y38, Y7, Y19, Y14, Y26, Y43, Y9, Y20, Y15, Y27, Y48, Y2, Y4, Y6, Y8, Y10, Y53, Y54, Y55, Y56, Y57⟩ hb_ hon hoff
      refine ⟨_, rfl, fun K hK => ?_⟩
      have e26 : a.tmps[26]? = some (.string (rdOf ByteArray.empty t127 1)) := by rw [ha]; exact putSel_on (e := (6, 26, .string (rdOf ByteArray.empty t127 1))) 4 rfl rfl (hon 6 (by kernel_rfl)) rfl
      replace ha := Aside0.mk ha
      have HO130 := Aside0.mk Y22
      have BK126 := Aside0.mk Y0
      have HB := Aside0.mk Y21
      refine goes_ Try.func44 (by kernel_rfl) rfl #[.string (rdOf ByteArray.empty t127 1)] (by rfl) rfl rfl (by first | (simp only [List.map_toArray, List.map_cons, List.map_nil, Act.eval, Array.getD_eq_getD_getElem?, Option.getD_some, e26]; done) | (simp only [List.map_toArray, List.map_cons, List.map_nil, Act.eval, Array.getD_eq_getD_getElem?, Option.getD_some, e26]; rfl)) ?_
      with_reducible refine (wire_one.calls (rdOf ByteArray.empty t127 1) t135 t136 _ A7.out).mono ?_
      rintro e w21 ⟨rfl, hb⟩
      refine ⟨_, rfl, ?_⟩
      have n0_ := Aside0.mk (Kd.R_below (by (with_reducible repeat (first | apply Kd.R_alloc | apply Kd.R_drewN | apply Kd.R_drew)); exact HO130.out) hb)
      have n1_ := Aside0.mk (blk_below (g := gb126) (o := .cells #[.int .i64 0, .int .i64 0, .int .i64 0, .int .i64 0, .string (⟨#[]⟩ : ByteArray)] 29 (0, 0)) (by (with_reducible repeat (first | refine blk_drewN ?_ _ | refine blk_drew ?_ | refine blk_alloc ?_ _)); exact BK126.out) hb)
      have n2_ := Aside0.mk (below_step (by repeat (first | (with_reducible first | exact HB.out | apply below_alloc | apply pw_below_drewN | apply below_drew1 | refine below_set ?_ GE126.out) | exact HB.out)) hb)
      have Y58 := fun (h0_ : b 20 = true) (h1_ : b 25 = false) => (show w21.heap[gb146]? = some (.cells #[.int .i64 0, .bool false] 94 (0, 0)) from by first | exact (blk_below (g := gb146) (o := .cells #[.int .i64 0, .bool false] 94 (0, 0)) (by (with_reducible repeat (first | refine blk_drewN ?_ _ | refine blk_drew ?_ | refine blk_alloc ?_ _)); exact (Y1 h0_ h1_)) hb))
      have Y59 := fun (h0_ : b 21 = true) (h1_ : b 26 = false) => (show w21.heap[gb147]? = some (.cells #[.int .i64 0, .bool false] 94 (0, 0)) from by first | exact (blk_below (g := gb147) (o := .cells #[.int .i64 0, .bool false] 94 (0, 0)) (by (with_reducible repeat (first | refine blk_drewN ?_ _ | refine blk_drew ?_ | refine blk_alloc ?_ _)); exact (Y3 h0_ h1_)) hb))
      have Y60 := fun (h0_ : b 22 = true) (h1_ : b 27 = false) => (show w21.heap[gb148]? = some (.cells #[.int .i64 0, .bool false] 94 (0, 0)) from by first | exact (blk_below (g := gb148) (o := .cells #[.int .i64 0, .bool false] 94 (0, 0)) (by (with_reducible repeat (first | refine blk_drewN ?_ _ | refine blk_drew ?_ | refine blk_alloc ?_ _)); exact (Y5 h0_ h1_)) hb))
      have Y61 := fun (h0_ : b 23 = true) (h1_ : b 28 = false) => (show w21.heap[gb149]? = some (.cells #[.int .i64 0, .bool false] 94 (0, 0)) from by first | exact (blk_below (g := gb149) (o := .cells #[.int .i64 0, .bool false] 94 (0, 0)) (by (with_reducible repeat (first | refine blk_drewN ?_ _ | refine blk_drew ?_ | refine blk_alloc ?_ _)); exact (Y7 h0_ h1_)) hb))
      have Y62 := fun (h0_ : b 24 = true) (h1_ : b 29 = false) => (show w21.heap[gb150]? = some (.cells #[.string (⟨#[]⟩ : ByteArray), .bool false] 97 (0, 0)) from by first | exact (blk_below (g := gb150) (o := .cells #[.string (⟨#[]⟩ : ByteArray), .bool false] 97 (0, 0)) (by (with_reducible repeat (first | refine blk_drewN ?_ _ | refine blk_drew ?_ | refine blk_alloc ?_ _)); exact (Y9 h0_ h1_)) hb))
      clear HO130
      clear BK126
      clear HB
      have HO130 := n0_
      have BK126 := n1_
      have HB := n2_
      clear n0_ n1_ n2_
      (try clear hb)
      (try clear hb2)
      (try clear hk)
      (try clear hi)
      refine hK.out _ _ ⟨gb146, gb147, gb148, gb149, gb150, m20_, m21_, m22_, m23_, m24_, (by rw [ha.out]; exact putSel_upk 5 hb_ rfl rfl rfl), (by (with_reducible repeat (first | apply Kd.R_alloc | apply Kd.R_drewN | apply Kd.R_drew)); exact HO130.out), (by (with_reducible repeat (first | refine blk_drewN ?_ _ | refine blk_drew ?_ | refine blk_alloc ?_ _)); exact BK126.out), (by repeat (first | (with_reducible first | exact HB.out | apply below_alloc | apply pw_below_drewN | apply below_drew1 | refine below_set ?_ GE126.out) | exact HB.out)), Y34, Y29, Y39, Y30, Y44, Y31, Y49, Y32, Y40, Y35, Y45, Y36, Y50, Y37, Y46, Y41, Y51, Y42, Y52, Y47, Y58, Y16, Y11, Y23, Y28, Y59, Y17, Y12, Y24, Y33, Y60, Y18, Y13, Y25, Y38, Y61, Y19, Y14, Y26, Y43, Y62, Y20, Y15, Y27, Y48, fun h0_ => absurd ((hoff 25 (by kernel_rfl)).symm.trans h0_) (by decide), fun h0_ => absurd ((hoff 26 (by kernel_rfl)).symm.trans h0_) (by decide), fun h0_ => absurd ((hoff 27 (by kernel_rfl)).symm.trans h0_) (by decide), fun h0_ => absurd ((hoff 28 (by kernel_rfl)).symm.trans h0_) (by decide), fun h0_ => absurd ((hoff 29 (by kernel_rfl)).symm.trans h0_) (by decide), Y53, Y54, Y55, Y56, Y57⟩
    refine steps_cons ?_ ?_
    · rintro b a w' ⟨gb146, gb147, gb148, gb149, gb150, m20_, m21_, m22_, m23_, m24_, ha, Y22, Y0, Y21, Y34, Y29, Y39, Y30, Y44, Y31, Y49, Y32, Y40, Y35, Y45, Y36, Y50, Y37, Y46, Y41, Y51, Y42, Y52, Y47, Y1, Y16, Y11, Y23, Y28, Y3, Y17, Y12, Y24, Y33, Y5, Y18, Y13, Y25, Y38, Y7, Y19, Y14, Y26, Y43, Y9, Y20, Y15, Y27, Y48, Y2, Y4, Y6, Y8, Y10, Y53, Y54, Y55, Y56, Y57⟩ hb_ hon hoff
      refine ⟨_, rfl, fun K hK => ?_⟩
      have e28 : a.tmps[28]? = some (.slice (some ad131) t127.length co18) := by rw [ha]; exact (putSel_off rfl).trans rfl
      replace ha := Aside0.mk ha
      have HO130 := Aside0.mk Y22
      have BK126 := Aside0.mk Y0
      have HB := Aside0.mk Y21
      refine value_ (w1 := w') (v := .pointer (some (ad131.add 2))) (by rfl) rfl ?_ ?_
      · go_simp
        (try simp only [i64_w])
        try rfl
      refine hK.out _ _ ⟨gb146, gb147, gb148, gb149, gb150, m20_, m21_, m22_, m23_, m24_, (by rw [ha.out]; exact putSel_upk 6 hb_ rfl rfl rfl), Y22, Y0, Y21, Y34, Y29, Y39, Y30, Y44, Y31, Y49, Y32, Y40, Y35, Y45, Y36, Y50, Y37, Y46, Y41, Y51, Y42, Y52, Y47, Y1, Y16, Y11, Y23, Y28, Y3, Y17, Y12, Y24, Y33, Y5, Y18, Y13, Y25, Y38, Y7, Y19, Y14, Y26, Y43, Y9, Y20, Y15, Y27, Y48, fun h0_ => absurd ((hoff 25 (by kernel_rfl)).symm.trans h0_) (by decide), fun h0_ => absurd ((hoff 26 (by kernel_rfl)).symm.trans h0_) (by decide), fun h0_ => absurd ((hoff 27 (by kernel_rfl)).symm.trans h0_) (by decide), fun h0_ => absurd ((hoff 28 (by kernel_rfl)).symm.trans h0_) (by decide), fun h0_ => absurd ((hoff 29 (by kernel_rfl)).symm.trans h0_) (by decide), Y53, Y54, Y55, Y56, Y57⟩
    refine steps_cons ?_ ?_
    · rintro b a w' ⟨gb146, gb147, gb148, gb149, gb150, m20_, m21_, m22_, m23_, m24_, ha, Y22, Y0, Y21, Y34, Y29, Y39, Y30, Y44, Y31, Y49, Y32, Y40, Y35, Y45, Y36, Y50, Y37, Y46, Y41, Y51, Y42, Y52, Y47, Y1, Y16, Y11, Y23, Y28, Y3, Y17, Y12, Y24, Y33, Y5, Y18, Y13, Y25, Y38, Y7, Y19, Y14, Y26, Y43, Y9, Y20, Y15, Y27, Y48, Y2, Y4, Y6, Y8, Y10, Y53, Y54, Y55, Y56, Y57⟩ hb_ hon hoff
      refine ⟨_, rfl, fun K hK => ?_⟩
      have e29 : a.tmps[29]? = some (.pointer (some (ad131.add 2))) := by rw [ha]; exact putSel_on (e := (9, 29, .pointer (some (ad131.add 2)))) 6 rfl rfl (hon 9 (by kernel_rfl)) rfl
      replace ha := Aside0.mk ha
      have HO130 := Aside0.mk Y22
      have BK126 := Aside0.mk Y0
      have HB := Aside0.mk Y21
      obtain ⟨ad137_z, e137_z, hx137_0_z⟩ := Kd.at_string (Kd.R_reads' HO130.out).2.2 2 (of_eq_true p137) (of_eq_true q137)
      cases e137_z
      have hs2_ : w'.cell? ⟨ad131.block, ad131.off + 2, none⟩ = some (.string (rdOf ByteArray.empty t127 2)) := (by first | exact hx137_0_z | (have h_ := hx137_0_z; (try simp only [Int.reduceToNat, Nat.zero_mul, Nat.reduceMul, Nat.reduceEqDiff, Go.Addr.add, ↓reduceIte, Addr.add_zero'] at h_); exact h_))
      refine value_ (w1 := w') (v := .string (rdOf ByteArray.empty t127 2)) (by rfl) rfl ?_ ?_
      · go_simp
        (try simp only [i64_w])
        try rfl
      refine hK.out _ _ ⟨gb146, gb147, gb148, gb149, gb150, m20_, m21_, m22_, m23_, m24_, (by rw [ha.out]; exact putSel_upk 7 hb_ rfl rfl rfl), Y22, Y0, Y21, Y34, Y29, Y39, Y30, Y44, Y31, Y49, Y32, Y40, Y35, Y45, Y36, Y50, Y37, Y46, Y41, Y51, Y42, Y52, Y47, Y1, Y16, Y11, Y23, Y28, Y3, Y17, Y12, Y24, Y33, Y5, Y18, Y13, Y25, Y38, Y7, Y19, Y14, Y26, Y43, Y9, Y20, Y15, Y27, Y48, fun h0_ => absurd ((hoff 25 (by kernel_rfl)).symm.trans h0_) (by decide), fun h0_ => absurd ((hoff 26 (by kernel_rfl)).symm.trans h0_) (by decide), fun h0_ => absurd ((hoff 27 (by kernel_rfl)).symm.trans h0_) (by decide), fun h0_ => absurd ((hoff 28 (by kernel_rfl)).symm.trans h0_) (by decide), fun h0_ => absurd ((hoff 29 (by kernel_rfl)).symm.trans h0_) (by decide), Y53, Y54, Y55, Y56, Y57⟩
    refine steps_cons ?_ ?_
    · rintro b a w' ⟨gb146, gb147, gb148, gb149, gb150, m20_, m21_, m22_, m23_, m24_, ha, Y22, Y0, Y21, Y34, Y29, Y39, Y30, Y44, Y31, Y49, Y32, Y40, Y35, Y45, Y36, Y50, Y37, Y46, Y41, Y51, Y42, Y52, Y47, Y1, Y16, Y11, Y23, Y28, Y3, Y17, Y12, Y24, Y33, Y5, Y18, Y13, Y25, Y38, Y7, Y19, Y14, Y26, Y43, Y9, Y20, Y15, Y27, Y48, Y2, Y4, Y6, Y8, Y10, Y53, Y54, Y55, Y56, Y57⟩ hb_ hon hoff
      refine ⟨_, rfl, fun K hK => ?_⟩
      have e30 : a.tmps[30]? = some (.string (rdOf ByteArray.empty t127 2)) := by rw [ha]; exact putSel_on (e := (10, 30, .string (rdOf ByteArray.empty t127 2))) 7 rfl rfl (hon 10 (by kernel_rfl)) rfl
      replace ha := Aside0.mk ha
      have HO130 := Aside0.mk Y22
      have BK126 := Aside0.mk Y0
      have HB := Aside0.mk Y21
      refine goes_ Try.func44 (by kernel_rfl) rfl #[.string (rdOf ByteArray.empty t127 2)] (by rfl) rfl rfl (by first | (simp only [List.map_toArray, List.map_cons, List.map_nil, Act.eval, Array.getD_eq_getD_getElem?, Option.getD_some, e30]; done) | (simp only [List.map_toArray, List.map_cons, List.map_nil, Act.eval, Array.getD_eq_getD_getElem?, Option.getD_some, e30]; rfl)) ?_
      with_reducible refine (wire_one.calls (rdOf ByteArray.empty t127 2) t138 t139 _ A9.out).mono ?_
      rintro e w22 ⟨rfl, hb⟩
      refine ⟨_, rfl, ?_⟩
      have n0_ := Aside0.mk (Kd.R_below (by (with_reducible repeat (first | apply Kd.R_alloc | apply Kd.R_drewN | apply Kd.R_drew)); exact HO130.out) hb)
      have n1_ := Aside0.mk (blk_below (g := gb126) (o := .cells #[.int .i64 0, .int .i64 0, .int .i64 0, .int .i64 0, .string (⟨#[]⟩ : ByteArray)] 29 (0, 0)) (by (with_reducible repeat (first | refine blk_drewN ?_ _ | refine blk_drew ?_ | refine blk_alloc ?_ _)); exact BK126.out) hb)
      have n2_ := Aside0.mk (below_step (by repeat (first | (with_reducible first | exact HB.out | apply below_alloc | apply pw_below_drewN | apply below_drew1 | refine below_set ?_ GE126.out) | exact HB.out)) hb)
      have Y58 := fun (h0_ : b 20 = true) (h1_ : b 25 = false) => (show w22.heap[gb146]? = some (.cells #[.int .i64 0, .bool false] 94 (0, 0)) from by first | exact (blk_below (g := gb146) (o := .cells #[.int .i64 0, .bool false] 94 (0, 0)) (by (with_reducible repeat (first | refine blk_drewN ?_ _ | refine blk_drew ?_ | refine blk_alloc ?_ _)); exact (Y1 h0_ h1_)) hb))
      have Y59 := fun (h0_ : b 21 = true) (h1_ : b 26 = false) => (show w22.heap[gb147]? = some (.cells #[.int .i64 0, .bool false] 94 (0, 0)) from by first | exact (blk_below (g := gb147) (o := .cells #[.int .i64 0, .bool false] 94 (0, 0)) (by (with_reducible repeat (first | refine blk_drewN ?_ _ | refine blk_drew ?_ | refine blk_alloc ?_ _)); exact (Y3 h0_ h1_)) hb))
      have Y60 := fun (h0_ : b 22 = true) (h1_ : b 27 = false) => (show w22.heap[gb148]? = some (.cells #[.int .i64 0, .bool false] 94 (0, 0)) from by first | exact (blk_below (g := gb148) (o := .cells #[.int .i64 0, .bool false] 94 (0, 0)) (by (with_reducible repeat (first | refine blk_drewN ?_ _ | refine blk_drew ?_ | refine blk_alloc ?_ _)); exact (Y5 h0_ h1_)) hb))
      have Y61 := fun (h0_ : b 23 = true) (h1_ : b 28 = false) => (show w22.heap[gb149]? = some (.cells #[.int .i64 0, .bool false] 94 (0, 0)) from by first | exact (blk_below (g := gb149) (o := .cells #[.int .i64 0, .bool false] 94 (0, 0)) (by (with_reducible repeat (first | refine blk_drewN ?_ _ | refine blk_drew ?_ | refine blk_alloc ?_ _)); exact (Y7 h0_ h1_)) hb))
      have Y62 := fun (h0_ : b 24 = true) (h1_ : b 29 = false) => (show w22.heap[gb150]? = some (.cells #[.string (⟨#[]⟩ : ByteArray), .bool false] 97 (0, 0)) from by first | exact (blk_below (g := gb150) (o := .cells #[.string (⟨#[]⟩ : ByteArray), .bool false] 97 (0, 0)) (by (with_reducible repeat (first | refine blk_drewN ?_ _ | refine blk_drew ?_ | refine blk_alloc ?_ _)); exact (Y9 h0_ h1_)) hb))
      clear HO130
      clear BK126
      clear HB
      have HO130 := n0_
      have BK126 := n1_
      have HB := n2_
      clear n0_ n1_ n2_
      (try clear hb)
      (try clear hb2)
      (try clear hk)
      (try clear hi)
      refine hK.out _ _ ⟨gb146, gb147, gb148, gb149, gb150, m20_, m21_, m22_, m23_, m24_, (by rw [ha.out]; exact putSel_upk 8 hb_ rfl rfl rfl), (by (with_reducible repeat (first | apply Kd.R_alloc | apply Kd.R_drewN | apply Kd.R_drew)); exact HO130.out), (by (with_reducible repeat (first | refine blk_drewN ?_ _ | refine blk_drew ?_ | refine blk_alloc ?_ _)); exact BK126.out), (by repeat (first | (with_reducible first | exact HB.out | apply below_alloc | apply pw_below_drewN | apply below_drew1 | refine below_set ?_ GE126.out) | exact HB.out)), Y34, Y29, Y39, Y30, Y44, Y31, Y49, Y32, Y40, Y35, Y45, Y36, Y50, Y37, Y46, Y41, Y51, Y42, Y52, Y47, Y58, Y16, Y11, Y23, Y28, Y59, Y17, Y12, Y24, Y33, Y60, Y18, Y13, Y25, Y38, Y61, Y19, Y14, Y26, Y43, Y62, Y20, Y15, Y27, Y48, fun h0_ => absurd ((hoff 25 (by kernel_rfl)).symm.trans h0_) (by decide), fun h0_ => absurd ((hoff 26 (by kernel_rfl)).symm.trans h0_) (by decide), fun h0_ => absurd ((hoff 27 (by kernel_rfl)).symm.trans h0_) (by decide), fun h0_ => absurd ((hoff 28 (by kernel_rfl)).symm.trans h0_) (by decide), fun h0_ => absurd ((hoff 29 (by kernel_rfl)).symm.trans h0_) (by decide), Y53, Y54, Y55, Y56, Y57⟩
    refine steps_cons ?_ ?_
    · rintro b a w' ⟨gb146, gb147, gb148, gb149, gb150, m20_, m21_, m22_, m23_, m24_, ha, Y22, Y0, Y21, Y34, Y29, Y39, Y30, Y44, Y31, Y49, Y32, Y40, Y35, Y45, Y36, Y50, Y37, Y46, Y41, Y51, Y42, Y52, Y47, Y1, Y16, Y11, Y23, Y28, Y3, Y17, Y12, Y24, Y33, Y5, Y18, Y13, Y25, Y38, Y7, Y19, Y14, Y26, Y43, Y9, Y20, Y15, Y27, Y48, Y2, Y4, Y6, Y8, Y10, Y53, Y54, Y55, Y56, Y57⟩ hb_ hon hoff
      refine ⟨_, rfl, fun K hK => ?_⟩
      have e32 : a.tmps[32]? = some (.slice (some ad131) t127.length co18) := by rw [ha]; exact (putSel_off rfl).trans rfl
      replace ha := Aside0.mk ha
      have HO130 := Aside0.mk Y22
      have BK126 := Aside0.mk Y0
      have HB := Aside0.mk Y21
      refine value_ (w1 := w') (v := .pointer (some (ad131.add 3))) (by rfl) rfl ?_ ?_
      · go_simp
        (try simp only [i64_w])
        try rfl
      refine hK.out _ _ ⟨gb146, gb147, gb148, gb149, gb150, m20_, m21_, m22_, m23_, m24_, (by rw [ha.out]; exact putSel_upk 9 hb_ rfl rfl rfl), Y22, Y0, Y21, Y34, Y29, Y39, Y30, Y44, Y31, Y49, Y32, Y40, Y35, Y45, Y36, Y50, Y37, Y46, Y41, Y51, Y42, Y52, Y47, Y1, Y16, Y11, Y23, Y28, Y3, Y17, Y12, Y24, Y33, Y5, Y18, Y13, Y25, Y38, Y7, Y19, Y14, Y26, Y43, Y9, Y20, Y15, Y27, Y48, fun h0_ => absurd ((hoff 25 (by kernel_rfl)).symm.trans h0_) (by decide), fun h0_ => absurd ((hoff 26 (by kernel_rfl)).symm.trans h0_) (by decide), fun h0_ => absurd ((hoff 27 (by kernel_rfl)).symm.trans h0_) (by decide), fun h0_ => absurd ((hoff 28 (by kernel_rfl)).symm.trans h0_) (by decide), fun h0_ => absurd ((hoff 29 (by kernel_rfl)).symm.trans h0_) (by decide), Y53, Y54, Y55, Y56, Y57⟩
    refine steps_cons ?_ ?_
    · rintro b a w' ⟨gb146, gb147, gb148, gb149, gb150, m20_, m21_, m22_, m23_, m24_, ha, Y22, Y0, Y21, Y34, Y29, Y39, Y30, Y44, Y31, Y49, Y32, Y40, Y35, Y45, Y36, Y50, Y37, Y46, Y41, Y51, Y42, Y52, Y47, Y1, Y16, Y11, Y23, Y28, Y3, Y17, Y12, Y24, Y33, Y5, Y18, Y13, Y25, Y38, Y7, Y19, Y14, Y26, Y43, Y9, Y20, Y15, Y27, Y48, Y2, Y4, Y6, Y8, Y10, Y53, Y54, Y55, Y56, Y57⟩ hb_ hon hoff
      refine ⟨_, rfl, fun K hK => ?_⟩
      have e33 : a.tmps[33]? = some (.pointer (some (ad131.add 3))) := by rw [ha]; exact putSel_on (e := (13, 33, .pointer (some (ad131.add 3)))) 9 rfl rfl (hon 13 (by kernel_rfl)) rfl
      replace ha := Aside0.mk ha
      have HO130 := Aside0.mk Y22
      have BK126 := Aside0.mk Y0
      have HB := Aside0.mk Y21
      obtain ⟨ad140_z, e140_z, hx140_0_z⟩ := Kd.at_string (Kd.R_reads' HO130.out).2.2 3 (of_eq_true p140) (of_eq_true q140)
      cases e140_z
      have hs3_ : w'.cell? ⟨ad131.block, ad131.off + 3, none⟩ = some (.string (rdOf ByteArray.empty t127 3)) := (by first | exact hx140_0_z | (have h_ := hx140_0_z; (try simp only [Int.reduceToNat, Nat.zero_mul, Nat.reduceMul, Nat.reduceEqDiff, Go.Addr.add, ↓reduceIte, Addr.add_zero'] at h_); exact h_))
      refine value_ (w1 := w') (v := .string (rdOf ByteArray.empty t127 3)) (by rfl) rfl ?_ ?_
      · go_simp
        (try simp only [i64_w])
        try rfl
      refine hK.out _ _ ⟨gb146, gb147, gb148, gb149, gb150, m20_, m21_, m22_, m23_, m24_, (by rw [ha.out]; exact putSel_upk 10 hb_ rfl rfl rfl), Y22, Y0, Y21, Y34, Y29, Y39, Y30, Y44, Y31, Y49, Y32, Y40, Y35, Y45, Y36, Y50, Y37, Y46, Y41, Y51, Y42, Y52, Y47, Y1, Y16, Y11, Y23, Y28, Y3, Y17, Y12, Y24, Y33, Y5, Y18, Y13, Y25, Y38, Y7, Y19, Y14, Y26, Y43, Y9, Y20, Y15, Y27, Y48, fun h0_ => absurd ((hoff 25 (by kernel_rfl)).symm.trans h0_) (by decide), fun h0_ => absurd ((hoff 26 (by kernel_rfl)).symm.trans h0_) (by decide), fun h0_ => absurd ((hoff 27 (by kernel_rfl)).symm.trans h0_) (by decide), fun h0_ => absurd ((hoff 28 (by kernel_rfl)).symm.trans h0_) (by decide), fun h0_ => absurd ((hoff 29 (by kernel_rfl)).symm.trans h0_) (by decide), Y53, Y54, Y55, Y56, Y57⟩
    refine steps_cons ?_ ?_
    · rintro b a w' ⟨gb146, gb147, gb148, gb149, gb150, m20_, m21_, m22_, m23_, m24_, ha, Y22, Y0, Y21, Y34, Y29, Y39, Y30, Y44, Y31, Y49, Y32, Y40, Y35, Y45, Y36, Y50, Y37, Y46, Y41, Y51, Y42, Y52, Y47, Y1, Y16, Y11, Y23, Y28, Y3, Y17, Y12, Y24, Y33, Y5, Y18, Y13, Y25, Y38, Y7, Y19, Y14, Y26, Y43, Y9, Y20, Y15, Y27, Y48, Y2, Y4, Y6, Y8, Y10, Y53, Y54, Y55, Y56, Y57⟩ hb_ hon hoff
      refine ⟨_, rfl, fun K hK => ?_⟩
      have e34 : a.tmps[34]? = some (.string (rdOf ByteArray.empty t127 3)) := by rw [ha]; exact putSel_on (e := (14, 34, .string (rdOf ByteArray.empty t127 3))) 10 rfl rfl (hon 14 (by kernel_rfl)) rfl
      replace ha := Aside0.mk ha
      have HO130 := Aside0.mk Y22
      have BK126 := Aside0.mk Y0
      have HB := Aside0.mk Y21
      refine goes_ Try.func44 (by kernel_rfl) rfl #[.string (rdOf ByteArray.empty t127 3)] (by rfl) rfl rfl (by first | (simp only [List.map_toArray, List.map_cons, List.map_nil, Act.eval, Array.getD_eq_getD_getElem?, Option.getD_some, e34]; done) | (simp only [List.map_toArray, List.map_cons, List.map_nil, Act.eval, Array.getD_eq_getD_getElem?, Option.getD_some, e34]; rfl)) ?_
      with_reducible refine (wire_one.calls (rdOf ByteArray.empty t127 3) t141 t142 _ A11.out).mono ?_
      rintro e w23 ⟨rfl, hb⟩
      refine ⟨_, rfl, ?_⟩
      have n0_ := Aside0.mk (Kd.R_below (by (with_reducible repeat (first | apply Kd.R_alloc | apply Kd.R_drewN | apply Kd.R_drew)); exact HO130.out) hb)
      have n1_ := Aside0.mk (blk_below (g := gb126) (o := .cells #[.int .i64 0, .int .i64 0, .int .i64 0, .int .i64 0, .string (⟨#[]⟩ : ByteArray)] 29 (0, 0)) (by (with_reducible repeat (first | refine blk_drewN ?_ _ | refine blk_drew ?_ | refine blk_alloc ?_ _)); exact BK126.out) hb)
      have n2_ := Aside0.mk (below_step (by repeat (first | (with_reducible first | exact HB.out | apply below_alloc | apply pw_below_drewN | apply below_drew1 | refine below_set ?_ GE126.out) | exact HB.out)) hb)
      have Y58 := fun (h0_ : b 20 = true) (h1_ : b 25 = false) => (show w23.heap[gb146]? = some (.cells #[.int .i64 0, .bool false] 94 (0, 0)) from by first | exact (blk_below (g := gb146) (o := .cells #[.int .i64 0, .bool false] 94 (0, 0)) (by (with_reducible repeat (first | refine blk_drewN ?_ _ | refine blk_drew ?_ | refine blk_alloc ?_ _)); exact (Y1 h0_ h1_)) hb))
      have Y59 := fun (h0_ : b 21 = true) (h1_ : b 26 = false) => (show w23.heap[gb147]? = some (.cells #[.int .i64 0, .bool false] 94 (0, 0)) from by first | exact (blk_below (g := gb147) (o := .cells #[.int .i64 0, .bool false] 94 (0, 0)) (by (with_reducible repeat (first | refine blk_drewN ?_ _ | refine blk_drew ?_ | refine blk_alloc ?_ _)); exact (Y3 h0_ h1_)) hb))
      have Y60 := fun (h0_ : b 22 = true) (h1_ : b 27 = false) => (show w23.heap[gb148]? = some (.cells #[.int .i64 0, .bool false] 94 (0, 0)) from by first | exact (blk_below (g := gb148) (o := .cells #[.int .i64 0, .bool false] 94 (0, 0)) (by (with_reducible repeat (first | refine blk_drewN ?_ _ | refine blk_drew ?_ | refine blk_alloc ?_ _)); exact (Y5 h0_ h1_)) hb))
      have Y61 := fun (h0_ : b 23 = true) (h1_ : b 28 = false) => (show w23.heap[gb149]? = some (.cells #[.int .i64 0, .bool false] 94 (0, 0)) from by first | exact (blk_below (g := gb149) (o := .cells #[.int .i64 0, .bool false] 94 (0, 0)) (by (with_reducible repeat (first | refine blk_drewN ?_ _ | refine blk_drew ?_ | refine blk_alloc ?_ _)); exact (Y7 h0_ h1_)) hb))
      have Y62 := fun (h0_ : b 24 = true) (h1_ : b 29 = false) => (show w23.heap[gb150]? = some (.cells #[.string (⟨#[]⟩ : ByteArray), .bool false] 97 (0, 0)) from by first | exact (blk_below (g := gb150) (o := .cells #[.string (⟨#[]⟩ : ByteArray), .bool false] 97 (0, 0)) (by (with_reducible repeat (first | refine blk_drewN ?_ _ | refine blk_drew ?_ | refine blk_alloc ?_ _)); exact (Y9 h0_ h1_)) hb))
      clear HO130
      clear BK126
      clear HB
      have HO130 := n0_
      have BK126 := n1_
      have HB := n2_
      clear n0_ n1_ n2_
      (try clear hb)
      (try clear hb2)
      (try clear hk)
      (try clear hi)
      refine hK.out _ _ ⟨gb146, gb147, gb148, gb149, gb150, m20_, m21_, m22_, m23_, m24_, (by rw [ha.out]; exact putSel_upk 11 hb_ rfl rfl rfl), (by (with_reducible repeat (first | apply Kd.R_alloc | apply Kd.R_drewN | apply Kd.R_drew)); exact HO130.out), (by (with_reducible repeat (first | refine blk_drewN ?_ _ | refine blk_drew ?_ | refine blk_alloc ?_ _)); exact BK126.out), (by repeat (first | (with_reducible first | exact HB.out | apply below_alloc | apply pw_below_drewN | apply below_drew1 | refine below_set ?_ GE126.out) | exact HB.out)), Y34, Y29, Y39, Y30, Y44, Y31, Y49, Y32, Y40, Y35, Y45, Y36, Y50, Y37, Y46, Y41, Y51, Y42, Y52, Y47, Y58, Y16, Y11, Y23, Y28, Y59, Y17, Y12, Y24, Y33, Y60, Y18, Y13, Y25, Y38, Y61, Y19, Y14, Y26, Y43, Y62, Y20, Y15, Y27, Y48, fun h0_ => absurd ((hoff 25 (by kernel_rfl)).symm.trans h0_) (by decide), fun h0_ => absurd ((hoff 26 (by kernel_rfl)).symm.trans h0_) (by decide), fun h0_ => absurd ((hoff 27 (by kernel_rfl)).symm.trans h0_) (by decide), fun h0_ => absurd ((hoff 28 (by kernel_rfl)).symm.trans h0_) (by decide), fun h0_ => absurd ((hoff 29 (by kernel_rfl)).symm.trans h0_) (by decide), Y53, Y54, Y55, Y56, Y57⟩
    refine steps_cons ?_ ?_
    · rintro b a w' ⟨gb146, gb147, gb148, gb149, gb150, m20_, m21_, m22_, m23_, m24_, ha, Y22, Y0, Y21, Y34, Y29, Y39, Y30, Y44, Y31, Y49, Y32, Y40, Y35, Y45, Y36, Y50, Y37, Y46, Y41, Y51, Y42, Y52, Y47, Y1, Y16, Y11, Y23, Y28, Y3, Y17, Y12, Y24, Y33, Y5, Y18, Y13, Y25, Y38, Y7, Y19, Y14, Y26, Y43, Y9, Y20, Y15, Y27, Y48, Y2, Y4, Y6, Y8, Y10, Y53, Y54, Y55, Y56, Y57⟩ hb_ hon hoff
      refine ⟨_, rfl, fun K hK => ?_⟩
      have e36 : a.tmps[36]? = some (.slice (some ad131) t127.length co18) := by rw [ha]; exact (putSel_off rfl).trans rfl
      replace ha := Aside0.mk ha
      have HO130 := Aside0.mk Y22
      have BK126 := Aside0.mk Y0
      have HB := Aside0.mk Y21
      refine value_ (w1 := w') (v := .pointer (some (ad131.add 4))) (by rfl) rfl ?_ ?_
      · go_simp
        (try simp only [i64_w])
        try rfl
      refine hK.out _ _ ⟨gb146, gb147, gb148, gb149, gb150, m20_, m21_, m22_, m23_, m24_, (by rw [ha.out]; exact putSel_upk 12 hb_ rfl rfl rfl), Y22, Y0, Y21, Y34, Y29, Y39, Y30, Y44, Y31, Y49, Y32, Y40, Y35, Y45, Y36, Y50, Y37, Y46, Y41, Y51, Y42, Y52, Y47, Y1, Y16, Y11, Y23, Y28, Y3, Y17, Y12, Y24, Y33, Y5, Y18, Y13, Y25, Y38, Y7, Y19, Y14, Y26, Y43, Y9, Y20, Y15, Y27, Y48, fun h0_ => absurd ((hoff 25 (by kernel_rfl)).symm.trans h0_) (by decide), fun h0_ => absurd ((hoff 26 (by kernel_rfl)).symm.trans h0_) (by decide), fun h0_ => absurd ((hoff 27 (by kernel_rfl)).symm.trans h0_) (by decide), fun h0_ => absurd ((hoff 28 (by kernel_rfl)).symm.trans h0_) (by decide), fun h0_ => absurd ((hoff 29 (by kernel_rfl)).symm.trans h0_) (by decide), Y53, Y54, Y55, Y56, Y57⟩
    refine steps_cons ?_ ?_
    · rintro b a w' ⟨gb146, gb147, gb148, gb149, gb150, m20_, m21_, m22_, m23_, m24_, ha, Y22, Y0, Y21, Y34, Y29, Y39, Y30, Y44, Y31, Y49, Y32, Y40, Y35, Y45, Y36, Y50, Y37, Y46, Y41, Y51, Y42, Y52, Y47, Y1, Y16, Y11, Y23, Y28, Y3, Y17, Y12, Y24, Y33, Y5, Y18, Y13, Y25, Y38, Y7, Y19, Y14, Y26, Y43, Y9, Y20, Y15, Y27, Y48, Y2, Y4, Y6, Y8, Y10, Y53, Y54, Y55, Y56, Y57⟩ hb_ hon hoff
      refine ⟨_, rfl, fun K hK => ?_⟩
      have e37 : a.tmps[37]? = some (.pointer (some (ad131.add 4))) := by rw [ha]; exact putSel_on (e := (17, 37, .pointer (some (ad131.add 4)))) 12 rfl rfl (hon 17 (by kernel_rfl)) rfl
      replace ha := Aside0.mk ha
      have HO130 := Aside0.mk Y22
      have BK126 := Aside0.mk Y0
      have HB := Aside0.mk Y21
      obtain ⟨ad143_z, e143_z, hx143_0_z⟩ := Kd.at_string (Kd.R_reads' HO130.out).2.2 4 (of_eq_true p143) (of_eq_true q143)
      cases e143_z
      have hs4_ : w'.cell? ⟨ad131.block, ad131.off + 4, none⟩ = some (.string (rdOf ByteArray.empty t127 4)) := (by first | exact hx143_0_z | (have h_ := hx143_0_z; (try simp only [Int.reduceToNat, Nat.zero_mul, Nat.reduceMul, Nat.reduceEqDiff, Go.Addr.add, ↓reduceIte, Addr.add_zero'] at h_); exact h_))
      refine value_ (w1 := w') (v := .string (rdOf ByteArray.empty t127 4)) (by rfl) rfl ?_ ?_
      · go_simp
        (try simp only [i64_w])
        try rfl
      refine hK.out _ _ ⟨gb146, gb147, gb148, gb149, gb150, m20_, m21_, m22_, m23_, m24_, (by rw [ha.out]; exact putSel_upk 13 hb_ rfl rfl rfl), Y22, Y0, Y21, Y34, Y29, Y39, Y30, Y44, Y31, Y49, Y32, Y40, Y35, Y45, Y36, Y50, Y37, Y46, Y41, Y51, Y42, Y52, Y47, Y1, Y16, Y11, Y23, Y28, Y3, Y17, Y12, Y24, Y33, Y5, Y18, Y13, Y25, Y38, Y7, Y19, Y14, Y26, Y43, Y9, Y20, Y15, Y27, Y48, fun h0_ => absurd ((hoff 25 (by kernel_rfl)).symm.trans h0_) (by decide), fun h0_ => absurd ((hoff 26 (by kernel_rfl)).symm.trans h0_) (by decide), fun h0_ => absurd ((hoff 27 (by kernel_rfl)).symm.trans h0_) (by decide), fun h0_ => absurd ((hoff 28 (by kernel_rfl)).symm.trans h0_) (by decide), fun h0_ => absurd ((hoff 29 (by kernel_rfl)).symm.trans h0_) (by decide), Y53, Y54, Y55, Y56, Y57⟩
    refine steps_cons ?_ ?_
    · rintro b a w' ⟨gb146, gb147, gb148, gb149, gb150, m20_, m21_, m22_, m23_, m24_, ha, Y22, Y0, Y21, Y34, Y29, Y39, Y30, Y44, Y31, Y49, Y32, Y40, Y35, Y45, Y36, Y50, Y37, Y46, Y41, Y51, Y42, Y52, Y47, Y1, Y16, Y11, Y23, Y28, Y3, Y17, Y12, Y24, Y33, Y5, Y18, Y13, Y25, Y38, Y7, Y19, Y14, Y26, Y43, Y9, Y20, Y15, Y27, Y48, Y2, Y4, Y6, Y8, Y10, Y53, Y54, Y55, Y56, Y57⟩ hb_ hon hoff
      refine ⟨_, rfl, fun K hK => ?_⟩
      have e38 : a.tmps[38]? = some (.string (rdOf ByteArray.empty t127 4)) := by rw [ha]; exact putSel_on (e := (18, 38, .string (rdOf ByteArray.empty t127 4))) 13 rfl rfl (hon 18 (by kernel_rfl)) rfl
      replace ha := Aside0.mk ha
      have HO130 := Aside0.mk Y22
      have BK126 := Aside0.mk Y0
      have HB := Aside0.mk Y21
      refine goes_ Try.func45 (by kernel_rfl) rfl #[.string (rdOf ByteArray.empty t127 4)] (by rfl) rfl rfl (by first | (simp only [List.map_toArray, List.map_cons, List.map_nil, Act.eval, Array.getD_eq_getD_getElem?, Option.getD_some, e38]; done) | (simp only [List.map_toArray, List.map_cons, List.map_nil, Act.eval, Array.getD_eq_getD_getElem?, Option.getD_some, e38]; rfl)) ?_
      with_reducible refine (wire_text.calls (rdOf ByteArray.empty t127 4) t144 t145 _ A13.out).mono ?_
      rintro e w24 ⟨rfl, hb⟩
      refine ⟨_, rfl, ?_⟩
      have n0_ := Aside0.mk (Kd.R_below (by (with_reducible repeat (first | apply Kd.R_alloc | apply Kd.R_drewN | apply Kd.R_drew)); exact HO130.out) hb)
      have n1_ := Aside0.mk (blk_below (g := gb126) (o := .cells #[.int .i64 0, .int .i64 0, .int .i64 0, .int .i64 0, .string (⟨#[]⟩ : ByteArray)] 29 (0, 0)) (by (with_reducible repeat (first | refine blk_drewN ?_ _ | refine blk_drew ?_ | refine blk_alloc ?_ _)); exact BK126.out) hb)
      have n2_ := Aside0.mk (below_step (by repeat (first | (with_reducible first | exact HB.out | apply below_alloc | apply pw_below_drewN | apply below_drew1 | refine below_set ?_ GE126.out) | exact HB.out)) hb)
      have Y58 := fun (h0_ : b 20 = true) (h1_ : b 25 = false) => (show w24.heap[gb146]? = some (.cells #[.int .i64 0, .bool false] 94 (0, 0)) from by first | exact (blk_below (g := gb146) (o := .cells #[.int .i64 0, .bool false] 94 (0, 0)) (by (with_reducible repeat (first | refine blk_drewN ?_ _ | refine blk_drew ?_ | refine blk_alloc ?_ _)); exact (Y1 h0_ h1_)) hb))
      have Y59 := fun (h0_ : b 21 = true) (h1_ : b 26 = false) => (show w24.heap[gb147]? = some (.cells #[.int .i64 0, .bool false] 94 (0, 0)) from by first | exact (blk_below (g := gb147) (o := .cells #[.int .i64 0, .bool false] 94 (0, 0)) (by (with_reducible repeat (first | refine blk_drewN ?_ _ | refine blk_drew ?_ | refine blk_alloc ?_ _)); exact (Y3 h0_ h1_)) hb))
      have Y60 := fun (h0_ : b 22 = true) (h1_ : b 27 = false) => (show w24.heap[gb148]? = some (.cells #[.int .i64 0, .bool false] 94 (0, 0)) from by first | exact (blk_below (g := gb148) (o := .cells #[.int .i64 0, .bool false] 94 (0, 0)) (by (with_reducible repeat (first | refine blk_drewN ?_ _ | refine blk_drew ?_ | refine blk_alloc ?_ _)); exact (Y5 h0_ h1_)) hb))
      have Y61 := fun (h0_ : b 23 = true) (h1_ : b 28 = false) => (show w24.heap[gb149]? = some (.cells #[.int .i64 0, .bool false] 94 (0, 0)) from by first | exact (blk_below (g := gb149) (o := .cells #[.int .i64 0, .bool false] 94 (0, 0)) (by (with_reducible repeat (first | refine blk_drewN ?_ _ | refine blk_drew ?_ | refine blk_alloc ?_ _)); exact (Y7 h0_ h1_)) hb))
      have Y62 := fun (h0_ : b 24 = true) (h1_ : b 29 = false) => (show w24.heap[gb150]? = some (.cells #[.string (⟨#[]⟩ : ByteArray), .bool false] 97 (0, 0)) from by first | exact (blk_below (g := gb150) (o := .cells #[.string (⟨#[]⟩ : ByteArray), .bool false] 97 (0, 0)) (by (with_reducible repeat (first | refine blk_drewN ?_ _ | refine blk_drew ?_ | refine blk_alloc ?_ _)); exact (Y9 h0_ h1_)) hb))
      clear HO130
      clear BK126
      clear HB
      have HO130 := n0_
      have BK126 := n1_
      have HB := n2_
      clear n0_ n1_ n2_
      (try clear hb)
      (try clear hb2)
      (try clear hk)
      (try clear hi)
      refine hK.out _ _ ⟨gb146, gb147, gb148, gb149, gb150, m20_, m21_, m22_, m23_, m24_, (by rw [ha.out]; exact putSel_upk 14 hb_ rfl rfl rfl), (by (with_reducible repeat (first | apply Kd.R_alloc | apply Kd.R_drewN | apply Kd.R_drew)); exact HO130.out), (by (with_reducible repeat (first | refine blk_drewN ?_ _ | refine blk_drew ?_ | refine blk_alloc ?_ _)); exact BK126.out), (by repeat (first | (with_reducible first | exact HB.out | apply below_alloc | apply pw_below_drewN | apply below_drew1 | refine below_set ?_ GE126.out) | exact HB.out)), Y34, Y29, Y39, Y30, Y44, Y31, Y49, Y32, Y40, Y35, Y45, Y36, Y50, Y37, Y46, Y41, Y51, Y42, Y52, Y47, Y58, Y16, Y11, Y23, Y28, Y59, Y17, Y12, Y24, Y33, Y60, Y18, Y13, Y25, Y38, Y61, Y19, Y14, Y26, Y43, Y62, Y20, Y15, Y27, Y48, fun h0_ => absurd ((hoff 25 (by kernel_rfl)).symm.trans h0_) (by decide), fun h0_ => absurd ((hoff 26 (by kernel_rfl)).symm.trans h0_) (by decide), fun h0_ => absurd ((hoff 27 (by kernel_rfl)).symm.trans h0_) (by decide), fun h0_ => absurd ((hoff 28 (by kernel_rfl)).symm.trans h0_) (by decide), fun h0_ => absurd ((hoff 29 (by kernel_rfl)).symm.trans h0_) (by decide), Y53, Y54, Y55, Y56, Y57⟩
    refine steps_cons ?_ ?_
    · rintro b a w' ⟨gb146, gb147, gb148, gb149, gb150, m20_, m21_, m22_, m23_, m24_, ha, Y22, Y0, Y21, Y34, Y29, Y39, Y30, Y44, Y31, Y49, Y32, Y40, Y35, Y45, Y36, Y50, Y37, Y46, Y41, Y51, Y42, Y52, Y47, Y1, Y16, Y11, Y23, Y28, Y3, Y17, Y12, Y24, Y33, Y5, Y18, Y13, Y25, Y38, Y7, Y19, Y14, Y26, Y43, Y9, Y20, Y15, Y27, Y48, Y2, Y4, Y6, Y8, Y10, Y53, Y54, Y55, Y56, Y57⟩ hb_ hon hoff
      refine ⟨_, rfl, fun K hK => ?_⟩
      replace ha := Aside0.mk ha
      have HO130 := Aside0.mk Y22
      have BK126 := Aside0.mk Y0
      have HB := Aside0.mk Y21
      refine box_step ?hg (N := 6) ?hd (cs := #[.int .i64 0, .bool false]) (t := 94) ?hr ?_; (case hd => rfl); (case hg => rfl); (case hr => first | (go_simp; done) | (go_simp; rfl))
      intro gb146 hg w19 hbox hb
      have n0_ := Aside0.mk (Kd.R_below (by (with_reducible repeat (first | apply Kd.R_alloc | apply Kd.R_drewN | apply Kd.R_drew)); exact HO130.out) hb)
      have n1_ := Aside0.mk (blk_below (g := gb126) (o := .cells #[.int .i64 0, .int .i64 0, .int .i64 0, .int .i64 0, .string (⟨#[]⟩ : ByteArray)] 29 (0, 0)) (by (with_reducible repeat (first | refine blk_drewN ?_ _ | refine blk_drew ?_ | refine blk_alloc ?_ _)); exact BK126.out) hb)
      have n2_ := Aside0.mk (below_step (by repeat (first | (with_reducible first | exact HB.out | apply below_alloc | apply pw_below_drewN | apply below_drew1 | refine below_set ?_ GE126.out) | exact HB.out)) hb)
      have n3_ := Aside0.mk (hbox)
      have n4_ := Aside0.mk ((by rw [hg]; exact (below_size (by repeat (first | (with_reducible first | exact HB.out | apply below_alloc | apply pw_below_drewN | apply below_drew1 | refine below_set ?_ GE126.out) | exact HB.out))) : w.heap.size ≤ gb146))
      have n5_ := Aside0.mk ((by rw [hg]; exact (below_size (by repeat (first | (with_reducible first | exact HB.out | apply below_alloc | apply pw_below_drewN | apply below_drew1 | refine below_set ?_ GE126.out) | exact HB.out))) : w.heap.size ≤ gb146))
      have n6_ := Aside0.mk ((by rw [hg]; exact Nat.ne_of_lt (blk_lt (g := gb126) (o := .cells #[.int .i64 0, .int .i64 0, .int .i64 0, .int .i64 0, .string (⟨#[]⟩ : ByteArray)] 29 (0, 0)) (by (with_reducible repeat (first | refine blk_drewN ?_ _ | refine blk_drew ?_ | refine blk_alloc ?_ _)); exact BK126.out)) : gb126 ≠ gb146))
      have n7_ := Aside0.mk ((by rw [hg]; exact Nat.ne_of_gt (blk_lt (g := gb126) (o := .cells #[.int .i64 0, .int .i64 0, .int .i64 0, .int .i64 0, .string (⟨#[]⟩ : ByteArray)] 29 (0, 0)) (by (with_reducible repeat (first | refine blk_drewN ?_ _ | refine blk_drew ?_ | refine blk_alloc ?_ _)); exact BK126.out)) : gb146 ≠ gb126))
      have Y67 := fun (h0_ : up b 20 20 = true) (h1_ : up b 20 21 = true) => (show gb147 ≠ gb146 from ((by rw [hg]; exact Nat.ne_of_lt (blk_lt (g := gb147) (o := .cells #[.int .i64 0, .bool false] 94 (0, 0)) (by (with_reducible repeat (first | refine blk_drewN ?_ _ | refine blk_drew ?_ | refine blk_alloc ?_ _)); exact (Y3 h1_ (hoff 26 (by kernel_rfl))))) : gb147 ≠ gb146)))
      have Y63 := fun (h0_ : up b 20 20 = true) (h1_ : up b 20 21 = true) => (show gb146 ≠ gb147 from ((by rw [hg]; exact Nat.ne_of_gt (blk_lt (g := gb147) (o := .cells #[.int .i64 0, .bool false] 94 (0, 0)) (by (with_reducible repeat (first | refine blk_drewN ?_ _ | refine blk_drew ?_ | refine blk_alloc ?_ _)); exact (Y3 h1_ (hoff 26 (by kernel_rfl))))) : gb146 ≠ gb147)))
      have Y71 := fun (h0_ : up b 20 20 = true) (h1_ : up b 20 22 = true) => (show gb148 ≠ gb146 from ((by rw [hg]; exact Nat.ne_of_lt (blk_lt (g := gb148) (o := .cells #[.int .i64 0, .bool false] 94 (0, 0)) (by (with_reducible repeat (first | refine blk_drewN ?_ _ | refine blk_drew ?_ | refine blk_alloc ?_ _)); exact (Y5 h1_ (hoff 27 (by kernel_rfl))))) : gb148 ≠ gb146)))
      have Y64 := fun (h0_ : up b 20 20 = true) (h1_ : up b 20 22 = true) => (show gb146 ≠ gb148 from ((by rw [hg]; exact Nat.ne_of_gt (blk_lt (g := gb148) (o := .cells #[.int .i64 0, .bool false] 94 (0, 0)) (by (with_reducible repeat (first | refine blk_drewN ?_ _ | refine blk_drew ?_ | refine blk_alloc ?_ _)); exact (Y5 h1_ (hoff 27 (by kernel_rfl))))) : gb146 ≠ gb148)))
      have Y75 := fun (h0_ : up b 20 20 = true) (h1_ : up b 20 23 = true) => (show gb149 ≠ gb146 from ((by rw [hg]; exact Nat.ne_of_lt (blk_lt (g := gb149) (o := .cells #[.int .i64 0, .bool false] 94 (0, 0)) (by (with_reducible repeat (first | refine blk_drewN ?_ _ | refine blk_drew ?_ | refine blk_alloc ?_ _)); exact (Y7 h1_ (hoff 28 (by kernel_rfl))))) : gb149 ≠ gb146)))
      have Y65 := fun (h0_ : up b 20 20 = true) (h1_ : up b 20 23 = true) => (show gb146 ≠ gb149 from ((by rw [hg]; exact Nat.ne_of_gt (blk_lt (g := gb149) (o := .cells #[.int .i64 0, .bool false] 94 (0, 0)) (by (with_reducible repeat (first | refine blk_drewN ?_ _ | refine blk_drew ?_ | refine blk_alloc ?_ _)); exact (Y7 h1_ (hoff 28 (by kernel_rfl))))) : gb146 ≠ gb149)))
      have Y79 := fun (h0_ : up b 20 20 = true) (h1_ : up b 20 24 = true) => (show gb150 ≠ gb146 from ((by rw [hg]; exact Nat.ne_of_lt (blk_lt (g := gb150) (o := .cells #[.string (⟨#[]⟩ : ByteArray), .bool false] 97 (0, 0)) (by (with_reducible repeat (first | refine blk_drewN ?_ _ | refine blk_drew ?_ | refine blk_alloc ?_ _)); exact (Y9 h1_ (hoff 29 (by kernel_rfl))))) : gb150 ≠ gb146)))
      have Y66 := fun (h0_ : up b 20 20 = true) (h1_ : up b 20 24 = true) => (show gb146 ≠ gb150 from ((by rw [hg]; exact Nat.ne_of_gt (blk_lt (g := gb150) (o := .cells #[.string (⟨#[]⟩ : ByteArray), .bool false] 97 (0, 0)) (by (with_reducible repeat (first | refine blk_drewN ?_ _ | refine blk_drew ?_ | refine blk_alloc ?_ _)); exact (Y9 h1_ (hoff 29 (by kernel_rfl))))) : gb146 ≠ gb150)))
      have Y59 := fun (h0_ : b 21 = true) (h1_ : b 26 = false) => (show w19.heap[gb147]? = some (.cells #[.int .i64 0, .bool false] 94 (0, 0)) from by first | exact (blk_below (g := gb147) (o := .cells #[.int .i64 0, .bool false] 94 (0, 0)) (by (with_reducible repeat (first | refine blk_drewN ?_ _ | refine blk_drew ?_ | refine blk_alloc ?_ _)); exact (Y3 h0_ h1_)) hb))
      have Y60 := fun (h0_ : b 22 = true) (h1_ : b 27 = false) => (show w19.heap[gb148]? = some (.cells #[.int .i64 0, .bool false] 94 (0, 0)) from by first | exact (blk_below (g := gb148) (o := .cells #[.int .i64 0, .bool false] 94 (0, 0)) (by (with_reducible repeat (first | refine blk_drewN ?_ _ | refine blk_drew ?_ | refine blk_alloc ?_ _)); exact (Y5 h0_ h1_)) hb))
      have Y61 := fun (h0_ : b 23 = true) (h1_ : b 28 = false) => (show w19.heap[gb149]? = some (.cells #[.int .i64 0, .bool false] 94 (0, 0)) from by first | exact (blk_below (g := gb149) (o := .cells #[.int .i64 0, .bool false] 94 (0, 0)) (by (with_reducible repeat (first | refine blk_drewN ?_ _ | refine blk_drew ?_ | refine blk_alloc ?_ _)); exact (Y7 h0_ h1_)) hb))
      have Y62 := fun (h0_ : b 24 = true) (h1_ : b 29 = false) => (show w19.heap[gb150]? = some (.cells #[.string (⟨#[]⟩ : ByteArray), .bool false] 97 (0, 0)) from by first | exact (blk_below (g := gb150) (o := .cells #[.string (⟨#[]⟩ : ByteArray), .bool false] 97 (0, 0)) (by (with_reducible repeat (first | refine blk_drewN ?_ _ | refine blk_drew ?_ | refine blk_alloc ?_ _)); exact (Y9 h0_ h1_)) hb))
      clear HO130
      clear BK126
      clear HB
      have HO130 := n0_
      have BK126 := n1_
      have HB := n2_
      have BK146 := n3_
      have GW146 := n4_
      have GE146 := n5_
      have NB126_146 := n6_
      have NB146_126 := n7_
      clear n0_ n1_ n2_ n3_ n4_ n5_ n6_ n7_
      clear hb hbox hg
      refine hK.out _ _ ⟨gb146, gb147, gb148, gb149, gb150, (.pointer (some ⟨gb146, 0, none⟩)), m21_, m22_, m23_, m24_, (by rw [ha.out]; exact putSel_upk 15 hb_ rfl rfl rfl), (by (with_reducible repeat (first | apply Kd.R_alloc | apply Kd.R_drewN | apply Kd.R_drew)); exact HO130.out), (by (with_reducible repeat (first | refine blk_drewN ?_ _ | refine blk_drew ?_ | refine blk_alloc ?_ _)); exact BK126.out), (by repeat (first | (with_reducible first | exact HB.out | apply below_alloc | apply pw_below_drewN | apply below_drew1 | refine below_set ?_ GE126.out | refine below_set ?_ GE146.out) | exact HB.out)), Y67, Y63, Y71, Y64, Y75, Y65, Y79, Y66, Y40, Y35, Y45, Y36, Y50, Y37, Y46, Y41, Y51, Y42, Y52, Y47, fun _ _ => (by (with_reducible repeat (first | refine blk_drewN ?_ _ | refine blk_drew ?_ | refine blk_alloc ?_ _)); exact BK146.out), fun _ => GW146.out, fun _ => GE146.out, fun _ => NB126_146.out, fun _ => NB146_126.out, Y59, Y17, Y12, Y24, Y33, Y60, Y18, Y13, Y25, Y38, Y61, Y19, Y14, Y26, Y43, Y62, Y20, Y15, Y27, Y48, fun h0_ => absurd ((hoff 25 (by kernel_rfl)).symm.trans h0_) (by decide), fun h0_ => absurd ((hoff 26 (by kernel_rfl)).symm.trans h0_) (by decide), fun h0_ => absurd ((hoff 27 (by kernel_rfl)).symm.trans h0_) (by decide), fun h0_ => absurd ((hoff 28 (by kernel_rfl)).symm.trans h0_) (by decide), fun h0_ => absurd ((hoff 29 (by kernel_rfl)).symm.trans h0_) (by decide), fun _ => rfl, Y54, Y55, Y56, Y57⟩
    refine steps_cons ?_ ?_
    · rintro b a w' ⟨gb146, gb147, gb148, gb149, gb150, m20_, m21_, m22_, m23_, m24_, ha, Y22, Y0, Y21, Y34, Y29, Y39, Y30, Y44, Y31, Y49, Y32, Y40, Y35, Y45, Y36, Y50, Y37, Y46, Y41, Y51, Y42, Y52, Y47, Y1, Y16, Y11, Y23, Y28, Y3, Y17, Y12, Y24, Y33, Y5, Y18, Y13, Y25, Y38, Y7, Y19, Y14, Y26, Y43, Y9, Y20, Y15, Y27, Y48, Y2, Y4, Y6, Y8, Y10, Y53, Y54, Y55, Y56, Y57⟩ hb_ hon hoff
      refine ⟨_, rfl, fun K hK => ?_⟩
      replace ha := Aside0.mk ha
      have HO130 := Aside0.mk Y22
      have BK126 := Aside0.mk Y0
      have HB := Aside0.mk Y21
      refine box_step ?hg (N := 7) ?hd (cs := #[.int .i64 0, .bool false]) (t := 94) ?hr ?_; (case hd => rfl); (case hg => rfl); (case hr => first | (go_simp; done) | (go_simp; rfl))
      intro gb147 hg w19 hbox hb
      have n0_ := Aside0.mk (Kd.R_below (by (with_reducible repeat (first | apply Kd.R_alloc | apply Kd.R_drewN | apply Kd.R_drew)); exact HO130.out) hb)
      have n1_ := Aside0.mk (blk_below (g := gb126) (o := .cells #[.int .i64 0, .int .i64 0, .int .i64 0, .int .i64 0, .string (⟨#[]⟩ : ByteArray)] 29 (0, 0)) (by (with_reducible repeat (first | refine blk_drewN ?_ _ | refine blk_drew ?_ | refine blk_alloc ?_ _)); exact BK126.out) hb)
      have n2_ := Aside0.mk (below_step (by repeat (first | (with_reducible first | exact HB.out | apply below_alloc | apply pw_below_drewN | apply below_drew1 | refine below_set ?_ GE126.out) | exact HB.out)) hb)
      have n3_ := Aside0.mk (hbox)
      have n4_ := Aside0.mk ((by rw [hg]; exact (below_size (by repeat (first | (with_reducible first | exact HB.out | apply below_alloc | apply pw_below_drewN | apply below_drew1 | refine below_set ?_ GE126.out) | exact HB.out))) : w.heap.size ≤ gb147))
      have n5_ := Aside0.mk ((by rw [hg]; exact (below_size (by repeat (first | (with_reducible first | exact HB.out | apply below_alloc | apply pw_below_drewN | apply below_drew1 | refine below_set ?_ GE126.out) | exact HB.out))) : w.heap.size ≤ gb147))
      have n6_ := Aside0.mk ((by rw [hg]; exact Nat.ne_of_lt (blk_lt (g := gb126) (o := .cells #[.int .i64 0, .int .i64 0, .int .i64 0, .int .i64 0, .string (⟨#[]⟩ : ByteArray)] 29 (0, 0)) (by (with_reducible repeat (first | refine blk_drewN ?_ _ | refine blk_drew ?_ | refine blk_alloc ?_ _)); exact BK126.out)) : gb126 ≠ gb147))
      have n7_ := Aside0.mk ((by rw [hg]; exact Nat.ne_of_gt (blk_lt (g := gb126) (o := .cells #[.int .i64 0, .int .i64 0, .int .i64 0, .int .i64 0, .string (⟨#[]⟩ : ByteArray)] 29 (0, 0)) (by (with_reducible repeat (first | refine blk_drewN ?_ _ | refine blk_drew ?_ | refine blk_alloc ?_ _)); exact BK126.out)) : gb147 ≠ gb126))
      have Y67 := fun (h0_ : up b 21 20 = true) (h1_ : up b 21 21 = true) => (show gb147 ≠ gb146 from ((by rw [hg]; exact Nat.ne_of_gt (blk_lt (g := gb146) (o := .cells #[.int .i64 0, .bool false] 94 (0, 0)) (by (with_reducible repeat (first | refine blk_drewN ?_ _ | refine blk_drew ?_ | refine blk_alloc ?_ _)); exact (Y1 h0_ (hoff 25 (by kernel_rfl))))) : gb147 ≠ gb146)))
      have Y63 := fun (h0_ : up b 21 20 = true) (h1_ : up b 21 21 = true) => (show gb146 ≠ gb147 from ((by rw [hg]; exact Nat.ne_of_lt (blk_lt (g := gb146) (o := .cells #[.int .i64 0, .bool false] 94 (0, 0)) (by (with_reducible repeat (first | refine blk_drewN ?_ _ | refine blk_drew ?_ | refine blk_alloc ?_ _)); exact (Y1 h0_ (hoff 25 (by kernel_rfl))))) : gb146 ≠ gb147)))
      have Y72 := fun (h0_ : up b 21 21 = true) (h1_ : up b 21 22 = true) => (show gb148 ≠ gb147 from ((by rw [hg]; exact Nat.ne_of_lt (blk_lt (g := gb148) (o := .cells #[.int .i64 0, .bool false] 94 (0, 0)) (by (with_reducible repeat (first | refine blk_drewN ?_ _ | refine blk_drew ?_ | refine blk_alloc ?_ _)); exact (Y5 h1_ (hoff 27 (by kernel_rfl))))) : gb148 ≠ gb147)))
      have Y68 := fun (h0_ : up b 21 21 = true) (h1_ : up b 21 22 = true) => (show gb147 ≠ gb148 from ((by rw [hg]; exact Nat.ne_of_gt (blk_lt (g := gb148) (o := .cells #[.int .i64 0, .bool false] 94 (0, 0)) (by (with_reducible repeat (first | refine blk_drewN ?_ _ | refine blk_drew ?_ | refine blk_alloc ?_ _)); exact (Y5 h1_ (hoff 27 (by kernel_rfl))))) : gb147 ≠ gb148)))
      have Y76 := fun (h0_ : up b 21 21 = true) (h1_ : up b 21 23 = true) => (show gb149 ≠ gb147 from ((by rw [hg]; exact Nat.ne_of_lt (blk_lt (g := gb149) (o := .cells #[.int .i64 0, .bool false] 94 (0, 0)) (by (with_reducible repeat (first | refine blk_drewN ?_ _ | refine blk_drew ?_ | refine blk_alloc ?_ _)); exact (Y7 h1_ (hoff 28 (by kernel_rfl))))) : gb149 ≠ gb147)))
      have Y69 := fun (h0_ : up b 21 21 = true) (h1_ : up b 21 23 = true) => (show gb147 ≠ gb149 from ((by rw [hg]; exact Nat.ne_of_gt (blk_lt (g := gb149) (o := .cells #[.int .i64 0, .bool false] 94 (0, 0)) (by (with_reducible repeat (first | refine blk_drewN ?_ _ | refine blk_drew ?_ | refine blk_alloc ?_ _)); exact (Y7 h1_ (hoff 28 (by kernel_rfl))))) : gb147 ≠ gb149)))
      have Y80 := fun (h0_ : up b 21 21 = true) (h1_ : up b 21 24 = true) => (show gb150 ≠ gb147 from ((by rw [hg]; exact Nat.ne_of_lt (blk_lt (g := gb150) (o := .cells #[.string (⟨#[]⟩ : ByteArray), .bool false] 97 (0, 0)) (by (with_reducible repeat (first | refine blk_drewN ?_ _ | refine blk_drew ?_ | refine blk_alloc ?_ _)); exact (Y9 h1_ (hoff 29 (by kernel_rfl))))) : gb150 ≠ gb147)))
      have Y70 := fun (h0_ : up b 21 21 = true) (h1_ : up b 21 24 = true) => (show gb147 ≠ gb150 from ((by rw [hg]; exact Nat.ne_of_gt (blk_lt (g := gb150) (o := .cells #[.string (⟨#[]⟩ : ByteArray), .bool false] 97 (0, 0)) (by (with_reducible repeat (first | refine blk_drewN ?_ _ | refine blk_drew ?_ | refine blk_alloc ?_ _)); exact (Y9 h1_ (hoff 29 (by kernel_rfl))))) : gb147 ≠ gb150)))
      have Y58 := fun (h0_ : b 20 = true) (h1_ : b 25 = false) => (show w19.heap[gb146]? = some (.cells #[.int .i64 0, .bool false] 94 (0, 0)) from by first | exact (blk_below (g := gb146) (o := .cells #[.int .i64 0, .bool false] 94 (0, 0)) (by (with_reducible repeat (first | refine blk_drewN ?_ _ | refine blk_drew ?_ | refine blk_alloc ?_ _)); exact (Y1 h0_ h1_)) hb))
      have Y60 := fun (h0_ : b 22 = true) (h1_ : b 27 = false) => (show w19.heap[gb148]? = some (.cells #[.int .i64 0, .bool false] 94 (0, 0)) from by first | exact (blk_below (g := gb148) (o := .cells #[.int .i64 0, .bool false] 94 (0, 0)) (by (with_reducible repeat (first | refine blk_drewN ?_ _ | refine blk_drew ?_ | refine blk_alloc ?_ _)); exact (Y5 h0_ h1_)) hb))
      have Y61 := fun (h0_ : b 23 = true) (h1_ : b 28 = false) => (show w19.heap[gb149]? = some (.cells #[.int .i64 0, .bool false] 94 (0, 0)) from by first | exact (blk_below (g := gb149) (o := .cells #[.int .i64 0, .bool false] 94 (0, 0)) (by (with_reducible repeat (first | refine blk_drewN ?_ _ | refine blk_drew ?_ | refine blk_alloc ?_ _)); exact (Y7 h0_ h1_)) hb))
      have Y62 := fun (h0_ : b 24 = true) (h1_ : b 29 = false) => (show w19.heap[gb150]? = some (.cells #[.string (⟨#[]⟩ : ByteArray), .bool false] 97 (0, 0)) from by first | exact (blk_below (g := gb150) (o := .cells #[.string (⟨#[]⟩ : ByteArray), .bool false] 97 (0, 0)) (by (with_reducible repeat (first | refine blk_drewN ?_ _ | refine blk_drew ?_ | refine blk_alloc ?_ _)); exact (Y9 h0_ h1_)) hb))
      clear HO130
      clear BK126
      clear HB
      have HO130 := n0_
      have BK126 := n1_
      have HB := n2_
      have BK147 := n3_
      have GW147 := n4_
      have GE147 := n5_
      have NB126_147 := n6_
      have NB147_126 := n7_
      clear n0_ n1_ n2_ n3_ n4_ n5_ n6_ n7_
      clear hb hbox hg
      refine hK.out _ _ ⟨gb146, gb147, gb148, gb149, gb150, m20_, (.pointer (some ⟨gb147, 0, none⟩)), m22_, m23_, m24_, (by rw [ha.out]; exact putSel_upk 16 hb_ rfl rfl rfl), (by (with_reducible repeat (first | apply Kd.R_alloc | apply Kd.R_drewN | apply Kd.R_drew)); exact HO130.out), (by (with_reducible repeat (first | refine blk_drewN ?_ _ | refine blk_drew ?_ | refine blk_alloc ?_ _)); exact BK126.out), (by repeat (first | (with_reducible first | exact HB.out | apply below_alloc | apply pw_below_drewN | apply below_drew1 | refine below_set ?_ GE126.out | refine below_set ?_ GE147.out) | exact HB.out)), Y67, Y63, Y39, Y30, Y44, Y31, Y49, Y32, Y72, Y68, Y76, Y69, Y80, Y70, Y46, Y41, Y51, Y42, Y52, Y47, Y58, Y16, Y11, Y23, Y28, fun _ _ => (by (with_reducible repeat (first | refine blk_drewN ?_ _ | refine blk_drew ?_ | refine blk_alloc ?_ _)); exact BK147.out), fun _ => GW147.out, fun _ => GE147.out, fun _ => NB126_147.out, fun _ => NB147_126.out, Y60, Y18, Y13, Y25, Y38, Y61, Y19, Y14, Y26, Y43, Y62, Y20, Y15, Y27, Y48, fun h0_ => absurd ((hoff 25 (by kernel_rfl)).symm.trans h0_) (by decide), fun h0_ => absurd ((hoff 26 (by kernel_rfl)).symm.trans h0_) (by decide), fun h0_ => absurd ((hoff 27 (by kernel_rfl)).symm.trans h0_) (by decide), fun h0_ => absurd ((hoff 28 (by kernel_rfl)).symm.trans h0_) (by decide), fun h0_ => absurd ((hoff 29 (by kernel_rfl)).symm.trans h0_) (by decide), Y53, fun _ => rfl, Y55, Y56, Y57⟩
    refine steps_cons ?_ ?_
    · rintro b a w' ⟨gb146, gb147, gb148, gb149, gb150, m20_, m21_, m22_, m23_, m24_, ha, Y22, Y0, Y21, Y34, Y29, Y39, Y30, Y44, Y31, Y49, Y32, Y40, Y35, Y45, Y36, Y50, Y37, Y46, Y41, Y51, Y42, Y52, Y47, Y1, Y16, Y11, Y23, Y28, Y3, Y17, Y12, Y24, Y33, Y5, Y18, Y13, Y25, Y38, Y7, Y19, Y14, Y26, Y43, Y9, Y20, Y15, Y27, Y48, Y2, Y4, Y6, Y8, Y10, Y53, Y54, Y55, Y56, Y57⟩ hb_ hon hoff
      refine ⟨_, rfl, fun K hK => ?_⟩
      replace ha := Aside0.mk ha
      have HO130 := Aside0.mk Y22
      have BK126 := Aside0.mk Y0
      have HB := Aside0.mk Y21
      refine box_step ?hg (N := 8) ?hd (cs := #[.int .i64 0, .bool false]) (t := 94) ?hr ?_; (case hd => rfl); (case hg => rfl); (case hr => first | (go_simp; done) | (go_simp; rfl))
      intro gb148 hg w19 hbox hb
      have n0_ := Aside0.mk (Kd.R_below (by (with_reducible repeat (first | apply Kd.R_alloc | apply Kd.R_drewN | apply Kd.R_drew)); exact HO130.out) hb)
      have n1_ := Aside0.mk (blk_below (g := gb126) (o := .cells #[.int .i64 0, .int .i64 0, .int .i64 0, .int .i64 0, .string (⟨#[]⟩ : ByteArray)] 29 (0, 0)) (by (with_reducible repeat (first | refine blk_drewN ?_ _ | refine blk_drew ?_ | refine blk_alloc ?_ _)); exact BK126.out) hb)
      have n2_ := Aside0.mk (below_step (by repeat (first | (with_reducible first | exact HB.out | apply below_alloc | apply pw_below_drewN | apply below_drew1 | refine below_set ?_ GE126.out) | exact HB.out)) hb)
      have n3_ := Aside0.mk (hbox)
      have n4_ := Aside0.mk ((by rw [hg]; exact (below_size (by repeat (first | (with_reducible first | exact HB.out | apply below_alloc | apply pw_below_drewN | apply below_drew1 | refine below_set ?_ GE126.out) | exact HB.out))) : w.heap.size ≤ gb148))
      have n5_ := Aside0.mk ((by rw [hg]; exact (below_size (by repeat (first | (with_reducible first | exact HB.out | apply below_alloc | apply pw_below_drewN | apply below_drew1 | refine below_set ?_ GE126.out) | exact HB.out))) : w.heap.size ≤ gb148))
      have n6_ := Aside0.mk ((by rw [hg]; exact Nat.ne_of_lt (blk_lt (g := gb126) (o := .cells #[.int .i64 0, .int .i64 0, .int .i64 0, .int .i64 0, .string (⟨#[]⟩ : ByteArray)] 29 (0, 0)) (by (with_reducible repeat (first | refine blk_drewN ?_ _ | refine blk_drew ?_ | refine blk_alloc ?_ _)); exact BK126.out)) : gb126 ≠ gb148))
      have n7_ := Aside0.mk ((by rw [hg]; exact Nat.ne_of_gt (blk_lt (g := gb126) (o := .cells #[.int .i64 0, .int .i64 0, .int .i64 0, .int .i64 0, .string (⟨#[]⟩ : ByteArray)] 29 (0, 0)) (by (with_reducible repeat (first | refine blk_drewN ?_ _ | refine blk_drew ?_ | refine blk_alloc ?_ _)); exact BK126.out)) : gb148 ≠ gb126))
      have Y71 := fun (h0_ : up b 22 20 = true) (h1_ : up b 22 22 = true) => (show gb148 ≠ gb146 from ((by rw [hg]; exact Nat.ne_of_gt (blk_lt (g := gb146) (o := .cells #[.int .i64 0, .bool false] 94 (0, 0)) (by (with_reducible repeat (first | refine blk_drewN ?_ _ | refine blk_drew ?_ | refine blk_alloc ?_ _)); exact (Y1 h0_ (hoff 25 (by kernel_rfl))))) : gb148 ≠ gb146)))
      have Y64 := fun (h0_ : up b 22 20 = true) (h1_ : up b 22 22 = true) => (show gb146 ≠ gb148 from ((by rw [hg]; exact Nat.ne_of_lt (blk_lt (g := gb146) (o := .cells #[.int .i64 0, .bool false] 94 (0, 0)) (by (with_reducible repeat (first | refine blk_drewN ?_ _ | refine blk_drew ?_ | refine blk_alloc ?_ _)); exact (Y1 h0_ (hoff 25 (by kernel_rfl))))) : gb146 ≠ gb148)))
      have Y72 := fun (h0_ : up b 22 21 = true) (h1_ : up b 22 22 = true) => (show gb148 ≠ gb147 from ((by rw [hg]; exact Nat.ne_of_gt (blk_lt (g := gb147) (o := .cells #[.int .i64 0, .bool false] 94 (0, 0)) (by (with_reducible repeat (first | refine blk_drewN ?_ _ | refine blk_drew ?_ | refine blk_alloc ?_ _)); exact (Y3 h0_ (hoff 26 (by kernel_rfl))))) : gb148 ≠ gb147)))
      have Y68 := fun (h0_ : up b 22 21 = true) (h1_ : up b 22 22 = true) => (show gb147 ≠ gb148 from ((by rw [hg]; exact Nat.ne_of_lt (blk_lt (g := gb147) (o := .cells #[.int .i64 0, .bool false] 94 (0, 0)) (by (with_reducible repeat (first | refine blk_drewN ?_ _ | refine blk_drew ?_ | refine blk_alloc ?_ _)); exact (Y3 h0_ (hoff 26 (by kernel_rfl))))) : gb147 ≠ gb148)))
      have Y77 := fun (h0_ : up b 22 22 = true) (h1_ : up b 22 23 = true) => (show gb149 ≠ gb148 from ((by rw [hg]; exact Nat.ne_of_lt (blk_lt (g := gb149) (o := .cells #[.int .i64 0, .bool false] 94 (0, 0)) (by (with_reducible repeat (first | refine blk_drewN ?_ _ | refine blk_drew ?_ | refine blk_alloc ?_ _)); exact (Y7 h1_ (hoff 28 (by kernel_rfl))))) : gb149 ≠ gb148)))
      have Y73 := fun (h0_ : up b 22 22 = true) (h1_ : up b 22 23 = true) => (show gb148 ≠ gb149 from ((by rw [hg]; exact Nat.ne_of_gt (blk_lt (g := gb149) (o := .cells #[.int .i64 0, .bool false] 94 (0, 0)) (by (with_reducible repeat (first | refine blk_drewN ?_ _ | refine blk_drew ?_ | refine blk_alloc ?_ _)); exact (Y7 h1_ (hoff 28 (by kernel_rfl))))) : gb148 ≠ gb149)))
      have Y81 := fun (h0_ : up b 22 22 = true) (h1_ : up b 22 24 = true) => (show gb150 ≠ gb148 from ((by rw [hg]; exact Nat.ne_of_lt (blk_lt (g := gb150) (o := .cells #[.string (⟨#[]⟩ : ByteArray), .bool false] 97 (0, 0)) (by (with_reducible repeat (first | refine blk_drewN ?_ _ | refine blk_drew ?_ | refine blk_alloc ?_ _)); exact (Y9 h1_ (hoff 29 (by kernel_rfl))))) : gb150 ≠ gb148)))
      have Y74 := fun (h0_ : up b 22 22 = true) (h1_ : up b 22 24 = true) => (show gb148 ≠ gb150 from ((by rw [hg]; exact Nat.ne_of_gt (blk_lt (g := gb150) (o := .cells #[.string (⟨#[]⟩ : ByteArray), .bool false] 97 (0, 0)) (by (with_reducible repeat (first | refine blk_drewN ?_ _ | refine blk_drew ?_ | refine blk_alloc ?_ _)); exact (Y9 h1_ (hoff 29 (by kernel_rfl))))) : gb148 ≠ gb150)))
      have Y58 := fun (h0_ : b 20 = true) (h1_ : b 25 = false) => (show w19.heap[gb146]? = some (.cells #[.int .i64 0, .bool false] 94 (0, 0)) from by first | exact (blk_below (g := gb146) (o := .cells #[.int .i64 0, .bool false] 94 (0, 0)) (by (with_reducible repeat (first | refine blk_drewN ?_ _ | refine blk_drew ?_ | refine blk_alloc ?_ _)); exact (Y1 h0_ h1_)) hb))
      have Y59 := fun (h0_ : b 21 = true) (h1_ : b 26 = false) => (show w19.heap[gb147]? = some (.cells #[.int .i64 0, .bool false] 94 (0, 0)) from by first | exact (blk_below (g := gb147) (o := .cells #[.int .i64 0, .bool false] 94 (0, 0)) (by (with_reducible repeat (first | refine blk_drewN ?_ _ | refine blk_drew ?_ | refine blk_alloc ?_ _)); exact (Y3 h0_ h1_)) hb))
      have Y61 := fun (h0_ : b 23 = true) (h1_ : b 28 = false) => (show w19.heap[gb149]? = some (.cells #[.int .i64 0, .bool false] 94 (0, 0)) from by first | exact (blk_below (g := gb149) (o := .cells #[.int .i64 0, .bool false] 94 (0, 0)) (by (with_reducible repeat (first | refine blk_drewN ?_ _ | refine blk_drew ?_ | refine blk_alloc ?_ _)); exact (Y7 h0_ h1_)) hb))
      have Y62 := fun (h0_ : b 24 = true) (h1_ : b 29 = false) => (show w19.heap[gb150]? = some (.cells #[.string (⟨#[]⟩ : ByteArray), .bool false] 97 (0, 0)) from by first | exact (blk_below (g := gb150) (o := .cells #[.string (⟨#[]⟩ : ByteArray), .bool false] 97 (0, 0)) (by (with_reducible repeat (first | refine blk_drewN ?_ _ | refine blk_drew ?_ | refine blk_alloc ?_ _)); exact (Y9 h0_ h1_)) hb))
      clear HO130
      clear BK126
      clear HB
      have HO130 := n0_
      have BK126 := n1_
      have HB := n2_
      have BK148 := n3_
      have GW148 := n4_
      have GE148 := n5_
      have NB126_148 := n6_
      have NB148_126 := n7_
      clear n0_ n1_ n2_ n3_ n4_ n5_ n6_ n7_
      clear hb hbox hg
      refine hK.out _ _ ⟨gb146, gb147, gb148, gb149, gb150, m20_, m21_, (.pointer (some ⟨gb148, 0, none⟩)), m23_, m24_, (by rw [ha.out]; exact putSel_upk 17 hb_ rfl rfl rfl), (by (with_reducible repeat (first | apply Kd.R_alloc | apply Kd.R_drewN | apply Kd.R_drew)); exact HO130.out), (by (with_reducible repeat (first | refine blk_drewN ?_ _ | refine blk_drew ?_ | refine blk_alloc ?_ _)); exact BK126.out), (by repeat (first | (with_reducible first | exact HB.out | apply below_alloc | apply pw_below_drewN | apply below_drew1 | refine below_set ?_ GE126.out | refine below_set ?_ GE148.out) | exact HB.out)), Y34, Y29, Y71, Y64, Y44, Y31, Y49, Y32, Y72, Y68, Y45, Y36, Y50, Y37, Y77, Y73, Y81, Y74, Y52, Y47, Y58, Y16, Y11, Y23, Y28, Y59, Y17, Y12, Y24, Y33, fun _ _ => (by (with_reducible repeat (first | refine blk_drewN ?_ _ | refine blk_drew ?_ | refine blk_alloc ?_ _)); exact BK148.out), fun _ => GW148.out, fun _ => GE148.out, fun _ => NB126_148.out, fun _ => NB148_126.out, Y61, Y19, Y14, Y26, Y43, Y62, Y20, Y15, Y27, Y48, fun h0_ => absurd ((hoff 25 (by kernel_rfl)).symm.trans h0_) (by decide), fun h0_ => absurd ((hoff 26 (by kernel_rfl)).symm.trans h0_) (by decide), fun h0_ => absurd ((hoff 27 (by kernel_rfl)).symm.trans h0_) (by decide), fun h0_ => absurd ((hoff 28 (by kernel_rfl)).symm.trans h0_) (by decide), fun h0_ => absurd ((hoff 29 (by kernel_rfl)).symm.trans h0_) (by decide), Y53, Y54, fun _ => rfl, Y56, Y57⟩
    refine steps_cons ?_ ?_
    · rintro b a w' ⟨gb146, gb147, gb148, gb149, gb150, m20_, m21_, m22_, m23_, m24_, ha, Y22, Y0, Y21, Y34, Y29, Y39, Y30, Y44, Y31, Y49, Y32, Y40, Y35, Y45, Y36, Y50, Y37, Y46, Y41, Y51, Y42, Y52, Y47, Y1, Y16, Y11, Y23, Y28, Y3, Y17, Y12, Y24, Y33, Y5, Y18, Y13, Y25, Y38, Y7, Y19, Y14, Y26, Y43, Y9, Y20, Y15, Y27, Y48, Y2, Y4, Y6, Y8, Y10, Y53, Y54, Y55, Y56, Y57⟩ hb_ hon hoff
      refine ⟨_, rfl, fun K hK => ?_⟩
      replace ha := Aside0.mk ha
      have HO130 := Aside0.mk Y22
      have BK126 := Aside0.mk Y0
      have HB := Aside0.mk Y21
      refine box_step ?hg (N := 9) ?hd (cs := #[.int .i64 0, .bool false]) (t := 94) ?hr ?_; (case hd => rfl); (case hg => rfl); (case hr => first | (go_simp; done) | (go_simp; rfl))
      intro gb149 hg w19 hbox hb
      have n0_ := Aside0.mk (Kd.R_below (by (with_reducible repeat (first | apply Kd.R_alloc | apply Kd.R_drewN | apply Kd.R_drew)); exact HO130.out) hb)
      have n1_ := Aside0.mk (blk_below (g := gb126) (o := .cells #[.int .i64 0, .int .i64 0, .int .i64 0, .int .i64 0, .string (⟨#[]⟩ : ByteArray)] 29 (0, 0)) (by (with_reducible repeat (first | refine blk_drewN ?_ _ | refine blk_drew ?_ | refine blk_alloc ?_ _)); exact BK126.out) hb)
      have n2_ := Aside0.mk (below_step (by repeat (first | (with_reducible first | exact HB.out | apply below_alloc | apply pw_below_drewN | apply below_drew1 | refine below_set ?_ GE126.out) | exact HB.out)) hb)
      have n3_ := Aside0.mk (hbox)
      have n4_ := Aside0.mk ((by rw [hg]; exact (below_size (by repeat (first | (with_reducible first | exact HB.out | apply below_alloc | apply pw_below_drewN | apply below_drew1 | refine below_set ?_ GE126.out) | exact HB.out))) : w.heap.size ≤ gb149))
      have n5_ := Aside0.mk ((by rw [hg]; exact (below_size (by repeat (first | (with_reducible first | exact HB.out | apply below_alloc | apply pw_below_drewN | apply below_drew1 | refine below_set ?_ GE126.out) | exact HB.out))) : w.heap.size ≤ gb149))
      have n6_ := Aside0.mk ((by rw [hg]; exact Nat.ne_of_lt (blk_lt (g := gb126) (o := .cells #[.int .i64 0, .int .i64 0, .int .i64 0, .int .i64 0, .string (⟨#[]⟩ : ByteArray)] 29 (0, 0)) (by (with_reducible repeat (first | refine blk_drewN ?_ _ | refine blk_drew ?_ | refine blk_alloc ?_ _)); exact BK126.out)) : gb126 ≠ gb149))
      have n7_ := Aside0.mk ((by rw [hg]; exact Nat.ne_of_gt (blk_lt (g := gb126) (o := .cells #[.int .i64 0, .int .i64 0, .int .i64 0, .int .i64 0, .string (⟨#[]⟩ : ByteArray)] 29 (0, 0)) (by (with_reducible repeat (first | refine blk_drewN ?_ _ | refine blk_drew ?_ | refine blk_alloc ?_ _)); exact BK126.out)) : gb149 ≠ gb126))
      have Y75 := fun (h0_ : up b 23 20 = true) (h1_ : up b 23 23 = true) => (show gb149 ≠ gb146 from ((by rw [hg]; exact Nat.ne_of_gt (blk_lt (g := gb146) (o := .cells #[.int .i64 0, .bool false] 94 (0, 0)) (by (with_reducible repeat (first | refine blk_drewN ?_ _ | refine blk_drew ?_ | refine blk_alloc ?_ _)); exact (Y1 h0_ (hoff 25 (by kernel_rfl))))) : gb149 ≠ gb146)))
      have Y65 := fun (h0_ : up b 23 20 = true) (h1_ : up b 23 23 = true) => (show gb146 ≠ gb149 from ((by rw [hg]; exact Nat.ne_of_lt (blk_lt (g := gb146) (o := .cells #[.int .i64 0, .bool false] 94 (0, 0)) (by (with_reducible repeat (first | refine blk_drewN ?_ _ | refine blk_drew ?_ | refine blk_alloc ?_ _)); exact (Y1 h0_ (hoff 25 (by kernel_rfl))))) : gb146 ≠ gb149)))
      have Y76 := fun (h0_ : up b 23 21 = true) (h1_ : up b 23 23 = true) => (show gb149 ≠ gb147 from ((by rw [hg]; exact Nat.ne_of_gt (blk_lt (g := gb147) (o := .cells #[.int .i64 0, .bool false] 94 (0, 0)) (by (with_reducible repeat (first | refine blk_drewN ?_ _ | refine blk_drew ?_ | refine blk_alloc ?_ _)); exact (Y3 h0_ (hoff 26 (by kernel_rfl))))) : gb149 ≠ gb147)))
      have Y69 := fun (h0_ : up b 23 21 = true) (h1_ : up b 23 23 = true) => (show gb147 ≠ gb149 from ((by rw [hg]; exact Nat.ne_of_lt (blk_lt (g := gb147) (o := .cells #[.int .i64 0, .bool false] 94 (0, 0)) (by (with_reducible repeat (first | refine blk_drewN ?_ _ | refine blk_drew ?_ | refine blk_alloc ?_ _)); exact (Y3 h0_ (hoff 26 (by kernel_rfl))))) : gb147 ≠ gb149)))
      have Y77 := fun (h0_ : up b 23 22 = true) (h1_ : up b 23 23 = true) => (show gb149 ≠ gb148 from ((by rw [hg]; exact Nat.ne_of_gt (blk_lt (g := gb148) (o := .cells #[.int .i64 0, .bool false] 94 (0, 0)) (by (with_reducible repeat (first | refine blk_drewN ?_ _ | refine blk_drew ?_ | refine blk_alloc ?_ _)); exact (Y5 h0_ (hoff 27 (by kernel_rfl))))) : gb149 ≠ gb148)))
      have Y73 := fun (h0_ : up b 23 22 = true) (h1_ : up b 23 23 = true) => (show gb148 ≠ gb149 from ((by rw [hg]; exact Nat.ne_of_lt (blk_lt (g := gb148) (o := .cells #[.int .i64 0, .bool false] 94 (0, 0)) (by (with_reducible repeat (first | refine blk_drewN ?_ _ | refine blk_drew ?_ | refine blk_alloc ?_ _)); exact (Y5 h0_ (hoff 27 (by kernel_rfl))))) : gb148 ≠ gb149)))
      have Y82 := fun (h0_ : up b 23 23 = true) (h1_ : up b 23 24 = true) => (show gb150 ≠ gb149 from ((by rw [hg]; exact Nat.ne_of_lt (blk_lt (g := gb150) (o := .cells #[.string (⟨#[]⟩ : ByteArray), .bool false] 97 (0, 0)) (by (with_reducible repeat (first | refine blk_drewN ?_ _ | refine blk_drew ?_ | refine blk_alloc ?_ _)); exact (Y9 h1_ (hoff 29 (by kernel_rfl))))) : gb150 ≠ gb149)))
      have Y78 := fun (h0_ : up b 23 23 = true) (h1_ : up b 23 24 = true) => (show gb149 ≠ gb150 from ((by rw [hg]; exact Nat.ne_of_gt (blk_lt (g := gb150) (o := .cells #[.string (⟨#[]⟩ : ByteArray), .bool false] 97 (0, 0)) (by (with_reducible repeat (first | refine blk_drewN ?_ _ | refine blk_drew ?_ | refine blk_alloc ?_ _)); exact (Y9 h1_ (hoff 29 (by kernel_rfl))))) : gb149 ≠ gb150)))
      have Y58 := fun (h0_ : b 20 = true) (h1_ : b 25 = false) => (show w19.heap[gb146]? = some (.cells #[.int .i64 0, .bool false] 94 (0, 0)) from by first | exact (blk_below (g := gb146) (o := .cells #[.int .i64 0, .bool false] 94 (0, 0)) (by (with_reducible repeat (first | refine blk_drewN ?_ _ | refine blk_drew ?_ | refine blk_alloc ?_ _)); exact (Y1 h0_ h1_)) hb))
      have Y59 := fun (h0_ : b 21 = true) (h1_ : b 26 = false) => (show w19.heap[gb147]? = some (.cells #[.int .i64 0, .bool false] 94 (0, 0)) from by first | exact (blk_below (g := gb147) (o := .cells #[.int .i64 0, .bool false] 94 (0, 0)) (by (with_reducible repeat (first | refine blk_drewN ?_ _ | refine blk_drew ?_ | refine blk_alloc ?_ _)); exact (Y3 h0_ h1_)) hb))
      have Y60 := fun (h0_ : b 22 = true) (h1_ : b 27 = false) => (show w19.heap[gb148]? = some (.cells #[.int .i64 0, .bool false] 94 (0, 0)) from by first | exact (blk_below (g := gb148) (o := .cells #[.int .i64 0, .bool false] 94 (0, 0)) (by (with_reducible repeat (first | refine blk_drewN ?_ _ | refine blk_drew ?_ | refine blk_alloc ?_ _)); exact (Y5 h0_ h1_)) hb))
      have Y62 := fun (h0_ : b 24 = true) (h1_ : b 29 = false) => (show w19.heap[gb150]? = some (.cells #[.string (⟨#[]⟩ : ByteArray), .bool false] 97 (0, 0)) from by first | exact (blk_below (g := gb150) (o := .cells #[.string (⟨#[]⟩ : ByteArray), .bool false] 97 (0, 0)) (by (with_reducible repeat (first | refine blk_drewN ?_ _ | refine blk_drew ?_ | refine blk_alloc ?_ _)); exact (Y9 h0_ h1_)) hb))
      clear HO130
      clear BK126
      clear HB
      have HO130 := n0_
      have BK126 := n1_
      have HB := n2_
      have BK149 := n3_
      have GW149 := n4_
      have GE149 := n5_
      have NB126_149 := n6_
      have NB149_126 := n7_
      clear n0_ n1_ n2_ n3_ n4_ n5_ n6_ n7_
      clear hb hbox hg
      refine hK.out _ _ ⟨gb146, gb147, gb148, gb149, gb150, m20_, m21_, m22_, (.pointer (some ⟨gb149, 0, none⟩)), m24_, (by rw [ha.out]; exact putSel_upk 18 hb_ rfl rfl rfl), (by (with_reducible repeat (first | apply Kd.R_alloc | apply Kd.R_drewN | apply Kd.R_drew)); exact HO130.out), (by (with_reducible repeat (first | refine blk_drewN ?_ _ | refine blk_drew ?_ | refine blk_alloc ?_ _)); exact BK126.out), (by repeat (first | (with_reducible first | exact HB.out | apply below_alloc | apply pw_below_drewN | apply below_drew1 | refine below_set ?_ GE126.out | refine below_set ?_ GE149.out) | exact HB.out)), Y34, Y29, Y39, Y30, Y75, Y65, Y49, Y32, Y40, Y35, Y76, Y69, Y50, Y37, Y77, Y73, Y51, Y42, Y82, Y78, Y58, Y16, Y11, Y23, Y28, Y59, Y17, Y12, Y24, Y33, Y60, Y18, Y13, Y25, Y38, fun _ _ => (by (with_reducible repeat (first | refine blk_drewN ?_ _ | refine blk_drew ?_ | refine blk_alloc ?_ _)); exact BK149.out), fun _ => GW149.out, fun _ => GE149.out, fun _ => NB126_149.out, fun _ => NB149_126.out, Y62, Y20, Y15, Y27, Y48, fun h0_ => absurd ((hoff 25 (by kernel_rfl)).symm.trans h0_) (by decide), fun h0_ => absurd ((hoff 26 (by kernel_rfl)).symm.trans h0_) (by decide), fun h0_ => absurd ((hoff 27 (by kernel_rfl)).symm.trans h0_) (by decide), fun h0_ => absurd ((hoff 28 (by kernel_rfl)).symm.trans h0_) (by decide), fun h0_ => absurd ((hoff 29 (by kernel_rfl)).symm.trans h0_) (by decide), Y53, Y54, Y55, fun _ => rfl, Y57⟩
    refine steps_cons ?_ ?_
    · rintro b a w' ⟨gb146, gb147, gb148, gb149, gb150, m20_, m21_, m22_, m23_, m24_, ha, Y22, Y0, Y21, Y34, Y29, Y39, Y30, Y44, Y31, Y49, Y32, Y40, Y35, Y45, Y36, Y50, Y37, Y46, Y41, Y51, Y42, Y52, Y47, Y1, Y16, Y11, Y23, Y28, Y3, Y17, Y12, Y24, Y33, Y5, Y18, Y13, Y25, Y38, Y7, Y19, Y14, Y26, Y43, Y9, Y20, Y15, Y27, Y48, Y2, Y4, Y6, Y8, Y10, Y53, Y54, Y55, Y56, Y57⟩ hb_ hon hoff
      refine ⟨_, rfl, fun K hK => ?_⟩
      replace ha := Aside0.mk ha
      have HO130 := Aside0.mk Y22
      have BK126 := Aside0.mk Y0
      have HB := Aside0.mk Y21
      refine box_step ?hg (N := 10) ?hd (cs := #[.string (⟨#[]⟩ : ByteArray), .bool false]) (t := 97) ?hr ?_; (case hd => rfl); (case hg => rfl); (case hr => first | (go_simp; done) | (go_simp; rfl))
      intro gb150 hg w19 hbox hb
      have n0_ := Aside0.mk (Kd.R_below (by (with_reducible repeat (first | apply Kd.R_alloc | apply Kd.R_drewN | apply Kd.R_drew)); exact HO130.out) hb)
      have n1_ := Aside0.mk (blk_below (g := gb126) (o := .cells #[.int .i64 0, .int .i64 0, .int .i64 0, .int .i64 0, .string (⟨#[]⟩ : ByteArray)] 29 (0, 0)) (by (with_reducible repeat (first | refine blk_drewN ?_ _ | refine blk_drew ?_ | refine blk_alloc ?_ _)); exact BK126.out) hb)
      have n2_ := Aside0.mk (below_step (by repeat (first | (with_reducible first | exact HB.out | apply below_alloc | apply pw_below_drewN | apply below_drew1 | refine below_set ?_ GE126.out) | exact HB.out)) hb)
      have n3_ := Aside0.mk (hbox)
      have n4_ := Aside0.mk ((by rw [hg]; exact (below_size (by repeat (first | (with_reducible first | exact HB.out | apply below_alloc | apply pw_below_drewN | apply below_drew1 | refine below_set ?_ GE126.out) | exact HB.out))) : w.heap.size ≤ gb150))
      have n5_ := Aside0.mk ((by rw [hg]; exact (below_size (by repeat (first | (with_reducible first | exact HB.out | apply below_alloc | apply pw_below_drewN | apply below_drew1 | refine below_set ?_ GE126.out) | exact HB.out))) : w.heap.size ≤ gb150))
      have n6_ := Aside0.mk ((by rw [hg]; exact Nat.ne_of_lt (blk_lt (g := gb126) (o := .cells #[.int .i64 0, .int .i64 0, .int .i64 0, .int .i64 0, .string (⟨#[]⟩ : ByteArray)] 29 (0, 0)) (by (with_reducible repeat (first | refine blk_drewN ?_ _ | refine blk_drew ?_ | refine blk_alloc ?_ _)); exact BK126.out)) : gb126 ≠ gb150))
      have n7_ := Aside0.mk ((by rw [hg]; exact Nat.ne_of_gt (blk_lt (g := gb126) (o := .cells #[.int .i64 0, .int .i64 0, .int .i64 0, .int .i64 0, .string (⟨#[]⟩ : ByteArray)] 29 (0, 0)) (by (with_reducible repeat (first | refine blk_drewN ?_ _ | refine blk_drew ?_ | refine blk_alloc ?_ _)); exact BK126.out)) : gb150 ≠ gb126))
      have Y79 := fun (h0_ : up b 24 20 = true) (h1_ : up b 24 24 = true) => (show gb150 ≠ gb146 from ((by rw [hg]; exact Nat.ne_of_gt (blk_lt (g := gb146) (o := .cells #[.int .i64 0, .bool false] 94 (0, 0)) (by (with_reducible repeat (first | refine blk_drewN ?_ _ | refine blk_drew ?_ | refine blk_alloc ?_ _)); exact (Y1 h0_ (hoff 25 (by kernel_rfl))))) : gb150 ≠ gb146)))
      have Y66 := fun (h0_ : up b 24 20 = true) (h1_ : up b 24 24 = true) => (show gb146 ≠ gb150 from ((by rw [hg]; exact Nat.ne_of_lt (blk_lt (g := gb146) (o := .cells #[.int .i64 0, .bool false] 94 (0, 0)) (by (with_reducible repeat (first | refine blk_drewN ?_ _ | refine blk_drew ?_ | refine blk_alloc ?_ _)); exact (Y1 h0_ (hoff 25 (by kernel_rfl))))) : gb146 ≠ gb150)))
      have Y80 := fun (h0_ : up b 24 21 = true) (h1_ : up b 24 24 = true) => (show gb150 ≠ gb147 from ((by rw [hg]; exact Nat.ne_of_gt (blk_lt (g := gb147) (o := .cells #[.int .i64 0, .bool false] 94 (0, 0)) (by (with_reducible repeat (first | refine blk_drewN ?_ _ | refine blk_drew ?_ | refine blk_alloc ?_ _)); exact (Y3 h0_ (hoff 26 (by kernel_rfl))))) : gb150 ≠ gb147)))
      have Y70 := fun (h0_ : up b 24 21 = true) (h1_ : up b 24 24 = true) => (show gb147 ≠ gb150 from ((by rw [hg]; exact Nat.ne_of_lt (blk_lt (g := gb147) (o := .cells #[.int .i64 0, .bool false] 94 (0, 0)) (by (with_reducible repeat (first | refine blk_drewN ?_ _ | refine blk_drew ?_ | refine blk_alloc ?_ _)); exact (Y3 h0_ (hoff 26 (by kernel_rfl))))) : gb147 ≠ gb150)))
      have Y81 := fun (h0_ : up b 24 22 = true) (h1_ : up b 24 24 = true) => (show gb150 ≠ gb148 from ((by rw [hg]; exact Nat.ne_of_gt (blk_lt (g := gb148) (o := .cells #[.int .i64 0, .bool false] 94 (0, 0)) (by (with_reducible repeat (first | refine blk_drewN ?_ _ | refine blk_drew ?_ | refine blk_alloc ?_ _)); exact (Y5 h0_ (hoff 27 (by kernel_rfl))))) : gb150 ≠ gb148)))
      have Y74 := fun (h0_ : up b 24 22 = true) (h1_ : up b 24 24 = true) => (show gb148 ≠ gb150 from ((by rw [hg]; exact Nat.ne_of_lt (blk_lt (g := gb148) (o := .cells #[.int .i64 0, .bool false] 94 (0, 0)) (by (with_reducible repeat (first | refine blk_drewN ?_ _ | refine blk_drew ?_ | refine blk_alloc ?_ _)); exact (Y5 h0_ (hoff 27 (by kernel_rfl))))) : gb148 ≠ gb150)))
      have Y82 := fun (h0_ : up b 24 23 = true) (h1_ : up b 24 24 = true) => (show gb150 ≠ gb149 from ((by rw [hg]; exact Nat.ne_of_gt (blk_lt (g := gb149) (o := .cells #[.int .i64 0, .bool false] 94 (0, 0)) (by (with_reducible repeat (first | refine blk_drewN ?_ _ | refine blk_drew ?_ | refine blk_alloc ?_ _)); exact (Y7 h0_ (hoff 28 (by kernel_rfl))))) : gb150 ≠ gb149)))
      have Y78 := fun (h0_ : up b 24 23 = true) (h1_ : up b 24 24 = true) => (show gb149 ≠ gb150 from ((by rw [hg]; exact Nat.ne_of_lt (blk_lt (g := gb149) (o := .cells #[.int .i64 0, .bool false] 94 (0, 0)) (by (with_reducible repeat (first | refine blk_drewN ?_ _ | refine blk_drew ?_ | refine blk_alloc ?_ _)); exact (Y7 h0_ (hoff 28 (by kernel_rfl))))) : gb149 ≠ gb150)))
      have Y58 := fun (h0_ : b 20 = true) (h1_ : b 25 = false) => (show w19.heap[gb146]? = some (.cells #[.int .i64 0, .bool false] 94 (0, 0)) from by first | exact (blk_below (g := gb146) (o := .cells #[.int .i64 0, .bool false] 94 (0, 0)) (by (with_reducible repeat (first | refine blk_drewN ?_ _ | refine blk_drew ?_ | refine blk_alloc ?_ _)); exact (Y1 h0_ h1_)) hb))
      have Y59 := fun (h0_ : b 21 = true) (h1_ : b 26 = false) => (show w19.heap[gb147]? = some (.cells #[.int .i64 0, .bool false] 94 (0, 0)) from by first | exact (blk_below (g := gb147) (o := .cells #[.int .i64 0, .bool false] 94 (0, 0)) (by (with_reducible repeat (first | refine blk_drewN ?_ _ | refine blk_drew ?_ | refine blk_alloc ?_ _)); exact (Y3 h0_ h1_)) hb))
      have Y60 := fun (h0_ : b 22 = true) (h1_ : b 27 = false) => (show w19.heap[gb148]? = some (.cells #[.int .i64 0, .bool false] 94 (0, 0)) from by first | exact (blk_below (g := gb148) (o := .cells #[.int .i64 0, .bool false] 94 (0, 0)) (by (with_reducible repeat (first | refine blk_drewN ?_ _ | refine blk_drew ?_ | refine blk_alloc ?_ _)); exact (Y5 h0_ h1_)) hb))
      have Y61 := fun (h0_ : b 23 = true) (h1_ : b 28 = false) => (show w19.heap[gb149]? = some (.cells #[.int .i64 0, .bool false] 94 (0, 0)) from by first | exact (blk_below (g := gb149) (o := .cells #[.int .i64 0, .bool false] 94 (0, 0)) (by (with_reducible repeat (first | refine blk_drewN ?_ _ | refine blk_drew ?_ | refine blk_alloc ?_ _)); exact (Y7 h0_ h1_)) hb))
      clear HO130
      clear BK126
      clear HB
      have HO130 := n0_
      have BK126 := n1_
      have HB := n2_
      have BK150 := n3_
      have GW150 := n4_
      have GE150 := n5_
      have NB126_150 := n6_
      have NB150_126 := n7_
      clear n0_ n1_ n2_ n3_ n4_ n5_ n6_ n7_
      clear hb hbox hg
      refine hK.out _ _ ⟨gb146, gb147, gb148, gb149, gb150, m20_, m21_, m22_, m23_, (.pointer (some ⟨gb150, 0, none⟩)), (by rw [ha.out]; exact putSel_upk 19 hb_ rfl rfl rfl), (by (with_reducible repeat (first | apply Kd.R_alloc | apply Kd.R_drewN | apply Kd.R_drew)); exact HO130.out), (by (with_reducible repeat (first | refine blk_drewN ?_ _ | refine blk_drew ?_ | refine blk_alloc ?_ _)); exact BK126.out), (by repeat (first | (with_reducible first | exact HB.out | apply below_alloc | apply pw_below_drewN | apply below_drew1 | refine below_set ?_ GE126.out | refine below_set ?_ GE150.out) | exact HB.out)), Y34, Y29, Y39, Y30, Y44, Y31, Y79, Y66, Y40, Y35, Y45, Y36, Y80, Y70, Y46, Y41, Y81, Y74, Y82, Y78, Y58, Y16, Y11, Y23, Y28, Y59, Y17, Y12, Y24, Y33, Y60, Y18, Y13, Y25, Y38, Y61, Y19, Y14, Y26, Y43, fun _ _ => (by (with_reducible repeat (first | refine blk_drewN ?_ _ | refine blk_drew ?_ | refine blk_alloc ?_ _)); exact BK150.out), fun _ => GW150.out, fun _ => GE150.out, fun _ => NB126_150.out, fun _ => NB150_126.out, fun h0_ => absurd ((hoff 25 (by kernel_rfl)).symm.trans h0_) (by decide), fun h0_ => absurd ((hoff 26 (by kernel_rfl)).symm.trans h0_) (by decide), fun h0_ => absurd ((hoff 27 (by kernel_rfl)).symm.trans h0_) (by decide), fun h0_ => absurd ((hoff 28 (by kernel_rfl)).symm.trans h0_) (by decide), fun h0_ => absurd ((hoff 29 (by kernel_rfl)).symm.trans h0_) (by decide), Y53, Y54, Y55, Y56, fun _ => rfl⟩
    refine steps_cons ?_ ?_
    · rintro b a w' ⟨gb146, gb147, gb148, gb149, gb150, m20_, m21_, m22_, m23_, m24_, ha, Y22, Y0, Y21, Y34, Y29, Y39, Y30, Y44, Y31, Y49, Y32, Y40, Y35, Y45, Y36, Y50, Y37, Y46, Y41, Y51, Y42, Y52, Y47, Y1, Y16, Y11, Y23, Y28, Y3, Y17, Y12, Y24, Y33, Y5, Y18, Y13, Y25, Y38, Y7, Y19, Y14, Y26, Y43, Y9, Y20, Y15, Y27, Y48, Y2, Y4, Y6, Y8, Y10, Y53, Y54, Y55, Y56, Y57⟩ hb_ hon hoff
      refine ⟨_, rfl, fun K hK => ?_⟩
      have e6 : a.tmps[6]? = some (m20_) := by rw [ha]; exact putSel_on (e := (20, 6, m20_)) 15 rfl rfl (hon 20 (by kernel_rfl)) rfl
      rw [Y53 (hon 20 (by kernel_rfl))] at e6
      have e23 : a.tmps[23]? = some (.agg #[.int .i64 t132, .bool t133]) := by rw [ha]; exact putSel_on (e := (3, 23, .agg #[.int .i64 t132, .bool t133])) 2 rfl rfl (hon 3 (by kernel_rfl)) rfl
      replace ha := Aside0.mk ha
      have HO130 := Aside0.mk Y22
      have BK126 := Aside0.mk Y0
      have HB := Aside0.mk Y21
      have NB147_146 := Aside0.mk (Y34 (hon 20 (by kernel_rfl)) (hon 21 (by kernel_rfl)))
      have NB146_147 := Aside0.mk (Y29 (hon 20 (by kernel_rfl)) (hon 21 (by kernel_rfl)))
      have NB148_146 := Aside0.mk (Y39 (hon 20 (by kernel_rfl)) (hon 22 (by kernel_rfl)))
      have NB146_148 := Aside0.mk (Y30 (hon 20 (by kernel_rfl)) (hon 22 (by kernel_rfl)))
      have NB149_146 := Aside0.mk (Y44 (hon 20 (by kernel_rfl)) (hon 23 (by kernel_rfl)))
      have NB146_149 := Aside0.mk (Y31 (hon 20 (by kernel_rfl)) (hon 23 (by kernel_rfl)))
      have NB150_146 := Aside0.mk (Y49 (hon 20 (by kernel_rfl)) (hon 24 (by kernel_rfl)))
      have NB146_150 := Aside0.mk (Y32 (hon 20 (by kernel_rfl)) (hon 24 (by kernel_rfl)))
      have NB148_147 := Aside0.mk (Y40 (hon 21 (by kernel_rfl)) (hon 22 (by kernel_rfl)))
      have NB147_148 := Aside0.mk (Y35 (hon 21 (by kernel_rfl)) (hon 22 (by kernel_rfl)))
      have NB149_147 := Aside0.mk (Y45 (hon 21 (by kernel_rfl)) (hon 23 (by kernel_rfl)))
      have NB147_149 := Aside0.mk (Y36 (hon 21 (by kernel_rfl)) (hon 23 (by kernel_rfl)))
      have NB150_147 := Aside0.mk (Y50 (hon 21 (by kernel_rfl)) (hon 24 (by kernel_rfl)))
      have NB147_150 := Aside0.mk (Y37 (hon 21 (by kernel_rfl)) (hon 24 (by kernel_rfl)))
      have NB149_148 := Aside0.mk (Y46 (hon 22 (by kernel_rfl)) (hon 23 (by kernel_rfl)))
      have NB148_149 := Aside0.mk (Y41 (hon 22 (by kernel_rfl)) (hon 23 (by kernel_rfl)))
      have NB150_148 := Aside0.mk (Y51 (hon 22 (by kernel_rfl)) (hon 24 (by kernel_rfl)))
      have NB148_150 := Aside0.mk (Y42 (hon 22 (by kernel_rfl)) (hon 24 (by kernel_rfl)))
      have NB150_149 := Aside0.mk (Y52 (hon 23 (by kernel_rfl)) (hon 24 (by kernel_rfl)))
      have NB149_150 := Aside0.mk (Y47 (hon 23 (by kernel_rfl)) (hon 24 (by kernel_rfl)))
      have BK146 := Aside0.mk (Y1 (hon 20 (by kernel_rfl)) hb_)
      have GW146 := Aside0.mk (Y16 (hon 20 (by kernel_rfl)))
      have GE146 := Aside0.mk (Y11 (hon 20 (by kernel_rfl)))
      have NB126_146 := Aside0.mk (Y23 (hon 20 (by kernel_rfl)))
      have NB146_126 := Aside0.mk (Y28 (hon 20 (by kernel_rfl)))
      have BK147 := Aside0.mk (Y3 (hon 21 (by kernel_rfl)) (hoff 26 (by kernel_rfl)))
      have GW147 := Aside0.mk (Y17 (hon 21 (by kernel_rfl)))
      have GE147 := Aside0.mk (Y12 (hon 21 (by kernel_rfl)))
      have NB126_147 := Aside0.mk (Y24 (hon 21 (by kernel_rfl)))
      have NB147_126 := Aside0.mk (Y33 (hon 21 (by kernel_rfl)))
      have BK148 := Aside0.mk (Y5 (hon 22 (by kernel_rfl)) (hoff 27 (by kernel_rfl)))
      have GW148 := Aside0.mk (Y18 (hon 22 (by kernel_rfl)))
      have GE148 := Aside0.mk (Y13 (hon 22 (by kernel_rfl)))
      have NB126_148 := Aside0.mk (Y25 (hon 22 (by kernel_rfl)))
      have NB148_126 := Aside0.mk (Y38 (hon 22 (by kernel_rfl)))
      have BK149 := Aside0.mk (Y7 (hon 23 (by kernel_rfl)) (hoff 28 (by kernel_rfl)))
      have GW149 := Aside0.mk (Y19 (hon 23 (by kernel_rfl)))
      have GE149 := Aside0.mk (Y14 (hon 23 (by kernel_rfl)))
      have NB126_149 := Aside0.mk (Y26 (hon 23 (by kernel_rfl)))
      have NB149_126 := Aside0.mk (Y43 (hon 23 (by kernel_rfl)))
      have BK150 := Aside0.mk (Y9 (hon 24 (by kernel_rfl)) (hoff 29 (by kernel_rfl)))
      have GW150 := Aside0.mk (Y20 (hon 24 (by kernel_rfl)))
      have GE150 := Aside0.mk (Y15 (hon 24 (by kernel_rfl)))
      have NB126_150 := Aside0.mk (Y27 (hon 24 (by kernel_rfl)))
      have NB150_126 := Aside0.mk (Y48 (hon 24 (by kernel_rfl)))
      have hs30 : w'.cell? ⟨gb146, 0, none⟩ = some (.int .i64 0) := (blk_cell BK146.out 0).trans rfl
      have hfs30 := blk_frozen BK146.out 0
      have hns30_0 := NB126_146.out
      have hns30_2 := NB147_146.out
      have hns30_3 := NB148_146.out
      have hns30_4 := NB149_146.out
      have hns30_5 := NB150_146.out
      have hms30_0 := NB146_126.out
      have hms30_2 := NB146_147.out
      have hms30_3 := NB146_148.out
      have hms30_4 := NB146_149.out
      have hms30_5 := NB146_150.out
      have hs31 : w'.cell? ⟨gb146, 1, none⟩ = some (.bool false) := (blk_cell BK146.out 1).trans rfl
      have hfs31 := blk_frozen BK146.out 1
      have hns31_0 := NB126_146.out
      have hns31_2 := NB147_146.out
      have hns31_3 := NB148_146.out
      have hns31_4 := NB149_146.out
      have hns31_5 := NB150_146.out
      have hms31_0 := NB146_126.out
      have hms31_2 := NB146_147.out
      have hms31_3 := NB146_148.out
      have hms31_4 := NB146_149.out
      have hms31_5 := NB146_150.out
      refine skip_ (w1 := ?_) (by rfl) rfl ?_ ?_
      rotate_left
      · go_simp
        rfl
      refine hK.out _ _ ⟨gb146, gb147, gb148, gb149, gb150, m20_, m21_, m22_, m23_, m24_, (by rw [ha.out]; exact putSel_none (v := undef) rfl), (by (with_reducible repeat (first | apply Kd.R_alloc | apply Kd.R_drewN | apply Kd.R_drew)); exact Kd.R_mono (Kd.R_far (p := ⟨gb146, 1, none⟩) (Kd.R_far (p := ⟨gb146, 0, none⟩) (Kd.R_types HO130.out BK146.out (by decide)) (fun _ hk => hk.2) (.int .i64 t132)) (fun _ hk => hk.2) (.bool t133)) (fun _ hk => trivial)), (by (with_reducible repeat (first | refine blk_drewN ?_ _ | refine blk_drew ?_ | refine blk_alloc ?_ _)); refine blk_far ?_ NB126_146.out _; (with_reducible repeat (first | refine blk_drewN ?_ _ | refine blk_drew ?_ | refine blk_alloc ?_ _)); refine blk_far ?_ NB126_146.out _; (with_reducible repeat (first | refine blk_drewN ?_ _ | refine blk_drew ?_ | refine blk_alloc ?_ _)); exact BK126.out), (by repeat (first | (with_reducible first | exact HB.out | apply below_alloc | apply pw_below_drewN | apply below_drew1 | refine below_set ?_ GE126.out | refine below_set ?_ GE146.out | refine below_set ?_ GE147.out | refine below_set ?_ GE148.out | refine below_set ?_ GE149.out | refine below_set ?_ GE150.out) | exact HB.out)), fun _ _ => NB147_146.out, fun _ _ => NB146_147.out, fun _ _ => NB148_146.out, fun _ _ => NB146_148.out, fun _ _ => NB149_146.out, fun _ _ => NB146_149.out, fun _ _ => NB150_146.out, fun _ _ => NB146_150.out, fun _ _ => NB148_147.out, fun _ _ => NB147_148.out, fun _ _ => NB149_147.out, fun _ _ => NB147_149.out, fun _ _ => NB150_147.out, fun _ _ => NB147_150.out, fun _ _ => NB149_148.out, fun _ _ => NB148_149.out, fun _ _ => NB150_148.out, fun _ _ => NB148_150.out, fun _ _ => NB150_149.out, fun _ _ => NB149_150.out, fun _ h1_ => absurd ((up_self b 25).symm.trans h1_) (by decide), fun _ => GW146.out, fun _ => GE146.out, fun _ => NB126_146.out, fun _ => NB146_126.out, fun _ _ => (by (with_reducible repeat (first | refine blk_drewN ?_ _ | refine blk_drew ?_ | refine blk_alloc ?_ _)); refine blk_far ?_ NB147_146.out _; (with_reducible repeat (first | refine blk_drewN ?_ _ | refine blk_drew ?_ | refine blk_alloc ?_ _)); refine blk_far ?_ NB147_146.out _; (with_reducible repeat (first | refine blk_drewN ?_ _ | refine blk_drew ?_ | refine blk_alloc ?_ _)); exact BK147.out), fun _ => GW147.out, fun _ => GE147.out, fun _ => NB126_147.out, fun _ => NB147_126.out, fun _ _ => (by (with_reducible repeat (first | refine blk_drewN ?_ _ | refine blk_drew ?_ | refine blk_alloc ?_ _)); refine blk_far ?_ NB148_146.out _; (with_reducible repeat (first | refine blk_drewN ?_ _ | refine blk_drew ?_ | refine blk_alloc ?_ _)); refine blk_far ?_ NB148_146.out _; (with_reducible repeat (first | refine blk_drewN ?_ _ | refine blk_drew ?_ | refine blk_alloc ?_ _)); exact BK148.out), fun _ => GW148.out, fun _ => GE148.out, fun _ => NB126_148.out, fun _ => NB148_126.out, fun _ _ => (by (with_reducible repeat (first | refine blk_drewN ?_ _ | refine blk_drew ?_ | refine blk_alloc ?_ _)); refine blk_far ?_ NB149_146.out _; (with_reducible repeat (first | refine blk_drewN ?_ _ | refine blk_drew ?_ | refine blk_alloc ?_ _)); refine blk_far ?_ NB149_146.out _; (with_reducible repeat (first | refine blk_drewN ?_ _ | refine blk_drew ?_ | refine blk_alloc ?_ _)); exact BK149.out), fun _ => GW149.out, fun _ => GE149.out, fun _ => NB126_149.out, fun _ => NB149_126.out, fun _ _ => (by (with_reducible repeat (first | refine blk_drewN ?_ _ | refine blk_drew ?_ | refine blk_alloc ?_ _)); refine blk_far ?_ NB150_146.out _; (with_reducible repeat (first | refine blk_drewN ?_ _ | refine blk_drew ?_ | refine blk_alloc ?_ _)); refine blk_far ?_ NB150_146.out _; (with_reducible repeat (first | refine blk_drewN ?_ _ | refine blk_drew ?_ | refine blk_alloc ?_ _)); exact BK150.out), fun _ => GW150.out, fun _ => GE150.out, fun _ => NB126_150.out, fun _ => NB150_126.out, fun _ => (by (with_reducible repeat (first | refine blk_drewN ?_ _ | refine blk_drew ?_ | refine blk_alloc ?_ _)); refine blk_put (cs := #[.int .i64 t132, .bool false]) ?_ 1 _ rfl; (with_reducible repeat (first | refine blk_drewN ?_ _ | refine blk_drew ?_ | refine blk_alloc ?_ _)); refine blk_put (cs := #[.int .i64 0, .bool false]) ?_ 0 _ rfl; (with_reducible repeat (first | refine blk_drewN ?_ _ | refine blk_drew ?_ | refine blk_alloc ?_ _)); exact BK146.out), fun h0_ => absurd ((hoff 26 (by kernel_rfl)).symm.trans h0_) (by decide), fun h0_ => absurd ((hoff 27 (by kernel_rfl)).symm.trans h0_) (by decide), fun h0_ => absurd ((hoff 28 (by kernel_rfl)).symm.trans h0_) (by decide), fun h0_ => absurd ((hoff 29 (by kernel_rfl)).symm.trans h0_) (by decide), Y53, Y54, Y55, Y56, Y57⟩
    refine steps_cons ?_ ?_
    · rintro b a w' ⟨gb146, gb147, gb148, gb149, gb150, m20_, m21_, m22_, m23_, m24_, ha, Y22, Y0, Y21, Y34, Y29, Y39, Y30, Y44, Y31, Y49, Y32, Y40, Y35, Y45, Y36, Y50, Y37, Y46, Y41, Y51, Y42, Y52, Y47, Y1, Y16, Y11, Y23, Y28, Y3, Y17, Y12, Y24, Y33, Y5, Y18, Y13, Y25, Y38, Y7, Y19, Y14, Y26, Y43, Y9, Y20, Y15, Y27, Y48, Y2, Y4, Y6, Y8, Y10, Y53, Y54, Y55, Y56, Y57⟩ hb_ hon hoff
      refine ⟨_, rfl, fun K hK => ?_⟩
      have e7 : a.tmps[7]? = some (m21_) := by rw [ha]; exact putSel_on (e := (21, 7, m21_)) 16 rfl rfl (hon 21 (by kernel_rfl)) rfl
      rw [Y54 (hon 21 (by kernel_rfl))] at e7
      have e27 : a.tmps[27]? = some (.agg #[.int .i64 t135, .bool t136]) := by rw [ha]; exact putSel_on (e := (7, 27, .agg #[.int .i64 t135, .bool t136])) 5 rfl rfl (hon 7 (by kernel_rfl)) rfl
      replace ha := Aside0.mk ha
      have HO130 := Aside0.mk Y22
      have BK126 := Aside0.mk Y0
      have HB := Aside0.mk Y21
      have NB147_146 := Aside0.mk (Y34 (hon 20 (by kernel_rfl)) (hon 21 (by kernel_rfl)))
      have NB146_147 := Aside0.mk (Y29 (hon 20 (by kernel_rfl)) (hon 21 (by kernel_rfl)))
      have NB148_146 := Aside0.mk (Y39 (hon 20 (by kernel_rfl)) (hon 22 (by kernel_rfl)))
      have NB146_148 := Aside0.mk (Y30 (hon 20 (by kernel_rfl)) (hon 22 (by kernel_rfl)))
      have NB149_146 := Aside0.mk (Y44 (hon 20 (by kernel_rfl)) (hon 23 (by kernel_rfl)))
      have NB146_149 := Aside0.mk (Y31 (hon 20 (by kernel_rfl)) (hon 23 (by kernel_rfl)))
      have NB150_146 := Aside0.mk (Y49 (hon 20 (by kernel_rfl)) (hon 24 (by kernel_rfl)))
      have NB146_150 := Aside0.mk (Y32 (hon 20 (by kernel_rfl)) (hon 24 (by kernel_rfl)))
      have NB148_147 := Aside0.mk (Y40 (hon 21 (by kernel_rfl)) (hon 22 (by kernel_rfl)))
      have NB147_148 := Aside0.mk (Y35 (hon 21 (by kernel_rfl)) (hon 22 (by kernel_rfl)))
      have NB149_147 := Aside0.mk (Y45 (hon 21 (by kernel_rfl)) (hon 23 (by kernel_rfl)))
      have NB147_149 := Aside0.mk (Y36 (hon 21 (by kernel_rfl)) (hon 23 (by kernel_rfl)))
      have NB150_147 := Aside0.mk (Y50 (hon 21 (by kernel_rfl)) (hon 24 (by kernel_rfl)))
      have NB147_150 := Aside0.mk (Y37 (hon 21 (by kernel_rfl)) (hon 24 (by kernel_rfl)))
      have NB149_148 := Aside0.mk (Y46 (hon 22 (by kernel_rfl)) (hon 23 (by kernel_rfl)))
      have NB148_149 := Aside0.mk (Y41 (hon 22 (by kernel_rfl)) (hon 23 (by kernel_rfl)))
      have NB150_148 := Aside0.mk (Y51 (hon 22 (by kernel_rfl)) (hon 24 (by kernel_rfl)))
      have NB148_150 := Aside0.mk (Y42 (hon 22 (by kernel_rfl)) (hon 24 (by kernel_rfl)))
      have NB150_149 := Aside0.mk (Y52 (hon 23 (by kernel_rfl)) (hon 24 (by kernel_rfl)))
      have NB149_150 := Aside0.mk (Y47 (hon 23 (by kernel_rfl)) (hon 24 (by kernel_rfl)))
      have GW146 := Aside0.mk (Y16 (hon 20 (by kernel_rfl)))
      have GE146 := Aside0.mk (Y11 (hon 20 (by kernel_rfl)))
      have NB126_146 := Aside0.mk (Y23 (hon 20 (by kernel_rfl)))
      have NB146_126 := Aside0.mk (Y28 (hon 20 (by kernel_rfl)))
      have BK147 := Aside0.mk (Y3 (hon 21 (by kernel_rfl)) hb_)
      have GW147 := Aside0.mk (Y17 (hon 21 (by kernel_rfl)))
      have GE147 := Aside0.mk (Y12 (hon 21 (by kernel_rfl)))
      have NB126_147 := Aside0.mk (Y24 (hon 21 (by kernel_rfl)))
      have NB147_126 := Aside0.mk (Y33 (hon 21 (by kernel_rfl)))
      have BK148 := Aside0.mk (Y5 (hon 22 (by kernel_rfl)) (hoff 27 (by kernel_rfl)))
      have GW148 := Aside0.mk (Y18 (hon 22 (by kernel_rfl)))
      have GE148 := Aside0.mk (Y13 (hon 22 (by kernel_rfl)))
      have NB126_148 := Aside0.mk (Y25 (hon 22 (by kernel_rfl)))
      have NB148_126 := Aside0.mk (Y38 (hon 22 (by kernel_rfl)))
      have BK149 := Aside0.mk (Y7 (hon 23 (by kernel_rfl)) (hoff 28 (by kernel_rfl)))
      have GW149 := Aside0.mk (Y19 (hon 23 (by kernel_rfl)))
      have GE149 := Aside0.mk (Y14 (hon 23 (by kernel_rfl)))
      have NB126_149 := Aside0.mk (Y26 (hon 23 (by kernel_rfl)))
      have NB149_126 := Aside0.mk (Y43 (hon 23 (by kernel_rfl)))
      have BK150 := Aside0.mk (Y9 (hon 24 (by kernel_rfl)) (hoff 29 (by kernel_rfl)))
      have GW150 := Aside0.mk (Y20 (hon 24 (by kernel_rfl)))
      have GE150 := Aside0.mk (Y15 (hon 24 (by kernel_rfl)))
      have NB126_150 := Aside0.mk (Y27 (hon 24 (by kernel_rfl)))
      have NB150_126 := Aside0.mk (Y48 (hon 24 (by kernel_rfl)))
      have BK146 := Aside0.mk (Y2 (hon 25 (by kernel_rfl)))
      have hs32 : w'.cell? ⟨gb147, 0, none⟩ = some (.int .i64 0) := (blk_cell BK147.out 0).trans rfl
      have hfs32 := blk_frozen BK147.out 0
      have hns32_0 := NB126_147.out
      have hns32_1 := NB146_147.out
      have hns32_3 := NB148_147.out
      have hns32_4 := NB149_147.out
      have hns32_5 := NB150_147.out
      have hms32_0 := NB147_126.out
      have hms32_1 := NB147_146.out
      have hms32_3 := NB147_148.out
      have hms32_4 := NB147_149.out
      have hms32_5 := NB147_150.out
      have hs33 : w'.cell? ⟨gb147, 1, none⟩ = some (.bool false) := (blk_cell BK147.out 1).trans rfl
      have hfs33 := blk_frozen BK147.out 1
      have hns33_0 := NB126_147.out
      have hns33_1 := NB146_147.out
      have hns33_3 := NB148_147.out
      have hns33_4 := NB149_147.out
      have hns33_5 := NB150_147.out
      have hms33_0 := NB147_126.out
      have hms33_1 := NB147_146.out
      have hms33_3 := NB147_148.out
      have hms33_4 := NB147_149.out
      have hms33_5 := NB147_150.out
      refine skip_ (w1 := ?_) (by rfl) rfl ?_ ?_
      rotate_left
      · go_simp
        rfl
      refine hK.out _ _ ⟨gb146, gb147, gb148, gb149, gb150, m20_, m21_, m22_, m23_, m24_, (by rw [ha.out]; exact putSel_none (v := undef) rfl), (by (with_reducible repeat (first | apply Kd.R_alloc | apply Kd.R_drewN | apply Kd.R_drew)); exact Kd.R_mono (Kd.R_far (p := ⟨gb147, 1, none⟩) (Kd.R_far (p := ⟨gb147, 0, none⟩) (Kd.R_types HO130.out BK147.out (by decide)) (fun _ hk => hk.2) (.int .i64 t135)) (fun _ hk => hk.2) (.bool t136)) (fun _ hk => trivial)), (by (with_reducible repeat (first | refine blk_drewN ?_ _ | refine blk_drew ?_ | refine blk_alloc ?_ _)); refine blk_far ?_ NB126_147.out _; (with_reducible repeat (first | refine blk_drewN ?_ _ | refine blk_drew ?_ | refine blk_alloc ?_ _)); refine blk_far ?_ NB126_147.out _; (with_reducible repeat (first | refine blk_drewN ?_ _ | refine blk_drew ?_ | refine blk_alloc ?_ _)); exact BK126.out), (by repeat (first | (with_reducible first | exact HB.out | apply below_alloc | apply pw_below_drewN | apply below_drew1 | refine below_set ?_ GE126.out | refine below_set ?_ GE146.out | refine below_set ?_ GE147.out | refine below_set ?_ GE148.out | refine below_set ?_ GE149.out | refine below_set ?_ GE150.out) | exact HB.out)), fun _ _ => NB147_146.out, fun _ _ => NB146_147.out, fun _ _ => NB148_146.out, fun _ _ => NB146_148.out, fun _ _ => NB149_146.out, fun _ _ => NB146_149.out, fun _ _ => NB150_146.out, fun _ _ => NB146_150.out, fun _ _ => NB148_147.out, fun _ _ => NB147_148.out, fun _ _ => NB149_147.out, fun _ _ => NB147_149.out, fun _ _ => NB150_147.out, fun _ _ => NB147_150.out, fun _ _ => NB149_148.out, fun _ _ => NB148_149.out, fun _ _ => NB150_148.out, fun _ _ => NB148_150.out, fun _ _ => NB150_149.out, fun _ _ => NB149_150.out, fun _ h1_ => absurd ((hon 25 (by kernel_rfl)).symm.trans h1_) (by decide), fun _ => GW146.out, fun _ => GE146.out, fun _ => NB126_146.out, fun _ => NB146_126.out, fun _ h1_ => absurd ((up_self b 26).symm.trans h1_) (by decide), fun _ => GW147.out, fun _ => GE147.out, fun _ => NB126_147.out, fun _ => NB147_126.out, fun _ _ => (by (with_reducible repeat (first | refine blk_drewN ?_ _ | refine blk_drew ?_ | refine blk_alloc ?_ _)); refine blk_far ?_ NB148_147.out _; (with_reducible repeat (first | refine blk_drewN ?_ _ | refine blk_drew ?_ | refine blk_alloc ?_ _)); refine blk_far ?_ NB148_147.out _; (with_reducible repeat (first | refine blk_drewN ?_ _ | refine blk_drew ?_ | refine blk_alloc ?_ _)); exact BK148.out), fun _ => GW148.out, fun _ => GE148.out, fun _ => NB126_148.out, fun _ => NB148_126.out, fun _ _ => (by (with_reducible repeat (first | refine blk_drewN ?_ _ | refine blk_drew ?_ | refine blk_alloc ?_ _)); refine blk_far ?_ NB149_147.out _; (with_reducible repeat (first | refine blk_drewN ?_ _ | refine blk_drew ?_ | refine blk_alloc ?_ _)); refine blk_far ?_ NB149_147.out _; (with_reducible repeat (first | refine blk_drewN ?_ _ | refine blk_drew ?_ | refine blk_alloc ?_ _)); exact BK149.out), fun _ => GW149.out, fun _ => GE149.out, fun _ => NB126_149.out, fun _ => NB149_126.out, fun _ _ => (by (with_reducible repeat (first | refine blk_drewN ?_ _ | refine blk_drew ?_ | refine blk_alloc ?_ _)); refine blk_far ?_ NB150_147.out _; (with_reducible repeat (first | refine blk_drewN ?_ _ | refine blk_drew ?_ | refine blk_alloc ?_ _)); refine blk_far ?_ NB150_147.out _; (with_reducible repeat (first | refine blk_drewN ?_ _ | refine blk_drew ?_ | refine blk_alloc ?_ _)); exact BK150.out), fun _ => GW150.out, fun _ => GE150.out, fun _ => NB126_150.out, fun _ => NB150_126.out, fun _ => (by (with_reducible repeat (first | refine blk_drewN ?_ _ | refine blk_drew ?_ | refine blk_alloc ?_ _)); refine blk_far ?_ NB146_147.out _; (with_reducible repeat (first | refine blk_drewN ?_ _ | refine blk_drew ?_ | refine blk_alloc ?_ _)); refine blk_far ?_ NB146_147.out _; (with_reducible repeat (first | refine blk_drewN ?_ _ | refine blk_drew ?_ | refine blk_alloc ?_ _)); exact BK146.out), fun _ => (by (with_reducible repeat (first | refine blk_drewN ?_ _ | refine blk_drew ?_ | refine blk_alloc ?_ _)); refine blk_put (cs := #[.int .i64 t135, .bool false]) ?_ 1 _ rfl; (with_reducible repeat (first | refine blk_drewN ?_ _ | refine blk_drew ?_ | refine blk_alloc ?_ _)); refine blk_put (cs := #[.int .i64 0, .bool false]) ?_ 0 _ rfl; (with_reducible repeat (first | refine blk_drewN ?_ _ | refine blk_drew ?_ | refine blk_alloc ?_ _)); exact BK147.out), fun h0_ => absurd ((hoff 27 (by kernel_rfl)).symm.trans h0_) (by decide), fun h0_ => absurd ((hoff 28 (by kernel_rfl)).symm.trans h0_) (by decide), fun h0_ => absurd ((hoff 29 (by kernel_rfl)).symm.trans h0_) (by decide), Y53, Y54, Y55, Y56, Y57⟩
    refine steps_cons ?_ ?_
    · rintro b a w' ⟨gb146, gb147, gb148, gb149, gb150, m20_, m21_, m22_, m23_, m24_, ha, Y22, Y0, Y21, Y34, Y29, Y39, Y30, Y44, Y31, Y49, Y32, Y40, Y35, Y45, Y36, Y50, Y37, Y46, Y41, Y51, Y42, Y52, Y47, Y1, Y16, Y11, Y23, Y28, Y3, Y17, Y12, Y24, Y33, Y5, Y18, Y13, Y25, Y38, Y7, Y19, Y14, Y26, Y43, Y9, Y20, Y15, Y27, Y48, Y2, Y4, Y6, Y8, Y10, Y53, Y54, Y55, Y56, Y57⟩ hb_ hon hoff
      refine ⟨_, rfl, fun K hK => ?_⟩
      have e8 : a.tmps[8]? = some (m22_) := by rw [ha]; exact putSel_on (e := (22, 8, m22_)) 17 rfl rfl (hon 22 (by kernel_rfl)) rfl
      rw [Y55 (hon 22 (by kernel_rfl))] at e8
      have e31 : a.tmps[31]? = some (.agg #[.int .i64 t138, .bool t139]) := by rw [ha]; exact putSel_on (e := (11, 31, .agg #[.int .i64 t138, .bool t139])) 8 rfl rfl (hon 11 (by kernel_rfl)) rfl
      replace ha := Aside0.mk ha
      have HO130 := Aside0.mk Y22
      have BK126 := Aside0.mk Y0
      have HB := Aside0.mk Y21
      have NB147_146 := Aside0.mk (Y34 (hon 20 (by kernel_rfl)) (hon 21 (by kernel_rfl)))
      have NB146_147 := Aside0.mk (Y29 (hon 20 (by kernel_rfl)) (hon 21 (by kernel_rfl)))
      have NB148_146 := Aside0.mk (Y39 (hon 20 (by kernel_rfl)) (hon 22 (by kernel_rfl)))
      have NB146_148 := Aside0.mk (Y30 (hon 20 (by kernel_rfl)) (hon 22 (by kernel_rfl)))
      have NB149_146 := Aside0.mk (Y44 (hon 20 (by kernel_rfl)) (hon 23 (by kernel_rfl)))
      have NB146_149 := Aside0.mk (Y31 (hon 20 (by kernel_rfl)) (hon 23 (by kernel_rfl)))
      have NB150_146 := Aside0.mk (Y49 (hon 20 (by kernel_rfl)) (hon 24 (by kernel_rfl)))
      have NB146_150 := Aside0.mk (Y32 (hon 20 (by kernel_rfl)) (hon 24 (by kernel_rfl)))
      have NB148_147 := Aside0.mk (Y40 (hon 21 (by kernel_rfl)) (hon 22 (by kernel_rfl)))
      have NB147_148 := Aside0.mk (Y35 (hon 21 (by kernel_rfl)) (hon 22 (by kernel_rfl)))
      have NB149_147 := Aside0.mk (Y45 (hon 21 (by kernel_rfl)) (hon 23 (by kernel_rfl)))
      have NB147_149 := Aside0.mk (Y36 (hon 21 (by kernel_rfl)) (hon 23 (by kernel_rfl)))
      have NB150_147 := Aside0.mk (Y50 (hon 21 (by kernel_rfl)) (hon 24 (by kernel_rfl)))
      have NB147_150 := Aside0.mk (Y37 (hon 21 (by kernel_rfl)) (hon 24 (by kernel_rfl)))
      have NB149_148 := Aside0.mk (Y46 (hon 22 (by kernel_rfl)) (hon 23 (by kernel_rfl)))
      have NB148_149 := Aside0.mk (Y41 (hon 22 (by kernel_rfl)) (hon 23 (by kernel_rfl)))
      have NB150_148 := Aside0.mk (Y51 (hon 22 (by kernel_rfl)) (hon 24 (by kernel_rfl)))
      have NB148_150 := Aside0.mk (Y42 (hon 22 (by kernel_rfl)) (hon 24 (by kernel_rfl)))
      have NB150_149 := Aside0.mk (Y52 (hon 23 (by kernel_rfl)) (hon 24 (by kernel_rfl)))
      have NB149_150 := Aside0.mk (Y47 (hon 23 (by kernel_rfl)) (hon 24 (by kernel_rfl)))
      have GW146 := Aside0.mk (Y16 (hon 20 (by kernel_rfl)))
      have GE146 := Aside0.mk (Y11 (hon 20 (by kernel_rfl)))
      have NB126_146 := Aside0.mk (Y23 (hon 20 (by kernel_rfl)))
      have NB146_126 := Aside0.mk (Y28 (hon 20 (by kernel_rfl)))
      have GW147 := Aside0.mk (Y17 (hon 21 (by kernel_rfl)))
      have GE147 := Aside0.mk (Y12 (hon 21 (by kernel_rfl)))
      have NB126_147 := Aside0.mk (Y24 (hon 21 (by kernel_rfl)))
      have NB147_126 := Aside0.mk (Y33 (hon 21 (by kernel_rfl)))
      have BK148 := Aside0.mk (Y5 (hon 22 (by kernel_rfl)) hb_)
      have GW148 := Aside0.mk (Y18 (hon 22 (by kernel_rfl)))
      have GE148 := Aside0.mk (Y13 (hon 22 (by kernel_rfl)))
      have NB126_148 := Aside0.mk (Y25 (hon 22 (by kernel_rfl)))
      have NB148_126 := Aside0.mk (Y38 (hon 22 (by kernel_rfl)))
      have BK149 := Aside0.mk (Y7 (hon 23 (by kernel_rfl)) (hoff 28 (by kernel_rfl)))
      have GW149 := Aside0.mk (Y19 (hon 23 (by kernel_rfl)))
      have GE149 := Aside0.mk (Y14 (hon 23 (by kernel_rfl)))
      have NB126_149 := Aside0.mk (Y26 (hon 23 (by kernel_rfl)))
      have NB149_126 := Aside0.mk (Y43 (hon 23 (by kernel_rfl)))
      have BK150 := Aside0.mk (Y9 (hon 24 (by kernel_rfl)) (hoff 29 (by kernel_rfl)))
      have GW150 := Aside0.mk (Y20 (hon 24 (by kernel_rfl)))
      have GE150 := Aside0.mk (Y15 (hon 24 (by kernel_rfl)))
      have NB126_150 := Aside0.mk (Y27 (hon 24 (by kernel_rfl)))
      have NB150_126 := Aside0.mk (Y48 (hon 24 (by kernel_rfl)))
      have BK146 := Aside0.mk (Y2 (hon 25 (by kernel_rfl)))
      have BK147 := Aside0.mk (Y4 (hon 26 (by kernel_rfl)))
      have hs34 : w'.cell? ⟨gb148, 0, none⟩ = some (.int .i64 0) := (blk_cell BK148.out 0).trans rfl
      have hfs34 := blk_frozen BK148.out 0
      have hns34_0 := NB126_148.out
      have hns34_1 := NB146_148.out
      have hns34_2 := NB147_148.out
      have hns34_4 := NB149_148.out
      have hns34_5 := NB150_148.out
      have hms34_0 := NB148_126.out
      have hms34_1 := NB148_146.out
      have hms34_2 := NB148_147.out
      have hms34_4 := NB148_149.out
      have hms34_5 := NB148_150.out
      have hs35 : w'.cell? ⟨gb148, 1, none⟩ = some (.bool false) := (blk_cell BK148.out 1).trans rfl
      have hfs35 := blk_frozen BK148.out 1
      have hns35_0 := NB126_148.out
      have hns35_1 := NB146_148.out
      have hns35_2 := NB147_148.out
      have hns35_4 := NB149_148.out
      have hns35_5 := NB150_148.out
      have hms35_0 := NB148_126.out
      have hms35_1 := NB148_146.out
      have hms35_2 := NB148_147.out
      have hms35_4 := NB148_149.out
      have hms35_5 := NB148_150.out
      refine skip_ (w1 := ?_) (by rfl) rfl ?_ ?_
      rotate_left
      · go_simp
        rfl
      refine hK.out _ _ ⟨gb146, gb147, gb148, gb149, gb150, m20_, m21_, m22_, m23_, m24_, (by rw [ha.out]; exact putSel_none (v := undef) rfl), (by (with_reducible repeat (first | apply Kd.R_alloc | apply Kd.R_drewN | apply Kd.R_drew)); exact Kd.R_mono (Kd.R_far (p := ⟨gb148, 1, none⟩) (Kd.R_far (p := ⟨gb148, 0, none⟩) (Kd.R_types HO130.out BK148.out (by decide)) (fun _ hk => hk.2) (.int .i64 t138)) (fun _ hk => hk.2) (.bool t139)) (fun _ hk => trivial)), (by (with_reducible repeat (first | refine blk_drewN ?_ _ | refine blk_drew ?_ | refine blk_alloc ?_ _)); refine blk_far ?_ NB126_148.out _; (with_reducible repeat (first | refine blk_drewN ?_ _ | refine blk_drew ?_ | refine blk_alloc ?_ _)); refine blk_far ?_ NB126_148.out _; (with_reducible repeat (first | refine blk_drewN ?_ _ | refine blk_drew ?_ | refine blk_alloc ?_ _)); exact BK126.out), (by repeat (first | (with_reducible first | exact HB.out | apply below_alloc | apply pw_below_drewN | apply below_drew1 | refine below_set ?_ GE126.out | refine below_set ?_ GE146.out | refine below_set ?_ GE147.out | refine below_set ?_ GE148.out | refine below_set ?_ GE149.out | refine below_set ?_ GE150.out) | exact HB.out)), fun _ _ => NB147_146.out, fun _ _ => NB146_147.out, fun _ _ => NB148_146.out, fun _ _ => NB146_148.out, fun _ _ => NB149_146.out, fun _ _ => NB146_149.out, fun _ _ => NB150_146.out, fun _ _ => NB146_150.out, fun _ _ => NB148_147.out, fun _ _ => NB147_148.out, fun _ _ => NB149_147.out, fun _ _ => NB147_149.out, fun _ _ => NB150_147.out, fun _ _ => NB147_150.out, fun _ _ => NB149_148.out, fun _ _ => NB148_149.out, fun _ _ => NB150_148.out, fun _ _ => NB148_150.out, fun _ _ => NB150_149.out, fun _ _ => NB149_150.out, fun _ h1_ => absurd ((hon 25 (by kernel_rfl)).symm.trans h1_) (by decide), fun _ => GW146.out, fun _ => GE146.out, fun _ => NB126_146.out, fun _ => NB146_126.out, fun _ h1_ => absurd ((hon 26 (by kernel_rfl)).symm.trans h1_) (by decide), fun _ => GW147.out, fun _ => GE147.out, fun _ => NB126_147.out, fun _ => NB147_126.out, fun _ h1_ => absurd ((up_self b 27).symm.trans h1_) (by decide), fun _ => GW148.out, fun _ => GE148.out, fun _ => NB126_148.out, fun _ => NB148_126.out, fun _ _ => (by (with_reducible repeat (first | refine blk_drewN ?_ _ | refine blk_drew ?_ | refine blk_alloc ?_ _)); refine blk_far ?_ NB149_148.out _; (with_reducible repeat (first | refine blk_drewN ?_ _ | refine blk_drew ?_ | refine blk_alloc ?_ _)); refine blk_far ?_ NB149_148.out _; (with_reducible repeat (first | refine blk_drewN ?_ _ | refine blk_drew ?_ | refine blk_alloc ?_ _)); exact BK149.out), fun _ => GW149.out, fun _ => GE149.out, fun _ => NB126_149.out, fun _ => NB149_126.out, fun _ _ => (by (with_reducible repeat (first | refine blk_drewN ?_ _ | refine blk_drew ?_ | refine blk_alloc ?_ _)); refine blk_far ?_ NB150_148.out _; (with_reducible repeat (first | refine blk_drewN ?_ _ | refine blk_drew ?_ | refine blk_alloc ?_ _)); refine blk_far ?_ NB150_148.out _; (with_reducible repeat (first | refine blk_drewN ?_ _ | refine blk_drew ?_ | refine blk_alloc ?_ _)); exact BK150.out), fun _ => GW150.out, fun _ => GE150.out, fun _ => NB126_150.out, fun _ => NB150_126.out, fun _ => (by (with_reducible repeat (first | refine blk_drewN ?_ _ | refine blk_drew ?_ | refine blk_alloc ?_ _)); refine blk_far ?_ NB146_148.out _; (with_reducible repeat (first | refine blk_drewN ?_ _ | refine blk_drew ?_ | refine blk_alloc ?_ _)); refine blk_far ?_ NB146_148.out _; (with_reducible repeat (first | refine blk_drewN ?_ _ | refine blk_drew ?_ | refine blk_alloc ?_ _)); exact BK146.out), fun _ => (by (with_reducible repeat (first | refine blk_drewN ?_ _ | refine blk_drew ?_ | refine blk_alloc ?_ _)); refine blk_far ?_ NB147_148.out _; (with_reducible repeat (first | refine blk_drewN ?_ _ | refine blk_drew ?_ | refine blk_alloc ?_ _)); refine blk_far ?_ NB147_148.out _; (with_reducible repeat (first | refine blk_drewN ?_ _ | refine blk_drew ?_ | refine blk_alloc ?_ _)); exact BK147.out), fun _ => (by (with_reducible repeat (first | refine blk_drewN ?_ _ | refine blk_drew ?_ | refine blk_alloc ?_ _)); refine blk_put (cs := #[.int .i64 t138, .bool false]) ?_ 1 _ rfl; (with_reducible repeat (first | refine blk_drewN ?_ _ | refine blk_drew ?_ | refine blk_alloc ?_ _)); refine blk_put (cs := #[.int .i64 0, .bool false]) ?_ 0 _ rfl; (with_reducible repeat (first | refine blk_drewN ?_ _ | refine blk_drew ?_ | refine blk_alloc ?_ _)); exact BK148.out), fun h0_ => absurd ((hoff 28 (by kernel_rfl)).symm.trans h0_) (by decide), fun h0_ => absurd ((hoff 29 (by kernel_rfl)).symm.trans h0_) (by decide), Y53, Y54, Y55, Y56, Y57⟩
    refine steps_cons ?_ ?_
    · rintro b a w' ⟨gb146, gb147, gb148, gb149, gb150, m20_, m21_, m22_, m23_, m24_, ha, Y22, Y0, Y21, Y34, Y29, Y39, Y30, Y44, Y31, Y49, Y32, Y40, Y35, Y45, Y36, Y50, Y37, Y46, Y41, Y51, Y42, Y52, Y47, Y1, Y16, Y11, Y23, Y28, Y3, Y17, Y12, Y24, Y33, Y5, Y18, Y13, Y25, Y38, Y7, Y19, Y14, Y26, Y43, Y9, Y20, Y15, Y27, Y48, Y2, Y4, Y6, Y8, Y10, Y53, Y54, Y55, Y56, Y57⟩ hb_ hon hoff
      refine ⟨_, rfl, fun K hK => ?_⟩
      have e9 : a.tmps[9]? = some (m23_) := by rw [ha]; exact putSel_on (e := (23, 9, m23_)) 18 rfl rfl (hon 23 (by kernel_rfl)) rfl
      rw [Y56 (hon 23 (by kernel_rfl))] at e9
      have e35 : a.tmps[35]? = some (.agg #[.int .i64 t141, .bool t142]) := by rw [ha]; exact putSel_on (e := (15, 35, .agg #[.int .i64 t141, .bool t142])) 11 rfl rfl (hon 15 (by kernel_rfl)) rfl
      replace ha := Aside0.mk ha
      have HO130 := Aside0.mk Y22
      have BK126 := Aside0.mk Y0
      have HB := Aside0.mk Y21
      have NB147_146 := Aside0.mk (Y34 (hon 20 (by kernel_rfl)) (hon 21 (by kernel_rfl)))
      have NB146_147 := Aside0.mk (Y29 (hon 20 (by kernel_rfl)) (hon 21 (by kernel_rfl)))
      have NB148_146 := Aside0.mk (Y39 (hon 20 (by kernel_rfl)) (hon 22 (by kernel_rfl)))
      have NB146_148 := Aside0.mk (Y30 (hon 20 (by kernel_rfl)) (hon 22 (by kernel_rfl)))
      have NB149_146 := Aside0.mk (Y44 (hon 20 (by kernel_rfl)) (hon 23 (by kernel_rfl)))
      have NB146_149 := Aside0.mk (Y31 (hon 20 (by kernel_rfl)) (hon 23 (by kernel_rfl)))
      have NB150_146 := Aside0.mk (Y49 (hon 20 (by kernel_rfl)) (hon 24 (by kernel_rfl)))
      have NB146_150 := Aside0.mk (Y32 (hon 20 (by kernel_rfl)) (hon 24 (by kernel_rfl)))
      have NB148_147 := Aside0.mk (Y40 (hon 21 (by kernel_rfl)) (hon 22 (by kernel_rfl)))
      have NB147_148 := Aside0.mk (Y35 (hon 21 (by kernel_rfl)) (hon 22 (by kernel_rfl)))
      have NB149_147 := Aside0.mk (Y45 (hon 21 (by kernel_rfl)) (hon 23 (by kernel_rfl)))
      have NB147_149 := Aside0.mk (Y36 (hon 21 (by kernel_rfl)) (hon 23 (by kernel_rfl)))
      have NB150_147 := Aside0.mk (Y50 (hon 21 (by kernel_rfl)) (hon 24 (by kernel_rfl)))
      have NB147_150 := Aside0.mk (Y37 (hon 21 (by kernel_rfl)) (hon 24 (by kernel_rfl)))
      have NB149_148 := Aside0.mk (Y46 (hon 22 (by kernel_rfl)) (hon 23 (by kernel_rfl)))
      have NB148_149 := Aside0.mk (Y41 (hon 22 (by kernel_rfl)) (hon 23 (by kernel_rfl)))
      have NB150_148 := Aside0.mk (Y51 (hon 22 (by kernel_rfl)) (hon 24 (by kernel_rfl)))
      have NB148_150 := Aside0.mk (Y42 (hon 22 (by kernel_rfl)) (hon 24 (by kernel_rfl)))
      have NB150_149 := Aside0.mk (Y52 (hon 23 (by kernel_rfl)) (hon 24 (by kernel_rfl)))
      have NB149_150 := Aside0.mk (Y47 (hon 23 (by kernel_rfl)) (hon 24 (by kernel_rfl)))
      have GW146 := Aside0.mk (Y16 (hon 20 (by kernel_rfl)))
      have GE146 := Aside0.mk (Y11 (hon 20 (by kernel_rfl)))
      have NB126_146 := Aside0.mk (Y23 (hon 20 (by kernel_rfl)))
      have NB146_126 := Aside0.mk (Y28 (hon 20 (by kernel_rfl)))
      have GW147 := Aside0.mk (Y17 (hon 21 (by kernel_rfl)))
      have GE147 := Aside0.mk (Y12 (hon 21 (by kernel_rfl)))
      have NB126_147 := Aside0.mk (Y24 (hon 21 (by kernel_rfl)))
      have NB147_126 := Aside0.mk (Y33 (hon 21 (by kernel_rfl)))
      have GW148 := Aside0.mk (Y18 (hon 22 (by kernel_rfl)))
      have GE148 := Aside0.mk (Y13 (hon 22 (by kernel_rfl)))
      have NB126_148 := Aside0.mk (Y25 (hon 22 (by kernel_rfl)))
      have NB148_126 := Aside0.mk (Y38 (hon 22 (by kernel_rfl)))
      have BK149 := Aside0.mk (Y7 (hon 23 (by kernel_rfl)) hb_)
      have GW149 := Aside0.mk (Y19 (hon 23 (by kernel_rfl)))
      have GE149 := Aside0.mk (Y14 (hon 23 (by kernel_rfl)))
      have NB126_149 := Aside0.mk (Y26 (hon 23 (by kernel_rfl)))
      have NB149_126 := Aside0.mk (Y43 (hon 23 (by kernel_rfl)))
      have BK150 := Aside0.mk (Y9 (hon 24 (by kernel_rfl)) (hoff 29 (by kernel_rfl)))
      have GW150 := Aside0.mk (Y20 (hon 24 (by kernel_rfl)))
      have GE150 := Aside0.mk (Y15 (hon 24 (by kernel_rfl)))
      have NB126_150 := Aside0.mk (Y27 (hon 24 (by kernel_rfl)))
      have NB150_126 := Aside0.mk (Y48 (hon 24 (by kernel_rfl)))
      have BK146 := Aside0.mk (Y2 (hon 25 (by kernel_rfl)))
      have BK147 := Aside0.mk (Y4 (hon 26 (by kernel_rfl)))
      have BK148 := Aside0.mk (Y6 (hon 27 (by kernel_rfl)))
      have hs36 : w'.cell? ⟨gb149, 0, none⟩ = some (.int .i64 0) := (blk_cell BK149.out 0).trans rfl
      have hfs36 := blk_frozen BK149.out 0
      have hns36_0 := NB126_149.out
      have hns36_1 := NB146_149.out
      have hns36_2 := NB147_149.out
      have hns36_3 := NB148_149.out
      have hns36_5 := NB150_149.out
      have hms36_0 := NB149_126.out
      have hms36_1 := NB149_146.out
      have hms36_2 := NB149_147.out
      have hms36_3 := NB149_148.out
      have hms36_5 := NB149_150.out
      have hs37 : w'.cell? ⟨gb149, 1, none⟩ = some (.bool false) := (blk_cell BK149.out 1).trans rfl
      have hfs37 := blk_frozen BK149.out 1
      have hns37_0 := NB126_149.out
      have hns37_1 := NB146_149.out
      have hns37_2 := NB147_149.out
      have hns37_3 := NB148_149.out
      have hns37_5 := NB150_149.out
      have hms37_0 := NB149_126.out
      have hms37_1 := NB149_146.out
      have hms37_2 := NB149_147.out
      have hms37_3 := NB149_148.out
      have hms37_5 := NB149_150.out
      refine skip_ (w1 := ?_) (by rfl) rfl ?_ ?_
      rotate_left
      · go_simp
        rfl
      refine hK.out _ _ ⟨gb146, gb147, gb148, gb149, gb150, m20_, m21_, m22_, m23_, m24_, (by rw [ha.out]; exact putSel_none (v := undef) rfl), (by (with_reducible repeat (first | apply Kd.R_alloc | apply Kd.R_drewN | apply Kd.R_drew)); exact Kd.R_mono (Kd.R_far (p := ⟨gb149, 1, none⟩) (Kd.R_far (p := ⟨gb149, 0, none⟩) (Kd.R_types HO130.out BK149.out (by decide)) (fun _ hk => hk.2) (.int .i64 t141)) (fun _ hk => hk.2) (.bool t142)) (fun _ hk => trivial)), (by (with_reducible repeat (first | refine blk_drewN ?_ _ | refine blk_drew ?_ | refine blk_alloc ?_ _)); refine blk_far ?_ NB126_149.out _; (with_reducible repeat (first | refine blk_drewN ?_ _ | refine blk_drew ?_ | refine blk_alloc ?_ _)); refine blk_far ?_ NB126_149.out _; (with_reducible repeat (first | refine blk_drewN ?_ _ | refine blk_drew ?_ | refine blk_alloc ?_ _)); exact BK126.out), (by repeat (first | (with_reducible first | exact HB.out | apply below_alloc | apply pw_below_drewN | apply below_drew1 | refine below_set ?_ GE126.out | refine below_set ?_ GE146.out | refine below_set ?_ GE147.out | refine below_set ?_ GE148.out | refine below_set ?_ GE149.out | refine below_set ?_ GE150.out) | exact HB.out)), fun _ _ => NB147_146.out, fun _ _ => NB146_147.out, fun _ _ => NB148_146.out, fun _ _ => NB146_148.out, fun _ _ => NB149_146.out, fun _ _ => NB146_149.out, fun _ _ => NB150_146.out, fun _ _ => NB146_150.out, fun _ _ => NB148_147.out, fun _ _ => NB147_148.out, fun _ _ => NB149_147.out, fun _ _ => NB147_149.out, fun _ _ => NB150_147.out, fun _ _ => NB147_150.out, fun _ _ => NB149_148.out, fun _ _ => NB148_149.out, fun _ _ => NB150_148.out, fun _ _ => NB148_150.out, fun _ _ => NB150_149.out, fun _ _ => NB149_150.out, fun _ h1_ => absurd ((hon 25 (by kernel_rfl)).symm.trans h1_) (by decide), fun _ => GW146.out, fun _ => GE146.out, fun _ => NB126_146.out, fun _ => NB146_126.out, fun _ h1_ => absurd ((hon 26 (by kernel_rfl)).symm.trans h1_) (by decide), fun _ => GW147.out, fun _ => GE147.out, fun _ => NB126_147.out, fun _ => NB147_126.out, fun _ h1_ => absurd ((hon 27 (by kernel_rfl)).symm.trans h1_) (by decide), fun _ => GW148.out, fun _ => GE148.out, fun _ => NB126_148.out, fun _ => NB148_126.out, fun _ h1_ => absurd ((up_self b 28).symm.trans h1_) (by decide), fun _ => GW149.out, fun _ => GE149.out, fun _ => NB126_149.out, fun _ => NB149_126.out, fun _ _ => (by (with_reducible repeat (first | refine blk_drewN ?_ _ | refine blk_drew ?_ | refine blk_alloc ?_ _)); refine blk_far ?_ NB150_149.out _; (with_reducible repeat (first | refine blk_drewN ?_ _ | refine blk_drew ?_ | refine blk_alloc ?_ _)); refine blk_far ?_ NB150_149.out _; (with_reducible repeat (first | refine blk_drewN ?_ _ | refine blk_drew ?_ | refine blk_alloc ?_ _)); exact BK150.out), fun _ => GW150.out, fun _ => GE150.out, fun _ => NB126_150.out, fun _ => NB150_126.out, fun _ => (by (with_reducible repeat (first | refine blk_drewN ?_ _ | refine blk_drew ?_ | refine blk_alloc ?_ _)); refine blk_far ?_ NB146_149.out _; (with_reducible repeat (first | refine blk_drewN ?_ _ | refine blk_drew ?_ | refine blk_alloc ?_ _)); refine blk_far ?_ NB146_149.out _; (with_reducible repeat (first | refine blk_drewN ?_ _ | refine blk_drew ?_ | refine blk_alloc ?_ _)); exact BK146.out), fun _ => (by (with_reducible repeat (first | refine blk_drewN ?_ _ | refine blk_drew ?_ | refine blk_alloc ?_ _)); refine blk_far ?_ NB147_149.out _; (with_reducible repeat (first | refine blk_drewN ?_ _ | refine blk_drew ?_ | refine blk_alloc ?_ _)); refine blk_far ?_ NB147_149.out _; (with_reducible repeat (first | refine blk_drewN ?_ _ | refine blk_drew ?_ | refine blk_alloc ?_ _)); exact BK147.out), fun _ => (by (with_reducible repeat (first | refine blk_drewN ?_ _ | refine blk_drew ?_ | refine blk_alloc ?_ _)); refine blk_far ?_ NB148_149.out _; (with_reducible repeat (first | refine blk_drewN ?_ _ | refine blk_drew ?_ | refine blk_alloc ?_ _)); refine blk_far ?_ NB148_149.out _; (with_reducible repeat (first | refine blk_drewN ?_ _ | refine blk_drew ?_ | refine blk_alloc ?_ _)); exact BK148.out), fun _ => (by (with_reducible repeat (first | refine blk_drewN ?_ _ | refine blk_drew ?_ | refine blk_alloc ?_ _)); refine blk_put (cs := #[.int .i64 t141, .bool false]) ?_ 1 _ rfl; (with_reducible repeat (first | refine blk_drewN ?_ _ | refine blk_drew ?_ | refine blk_alloc ?_ _)); refine blk_put (cs := #[.int .i64 0, .bool false]) ?_ 0 _ rfl; (with_reducible repeat (first | refine blk_drewN ?_ _ | refine blk_drew ?_ | refine blk_alloc ?_ _)); exact BK149.out), fun h0_ => absurd ((hoff 29 (by kernel_rfl)).symm.trans h0_) (by decide), Y53, Y54, Y55, Y56, Y57⟩
    refine steps_cons ?_ ?_
    · rintro b a w' ⟨gb146, gb147, gb148, gb149, gb150, m20_, m21_, m22_, m23_, m24_, ha, Y22, Y0, Y21, Y34, Y29, Y39, Y30, Y44, Y31, Y49, Y32, Y40, Y35, Y45, Y36, Y50, Y37, Y46, Y41, Y51, Y42, Y52, Y47, Y1, Y16, Y11, Y23, Y28, Y3, Y17, Y12, Y24, Y33, Y5, Y18, Y13, Y25, Y38, Y7, Y19, Y14, Y26, Y43, Y9, Y20, Y15, Y27, Y48, Y2, Y4, Y6, Y8, Y10, Y53, Y54, Y55, Y56, Y57⟩ hb_ hon hoff
      refine ⟨_, rfl, fun K hK => ?_⟩
      have e10 : a.tmps[10]? = some (m24_) := by rw [ha]; exact putSel_on (e := (24, 10, m24_)) 19 rfl rfl (hon 24 (by kernel_rfl)) rfl
      rw [Y57 (hon 24 (by kernel_rfl))] at e10
      have e39 : a.tmps[39]? = some (.agg #[.string t144, .bool t145]) := by rw [ha]; exact putSel_on (e := (19, 39, .agg #[.string t144, .bool t145])) 14 rfl rfl (hon 19 (by kernel_rfl)) rfl
      replace ha := Aside0.mk ha
      have HO130 := Aside0.mk Y22
      have BK126 := Aside0.mk Y0
      have HB := Aside0.mk Y21
      have NB147_146 := Aside0.mk (Y34 (hon 20 (by kernel_rfl)) (hon 21 (by kernel_rfl)))
      have NB146_147 := Aside0.mk (Y29 (hon 20 (by kernel_rfl)) (hon 21 (by kernel_rfl)))
      have NB148_146 := Aside0.mk (Y39 (hon 20 (by kernel_rfl)) (hon 22 (by kernel_rfl)))
      have NB146_148 := Aside0.mk (Y30 (hon 20 (by kernel_rfl)) (hon 22 (by kernel_rfl)))
      have NB149_146 := Aside0.mk (Y44 (hon 20 (by kernel_rfl)) (hon 23 (by kernel_rfl)))
      have NB146_149 := Aside0.mk (Y31 (hon 20 (by kernel_rfl)) (hon 23 (by kernel_rfl)))
      have NB150_146 := Aside0.mk (Y49 (hon 20 (by kernel_rfl)) (hon 24 (by kernel_rfl)))
      have NB146_150 := Aside0.mk (Y32 (hon 20 (by kernel_rfl)) (hon 24 (by kernel_rfl)))
      have NB148_147 := Aside0.mk (Y40 (hon 21 (by kernel_rfl)) (hon 22 (by kernel_rfl)))
      have NB147_148 := Aside0.mk (Y35 (hon 21 (by kernel_rfl)) (hon 22 (by kernel_rfl)))
      have NB149_147 := Aside0.mk (Y45 (hon 21 (by kernel_rfl)) (hon 23 (by kernel_rfl)))
      have NB147_149 := Aside0.mk (Y36 (hon 21 (by kernel_rfl)) (hon 23 (by kernel_rfl)))
      have NB150_147 := Aside0.mk (Y50 (hon 21 (by kernel_rfl)) (hon 24 (by kernel_rfl)))
      have NB147_150 := Aside0.mk (Y37 (hon 21 (by kernel_rfl)) (hon 24 (by kernel_rfl)))
      have NB149_148 := Aside0.mk (Y46 (hon 22 (by kernel_rfl)) (hon 23 (by kernel_rfl)))
      have NB148_149 := Aside0.mk (Y41 (hon 22 (by kernel_rfl)) (hon 23 (by kernel_rfl)))
      have NB150_148 := Aside0.mk (Y51 (hon 22 (by kernel_rfl)) (hon 24 (by kernel_rfl)))
      have NB148_150 := Aside0.mk (Y42 (hon 22 (by kernel_rfl)) (hon 24 (by kernel_rfl)))
      have NB150_149 := Aside0.mk (Y52 (hon 23 (by kernel_rfl)) (hon 24 (by kernel_rfl)))
      have NB149_150 := Aside0.mk (Y47 (hon 23 (by kernel_rfl)) (hon 24 (by kernel_rfl)))
      have GW146 := Aside0.mk (Y16 (hon 20 (by kernel_rfl)))
      have GE146 := Aside0.mk (Y11 (hon 20 (by kernel_rfl)))
      have NB126_146 := Aside0.mk (Y23 (hon 20 (by kernel_rfl)))
      have NB146_126 := Aside0.mk (Y28 (hon 20 (by kernel_rfl)))
      have GW147 := Aside0.mk (Y17 (hon 21 (by kernel_rfl)))
      have GE147 := Aside0.mk (Y12 (hon 21 (by kernel_rfl)))
      have NB126_147 := Aside0.mk (Y24 (hon 21 (by kernel_rfl)))
      have NB147_126 := Aside0.mk (Y33 (hon 21 (by kernel_rfl)))
      have GW148 := Aside0.mk (Y18 (hon 22 (by kernel_rfl)))
      have GE148 := Aside0.mk (Y13 (hon 22 (by kernel_rfl)))
      have NB126_148 := Aside0.mk (Y25 (hon 22 (by kernel_rfl)))
      have NB148_126 := Aside0.mk (Y38 (hon 22 (by kernel_rfl)))
      have GW149 := Aside0.mk (Y19 (hon 23 (by kernel_rfl)))
      have GE149 := Aside0.mk (Y14 (hon 23 (by kernel_rfl)))
      have NB126_149 := Aside0.mk (Y26 (hon 23 (by kernel_rfl)))
      have NB149_126 := Aside0.mk (Y43 (hon 23 (by kernel_rfl)))
      have BK150 := Aside0.mk (Y9 (hon 24 (by kernel_rfl)) hb_)
      have GW150 := Aside0.mk (Y20 (hon 24 (by kernel_rfl)))
      have GE150 := Aside0.mk (Y15 (hon 24 (by kernel_rfl)))
      have NB126_150 := Aside0.mk (Y27 (hon 24 (by kernel_rfl)))
      have NB150_126 := Aside0.mk (Y48 (hon 24 (by kernel_rfl)))
      have BK146 := Aside0.mk (Y2 (hon 25 (by kernel_rfl)))
      have BK147 := Aside0.mk (Y4 (hon 26 (by kernel_rfl)))
      have BK148 := Aside0.mk (Y6 (hon 27 (by kernel_rfl)))
      have BK149 := Aside0.mk (Y8 (hon 28 (by kernel_rfl)))
      have hs38 : w'.cell? ⟨gb150, 0, none⟩ = some (.string (⟨#[]⟩ : ByteArray)) := (blk_cell BK150.out 0).trans rfl
      have hfs38 := blk_frozen BK150.out 0
      have hns38_0 := NB126_150.out
      have hns38_1 := NB146_150.out
      have hns38_2 := NB147_150.out
      have hns38_3 := NB148_150.out
      have hns38_4 := NB149_150.out
      have hms38_0 := NB150_126.out
      have hms38_1 := NB150_146.out
      have hms38_2 := NB150_147.out
      have hms38_3 := NB150_148.out
      have hms38_4 := NB150_149.out
      have hs39 : w'.cell? ⟨gb150, 1, none⟩ = some (.bool false) := (blk_cell BK150.out 1).trans rfl
      have hfs39 := blk_frozen BK150.out 1
      have hns39_0 := NB126_150.out
      have hns39_1 := NB146_150.out
      have hns39_2 := NB147_150.out
      have hns39_3 := NB148_150.out
      have hns39_4 := NB149_150.out
      have hms39_0 := NB150_126.out
      have hms39_1 := NB150_146.out
      have hms39_2 := NB150_147.out
      have hms39_3 := NB150_148.out
      have hms39_4 := NB150_149.out
      refine skip_ (w1 := ?_) (by rfl) rfl ?_ ?_
      rotate_left
      · go_simp
        rfl
      refine hK.out _ _ ⟨gb146, gb147, gb148, gb149, gb150, m20_, m21_, m22_, m23_, m24_, (by rw [ha.out]; exact putSel_none (v := undef) rfl), (by (with_reducible repeat (first | apply Kd.R_alloc | apply Kd.R_drewN | apply Kd.R_drew)); exact Kd.R_mono (Kd.R_far (p := ⟨gb150, 1, none⟩) (Kd.R_far (p := ⟨gb150, 0, none⟩) (Kd.R_types HO130.out BK150.out (by decide)) (fun _ hk => hk.2) (.string t144)) (fun _ hk => hk.2) (.bool t145)) (fun _ hk => trivial)), (by (with_reducible repeat (first | refine blk_drewN ?_ _ | refine blk_drew ?_ | refine blk_alloc ?_ _)); refine blk_far ?_ NB126_150.out _; (with_reducible repeat (first | refine blk_drewN ?_ _ | refine blk_drew ?_ | refine blk_alloc ?_ _)); refine blk_far ?_ NB126_150.out _; (with_reducible repeat (first | refine blk_drewN ?_ _ | refine blk_drew ?_ | refine blk_alloc ?_ _)); exact BK126.out), (by repeat (first | (with_reducible first | exact HB.out | apply below_alloc | apply pw_below_drewN | apply below_drew1 | refine below_set ?_ GE126.out | refine below_set ?_ GE146.out | refine below_set ?_ GE147.out | refine below_set ?_ GE148.out | refine below_set ?_ GE149.out | refine below_set ?_ GE150.out) | exact HB.out)), fun _ _ => NB147_146.out, fun _ _ => NB146_147.out, fun _ _ => NB148_146.out, fun _ _ => NB146_148.out, fun _ _ => NB149_146.out, fun _ _ => NB146_149.out, fun _ _ => NB150_146.out, fun _ _ => NB146_150.out, fun _ _ => NB148_147.out, fun _ _ => NB147_148.out, fun _ _ => NB149_147.out, fun _ _ => NB147_149.out, fun _ _ => NB150_147.out, fun _ _ => NB147_150.out, fun _ _ => NB149_148.out, fun _ _ => NB148_149.out, fun _ _ => NB150_148.out, fun _ _ => NB148_150.out, fun _ _ => NB150_149.out, fun _ _ => NB149_150.out, fun _ h1_ => absurd ((hon 25 (by kernel_rfl)).symm.trans h1_) (by decide), fun _ => GW146.out, fun _ => GE146.out, fun _ => NB126_146.out, fun _ => NB146_126.out, fun _ h1_ => absurd ((hon 26 (by kernel_rfl)).symm.trans h1_) (by decide), fun _ => GW147.out, fun _ => GE147.out, fun _ => NB126_147.out, fun _ => NB147_126.out, fun _ h1_ => absurd ((hon 27 (by kernel_rfl)).symm.trans h1_) (by decide), fun _ => GW148.out, fun _ => GE148.out, fun _ => NB126_148.out, fun _ => NB148_126.out, fun _ h1_ => absurd ((hon 28 (by kernel_rfl)).symm.trans h1_) (by decide), fun _ => GW149.out, fun _ => GE149.out, fun _ => NB126_149.out, fun _ => NB149_126.out, fun _ h1_ => absurd ((up_self b 29).symm.trans h1_) (by decide), fun _ => GW150.out, fun _ => GE150.out, fun _ => NB126_150.out, fun _ => NB150_126.out, fun _ => (by (with_reducible repeat (first | refine blk_drewN ?_ _ | refine blk_drew ?_ | refine blk_alloc ?_ _)); refine blk_far ?_ NB146_150.out _; (with_reducible repeat (first | refine blk_drewN ?_ _ | refine blk_drew ?_ | refine blk_alloc ?_ _)); refine blk_far ?_ NB146_150.out _; (with_reducible repeat (first | refine blk_drewN ?_ _ | refine blk_drew ?_ | refine blk_alloc ?_ _)); exact BK146.out), fun _ => (by (with_reducible repeat (first | refine blk_drewN ?_ _ | refine blk_drew ?_ | refine blk_alloc ?_ _)); refine blk_far ?_ NB147_150.out _; (with_reducible repeat (first | refine blk_drewN ?_ _ | refine blk_drew ?_ | refine blk_alloc ?_ _)); refine blk_far ?_ NB147_150.out _; (with_reducible repeat (first | refine blk_drewN ?_ _ | refine blk_drew ?_ | refine blk_alloc ?_ _)); exact BK147.out), fun _ => (by (with_reducible repeat (first | refine blk_drewN ?_ _ | refine blk_drew ?_ | refine blk_alloc ?_ _)); refine blk_far ?_ NB148_150.out _; (with_reducible repeat (first | refine blk_drewN ?_ _ | refine blk_drew ?_ | refine blk_alloc ?_ _)); refine blk_far ?_ NB148_150.out _; (with_reducible repeat (first | refine blk_drewN ?_ _ | refine blk_drew ?_ | refine blk_alloc ?_ _)); exact BK148.out), fun _ => (by (with_reducible repeat (first | refine blk_drewN ?_ _ | refine blk_drew ?_ | refine blk_alloc ?_ _)); refine blk_far ?_ NB149_150.out _; (with_reducible repeat (first | refine blk_drewN ?_ _ | refine blk_drew ?_ | refine blk_alloc ?_ _)); refine blk_far ?_ NB149_150.out _; (with_reducible repeat (first | refine blk_drewN ?_ _ | refine blk_drew ?_ | refine blk_alloc ?_ _)); exact BK149.out), fun _ => (by (with_reducible repeat (first | refine blk_drewN ?_ _ | refine blk_drew ?_ | refine blk_alloc ?_ _)); refine blk_put (cs := #[.string t144, .bool false]) ?_ 1 _ rfl; (with_reducible repeat (first | refine blk_drewN ?_ _ | refine blk_drew ?_ | refine blk_alloc ?_ _)); refine blk_put (cs := #[.string (⟨#[]⟩ : ByteArray), .bool false]) ?_ 0 _ rfl; (with_reducible repeat (first | refine blk_drewN ?_ _ | refine blk_drew ?_ | refine blk_alloc ?_ _)); exact BK150.out), Y53, Y54, Y55, Y56, Y57⟩
    exact steps_nil
  rintro b a w39 hall ⟨gb146, gb147, gb148, gb149, gb150, m20_, m21_, m22_, m23_, m24_, ha, Y22, Y0, Y21, Y34, Y29, Y39, Y30, Y44, Y31, Y49, Y32, Y40, Y35, Y45, Y36, Y50, Y37, Y46, Y41, Y51, Y42, Y52, Y47, Y1, Y16, Y11, Y23, Y28, Y3, Y17, Y12, Y24, Y33, Y5, Y18, Y13, Y25, Y38, Y7, Y19, Y14, Y26, Y43, Y9, Y20, Y15, Y27, Y48, Y2, Y4, Y6, Y8, Y10, Y53, Y54, Y55, Y56, Y57⟩
  clear BK126 HB HO130
  have hb1_ := hall 1 (by kernel_rfl)
  have hb2_ := hall 2 (by kernel_rfl)
  have hb3_ := hall 3 (by kernel_rfl)
  have hb5_ := hall 5 (by kernel_rfl)
  have hb6_ := hall 6 (by kernel_rfl)
  have hb7_ := hall 7 (by kernel_rfl)
  have hb9_ := hall 9 (by kernel_rfl)
  have hb10_ := hall 10 (by kernel_rfl)
  have hb11_ := hall 11 (by kernel_rfl)
  have hb13_ := hall 13 (by kernel_rfl)
  have hb14_ := hall 14 (by kernel_rfl)
  have hb15_ := hall 15 (by kernel_rfl)
  have hb17_ := hall 17 (by kernel_rfl)
  have hb18_ := hall 18 (by kernel_rfl)
  have hb19_ := hall 19 (by kernel_rfl)
  have hb20_ := hall 20 (by kernel_rfl)
  have hb21_ := hall 21 (by kernel_rfl)
  have hb22_ := hall 22 (by kernel_rfl)
  have hb23_ := hall 23 (by kernel_rfl)
  have hb24_ := hall 24 (by kernel_rfl)
  have hb25_ := hall 25 (by kernel_rfl)
  have hb26_ := hall 26 (by kernel_rfl)
  have hb27_ := hall 27 (by kernel_rfl)
  have hb28_ := hall 28 (by kernel_rfl)
  have hb29_ := hall 29 (by kernel_rfl)
  subst ha
  obtain rfl := Y53 hb20_
  obtain rfl := Y54 hb21_
  obtain rfl := Y55 hb22_
  obtain rfl := Y56 hb23_
  obtain rfl := Y57 hb24_
  simp only [putSel, hb1_, hb2_, hb3_, hb5_, hb6_, hb7_, hb9_, hb10_, hb11_, hb13_, hb14_, hb15_, hb17_, hb18_, hb19_, hb20_, hb21_, hb22_, hb23_, hb24_, hb25_, hb26_, hb27_, hb28_, hb29_, if_true, Act.put, List.setIfInBounds_toArray, List.set_cons_zero, List.set_cons_succ]
  have HO130 := Aside0.mk Y22
  clear Y22
  have BK126 := Aside0.mk Y0
  clear Y0
  have HB := Aside0.mk Y21
  clear Y21
  have NB147_146 := Aside0.mk (Y34 hb20_ hb21_)
  clear Y34
  have NB146_147 := Aside0.mk (Y29 hb20_ hb21_)
  clear Y29
  have NB148_146 := Aside0.mk (Y39 hb20_ hb22_)
  clear Y39
  have NB146_148 := Aside0.mk (Y30 hb20_ hb22_)
  clear Y30
  have NB149_146 := Aside0.mk (Y44 hb20_ hb23_)
  clear Y44
  have NB146_149 := Aside0.mk (Y31 hb20_ hb23_)
  clear Y31
  have NB150_146 := Aside0.mk (Y49 hb20_ hb24_)
  clear Y49
  have NB146_150 := Aside0.mk (Y32 hb20_ hb24_)
  clear Y32
  have NB148_147 := Aside0.mk (Y40 hb21_ hb22_)
  clear Y40
  have NB147_148 := Aside0.mk (Y35 hb21_ hb22_)
  clear Y35
  have NB149_147 := Aside0.mk (Y45 hb21_ hb23_)
  clear Y45
  have NB147_149 := Aside0.mk (Y36 hb21_ hb23_)
  clear Y36
  have NB150_147 := Aside0.mk (Y50 hb21_ hb24_)
  clear Y50
  have NB147_150 := Aside0.mk (Y37 hb21_ hb24_)
  clear Y37
  have NB149_148 := Aside0.mk (Y46 hb22_ hb23_)
  clear Y46
  have NB148_149 := Aside0.mk (Y41 hb22_ hb23_)
  clear Y41
  have NB150_148 := Aside0.mk (Y51 hb22_ hb24_)
  clear Y51
  have NB148_150 := Aside0.mk (Y42 hb22_ hb24_)
  clear Y42
  have NB150_149 := Aside0.mk (Y52 hb23_ hb24_)
  clear Y52
  have NB149_150 := Aside0.mk (Y47 hb23_ hb24_)
  clear Y47
  clear Y1
  have GW146 := Aside0.mk (Y16 hb20_)
  clear Y16
  have GE146 := Aside0.mk (Y11 hb20_)
  clear Y11
  have NB126_146 := Aside0.mk (Y23 hb20_)
  clear Y23
  have NB146_126 := Aside0.mk (Y28 hb20_)
  clear Y28
  clear Y3
  have GW147 := Aside0.mk (Y17 hb21_)
  clear Y17
  have GE147 := Aside0.mk (Y12 hb21_)
  clear Y12
  have NB126_147 := Aside0.mk (Y24 hb21_)
  clear Y24
  have NB147_126 := Aside0.mk (Y33 hb21_)
  clear Y33
  clear Y5
  have GW148 := Aside0.mk (Y18 hb22_)
  clear Y18
  have GE148 := Aside0.mk (Y13 hb22_)
  clear Y13
  have NB126_148 := Aside0.mk (Y25 hb22_)
  clear Y25
  have NB148_126 := Aside0.mk (Y38 hb22_)
  clear Y38
  clear Y7
  have GW149 := Aside0.mk (Y19 hb23_)
  clear Y19
  have GE149 := Aside0.mk (Y14 hb23_)
  clear Y14
  have NB126_149 := Aside0.mk (Y26 hb23_)
  clear Y26
  have NB149_126 := Aside0.mk (Y43 hb23_)
  clear Y43
  clear Y9
  have GW150 := Aside0.mk (Y20 hb24_)
  clear Y20
  have GE150 := Aside0.mk (Y15 hb24_)
  clear Y15
  have NB126_150 := Aside0.mk (Y27 hb24_)
  clear Y27
  have NB150_126 := Aside0.mk (Y48 hb24_)
  clear Y48
  have BK146 := Aside0.mk (Y2 hb25_)
  clear Y2
  have BK147 := Aside0.mk (Y4 hb26_)
  clear Y4
  have BK148 := Aside0.mk (Y6 hb27_)
  clear Y6
  have BK149 := Aside0.mk (Y8 hb28_)
  clear Y8
  have BK150 := Aside0.mk (Y10 hb29_)
  clear Y10
  clear hall hb1_ hb2_ hb3_ hb5_ hb6_ hb7_ hb9_ hb10_ hb11_ hb13_ hb14_ hb15_ hb17_ hb18_ hb19_ hb20_ hb21_ hb22_ hb23_ hb24_ hb25_ hb26_ hb27_ hb28_ hb29_
  have H := HM_.out
  clear HM_
  by_cases c14 : t133 = true
  case neg =>
    replace c14 := Bool.eq_false_iff.mpr c14
    subst c14
    have H1 : (if t136 = true then (some (0, 0, 0, 0, (⟨#[]⟩ : ByteArray), 3)) else (if t139 = true then (some (0, 0, 0, 0, (⟨#[]⟩ : ByteArray), 3)) else (if t142 = true then (some (0, 0, 0, 0, (⟨#[]⟩ : ByteArray), 3)) else ((wire_CheckWord.f k t132 t135 t138 (wrap64 (t141 - 1)) t144).bind fun t152 => (if t152 = 0 then (some (t132, t135, t138, wrap64 (t141 - 1), t144, 0)) else (some (0, 0, 0, 0, (⟨#[]⟩ : ByteArray), 3))))))) = some (r1, r2, r3, r4, r5, r6) := by rw [if_neg (show ¬ (false = true) by decide)] at H; exact H
    clear H
    have H := H1
    clear H1
    by_cases c70 : t136 = true
    case neg =>
      replace c70 := Bool.eq_false_iff.mpr c70
      subst c70
      have H1 : (if t139 = true then (some (0, 0, 0, 0, (⟨#[]⟩ : ByteArray), 3)) else (if t142 = true then (some (0, 0, 0, 0, (⟨#[]⟩ : ByteArray), 3)) else ((wire_CheckWord.f k t132 t135 t138 (wrap64 (t141 - 1)) t144).bind fun t152 => (if t152 = 0 then (some (t132, t135, t138, wrap64 (t141 - 1), t144, 0)) else (some (0, 0, 0, 0, (⟨#[]⟩ : ByteArray), 3)))))) = some (r1, r2, r3, r4, r5, r6) := by rw [if_neg (show ¬ (false = true) by decide)] at H; exact H
      clear H
      have H := H1
      clear H1
      by_cases c127 : t139 = true
      case neg =>
        replace c127 := Bool.eq_false_iff.mpr c127
        subst c127
        have H1 : (if t142 = true then (some (0, 0, 0, 0, (⟨#[]⟩ : ByteArray), 3)) else ((wire_CheckWord.f k t132 t135 t138 (wrap64 (t141 - 1)) t144).bind fun t152 => (if t152 = 0 then (some (t132, t135, t138, wrap64 (t141 - 1), t144, 0)) else (some (0, 0, 0, 0, (⟨#[]⟩ : ByteArray), 3))))) = some (r1, r2, r3, r4, r5, r6) := by rw [if_neg (show ¬ (false = true) by decide)] at H; exact H
        clear H
        have H := H1
        clear H1
        by_cases c185 : t142 = true
        case neg =>
          replace c185 := Bool.eq_false_iff.mpr c185
          subst c185
          have H1 : ((wire_CheckWord.f k t132 t135 t138 (wrap64 (t141 - 1)) t144).bind fun t152 => (if t152 = 0 then (some (t132, t135, t138, wrap64 (t141 - 1), t144, 0)) else (some (0, 0, 0, 0, (⟨#[]⟩ : ByteArray), 3)))) = some (r1, r2, r3, r4, r5, r6) := by rw [if_neg (show ¬ (false = true) by decide)] at H; exact H
          clear H
          have H := H1
          clear H1
          replace H := Option.bind_eq_some_iff.mp H
          obtain ⟨t152, A2440, H⟩ := H
          replace H : (if t152 = 0 then (some (t132, t135, t138, wrap64 (t141 - 1), t144, 0)) else (some (0, 0, 0, 0, (⟨#[]⟩ : ByteArray), 3))) = some (r1, r2, r3, r4, r5, r6) := H
          have A244 := Aside0.mk A2440
          clear A2440
          by_cases c245 : t152 = 0
          case neg =>
            rw [if_neg c245] at H
            have c245b0 : (t152 == 0) = false := beq_eq_false_iff_ne.mpr c245
            have c245b1 : (t152 != 0) = true := bne_iff_ne.mpr c245
            simp only [Option.some.injEq, Prod.mk.injEq] at H
            obtain ⟨rfl, rfl, rfl, rfl, rfl, rfl⟩ := H
            have hnb331 := NB146_126.out
            have hnc331 := NB126_146.out
            have hnb332 := NB146_147.out
            have hnc332 := NB147_146.out
            have hnb333 := NB146_148.out
            have hnc333 := NB148_146.out
            have hnb334 := NB146_149.out
            have hnc334 := NB149_146.out
            have hnb335 := NB146_150.out
            have hnc335 := NB150_146.out
            have hcz336_0 : w39.cell? ⟨gb146, 0, none⟩ = some (.int .i64 t132) := (blk_cell BK146.out 0).trans rfl
            have hcz336_1 : w39.cell? ⟨gb146, 1, none⟩ = some (.bool false) := (blk_cell BK146.out 1).trans rfl
            have hfz336_0 := blk_frozen BK146.out 0
            have hfz336_1 := blk_frozen BK146.out 1
            have hnb337 := NB147_126.out
            have hnc337 := NB126_147.out
            have hnb338 := NB147_148.out
            have hnc338 := NB148_147.out
            have hnb339 := NB147_149.out
            have hnc339 := NB149_147.out
            have hnb340 := NB147_150.out
            have hnc340 := NB150_147.out
            have hcz341_0 : w39.cell? ⟨gb147, 0, none⟩ = some (.int .i64 t135) := (blk_cell BK147.out 0).trans rfl
            have hcz341_1 : w39.cell? ⟨gb147, 1, none⟩ = some (.bool false) := (blk_cell BK147.out 1).trans rfl
            have hfz341_0 := blk_frozen BK147.out 0
            have hfz341_1 := blk_frozen BK147.out 1
            have hnb342 := NB148_126.out
            have hnc342 := NB126_148.out
            have hnb343 := NB148_149.out
            have hnc343 := NB149_148.out
            have hnb344 := NB148_150.out
            have hnc344 := NB150_148.out
            have hcz345_0 : w39.cell? ⟨gb148, 0, none⟩ = some (.int .i64 t138) := (blk_cell BK148.out 0).trans rfl
            have hcz345_1 : w39.cell? ⟨gb148, 1, none⟩ = some (.bool false) := (blk_cell BK148.out 1).trans rfl
            have hfz345_0 := blk_frozen BK148.out 0
            have hfz345_1 := blk_frozen BK148.out 1
            have hnb346 := NB149_126.out
            have hnc346 := NB126_149.out
            have hnb347 := NB149_150.out
            have hnc347 := NB150_149.out
            have hcz348_0 : w39.cell? ⟨gb149, 0, none⟩ = some (.int .i64 t141) := (blk_cell BK149.out 0).trans rfl
            have hcz348_1 : w39.cell? ⟨gb149, 1, none⟩ = some (.bool false) := (blk_cell BK149.out 1).trans rfl
            have hfz348_0 := blk_frozen BK149.out 0
            have hfz348_1 := blk_frozen BK149.out 1
            have hnb349 := NB150_126.out
            have hnc349 := NB126_150.out
            have hcz350_0 : w39.cell? ⟨gb150, 0, none⟩ = some (.string t144) := (blk_cell BK150.out 0).trans rfl
            have hcz350_1 : w39.cell? ⟨gb150, 1, none⟩ = some (.bool t145) := (blk_cell BK150.out 1).trans rfl
            have hfz350_0 := blk_frozen BK150.out 0
            have hfz350_1 := blk_frozen BK150.out 1
            try go_wp2_with (first | ((with_reducible refine gate_dst (N := 11) rfl ?_); refine box_event ?hg (N := 11) ?hd (cs := #[.int .i64 0, .int .i64 0, .int .i64 0, .int .i64 0, .string (⟨#[]⟩ : ByteArray)]) (t := 29) ?hr ?_; (case hd => rfl); (case hg => rfl); (case hr => first | (go_simp; done) | (go_simp; rfl)); intro gb151 hg w351 hbox hb; have n0_ := Aside0.mk (Kd.R_below (by (with_reducible repeat (first | apply Kd.R_alloc | apply Kd.R_drewN | apply Kd.R_drew)); exact HO130.out) hb); have n1_ := Aside0.mk (blk_below (g := gb126) (o := .cells #[.int .i64 0, .int .i64 0, .int .i64 0, .int .i64 0, .string (⟨#[]⟩ : ByteArray)] 29 (0, 0)) (by (with_reducible repeat (first | refine blk_drewN ?_ _ | refine blk_drew ?_ | refine blk_alloc ?_ _)); exact BK126.out) hb); have n2_ := Aside0.mk (blk_below (g := gb146) (o := .cells #[.int .i64 t132, .bool false] 94 (0, 0)) (by (with_reducible repeat (first | refine blk_drewN ?_ _ | refine blk_drew ?_ | refine blk_alloc ?_ _)); exact BK146.out) hb); have n3_ := Aside0.mk (blk_below (g := gb147) (o := .cells #[.int .i64 t135, .bool false] 94 (0, 0)) (by (with_reducible repeat (first | refine blk_drewN ?_ _ | refine blk_drew ?_ | refine blk_alloc ?_ _)); exact BK147.out) hb); have n4_ := Aside0.mk (blk_below (g := gb148) (o := .cells #[.int .i64 t138, .bool false] 94 (0, 0)) (by (with_reducible repeat (first | refine blk_drewN ?_ _ | refine blk_drew ?_ | refine blk_alloc ?_ _)); exact BK148.out) hb); have n5_ := Aside0.mk (blk_below (g := gb149) (o := .cells #[.int .i64 t141, .bool false] 94 (0, 0)) (by (with_reducible repeat (first | refine blk_drewN ?_ _ | refine blk_drew ?_ | refine blk_alloc ?_ _)); exact BK149.out) hb); have n6_ := Aside0.mk (blk_below (g := gb150) (o := .cells #[.string t144, .bool t145] 97 (0, 0)) (by (with_reducible repeat (first | refine blk_drewN ?_ _ | refine blk_drew ?_ | refine blk_alloc ?_ _)); exact BK150.out) hb); have n7_ := Aside0.mk (below_step (by repeat (first | (with_reducible first | exact HB.out | apply below_alloc | apply pw_below_drewN | apply below_drew1 | refine below_set ?_ GE126.out | refine below_set ?_ GE146.out | refine below_set ?_ GE147.out | refine below_set ?_ GE148.out | refine below_set ?_ GE149.out | refine below_set ?_ GE150.out) | exact HB.out)) hb); have n8_ := Aside0.mk (hbox); have n9_ := Aside0.mk ((by rw [hg]; exact (below_size (by repeat (first | (with_reducible first | exact HB.out | apply below_alloc | apply pw_below_drewN | apply below_drew1 | refine below_set ?_ GE126.out | refine below_set ?_ GE146.out | refine below_set ?_ GE147.out | refine below_set ?_ GE148.out | refine below_set ?_ GE149.out | refine below_set ?_ GE150.out) | exact HB.out))) : w.heap.size ≤ gb151)); have n10_ := Aside0.mk ((by rw [hg]; exact (below_size (by repeat (first | (with_reducible first | exact HB.out | apply below_alloc | apply pw_below_drewN | apply below_drew1 | refine below_set ?_ GE126.out | refine below_set ?_ GE146.out | refine below_set ?_ GE147.out | refine below_set ?_ GE148.out | refine below_set ?_ GE149.out | refine below_set ?_ GE150.out) | exact HB.out))) : w.heap.size ≤ gb151)); have n11_ := Aside0.mk ((by rw [hg]; exact Nat.ne_of_lt (blk_lt (g := gb126) (o := .cells #[.int .i64 0, .int .i64 0, .int .i64 0, .int .i64 0, .string (⟨#[]⟩ : ByteArray)] 29 (0, 0)) (by (with_reducible repeat (first | refine blk_drewN ?_ _ | refine blk_drew ?_ | refine blk_alloc ?_ _)); exact BK126.out)) : gb126 ≠ gb151)); have n12_ := Aside0.mk ((by rw [hg]; exact Nat.ne_of_gt (blk_lt (g := gb126) (o := .cells #[.int .i64 0, .int .i64 0, .int .i64 0, .int .i64 0, .string (⟨#[]⟩ : ByteArray)] 29 (0, 0)) (by (with_reducible repeat (first | refine blk_drewN ?_ _ | refine blk_drew ?_ | refine blk_alloc ?_ _)); exact BK126.out)) : gb151 ≠ gb126)); have n13_ := Aside0.mk ((by rw [hg]; exact Nat.ne_of_lt (blk_lt (g := gb146) (o := .cells #[.int .i64 t132, .bool false] 94 (0, 0)) (by (with_reducible repeat (first | refine blk_drewN ?_ _ | refine blk_drew ?_ | refine blk_alloc ?_ _)); exact BK146.out)) : gb146 ≠ gb151)); have n14_ := Aside0.mk ((by rw [hg]; exact Nat.ne_of_gt (blk_lt (g := gb146) (o := .cells #[.int .i64 t132, .bool false] 94 (0, 0)) (by (with_reducible repeat (first | refine blk_drewN ?_ _ | refine blk_drew ?_ | refine blk_alloc ?_ _)); exact BK146.out)) : gb151 ≠ gb146)); have n15_ := Aside0.mk ((by rw [hg]; exact Nat.ne_of_lt (blk_lt (g := gb147) (o := .cells #[.int .i64 t135, .bool false] 94 (0, 0)) (by (with_reducible repeat (first | refine blk_drewN ?_ _ | refine blk_drew ?_ | refine blk_alloc ?_ _)); exact BK147.out)) : gb147 ≠ gb151)); have n16_ := Aside0.mk ((by rw [hg]; exact Nat.ne_of_gt (blk_lt (g := gb147) (o := .cells #[.int .i64 t135, .bool false] 94 (0, 0)) (by (with_reducible repeat (first | refine blk_drewN ?_ _ | refine blk_drew ?_ | refine blk_alloc ?_ _)); exact BK147.out)) : gb151 ≠ gb147)); have n17_ := Aside0.mk ((by rw [hg]; exact Nat.ne_of_lt (blk_lt (g := gb148) (o := .cells #[.int .i64 t138, .bool false] 94 (0, 0)) (by (with_reducible repeat (first | refine blk_drewN ?_ _ | refine blk_drew ?_ | refine blk_alloc ?_ _)); exact BK148.out)) : gb148 ≠ gb151)); have n18_ := Aside0.mk ((by rw [hg]; exact Nat.ne_of_gt (blk_lt (g := gb148) (o := .cells #[.int .i64 t138, .bool false] 94 (0, 0)) (by (with_reducible repeat (first | refine blk_drewN ?_ _ | refine blk_drew ?_ | refine blk_alloc ?_ _)); exact BK148.out)) : gb151 ≠ gb148)); have n19_ := Aside0.mk ((by rw [hg]; exact Nat.ne_of_lt (blk_lt (g := gb149) (o := .cells #[.int .i64 t141, .bool false] 94 (0, 0)) (by (with_reducible repeat (first | refine blk_drewN ?_ _ | refine blk_drew ?_ | refine blk_alloc ?_ _)); exact BK149.out)) : gb149 ≠ gb151)); have n20_ := Aside0.mk ((by rw [hg]; exact Nat.ne_of_gt (blk_lt (g := gb149) (o := .cells #[.int .i64 t141, .bool false] 94 (0, 0)) (by (with_reducible repeat (first | refine blk_drewN ?_ _ | refine blk_drew ?_ | refine blk_alloc ?_ _)); exact BK149.out)) : gb151 ≠ gb149)); have n21_ := Aside0.mk ((by rw [hg]; exact Nat.ne_of_lt (blk_lt (g := gb150) (o := .cells #[.string t144, .bool t145] 97 (0, 0)) (by (with_reducible repeat (first | refine blk_drewN ?_ _ | refine blk_drew ?_ | refine blk_alloc ?_ _)); exact BK150.out)) : gb150 ≠ gb151)); have n22_ := Aside0.mk ((by rw [hg]; exact Nat.ne_of_gt (blk_lt (g := gb150) (o := .cells #[.string t144, .bool t145] 97 (0, 0)) (by (with_reducible repeat (first | refine blk_drewN ?_ _ | refine blk_drew ?_ | refine blk_alloc ?_ _)); exact BK150.out)) : gb151 ≠ gb150)); clear HO130; clear BK126; clear BK146; clear BK147; clear BK148; clear BK149; clear BK150; clear HB; have HO130 := n0_; have BK126 := n1_; have BK146 := n2_; have BK147 := n3_; have BK148 := n4_; have BK149 := n5_; have BK150 := n6_; have HB := n7_; have BK151 := n8_; have GW151 := n9_; have GE151 := n10_; have NB126_151 := n11_; have NB151_126 := n12_; have NB146_151 := n13_; have NB151_146 := n14_; have NB147_151 := n15_; have NB151_147 := n16_; have NB148_151 := n17_; have NB151_148 := n18_; have NB149_151 := n19_; have NB151_149 := n20_; have NB150_151 := n21_; have NB151_150 := n22_; clear n0_ n1_ n2_ n3_ n4_ n5_ n6_ n7_ n8_ n9_ n10_ n11_ n12_ n13_ n14_ n15_ n16_ n17_ n18_ n19_ n20_ n21_ n22_; clear hb hbox hg; have hnb352 := NB151_126.out; have hnc352 := NB126_151.out; have hnb353 := NB151_146.out; have hnc353 := NB146_151.out; have hnb354 := NB151_147.out; have hnc354 := NB147_151.out; have hnb355 := NB151_148.out; have hnc355 := NB148_151.out; have hnb356 := NB151_149.out; have hnc356 := NB149_151.out; have hnb357 := NB151_150.out; have hnc357 := NB150_151.out; have hcz358_0 : w351.cell? ⟨gb151, 0, none⟩ = some (.int .i64 0) := (blk_cell BK151.out 0).trans rfl; have hcz358_1 : w351.cell? ⟨gb151, 1, none⟩ = some (.int .i64 0) := (blk_cell BK151.out 1).trans rfl; have hcz358_2 : w351.cell? ⟨gb151, 2, none⟩ = some (.int .i64 0) := (blk_cell BK151.out 2).trans rfl; have hcz358_3 : w351.cell? ⟨gb151, 3, none⟩ = some (.int .i64 0) := (blk_cell BK151.out 3).trans rfl; have hcz358_4 : w351.cell? ⟨gb151, 4, none⟩ = some (.string (⟨#[]⟩ : ByteArray)) := (blk_cell BK151.out 4).trans rfl; have hfz358_0 := blk_frozen BK151.out 0; have hfz358_1 := blk_frozen BK151.out 1; have hfz358_2 := blk_frozen BK151.out 2; have hfz358_3 := blk_frozen BK151.out 3; have hfz358_4 := blk_frozen BK151.out 4; have hcz359_0 : w351.cell? ⟨gb146, 0, none⟩ = some (.int .i64 t132) := (blk_cell BK146.out 0).trans rfl; have hcz359_1 : w351.cell? ⟨gb146, 1, none⟩ = some (.bool false) := (blk_cell BK146.out 1).trans rfl; have hfz359_0 := blk_frozen BK146.out 0; have hfz359_1 := blk_frozen BK146.out 1; have hcz360_0 : w351.cell? ⟨gb147, 0, none⟩ = some (.int .i64 t135) := (blk_cell BK147.out 0).trans rfl; have hcz360_1 : w351.cell? ⟨gb147, 1, none⟩ = some (.bool false) := (blk_cell BK147.out 1).trans rfl; have hfz360_0 := blk_frozen BK147.out 0; have hfz360_1 := blk_frozen BK147.out 1; have hcz361_0 : w351.cell? ⟨gb148, 0, none⟩ = some (.int .i64 t138) := (blk_cell BK148.out 0).trans rfl; have hcz361_1 : w351.cell? ⟨gb148, 1, none⟩ = some (.bool false) := (blk_cell BK148.out 1).trans rfl; have hfz361_0 := blk_frozen BK148.out 0; have hfz361_1 := blk_frozen BK148.out 1; have hcz362_0 : w351.cell? ⟨gb149, 0, none⟩ = some (.int .i64 t141) := (blk_cell BK149.out 0).trans rfl; have hcz362_1 : w351.cell? ⟨gb149, 1, none⟩ = some (.bool false) := (blk_cell BK149.out 1).trans rfl; have hfz362_0 := blk_frozen BK149.out 0; have hfz362_1 := blk_frozen BK149.out 1) | (go_at_call 24; (with_reducible refine (wire_CheckWord.calls k t132 t135 t138 (wrap64 (t141 - 1)) t144 t152 _ A244.out).mono ?_); rintro e w363 ⟨rfl, hb⟩; have n0_ := Aside0.mk (Kd.R_below (by (with_reducible repeat (first | apply Kd.R_alloc | apply Kd.R_drewN | apply Kd.R_drew)); exact (Kd.R_mono (Kd.R_far (p := ⟨gb151, 4, none⟩) (Kd.R_far (p := ⟨gb151, 3, none⟩) (Kd.R_far (p := ⟨gb151, 2, none⟩) (Kd.R_far (p := ⟨gb151, 1, none⟩) (Kd.R_far (p := ⟨gb151, 0, none⟩) (Kd.R_types HO130.out BK151.out (by decide)) (fun _ hk => hk.2) (.int .i64 t132)) (fun _ hk => hk.2) (.int .i64 t135)) (fun _ hk => hk.2) (.int .i64 t138)) (fun _ hk => hk.2) (.int .i64 (wrap64 (t141 - 1)))) (fun _ hk => hk.2) (.string t144)) (fun _ h_ => h_.1))) hb); have n1_ := Aside0.mk (blk_below (g := gb126) (o := .cells #[.int .i64 0, .int .i64 0, .int .i64 0, .int .i64 0, .string (⟨#[]⟩ : ByteArray)] 29 (0, 0)) (by (with_reducible repeat (first | refine blk_drewN ?_ _ | refine blk_drew ?_ | refine blk_alloc ?_ _)); refine blk_far ?_ NB126_151.out _; (with_reducible repeat (first | refine blk_drewN ?_ _ | refine blk_drew ?_ | refine blk_alloc ?_ _)); refine blk_far ?_ NB126_151.out _; (with_reducible repeat (first | refine blk_drewN ?_ _ | refine blk_drew ?_ | refine blk_alloc ?_ _)); refine blk_far ?_ NB126_151.out _; (with_reducible repeat (first | refine blk_drewN ?_ _ | refine blk_drew ?_ | refine blk_alloc ?_ _)); refine blk_far ?_ NB126_151.out _; (with_reducible repeat (first | refine blk_drewN ?_ _ | refine blk_drew ?_ | refine blk_alloc ?_ _)); refine blk_far ?_ NB126_151.out _; (with_reducible repeat (first | refine blk_drewN ?_ _ | refine blk_drew ?_ | refine blk_alloc ?_ _)); exact BK126.out) hb); have n2_ := Aside0.mk (blk_below (g := gb146) (o := .cells #[.int .i64 t132, .bool false] 94 (0, 0)) (by (with_reducible repeat (first | refine blk_drewN ?_ _ | refine blk_drew ?_ | refine blk_alloc ?_ _)); refine blk_far ?_ NB146_151.out _; (with_reducible repeat (first | refine blk_drewN ?_ _ | refine blk_drew ?_ | refine blk_alloc ?_ _)); refine blk_far ?_ NB146_151.out _; (with_reducible repeat (first | refine blk_drewN ?_ _ | refine blk_drew ?_ | refine blk_alloc ?_ _)); refine blk_far ?_ NB146_151.out _; (with_reducible repeat (first | refine blk_drewN ?_ _ | refine blk_drew ?_ | refine blk_alloc ?_ _)); refine blk_far ?_ NB146_151.out _; (with_reducible repeat (first | refine blk_drewN ?_ _ | refine blk_drew ?_ | refine blk_alloc ?_ _)); refine blk_far ?_ NB146_151.out _; (with_reducible repeat (first | refine blk_drewN ?_ _ | refine blk_drew ?_ | refine blk_alloc ?_ _)); exact BK146.out) hb); have n3_ := Aside0.mk (blk_below (g := gb147) (o := .cells #[.int .i64 t135, .bool false] 94 (0, 0)) (by (with_reducible repeat (first | refine blk_drewN ?_ _ | refine blk_drew ?_ | refine blk_alloc ?_ _)); refine blk_far ?_ NB147_151.out _; (with_reducible repeat (first | refine blk_drewN ?_ _ | refine blk_drew ?_ | refine blk_alloc ?_ _)); refine blk_far ?_ NB147_151.out _; (with_reducible repeat (first | refine blk_drewN ?_ _ | refine blk_drew ?_ | refine blk_alloc ?_ _)); refine blk_far ?_ NB147_151.out _; (with_reducible repeat (first | refine blk_drewN ?_ _ | refine blk_drew ?_ | refine blk_alloc ?_ _)); refine blk_far ?_ NB147_151.out _; (with_reducible repeat (first | refine blk_drewN ?_ _ | refine blk_drew ?_ | refine blk_alloc ?_ _)); refine blk_far ?_ NB147_151.out _; (with_reducible repeat (first | refine blk_drewN ?_ _ | refine blk_drew ?_ | refine blk_alloc ?_ _)); exact BK147.out) hb); have n4_ := Aside0.mk (blk_below (g := gb148) (o := .cells #[.int .i64 t138, .bool false] 94 (0, 0)) (by (with_reducible repeat (first | refine blk_drewN ?_ _ | refine blk_drew ?_ | refine blk_alloc ?_ _)); refine blk_far ?_ NB148_151.out _; (with_reducible repeat (first | refine blk_drewN ?_ _ | refine blk_drew ?_ | refine blk_alloc ?_ _)); refine blk_far ?_ NB148_151.out _; (with_reducible repeat (first | refine blk_drewN ?_ _ | refine blk_drew ?_ | refine blk_alloc ?_ _)); refine blk_far ?_ NB148_151.out _; (with_reducible repeat (first | refine blk_drewN ?_ _ | refine blk_drew ?_ | refine blk_alloc ?_ _)); refine blk_far ?_ NB148_151.out _; (with_reducible repeat (first | refine blk_drewN ?_ _ | refine blk_drew ?_ | refine blk_alloc ?_ _)); refine blk_far ?_ NB148_151.out _; (with_reducible repeat (first | refine blk_drewN ?_ _ | refine blk_drew ?_ | refine blk_alloc ?_ _)); exact BK148.out) hb); have n5_ := Aside0.mk (blk_below (g := gb149) (o := .cells #[.int .i64 t141, .bool false] 94 (0, 0)) (by (with_reducible repeat (first | refine blk_drewN ?_ _ | refine blk_drew ?_ | refine blk_alloc ?_ _)); refine blk_far ?_ NB149_151.out _; (with_reducible repeat (first | refine blk_drewN ?_ _ | refine blk_drew ?_ | refine blk_alloc ?_ _)); refine blk_far ?_ NB149_151.out _; (with_reducible repeat (first | refine blk_drewN ?_ _ | refine blk_drew ?_ | refine blk_alloc ?_ _)); refine blk_far ?_ NB149_151.out _; (with_reducible repeat (first | refine blk_drewN ?_ _ | refine blk_drew ?_ | refine blk_alloc ?_ _)); refine blk_far ?_ NB149_151.out _; (with_reducible repeat (first | refine blk_drewN ?_ _ | refine blk_drew ?_ | refine blk_alloc ?_ _)); refine blk_far ?_ NB149_151.out _; (with_reducible repeat (first | refine blk_drewN ?_ _ | refine blk_drew ?_ | refine blk_alloc ?_ _)); exact BK149.out) hb); have n6_ := Aside0.mk (blk_below (g := gb150) (o := .cells #[.string t144, .bool t145] 97 (0, 0)) (by (with_reducible repeat (first | refine blk_drewN ?_ _ | refine blk_drew ?_ | refine blk_alloc ?_ _)); refine blk_far ?_ NB150_151.out _; (with_reducible repeat (first | refine blk_drewN ?_ _ | refine blk_drew ?_ | refine blk_alloc ?_ _)); refine blk_far ?_ NB150_151.out _; (with_reducible repeat (first | refine blk_drewN ?_ _ | refine blk_drew ?_ | refine blk_alloc ?_ _)); refine blk_far ?_ NB150_151.out _; (with_reducible repeat (first | refine blk_drewN ?_ _ | refine blk_drew ?_ | refine blk_alloc ?_ _)); refine blk_far ?_ NB150_151.out _; (with_reducible repeat (first | refine blk_drewN ?_ _ | refine blk_drew ?_ | refine blk_alloc ?_ _)); refine blk_far ?_ NB150_151.out _; (with_reducible repeat (first | refine blk_drewN ?_ _ | refine blk_drew ?_ | refine blk_alloc ?_ _)); exact BK150.out) hb); have n7_ := Aside0.mk (blk_below (g := gb151) (o := .cells #[.int .i64 t132, .int .i64 t135, .int .i64 t138, .int .i64 (wrap64 (t141 - 1)), .string t144] 29 (0, 0)) (by (with_reducible repeat (first | refine blk_drewN ?_ _ | refine blk_drew ?_ | refine blk_alloc ?_ _)); refine blk_put (cs := #[.int .i64 t132, .int .i64 t135, .int .i64 t138, .int .i64 (wrap64 (t141 - 1)), .string (⟨#[]⟩ : ByteArray)]) ?_ 4 _ rfl; (with_reducible repeat (first | refine blk_drewN ?_ _ | refine blk_drew ?_ | refine blk_alloc ?_ _)); refine blk_put (cs := #[.int .i64 t132, .int .i64 t135, .int .i64 t138, .int .i64 0, .string (⟨#[]⟩ : ByteArray)]) ?_ 3 _ rfl; (with_reducible repeat (first | refine blk_drewN ?_ _ | refine blk_drew ?_ | refine blk_alloc ?_ _)); refine blk_put (cs := #[.int .i64 t132, .int .i64 t135, .int .i64 0, .int .i64 0, .string (⟨#[]⟩ : ByteArray)]) ?_ 2 _ rfl; (with_reducible repeat (first | refine blk_drewN ?_ _ | refine blk_drew ?_ | refine blk_alloc ?_ _)); refine blk_put (cs := #[.int .i64 t132, .int .i64 0, .int .i64 0, .int .i64 0, .string (⟨#[]⟩ : ByteArray)]) ?_ 1 _ rfl; (with_reducible repeat (first | refine blk_drewN ?_ _ | refine blk_drew ?_ | refine blk_alloc ?_ _)); refine blk_put (cs := #[.int .i64 0, .int .i64 0, .int .i64 0, .int .i64 0, .string (⟨#[]⟩ : ByteArray)]) ?_ 0 _ rfl; (with_reducible repeat (first | refine blk_drewN ?_ _ | refine blk_drew ?_ | refine blk_alloc ?_ _)); exact BK151.out) hb); have n8_ := Aside0.mk (below_step (by repeat (first | (with_reducible first | exact HB.out | apply below_alloc | apply pw_below_drewN | apply below_drew1 | refine below_set ?_ GE126.out | refine below_set ?_ GE146.out | refine below_set ?_ GE147.out | refine below_set ?_ GE148.out | refine below_set ?_ GE149.out | refine below_set ?_ GE150.out | refine below_set ?_ GE151.out) | exact HB.out)) hb); clear HO130; clear BK126; clear BK146; clear BK147; clear BK148; clear BK149; clear BK150; clear BK151; clear HB; have HO130 := n0_; have BK126 := n1_; have BK146 := n2_; have BK147 := n3_; have BK148 := n4_; have BK149 := n5_; have BK150 := n6_; have BK151 := n7_; have HB := n8_; clear n0_ n1_ n2_ n3_ n4_ n5_ n6_ n7_ n8_; (try clear hb); (try clear hb2); (try clear hk); (try clear hi); have hcz364_0 : w363.cell? ⟨gb126, 0, none⟩ = some (.int .i64 0) := (blk_cell BK126.out 0).trans rfl; have hcz364_1 : w363.cell? ⟨gb126, 1, none⟩ = some (.int .i64 0) := (blk_cell BK126.out 1).trans rfl; have hcz364_2 : w363.cell? ⟨gb126, 2, none⟩ = some (.int .i64 0) := (blk_cell BK126.out 2).trans rfl; have hcz364_3 : w363.cell? ⟨gb126, 3, none⟩ = some (.int .i64 0) := (blk_cell BK126.out 3).trans rfl; have hcz364_4 : w363.cell? ⟨gb126, 4, none⟩ = some (.string (⟨#[]⟩ : ByteArray)) := (blk_cell BK126.out 4).trans rfl; have hfz364_0 := blk_frozen BK126.out 0; have hfz364_1 := blk_frozen BK126.out 1; have hfz364_2 := blk_frozen BK126.out 2; have hfz364_3 := blk_frozen BK126.out 3; have hfz364_4 := blk_frozen BK126.out 4))
            refine bodyPost_ret (results_ct rfl _ _ gb126 29 #[.int .i64 0, .int .i64 0, .int .i64 0, .int .i64 0, .string (⟨#[]⟩ : ByteArray)] (0, 0) _ rfl (by (with_reducible repeat (first | refine blk_drewN ?_ _ | refine blk_drew ?_ | refine blk_alloc ?_ _)); refine blk_put (cs := #[.int .i64 0, .int .i64 0, .int .i64 0, .int .i64 0, .string (⟨#[]⟩ : ByteArray)]) ?_ 4 _ rfl; (with_reducible repeat (first | refine blk_drewN ?_ _ | refine blk_drew ?_ | refine blk_alloc ?_ _)); refine blk_put (cs := #[.int .i64 0, .int .i64 0, .int .i64 0, .int .i64 0, .string (⟨#[]⟩ : ByteArray)]) ?_ 3 _ rfl; (with_reducible repeat (first | refine blk_drewN ?_ _ | refine blk_drew ?_ | refine blk_alloc ?_ _)); refine blk_put (cs := #[.int .i64 0, .int .i64 0, .int .i64 0, .int .i64 0, .string (⟨#[]⟩ : ByteArray)]) ?_ 2 _ rfl; (with_reducible repeat (first | refine blk_drewN ?_ _ | refine blk_drew ?_ | refine blk_alloc ?_ _)); refine blk_put (cs := #[.int .i64 0, .int .i64 0, .int .i64 0, .int .i64 0, .string (⟨#[]⟩ : ByteArray)]) ?_ 1 _ rfl; (with_reducible repeat (first | refine blk_drewN ?_ _ | refine blk_drew ?_ | refine blk_alloc ?_ _)); refine blk_put (cs := #[.int .i64 0, .int .i64 0, .int .i64 0, .int .i64 0, .string (⟨#[]⟩ : ByteArray)]) ?_ 0 _ rfl; (with_reducible repeat (first | refine blk_drewN ?_ _ | refine blk_drew ?_ | refine blk_alloc ?_ _)); exact BK126.out) Try.underlying29 rfl (by kernel_rfl)) rfl ?_
            exact ⟨by first | rfl | (simp [errW_none, errW_some] <;> rfl) | (simp [*, errW_none, errW_some] <;> rfl), by repeat (first | (with_reducible first | exact HB.out | apply below_alloc | apply pw_below_drewN | apply below_drew1 | refine below_set ?_ GE126.out | refine below_set ?_ GE146.out | refine below_set ?_ GE147.out | refine below_set ?_ GE148.out | refine below_set ?_ GE149.out | refine below_set ?_ GE150.out | refine below_set ?_ GE151.out) | exact HB.out)⟩
          rw [if_pos c245] at H
          have c245b0 : (t152 == 0) = true := beq_iff_eq.mpr c245
          have c245b1 : (t152 != 0) = false := bne_eq_false_iff_eq.mpr c245
          clear c245
          simp only [Option.some.injEq, Prod.mk.injEq] at H
          obtain ⟨rfl, rfl, rfl, rfl, rfl, rfl⟩ := H
          have hnb271 := NB146_126.out
          have hnc271 := NB126_146.out
          have hnb272 := NB146_147.out
          have hnc272 := NB147_146.out
          have hnb273 := NB146_148.out
          have hnc273 := NB148_146.out
          have hnb274 := NB146_149.out
          have hnc274 := NB149_146.out
          have hnb275 := NB146_150.out
          have hnc275 := NB150_146.out
          have hcz276_0 : w39.cell? ⟨gb146, 0, none⟩ = some (.int .i64 t132) := (blk_cell BK146.out 0).trans rfl
          have hcz276_1 : w39.cell? ⟨gb146, 1, none⟩ = some (.bool false) := (blk_cell BK146.out 1).trans rfl
          have hfz276_0 := blk_frozen BK146.out 0
          have hfz276_1 := blk_frozen BK146.out 1
          have hnb277 := NB147_126.out
          have hnc277 := NB126_147.out
          have hnb278 := NB147_148.out
          have hnc278 := NB148_147.out
          have hnb279 := NB147_149.out
          have hnc279 := NB149_147.out
          have hnb280 := NB147_150.out
          have hnc280 := NB150_147.out
          have hcz281_0 : w39.cell? ⟨gb147, 0, none⟩ = some (.int .i64 t135) := (blk_cell BK147.out 0).trans rfl
          have hcz281_1 : w39.cell? ⟨gb147, 1, none⟩ = some (.bool false) := (blk_cell BK147.out 1).trans rfl
          have hfz281_0 := blk_frozen BK147.out 0
          have hfz281_1 := blk_frozen BK147.out 1
          have hnb282 := NB148_126.out
          have hnc282 := NB126_148.out
          have hnb283 := NB148_149.out
          have hnc283 := NB149_148.out
          have hnb284 := NB148_150.out
          have hnc284 := NB150_148.out
          have hcz285_0 : w39.cell? ⟨gb148, 0, none⟩ = some (.int .i64 t138) := (blk_cell BK148.out 0).trans rfl
          have hcz285_1 : w39.cell? ⟨gb148, 1, none⟩ = some (.bool false) := (blk_cell BK148.out 1).trans rfl
          have hfz285_0 := blk_frozen BK148.out 0
          have hfz285_1 := blk_frozen BK148.out 1
          have hnb286 := NB149_126.out
          have hnc286 := NB126_149.out
          have hnb287 := NB149_150.out
          have hnc287 := NB150_149.out
          have hcz288_0 : w39.cell? ⟨gb149, 0, none⟩ = some (.int .i64 t141) := (blk_cell BK149.out 0).trans rfl
          have hcz288_1 : w39.cell? ⟨gb149, 1, none⟩ = some (.bool false) := (blk_cell BK149.out 1).trans rfl
          have hfz288_0 := blk_frozen BK149.out 0
          have hfz288_1 := blk_frozen BK149.out 1
          have hnb289 := NB150_126.out
          have hnc289 := NB126_150.out
          have hcz290_0 : w39.cell? ⟨gb150, 0, none⟩ = some (.string t144) := (blk_cell BK150.out 0).trans rfl
          have hcz290_1 : w39.cell? ⟨gb150, 1, none⟩ = some (.bool t145) := (blk_cell BK150.out 1).trans rfl
          have hfz290_0 := blk_frozen BK150.out 0
          have hfz290_1 := blk_frozen BK150.out 1
          try go_wp2_with (first | ((with_reducible refine gate_dst (N := 11) rfl ?_); refine box_event ?hg (N := 11) ?hd (cs := #[.int .i64 0, .int .i64 0, .int .i64 0, .int .i64 0, .string (⟨#[]⟩ : ByteArray)]) (t := 29) ?hr ?_; (case hd => rfl); (case hg => rfl); (case hr => first | (go_simp; done) | (go_simp; rfl)); intro gb151 hg w291 hbox hb; have n0_ := Aside0.mk (Kd.R_below (by (with_reducible repeat (first | apply Kd.R_alloc | apply Kd.R_drewN | apply Kd.R_drew)); exact HO130.out) hb); have n1_ := Aside0.mk (blk_below (g := gb126) (o := .cells #[.int .i64 0, .int .i64 0, .int .i64 0, .int .i64 0, .string (⟨#[]⟩ : ByteArray)] 29 (0, 0)) (by (with_reducible repeat (first | refine blk_drewN ?_ _ | refine blk_drew ?_ | refine blk_alloc ?_ _)); exact BK126.out) hb); have n2_ := Aside0.mk (blk_below (g := gb146) (o := .cells #[.int .i64 t132, .bool false] 94 (0, 0)) (by (with_reducible repeat (first | refine blk_drewN ?_ _ | refine blk_drew ?_ | refine blk_alloc ?_ _)); exact BK146.out) hb); have n3_ := Aside0.mk (blk_below (g := gb147) (o := .cells #[.int .i64 t135, .bool false] 94 (0, 0)) (by (with_reducible repeat (first | refine blk_drewN ?_ _ | refine blk_drew ?_ | refine blk_alloc ?_ _)); exact BK147.out) hb); have n4_ := Aside0.mk (blk_below (g := gb148) (o := .cells #[.int .i64 t138, .bool false] 94 (0, 0)) (by (with_reducible repeat (first | refine blk_drewN ?_ _ | refine blk_drew ?_ | refine blk_alloc ?_ _)); exact BK148.out) hb); have n5_ := Aside0.mk (blk_below (g := gb149) (o := .cells #[.int .i64 t141, .bool false] 94 (0, 0)) (by (with_reducible repeat (first | refine blk_drewN ?_ _ | refine blk_drew ?_ | refine blk_alloc ?_ _)); exact BK149.out) hb); have n6_ := Aside0.mk (blk_below (g := gb150) (o := .cells #[.string t144, .bool t145] 97 (0, 0)) (by (with_reducible repeat (first | refine blk_drewN ?_ _ | refine blk_drew ?_ | refine blk_alloc ?_ _)); exact BK150.out) hb); have n7_ := Aside0.mk (below_step (by repeat (first | (with_reducible first | exact HB.out | apply below_alloc | apply pw_below_drewN | apply below_drew1 | refine below_set ?_ GE126.out | refine below_set ?_ GE146.out | refine below_set ?_ GE147.out | refine below_set ?_ GE148.out | refine below_set ?_ GE149.out | refine below_set ?_ GE150.out) | exact HB.out)) hb); have n8_ := Aside0.mk (hbox); have n9_ := Aside0.mk ((by rw [hg]; exact (below_size (by repeat (first | (with_reducible first | exact HB.out | apply below_alloc | apply pw_below_drewN | apply below_drew1 | refine below_set ?_ GE126.out | refine below_set ?_ GE146.out | refine below_set ?_ GE147.out | refine below_set ?_ GE148.out | refine below_set ?_ GE149.out | refine below_set ?_ GE150.out) | exact HB.out))) : w.heap.size ≤ gb151)); have n10_ := Aside0.mk ((by rw [hg]; exact (below_size (by repeat (first | (with_reducible first | exact HB.out | apply below_alloc | apply pw_below_drewN | apply below_drew1 | refine below_set ?_ GE126.out | refine below_set ?_ GE146.out | refine below_set ?_ GE147.out | refine below_set ?_ GE148.out | refine below_set ?_ GE149.out | refine below_set ?_ GE150.out) | exact HB.out))) : w.heap.size ≤ gb151)); have n11_ := Aside0.mk ((by rw [hg]; exact Nat.ne_of_lt (blk_lt (g := gb126) (o := .cells #[.int .i64 0, .int .i64 0, .int .i64 0, .int .i64 0, .string (⟨#[]⟩ : ByteArray)] 29 (0, 0)) (by (with_reducible repeat (first | refine blk_drewN ?_ _ | refine blk_drew ?_ | refine blk_alloc ?_ _)); exact BK126.out)) : gb126 ≠ gb151)); have n12_ := Aside0.mk ((by rw [hg]; exact Nat.ne_of_gt (blk_lt (g := gb126) (o := .cells #[.int .i64 0, .int .i64 0, .int .i64 0, .int .i64 0, .string (⟨#[]⟩ : ByteArray)] 29 (0, 0)) (by (with_reducible repeat (first | refine blk_drewN ?_ _ | refine blk_drew ?_ | refine blk_alloc ?_ _)); exact BK126.out)) : gb151 ≠ gb126)); have n13_ := Aside0.mk ((by rw [hg]; exact Nat.ne_of_lt (blk_lt (g := gb146) (o := .cells #[.int .i64 t132, .bool false] 94 (0, 0)) (by (with_reducible repeat (first | refine blk_drewN ?_ _ | refine blk_drew ?_ | refine blk_alloc ?_ _)); exact BK146.out)) : gb146 ≠ gb151)); have n14_ := Aside0.mk ((by rw [hg]; exact Nat.ne_of_gt (blk_lt (g := gb146) (o := .cells #[.int .i64 t132, .bool false] 94 (0, 0)) (by (with_reducible repeat (first | refine blk_drewN ?_ _ | refine blk_drew ?_ | refine blk_alloc ?_ _)); exact BK146.out)) : gb151 ≠ gb146)); have n15_ := Aside0.mk ((by rw [hg]; exact Nat.ne_of_lt (blk_lt (g := gb147) (o := .cells #[.int .i64 t135, .bool false] 94 (0, 0)) (by (with_reducible repeat (first | refine blk_drewN ?_ _ | refine blk_drew ?_ | refine blk_alloc ?_ _)); exact BK147.out)) : gb147 ≠ gb151)); have n16_ := Aside0.mk ((by rw [hg]; exact Nat.ne_of_gt (blk_lt (g := gb147) (o := .cells #[.int .i64 t135, .bool false] 94 (0, 0)) (by (with_reducible repeat (first | refine blk_drewN ?_ _ | refine blk_drew ?_ | refine blk_alloc ?_ _)); exact BK147.out)) : gb151 ≠ gb147)); have n17_ := Aside0.mk ((by rw [hg]; exact Nat.ne_of_lt (blk_lt (g := gb148) (o := .cells #[.int .i64 t138, .bool false] 94 (0, 0)) (by (with_reducible repeat (first | refine blk_drewN ?_ _ | refine blk_drew ?_ | refine blk_alloc ?_ _)); exact BK148.out)) : gb148 ≠ gb151)); have n18_ := Aside0.mk ((by rw [hg]; exact Nat.ne_of_gt (blk_lt (g := gb148) (o := .cells #[.int .i64 t138, .bool false] 94 (0, 0)) (by (with_reducible repeat (first | refine blk_drewN ?_ _ | refine blk_drew ?_ | refine blk_alloc ?_ _)); exact BK148.out)) : gb151 ≠ gb148)); have n19_ := Aside0.mk ((by rw [hg]; exact Nat.ne_of_lt (blk_lt (g := gb149) (o := .cells #[.int .i64 t141, .bool false] 94 (0, 0)) (by (with_reducible repeat (first | refine blk_drewN ?_ _ | refine blk_drew ?_ | refine blk_alloc ?_ _)); exact BK149.out)) : gb149 ≠ gb151)); have n20_ := Aside0.mk ((by rw [hg]; exact Nat.ne_of_gt (blk_lt (g := gb149) (o := .cells #[.int .i64 t141, .bool false] 94 (0, 0)) (by (with_reducible repeat (first | refine blk_drewN ?_ _ | refine blk_drew ?_ | refine blk_alloc ?_ _)); exact BK149.out)) : gb151 ≠ gb149)); have n21_ := Aside0.mk ((by rw [hg]; exact Nat.ne_of_lt (blk_lt (g := gb150) (o := .cells #[.string t144, .bool t145] 97 (0, 0)) (by (with_reducible repeat (first | refine blk_drewN ?_ _ | refine blk_drew ?_ | refine blk_alloc ?_ _)); exact BK150.out)) : gb150 ≠ gb151)); have n22_ := Aside0.mk ((by rw [hg]; exact Nat.ne_of_gt (blk_lt (g := gb150) (o := .cells #[.string t144, .bool t145] 97 (0, 0)) (by (with_reducible repeat (first | refine blk_drewN ?_ _ | refine blk_drew ?_ | refine blk_alloc ?_ _)); exact BK150.out)) : gb151 ≠ gb150)); clear HO130; clear BK126; clear BK146; clear BK147; clear BK148; clear BK149; clear BK150; clear HB; have HO130 := n0_; have BK126 := n1_; have BK146 := n2_; have BK147 := n3_; have BK148 := n4_; have BK149 := n5_; have BK150 := n6_; have HB := n7_; have BK151 := n8_; have GW151 := n9_; have GE151 := n10_; have NB126_151 := n11_; have NB151_126 := n12_; have NB146_151 := n13_; have NB151_146 := n14_; have NB147_151 := n15_; have NB151_147 := n16_; have NB148_151 := n17_; have NB151_148 := n18_; have NB149_151 := n19_; have NB151_149 := n20_; have NB150_151 := n21_; have NB151_150 := n22_; clear n0_ n1_ n2_ n3_ n4_ n5_ n6_ n7_ n8_ n9_ n10_ n11_ n12_ n13_ n14_ n15_ n16_ n17_ n18_ n19_ n20_ n21_ n22_; clear hb hbox hg; have hnb292 := NB151_126.out; have hnc292 := NB126_151.out; have hnb293 := NB151_146.out; have hnc293 := NB146_151.out; have hnb294 := NB151_147.out; have hnc294 := NB147_151.out; have hnb295 := NB151_148.out; have hnc295 := NB148_151.out; have hnb296 := NB151_149.out; have hnc296 := NB149_151.out; have hnb297 := NB151_150.out; have hnc297 := NB150_151.out; have hcz298_0 : w291.cell? ⟨gb151, 0, none⟩ = some (.int .i64 0) := (blk_cell BK151.out 0).trans rfl; have hcz298_1 : w291.cell? ⟨gb151, 1, none⟩ = some (.int .i64 0) := (blk_cell BK151.out 1).trans rfl; have hcz298_2 : w291.cell? ⟨gb151, 2, none⟩ = some (.int .i64 0) := (blk_cell BK151.out 2).trans rfl; have hcz298_3 : w291.cell? ⟨gb151, 3, none⟩ = some (.int .i64 0) := (blk_cell BK151.out 3).trans rfl; have hcz298_4 : w291.cell? ⟨gb151, 4, none⟩ = some (.string (⟨#[]⟩ : ByteArray)) := (blk_cell BK151.out 4).trans rfl; have hfz298_0 := blk_frozen BK151.out 0; have hfz298_1 := blk_frozen BK151.out 1; have hfz298_2 := blk_frozen BK151.out 2; have hfz298_3 := blk_frozen BK151.out 3; have hfz298_4 := blk_frozen BK151.out 4; have hcz299_0 : w291.cell? ⟨gb146, 0, none⟩ = some (.int .i64 t132) := (blk_cell BK146.out 0).trans rfl; have hcz299_1 : w291.cell? ⟨gb146, 1, none⟩ = some (.bool false) := (blk_cell BK146.out 1).trans rfl; have hfz299_0 := blk_frozen BK146.out 0; have hfz299_1 := blk_frozen BK146.out 1; have hcz300_0 : w291.cell? ⟨gb147, 0, none⟩ = some (.int .i64 t135) := (blk_cell BK147.out 0).trans rfl; have hcz300_1 : w291.cell? ⟨gb147, 1, none⟩ = some (.bool false) := (blk_cell BK147.out 1).trans rfl; have hfz300_0 := blk_frozen BK147.out 0; have hfz300_1 := blk_frozen BK147.out 1; have hcz301_0 : w291.cell? ⟨gb148, 0, none⟩ = some (.int .i64 t138) := (blk_cell BK148.out 0).trans rfl; have hcz301_1 : w291.cell? ⟨gb148, 1, none⟩ = some (.bool false) := (blk_cell BK148.out 1).trans rfl; have hfz301_0 := blk_frozen BK148.out 0; have hfz301_1 := blk_frozen BK148.out 1; have hcz302_0 : w291.cell? ⟨gb149, 0, none⟩ = some (.int .i64 t141) := (blk_cell BK149.out 0).trans rfl; have hcz302_1 : w291.cell? ⟨gb149, 1, none⟩ = some (.bool false) := (blk_cell BK149.out 1).trans rfl; have hfz302_0 := blk_frozen BK149.out 0; have hfz302_1 := blk_frozen BK149.out 1) | (go_at_call 24; (with_reducible refine (wire_CheckWord.calls k t132 t135 t138 (wrap64 (t141 - 1)) t144 t152 _ A244.out).mono ?_); rintro e w303 ⟨rfl, hb⟩; have n0_ := Aside0.mk (Kd.R_below (by (with_reducible repeat (first | apply Kd.R_alloc | apply Kd.R_drewN | apply Kd.R_drew)); exact (Kd.R_mono (Kd.R_far (p := ⟨gb151, 4, none⟩) (Kd.R_far (p := ⟨gb151, 3, none⟩) (Kd.R_far (p := ⟨gb151, 2, none⟩) (Kd.R_far (p := ⟨gb151, 1, none⟩) (Kd.R_far (p := ⟨gb151, 0, none⟩) (Kd.R_types HO130.out BK151.out (by decide)) (fun _ hk => hk.2) (.int .i64 t132)) (fun _ hk => hk.2) (.int .i64 t135)) (fun _ hk => hk.2) (.int .i64 t138)) (fun _ hk => hk.2) (.int .i64 (wrap64 (t141 - 1)))) (fun _ hk => hk.2) (.string t144)) (fun _ h_ => h_.1))) hb); have n1_ := Aside0.mk (blk_below (g := gb126) (o := .cells #[.int .i64 0, .int .i64 0, .int .i64 0, .int .i64 0, .string (⟨#[]⟩ : ByteArray)] 29 (0, 0)) (by (with_reducible repeat (first | refine blk_drewN ?_ _ | refine blk_drew ?_ | refine blk_alloc ?_ _)); refine blk_far ?_ NB126_151.out _; (with_reducible repeat (first | refine blk_drewN ?_ _ | refine blk_drew ?_ | refine blk_alloc ?_ _)); refine blk_far ?_ NB126_151.out _; (with_reducible repeat (first | refine blk_drewN ?_ _ | refine blk_drew ?_ | refine blk_alloc ?_ _)); refine blk_far ?_ NB126_151.out _; (with_reducible repeat (first | refine blk_drewN ?_ _ | refine blk_drew ?_ | refine blk_alloc ?_ _)); refine blk_far ?_ NB126_151.out _; (with_reducible repeat (first | refine blk_drewN ?_ _ | refine blk_drew ?_ | refine blk_alloc ?_ _)); refine blk_far ?_ NB126_151.out _; (with_reducible repeat (first | refine blk_drewN ?_ _ | refine blk_drew ?_ | refine blk_alloc ?_ _)); exact BK126.out) hb); have n2_ := Aside0.mk (blk_below (g := gb146) (o := .cells #[.int .i64 t132, .bool false] 94 (0, 0)) (by (with_reducible repeat (first | refine blk_drewN ?_ _ | refine blk_drew ?_ | refine blk_alloc ?_ _)); refine blk_far ?_ NB146_151.out _; (with_reducible repeat (first | refine blk_drewN ?_ _ | refine blk_drew ?_ | refine blk_alloc ?_ _)); refine blk_far ?_ NB146_151.out _; (with_reducible repeat (first | refine blk_drewN ?_ _ | refine blk_drew ?_ | refine blk_alloc ?_ _)); refine blk_far ?_ NB146_151.out _; (with_reducible repeat (first | refine blk_drewN ?_ _ | refine blk_drew ?_ | refine blk_alloc ?_ _)); refine blk_far ?_ NB146_151.out _; (with_reducible repeat (first | refine blk_drewN ?_ _ | refine blk_drew ?_ | refine blk_alloc ?_ _)); refine blk_far ?_ NB146_151.out _; (with_reducible repeat (first | refine blk_drewN ?_ _ | refine blk_drew ?_ | refine blk_alloc ?_ _)); exact BK146.out) hb); have n3_ := Aside0.mk (blk_below (g := gb147) (o := .cells #[.int .i64 t135, .bool false] 94 (0, 0)) (by (with_reducible repeat (first | refine blk_drewN ?_ _ | refine blk_drew ?_ | refine blk_alloc ?_ _)); refine blk_far ?_ NB147_151.out _; (with_reducible repeat (first | refine blk_drewN ?_ _ | refine blk_drew ?_ | refine blk_alloc ?_ _)); refine blk_far ?_ NB147_151.out _; (with_reducible repeat (first | refine blk_drewN ?_ _ | refine blk_drew ?_ | refine blk_alloc ?_ _)); refine blk_far ?_ NB147_151.out _; (with_reducible repeat (first | refine blk_drewN ?_ _ | refine blk_drew ?_ | refine blk_alloc ?_ _)); refine blk_far ?_ NB147_151.out _; (with_reducible repeat (first | refine blk_drewN ?_ _ | refine blk_drew ?_ | refine blk_alloc ?_ _)); refine blk_far ?_ NB147_151.out _; (with_reducible repeat (first | refine blk_drewN ?_ _ | refine blk_drew ?_ | refine blk_alloc ?_ _)); exact BK147.out) hb); have n4_ := Aside0.mk (blk_below (g := gb148) (o := .cells #[.int .i64 t138, .bool false] 94 (0, 0)) (by (with_reducible repeat (first | refine blk_drewN ?_ _ | refine blk_drew ?_ | refine blk_alloc ?_ _)); refine blk_far ?_ NB148_151.out _; (with_reducible repeat (first | refine blk_drewN ?_ _ | refine blk_drew ?_ | refine blk_alloc ?_ _)); refine blk_far ?_ NB148_151.out _; (with_reducible repeat (first | refine blk_drewN ?_ _ | refine blk_drew ?_ | refine blk_alloc ?_ _)); refine blk_far ?_ NB148_151.out _; (with_reducible repeat (first | refine blk_drewN ?_ _ | refine blk_drew ?_ | refine blk_alloc ?_ _)); refine blk_far ?_ NB148_151.out _; (with_reducible repeat (first | refine blk_drewN ?_ _ | refine blk_drew ?_ | refine blk_alloc ?_ _)); refine blk_far ?_ NB148_151.out _; (with_reducible repeat (first | refine blk_drewN ?_ _ | refine blk_drew ?_ | refine blk_alloc ?_ _)); exact BK148.out) hb); have n5_ := Aside0.mk (blk_below (g := gb149) (o := .cells #[.int .i64 t141, .bool false] 94 (0, 0)) (by (with_reducible repeat (first | refine blk_drewN ?_ _ | refine blk_drew ?_ | refine blk_alloc ?_ _)); refine blk_far ?_ NB149_151.out _; (with_reducible repeat (first | refine blk_drewN ?_ _ | refine blk_drew ?_ | refine blk_alloc ?_ _)); refine blk_far ?_ NB149_151.out _; (with_reducible repeat (first | refine blk_drewN ?_ _ | refine blk_drew ?_ | refine blk_alloc ?_ _)); refine blk_far ?_ NB149_151.out _; (with_reducible repeat (first | refine blk_drewN ?_ _ | refine blk_drew ?_ | refine blk_alloc ?_ _)); refine blk_far ?_ NB149_151.out _; (with_reducible repeat (first | refine blk_drewN ?_ _ | refine blk_drew ?_ | refine blk_alloc ?_ _)); refine blk_far ?_ NB149_151.out _; (with_reducible repeat (first | refine blk_drewN ?_ _ | refine blk_drew ?_ | refine blk_alloc ?_ _)); exact BK149.out) hb); have n6_ := Aside0.mk (blk_below (g := gb150) (o := .cells #[.string t144, .bool t145] 97 (0, 0)) (by (with_reducible repeat (first | refine blk_drewN ?_ _ | refine blk_drew ?_ | refine blk_alloc ?_ _)); refine blk_far ?_ NB150_151.out _; (with_reducible repeat (first | refine blk_drewN ?_ _ | refine blk_drew ?_ | refine blk_alloc ?_ _)); refine blk_far ?_ NB150_151.out _; (with_reducible repeat (first | refine blk_drewN ?_ _ | refine blk_drew ?_ | refine blk_alloc ?_ _)); refine blk_far ?_ NB150_151.out _; (with_reducible repeat (first | refine blk_drewN ?_ _ | refine blk_drew ?_ | refine blk_alloc ?_ _)); refine blk_far ?_ NB150_151.out _; (with_reducible repeat (first | refine blk_drewN ?_ _ | refine blk_drew ?_ | refine blk_alloc ?_ _)); refine blk_far ?_ NB150_151.out _; (with_reducible repeat (first | refine blk_drewN ?_ _ | refine blk_drew ?_ | refine blk_alloc ?_ _)); exact BK150.out) hb); have n7_ := Aside0.mk (blk_below (g := gb151) (o := .cells #[.int .i64 t132, .int .i64 t135, .int .i64 t138, .int .i64 (wrap64 (t141 - 1)), .string t144] 29 (0, 0)) (by (with_reducible repeat (first | refine blk_drewN ?_ _ | refine blk_drew ?_ | refine blk_alloc ?_ _)); refine blk_put (cs := #[.int .i64 t132, .int .i64 t135, .int .i64 t138, .int .i64 (wrap64 (t141 - 1)), .string (⟨#[]⟩ : ByteArray)]) ?_ 4 _ rfl; (with_reducible repeat (first | refine blk_drewN ?_ _ | refine blk_drew ?_ | refine blk_alloc ?_ _)); refine blk_put (cs := #[.int .i64 t132, .int .i64 t135, .int .i64 t138, .int .i64 0, .string (⟨#[]⟩ : ByteArray)]) ?_ 3 _ rfl; (with_reducible repeat (first | refine blk_drewN ?_ _ | refine blk_drew ?_ | refine blk_alloc ?_ _)); refine blk_put (cs := #[.int .i64 t132, .int .i64 t135, .int .i64 0, .int .i64 0, .string (⟨#[]⟩ : ByteArray)]) ?_ 2 _ rfl; (with_reducible repeat (first | refine blk_drewN ?_ _ | refine blk_drew ?_ | refine blk_alloc ?_ _)); refine blk_put (cs := #[.int .i64 t132, .int .i64 0, .int .i64 0, .int .i64 0, .string (⟨#[]⟩ : ByteArray)]) ?_ 1 _ rfl; (with_reducible repeat (first | refine blk_drewN ?_ _ | refine blk_drew ?_ | refine blk_alloc ?_ _)); refine blk_put (cs := #[.int .i64 0, .int .i64 0, .int .i64 0, .int .i64 0, .string (⟨#[]⟩ : ByteArray)]) ?_ 0 _ rfl; (with_reducible repeat (first | refine blk_drewN ?_ _ | refine blk_drew ?_ | refine blk_alloc ?_ _)); exact BK151.out) hb); have n8_ := Aside0.mk (below_step (by repeat (first | (with_reducible first | exact HB.out | apply below_alloc | apply pw_below_drewN | apply below_drew1 | refine below_set ?_ GE126.out | refine below_set ?_ GE146.out | refine below_set ?_ GE147.out | refine below_set ?_ GE148.out | refine below_set ?_ GE149.out | refine below_set ?_ GE150.out | refine below_set ?_ GE151.out) | exact HB.out)) hb); clear HO130; clear BK126; clear BK146; clear BK147; clear BK148; clear BK149; clear BK150; clear BK151; clear HB; have HO130 := n0_; have BK126 := n1_; have BK146 := n2_; have BK147 := n3_; have BK148 := n4_; have BK149 := n5_; have BK150 := n6_; have BK151 := n7_; have HB := n8_; clear n0_ n1_ n2_ n3_ n4_ n5_ n6_ n7_ n8_; (try clear hb); (try clear hb2); (try clear hk); (try clear hi); have hcz304_0 : w303.cell? ⟨gb151, 0, none⟩ = some (.int .i64 t132) := (blk_cell BK151.out 0).trans rfl; have hcz304_1 : w303.cell? ⟨gb151, 1, none⟩ = some (.int .i64 t135) := (blk_cell BK151.out 1).trans rfl; have hcz304_2 : w303.cell? ⟨gb151, 2, none⟩ = some (.int .i64 t138) := (blk_cell BK151.out 2).trans rfl; have hcz304_3 : w303.cell? ⟨gb151, 3, none⟩ = some (.int .i64 (wrap64 (t141 - 1))) := (blk_cell BK151.out 3).trans rfl; have hcz304_4 : w303.cell? ⟨gb151, 4, none⟩ = some (.string t144) := (blk_cell BK151.out 4).trans rfl; have hfz304_0 := blk_frozen BK151.out 0; have hfz304_1 := blk_frozen BK151.out 1; have hfz304_2 := blk_frozen BK151.out 2; have hfz304_3 := blk_frozen BK151.out 3; have hfz304_4 := blk_frozen BK151.out 4; have hcz305_0 : w303.cell? ⟨gb126, 0, none⟩ = some (.int .i64 0) := (blk_cell BK126.out 0).trans rfl; have hcz305_1 : w303.cell? ⟨gb126, 1, none⟩ = some (.int .i64 0) := (blk_cell BK126.out 1).trans rfl; have hcz305_2 : w303.cell? ⟨gb126, 2, none⟩ = some (.int .i64 0) := (blk_cell BK126.out 2).trans rfl; have hcz305_3 : w303.cell? ⟨gb126, 3, none⟩ = some (.int .i64 0) := (blk_cell BK126.out 3).trans rfl; have hcz305_4 : w303.cell? ⟨gb126, 4, none⟩ = some (.string (⟨#[]⟩ : ByteArray)) := (blk_cell BK126.out 4).trans rfl; have hfz305_0 := blk_frozen BK126.out 0; have hfz305_1 := blk_frozen BK126.out 1; have hfz305_2 := blk_frozen BK126.out 2; have hfz305_3 := blk_frozen BK126.out 3; have hfz305_4 := blk_frozen BK126.out 4))
          refine bodyPost_ret (results_ct rfl _ _ gb126 29 #[.int .i64 t132, .int .i64 t135, .int .i64 t138, .int .i64 (wrap64 (t141 - 1)), .string t144] (0, 0) _ rfl (by (with_reducible repeat (first | refine blk_drewN ?_ _ | refine blk_drew ?_ | refine blk_alloc ?_ _)); refine blk_put (cs := #[.int .i64 t132, .int .i64 t135, .int .i64 t138, .int .i64 (wrap64 (t141 - 1)), .string (⟨#[]⟩ : ByteArray)]) ?_ 4 _ rfl; (with_reducible repeat (first | refine blk_drewN ?_ _ | refine blk_drew ?_ | refine blk_alloc ?_ _)); refine blk_put (cs := #[.int .i64 t132, .int .i64 t135, .int .i64 t138, .int .i64 0, .string (⟨#[]⟩ : ByteArray)]) ?_ 3 _ rfl; (with_reducible repeat (first | refine blk_drewN ?_ _ | refine blk_drew ?_ | refine blk_alloc ?_ _)); refine blk_put (cs := #[.int .i64 t132, .int .i64 t135, .int .i64 0, .int .i64 0, .string (⟨#[]⟩ : ByteArray)]) ?_ 2 _ rfl; (with_reducible repeat (first | refine blk_drewN ?_ _ | refine blk_drew ?_ | refine blk_alloc ?_ _)); refine blk_put (cs := #[.int .i64 t132, .int .i64 0, .int .i64 0, .int .i64 0, .string (⟨#[]⟩ : ByteArray)]) ?_ 1 _ rfl; (with_reducible repeat (first | refine blk_drewN ?_ _ | refine blk_drew ?_ | refine blk_alloc ?_ _)); refine blk_put (cs := #[.int .i64 0, .int .i64 0, .int .i64 0, .int .i64 0, .string (⟨#[]⟩ : ByteArray)]) ?_ 0 _ rfl; (with_reducible repeat (first | refine blk_drewN ?_ _ | refine blk_drew ?_ | refine blk_alloc ?_ _)); exact BK126.out) Try.underlying29 rfl (by kernel_rfl)) rfl ?_
          exact ⟨by first | rfl | (simp [errW_none, errW_some] <;> rfl) | (simp [*, errW_none, errW_some] <;> rfl), by repeat (first | (with_reducible first | exact HB.out | apply below_alloc | apply pw_below_drewN | apply below_drew1 | refine below_set ?_ GE126.out | refine below_set ?_ GE146.out | refine below_set ?_ GE147.out | refine below_set ?_ GE148.out | refine below_set ?_ GE149.out | refine below_set ?_ GE150.out | refine below_set ?_ GE151.out) | exact HB.out)⟩
        subst c185
        have H1 : (some (0, 0, 0, 0, (⟨#[]⟩ : ByteArray), 3)) = some (r1, r2, r3, r4, r5, r6) := by rw [if_pos rfl] at H; exact H
        clear H
        have H := H1
        clear H1
        simp only [Option.some.injEq, Prod.mk.injEq] at H
        obtain ⟨rfl, rfl, rfl, rfl, rfl, rfl⟩ := H
        have hnb211 := NB146_126.out
        have hnc211 := NB126_146.out
        have hnb212 := NB146_147.out
        have hnc212 := NB147_146.out
        have hnb213 := NB146_148.out
        have hnc213 := NB148_146.out
        have hnb214 := NB146_149.out
        have hnc214 := NB149_146.out
        have hnb215 := NB146_150.out
        have hnc215 := NB150_146.out
        have hcz216_0 : w39.cell? ⟨gb146, 0, none⟩ = some (.int .i64 t132) := (blk_cell BK146.out 0).trans rfl
        have hcz216_1 : w39.cell? ⟨gb146, 1, none⟩ = some (.bool false) := (blk_cell BK146.out 1).trans rfl
        have hfz216_0 := blk_frozen BK146.out 0
        have hfz216_1 := blk_frozen BK146.out 1
        have hnb217 := NB147_126.out
        have hnc217 := NB126_147.out
        have hnb218 := NB147_148.out
        have hnc218 := NB148_147.out
        have hnb219 := NB147_149.out
        have hnc219 := NB149_147.out
        have hnb220 := NB147_150.out
        have hnc220 := NB150_147.out
        have hcz221_0 : w39.cell? ⟨gb147, 0, none⟩ = some (.int .i64 t135) := (blk_cell BK147.out 0).trans rfl
        have hcz221_1 : w39.cell? ⟨gb147, 1, none⟩ = some (.bool false) := (blk_cell BK147.out 1).trans rfl
        have hfz221_0 := blk_frozen BK147.out 0
        have hfz221_1 := blk_frozen BK147.out 1
        have hnb222 := NB148_126.out
        have hnc222 := NB126_148.out
        have hnb223 := NB148_149.out
        have hnc223 := NB149_148.out
        have hnb224 := NB148_150.out
        have hnc224 := NB150_148.out
        have hcz225_0 : w39.cell? ⟨gb148, 0, none⟩ = some (.int .i64 t138) := (blk_cell BK148.out 0).trans rfl
        have hcz225_1 : w39.cell? ⟨gb148, 1, none⟩ = some (.bool false) := (blk_cell BK148.out 1).trans rfl
        have hfz225_0 := blk_frozen BK148.out 0
        have hfz225_1 := blk_frozen BK148.out 1
        have hnb226 := NB149_126.out
        have hnc226 := NB126_149.out
        have hnb227 := NB149_150.out
        have hnc227 := NB150_149.out
        have hcz228_0 : w39.cell? ⟨gb149, 0, none⟩ = some (.int .i64 t141) := (blk_cell BK149.out 0).trans rfl
        have hcz228_1 : w39.cell? ⟨gb149, 1, none⟩ = some (.bool true) := (blk_cell BK149.out 1).trans rfl
        have hfz228_0 := blk_frozen BK149.out 0
        have hfz228_1 := blk_frozen BK149.out 1
        have hnb229 := NB150_126.out
        have hnc229 := NB126_150.out
        have hcz230_0 : w39.cell? ⟨gb150, 0, none⟩ = some (.string t144) := (blk_cell BK150.out 0).trans rfl
        have hcz230_1 : w39.cell? ⟨gb150, 1, none⟩ = some (.bool t145) := (blk_cell BK150.out 1).trans rfl
        have hfz230_0 := blk_frozen BK150.out 0
        have hfz230_1 := blk_frozen BK150.out 1
        try go_wp2_with (first | ((with_reducible refine gate_dst (N := 11) rfl ?_); refine box_event ?hg (N := 11) ?hd (cs := #[.int .i64 0, .int .i64 0, .int .i64 0, .int .i64 0, .string (⟨#[]⟩ : ByteArray)]) (t := 29) ?hr ?_; (case hd => rfl); (case hg => rfl); (case hr => first | (go_simp; done) | (go_simp; rfl)); intro gb151 hg w231 hbox hb; have n0_ := Aside0.mk (Kd.R_below (by (with_reducible repeat (first | apply Kd.R_alloc | apply Kd.R_drewN | apply Kd.R_drew)); exact HO130.out) hb); have n1_ := Aside0.mk (blk_below (g := gb126) (o := .cells #[.int .i64 0, .int .i64 0, .int .i64 0, .int .i64 0, .string (⟨#[]⟩ : ByteArray)] 29 (0, 0)) (by (with_reducible repeat (first | refine blk_drewN ?_ _ | refine blk_drew ?_ | refine blk_alloc ?_ _)); exact BK126.out) hb); have n2_ := Aside0.mk (blk_below (g := gb146) (o := .cells #[.int .i64 t132, .bool false] 94 (0, 0)) (by (with_reducible repeat (first | refine blk_drewN ?_ _ | refine blk_drew ?_ | refine blk_alloc ?_ _)); exact BK146.out) hb); have n3_ := Aside0.mk (blk_below (g := gb147) (o := .cells #[.int .i64 t135, .bool false] 94 (0, 0)) (by (with_reducible repeat (first | refine blk_drewN ?_ _ | refine blk_drew ?_ | refine blk_alloc ?_ _)); exact BK147.out) hb); have n4_ := Aside0.mk (blk_below (g := gb148) (o := .cells #[.int .i64 t138, .bool false] 94 (0, 0)) (by (with_reducible repeat (first | refine blk_drewN ?_ _ | refine blk_drew ?_ | refine blk_alloc ?_ _)); exact BK148.out) hb); have n5_ := Aside0.mk (blk_below (g := gb149) (o := .cells #[.int .i64 t141, .bool true] 94 (0, 0)) (by (with_reducible repeat (first | refine blk_drewN ?_ _ | refine blk_drew ?_ | refine blk_alloc ?_ _)); exact BK149.out) hb); have n6_ := Aside0.mk (blk_below (g := gb150) (o := .cells #[.string t144, .bool t145] 97 (0, 0)) (by (with_reducible repeat (first | refine blk_drewN ?_ _ | refine blk_drew ?_ | refine blk_alloc ?_ _)); exact BK150.out) hb); have n7_ := Aside0.mk (below_step (by repeat (first | (with_reducible first | exact HB.out | apply below_alloc | apply pw_below_drewN | apply below_drew1 | refine below_set ?_ GE126.out | refine below_set ?_ GE146.out | refine below_set ?_ GE147.out | refine below_set ?_ GE148.out | refine below_set ?_ GE149.out | refine below_set ?_ GE150.out) | exact HB.out)) hb); have n8_ := Aside0.mk (hbox); have n9_ := Aside0.mk ((by rw [hg]; exact (below_size (by repeat (first | (with_reducible first | exact HB.out | apply below_alloc | apply pw_below_drewN | apply below_drew1 | refine below_set ?_ GE126.out | refine below_set ?_ GE146.out | refine below_set ?_ GE147.out | refine below_set ?_ GE148.out | refine below_set ?_ GE149.out | refine below_set ?_ GE150.out) | exact HB.out))) : w.heap.size ≤ gb151)); have n10_ := Aside0.mk ((by rw [hg]; exact (below_size (by repeat (first | (with_reducible first | exact HB.out | apply below_alloc | apply pw_below_drewN | apply below_drew1 | refine below_set ?_ GE126.out | refine below_set ?_ GE146.out | refine below_set ?_ GE147.out | refine below_set ?_ GE148.out | refine below_set ?_ GE149.out | refine below_set ?_ GE150.out) | exact HB.out))) : w.heap.size ≤ gb151)); have n11_ := Aside0.mk ((by rw [hg]; exact Nat.ne_of_lt (blk_lt (g := gb126) (o := .cells #[.int .i64 0, .int .i64 0, .int .i64 0, .int .i64 0, .string (⟨#[]⟩ : ByteArray)] 29 (0, 0)) (by (with_reducible repeat (first | refine blk_drewN ?_ _ | refine blk_drew ?_ | refine blk_alloc ?_ _)); exact BK126.out)) : gb126 ≠ gb151)); have n12_ := Aside0.mk ((by rw [hg]; exact Nat.ne_of_gt (blk_lt (g := gb126) (o := .cells #[.int .i64 0, .int .i64 0, .int .i64 0, .int .i64 0, .string (⟨#[]⟩ : ByteArray)] 29 (0, 0)) (by (with_reducible repeat (first | refine blk_drewN ?_ _ | refine blk_drew ?_ | refine blk_alloc ?_ _)); exact BK126.out)) : gb151 ≠ gb126)); have n13_ := Aside0.mk ((by rw [hg]; exact Nat.ne_of_lt (blk_lt (g := gb146) (o := .cells #[.int .i64 t132, .bool false] 94 (0, 0)) (by (with_reducible repeat (first | refine blk_drewN ?_ _ | refine blk_drew ?_ | refine blk_alloc ?_ _)); exact BK146.out)) : gb146 ≠ gb151)); have n14_ := Aside0.mk ((by rw [hg]; exact Nat.ne_of_gt (blk_lt (g := gb146) (o := .cells #[.int .i64 t132, .bool false] 94 (0, 0)) (by (with_reducible repeat (first | refine blk_drewN ?_ _ | refine blk_drew ?_ | refine blk_alloc ?_ _)); exact BK146.out)) : gb151 ≠ gb146)); have n15_ := Aside0.mk ((by rw [hg]; exact Nat.ne_of_lt (blk_lt (g := gb147) (o := .cells #[.int .i64 t135, .bool false] 94 (0, 0)) (by (with_reducible repeat (first | refine blk_drewN ?_ _ | refine blk_drew ?_ | refine blk_alloc ?_ _)); exact BK147.out)) : gb147 ≠ gb151)); have n16_ := Aside0.mk ((by rw [hg]; exact Nat.ne_of_gt (blk_lt (g := gb147) (o := .cells #[.int .i64 t135, .bool false] 94 (0, 0)) (by (with_reducible repeat (first | refine blk_drewN ?_ _ | refine blk_drew ?_ | refine blk_alloc ?_ _)); exact BK147.out)) : gb151 ≠ gb147)); have n17_ := Aside0.mk ((by rw [hg]; exact Nat.ne_of_lt (blk_lt (g := gb148) (o := .cells #[.int .i64 t138, .bool false] 94 (0, 0)) (by (with_reducible repeat (first | refine blk_drewN ?_ _ | refine blk_drew ?_ | refine blk_alloc ?_ _)); exact BK148.out)) : gb148 ≠ gb151)); have n18_ := Aside0.mk ((by rw [hg]; exact Nat.ne_of_gt (blk_lt (g := gb148) (o := .cells #[.int .i64 t138, .bool false] 94 (0, 0)) (by (with_reducible repeat (first | refine blk_drewN ?_ _ | refine blk_drew ?_ | refine blk_alloc ?_ _)); exact BK148.out)) : gb151 ≠ gb148)); have n19_ := Aside0.mk ((by rw [hg]; exact Nat.ne_of_lt (blk_lt (g := gb149) (o := .cells #[.int .i64 t141, .bool true] 94 (0, 0)) (by (with_reducible repeat (first | refine blk_drewN ?_ _ | refine blk_drew ?_ | refine blk_alloc ?_ _)); exact BK149.out)) : gb149 ≠ gb151)); have n20_ := Aside0.mk ((by rw [hg]; exact Nat.ne_of_gt (blk_lt (g := gb149) (o := .cells #[.int .i64 t141, .bool true] 94 (0, 0)) (by (with_reducible repeat (first | refine blk_drewN ?_ _ | refine blk_drew ?_ | refine blk_alloc ?_ _)); exact BK149.out)) : gb151 ≠ gb149)); have n21_ := Aside0.mk ((by rw [hg]; exact Nat.ne_of_lt (blk_lt (g := gb150) (o := .cells #[.string t144, .bool t145] 97 (0, 0)) (by (with_reducible repeat (first | refine blk_drewN ?_ _ | refine blk_drew ?_ | refine blk_alloc ?_ _)); exact BK150.out)) : gb150 ≠ gb151)); have n22_ := Aside0.mk ((by rw [hg]; exact Nat.ne_of_gt (blk_lt (g := gb150) (o := .cells #[.string t144, .bool t145] 97 (0, 0)) (by (with_reducible repeat (first | refine blk_drewN ?_ _ | refine blk_drew ?_ | refine blk_alloc ?_ _)); exact BK150.out)) : gb151 ≠ gb150)); clear HO130; clear BK126; clear BK146; clear BK147; clear BK148; clear BK149; clear BK150; clear HB; have HO130 := n0_; have BK126 := n1_; have BK146 := n2_; have BK147 := n3_; have BK148 := n4_; have BK149 := n5_; have BK150 := n6_; have HB := n7_; have BK151 := n8_; have GW151 := n9_; have GE151 := n10_; have NB126_151 := n11_; have NB151_126 := n12_; have NB146_151 := n13_; have NB151_146 := n14_; have NB147_151 := n15_; have NB151_147 := n16_; have NB148_151 := n17_; have NB151_148 := n18_; have NB149_151 := n19_; have NB151_149 := n20_; have NB150_151 := n21_; have NB151_150 := n22_; clear n0_ n1_ n2_ n3_ n4_ n5_ n6_ n7_ n8_ n9_ n10_ n11_ n12_ n13_ n14_ n15_ n16_ n17_ n18_ n19_ n20_ n21_ n22_; clear hb hbox hg; have hnb232 := NB151_126.out; have hnc232 := NB126_151.out; have hnb233 := NB151_146.out; have hnc233 := NB146_151.out; have hnb234 := NB151_147.out; have hnc234 := NB147_151.out; have hnb235 := NB151_148.out; have hnc235 := NB148_151.out; have hnb236 := NB151_149.out; have hnc236 := NB149_151.out; have hnb237 := NB151_150.out; have hnc237 := NB150_151.out; have hcz238_0 : w231.cell? ⟨gb151, 0, none⟩ = some (.int .i64 0) := (blk_cell BK151.out 0).trans rfl; have hcz238_1 : w231.cell? ⟨gb151, 1, none⟩ = some (.int .i64 0) := (blk_cell BK151.out 1).trans rfl; have hcz238_2 : w231.cell? ⟨gb151, 2, none⟩ = some (.int .i64 0) := (blk_cell BK151.out 2).trans rfl; have hcz238_3 : w231.cell? ⟨gb151, 3, none⟩ = some (.int .i64 0) := (blk_cell BK151.out 3).trans rfl; have hcz238_4 : w231.cell? ⟨gb151, 4, none⟩ = some (.string (⟨#[]⟩ : ByteArray)) := (blk_cell BK151.out 4).trans rfl; have hfz238_0 := blk_frozen BK151.out 0; have hfz238_1 := blk_frozen BK151.out 1; have hfz238_2 := blk_frozen BK151.out 2; have hfz238_3 := blk_frozen BK151.out 3; have hfz238_4 := blk_frozen BK151.out 4; have hcz239_0 : w231.cell? ⟨gb146, 0, none⟩ = some (.int .i64 t132) := (blk_cell BK146.out 0).trans rfl; have hcz239_1 : w231.cell? ⟨gb146, 1, none⟩ = some (.bool false) := (blk_cell BK146.out 1).trans rfl; have hfz239_0 := blk_frozen BK146.out 0; have hfz239_1 := blk_frozen BK146.out 1; have hcz240_0 : w231.cell? ⟨gb147, 0, none⟩ = some (.int .i64 t135) := (blk_cell BK147.out 0).trans rfl; have hcz240_1 : w231.cell? ⟨gb147, 1, none⟩ = some (.bool false) := (blk_cell BK147.out 1).trans rfl; have hfz240_0 := blk_frozen BK147.out 0; have hfz240_1 := blk_frozen BK147.out 1; have hcz241_0 : w231.cell? ⟨gb148, 0, none⟩ = some (.int .i64 t138) := (blk_cell BK148.out 0).trans rfl; have hcz241_1 : w231.cell? ⟨gb148, 1, none⟩ = some (.bool false) := (blk_cell BK148.out 1).trans rfl; have hfz241_0 := blk_frozen BK148.out 0; have hfz241_1 := blk_frozen BK148.out 1; have hcz242_0 : w231.cell? ⟨gb149, 0, none⟩ = some (.int .i64 t141) := (blk_cell BK149.out 0).trans rfl; have hcz242_1 : w231.cell? ⟨gb149, 1, none⟩ = some (.bool true) := (blk_cell BK149.out 1).trans rfl; have hfz242_0 := blk_frozen BK149.out 0; have hfz242_1 := blk_frozen BK149.out 1; have hcz243_0 : w231.cell? ⟨gb126, 0, none⟩ = some (.int .i64 0) := (blk_cell BK126.out 0).trans rfl; have hcz243_1 : w231.cell? ⟨gb126, 1, none⟩ = some (.int .i64 0) := (blk_cell BK126.out 1).trans rfl; have hcz243_2 : w231.cell? ⟨gb126, 2, none⟩ = some (.int .i64 0) := (blk_cell BK126.out 2).trans rfl; have hcz243_3 : w231.cell? ⟨gb126, 3, none⟩ = some (.int .i64 0) := (blk_cell BK126.out 3).trans rfl; have hcz243_4 : w231.cell? ⟨gb126, 4, none⟩ = some (.string (⟨#[]⟩ : ByteArray)) := (blk_cell BK126.out 4).trans rfl; have hfz243_0 := blk_frozen BK126.out 0; have hfz243_1 := blk_frozen BK126.out 1; have hfz243_2 := blk_frozen BK126.out 2; have hfz243_3 := blk_frozen BK126.out 3; have hfz243_4 := blk_frozen BK126.out 4))
        refine bodyPost_ret (results_ct rfl _ _ gb126 29 #[.int .i64 0, .int .i64 0, .int .i64 0, .int .i64 0, .string (⟨#[]⟩ : ByteArray)] (0, 0) _ rfl (by (with_reducible repeat (first | refine blk_drewN ?_ _ | refine blk_drew ?_ | refine blk_alloc ?_ _)); refine blk_put (cs := #[.int .i64 0, .int .i64 0, .int .i64 0, .int .i64 0, .string (⟨#[]⟩ : ByteArray)]) ?_ 4 _ rfl; (with_reducible repeat (first | refine blk_drewN ?_ _ | refine blk_drew ?_ | refine blk_alloc ?_ _)); refine blk_put (cs := #[.int .i64 0, .int .i64 0, .int .i64 0, .int .i64 0, .string (⟨#[]⟩ : ByteArray)]) ?_ 3 _ rfl; (with_reducible repeat (first | refine blk_drewN ?_ _ | refine blk_drew ?_ | refine blk_alloc ?_ _)); refine blk_put (cs := #[.int .i64 0, .int .i64 0, .int .i64 0, .int .i64 0, .string (⟨#[]⟩ : ByteArray)]) ?_ 2 _ rfl; (with_reducible repeat (first | refine blk_drewN ?_ _ | refine blk_drew ?_ | refine blk_alloc ?_ _)); refine blk_put (cs := #[.int .i64 0, .int .i64 0, .int .i64 0, .int .i64 0, .string (⟨#[]⟩ : ByteArray)]) ?_ 1 _ rfl; (with_reducible repeat (first | refine blk_drewN ?_ _ | refine blk_drew ?_ | refine blk_alloc ?_ _)); refine blk_put (cs := #[.int .i64 0, .int .i64 0, .int .i64 0, .int .i64 0, .string (⟨#[]⟩ : ByteArray)]) ?_ 0 _ rfl; (with_reducible repeat (first | refine blk_drewN ?_ _ | refine blk_drew ?_ | refine blk_alloc ?_ _)); refine blk_far ?_ NB126_151.out _; (with_reducible repeat (first | refine blk_drewN ?_ _ | refine blk_drew ?_ | refine blk_alloc ?_ _)); refine blk_far ?_ NB126_151.out _; (with_reducible repeat (first | refine blk_drewN ?_ _ | refine blk_drew ?_ | refine blk_alloc ?_ _)); refine blk_far ?_ NB126_151.out _; (with_reducible repeat (first | refine blk_drewN ?_ _ | refine blk_drew ?_ | refine blk_alloc ?_ _)); refine blk_far ?_ NB126_151.out _; (with_reducible repeat (first | refine blk_drewN ?_ _ | refine blk_drew ?_ | refine blk_alloc ?_ _)); refine blk_far ?_ NB126_151.out _; (with_reducible repeat (first | refine blk_drewN ?_ _ | refine blk_drew ?_ | refine blk_alloc ?_ _)); exact BK126.out) Try.underlying29 rfl (by kernel_rfl)) rfl ?_
        exact ⟨by first | rfl | (simp [errW_none, errW_some] <;> rfl) | (simp [*, errW_none, errW_some] <;> rfl), by repeat (first | (with_reducible first | exact HB.out | apply below_alloc | apply pw_below_drewN | apply below_drew1 | refine below_set ?_ GE126.out | refine below_set ?_ GE146.out | refine below_set ?_ GE147.out | refine below_set ?_ GE148.out | refine below_set ?_ GE149.out | refine below_set ?_ GE150.out | refine below_set ?_ GE151.out) | exact HB.out)⟩
      subst c127
      have H1 : (some (0, 0, 0, 0, (⟨#[]⟩ : ByteArray), 3)) = some (r1, r2, r3, r4, r5, r6) := by rw [if_pos rfl] at H; exact H
      clear H
      have H := H1
      clear H1
      simp only [Option.some.injEq, Prod.mk.injEq] at H
      obtain ⟨rfl, rfl, rfl, rfl, rfl, rfl⟩ := H
      have hnb153 := NB146_126.out
      have hnc153 := NB126_146.out
      have hnb154 := NB146_147.out
      have hnc154 := NB147_146.out
      have hnb155 := NB146_148.out
      have hnc155 := NB148_146.out
      have hnb156 := NB146_149.out
      have hnc156 := NB149_146.out
      have hnb157 := NB146_150.out
      have hnc157 := NB150_146.out
      have hcz158_0 : w39.cell? ⟨gb146, 0, none⟩ = some (.int .i64 t132) := (blk_cell BK146.out 0).trans rfl
      have hcz158_1 : w39.cell? ⟨gb146, 1, none⟩ = some (.bool false) := (blk_cell BK146.out 1).trans rfl
      have hfz158_0 := blk_frozen BK146.out 0
      have hfz158_1 := blk_frozen BK146.out 1
      have hnb159 := NB147_126.out
      have hnc159 := NB126_147.out
      have hnb160 := NB147_148.out
      have hnc160 := NB148_147.out
      have hnb161 := NB147_149.out
      have hnc161 := NB149_147.out
      have hnb162 := NB147_150.out
      have hnc162 := NB150_147.out
      have hcz163_0 : w39.cell? ⟨gb147, 0, none⟩ = some (.int .i64 t135) := (blk_cell BK147.out 0).trans rfl
      have hcz163_1 : w39.cell? ⟨gb147, 1, none⟩ = some (.bool false) := (blk_cell BK147.out 1).trans rfl
      have hfz163_0 := blk_frozen BK147.out 0
      have hfz163_1 := blk_frozen BK147.out 1
      have hnb164 := NB148_126.out
      have hnc164 := NB126_148.out
      have hnb165 := NB148_149.out
      have hnc165 := NB149_148.out
      have hnb166 := NB148_150.out
      have hnc166 := NB150_148.out
      have hcz167_0 : w39.cell? ⟨gb148, 0, none⟩ = some (.int .i64 t138) := (blk_cell BK148.out 0).trans rfl
      have hcz167_1 : w39.cell? ⟨gb148, 1, none⟩ = some (.bool true) := (blk_cell BK148.out 1).trans rfl
      have hfz167_0 := blk_frozen BK148.out 0
      have hfz167_1 := blk_frozen BK148.out 1
      have hnb168 := NB149_126.out
      have hnc168 := NB126_149.out
      have hnb169 := NB149_150.out
      have hnc169 := NB150_149.out
      have hcz170_0 : w39.cell? ⟨gb149, 0, none⟩ = some (.int .i64 t141) := (blk_cell BK149.out 0).trans rfl
      have hcz170_1 : w39.cell? ⟨gb149, 1, none⟩ = some (.bool t142) := (blk_cell BK149.out 1).trans rfl
      have hfz170_0 := blk_frozen BK149.out 0
      have hfz170_1 := blk_frozen BK149.out 1
      have hnb171 := NB150_126.out
      have hnc171 := NB126_150.out
      have hcz172_0 : w39.cell? ⟨gb150, 0, none⟩ = some (.string t144) := (blk_cell BK150.out 0).trans rfl
      have hcz172_1 : w39.cell? ⟨gb150, 1, none⟩ = some (.bool t145) := (blk_cell BK150.out 1).trans rfl
      have hfz172_0 := blk_frozen BK150.out 0
      have hfz172_1 := blk_frozen BK150.out 1
      try go_wp2_with (first | ((with_reducible refine gate_dst (N := 11) rfl ?_); refine box_event ?hg (N := 11) ?hd (cs := #[.int .i64 0, .int .i64 0, .int .i64 0, .int .i64 0, .string (⟨#[]⟩ : ByteArray)]) (t := 29) ?hr ?_; (case hd => rfl); (case hg => rfl); (case hr => first | (go_simp; done) | (go_simp; rfl)); intro gb151 hg w173 hbox hb; have n0_ := Aside0.mk (Kd.R_below (by (with_reducible repeat (first | apply Kd.R_alloc | apply Kd.R_drewN | apply Kd.R_drew)); exact HO130.out) hb); have n1_ := Aside0.mk (blk_below (g := gb126) (o := .cells #[.int .i64 0, .int .i64 0, .int .i64 0, .int .i64 0, .string (⟨#[]⟩ : ByteArray)] 29 (0, 0)) (by (with_reducible repeat (first | refine blk_drewN ?_ _ | refine blk_drew ?_ | refine blk_alloc ?_ _)); exact BK126.out) hb); have n2_ := Aside0.mk (blk_below (g := gb146) (o := .cells #[.int .i64 t132, .bool false] 94 (0, 0)) (by (with_reducible repeat (first | refine blk_drewN ?_ _ | refine blk_drew ?_ | refine blk_alloc ?_ _)); exact BK146.out) hb); have n3_ := Aside0.mk (blk_below (g := gb147) (o := .cells #[.int .i64 t135, .bool false] 94 (0, 0)) (by (with_reducible repeat (first | refine blk_drewN ?_ _ | refine blk_drew ?_ | refine blk_alloc ?_ _)); exact BK147.out) hb); have n4_ := Aside0.mk (blk_below (g := gb148) (o := .cells #[.int .i64 t138, .bool true] 94 (0, 0)) (by (with_reducible repeat (first | refine blk_drewN ?_ _ | refine blk_drew ?_ | refine blk_alloc ?_ _)); exact BK148.out) hb); have n5_ := Aside0.mk (blk_below (g := gb149) (o := .cells #[.int .i64 t141, .bool t142] 94 (0, 0)) (by (with_reducible repeat (first | refine blk_drewN ?_ _ | refine blk_drew ?_ | refine blk_alloc ?_ _)); exact BK149.out) hb); have n6_ := Aside0.mk (blk_below (g := gb150) (o := .cells #[.string t144, .bool t145] 97 (0, 0)) (by (with_reducible repeat (first | refine blk_drewN ?_ _ | refine blk_drew ?_ | refine blk_alloc ?_ _)); exact BK150.out) hb); have n7_ := Aside0.mk (below_step (by repeat (first | (with_reducible first | exact HB.out | apply below_alloc | apply pw_below_drewN | apply below_drew1 | refine below_set ?_ GE126.out | refine below_set ?_ GE146.out | refine below_set ?_ GE147.out | refine below_set ?_ GE148.out | refine below_set ?_ GE149.out | refine below_set ?_ GE150.out) | exact HB.out)) hb); have n8_ := Aside0.mk (hbox); have n9_ := Aside0.mk ((by rw [hg]; exact (below_size (by repeat (first | (with_reducible first | exact HB.out | apply below_alloc | apply pw_below_drewN | apply below_drew1 | refine below_set ?_ GE126.out | refine below_set ?_ GE146.out | refine below_set ?_ GE147.out | refine below_set ?_ GE148.out | refine below_set ?_ GE149.out | refine below_set ?_ GE150.out) | exact HB.out))) : w.heap.size ≤ gb151)); have n10_ := Aside0.mk ((by rw [hg]; exact (below_size (by repeat (first | (with_reducible first | exact HB.out | apply below_alloc | apply pw_below_drewN | apply below_drew1 | refine below_set ?_ GE126.out | refine below_set ?_ GE146.out | refine below_set ?_ GE147.out | refine below_set ?_ GE148.out | refine below_set ?_ GE149.out | refine below_set ?_ GE150.out) | exact HB.out))) : w.heap.size ≤ gb151)); have n11_ := Aside0.mk ((by rw [hg]; exact Nat.ne_of_lt (blk_lt (g := gb126) (o := .cells #[.int .i64 0, .int .i64 0, .int .i64 0, .int .i64 0, .string (⟨#[]⟩ : ByteArray)] 29 (0, 0)) (by (with_reducible repeat (first | refine blk_drewN ?_ _ | refine blk_drew ?_ | refine blk_alloc ?_ _)); exact BK126.out)) : gb126 ≠ gb151)); have n12_ := Aside0.mk ((by rw [hg]; exact Nat.ne_of_gt (blk_lt (g := gb126) (o := .cells #[.int .i64 0, .int .i64 0, .int .i64 0, .int .i64 0, .string (⟨#[]⟩ : ByteArray)] 29 (0, 0)) (by (with_reducible repeat (first | refine blk_drewN ?_ _ | refine blk_drew ?_ | refine blk_alloc ?_ _)); exact BK126.out)) : gb151 ≠ gb126)); have n13_ := Aside0.mk ((by rw [hg]; exact Nat.ne_of_lt (blk_lt (g := gb146) (o := .cells #[.int .i64 t132, .bool false] 94 (0, 0)) (by (with_reducible repeat (first | refine blk_drewN ?_ _ | refine blk_drew ?_ | refine blk_alloc ?_ _)); exact BK146.out)) : gb146 ≠ gb151)); have n14_ := Aside0.mk ((by rw [hg]; exact Nat.ne_of_gt (blk_lt (g := gb146) (o := .cells #[.int .i64 t132, .bool false] 94 (0, 0)) (by (with_reducible repeat (first | refine blk_drewN ?_ _ | refine blk_drew ?_ | refine blk_alloc ?_ _)); exact BK146.out)) : gb151 ≠ gb146)); have n15_ := Aside0.mk ((by rw [hg]; exact Nat.ne_of_lt (blk_lt (g := gb147) (o := .cells #[.int .i64 t135, .bool false] 94 (0, 0)) (by (with_reducible repeat (first | refine blk_drewN ?_ _ | refine blk_drew ?_ | refine blk_alloc ?_ _)); exact BK147.out)) : gb147 ≠ gb151)); have n16_ := Aside0.mk ((by rw [hg]; exact Nat.ne_of_gt (blk_lt (g := gb147) (o := .cells #[.int .i64 t135, .bool false] 94 (0, 0)) (by (with_reducible repeat (first | refine blk_drewN ?_ _ | refine blk_drew ?_ | refine blk_alloc ?_ _)); exact BK147.out)) : gb151 ≠ gb147)); have n17_ := Aside0.mk ((by rw [hg]; exact Nat.ne_of_lt (blk_lt (g := gb148) (o := .cells #[.int .i64 t138, .bool true] 94 (0, 0)) (by (with_reducible repeat (first | refine blk_drewN ?_ _ | refine blk_drew ?_ | refine blk_alloc ?_ _)); exact BK148.out)) : gb148 ≠ gb151)); have n18_ := Aside0.mk ((by rw [hg]; exact Nat.ne_of_gt (blk_lt (g := gb148) (o := .cells #[.int .i64 t138, .bool true] 94 (0, 0)) (by (with_reducible repeat (first | refine blk_drewN ?_ _ | refine blk_drew ?_ | refine blk_alloc ?_ _)); exact BK148.out)) : gb151 ≠ gb148)); have n19_ := Aside0.mk ((by rw [hg]; exact Nat.ne_of_lt (blk_lt (g := gb149) (o := .cells #[.int .i64 t141, .bool t142] 94 (0, 0)) (by (with_reducible repeat (first | refine blk_drewN ?_ _ | refine blk_drew ?_ | refine blk_alloc ?_ _)); exact BK149.out)) : gb149 ≠ gb151)); have n20_ := Aside0.mk ((by rw [hg]; exact Nat.ne_of_gt (blk_lt (g := gb149) (o := .cells #[.int .i64 t141, .bool t142] 94 (0, 0)) (by (with_reducible repeat (first | refine blk_drewN ?_ _ | refine blk_drew ?_ | refine blk_alloc ?_ _)); exact BK149.out)) : gb151 ≠ gb149)); have n21_ := Aside0.mk ((by rw [hg]; exact Nat.ne_of_lt (blk_lt (g := gb150) (o := .cells #[.string t144, .bool t145] 97 (0, 0)) (by (with_reducible repeat (first | refine blk_drewN ?_ _ | refine blk_drew ?_ | refine blk_alloc ?_ _)); exact BK150.out)) : gb150 ≠ gb151)); have n22_ := Aside0.mk ((by rw [hg]; exact Nat.ne_of_gt (blk_lt (g := gb150) (o := .cells #[.string t144, .bool t145] 97 (0, 0)) (by (with_reducible repeat (first | refine blk_drewN ?_ _ | refine blk_drew ?_ | refine blk_alloc ?_ _)); exact BK150.out)) : gb151 ≠ gb150)); clear HO130; clear BK126; clear BK146; clear BK147; clear BK148; clear BK149; clear BK150; clear HB; have HO130 := n0_; have BK126 := n1_; have BK146 := n2_; have BK147 := n3_; have BK148 := n4_; have BK149 := n5_; have BK150 := n6_; have HB := n7_; have BK151 := n8_; have GW151 := n9_; have GE151 := n10_; have NB126_151 := n11_; have NB151_126 := n12_; have NB146_151 := n13_; have NB151_146 := n14_; have NB147_151 := n15_; have NB151_147 := n16_; have NB148_151 := n17_; have NB151_148 := n18_; have NB149_151 := n19_; have NB151_149 := n20_; have NB150_151 := n21_; have NB151_150 := n22_; clear n0_ n1_ n2_ n3_ n4_ n5_ n6_ n7_ n8_ n9_ n10_ n11_ n12_ n13_ n14_ n15_ n16_ n17_ n18_ n19_ n20_ n21_ n22_; clear hb hbox hg; have hnb174 := NB151_126.out; have hnc174 := NB126_151.out; have hnb175 := NB151_146.out; have hnc175 := NB146_151.out; have hnb176 := NB151_147.out; have hnc176 := NB147_151.out; have hnb177 := NB151_148.out; have hnc177 := NB148_151.out; have hnb178 := NB151_149.out; have hnc178 := NB149_151.out; have hnb179 := NB151_150.out; have hnc179 := NB150_151.out; have hcz180_0 : w173.cell? ⟨gb151, 0, none⟩ = some (.int .i64 0) := (blk_cell BK151.out 0).trans rfl; have hcz180_1 : w173.cell? ⟨gb151, 1, none⟩ = some (.int .i64 0) := (blk_cell BK151.out 1).trans rfl; have hcz180_2 : w173.cell? ⟨gb151, 2, none⟩ = some (.int .i64 0) := (blk_cell BK151.out 2).trans rfl; have hcz180_3 : w173.cell? ⟨gb151, 3, none⟩ = some (.int .i64 0) := (blk_cell BK151.out 3).trans rfl; have hcz180_4 : w173.cell? ⟨gb151, 4, none⟩ = some (.string (⟨#[]⟩ : ByteArray)) := (blk_cell BK151.out 4).trans rfl; have hfz180_0 := blk_frozen BK151.out 0; have hfz180_1 := blk_frozen BK151.out 1; have hfz180_2 := blk_frozen BK151.out 2; have hfz180_3 := blk_frozen BK151.out 3; have hfz180_4 := blk_frozen BK151.out 4; have hcz181_0 : w173.cell? ⟨gb146, 0, none⟩ = some (.int .i64 t132) := (blk_cell BK146.out 0).trans rfl; have hcz181_1 : w173.cell? ⟨gb146, 1, none⟩ = some (.bool false) := (blk_cell BK146.out 1).trans rfl; have hfz181_0 := blk_frozen BK146.out 0; have hfz181_1 := blk_frozen BK146.out 1; have hcz182_0 : w173.cell? ⟨gb147, 0, none⟩ = some (.int .i64 t135) := (blk_cell BK147.out 0).trans rfl; have hcz182_1 : w173.cell? ⟨gb147, 1, none⟩ = some (.bool false) := (blk_cell BK147.out 1).trans rfl; have hfz182_0 := blk_frozen BK147.out 0; have hfz182_1 := blk_frozen BK147.out 1; have hcz183_0 : w173.cell? ⟨gb148, 0, none⟩ = some (.int .i64 t138) := (blk_cell BK148.out 0).trans rfl; have hcz183_1 : w173.cell? ⟨gb148, 1, none⟩ = some (.bool true) := (blk_cell BK148.out 1).trans rfl; have hfz183_0 := blk_frozen BK148.out 0; have hfz183_1 := blk_frozen BK148.out 1; have hcz184_0 : w173.cell? ⟨gb126, 0, none⟩ = some (.int .i64 0) := (blk_cell BK126.out 0).trans rfl; have hcz184_1 : w173.cell? ⟨gb126, 1, none⟩ = some (.int .i64 0) := (blk_cell BK126.out 1).trans rfl; have hcz184_2 : w173.cell? ⟨gb126, 2, none⟩ = some (.int .i64 0) := (blk_cell BK126.out 2).trans rfl; have hcz184_3 : w173.cell? ⟨gb126, 3, none⟩ = some (.int .i64 0) := (blk_cell BK126.out 3).trans rfl; have hcz184_4 : w173.cell? ⟨gb126, 4, none⟩ = some (.string (⟨#[]⟩ : ByteArray)) := (blk_cell BK126.out 4).trans rfl; have hfz184_0 := blk_frozen BK126.out 0; have hfz184_1 := blk_frozen BK126.out 1; have hfz184_2 := blk_frozen BK126.out 2; have hfz184_3 := blk_frozen BK126.out 3; have hfz184_4 := blk_frozen BK126.out 4))
      refine bodyPost_ret (results_ct rfl _ _ gb126 29 #[.int .i64 0, .int .i64 0, .int .i64 0, .int .i64 0, .string (⟨#[]⟩ : ByteArray)] (0, 0) _ rfl (by (with_reducible repeat (first | refine blk_drewN ?_ _ | refine blk_drew ?_ | refine blk_alloc ?_ _)); refine blk_put (cs := #[.int .i64 0, .int .i64 0, .int .i64 0, .int .i64 0, .string (⟨#[]⟩ : ByteArray)]) ?_ 4 _ rfl; (with_reducible repeat (first | refine blk_drewN ?_ _ | refine blk_drew ?_ | refine blk_alloc ?_ _)); refine blk_put (cs := #[.int .i64 0, .int .i64 0, .int .i64 0, .int .i64 0, .string (⟨#[]⟩ : ByteArray)]) ?_ 3 _ rfl; (with_reducible repeat (first | refine blk_drewN ?_ _ | refine blk_drew ?_ | refine blk_alloc ?_ _)); refine blk_put (cs := #[.int .i64 0, .int .i64 0, .int .i64 0, .int .i64 0, .string (⟨#[]⟩ : ByteArray)]) ?_ 2 _ rfl; (with_reducible repeat (first | refine blk_drewN ?_ _ | refine blk_drew ?_ | refine blk_alloc ?_ _)); refine blk_put (cs := #[.int .i64 0, .int .i64 0, .int .i64 0, .int .i64 0, .string (⟨#[]⟩ : ByteArray)]) ?_ 1 _ rfl; (with_reducible repeat (first | refine blk_drewN ?_ _ | refine blk_drew ?_ | refine blk_alloc ?_ _)); refine blk_put (cs := #[.int .i64 0, .int .i64 0, .int .i64 0, .int .i64 0, .string (⟨#[]⟩ : ByteArray)]) ?_ 0 _ rfl; (with_reducible repeat (first | refine blk_drewN ?_ _ | refine blk_drew ?_ | refine blk_alloc ?_ _)); refine blk_far ?_ NB126_151.out _; (with_reducible repeat (first | refine blk_drewN ?_ _ | refine blk_drew ?_ | refine blk_alloc ?_ _)); refine blk_far ?_ NB126_151.out _; (with_reducible repeat (first | refine blk_drewN ?_ _ | refine blk_drew ?_ | refine blk_alloc ?_ _)); refine blk_far ?_ NB126_151.out _; (with_reducible repeat (first | refine blk_drewN ?_ _ | refine blk_drew ?_ | refine blk_alloc ?_ _)); refine blk_far ?_ NB126_151.out _; (with_reducible repeat (first | refine blk_drewN ?_ _ | refine blk_drew ?_ | refine blk_alloc ?_ _)); refine blk_far ?_ NB126_151.out _; (with_reducible repeat (first | refine blk_drewN ?_ _ | refine blk_drew ?_ | refine blk_alloc ?_ _)); exact BK126.out) Try.underlying29 rfl (by kernel_rfl)) rfl ?_
      exact ⟨by first | rfl | (simp [errW_none, errW_some] <;> rfl) | (simp [*, errW_none, errW_some] <;> rfl), by repeat (first | (with_reducible first | exact HB.out | apply below_alloc | apply pw_below_drewN | apply below_drew1 | refine below_set ?_ GE126.out | refine below_set ?_ GE146.out | refine below_set ?_ GE147.out | refine below_set ?_ GE148.out | refine below_set ?_ GE149.out | refine below_set ?_ GE150.out | refine below_set ?_ GE151.out) | exact HB.out)⟩
    subst c70
    have H1 : (some (0, 0, 0, 0, (⟨#[]⟩ : ByteArray), 3)) = some (r1, r2, r3, r4, r5, r6) := by rw [if_pos rfl] at H; exact H
    clear H
    have H := H1
    clear H1
    simp only [Option.some.injEq, Prod.mk.injEq] at H
    obtain ⟨rfl, rfl, rfl, rfl, rfl, rfl⟩ := H
    have hnb96 := NB146_126.out
    have hnc96 := NB126_146.out
    have hnb97 := NB146_147.out
    have hnc97 := NB147_146.out
    have hnb98 := NB146_148.out
    have hnc98 := NB148_146.out
    have hnb99 := NB146_149.out
    have hnc99 := NB149_146.out
    have hnb100 := NB146_150.out
    have hnc100 := NB150_146.out
    have hcz101_0 : w39.cell? ⟨gb146, 0, none⟩ = some (.int .i64 t132) := (blk_cell BK146.out 0).trans rfl
    have hcz101_1 : w39.cell? ⟨gb146, 1, none⟩ = some (.bool false) := (blk_cell BK146.out 1).trans rfl
    have hfz101_0 := blk_frozen BK146.out 0
    have hfz101_1 := blk_frozen BK146.out 1
    have hnb102 := NB147_126.out
    have hnc102 := NB126_147.out
    have hnb103 := NB147_148.out
    have hnc103 := NB148_147.out
    have hnb104 := NB147_149.out
    have hnc104 := NB149_147.out
    have hnb105 := NB147_150.out
    have hnc105 := NB150_147.out
    have hcz106_0 : w39.cell? ⟨gb147, 0, none⟩ = some (.int .i64 t135) := (blk_cell BK147.out 0).trans rfl
    have hcz106_1 : w39.cell? ⟨gb147, 1, none⟩ = some (.bool true) := (blk_cell BK147.out 1).trans rfl
    have hfz106_0 := blk_frozen BK147.out 0
    have hfz106_1 := blk_frozen BK147.out 1
    have hnb107 := NB148_126.out
    have hnc107 := NB126_148.out
    have hnb108 := NB148_149.out
    have hnc108 := NB149_148.out
    have hnb109 := NB148_150.out
    have hnc109 := NB150_148.out
    have hcz110_0 : w39.cell? ⟨gb148, 0, none⟩ = some (.int .i64 t138) := (blk_cell BK148.out 0).trans rfl
    have hcz110_1 : w39.cell? ⟨gb148, 1, none⟩ = some (.bool t139) := (blk_cell BK148.out 1).trans rfl
    have hfz110_0 := blk_frozen BK148.out 0
    have hfz110_1 := blk_frozen BK148.out 1
    have hnb111 := NB149_126.out
    have hnc111 := NB126_149.out
    have hnb112 := NB149_150.out
    have hnc112 := NB150_149.out
    have hcz113_0 : w39.cell? ⟨gb149, 0, none⟩ = some (.int .i64 t141) := (blk_cell BK149.out 0).trans rfl
    have hcz113_1 : w39.cell? ⟨gb149, 1, none⟩ = some (.bool t142) := (blk_cell BK149.out 1).trans rfl
    have hfz113_0 := blk_frozen BK149.out 0
    have hfz113_1 := blk_frozen BK149.out 1
    have hnb114 := NB150_126.out
    have hnc114 := NB126_150.out
    have hcz115_0 : w39.cell? ⟨gb150, 0, none⟩ = some (.string t144) := (blk_cell BK150.out 0).trans rfl
    have hcz115_1 : w39.cell? ⟨gb150, 1, none⟩ = some (.bool t145) := (blk_cell BK150.out 1).trans rfl
    have hfz115_0 := blk_frozen BK150.out 0
    have hfz115_1 := blk_frozen BK150.out 1
    try go_wp2_with (first | ((with_reducible refine gate_dst (N := 11) rfl ?_); refine box_event ?hg (N := 11) ?hd (cs := #[.int .i64 0, .int .i64 0, .int .i64 0, .int .i64 0, .string (⟨#[]⟩ : ByteArray)]) (t := 29) ?hr ?_; (case hd => rfl); (case hg => rfl); (case hr => first | (go_simp; done) | (go_simp; rfl)); intro gb151 hg w116 hbox hb; have n0_ := Aside0.mk (Kd.R_below (by (with_reducible repeat (first | apply Kd.R_alloc | apply Kd.R_drewN | apply Kd.R_drew)); exact HO130.out) hb); have n1_ := Aside0.mk (blk_below (g := gb126) (o := .cells #[.int .i64 0, .int .i64 0, .int .i64 0, .int .i64 0, .string (⟨#[]⟩ : ByteArray)] 29 (0, 0)) (by (with_reducible repeat (first | refine blk_drewN ?_ _ | refine blk_drew ?_ | refine blk_alloc ?_ _)); exact BK126.out) hb); have n2_ := Aside0.mk (blk_below (g := gb146) (o := .cells #[.int .i64 t132, .bool false] 94 (0, 0)) (by (with_reducible repeat (first | refine blk_drewN ?_ _ | refine blk_drew ?_ | refine blk_alloc ?_ _)); exact BK146.out) hb); have n3_ := Aside0.mk (blk_below (g := gb147) (o := .cells #[.int .i64 t135, .bool true] 94 (0, 0)) (by (with_reducible repeat (first | refine blk_drewN ?_ _ | refine blk_drew ?_ | refine blk_alloc ?_ _)); exact BK147.out) hb); have n4_ := Aside0.mk (blk_below (g := gb148) (o := .cells #[.int .i64 t138, .bool t139] 94 (0, 0)) (by (with_reducible repeat (first | refine blk_drewN ?_ _ | refine blk_drew ?_ | refine blk_alloc ?_ _)); exact BK148.out) hb); have n5_ := Aside0.mk (blk_below (g := gb149) (o := .cells #[.int .i64 t141, .bool t142] 94 (0, 0)) (by (with_reducible repeat (first | refine blk_drewN ?_ _ | refine blk_drew ?_ | refine blk_alloc ?_ _)); exact BK149.out) hb); have n6_ := Aside0.mk (blk_below (g := gb150) (o := .cells #[.string t144, .bool t145] 97 (0, 0)) (by (with_reducible repeat (first | refine blk_drewN ?_ _ | refine blk_drew ?_ | refine blk_alloc ?_ _)); exact BK150.out) hb); have n7_ := Aside0.mk (below_step (by repeat (first | (with_reducible first | exact HB.out | apply below_alloc | apply pw_below_drewN | apply below_drew1 | refine below_set ?_ GE126.out | refine below_set ?_ GE146.out | refine below_set ?_ GE147.out | refine below_set ?_ GE148.out | refine below_set ?_ GE149.out | refine below_set ?_ GE150.out) | exact HB.out)) hb); have n8_ := Aside0.mk (hbox); have n9_ := Aside0.mk ((by rw [hg]; exact (below_size (by repeat (first | (with_reducible first | exact HB.out | apply below_alloc | apply pw_below_drewN | apply below_drew1 | refine below_set ?_ GE126.out | refine below_set ?_ GE146.out | refine below_set ?_ GE147.out | refine below_set ?_ GE148.out | refine below_set ?_ GE149.out | refine below_set ?_ GE150.out) | exact HB.out))) : w.heap.size ≤ gb151)); have n10_ := Aside0.mk ((by rw [hg]; exact (below_size (by repeat (first | (with_reducible first | exact HB.out | apply below_alloc | apply pw_below_drewN | apply below_drew1 | refine below_set ?_ GE126.out | refine below_set ?_ GE146.out | refine below_set ?_ GE147.out | refine below_set ?_ GE148.out | refine below_set ?_ GE149.out | refine below_set ?_ GE150.out) | exact HB.out))) : w.heap.size ≤ gb151)); have n11_ := Aside0.mk ((by rw [hg]; exact Nat.ne_of_lt (blk_lt (g := gb126) (o := .cells #[.int .i64 0, .int .i64 0, .int .i64 0, .int .i64 0, .string (⟨#[]⟩ : ByteArray)] 29 (0, 0)) (by (with_reducible repeat (first | refine blk_drewN ?_ _ | refine blk_drew ?_ | refine blk_alloc ?_ _)); exact BK126.out)) : gb126 ≠ gb151)); have n12_ := Aside0.mk ((by rw [hg]; exact Nat.ne_of_gt (blk_lt (g := gb126) (o := .cells #[.int .i64 0, .int .i64 0, .int .i64 0, .int .i64 0, .string (⟨#[]⟩ : ByteArray)] 29 (0, 0)) (by (with_reducible repeat (first | refine blk_drewN ?_ _ | refine blk_drew ?_ | refine blk_alloc ?_ _)); exact BK126.out)) : gb151 ≠ gb126)); have n13_ := Aside0.mk ((by rw [hg]; exact Nat.ne_of_lt (blk_lt (g := gb146) (o := .cells #[.int .i64 t132, .bool false] 94 (0, 0)) (by (with_reducible repeat (first | refine blk_drewN ?_ _ | refine blk_drew ?_ | refine blk_alloc ?_ _)); exact BK146.out)) : gb146 ≠ gb151)); have n14_ := Aside0.mk ((by rw [hg]; exact Nat.ne_of_gt (blk_lt (g := gb146) (o := .cells #[.int .i64 t132, .bool false] 94 (0, 0)) (by (with_reducible repeat (first | refine blk_drewN ?_ _ | refine blk_drew ?_ | refine blk_alloc ?_ _)); exact BK146.out)) : gb151 ≠ gb146)); have n15_ := Aside0.mk ((by rw [hg]; exact Nat.ne_of_lt (blk_lt (g := gb147) (o := .cells #[.int .i64 t135, .bool true] 94 (0, 0)) (by (with_reducible repeat (first | refine blk_drewN ?_ _ | refine blk_drew ?_ | refine blk_alloc ?_ _)); exact BK147.out)) : gb147 ≠ gb151)); have n16_ := Aside0.mk ((by rw [hg]; exact Nat.ne_of_gt (blk_lt (g := gb147) (o := .cells #[.int .i64 t135, .bool true] 94 (0, 0)) (by (with_reducible repeat (first | refine blk_drewN ?_ _ | refine blk_drew ?_ | refine blk_alloc ?_ _)); exact BK147.out)) : gb151 ≠ gb147)); have n17_ := Aside0.mk ((by rw [hg]; exact Nat.ne_of_lt (blk_lt (g := gb148) (o := .cells #[.int .i64 t138, .bool t139] 94 (0, 0)) (by (with_reducible repeat (first | refine blk_drewN ?_ _ | refine blk_drew ?_ | refine blk_alloc ?_ _)); exact BK148.out)) : gb148 ≠ gb151)); have n18_ := Aside0.mk ((by rw [hg]; exact Nat.ne_of_gt (blk_lt (g := gb148) (o := .cells #[.int .i64 t138, .bool t139] 94 (0, 0)) (by (with_reducible repeat (first | refine blk_drewN ?_ _ | refine blk_drew ?_ | refine blk_alloc ?_ _)); exact BK148.out)) : gb151 ≠ gb148)); have n19_ := Aside0.mk ((by rw [hg]; exact Nat.ne_of_lt (blk_lt (g := gb149) (o := .cells #[.int .i64 t141, .bool t142] 94 (0, 0)) (by (with_reducible repeat (first | refine blk_drewN ?_ _ | refine blk_drew ?_ | refine blk_alloc ?_ _)); exact BK149.out)) : gb149 ≠ gb151)); have n20_ := Aside0.mk ((by rw [hg]; exact Nat.ne_of_gt (blk_lt (g := gb149) (o := .cells #[.int .i64 t141, .bool t142] 94 (0, 0)) (by (with_reducible repeat (first | refine blk_drewN ?_ _ | refine blk_drew ?_ | refine blk_alloc ?_ _)); exact BK149.out)) : gb151 ≠ gb149)); have n21_ := Aside0.mk ((by rw [hg]; exact Nat.ne_of_lt (blk_lt (g := gb150) (o := .cells #[.string t144, .bool t145] 97 (0, 0)) (by (with_reducible repeat (first | refine blk_drewN ?_ _ | refine blk_drew ?_ | refine blk_alloc ?_ _)); exact BK150.out)) : gb150 ≠ gb151)); have n22_ := Aside0.mk ((by rw [hg]; exact Nat.ne_of_gt (blk_lt (g := gb150) (o := .cells #[.string t144, .bool t145] 97 (0, 0)) (by (with_reducible repeat (first | refine blk_drewN ?_ _ | refine blk_drew ?_ | refine blk_alloc ?_ _)); exact BK150.out)) : gb151 ≠ gb150)); clear HO130; clear BK126; clear BK146; clear BK147; clear BK148; clear BK149; clear BK150; clear HB; have HO130 := n0_; have BK126 := n1_; have BK146 := n2_; have BK147 := n3_; have BK148 := n4_; have BK149 := n5_; have BK150 := n6_; have HB := n7_; have BK151 := n8_; have GW151 := n9_; have GE151 := n10_; have NB126_151 := n11_; have NB151_126 := n12_; have NB146_151 := n13_; have NB151_146 := n14_; have NB147_151 := n15_; have NB151_147 := n16_; have NB148_151 := n17_; have NB151_148 := n18_; have NB149_151 := n19_; have NB151_149 := n20_; have NB150_151 := n21_; have NB151_150 := n22_; clear n0_ n1_ n2_ n3_ n4_ n5_ n6_ n7_ n8_ n9_ n10_ n11_ n12_ n13_ n14_ n15_ n16_ n17_ n18_ n19_ n20_ n21_ n22_; clear hb hbox hg; have hnb117 := NB151_126.out; have hnc117 := NB126_151.out; have hnb118 := NB151_146.out; have hnc118 := NB146_151.out; have hnb119 := NB151_147.out; have hnc119 := NB147_151.out; have hnb120 := NB151_148.out; have hnc120 := NB148_151.out; have hnb121 := NB151_149.out; have hnc121 := NB149_151.out; have hnb122 := NB151_150.out; have hnc122 := NB150_151.out; have hcz123_0 : w116.cell? ⟨gb151, 0, none⟩ = some (.int .i64 0) := (blk_cell BK151.out 0).trans rfl; have hcz123_1 : w116.cell? ⟨gb151, 1, none⟩ = some (.int .i64 0) := (blk_cell BK151.out 1).trans rfl; have hcz123_2 : w116.cell? ⟨gb151, 2, none⟩ = some (.int .i64 0) := (blk_cell BK151.out 2).trans rfl; have hcz123_3 : w116.cell? ⟨gb151, 3, none⟩ = some (.int .i64 0) := (blk_cell BK151.out 3).trans rfl; have hcz123_4 : w116.cell? ⟨gb151, 4, none⟩ = some (.string (⟨#[]⟩ : ByteArray)) := (blk_cell BK151.out 4).trans rfl; have hfz123_0 := blk_frozen BK151.out 0; have hfz123_1 := blk_frozen BK151.out 1; have hfz123_2 := blk_frozen BK151.out 2; have hfz123_3 := blk_frozen BK151.out 3; have hfz123_4 := blk_frozen BK151.out 4; have hcz124_0 : w116.cell? ⟨gb146, 0, none⟩ = some (.int .i64 t132) := (blk_cell BK146.out 0).trans rfl; have hcz124_1 : w116.cell? ⟨gb146, 1, none⟩ = some (.bool false) := (blk_cell BK146.out 1).trans rfl; have hfz124_0 := blk_frozen BK146.out 0; have hfz124_1 := blk_frozen BK146.out 1; have hcz125_0 : w116.cell? ⟨gb147, 0, none⟩ = some (.int .i64 t135) := (blk_cell BK147.out 0).trans rfl; have hcz125_1 : w116.cell? ⟨gb147, 1, none⟩ = some (.bool true) := (blk_cell BK147.out 1).trans rfl; have hfz125_0 := blk_frozen BK147.out 0; have hfz125_1 := blk_frozen BK147.out 1; have hcz126_0 : w116.cell? ⟨gb126, 0, none⟩ = some (.int .i64 0) := (blk_cell BK126.out 0).trans rfl; have hcz126_1 : w116.cell? ⟨gb126, 1, none⟩ = some (.int .i64 0) := (blk_cell BK126.out 1).trans rfl; have hcz126_2 : w116.cell? ⟨gb126, 2, none⟩ = some (.int .i64 0) := (blk_cell BK126.out 2).trans rfl; have hcz126_3 : w116.cell? ⟨gb126, 3, none⟩ = some (.int .i64 0) := (blk_cell BK126.out 3).trans rfl; have hcz126_4 : w116.cell? ⟨gb126, 4, none⟩ = some (.string (⟨#[]⟩ : ByteArray)) := (blk_cell BK126.out 4).trans rfl; have hfz126_0 := blk_frozen BK126.out 0; have hfz126_1 := blk_frozen BK126.out 1; have hfz126_2 := blk_frozen BK126.out 2; have hfz126_3 := blk_frozen BK126.out 3; have hfz126_4 := blk_frozen BK126.out 4))
    refine bodyPost_ret (results_ct rfl _ _ gb126 29 #[.int .i64 0, .int .i64 0, .int .i64 0, .int .i64 0, .string (⟨#[]⟩ : ByteArray)] (0, 0) _ rfl (by (with_reducible repeat (first | refine blk_drewN ?_ _ | refine blk_drew ?_ | refine blk_alloc ?_ _)); refine blk_put (cs := #[.int .i64 0, .int .i64 0, .int .i64 0, .int .i64 0, .string (⟨#[]⟩ : ByteArray)]) ?_ 4 _ rfl; (with_reducible repeat (first | refine blk_drewN ?_ _ | refine blk_drew ?_ | refine blk_alloc ?_ _)); refine blk_put (cs := #[.int .i64 0, .int .i64 0, .int .i64 0, .int .i64 0, .string (⟨#[]⟩ : ByteArray)]) ?_ 3 _ rfl; (with_reducible repeat (first | refine blk_drewN ?_ _ | refine blk_drew ?_ | refine blk_alloc ?_ _)); refine blk_put (cs := #[.int .i64 0, .int .i64 0, .int .i64 0, .int .i64 0, .string (⟨#[]⟩ : ByteArray)]) ?_ 2 _ rfl; (with_reducible repeat (first | refine blk_drewN ?_ _ | refine blk_drew ?_ | refine blk_alloc ?_ _)); refine blk_put (cs := #[.int .i64 0, .int .i64 0, .int .i64 0, .int .i64 0, .string (⟨#[]⟩ : ByteArray)]) ?_ 1 _ rfl; (with_reducible repeat (first | refine blk_drewN ?_ _ | refine blk_drew ?_ | refine blk_alloc ?_ _)); refine blk_put (cs := #[.int .i64 0, .int .i64 0, .int .i64 0, .int .i64 0, .string (⟨#[]⟩ : ByteArray)]) ?_ 0 _ rfl; (with_reducible repeat (first | refine blk_drewN ?_ _ | refine blk_drew ?_ | refine blk_alloc ?_ _)); refine blk_far ?_ NB126_151.out _; (with_reducible repeat (first | refine blk_drewN ?_ _ | refine blk_drew ?_ | refine blk_alloc ?_ _)); refine blk_far ?_ NB126_151.out _; (with_reducible repeat (first | refine blk_drewN ?_ _ | refine blk_drew ?_ | refine blk_alloc ?_ _)); refine blk_far ?_ NB126_151.out _; (with_reducible repeat (first | refine blk_drewN ?_ _ | refine blk_drew ?_ | refine blk_alloc ?_ _)); refine blk_far ?_ NB126_151.out _; (with_reducible repeat (first | refine blk_drewN ?_ _ | refine blk_drew ?_ | refine blk_alloc ?_ _)); refine blk_far ?_ NB126_151.out _; (with_reducible repeat (first | refine blk_drewN ?_ _ | refine blk_drew ?_ | refine blk_alloc ?_ _)); exact BK126.out) Try.underlying29 rfl (by kernel_rfl)) rfl ?_
    exact ⟨by first | rfl | (simp [errW_none, errW_some] <;> rfl) | (simp [*, errW_none, errW_some] <;> rfl), by repeat (first | (with_reducible first | exact HB.out | apply below_alloc | apply pw_below_drewN | apply below_drew1 | refine below_set ?_ GE126.out | refine below_set ?_ GE146.out | refine below_set ?_ GE147.out | refine below_set ?_ GE148.out | refine below_set ?_ GE149.out | refine below_set ?_ GE150.out | refine below_set ?_ GE151.out) | exact HB.out)⟩
  subst c14
  have H1 : (some (0, 0, 0, 0, (⟨#[]⟩ : ByteArray), 3)) = some (r1, r2, r3, r4, r5, r6) := by rw [if_pos rfl] at H; exact H
  clear H
  have H := H1
  clear H1
  simp only [Option.some.injEq, Prod.mk.injEq] at H
  obtain ⟨rfl, rfl, rfl, rfl, rfl, rfl⟩ := H
  have hnb40 := NB146_126.out
  have hnc40 := NB126_146.out
  have hnb41 := NB146_147.out
  have hnc41 := NB147_146.out
  have hnb42 := NB146_148.out
  have hnc42 := NB148_146.out
  have hnb43 := NB146_149.out
  have hnc43 := NB149_146.out
  have hnb44 := NB146_150.out
  have hnc44 := NB150_146.out
  have hcz45_0 : w39.cell? ⟨gb146, 0, none⟩ = some (.int .i64 t132) := (blk_cell BK146.out 0).trans rfl
  have hcz45_1 : w39.cell? ⟨gb146, 1, none⟩ = some (.bool true) := (blk_cell BK146.out 1).trans rfl
  have hfz45_0 := blk_frozen BK146.out 0
  have hfz45_1 := blk_frozen BK146.out 1
  have hnb46 := NB147_126.out
  have hnc46 := NB126_147.out
  have hnb47 := NB147_148.out
  have hnc47 := NB148_147.out
  have hnb48 := NB147_149.out
  have hnc48 := NB149_147.out
  have hnb49 := NB147_150.out
  have hnc49 := NB150_147.out
  have hcz50_0 : w39.cell? ⟨gb147, 0, none⟩ = some (.int .i64 t135) := (blk_cell BK147.out 0).trans rfl
  have hcz50_1 : w39.cell? ⟨gb147, 1, none⟩ = some (.bool t136) := (blk_cell BK147.out 1).trans rfl
  have hfz50_0 := blk_frozen BK147.out 0
  have hfz50_1 := blk_frozen BK147.out 1
  have hnb51 := NB148_126.out
  have hnc51 := NB126_148.out
  have hnb52 := NB148_149.out
  have hnc52 := NB149_148.out
  have hnb53 := NB148_150.out
  have hnc53 := NB150_148.out
  have hcz54_0 : w39.cell? ⟨gb148, 0, none⟩ = some (.int .i64 t138) := (blk_cell BK148.out 0).trans rfl
  have hcz54_1 : w39.cell? ⟨gb148, 1, none⟩ = some (.bool t139) := (blk_cell BK148.out 1).trans rfl
  have hfz54_0 := blk_frozen BK148.out 0
  have hfz54_1 := blk_frozen BK148.out 1
  have hnb55 := NB149_126.out
  have hnc55 := NB126_149.out
  have hnb56 := NB149_150.out
  have hnc56 := NB150_149.out
  have hcz57_0 : w39.cell? ⟨gb149, 0, none⟩ = some (.int .i64 t141) := (blk_cell BK149.out 0).trans rfl
  have hcz57_1 : w39.cell? ⟨gb149, 1, none⟩ = some (.bool t142) := (blk_cell BK149.out 1).trans rfl
  have hfz57_0 := blk_frozen BK149.out 0
  have hfz57_1 := blk_frozen BK149.out 1
  have hnb58 := NB150_126.out
  have hnc58 := NB126_150.out
  have hcz59_0 : w39.cell? ⟨gb150, 0, none⟩ = some (.string t144) := (blk_cell BK150.out 0).trans rfl
  have hcz59_1 : w39.cell? ⟨gb150, 1, none⟩ = some (.bool t145) := (blk_cell BK150.out 1).trans rfl
  have hfz59_0 := blk_frozen BK150.out 0
  have hfz59_1 := blk_frozen BK150.out 1
  try go_wp2_with (first | ((with_reducible refine gate_dst (N := 11) rfl ?_); refine box_event ?hg (N := 11) ?hd (cs := #[.int .i64 0, .int .i64 0, .int .i64 0, .int .i64 0, .string (⟨#[]⟩ : ByteArray)]) (t := 29) ?hr ?_; (case hd => rfl); (case hg => rfl); (case hr => first | (go_simp; done) | (go_simp; rfl)); intro gb151 hg w60 hbox hb; have n0_ := Aside0.mk (Kd.R_below (by (with_reducible repeat (first | apply Kd.R_alloc | apply Kd.R_drewN | apply Kd.R_drew)); exact HO130.out) hb); have n1_ := Aside0.mk (blk_below (g := gb126) (o := .cells #[.int .i64 0, .int .i64 0, .int .i64 0, .int .i64 0, .string (⟨#[]⟩ : ByteArray)] 29 (0, 0)) (by (with_reducible repeat (first | refine blk_drewN ?_ _ | refine blk_drew ?_ | refine blk_alloc ?_ _)); exact BK126.out) hb); have n2_ := Aside0.mk (blk_below (g := gb146) (o := .cells #[.int .i64 t132, .bool true] 94 (0, 0)) (by (with_reducible repeat (first | refine blk_drewN ?_ _ | refine blk_drew ?_ | refine blk_alloc ?_ _)); exact BK146.out) hb); have n3_ := Aside0.mk (blk_below (g := gb147) (o := .cells #[.int .i64 t135, .bool t136] 94 (0, 0)) (by (with_reducible repeat (first | refine blk_drewN ?_ _ | refine blk_drew ?_ | refine blk_alloc ?_ _)); exact BK147.out) hb); have n4_ := Aside0.mk (blk_below (g := gb148) (o := .cells #[.int .i64 t138, .bool t139] 94 (0, 0)) (by (with_reducible repeat (first | refine blk_drewN ?_ _ | refine blk_drew ?_ | refine blk_alloc ?_ _)); exact BK148.out) hb); have n5_ := Aside0.mk (blk_below (g := gb149) (o := .cells #[.int .i64 t141, .bool t142] 94 (0, 0)) (by (with_reducible repeat (first | refine blk_drewN ?_ _ | refine blk_drew ?_ | refine blk_alloc ?_ _)); exact BK149.out) hb); have n6_ := Aside0.mk (blk_below (g := gb150) (o := .cells #[.string t144, .bool t145] 97 (0, 0)) (by (with_reducible repeat (first | refine blk_drewN ?_ _ | refine blk_drew ?_ | refine blk_alloc ?_ _)); exact BK150.out) hb); have n7_ := Aside0.mk (below_step (by repeat (first | (with_reducible first | exact HB.out | apply below_alloc | apply pw_below_drewN | apply below_drew1 | refine below_set ?_ GE126.out | refine below_set ?_ GE146.out | refine below_set ?_ GE147.out | refine below_set ?_ GE148.out | refine below_set ?_ GE149.out | refine below_set ?_ GE150.out) | exact HB.out)) hb); have n8_ := Aside0.mk (hbox); have n9_ := Aside0.mk ((by rw [hg]; exact (below_size (by repeat (first | (with_reducible first | exact HB.out | apply below_alloc | apply pw_below_drewN | apply below_drew1 | refine below_set ?_ GE126.out | refine below_set ?_ GE146.out | refine below_set ?_ GE147.out | refine below_set ?_ GE148.out | refine below_set ?_ GE149.out | refine below_set ?_ GE150.out) | exact HB.out))) : w.heap.size ≤ gb151)); have n10_ := Aside0.mk ((by rw [hg]; exact (below_size (by repeat (first | (with_reducible first | exact HB.out | apply below_alloc | apply pw_below_drewN | apply below_drew1 | refine below_set ?_ GE126.out | refine below_set ?_ GE146.out | refine below_set ?_ GE147.out | refine below_set ?_ GE148.out | refine below_set ?_ GE149.out | refine below_set ?_ GE150.out) | exact HB.out))) : w.heap.size ≤ gb151)); have n11_ := Aside0.mk ((by rw [hg]; exact Nat.ne_of_lt (blk_lt (g := gb126) (o := .cells #[.int .i64 0, .int .i64 0, .int .i64 0, .int .i64 0, .string (⟨#[]⟩ : ByteArray)] 29 (0, 0)) (by (with_reducible repeat (first | refine blk_drewN ?_ _ | refine blk_drew ?_ | refine blk_alloc ?_ _)); exact BK126.out)) : gb126 ≠ gb151)); have n12_ := Aside0.mk ((by rw [hg]; exact Nat.ne_of_gt (blk_lt (g := gb126) (o := .cells #[.int .i64 0, .int .i64 0, .int .i64 0, .int .i64 0, .string (⟨#[]⟩ : ByteArray)] 29 (0, 0)) (by (with_reducible repeat (first | refine blk_drewN ?_ _ | refine blk_drew ?_ | refine blk_alloc ?_ _)); exact BK126.out)) : gb151 ≠ gb126)); have n13_ := Aside0.mk ((by rw [hg]; exact Nat.ne_of_lt (blk_lt (g := gb146) (o := .cells #[.int .i64 t132, .bool true] 94 (0, 0)) (by (with_reducible repeat (first | refine blk_drewN ?_ _ | refine blk_drew ?_ | refine blk_alloc ?_ _)); exact BK146.out)) : gb146 ≠ gb151)); have n14_ := Aside0.mk ((by rw [hg]; exact Nat.ne_of_gt (blk_lt (g := gb146) (o := .cells #[.int .i64 t132, .bool true] 94 (0, 0)) (by (with_reducible repeat (first | refine blk_drewN ?_ _ | refine blk_drew ?_ | refine blk_alloc ?_ _)); exact BK146.out)) : gb151 ≠ gb146)); have n15_ := Aside0.mk ((by rw [hg]; exact Nat.ne_of_lt (blk_lt (g := gb147) (o := .cells #[.int .i64 t135, .bool t136] 94 (0, 0)) (by (with_reducible repeat (first | refine blk_drewN ?_ _ | refine blk_drew ?_ | refine blk_alloc ?_ _)); exact BK147.out)) : gb147 ≠ gb151)); have n16_ := Aside0.mk ((by rw [hg]; exact Nat.ne_of_gt (blk_lt (g := gb147) (o := .cells #[.int .i64 t135, .bool t136] 94 (0, 0)) (by (with_reducible repeat (first | refine blk_drewN ?_ _ | refine blk_drew ?_ | refine blk_alloc ?_ _)); exact BK147.out)) : gb151 ≠ gb147)); have n17_ := Aside0.mk ((by rw [hg]; exact Nat.ne_of_lt (blk_lt (g := gb148) (o := .cells #[.int .i64 t138, .bool t139] 94 (0, 0)) (by (with_reducible repeat (first | refine blk_drewN ?_ _ | refine blk_drew ?_ | refine blk_alloc ?_ _)); exact BK148.out)) : gb148 ≠ gb151)); have n18_ := Aside0.mk ((by rw [hg]; exact Nat.ne_of_gt (blk_lt (g := gb148) (o := .cells #[.int .i64 t138, .bool t139] 94 (0, 0)) (by (with_reducible repeat (first | refine blk_drewN ?_ _ | refine blk_drew ?_ | refine blk_alloc ?_ _)); exact BK148.out)) : gb151 ≠ gb148)); have n19_ := Aside0.mk ((by rw [hg]; exact Nat.ne_of_lt (blk_lt (g := gb149) (o := .cells #[.int .i64 t141, .bool t142] 94 (0, 0)) (by (with_reducible repeat (first | refine blk_drewN ?_ _ | refine blk_drew ?_ | refine blk_alloc ?_ _)); exact BK149.out)) : gb149 ≠ gb151)); have n20_ := Aside0.mk ((by rw [hg]; exact Nat.ne_of_gt (blk_lt (g := gb149) (o := .cells #[.int .i64 t141, .bool t142] 94 (0, 0)) (by (with_reducible repeat (first | refine blk_drewN ?_ _ | refine blk_drew ?_ | refine blk_alloc ?_ _)); exact BK149.out)) : gb151 ≠ gb149)); have n21_ := Aside0.mk ((by rw [hg]; exact Nat.ne_of_lt (blk_lt (g := gb150) (o := .cells #[.string t144, .bool t145] 97 (0, 0)) (by (with_reducible repeat (first | refine blk_drewN ?_ _ | refine blk_drew ?_ | refine blk_alloc ?_ _)); exact BK150.out)) : gb150 ≠ gb151)); have n22_ := Aside0.mk ((by rw [hg]; exact Nat.ne_of_gt (blk_lt (g := gb150) (o := .cells #[.string t144, .bool t145] 97 (0, 0)) (by (with_reducible repeat (first | refine blk_drewN ?_ _ | refine blk_drew ?_ | refine blk_alloc ?_ _)); exact BK150.out)) : gb151 ≠ gb150)); clear HO130; clear BK126; clear BK146; clear BK147; clear BK148; clear BK149; clear BK150; clear HB; have HO130 := n0_; have BK126 := n1_; have BK146 := n2_; have BK147 := n3_; have BK148 := n4_; have BK149 := n5_; have BK150 := n6_; have HB := n7_; have BK151 := n8_; have GW151 := n9_; have GE151 := n10_; have NB126_151 := n11_; have NB151_126 := n12_; have NB146_151 := n13_; have NB151_146 := n14_; have NB147_151 := n15_; have NB151_147 := n16_; have NB148_151 := n17_; have NB151_148 := n18_; have NB149_151 := n19_; have NB151_149 := n20_; have NB150_151 := n21_; have NB151_150 := n22_; clear n0_ n1_ n2_ n3_ n4_ n5_ n6_ n7_ n8_ n9_ n10_ n11_ n12_ n13_ n14_ n15_ n16_ n17_ n18_ n19_ n20_ n21_ n22_; clear hb hbox hg; have hnb61 := NB151_126.out; have hnc61 := NB126_151.out; have hnb62 := NB151_146.out; have hnc62 := NB146_151.out; have hnb63 := NB151_147.out; have hnc63 := NB147_151.out; have hnb64 := NB151_148.out; have hnc64 := NB148_151.out; have hnb65 := NB151_149.out; have hnc65 := NB149_151.out; have hnb66 := NB151_150.out; have hnc66 := NB150_151.out; have hcz67_0 : w60.cell? ⟨gb151, 0, none⟩ = some (.int .i64 0) := (blk_cell BK151.out 0).trans rfl; have hcz67_1 : w60.cell? ⟨gb151, 1, none⟩ = some (.int .i64 0) := (blk_cell BK151.out 1).trans rfl; have hcz67_2 : w60.cell? ⟨gb151, 2, none⟩ = some (.int .i64 0) := (blk_cell BK151.out 2).trans rfl; have hcz67_3 : w60.cell? ⟨gb151, 3, none⟩ = some (.int .i64 0) := (blk_cell BK151.out 3).trans rfl; have hcz67_4 : w60.cell? ⟨gb151, 4, none⟩ = some (.string (⟨#[]⟩ : ByteArray)) := (blk_cell BK151.out 4).trans rfl; have hfz67_0 := blk_frozen BK151.out 0; have hfz67_1 := blk_frozen BK151.out 1; have hfz67_2 := blk_frozen BK151.out 2; have hfz67_3 := blk_frozen BK151.out 3; have hfz67_4 := blk_frozen BK151.out 4; have hcz68_0 : w60.cell? ⟨gb146, 0, none⟩ = some (.int .i64 t132) := (blk_cell BK146.out 0).trans rfl; have hcz68_1 : w60.cell? ⟨gb146, 1, none⟩ = some (.bool true) := (blk_cell BK146.out 1).trans rfl; have hfz68_0 := blk_frozen BK146.out 0; have hfz68_1 := blk_frozen BK146.out 1; have hcz69_0 : w60.cell? ⟨gb126, 0, none⟩ = some (.int .i64 0) := (blk_cell BK126.out 0).trans rfl; have hcz69_1 : w60.cell? ⟨gb126, 1, none⟩ = some (.int .i64 0) := (blk_cell BK126.out 1).trans rfl; have hcz69_2 : w60.cell? ⟨gb126, 2, none⟩ = some (.int .i64 0) := (blk_cell BK126.out 2).trans rfl; have hcz69_3 : w60.cell? ⟨gb126, 3, none⟩ = some (.int .i64 0) := (blk_cell BK126.out 3).trans rfl; have hcz69_4 : w60.cell? ⟨gb126, 4, none⟩ = some (.string (⟨#[]⟩ : ByteArray)) := (blk_cell BK126.out 4).trans rfl; have hfz69_0 := blk_frozen BK126.out 0; have hfz69_1 := blk_frozen BK126.out 1; have hfz69_2 := blk_frozen BK126.out 2; have hfz69_3 := blk_frozen BK126.out 3; have hfz69_4 := blk_frozen BK126.out 4))
  refine bodyPost_ret (results_ct rfl _ _ gb126 29 #[.int .i64 0, .int .i64 0, .int .i64 0, .int .i64 0, .string (⟨#[]⟩ : ByteArray)] (0, 0) _ rfl (by (with_reducible repeat (first | refine blk_drewN ?_ _ | refine blk_drew ?_ | refine blk_alloc ?_ _)); refine blk_put (cs := #[.int .i64 0, .int .i64 0, .int .i64 0, .int .i64 0, .string (⟨#[]⟩ : ByteArray)]) ?_ 4 _ rfl; (with_reducible repeat (first | refine blk_drewN ?_ _ | refine blk_drew ?_ | refine blk_alloc ?_ _)); refine blk_put (cs := #[.int .i64 0, .int .i64 0, .int .i64 0, .int .i64 0, .string (⟨#[]⟩ : ByteArray)]) ?_ 3 _ rfl; (with_reducible repeat (first | refine blk_drewN ?_ _ | refine blk_drew ?_ | refine blk_alloc ?_ _)); refine blk_put (cs := #[.int .i64 0, .int .i64 0, .int .i64 0, .int .i64 0, .string (⟨#[]⟩ : ByteArray)]) ?_ 2 _ rfl; (with_reducible repeat (first | refine blk_drewN ?_ _ | refine blk_drew ?_ | refine blk_alloc ?_ _)); refine blk_put (cs := #[.int .i64 0, .int .i64 0, .int .i64 0, .int .i64 0, .string (⟨#[]⟩ : ByteArray)]) ?_ 1 _ rfl; (with_reducible repeat (first | refine blk_drewN ?_ _ | refine blk_drew ?_ | refine blk_alloc ?_ _)); refine blk_put (cs := #[.int .i64 0, .int .i64 0, .int .i64 0, .int .i64 0, .string (⟨#[]⟩ : ByteArray)]) ?_ 0 _ rfl; (with_reducible repeat (first | refine blk_drewN ?_ _ | refine blk_drew ?_ | refine blk_alloc ?_ _)); refine blk_far ?_ NB126_151.out _; (with_reducible repeat (first | refine blk_drewN ?_ _ | refine blk_drew ?_ | refine blk_alloc ?_ _)); refine blk_far ?_ NB126_151.out _; (with_reducible repeat (first | refine blk_drewN ?_ _ | refine blk_drew ?_ | refine blk_alloc ?_ _)); refine blk_far ?_ NB126_151.out _; (with_reducible repeat (first | refine blk_drewN ?_ _ | refine blk_drew ?_ | refine blk_alloc ?_ _)); refine blk_far ?_ NB126_151.out _; (with_reducible repeat (first | refine blk_drewN ?_ _ | refine blk_drew ?_ | refine blk_alloc ?_ _)); refine blk_far ?_ NB126_151.out _; (with_reducible repeat (first | refine blk_drewN ?_ _ | refine blk_drew ?_ | refine blk_alloc ?_ _)); exact BK126.out) Try.underlying29 rfl (by kernel_rfl)) rfl ?_
  exact ⟨by first | rfl | (simp [errW_none, errW_some] <;> rfl) | (simp [*, errW_none, errW_some] <;> rfl), by repeat (first | (with_reducible first | exact HB.out | apply below_alloc | apply pw_below_drewN | apply below_drew1 | refine below_set ?_ GE126.out | refine below_set ?_ GE146.out | refine below_set ?_ GE147.out | refine below_set ?_ GE148.out | refine below_set ?_ GE149.out | refine below_set ?_ GE150.out | refine below_set ?_ GE151.out) | exact HB.out)⟩
end Go.Proofs.Ytbihlbalmihbdaa.PAll
