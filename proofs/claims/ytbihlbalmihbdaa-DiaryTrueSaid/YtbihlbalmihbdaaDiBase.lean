/- The contracts of the log and of its reference, for every input: DDiskA, DDiskB, DDiskC, DRFun, DTl, DWalA, DWalB, DWalC, DWalD, DWalE, DWalF, DWalG, Wire, WHlp, WFunA, WFunE0, WFunE2, WRec, Plain; no condition. -/
import Derived.Test.YtbihlbalmihbdaaPAllx4
import Derived.Deep.RegionLaw
import Derived.Test.YtbihlbalmihbdaaRec2
import Derived.Test.YtbihlbalmihbdaaPAllx28
import Derived.Test.YtbihlbalmihbdaaPAllx12
import Derived.Lib.SliceRun
import Derived.Test.YtbihlbalmihbdaaByt
import Derived.Test.YtbihlbalmihbdaaWords
import Derived.Test.YtbihlbalmihbdaaPAllx17
import Derived.Test.YtbihlbalmihbdaaPAllx31
import Derived.Test.YtbihlbalmihbdaaPAllx32
import Derived.Test.YtbihlbalmihbdaaPAllx20
import Derived.Test.YtbihlbalmihbdaaPAllx21
import Derived.Test.YtbihlbalmihbdaaPAllx19
import Derived.Test.YtbihlbalmihbdaaPAllx33
import Derived.Test.YtbihlbalmihbdaaPAllx22
import Derived.Test.YtbihlbalmihbdaaPAllx34
import Derived.Test.YtbihlbalmihbdaaPAllx23
import Derived.Lib.SmallJoins
import Derived.SliceStrings
namespace Go.Proofs.Ytbihlbalmihbdaa.Wal
open Go.RowKit Go.Proofs.Ytbihlbalmihbdaa.PAll Go.Proofs.YtbihlbalmihbdaaW.PrintWords Go.Proofs.YtbihlbalmihbdaaW.PrintLast Go.Proofs.YtbihlbalmihbdaaW.PrintMore
set_option linter.unusedVariables false
set_option linter.unusedSimpArgs false

/-- A disk at block d: its bytes and how many are synced; all its blocks lie from B on. -/
def Dk (w : World) (B d : Nat) (b : List Int) (sy : Int) : Prop :=
  B ≤ d ∧ ∃ v, w.heap[d]? = some (.cells #[v, .int .i64 sy] 86 (0, 0)) ∧ (Kd.int .u8).R 5 w B (fun _ => True) v b
/-- A block that may be a disk's: by its type. -/
def Ty (w : World) (k : Nat) : Prop := ∃ cells q, w.heap[k]? = some (.cells cells q (0, 0)) ∧ (q = 5 ∨ q = 86)

theorem Dk.sync {w : World} {B d : Nat} {b : List Int} {sy : Int} (D : Dk w B d b sy) (x : Int) : Dk (w.setCell ⟨d, 1, none⟩ (.int .i64 x)) B d b x := by
  obtain ⟨hB, v, hd, hr⟩ := D
  exact ⟨hB, v, by simpa using blk_set hd 1 (.int .i64 x), Kd.R_set hr hd (by decide) 1 (.int .i64 x)⟩
/-- Another slice of the same kind takes the place. -/
theorem Dk.put {w : World} {B d : Nat} {b' : List Int} {sy : Int} {v v' : Value} (hB : B ≤ d) (hd : w.heap[d]? = some (.cells #[v, .int .i64 sy] 86 (0, 0))) (hr : (Kd.int .u8).R 5 w B (fun _ => True) v' b') : Dk (w.setCell ⟨d, 0, none⟩ v') B d b' sy :=
  ⟨hB, v', by simpa using blk_set hd 0 v', Kd.R_set hr hd (by decide) 0 v'⟩
theorem Dk.below {w w' : World} {B d : Nat} {b : List Int} {sy : Int} (D : Dk w B d b sy) (hb : Below w.heap.size w w') : Dk w' B d b sy := by
  obtain ⟨hB, v, hd, hr⟩ := D
  exact ⟨hB, v, blk_below hd hb, Kd.R_below hr hb⟩
/-- What may not be a disk's stays: the disk's does too, where only others are written. -/
theorem Dk.kept {w w' : World} {B d : Nat} {b : List Int} {sy : Int} (D : Dk w B d b sy) {S : Nat → Prop} (hk : Kept w w' S) (hS : ∀ k, S k → ¬ Ty w k) : Dk w' B d b sy := by
  obtain ⟨hB, v, hd, hr⟩ := D
  refine ⟨hB, v, blk_kept hd hk (fun h => hS d h ⟨_, _, hd, .inr rfl⟩), ?_⟩
  refine Kd.R_mono (Kd.R_move (Kd.R_bound hr) (fun k h => ?_)) (fun _ h => h.1)
  obtain ⟨_, _, hlt, q, hq, cells, hc⟩ := h
  refine hk.2 k hlt (fun h => hS k h ⟨cells, q, hc, .inl ?_⟩)
  simpa [Kd.int, Kd.scalar] using hq
theorem ty_blk {w : World} {d : Nat} {cells : Array Value} (hd : w.heap[d]? = some (.cells cells 86 (0, 0))) : Ty w d := ⟨_, _, hd, .inr rfl⟩
theorem ty_row {w : World} {B : Nat} {v : Value} {b : List Int} (hr : (Kd.int .u8).R 5 w B (fun _ => True) v b) (k : Nat) (hk : v.ownBlock = some k) : Ty w k := by
  obtain ⟨inner, ho⟩ := Kd.R_own hr
  obtain ⟨cells, hc⟩ := own_typed ho k hk
  exact ⟨_, _, hc, .inl rfl⟩

/-- append of a string's bytes, as a step of a region that draws. -/
theorem step_append_str {P : Program} {ops : Array Oper} {o : Oper} {a : Act} {Q : Exit → Act → World → Prop} {K : Act → World → Prop} {E : Prop} {W : World} (base : Nat) (hgd : o.guard = none) (s x : Operand) (t u e : TypeId)
    (ho : o.op = .call { callee := .builtin .append, args := #[s, x], argTypes := #[t, u] })
    (ht : P.underlying t = some (.slice e)) (hu : P.underlying u = some .string) (hinfo : (P.info? e).map (fun i => (i.zero, i.size, i.bytes)) = some (some (.int .u8 0), 1, 1))
    (v : Value) (xs : List Int) (y : ByteArray) (hs : a.eval s = v) (hx : a.eval x = .string y)
    (HO : (Kd.int .u8).R e W base (fun _ => True) v xs) (hbase : base ≤ W.heap.size) (hl : xs.length + y.size ≤ 140737488355328)
    (h : ∀ v1 w1, (Kd.int .u8).R e w1 base (fun _ => True) v1 (xs ++ bytesOf y) → W.grownBy w1 v.ownBlock → K (a.put o.dst v1) w1) :
    if Region.wanted o (yielded ops a.tmps) = true then Oper.wp P o a W K Q else E := by
  have hw : Region.wanted o (yielded ops a.tmps) = true := by simp [Region.wanted, hgd]
  rw [if_pos hw]
  obtain ⟨i0, hi, hzz⟩ := Option.map_eq_some_iff.1 hinfo
  simp only [Prod.mk.injEq] at hzz
  obtain ⟨hz0, hz1, hz2⟩ := hzz
  obtain ⟨v1, w1, hr, hown, hg, _⟩ := Lib.run_append_own_string (P := P) W base t u o.type e i0 ht hu hi hz0 hz1 hz2 v xs.length (nums .u8 xs) (Kd.own_of_R HO) y (by simp only [maxLen]; omega) hl hbase
  have hl2 : (xs ++ bytesOf y).length = xs.length + y.size := by rw [List.length_append, bytesOf_length]
  have hc : nums .u8 (xs ++ bytesOf y) = nums .u8 xs ++ Lib.strCells y := by
    rw [nums_append]
    congr 1
    simp [nums, bytesOf, Lib.strCells]
  unfold Oper.wp execOp
  simp only [ho, resolve, invoke, builtin, Sem.run_bind, Sem.run_pure, Result.andThen_ok, List.map_toArray, List.map_cons, List.map_nil, hs, hx, hr]
  refine h v1 w1 (Kd.R_of_own (h1 := fun _ => rfl) ?_ (fun _ _ => trivial)) hg
  rw [hl2]
  show w1.ownsRow base e 1 v1 (xs.length + y.size) (nums .u8 (xs ++ bytesOf y))
  rw [hc]
  exact hown

set_option maxHeartbeats 8000000 in
set_option maxRecDepth 100000 in
theorem New (w : World) : Calls Try.prog 29 #[] w fun e w' => ∃ g : Nat, e = .returned (.pointer (some ⟨g, 0, none⟩)) ∧ w.heap.size ≤ g ∧ Below w.heap.size w w' ∧ w'.heap[g]? = some (.cells #[.slice none 0 0, .int .i64 0] 86 (0, 0)) := by
  have hu71 := Try.underlying86
  have HB := Aside0.mk (Below.refl w.heap.size w)
  go_enter Try.func29, Try.ntmps29
  go_wp2_with (first | ((with_reducible refine gate_dst (N := 2) rfl ?_); refine box_event ?hg (N := 2) ?hd (cs := #[.slice none 0 0, .int .i64 0]) (t := 86) ?hr ?_; (case hd => rfl); (case hg => rfl); (case hr => first | (go_simp; done) | (go_simp; rfl)); intro g hg w1 hbox hb; have n1_ := Aside0.mk (below_step (by repeat (first | (with_reducible first | exact HB.out | apply below_alloc | apply pw_below_drewN | apply below_drew1) | exact HB.out)) hb); have GE := Aside0.mk (show w.heap.size ≤ g by rw [hg]; exact HB.out.size); clear HB; have HB := n1_; have BK := Aside0.mk hbox; clear n1_ hbox hb hg))
  go_ret
  exact ⟨_, rfl, GE.out, by repeat (first | (with_reducible first | exact HB.out | apply below_alloc | apply pw_below_drewN | apply below_drew1) | exact HB.out), by (with_reducible repeat (first | refine blk_drewN ?_ _ | refine blk_drew ?_ | refine blk_alloc ?_ _)); exact BK.out⟩

set_option maxHeartbeats 8000000 in
set_option maxRecDepth 100000 in
/-- The text of a disk. -/
theorem Text {w : World} {B d : Nat} {b : List Int} {sy : Int} (D : Dk w B d b sy) : Calls Try.prog 32 #[.pointer (some ⟨d, 0, none⟩)] w fun e w' => e = .returned (.string (strOfNums b)) ∧ Below w.heap.size w w' := by
  obtain ⟨hB, v, hd, hr⟩ := D
  obtain ⟨A, c, rfl, hl, hC⟩ := Kd.R_reads hr
  have c0 : w.cell? ⟨d, 0, none⟩ = some (.slice A b.length c) := (blk_cell hd 0).trans rfl
  have HB := Aside0.mk (Below.refl w.heap.size w)
  have cv := Kd.C_string (P := Try.prog) (src := 84) (dst := 9) (e := 5) Try.underlying84 Try.underlying5 Try.underlying9 (c := c) hC
  go_enter Try.func32, Try.ntmps32
  go_wp2
  go_ret
  exact ⟨rfl, HB.out⟩

set_option maxHeartbeats 8000000 in
set_option maxRecDepth 100000 in
/-- All is synced. -/
theorem DoSync {w : World} {B d : Nat} {b : List Int} {sy : Int} (D : Dk w B d b sy) (hBw : B ≤ w.heap.size) (s : ByteArray) (keep : Int) :
    Calls Try.prog 30 #[.pointer (some ⟨d, 0, none⟩), .agg #[.int .i64 2, .string s, .int .u64 keep]] w fun e w' => e = .returned (.int .i64 0) ∧ Dk w' B d b (b.length : Int) ∧ Below B w w' ∧ Kept w w' (Ty w) := by
  obtain ⟨hB, v, hd, hr⟩ := D
  obtain ⟨A, c, rfl, hl, hC⟩ := Kd.R_reads hr
  have HB := Aside0.mk (Below.refl w.heap.size w)
  go_enter Try.func30, Try.ntmps30
  go_wp2_with (first | ((with_reducible refine gate_dst (N := 3) rfl ?_); refine box_event ?hg (N := 3) ?hd (cs := #[.int .i64 2, .string s, .int .u64 keep]) (t := 70) ?hr ?_; (case hd => rfl); (case hg => rfl); (case hr => first | (go_simp; done) | (go_simp; rfl)); intro g hg w1 hbox hb; have c0 : w1.cell? ⟨g, 0, none⟩ = some (.int .i64 2) := (blk_cell hbox 0).trans rfl; have c1 : w1.cell? ⟨d, 0, none⟩ = some (.slice A b.length c) := (blk_cell (blk_below hd hb) 0).trans rfl; have c2 : w1.cell? ⟨d, 1, none⟩ = some (.int .i64 sy) := (blk_cell (blk_below hd hb) 1).trans rfl; have f1 : w1.frozen? ⟨d, 1, none⟩ = false := blk_frozen (blk_below hd hb) 1; have HB1 := Aside0.mk hb; clear hg hbox hb))
  go_ret
  have hd1 := blk_below hd HB1.out
  exact ⟨rfl, Dk.sync ⟨hB, _, hd1, Kd.R_below hr HB1.out⟩ _, (HB1.out.mono hBw).setCell hB _, (Kept.of_below HB1.out _).setCell (.inl (ty_blk hd)) _⟩

set_option maxHeartbeats 8000000 in
set_option maxRecDepth 100000 in
/-- There is no room. -/
theorem DoFull {w : World} {B d : Nat} {b : List Int} {sy : Int} (D : Dk w B d b sy) (s : ByteArray) (keep : Int) (hl : b.length ≤ 65536) (h : ¬ b.length + s.size ≤ 65536) :
    Calls Try.prog 30 #[.pointer (some ⟨d, 0, none⟩), .agg #[.int .i64 1, .string s, .int .u64 keep]] w fun e w' => e = .returned (.int .i64 2) ∧ Below w.heap.size w w' := by
  obtain ⟨hB, v, hd, hr⟩ := D
  obtain ⟨A, c, rfl, hlc, hC⟩ := Kd.R_reads hr
  have HB := Aside0.mk (Below.refl w.heap.size w)
  have hw : wrap64 (65536 - (b.length : Int)) = 65536 - (b.length : Int) := by unfold wrap64; omega
  have ht : decide ((s.size : Int) > wrap64 (65536 - (b.length : Int))) = true := by rw [hw]; exact decide_eq_true (by omega)
  clear hw
  go_enter Try.func30, Try.ntmps30
  go_wp2_with (first | ((with_reducible refine gate_dst (N := 3) rfl ?_); refine box_event ?hg (N := 3) ?hd (cs := #[.int .i64 1, .string s, .int .u64 keep]) (t := 70) ?hr ?_; (case hd => rfl); (case hg => rfl); (case hr => first | (go_simp; done) | (go_simp; rfl)); intro g hg w1 hbox hb; have c0 : w1.cell? ⟨g, 0, none⟩ = some (.int .i64 1) := (blk_cell hbox 0).trans rfl; have c3 : w1.cell? ⟨g, 1, none⟩ = some (.string s) := (blk_cell hbox 1).trans rfl; have c1 : w1.cell? ⟨d, 0, none⟩ = some (.slice A b.length c) := (blk_cell (blk_below hd hb) 0).trans rfl; have c2 : w1.cell? ⟨d, 1, none⟩ = some (.int .i64 sy) := (blk_cell (blk_below hd hb) 1).trans rfl; have f1 : w1.frozen? ⟨d, 1, none⟩ = false := blk_frozen (blk_below hd hb) 1; have HB1 := Aside0.mk hb; clear hg hbox hb))
  go_region
  go_wp2
  go_ret
  exact ⟨rfl, HB1.out.drew⟩

set_option maxHeartbeats 8000000 in
set_option maxRecDepth 100000 in
/-- A text behind all. -/
theorem DoWrite {w : World} {B d : Nat} {b : List Int} {sy : Int} (D : Dk w B d b sy) (hBw : B ≤ w.heap.size) (s : ByteArray) (keep : Int) (h : b.length + s.size ≤ 65536) :
    Calls Try.prog 30 #[.pointer (some ⟨d, 0, none⟩), .agg #[.int .i64 1, .string s, .int .u64 keep]] w fun e w' => e = .returned (.int .i64 0) ∧ Dk w' B d (b ++ bytesOf s) sy ∧ Below B w w' ∧ Kept w w' (Ty w) := by
  obtain ⟨hB, v, hd, hr⟩ := D
  obtain ⟨A, c, rfl, hlc, hC⟩ := Kd.R_reads hr
  have HB := Aside0.mk (Below.refl w.heap.size w)
  have hw : wrap64 (65536 - (b.length : Int)) = 65536 - (b.length : Int) := by unfold wrap64; omega
  have ht : decide ((s.size : Int) > wrap64 (65536 - (b.length : Int))) = false := by rw [hw]; exact decide_eq_false (by omega)
  clear hw
  go_enter Try.func30, Try.ntmps30
  go_wp2_with (first | ((with_reducible refine gate_dst (N := 3) rfl ?_); refine box_event ?hg (N := 3) ?hd (cs := #[.int .i64 1, .string s, .int .u64 keep]) (t := 70) ?hr ?_; (case hd => rfl); (case hg => rfl); (case hr => first | (go_simp; done) | (go_simp; rfl)); intro g hg w1 hbox hb; have c0 : w1.cell? ⟨g, 0, none⟩ = some (.int .i64 1) := (blk_cell hbox 0).trans rfl; have c3 : w1.cell? ⟨g, 1, none⟩ = some (.string s) := (blk_cell hbox 1).trans rfl; have c1 : w1.cell? ⟨d, 0, none⟩ = some (.slice A b.length c) := (blk_cell (blk_below hd hb) 0).trans rfl; have c2 : w1.cell? ⟨d, 1, none⟩ = some (.int .i64 sy) := (blk_cell (blk_below hd hb) 1).trans rfl; have f1 : w1.frozen? ⟨d, 0, none⟩ = false := blk_frozen (blk_below hd hb) 0; have HB1 := Aside0.mk hb; clear hg hbox hb))
  go_region
  go_wp2
  have HB2 : Aside0 (Below w.heap.size w w1.drew.drew) := ⟨HB1.out.drew.drew⟩
  have HR1 := Aside0.mk (Kd.R_below hr HB2.out)
  have HD1 := Aside0.mk (blk_below hd HB2.out)
  go_region_law (refine step_append_str B rfl (.tmp 29) (.tmp 31) 84 9 5 rfl Try.underlying84 Try.underlying9 (by kernel_rfl) (.slice A b.length c) b s (by simp [Act.eval, Act.put]) (by simp [Act.eval, Act.put]) HR1.out (Nat.le_trans hBw HB2.out.size) (by omega) ?_; intro v1 w2 hr2 hg2; obtain ⟨A2, k2, rfl⟩ := Kd.R_slice hr2; have hd2 := blk_grown HD1.out hg2 (Kd.R_ne HR1.out HD1.out (by decide)); have e0 : w2.cell? ⟨d, 0, none⟩ = some (.slice A b.length c) := (blk_cell hd2 0).trans rfl; have g0 : w2.frozen? ⟨d, 0, none⟩ = false := blk_frozen hd2 0; have HR2 := Aside0.mk hr2; have HG2 := Aside0.mk hg2; have HD2 := Aside0.mk hd2; clear hr2 hg2 hd2)
  all_goals
    go_wp2
    go_ret
    have hb2 : Below B w w2 := (HB2.out.mono hBw).grown HG2.out (Nat.le_trans hBw HB2.out.size) (fun k hk => own_base (Kd.own_of_R HR1.out) k hk)
    have hr3 := HR2.out
    rw [List.length_append] at hr3
    exact ⟨rfl, Dk.put hB HD2.out hr3, hb2.setCell hB _, (Kept.of_grown HG2.out (Kept.of_below HB2.out _) (fun k hk => .inl (ty_row hr k hk))).setCell (.inl (ty_blk hd)) _⟩

end Go.Proofs.Ytbihlbalmihbdaa.Wal
namespace Go.Proofs.Ytbihlbalmihbdaa.Wal
open Go.RowKit Go.Proofs.Ytbihlbalmihbdaa.PAll Go.Proofs.YtbihlbalmihbdaaW.PrintWords Go.Proofs.YtbihlbalmihbdaaW.PrintLast Go.Proofs.YtbihlbalmihbdaaW.PrintMore
set_option linter.unusedVariables false
set_option linter.unusedSimpArgs false

/-- Is the sector k kept? -/
def kp (keep k : Int) : Bool := decide (k < 64) && (Go.bits .and .u64 (keep / 2 ^ k.toNat) 1 == 1)
theorem kp_lt {keep k : Int} (h : k < 64) : kp keep k = (Go.bits .and .u64 (keep / 2 ^ k.toNat) 1 == 1) := by
  unfold kp
  rw [decide_eq_true h, Bool.true_and]
theorem kp_ge {keep k : Int} (h : ¬ k < 64) : kp keep k = false := by
  unfold kp
  rw [decide_eq_false h, Bool.false_and]

set_option maxHeartbeats 8000000 in
set_option maxRecDepth 100000 in
theorem kept_calls (keep k : Int) (h0 : 0 ≤ k) (w : World) : Calls Try.prog 50 #[.int .u64 keep, .int .i64 k] w fun e w' => e = .returned (.bool (kp keep k)) ∧ w' = w := by
  by_cases h64 : k < 64
  · rw [kp_lt h64]
    have hh : decide (k < 64) = true := decide_eq_true h64
    go_enter Try.func50, Try.ntmps50
    go_wp2
    go_ret
    exact ⟨rfl, rfl⟩
  · rw [kp_ge h64]
    have hh : decide (k < 64) = false := decide_eq_false h64
    go_enter Try.func50, Try.ntmps50
    go_wp2
    go_ret
    exact ⟨rfl, rfl⟩

theorem w64n (n : Nat) (h : n ≤ 100000) : wrap64 ((n : Int) + 1) = ((n + 1 : Nat) : Int) := by
  unfold wrap64
  omega
theorem div_nn (a s : Nat) (h : s ≤ a) : 0 ≤ (a : Int) / 64 - (s : Int) / 64 := by omega

theorem R_takeI {w : World} {B : Nat} {A : Option Addr} {n m c : Nat} {xs : List Int} (h : (Kd.int .u8).R 5 w B (fun _ => True) (.slice A n c) xs) (hm : m ≤ xs.length) : (Kd.int .u8).R 5 w B (fun _ => True) (.slice A m c) (xs.take m) := by
  obtain ⟨rfl, _⟩ := Kd.R_reads' h
  have h2 := own_take (Kd.own_of_R h) hm
  refine Kd.R_of_own (h1 := fun _ => rfl) ?_ (fun _ _ => trivial)
  rw [List.length_take, Nat.min_eq_left hm]
  rw [Nat.mul_one] at h2
  have e : encs (Value.int .u8) (xs.take m) = (encs (Value.int .u8) xs).take m := by simp [encs, List.map_take]
  rw [e]
  exact h2

/-- What a crash leaves: from the place at_ on, for m places. -/
def tl (keep first : Int) : Nat → Nat → List Int → Nat → List Int × Nat
  | 0, _, b, e => (b, e)
  | m + 1, at_, b, e => if kp keep ((at_ : Int) / 64 - first) = true then tl keep first m (at_ + 1) b (at_ + 1) else tl keep first m (at_ + 1) (b.set at_ 0) e

set_option maxHeartbeats 8000000 in
set_option maxRecDepth 100000 in
theorem tear {w : World} {B d : Nat} {b : List Int} {sy : Nat} (D : Dk w B d b (sy : Int)) (hBw : B ≤ w.heap.size) (keep : Int) (hsl : sy ≤ b.length) (hl : b.length ≤ 65536) (b2 : List Int) (e2 : Nat) (hR : tl keep ((sy : Int) / 64) (b.length - sy) sy b sy = (b2, e2)) :
    Calls Try.prog 40 #[.pointer (some ⟨d, 0, none⟩), .int .u64 keep] w fun e w' => e = .returned (.tuple #[]) ∧ Dk w' B d (b2.take e2) (sy : Int) ∧ Below B w w' ∧ Kept w w' (Ty w) := by
  obtain ⟨hB, v, hd, hr⟩ := D
  obtain ⟨A, c, rfl, hlc, hC⟩ := Kd.R_reads hr
  have HB := Aside0.mk (Below.refl w.heap.size w)
  have c1 : w.cell? ⟨d, 0, none⟩ = some (.slice A b.length c) := (blk_cell hd 0).trans rfl
  have c2 : w.cell? ⟨d, 1, none⟩ = some (.int .i64 sy) := (blk_cell hd 1).trans rfl
  have HR := Aside0.mk hR
  clear hR
  go_enter Try.func40, Try.ntmps40
  go_wp2
  go_region
  go_wp2
  go_loopg [5, 6] (b.length - sy) (fun kq v5 v6 w' => ∃ (at_ e : Nat) (b' : List Int), v5 = .int .i64 (e : Int) ∧ v6 = .int .i64 (at_ : Int) ∧ Aside0 (tl keep ((sy : Int) / 64) kq at_ b' e = (b2, e2)) ∧ Aside0 (b'.length = b.length ∧ at_ + kq = b.length ∧ e ≤ at_ ∧ sy ≤ at_) ∧ Aside0 (w'.heap[d]? = some (.cells #[.slice A b.length c, .int .i64 sy] 86 (0, 0))) ∧ Aside0 ((Kd.int .u8).R 5 w' B (fun _ => True) (.slice A b.length c) b') ∧ Aside0 (Below B w w') ∧ Aside0 (Kept w w' (Ty w)))
  case atStart => exact ⟨sy, sy, b, rfl, rfl, HR, ⟨rfl, by omega, Nat.le_refl _, Nat.le_refl _⟩, ⟨hd⟩, ⟨hr⟩, ⟨(Below.refl _ _).drew⟩, ⟨Kept.refl _ _⟩⟩
  case round =>
    obtain ⟨at_, e, b', rfl, rfl, HA, HI, HD, HRw, HBw, HKw⟩ := hrel
    obtain ⟨i1, i2, i3, i4⟩ := HI.out
    have d0 : wr.cell? ⟨d, 0, none⟩ = some (.slice A b.length c) := (blk_cell HD.out 0).trans rfl
    have z0 : wr.frozen? ⟨d, 0, none⟩ = false := blk_frozen HD.out 0
    by_cases hat : at_ < b.length
    · obtain ⟨k1, rfl⟩ : ∃ k1, gk = k1 + 1 := ⟨gk - 1, by omega⟩
      have hlt : decide ((at_ : Int) < (b.length : Int)) = true := decide_eq_true (by omega)
      have hnn := div_nn at_ sy i4
      obtain ⟨g, cap, hv, hBg, hgl, cells, hgc⟩ := Kd.R_form HRw.out (by omega)
      rw [i1] at hv
      injection hv with hA hn hcp
      subst hA hcp
      obtain ⟨z1, z2⟩ := Kd.R_celln (0 : Int) HRw.out (at_ : Int) (by omega) (by omega)
      rw [Int.toNat_natCast] at z1 z2
      have H := HA.out
      clear HA HI
      rw [tl] at H
      by_cases hk : kp keep ((at_ : Int) / 64 - (sy : Int) / 64) = true
      · rw [if_pos hk] at H
        have HA := Aside0.mk H
        clear H
        go_wp2_with (first | ((with_reducible refine gate_callee (f := 50) rfl ?_); refine goesL_ (some 34) rfl rfl Try.func50 (by kernel_rfl) rfl #[.int .u64 keep, .int .i64 ((at_ : Int) / 64 - (sy : Int) / 64)] rfl (by (try simp only [List.map_toArray, List.map_cons, List.map_nil]); first | done | rfl) ?_; (with_reducible refine (kept_calls keep _ hnn _).mono ?_); rintro e1 w1 ⟨rfl, rfl⟩; rw [hk]; refine ⟨_, rfl, ?_⟩))
        go_roundg k1
        case measure => omega
        case rel => exact ⟨at_ + 1, at_ + 1, b', rfl, rfl, HA, ⟨i1, by omega, by omega, by omega⟩, HD, HRw, HBw, HKw⟩
      · rw [if_neg hk] at H
        have HA := Aside0.mk H
        clear H
        replace hk := Bool.eq_false_iff.mpr hk
        go_wp2_with (first | ((with_reducible refine gate_callee (f := 50) rfl ?_); refine goesL_ (some 34) rfl rfl Try.func50 (by kernel_rfl) rfl #[.int .u64 keep, .int .i64 ((at_ : Int) / 64 - (sy : Int) / 64)] rfl (by (try simp only [List.map_toArray, List.map_cons, List.map_nil]); first | done | rfl) ?_; (with_reducible refine (kept_calls keep _ hnn _).mono ?_); rintro e1 w1 ⟨rfl, rfl⟩; rw [hk]; refine ⟨_, rfl, ?_⟩))
        go_roundg k1
        case measure => omega
        case rel =>
          obtain ⟨hr2, hg2⟩ := Kd.R_putg HRw.out (at_ : Int) 0
          rw [Int.toNat_natCast] at hr2 hg2
          exact ⟨at_ + 1, e, b'.set at_ 0, rfl, rfl, HA, ⟨by rw [List.length_set]; exact i1, by omega, by omega, by omega⟩, ⟨blk_grown HD.out hg2 (fun h => blk_ne hgc HD.out (by decide) (by injection h with h; exact h.symm))⟩, ⟨hr2⟩, ⟨HBw.out.setCell hBg _⟩, ⟨HKw.out.setCell (.inl (ty_row hr g rfl)) _⟩⟩
    · obtain rfl : gk = 0 := by omega
      have H := HA.out
      clear HA
      rw [tl] at H
      injection H with h1 h2
      subst h1 h2
      have hge : decide ((at_ : Int) < (b.length : Int)) = false := decide_eq_false (by omega)
      have hec : e ≤ c := by omega
      have heb : e ≤ b'.length := by omega
      have HE := Aside0.mk heb
      clear HI heb
      go_wp2
      exact bodyPost_end (results_none rfl _ _ _) rfl ⟨rfl, Dk.put hB HD.out (R_takeI HRw.out HE.out), HBw.out.setCell hB _, HKw.out.setCell (.inl (ty_blk hd)) _⟩
end Go.Proofs.Ytbihlbalmihbdaa.Wal
namespace Go.Proofs.Ytbihlbalmihbdaa.Wal
open Go.RowKit Go.Proofs.Ytbihlbalmihbdaa.PAll Go.Proofs.YtbihlbalmihbdaaW.PrintWords Go.Proofs.YtbihlbalmihbdaaW.PrintLast Go.Proofs.YtbihlbalmihbdaaW.PrintMore
set_option linter.unusedVariables false
set_option linter.unusedSimpArgs false

theorem Ty.back {w w1 : World} (h : Below w.heap.size w w1) (k : Nat) (t : Ty w1 k) : Ty w k ∨ w.heap.size ≤ k := by
  by_cases hk : k < w.heap.size
  · obtain ⟨cells, q, hc, hq⟩ := t
    exact .inl ⟨cells, q, (h.block k hk).symm.trans hc, hq⟩
  · exact .inr (by omega)

/-- What a crash leaves of a disk. -/
def crashL (keep : Int) (b : List Int) (sy : Nat) : List Int := (tl keep ((sy : Int) / 64) (b.length - sy) sy b sy).1.take (tl keep ((sy : Int) / 64) (b.length - sy) sy b sy).2

set_option maxHeartbeats 8000000 in
set_option maxRecDepth 100000 in
theorem DoCrash {w : World} {B d : Nat} {b : List Int} {sy : Nat} (D : Dk w B d b (sy : Int)) (hBw : B ≤ w.heap.size) (s : ByteArray) (keep : Int) (hsl : sy ≤ b.length) (hl : b.length ≤ 65536) :
    Calls Try.prog 30 #[.pointer (some ⟨d, 0, none⟩), .agg #[.int .i64 3, .string s, .int .u64 keep]] w fun e w' => e = .returned (.int .i64 0) ∧ Dk w' B d (crashL keep b sy) ((crashL keep b sy).length : Int) ∧ Below B w w' ∧ Kept w w' (Ty w) := by
  have D0 := D
  obtain ⟨hB, v, hd, hr⟩ := D
  obtain ⟨A, c, rfl, hlc, hC⟩ := Kd.R_reads hr
  have HB := Aside0.mk (Below.refl w.heap.size w)
  go_enter Try.func30, Try.ntmps30
  go_wp2_with (first | ((with_reducible refine gate_dst (N := 3) rfl ?_); refine box_event ?hg (N := 3) ?hd (cs := #[.int .i64 3, .string s, .int .u64 keep]) (t := 70) ?hr ?_; (case hd => rfl); (case hg => rfl); (case hr => first | (go_simp; done) | (go_simp; rfl)); intro g hg w1 hbox hb; have c0 : w1.cell? ⟨g, 0, none⟩ = some (.int .i64 3) := (blk_cell hbox 0).trans rfl; have c3 : w1.cell? ⟨g, 2, none⟩ = some (.int .u64 keep) := (blk_cell hbox 2).trans rfl; have HB1 := Aside0.mk hb; clear hg hbox hb) | ((with_reducible refine gate_callee (f := 40) rfl ?_); refine goesL_ (some 38) rfl rfl Try.func40 (by kernel_rfl) rfl #[.pointer (some ⟨d, 0, none⟩), .int .u64 keep] rfl (by (try simp only [List.map_toArray, List.map_cons, List.map_nil]); first | done | rfl) ?_; (with_reducible refine (tear (D0.below HB1.out) (Nat.le_trans hBw HB1.out.size) keep hsl hl _ _ rfl).mono ?_); rintro e2 w2 ⟨rfl, hD2, hB2, hK2⟩; refine ⟨_, rfl, ?_⟩; change Dk w2 B d (crashL keep b sy) _ at hD2; have HD2 := Aside0.mk hD2; obtain ⟨_, v2, hd2, hr2⟩ := hD2; obtain ⟨A2, k2, rfl, hl2, _⟩ := Kd.R_reads hr2; have e0 : w2.cell? ⟨d, 0, none⟩ = some (.slice A2 (crashL keep b sy).length k2) := (blk_cell hd2 0).trans rfl; have e1 : w2.cell? ⟨d, 1, none⟩ = some (.int .i64 sy) := (blk_cell hd2 1).trans rfl; have g1 : w2.frozen? ⟨d, 1, none⟩ = false := blk_frozen hd2 1; have HB2 := Aside0.mk hB2; have HK2 := Aside0.mk hK2; clear hB2 hK2 hd2 hr2))
  go_ret
  exact ⟨rfl, HD2.out.sync _, (((HB1.out.mono hBw)).trans HB2.out).setCell hB _, ((Kept.of_below HB1.out (Ty w)).then_ HK2.out (fun k t => Ty.back HB1.out k t)).setCell (.inl (ty_blk hd)) _⟩

set_option maxHeartbeats 8000000 in
set_option maxRecDepth 100000 in
/-- All behind a place goes. -/
theorem Cut {w : World} {B d : Nat} {b : List Int} {sy : Int} (D : Dk w B d b sy) (hBw : B ≤ w.heap.size) (n : Nat) (h : n ≤ b.length) (hl : b.length ≤ 65536) (hsy : sy = (b.length : Int)) :
    Calls Try.prog 33 #[.pointer (some ⟨d, 0, none⟩), .int .i64 (n : Int)] w fun e w' => e = .returned (.tuple #[]) ∧ Dk w' B d (b.take n) (n : Int) ∧ Below B w w' ∧ Kept w w' (Ty w) := by
  have D0 := D
  obtain ⟨hB, v, hd, hr⟩ := D
  obtain ⟨A, c, rfl, hlc, hC⟩ := Kd.R_reads hr
  have c0 : w.cell? ⟨d, 0, none⟩ = some (.slice A b.length c) := (blk_cell hd 0).trans rfl
  have c1 : w.cell? ⟨d, 1, none⟩ = some (.int .i64 sy) := (blk_cell hd 1).trans rfl
  have f0 : w.frozen? ⟨d, 0, none⟩ = false := blk_frozen hd 0
  have f1 : w.frozen? ⟨d, 1, none⟩ = false := blk_frozen hd 1
  have h0 : decide (0 ≤ (n : Int)) = true := decide_eq_true (by omega)
  by_cases hn : n < b.length
  · have h1 : decide ((n : Int) < (b.length : Int)) = true := decide_eq_true (by omega)
    have hnc : n ≤ c := by omega
    subst hsy
    go_enter Try.func33, Try.ntmps33
    go_wp2
    exact bodyPost_end (results_none rfl _ _ _) rfl ⟨rfl, (Dk.put hB hd (R_takeI hr (by omega))).sync _, ((Below.refl B w).setCell hB _).setCell hB _, ((Kept.refl _ _).setCell (.inl (ty_blk hd)) _).setCell (.inl (ty_blk hd)) _⟩
  · have h1 : decide ((n : Int) < (b.length : Int)) = false := decide_eq_false (by omega)
    obtain rfl : n = b.length := by omega
    subst hsy
    go_enter Try.func33, Try.ntmps33
    go_wp2
    refine bodyPost_end (results_none rfl _ _ _) rfl ⟨rfl, ?_, Below.refl _ _, Kept.refl _ _⟩
    rw [List.take_length]
    exact D0
end Go.Proofs.Ytbihlbalmihbdaa.Wal
namespace Go.Proofs.Ytbihlbalmihbdaa.Fun
open Go.RowKit Go.Proofs.Ytbihlbalmihbdaa.PAll Go.Proofs.YtbihlbalmihbdaaW.PrintWords Go.Proofs.YtbihlbalmihbdaaW.PrintLast SG

/-- As a step that the kernel doesn't have to find. -/
theorem bindS {α β : Type} (a : α) (f : α → Option β) : (some a).bind f = f a := Eq.trans (Option.bind_some a f) (Eq.refl (f a))

theorem bt_mk (l : By) (i : Int) : bt (mk l) i = ((l.getD i.toNat 0).toNat : Int) := by
  unfold bt
  split
  · rename_i h
    have h' : i.toNat < l.length := by rw [mk_size] at h; exact h
    rw [List.getD_eq_getElem?_getD, List.getElem?_eq_getElem h']
    rfl
  · rename_i h
    have h' : l.length ≤ i.toNat := by rw [mk_size] at h; omega
    rw [List.getD_eq_getElem?_getD, List.getElem?_eq_none h']
    rfl

theorem bt_mk_range (l : By) (i : Int) : 0 ≤ bt (mk l) i ∧ bt (mk l) i ≤ 255 := bt_range _ _

theorem xor_comm' (a b : Int) : Go.bits .xor .u32 a b = Go.bits .xor .u32 b a := by
  show IntKind.u32.wrap _ = IntKind.u32.wrap _
  rw [BitVec.xor_comm]

theorem not_int (v : BitVec 32) : Go.bits .xor .u32 4294967295 (v.toNat : Int) = ((v ^^^ BitVec.allOnes 32).toNat : Int) := by
  rw [xor_comm', all_int, bits_xor]

theorem not_int' (v : BitVec 32) : Go.bits .xor .u32 (v.toNat : Int) 4294967295 = ((v ^^^ BitVec.allOnes 32).toNat : Int) := by
  rw [all_int, bits_xor]

/-! The sum. -/
theorem more_l1 (m : Nat) (v : BitVec 32) (s : ByteArray) (n i : Int) : record_more.l1 (m + 9) (v.toNat : Int) s n i 0 = record_more.l0 m ((step8 v).toNat : Int) s n (wrap64 (i + 1)) := by
  have w0 : wrap64 (0 + 1) = 1 := by unfold wrap64; omega
  have w1 : wrap64 (1 + 1) = 2 := by unfold wrap64; omega
  have w2 : wrap64 (2 + 1) = 3 := by unfold wrap64; omega
  have w3 : wrap64 (3 + 1) = 4 := by unfold wrap64; omega
  have w4 : wrap64 (4 + 1) = 5 := by unfold wrap64; omega
  have w5 : wrap64 (5 + 1) = 6 := by unfold wrap64; omega
  have w6 : wrap64 (6 + 1) = 7 := by unfold wrap64; omega
  have w7 : wrap64 (7 + 1) = 8 := by unfold wrap64; omega
  rw [record_more.l1, if_pos (by decide), step_int, w0]
  rw [record_more.l1, if_pos (by decide), step_int, w1]
  rw [record_more.l1, if_pos (by decide), step_int, w2]
  rw [record_more.l1, if_pos (by decide), step_int, w3]
  rw [record_more.l1, if_pos (by decide), step_int, w4]
  rw [record_more.l1, if_pos (by decide), step_int, w5]
  rw [record_more.l1, if_pos (by decide), step_int, w6]
  rw [record_more.l1, if_pos (by decide), step_int, w7]
  rw [record_more.l1, if_neg (by decide)]
  rfl

theorem more_l0 (l : By) (hl : l.length ≤ 140737488351232) (d : Nat) : ∀ (i : Nat) (v : BitVec 32), i + d = l.length → record_more.l0 (10 * d + 1) (v.toNat : Int) (mk l) (l.length : Int) (i : Int) = some ((crc v (l.drop i)).toNat : Int) := by
  induction d with
  | zero =>
    intro i v h
    rw [record_more.l0, if_neg (by omega), List.drop_eq_nil_of_le (by omega)]
    rfl
  | succ d ih =>
    intro i v h
    have hi : i < l.length := by omega
    rw [show 10 * (d + 1) + 1 = (10 * d + 1 + 9) + 1 by omega, record_more.l0, if_pos (by omega), if_pos (by omega), if_pos (by rw [mk_size]; omega)]
    have e : bt (mk l) (i : Int) = ((l[i]).toNat : Int) := by
      rw [bt_mk, List.getD_eq_getElem?_getD, Int.toNat_natCast, List.getElem?_eq_getElem hi]
      rfl
    rw [e, byte_int, more_l1, w64 (by omega) (by omega), show (i : Int) + 1 = ((i + 1 : Nat) : Int) by omega, ih (i + 1) _ (by omega), List.drop_eq_getElem_cons hi]
    rfl

theorem E_more (v : BitVec 32) (l : By) (hl : l.length ≤ 140737488351232) : Ev (fun k => record_more.f k (v.toNat : Int) (mk l)) ((crc v l).toNat : Int) := by
  refine Ev.of (record_more.mono _ _) (k := 10 * l.length + 1) ?_
  have := more_l0 l hl l.length 0 v (by omega)
  unfold record_more.f
  rw [mk_size]
  exact this

theorem four_f (n : Nat) : record_four.f (n : Int) = some (mk (four n)) := by
  unfold record_four.f
  rw [four_nums]

/-- A record's bytes, or the error. -/
def frameA (s : By) : ByteArray × Int := if 4096 < s.length then (mk [], 2) else (mk (frame s), 0)

theorem E_Frame (s : By) (hl : s.length ≤ 140737488351232) : Ev (fun k => record_Frame.f k (mk s)) (frameA s) := by
  unfold record_Frame.f frameA
  rw [mk_size]
  by_cases h : 4096 < s.length
  · simp only [if_pos (show (s.length : Int) > 4096 by omega), if_pos h]
    exact Ev.now _
  · simp only [if_neg (show ¬ (s.length : Int) > 4096 by omega), if_neg h]
    rw [show (s.length : Int) % 4294967296 = (s.length : Int) by omega, four_f]
    simp only [bindS]
    refine Ev.bind (a := ((crc (BitVec.allOnes 32) (four s.length)).toNat : Int)) (by simpa only [all_int] using E_more (BitVec.allOnes 32) (four s.length) (by rw [four_length]; omega)) ?_
    refine Ev.bind (E_more _ s hl) ?_
    rw [not_int, ← crc_append, four_f, Option.bind_some, mk_append, mk_append, mk_size, mk_size, mk_size, if_pos (by simp only [four_length]; omega), if_pos (by simp only [List.length_append, four_length]; omega), List.append_assoc]
    exact Ev.now _

theorem number_f (l : By) (h : 4 ≤ l.length) : record_number.f (mk l) = some (num4 l : Int) := by
  unfold record_number.f
  rw [mk_size, if_pos (by omega), if_pos (by omega), if_pos (by omega), if_pos (by omega), or4_u32 _ _ _ _ (bt_mk_range l 0) (bt_mk_range l 1) (bt_mk_range l 2) (bt_mk_range l 3)]
  simp only [bt_mk, num4]
  refine congrArg some ?_
  simp only [Int.toNat_zero, show (1 : Int).toNat = 1 from rfl, show (2 : Int).toNat = 2 from rfl, show (3 : Int).toNat = 3 from rfl]
  omega

/-- What a Next tells. -/
def nextA (l : By) : ByteArray × Int × Int := (mk (nextR l).1, ((nextR l).2.1 : Int), ((nextR l).2.2 : Int))

theorem E_Next (l : By) (hl : l.length ≤ 140737488351232) : Ev (fun k => record_Next.f k (mk l)) (nextA l) := by
  unfold record_Next.f nextA nextR
  rw [mk_size]
  by_cases h4 : l.length < 4
  · simp only [if_pos (show (l.length : Int) < 4 by omega), if_pos h4]
    exact Ev.now _
  have hn := number_f l (by omega)
  have hlt := num4_lt l
  generalize num4 l = n at hn hlt ⊢
  rw [hn]
  simp only [if_neg (show ¬ (l.length : Int) < 4 by omega), if_neg h4, bindS]
  by_cases hm : 4096 < n
  · simp only [if_pos (show (n : Int) > 4096 by omega), if_pos hm]
    exact Ev.now _
  have w1 : wrap64 (8 + wrap64 (n : Int)) = ((8 + n : Nat) : Int) := by
    rw [w64 (n := (n : Int)) (by omega) (by omega), w64 (by omega) (by omega)]
    omega
  simp only [if_neg (show ¬ (n : Int) > 4096 by omega), if_neg hm, w1]
  by_cases h8 : l.length < 8 + n
  · simp only [if_pos (show (l.length : Int) < ((8 + n : Nat) : Int) by omega), if_pos h8]
    exact Ev.now _
  simp only [if_neg (show ¬ (l.length : Int) < ((8 + n : Nat) : Int) by omega), if_neg h8, if_pos (show (8 : Int) ≤ ((8 + n : Nat) : Int) by omega), if_pos (show ((8 + n : Nat) : Int) ≤ (l.length : Int) by omega), if_pos (show (4 : Int) ≤ (l.length : Int) by omega)]
  rw [mk_extract, mk_extract, mk_extract]
  simp only [Int.toNat_natCast, Nat.add_sub_cancel_left, List.drop_zero, Nat.sub_zero]
  have hq := number_f ((l.drop 4).take (l.length - 4)) (by rw [List.length_take, List.length_drop]; omega)
  rw [List.take_of_length_le (l := l.drop 4) (by rw [List.length_drop]; omega)] at hq ⊢
  generalize num4 (l.drop 4) = q at hq ⊢
  refine Ev.bind (a := ((crc (BitVec.allOnes 32) (l.take 4)).toNat : Int)) (by simpa only [all_int] using E_more (BitVec.allOnes 32) (l.take 4) (by rw [List.length_take]; omega)) ?_
  refine Ev.bind (E_more _ ((l.drop 8).take n) (by rw [List.length_take, List.length_drop]; omega)) ?_
  rw [hq, Option.bind_some, not_int, ← crc_append]
  by_cases he : (sum (l.take 4 ++ (l.drop 8).take n)).toNat = q
  · rw [if_pos (by unfold sum at he; exact_mod_cast he), if_pos he]
    exact Ev.now _
  · rw [if_neg (by intro h; apply he; unfold sum; exact_mod_cast h), if_neg he]
    exact Ev.now _

/-- What a Prefix tells. -/
def preA (l : By) : List ByteArray × Int := ((pre l).1.map mk, ((pre l).2 : Int))

theorem pre_count (d : Nat) : ∀ (l : By), l.length = d → (pre l).2 ≤ l.length ∧ (pre l).1.length ≤ (pre l).2 := by
  induction d using Nat.strongRecOn with
  | _ d ih =>
    intro l h
    by_cases h0 : (nextR l).2.2 = 0
    · obtain ⟨_, h2, h3, _⟩ := nextR_ok h0
      have := ih (l.drop (nextR l).2.1).length (by rw [List.length_drop]; omega) _ rfl
      rw [List.length_drop] at this
      rw [pre_ok h0]
      simp only [List.length_cons]
      omega
    · rw [pre_other h0]
      simp

theorem E_pre0 (l : By) (hl : l.length ≤ 100000) (d : Nat) : ∀ (i : Nat) (out : List ByteArray), l.length - i = d → i ≤ l.length → out.length + d ≤ 100000 →
    Ev (fun k => record_Prefix.l0 k (mk l) out (i : Int)) (out ++ (preA (l.drop i)).1, (i : Int) + (preA (l.drop i)).2) := by
  induction d using Nat.strongRecOn with
  | _ d ih =>
    intro i out hd hi ho
    refine Ev.step (f := fun k => _) (fun k => by rw [record_Prefix.l0]) ?_
    simp only [mk_size, if_pos (show (0 : Int) ≤ (i : Int) by omega), if_pos (show (i : Int) ≤ (l.length : Int) by omega), Int.toNat_natCast, mk_extract]
    rw [List.take_of_length_le (l := l.drop i) (by rw [List.length_drop]; omega)]
    refine Ev.bind (E_Next (l.drop i) (by rw [List.length_drop]; omega)) ?_
    unfold nextA preA
    by_cases h0 : (nextR (l.drop i)).2.2 = 0
    · obtain ⟨_, h2, h3, _⟩ := nextR_ok h0
      rw [List.length_drop] at h3
      rw [pre_ok h0]
      simp only [h0, if_pos (show ((0 : Nat) : Int) = 0 from rfl), if_pos (show out.length < 8796093022208 by omega)]
      rw [w64 (by omega) (by omega), show (i : Int) + ((nextR (l.drop i)).2.1 : Int) = ((i + (nextR (l.drop i)).2.1 : Nat) : Int) by omega]
      have := ih (l.length - (i + (nextR (l.drop i)).2.1)) (by omega) (i + (nextR (l.drop i)).2.1) (out ++ [mk (nextR (l.drop i)).1]) rfl (by omega) (by simp only [List.length_append, List.length_cons, List.length_nil]; omega)
      rw [← List.drop_drop] at this
      unfold preA at this
      simp only [List.append_assoc, List.cons_append, List.nil_append] at this
      simp only [List.map_cons]
      rw [show ((i : Int) + (((nextR (l.drop i)).2.1 + (pre ((l.drop i).drop (nextR (l.drop i)).2.1)).2 : Nat) : Int)) = ((i + (nextR (l.drop i)).2.1 : Nat) : Int) + ((pre ((l.drop i).drop (nextR (l.drop i)).2.1)).2 : Int) by omega]
      exact this
    · rw [pre_other h0]
      simp only [if_neg (show ¬ ((nextR (l.drop i)).2.2 : Int) = 0 by omega), List.map_nil, List.append_nil]
      rw [show (i : Int) + ((0 : Nat) : Int) = (i : Int) by omega]
      exact Ev.now _

theorem E_Prefix (l : By) (hl : l.length ≤ 100000) : Ev (fun k => record_Prefix.f k (mk l)) (preA l) := by
  have := E_pre0 l hl l.length 0 [] (by omega) (by omega) (by simpa using hl)
  unfold record_Prefix.f
  simpa using this

end Go.Proofs.Ytbihlbalmihbdaa.Fun
namespace Go.Proofs.Ytbihlbalmihbdaa.Wal

theorem tl_spec (keep first : Int) (m : Nat) : ∀ (at_ : Nat) (b : List Int) (e : Nat), e ≤ at_ → at_ + m = b.length →
    (tl keep first m at_ b e).1.length = b.length ∧ e ≤ (tl keep first m at_ b e).2 ∧ (tl keep first m at_ b e).2 ≤ b.length ∧ (tl keep first m at_ b e).1.take at_ = b.take at_ := by
  induction m with
  | zero =>
    intro at_ b e he hm
    rw [tl]
    exact ⟨rfl, Nat.le_refl _, by omega, rfl⟩
  | succ m ih =>
    intro at_ b e he hm
    rw [tl]
    by_cases hk : kp keep ((at_ : Int) / 64 - first) = true
    · rw [if_pos hk]
      obtain ⟨h1, h2, h3, h4⟩ := ih (at_ + 1) b (at_ + 1) (Nat.le_refl _) (by omega)
      refine ⟨h1, by omega, h3, ?_⟩
      have := congrArg (List.take at_) h4
      rwa [List.take_take, List.take_take, Nat.min_eq_left (by omega)] at this
    · rw [if_neg hk]
      obtain ⟨h1, h2, h3, h4⟩ := ih (at_ + 1) (b.set at_ 0) e (by omega) (by rw [List.length_set]; omega)
      rw [List.length_set] at h1 h3
      refine ⟨h1, h2, h3, ?_⟩
      have := congrArg (List.take at_) h4
      rw [List.take_take, List.take_take, Nat.min_eq_left (by omega)] at this
      rw [this, List.take_set_of_le (Nat.le_refl _)]

/-- Where no sector is kept the end stays. -/
theorem tl_none (keep first : Int) (m : Nat) : ∀ (at_ : Nat) (b : List Int) (e : Nat), (∀ i : Nat, at_ ≤ i → i < at_ + m → kp keep ((i : Int) / 64 - first) = false) → (tl keep first m at_ b e).2 = e := by
  induction m with
  | zero => intro at_ b e _; rw [tl]
  | succ m ih =>
    intro at_ b e h
    rw [tl, h at_ (Nat.le_refl _) (by omega), if_neg (by decide)]
    exact ih (at_ + 1) _ e (fun i h1 h2 => h i (by omega) (by omega))

/-- Where sectors are kept from the first on, without a gap, what is left is the beginning. -/
theorem tl_begin (keep first : Int) (m : Nat) : ∀ (at_ : Nat) (b : List Int) (e : Nat), e ≤ at_ → at_ + m = b.length →
    (∀ i j : Nat, at_ ≤ i → i ≤ j → j < b.length → kp keep ((j : Int) / 64 - first) = true → kp keep ((i : Int) / 64 - first) = true) → (kp keep ((at_ : Int) / 64 - first) = true → e = at_ ∨ True) →
    (tl keep first m at_ b e).1.take (tl keep first m at_ b e).2 = b.take (tl keep first m at_ b e).2 := by
  induction m with
  | zero => intro at_ b e _ _ _ _; rw [tl]
  | succ m ih =>
    intro at_ b e he hm hg _
    by_cases hk : kp keep ((at_ : Int) / 64 - first) = true
    · rw [tl, if_pos hk]
      exact ih (at_ + 1) b (at_ + 1) (Nat.le_refl _) (by omega) (fun i j h1 h2 h3 => hg i j (by omega) h2 h3) (fun _ => .inr trivial)
    · have hn : (tl keep first (m + 1) at_ b e).2 = e := tl_none keep first (m + 1) at_ b e (fun i h1 h2 => by
        cases h : kp keep ((i : Int) / 64 - first) with
        | false => rfl
        | true => exact absurd (hg at_ i (Nat.le_refl _) h1 (by omega) h) hk)
      obtain ⟨_, _, _, h4⟩ := tl_spec keep first (m + 1) at_ b e he hm
      rw [hn]
      have := congrArg (List.take e) h4
      rwa [List.take_take, List.take_take, Nat.min_eq_left he] at this
end Go.Proofs.Ytbihlbalmihbdaa.Wal
namespace Go.Proofs.Ytbihlbalmihbdaa.Wal
open Go.RowKit Go.Proofs.Ytbihlbalmihbdaa.PAll Go.Proofs.YtbihlbalmihbdaaW.PrintWords Go.Proofs.YtbihlbalmihbdaaW.PrintLast Go.Proofs.YtbihlbalmihbdaaW.PrintMore
set_option linter.unusedVariables false
set_option linter.unusedSimpArgs false

/-- A log at block a: its disk, its records, how many are sure; the row of its records is ok. -/
def Wl (w : World) (B : Nat) (ok : Nat → Prop) (a : Nat) (b : List Int) (sy : Int) (all : List ByteArray) (sure : Int) : Prop :=
  B ≤ a ∧ ∃ d v, w.heap[a]? = some (.cells #[.pointer (some ⟨d, 0, none⟩), v, .int .i64 sure] 67 (0, 0)) ∧ Kd.string.R 9 w B ok v all ∧ Dk w B d b sy
/-- A block that may be a log's. -/
def TW (ok : Nat → Prop) (w : World) (k : Nat) : Prop := (∃ cells q, w.heap[k]? = some (.cells cells q (0, 0)) ∧ (q = 5 ∨ q = 86 ∨ q = 67)) ∨ ok k
theorem TW.of_Ty {ok : Nat → Prop} {w : World} {k : Nat} (h : Ty w k) : TW ok w k := by
  obtain ⟨cells, q, hc, hq⟩ := h
  exact .inl ⟨cells, q, hc, hq.elim .inl (fun h => .inr (.inl h))⟩
theorem tw_blk {ok : Nat → Prop} {w : World} {a : Nat} {cells : Array Value} (h : w.heap[a]? = some (.cells cells 67 (0, 0))) : TW ok w a := .inl ⟨_, _, h, .inr (.inr rfl)⟩

set_option maxHeartbeats 8000000 in
set_option maxRecDepth 100000 in
theorem WNew (w : World) : Calls Try.prog 18 #[] w fun e w' => ∃ a : Nat, e = .returned (.pointer (some ⟨a, 0, none⟩)) ∧ Wl w' w.heap.size (fun k => w.heap.size ≤ k) a [] 0 [] 0 ∧ Below w.heap.size w w' := by
  have hu71 := Try.underlying86
  have HB := Aside0.mk (Below.refl w.heap.size w)
  go_enter Try.func18, Try.ntmps18
  go_wp2_with (first | ((with_reducible refine gate_callee (f := 29) rfl ?_); refine goesL_ (some 1) rfl rfl Try.func29 (by kernel_rfl) rfl #[] rfl (by (try simp only [List.map_toArray, List.map_cons, List.map_nil]); first | done | rfl) ?_; (with_reducible refine (New _).mono ?_); rintro e w2 ⟨g, rfl, hg, hb, hk⟩; have GE := Aside0.mk hg; have HB2 := Aside0.mk hb; have HK := Aside0.mk hk; clear hg hb hk; refine ⟨_, rfl, ?_⟩) | ((with_reducible refine gate_dst (N := 3) rfl ?_); refine box_event ?hg (N := 3) ?hd (cs := #[.pointer (some ⟨g, 0, none⟩), .slice none 0 0, .int .i64 0]) (t := 67) ?hr ?_; (case hd => rfl); (case hg => rfl); (case hr => first | (go_simp; done) | (go_simp; rfl)); intro a ha w3 hbox hb3; have GA := Aside0.mk ha; have HX := Aside0.mk hbox; have HB3 := Aside0.mk hb3; clear ha hbox hb3))
  go_ret
  exact ⟨a, rfl, ⟨by rw [GA.out]; exact HB2.out.size, g, _, HX.out, Kd.R_nil _ _ _ _ _, GE.out, _, blk_below HK.out HB3.out, Kd.R_nil _ _ _ _ _⟩, below_step HB2.out HB3.out⟩

theorem not_ty {w : World} {k q : Nat} {cells : Array Value} (h : w.heap[k]? = some (.cells cells q (0, 0))) (h5 : q ≠ 5) (h71 : q ≠ 86) : ¬ Ty w k := by
  rintro ⟨cells', q', hc, hq⟩
  rw [h] at hc
  injection hc with hc
  injection hc with _ hc
  subst hc
  exact hq.elim h5 h71
/-- A row of records stays where only a disk is written. -/
theorem R9_kept {w w' : World} {B : Nat} {ok : Nat → Prop} {v : Value} {xs : List ByteArray} (h : Kd.string.R 9 w B ok v xs) (hk : Kept w w' (Ty w)) : Kd.string.R 9 w' B ok v xs := by
  refine Kd.R_mono (Kd.R_move (Kd.R_bound h) (fun k h => ?_)) (fun _ h => h.1)
  obtain ⟨_, _, hlt, q, hq, cells, hc⟩ := h
  have hq9 : q = 9 := by simpa [Kd.string, Kd.scalar] using hq
  subst hq9
  exact hk.2 k hlt (not_ty hc (by decide) (by decide))

set_option maxHeartbeats 8000000 in
set_option maxRecDepth 100000 in
theorem WSync {w : World} {B : Nat} {ok : Nat → Prop} {a : Nat} {b : List Int} {sy : Int} {all : List ByteArray} {sure : Int} (L : Wl w B ok a b sy all sure) (hBw : B ≤ w.heap.size) : Calls Try.prog 19 #[.pointer (some ⟨a, 0, none⟩)] w fun e w' => e = .returned (.tuple #[]) ∧ Wl w' B ok a b (b.length : Int) all (all.length : Int) ∧ Below B w w' ∧ Kept w w' (TW ok w) := by
  obtain ⟨hB, d, v, ha, hr, D⟩ := L
  obtain ⟨A, c, rfl, hlc, hC⟩ := Kd.R_reads hr
  have c0 : w.cell? ⟨a, 0, none⟩ = some (.pointer (some ⟨d, 0, none⟩)) := (blk_cell ha 0).trans rfl
  go_enter Try.func19, Try.ntmps19
  go_wp2_with (first | ((with_reducible refine gate_callee (f := 30) rfl ?_); refine goesL_ (some 9) rfl rfl Try.func30 (by kernel_rfl) rfl #[.pointer (some ⟨d, 0, none⟩), .agg #[.int .i64 2, .string ⟨#[]⟩, .int .u64 0]] rfl (by (try simp only [List.map_toArray, List.map_cons, List.map_nil]); first | done | rfl) ?_; (with_reducible refine (DoSync D hBw _ _).mono ?_); rintro e w2 ⟨rfl, hD2, hB2, hK2⟩; refine ⟨_, rfl, ?_⟩; have ha2 := blk_kept ha hK2 (not_ty ha (by decide) (by decide)); have e1 : w2.cell? ⟨a, 1, none⟩ = some (.slice A all.length c) := (blk_cell ha2 1).trans rfl; have e2 : w2.cell? ⟨a, 2, none⟩ = some (.int .i64 sure) := (blk_cell ha2 2).trans rfl; have g2 : w2.frozen? ⟨a, 2, none⟩ = false := blk_frozen ha2 2; have HA2 := Aside0.mk ha2; have HD2 := Aside0.mk hD2; have HB2 := Aside0.mk hB2; have HK2 := Aside0.mk hK2; clear ha2 hD2 hB2 hK2))
  refine bodyPost_end (results_none rfl _ _ _) rfl ⟨rfl, ⟨hB, d, _, by simpa using blk_set HA2.out 2 _, Kd.R_set (R9_kept hr HK2.out) HA2.out (by decide) 2 _, ?_⟩, HB2.out.setCell hB _, (HK2.out.mono (fun k h => TW.of_Ty h)).setCell (.inl (tw_blk ha)) _⟩
  exact HD2.out.kept (Kept.setCell (Kept.refl _ (fun k => k = a)) (.inl rfl) _) (fun k h => by subst h; exact not_ty HA2.out (by decide) (by decide))
end Go.Proofs.Ytbihlbalmihbdaa.Wal
namespace Go.Proofs.Ytbihlbalmihbdaa.Wal
open Go.RowKit Go.Proofs.Ytbihlbalmihbdaa.PAll Go.Proofs.YtbihlbalmihbdaaW.PrintWords Go.Proofs.YtbihlbalmihbdaaW.PrintLast Go.Proofs.YtbihlbalmihbdaaW.PrintMore
set_option linter.unusedVariables false
set_option linter.unusedSimpArgs false

theorem R_empty (w : World) : Kd.string.R 9 (w.alloc (.cells #[] 9)) w.heap.size (fun k => w.heap.size ≤ k) (.slice (some ⟨w.heap.size, 0, none⟩) 0 0) [] :=
  Kd.R_of_own (h1 := fun _ => rfl) ⟨rfl, .inr ⟨w.heap.size, 0, #[], rfl, Nat.le_refl _, heap_alloc_new w _, Nat.le_refl _, by decide, rfl, rfl⟩⟩ (fun k hk => by simp [Value.ownBlock] at hk; omega)

set_option maxHeartbeats 8000000 in
set_option maxRecDepth 100000 in
theorem Clone0 (w : World) : Calls Try.prog 34 #[.slice none 0 0] w fun e w' => e = .returned (.slice none 0 0) ∧ w' = w := by
  have q := Lib.run_eql_slice_nil (P := Try.prog) w 52 9 none 0 0 0 0 Try.underlying52
  rw [show Option.isNone (none : Option Addr) = true from rfl] at q
  go_enter Try.func34, Try.ntmps34
  go_wp2
  go_ret
  exact ⟨rfl, rfl⟩

set_option maxHeartbeats 8000000 in
set_option maxRecDepth 100000 in
theorem Clone1 {w : World} {g c : Nat} {xs : List ByteArray} (hC : Kd.string.C w (some ⟨g, 0, none⟩) xs.length xs) (hl : xs.length ≤ 100000) : Calls Try.prog 34 #[.slice (some ⟨g, 0, none⟩) xs.length c] w fun e w' => ∃ v', e = .returned v' ∧ Kd.string.R 9 w' w.heap.size (fun k => w.heap.size ≤ k) v' xs ∧ Below w.heap.size w w' := by
  have q := Lib.run_eql_slice_nil (P := Try.prog) w 52 9 (some ⟨g, 0, none⟩) xs.length c 0 0 Try.underlying52
  rw [show Option.isNone (some (⟨g, 0, none⟩ : Addr)) = false from rfl] at q
  have HC := Aside0.mk hC
  clear hC
  go_enter Try.func34, Try.ntmps34
  go_wp2_with (first | ((with_reducible refine gate_builtin (b := .append) (xs := #[.tmp 5, .tmp 6]) rfl ?_); at_builtin; refine Kd.R_append_row Value.string ByteArray.empty (h1 := fun _ => rfl) (w0 := w) w.heap.size rfl (.tmp 5) (.tmp 6) 52 9 (.string ⟨#[]⟩) 16 rfl Try.underlying52 info9 rfl (by decide) (.slice (some ⟨w.heap.size, 0, none⟩) 0 0) [] xs (some ⟨g, 0, none⟩) xs.length c (fun k => w.heap.size ≤ k) rfl rfl ?aF (R_empty w) ?aR ?aB ?aS ?aL ?_; (case aF => intro k hk; exact Nat.le_trans (below_size (below_alloc (Below.refl _ _) _)) hk); (case aR => exact Kd.C_below HC.out (below_alloc (Below.refl _ _) _)); (case aB => exact below_alloc (Below.refl _ _) _); (case aS => exact (below_size (below_alloc (Below.refl _ _) _))); (case aL => simp; omega); intro v1 w1 hr1 hb1 hg1 hat1; have HR1 := Aside0.mk hr1; have HB1 := Aside0.mk hb1; clear hr1 hb1 hg1 hat1))
  go_ret
  exact ⟨_, rfl, HR1.out, HB1.out⟩
end Go.Proofs.Ytbihlbalmihbdaa.Wal
namespace Go.Proofs.Ytbihlbalmihbdaa.Wal
open Go.RowKit Go.Proofs.Ytbihlbalmihbdaa.PAll Go.Proofs.YtbihlbalmihbdaaW.PrintWords Go.Proofs.YtbihlbalmihbdaaW.PrintLast Go.Proofs.YtbihlbalmihbdaaW.PrintMore
set_option linter.unusedVariables false
set_option linter.unusedSimpArgs false

set_option maxHeartbeats 8000000 in
set_option maxRecDepth 100000 in
theorem WAll {w : World} {B : Nat} {ok : Nat → Prop} {a : Nat} {b : List Int} {sy : Int} {all : List ByteArray} {sure : Int} (L : Wl w B ok a b sy all sure) (hl : all.length ≤ 100000) : Calls Try.prog 21 #[.pointer (some ⟨a, 0, none⟩)] w fun e w' => ∃ v', e = .returned v' ∧ Kd.string.R 9 w' w.heap.size (fun k => w.heap.size ≤ k) v' all ∧ Below w.heap.size w w' := by
  obtain ⟨hB, d, v, ha, hr, D⟩ := L
  obtain ⟨A, c, rfl, hlc, hC⟩ := Kd.R_reads hr
  obtain ⟨inner, ho⟩ := Kd.R_own hr
  rcases ho.2 with ⟨hv, hn⟩ | ⟨g, cap, cur, hv, _⟩
  · have hx : all = [] := List.eq_nil_of_length_eq_zero hn
    subst hx
    rw [hv] at ha
    have c1 : w.cell? ⟨a, 1, none⟩ = some (.slice none 0 0) := (blk_cell ha 1).trans rfl
    go_enter Try.func21, Try.ntmps21
    go_wp2_with (first | ((with_reducible refine gate_callee (f := 34) rfl ?_); refine goesL_ (some 9) rfl rfl Try.func34 (by kernel_rfl) rfl #[.slice none 0 0] rfl (by (try simp only [List.map_toArray, List.map_cons, List.map_nil]); first | done | rfl) ?_; (with_reducible refine (Clone0 _).mono ?_); rintro e w2 ⟨rfl, rfl⟩; refine ⟨_, rfl, ?_⟩))
    go_ret
    exact ⟨_, rfl, Kd.R_nil _ _ _ _ _, Below.refl _ _⟩
  · injection hv with h1 h2 h3
    subst h1 h3
    have c1 : w.cell? ⟨a, 1, none⟩ = some (.slice (some ⟨g, 0, none⟩) all.length c) := (blk_cell ha 1).trans rfl
    have HC := Aside0.mk hC
    clear hC
    go_enter Try.func21, Try.ntmps21
    go_wp2_with (first | ((with_reducible refine gate_callee (f := 34) rfl ?_); refine goesL_ (some 9) rfl rfl Try.func34 (by kernel_rfl) rfl #[.slice (some ⟨g, 0, none⟩) all.length c] rfl (by (try simp only [List.map_toArray, List.map_cons, List.map_nil]); first | done | rfl) ?_; (with_reducible refine (Clone1 HC.out hl).mono ?_); rintro e w2 ⟨v2, rfl, hR2, hB2⟩; refine ⟨_, rfl, ?_⟩))
    go_ret
    exact ⟨_, rfl, hR2, hB2⟩

theorem wl_put {w : World} {a d : Nat} {v v' : Value} {sure : Int} (ha : w.heap[a]? = some (.cells #[.pointer (some ⟨d, 0, none⟩), v, .int .i64 sure] 67 (0, 0))) : (w.setCell ⟨a, 1, none⟩ v').heap[a]? = some (.cells #[.pointer (some ⟨d, 0, none⟩), v', .int .i64 sure] 67 (0, 0)) := by
  simpa using blk_set ha 1 v'

set_option maxHeartbeats 8000000 in
set_option maxRecDepth 100000 in
/-- A record behind all. -/
theorem WAppend {w : World} {B : Nat} {ok : Nat → Prop} {a : Nat} {b : List Int} {sy : Int} {all : List ByteArray} {sure : Int} (L : Wl w B ok a b sy all sure) (hBw : B ≤ w.heap.size) (hfr : ∀ k, w.heap.size ≤ k → ok k) (hl : all.length ≤ 100000) (K : Nat) (s f : ByteArray) (hf : record_Frame.f K s = some (f, 0)) (hfit : b.length + f.size ≤ 65536) :
    Calls Try.prog 26 #[.pointer (some ⟨a, 0, none⟩), .string s] w fun e w' => e = .returned (.int .i64 0) ∧ Wl w' B ok a (b ++ bytesOf f) sy (all ++ [s]) sure ∧ Below B w w' ∧ Kept w w' (TW ok w) := by
  obtain ⟨hB, d, v, ha, hr, D⟩ := L
  obtain ⟨A, c, rfl, hlc, hC⟩ := Kd.R_reads hr
  have HB := Aside0.mk (Below.refl w.heap.size w)
  go_enter Try.func26, Try.ntmps26
  go_wp2_with (first | ((with_reducible refine gate_callee (f := 37) rfl ?_); refine goesL_ (some 11) rfl rfl Try.func37 (by kernel_rfl) rfl #[.string s] rfl (by (try simp only [List.map_toArray, List.map_cons, List.map_nil]); first | done | rfl) ?_; (with_reducible refine (record_Frame.calls K s f 0 _ hf).mono ?_); rintro e w1 ⟨rfl, hb1⟩; refine ⟨_, rfl, ?_⟩; have c0 : w1.cell? ⟨a, 0, none⟩ = some (.pointer (some ⟨d, 0, none⟩)) := (blk_cell (blk_below ha hb1) 0).trans rfl; have HB1 := Aside0.mk hb1; clear hb1) | ((with_reducible refine gate_callee (f := 30) rfl ?_); refine goesL_ (some 23) rfl rfl Try.func30 (by kernel_rfl) rfl #[.pointer (some ⟨d, 0, none⟩), .agg #[.int .i64 1, .string f, .int .u64 0]] rfl (by (try simp only [List.map_toArray, List.map_cons, List.map_nil]); first | done | rfl) ?_; (with_reducible refine (DoWrite (D.below HB1.out) (Nat.le_trans hBw HB1.out.size) f 0 hfit).mono ?_); rintro e w2 ⟨rfl, hD2, hB2, hK2⟩; refine ⟨_, rfl, ?_⟩; have ha2 := blk_kept (blk_below ha HB1.out) hK2 (not_ty (blk_below ha HB1.out) (by decide) (by decide)); have e1 : w2.cell? ⟨a, 1, none⟩ = some (.slice A all.length c) := (blk_cell ha2 1).trans rfl; have HA2 := Aside0.mk ha2; have HD2 := Aside0.mk hD2; have HB2 := Aside0.mk hB2; have HK2 := Aside0.mk hK2; have HR2 := Aside0.mk (R9_kept (Kd.R_below hr HB1.out) hK2); clear ha2 hD2 hB2 hK2) | ((with_reducible refine gate_builtin (b := .append) (xs := #[.tmp 29, .tmp 31]) rfl ?_); at_builtin; refine Kd.R_append Kd.string (w0 := w) B rfl (.tmp 29) (.tmp 31) 52 9 (.string ⟨#[]⟩) 16 rfl Try.underlying52 info9 rfl (by decide) (by omega) (.slice A all.length c) all s [.string s] ok (fun _ => False) rfl rfl ?aP (fun _ hk => hk.elim) ?aF HR2.out ?aB ?aS ?aL ?_; (case aP => exact rfl); (case aF => exact fun k hk => hfr k (Nat.le_trans (Nat.le_trans HB1.out.size HB2.out.size) hk)); (case aB => exact (HB1.out.mono hBw).trans HB2.out); (case aS => exact Nat.le_trans hBw (Nat.le_trans HB1.out.size HB2.out.size)); (case aL => omega); intro v3 w3 hr3 hb3 hg3 hat3; obtain ⟨A3, k3, rfl⟩ := Kd.R_slice hr3; have ha3 := blk_grown HA2.out hg3 (Kd.R_ne HR2.out HA2.out (by decide)); have e3 : w3.cell? ⟨a, 1, none⟩ = some (.slice A all.length c) := (blk_cell ha3 1).trans rfl; have g3 : w3.frozen? ⟨a, 1, none⟩ = false := blk_frozen ha3 1; have HA3 := Aside0.mk ha3; have HR3 := Aside0.mk hr3; have HB3 := Aside0.mk hb3; have HG3 := Aside0.mk hg3; clear hr3 hb3 hg3 hat3 ha3))
  go_ret
  have hr4 := HR3.out
  rw [List.length_append, List.length_singleton] at hr4
  have k3 : Kept w w3 (TW ok w) := Kept.of_grown HG3.out ((Kept.of_below HB1.out (TW ok w)).then_ HK2.out (fun k t => (Ty.back HB1.out k t).imp TW.of_Ty id)) (fun k hk => .inl (.inr (hr.1 k hk)))
  have d3 : Dk w3 B d (b ++ bytesOf f) sy := HD2.out.kept (Kept.of_grown HG3.out (Kept.refl _ (fun k => (Value.slice A all.length c).ownBlock = some k)) (fun k hk => .inl hk)) (fun k hk => by
    obtain ⟨inner, ho⟩ := Kd.R_own HR2.out
    obtain ⟨cells, hc⟩ := own_typed ho k hk
    exact not_ty hc (by decide) (by decide))
  refine ⟨rfl, ⟨hB, d, _, wl_put HA3.out, Kd.R_set hr4 HA3.out (by decide) 1 _, ?_⟩, HB3.out.setCell hB _, k3.setCell (.inl (tw_blk ha)) _⟩
  exact d3.kept (Kept.setCell (Kept.refl _ (fun k => k = a)) (.inl rfl) _) (fun k h => by subst h; exact not_ty HA3.out (by decide) (by decide))
end Go.Proofs.Ytbihlbalmihbdaa.Wal
namespace Go.Proofs.Ytbihlbalmihbdaa.Wal
open Go.RowKit Go.Proofs.Ytbihlbalmihbdaa.PAll Go.Proofs.YtbihlbalmihbdaaW.PrintWords Go.Proofs.YtbihlbalmihbdaaW.PrintLast Go.Proofs.YtbihlbalmihbdaaW.PrintMore
set_option linter.unusedVariables false
set_option linter.unusedSimpArgs false

theorem Ty.back2 {w w2 : World} (hk : Kept w w2 (Ty w)) (k : Nat) (t : Ty w2 k) : Ty w k ∨ w.heap.size ≤ k := by
  by_cases hlt : k < w.heap.size
  · by_cases ht : Ty w k
    · exact .inl ht
    · obtain ⟨cells, q, hc, hq⟩ := t
      exact .inl ⟨cells, q, (hk.2 k hlt ht).symm.trans hc, hq⟩
  · exact .inr (by omega)
theorem Wl.below {w w' : World} {B : Nat} {ok : Nat → Prop} {a : Nat} {b : List Int} {sy : Int} {all : List ByteArray} {sure : Int} (L : Wl w B ok a b sy all sure) (hb : Below w.heap.size w w') : Wl w' B ok a b sy all sure := by
  obtain ⟨hB, d, v, ha, hr, D⟩ := L
  exact ⟨hB, d, v, blk_below ha hb, Kd.R_below hr hb, D.below hb⟩

set_option maxHeartbeats 8000000 in
set_option maxRecDepth 100000 in
theorem WAppendErr {w : World} (a K : Nat) (s f : ByteArray) (e1 : Int) (hf : record_Frame.f K s = some (f, e1)) (he : e1 ≠ 0) :
    Calls Try.prog 26 #[.pointer (some ⟨a, 0, none⟩), .string s] w fun e w' => e = .returned (.int .i64 e1) ∧ Below w.heap.size w w' := by
  have hb0 : (e1 != 0) = true := bne_iff_ne.mpr he
  go_enter Try.func26, Try.ntmps26
  go_wp2_with (first | ((with_reducible refine gate_callee (f := 37) rfl ?_); refine goesL_ (some 11) rfl rfl Try.func37 (by kernel_rfl) rfl #[.string s] rfl (by (try simp only [List.map_toArray, List.map_cons, List.map_nil]); first | done | rfl) ?_; (with_reducible refine (record_Frame.calls K s f e1 _ hf).mono ?_); rintro e w1 ⟨rfl, hb1⟩; refine ⟨_, rfl, ?_⟩; have HB1 := Aside0.mk hb1; clear hb1))
  go_ret
  exact ⟨rfl, HB1.out⟩

set_option maxHeartbeats 8000000 in
set_option maxRecDepth 100000 in
theorem WAppendFull {w : World} {B : Nat} {ok : Nat → Prop} {a : Nat} {b : List Int} {sy : Int} {all : List ByteArray} {sure : Int} (L : Wl w B ok a b sy all sure) (K : Nat) (s f : ByteArray) (hf : record_Frame.f K s = some (f, 0)) (hl : b.length ≤ 65536) (hfit : ¬ b.length + f.size ≤ 65536) :
    Calls Try.prog 26 #[.pointer (some ⟨a, 0, none⟩), .string s] w fun e w' => e = .returned (.int .i64 7) ∧ Below w.heap.size w w' := by
  obtain ⟨hB, d, v, ha, hr, D⟩ := L
  go_enter Try.func26, Try.ntmps26
  go_wp2_with (first | ((with_reducible refine gate_callee (f := 37) rfl ?_); refine goesL_ (some 11) rfl rfl Try.func37 (by kernel_rfl) rfl #[.string s] rfl (by (try simp only [List.map_toArray, List.map_cons, List.map_nil]); first | done | rfl) ?_; (with_reducible refine (record_Frame.calls K s f 0 _ hf).mono ?_); rintro e w1 ⟨rfl, hb1⟩; refine ⟨_, rfl, ?_⟩; have c0 : w1.cell? ⟨a, 0, none⟩ = some (.pointer (some ⟨d, 0, none⟩)) := (blk_cell (blk_below ha hb1) 0).trans rfl; have HB1 := Aside0.mk hb1; clear hb1) | ((with_reducible refine gate_callee (f := 30) rfl ?_); refine goesL_ (some 23) rfl rfl Try.func30 (by kernel_rfl) rfl #[.pointer (some ⟨d, 0, none⟩), .agg #[.int .i64 1, .string f, .int .u64 0]] rfl (by (try simp only [List.map_toArray, List.map_cons, List.map_nil]); first | done | rfl) ?_; (with_reducible refine (DoFull (D.below HB1.out) f 0 hl hfit).mono ?_); rintro e w2 ⟨rfl, hb2⟩; refine ⟨_, rfl, ?_⟩; have HB2 := Aside0.mk hb2; clear hb2))
  go_ret
  exact ⟨rfl, below_step HB1.out HB2.out⟩

set_option maxHeartbeats 8000000 in
set_option maxRecDepth 100000 in
/-- What a crash leaves of a log. -/
theorem WCrash {w : World} {B : Nat} {ok : Nat → Prop} {a : Nat} {b : List Int} {sy : Nat} {all : List ByteArray} {sure : Int} (L : Wl w B ok a b (sy : Int) all sure) (hBw : B ≤ w.heap.size) (hfr : ∀ k, w.heap.size ≤ k → ok k) (keep : Int) (hsl : sy ≤ b.length) (hl : b.length ≤ 65536) (hc : (crashL keep b sy).length ≤ 65536) (K : Nat) (l : List ByteArray) (n : Nat) (hn : n ≤ (crashL keep b sy).length) (hp : record_Prefix.f K (strOfNums (crashL keep b sy)) = some (l, (n : Int))) :
    Calls Try.prog 20 #[.pointer (some ⟨a, 0, none⟩), .int .u64 keep] w fun e w' => e = .returned (.tuple #[]) ∧ Wl w' B ok a ((crashL keep b sy).take n) (n : Int) l (l.length : Int) ∧ Below B w w' ∧ Kept w w' (TW ok w) := by
  obtain ⟨hB, d, v, ha, hr, D⟩ := L
  have c0 : w.cell? ⟨a, 0, none⟩ = some (.pointer (some ⟨d, 0, none⟩)) := (blk_cell ha 0).trans rfl
  go_enter Try.func20, Try.ntmps20
  go_wp2_with (first | ((with_reducible refine gate_callee (f := 30) rfl ?_); refine goesL_ (some 14) rfl rfl Try.func30 (by kernel_rfl) rfl #[.pointer (some ⟨d, 0, none⟩), .agg #[.int .i64 3, .string ⟨#[]⟩, .int .u64 keep]] rfl (by (try simp only [List.map_toArray, List.map_cons, List.map_nil]); first | done | rfl) ?_; (with_reducible refine (DoCrash D hBw _ keep hsl hl).mono ?_); rintro e w2 ⟨rfl, hD2, hB2, hK2⟩; refine ⟨_, rfl, ?_⟩; have ha2 := blk_kept ha hK2 (not_ty ha (by decide) (by decide)); have e2 : w2.cell? ⟨a, 0, none⟩ = some (.pointer (some ⟨d, 0, none⟩)) := (blk_cell ha2 0).trans rfl; have HA2 := Aside0.mk ha2; have HD2 := Aside0.mk hD2; have HB2 := Aside0.mk hB2; have HK2 := Aside0.mk hK2; clear ha2 hD2 hB2 hK2) | ((with_reducible refine gate_callee (f := 32) rfl ?_); refine goesL_ (some 20) rfl rfl Try.func32 (by kernel_rfl) rfl #[.pointer (some ⟨d, 0, none⟩)] rfl (by (try simp only [List.map_toArray, List.map_cons, List.map_nil]); first | done | rfl) ?_; (with_reducible refine (Text HD2.out).mono ?_); rintro e w3 ⟨rfl, hb3⟩; refine ⟨_, rfl, ?_⟩; have HB3 := Aside0.mk hb3; clear hb3) | ((with_reducible refine gate_callee (f := 31) rfl ?_); refine goesL_ (some 21) rfl rfl Try.func31 (by kernel_rfl) rfl #[.string (strOfNums (crashL keep b sy))] rfl (by (try simp only [List.map_toArray, List.map_cons, List.map_nil]); first | done | rfl) ?_; (with_reducible refine (record_Prefix.calls K _ l (n : Int) _ hp).mono ?_); rintro e w4 ⟨v4, rfl, hr4, hb4⟩; refine ⟨_, rfl, ?_⟩; obtain ⟨A4, k4, rfl⟩ := Kd.R_slice hr4; have ha4 := blk_below HA2.out (below_step HB3.out hb4); have e4 : w4.cell? ⟨a, 0, none⟩ = some (.pointer (some ⟨d, 0, none⟩)) := (blk_cell ha4 0).trans rfl; have HA4 := Aside0.mk ha4; have HR4 := Aside0.mk hr4; have HB4 := Aside0.mk hb4; clear ha4 hr4 hb4) | ((with_reducible refine gate_callee (f := 33) rfl ?_); refine goesL_ (some 29) rfl rfl Try.func33 (by kernel_rfl) rfl #[.pointer (some ⟨d, 0, none⟩), .int .i64 (n : Int)] rfl (by (try simp only [List.map_toArray, List.map_cons, List.map_nil]); first | done | rfl) ?_; (with_reducible refine (Cut (HD2.out.below (below_step HB3.out HB4.out)) (Nat.le_trans hBw (Nat.le_trans HB2.out.size (below_step HB3.out HB4.out).size)) n hn hc rfl).mono ?_); rintro e w5 ⟨rfl, hD5, hB5, hK5⟩; refine ⟨_, rfl, ?_⟩; have ha5 := blk_kept HA4.out hK5 (not_ty HA4.out (by decide) (by decide)); have e5 : w5.cell? ⟨a, 1, none⟩ = some v := (blk_cell ha5 1).trans rfl; have e6 : w5.cell? ⟨a, 2, none⟩ = some (.int .i64 sure) := (blk_cell ha5 2).trans rfl; have g5 : w5.frozen? ⟨a, 1, none⟩ = false := blk_frozen ha5 1; have g6 : w5.frozen? ⟨a, 2, none⟩ = false := blk_frozen ha5 2; have HA5 := Aside0.mk ha5; have HD5 := Aside0.mk hD5; have HB5 := Aside0.mk hB5; have HK5 := Aside0.mk hK5; have HR5 := Aside0.mk (R9_kept HR4.out hK5); clear ha5 hD5 hB5 hK5))
  have h3 : w.heap.size ≤ w3.heap.size := Nat.le_trans HB2.out.size HB3.out.size
  have h24 := below_step HB3.out HB4.out
  have hR : Kd.string.R 9 w5 B ok (.slice A4 l.length k4) l := Kd.R_lower (Kd.R_mono (Kd.R_bound HR5.out) (fun k hk => hfr k (Nat.le_trans h3 hk.2.1))) (Nat.le_trans hBw h3)
  have hb5 : Below B w w5 := (HB2.out.trans (h24.mono (Nat.le_trans hBw HB2.out.size))).trans HB5.out
  have k5 : Kept w w5 (TW ok w) := ((HK2.out.mono (fun k t => TW.of_Ty t)).below h24).then_ HK5.out (fun k t => by
    rcases Ty.back h24 k t with t | t
    · exact (Ty.back2 HK2.out k t).imp TW.of_Ty id
    · exact .inr (Nat.le_trans HB2.out.size t))
  refine bodyPost_end (results_none rfl _ _ _) rfl ⟨rfl, ⟨hB, d, _, by simpa using blk_set (wl_put HA5.out) 2 _, Kd.R_set (Kd.R_set hR HA5.out (by decide) 1 _) (wl_put HA5.out) (by decide) 2 _, ?_⟩, (hb5.setCell hB _).setCell hB _, (k5.setCell (.inl (tw_blk ha)) _).setCell (.inl (tw_blk ha)) _⟩
  exact HD5.out.kept (Kept.setCell (Kept.setCell (Kept.refl _ (fun k => k = a)) (.inl rfl) _) (.inl rfl) _) (fun k h => by subst h; exact not_ty HA5.out (by decide) (by decide))

/-! ### a log that is none -/
set_option maxHeartbeats 8000000 in
set_option maxRecDepth 100000 in
theorem NSync (w : World) : Calls Try.prog 19 #[.pointer none] w fun e w' => e = .returned (.tuple #[]) ∧ w' = w := by
  go_enter Try.func19, Try.ntmps19
  go_wp2
  exact bodyPost_end (results_none rfl _ _ _) rfl ⟨rfl, rfl⟩
set_option maxHeartbeats 8000000 in
set_option maxRecDepth 100000 in
theorem NCrash (w : World) (keep : Int) : Calls Try.prog 20 #[.pointer none, .int .u64 keep] w fun e w' => e = .returned (.tuple #[]) ∧ w' = w := by
  go_enter Try.func20, Try.ntmps20
  go_wp2
  exact bodyPost_ret (results_none rfl _ _ _) rfl ⟨rfl, rfl⟩
set_option maxHeartbeats 8000000 in
set_option maxRecDepth 100000 in
theorem NAppend (w : World) (s : ByteArray) : Calls Try.prog 26 #[.pointer none, .string s] w fun e w' => e = .returned (.int .i64 1) ∧ w' = w := by
  go_enter Try.func26, Try.ntmps26
  go_wp2
  go_ret
  exact ⟨rfl, rfl⟩
set_option maxHeartbeats 8000000 in
set_option maxRecDepth 100000 in
theorem NAll (w : World) : Calls Try.prog 21 #[.pointer none] w fun e w' => e = .returned (.slice none 0 0) ∧ w' = w := by
  go_enter Try.func21, Try.ntmps21
  go_wp2
  go_ret
  exact ⟨rfl, rfl⟩
end Go.Proofs.Ytbihlbalmihbdaa.Wal
namespace Go.Proofs.Ytbihlbalmihbdaa.Wal
open Go.RowKit Go.Proofs.Ytbihlbalmihbdaa.PAll Go.Proofs.YtbihlbalmihbdaaW.PrintWords Go.Proofs.YtbihlbalmihbdaaW.PrintLast Go.Proofs.YtbihlbalmihbdaaW.PrintMore SG Go.Proofs.Ytbihlbalmihbdaa.Fun

theorem bytesOf_app (a b : By) : bytesOf (mk a) ++ bytesOf (mk b) = bytesOf (mk (a ++ b)) := by simp [bytesOf, mk]
theorem bytesOf_len (a : By) : (bytesOf (mk a)).length = a.length := by simp [bytesOf, mk]
theorem str_bytesOf (a : By) : strOfNums (bytesOf (mk a)) = mk a := by
  rw [nums_mk]
  refine congrArg mk ?_
  simp only [bytesOf, mk_data, List.map_map]
  refine (List.map_congr_left (g := id) fun x _ => ?_).trans (List.map_id a)
  simp
theorem bytesOf_take (a : By) (n : Nat) : (bytesOf (mk a)).take n = bytesOf (mk (a.take n)) := by simp [bytesOf, mk, List.map_take]

theorem flat_count (ls : List By) : 8 * ls.length ≤ (flat ls).length := by
  induction ls with
  | nil => simp
  | cons x r ih => rw [flat_cons, List.length_append, frame_length, List.length_cons]; omega
theorem flat_take_le (ls : List By) (n : Nat) : (flat (ls.take n)).length ≤ (flat ls).length := by
  have h := congrArg List.length (flat_append (ls.take n) (ls.drop n))
  rw [List.take_append_drop, List.length_append] at h
  omega

/-- A log whose records are all, of which sure are. -/
def Wq (w : World) (B : Nat) (ok : Nat → Prop) (a : Nat) (all : List By) (sure : Nat) : Prop :=
  sure ≤ all.length ∧ (∀ x ∈ all, x.length ≤ 4096) ∧ (flat all).length ≤ 65536 ∧ Wl w B ok a (bytesOf (mk (flat all))) ((flat (all.take sure)).length : Int) (all.map mk) (sure : Int)

theorem Wq.below {w w' : World} {B : Nat} {ok : Nat → Prop} {a : Nat} {all : List By} {sure : Nat} (L : Wq w B ok a all sure) (hb : Below w.heap.size w w') : Wq w' B ok a all sure := ⟨L.1, L.2.1, L.2.2.1, L.2.2.2.below hb⟩
theorem Wq.count {w : World} {B : Nat} {ok : Nat → Prop} {a : Nat} {all : List By} {sure : Nat} (L : Wq w B ok a all sure) : (all.map mk).length ≤ 100000 := by
  have h1 := flat_count all
  have h2 := L.2.2.1
  rw [List.length_map]
  omega

theorem QNew (w : World) : Calls Try.prog 18 #[] w fun e w' => ∃ a : Nat, e = .returned (.pointer (some ⟨a, 0, none⟩)) ∧ Wq w' w.heap.size (fun k => w.heap.size ≤ k) a [] 0 ∧ Below w.heap.size w w' := by
  refine (WNew w).mono ?_
  rintro e w' ⟨a, rfl, h1, h2⟩
  exact ⟨a, rfl, ⟨Nat.le_refl _, by simp, by simp [flat_nil], h1⟩, h2⟩

theorem QSync {w : World} {B : Nat} {ok : Nat → Prop} {a : Nat} {all : List By} {sure : Nat} (L : Wq w B ok a all sure) (hBw : B ≤ w.heap.size) : Calls Try.prog 19 #[.pointer (some ⟨a, 0, none⟩)] w fun e w' => e = .returned (.tuple #[]) ∧ Wq w' B ok a all all.length ∧ Below B w w' ∧ Kept w w' (TW ok w) := by
  refine (WSync L.2.2.2 hBw).mono ?_
  rintro e w' ⟨rfl, h1, h2, h3⟩
  rw [bytesOf_len, List.length_map] at h1
  exact ⟨rfl, ⟨Nat.le_refl _, L.2.1, L.2.2.1, by rw [List.take_length]; exact h1⟩, h2, h3⟩

theorem QAll {w : World} {B : Nat} {ok : Nat → Prop} {a : Nat} {all : List By} {sure : Nat} (L : Wq w B ok a all sure) : Calls Try.prog 21 #[.pointer (some ⟨a, 0, none⟩)] w fun e w' => ∃ v', e = .returned v' ∧ Kd.string.R 9 w' w.heap.size (fun k => w.heap.size ≤ k) v' (all.map mk) ∧ Below w.heap.size w w' := WAll L.2.2.2 L.count

/-- What an append does: the answer, and the records then. -/
def appE (all : List By) (s : By) : Int := if 4096 < s.length then 2 else if (flat all).length + (8 + s.length) ≤ 65536 then 0 else 7
def appL (all : List By) (s : By) : List By := if appE all s = 0 then all ++ [s] else all

theorem QAppend {w : World} {B : Nat} {ok : Nat → Prop} {a : Nat} {all : List By} {sure : Nat} (L : Wq w B ok a all sure) (hBw : B ≤ w.heap.size) (hfr : ∀ k, w.heap.size ≤ k → ok k) (s : By) (hs : s.length ≤ 140737488351232) :
    Calls Try.prog 26 #[.pointer (some ⟨a, 0, none⟩), .string (mk s)] w fun e w' => e = .returned (.int .i64 (appE all s)) ∧ Wq w' B ok a (appL all s) sure ∧ Below B w w' ∧ Kept w w' (TW ok w) := by
  obtain ⟨K, hK⟩ := Ev.rounds (E_Frame s hs)
  unfold frameA at hK
  by_cases h1 : 4096 < s.length
  · rw [if_pos h1] at hK
    have e1 : appE all s = 2 := by unfold appE; rw [if_pos h1]
    have e2 : appL all s = all := by unfold appL; rw [e1, if_neg (by decide)]
    rw [e1, e2]
    refine (WAppendErr a K _ _ 2 hK (by decide)).mono ?_
    rintro e w' ⟨rfl, hb⟩
    exact ⟨rfl, L.below hb, hb.mono hBw, Kept.of_below hb _⟩
  rw [if_neg h1] at hK
  by_cases h2 : (flat all).length + (8 + s.length) ≤ 65536
  · have e1 : appE all s = 0 := by unfold appE; rw [if_neg h1, if_pos h2]
    have e2 : appL all s = all ++ [s] := by unfold appL; rw [e1, if_pos rfl]
    rw [e1, e2]
    refine (WAppend L.2.2.2 hBw hfr L.count K _ _ hK (by rw [bytesOf_len, mk_size, frame_length]; omega)).mono ?_
    rintro e w' ⟨rfl, h3, h4, h5⟩
    have hf : flat (all ++ [s]) = flat all ++ frame s := by rw [flat_append, flat_cons, flat_nil, List.append_nil]
    rw [bytesOf_app, ← hf] at h3
    refine ⟨rfl, ⟨by rw [List.length_append]; exact Nat.le_trans L.1 (Nat.le_add_right _ _), ?_, by rw [hf, List.length_append, frame_length]; exact h2, ?_⟩, h4, h5⟩
    · intro x hx
      rcases List.mem_append.1 hx with hx | hx
      · exact L.2.1 x hx
      · rw [List.mem_singleton.1 hx]; omega
    · rw [List.take_append_of_le_length L.1, List.map_append]
      exact h3
  · have e1 : appE all s = 7 := by unfold appE; rw [if_neg h1, if_neg h2]
    have e2 : appL all s = all := by unfold appL; rw [e1, if_neg (by decide)]
    rw [e1, e2]
    refine (WAppendFull L.2.2.2 K _ _ hK (by rw [bytesOf_len]; exact L.2.2.1) (by rw [bytesOf_len, mk_size, frame_length]; exact h2)).mono ?_
    rintro e w' ⟨rfl, hb⟩
    exact ⟨rfl, L.below hb, hb.mono hBw, Kept.of_below hb _⟩
end Go.Proofs.Ytbihlbalmihbdaa.Wal
namespace Go.Proofs.Ytbihlbalmihbdaa.Wal
open Go.RowKit Go.Proofs.Ytbihlbalmihbdaa.PAll Go.Proofs.YtbihlbalmihbdaaW.PrintWords Go.Proofs.YtbihlbalmihbdaaW.PrintLast Go.Proofs.YtbihlbalmihbdaaW.PrintMore SG Go.Proofs.Ytbihlbalmihbdaa.Fun

theorem bytesOf_set (l : By) (i : Nat) : (bytesOf (mk l)).set i 0 = bytesOf (mk (l.set i 0)) := by
  simp [bytesOf, mk, List.map_set]
theorem tl_bytes (keep first : Int) (m : Nat) : ∀ (at_ : Nat) (l : By) (e : Nat), ∃ l' : By, (tl keep first m at_ (bytesOf (mk l)) e).1 = bytesOf (mk l') := by
  induction m with
  | zero => intro at_ l e; exact ⟨l, by rw [tl]⟩
  | succ m ih =>
    intro at_ l e
    rw [tl]
    by_cases hk : kp keep ((at_ : Int) / 64 - first) = true
    · rw [if_pos hk]; exact ih _ _ _
    · rw [if_neg hk, bytesOf_set]; exact ih _ _ _
/-- A crash, on bytes. -/
def crB (keep : Int) (l : By) (sy : Nat) : By := (crashL keep (bytesOf (mk l)) sy).map fun i => UInt8.ofNat i.toNat
theorem back_bytes (l : By) : (bytesOf (mk l)).map (fun i => UInt8.ofNat i.toNat) = l := by
  simp [bytesOf, mk, List.map_map, Function.comp_def]
theorem crB_eq (keep : Int) (l : By) (sy : Nat) : crashL keep (bytesOf (mk l)) sy = bytesOf (mk (crB keep l sy)) := by
  obtain ⟨l', h⟩ := tl_bytes keep ((sy : Int) / 64) ((bytesOf (mk l)).length - sy) sy l sy
  unfold crB crashL
  rw [h, bytesOf_take, back_bytes]
theorem crB_spec (keep : Int) (l : By) (sy : Nat) (h : sy ≤ l.length) : sy ≤ (crB keep l sy).length ∧ (crB keep l sy).length ≤ l.length ∧ (crB keep l sy).take sy = l.take sy := by
  have e := crB_eq keep l sy
  obtain ⟨h1, h2, h3, h4⟩ := tl_spec keep ((sy : Int) / 64) ((bytesOf (mk l)).length - sy) sy (bytesOf (mk l)) sy (Nat.le_refl _) (by rw [bytesOf_len]; omega)
  have hl : (crB keep l sy).length = (tl keep ((sy : Int) / 64) ((bytesOf (mk l)).length - sy) sy (bytesOf (mk l)) sy).2 := by
    have := congrArg List.length e
    rw [bytesOf_len] at this
    rw [← this]
    unfold crashL
    rw [List.length_take, h1]
    exact Nat.min_eq_left h3
  have hbl := bytesOf_len l
  refine ⟨by omega, by omega, ?_⟩
  have ht := congrArg (List.take sy) e
  rw [bytesOf_take] at ht
  unfold crashL at ht
  rw [List.take_take, Nat.min_eq_left h2, h4, bytesOf_take] at ht
  rw [← back_bytes ((crB keep l sy).take sy), ← ht, back_bytes]

/-- The records behind a crash. -/
def crL (keep : Int) (all : List By) (sure : Nat) : List By := (pre (crB keep (flat all) (flat (all.take sure)).length)).1

set_option maxRecDepth 100000 in
theorem QCrash {w : World} {B : Nat} {ok : Nat → Prop} {a : Nat} {all : List By} {sure : Nat} (L : Wq w B ok a all sure) (hBw : B ≤ w.heap.size) (hfr : ∀ k, w.heap.size ≤ k → ok k) (keep : Int) :
    Calls Try.prog 20 #[.pointer (some ⟨a, 0, none⟩), .int .u64 keep] w fun e w' => e = .returned (.tuple #[]) ∧ Wq w' B ok a (crL keep all sure) (crL keep all sure).length ∧ Below B w w' ∧ Kept w w' (TW ok w) := by
  have hsy := flat_take_le all sure
  obtain ⟨s1, s2, s3⟩ := crB_spec keep (flat all) (flat (all.take sure)).length hsy
  have hL := L.2.2.1
  have hc := crB_eq keep (flat all) (flat (all.take sure)).length
  obtain ⟨p1, p2, p3⟩ := pre_flat _ (crB keep (flat all) (flat (all.take sure)).length) rfl
  obtain ⟨K, hK⟩ := Ev.rounds (E_Prefix (crB keep (flat all) (flat (all.take sure)).length) (by omega))
  unfold preA at hK
  refine (WCrash L.2.2.2 hBw hfr keep (by rw [bytesOf_len]; exact hsy) (by rw [bytesOf_len]; exact hL) (by rw [hc, bytesOf_len]; omega) K _ _ (by rw [hc, bytesOf_len]; exact p2) (by rw [hc, str_bytesOf]; exact hK)).mono ?_
  rintro e w' ⟨rfl, h1, h2, h3⟩
  rw [hc, bytesOf_take, ← p1, List.length_map] at h1
  have hn : (pre (crB keep (flat all) (flat (all.take sure)).length)).2 = (flat (crL keep all sure)).length := by
    unfold crL
    rw [p1, List.length_take]
    exact (Nat.min_eq_left p2).symm
  rw [hn] at h1
  exact ⟨rfl, ⟨Nat.le_refl _, p3, by rw [← hn]; omega, by rw [List.take_length]; exact h1⟩, h2, h3⟩

/-- What was sure is there, at the front. -/
theorem crL_sure (keep : Int) (all : List By) (sure : Nat) (h : ∀ x ∈ all, x.length ≤ 4096) : ∃ r, crL keep all sure = all.take sure ++ r := by
  obtain ⟨s1, s2, s3⟩ := crB_spec keep (flat all) (flat (all.take sure)).length (flat_take_le all sure)
  have hf : (flat all).take (flat (all.take sure)).length = flat (all.take sure) := by
    have := flat_append (all.take sure) (all.drop sure)
    rw [List.take_append_drop] at this
    rw [this, List.take_left]
  rw [hf] at s3
  have e : crB keep (flat all) (flat (all.take sure)).length = flat (all.take sure) ++ (crB keep (flat all) (flat (all.take sure)).length).drop (flat (all.take sure)).length := by
    conv => lhs; rw [← List.take_append_drop (flat (all.take sure)).length (crB keep (flat all) (flat (all.take sure)).length), s3]
  unfold crL
  rw [e, pre_append _ (fun x hx => h x (List.mem_of_mem_take hx))]
  exact ⟨_, rfl⟩
end Go.Proofs.Ytbihlbalmihbdaa.Wal
namespace Go.Proofs.Ytbihlbalmihbdaa.Wal
open Go.RowKit Go.Proofs.Ytbihlbalmihbdaa.PAll Go.Proofs.YtbihlbalmihbdaaW.PrintWords Go.Proofs.YtbihlbalmihbdaaW.PrintLast Go.Proofs.YtbihlbalmihbdaaW.PrintMore SG Go.Proofs.Ytbihlbalmihbdaa.Fun

theorem kp_zero (k : Int) : kp 0 k = false := by
  unfold kp
  rw [Int.zero_ediv]
  have : (Go.bits .and .u64 0 1 == 1) = false := by decide
  rw [this, Bool.and_false]

theorem crB_zero (l : By) (sy : Nat) (h : sy ≤ l.length) : crB 0 l sy = l.take sy := by
  obtain ⟨s1, s2, s3⟩ := crB_spec 0 l sy h
  have e := congrArg List.length (crB_eq 0 l sy)
  rw [bytesOf_len] at e
  unfold crashL at e
  rw [tl_none _ _ _ _ _ _ (fun i _ _ => kp_zero _), List.length_take] at e
  rw [← s3, List.take_of_length_le (by omega)]

/-- Where nothing is kept what was sure is left. -/
theorem crL_zero (all : List By) (sure : Nat) (h : ∀ x ∈ all, x.length ≤ 4096) : crL 0 all sure = all.take sure := by
  unfold crL
  rw [crB_zero _ _ (flat_take_le all sure)]
  have hf : (flat all).take (flat (all.take sure)).length = flat (all.take sure) := by
    have := flat_append (all.take sure) (all.drop sure)
    rw [List.take_append_drop] at this
    rw [this, List.take_left]
  have hp := pre_append (all.take sure) (fun x hx => h x (List.mem_of_mem_take hx)) []
  rw [List.append_nil] at hp
  rw [hf, hp]
  show all.take sure ++ (pre []).1 = _
  rw [pre_other (by decide), List.append_nil]
end Go.Proofs.Ytbihlbalmihbdaa.Wal
namespace SG
open Go

abbrev Bs := List UInt8

/-! Texts with their lengths ahead, by their document. -/
def text (l : Bs) : Bs := four l.length ++ l
def texts (ls : List Bs) : Bs := (ls.map text).flatten

theorem text_length (l : Bs) : (text l).length = 4 + l.length := by simp [text, four_length]
theorem texts_nil : texts [] = [] := rfl
theorem texts_cons (x : Bs) (r : List Bs) : texts (x :: r) = text x ++ texts r := rfl
theorem texts_append (a b : List Bs) : texts (a ++ b) = texts a ++ texts b := by simp [texts]

def readF : Nat → Bs → Option (List Bs)
  | 0, _ => none
  | f + 1, l => if l.length = 0 then some [] else if l.length < 4 then none else if l.length - 4 < num4 l then none else
      (readF f (l.drop (4 + num4 l))).map ((l.drop 4).take (num4 l) :: ·)

theorem readF_succ (f : Nat) (l : Bs) : readF (f + 1) l = if l.length = 0 then some [] else if l.length < 4 then none else if l.length - 4 < num4 l then none else
      (readF f (l.drop (4 + num4 l))).map ((l.drop 4).take (num4 l) :: ·) := by rw [readF]

theorem readF_more (f : Nat) : ∀ (l : Bs), l.length < f → ∀ g, l.length < g → readF f l = readF g l := by
  induction f with
  | zero => intro l h; omega
  | succ f ih =>
    intro l h g hg
    obtain ⟨g, rfl⟩ : ∃ m, g = m + 1 := ⟨g - 1, by omega⟩
    rw [readF_succ, readF_succ]
    by_cases h0 : l.length = 0
    · rw [if_pos h0, if_pos h0]
    rw [if_neg h0, if_neg h0]
    by_cases h4 : l.length < 4
    · rw [if_pos h4, if_pos h4]
    rw [if_neg h4, if_neg h4]
    by_cases hn : l.length - 4 < num4 l
    · rw [if_pos hn, if_pos hn]
    rw [if_neg hn, if_neg hn, ih (l.drop (4 + num4 l)) (by rw [List.length_drop]; omega) g (by rw [List.length_drop]; omega)]

/-- The texts of bytes, if they are some. -/
def readR (l : Bs) : Option (List Bs) := readF (l.length + 1) l

theorem readR_nil : readR [] = some [] := rfl
theorem readR_short {l : Bs} (h0 : l.length ≠ 0) (h4 : l.length < 4) : readR l = none := by
  unfold readR
  rw [readF_succ, if_neg h0, if_pos h4]
theorem readR_less {l : Bs} (h4 : ¬ l.length < 4) (hn : l.length - 4 < num4 l) : readR l = none := by
  unfold readR
  rw [readF_succ, if_neg (by omega), if_neg h4, if_pos hn]
theorem readR_more {l : Bs} (h4 : ¬ l.length < 4) (hn : ¬ l.length - 4 < num4 l) : readR l = (readR (l.drop (4 + num4 l))).map ((l.drop 4).take (num4 l) :: ·) := by
  have := readF_more l.length (l.drop (4 + num4 l)) (by rw [List.length_drop]; omega) ((l.drop (4 + num4 l)).length + 1) (by omega)
  unfold readR
  rw [readF_succ l.length l, if_neg (by omega), if_neg h4, if_neg hn, this]

/-- Bytes that are read are those texts' bytes. -/
theorem readR_back (d : Nat) : ∀ (l : Bs) (ls : List Bs), l.length = d → readR l = some ls → texts ls = l := by
  induction d using Nat.strongRecOn with
  | _ d ih =>
    intro l ls hd h
    by_cases h0 : l.length = 0
    · have : l = [] := List.eq_nil_of_length_eq_zero h0
      subst this
      rw [readR_nil] at h
      injection h with h
      subst h
      rfl
    by_cases h4 : l.length < 4
    · rw [readR_short h0 h4] at h
      cases h
    by_cases hn : l.length - 4 < num4 l
    · rw [readR_less h4 hn] at h
      cases h
    rw [readR_more h4 hn] at h
    cases hr : readR (l.drop (4 + num4 l)) with
    | none => rw [hr, Option.map_none] at h; cases h
    | some r =>
      rw [hr, Option.map_some] at h
      injection h with h
      subst h
      have := ih (l.drop (4 + num4 l)).length (by rw [List.length_drop]; omega) _ r rfl hr
      have hl : ((l.drop 4).take (num4 l)).length = num4 l := by rw [List.length_take, List.length_drop]; omega
      have e4 : four (num4 l) = l.take 4 := by rw [← num4_take l 4 (Nat.le_refl _)]; exact four_num4 _ (by rw [List.length_take]; omega)
      rw [texts_cons, this, text, hl, e4, List.append_assoc, ← List.drop_drop, List.take_append_drop, List.take_append_drop]

/-- Texts' bytes are read as those texts. -/
theorem readR_texts (ls : List Bs) (h : ∀ x ∈ ls, x.length < 4294967296) : readR (texts ls) = some ls := by
  induction ls with
  | nil => rfl
  | cons x r ih =>
    have hx := h x (by simp)
    have hn : num4 (texts (x :: r)) = x.length := by
      rw [texts_cons, text, List.append_assoc]
      exact num4_four _ hx _
    have hl : (texts (x :: r)).length = 4 + x.length + (texts r).length := by rw [texts_cons, List.length_append, text_length]
    have e1 : (texts (x :: r)).drop (4 + x.length) = texts r := by rw [texts_cons]; exact List.drop_left' (text_length x)
    have e2 : ((texts (x :: r)).drop 4).take x.length = x := by
      rw [texts_cons, text, List.append_assoc, List.drop_left' (four_length _)]
      exact List.take_left' rfl
    rw [readR_more (by omega) (by omega), hn, e1, ih (fun y hy => h y (by simp [hy])), e2, Option.map_some]

theorem texts_small (ls : List Bs) : ls.length ≤ (texts ls).length ∧ ∀ x ∈ ls, x.length ≤ (texts ls).length := by
  induction ls with
  | nil => exact ⟨Nat.le_refl _, by simp⟩
  | cons x r ih =>
    rw [texts_cons, List.length_append, text_length]
    refine ⟨by have := ih.1; simp only [List.length_cons]; omega, fun y hy => ?_⟩
    rcases List.mem_cons.1 hy with rfl | hy
    · omega
    · have := ih.2 y hy; omega

theorem readR_small {l : Bs} {ls : List Bs} (h : readR l = some ls) : ls.length ≤ l.length ∧ ∀ x ∈ ls, x.length ≤ l.length := by
  have e := readR_back l.length l ls rfl h
  have := texts_small ls
  rw [e] at this
  exact this

/-! Commands and words. -/
def okC (k e : Int) (n b : Nat) : Prop := ((k = 1 ∧ n = 0 ∧ b = 33) ∨ (k = 2 ∧ 1 ≤ n ∧ n ≤ 16 ∧ b ≤ 4096) ∨ (k = 3 ∧ n = 0 ∧ b = 0)) ∧ 0 ≤ e ∧ e ≤ 63
instance (k e : Int) (n b : Nat) : Decidable (okC k e n b) := by unfold okC; infer_instance
def okW (k f r v : Int) (n : Nat) : Prop := ((k = 1 ∧ -1 ≤ v ∧ v < r ∧ 1 ≤ n) ∨ ((k = 2 ∨ k = 3) ∧ v = 0)) ∧ 1 ≤ f ∧ f ≤ 7 ∧ 0 ≤ r ∧ r < 64 ∧ n ≤ 4096
instance (k f r v : Int) (n : Nat) : Decidable (okW k f r v n) := by unfold okW; infer_instance

/-- A number's byte. -/
def u8 (n : Int) : UInt8 := UInt8.ofNat (n % 256).toNat
theorem u8_toNat {n : Int} (h0 : 0 ≤ n) (h1 : n ≤ 255) : ((u8 n).toNat : Int) = n := by
  unfold u8
  rw [UInt8.toNat_ofNat']
  omega
theorem u8_of (x : UInt8) : u8 (x.toNat : Int) = x := by
  apply UInt8.toNat.inj
  have := x.toNat_lt
  unfold u8
  rw [UInt8.toNat_ofNat']
  omega
theorem byte_nums (n : Int) : strOfNums [n % 256] = mk [u8 n] := rfl

def cmdA (k e : Int) (n b : Bs) : ByteArray × Int := if okC k e n.length b.length then (mk (texts [[u8 k], [u8 e], n, b]), 0) else (mk [], 1)
def wordA (k f r v : Int) (x : Bs) : ByteArray × Int := if okW k f r v x.length then (mk (texts [[u8 k], [u8 f], [u8 r], [u8 (v + 1)], x]), 0) else (mk [], 1)

/-- A byte that stands alone. -/
def b0 (l : Bs) : Int := ((l.getD 0 0).toNat : Int)

def noC : Int × Int × ByteArray × ByteArray × Int := (0, 0, mk [], mk [], 3)
def noW : Int × Int × Int × Int × ByteArray × Int := (0, 0, 0, 0, mk [], 3)
def rcL : List Bs → Int × Int × ByteArray × ByteArray × Int
  | [a, b, n, d] => if a.length = 1 ∧ b.length = 1 ∧ okC (b0 a) (b0 b) n.length d.length then (b0 a, b0 b, mk n, mk d, 0) else noC
  | _ => noC
def rcA (l : Bs) : Int × Int × ByteArray × ByteArray × Int := match readR l with
  | some ls => rcL ls
  | none => noC
def rwL : List Bs → Int × Int × Int × Int × ByteArray × Int
  | [a, b, c, d, x] => if a.length = 1 ∧ b.length = 1 ∧ c.length = 1 ∧ d.length = 1 ∧ okW (b0 a) (b0 b) (b0 c) (b0 d - 1) x.length then (b0 a, b0 b, b0 c, b0 d - 1, mk x, 0) else noW
  | _ => noW
def rwA (l : Bs) : Int × Int × Int × Int × ByteArray × Int := match readR l with
  | some ls => rwL ls
  | none => noW

theorem rcA_some {l : Bs} {ls : List Bs} (h : readR l = some ls) : rcA l = rcL ls := by unfold rcA; rw [h]
theorem rcA_none {l : Bs} (h : readR l = none) : rcA l = noC := by unfold rcA; rw [h]
theorem rwA_some {l : Bs} {ls : List Bs} (h : readR l = some ls) : rwA l = rwL ls := by unfold rwA; rw [h]
theorem rwA_none {l : Bs} (h : readR l = none) : rwA l = noW := by unfold rwA; rw [h]
theorem rcL_4 (a b n d : Bs) : rcL [a, b, n, d] = if a.length = 1 ∧ b.length = 1 ∧ okC (b0 a) (b0 b) n.length d.length then (b0 a, b0 b, mk n, mk d, 0) else noC := by rw [rcL]
theorem rwL_5 (a b c d x : Bs) : rwL [a, b, c, d, x] = if a.length = 1 ∧ b.length = 1 ∧ c.length = 1 ∧ d.length = 1 ∧ okW (b0 a) (b0 b) (b0 c) (b0 d - 1) x.length then (b0 a, b0 b, b0 c, b0 d - 1, mk x, 0) else noW := by rw [rwL]
theorem rcL_no {ls : List Bs} (h : ls.length ≠ 4) : rcL ls = noC := by
  unfold rcL
  split
  · exact absurd rfl h
  · rfl
theorem rwL_no {ls : List Bs} (h : ls.length ≠ 5) : rwL ls = noW := by
  unfold rwL
  split
  · exact absurd rfl h
  · rfl
theorem of_4 {α : Type} {ls : List α} (h : ls.length = 4) : ∃ a b c d, ls = [a, b, c, d] := by
  match ls, h with
  | [a, b, c, d], _ => exact ⟨a, b, c, d, rfl⟩
theorem of_5 {α : Type} {ls : List α} (h : ls.length = 5) : ∃ a b c d e, ls = [a, b, c, d, e] := by
  match ls, h with
  | [a, b, c, d, e], _ => exact ⟨a, b, c, d, e, rfl⟩

theorem b0_u8 {n : Int} (h0 : 0 ≤ n) (h1 : n ≤ 255) : b0 [u8 n] = n := u8_toNat h0 h1
theorem one_of {l : Bs} (h : l.length = 1) : l = [u8 (b0 l)] := by
  match l, h with
  | [x], _ => exact congrArg (· :: []) (u8_of x).symm
theorem one_len (x : UInt8) : [x].length = 1 := rfl

theorem small4 {a b c d : Bs} (ha : a.length < 4294967296) (hb : b.length < 4294967296) (hc : c.length < 4294967296) (hd : d.length < 4294967296) : ∀ x ∈ [a, b, c, d], x.length < 4294967296 := by
  intro x hx
  simp only [List.mem_cons, List.not_mem_nil, or_false] at hx
  rcases hx with rfl | rfl | rfl | rfl <;> assumption
theorem small5 {a b c d e : Bs} (ha : a.length < 4294967296) (hb : b.length < 4294967296) (hc : c.length < 4294967296) (hd : d.length < 4294967296) (he : e.length < 4294967296) : ∀ x ∈ [a, b, c, d, e], x.length < 4294967296 := by
  intro x hx
  simp only [List.mem_cons, List.not_mem_nil, or_false] at hx
  rcases hx with rfl | rfl | rfl | rfl | rfl <;> assumption
theorem one_small (x : UInt8) : [x].length < 4294967296 := by rw [one_len]; decide

theorem okC_bounds {k e : Int} {n b : Nat} (h : okC k e n b) : 0 ≤ k ∧ k ≤ 255 ∧ 0 ≤ e ∧ e ≤ 255 ∧ n < 4294967296 ∧ b < 4294967296 := by
  unfold okC at h
  omega
theorem okW_bounds {k f r v : Int} {n : Nat} (h : okW k f r v n) : (0 ≤ k ∧ k ≤ 255) ∧ (0 ≤ f ∧ f ≤ 255) ∧ (0 ≤ r ∧ r ≤ 255) ∧ (0 ≤ v + 1 ∧ v + 1 ≤ 255) ∧ n < 4294967296 := by
  unfold okW at h
  omega

/-- A command's bytes are read as just that. -/
theorem rcA_cmd (k e : Int) (n b : Bs) (h : okC k e n.length b.length) : rcA (texts [[u8 k], [u8 e], n, b]) = (k, e, mk n, mk b, 0) := by
  obtain ⟨h1, h2, h3, h4, h5, h6⟩ := okC_bounds h
  rw [rcA_some (readR_texts _ (small4 (one_small _) (one_small _) h5 h6)), rcL_4, b0_u8 h1 h2, b0_u8 h3 h4, if_pos ⟨one_len _, one_len _, h⟩]

/-- Bytes that are read as a command are its. -/
theorem rcA_back {l : Bs} (h : (rcA l).2.2.2.2 = 0) : ∃ k e n b, rcA l = (k, e, mk n, mk b, 0) ∧ okC k e n.length b.length ∧ texts [[u8 k], [u8 e], n, b] = l := by
  cases hr : readR l with
  | none => rw [rcA_none hr] at h; exact absurd h (by decide)
  | some ls =>
    rw [rcA_some hr] at h ⊢
    by_cases hl : ls.length = 4
    · obtain ⟨a, b, n, d, rfl⟩ := of_4 hl
      rw [rcL_4] at h ⊢
      by_cases hc : a.length = 1 ∧ b.length = 1 ∧ okC (b0 a) (b0 b) n.length d.length
      · refine ⟨b0 a, b0 b, n, d, by rw [if_pos hc], hc.2.2, ?_⟩
        rw [← one_of hc.1, ← one_of hc.2.1]
        exact readR_back _ _ _ rfl hr
      · rw [if_neg hc] at h
        exact absurd h (by decide)
    · rw [rcL_no hl] at h
      exact absurd h (by decide)

theorem rwA_word (k f r v : Int) (x : Bs) (h : okW k f r v x.length) : rwA (texts [[u8 k], [u8 f], [u8 r], [u8 (v + 1)], x]) = (k, f, r, v, mk x, 0) := by
  obtain ⟨h1, h2, h3, h4, h5⟩ := okW_bounds h
  rw [rwA_some (readR_texts _ (small5 (one_small _) (one_small _) (one_small _) (one_small _) h5)), rwL_5, b0_u8 h1.1 h1.2, b0_u8 h2.1 h2.2, b0_u8 h3.1 h3.2, b0_u8 h4.1 h4.2, show v + 1 - 1 = v by omega, if_pos ⟨one_len _, one_len _, one_len _, one_len _, h⟩]

theorem rwA_back {l : Bs} (h : (rwA l).2.2.2.2.2 = 0) : ∃ k f r v x, rwA l = (k, f, r, v, mk x, 0) ∧ okW k f r v x.length ∧ texts [[u8 k], [u8 f], [u8 r], [u8 (v + 1)], x] = l := by
  cases hr : readR l with
  | none => rw [rwA_none hr] at h; exact absurd h (by decide)
  | some ls =>
    rw [rwA_some hr] at h ⊢
    by_cases hl : ls.length = 5
    · obtain ⟨a, b, c, d, x, rfl⟩ := of_5 hl
      rw [rwL_5] at h ⊢
      by_cases hc : a.length = 1 ∧ b.length = 1 ∧ c.length = 1 ∧ d.length = 1 ∧ okW (b0 a) (b0 b) (b0 c) (b0 d - 1) x.length
      · refine ⟨b0 a, b0 b, b0 c, b0 d - 1, x, by rw [if_pos hc], hc.2.2.2.2, ?_⟩
        rw [show b0 d - 1 + 1 = b0 d by omega, ← one_of hc.1, ← one_of hc.2.1, ← one_of hc.2.2.1, ← one_of hc.2.2.2.1]
        exact readR_back _ _ _ rfl hr
      · rw [if_neg hc] at h
        exact absurd h (by decide)
    · rw [rwL_no hl] at h
      exact absurd h (by decide)
end SG
namespace Go.Proofs.Ytbihlbalmihbdaa.Hlp
open Go.RowKit Go.Proofs.YtbihlbalmihbdaaW.PrintWords SG

/-- As a step that the kernel doesn't have to find. -/
theorem bindS {α β : Type} (a : α) (f : α → Option β) : (some a).bind f = f a := Eq.trans (Option.bind_some a f) (Eq.refl (f a))

theorem bt_mk (l : List UInt8) (i : Int) : bt (mk l) i = ((l.getD i.toNat 0).toNat : Int) := by
  unfold bt
  split
  · rename_i h
    have h' : i.toNat < l.length := by rw [mk_size] at h; exact h
    rw [List.getD_eq_getElem?_getD, List.getElem?_eq_getElem h']
    rfl
  · rename_i h
    have h' : l.length ≤ i.toNat := by rw [mk_size] at h; omega
    rw [List.getD_eq_getElem?_getD, List.getElem?_eq_none h']
    rfl

theorem bt_mk_range (l : List UInt8) (i : Int) : 0 ≤ bt (mk l) i ∧ bt (mk l) i ≤ 255 := by
  rw [bt_mk]
  have := (l.getD i.toNat 0).toNat_lt
  omega

theorem ex_mks (ls : List ByteArray) : ∃ l : List (List UInt8), ls = l.map mk := ⟨ls.map (·.data.toList), by rw [List.map_map]; exact (List.map_id ls).symm.trans (List.map_congr_left fun s _ => rfl)⟩

theorem rdOf_mk (ls : List (List UInt8)) (i : Nat) (h : i < ls.length) : rdOf ByteArray.empty (ls.map mk) (i : Int) = mk ls[i] := by
  simp [rdOf, List.getD_eq_getElem?_getD, h]

theorem bytesOf_app (a b : List UInt8) : bytesOf (mk a) ++ bytesOf (mk b) = bytesOf (mk (a ++ b)) := by simp [bytesOf, mk]

theorem str_bytesOf (a : List UInt8) : strOfNums (bytesOf (mk a)) = mk a := by
  rw [nums_mk]
  refine congrArg mk ?_
  simp only [bytesOf, mk_data, List.map_map]
  refine (List.map_congr_left (g := id) fun x _ => ?_).trans (List.map_id a)
  simp

theorem bytesOf_len (a : List UInt8) : (bytesOf (mk a)).length = a.length := by simp [bytesOf, mk]

theorem num_i64 (l : List UInt8) : Go.bits .or .i64 (Go.bits .or .i64 (Go.bits .or .i64 (wrap64 ((wrap64 (bt (mk l) 0)) * 16777216)) (wrap64 ((wrap64 (bt (mk l) 1)) * 65536))) (wrap64 ((wrap64 (bt (mk l) 2)) * 256))) (wrap64 (bt (mk l) 3)) = (num4 l : Int) := by
  rw [or4_i64 _ _ _ _ (bt_mk_range l 0) (bt_mk_range l 1) (bt_mk_range l 2) (bt_mk_range l 3)]
  simp only [bt_mk, num4]
  simp only [Int.toNat_zero, show (1 : Int).toNat = 1 from rfl, show (2 : Int).toNat = 2 from rfl, show (3 : Int).toNat = 3 from rfl]
  omega

/-- The same, at another place. -/
theorem num_i64_at (l : List UInt8) (i : Nat) : Go.bits .or .i64 (Go.bits .or .i64 (Go.bits .or .i64 (wrap64 ((wrap64 (bt (mk l) (i : Int))) * 16777216)) (wrap64 ((wrap64 (bt (mk l) ((i + 1 : Nat) : Int))) * 65536))) (wrap64 ((wrap64 (bt (mk l) ((i + 2 : Nat) : Int))) * 256))) (wrap64 (bt (mk l) ((i + 3 : Nat) : Int))) = (num4 (l.drop i) : Int) := by
  rw [or4_i64 _ _ _ _ (bt_mk_range l _) (bt_mk_range l _) (bt_mk_range l _) (bt_mk_range l _)]
  simp only [bt_mk, num4, Int.toNat_natCast, List.getD_eq_getElem?_getD, List.getElem?_drop, Nat.add_zero]
  omega

theorem w64_1 (i : Nat) (h : i ≤ 1000000000000000) : wrap64 ((i : Int) + 1) = ((i + 1 : Nat) : Int) := by rw [w64 (by omega) (by omega)]; omega
theorem w64_2 (i : Nat) (h : i ≤ 1000000000000000) : wrap64 ((i : Int) + 2) = ((i + 2 : Nat) : Int) := by rw [w64 (by omega) (by omega)]; omega
theorem w64_3 (i : Nat) (h : i ≤ 1000000000000000) : wrap64 ((i : Int) + 3) = ((i + 3 : Nat) : Int) := by rw [w64 (by omega) (by omega)]; omega
theorem w64_4 (i : Nat) (h : i ≤ 1000000000000000) : wrap64 ((i : Int) + 4) = ((i + 4 : Nat) : Int) := by rw [w64 (by omega) (by omega)]; omega
theorem w64_add (i j : Nat) (h : i ≤ 1000000000000000) (k : j ≤ 1000000000000000) : wrap64 ((i : Int) + (j : Int)) = ((i + j : Nat) : Int) := by rw [w64 (by omega) (by omega)]; omega
theorem w64_sub (i j : Nat) (h : j ≤ i) (k : i ≤ 1000000000000000) : wrap64 ((i : Int) - (j : Int)) = ((i - j : Nat) : Int) := by rw [w64 (by omega) (by omega)]; omega

theorem roundsE {α : Type} {g : Nat → Option α} {r : α} (h : Ev g r) : ∃ k, g k = some r := by
  obtain ⟨K, h⟩ := h
  exact ⟨K, h K (Nat.le_refl _)⟩
theorem nowE {α : Type} (r : α) : Ev (fun _ => some r) r := ⟨0, fun _ _ => rfl⟩
theorem ofE {α : Type} {g : Nat → Option α} {r : α} (hg : ∀ k, LeO (g k) (g (k + 1))) {k : Nat} (h : g k = some r) : Ev g r := by
  refine ⟨k, fun n hn => ?_⟩
  induction n with
  | zero => rw [show k = 0 by omega] at h; exact h
  | succ n ih =>
    by_cases e : k = n + 1
    · rw [← e]; exact h
    · exact hg n r (ih (by omega))

end Go.Proofs.Ytbihlbalmihbdaa.Hlp
namespace Go.Proofs.Ytbihlbalmihbdaa.WFun
open Go.RowKit Go.Proofs.Ytbihlbalmihbdaa.PAll Go.Proofs.YtbihlbalmihbdaaW.PrintWords SG Go.Proofs.Ytbihlbalmihbdaa.Hlp

theorem text_f (l : Bs) (hl : l.length ≤ 140737488351232) : wire_Text.f (mk l) = some (mk (text l)) := by
  unfold wire_Text.f
  rw [mk_size, bindS, four_nums, mk_append, mk_size, four_length, if_pos (by omega)]
  rfl

theorem E_texts0 (ls : List Bs) (hn : ls.length ≤ 100000) (hs : ∀ x ∈ ls, x.length ≤ 100000) (d : Nat) : ∀ (i : Nat) (acc : Bs), ls.length - i = d → acc.length ≤ i * 200000 → i ≤ ls.length →
    Ev (fun k => wire_Texts.l0 k (bytesOf (mk acc)) (ls.map mk) (ls.length : Int) (i : Int)) (mk (acc ++ texts (ls.drop i))) := by
  induction d with
  | zero =>
    intro i acc hd ha hi
    refine Ev.step (f := fun k => _) (fun k => by rw [wire_Texts.l0]) ?_
    simp only [if_neg (show ¬ (i : Int) < (ls.length : Int) by omega)]
    rw [List.drop_eq_nil_of_le (by omega), str_bytesOf, texts_nil, List.append_nil]
    exact nowE _
  | succ d ih =>
    intro i acc hd ha hi'
    have hi : i < ls.length := by omega
    have hx := hs ls[i] (List.getElem_mem hi)
    have hb : acc.length + (text ls[i]).length ≤ (i + 1) * 200000 := by rw [text_length]; omega
    have hb2 : acc.length + (text ls[i]).length < 140737488355328 := by omega
    refine Ev.step (f := fun k => _) (fun k => by rw [wire_Texts.l0]) ?_
    simp only [if_pos (show (i : Int) < (ls.length : Int) by omega), if_pos (show 0 ≤ (i : Int) by omega), List.length_map]
    rw [rdOf_mk ls i hi, List.drop_eq_getElem_cons hi, text_f _ (by omega), texts_cons]
    simp only [bindS, bytesOf_len, mk_size, if_pos hb2]
    rw [bytesOf_app, w64 (by omega) (by omega), show (i : Int) + 1 = ((i + 1 : Nat) : Int) by omega, ← List.append_assoc]
    exact ih (i + 1) _ (by omega) (by rw [List.length_append]; exact hb) (by omega)

theorem E_Texts (ls : List Bs) (hn : ls.length ≤ 100000) (hs : ∀ x ∈ ls, x.length ≤ 100000) : Ev (fun k => wire_Texts.f k (ls.map mk)) (mk (texts ls)) := by
  have := E_texts0 ls hn hs ls.length 0 [] (by omega) (by simp) (by omega)
  unfold wire_Texts.f
  rw [List.length_map]
  exact this

theorem next_f (l : Bs) (hl : l.length ≤ 140737488351232) : wire_next.f (mk l) = some (if l.length < 4 then (mk [], mk [], false) else if l.length - 4 < num4 l then (mk [], mk [], false) else (mk ((l.drop 4).take (num4 l)), mk (l.drop (4 + num4 l)), true)) := by
  unfold wire_next.f
  rw [mk_size]
  by_cases h4 : l.length < 4
  · rw [if_pos (show (l.length : Int) < 4 by omega), if_pos h4]
    rfl
  rw [num_i64, if_neg (show ¬ (l.length : Int) < 4 by omega), if_neg h4, if_pos (show (0 : Int) < (l.length : Int) by omega), if_pos (show (1 : Int) < (l.length : Int) by omega), if_pos (show (2 : Int) < (l.length : Int) by omega), if_pos (show (3 : Int) < (l.length : Int) by omega), if_pos (show (4 : Int) ≤ (l.length : Int) by omega)]
  generalize num4 l = n
  rw [mk_extract, List.take_of_length_le (l := l.drop 4) (by rw [List.length_drop]; omega), mk_size, List.length_drop]
  by_cases hn : l.length - 4 < n
  · rw [if_pos (show ((l.length - 4 : Nat) : Int) < (n : Int) by omega), if_pos hn]
    rfl
  rw [if_neg (show ¬ ((l.length - 4 : Nat) : Int) < (n : Int) by omega), if_neg hn, if_pos (show 0 ≤ (n : Int) by omega), if_pos (show (n : Int) ≤ ((l.length - 4 : Nat) : Int) by omega), mk_extract, mk_extract, Int.toNat_natCast, List.drop_zero, Nat.sub_zero, List.drop_drop, List.take_of_length_le (l := l.drop (4 + n)) (by rw [List.length_drop]; omega)]

/-- What a Read tells. -/
def readO (out : List ByteArray) (o : Option (List Bs)) : List ByteArray × Int := match o with
  | some ls => (out ++ ls.map mk, 0)
  | none => ([], 3)
theorem readO_some (out : List ByteArray) (ls : List Bs) : readO out (some ls) = (out ++ ls.map mk, 0) := rfl
theorem readO_none (out : List ByteArray) : readO out none = ([], 3) := rfl
theorem readO_cons (out : List ByteArray) (x : Bs) (o : Option (List Bs)) : readO out (o.map (x :: ·)) = readO (out ++ [mk x]) o := by
  cases o with
  | none => rfl
  | some ls => rw [Option.map_some, readO_some, readO_some, List.map_cons, List.append_assoc]; rfl

theorem E_read0 (d : Nat) : ∀ (l : Bs) (out : List ByteArray), l.length = d → l.length ≤ 1000000 → out.length + l.length ≤ 1000000 → Ev (fun k => wire_Read.l0 k (mk l) out) (readO out (readR l)) := by
  induction d using Nat.strongRecOn with
  | _ d ih =>
    intro l out hd hl ho
    refine Ev.step (f := fun k => _) (fun k => by rw [wire_Read.l0]) ?_
    rw [mk_toList]
    by_cases h0 : l = []
    · subst h0
      simp only [if_true]
      rw [readR_nil, readO_some, List.map_nil, List.append_nil]
      exact nowE _
    have hpos : l.length ≠ 0 := fun h => h0 (List.eq_nil_of_length_eq_zero h)
    rw [next_f l (by omega)]
    simp only [if_neg h0, bindS]
    by_cases h4 : l.length < 4
    · rw [readR_short hpos h4, readO_none]
      simp only [if_pos h4, if_neg (show ¬ false = true by decide)]
      exact nowE _
    by_cases hn : l.length - 4 < num4 l
    · rw [readR_less h4 hn, readO_none]
      simp only [if_neg h4, if_pos hn, if_neg (show ¬ false = true by decide)]
      exact nowE _
    rw [readR_more h4 hn, readO_cons]
    simp only [if_neg h4, if_neg hn, if_true, if_pos (show out.length < 8796093022208 by omega)]
    exact ih (l.drop (4 + num4 l)).length (by rw [List.length_drop]; omega) _ _ rfl (by rw [List.length_drop]; omega) (by simp only [List.length_drop, List.length_append, List.length_cons, List.length_nil]; omega)

theorem E_Read (l : Bs) (hl : l.length ≤ 1000000) : Ev (fun k => wire_Read.f k (mk l)) (readO [] (readR l)) := by
  have := E_read0 l.length l [] rfl hl (by simpa using hl)
  unfold wire_Read.f
  exact this

end Go.Proofs.Ytbihlbalmihbdaa.WFun
namespace Go.Proofs.Ytbihlbalmihbdaa.WFun
open Go.RowKit Go.Proofs.Ytbihlbalmihbdaa.PAll Go.Proofs.YtbihlbalmihbdaaW.PrintWords SG Go.Proofs.Ytbihlbalmihbdaa.Hlp

theorem byte1_f (n : Int) : wire_byte1.f n = some (mk [u8 n]) := by
  unfold wire_byte1.f
  rw [byte_nums]

theorem b0_range (a : Bs) : 0 ≤ b0 a ∧ b0 a ≤ 255 := by
  unfold b0
  have := (a.getD 0 0).toNat_lt
  omega

theorem bt0 (a : Bs) : bt (mk a) 0 = b0 a := bt_mk a 0

theorem wb0 (a : Bs) : wrap64 (b0 a) = b0 a := by
  have := b0_range a
  exact w64 (by omega) (by omega)

theorem one_f (a : Bs) : wire_one.f (mk a) = some (if a.length = 1 then (b0 a, false) else (0, true)) := by
  unfold wire_one.f
  rw [mk_size]
  by_cases h : a.length = 1
  · rw [if_pos h, if_pos (by omega), if_pos (by omega), bt0, wb0]
  · rw [if_neg h, if_neg (by omega)]

theorem text1_f (a : Bs) : wire_text.f (mk a) = some (mk a, false) := rfl

def rdA (o : Option (List Bs)) (n : Nat) : List ByteArray × Bool := (o.elim [] (fun ls => ls.map mk), o.elim false (fun ls => decide (ls.length = n)))

theorem rdA_none (n : Nat) : rdA none n = ([], false) := rfl

theorem rdA_some (ls : List Bs) (n : Nat) : rdA (some ls) n = (ls.map mk, decide (ls.length = n)) := rfl

theorem E_read (l : Bs) (n : Nat) (hl : l.length ≤ 1000000) : Ev (fun q => wire_read.f q (mk l) (n : Int)) (rdA (readR l) n) := by
  unfold wire_read.f
  refine Ev.bind (E_Read l hl) ?_
  cases readR l with
  | none =>
    rw [readO_none, rdA_none]
    simp only [if_neg (show ¬ (3 : Int) = 0 by decide)]
    exact nowE _
  | some ls =>
    rw [readO_some, List.nil_append, rdA_some]
    simp only [if_true, List.length_map]
    rw [show ((ls.length : Int) == (n : Int)) = decide (ls.length = n) by rw [Bool.eq_iff_iff]; simp; omega]
    exact nowE _

end Go.Proofs.Ytbihlbalmihbdaa.WFun
namespace Go.Proofs.Ytbihlbalmihbdaa.WFun
open Go.RowKit Go.Proofs.Ytbihlbalmihbdaa.PAll Go.Proofs.YtbihlbalmihbdaaW.PrintWords SG Go.Proofs.Ytbihlbalmihbdaa.Hlp

theorem chkW_tail (k f r v : Int) (n : Nat) (hk : k = 2 ∨ k = 3) : (if v = 0 then (if f < 1 then (some 1) else (if f > 7 then (some 1) else (if r < 0 then (some 1) else (if r ≥ 64 then (some 1) else (if (n : Int) > 4096 then (some 1) else (some 0)))))) else (some 1)) = some (if okW k f r v n then (0 : Int) else 1) := by
  by_cases hc : okW k f r v n
  · rw [if_pos hc]
    unfold okW at hc
    repeat' split
    all_goals first | rfl | (exfalso; omega)
  · rw [if_neg hc]
    unfold okW at hc
    repeat' split
    all_goals first | rfl | (exfalso; omega)

theorem chkW_head (f r v : Int) (x : Bs) : (if v ≥ (-1) then (if v < r then (if (mk x).toList = ([] : List UInt8) then (some 1) else (if f < 1 then (some 1) else (if f > 7 then (some 1) else (if r < 0 then (some 1) else (if r ≥ 64 then (some 1) else (if ((mk x).size : Int) > 4096 then (some 1) else (some 0))))))) else (some 1)) else (some 1)) = some (if okW 1 f r v x.length then (0 : Int) else 1) := by
  simp only [mk_size, mk_toList, ← List.length_eq_zero_iff]
  by_cases hc : okW 1 f r v x.length
  · rw [if_pos hc]
    unfold okW at hc
    repeat' split
    all_goals first | rfl | (exfalso; omega)
  · rw [if_neg hc]
    unfold okW at hc
    repeat' split
    all_goals first | rfl | (exfalso; omega)

theorem okW_not {k f r v : Int} {n : Nat} (h1 : k ≠ 1) (h2 : k ≠ 2) (h3 : k ≠ 3) : ¬ okW k f r v n := by
  unfold okW
  omega

theorem E_chkW0 (k f r v : Int) (x : Bs) (hk : k = 2 ∨ k = 3) : Ev (fun q => wire_CheckWord.j0 q false true k f r v (mk x)) (if okW k f r v x.length then 0 else 1) := by
  refine Ev.step (f := fun k => _) (fun k => by rw [wire_CheckWord.j0]) ?_
  rw [mk_size]
  simp only [if_true]
  rw [chkW_tail k f r v x.length hk]
  exact nowE _

theorem E_chkW1 (k f r v : Int) (x : Bs) (h1 : k ≠ 1) (h2 : k ≠ 2) (h3 : k ≠ 3) : Ev (fun q => wire_CheckWord.j0 q false false k f r v (mk x)) (if okW k f r v x.length then 0 else 1) := by
  refine Ev.step (f := fun k => _) (fun k => by rw [wire_CheckWord.j0]) ?_
  simp only [if_neg (show ¬ false = true by decide)]
  rw [if_neg (okW_not h1 h2 h3)]
  exact nowE _

theorem E_chkW (k f r v : Int) (x : Bs) : Ev (fun q => wire_CheckWord.f q k f r v (mk x)) (if okW k f r v x.length then 0 else 1) := by
  unfold wire_CheckWord.f
  by_cases h1 : k = 1
  · subst h1
    simp only [if_true]
    rw [chkW_head]
    exact nowE _
  simp only [if_neg h1]
  by_cases h2 : k = 2
  · subst h2
    simp only [if_true, beq_self_eq_true]
    exact E_chkW0 2 f r v x (Or.inl rfl)
  simp only [if_neg h2]
  by_cases h3 : k = 3
  · subst h3
    simp only [beq_self_eq_true]
    exact E_chkW0 3 f r v x (Or.inr rfl)
  rw [beq_eq_false_iff_ne.mpr h3]
  exact E_chkW1 k f r v x h1 h2 h3

theorem wv1 {k f r v : Int} {n : Nat} (h : okW k f r v n) : wrap64 (v + 1) = v + 1 := by
  have hb := (okW_bounds h).2.2.2.1
  exact w64 (by omega) (by omega)

theorem E_Word (k f r v : Int) (x : Bs) (hx : x.length ≤ 100000) : Ev (fun q => wire_Word.f q k f r v (mk x)) (wordA k f r v x) := by
  unfold wire_Word.f wordA
  refine Ev.bind (E_chkW k f r v x) ?_
  by_cases h : okW k f r v x.length
  · simp only [if_pos h, if_true]
    rw [byte1_f, byte1_f, byte1_f, byte1_f, wv1 h]
    simp only [bindS]
    refine Ev.bind (E_Texts [[u8 k], [u8 f], [u8 r], [u8 (v + 1)], x] (by simp) ?_) (nowE _)
    intro y hy
    simp only [List.mem_cons, List.not_mem_nil, or_false] at hy
    rcases hy with rfl | rfl | rfl | rfl | rfl
    · rw [one_len]; omega
    · rw [one_len]; omega
    · rw [one_len]; omega
    · rw [one_len]; omega
    · exact hx
  · simp only [if_neg h, if_neg (show ¬ (1 : Int) = 0 by decide)]
    exact nowE _

theorem wm1 (a : Bs) : wrap64 (b0 a - 1) = b0 a - 1 := by
  have := b0_range a
  exact w64 (by omega) (by omega)

theorem E_ReadWord (l : Bs) (hl : l.length ≤ 1000000) : Ev (fun q => wire_ReadWord.f q (mk l)) (rwA l) := by
  unfold wire_ReadWord.f
  refine Ev.bind (E_read l 5 hl) ?_
  cases hr : readR l with
  | none =>
    rw [rwA_none hr, rdA_none]
    simp only [if_neg (show ¬ false = true by decide)]
    exact nowE _
  | some ls =>
    rw [rwA_some hr, rdA_some]
    by_cases h5 : ls.length = 5
    · obtain ⟨a, b, c, d, x, rfl⟩ := of_5 h5
      rw [rwL_5]
      have r0 : rdOf ByteArray.empty ([a, b, c, d, x].map mk) 0 = mk a := rfl
      have r1 : rdOf ByteArray.empty ([a, b, c, d, x].map mk) 1 = mk b := rfl
      have r2 : rdOf ByteArray.empty ([a, b, c, d, x].map mk) 2 = mk c := rfl
      have r3 : rdOf ByteArray.empty ([a, b, c, d, x].map mk) 3 = mk d := rfl
      have r4 : rdOf ByteArray.empty ([a, b, c, d, x].map mk) 4 = mk x := rfl
      have hlen : (([a, b, c, d, x].map mk).length : Int) = 5 := rfl
      rw [decide_eq_true h5, hlen, r0, r1, r2, r3, r4, one_f, one_f, one_f, one_f, text1_f]
      simp only [if_true, bindS, if_pos (show (0 : Int) < 5 by decide), if_pos (show (1 : Int) < 5 by decide), if_pos (show (2 : Int) < 5 by decide), if_pos (show (3 : Int) < 5 by decide), if_pos (show (4 : Int) < 5 by decide)]
      by_cases ha : a.length = 1
      · simp only [if_pos ha, if_neg (show ¬ false = true by decide)]
        by_cases hb : b.length = 1
        · simp only [if_pos hb, if_neg (show ¬ false = true by decide)]
          by_cases hc : c.length = 1
          · simp only [if_pos hc, if_neg (show ¬ false = true by decide)]
            by_cases hd : d.length = 1
            · simp only [if_pos hd, if_neg (show ¬ false = true by decide), wm1]
              refine Ev.bind (E_chkW _ _ _ _ x) ?_
              by_cases hk : okW (b0 a) (b0 b) (b0 c) (b0 d - 1) x.length
              · simp only [if_pos hk, if_true]
                rw [if_pos ⟨ha, hb, hc, hd, hk⟩]
                exact nowE _
              · simp only [if_neg hk, if_neg (show ¬ (1 : Int) = 0 by decide)]
                rw [if_neg (fun h => hk h.2.2.2.2)]
                exact nowE _
            · simp only [if_neg hd, if_true]
              rw [if_neg (fun h => hd h.2.2.2.1)]
              exact nowE _
          · simp only [if_neg hc, if_true]
            rw [if_neg (fun h => hc h.2.2.1)]
            exact nowE _
        · simp only [if_neg hb, if_true]
          rw [if_neg (fun h => hb h.2.1)]
          exact nowE _
      · simp only [if_neg ha, if_true]
        rw [if_neg (fun h => ha h.1)]
        exact nowE _
    · rw [rwL_no h5, decide_eq_false h5]
      simp only [if_neg (show ¬ false = true by decide)]
      exact nowE _

end Go.Proofs.Ytbihlbalmihbdaa.WFun
namespace Go.Proofs.Ytbihlbalmihbdaa.WFun
open Go.RowKit Go.Proofs.Ytbihlbalmihbdaa.PAll Go.Proofs.YtbihlbalmihbdaaW.PrintWords SG Go.Proofs.Ytbihlbalmihbdaa.Hlp

/-- A word that may be said. -/
def okT (t : S31) : Prop := (0 ≤ t.f0 ∧ t.f0 ≤ 64) ∧ okW t.f1.f0 t.f1.f1 t.f1.f2 t.f1.f3 t.f1.f4.toList.length
/-- A word's bytes, ahead of its height. -/
def recW (t : S31) : Bs := texts [[u8 t.f1.f0], [u8 t.f1.f1], [u8 t.f1.f2], [u8 (t.f1.f3 + 1)], t.f1.f4.toList]
/-- A word's record. -/
def recT (t : S31) : Bs := texts [[u8 t.f0], recW t]
theorem mk_back (s : ByteArray) : mk s.toList = s := by
  obtain ⟨y, rfl⟩ : ∃ y, s = mk y := ⟨s.data.toList, rfl⟩
  rw [mk_toList]
theorem recW_len {t : S31} (h : okT t) : (recW t).length ≤ 4200 := by
  obtain ⟨_, hw⟩ := h
  unfold okW at hw
  simp only [recW, texts_cons, texts_nil, List.length_append, text_length, List.length_cons, List.length_nil]
  omega
theorem recT_len {t : S31} (h : okT t) : (recT t).length ≤ 4300 := by
  have := recW_len h
  simp only [recT, texts_cons, texts_nil, List.length_append, text_length, List.length_cons, List.length_nil]
  omega
theorem E_chkT (t : S31) : ∃ K, wire_CheckWord.f K t.f1.f0 t.f1.f1 t.f1.f2 t.f1.f3 t.f1.f4 = some (if okW t.f1.f0 t.f1.f1 t.f1.f2 t.f1.f3 t.f1.f4.toList.length then 0 else 1) := by
  have h := E_chkW t.f1.f0 t.f1.f1 t.f1.f2 t.f1.f3 t.f1.f4.toList
  rw [mk_back] at h
  exact h.rounds
theorem E_rec {t : S31} (h : okT t) : ∃ K, diary_record.f K t.f0 t.f1.f0 t.f1.f1 t.f1.f2 t.f1.f3 t.f1.f4 = some (mk (recT t)) := by
  have hl := recW_len h
  have hw := h.2
  have e := E_Word t.f1.f0 t.f1.f1 t.f1.f2 t.f1.f3 t.f1.f4.toList (by unfold okW at hw; omega)
  rw [mk_back] at e
  unfold wordA at e
  rw [if_pos hw] at e
  refine Ev.rounds (g := fun K => diary_record.f K t.f0 t.f1.f0 t.f1.f1 t.f1.f2 t.f1.f3 t.f1.f4) ?_
  unfold diary_record.f
  refine Ev.bind e ?_
  rw [byte_nums]
  refine Ev.bind (E_Texts [[u8 t.f0], recW t] (by simp) ?_) (nowE _)
  intro y hy
  simp only [List.mem_cons, List.not_mem_nil, or_false] at hy
  rcases hy with rfl | rfl
  · rw [one_len]; omega
  · omega
def rdL : List Bs → S31 × Bool
  | [a, b] => if a.length = 1 then (⟨b0 a, ⟨(rwA b).1, (rwA b).2.1, (rwA b).2.2.1, (rwA b).2.2.2.1, (rwA b).2.2.2.2.1⟩⟩, (rwA b).2.2.2.2.2 == 0) else (z31, false)
  | _ => (z31, false)
/-- The word of a record. -/
def rdX (l : Bs) : S31 × Bool := (readR l).elim (z31, false) rdL
def tup (y : S31 × Bool) : Int × Int × Int × Int × Int × ByteArray × Bool := (y.1.f0, y.1.f1.f0, y.1.f1.f1, y.1.f1.f2, y.1.f1.f3, y.1.f1.f4, y.2)
theorem E_dr (l : Bs) (hl : l.length ≤ 1000000) : Ev (fun K => diary_read.f K (mk l)) (tup (rdX l)) := by
  unfold diary_read.f rdX
  refine Ev.bind (E_Read l hl) ?_
  cases hr : readR l with
  | none =>
    rw [readO_none]
    exact nowE _
  | some ls =>
    have hb := readR_back l.length l ls rfl hr
    rw [readO_some]
    match ls, hb with
    | [], _ => exact nowE _
    | [a], _ => exact nowE _
    | a :: b :: c :: r, _ =>
      have hlen : ¬ ((([] : List ByteArray) ++ (a :: b :: c :: r).map mk).length : Int) = 2 := by
        simp only [List.nil_append, List.length_map, List.length_cons]
        omega
      simp only [if_true, if_neg hlen]
      exact nowE _
    | [a, b], hb =>
      have hbl : b.length ≤ 1000000 := by
        have := congrArg List.length hb
        simp only [texts_cons, texts_nil, List.length_append, text_length, List.length_nil] at this
        omega
      have r0 : rdOf ByteArray.empty ([] ++ [a, b].map mk) 0 = mk a := rfl
      have r1 : rdOf ByteArray.empty ([] ++ [a, b].map mk) 1 = mk b := rfl
      have hlen : ((([] : List ByteArray) ++ [a, b].map mk).length : Int) = 2 := rfl
      rw [hlen, r0, r1, mk_size]
      show Ev _ (tup (rdL [a, b]))
      rw [rdL]
      by_cases ha : a.length = 1
      · rw [if_pos ha]
        simp only [if_true, if_pos (show (0 : Int) < 2 by decide), if_pos (show (1 : Int) < 2 by decide), ha, if_pos (show (0 : Int) < ((1 : Nat) : Int) by decide), if_pos (show ((1 : Nat) : Int) = 1 by decide)]
        refine Ev.bind (E_ReadWord b hbl) ?_
        rw [bt0, wb0]
        exact nowE _
      · rw [if_neg ha]
        simp only [if_true, if_pos (show (0 : Int) < 2 by decide), if_neg (show ¬ (a.length : Int) = 1 by omega)]
        exact nowE _
theorem rdX_rec {t : S31} (h : okT t) : rdX (recT t) = (t, true) := by
  have hl := recW_len h
  have hr : readR (recT t) = some [[u8 t.f0], recW t] := readR_texts _ (by
    intro y hy
    simp only [List.mem_cons, List.not_mem_nil, or_false] at hy
    rcases hy with rfl | rfl
    · exact one_small _
    · omega)
  unfold rdX
  rw [hr]
  show rdL [[u8 t.f0], recW t] = _
  rw [rdL, if_pos (one_len _), show rwA (recW t) = _ from rwA_word t.f1.f0 t.f1.f1 t.f1.f2 t.f1.f3 t.f1.f4.toList h.2, b0_u8 h.1.1 (by have := h.1.2; omega), mk_back]
  rfl
theorem rdX_ok {l : Bs} (h : (rdX l).2 = true) : (0 ≤ (rdX l).1.f0 ∧ (rdX l).1.f0 ≤ 255) ∧ okW (rdX l).1.f1.f0 (rdX l).1.f1.f1 (rdX l).1.f1.f2 (rdX l).1.f1.f3 (rdX l).1.f1.f4.toList.length := by
  unfold rdX at h ⊢
  cases hr : readR l with
  | none => rw [hr] at h; exact absurd h (by decide)
  | some ls =>
    rw [hr] at h
    change (rdL ls).2 = true at h
    show (0 ≤ (rdL ls).1.f0 ∧ (rdL ls).1.f0 ≤ 255) ∧ okW (rdL ls).1.f1.f0 (rdL ls).1.f1.f1 (rdL ls).1.f1.f2 (rdL ls).1.f1.f3 (rdL ls).1.f1.f4.toList.length
    match ls, h with
    | [], h => exact absurd h (by decide)
    | [a], h => exact absurd (show false = true from h) (by decide)
    | a :: b :: c :: r, h => exact absurd (show false = true from h) (by decide)
    | [a, b], h =>
      rw [rdL] at h ⊢
      by_cases ha : a.length = 1
      · rw [if_pos ha] at h ⊢
        obtain ⟨k, f, r, v, x, he, hw, _⟩ := rwA_back (l := b) (by simpa using h)
        rw [he]
        refine ⟨b0_range a, ?_⟩
        show okW k f r v (mk x).toList.length
        rw [mk_toList]
        exact hw
      · rw [if_neg ha] at h
        exact absurd h (by decide)
end Go.Proofs.Ytbihlbalmihbdaa.WFun
namespace SG
open Go Go.ChangeShapes Go.WideShapes

/-- Plain values: whole numbers, bools, strings, and structs and arrays of them, cell by cell. -/
inductive PT where
  | int (k : IntKind)
  | bool
  | str
  | agg (fs : List PT)
  | arr (n : Nat) (k : IntKind)

mutual
def PT.size : PT → Nat
  | .int _ => 1
  | .bool => 1
  | .str => 1
  | .agg fs => PT.sizeL fs
  | .arr n _ => n
def PT.sizeL : List PT → Nat
  | [] => 0
  | p :: ps => p.size + PT.sizeL ps
end

mutual
def PT.fits : PT → List Value → Prop
  | .int k, cs => ∃ n, cs = [.int k n] ∧ (Lit.int k n).wf = true
  | .bool, cs => ∃ b, cs = [.bool b]
  | .str, cs => ∃ s, cs = [.string s] ∧ s.size ≤ maxLen
  | .agg fs, cs => PT.fitsL fs cs
  | .arr n k, cs => cs.length = n ∧ ∀ v ∈ cs, ∃ x, v = .int k x ∧ (Lit.int k x).wf = true
def PT.fitsL : List PT → List Value → Prop
  | [], cs => cs = []
  | p :: ps, cs => ∃ a b, cs = a ++ b ∧ p.fits a ∧ PT.fitsL ps b
end

mutual
def PT.ok (P : Program) : PT → TypeId → Bool
  | .int k, t => match P.underlying t with
    | some (.int k') => decide (k' = k)
    | _ => false
  | .bool, t => match P.underlying t with
    | some .bool => true
    | _ => false
  | .str, t => match P.underlying t with
    | some .string => true
    | _ => false
  | .agg fs, t => match P.underlying t with
    | some (.struct F) => PT.okL P fs F.toList 0 && decide (P.cellsOf t = PT.sizeL fs)
    | _ => false
  | .arr n k, t => match P.underlying t with
    | some (.array m e) => decide (m = n) && decide (P.cellsOf t = n) && decide (P.cellsOf e = 1) && (match P.underlying e with
      | some (.int k') => decide (k' = k)
      | _ => false)
    | _ => false
def PT.okL (P : Program) : List PT → List Field → Nat → Bool
  | [], [], _ => true
  | p :: ps, f :: fs, o => decide (f.offset = o) && decide (P.cellsOf f.type = p.size) && p.ok P f.type && PT.okL P ps fs (o + p.size)
  | _, _, _ => false
end

mutual
theorem PT.fits_len : ∀ (p : PT) (cs : List Value), p.fits cs → cs.length = p.size
  | .int _, cs, h => by obtain ⟨n, rfl, _⟩ := h; rfl
  | .bool, cs, h => by obtain ⟨n, rfl⟩ := h; rfl
  | .str, cs, h => by obtain ⟨n, rfl, _⟩ := h; rfl
  | .agg fs, cs, h => PT.fitsL_len fs cs h
  | .arr _ _, cs, h => h.1
theorem PT.fitsL_len : ∀ (ps : List PT) (cs : List Value), PT.fitsL ps cs → cs.length = PT.sizeL ps
  | [], cs, h => by rw [show cs = [] from h]; rfl
  | p :: ps, cs, h => by
    obtain ⟨a, b, rfl, ha, hb⟩ := h
    rw [List.length_append, PT.fits_len p a ha, PT.fitsL_len ps b hb]
    rfl
end

section
variable {H : Type} {enc : TypeId × Value → H} {P : Program} {w : World} {base : Nat} {spare : Nat → Bool} {held : Bool}
mutual
/-- What reads at a plain type is plain. -/
theorem PT.ok_fits : ∀ (p : PT) (t : TypeId) (fuel : Nat) (cs : List Value) (x : DataW H × List MemPlace), p.ok P t = true → DataW.trod enc P w base spare held fuel t cs = some x → p.fits cs
  | .int k, t, fuel, cs, x, h, hx => by
    unfold PT.ok at h
    split at h
    · rename_i k' hu
      have h : k' = k := by simpa using h
      subst h
      obtain ⟨n, h1, _, h2⟩ := DataW.trod_int hu hx
      exact ⟨n, h1, h2⟩
    · cases h
  | .bool, t, fuel, cs, x, h, hx => by
    unfold PT.ok at h
    split at h
    · rename_i hu
      obtain ⟨b, h1, _⟩ := DataW.trod_bool hu hx
      exact ⟨b, h1⟩
    · cases h
  | .str, t, fuel, cs, x, h, hx => by
    unfold PT.ok at h
    split at h
    · rename_i hu
      obtain ⟨s, h1, _, h2⟩ := DataW.trod_string hu hx
      exact ⟨s, h1, h2⟩
    · cases h
  | .agg fs, t, fuel, cs, x, h, hx => by
    unfold PT.ok at h
    split at h
    · rename_i F hu
      rw [Bool.and_eq_true, decide_eq_true_iff] at h
      obtain ⟨xs, n, _, _, hl, hlen, hf⟩ := DataW.trod_struct hu hx
      have main := PT.okL_fits fs F.toList n cs 0 h.1 (by rw [hl, h.2]; omega) (fun i f hi => by
        obtain ⟨hi, he⟩ := List.getElem?_eq_some_iff.1 hi
        have hi' : i < F.size := by simpa using hi
        have h1 := hf i f (by rw [← he, Array.getElem_toList]; exact Array.getElem?_eq_getElem hi')
        rw [List.getElem?_eq_getElem (by rw [hlen]; exact hi')] at h1
        exact ⟨_, h1⟩)
      rw [List.drop_zero] at main
      exact main
    · cases h
  | .arr m k, t, fuel, cs, x, h, hx => by
    unfold PT.ok at h
    split at h
    · rename_i m' e hu
      simp only [Bool.and_eq_true, decide_eq_true_iff] at h
      obtain ⟨⟨⟨rfl, h2⟩, h3⟩, h4⟩ := h
      split at h4
      · rename_i k' he
        have h4 : k' = k := by simpa using h4
        subst h4
        obtain ⟨xs, n, _, _, hl, hlen, hf⟩ := DataW.trod_array hu hx
        refine ⟨hl.trans h2, fun v hv => ?_⟩
        obtain ⟨i, hi, rfl⟩ := List.getElem_of_mem hv
        have hi' : i < m' := by rw [hl, h2] at hi; exact hi
        have h1 := hf i hi'
        rw [h3, Nat.mul_one, List.getElem?_eq_getElem (by rw [hlen]; exact hi'), List.drop_eq_getElem_cons hi] at h1
        obtain ⟨z, hz, _, hw⟩ := DataW.trod_int he h1
        simp only [List.take_succ_cons, List.take_zero, List.cons.injEq, and_true] at hz
        exact ⟨z, hz, hw⟩
      · cases h4
    · cases h
theorem PT.okL_fits : ∀ (ps : List PT) (F : List Field) (n : Nat) (cs : List Value) (o : Nat), PT.okL P ps F o = true → cs.length = o + PT.sizeL ps →
    (∀ (i : Nat) (f : Field), F[i]? = some f → ∃ x, DataW.trod enc P w base spare held n f.type ((cs.drop f.offset).take (P.cellsOf f.type)) = some x) → PT.fitsL ps (cs.drop o)
  | [], F, n, cs, o, h, hl, hf => List.drop_eq_nil_of_le (by rw [hl]; exact Nat.le_refl _)
  | p :: ps, [], n, cs, o, h, hl, hf => by cases h
  | p :: ps, f :: F, n, cs, o, h, hl, hf => by
    unfold PT.okL at h
    simp only [Bool.and_eq_true, decide_eq_true_iff] at h
    obtain ⟨⟨⟨h1, h2⟩, h3⟩, h4⟩ := h
    obtain ⟨x, hx⟩ := hf 0 f rfl
    rw [h1, h2] at hx
    have hs : PT.sizeL (p :: ps) = p.size + PT.sizeL ps := rfl
    refine ⟨(cs.drop o).take p.size, cs.drop (o + p.size), ?_, PT.ok_fits p _ _ _ _ h3 hx, PT.okL_fits ps F n cs (o + p.size) h4 (by rw [hl, hs]; omega) fun i f hi => hf (i + 1) f hi⟩
    rw [← List.drop_drop, List.take_append_drop]
end

/-- A slice of plain elements that comes in: its elements' cells. -/
theorem plain_slice (p : PT) {t e : TypeId} {a : Option Addr} {len cap : Nat} {d : DataW H} {ps : List MemPlace} (hu : P.underlying t = some (.slice e)) (hp : p.ok P e = true) (hc : P.cellsOf e = p.size)
    (h : DataW.Trod enc P w base spare held t (.slice a len cap) d ps) :
    ∃ L : List (List Value), L.length = len ∧ (∀ c, c ∈ L → p.fits c) ∧ len ≤ cap ∧ len ≤ maxLen ∧
      (0 < len → ∃ ad, a = some ad ∧ ∀ j c, L[j]? = some c → ∀ i u, c[i]? = some u → w.cell? (ad.add (j * p.size + i)) = some u) := by
  obtain ⟨fuel, hf⟩ := h
  rcases DataW.trod_slice hu hf with ⟨hcs, _⟩ | ⟨ad, l, c, elems, rest, n, _, hcs, _, hb, hl, hm, hlen, hel, _, _⟩
  · simp [Value.cells] at hcs
    obtain ⟨rfl, rfl, rfl⟩ := hcs
    exact ⟨[], rfl, by simp, Nat.le_refl _, by unfold maxLen; omega, fun h => absurd h (Nat.lt_irrefl 0)⟩
  · simp [Value.cells] at hcs
    obtain ⟨rfl, rfl, rfl⟩ := hcs
    have each : ∀ i, i < len → ∃ cs, w.cells? base (ad.add (i * p.size)) p.size = some cs ∧ p.fits cs := by
      intro i hi
      have h1 := hel i hi
      rw [List.getElem?_eq_getElem (by omega), Option.bind_eq_some_iff, hc] at h1
      obtain ⟨cs, h2, h3⟩ := h1
      exact ⟨cs, h2, PT.ok_fits p e n cs _ hp h3⟩
    refine ⟨(List.range len).map fun i => (w.cells? base (ad.add (i * p.size)) p.size).getD [], by simp, ?_, hl, Nat.le_trans hl hm, fun _ => ⟨ad, rfl, ?_⟩⟩
    · intro c hc
      obtain ⟨i, hi, rfl⟩ := List.mem_map.1 hc
      obtain ⟨cs, h1, h2⟩ := each i (List.mem_range.1 hi)
      rw [h1]
      exact h2
    · intro j c hj i u hu
      rw [List.getElem?_map] at hj
      by_cases hjl : j < len
      · obtain ⟨cs, h1, h2⟩ := each j hjl
        rw [List.getElem?_range hjl] at hj
        simp only [Option.map_some, Option.some.injEq] at hj
        rw [h1] at hj
        simp only [Option.getD_some] at hj
        subst hj
        obtain ⟨_, hcl, hcell⟩ := World.cells?_some h1
        have hi : i < p.size := by
          have := (List.getElem?_eq_some_iff.1 hu).1
          omega
        have h3 := hcell i hi
        rw [hu] at h3
        have ha : (ad.add (j * p.size)).add i = ad.add (j * p.size + i) := by
          unfold Addr.add
          by_cases h1 : j * p.size = 0 <;> by_cases h2 : i = 0 <;> simp [h1, h2, Nat.add_assoc]
        rw [← ha]
        exact h3
      · rw [List.getElem?_eq_none (by simpa using hjl)] at hj
        cases hj
end

end SG
