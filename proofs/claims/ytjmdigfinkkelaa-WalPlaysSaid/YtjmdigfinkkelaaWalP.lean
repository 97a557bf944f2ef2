/- The contracts of the log and of its reference, for every input: DiskA, DiskB, DiskC, WalA, WalB, WalC, WalD, Tl, WalE, WalF, WalG, WalH, WalI, WalK, WalL, WalM, RefA, RefB, RefC, RefD, RefE, RefF, RefG; no condition. -/
import Derived.Test.YtjmdigfinkkelaaPAllx2
import Derived.Deep.RegionLaw
import Derived.Test.YtjmdigfinkkelaaPAllx11
import Derived.Test.YtjmdigfinkkelaaPAllx8
import Derived.Lib.SliceRun
import Derived.Test.YtjmdigfinkkelaaRFun
import Derived.Test.YtjmdigfinkkelaaPAllx1
import Derived.StillTailTactics
import Derived.Test.YtjmdigfinkkelaaPlain
import Derived.Test.YtjmdigfinkkelaaBRow
import Derived.Laws.Rows
import Derived.Test.YtjmdigfinkkelaaRFun2
import Derived.Deep.RegionHeld
namespace Go.Proofs.Ytjmdigfinkkelaa.Wal
open Go.RowKit Go.Proofs.Ytjmdigfinkkelaa.PAll Go.Proofs.YtjmdigfinkkelaaW.PrintWords Go.Proofs.YtjmdigfinkkelaaW.PrintLast Go.Proofs.YtjmdigfinkkelaaW.PrintMore
set_option linter.unusedVariables false
set_option linter.unusedSimpArgs false

/-- A disk at block d: its bytes and how many are synced; all its blocks lie from B on. -/
def Dk (w : World) (B d : Nat) (b : List Int) (sy : Int) : Prop :=
  B ≤ d ∧ ∃ v, w.heap[d]? = some (.cells #[v, .int .i64 sy] 71 (0, 0)) ∧ (Kd.int .u8).R 5 w B (fun _ => True) v b
/-- A block that may be a disk's: by its type. -/
def Ty (w : World) (k : Nat) : Prop := ∃ cells q, w.heap[k]? = some (.cells cells q (0, 0)) ∧ (q = 5 ∨ q = 71)

theorem Dk.sync {w : World} {B d : Nat} {b : List Int} {sy : Int} (D : Dk w B d b sy) (x : Int) : Dk (w.setCell ⟨d, 1, none⟩ (.int .i64 x)) B d b x := by
  obtain ⟨hB, v, hd, hr⟩ := D
  exact ⟨hB, v, by simpa using blk_set hd 1 (.int .i64 x), Kd.R_set hr hd (by decide) 1 (.int .i64 x)⟩
/-- Another slice of the same kind takes the place. -/
theorem Dk.put {w : World} {B d : Nat} {b' : List Int} {sy : Int} {v v' : Value} (hB : B ≤ d) (hd : w.heap[d]? = some (.cells #[v, .int .i64 sy] 71 (0, 0))) (hr : (Kd.int .u8).R 5 w B (fun _ => True) v' b') : Dk (w.setCell ⟨d, 0, none⟩ v') B d b' sy :=
  ⟨hB, v', by simpa using blk_set hd 0 v', Kd.R_set hr hd (by decide) 0 v'⟩
theorem Dk.below {w w' : World} {B d : Nat} {b : List Int} {sy : Int} (D : Dk w B d b sy) (hb : Below w.heap.size w w') : Dk w' B d b sy := by
  obtain ⟨hB, v, hd, hr⟩ := D
  exact ⟨hB, v, blk_below hd hb, Kd.R_below hr hb⟩
/-- What may not be a disk's stays: the disk's does too, where only others are written. -/
theorem Dk.kept {w w' : World} {B d : Nat} {b : List Int} {sy : Int} (D : Dk w B d b sy) {S : Nat → Prop} (hk : Kept w w' S) (hS : ∀ k, S k → ¬ Ty w k) : Dk w' B d b sy := by
  obtain ⟨hB, v, hd, hr⟩ := D
  refine ⟨hB, v, blk_kept hd hk (fun h => hS d h ⟨_, _, hd, .inr rfl⟩), ?_⟩
  refine Kd.R_mono (Kd.R_move (Kd.R_bound hr) (fun k h => ?_)) (fun _ h => h.1)
  obtain ⟨_, _, hlt, q, hq, cells, hc⟩ := h
  refine hk.2 k hlt (fun h => hS k h ⟨cells, q, hc, .inl ?_⟩)
  simpa [Kd.int, Kd.scalar] using hq
theorem ty_blk {w : World} {d : Nat} {cells : Array Value} (hd : w.heap[d]? = some (.cells cells 71 (0, 0))) : Ty w d := ⟨_, _, hd, .inr rfl⟩
theorem ty_row {w : World} {B : Nat} {v : Value} {b : List Int} (hr : (Kd.int .u8).R 5 w B (fun _ => True) v b) (k : Nat) (hk : v.ownBlock = some k) : Ty w k := by
  obtain ⟨inner, ho⟩ := Kd.R_own hr
  obtain ⟨cells, hc⟩ := own_typed ho k hk
  exact ⟨_, _, hc, .inl rfl⟩

/-- append of a string's bytes, as a step of a region that draws. -/
theorem step_append_str {P : Program} {ops : Array Oper} {o : Oper} {a : Act} {Q : Exit → Act → World → Prop} {K : Act → World → Prop} {E : Prop} {W : World} (base : Nat) (hgd : o.guard = none) (s x : Operand) (t u e : TypeId)
    (ho : o.op = .call { callee := .builtin .append, args := #[s, x], argTypes := #[t, u] })
    (ht : P.underlying t = some (.slice e)) (hu : P.underlying u = some .string) (hinfo : (P.info? e).map (fun i => (i.zero, i.size, i.bytes)) = some (some (.int .u8 0), 1, 1))
    (v : Value) (xs : List Int) (y : ByteArray) (hs : a.eval s = v) (hx : a.eval x = .string y)
    (HO : (Kd.int .u8).R e W base (fun _ => True) v xs) (hbase : base ≤ W.heap.size) (hl : xs.length + y.size ≤ 140737488355328)
    (h : ∀ v1 w1, (Kd.int .u8).R e w1 base (fun _ => True) v1 (xs ++ bytesOf y) → W.grownBy w1 v.ownBlock → K (a.put o.dst v1) w1) :
    if Region.wanted o (yielded ops a.tmps) = true then Oper.wp P o a W K Q else E := by
  have hw : Region.wanted o (yielded ops a.tmps) = true := by simp [Region.wanted, hgd]
  rw [if_pos hw]
  obtain ⟨i0, hi, hzz⟩ := Option.map_eq_some_iff.1 hinfo
  simp only [Prod.mk.injEq] at hzz
  obtain ⟨hz0, hz1, hz2⟩ := hzz
  obtain ⟨v1, w1, hr, hown, hg, _⟩ := Lib.run_append_own_string (P := P) W base t u o.type e i0 ht hu hi hz0 hz1 hz2 v xs.length (nums .u8 xs) (Kd.own_of_R HO) y (by simp only [maxLen]; omega) hl hbase
  have hl2 : (xs ++ bytesOf y).length = xs.length + y.size := by rw [List.length_append, bytesOf_length]
  have hc : nums .u8 (xs ++ bytesOf y) = nums .u8 xs ++ Lib.strCells y := by
    rw [nums_append]
    congr 1
    simp [nums, bytesOf, Lib.strCells]
  unfold Oper.wp execOp
  simp only [ho, resolve, invoke, builtin, Sem.run_bind, Sem.run_pure, Result.andThen_ok, List.map_toArray, List.map_cons, List.map_nil, hs, hx, hr]
  refine h v1 w1 (Kd.R_of_own (h1 := fun _ => rfl) ?_ (fun _ _ => trivial)) hg
  rw [hl2]
  show w1.ownsRow base e 1 v1 (xs.length + y.size) (nums .u8 (xs ++ bytesOf y))
  rw [hc]
  exact hown

set_option maxHeartbeats 8000000 in
set_option maxRecDepth 100000 in
theorem New (w : World) : Calls Try.prog 21 #[] w fun e w' => ∃ g : Nat, e = .returned (.pointer (some ⟨g, 0, none⟩)) ∧ w.heap.size ≤ g ∧ Below w.heap.size w w' ∧ w'.heap[g]? = some (.cells #[.slice none 0 0, .int .i64 0] 71 (0, 0)) := by
  have hu71 := Try.underlying71
  have HB := Aside0.mk (Below.refl w.heap.size w)
  go_enter Try.func21, Try.ntmps21
  go_wp2_with (first | ((with_reducible refine gate_dst (N := 2) rfl ?_); refine box_event ?hg (N := 2) ?hd (cs := #[.slice none 0 0, .int .i64 0]) (t := 71) ?hr ?_; (case hd => rfl); (case hg => rfl); (case hr => first | (go_simp; done) | (go_simp; rfl)); intro g hg w1 hbox hb; have n1_ := Aside0.mk (below_step (by repeat (first | (with_reducible first | exact HB.out | apply below_alloc | apply pw_below_drewN | apply below_drew1) | exact HB.out)) hb); have GE := Aside0.mk (show w.heap.size ≤ g by rw [hg]; exact HB.out.size); clear HB; have HB := n1_; have BK := Aside0.mk hbox; clear n1_ hbox hb hg))
  go_ret
  exact ⟨_, rfl, GE.out, by repeat (first | (with_reducible first | exact HB.out | apply below_alloc | apply pw_below_drewN | apply below_drew1) | exact HB.out), by (with_reducible repeat (first | refine blk_drewN ?_ _ | refine blk_drew ?_ | refine blk_alloc ?_ _)); exact BK.out⟩

set_option maxHeartbeats 8000000 in
set_option maxRecDepth 100000 in
/-- The text of a disk. -/
theorem Text {w : World} {B d : Nat} {b : List Int} {sy : Int} (D : Dk w B d b sy) : Calls Try.prog 25 #[.pointer (some ⟨d, 0, none⟩)] w fun e w' => e = .returned (.string (strOfNums b)) ∧ Below w.heap.size w w' := by
  obtain ⟨hB, v, hd, hr⟩ := D
  obtain ⟨A, c, rfl, hl, hC⟩ := Kd.R_reads hr
  have c0 : w.cell? ⟨d, 0, none⟩ = some (.slice A b.length c) := (blk_cell hd 0).trans rfl
  have HB := Aside0.mk (Below.refl w.heap.size w)
  have cv := Kd.C_string (P := Try.prog) (src := 69) (dst := 9) (e := 5) Try.underlying69 Try.underlying5 Try.underlying9 (c := c) hC
  go_enter Try.func25, Try.ntmps25
  go_wp2
  go_ret
  exact ⟨rfl, HB.out⟩

set_option maxHeartbeats 8000000 in
set_option maxRecDepth 100000 in
/-- All is synced. -/
theorem DoSync {w : World} {B d : Nat} {b : List Int} {sy : Int} (D : Dk w B d b sy) (hBw : B ≤ w.heap.size) (s : ByteArray) (keep : Int) :
    Calls Try.prog 22 #[.pointer (some ⟨d, 0, none⟩), .agg #[.int .i64 2, .string s, .int .u64 keep]] w fun e w' => e = .returned (.int .i64 0) ∧ Dk w' B d b (b.length : Int) ∧ Below B w w' ∧ Kept w w' (Ty w) := by
  obtain ⟨hB, v, hd, hr⟩ := D
  obtain ⟨A, c, rfl, hl, hC⟩ := Kd.R_reads hr
  have HB := Aside0.mk (Below.refl w.heap.size w)
  go_enter Try.func22, Try.ntmps22
  go_wp2_with (first | ((with_reducible refine gate_dst (N := 3) rfl ?_); refine box_event ?hg (N := 3) ?hd (cs := #[.int .i64 2, .string s, .int .u64 keep]) (t := 57) ?hr ?_; (case hd => rfl); (case hg => rfl); (case hr => first | (go_simp; done) | (go_simp; rfl)); intro g hg w1 hbox hb; have c0 : w1.cell? ⟨g, 0, none⟩ = some (.int .i64 2) := (blk_cell hbox 0).trans rfl; have c1 : w1.cell? ⟨d, 0, none⟩ = some (.slice A b.length c) := (blk_cell (blk_below hd hb) 0).trans rfl; have c2 : w1.cell? ⟨d, 1, none⟩ = some (.int .i64 sy) := (blk_cell (blk_below hd hb) 1).trans rfl; have f1 : w1.frozen? ⟨d, 1, none⟩ = false := blk_frozen (blk_below hd hb) 1; have HB1 := Aside0.mk hb; clear hg hbox hb))
  go_ret
  have hd1 := blk_below hd HB1.out
  exact ⟨rfl, Dk.sync ⟨hB, _, hd1, Kd.R_below hr HB1.out⟩ _, (HB1.out.mono hBw).setCell hB _, (Kept.of_below HB1.out _).setCell (.inl (ty_blk hd)) _⟩

set_option maxHeartbeats 8000000 in
set_option maxRecDepth 100000 in
/-- There is no room. -/
theorem DoFull {w : World} {B d : Nat} {b : List Int} {sy : Int} (D : Dk w B d b sy) (s : ByteArray) (keep : Int) (hl : b.length ≤ 65536) (h : ¬ b.length + s.size ≤ 65536) :
    Calls Try.prog 22 #[.pointer (some ⟨d, 0, none⟩), .agg #[.int .i64 1, .string s, .int .u64 keep]] w fun e w' => e = .returned (.int .i64 2) ∧ Below w.heap.size w w' := by
  obtain ⟨hB, v, hd, hr⟩ := D
  obtain ⟨A, c, rfl, hlc, hC⟩ := Kd.R_reads hr
  have HB := Aside0.mk (Below.refl w.heap.size w)
  have hw : wrap64 (65536 - (b.length : Int)) = 65536 - (b.length : Int) := by unfold wrap64; omega
  have ht : decide ((s.size : Int) > wrap64 (65536 - (b.length : Int))) = true := by rw [hw]; exact decide_eq_true (by omega)
  clear hw
  go_enter Try.func22, Try.ntmps22
  go_wp2_with (first | ((with_reducible refine gate_dst (N := 3) rfl ?_); refine box_event ?hg (N := 3) ?hd (cs := #[.int .i64 1, .string s, .int .u64 keep]) (t := 57) ?hr ?_; (case hd => rfl); (case hg => rfl); (case hr => first | (go_simp; done) | (go_simp; rfl)); intro g hg w1 hbox hb; have c0 : w1.cell? ⟨g, 0, none⟩ = some (.int .i64 1) := (blk_cell hbox 0).trans rfl; have c3 : w1.cell? ⟨g, 1, none⟩ = some (.string s) := (blk_cell hbox 1).trans rfl; have c1 : w1.cell? ⟨d, 0, none⟩ = some (.slice A b.length c) := (blk_cell (blk_below hd hb) 0).trans rfl; have c2 : w1.cell? ⟨d, 1, none⟩ = some (.int .i64 sy) := (blk_cell (blk_below hd hb) 1).trans rfl; have f1 : w1.frozen? ⟨d, 1, none⟩ = false := blk_frozen (blk_below hd hb) 1; have HB1 := Aside0.mk hb; clear hg hbox hb))
  go_region
  go_wp2
  go_ret
  exact ⟨rfl, HB1.out.drew⟩

set_option maxHeartbeats 8000000 in
set_option maxRecDepth 100000 in
/-- A text behind all. -/
theorem DoWrite {w : World} {B d : Nat} {b : List Int} {sy : Int} (D : Dk w B d b sy) (hBw : B ≤ w.heap.size) (s : ByteArray) (keep : Int) (h : b.length + s.size ≤ 65536) :
    Calls Try.prog 22 #[.pointer (some ⟨d, 0, none⟩), .agg #[.int .i64 1, .string s, .int .u64 keep]] w fun e w' => e = .returned (.int .i64 0) ∧ Dk w' B d (b ++ bytesOf s) sy ∧ Below B w w' ∧ Kept w w' (Ty w) := by
  obtain ⟨hB, v, hd, hr⟩ := D
  obtain ⟨A, c, rfl, hlc, hC⟩ := Kd.R_reads hr
  have HB := Aside0.mk (Below.refl w.heap.size w)
  have hw : wrap64 (65536 - (b.length : Int)) = 65536 - (b.length : Int) := by unfold wrap64; omega
  have ht : decide ((s.size : Int) > wrap64 (65536 - (b.length : Int))) = false := by rw [hw]; exact decide_eq_false (by omega)
  clear hw
  go_enter Try.func22, Try.ntmps22
  go_wp2_with (first | ((with_reducible refine gate_dst (N := 3) rfl ?_); refine box_event ?hg (N := 3) ?hd (cs := #[.int .i64 1, .string s, .int .u64 keep]) (t := 57) ?hr ?_; (case hd => rfl); (case hg => rfl); (case hr => first | (go_simp; done) | (go_simp; rfl)); intro g hg w1 hbox hb; have c0 : w1.cell? ⟨g, 0, none⟩ = some (.int .i64 1) := (blk_cell hbox 0).trans rfl; have c3 : w1.cell? ⟨g, 1, none⟩ = some (.string s) := (blk_cell hbox 1).trans rfl; have c1 : w1.cell? ⟨d, 0, none⟩ = some (.slice A b.length c) := (blk_cell (blk_below hd hb) 0).trans rfl; have c2 : w1.cell? ⟨d, 1, none⟩ = some (.int .i64 sy) := (blk_cell (blk_below hd hb) 1).trans rfl; have f1 : w1.frozen? ⟨d, 0, none⟩ = false := blk_frozen (blk_below hd hb) 0; have HB1 := Aside0.mk hb; clear hg hbox hb))
  go_region
  go_wp2
  have HB2 : Aside0 (Below w.heap.size w w1.drew.drew) := ⟨HB1.out.drew.drew⟩
  have HR1 := Aside0.mk (Kd.R_below hr HB2.out)
  have HD1 := Aside0.mk (blk_below hd HB2.out)
  go_region_law (refine step_append_str B rfl (.tmp 29) (.tmp 31) 69 9 5 rfl Try.underlying69 Try.underlying9 (by kernel_rfl) (.slice A b.length c) b s (by simp [Act.eval, Act.put]) (by simp [Act.eval, Act.put]) HR1.out (Nat.le_trans hBw HB2.out.size) (by omega) ?_; intro v1 w2 hr2 hg2; obtain ⟨A2, k2, rfl⟩ := Kd.R_slice hr2; have hd2 := blk_grown HD1.out hg2 (Kd.R_ne HR1.out HD1.out (by decide)); have e0 : w2.cell? ⟨d, 0, none⟩ = some (.slice A b.length c) := (blk_cell hd2 0).trans rfl; have g0 : w2.frozen? ⟨d, 0, none⟩ = false := blk_frozen hd2 0; have HR2 := Aside0.mk hr2; have HG2 := Aside0.mk hg2; have HD2 := Aside0.mk hd2; clear hr2 hg2 hd2)
  all_goals
    go_wp2
    go_ret
    have hb2 : Below B w w2 := (HB2.out.mono hBw).grown HG2.out (Nat.le_trans hBw HB2.out.size) (fun k hk => own_base (Kd.own_of_R HR1.out) k hk)
    have hr3 := HR2.out
    rw [List.length_append] at hr3
    exact ⟨rfl, Dk.put hB HD2.out hr3, hb2.setCell hB _, (Kept.of_grown HG2.out (Kept.of_below HB2.out _) (fun k hk => .inl (ty_row hr k hk))).setCell (.inl (ty_blk hd)) _⟩

end Go.Proofs.Ytjmdigfinkkelaa.Wal
namespace Go.Proofs.Ytjmdigfinkkelaa.Wal
open Go.RowKit Go.Proofs.Ytjmdigfinkkelaa.PAll Go.Proofs.YtjmdigfinkkelaaW.PrintWords Go.Proofs.YtjmdigfinkkelaaW.PrintLast Go.Proofs.YtjmdigfinkkelaaW.PrintMore
set_option linter.unusedVariables false
set_option linter.unusedSimpArgs false

/-- Is the sector k kept? -/
def kp (keep k : Int) : Bool := decide (k < 64) && (Go.bits .and .u64 (keep / 2 ^ k.toNat) 1 == 1)
theorem kp_lt {keep k : Int} (h : k < 64) : kp keep k = (Go.bits .and .u64 (keep / 2 ^ k.toNat) 1 == 1) := by
  unfold kp
  rw [decide_eq_true h, Bool.true_and]
theorem kp_ge {keep k : Int} (h : ¬ k < 64) : kp keep k = false := by
  unfold kp
  rw [decide_eq_false h, Bool.false_and]

set_option maxHeartbeats 8000000 in
set_option maxRecDepth 100000 in
theorem kept_calls (keep k : Int) (h0 : 0 ≤ k) (w : World) : Calls Try.prog 39 #[.int .u64 keep, .int .i64 k] w fun e w' => e = .returned (.bool (kp keep k)) ∧ w' = w := by
  by_cases h64 : k < 64
  · rw [kp_lt h64]
    have hh : decide (k < 64) = true := decide_eq_true h64
    go_enter Try.func39, Try.ntmps39
    go_wp2
    go_ret
    exact ⟨rfl, rfl⟩
  · rw [kp_ge h64]
    have hh : decide (k < 64) = false := decide_eq_false h64
    go_enter Try.func39, Try.ntmps39
    go_wp2
    go_ret
    exact ⟨rfl, rfl⟩

theorem w64n (n : Nat) (h : n ≤ 100000) : wrap64 ((n : Int) + 1) = ((n + 1 : Nat) : Int) := by
  unfold wrap64
  omega
theorem div_nn (a s : Nat) (h : s ≤ a) : 0 ≤ (a : Int) / 64 - (s : Int) / 64 := by omega

theorem R_takeI {w : World} {B : Nat} {A : Option Addr} {n m c : Nat} {xs : List Int} (h : (Kd.int .u8).R 5 w B (fun _ => True) (.slice A n c) xs) (hm : m ≤ xs.length) : (Kd.int .u8).R 5 w B (fun _ => True) (.slice A m c) (xs.take m) := by
  obtain ⟨rfl, _⟩ := Kd.R_reads' h
  have h2 := own_take (Kd.own_of_R h) hm
  refine Kd.R_of_own (h1 := fun _ => rfl) ?_ (fun _ _ => trivial)
  rw [List.length_take, Nat.min_eq_left hm]
  rw [Nat.mul_one] at h2
  have e : encs (Value.int .u8) (xs.take m) = (encs (Value.int .u8) xs).take m := by simp [encs, List.map_take]
  rw [e]
  exact h2

/-- What a crash leaves: from the place at_ on, for m places. -/
def tl (keep first : Int) : Nat → Nat → List Int → Nat → List Int × Nat
  | 0, _, b, e => (b, e)
  | m + 1, at_, b, e => if kp keep ((at_ : Int) / 64 - first) = true then tl keep first m (at_ + 1) b (at_ + 1) else tl keep first m (at_ + 1) (b.set at_ 0) e

set_option maxHeartbeats 8000000 in
set_option maxRecDepth 100000 in
theorem tear {w : World} {B d : Nat} {b : List Int} {sy : Nat} (D : Dk w B d b (sy : Int)) (hBw : B ≤ w.heap.size) (keep : Int) (hsl : sy ≤ b.length) (hl : b.length ≤ 65536) (b2 : List Int) (e2 : Nat) (hR : tl keep ((sy : Int) / 64) (b.length - sy) sy b sy = (b2, e2)) :
    Calls Try.prog 31 #[.pointer (some ⟨d, 0, none⟩), .int .u64 keep] w fun e w' => e = .returned (.tuple #[]) ∧ Dk w' B d (b2.take e2) (sy : Int) ∧ Below B w w' ∧ Kept w w' (Ty w) := by
  obtain ⟨hB, v, hd, hr⟩ := D
  obtain ⟨A, c, rfl, hlc, hC⟩ := Kd.R_reads hr
  have HB := Aside0.mk (Below.refl w.heap.size w)
  have c1 : w.cell? ⟨d, 0, none⟩ = some (.slice A b.length c) := (blk_cell hd 0).trans rfl
  have c2 : w.cell? ⟨d, 1, none⟩ = some (.int .i64 sy) := (blk_cell hd 1).trans rfl
  have HR := Aside0.mk hR
  clear hR
  go_enter Try.func31, Try.ntmps31
  go_wp2
  go_region
  go_wp2
  go_loopg [5, 6] (b.length - sy) (fun kq v5 v6 w' => ∃ (at_ e : Nat) (b' : List Int), v5 = .int .i64 (e : Int) ∧ v6 = .int .i64 (at_ : Int) ∧ Aside0 (tl keep ((sy : Int) / 64) kq at_ b' e = (b2, e2)) ∧ Aside0 (b'.length = b.length ∧ at_ + kq = b.length ∧ e ≤ at_ ∧ sy ≤ at_) ∧ Aside0 (w'.heap[d]? = some (.cells #[.slice A b.length c, .int .i64 sy] 71 (0, 0))) ∧ Aside0 ((Kd.int .u8).R 5 w' B (fun _ => True) (.slice A b.length c) b') ∧ Aside0 (Below B w w') ∧ Aside0 (Kept w w' (Ty w)))
  case atStart => exact ⟨sy, sy, b, rfl, rfl, HR, ⟨rfl, by omega, Nat.le_refl _, Nat.le_refl _⟩, ⟨hd⟩, ⟨hr⟩, ⟨(Below.refl _ _).drew⟩, ⟨Kept.refl _ _⟩⟩
  case round =>
    obtain ⟨at_, e, b', rfl, rfl, HA, HI, HD, HRw, HBw, HKw⟩ := hrel
    obtain ⟨i1, i2, i3, i4⟩ := HI.out
    have d0 : wr.cell? ⟨d, 0, none⟩ = some (.slice A b.length c) := (blk_cell HD.out 0).trans rfl
    have z0 : wr.frozen? ⟨d, 0, none⟩ = false := blk_frozen HD.out 0
    by_cases hat : at_ < b.length
    · obtain ⟨k1, rfl⟩ : ∃ k1, gk = k1 + 1 := ⟨gk - 1, by omega⟩
      have hlt : decide ((at_ : Int) < (b.length : Int)) = true := decide_eq_true (by omega)
      have hnn := div_nn at_ sy i4
      obtain ⟨g, cap, hv, hBg, hgl, cells, hgc⟩ := Kd.R_form HRw.out (by omega)
      rw [i1] at hv
      injection hv with hA hn hcp
      subst hA hcp
      obtain ⟨z1, z2⟩ := Kd.R_celln (0 : Int) HRw.out (at_ : Int) (by omega) (by omega)
      rw [Int.toNat_natCast] at z1 z2
      have H := HA.out
      clear HA HI
      rw [tl] at H
      by_cases hk : kp keep ((at_ : Int) / 64 - (sy : Int) / 64) = true
      · rw [if_pos hk] at H
        have HA := Aside0.mk H
        clear H
        go_wp2_with (first | ((with_reducible refine gate_callee (f := 39) rfl ?_); refine goesL_ (some 34) rfl rfl Try.func39 (by kernel_rfl) rfl #[.int .u64 keep, .int .i64 ((at_ : Int) / 64 - (sy : Int) / 64)] rfl (by (try simp only [List.map_toArray, List.map_cons, List.map_nil]); first | done | rfl) ?_; (with_reducible refine (kept_calls keep _ hnn _).mono ?_); rintro e1 w1 ⟨rfl, rfl⟩; rw [hk]; refine ⟨_, rfl, ?_⟩))
        go_roundg k1
        case measure => omega
        case rel => exact ⟨at_ + 1, at_ + 1, b', rfl, rfl, HA, ⟨i1, by omega, by omega, by omega⟩, HD, HRw, HBw, HKw⟩
      · rw [if_neg hk] at H
        have HA := Aside0.mk H
        clear H
        replace hk := Bool.eq_false_iff.mpr hk
        go_wp2_with (first | ((with_reducible refine gate_callee (f := 39) rfl ?_); refine goesL_ (some 34) rfl rfl Try.func39 (by kernel_rfl) rfl #[.int .u64 keep, .int .i64 ((at_ : Int) / 64 - (sy : Int) / 64)] rfl (by (try simp only [List.map_toArray, List.map_cons, List.map_nil]); first | done | rfl) ?_; (with_reducible refine (kept_calls keep _ hnn _).mono ?_); rintro e1 w1 ⟨rfl, rfl⟩; rw [hk]; refine ⟨_, rfl, ?_⟩))
        go_roundg k1
        case measure => omega
        case rel =>
          obtain ⟨hr2, hg2⟩ := Kd.R_putg HRw.out (at_ : Int) 0
          rw [Int.toNat_natCast] at hr2 hg2
          exact ⟨at_ + 1, e, b'.set at_ 0, rfl, rfl, HA, ⟨by rw [List.length_set]; exact i1, by omega, by omega, by omega⟩, ⟨blk_grown HD.out hg2 (fun h => blk_ne hgc HD.out (by decide) (by injection h with h; exact h.symm))⟩, ⟨hr2⟩, ⟨HBw.out.setCell hBg _⟩, ⟨HKw.out.setCell (.inl (ty_row hr g rfl)) _⟩⟩
    · obtain rfl : gk = 0 := by omega
      have H := HA.out
      clear HA
      rw [tl] at H
      injection H with h1 h2
      subst h1 h2
      have hge : decide ((at_ : Int) < (b.length : Int)) = false := decide_eq_false (by omega)
      have hec : e ≤ c := by omega
      have heb : e ≤ b'.length := by omega
      have HE := Aside0.mk heb
      clear HI heb
      go_wp2
      exact bodyPost_end (results_none rfl _ _ _) rfl ⟨rfl, Dk.put hB HD.out (R_takeI HRw.out HE.out), HBw.out.setCell hB _, HKw.out.setCell (.inl (ty_blk hd)) _⟩
end Go.Proofs.Ytjmdigfinkkelaa.Wal
namespace Go.Proofs.Ytjmdigfinkkelaa.Wal
open Go.RowKit Go.Proofs.Ytjmdigfinkkelaa.PAll Go.Proofs.YtjmdigfinkkelaaW.PrintWords Go.Proofs.YtjmdigfinkkelaaW.PrintLast Go.Proofs.YtjmdigfinkkelaaW.PrintMore
set_option linter.unusedVariables false
set_option linter.unusedSimpArgs false

theorem Ty.back {w w1 : World} (h : Below w.heap.size w w1) (k : Nat) (t : Ty w1 k) : Ty w k ∨ w.heap.size ≤ k := by
  by_cases hk : k < w.heap.size
  · obtain ⟨cells, q, hc, hq⟩ := t
    exact .inl ⟨cells, q, (h.block k hk).symm.trans hc, hq⟩
  · exact .inr (by omega)

/-- What a crash leaves of a disk. -/
def crashL (keep : Int) (b : List Int) (sy : Nat) : List Int := (tl keep ((sy : Int) / 64) (b.length - sy) sy b sy).1.take (tl keep ((sy : Int) / 64) (b.length - sy) sy b sy).2

set_option maxHeartbeats 8000000 in
set_option maxRecDepth 100000 in
theorem DoCrash {w : World} {B d : Nat} {b : List Int} {sy : Nat} (D : Dk w B d b (sy : Int)) (hBw : B ≤ w.heap.size) (s : ByteArray) (keep : Int) (hsl : sy ≤ b.length) (hl : b.length ≤ 65536) :
    Calls Try.prog 22 #[.pointer (some ⟨d, 0, none⟩), .agg #[.int .i64 3, .string s, .int .u64 keep]] w fun e w' => e = .returned (.int .i64 0) ∧ Dk w' B d (crashL keep b sy) ((crashL keep b sy).length : Int) ∧ Below B w w' ∧ Kept w w' (Ty w) := by
  have D0 := D
  obtain ⟨hB, v, hd, hr⟩ := D
  obtain ⟨A, c, rfl, hlc, hC⟩ := Kd.R_reads hr
  have HB := Aside0.mk (Below.refl w.heap.size w)
  go_enter Try.func22, Try.ntmps22
  go_wp2_with (first | ((with_reducible refine gate_dst (N := 3) rfl ?_); refine box_event ?hg (N := 3) ?hd (cs := #[.int .i64 3, .string s, .int .u64 keep]) (t := 57) ?hr ?_; (case hd => rfl); (case hg => rfl); (case hr => first | (go_simp; done) | (go_simp; rfl)); intro g hg w1 hbox hb; have c0 : w1.cell? ⟨g, 0, none⟩ = some (.int .i64 3) := (blk_cell hbox 0).trans rfl; have c3 : w1.cell? ⟨g, 2, none⟩ = some (.int .u64 keep) := (blk_cell hbox 2).trans rfl; have HB1 := Aside0.mk hb; clear hg hbox hb) | ((with_reducible refine gate_callee (f := 31) rfl ?_); refine goesL_ (some 38) rfl rfl Try.func31 (by kernel_rfl) rfl #[.pointer (some ⟨d, 0, none⟩), .int .u64 keep] rfl (by (try simp only [List.map_toArray, List.map_cons, List.map_nil]); first | done | rfl) ?_; (with_reducible refine (tear (D0.below HB1.out) (Nat.le_trans hBw HB1.out.size) keep hsl hl _ _ rfl).mono ?_); rintro e2 w2 ⟨rfl, hD2, hB2, hK2⟩; refine ⟨_, rfl, ?_⟩; change Dk w2 B d (crashL keep b sy) _ at hD2; have HD2 := Aside0.mk hD2; obtain ⟨_, v2, hd2, hr2⟩ := hD2; obtain ⟨A2, k2, rfl, hl2, _⟩ := Kd.R_reads hr2; have e0 : w2.cell? ⟨d, 0, none⟩ = some (.slice A2 (crashL keep b sy).length k2) := (blk_cell hd2 0).trans rfl; have e1 : w2.cell? ⟨d, 1, none⟩ = some (.int .i64 sy) := (blk_cell hd2 1).trans rfl; have g1 : w2.frozen? ⟨d, 1, none⟩ = false := blk_frozen hd2 1; have HB2 := Aside0.mk hB2; have HK2 := Aside0.mk hK2; clear hB2 hK2 hd2 hr2))
  go_ret
  exact ⟨rfl, HD2.out.sync _, (((HB1.out.mono hBw)).trans HB2.out).setCell hB _, ((Kept.of_below HB1.out (Ty w)).then_ HK2.out (fun k t => Ty.back HB1.out k t)).setCell (.inl (ty_blk hd)) _⟩

set_option maxHeartbeats 8000000 in
set_option maxRecDepth 100000 in
/-- All behind a place goes. -/
theorem Cut {w : World} {B d : Nat} {b : List Int} {sy : Int} (D : Dk w B d b sy) (hBw : B ≤ w.heap.size) (n : Nat) (h : n ≤ b.length) (hl : b.length ≤ 65536) (hsy : sy = (b.length : Int)) :
    Calls Try.prog 26 #[.pointer (some ⟨d, 0, none⟩), .int .i64 (n : Int)] w fun e w' => e = .returned (.tuple #[]) ∧ Dk w' B d (b.take n) (n : Int) ∧ Below B w w' ∧ Kept w w' (Ty w) := by
  have D0 := D
  obtain ⟨hB, v, hd, hr⟩ := D
  obtain ⟨A, c, rfl, hlc, hC⟩ := Kd.R_reads hr
  have c0 : w.cell? ⟨d, 0, none⟩ = some (.slice A b.length c) := (blk_cell hd 0).trans rfl
  have c1 : w.cell? ⟨d, 1, none⟩ = some (.int .i64 sy) := (blk_cell hd 1).trans rfl
  have f0 : w.frozen? ⟨d, 0, none⟩ = false := blk_frozen hd 0
  have f1 : w.frozen? ⟨d, 1, none⟩ = false := blk_frozen hd 1
  have h0 : decide (0 ≤ (n : Int)) = true := decide_eq_true (by omega)
  by_cases hn : n < b.length
  · have h1 : decide ((n : Int) < (b.length : Int)) = true := decide_eq_true (by omega)
    have hnc : n ≤ c := by omega
    subst hsy
    go_enter Try.func26, Try.ntmps26
    go_wp2
    exact bodyPost_end (results_none rfl _ _ _) rfl ⟨rfl, (Dk.put hB hd (R_takeI hr (by omega))).sync _, ((Below.refl B w).setCell hB _).setCell hB _, ((Kept.refl _ _).setCell (.inl (ty_blk hd)) _).setCell (.inl (ty_blk hd)) _⟩
  · have h1 : decide ((n : Int) < (b.length : Int)) = false := decide_eq_false (by omega)
    obtain rfl : n = b.length := by omega
    subst hsy
    go_enter Try.func26, Try.ntmps26
    go_wp2
    refine bodyPost_end (results_none rfl _ _ _) rfl ⟨rfl, ?_, Below.refl _ _, Kept.refl _ _⟩
    rw [List.take_length]
    exact D0
end Go.Proofs.Ytjmdigfinkkelaa.Wal
namespace Go.Proofs.Ytjmdigfinkkelaa.Wal
open Go.RowKit Go.Proofs.Ytjmdigfinkkelaa.PAll Go.Proofs.YtjmdigfinkkelaaW.PrintWords Go.Proofs.YtjmdigfinkkelaaW.PrintLast Go.Proofs.YtjmdigfinkkelaaW.PrintMore
set_option linter.unusedVariables false
set_option linter.unusedSimpArgs false

/-- A log at block a: its disk, its records, how many are sure; the row of its records is ok. -/
def Wl (w : World) (B : Nat) (ok : Nat → Prop) (a : Nat) (b : List Int) (sy : Int) (all : List ByteArray) (sure : Int) : Prop :=
  B ≤ a ∧ ∃ d v, w.heap[a]? = some (.cells #[.pointer (some ⟨d, 0, none⟩), v, .int .i64 sure] 55 (0, 0)) ∧ Kd.string.R 9 w B ok v all ∧ Dk w B d b sy
/-- A block that may be a log's. -/
def TW (ok : Nat → Prop) (w : World) (k : Nat) : Prop := (∃ cells q, w.heap[k]? = some (.cells cells q (0, 0)) ∧ (q = 5 ∨ q = 71 ∨ q = 55)) ∨ ok k
theorem TW.of_Ty {ok : Nat → Prop} {w : World} {k : Nat} (h : Ty w k) : TW ok w k := by
  obtain ⟨cells, q, hc, hq⟩ := h
  exact .inl ⟨cells, q, hc, hq.elim .inl (fun h => .inr (.inl h))⟩
theorem tw_blk {ok : Nat → Prop} {w : World} {a : Nat} {cells : Array Value} (h : w.heap[a]? = some (.cells cells 55 (0, 0))) : TW ok w a := .inl ⟨_, _, h, .inr (.inr rfl)⟩

set_option maxHeartbeats 8000000 in
set_option maxRecDepth 100000 in
theorem WNew (w : World) : Calls Try.prog 10 #[] w fun e w' => ∃ a : Nat, e = .returned (.pointer (some ⟨a, 0, none⟩)) ∧ Wl w' w.heap.size (fun k => w.heap.size ≤ k) a [] 0 [] 0 ∧ Below w.heap.size w w' := by
  have hu71 := Try.underlying71
  have HB := Aside0.mk (Below.refl w.heap.size w)
  go_enter Try.func10, Try.ntmps10
  go_wp2_with (first | ((with_reducible refine gate_callee (f := 21) rfl ?_); refine goesL_ (some 1) rfl rfl Try.func21 (by kernel_rfl) rfl #[] rfl (by (try simp only [List.map_toArray, List.map_cons, List.map_nil]); first | done | rfl) ?_; (with_reducible refine (New _).mono ?_); rintro e w2 ⟨g, rfl, hg, hb, hk⟩; have GE := Aside0.mk hg; have HB2 := Aside0.mk hb; have HK := Aside0.mk hk; clear hg hb hk; refine ⟨_, rfl, ?_⟩) | ((with_reducible refine gate_dst (N := 3) rfl ?_); refine box_event ?hg (N := 3) ?hd (cs := #[.pointer (some ⟨g, 0, none⟩), .slice none 0 0, .int .i64 0]) (t := 55) ?hr ?_; (case hd => rfl); (case hg => rfl); (case hr => first | (go_simp; done) | (go_simp; rfl)); intro a ha w3 hbox hb3; have GA := Aside0.mk ha; have HX := Aside0.mk hbox; have HB3 := Aside0.mk hb3; clear ha hbox hb3))
  go_ret
  exact ⟨a, rfl, ⟨by rw [GA.out]; exact HB2.out.size, g, _, HX.out, Kd.R_nil _ _ _ _ _, GE.out, _, blk_below HK.out HB3.out, Kd.R_nil _ _ _ _ _⟩, below_step HB2.out HB3.out⟩

theorem not_ty {w : World} {k q : Nat} {cells : Array Value} (h : w.heap[k]? = some (.cells cells q (0, 0))) (h5 : q ≠ 5) (h71 : q ≠ 71) : ¬ Ty w k := by
  rintro ⟨cells', q', hc, hq⟩
  rw [h] at hc
  injection hc with hc
  injection hc with _ hc
  subst hc
  exact hq.elim h5 h71
/-- A row of records stays where only a disk is written. -/
theorem R9_kept {w w' : World} {B : Nat} {ok : Nat → Prop} {v : Value} {xs : List ByteArray} (h : Kd.string.R 9 w B ok v xs) (hk : Kept w w' (Ty w)) : Kd.string.R 9 w' B ok v xs := by
  refine Kd.R_mono (Kd.R_move (Kd.R_bound h) (fun k h => ?_)) (fun _ h => h.1)
  obtain ⟨_, _, hlt, q, hq, cells, hc⟩ := h
  have hq9 : q = 9 := by simpa [Kd.string, Kd.scalar] using hq
  subst hq9
  exact hk.2 k hlt (not_ty hc (by decide) (by decide))

set_option maxHeartbeats 8000000 in
set_option maxRecDepth 100000 in
theorem WSure {w : World} {B : Nat} {ok : Nat → Prop} {a : Nat} {b : List Int} {sy : Int} {all : List ByteArray} {sure : Int} (L : Wl w B ok a b sy all sure) : Calls Try.prog 19 #[.pointer (some ⟨a, 0, none⟩)] w fun e w' => e = .returned (.int .i64 sure) ∧ w' = w := by
  obtain ⟨hB, d, v, ha, hr, D⟩ := L
  have c2 : w.cell? ⟨a, 2, none⟩ = some (.int .i64 sure) := (blk_cell ha 2).trans rfl
  go_enter Try.func19, Try.ntmps19
  go_wp2
  go_ret
  exact ⟨rfl, rfl⟩

set_option maxHeartbeats 8000000 in
set_option maxRecDepth 100000 in
theorem WSync {w : World} {B : Nat} {ok : Nat → Prop} {a : Nat} {b : List Int} {sy : Int} {all : List ByteArray} {sure : Int} (L : Wl w B ok a b sy all sure) (hBw : B ≤ w.heap.size) : Calls Try.prog 11 #[.pointer (some ⟨a, 0, none⟩)] w fun e w' => e = .returned (.tuple #[]) ∧ Wl w' B ok a b (b.length : Int) all (all.length : Int) ∧ Below B w w' ∧ Kept w w' (TW ok w) := by
  obtain ⟨hB, d, v, ha, hr, D⟩ := L
  obtain ⟨A, c, rfl, hlc, hC⟩ := Kd.R_reads hr
  have c0 : w.cell? ⟨a, 0, none⟩ = some (.pointer (some ⟨d, 0, none⟩)) := (blk_cell ha 0).trans rfl
  go_enter Try.func11, Try.ntmps11
  go_wp2_with (first | ((with_reducible refine gate_callee (f := 22) rfl ?_); refine goesL_ (some 9) rfl rfl Try.func22 (by kernel_rfl) rfl #[.pointer (some ⟨d, 0, none⟩), .agg #[.int .i64 2, .string ⟨#[]⟩, .int .u64 0]] rfl (by (try simp only [List.map_toArray, List.map_cons, List.map_nil]); first | done | rfl) ?_; (with_reducible refine (DoSync D hBw _ _).mono ?_); rintro e w2 ⟨rfl, hD2, hB2, hK2⟩; refine ⟨_, rfl, ?_⟩; have ha2 := blk_kept ha hK2 (not_ty ha (by decide) (by decide)); have e1 : w2.cell? ⟨a, 1, none⟩ = some (.slice A all.length c) := (blk_cell ha2 1).trans rfl; have e2 : w2.cell? ⟨a, 2, none⟩ = some (.int .i64 sure) := (blk_cell ha2 2).trans rfl; have g2 : w2.frozen? ⟨a, 2, none⟩ = false := blk_frozen ha2 2; have HA2 := Aside0.mk ha2; have HD2 := Aside0.mk hD2; have HB2 := Aside0.mk hB2; have HK2 := Aside0.mk hK2; clear ha2 hD2 hB2 hK2))
  refine bodyPost_end (results_none rfl _ _ _) rfl ⟨rfl, ⟨hB, d, _, by simpa using blk_set HA2.out 2 _, Kd.R_set (R9_kept hr HK2.out) HA2.out (by decide) 2 _, ?_⟩, HB2.out.setCell hB _, (HK2.out.mono (fun k h => TW.of_Ty h)).setCell (.inl (tw_blk ha)) _⟩
  exact HD2.out.kept (Kept.setCell (Kept.refl _ (fun k => k = a)) (.inl rfl) _) (fun k h => by subst h; exact not_ty HA2.out (by decide) (by decide))
end Go.Proofs.Ytjmdigfinkkelaa.Wal
namespace Go.Proofs.Ytjmdigfinkkelaa.Wal
open Go.RowKit Go.Proofs.Ytjmdigfinkkelaa.PAll Go.Proofs.YtjmdigfinkkelaaW.PrintWords Go.Proofs.YtjmdigfinkkelaaW.PrintLast Go.Proofs.YtjmdigfinkkelaaW.PrintMore
set_option linter.unusedVariables false
set_option linter.unusedSimpArgs false

theorem R_empty (w : World) : Kd.string.R 9 (w.alloc (.cells #[] 9)) w.heap.size (fun k => w.heap.size ≤ k) (.slice (some ⟨w.heap.size, 0, none⟩) 0 0) [] :=
  Kd.R_of_own (h1 := fun _ => rfl) ⟨rfl, .inr ⟨w.heap.size, 0, #[], rfl, Nat.le_refl _, heap_alloc_new w _, Nat.le_refl _, by decide, rfl, rfl⟩⟩ (fun k hk => by simp [Value.ownBlock] at hk; omega)

set_option maxHeartbeats 8000000 in
set_option maxRecDepth 100000 in
theorem Clone0 (w : World) : Calls Try.prog 30 #[.slice none 0 0] w fun e w' => e = .returned (.slice none 0 0) ∧ w' = w := by
  have q := Lib.run_eql_slice_nil (P := Try.prog) w 29 9 none 0 0 0 0 Try.underlying29
  rw [show Option.isNone (none : Option Addr) = true from rfl] at q
  go_enter Try.func30, Try.ntmps30
  go_wp2
  go_ret
  exact ⟨rfl, rfl⟩

set_option maxHeartbeats 8000000 in
set_option maxRecDepth 100000 in
theorem Clone1 {w : World} {g c : Nat} {xs : List ByteArray} (hC : Kd.string.C w (some ⟨g, 0, none⟩) xs.length xs) (hl : xs.length ≤ 100000) : Calls Try.prog 30 #[.slice (some ⟨g, 0, none⟩) xs.length c] w fun e w' => ∃ v', e = .returned v' ∧ Kd.string.R 9 w' w.heap.size (fun k => w.heap.size ≤ k) v' xs ∧ Below w.heap.size w w' := by
  have q := Lib.run_eql_slice_nil (P := Try.prog) w 29 9 (some ⟨g, 0, none⟩) xs.length c 0 0 Try.underlying29
  rw [show Option.isNone (some (⟨g, 0, none⟩ : Addr)) = false from rfl] at q
  have HC := Aside0.mk hC
  clear hC
  go_enter Try.func30, Try.ntmps30
  go_wp2_with (first | ((with_reducible refine gate_builtin (b := .append) (xs := #[.tmp 5, .tmp 6]) rfl ?_); at_builtin; refine Kd.R_append_row Value.string ByteArray.empty (h1 := fun _ => rfl) (w0 := w) w.heap.size rfl (.tmp 5) (.tmp 6) 29 9 (.string ⟨#[]⟩) 16 rfl Try.underlying29 info9 rfl (by decide) (.slice (some ⟨w.heap.size, 0, none⟩) 0 0) [] xs (some ⟨g, 0, none⟩) xs.length c (fun k => w.heap.size ≤ k) rfl rfl ?aF (R_empty w) ?aR ?aB ?aS ?aL ?_; (case aF => intro k hk; exact Nat.le_trans (below_size (below_alloc (Below.refl _ _) _)) hk); (case aR => exact Kd.C_below HC.out (below_alloc (Below.refl _ _) _)); (case aB => exact below_alloc (Below.refl _ _) _); (case aS => exact (below_size (below_alloc (Below.refl _ _) _))); (case aL => simp; omega); intro v1 w1 hr1 hb1 hg1 hat1; have HR1 := Aside0.mk hr1; have HB1 := Aside0.mk hb1; clear hr1 hb1 hg1 hat1))
  go_ret
  exact ⟨_, rfl, HR1.out, HB1.out⟩
end Go.Proofs.Ytjmdigfinkkelaa.Wal
namespace Go.Proofs.Ytjmdigfinkkelaa.Wal
open Go.RowKit Go.Proofs.Ytjmdigfinkkelaa.PAll Go.Proofs.YtjmdigfinkkelaaW.PrintWords Go.Proofs.YtjmdigfinkkelaaW.PrintLast Go.Proofs.YtjmdigfinkkelaaW.PrintMore
set_option linter.unusedVariables false
set_option linter.unusedSimpArgs false

set_option maxHeartbeats 8000000 in
set_option maxRecDepth 100000 in
theorem WAll {w : World} {B : Nat} {ok : Nat → Prop} {a : Nat} {b : List Int} {sy : Int} {all : List ByteArray} {sure : Int} (L : Wl w B ok a b sy all sure) (hl : all.length ≤ 100000) : Calls Try.prog 18 #[.pointer (some ⟨a, 0, none⟩)] w fun e w' => ∃ v', e = .returned v' ∧ Kd.string.R 9 w' w.heap.size (fun k => w.heap.size ≤ k) v' all ∧ Below w.heap.size w w' := by
  obtain ⟨hB, d, v, ha, hr, D⟩ := L
  obtain ⟨A, c, rfl, hlc, hC⟩ := Kd.R_reads hr
  obtain ⟨inner, ho⟩ := Kd.R_own hr
  rcases ho.2 with ⟨hv, hn⟩ | ⟨g, cap, cur, hv, _⟩
  · have hx : all = [] := List.eq_nil_of_length_eq_zero hn
    subst hx
    rw [hv] at ha
    have c1 : w.cell? ⟨a, 1, none⟩ = some (.slice none 0 0) := (blk_cell ha 1).trans rfl
    go_enter Try.func18, Try.ntmps18
    go_wp2_with (first | ((with_reducible refine gate_callee (f := 30) rfl ?_); refine goesL_ (some 9) rfl rfl Try.func30 (by kernel_rfl) rfl #[.slice none 0 0] rfl (by (try simp only [List.map_toArray, List.map_cons, List.map_nil]); first | done | rfl) ?_; (with_reducible refine (Clone0 _).mono ?_); rintro e w2 ⟨rfl, rfl⟩; refine ⟨_, rfl, ?_⟩))
    go_ret
    exact ⟨_, rfl, Kd.R_nil _ _ _ _ _, Below.refl _ _⟩
  · injection hv with h1 h2 h3
    subst h1 h3
    have c1 : w.cell? ⟨a, 1, none⟩ = some (.slice (some ⟨g, 0, none⟩) all.length c) := (blk_cell ha 1).trans rfl
    have HC := Aside0.mk hC
    clear hC
    go_enter Try.func18, Try.ntmps18
    go_wp2_with (first | ((with_reducible refine gate_callee (f := 30) rfl ?_); refine goesL_ (some 9) rfl rfl Try.func30 (by kernel_rfl) rfl #[.slice (some ⟨g, 0, none⟩) all.length c] rfl (by (try simp only [List.map_toArray, List.map_cons, List.map_nil]); first | done | rfl) ?_; (with_reducible refine (Clone1 HC.out hl).mono ?_); rintro e w2 ⟨v2, rfl, hR2, hB2⟩; refine ⟨_, rfl, ?_⟩))
    go_ret
    exact ⟨_, rfl, hR2, hB2⟩

theorem wl_put {w : World} {a d : Nat} {v v' : Value} {sure : Int} (ha : w.heap[a]? = some (.cells #[.pointer (some ⟨d, 0, none⟩), v, .int .i64 sure] 55 (0, 0))) : (w.setCell ⟨a, 1, none⟩ v').heap[a]? = some (.cells #[.pointer (some ⟨d, 0, none⟩), v', .int .i64 sure] 55 (0, 0)) := by
  simpa using blk_set ha 1 v'

set_option maxHeartbeats 8000000 in
set_option maxRecDepth 100000 in
/-- A record behind all. -/
theorem WAppend {w : World} {B : Nat} {ok : Nat → Prop} {a : Nat} {b : List Int} {sy : Int} {all : List ByteArray} {sure : Int} (L : Wl w B ok a b sy all sure) (hBw : B ≤ w.heap.size) (hfr : ∀ k, w.heap.size ≤ k → ok k) (hl : all.length ≤ 100000) (K : Nat) (s f : ByteArray) (hf : record_Frame.f K s = some (f, 0)) (hfit : b.length + f.size ≤ 65536) :
    Calls Try.prog 16 #[.pointer (some ⟨a, 0, none⟩), .string s] w fun e w' => e = .returned (.int .i64 0) ∧ Wl w' B ok a (b ++ bytesOf f) sy (all ++ [s]) sure ∧ Below B w w' ∧ Kept w w' (TW ok w) := by
  obtain ⟨hB, d, v, ha, hr, D⟩ := L
  obtain ⟨A, c, rfl, hlc, hC⟩ := Kd.R_reads hr
  have HB := Aside0.mk (Below.refl w.heap.size w)
  go_enter Try.func16, Try.ntmps16
  go_wp2_with (first | ((with_reducible refine gate_callee (f := 29) rfl ?_); refine goesL_ (some 11) rfl rfl Try.func29 (by kernel_rfl) rfl #[.string s] rfl (by (try simp only [List.map_toArray, List.map_cons, List.map_nil]); first | done | rfl) ?_; (with_reducible refine (record_Frame.calls K s f 0 _ hf).mono ?_); rintro e w1 ⟨rfl, hb1⟩; refine ⟨_, rfl, ?_⟩; have c0 : w1.cell? ⟨a, 0, none⟩ = some (.pointer (some ⟨d, 0, none⟩)) := (blk_cell (blk_below ha hb1) 0).trans rfl; have HB1 := Aside0.mk hb1; clear hb1) | ((with_reducible refine gate_callee (f := 22) rfl ?_); refine goesL_ (some 23) rfl rfl Try.func22 (by kernel_rfl) rfl #[.pointer (some ⟨d, 0, none⟩), .agg #[.int .i64 1, .string f, .int .u64 0]] rfl (by (try simp only [List.map_toArray, List.map_cons, List.map_nil]); first | done | rfl) ?_; (with_reducible refine (DoWrite (D.below HB1.out) (Nat.le_trans hBw HB1.out.size) f 0 hfit).mono ?_); rintro e w2 ⟨rfl, hD2, hB2, hK2⟩; refine ⟨_, rfl, ?_⟩; have ha2 := blk_kept (blk_below ha HB1.out) hK2 (not_ty (blk_below ha HB1.out) (by decide) (by decide)); have e1 : w2.cell? ⟨a, 1, none⟩ = some (.slice A all.length c) := (blk_cell ha2 1).trans rfl; have HA2 := Aside0.mk ha2; have HD2 := Aside0.mk hD2; have HB2 := Aside0.mk hB2; have HK2 := Aside0.mk hK2; have HR2 := Aside0.mk (R9_kept (Kd.R_below hr HB1.out) hK2); clear ha2 hD2 hB2 hK2) | ((with_reducible refine gate_builtin (b := .append) (xs := #[.tmp 29, .tmp 31]) rfl ?_); at_builtin; refine Kd.R_append Kd.string (w0 := w) B rfl (.tmp 29) (.tmp 31) 29 9 (.string ⟨#[]⟩) 16 rfl Try.underlying29 info9 rfl (by decide) (by omega) (.slice A all.length c) all s [.string s] ok (fun _ => False) rfl rfl ?aP (fun _ hk => hk.elim) ?aF HR2.out ?aB ?aS ?aL ?_; (case aP => exact rfl); (case aF => exact fun k hk => hfr k (Nat.le_trans (Nat.le_trans HB1.out.size HB2.out.size) hk)); (case aB => exact (HB1.out.mono hBw).trans HB2.out); (case aS => exact Nat.le_trans hBw (Nat.le_trans HB1.out.size HB2.out.size)); (case aL => omega); intro v3 w3 hr3 hb3 hg3 hat3; obtain ⟨A3, k3, rfl⟩ := Kd.R_slice hr3; have ha3 := blk_grown HA2.out hg3 (Kd.R_ne HR2.out HA2.out (by decide)); have e3 : w3.cell? ⟨a, 1, none⟩ = some (.slice A all.length c) := (blk_cell ha3 1).trans rfl; have g3 : w3.frozen? ⟨a, 1, none⟩ = false := blk_frozen ha3 1; have HA3 := Aside0.mk ha3; have HR3 := Aside0.mk hr3; have HB3 := Aside0.mk hb3; have HG3 := Aside0.mk hg3; clear hr3 hb3 hg3 hat3 ha3))
  go_ret
  have hr4 := HR3.out
  rw [List.length_append, List.length_singleton] at hr4
  have k3 : Kept w w3 (TW ok w) := Kept.of_grown HG3.out ((Kept.of_below HB1.out (TW ok w)).then_ HK2.out (fun k t => (Ty.back HB1.out k t).imp TW.of_Ty id)) (fun k hk => .inl (.inr (hr.1 k hk)))
  have d3 : Dk w3 B d (b ++ bytesOf f) sy := HD2.out.kept (Kept.of_grown HG3.out (Kept.refl _ (fun k => (Value.slice A all.length c).ownBlock = some k)) (fun k hk => .inl hk)) (fun k hk => by
    obtain ⟨inner, ho⟩ := Kd.R_own HR2.out
    obtain ⟨cells, hc⟩ := own_typed ho k hk
    exact not_ty hc (by decide) (by decide))
  refine ⟨rfl, ⟨hB, d, _, wl_put HA3.out, Kd.R_set hr4 HA3.out (by decide) 1 _, ?_⟩, HB3.out.setCell hB _, k3.setCell (.inl (tw_blk ha)) _⟩
  exact d3.kept (Kept.setCell (Kept.refl _ (fun k => k = a)) (.inl rfl) _) (fun k h => by subst h; exact not_ty HA3.out (by decide) (by decide))
end Go.Proofs.Ytjmdigfinkkelaa.Wal
namespace Go.Proofs.Ytjmdigfinkkelaa.Wal
open Go.RowKit Go.Proofs.Ytjmdigfinkkelaa.PAll Go.Proofs.YtjmdigfinkkelaaW.PrintWords Go.Proofs.YtjmdigfinkkelaaW.PrintLast Go.Proofs.YtjmdigfinkkelaaW.PrintMore
set_option linter.unusedVariables false
set_option linter.unusedSimpArgs false

theorem Ty.back2 {w w2 : World} (hk : Kept w w2 (Ty w)) (k : Nat) (t : Ty w2 k) : Ty w k ∨ w.heap.size ≤ k := by
  by_cases hlt : k < w.heap.size
  · by_cases ht : Ty w k
    · exact .inl ht
    · obtain ⟨cells, q, hc, hq⟩ := t
      exact .inl ⟨cells, q, (hk.2 k hlt ht).symm.trans hc, hq⟩
  · exact .inr (by omega)
theorem Wl.below {w w' : World} {B : Nat} {ok : Nat → Prop} {a : Nat} {b : List Int} {sy : Int} {all : List ByteArray} {sure : Int} (L : Wl w B ok a b sy all sure) (hb : Below w.heap.size w w') : Wl w' B ok a b sy all sure := by
  obtain ⟨hB, d, v, ha, hr, D⟩ := L
  exact ⟨hB, d, v, blk_below ha hb, Kd.R_below hr hb, D.below hb⟩

set_option maxHeartbeats 8000000 in
set_option maxRecDepth 100000 in
theorem WAppendErr {w : World} (a K : Nat) (s f : ByteArray) (e1 : Int) (hf : record_Frame.f K s = some (f, e1)) (he : e1 ≠ 0) :
    Calls Try.prog 16 #[.pointer (some ⟨a, 0, none⟩), .string s] w fun e w' => e = .returned (.int .i64 e1) ∧ Below w.heap.size w w' := by
  have hb0 : (e1 != 0) = true := bne_iff_ne.mpr he
  go_enter Try.func16, Try.ntmps16
  go_wp2_with (first | ((with_reducible refine gate_callee (f := 29) rfl ?_); refine goesL_ (some 11) rfl rfl Try.func29 (by kernel_rfl) rfl #[.string s] rfl (by (try simp only [List.map_toArray, List.map_cons, List.map_nil]); first | done | rfl) ?_; (with_reducible refine (record_Frame.calls K s f e1 _ hf).mono ?_); rintro e w1 ⟨rfl, hb1⟩; refine ⟨_, rfl, ?_⟩; have HB1 := Aside0.mk hb1; clear hb1))
  go_ret
  exact ⟨rfl, HB1.out⟩

set_option maxHeartbeats 8000000 in
set_option maxRecDepth 100000 in
theorem WAppendFull {w : World} {B : Nat} {ok : Nat → Prop} {a : Nat} {b : List Int} {sy : Int} {all : List ByteArray} {sure : Int} (L : Wl w B ok a b sy all sure) (K : Nat) (s f : ByteArray) (hf : record_Frame.f K s = some (f, 0)) (hl : b.length ≤ 65536) (hfit : ¬ b.length + f.size ≤ 65536) :
    Calls Try.prog 16 #[.pointer (some ⟨a, 0, none⟩), .string s] w fun e w' => e = .returned (.int .i64 7) ∧ Below w.heap.size w w' := by
  obtain ⟨hB, d, v, ha, hr, D⟩ := L
  go_enter Try.func16, Try.ntmps16
  go_wp2_with (first | ((with_reducible refine gate_callee (f := 29) rfl ?_); refine goesL_ (some 11) rfl rfl Try.func29 (by kernel_rfl) rfl #[.string s] rfl (by (try simp only [List.map_toArray, List.map_cons, List.map_nil]); first | done | rfl) ?_; (with_reducible refine (record_Frame.calls K s f 0 _ hf).mono ?_); rintro e w1 ⟨rfl, hb1⟩; refine ⟨_, rfl, ?_⟩; have c0 : w1.cell? ⟨a, 0, none⟩ = some (.pointer (some ⟨d, 0, none⟩)) := (blk_cell (blk_below ha hb1) 0).trans rfl; have HB1 := Aside0.mk hb1; clear hb1) | ((with_reducible refine gate_callee (f := 22) rfl ?_); refine goesL_ (some 23) rfl rfl Try.func22 (by kernel_rfl) rfl #[.pointer (some ⟨d, 0, none⟩), .agg #[.int .i64 1, .string f, .int .u64 0]] rfl (by (try simp only [List.map_toArray, List.map_cons, List.map_nil]); first | done | rfl) ?_; (with_reducible refine (DoFull (D.below HB1.out) f 0 hl hfit).mono ?_); rintro e w2 ⟨rfl, hb2⟩; refine ⟨_, rfl, ?_⟩; have HB2 := Aside0.mk hb2; clear hb2))
  go_ret
  exact ⟨rfl, below_step HB1.out HB2.out⟩

set_option maxHeartbeats 8000000 in
set_option maxRecDepth 100000 in
/-- What a crash leaves of a log. -/
theorem WCrash {w : World} {B : Nat} {ok : Nat → Prop} {a : Nat} {b : List Int} {sy : Nat} {all : List ByteArray} {sure : Int} (L : Wl w B ok a b (sy : Int) all sure) (hBw : B ≤ w.heap.size) (hfr : ∀ k, w.heap.size ≤ k → ok k) (keep : Int) (hsl : sy ≤ b.length) (hl : b.length ≤ 65536) (hc : (crashL keep b sy).length ≤ 65536) (K : Nat) (l : List ByteArray) (n : Nat) (hn : n ≤ (crashL keep b sy).length) (hp : record_Prefix.f K (strOfNums (crashL keep b sy)) = some (l, (n : Int))) :
    Calls Try.prog 13 #[.pointer (some ⟨a, 0, none⟩), .int .u64 keep] w fun e w' => e = .returned (.tuple #[]) ∧ Wl w' B ok a ((crashL keep b sy).take n) (n : Int) l (l.length : Int) ∧ Below B w w' ∧ Kept w w' (TW ok w) := by
  obtain ⟨hB, d, v, ha, hr, D⟩ := L
  have c0 : w.cell? ⟨a, 0, none⟩ = some (.pointer (some ⟨d, 0, none⟩)) := (blk_cell ha 0).trans rfl
  go_enter Try.func13, Try.ntmps13
  go_wp2_with (first | ((with_reducible refine gate_callee (f := 22) rfl ?_); refine goesL_ (some 14) rfl rfl Try.func22 (by kernel_rfl) rfl #[.pointer (some ⟨d, 0, none⟩), .agg #[.int .i64 3, .string ⟨#[]⟩, .int .u64 keep]] rfl (by (try simp only [List.map_toArray, List.map_cons, List.map_nil]); first | done | rfl) ?_; (with_reducible refine (DoCrash D hBw _ keep hsl hl).mono ?_); rintro e w2 ⟨rfl, hD2, hB2, hK2⟩; refine ⟨_, rfl, ?_⟩; have ha2 := blk_kept ha hK2 (not_ty ha (by decide) (by decide)); have e2 : w2.cell? ⟨a, 0, none⟩ = some (.pointer (some ⟨d, 0, none⟩)) := (blk_cell ha2 0).trans rfl; have HA2 := Aside0.mk ha2; have HD2 := Aside0.mk hD2; have HB2 := Aside0.mk hB2; have HK2 := Aside0.mk hK2; clear ha2 hD2 hB2 hK2) | ((with_reducible refine gate_callee (f := 25) rfl ?_); refine goesL_ (some 20) rfl rfl Try.func25 (by kernel_rfl) rfl #[.pointer (some ⟨d, 0, none⟩)] rfl (by (try simp only [List.map_toArray, List.map_cons, List.map_nil]); first | done | rfl) ?_; (with_reducible refine (Text HD2.out).mono ?_); rintro e w3 ⟨rfl, hb3⟩; refine ⟨_, rfl, ?_⟩; have HB3 := Aside0.mk hb3; clear hb3) | ((with_reducible refine gate_callee (f := 24) rfl ?_); refine goesL_ (some 21) rfl rfl Try.func24 (by kernel_rfl) rfl #[.string (strOfNums (crashL keep b sy))] rfl (by (try simp only [List.map_toArray, List.map_cons, List.map_nil]); first | done | rfl) ?_; (with_reducible refine (record_Prefix.calls K _ l (n : Int) _ hp).mono ?_); rintro e w4 ⟨v4, rfl, hr4, hb4⟩; refine ⟨_, rfl, ?_⟩; obtain ⟨A4, k4, rfl⟩ := Kd.R_slice hr4; have ha4 := blk_below HA2.out (below_step HB3.out hb4); have e4 : w4.cell? ⟨a, 0, none⟩ = some (.pointer (some ⟨d, 0, none⟩)) := (blk_cell ha4 0).trans rfl; have HA4 := Aside0.mk ha4; have HR4 := Aside0.mk hr4; have HB4 := Aside0.mk hb4; clear ha4 hr4 hb4) | ((with_reducible refine gate_callee (f := 26) rfl ?_); refine goesL_ (some 29) rfl rfl Try.func26 (by kernel_rfl) rfl #[.pointer (some ⟨d, 0, none⟩), .int .i64 (n : Int)] rfl (by (try simp only [List.map_toArray, List.map_cons, List.map_nil]); first | done | rfl) ?_; (with_reducible refine (Cut (HD2.out.below (below_step HB3.out HB4.out)) (Nat.le_trans hBw (Nat.le_trans HB2.out.size (below_step HB3.out HB4.out).size)) n hn hc rfl).mono ?_); rintro e w5 ⟨rfl, hD5, hB5, hK5⟩; refine ⟨_, rfl, ?_⟩; have ha5 := blk_kept HA4.out hK5 (not_ty HA4.out (by decide) (by decide)); have e5 : w5.cell? ⟨a, 1, none⟩ = some v := (blk_cell ha5 1).trans rfl; have e6 : w5.cell? ⟨a, 2, none⟩ = some (.int .i64 sure) := (blk_cell ha5 2).trans rfl; have g5 : w5.frozen? ⟨a, 1, none⟩ = false := blk_frozen ha5 1; have g6 : w5.frozen? ⟨a, 2, none⟩ = false := blk_frozen ha5 2; have HA5 := Aside0.mk ha5; have HD5 := Aside0.mk hD5; have HB5 := Aside0.mk hB5; have HK5 := Aside0.mk hK5; have HR5 := Aside0.mk (R9_kept HR4.out hK5); clear ha5 hD5 hB5 hK5))
  have h3 : w.heap.size ≤ w3.heap.size := Nat.le_trans HB2.out.size HB3.out.size
  have h24 := below_step HB3.out HB4.out
  have hR : Kd.string.R 9 w5 B ok (.slice A4 l.length k4) l := Kd.R_lower (Kd.R_mono (Kd.R_bound HR5.out) (fun k hk => hfr k (Nat.le_trans h3 hk.2.1))) (Nat.le_trans hBw h3)
  have hb5 : Below B w w5 := (HB2.out.trans (h24.mono (Nat.le_trans hBw HB2.out.size))).trans HB5.out
  have k5 : Kept w w5 (TW ok w) := ((HK2.out.mono (fun k t => TW.of_Ty t)).below h24).then_ HK5.out (fun k t => by
    rcases Ty.back h24 k t with t | t
    · exact (Ty.back2 HK2.out k t).imp TW.of_Ty id
    · exact .inr (Nat.le_trans HB2.out.size t))
  refine bodyPost_end (results_none rfl _ _ _) rfl ⟨rfl, ⟨hB, d, _, by simpa using blk_set (wl_put HA5.out) 2 _, Kd.R_set (Kd.R_set hR HA5.out (by decide) 1 _) (wl_put HA5.out) (by decide) 2 _, ?_⟩, (hb5.setCell hB _).setCell hB _, (k5.setCell (.inl (tw_blk ha)) _).setCell (.inl (tw_blk ha)) _⟩
  exact HD5.out.kept (Kept.setCell (Kept.setCell (Kept.refl _ (fun k => k = a)) (.inl rfl) _) (.inl rfl) _) (fun k h => by subst h; exact not_ty HA5.out (by decide) (by decide))

/-! ### a log that is none -/
set_option maxHeartbeats 8000000 in
set_option maxRecDepth 100000 in
theorem NSync (w : World) : Calls Try.prog 11 #[.pointer none] w fun e w' => e = .returned (.tuple #[]) ∧ w' = w := by
  go_enter Try.func11, Try.ntmps11
  go_wp2
  exact bodyPost_end (results_none rfl _ _ _) rfl ⟨rfl, rfl⟩
set_option maxHeartbeats 8000000 in
set_option maxRecDepth 100000 in
theorem NCrash (w : World) (keep : Int) : Calls Try.prog 13 #[.pointer none, .int .u64 keep] w fun e w' => e = .returned (.tuple #[]) ∧ w' = w := by
  go_enter Try.func13, Try.ntmps13
  go_wp2
  exact bodyPost_ret (results_none rfl _ _ _) rfl ⟨rfl, rfl⟩
set_option maxHeartbeats 8000000 in
set_option maxRecDepth 100000 in
theorem NAppend (w : World) (s : ByteArray) : Calls Try.prog 16 #[.pointer none, .string s] w fun e w' => e = .returned (.int .i64 1) ∧ w' = w := by
  go_enter Try.func16, Try.ntmps16
  go_wp2
  go_ret
  exact ⟨rfl, rfl⟩
set_option maxHeartbeats 8000000 in
set_option maxRecDepth 100000 in
theorem NAll (w : World) : Calls Try.prog 18 #[.pointer none] w fun e w' => e = .returned (.slice none 0 0) ∧ w' = w := by
  go_enter Try.func18, Try.ntmps18
  go_wp2
  go_ret
  exact ⟨rfl, rfl⟩
set_option maxHeartbeats 8000000 in
set_option maxRecDepth 100000 in
theorem NSure (w : World) : Calls Try.prog 19 #[.pointer none] w fun e w' => e = .returned (.int .i64 0) ∧ w' = w := by
  go_enter Try.func19, Try.ntmps19
  go_wp2
  go_ret
  exact ⟨rfl, rfl⟩
end Go.Proofs.Ytjmdigfinkkelaa.Wal
namespace Go.Proofs.Ytjmdigfinkkelaa.Wal

theorem tl_spec (keep first : Int) (m : Nat) : ∀ (at_ : Nat) (b : List Int) (e : Nat), e ≤ at_ → at_ + m = b.length →
    (tl keep first m at_ b e).1.length = b.length ∧ e ≤ (tl keep first m at_ b e).2 ∧ (tl keep first m at_ b e).2 ≤ b.length ∧ (tl keep first m at_ b e).1.take at_ = b.take at_ := by
  induction m with
  | zero =>
    intro at_ b e he hm
    rw [tl]
    exact ⟨rfl, Nat.le_refl _, by omega, rfl⟩
  | succ m ih =>
    intro at_ b e he hm
    rw [tl]
    by_cases hk : kp keep ((at_ : Int) / 64 - first) = true
    · rw [if_pos hk]
      obtain ⟨h1, h2, h3, h4⟩ := ih (at_ + 1) b (at_ + 1) (Nat.le_refl _) (by omega)
      refine ⟨h1, by omega, h3, ?_⟩
      have := congrArg (List.take at_) h4
      rwa [List.take_take, List.take_take, Nat.min_eq_left (by omega)] at this
    · rw [if_neg hk]
      obtain ⟨h1, h2, h3, h4⟩ := ih (at_ + 1) (b.set at_ 0) e (by omega) (by rw [List.length_set]; omega)
      rw [List.length_set] at h1 h3
      refine ⟨h1, h2, h3, ?_⟩
      have := congrArg (List.take at_) h4
      rw [List.take_take, List.take_take, Nat.min_eq_left (by omega)] at this
      rw [this, List.take_set_of_le (Nat.le_refl _)]

/-- Where no sector is kept the end stays. -/
theorem tl_none (keep first : Int) (m : Nat) : ∀ (at_ : Nat) (b : List Int) (e : Nat), (∀ i : Nat, at_ ≤ i → i < at_ + m → kp keep ((i : Int) / 64 - first) = false) → (tl keep first m at_ b e).2 = e := by
  induction m with
  | zero => intro at_ b e _; rw [tl]
  | succ m ih =>
    intro at_ b e h
    rw [tl, h at_ (Nat.le_refl _) (by omega), if_neg (by decide)]
    exact ih (at_ + 1) _ e (fun i h1 h2 => h i (by omega) (by omega))

/-- Where sectors are kept from the first on, without a gap, what is left is the beginning. -/
theorem tl_begin (keep first : Int) (m : Nat) : ∀ (at_ : Nat) (b : List Int) (e : Nat), e ≤ at_ → at_ + m = b.length →
    (∀ i j : Nat, at_ ≤ i → i ≤ j → j < b.length → kp keep ((j : Int) / 64 - first) = true → kp keep ((i : Int) / 64 - first) = true) → (kp keep ((at_ : Int) / 64 - first) = true → e = at_ ∨ True) →
    (tl keep first m at_ b e).1.take (tl keep first m at_ b e).2 = b.take (tl keep first m at_ b e).2 := by
  induction m with
  | zero => intro at_ b e _ _ _ _; rw [tl]
  | succ m ih =>
    intro at_ b e he hm hg _
    by_cases hk : kp keep ((at_ : Int) / 64 - first) = true
    · rw [tl, if_pos hk]
      exact ih (at_ + 1) b (at_ + 1) (Nat.le_refl _) (by omega) (fun i j h1 h2 h3 => hg i j (by omega) h2 h3) (fun _ => .inr trivial)
    · have hn : (tl keep first (m + 1) at_ b e).2 = e := tl_none keep first (m + 1) at_ b e (fun i h1 h2 => by
        cases h : kp keep ((i : Int) / 64 - first) with
        | false => rfl
        | true => exact absurd (hg at_ i (Nat.le_refl _) h1 (by omega) h) hk)
      obtain ⟨_, _, _, h4⟩ := tl_spec keep first (m + 1) at_ b e he hm
      rw [hn]
      have := congrArg (List.take e) h4
      rwa [List.take_take, List.take_take, Nat.min_eq_left he] at this
end Go.Proofs.Ytjmdigfinkkelaa.Wal
namespace Go.Proofs.Ytjmdigfinkkelaa.Wal
open Go.RowKit Go.Proofs.Ytjmdigfinkkelaa.PAll Go.Proofs.YtjmdigfinkkelaaW.PrintWords Go.Proofs.YtjmdigfinkkelaaW.PrintLast Go.Proofs.YtjmdigfinkkelaaW.PrintMore SG Go.Proofs.Ytjmdigfinkkelaa.Fun

theorem bytesOf_app (a b : By) : bytesOf (mk a) ++ bytesOf (mk b) = bytesOf (mk (a ++ b)) := by simp [bytesOf, mk]
theorem bytesOf_len (a : By) : (bytesOf (mk a)).length = a.length := by simp [bytesOf, mk]
theorem str_bytesOf (a : By) : strOfNums (bytesOf (mk a)) = mk a := by
  rw [nums_mk]
  refine congrArg mk ?_
  simp only [bytesOf, mk_data, List.map_map]
  refine (List.map_congr_left (g := id) fun x _ => ?_).trans (List.map_id a)
  simp
theorem bytesOf_take (a : By) (n : Nat) : (bytesOf (mk a)).take n = bytesOf (mk (a.take n)) := by simp [bytesOf, mk, List.map_take]

theorem flat_count (ls : List By) : 8 * ls.length ≤ (flat ls).length := by
  induction ls with
  | nil => simp
  | cons x r ih => rw [flat_cons, List.length_append, frame_length, List.length_cons]; omega
theorem flat_take_le (ls : List By) (n : Nat) : (flat (ls.take n)).length ≤ (flat ls).length := by
  have h := congrArg List.length (flat_append (ls.take n) (ls.drop n))
  rw [List.take_append_drop, List.length_append] at h
  omega

/-- A log whose records are all, of which sure are. -/
def Wq (w : World) (B : Nat) (ok : Nat → Prop) (a : Nat) (all : List By) (sure : Nat) : Prop :=
  sure ≤ all.length ∧ (∀ x ∈ all, x.length ≤ 4096) ∧ (flat all).length ≤ 65536 ∧ Wl w B ok a (bytesOf (mk (flat all))) ((flat (all.take sure)).length : Int) (all.map mk) (sure : Int)

theorem Wq.below {w w' : World} {B : Nat} {ok : Nat → Prop} {a : Nat} {all : List By} {sure : Nat} (L : Wq w B ok a all sure) (hb : Below w.heap.size w w') : Wq w' B ok a all sure := ⟨L.1, L.2.1, L.2.2.1, L.2.2.2.below hb⟩
theorem Wq.count {w : World} {B : Nat} {ok : Nat → Prop} {a : Nat} {all : List By} {sure : Nat} (L : Wq w B ok a all sure) : (all.map mk).length ≤ 100000 := by
  have h1 := flat_count all
  have h2 := L.2.2.1
  rw [List.length_map]
  omega

theorem QNew (w : World) : Calls Try.prog 10 #[] w fun e w' => ∃ a : Nat, e = .returned (.pointer (some ⟨a, 0, none⟩)) ∧ Wq w' w.heap.size (fun k => w.heap.size ≤ k) a [] 0 ∧ Below w.heap.size w w' := by
  refine (WNew w).mono ?_
  rintro e w' ⟨a, rfl, h1, h2⟩
  exact ⟨a, rfl, ⟨Nat.le_refl _, by simp, by simp [flat_nil], h1⟩, h2⟩

theorem QSync {w : World} {B : Nat} {ok : Nat → Prop} {a : Nat} {all : List By} {sure : Nat} (L : Wq w B ok a all sure) (hBw : B ≤ w.heap.size) : Calls Try.prog 11 #[.pointer (some ⟨a, 0, none⟩)] w fun e w' => e = .returned (.tuple #[]) ∧ Wq w' B ok a all all.length ∧ Below B w w' ∧ Kept w w' (TW ok w) := by
  refine (WSync L.2.2.2 hBw).mono ?_
  rintro e w' ⟨rfl, h1, h2, h3⟩
  rw [bytesOf_len, List.length_map] at h1
  exact ⟨rfl, ⟨Nat.le_refl _, L.2.1, L.2.2.1, by rw [List.take_length]; exact h1⟩, h2, h3⟩

theorem QSure {w : World} {B : Nat} {ok : Nat → Prop} {a : Nat} {all : List By} {sure : Nat} (L : Wq w B ok a all sure) : Calls Try.prog 19 #[.pointer (some ⟨a, 0, none⟩)] w fun e w' => e = .returned (.int .i64 (sure : Int)) ∧ w' = w := WSure L.2.2.2
theorem QAll {w : World} {B : Nat} {ok : Nat → Prop} {a : Nat} {all : List By} {sure : Nat} (L : Wq w B ok a all sure) : Calls Try.prog 18 #[.pointer (some ⟨a, 0, none⟩)] w fun e w' => ∃ v', e = .returned v' ∧ Kd.string.R 9 w' w.heap.size (fun k => w.heap.size ≤ k) v' (all.map mk) ∧ Below w.heap.size w w' := WAll L.2.2.2 L.count

/-- What an append does: the answer, and the records then. -/
def appE (all : List By) (s : By) : Int := if 4096 < s.length then 2 else if (flat all).length + (8 + s.length) ≤ 65536 then 0 else 7
def appL (all : List By) (s : By) : List By := if appE all s = 0 then all ++ [s] else all

theorem QAppend {w : World} {B : Nat} {ok : Nat → Prop} {a : Nat} {all : List By} {sure : Nat} (L : Wq w B ok a all sure) (hBw : B ≤ w.heap.size) (hfr : ∀ k, w.heap.size ≤ k → ok k) (s : By) (hs : s.length ≤ 140737488351232) :
    Calls Try.prog 16 #[.pointer (some ⟨a, 0, none⟩), .string (mk s)] w fun e w' => e = .returned (.int .i64 (appE all s)) ∧ Wq w' B ok a (appL all s) sure ∧ Below B w w' ∧ Kept w w' (TW ok w) := by
  obtain ⟨K, hK⟩ := Ev.rounds (E_Frame s hs)
  unfold frameA at hK
  by_cases h1 : 4096 < s.length
  · rw [if_pos h1] at hK
    have e1 : appE all s = 2 := by unfold appE; rw [if_pos h1]
    have e2 : appL all s = all := by unfold appL; rw [e1, if_neg (by decide)]
    rw [e1, e2]
    refine (WAppendErr a K _ _ 2 hK (by decide)).mono ?_
    rintro e w' ⟨rfl, hb⟩
    exact ⟨rfl, L.below hb, hb.mono hBw, Kept.of_below hb _⟩
  rw [if_neg h1] at hK
  by_cases h2 : (flat all).length + (8 + s.length) ≤ 65536
  · have e1 : appE all s = 0 := by unfold appE; rw [if_neg h1, if_pos h2]
    have e2 : appL all s = all ++ [s] := by unfold appL; rw [e1, if_pos rfl]
    rw [e1, e2]
    refine (WAppend L.2.2.2 hBw hfr L.count K _ _ hK (by rw [bytesOf_len, mk_size, frame_length]; omega)).mono ?_
    rintro e w' ⟨rfl, h3, h4, h5⟩
    have hf : flat (all ++ [s]) = flat all ++ frame s := by rw [flat_append, flat_cons, flat_nil, List.append_nil]
    rw [bytesOf_app, ← hf] at h3
    refine ⟨rfl, ⟨by rw [List.length_append]; exact Nat.le_trans L.1 (Nat.le_add_right _ _), ?_, by rw [hf, List.length_append, frame_length]; exact h2, ?_⟩, h4, h5⟩
    · intro x hx
      rcases List.mem_append.1 hx with hx | hx
      · exact L.2.1 x hx
      · rw [List.mem_singleton.1 hx]; omega
    · rw [List.take_append_of_le_length L.1, List.map_append]
      exact h3
  · have e1 : appE all s = 7 := by unfold appE; rw [if_neg h1, if_neg h2]
    have e2 : appL all s = all := by unfold appL; rw [e1, if_neg (by decide)]
    rw [e1, e2]
    refine (WAppendFull L.2.2.2 K _ _ hK (by rw [bytesOf_len]; exact L.2.2.1) (by rw [bytesOf_len, mk_size, frame_length]; exact h2)).mono ?_
    rintro e w' ⟨rfl, hb⟩
    exact ⟨rfl, L.below hb, hb.mono hBw, Kept.of_below hb _⟩
end Go.Proofs.Ytjmdigfinkkelaa.Wal
namespace Go.Proofs.Ytjmdigfinkkelaa.Wal
open Go.RowKit Go.Proofs.Ytjmdigfinkkelaa.PAll Go.Proofs.YtjmdigfinkkelaaW.PrintWords Go.Proofs.YtjmdigfinkkelaaW.PrintLast Go.Proofs.YtjmdigfinkkelaaW.PrintMore SG Go.Proofs.Ytjmdigfinkkelaa.Fun

theorem bytesOf_set (l : By) (i : Nat) : (bytesOf (mk l)).set i 0 = bytesOf (mk (l.set i 0)) := by
  simp [bytesOf, mk, List.map_set]
theorem tl_bytes (keep first : Int) (m : Nat) : ∀ (at_ : Nat) (l : By) (e : Nat), ∃ l' : By, (tl keep first m at_ (bytesOf (mk l)) e).1 = bytesOf (mk l') := by
  induction m with
  | zero => intro at_ l e; exact ⟨l, by rw [tl]⟩
  | succ m ih =>
    intro at_ l e
    rw [tl]
    by_cases hk : kp keep ((at_ : Int) / 64 - first) = true
    · rw [if_pos hk]; exact ih _ _ _
    · rw [if_neg hk, bytesOf_set]; exact ih _ _ _
/-- A crash, on bytes. -/
def crB (keep : Int) (l : By) (sy : Nat) : By := (crashL keep (bytesOf (mk l)) sy).map fun i => UInt8.ofNat i.toNat
theorem back_bytes (l : By) : (bytesOf (mk l)).map (fun i => UInt8.ofNat i.toNat) = l := by
  simp [bytesOf, mk, List.map_map, Function.comp_def]
theorem crB_eq (keep : Int) (l : By) (sy : Nat) : crashL keep (bytesOf (mk l)) sy = bytesOf (mk (crB keep l sy)) := by
  obtain ⟨l', h⟩ := tl_bytes keep ((sy : Int) / 64) ((bytesOf (mk l)).length - sy) sy l sy
  unfold crB crashL
  rw [h, bytesOf_take, back_bytes]
theorem crB_spec (keep : Int) (l : By) (sy : Nat) (h : sy ≤ l.length) : sy ≤ (crB keep l sy).length ∧ (crB keep l sy).length ≤ l.length ∧ (crB keep l sy).take sy = l.take sy := by
  have e := crB_eq keep l sy
  obtain ⟨h1, h2, h3, h4⟩ := tl_spec keep ((sy : Int) / 64) ((bytesOf (mk l)).length - sy) sy (bytesOf (mk l)) sy (Nat.le_refl _) (by rw [bytesOf_len]; omega)
  have hl : (crB keep l sy).length = (tl keep ((sy : Int) / 64) ((bytesOf (mk l)).length - sy) sy (bytesOf (mk l)) sy).2 := by
    have := congrArg List.length e
    rw [bytesOf_len] at this
    rw [← this]
    unfold crashL
    rw [List.length_take, h1]
    exact Nat.min_eq_left h3
  have hbl := bytesOf_len l
  refine ⟨by omega, by omega, ?_⟩
  have ht := congrArg (List.take sy) e
  rw [bytesOf_take] at ht
  unfold crashL at ht
  rw [List.take_take, Nat.min_eq_left h2, h4, bytesOf_take] at ht
  rw [← back_bytes ((crB keep l sy).take sy), ← ht, back_bytes]

/-- The records behind a crash. -/
def crL (keep : Int) (all : List By) (sure : Nat) : List By := (pre (crB keep (flat all) (flat (all.take sure)).length)).1

set_option maxRecDepth 100000 in
theorem QCrash {w : World} {B : Nat} {ok : Nat → Prop} {a : Nat} {all : List By} {sure : Nat} (L : Wq w B ok a all sure) (hBw : B ≤ w.heap.size) (hfr : ∀ k, w.heap.size ≤ k → ok k) (keep : Int) :
    Calls Try.prog 13 #[.pointer (some ⟨a, 0, none⟩), .int .u64 keep] w fun e w' => e = .returned (.tuple #[]) ∧ Wq w' B ok a (crL keep all sure) (crL keep all sure).length ∧ Below B w w' ∧ Kept w w' (TW ok w) := by
  have hsy := flat_take_le all sure
  obtain ⟨s1, s2, s3⟩ := crB_spec keep (flat all) (flat (all.take sure)).length hsy
  have hL := L.2.2.1
  have hc := crB_eq keep (flat all) (flat (all.take sure)).length
  obtain ⟨p1, p2, p3⟩ := pre_flat _ (crB keep (flat all) (flat (all.take sure)).length) rfl
  obtain ⟨K, hK⟩ := Ev.rounds (E_Prefix (crB keep (flat all) (flat (all.take sure)).length) (by omega))
  unfold preA at hK
  refine (WCrash L.2.2.2 hBw hfr keep (by rw [bytesOf_len]; exact hsy) (by rw [bytesOf_len]; exact hL) (by rw [hc, bytesOf_len]; omega) K _ _ (by rw [hc, bytesOf_len]; exact p2) (by rw [hc, str_bytesOf]; exact hK)).mono ?_
  rintro e w' ⟨rfl, h1, h2, h3⟩
  rw [hc, bytesOf_take, ← p1, List.length_map] at h1
  have hn : (pre (crB keep (flat all) (flat (all.take sure)).length)).2 = (flat (crL keep all sure)).length := by
    unfold crL
    rw [p1, List.length_take]
    exact (Nat.min_eq_left p2).symm
  rw [hn] at h1
  exact ⟨rfl, ⟨Nat.le_refl _, p3, by rw [← hn]; omega, by rw [List.take_length]; exact h1⟩, h2, h3⟩

/-- What was sure is there, at the front. -/
theorem crL_sure (keep : Int) (all : List By) (sure : Nat) (h : ∀ x ∈ all, x.length ≤ 4096) : ∃ r, crL keep all sure = all.take sure ++ r := by
  obtain ⟨s1, s2, s3⟩ := crB_spec keep (flat all) (flat (all.take sure)).length (flat_take_le all sure)
  have hf : (flat all).take (flat (all.take sure)).length = flat (all.take sure) := by
    have := flat_append (all.take sure) (all.drop sure)
    rw [List.take_append_drop] at this
    rw [this, List.take_left]
  rw [hf] at s3
  have e : crB keep (flat all) (flat (all.take sure)).length = flat (all.take sure) ++ (crB keep (flat all) (flat (all.take sure)).length).drop (flat (all.take sure)).length := by
    conv => lhs; rw [← List.take_append_drop (flat (all.take sure)).length (crB keep (flat all) (flat (all.take sure)).length), s3]
  unfold crL
  rw [e, pre_append _ (fun x hx => h x (List.mem_of_mem_take hx))]
  exact ⟨_, rfl⟩
end Go.Proofs.Ytjmdigfinkkelaa.Wal
namespace Go.Proofs.Ytjmdigfinkkelaa.Wal
open Go.RowKit Go.Proofs.Ytjmdigfinkkelaa.PAll Go.Proofs.YtjmdigfinkkelaaW.PrintWords Go.Proofs.YtjmdigfinkkelaaW.PrintLast Go.Proofs.YtjmdigfinkkelaaW.PrintMore SG Go.Proofs.Ytjmdigfinkkelaa.Fun

theorem kp_zero (k : Int) : kp 0 k = false := by
  unfold kp
  rw [Int.zero_ediv]
  have : (Go.bits .and .u64 0 1 == 1) = false := by decide
  rw [this, Bool.and_false]

theorem crB_zero (l : By) (sy : Nat) (h : sy ≤ l.length) : crB 0 l sy = l.take sy := by
  obtain ⟨s1, s2, s3⟩ := crB_spec 0 l sy h
  have e := congrArg List.length (crB_eq 0 l sy)
  rw [bytesOf_len] at e
  unfold crashL at e
  rw [tl_none _ _ _ _ _ _ (fun i _ _ => kp_zero _), List.length_take] at e
  rw [← s3, List.take_of_length_le (by omega)]

/-- Where nothing is kept what was sure is left. -/
theorem crL_zero (all : List By) (sure : Nat) (h : ∀ x ∈ all, x.length ≤ 4096) : crL 0 all sure = all.take sure := by
  unfold crL
  rw [crB_zero _ _ (flat_take_le all sure)]
  have hf : (flat all).take (flat (all.take sure)).length = flat (all.take sure) := by
    have := flat_append (all.take sure) (all.drop sure)
    rw [List.take_append_drop] at this
    rw [this, List.take_left]
  have hp := pre_append (all.take sure) (fun x hx => h x (List.mem_of_mem_take hx)) []
  rw [List.append_nil] at hp
  rw [hf, hp]
  show all.take sure ++ (pre []).1 = _
  rw [pre_other (by decide), List.append_nil]
end Go.Proofs.Ytjmdigfinkkelaa.Wal
namespace Go.Proofs.Ytjmdigfinkkelaa.Wal
open Go.RowKit Go.Proofs.Ytjmdigfinkkelaa.PAll Go.Proofs.YtjmdigfinkkelaaW.PrintWords Go.Proofs.YtjmdigfinkkelaaW.PrintLast Go.Proofs.YtjmdigfinkkelaaW.PrintMore SG Go.Proofs.Ytjmdigfinkkelaa.Fun
set_option linter.unusedVariables false
set_option linter.unusedSimpArgs false

theorem app1 {w : World} {B : Nat} {ok : Nat → Prop} {a : Nat} (L : Wq w B ok a [] 0) (hBw : B ≤ w.heap.size) (hfr : ∀ k, w.heap.size ≤ k → ok k) :
    Calls Try.prog 16 #[.pointer (some ⟨a, 0, none⟩), .string (mk [97, 98])] w fun e w' => e = .returned (.int .i64 0) ∧ Wq w' B ok a [[97, 98]] 0 ∧ Below B w w' := by
  refine (QAppend L hBw hfr [97, 98] (by decide)).mono ?_
  rintro e w' ⟨rfl, h1, h2, _⟩
  exact ⟨by rw [show appE [] [97, 98] = 0 by decide], by rw [show appL [] [97, 98] = [[97, 98]] by decide] at h1; exact h1, h2⟩
theorem app2 {w : World} {B : Nat} {ok : Nat → Prop} {a : Nat} (L : Wq w B ok a [[97, 98]] 1) (hBw : B ≤ w.heap.size) (hfr : ∀ k, w.heap.size ≤ k → ok k) :
    Calls Try.prog 16 #[.pointer (some ⟨a, 0, none⟩), .string (mk [99, 100])] w fun e w' => e = .returned (.int .i64 0) ∧ Wq w' B ok a [[97, 98], [99, 100]] 1 ∧ Below B w w' := by
  have e0 : appE [[97, 98]] [99, 100] = 0 := by
    unfold appE
    rw [if_neg (by decide), if_pos (by simp [flat_cons, flat_nil, frame_length])]
  have e1 : appL [[97, 98]] [99, 100] = [[97, 98], [99, 100]] := by
    unfold appL
    rw [e0, if_pos rfl]
    rfl
  refine (QAppend L hBw hfr [99, 100] (by decide)).mono ?_
  rintro e w' ⟨rfl, h1, h2, _⟩
  exact ⟨by rw [e0], by rw [e1] at h1; exact h1, h2⟩
theorem crash0 {w : World} {B : Nat} {ok : Nat → Prop} {a : Nat} (L : Wq w B ok a [[97, 98], [99, 100]] 1) (hBw : B ≤ w.heap.size) (hfr : ∀ k, w.heap.size ≤ k → ok k) :
    Calls Try.prog 13 #[.pointer (some ⟨a, 0, none⟩), .int .u64 0] w fun e w' => e = .returned (.tuple #[]) ∧ Wq w' B ok a [[97, 98]] 1 ∧ Below B w w' := by
  have e0 : crL 0 [[97, 98], [99, 100]] 1 = [[97, 98]] := (crL_zero _ _ L.2.1).trans rfl
  refine (QCrash L hBw hfr 0).mono ?_
  rintro e w' ⟨rfl, h1, h2, _⟩
  rw [e0] at h1
  exact ⟨rfl, h1, h2⟩
end Go.Proofs.Ytjmdigfinkkelaa.Wal
namespace Go.Proofs.Ytjmdigfinkkelaa.Wal
open Go.RowKit Go.Proofs.Ytjmdigfinkkelaa.PAll Go.Proofs.YtjmdigfinkkelaaW.PrintWords Go.Proofs.YtjmdigfinkkelaaW.PrintLast Go.Proofs.YtjmdigfinkkelaaW.PrintMore SG Go.Proofs.Ytjmdigfinkkelaa.Fun
set_option linter.unusedVariables false
set_option linter.unusedSimpArgs false

theorem C_one (w : World) (s : ByteArray) : Kd.string.C (w.alloc (.cells #[.string s] 9)) (some ⟨w.heap.size, 0, none⟩) 1 [s] := by
  have h : Kd.string.R 9 (w.alloc (.cells #[.string s] 9)) w.heap.size (fun _ => True) (.slice (some ⟨w.heap.size, 0, none⟩) 1 1) [s] := Kd.R_of_own (h1 := fun _ => rfl) ⟨rfl, .inr ⟨w.heap.size, 1, #[.string s], rfl, Nat.le_refl _, heap_alloc_new w _, Nat.le_refl _, by decide, rfl, rfl⟩⟩ (fun _ _ => trivial)
  obtain ⟨A, c, he, _, hC⟩ := Kd.R_reads h
  injection he with h1 _ _
  rw [h1]
  exact hC

set_option maxHeartbeats 8000000 in
set_option maxRecDepth 100000 in
theorem awake (w : World) : Calls Try.prog 9 #[] w fun e w' => e = .returned (.bool true) ∧ Below w.heap.size w w' := by
  obtain ⟨KT, hKT⟩ := Ev.rounds (E_Texts [mk [97, 98]] (by decide))
  go_enter Try.func9, Try.ntmps9
  go_wp2_with (first | ((with_reducible refine gate_callee (f := 10) rfl ?_); refine goesL_ (some 6) rfl rfl Try.func10 (by kernel_rfl) rfl #[] rfl (by (try simp only [List.map_toArray, List.map_cons, List.map_nil]); first | done | rfl) ?_; (with_reducible refine (QNew _).mono ?_); rintro e w1 ⟨a, rfl, L, hb⟩; refine ⟨_, rfl, ?_⟩; have HL1 := Aside0.mk L; have HB1 := Aside0.mk hb; clear L hb) | ((with_reducible refine gate_callee (f := 16) rfl ?_); refine goesL_ (some 10) rfl rfl Try.func16 (by kernel_rfl) rfl #[.pointer (some ⟨a, 0, none⟩), .string (mk [97, 98])] rfl (by (try simp only [List.map_toArray, List.map_cons, List.map_nil]); first | done | rfl) ?_; (with_reducible refine (app1 HL1.out HB1.out.size (fun k hk => Nat.le_trans HB1.out.size hk)).mono ?_); rintro e w2 ⟨rfl, L, hb⟩; refine ⟨_, rfl, ?_⟩; have HL2 := Aside0.mk L; have HB2 := Aside0.mk (HB1.out.trans hb); clear L hb) | ((with_reducible refine gate_callee (f := 11) rfl ?_); refine goesL_ (some 12) rfl rfl Try.func11 (by kernel_rfl) rfl #[.pointer (some ⟨a, 0, none⟩)] rfl (by (try simp only [List.map_toArray, List.map_cons, List.map_nil]); first | done | rfl) ?_; (with_reducible refine (QSync HL2.out HB2.out.size).mono ?_); rintro e w3 ⟨rfl, L, hb, _⟩; refine ⟨_, rfl, ?_⟩; change Wq w3 w.heap.size _ a [[97, 98]] 1 at L; have HL3 := Aside0.mk L; have HB3 := Aside0.mk (HB2.out.trans hb); clear L hb) | ((with_reducible refine gate_callee (f := 16) rfl ?_); refine goesL_ (some 14) rfl rfl Try.func16 (by kernel_rfl) rfl #[.pointer (some ⟨a, 0, none⟩), .string (mk [99, 100])] rfl (by (try simp only [List.map_toArray, List.map_cons, List.map_nil]); first | done | rfl) ?_; (with_reducible refine (app2 HL3.out HB3.out.size (fun k hk => Nat.le_trans HB3.out.size hk)).mono ?_); rintro e w4 ⟨rfl, L, hb⟩; refine ⟨_, rfl, ?_⟩; have HL4 := Aside0.mk L; have HB4 := Aside0.mk (HB3.out.trans hb); clear L hb) | ((with_reducible refine gate_callee (f := 19) rfl ?_); refine goesL_ (some 16) rfl rfl Try.func19 (by kernel_rfl) rfl #[.pointer (some ⟨a, 0, none⟩)] rfl (by (try simp only [List.map_toArray, List.map_cons, List.map_nil]); first | done | rfl) ?_; (with_reducible refine (QSure HL4.out).mono ?_); rintro e w5 ⟨rfl, rfl⟩; refine ⟨_, rfl, ?_⟩) | ((with_reducible refine gate_callee (f := 18) rfl ?_); refine goesL_ (some 18) rfl rfl Try.func18 (by kernel_rfl) rfl #[.pointer (some ⟨a, 0, none⟩)] rfl (by (try simp only [List.map_toArray, List.map_cons, List.map_nil]); first | done | rfl) ?_; (with_reducible refine (QAll HL4.out).mono ?_); rintro e w6 ⟨v6, rfl, hr, hb⟩; obtain ⟨A6, k6, rfl⟩ := Kd.R_slice hr; refine ⟨_, rfl, ?_⟩; have HL6 := Aside0.mk (HL4.out.below hb); have HB6 := Aside0.mk (below_step HB4.out hb); clear hr hb) | ((with_reducible refine gate_callee (f := 13) rfl ?_); refine goesL_ (some 20) rfl rfl Try.func13 (by kernel_rfl) rfl #[.pointer (some ⟨a, 0, none⟩), .int .u64 0] rfl (by (try simp only [List.map_toArray, List.map_cons, List.map_nil]); first | done | rfl) ?_; (with_reducible refine (crash0 HL6.out HB6.out.size (fun k hk => Nat.le_trans HB6.out.size hk)).mono ?_); rintro e w7 ⟨rfl, L, hb⟩; refine ⟨_, rfl, ?_⟩; have HL7 := Aside0.mk L; have HB7 := Aside0.mk (HB6.out.trans hb); clear L hb) | ((with_reducible refine gate_callee (f := 18) rfl ?_); refine goesL_ (some 38) rfl rfl Try.func18 (by kernel_rfl) rfl #[.pointer (some ⟨a, 0, none⟩)] rfl (by (try simp only [List.map_toArray, List.map_cons, List.map_nil]); first | done | rfl) ?_; (with_reducible refine (QAll HL7.out).mono ?_); rintro e w8 ⟨v8, rfl, hr, hb⟩; obtain ⟨A8, k8, rfl⟩ := Kd.R_slice hr; refine ⟨_, rfl, ?_⟩; have HL8 := Aside0.mk (HL7.out.below hb); have HB8 := Aside0.mk (below_step HB7.out hb); have HR8 := Aside0.mk hr; clear hr hb) | ((refine (QAll HL7.out).mono ?_); rintro e w8 ⟨v8, rfl, hr, hb⟩; obtain ⟨A8, k8, rfl⟩ := Kd.R_slice hr; have HL8 := Aside0.mk (HL7.out.below hb); have HB8 := Aside0.mk (below_step HB7.out hb); have HR8 := Aside0.mk hr; clear hr hb) | ((refine (sandglassref01_Texts.calls KT A8 k8 [mk [97, 98]] (some ⟨w8.heap.size, 0, none⟩) 1 [mk [97, 98]] true _ (Kd.C_below (Kd.R_reads' HR8.out).2.2 (below_alloc (Below.refl _ _) _)) (Kd.R_reads' HR8.out).2.1 (C_one w8 _) (Nat.le_refl _) hKT).mono ?_); rintro e w9 ⟨rfl, ⟨m9, rfl⟩⟩) | ((refine (QSure (HL8.out.below (by repeat (first | exact Below.refl _ _ | apply pw_below_drewN | apply below_alloc)))).mono ?_); rintro e w10 ⟨rfl, rfl⟩))
  go_ret
  exact ⟨rfl, by repeat (first | (with_reducible exact HB8.out) | apply pw_below_drewN | apply below_alloc)⟩
end Go.Proofs.Ytjmdigfinkkelaa.Wal
namespace Go.Proofs.Ytjmdigfinkkelaa.Wal
open Go.RowKit Go.Proofs.Ytjmdigfinkkelaa.PAll Go.Proofs.YtjmdigfinkkelaaW.PrintWords Go.Proofs.YtjmdigfinkkelaaW.PrintLast Go.Proofs.YtjmdigfinkkelaaW.PrintMore SG Go.Proofs.Ytjmdigfinkkelaa.Fun
set_option linter.unusedVariables false
set_option linter.unusedSimpArgs false

/-- One deed that is no crash. -/
def deed (x : S34) (s : List By × Nat) : List By × Nat := if x.f0 = 1 then (s.1, s.1.length) else (appL s.1 x.f1.data.toList, s.2)
def doneF : List S34 → List By × Nat → List By × Nat
  | [], s => s
  | x :: r, s => doneF r (deed x s)
/-- Deeds that are few. -/
def fewP (l : List S34) : Prop := l.length ≤ 40 ∧ ∀ x ∈ l, x.f1.size ≤ 5000

theorem rd34 {l : List S34} {i : Nat} (h : i < l.length) : rd_T34 l (i : Int) = l[i] := by
  unfold rd_T34
  rw [Int.toNat_natCast, List.getD_eq_getElem?_getD, List.getElem?_eq_getElem h, Option.getD_some]

theorem few_l0 (l : List S34) (hl : l.length ≤ 40) (d : Nat) : ∀ (i : Nat), l.length - i = d →
    (sandglasslaw19_few.l0 (d + 1) l (i : Int) = some true ∧ ∀ j, i ≤ j → (h : j < l.length) → l[j].f1.size ≤ 5000) ∨ sandglasslaw19_few.l0 (d + 1) l (i : Int) = some false := by
  induction d with
  | zero =>
    intro i h
    left
    refine ⟨?_, fun j h1 h2 => by omega⟩
    unfold sandglasslaw19_few.l0
    rw [if_neg (by omega)]
  | succ d ih =>
    intro i h
    unfold sandglasslaw19_few.l0
    rw [if_pos (by omega), if_pos (by omega), rd34 (by omega)]
    by_cases hs : ((l[i]'(by omega)).f1.size : Int) > 5000
    · right
      rw [if_pos hs]
    · rw [if_neg hs, w64n _ (by omega)]
      rcases ih (i + 1) (by omega) with ⟨h1, h2⟩ | h1
      · left
        refine ⟨h1, fun j h3 h4 => ?_⟩
        by_cases hj : i = j
        · subst hj; omega
        · exact h2 j (by omega) h4
      · right
        exact h1
theorem few_f (l : List S34) : (sandglasslaw19_few.f (l.length + 1) l = some true ∧ fewP l) ∨ sandglasslaw19_few.f (l.length + 1) l = some false := by
  unfold sandglasslaw19_few.f
  by_cases h : (l.length : Int) > 40
  · right
    rw [if_pos h]
  · rw [if_neg h]
    rcases few_l0 l (by omega) l.length 0 (by omega) with ⟨h1, h2⟩ | h1
    · left
      refine ⟨h1, by omega, fun x hx => ?_⟩
      obtain ⟨j, hj, rfl⟩ := List.getElem_of_mem hx
      exact h2 j (by omega) hj
    · right
      exact h1

set_option maxHeartbeats 8000000 in
set_option maxRecDepth 100000 in
theorem done (A0 : Option Addr) (c0 : Nat) (l : List S34) (w : World) (hr0 : Kd.C k34 w A0 l.length l) (hc0 : l.length ≤ c0) (hf : fewP l) (RA : List By) (RS : Nat) (hR : doneF l ([], 0) = (RA, RS)) :
    Calls Try.prog 20 #[.slice A0 l.length c0] w fun e w' => ∃ a : Nat, e = .returned (.pointer (some ⟨a, 0, none⟩)) ∧ Wq w' w.heap.size (fun k => w.heap.size ≤ k) a RA RS ∧ Below w.heap.size w w' := by
  have HR0 := Aside0.mk hr0
  have HF := Aside0.mk hf
  have H0 := Aside0.mk hR
  clear hr0 hf hR
  go_enter Try.func20, Try.ntmps20
  go_wp2_with (first | ((with_reducible refine gate_callee (f := 10) rfl ?_); refine goesL_ (some 5) rfl rfl Try.func10 (by kernel_rfl) rfl #[] rfl (by (try simp only [List.map_toArray, List.map_cons, List.map_nil]); first | done | rfl) ?_; (with_reducible refine (QNew _).mono ?_); rintro e w1 ⟨a, rfl, L, hb⟩; refine ⟨_, rfl, ?_⟩; have HL1 := Aside0.mk L; have HB1 := Aside0.mk hb; clear L hb))
  go_loopg [4] l.length (fun kq v4 w' => ∃ (i : Nat) (all : List By) (sure : Nat), v4 = .int .i64 (i : Int) ∧ Aside0 (doneF (l.drop i) (all, sure) = (RA, RS)) ∧ Aside0 (i + kq = l.length) ∧ Aside0 (Wq w' w.heap.size (fun k => w.heap.size ≤ k) a all sure) ∧ Aside0 (Below w.heap.size w w'))
  case atStart => exact ⟨0, [], 0, rfl, H0, ⟨by omega⟩, HL1, HB1⟩
  case round =>
    obtain ⟨i, all, sure, rfl, HA, HI, HL, HBw⟩ := hrel
    have hi := HI.out
    have hfl := HF.out.1
    by_cases hat : i < l.length
    · obtain ⟨k1, rfl⟩ : ∃ k1, gk = k1 + 1 := ⟨gk - 1, by omega⟩
      have hlt : decide ((i : Int) < (l.length : Int)) = true := decide_eq_true (by omega)
      obtain ⟨ad, e101, x0, x1, x2⟩ := at_T34 (Kd.C_below HR0.out HBw.out) (i : Int) (by omega) (by omega)
      cases e101
      rw [rd34 hat] at x0 x1 x2
      rw [Int.toNat_natCast] at x0 x1 x2
      have H := HA.out
      rw [List.drop_eq_getElem_cons hat, doneF] at H
      have hsz := HF.out.2 l[i] (List.getElem_mem _)
      have hbs := HBw.out.size
      have HSZ := Aside0.mk hsz
      have HBS := Aside0.mk hbs
      clear HA hsz hbs
      generalize l[i] = x at H x0 x1 x2 HSZ
      by_cases hk : x.f0 = 1
      · have e1 : (x.f0 == 1) = true := by simp [hk]
        unfold deed at H
        rw [if_pos hk] at H
        have HA := Aside0.mk H
        clear H hk HI
        go_wp2_with (first | ((with_reducible refine gate_callee (f := 11) rfl ?_); refine goesL_ (some 19) rfl rfl Try.func11 (by kernel_rfl) rfl #[.pointer (some ⟨a, 0, none⟩)] rfl (by (try simp only [List.map_toArray, List.map_cons, List.map_nil]); first | done | rfl) ?_; (with_reducible refine (QSync HL.out HBS.out).mono ?_); rintro e w2 ⟨rfl, L, hb, _⟩; refine ⟨_, rfl, ?_⟩; have HL2 := Aside0.mk L; have HB2 := Aside0.mk (HBw.out.trans hb); clear L hb))
        go_roundg k1
        case measure => omega
        case rel => exact ⟨i + 1, all, all.length, rfl, HA, ⟨by omega⟩, HL2, HB2⟩
      · have e1 : (x.f0 == 1) = false := by simpa using hk
        unfold deed at H
        rw [if_neg hk] at H
        have HA := Aside0.mk H
        clear H hk HI
        obtain ⟨y, hy⟩ := ex_mk x.f1
        have hyl : y.length ≤ 5000 := by rw [← mk_size, ← hy]; exact HSZ.out
        rw [hy] at x1
        have HY := Aside0.mk hy
        clear hy
        go_wp2_with (first | ((with_reducible refine gate_callee (f := 16) rfl ?_); refine goesL_ (some 26) rfl rfl Try.func16 (by kernel_rfl) rfl #[.pointer (some ⟨a, 0, none⟩), .string (mk y)] rfl (by (try simp only [List.map_toArray, List.map_cons, List.map_nil]); first | done | rfl) ?_; (with_reducible refine (QAppend HL.out HBS.out (fun k hk => Nat.le_trans HBS.out hk) y (by omega)).mono ?_); rintro e w2 ⟨rfl, L, hb, _⟩; refine ⟨_, rfl, ?_⟩; have HL2 := Aside0.mk L; have HB2 := Aside0.mk (HBw.out.trans hb); clear L hb))
        go_roundg k1
        case measure => omega
        case rel =>
          have h1 := HA.out
          rw [HY.out, mk_data] at h1
          exact ⟨i + 1, appL all y, sure, rfl, ⟨h1⟩, ⟨by omega⟩, HL2, HB2⟩
    · obtain rfl : gk = 0 := by omega
      have H := HA.out
      rw [List.drop_eq_nil_of_le (by omega), doneF] at H
      injection H with h1 h2
      subst h1 h2
      have hge : decide ((i : Int) < (l.length : Int)) = false := decide_eq_false (by omega)
      clear HA HI
      go_wp2
      go_ret
      exact ⟨a, rfl, HL.out, HBw.out⟩
end Go.Proofs.Ytjmdigfinkkelaa.Wal
namespace Go.Proofs.Ytjmdigfinkkelaa.Wal
open Go.RowKit Go.Proofs.Ytjmdigfinkkelaa.PAll Go.Proofs.YtjmdigfinkkelaaW.PrintWords Go.Proofs.YtjmdigfinkkelaaW.PrintLast Go.Proofs.YtjmdigfinkkelaaW.PrintMore SG Go.Proofs.Ytjmdigfinkkelaa.Fun
set_option linter.unusedVariables false
set_option linter.unusedSimpArgs false

theorem Wl.narrow {w : World} {B : Nat} {ok ok' : Nat → Prop} {a : Nat} {b : List Int} {sy : Int} {all : List ByteArray} {sure : Int} (L : Wl w B ok a b sy all sure) (h : ∀ k, ok k → k < w.heap.size → ok' k) : Wl w B ok' a b sy all sure := by
  obtain ⟨hB, d, v, ha, hr, D⟩ := L
  exact ⟨hB, d, v, ha, Kd.R_mono (Kd.R_bound hr) (fun k hk => h k hk.1 hk.2.2.1), D⟩
theorem Wq.narrow {w : World} {B : Nat} {ok ok' : Nat → Prop} {a : Nat} {all : List By} {sure : Nat} (L : Wq w B ok a all sure) (h : ∀ k, ok k → k < w.heap.size → ok' k) : Wq w B ok' a all sure := ⟨L.1, L.2.1, L.2.2.1, L.2.2.2.narrow h⟩
/-- A row of strings stays where a log is written whose row is another. -/
theorem row_kept {w w' : World} {B : Nat} {ok okr : Nat → Prop} {v : Value} {xs : List ByteArray} (h : Kd.string.R 9 w B okr v xs) (hk : Kept w w' (TW ok w)) (hn : ∀ k, okr k → k < w.heap.size → ¬ ok k) : Kd.string.R 9 w' B okr v xs := by
  refine Kd.R_mono (Kd.R_move (Kd.R_bound h) (fun k h => ?_)) (fun _ h => h.1)
  obtain ⟨ho, _, hlt, q, hq, cells, hc⟩ := h
  have hq9 : q = 9 := by simpa [Kd.string, Kd.scalar] using hq
  subst hq9
  refine hk.2 k hlt ?_
  rintro (⟨cells', q', hc', hq'⟩ | h')
  · rw [hc] at hc'
    injection hc' with hc'
    injection hc' with _ hc'
    subst hc'
    exact absurd hq' (by decide)
  · exact hn k ho hlt h'
theorem C_take {w : World} {A : Option Addr} {n : Nat} {xs : List ByteArray} (h : Kd.string.C w A xs.length xs) (hm : n ≤ xs.length) : Kd.string.C w A (xs.take n).length (xs.take n) := by
  obtain ⟨h1, h2, h3⟩ := h
  refine ⟨rfl, by rw [List.length_take]; omega, fun hn => ?_⟩
  rw [List.length_take] at hn
  obtain ⟨ad, e, h4⟩ := h3 (by omega)
  refine ⟨ad, e, fun j p hj => h4 j p ?_⟩
  obtain ⟨hl, rfl⟩ := List.getElem?_eq_some_iff.1 hj
  rw [List.length_take] at hl
  rw [List.getElem_take]
  exact List.getElem?_eq_getElem _

set_option maxHeartbeats 8000000 in
set_option maxRecDepth 100000 in
theorem WalSure_few (A0 : Option Addr) (c0 : Nat) (l : List S34) (keep : Int) (w : World) (hr0 : Kd.C k34 w A0 l.length l) (hc0 : l.length ≤ c0) (hf : sandglasslaw19_few.f (l.length + 1) l = some false) :
    Calls Try.prog 5 #[.slice A0 l.length c0, .int .u64 keep] w fun e w' => e = .returned (.bool true) ∧ Below w.heap.size w w' := by
  go_enter Try.func5, Try.ntmps5
  go_wp2_with (first | ((with_reducible refine gate_callee (f := 8) rfl ?_); refine goesL_ (some 10) rfl rfl Try.func8 (by kernel_rfl) rfl #[.slice A0 l.length c0] rfl (by (try simp only [List.map_toArray, List.map_cons, List.map_nil]); first | done | rfl) ?_; (with_reducible refine (sandglasslaw19_few.calls _ A0 c0 l false _ hr0 hc0 hf).mono ?_); rintro e w1 ⟨rfl, hb⟩; refine ⟨_, rfl, ?_⟩; have HB1 := Aside0.mk hb.below; clear hb) | ((with_reducible refine gate_callee (f := 9) rfl ?_); refine goesL_ (some 12) rfl rfl Try.func9 (by kernel_rfl) rfl #[] rfl (by (try simp only [List.map_toArray, List.map_cons, List.map_nil]); first | done | rfl) ?_; (with_reducible refine (awake _).mono ?_); rintro e w2 ⟨rfl, hb⟩; refine ⟨_, rfl, ?_⟩; have HB2 := Aside0.mk (below_step HB1.out hb); clear hb))
  go_ret
  exact ⟨rfl, HB2.out⟩

theorem C_of_row {w : World} {B n c : Nat} {ok : Nat → Prop} {A : Option Addr} {xs : List ByteArray} (h : Kd.string.R 9 w B ok (.slice A n c) xs) : Kd.string.C w A xs.length xs := by
  obtain ⟨rfl, _, h3⟩ := Kd.R_reads' h
  exact h3
theorem ends {w : World} {B a : Nat} {ok : Nat → Prop} {RA : List By} {RS : Nat} (L : Wq w B ok a RA RS) (keep : Int) {n m : Nat} (h3 : n = RA.length) (h6 : m = (crL keep RA RS).length) : RS ≤ n ∧ RS ≤ m := by
  obtain ⟨r, hr⟩ := crL_sure keep RA RS L.2.1
  have := L.1
  rw [hr, List.length_append, List.length_take] at h6
  omega
theorem sure_rows {w : World} {B3 B6 n3 n6 k3 k6 : Nat} {ok3 ok6 : Nat → Prop} {A3 A6 : Option Addr} {RA : List By} {RS : Nat} (keep : Int) (hl : ∀ x ∈ RA, x.length ≤ 4096) (hs : RS ≤ RA.length)
    (h3 : Kd.string.R 9 w B3 ok3 (.slice A3 n3 k3) (RA.map mk)) (h6 : Kd.string.R 9 w B6 ok6 (.slice A6 n6 k6) ((crL keep RA RS).map mk)) :
    ∃ a : List ByteArray, a.length = RS ∧ Kd.string.C w A3 a.length a ∧ Kd.string.C w A6 a.length a := by
  obtain ⟨r, hr⟩ := crL_sure keep RA RS hl
  refine ⟨(RA.map mk).take RS, by simp [hs], C_take (C_of_row h3) (by simpa using hs), ?_⟩
  have e : ((crL keep RA RS).map mk).take RS = (RA.map mk).take RS := by
    rw [hr, List.map_append, List.map_take, List.take_append_of_le_length (by simp [hs]), List.take_take, Nat.min_self]
  rw [← e]
  exact C_take (C_of_row h6) (by rw [hr]; simp [hs])
/-- Two rows that are the same. -/
theorem TextsEq (n : Nat) (A0 : Option Addr) (c0 : Nat) (A1 : Option Addr) (c1 : Nat) (a : List ByteArray) (w : World) (hl : a.length ≤ 100000) (ha : a.length = n) (h0 : Kd.string.C w A0 a.length a) (hc0 : n ≤ c0) (h1 : Kd.string.C w A1 a.length a) (hc1 : n ≤ c1) :
    Calls Try.prog 17 #[.slice A0 n c0, .slice A1 n c1] w fun e w' => e = .returned (.bool true) ∧ Below w.heap.size w w' := by
  subst ha
  obtain ⟨K, hK⟩ := Ev.rounds (E_Texts a (by omega))
  refine (sandglassref01_Texts.calls K A0 c0 a A1 c1 a true w h0 hc0 h1 hc1 hK).mono ?_
  rintro e w' ⟨rfl, h⟩
  exact ⟨rfl, h.below⟩
/-- All records, as a row. -/
theorem QAllX {w : World} {B : Nat} {ok : Nat → Prop} {a : Nat} {all : List By} {sure : Nat} (L : Wq w B ok a all sure) : Calls Try.prog 18 #[.pointer (some ⟨a, 0, none⟩)] w fun e w' => ∃ A n c, e = .returned (.slice A n c) ∧ n = all.length ∧ n ≤ c ∧ Kd.string.R 9 w' w.heap.size (fun k => w.heap.size ≤ k) (.slice A n c) (all.map mk) ∧ Below w.heap.size w w' := by
  refine (QAll L).mono ?_
  rintro e w' ⟨v, rfl, hr, hb⟩
  obtain ⟨A, c, rfl, hc, hC⟩ := Kd.R_reads hr
  exact ⟨A, _, c, rfl, List.length_map _, hc, hr, hb⟩
set_option maxHeartbeats 8000000 in
set_option maxRecDepth 100000 in
theorem WalSure_many (A0 : Option Addr) (c0 : Nat) (l : List S34) (keep : Int) (w : World) (hr0 : Kd.C k34 w A0 l.length l) (hc0 : l.length ≤ c0) (hf : sandglasslaw19_few.f (l.length + 1) l = some true) (hp : fewP l) (RA : List By) (RS : Nat) (hR : doneF l ([], 0) = (RA, RS)) :
    Calls Try.prog 5 #[.slice A0 l.length c0, .int .u64 keep] w fun e w' => e = .returned (.bool true) ∧ Below w.heap.size w w' := by
  have HP := Aside0.mk hp
  have HR := Aside0.mk hR
  clear hp hR
  go_enter Try.func5, Try.ntmps5
  go_wp2_with (first | ((with_reducible refine gate_callee (f := 8) rfl ?_); refine goesL_ (some 10) rfl rfl Try.func8 (by kernel_rfl) rfl #[.slice A0 l.length c0] rfl (by (try simp only [List.map_toArray, List.map_cons, List.map_nil]); first | done | rfl) ?_; (with_reducible refine (sandglasslaw19_few.calls _ A0 c0 l true _ hr0 hc0 hf).mono ?_); rintro e w1 ⟨rfl, hb⟩; refine ⟨_, rfl, ?_⟩; have HB1 := Aside0.mk hb.below; clear hb) | ((with_reducible refine gate_callee (f := 20) rfl ?_); refine goesL_ (some 14) rfl rfl Try.func20 (by kernel_rfl) rfl #[.slice A0 l.length c0] rfl (by (try simp only [List.map_toArray, List.map_cons, List.map_nil]); first | done | rfl) ?_; (with_reducible refine (done A0 c0 l _ (Kd.C_below hr0 HB1.out) hc0 HP.out RA RS HR.out).mono ?_); rintro e w2 ⟨a, rfl, L, hb⟩; refine ⟨_, rfl, ?_⟩; have HS := Aside0.mk hb.size; have HL2 := Aside0.mk L; have HB2 := Aside0.mk (below_step HB1.out hb); clear L hb) | ((with_reducible refine gate_callee (f := 18) rfl ?_); refine goesL_ (some 16) rfl rfl Try.func18 (by kernel_rfl) rfl #[.pointer (some ⟨a, 0, none⟩)] rfl (by (try simp only [List.map_toArray, List.map_cons, List.map_nil]); first | done | rfl) ?_; (with_reducible refine (QAllX HL2.out).mono ?_); rintro e w3 ⟨A3, n3, k3, rfl, hn3, hk3, hr3, hb⟩; refine ⟨_, rfl, ?_⟩; have HN3 := Aside0.mk hn3; have HR3 := Aside0.mk hr3; have HS3 := Aside0.mk hb.size; have HB3 := Aside0.mk (below_step HB2.out hb); have HL3 := Aside0.mk ((HL2.out.narrow (ok' := fun k => k < w2.heap.size ∨ w3.heap.size ≤ k) (fun k _ hk => .inl hk)).below hb); clear hb hn3 hr3) | ((with_reducible refine gate_callee (f := 19) rfl ?_); refine goesL_ (some 18) rfl rfl Try.func19 (by kernel_rfl) rfl #[.pointer (some ⟨a, 0, none⟩)] rfl (by (try simp only [List.map_toArray, List.map_cons, List.map_nil]); first | done | rfl) ?_; (with_reducible refine (QSure HL3.out).mono ?_); rintro e w4 ⟨rfl, rfl⟩; refine ⟨_, rfl, ?_⟩) | ((with_reducible refine gate_callee (f := 13) rfl ?_); refine goesL_ (some 21) rfl rfl Try.func13 (by kernel_rfl) rfl #[.pointer (some ⟨a, 0, none⟩), .int .u64 keep] rfl (by (try simp only [List.map_toArray, List.map_cons, List.map_nil]); first | done | rfl) ?_; (with_reducible refine (QCrash HL3.out (Nat.le_trans HS.out HS3.out) (fun k hk => .inr hk) keep).mono ?_); rintro e w5 ⟨rfl, L, hb, hk⟩; refine ⟨_, rfl, ?_⟩; have HL5 := Aside0.mk L; have HB5 := Aside0.mk (HB3.out.trans (hb.mono HB1.out.size)); have HR5 := Aside0.mk (row_kept HR3.out hk (fun k h1 h2 h3 => by omega)); clear L hb hk) | ((with_reducible refine gate_callee (f := 18) rfl ?_); refine goesL_ (some 23) rfl rfl Try.func18 (by kernel_rfl) rfl #[.pointer (some ⟨a, 0, none⟩)] rfl (by (try simp only [List.map_toArray, List.map_cons, List.map_nil]); first | done | rfl) ?_; (with_reducible refine (QAllX HL5.out).mono ?_); rintro e w6 ⟨A6, n6, k6, rfl, hn6, hk6, hr6, hb⟩; refine ⟨_, rfl, ?_⟩; have HN6 := Aside0.mk hn6; have HR6 := Aside0.mk hr6; have HB6 := Aside0.mk (below_step HB5.out hb); have HR7 := Aside0.mk (Kd.R_below HR5.out hb); clear hb hn6 hr6))
  obtain ⟨hm, hm2⟩ := ends HL2.out keep HN3.out HN6.out
  obtain ⟨al, ha, ha3, ha6⟩ := sure_rows keep HL2.out.2.1 HL2.out.1 HR7.out HR6.out
  have hl6 : RS ≤ 100000 := by have := HL2.out.count; have := HL2.out.1; rw [List.length_map] at *; omega
  have t1 : decide ((RS : Int) ≤ (n3 : Int)) = true := decide_eq_true (by omega)
  have t2 : decide ((n6 : Int) ≥ (RS : Int)) = true := decide_eq_true (by omega)
  have t3 : decide (RS ≤ n3) = true := decide_eq_true (by omega)
  have t4 : decide ((RS : Int) ≤ (n6 : Int)) = true := decide_eq_true (by omega)
  have t5 : decide (RS ≤ n6) = true := decide_eq_true (by omega)
  have q1 : RS ≤ k3 := by omega
  have q2 : RS ≤ k6 := by omega
  have T3 := Aside0.mk (Kd.C_below ha3 (below_drew (Below.refl _ _)))
  have T6 := Aside0.mk (Kd.C_below ha6 (below_drew (Below.refl _ _)))
  have HAL := Aside0.mk ha
  clear hm hm2 ha ha3 ha6
  go_still_tail 17, (by kernel_rfl)
  go_wp2_with (first | ((refine (TextsEq RS A6 k6 A3 k3 al _ (by rw [HAL.out]; exact hl6) HAL.out T6.out q2 T3.out q1).mono ?_); rintro e w7 ⟨rfl, hb⟩; have HB7 := Aside0.mk (below_step (below_drew HB6.out) hb); clear hb) | ((refine (awake _).mono ?_); rintro e w8 ⟨rfl, hb⟩; have HB8 := Aside0.mk (below_step HB7.out hb); clear hb))
  go_ret
  exact ⟨rfl, HB8.out⟩
end Go.Proofs.Ytjmdigfinkkelaa.Wal
namespace Go.Proofs.Ytjmdigfinkkelaa.Wal
open Go.RowKit Go.ChangeShapes Go.WideShapes Go.Proofs.Ytjmdigfinkkelaa.PAll Go.Proofs.YtjmdigfinkkelaaW.PrintWords Go.Proofs.YtjmdigfinkkelaaW.PrintLast Go.Proofs.YtjmdigfinkkelaaW.PrintMore SG Go.Proofs.Ytjmdigfinkkelaa.Fun
set_option linter.unusedVariables false

/-- A deed from its cells. -/
def toS : List Value → S34
  | [.int _ a, .string b, .int _ c] => ⟨a, b, c⟩
  | _ => z34
/-- Deeds that come in. -/
theorem deeds_arg {H : Type} {enc : TypeId × Value → H} {W : World} {base : Nat} {spare : Nat → Bool} {held : Bool} {a : Option Addr} {len cap : Nat} {d : DataW H} {ps : List MemPlace}
    (h : DataW.Trod enc Try.prog W base spare held 22 (.slice a len cap) d ps) : ∃ l : List S34, len = l.length ∧ Kd.C k34 W a l.length l ∧ l.length ≤ cap := by
  obtain ⟨L, rfl, hf, hc, hm, hr⟩ := plain_slice (.agg [.int .i64, .str, .int .u64]) Try.underlying22 (e := 34) (by kernel_rfl) (by kernel_rfl) h
  refine ⟨L.map toS, (List.length_map _).symm, ⟨rfl, ?_, fun hn => ?_⟩, by rw [List.length_map]; exact hc⟩
  · rw [List.length_map]
    unfold maxLen at hm
    omega
  · rw [List.length_map] at hn
    obtain ⟨ad, e, hcell⟩ := hr hn
    refine ⟨ad, e, fun j p hj => ?_⟩
    rw [List.getElem?_map, Option.map_eq_some_iff] at hj
    obtain ⟨c, hc, rfl⟩ := hj
    obtain ⟨x1, y1, rfl, ⟨n1, rfl, _⟩, x2, y2, rfl, ⟨n2, rfl, _⟩, x3, y3, rfl, ⟨n3, rfl, _⟩, rfl⟩ := hf c (List.mem_of_getElem? hc)
    exact ⟨_, rfl, k34_mk W ⟨n1, n2, n3⟩, fun i u hu => hcell j _ hc i u hu⟩

theorem WalSure_walk (A0 : Option Addr) (c0 : Nat) (l : List S34) (keep : Int) (w : World) (hr0 : Kd.C k34 w A0 l.length l) (hc0 : l.length ≤ c0) (hk : (Lit.int .u64 keep).wf = true) :
    Calls Try.prog 5 #[.slice A0 l.length c0, .int .u64 keep] w fun e w' => e = .returned (.bool true) ∧ Below w.heap.size w w' := by
  rcases few_f l with ⟨h1, h2⟩ | h1
  · exact WalSure_many A0 c0 l keep w hr0 hc0 h1 h2 _ _ rfl
  · exact WalSure_few A0 c0 l keep w hr0 hc0 h1
end Go.Proofs.Ytjmdigfinkkelaa.Wal
namespace Go.Proofs.Ytjmdigfinkkelaa.Wal
open Go.RowKit Go.Proofs.Ytjmdigfinkkelaa.PAll Go.Proofs.YtjmdigfinkkelaaW.PrintWords Go.Proofs.YtjmdigfinkkelaaW.PrintLast Go.Proofs.YtjmdigfinkkelaaW.PrintMore SG Go.Proofs.Ytjmdigfinkkelaa.Fun BRow
set_option linter.unusedVariables false
set_option linter.unusedSimpArgs false

theorem BR_take {e base n m c : Nat} {W : World} {A : Option Addr} {xs : List Int} (h : BR e W base (.slice A n c) xs) (hm : m ≤ xs.length) : BR e W base (.slice A m c) (xs.take m) := by
  obtain ⟨g, cap, cur, fr, h1, h2, h3, h4, h5, h6, h7, h8⟩ := h
  injection h1 with ha hb hc
  subst ha hb hc
  have hl : (xs.take m).length = m := by rw [List.length_take, Nat.min_eq_left hm]
  refine ⟨g, c, cur, fr, by rw [hl], h2, h3, by omega, by omega, h6, h7, ?_⟩
  rw [hl]
  have := congrArg (List.take m) h8
  rw [List.take_take, Nat.min_eq_left hm] at this
  rw [this]
  simp [nums, List.map_take]

theorem BR_sl {e base : Nat} {W : World} {v : Value} {l : By} (h : BR e W base v (bytesOf (mk l))) : ∃ g c, v = .slice (some ⟨g, 0, none⟩) l.length c ∧ ∃ cur fr, W.heap[g]? = some (.cells cur e fr) := by
  obtain ⟨g, cap, cur, fr, h1, h2, h3, _⟩ := h
  rw [bytesOf_len] at h1
  exact ⟨g, cap, h1, cur, fr, h3⟩
theorem BR_len {e base n c : Nat} {W : World} {A : Option Addr} {xs : List Int} (h : BR e W base (.slice A n c) xs) : n = xs.length ∧ n ≤ c := by
  obtain ⟨g, cap, cur, fr, h1, h2, h3, h4, _⟩ := h
  injection h1 with ha hb hc
  subst hb hc
  exact ⟨rfl, h4⟩
theorem BR_base {e base n c g : Nat} {W : World} {xs : List Int} (h : BR e W base (.slice (some ⟨g, 0, none⟩) n c) xs) : base ≤ g := by
  obtain ⟨g', cap, cur, fr, h1, h2, _⟩ := h
  injection h1 with ha hb hc
  injection ha with ha
  injection ha with ha
  subst ha
  exact h2
theorem obj_ne {W : World} {g g' : Nat} {t t' : TypeId} {c c' : Array Value} {f f' : Nat × Nat} (h : W.heap[g]? = some (.cells c t f)) (h' : W.heap[g']? = some (.cells c' t' f')) (hne : t ≠ t') : g ≠ g' := by
  rintro rfl
  rw [h] at h'
  injection h' with h'
  injection h' with _ h'
  exact hne h'

set_option maxHeartbeats 8000000 in
set_option maxRecDepth 100000 in
theorem RefCrash {l : By} {sy : Nat} (keep : Int) (hsl : sy ≤ l.length) (hl : l.length ≤ 65536) (w : World) (b2 : List Int) (e2 : Nat) (hR : tl keep ((sy : Int) / 64) (l.length - sy) sy (bytesOf (mk l)) sy = (b2, e2)) :
    Calls Try.prog 32 #[.agg #[.string (mk l), .int .i64 (sy : Int)], .int .u64 keep] w fun e w' => e = .returned (.agg #[.string (strOfNums (b2.take e2)), .int .i64 (e2 : Int)]) ∧ Below w.heap.size w w' := by
  have HR := Aside0.mk hR
  clear hR
  go_enter Try.func32, Try.ntmps32
  go_wp2_with (first | ((with_reducible refine gate_dst (N := 2) rfl ?_); refine box_event ?hg (N := 2) ?hd (cs := #[.string (mk l), .int .i64 (sy : Int)]) (t := 28) ?hr ?_; (case hd => rfl); (case hg => rfl); (case hr => first | (go_simp; done) | (go_simp; rfl)); intro g hg w1 hbox hb; have HG := Aside0.mk hbox; have HB1 := Aside0.mk hb; clear hg hbox hb) | ((with_reducible refine gate_dst (N := 4) rfl ?_); refine box_event ?hg (N := 4) ?hd (cs := #[.string ⟨#[]⟩, .int .i64 0]) (t := 28) ?hr ?_; (case hd => rfl); (case hg => rfl); (case hr => first | (go_simp; done) | (go_simp; rfl)); intro r hr w2 hbox hb; have HRW := Aside0.mk (show w.heap.size ≤ r by rw [hr]; exact HB1.out.size); have HX := Aside0.mk hbox; have HB2 := Aside0.mk (below_step HB1.out hb); have HG2 := Aside0.mk (blk_below HG.out hb); have c0 : w2.cell? ⟨g, 0, none⟩ = some (.string (mk l)) := (blk_cell (blk_below HG.out hb) 0).trans rfl; have c1 : w2.cell? ⟨g, 1, none⟩ = some (.int .i64 (sy : Int)) := (blk_cell (blk_below HG.out hb) 1).trans rfl; clear hr hbox hb) | ((with_reducible refine gate_dst (N := 12) rfl ?_); refine BR_conv (w0 := w) w.heap.size 5 ?hg (N := 12) ?hd 9 69 (.tmp 11) ?ho (mk l) ?hx Try.underlying9 Try.underlying69 Try.underlying5 ?hl HB2.out HB2.out.size ?_; (case hg => rfl); (case hd => rfl); (case ho => rfl); (case hx => rfl); (case hl => rw [mk_size]; omega); intro v3 w3 hr3 hb3 hg3 ho3; obtain ⟨gb, cb, rfl, cur3, fr3, hblk⟩ := BR_sl hr3; have HG3 := Aside0.mk (blk_grown HG2.out hg3 (by simp)); have hx3 := blk_grown HX.out hg3 (by simp); have HX3 := Aside0.mk hx3; have HNE := Aside0.mk (obj_ne hblk hx3 (by decide)); have HR3 := Aside0.mk hr3; have HB3 := Aside0.mk hb3; have d0 : w3.cell? ⟨g, 0, none⟩ = some (.string (mk l)) := (blk_cell HG3.out 0).trans rfl; have d1 : w3.cell? ⟨g, 1, none⟩ = some (.int .i64 (sy : Int)) := (blk_cell HG3.out 1).trans rfl; clear hr3 hb3 hg3 ho3 hblk hx3))
  go_loopg [7, 8] (l.length - sy) (fun kq v7 v8 w' => ∃ (at_ e : Nat) (b' : List Int), v7 = .int .i64 (e : Int) ∧ v8 = .int .i64 (at_ : Int) ∧ Aside0 (tl keep ((sy : Int) / 64) kq at_ b' e = (b2, e2)) ∧ Aside0 (b'.length = l.length ∧ at_ + kq = l.length ∧ e ≤ at_ ∧ sy ≤ at_) ∧ Aside0 (BR 5 w' w.heap.size (.slice (some ⟨gb, 0, none⟩) l.length cb) b') ∧ Aside0 (Below w.heap.size w w') ∧ Aside0 (w'.heap[r]? = some (.cells #[.string ⟨#[]⟩, .int .i64 0] 28 (0, 0))))
  case atStart => exact ⟨sy, sy, bytesOf (mk l), rfl, rfl, HR, ⟨bytesOf_len l, by omega, Nat.le_refl _, Nat.le_refl _⟩, HR3, HB3, HX3⟩
  case round =>
    obtain ⟨at_, e, b', rfl, rfl, HA, HI, HRw, HBw, HXw⟩ := hrel
    obtain ⟨i1, i2, i3, i4⟩ := HI.out
    have hnn := div_nn at_ sy i4
    by_cases hat : at_ < l.length
    · obtain ⟨k1, rfl⟩ : ∃ k1, gk = k1 + 1 := ⟨gk - 1, by omega⟩
      have hlt : decide ((at_ : Int) < (l.length : Int)) = true := decide_eq_true (by omega)
      have hlt2 : decide (at_ < l.length) = true := decide_eq_true (by omega)
      obtain ⟨z1, z2⟩ := BR_celln HRw.out (at_ : Int) (by omega) (by omega)
      rw [Int.toNat_natCast] at z1 z2
      have H := HA.out
      clear HA HI
      rw [tl] at H
      by_cases h64 : (at_ : Int) / 64 - (sy : Int) / 64 < 64
      · have hh : decide ((at_ : Int) / 64 - (sy : Int) / 64 < 64) = true := decide_eq_true h64
        rw [kp_lt h64, show ((at_ : Int) / 64 - (sy : Int) / 64).toNat = at_ / 64 - sy / 64 by omega] at H
        by_cases hq : (Go.bits .and .u64 (keep / 2 ^ (at_ / 64 - sy / 64)) 1 == 1) = true
        · rw [if_pos hq] at H
          have HA := Aside0.mk H
          clear H
          go_wp2
          go_roundg k1
          case measure => omega
          case rel => exact ⟨at_ + 1, at_ + 1, b', rfl, rfl, HA, ⟨i1, by omega, by omega, by omega⟩, HRw, HBw, HXw⟩
        · rw [if_neg hq] at H
          replace hq := Bool.eq_false_iff.mpr hq
          have HA := Aside0.mk H
          clear H
          go_wp2
          go_roundg k1
          case measure => omega
          case rel =>
            obtain ⟨hr2, hg2⟩ := BR_putg HRw.out (at_ : Int) 0
            rw [Int.toNat_natCast] at hr2 hg2
            exact ⟨at_ + 1, e, b'.set at_ 0, rfl, rfl, HA, ⟨by rw [List.length_set]; exact i1, by omega, by omega, by omega⟩, ⟨hr2⟩, ⟨HBw.out.setCell (BR_base HRw.out) _⟩, ⟨blk_grown HXw.out hg2 (fun h => HNE.out (by injection h with h; exact h.symm))⟩⟩
      · have hh : decide ((at_ : Int) / 64 - (sy : Int) / 64 < 64) = false := decide_eq_false h64
        rw [kp_ge h64, if_neg (by decide)] at H
        have HA := Aside0.mk H
        clear H
        go_wp2
        go_roundg k1
        case measure => omega
        case rel =>
          obtain ⟨hr2, hg2⟩ := BR_putg HRw.out (at_ : Int) 0
          rw [Int.toNat_natCast] at hr2 hg2
          exact ⟨at_ + 1, e, b'.set at_ 0, rfl, rfl, HA, ⟨by rw [List.length_set]; exact i1, by omega, by omega, by omega⟩, ⟨hr2⟩, ⟨HBw.out.setCell (BR_base HRw.out) _⟩, ⟨blk_grown HXw.out hg2 (fun h => HNE.out (by injection h with h; exact h.symm))⟩⟩
    · obtain rfl : gk = 0 := by omega
      have H := HA.out
      clear HA
      rw [tl] at H
      injection H with h1 h2
      subst h1 h2
      have hge : decide ((at_ : Int) < (l.length : Int)) = false := decide_eq_false (by omega)
      have hge2 : decide (at_ < l.length) = false := decide_eq_false (by omega)
      have hcl := (BR_len HRw.out).2
      have hec : e ≤ cb := by omega
      have cv := BR_string (P := Try.prog) (src := 69) (dst := 9) Try.underlying69 Try.underlying5 Try.underlying9 (BR_take HRw.out (m := e) (by omega))
      have r0 : wr.cell? ⟨r, 0, none⟩ = some (.string ⟨#[]⟩) := (blk_cell HXw.out 0).trans rfl
      have r1 : wr.cell? ⟨r, 1, none⟩ = some (.int .i64 0) := (blk_cell HXw.out 1).trans rfl
      have f0 : wr.frozen? ⟨r, 0, none⟩ = false := blk_frozen HXw.out 0
      have f1 : wr.frozen? ⟨r, 1, none⟩ = false := blk_frozen HXw.out 1
      clear HI
      go_wp2
      have hre : ((wr.setCell ⟨r, 0, none⟩ (.string (strOfNums (b'.take e)))).setCell ⟨r, 1, none⟩ (.int .i64 (e : Int))).heap[r]? = some (.cells #[.string (strOfNums (b'.take e)), .int .i64 (e : Int)] 28 (0, 0)) := by simpa using blk_set (blk_set HXw.out 0 (.string (strOfNums (b'.take e)))) 1 (.int .i64 (e : Int))
      refine bodyPost_ret (results_cell_row rfl _ _ r 28 _ (0, 0) _ rfl hre Try.underlying28 rfl (by kernel_rfl)) rfl ?_
      exact ⟨rfl, (HBw.out.setCell (HRW.out) _).setCell HRW.out _⟩
end Go.Proofs.Ytjmdigfinkkelaa.Wal
namespace Go.Proofs.Ytjmdigfinkkelaa.Wal
open Go.RowKit Go.Proofs.Ytjmdigfinkkelaa.PAll Go.Proofs.YtjmdigfinkkelaaW.PrintWords Go.Proofs.YtjmdigfinkkelaaW.PrintLast Go.Proofs.YtjmdigfinkkelaaW.PrintMore SG Go.Proofs.Ytjmdigfinkkelaa.Fun BRow
set_option linter.unusedVariables false
set_option linter.unusedSimpArgs false

theorem results_row_tmp {P : Program} {fn : Func} {p u : Tmp} {ty : TypeId} (h : fn.results = #[.cell p ty, .tmp u]) (tmps : Array Value) (w : World) (g : Nat) (t : TypeId) (cs : Array Value) (fr : Nat × Nat) (d : TypeDesc)
    (hp : tmps.getD p undef = .pointer (some ⟨g, 0, none⟩)) (hg : w.heap[g]? = some (.cells cs t fr))
    (hu : P.underlying ty = some d) (hd : (match d with | .struct _ | .array _ _ => true | _ => false) = true) (hi : (P.info? ty).map (·.size) = some cs.size) :
    (results fn tmps).run P w = .ok (.tuple #[.agg cs, tmps.getD u undef]) w := by
  rw [results_cell_tmp h, hp]
  simp [asAddr, run_loadVar_row w g t ty cs fr d hg hu hd hi]

theorem two_set {w : World} {r : Nat} {t : TypeId} {x0 x1 : Value} (h : w.heap[r]? = some (.cells #[x0, x1] t (0, 0))) (a b : Value) : ((w.setCell ⟨r, 0, none⟩ a).setCell ⟨r, 1, none⟩ b).heap[r]? = some (.cells #[a, b] t (0, 0)) := by
  simpa using blk_set (blk_set h 0 a) 1 b
theorem far_set {w : World} {g r : Nat} {o : Obj} (h : w.heap[r]? = some o) (hne : g ≠ r) (i : Nat) (u : Value) : (w.setCell ⟨g, i, none⟩ u).heap[r]? = some o := (Below.heap_setCell w ⟨g, i, none⟩ u r (Ne.symm hne)).trans h

set_option maxHeartbeats 8000000 in
set_option maxRecDepth 100000 in
theorem RefSync {T : ByteArray} {sy : Int} (s : ByteArray) (keep : Int) (w : World) :
    Calls Try.prog 23 #[.agg #[.string T, .int .i64 sy], .agg #[.int .i64 2, .string s, .int .u64 keep]] w fun e w' => e = .returned (.tuple #[.agg #[.string T, .int .i64 (T.size : Int)], .int .i64 0]) ∧ Below w.heap.size w w' := by
  go_enter Try.func23, Try.ntmps23
  go_wp2_with (first | ((with_reducible refine gate_dst (N := 2) rfl ?_); refine box_event ?hg (N := 2) ?hd (cs := #[.string T, .int .i64 sy]) (t := 28) ?hr ?_; (case hd => rfl); (case hg => rfl); (case hr => first | (go_simp; done) | (go_simp; rfl)); intro g hg w1 hbox hb; have HG := Aside0.mk hbox; have HE := Aside0.mk hg; have HB1 := Aside0.mk hb; clear hg hbox hb) | ((with_reducible refine gate_dst (N := 3) rfl ?_); refine box_event ?hg (N := 3) ?hd (cs := #[.int .i64 2, .string s, .int .u64 keep]) (t := 57) ?hr ?_; (case hd => rfl); (case hg => rfl); (case hr => first | (go_simp; done) | (go_simp; rfl)); intro a ha w2 hbox hb; have HA := Aside0.mk hbox; have HB2 := Aside0.mk (below_step HB1.out hb); have HG2 := Aside0.mk (blk_below HG.out hb); clear ha hbox hb) | ((with_reducible refine gate_dst (N := 4) rfl ?_); refine box_event ?hg (N := 4) ?hd (cs := #[.string ⟨#[]⟩, .int .i64 0]) (t := 28) ?hr ?_; (case hd => rfl); (case hg => rfl); (case hr => first | (go_simp; done) | (go_simp; rfl)); intro r hr w3 hbox hb; have HRW := Aside0.mk (show w.heap.size ≤ r by rw [hr]; exact HB2.out.size); have HX := Aside0.mk hbox; have HB3 := Aside0.mk (below_step HB2.out hb); have hg3 := blk_below HG2.out hb; have HG3 := Aside0.mk hg3; have ha3 := blk_below HA.out hb; have HGR := Aside0.mk (show g ≠ r by rw [hr]; exact Nat.ne_of_lt (blk_lt HG2.out)); have c0 : w3.cell? ⟨g, 0, none⟩ = some (.string T) := (blk_cell hg3 0).trans rfl; have c1 : w3.cell? ⟨g, 1, none⟩ = some (.int .i64 sy) := (blk_cell hg3 1).trans rfl; have f0 : w3.frozen? ⟨g, 0, none⟩ = false := blk_frozen hg3 0; have f1 : w3.frozen? ⟨g, 1, none⟩ = false := blk_frozen hg3 1; have a0 : w3.cell? ⟨a, 0, none⟩ = some (.int .i64 2) := (blk_cell ha3 0).trans rfl; have a1 : w3.cell? ⟨a, 1, none⟩ = some (.string s) := (blk_cell ha3 1).trans rfl; have a2 : w3.cell? ⟨a, 2, none⟩ = some (.int .u64 keep) := (blk_cell ha3 2).trans rfl; have r0 : w3.cell? ⟨r, 0, none⟩ = some (.string ⟨#[]⟩) := (blk_cell hbox 0).trans rfl; have r1 : w3.cell? ⟨r, 1, none⟩ = some (.int .i64 0) := (blk_cell hbox 1).trans rfl; have z0 : w3.frozen? ⟨r, 0, none⟩ = false := blk_frozen hbox 0; have z1 : w3.frozen? ⟨r, 1, none⟩ = false := blk_frozen hbox 1; have hgr := HGR.out; have hrg := Ne.symm hgr; clear hr hbox hb hg3 ha3))
  refine bodyPost_ret (results_row_tmp rfl _ _ r 28 _ (0, 0) _ rfl (two_set (far_set HX.out HGR.out _ _) _ _) Try.underlying28 rfl (by kernel_rfl)) rfl ?_
  exact ⟨rfl, ((HB3.out.setCell (by rw [HE.out]; exact Nat.le_refl _) _).setCell HRW.out _).setCell HRW.out _⟩

set_option maxHeartbeats 8000000 in
set_option maxRecDepth 100000 in
theorem RefFull {T : ByteArray} {sy : Int} (s : ByteArray) (keep : Int) (w : World) (hT : T.size ≤ 65536) (h : ¬ T.size + s.size ≤ 65536) :
    Calls Try.prog 23 #[.agg #[.string T, .int .i64 sy], .agg #[.int .i64 1, .string s, .int .u64 keep]] w fun e w' => e = .returned (.tuple #[.agg #[.string T, .int .i64 sy], .int .i64 2]) ∧ Below w.heap.size w w' := by
  have hw : wrap64 (65536 - (T.size : Int)) = 65536 - (T.size : Int) := by unfold wrap64; omega
  have ht : decide ((s.size : Int) > wrap64 (65536 - (T.size : Int))) = true := by rw [hw]; exact decide_eq_true (by omega)
  have ht2 : decide ((s.size : Int) > 65536 - (T.size : Int)) = true := decide_eq_true (by omega)
  clear hw
  go_enter Try.func23, Try.ntmps23
  go_wp2_with (first | ((with_reducible refine gate_dst (N := 2) rfl ?_); refine box_event ?hg (N := 2) ?hd (cs := #[.string T, .int .i64 sy]) (t := 28) ?hr ?_; (case hd => rfl); (case hg => rfl); (case hr => first | (go_simp; done) | (go_simp; rfl)); intro g hg w1 hbox hb; have HG := Aside0.mk hbox; have HE := Aside0.mk hg; have HB1 := Aside0.mk hb; clear hg hbox hb) | ((with_reducible refine gate_dst (N := 3) rfl ?_); refine box_event ?hg (N := 3) ?hd (cs := #[.int .i64 1, .string s, .int .u64 keep]) (t := 57) ?hr ?_; (case hd => rfl); (case hg => rfl); (case hr => first | (go_simp; done) | (go_simp; rfl)); intro a ha w2 hbox hb; have HA := Aside0.mk hbox; have HB2 := Aside0.mk (below_step HB1.out hb); have HG2 := Aside0.mk (blk_below HG.out hb); clear ha hbox hb) | ((with_reducible refine gate_dst (N := 4) rfl ?_); refine box_event ?hg (N := 4) ?hd (cs := #[.string ⟨#[]⟩, .int .i64 0]) (t := 28) ?hr ?_; (case hd => rfl); (case hg => rfl); (case hr => first | (go_simp; done) | (go_simp; rfl)); intro r hr w3 hbox hb; have HRW := Aside0.mk (show w.heap.size ≤ r by rw [hr]; exact HB2.out.size); have HX := Aside0.mk hbox; have HB3 := Aside0.mk (below_step HB2.out hb); have hg3 := blk_below HG2.out hb; have HG3 := Aside0.mk hg3; have ha3 := blk_below HA.out hb; have HGR := Aside0.mk (show g ≠ r by rw [hr]; exact Nat.ne_of_lt (blk_lt HG2.out)); have c0 : w3.cell? ⟨g, 0, none⟩ = some (.string T) := (blk_cell hg3 0).trans rfl; have c1 : w3.cell? ⟨g, 1, none⟩ = some (.int .i64 sy) := (blk_cell hg3 1).trans rfl; have f0 : w3.frozen? ⟨g, 0, none⟩ = false := blk_frozen hg3 0; have f1 : w3.frozen? ⟨g, 1, none⟩ = false := blk_frozen hg3 1; have a0 : w3.cell? ⟨a, 0, none⟩ = some (.int .i64 1) := (blk_cell ha3 0).trans rfl; have a1 : w3.cell? ⟨a, 1, none⟩ = some (.string s) := (blk_cell ha3 1).trans rfl; have a2 : w3.cell? ⟨a, 2, none⟩ = some (.int .u64 keep) := (blk_cell ha3 2).trans rfl; have r0 : w3.cell? ⟨r, 0, none⟩ = some (.string ⟨#[]⟩) := (blk_cell hbox 0).trans rfl; have r1 : w3.cell? ⟨r, 1, none⟩ = some (.int .i64 0) := (blk_cell hbox 1).trans rfl; have z0 : w3.frozen? ⟨r, 0, none⟩ = false := blk_frozen hbox 0; have z1 : w3.frozen? ⟨r, 1, none⟩ = false := blk_frozen hbox 1; have hgr := HGR.out; have hrg := Ne.symm hgr; clear hr hbox hb hg3 ha3))
  refine bodyPost_ret (results_row_tmp rfl _ _ r 28 _ (0, 0) _ rfl (two_set HX.out _ _) Try.underlying28 rfl (by kernel_rfl)) rfl ?_
  exact ⟨rfl, (HB3.out.setCell HRW.out _).setCell HRW.out _⟩

set_option maxHeartbeats 8000000 in
set_option maxRecDepth 100000 in
theorem RefWrite {T : ByteArray} {sy : Int} (s : ByteArray) (keep : Int) (w : World) (h : T.size + s.size ≤ 65536) :
    Calls Try.prog 23 #[.agg #[.string T, .int .i64 sy], .agg #[.int .i64 1, .string s, .int .u64 keep]] w fun e w' => e = .returned (.tuple #[.agg #[.string (T ++ s), .int .i64 sy], .int .i64 0]) ∧ Below w.heap.size w w' := by
  have hw : wrap64 (65536 - (T.size : Int)) = 65536 - (T.size : Int) := by unfold wrap64; omega
  have ht : decide ((s.size : Int) > wrap64 (65536 - (T.size : Int))) = false := by rw [hw]; exact decide_eq_false (by omega)
  have ht2 : decide ((s.size : Int) > 65536 - (T.size : Int)) = false := decide_eq_false (by omega)
  have hj : (9223372036854775807 < T.size + s.size) = False := eq_false (by omega)
  have hj2 : T.size + s.size ≤ 9223372036854775807 := by omega
  clear hw
  go_enter Try.func23, Try.ntmps23
  go_wp2_with (first | ((with_reducible refine gate_dst (N := 2) rfl ?_); refine box_event ?hg (N := 2) ?hd (cs := #[.string T, .int .i64 sy]) (t := 28) ?hr ?_; (case hd => rfl); (case hg => rfl); (case hr => first | (go_simp; done) | (go_simp; rfl)); intro g hg w1 hbox hb; have HG := Aside0.mk hbox; have HE := Aside0.mk hg; have HB1 := Aside0.mk hb; clear hg hbox hb) | ((with_reducible refine gate_dst (N := 3) rfl ?_); refine box_event ?hg (N := 3) ?hd (cs := #[.int .i64 1, .string s, .int .u64 keep]) (t := 57) ?hr ?_; (case hd => rfl); (case hg => rfl); (case hr => first | (go_simp; done) | (go_simp; rfl)); intro a ha w2 hbox hb; have HA := Aside0.mk hbox; have HB2 := Aside0.mk (below_step HB1.out hb); have HG2 := Aside0.mk (blk_below HG.out hb); clear ha hbox hb) | ((with_reducible refine gate_dst (N := 4) rfl ?_); refine box_event ?hg (N := 4) ?hd (cs := #[.string ⟨#[]⟩, .int .i64 0]) (t := 28) ?hr ?_; (case hd => rfl); (case hg => rfl); (case hr => first | (go_simp; done) | (go_simp; rfl)); intro r hr w3 hbox hb; have HRW := Aside0.mk (show w.heap.size ≤ r by rw [hr]; exact HB2.out.size); have HX := Aside0.mk hbox; have HB3 := Aside0.mk (below_step HB2.out hb); have hg3 := blk_below HG2.out hb; have HG3 := Aside0.mk hg3; have ha3 := blk_below HA.out hb; have HGR := Aside0.mk (show g ≠ r by rw [hr]; exact Nat.ne_of_lt (blk_lt HG2.out)); have c0 : w3.cell? ⟨g, 0, none⟩ = some (.string T) := (blk_cell hg3 0).trans rfl; have c1 : w3.cell? ⟨g, 1, none⟩ = some (.int .i64 sy) := (blk_cell hg3 1).trans rfl; have f0 : w3.frozen? ⟨g, 0, none⟩ = false := blk_frozen hg3 0; have f1 : w3.frozen? ⟨g, 1, none⟩ = false := blk_frozen hg3 1; have a0 : w3.cell? ⟨a, 0, none⟩ = some (.int .i64 1) := (blk_cell ha3 0).trans rfl; have a1 : w3.cell? ⟨a, 1, none⟩ = some (.string s) := (blk_cell ha3 1).trans rfl; have a2 : w3.cell? ⟨a, 2, none⟩ = some (.int .u64 keep) := (blk_cell ha3 2).trans rfl; have r0 : w3.cell? ⟨r, 0, none⟩ = some (.string ⟨#[]⟩) := (blk_cell hbox 0).trans rfl; have r1 : w3.cell? ⟨r, 1, none⟩ = some (.int .i64 0) := (blk_cell hbox 1).trans rfl; have z0 : w3.frozen? ⟨r, 0, none⟩ = false := blk_frozen hbox 0; have z1 : w3.frozen? ⟨r, 1, none⟩ = false := blk_frozen hbox 1; have hgr := HGR.out; have hrg := Ne.symm hgr; clear hr hbox hb hg3 ha3))
  refine bodyPost_ret (results_row_tmp rfl _ _ r 28 _ (0, 0) _ rfl (two_set (far_set HX.out HGR.out _ _) _ _) Try.underlying28 rfl (by kernel_rfl)) rfl ?_
  exact ⟨rfl, ((HB3.out.setCell (by rw [HE.out]; exact Nat.le_refl _) _).setCell HRW.out _).setCell HRW.out _⟩

set_option maxHeartbeats 8000000 in
set_option maxRecDepth 100000 in
theorem RefDoCrash0 {T : ByteArray} {sy : Int} (s : ByteArray) (keep : Int) (w : World) (U : ByteArray) (n : Int) (hV : ∀ w1, Calls Try.prog 32 #[.agg #[.string T, .int .i64 sy], .int .u64 keep] w1 fun e w2 => e = .returned (.agg #[.string U, .int .i64 n]) ∧ Below w1.heap.size w1 w2) :
    Calls Try.prog 23 #[.agg #[.string T, .int .i64 sy], .agg #[.int .i64 3, .string s, .int .u64 keep]] w fun e w' => e = .returned (.tuple #[.agg #[.string U, .int .i64 n], .int .i64 0]) ∧ Below w.heap.size w w' := by
  go_enter Try.func23, Try.ntmps23
  go_wp2_with (first | ((with_reducible refine gate_dst (N := 2) rfl ?_); refine box_event ?hg (N := 2) ?hd (cs := #[.string T, .int .i64 sy]) (t := 28) ?hr ?_; (case hd => rfl); (case hg => rfl); (case hr => first | (go_simp; done) | (go_simp; rfl)); intro g hg w1 hbox hb; have HG := Aside0.mk hbox; have HE := Aside0.mk hg; have HB1 := Aside0.mk hb; clear hg hbox hb) | ((with_reducible refine gate_dst (N := 3) rfl ?_); refine box_event ?hg (N := 3) ?hd (cs := #[.int .i64 3, .string s, .int .u64 keep]) (t := 57) ?hr ?_; (case hd => rfl); (case hg => rfl); (case hr => first | (go_simp; done) | (go_simp; rfl)); intro a ha w2 hbox hb; have HA := Aside0.mk hbox; have HB2 := Aside0.mk (below_step HB1.out hb); have HG2 := Aside0.mk (blk_below HG.out hb); clear ha hbox hb) | ((with_reducible refine gate_dst (N := 4) rfl ?_); refine box_event ?hg (N := 4) ?hd (cs := #[.string ⟨#[]⟩, .int .i64 0]) (t := 28) ?hr ?_; (case hd => rfl); (case hg => rfl); (case hr => first | (go_simp; done) | (go_simp; rfl)); intro r hr w3 hbox hb; have HRW := Aside0.mk (show w.heap.size ≤ r by rw [hr]; exact HB2.out.size); have HX := Aside0.mk hbox; have HB3 := Aside0.mk (below_step HB2.out hb); have hg3 := blk_below HG2.out hb; have HG3 := Aside0.mk hg3; have ha3 := blk_below HA.out hb; have HGR := Aside0.mk (show g ≠ r by rw [hr]; exact Nat.ne_of_lt (blk_lt HG2.out)); have c0 : w3.cell? ⟨g, 0, none⟩ = some (.string T) := (blk_cell hg3 0).trans rfl; have c1 : w3.cell? ⟨g, 1, none⟩ = some (.int .i64 sy) := (blk_cell hg3 1).trans rfl; have f0 : w3.frozen? ⟨g, 0, none⟩ = false := blk_frozen hg3 0; have f1 : w3.frozen? ⟨g, 1, none⟩ = false := blk_frozen hg3 1; have a0 : w3.cell? ⟨a, 0, none⟩ = some (.int .i64 3) := (blk_cell ha3 0).trans rfl; have a1 : w3.cell? ⟨a, 1, none⟩ = some (.string s) := (blk_cell ha3 1).trans rfl; have a2 : w3.cell? ⟨a, 2, none⟩ = some (.int .u64 keep) := (blk_cell ha3 2).trans rfl; have r0 : w3.cell? ⟨r, 0, none⟩ = some (.string ⟨#[]⟩) := (blk_cell hbox 0).trans rfl; have r1 : w3.cell? ⟨r, 1, none⟩ = some (.int .i64 0) := (blk_cell hbox 1).trans rfl; have z0 : w3.frozen? ⟨r, 0, none⟩ = false := blk_frozen hbox 0; have z1 : w3.frozen? ⟨r, 1, none⟩ = false := blk_frozen hbox 1; have hgr := HGR.out; have hrg := Ne.symm hgr; clear hr hbox hb hg3 ha3) | ((with_reducible refine gate_callee (f := 32) rfl ?_); refine goesL_ (some 38) rfl rfl Try.func32 (by kernel_rfl) rfl #[.agg #[.string T, .int .i64 sy], .int .u64 keep] rfl (by (try simp only [List.map_toArray, List.map_cons, List.map_nil]); first | done | rfl) ?_; (with_reducible refine (hV _).mono ?_); rintro e w4 ⟨rfl, hb⟩; refine ⟨_, rfl, ?_⟩; have hx4 := blk_below HX.out hb; have HX4 := Aside0.mk hx4; have HB4 := Aside0.mk (below_step HB3.out hb); have p0 : w4.cell? ⟨r, 0, none⟩ = some (.string ⟨#[]⟩) := (blk_cell hx4 0).trans rfl; have p1 : w4.cell? ⟨r, 1, none⟩ = some (.int .i64 0) := (blk_cell hx4 1).trans rfl; have y0 : w4.frozen? ⟨r, 0, none⟩ = false := blk_frozen hx4 0; have y1 : w4.frozen? ⟨r, 1, none⟩ = false := blk_frozen hx4 1; clear hb hx4))
  refine bodyPost_ret (results_row_tmp rfl _ _ r 28 _ (0, 0) _ rfl (two_set HX4.out _ _) Try.underlying28 rfl (by kernel_rfl)) rfl ?_
  exact ⟨rfl, (HB4.out.setCell HRW.out _).setCell HRW.out _⟩


theorem RefDoCrash {l : By} {sy : Nat} (s : ByteArray) (keep : Int) (hsl : sy ≤ l.length) (hl : l.length ≤ 65536) (w : World) :
    Calls Try.prog 23 #[.agg #[.string (mk l), .int .i64 (sy : Int)], .agg #[.int .i64 3, .string s, .int .u64 keep]] w fun e w' => e = .returned (.tuple #[.agg #[.string (mk (crB keep l sy)), .int .i64 ((crB keep l sy).length : Int)], .int .i64 0]) ∧ Below w.heap.size w w' := by
  refine RefDoCrash0 s keep w _ _ (fun w1 => ?_)
  refine (RefCrash keep hsl hl w1 _ _ rfl).mono ?_
  rintro e w2 ⟨rfl, hb⟩
  have e1 := crB_eq keep l sy
  have e2 : (tl keep ((sy : Int) / 64) (l.length - sy) sy (bytesOf (mk l)) sy).1.take (tl keep ((sy : Int) / 64) (l.length - sy) sy (bytesOf (mk l)) sy).2 = bytesOf (mk (crB keep l sy)) := by
    rw [← e1]
    unfold crashL
    rw [bytesOf_len]
  obtain ⟨h1, h2, h3, _⟩ := tl_spec keep ((sy : Int) / 64) (l.length - sy) sy (bytesOf (mk l)) sy (Nat.le_refl _) (by rw [bytesOf_len]; omega)
  have e3 : (crB keep l sy).length = (tl keep ((sy : Int) / 64) (l.length - sy) sy (bytesOf (mk l)) sy).2 := by
    have := congrArg List.length e2
    rw [bytesOf_len, List.length_take, h1, Nat.min_eq_left h3] at this
    exact this.symm
  rw [e2, str_bytesOf, e3]
  exact ⟨rfl, hb⟩
end Go.Proofs.Ytjmdigfinkkelaa.Wal
namespace Go.Proofs.Ytjmdigfinkkelaa.Wal
open Go.RowKit Go.Proofs.Ytjmdigfinkkelaa.PAll Go.Proofs.YtjmdigfinkkelaaW.PrintWords Go.Proofs.YtjmdigfinkkelaaW.PrintLast Go.Proofs.YtjmdigfinkkelaaW.PrintMore SG Go.Proofs.Ytjmdigfinkkelaa.Fun BRow
set_option linter.unusedVariables false
set_option linter.unusedSimpArgs false

theorem four_set {w : World} {r : Nat} {t : TypeId} {x0 x1 x2 x3 : Value} (h : w.heap[r]? = some (.cells #[x0, x1, x2, x3] t (0, 0))) (a b c d : Value) : ((((w.setCell ⟨r, 0, none⟩ a).setCell ⟨r, 1, none⟩ b).setCell ⟨r, 2, none⟩ c).setCell ⟨r, 3, none⟩ d).heap[r]? = some (.cells #[a, b, c, d] t (0, 0)) := by
  simpa using blk_set (blk_set (blk_set (blk_set h 0 a) 1 b) 2 c) 3 d
theorem lt_ne {w : World} {g r : Nat} {o : Obj} (h : w.heap[g]? = some o) (hr : r = w.heap.size) : g ≠ r := by rw [hr]; exact Nat.ne_of_lt (blk_lt h)
theorem R_four {w : World} {r B : Nat} {ok : Nat → Prop} {v : Value} {xs : List ByteArray} {x0 x1 x2 x3 : Value} (hR : Kd.string.R 9 w B ok v xs) (h : w.heap[r]? = some (.cells #[x0, x1, x2, x3] 31 (0, 0))) (a b c d : Value) : Kd.string.R 9 ((((w.setCell ⟨r, 0, none⟩ a).setCell ⟨r, 1, none⟩ b).setCell ⟨r, 2, none⟩ c).setCell ⟨r, 3, none⟩ d) B ok v xs :=
  Kd.R_set (Kd.R_set (Kd.R_set (Kd.R_set hR h (by decide) 0 a) (blk_set h 0 a) (by decide) 1 b) (blk_set (blk_set h 0 a) 1 b) (by decide) 2 c) (blk_set (blk_set (blk_set h 0 a) 1 b) 2 c) (by decide) 3 d
theorem R_fresh {w w0 : World} {B : Nat} {v : Value} {xs : List ByteArray} (hR : Kd.string.R 9 w B (fun _ => True) v xs) (h : w0.heap.size ≤ B) : Kd.string.R 9 w w0.heap.size (fun k => w0.heap.size ≤ k) v xs :=
  Kd.R_lower (Kd.R_mono (Kd.R_bound hR) (fun k hk => Nat.le_trans h hk.2.1)) h

set_option maxHeartbeats 8000000 in
set_option maxRecDepth 100000 in
theorem RSync {T : ByteArray} {sy sure : Int} {LA : Option Addr} {ln lc : Nat} (w : World) :
    Calls Try.prog 12 #[.agg #[.string T, .int .i64 sy, .slice LA ln lc, .int .i64 sure]] w fun e w' => e = .returned (.agg #[.string T, .int .i64 (T.size : Int), .slice LA ln lc, .int .i64 (ln : Int)]) ∧ Below w.heap.size w w' := by
  go_enter Try.func12, Try.ntmps12
  go_wp2_with (first | ((with_reducible refine gate_dst (N := 1) rfl ?_); refine box_event ?hg (N := 1) ?hd (cs := #[.string T, .int .i64 sy, .slice LA ln lc, .int .i64 sure]) (t := 31) ?hr ?_; (case hd => rfl); (case hg => rfl); (case hr => first | (go_simp; done) | (go_simp; rfl)); intro g hg w1 hbox hb; have HG := Aside0.mk hbox; have HE := Aside0.mk (show w.heap.size ≤ g by rw [hg]; exact Nat.le_refl _); have HB1 := Aside0.mk hb; clear hg hbox hb) | ((with_reducible refine gate_dst (N := 2) rfl ?_); refine box_event ?hg (N := 2) ?hd (cs := #[.string ⟨#[]⟩, .int .i64 0, .slice none 0 0, .int .i64 0]) (t := 31) ?hr ?_; (case hd => rfl); (case hg => rfl); (case hr => first | (go_simp; done) | (go_simp; rfl)); intro r hr w2 hbox hb; have HRW := Aside0.mk (show w.heap.size ≤ r by rw [hr]; exact HB1.out.size); have HX := Aside0.mk hbox; have HB2 := Aside0.mk (below_step HB1.out hb); have HGR := Aside0.mk (lt_ne HG.out hr); have hg2 := blk_below HG.out hb; have HG2 := Aside0.mk hg2; have c0 : w2.cell? ⟨g, 0, none⟩ = some (.string T) := (blk_cell hg2 0).trans rfl; have cz0 : w2.frozen? ⟨g, 0, none⟩ = false := blk_frozen hg2 0; have c1 : w2.cell? ⟨g, 1, none⟩ = some (.int .i64 sy) := (blk_cell hg2 1).trans rfl; have cz1 : w2.frozen? ⟨g, 1, none⟩ = false := blk_frozen hg2 1; have c2 : w2.cell? ⟨g, 2, none⟩ = some (.slice LA ln lc) := (blk_cell hg2 2).trans rfl; have cz2 : w2.frozen? ⟨g, 2, none⟩ = false := blk_frozen hg2 2; have c3 : w2.cell? ⟨g, 3, none⟩ = some (.int .i64 sure) := (blk_cell hg2 3).trans rfl; have cz3 : w2.frozen? ⟨g, 3, none⟩ = false := blk_frozen hg2 3; have r0 : w2.cell? ⟨r, 0, none⟩ = some (.string ⟨#[]⟩) := (blk_cell hbox 0).trans rfl; have rz0 : w2.frozen? ⟨r, 0, none⟩ = false := blk_frozen hbox 0; have r1 : w2.cell? ⟨r, 1, none⟩ = some (.int .i64 0) := (blk_cell hbox 1).trans rfl; have rz1 : w2.frozen? ⟨r, 1, none⟩ = false := blk_frozen hbox 1; have r2 : w2.cell? ⟨r, 2, none⟩ = some (.slice none 0 0) := (blk_cell hbox 2).trans rfl; have rz2 : w2.frozen? ⟨r, 2, none⟩ = false := blk_frozen hbox 2; have r3 : w2.cell? ⟨r, 3, none⟩ = some (.int .i64 0) := (blk_cell hbox 3).trans rfl; have rz3 : w2.frozen? ⟨r, 3, none⟩ = false := blk_frozen hbox 3; have hgr := HGR.out; have hrg := Ne.symm hgr; clear hr hbox hb hg2) | ((with_reducible refine gate_callee (f := 23) rfl ?_); refine goesL_ (some 9) rfl rfl Try.func23 (by kernel_rfl) rfl #[.agg #[.string T, .int .i64 sy], .agg #[.int .i64 2, .string ⟨#[]⟩, .int .u64 0]] rfl (by (try simp only [List.map_toArray, List.map_cons, List.map_nil]); first | done | rfl) ?_; (with_reducible refine (RefSync _ _ _).mono ?_); rintro e w3 ⟨rfl, hb⟩; refine ⟨_, rfl, ?_⟩; have HX3 := Aside0.mk (blk_below HX.out hb); have HG3 := Aside0.mk (blk_below HG2.out hb); have HB3 := Aside0.mk (below_step HB2.out hb); clear hb) | ((with_reducible refine gate_dst (N := 3) rfl ?_); refine box_event ?hg (N := 3) ?hd (cs := #[.string ⟨#[]⟩, .int .i64 0]) (t := 28) ?hr ?_; (case hd => rfl); (case hg => rfl); (case hr => first | (go_simp; done) | (go_simp; rfl)); intro d hd w4 hbox hb; have HD := Aside0.mk (show w.heap.size ≤ d by rw [hd]; exact HB3.out.size); have hgd := lt_ne HG3.out hd; have hrd := lt_ne HX3.out hd; have hdg := Ne.symm hgd; have hdr := Ne.symm hrd; have hg4 := blk_below HG3.out hb; have hx4 := blk_below HX3.out hb; have HX4 := Aside0.mk hx4; have HB4 := Aside0.mk (below_step HB3.out hb); have p0 : w4.cell? ⟨g, 0, none⟩ = some (.string T) := (blk_cell hg4 0).trans rfl; have pz0 : w4.frozen? ⟨g, 0, none⟩ = false := blk_frozen hg4 0; have p1 : w4.cell? ⟨g, 1, none⟩ = some (.int .i64 sy) := (blk_cell hg4 1).trans rfl; have pz1 : w4.frozen? ⟨g, 1, none⟩ = false := blk_frozen hg4 1; have p2 : w4.cell? ⟨g, 2, none⟩ = some (.slice LA ln lc) := (blk_cell hg4 2).trans rfl; have pz2 : w4.frozen? ⟨g, 2, none⟩ = false := blk_frozen hg4 2; have p3 : w4.cell? ⟨g, 3, none⟩ = some (.int .i64 sure) := (blk_cell hg4 3).trans rfl; have pz3 : w4.frozen? ⟨g, 3, none⟩ = false := blk_frozen hg4 3; have q0 : w4.cell? ⟨r, 0, none⟩ = some (.string ⟨#[]⟩) := (blk_cell hx4 0).trans rfl; have qz0 : w4.frozen? ⟨r, 0, none⟩ = false := blk_frozen hx4 0; have q1 : w4.cell? ⟨r, 1, none⟩ = some (.int .i64 0) := (blk_cell hx4 1).trans rfl; have qz1 : w4.frozen? ⟨r, 1, none⟩ = false := blk_frozen hx4 1; have q2 : w4.cell? ⟨r, 2, none⟩ = some (.slice none 0 0) := (blk_cell hx4 2).trans rfl; have qz2 : w4.frozen? ⟨r, 2, none⟩ = false := blk_frozen hx4 2; have q3 : w4.cell? ⟨r, 3, none⟩ = some (.int .i64 0) := (blk_cell hx4 3).trans rfl; have qz3 : w4.frozen? ⟨r, 3, none⟩ = false := blk_frozen hx4 3; have s0 : w4.cell? ⟨d, 0, none⟩ = some (.string ⟨#[]⟩) := (blk_cell hbox 0).trans rfl; have sz0 : w4.frozen? ⟨d, 0, none⟩ = false := blk_frozen hbox 0; have s1 : w4.cell? ⟨d, 1, none⟩ = some (.int .i64 0) := (blk_cell hbox 1).trans rfl; have sz1 : w4.frozen? ⟨d, 1, none⟩ = false := blk_frozen hbox 1; clear hd hbox hb hg4 hx4))
  refine bodyPost_ret (results_cell_row rfl _ _ r 31 _ (0, 0) _ rfl (four_set (by repeat (first | (with_reducible exact HX4.out) | (with_reducible refine far_set ?_ (by assumption) _ _))) _ _ _ _) Try.underlying31 rfl (by kernel_rfl)) rfl ?_
  exact ⟨rfl, by repeat (first | (with_reducible exact HB4.out) | (with_reducible refine Below.setCell ?_ (by first | exact HRW.out | exact HE.out | exact HD.out) _))⟩

set_option maxHeartbeats 8000000 in
set_option maxRecDepth 100000 in
theorem RCrash0 {T : ByteArray} {sy sure keep : Int} {LA : Option Addr} {ln lc : Nat} (U : By) (n0 : Int) (K : Nat) (l : List ByteArray) (m : Nat) (w : World)
    (hV : ∀ w1, Calls Try.prog 23 #[.agg #[.string T, .int .i64 sy], .agg #[.int .i64 3, .string ⟨#[]⟩, .int .u64 keep]] w1 fun e w2 => e = .returned (.tuple #[.agg #[.string (mk U), .int .i64 n0], .int .i64 0]) ∧ Below w1.heap.size w1 w2)
    (hK : sandglassref17_Prefix.f K (mk U) = some (l, (m : Int))) (hm : m ≤ U.length) (hU : U.length ≤ 65536) :
    Calls Try.prog 14 #[.agg #[.string T, .int .i64 sy, .slice LA ln lc, .int .i64 sure], .int .u64 keep] w fun e w' => (∃ A c, e = .returned (.agg #[.string ((mk U).extract 0 m), .int .i64 (m : Int), .slice A l.length c, .int .i64 (l.length : Int)]) ∧ Kd.string.R 9 w' w.heap.size (fun k => w.heap.size ≤ k) (.slice A l.length c) l) ∧ Below w.heap.size w w' := by
  have HK := Aside0.mk hK
  have um : (mk U).size = U.length := mk_size U
  have hmu : m ≤ (mk U).size := by omega
  have hmu2 : decide ((m : Int) ≤ ((mk U).size : Int)) = true := decide_eq_true (by omega)
  clear hK
  go_enter Try.func14, Try.ntmps14
  go_wp2_with (first | ((with_reducible refine gate_dst (N := 2) rfl ?_); refine box_event ?hg (N := 2) ?hd (cs := #[.string T, .int .i64 sy, .slice LA ln lc, .int .i64 sure]) (t := 31) ?hr ?_; (case hd => rfl); (case hg => rfl); (case hr => first | (go_simp; done) | (go_simp; rfl)); intro g hg w1 hbox hb; have HG := Aside0.mk hbox; have HE := Aside0.mk (show w.heap.size ≤ g by rw [hg]; exact Nat.le_refl _); have HB1 := Aside0.mk hb; clear hg hbox hb) | ((with_reducible refine gate_dst (N := 4) rfl ?_); refine box_event ?hg (N := 4) ?hd (cs := #[.string ⟨#[]⟩, .int .i64 0, .slice none 0 0, .int .i64 0]) (t := 31) ?hr ?_; (case hd => rfl); (case hg => rfl); (case hr => first | (go_simp; done) | (go_simp; rfl)); intro r hr w2 hbox hb; have HRW := Aside0.mk (show w.heap.size ≤ r by rw [hr]; exact HB1.out.size); have HX := Aside0.mk hbox; have HB2 := Aside0.mk (below_step HB1.out hb); have HGR := Aside0.mk (lt_ne HG.out hr); have hg2 := blk_below HG.out hb; have HG2 := Aside0.mk hg2; have c0 : w2.cell? ⟨g, 0, none⟩ = some (.string T) := (blk_cell hg2 0).trans rfl; have cz0 : w2.frozen? ⟨g, 0, none⟩ = false := blk_frozen hg2 0; have c1 : w2.cell? ⟨g, 1, none⟩ = some (.int .i64 sy) := (blk_cell hg2 1).trans rfl; have cz1 : w2.frozen? ⟨g, 1, none⟩ = false := blk_frozen hg2 1; have c2 : w2.cell? ⟨g, 2, none⟩ = some (.slice LA ln lc) := (blk_cell hg2 2).trans rfl; have cz2 : w2.frozen? ⟨g, 2, none⟩ = false := blk_frozen hg2 2; have c3 : w2.cell? ⟨g, 3, none⟩ = some (.int .i64 sure) := (blk_cell hg2 3).trans rfl; have cz3 : w2.frozen? ⟨g, 3, none⟩ = false := blk_frozen hg2 3; have r0 : w2.cell? ⟨r, 0, none⟩ = some (.string ⟨#[]⟩) := (blk_cell hbox 0).trans rfl; have rz0 : w2.frozen? ⟨r, 0, none⟩ = false := blk_frozen hbox 0; have r1 : w2.cell? ⟨r, 1, none⟩ = some (.int .i64 0) := (blk_cell hbox 1).trans rfl; have rz1 : w2.frozen? ⟨r, 1, none⟩ = false := blk_frozen hbox 1; have r2 : w2.cell? ⟨r, 2, none⟩ = some (.slice none 0 0) := (blk_cell hbox 2).trans rfl; have rz2 : w2.frozen? ⟨r, 2, none⟩ = false := blk_frozen hbox 2; have r3 : w2.cell? ⟨r, 3, none⟩ = some (.int .i64 0) := (blk_cell hbox 3).trans rfl; have rz3 : w2.frozen? ⟨r, 3, none⟩ = false := blk_frozen hbox 3; have hgr := HGR.out; have hrg := Ne.symm hgr; clear hr hbox hb hg2) | ((with_reducible refine gate_callee (f := 23) rfl ?_); refine goesL_ (some 14) rfl rfl Try.func23 (by kernel_rfl) rfl #[.agg #[.string T, .int .i64 sy], .agg #[.int .i64 3, .string ⟨#[]⟩, .int .u64 keep]] rfl (by (try simp only [List.map_toArray, List.map_cons, List.map_nil]); first | done | rfl) ?_; (with_reducible refine (hV _).mono ?_); rintro e w3 ⟨rfl, hb⟩; refine ⟨_, rfl, ?_⟩; have HX3 := Aside0.mk (blk_below HX.out hb); have HB3 := Aside0.mk (below_step HB2.out hb); clear hb) | ((with_reducible refine gate_dst (N := 5) rfl ?_); refine box_event ?hg (N := 5) ?hd (cs := #[.string ⟨#[]⟩, .int .i64 0]) (t := 28) ?hr ?_; (case hd => rfl); (case hg => rfl); (case hr => first | (go_simp; done) | (go_simp; rfl)); intro d hd w4 hbox hb; have HD := Aside0.mk (show w.heap.size ≤ d by rw [hd]; exact HB3.out.size); have hrd := lt_ne HX3.out hd; have hdr := Ne.symm hrd; have HDB := Aside0.mk hbox; have hx4 := blk_below HX3.out hb; have HX4 := Aside0.mk hx4; have HB4 := Aside0.mk (below_step HB3.out hb); have s0 : w4.cell? ⟨d, 0, none⟩ = some (.string ⟨#[]⟩) := (blk_cell hbox 0).trans rfl; have sz0 : w4.frozen? ⟨d, 0, none⟩ = false := blk_frozen hbox 0; have s1 : w4.cell? ⟨d, 1, none⟩ = some (.int .i64 0) := (blk_cell hbox 1).trans rfl; have sz1 : w4.frozen? ⟨d, 1, none⟩ = false := blk_frozen hbox 1; clear hd hbox hb hx4) | ((with_reducible refine gate_callee (f := 27) rfl ?_); refine goesL_ (some 20) rfl rfl Try.func27 (by kernel_rfl) rfl #[.string (mk U)] rfl (by (try simp only [List.map_toArray, List.map_cons, List.map_nil]); first | done | rfl) ?_; (with_reducible refine (sandglassref17_Prefix.calls K _ l (m : Int) _ HK.out).mono ?_); rintro e w6 ⟨v6, rfl, hr6, hb6⟩; refine ⟨_, rfl, ?_⟩; obtain ⟨A6, k6, rfl⟩ := Kd.R_slice hr6; have hd6 := blk_below (two_set HDB.out (.string (mk U)) (.int .i64 n0)) hb6; have hx6 := blk_below (far_set (far_set HX4.out hdr 0 (.string (mk U))) hdr 1 (.int .i64 n0)) hb6; have HX6 := Aside0.mk hx6; have HR6 := Aside0.mk hr6; have hb5 : Below w.heap.size w ((w4.setCell ⟨d, 0, none⟩ (.string (mk U))).setCell ⟨d, 1, none⟩ (.int .i64 n0)) := Below.setCell (Below.setCell HB4.out HD.out _) HD.out _; have HS5 := Aside0.mk hb5.size; have HB6 := Aside0.mk (below_step hb5 hb6); have p0 : w6.cell? ⟨d, 0, none⟩ = some (.string (mk U)) := (blk_cell hd6 0).trans rfl; have pz0 : w6.frozen? ⟨d, 0, none⟩ = false := blk_frozen hd6 0; have p1 : w6.cell? ⟨d, 1, none⟩ = some (.int .i64 n0) := (blk_cell hd6 1).trans rfl; have pz1 : w6.frozen? ⟨d, 1, none⟩ = false := blk_frozen hd6 1; have q0 : w6.cell? ⟨r, 0, none⟩ = some (.string ⟨#[]⟩) := (blk_cell hx6 0).trans rfl; have qz0 : w6.frozen? ⟨r, 0, none⟩ = false := blk_frozen hx6 0; have q1 : w6.cell? ⟨r, 1, none⟩ = some (.int .i64 0) := (blk_cell hx6 1).trans rfl; have qz1 : w6.frozen? ⟨r, 1, none⟩ = false := blk_frozen hx6 1; have q2 : w6.cell? ⟨r, 2, none⟩ = some (.slice none 0 0) := (blk_cell hx6 2).trans rfl; have qz2 : w6.frozen? ⟨r, 2, none⟩ = false := blk_frozen hx6 2; have q3 : w6.cell? ⟨r, 3, none⟩ = some (.int .i64 0) := (blk_cell hx6 3).trans rfl; have qz3 : w6.frozen? ⟨r, 3, none⟩ = false := blk_frozen hx6 3; clear hr6 hb5 hb6 hd6 hx6))
  refine bodyPost_ret (results_cell_row rfl _ _ r 31 _ (0, 0) _ rfl (four_set (by repeat (first | (with_reducible exact HX6.out) | (with_reducible refine far_set ?_ (by assumption) _ _))) _ _ _ _) Try.underlying31 rfl (by kernel_rfl)) rfl ?_
  exact ⟨⟨A6, k6, rfl, R_four (R_fresh HR6.out HS5.out) HX6.out _ _ _ _⟩, by repeat (first | (with_reducible exact HB6.out) | (with_reducible refine Below.setCell ?_ (by first | exact HRW.out | exact HE.out | exact HD.out) _))⟩
end Go.Proofs.Ytjmdigfinkkelaa.Wal
namespace Go.Proofs.Ytjmdigfinkkelaa.Wal
open Go.RowKit Go.Proofs.Ytjmdigfinkkelaa.PAll Go.Proofs.YtjmdigfinkkelaaW.PrintWords Go.Proofs.YtjmdigfinkkelaaW.PrintLast Go.Proofs.YtjmdigfinkkelaaW.PrintMore SG Go.Proofs.Ytjmdigfinkkelaa.Fun BRow
set_option linter.unusedVariables false
set_option linter.unusedSimpArgs false


set_option maxHeartbeats 8000000 in
set_option maxRecDepth 100000 in
theorem RAppErr {T : ByteArray} {sy sure : Int} {LA : Option Addr} {ln lc : Nat} (K : Nat) (s f : ByteArray) (e1 : Int) (w : World) (hK : sandglassref17_Frame.f K s = some (f, e1)) (he : e1 ≠ 0) :
    Calls Try.prog 15 #[.agg #[.string T, .int .i64 sy, .slice LA ln lc, .int .i64 sure], .string s] w fun e w' => e = .returned (.tuple #[.agg #[.string T, .int .i64 sy, .slice LA ln lc, .int .i64 sure], .int .i64 e1]) ∧ Below w.heap.size w w' := by
  have HK := Aside0.mk hK
  clear hK
  have he1 : (e1 != 0) = true := bne_iff_ne.mpr he
  go_enter Try.func15, Try.ntmps15
  go_wp2_with (first | ((with_reducible refine gate_dst (N := 2) rfl ?_); refine box_event ?hg (N := 2) ?hd (cs := #[.string T, .int .i64 sy, .slice LA ln lc, .int .i64 sure]) (t := 31) ?hr ?_; (case hd => rfl); (case hg => rfl); (case hr => first | (go_simp; done) | (go_simp; rfl)); intro g hg w1 hbox hb; have HG := Aside0.mk hbox; have HE := Aside0.mk (show w.heap.size ≤ g by rw [hg]; exact Nat.le_refl _); have HB1 := Aside0.mk hb; clear hg hbox hb) | ((with_reducible refine gate_dst (N := 4) rfl ?_); refine box_event ?hg (N := 4) ?hd (cs := #[.string ⟨#[]⟩, .int .i64 0, .slice none 0 0, .int .i64 0]) (t := 31) ?hr ?_; (case hd => rfl); (case hg => rfl); (case hr => first | (go_simp; done) | (go_simp; rfl)); intro r hr w2 hbox hb; have HRW := Aside0.mk (show w.heap.size ≤ r by rw [hr]; exact HB1.out.size); have HX := Aside0.mk hbox; have HB2 := Aside0.mk (below_step HB1.out hb); have HGR := Aside0.mk (lt_ne HG.out hr); have hg2 := blk_below HG.out hb; have HG2 := Aside0.mk hg2; have c0 : w2.cell? ⟨g, 0, none⟩ = some (.string T) := (blk_cell hg2 0).trans rfl; have cz0 : w2.frozen? ⟨g, 0, none⟩ = false := blk_frozen hg2 0; have c1 : w2.cell? ⟨g, 1, none⟩ = some (.int .i64 sy) := (blk_cell hg2 1).trans rfl; have cz1 : w2.frozen? ⟨g, 1, none⟩ = false := blk_frozen hg2 1; have c2 : w2.cell? ⟨g, 2, none⟩ = some (.slice LA ln lc) := (blk_cell hg2 2).trans rfl; have cz2 : w2.frozen? ⟨g, 2, none⟩ = false := blk_frozen hg2 2; have c3 : w2.cell? ⟨g, 3, none⟩ = some (.int .i64 sure) := (blk_cell hg2 3).trans rfl; have cz3 : w2.frozen? ⟨g, 3, none⟩ = false := blk_frozen hg2 3; have r0 : w2.cell? ⟨r, 0, none⟩ = some (.string ⟨#[]⟩) := (blk_cell hbox 0).trans rfl; have rz0 : w2.frozen? ⟨r, 0, none⟩ = false := blk_frozen hbox 0; have r1 : w2.cell? ⟨r, 1, none⟩ = some (.int .i64 0) := (blk_cell hbox 1).trans rfl; have rz1 : w2.frozen? ⟨r, 1, none⟩ = false := blk_frozen hbox 1; have r2 : w2.cell? ⟨r, 2, none⟩ = some (.slice none 0 0) := (blk_cell hbox 2).trans rfl; have rz2 : w2.frozen? ⟨r, 2, none⟩ = false := blk_frozen hbox 2; have r3 : w2.cell? ⟨r, 3, none⟩ = some (.int .i64 0) := (blk_cell hbox 3).trans rfl; have rz3 : w2.frozen? ⟨r, 3, none⟩ = false := blk_frozen hbox 3; have hgr := HGR.out; have hrg := Ne.symm hgr; clear hr hbox hb hg2) | ((with_reducible refine gate_callee (f := 28) rfl ?_); refine goesL_ (some 11) rfl rfl Try.func28 (by kernel_rfl) rfl #[.string s] rfl (by (try simp only [List.map_toArray, List.map_cons, List.map_nil]); first | done | rfl) ?_; (with_reducible refine (sandglassref17_Frame.calls K s f e1 _ HK.out).mono ?_); rintro e w3 ⟨rfl, hb⟩; refine ⟨_, rfl, ?_⟩; have hg3 := blk_below HG2.out hb; have hx3 := blk_below HX.out hb; have HX3 := Aside0.mk hx3; have HG3 := Aside0.mk hg3; have HB3 := Aside0.mk (below_step HB2.out hb); have d0 : w3.cell? ⟨g, 0, none⟩ = some (.string T) := (blk_cell hg3 0).trans rfl; have dz0 : w3.frozen? ⟨g, 0, none⟩ = false := blk_frozen hg3 0; have d1 : w3.cell? ⟨g, 1, none⟩ = some (.int .i64 sy) := (blk_cell hg3 1).trans rfl; have dz1 : w3.frozen? ⟨g, 1, none⟩ = false := blk_frozen hg3 1; have d2 : w3.cell? ⟨g, 2, none⟩ = some (.slice LA ln lc) := (blk_cell hg3 2).trans rfl; have dz2 : w3.frozen? ⟨g, 2, none⟩ = false := blk_frozen hg3 2; have d3 : w3.cell? ⟨g, 3, none⟩ = some (.int .i64 sure) := (blk_cell hg3 3).trans rfl; have dz3 : w3.frozen? ⟨g, 3, none⟩ = false := blk_frozen hg3 3; have q0 : w3.cell? ⟨r, 0, none⟩ = some (.string ⟨#[]⟩) := (blk_cell hx3 0).trans rfl; have qz0 : w3.frozen? ⟨r, 0, none⟩ = false := blk_frozen hx3 0; have q1 : w3.cell? ⟨r, 1, none⟩ = some (.int .i64 0) := (blk_cell hx3 1).trans rfl; have qz1 : w3.frozen? ⟨r, 1, none⟩ = false := blk_frozen hx3 1; have q2 : w3.cell? ⟨r, 2, none⟩ = some (.slice none 0 0) := (blk_cell hx3 2).trans rfl; have qz2 : w3.frozen? ⟨r, 2, none⟩ = false := blk_frozen hx3 2; have q3 : w3.cell? ⟨r, 3, none⟩ = some (.int .i64 0) := (blk_cell hx3 3).trans rfl; have qz3 : w3.frozen? ⟨r, 3, none⟩ = false := blk_frozen hx3 3; clear hb hg3 hx3))
  refine bodyPost_ret (results_row_tmp rfl _ _ r 31 _ (0, 0) _ rfl (four_set (by repeat (first | (with_reducible exact HX3.out) | (with_reducible refine far_set ?_ (by assumption) _ _))) _ _ _ _) Try.underlying31 rfl (by kernel_rfl)) rfl ?_
  exact ⟨rfl, by repeat (first | (with_reducible exact HB3.out) | (with_reducible refine Below.setCell ?_ (by first | exact HRW.out | exact HE.out | exact HD.out) _))⟩

set_option maxHeartbeats 8000000 in
set_option maxRecDepth 100000 in
theorem RAppFull {T : ByteArray} {sy sure : Int} {LA : Option Addr} {ln lc : Nat} (K : Nat) (s f : ByteArray) (w : World) (hK : sandglassref17_Frame.f K s = some (f, 0)) (hT : T.size ≤ 65536) (hfit : ¬ T.size + f.size ≤ 65536) :
    Calls Try.prog 15 #[.agg #[.string T, .int .i64 sy, .slice LA ln lc, .int .i64 sure], .string s] w fun e w' => e = .returned (.tuple #[.agg #[.string T, .int .i64 sy, .slice LA ln lc, .int .i64 sure], .int .i64 7]) ∧ Below w.heap.size w w' := by
  have HK := Aside0.mk hK
  clear hK
  go_enter Try.func15, Try.ntmps15
  go_wp2_with (first | ((with_reducible refine gate_dst (N := 2) rfl ?_); refine box_event ?hg (N := 2) ?hd (cs := #[.string T, .int .i64 sy, .slice LA ln lc, .int .i64 sure]) (t := 31) ?hr ?_; (case hd => rfl); (case hg => rfl); (case hr => first | (go_simp; done) | (go_simp; rfl)); intro g hg w1 hbox hb; have HG := Aside0.mk hbox; have HE := Aside0.mk (show w.heap.size ≤ g by rw [hg]; exact Nat.le_refl _); have HB1 := Aside0.mk hb; clear hg hbox hb) | ((with_reducible refine gate_dst (N := 4) rfl ?_); refine box_event ?hg (N := 4) ?hd (cs := #[.string ⟨#[]⟩, .int .i64 0, .slice none 0 0, .int .i64 0]) (t := 31) ?hr ?_; (case hd => rfl); (case hg => rfl); (case hr => first | (go_simp; done) | (go_simp; rfl)); intro r hr w2 hbox hb; have HRW := Aside0.mk (show w.heap.size ≤ r by rw [hr]; exact HB1.out.size); have HX := Aside0.mk hbox; have HB2 := Aside0.mk (below_step HB1.out hb); have HGR := Aside0.mk (lt_ne HG.out hr); have hg2 := blk_below HG.out hb; have HG2 := Aside0.mk hg2; have c0 : w2.cell? ⟨g, 0, none⟩ = some (.string T) := (blk_cell hg2 0).trans rfl; have cz0 : w2.frozen? ⟨g, 0, none⟩ = false := blk_frozen hg2 0; have c1 : w2.cell? ⟨g, 1, none⟩ = some (.int .i64 sy) := (blk_cell hg2 1).trans rfl; have cz1 : w2.frozen? ⟨g, 1, none⟩ = false := blk_frozen hg2 1; have c2 : w2.cell? ⟨g, 2, none⟩ = some (.slice LA ln lc) := (blk_cell hg2 2).trans rfl; have cz2 : w2.frozen? ⟨g, 2, none⟩ = false := blk_frozen hg2 2; have c3 : w2.cell? ⟨g, 3, none⟩ = some (.int .i64 sure) := (blk_cell hg2 3).trans rfl; have cz3 : w2.frozen? ⟨g, 3, none⟩ = false := blk_frozen hg2 3; have r0 : w2.cell? ⟨r, 0, none⟩ = some (.string ⟨#[]⟩) := (blk_cell hbox 0).trans rfl; have rz0 : w2.frozen? ⟨r, 0, none⟩ = false := blk_frozen hbox 0; have r1 : w2.cell? ⟨r, 1, none⟩ = some (.int .i64 0) := (blk_cell hbox 1).trans rfl; have rz1 : w2.frozen? ⟨r, 1, none⟩ = false := blk_frozen hbox 1; have r2 : w2.cell? ⟨r, 2, none⟩ = some (.slice none 0 0) := (blk_cell hbox 2).trans rfl; have rz2 : w2.frozen? ⟨r, 2, none⟩ = false := blk_frozen hbox 2; have r3 : w2.cell? ⟨r, 3, none⟩ = some (.int .i64 0) := (blk_cell hbox 3).trans rfl; have rz3 : w2.frozen? ⟨r, 3, none⟩ = false := blk_frozen hbox 3; have hgr := HGR.out; have hrg := Ne.symm hgr; clear hr hbox hb hg2) | ((with_reducible refine gate_callee (f := 28) rfl ?_); refine goesL_ (some 11) rfl rfl Try.func28 (by kernel_rfl) rfl #[.string s] rfl (by (try simp only [List.map_toArray, List.map_cons, List.map_nil]); first | done | rfl) ?_; (with_reducible refine (sandglassref17_Frame.calls K s f 0 _ HK.out).mono ?_); rintro e w3 ⟨rfl, hb⟩; refine ⟨_, rfl, ?_⟩; have hg3 := blk_below HG2.out hb; have hx3 := blk_below HX.out hb; have HX3 := Aside0.mk hx3; have HG3 := Aside0.mk hg3; have HB3 := Aside0.mk (below_step HB2.out hb); have d0 : w3.cell? ⟨g, 0, none⟩ = some (.string T) := (blk_cell hg3 0).trans rfl; have dz0 : w3.frozen? ⟨g, 0, none⟩ = false := blk_frozen hg3 0; have d1 : w3.cell? ⟨g, 1, none⟩ = some (.int .i64 sy) := (blk_cell hg3 1).trans rfl; have dz1 : w3.frozen? ⟨g, 1, none⟩ = false := blk_frozen hg3 1; have d2 : w3.cell? ⟨g, 2, none⟩ = some (.slice LA ln lc) := (blk_cell hg3 2).trans rfl; have dz2 : w3.frozen? ⟨g, 2, none⟩ = false := blk_frozen hg3 2; have d3 : w3.cell? ⟨g, 3, none⟩ = some (.int .i64 sure) := (blk_cell hg3 3).trans rfl; have dz3 : w3.frozen? ⟨g, 3, none⟩ = false := blk_frozen hg3 3; have q0 : w3.cell? ⟨r, 0, none⟩ = some (.string ⟨#[]⟩) := (blk_cell hx3 0).trans rfl; have qz0 : w3.frozen? ⟨r, 0, none⟩ = false := blk_frozen hx3 0; have q1 : w3.cell? ⟨r, 1, none⟩ = some (.int .i64 0) := (blk_cell hx3 1).trans rfl; have qz1 : w3.frozen? ⟨r, 1, none⟩ = false := blk_frozen hx3 1; have q2 : w3.cell? ⟨r, 2, none⟩ = some (.slice none 0 0) := (blk_cell hx3 2).trans rfl; have qz2 : w3.frozen? ⟨r, 2, none⟩ = false := blk_frozen hx3 2; have q3 : w3.cell? ⟨r, 3, none⟩ = some (.int .i64 0) := (blk_cell hx3 3).trans rfl; have qz3 : w3.frozen? ⟨r, 3, none⟩ = false := blk_frozen hx3 3; clear hb hg3 hx3) | ((with_reducible refine gate_callee (f := 23) rfl ?_); refine goesL_ (some 23) rfl rfl Try.func23 (by kernel_rfl) rfl #[.agg #[.string T, .int .i64 sy], .agg #[.int .i64 1, .string f, .int .u64 0]] rfl (by (try simp only [List.map_toArray, List.map_cons, List.map_nil]); first | done | rfl) ?_; (with_reducible refine (RefFull _ _ _ hT hfit).mono ?_); rintro e w4 ⟨rfl, hb⟩; refine ⟨_, rfl, ?_⟩; have HX4 := Aside0.mk (blk_below HX3.out hb); have HG4 := Aside0.mk (blk_below HG3.out hb); have HB4 := Aside0.mk (below_step HB3.out hb); clear hb) | ((with_reducible refine gate_dst (N := 8) rfl ?_); refine box_event ?hg (N := 8) ?hd (cs := #[.string ⟨#[]⟩, .int .i64 0]) (t := 28) ?hr ?_; (case hd => rfl); (case hg => rfl); (case hr => first | (go_simp; done) | (go_simp; rfl)); intro d hd w5 hbox hb; have HD := Aside0.mk (show w.heap.size ≤ d by rw [hd]; exact HB4.out.size); have hrd := lt_ne HX4.out hd; have hdr := Ne.symm hrd; have hgd := lt_ne HG4.out hd; have hdg := Ne.symm hgd; have HDB := Aside0.mk hbox; have hx5 := blk_below HX4.out hb; have hg5 := blk_below HG4.out hb; have HX5 := Aside0.mk hx5; have HG5 := Aside0.mk hg5; have HB5 := Aside0.mk (below_step HB4.out hb); have s0 : w5.cell? ⟨d, 0, none⟩ = some (.string ⟨#[]⟩) := (blk_cell hbox 0).trans rfl; have sz0 : w5.frozen? ⟨d, 0, none⟩ = false := blk_frozen hbox 0; have s1 : w5.cell? ⟨d, 1, none⟩ = some (.int .i64 0) := (blk_cell hbox 1).trans rfl; have sz1 : w5.frozen? ⟨d, 1, none⟩ = false := blk_frozen hbox 1; have u0 : w5.cell? ⟨g, 0, none⟩ = some (.string T) := (blk_cell hg5 0).trans rfl; have uz0 : w5.frozen? ⟨g, 0, none⟩ = false := blk_frozen hg5 0; have u1 : w5.cell? ⟨g, 1, none⟩ = some (.int .i64 sy) := (blk_cell hg5 1).trans rfl; have uz1 : w5.frozen? ⟨g, 1, none⟩ = false := blk_frozen hg5 1; have u2 : w5.cell? ⟨g, 2, none⟩ = some (.slice LA ln lc) := (blk_cell hg5 2).trans rfl; have uz2 : w5.frozen? ⟨g, 2, none⟩ = false := blk_frozen hg5 2; have u3 : w5.cell? ⟨g, 3, none⟩ = some (.int .i64 sure) := (blk_cell hg5 3).trans rfl; have uz3 : w5.frozen? ⟨g, 3, none⟩ = false := blk_frozen hg5 3; have v0 : w5.cell? ⟨r, 0, none⟩ = some (.string ⟨#[]⟩) := (blk_cell hx5 0).trans rfl; have vz0 : w5.frozen? ⟨r, 0, none⟩ = false := blk_frozen hx5 0; have v1 : w5.cell? ⟨r, 1, none⟩ = some (.int .i64 0) := (blk_cell hx5 1).trans rfl; have vz1 : w5.frozen? ⟨r, 1, none⟩ = false := blk_frozen hx5 1; have v2 : w5.cell? ⟨r, 2, none⟩ = some (.slice none 0 0) := (blk_cell hx5 2).trans rfl; have vz2 : w5.frozen? ⟨r, 2, none⟩ = false := blk_frozen hx5 2; have v3 : w5.cell? ⟨r, 3, none⟩ = some (.int .i64 0) := (blk_cell hx5 3).trans rfl; have vz3 : w5.frozen? ⟨r, 3, none⟩ = false := blk_frozen hx5 3; clear hd hbox hb hx5 hg5))
  refine bodyPost_ret (results_row_tmp rfl _ _ r 31 _ (0, 0) _ rfl (four_set (by repeat (first | (with_reducible exact HX5.out) | (with_reducible refine far_set ?_ (by assumption) _ _))) _ _ _ _) Try.underlying31 rfl (by kernel_rfl)) rfl ?_
  exact ⟨rfl, by repeat (first | (with_reducible exact HB5.out) | (with_reducible refine Below.setCell ?_ (by first | exact HRW.out | exact HE.out | exact HD.out) _))⟩

set_option maxHeartbeats 8000000 in
set_option maxRecDepth 100000 in
theorem RAppOk {T : ByteArray} {sy sure : Int} {LA : Option Addr} {ln lc : Nat} (K : Nat) (s f : ByteArray) (w : World) (hK : sandglassref17_Frame.f K s = some (f, 0)) (hfit : T.size + f.size ≤ 65536) (xs : List ByteArray) (hn : xs.length = ln) (hl : xs.length ≤ 100000) (hL : Kd.string.C w LA ln xs) :
    Calls Try.prog 15 #[.agg #[.string T, .int .i64 sy, .slice LA ln lc, .int .i64 sure], .string s] w fun e w' => (∃ A n c, e = .returned (.tuple #[.agg #[.string (T ++ f), .int .i64 sy, .slice A n c, .int .i64 sure], .int .i64 0]) ∧ Kd.string.R 9 w' w.heap.size (fun k => w.heap.size ≤ k) (.slice A n c) (xs ++ [s])) ∧ Below w.heap.size w w' := by
  have HK := Aside0.mk hK
  clear hK
  have HL := Aside0.mk hL
  clear hL
  go_enter Try.func15, Try.ntmps15
  go_wp2_with (first | ((with_reducible refine gate_dst (N := 2) rfl ?_); refine box_event ?hg (N := 2) ?hd (cs := #[.string T, .int .i64 sy, .slice LA ln lc, .int .i64 sure]) (t := 31) ?hr ?_; (case hd => rfl); (case hg => rfl); (case hr => first | (go_simp; done) | (go_simp; rfl)); intro g hg w1 hbox hb; have HG := Aside0.mk hbox; have HE := Aside0.mk (show w.heap.size ≤ g by rw [hg]; exact Nat.le_refl _); have HB1 := Aside0.mk hb; clear hg hbox hb) | ((with_reducible refine gate_dst (N := 4) rfl ?_); refine box_event ?hg (N := 4) ?hd (cs := #[.string ⟨#[]⟩, .int .i64 0, .slice none 0 0, .int .i64 0]) (t := 31) ?hr ?_; (case hd => rfl); (case hg => rfl); (case hr => first | (go_simp; done) | (go_simp; rfl)); intro r hr w2 hbox hb; have HRW := Aside0.mk (show w.heap.size ≤ r by rw [hr]; exact HB1.out.size); have HX := Aside0.mk hbox; have HB2 := Aside0.mk (below_step HB1.out hb); have HGR := Aside0.mk (lt_ne HG.out hr); have hg2 := blk_below HG.out hb; have HG2 := Aside0.mk hg2; have c0 : w2.cell? ⟨g, 0, none⟩ = some (.string T) := (blk_cell hg2 0).trans rfl; have cz0 : w2.frozen? ⟨g, 0, none⟩ = false := blk_frozen hg2 0; have c1 : w2.cell? ⟨g, 1, none⟩ = some (.int .i64 sy) := (blk_cell hg2 1).trans rfl; have cz1 : w2.frozen? ⟨g, 1, none⟩ = false := blk_frozen hg2 1; have c2 : w2.cell? ⟨g, 2, none⟩ = some (.slice LA ln lc) := (blk_cell hg2 2).trans rfl; have cz2 : w2.frozen? ⟨g, 2, none⟩ = false := blk_frozen hg2 2; have c3 : w2.cell? ⟨g, 3, none⟩ = some (.int .i64 sure) := (blk_cell hg2 3).trans rfl; have cz3 : w2.frozen? ⟨g, 3, none⟩ = false := blk_frozen hg2 3; have r0 : w2.cell? ⟨r, 0, none⟩ = some (.string ⟨#[]⟩) := (blk_cell hbox 0).trans rfl; have rz0 : w2.frozen? ⟨r, 0, none⟩ = false := blk_frozen hbox 0; have r1 : w2.cell? ⟨r, 1, none⟩ = some (.int .i64 0) := (blk_cell hbox 1).trans rfl; have rz1 : w2.frozen? ⟨r, 1, none⟩ = false := blk_frozen hbox 1; have r2 : w2.cell? ⟨r, 2, none⟩ = some (.slice none 0 0) := (blk_cell hbox 2).trans rfl; have rz2 : w2.frozen? ⟨r, 2, none⟩ = false := blk_frozen hbox 2; have r3 : w2.cell? ⟨r, 3, none⟩ = some (.int .i64 0) := (blk_cell hbox 3).trans rfl; have rz3 : w2.frozen? ⟨r, 3, none⟩ = false := blk_frozen hbox 3; have hgr := HGR.out; have hrg := Ne.symm hgr; clear hr hbox hb hg2) | ((with_reducible refine gate_callee (f := 28) rfl ?_); refine goesL_ (some 11) rfl rfl Try.func28 (by kernel_rfl) rfl #[.string s] rfl (by (try simp only [List.map_toArray, List.map_cons, List.map_nil]); first | done | rfl) ?_; (with_reducible refine (sandglassref17_Frame.calls K s f 0 _ HK.out).mono ?_); rintro e w3 ⟨rfl, hb⟩; refine ⟨_, rfl, ?_⟩; have hg3 := blk_below HG2.out hb; have hx3 := blk_below HX.out hb; have HX3 := Aside0.mk hx3; have HG3 := Aside0.mk hg3; have HB3 := Aside0.mk (below_step HB2.out hb); have d0 : w3.cell? ⟨g, 0, none⟩ = some (.string T) := (blk_cell hg3 0).trans rfl; have dz0 : w3.frozen? ⟨g, 0, none⟩ = false := blk_frozen hg3 0; have d1 : w3.cell? ⟨g, 1, none⟩ = some (.int .i64 sy) := (blk_cell hg3 1).trans rfl; have dz1 : w3.frozen? ⟨g, 1, none⟩ = false := blk_frozen hg3 1; have d2 : w3.cell? ⟨g, 2, none⟩ = some (.slice LA ln lc) := (blk_cell hg3 2).trans rfl; have dz2 : w3.frozen? ⟨g, 2, none⟩ = false := blk_frozen hg3 2; have d3 : w3.cell? ⟨g, 3, none⟩ = some (.int .i64 sure) := (blk_cell hg3 3).trans rfl; have dz3 : w3.frozen? ⟨g, 3, none⟩ = false := blk_frozen hg3 3; have q0 : w3.cell? ⟨r, 0, none⟩ = some (.string ⟨#[]⟩) := (blk_cell hx3 0).trans rfl; have qz0 : w3.frozen? ⟨r, 0, none⟩ = false := blk_frozen hx3 0; have q1 : w3.cell? ⟨r, 1, none⟩ = some (.int .i64 0) := (blk_cell hx3 1).trans rfl; have qz1 : w3.frozen? ⟨r, 1, none⟩ = false := blk_frozen hx3 1; have q2 : w3.cell? ⟨r, 2, none⟩ = some (.slice none 0 0) := (blk_cell hx3 2).trans rfl; have qz2 : w3.frozen? ⟨r, 2, none⟩ = false := blk_frozen hx3 2; have q3 : w3.cell? ⟨r, 3, none⟩ = some (.int .i64 0) := (blk_cell hx3 3).trans rfl; have qz3 : w3.frozen? ⟨r, 3, none⟩ = false := blk_frozen hx3 3; clear hb hg3 hx3) | ((with_reducible refine gate_callee (f := 23) rfl ?_); refine goesL_ (some 23) rfl rfl Try.func23 (by kernel_rfl) rfl #[.agg #[.string T, .int .i64 sy], .agg #[.int .i64 1, .string f, .int .u64 0]] rfl (by (try simp only [List.map_toArray, List.map_cons, List.map_nil]); first | done | rfl) ?_; (with_reducible refine (RefWrite _ _ _ hfit).mono ?_); rintro e w4 ⟨rfl, hb⟩; refine ⟨_, rfl, ?_⟩; have HX4 := Aside0.mk (blk_below HX3.out hb); have HG4 := Aside0.mk (blk_below HG3.out hb); have HB4 := Aside0.mk (below_step HB3.out hb); clear hb) | ((with_reducible refine gate_dst (N := 8) rfl ?_); refine box_event ?hg (N := 8) ?hd (cs := #[.string ⟨#[]⟩, .int .i64 0]) (t := 28) ?hr ?_; (case hd => rfl); (case hg => rfl); (case hr => first | (go_simp; done) | (go_simp; rfl)); intro d hd w5 hbox hb; have HD := Aside0.mk (show w.heap.size ≤ d by rw [hd]; exact HB4.out.size); have hrd := lt_ne HX4.out hd; have hdr := Ne.symm hrd; have hgd := lt_ne HG4.out hd; have hdg := Ne.symm hgd; have HDB := Aside0.mk hbox; have hx5 := blk_below HX4.out hb; have hg5 := blk_below HG4.out hb; have HX5 := Aside0.mk hx5; have HG5 := Aside0.mk hg5; have HB5 := Aside0.mk (below_step HB4.out hb); have s0 : w5.cell? ⟨d, 0, none⟩ = some (.string ⟨#[]⟩) := (blk_cell hbox 0).trans rfl; have sz0 : w5.frozen? ⟨d, 0, none⟩ = false := blk_frozen hbox 0; have s1 : w5.cell? ⟨d, 1, none⟩ = some (.int .i64 0) := (blk_cell hbox 1).trans rfl; have sz1 : w5.frozen? ⟨d, 1, none⟩ = false := blk_frozen hbox 1; have u0 : w5.cell? ⟨g, 0, none⟩ = some (.string T) := (blk_cell hg5 0).trans rfl; have uz0 : w5.frozen? ⟨g, 0, none⟩ = false := blk_frozen hg5 0; have u1 : w5.cell? ⟨g, 1, none⟩ = some (.int .i64 sy) := (blk_cell hg5 1).trans rfl; have uz1 : w5.frozen? ⟨g, 1, none⟩ = false := blk_frozen hg5 1; have u2 : w5.cell? ⟨g, 2, none⟩ = some (.slice LA ln lc) := (blk_cell hg5 2).trans rfl; have uz2 : w5.frozen? ⟨g, 2, none⟩ = false := blk_frozen hg5 2; have u3 : w5.cell? ⟨g, 3, none⟩ = some (.int .i64 sure) := (blk_cell hg5 3).trans rfl; have uz3 : w5.frozen? ⟨g, 3, none⟩ = false := blk_frozen hg5 3; have v0 : w5.cell? ⟨r, 0, none⟩ = some (.string ⟨#[]⟩) := (blk_cell hx5 0).trans rfl; have vz0 : w5.frozen? ⟨r, 0, none⟩ = false := blk_frozen hx5 0; have v1 : w5.cell? ⟨r, 1, none⟩ = some (.int .i64 0) := (blk_cell hx5 1).trans rfl; have vz1 : w5.frozen? ⟨r, 1, none⟩ = false := blk_frozen hx5 1; have v2 : w5.cell? ⟨r, 2, none⟩ = some (.slice none 0 0) := (blk_cell hx5 2).trans rfl; have vz2 : w5.frozen? ⟨r, 2, none⟩ = false := blk_frozen hx5 2; have v3 : w5.cell? ⟨r, 3, none⟩ = some (.int .i64 0) := (blk_cell hx5 3).trans rfl; have vz3 : w5.frozen? ⟨r, 3, none⟩ = false := blk_frozen hx5 3; clear hd hbox hb hx5 hg5) | ((with_reducible refine gate_builtin (b := .append) (xs := #[.const (.slice none 0 0), .tmp 32]) rfl ?_); at_builtin; have hbW : Below w.heap.size w ((((w5.setCell ⟨d, 0, none⟩ (.string (T ++ f))).setCell ⟨d, 1, none⟩ (.int .i64 sy)).setCell ⟨g, 0, none⟩ (.string (T ++ f))).setCell ⟨g, 1, none⟩ (.int .i64 sy)) := Below.setCell (Below.setCell (Below.setCell (Below.setCell HB5.out HD.out _) HD.out _) HE.out _) HE.out _; have hgW : ((((w5.setCell ⟨d, 0, none⟩ (.string (T ++ f))).setCell ⟨d, 1, none⟩ (.int .i64 sy)).setCell ⟨g, 0, none⟩ (.string (T ++ f))).setCell ⟨g, 1, none⟩ (.int .i64 sy)).heap[g]? = some (.cells #[.string (T ++ f), .int .i64 sy, .slice LA ln lc, .int .i64 sure] 31 (0, 0)) := (by simpa using blk_set (blk_set (far_set (far_set HG5.out hdg 0 (.string (T ++ f))) hdg 1 (.int .i64 sy)) 0 (.string (T ++ f))) 1 (.int .i64 sy)); have hrW := far_set (far_set (far_set (far_set HX5.out hdr 0 (.string (T ++ f))) hdr 1 (.int .i64 sy)) hgr 0 (.string (T ++ f))) hgr 1 (.int .i64 sy); refine Kd.R_append_row Value.string ByteArray.empty (h1 := fun _ => rfl) (w0 := w) w.heap.size rfl (.const (.slice none 0 0)) (.tmp 32) 29 9 (.string ⟨#[]⟩) 16 rfl Try.underlying29 info9 rfl (by decide) (.slice none 0 0) [] xs LA ln lc (fun k => w.heap.size ≤ k) rfl rfl ?aF (Kd.R_nil _ _ _ _ _) ?aR ?aB ?aS ?aL ?_; (case aF => exact fun k hk => Nat.le_trans hbW.size hk); (case aR => exact Kd.C_below HL.out hbW); (case aB => exact hbW); (case aS => exact hbW.size); (case aL => simp only [List.length_nil]; omega); intro v8 w8 hr8 hb8 hg8 hat8; have HR8 := Aside0.mk hr8; have HB8 := Aside0.mk hb8; have HG8 := Aside0.mk (blk_grown hgW hg8 (by simp [Value.ownBlock])); have HX8 := Aside0.mk (blk_grown hrW hg8 (by simp [Value.ownBlock])); clear hr8 hb8 hg8 hat8 hgW hrW hbW) | ((with_reducible refine gate_builtin (b := .append) (xs := #[.tmp 33, .tmp 35]) rfl ?_); at_builtin; refine Kd.R_append Kd.string (w0 := w) w.heap.size rfl (.tmp 33) (.tmp 35) 29 9 (.string ⟨#[]⟩) 16 rfl Try.underlying29 info9 rfl (by decide) (by omega) v8 ([] ++ xs) s [.string s] (fun k => w.heap.size ≤ k) (fun _ => False) rfl rfl ?aP (fun _ hk => hk.elim) ?aF HR8.out ?aB ?aS ?aL ?_; (case aP => exact rfl); (case aF => exact fun k hk => Nat.le_trans HB8.out.size hk); (case aB => exact HB8.out); (case aS => exact HB8.out.size); (case aL => rw [List.nil_append]; omega); intro v9 w9 hr9 hb9 hg9 hat9; rw [List.nil_append] at hr9; obtain ⟨A9, k9, rfl⟩ := Kd.R_slice hr9; have hg9b := blk_grown HG8.out hg9 (Kd.R_ne HR8.out HG8.out (by decide)); have hx9 := blk_grown HX8.out hg9 (Kd.R_ne HR8.out HX8.out (by decide)); have HG9 := Aside0.mk hg9b; have HX9 := Aside0.mk hx9; have HR9 := Aside0.mk hr9; have HB9 := Aside0.mk hb9; have x0 : w9.cell? ⟨g, 0, none⟩ = some (.string (T ++ f)) := (blk_cell hg9b 0).trans rfl; have xz0 : w9.frozen? ⟨g, 0, none⟩ = false := blk_frozen hg9b 0; have x1 : w9.cell? ⟨g, 1, none⟩ = some (.int .i64 sy) := (blk_cell hg9b 1).trans rfl; have xz1 : w9.frozen? ⟨g, 1, none⟩ = false := blk_frozen hg9b 1; have x2 : w9.cell? ⟨g, 2, none⟩ = some (.slice LA ln lc) := (blk_cell hg9b 2).trans rfl; have xz2 : w9.frozen? ⟨g, 2, none⟩ = false := blk_frozen hg9b 2; have x3 : w9.cell? ⟨g, 3, none⟩ = some (.int .i64 sure) := (blk_cell hg9b 3).trans rfl; have xz3 : w9.frozen? ⟨g, 3, none⟩ = false := blk_frozen hg9b 3; have y0 : w9.cell? ⟨r, 0, none⟩ = some (.string ⟨#[]⟩) := (blk_cell hx9 0).trans rfl; have yz0 : w9.frozen? ⟨r, 0, none⟩ = false := blk_frozen hx9 0; have y1 : w9.cell? ⟨r, 1, none⟩ = some (.int .i64 0) := (blk_cell hx9 1).trans rfl; have yz1 : w9.frozen? ⟨r, 1, none⟩ = false := blk_frozen hx9 1; have y2 : w9.cell? ⟨r, 2, none⟩ = some (.slice none 0 0) := (blk_cell hx9 2).trans rfl; have yz2 : w9.frozen? ⟨r, 2, none⟩ = false := blk_frozen hx9 2; have y3 : w9.cell? ⟨r, 3, none⟩ = some (.int .i64 0) := (blk_cell hx9 3).trans rfl; have yz3 : w9.frozen? ⟨r, 3, none⟩ = false := blk_frozen hx9 3; clear hr9 hb9 hg9 hat9 hg9b hx9))
  refine bodyPost_ret (results_row_tmp rfl _ _ r 31 _ (0, 0) _ rfl (four_set (by repeat (first | (with_reducible exact HX9.out) | (with_reducible refine far_set ?_ (by assumption) _ _))) _ _ _ _) Try.underlying31 rfl (by kernel_rfl)) rfl ?_
  exact ⟨⟨A9, ln + 1, k9, rfl, R_four (Kd.R_set (by have h := HR9.out; rw [List.length_append, List.length_singleton, hn] at h; exact h) HG9.out (by decide) 2 _) (far_set HX9.out hgr _ _) _ _ _ _⟩, by repeat (first | (with_reducible exact HB9.out) | (with_reducible refine Below.setCell ?_ (by first | exact HRW.out | exact HE.out | exact HD.out) _))⟩
end Go.Proofs.Ytjmdigfinkkelaa.Wal
namespace Go.Proofs.Ytjmdigfinkkelaa.Wal
open Go.RowKit Go.Proofs.Ytjmdigfinkkelaa.PAll Go.Proofs.YtjmdigfinkkelaaW.PrintWords Go.Proofs.YtjmdigfinkkelaaW.PrintLast Go.Proofs.YtjmdigfinkkelaaW.PrintMore SG Go.Proofs.Ytjmdigfinkkelaa.Fun BRow
set_option linter.unusedVariables false
set_option linter.unusedSimpArgs false

/-- The text of records; how much of it is synced. -/
def TX (all : List By) : ByteArray := mk (flat all)
def SY (all : List By) (sure : Nat) : Int := ((flat (all.take sure)).length : Int)
/-- The cells of the reference's log. -/
def RV (all : List By) (sure : Nat) (V : Value) : Array Value := #[.string (TX all), .int .i64 (SY all sure), V, .int .i64 (sure : Int)]
/-- A log, and the reference's at block X: with all2 of which sure2 are sure. -/
def PR (w : World) (B X a : Nat) (all : List By) (sure : Nat) (all2 : List By) (sure2 : Nat) (LA : Option Addr) (ln lc : Nat) : Prop :=
  ∃ okL okR : Nat → Prop, ¬ okL X ∧ (∀ k, okR k → ¬ okL k) ∧ B ≤ X ∧ B ≤ w.heap.size ∧ Wq w B okL a all sure ∧ w.heap[X]? = some (.cells (RV all2 sure2 (.slice LA ln lc)) 31 (0, 0)) ∧ Kd.string.R 9 w B okR (.slice LA ln lc) (all2.map mk)

theorem Wl.kept {w w' : World} {B : Nat} {ok : Nat → Prop} {a : Nat} {b : List Int} {sy : Int} {all : List ByteArray} {sure : Int} {S : Nat → Prop} (L : Wl w B ok a b sy all sure) (hk : Kept w w' S) (hS : ∀ k, S k → ∃ c, w.heap[k]? = some (.cells c 31 (0, 0))) : Wl w' B ok a b sy all sure := by
  obtain ⟨hB, d, v, ha, hr, D⟩ := L
  have no : ∀ (k q : Nat) (c : Array Value), w.heap[k]? = some (.cells c q (0, 0)) → q ≠ 31 → ¬ S k := by
    intro k q c hc hq hs
    obtain ⟨c', hc'⟩ := hS k hs
    rw [hc] at hc'
    injection hc' with hc'
    injection hc' with _ hc'
    exact hq hc'
  refine ⟨hB, d, v, blk_kept ha hk (no _ _ _ ha (by decide)), ?_, D.kept hk (fun k hs => ?_)⟩
  · refine Kd.R_mono (Kd.R_move (Kd.R_bound hr) (fun k h => ?_)) (fun _ h => h.1)
    obtain ⟨_, _, hlt, q, hq, cells, hc⟩ := h
    have hq9 : q = 9 := by simpa [Kd.string, Kd.scalar] using hq
    subst hq9
    exact hk.2 k hlt (no _ _ _ hc (by decide))
  · rintro ⟨c, q, hc, hq⟩
    exact no _ _ _ hc (by rcases hq with h | h <;> (subst h; decide)) hs
theorem row_bd {w : World} {B : Nat} {okr : Nat → Prop} {v : Value} {xs : List ByteArray} (h : Kd.string.R 9 w B okr v xs) : Kd.string.R 9 w B (fun k => okr k ∧ k < w.heap.size) v xs := Kd.R_mono (Kd.R_bound h) (fun k hk => ⟨hk.1, hk.2.2.1⟩)
theorem R9_other {w w' : World} {B : Nat} {ok : Nat → Prop} {v : Value} {xs : List ByteArray} {S : Nat → Prop} (hr : Kd.string.R 9 w B ok v xs) (hk : Kept w w' S) (hS : ∀ k, S k → ∃ c, w.heap[k]? = some (.cells c 31 (0, 0))) : Kd.string.R 9 w' B ok v xs := by
  refine Kd.R_mono (Kd.R_move (Kd.R_bound hr) (fun k h => ?_)) (fun _ h => h.1)
  obtain ⟨_, _, hlt, q, hq, cells, hc⟩ := h
  have hq9 : q = 9 := by simpa [Kd.string, Kd.scalar] using hq
  subst hq9
  refine hk.2 k hlt (fun hs => ?_)
  obtain ⟨c', hc'⟩ := hS k hs
  rw [hc] at hc'
  injection hc' with hc'
  injection hc' with _ hc'
  exact absurd hc' (by decide)

section
variable {w w' : World} {B X a : Nat} {all all2 : List By} {sure sure2 : Nat} {LA : Option Addr} {ln lc : Nat}
theorem PR.below (h : PR w B X a all sure all2 sure2 LA ln lc) (hb : Below w.heap.size w w') : PR w' B X a all sure all2 sure2 LA ln lc := by
  obtain ⟨okL, okR, h1, h2, h3, h4, h5, h6, h7⟩ := h
  exact ⟨okL, okR, h1, h2, h3, Nat.le_trans h4 hb.size, h5.below hb, blk_below h6 hb, Kd.R_below h7 hb⟩
theorem PR.blk (h : PR w B X a all sure all2 sure2 LA ln lc) : w.heap[X]? = some (.cells (RV all2 sure2 (.slice LA ln lc)) 31 (0, 0)) := by
  obtain ⟨okL, okR, h1, h2, h3, h4, h5, h6, h7⟩ := h
  exact h6
theorem PR.len (h : PR w B X a all sure all2 sure2 LA ln lc) : ln = all2.length ∧ ln ≤ lc ∧ Kd.string.C w LA ln (all2.map mk) ∧ B ≤ w.heap.size ∧ B ≤ X := by
  obtain ⟨okL, okR, h1, h2, h3, h4, h5, h6, h7⟩ := h
  obtain ⟨e1, e2, e3⟩ := Kd.R_reads' h7
  exact ⟨e1.trans (List.length_map _), e2, by rw [e1]; exact e3, h4, h3⟩
theorem PR.log (h : PR w B X a all sure all2 sure2 LA ln lc) : ∃ ok, Wq w B ok a all sure := by
  obtain ⟨okL, okR, h1, h2, h3, h4, h5, h6, h7⟩ := h
  exact ⟨okL, h5⟩
/-- A step of the log. -/
theorem PR.step (h : PR w B X a all sure all2 sure2 LA ln lc) :
    ∃ okL : Nat → Prop, Wq w B okL a all sure ∧ B ≤ w.heap.size ∧ (∀ k, w.heap.size ≤ k → okL k) ∧
      ∀ (w' : World) (all' : List By) (sure' : Nat), Wq w' B okL a all' sure' → Below B w w' → Kept w w' (TW okL w) → PR w' B X a all' sure' all2 sure2 LA ln lc := by
  obtain ⟨okL, okR, h1, h2, h3, h4, h5, h6, h7⟩ := h
  refine ⟨fun k => (okL k ∧ k < w.heap.size) ∨ w.heap.size ≤ k, h5.narrow (fun k hk hl => .inl ⟨hk, hl⟩), h4, fun k hk => .inr hk, ?_⟩
  intro w' all' sure' hL hb hk
  have hX : X < w.heap.size := blk_lt h6
  have nX : ¬ ((okL X ∧ X < w.heap.size) ∨ w.heap.size ≤ X) := by
    rintro (⟨h, _⟩ | h)
    · exact h1 h
    · omega
  refine ⟨_, fun k => okR k ∧ k < w.heap.size, nX, ?_, h3, Nat.le_trans h4 hb.size, hL, ?_, ?_⟩
  · rintro k ⟨hk1, hk2⟩ (⟨h, _⟩ | h)
    · exact h2 k hk1 h
    · omega
  · refine blk_kept h6 hk ?_
    rintro (⟨c, q, hc, hq⟩ | h)
    · rw [h6] at hc
      injection hc with hc
      injection hc with _ hc
      subst hc
      exact absurd hq (by decide)
    · exact nX h
  · refine row_kept (row_bd h7) hk ?_
    rintro k ⟨hk1, hk2⟩ _ (⟨h, _⟩ | h)
    · exact h2 k hk1 h
    · omega
theorem PSync (h : PR w B X a all sure all2 sure2 LA ln lc) : Calls Try.prog 11 #[.pointer (some ⟨a, 0, none⟩)] w fun e w' => e = .returned (.tuple #[]) ∧ PR w' B X a all all.length all2 sure2 LA ln lc ∧ Below B w w' := by
  obtain ⟨ok, h1, h2, h3, h4⟩ := h.step
  refine (QSync h1 h2).mono ?_
  rintro e w' ⟨rfl, h5, h6, h7⟩
  exact ⟨rfl, h4 _ _ _ h5 h6 h7, h6⟩
theorem PCrash (h : PR w B X a all sure all2 sure2 LA ln lc) (keep : Int) : Calls Try.prog 13 #[.pointer (some ⟨a, 0, none⟩), .int .u64 keep] w fun e w' => e = .returned (.tuple #[]) ∧ PR w' B X a (crL keep all sure) (crL keep all sure).length all2 sure2 LA ln lc ∧ Below B w w' := by
  obtain ⟨ok, h1, h2, h3, h4⟩ := h.step
  refine (QCrash h1 h2 h3 keep).mono ?_
  rintro e w' ⟨rfl, h5, h6, h7⟩
  exact ⟨rfl, h4 _ _ _ h5 h6 h7, h6⟩
theorem PAppend (h : PR w B X a all sure all2 sure2 LA ln lc) (s : By) (hs : s.length ≤ 140737488351232) : Calls Try.prog 16 #[.pointer (some ⟨a, 0, none⟩), .string (mk s)] w fun e w' => e = .returned (.int .i64 (appE all s)) ∧ PR w' B X a (appL all s) sure all2 sure2 LA ln lc ∧ Below B w w' := by
  obtain ⟨ok, h1, h2, h3, h4⟩ := h.step
  refine (QAppend h1 h2 h3 s hs).mono ?_
  rintro e w' ⟨rfl, h5, h6, h7⟩
  exact ⟨rfl, h4 _ _ _ h5 h6 h7, h6⟩

/-- The four cells of the reference's log are written anew. -/
def set4 (w : World) (X : Nat) (a b c d : Value) : World := (((w.setCell ⟨X, 0, none⟩ a).setCell ⟨X, 1, none⟩ b).setCell ⟨X, 2, none⟩ c).setCell ⟨X, 3, none⟩ d
theorem set4_kept (w : World) (X : Nat) (a b c d : Value) : Kept w (set4 w X a b c d) (fun k => k = X) := by
  unfold set4
  have h0 := Kept.refl w (fun k => k = X)
  have h1 := h0.setCell (p := ⟨X, 0, none⟩) (.inl rfl) a
  have h2 := h1.setCell (p := ⟨X, 1, none⟩) (.inl rfl) b
  have h3 := h2.setCell (p := ⟨X, 2, none⟩) (.inl rfl) c
  exact h3.setCell (p := ⟨X, 3, none⟩) (.inl rfl) d
theorem set4_size (w : World) (X : Nat) (a b c d : Value) : (set4 w X a b c d).heap.size = w.heap.size := by simp [set4, World.setCell]
theorem PR.put (h : PR w B X a all sure all2 sure2 LA ln lc) (sure3 : Nat) : PR (set4 w X (.string (TX all2)) (.int .i64 (SY all2 sure3)) (.slice LA ln lc) (.int .i64 (sure3 : Int))) B X a all sure all2 sure3 LA ln lc := by
  obtain ⟨okL, okR, h1, h2, h3, h4, h5, h6, h7⟩ := h
  have hS : ∀ k, (fun k => k = X) k → ∃ c, w.heap[k]? = some (.cells c 31 (0, 0)) := fun k hk => by subst hk; exact ⟨_, h6⟩
  have hk := set4_kept w X (.string (TX all2)) (.int .i64 (SY all2 sure3)) (.slice LA ln lc) (.int .i64 (sure3 : Int))
  exact ⟨okL, okR, h1, h2, h3, by rw [set4_size]; exact h4, ⟨h5.1, h5.2.1, h5.2.2.1, h5.2.2.2.kept hk hS⟩, four_set h6 _ _ _ _, R9_other h7 hk hS⟩
/-- .. with another row, that was made since. -/
theorem PR.new {w0 : World} (h : PR w0 B X a all sure all2 sure2 LA ln lc) (hb : Below w0.heap.size w0 w) {LA' : Option Addr} {ln' lc' : Nat} (all3 : List By) (sure3 : Nat) (hr : Kd.string.R 9 w w0.heap.size (fun k => w0.heap.size ≤ k) (.slice LA' ln' lc') (all3.map mk)) :
    PR (set4 w X (.string (TX all3)) (.int .i64 (SY all3 sure3)) (.slice LA' ln' lc') (.int .i64 (sure3 : Int))) B X a all sure all3 sure3 LA' ln' lc' := by
  obtain ⟨okL, okR, h1, h2, h3, h4, h5, h6, h7⟩ := h
  have h6w := blk_below h6 hb
  have hS : ∀ k, (fun k => k = X) k → ∃ c, w.heap[k]? = some (.cells c 31 (0, 0)) := fun k hk => by subst hk; exact ⟨_, h6w⟩
  have hk := set4_kept w X (.string (TX all3)) (.int .i64 (SY all3 sure3)) (.slice LA' ln' lc') (.int .i64 (sure3 : Int))
  have hL : Wq w B (fun k => okL k ∧ k < w0.heap.size) a all sure := (h5.narrow (ok' := fun k => okL k ∧ k < w0.heap.size) (fun k hk hl => ⟨hk, hl⟩)).below hb
  refine ⟨fun k => okL k ∧ k < w0.heap.size, fun k => w0.heap.size ≤ k, fun h => h1 h.1, fun k hk h => by omega, h3, by rw [set4_size]; exact Nat.le_trans h4 hb.size, ⟨hL.1, hL.2.1, hL.2.2.1, hL.2.2.2.kept hk hS⟩, four_set h6w _ _ _ _, ?_⟩
  exact R9_other (Kd.R_lower hr h4) hk hS
end
end Go.Proofs.Ytjmdigfinkkelaa.Wal
namespace Go.Proofs.Ytjmdigfinkkelaa.Wal
open Go.RowKit Go.Proofs.Ytjmdigfinkkelaa.PAll Go.Proofs.YtjmdigfinkkelaaW.PrintWords Go.Proofs.YtjmdigfinkkelaaW.PrintLast Go.Proofs.YtjmdigfinkkelaaW.PrintMore SG Go.Proofs.Ytjmdigfinkkelaa.Fun BRow
set_option linter.unusedVariables false
set_option linter.unusedSimpArgs false

/-- What a log's records satisfy. -/
def OKL (all : List By) (sure : Nat) : Prop := sure ≤ all.length ∧ (∀ x ∈ all, x.length ≤ 4096) ∧ (flat all).length ≤ 65536
theorem Wq.okl {w : World} {B : Nat} {ok : Nat → Prop} {a : Nat} {all : List By} {sure : Nat} (L : Wq w B ok a all sure) : OKL all sure := ⟨L.1, L.2.1, L.2.2.1⟩

theorem RSyncQ {all : List By} {sure : Nat} {LA : Option Addr} {ln lc : Nat} (hn : ln = all.length) (w : World) :
    Calls Try.prog 12 #[.agg (RV all sure (.slice LA ln lc))] w fun e w' => e = .returned (.agg (RV all all.length (.slice LA ln lc))) ∧ Below w.heap.size w w' := by
  refine (RSync w).mono ?_
  rintro e w' ⟨rfl, hb⟩
  refine ⟨?_, hb⟩
  unfold RV TX SY
  rw [mk_size, List.take_length, hn]

theorem RCrashQ {all : List By} {sure : Nat} {LA : Option Addr} {ln lc : Nat} (h : OKL all sure) (keep : Int) (w : World) :
    Calls Try.prog 14 #[.agg (RV all sure (.slice LA ln lc)), .int .u64 keep] w fun e w' => ∃ A n c, e = .returned (.agg (RV (crL keep all sure) (crL keep all sure).length (.slice A n c))) ∧ Kd.string.R 9 w' w.heap.size (fun k => w.heap.size ≤ k) (.slice A n c) ((crL keep all sure).map mk) ∧ Below w.heap.size w w' := by
  have hsy := flat_take_le all sure
  obtain ⟨s1, s2, s3⟩ := crB_spec keep (flat all) (flat (all.take sure)).length hsy
  have hL := h.2.2
  obtain ⟨p1, p2, p3⟩ := pre_flat _ (crB keep (flat all) (flat (all.take sure)).length) rfl
  obtain ⟨K, hK⟩ := Ev.rounds (E_rPrefix (crB keep (flat all) (flat (all.take sure)).length) (by omega))
  unfold preA at hK
  refine (RCrash0 (crB keep (flat all) (flat (all.take sure)).length) _ K _ _ w (fun w1 => RefDoCrash _ keep hsy hL w1) hK p2 (by omega)).mono ?_
  rintro e w' ⟨⟨A, c, rfl, hr⟩, hb⟩
  refine ⟨A, _, c, ?_, hr, hb⟩
  have hn : (pre (crB keep (flat all) (flat (all.take sure)).length)).2 = (flat (crL keep all sure)).length := by
    unfold crL
    rw [p1, List.length_take]
    exact (Nat.min_eq_left p2).symm
  have e1 : (mk (crB keep (flat all) (flat (all.take sure)).length)).extract 0 (pre (crB keep (flat all) (flat (all.take sure)).length)).2 = mk (flat (crL keep all sure)) := by
    rw [mk_extract, List.drop_zero, Nat.sub_zero]
    unfold crL
    rw [p1]
  unfold RV TX SY
  rw [List.take_length, e1, hn, List.length_map]
  rfl

theorem RAppErrQ {all : List By} {sure : Nat} {LA : Option Addr} {ln lc : Nat} (h : OKL all sure) (s : By) (hs : s.length ≤ 140737488351232) (he : appE all s ≠ 0) (w : World) :
    Calls Try.prog 15 #[.agg (RV all sure (.slice LA ln lc)), .string (mk s)] w fun e w' => e = .returned (.tuple #[.agg (RV all sure (.slice LA ln lc)), .int .i64 (appE all s)]) ∧ Below w.heap.size w w' := by
  obtain ⟨K, hK⟩ := Ev.rounds (E_rFrame s hs)
  unfold frameA at hK
  by_cases h1 : 4096 < s.length
  · rw [if_pos h1] at hK
    have e1 : appE all s = 2 := by unfold appE; rw [if_pos h1]
    rw [e1]
    exact RAppErr K _ _ 2 w hK (by decide)
  · rw [if_neg h1] at hK
    by_cases h2 : (flat all).length + (8 + s.length) ≤ 65536
    · exact absurd (by unfold appE; rw [if_neg h1, if_pos h2]) he
    · have e1 : appE all s = 7 := by unfold appE; rw [if_neg h1, if_neg h2]
      rw [e1]
      exact RAppFull K _ _ w hK (by unfold TX; rw [mk_size]; exact h.2.2) (by unfold TX; rw [mk_size, mk_size, frame_length]; exact h2)
theorem RAppOkQ {all : List By} {sure : Nat} {LA : Option Addr} {ln lc : Nat} (h : OKL all sure) (s : By) (hs : s.length ≤ 140737488351232) (he : appE all s = 0) (w : World) (hn : ln = all.length) (hL : Kd.string.C w LA ln (all.map mk)) :
    Calls Try.prog 15 #[.agg (RV all sure (.slice LA ln lc)), .string (mk s)] w fun e w' => ∃ A n c, e = .returned (.tuple #[.agg (RV (appL all s) sure (.slice A n c)), .int .i64 0]) ∧ Kd.string.R 9 w' w.heap.size (fun k => w.heap.size ≤ k) (.slice A n c) ((appL all s).map mk) ∧ Below w.heap.size w w' := by
  obtain ⟨K, hK⟩ := Ev.rounds (E_rFrame s hs)
  unfold frameA at hK
  have e2 : appL all s = all ++ [s] := by unfold appL; rw [he, if_pos rfl]
  by_cases h1 : 4096 < s.length
  · exact absurd he (by unfold appE; rw [if_pos h1]; decide)
  · rw [if_neg h1] at hK
    by_cases h2 : (flat all).length + (8 + s.length) ≤ 65536
    · have hc := flat_count all
      have h3 := h.2.2
      refine (RAppOk K _ _ w hK (by unfold TX; rw [mk_size, mk_size, frame_length]; exact h2) (all.map mk) (by rw [List.length_map, hn]) (by rw [List.length_map]; omega) hL).mono ?_
      rintro e w' ⟨⟨A, n, c, rfl, hr⟩, hb⟩
      rw [e2]
      refine ⟨A, n, c, ?_, by rw [List.map_append]; exact hr, hb⟩
      have hf : flat (all ++ [s]) = flat all ++ frame s := by rw [flat_append, flat_cons, flat_nil, List.append_nil]
      unfold RV TX SY
      rw [mk_append, hf, List.take_append_of_le_length h.1]
    · exact absurd he (by unfold appE; rw [if_neg h1, if_neg h2]; decide)
end Go.Proofs.Ytjmdigfinkkelaa.Wal
namespace Go.Proofs.Ytjmdigfinkkelaa.Wal
open Go.RowKit Go.Proofs.Ytjmdigfinkkelaa.PAll Go.Proofs.YtjmdigfinkkelaaW.PrintWords Go.Proofs.YtjmdigfinkkelaaW.PrintLast Go.Proofs.YtjmdigfinkkelaaW.PrintMore SG Go.Proofs.Ytjmdigfinkkelaa.Fun BRow
set_option linter.unusedVariables false
set_option linter.unusedSimpArgs false

theorem set4_below {w w' : World} {X B : Nat} (h : Below B w w') (hX : B ≤ X) (a b c d : Value) : Below B w (set4 w' X a b c d) := by
  unfold set4
  exact Below.setCell (Below.setCell (Below.setCell (Below.setCell h hX _) hX _) hX _) hX _
theorem QAllP {w : World} {B X a : Nat} {all all2 : List By} {sure sure2 : Nat} {LA : Option Addr} {ln lc : Nat} (h : PR w B X a all sure all2 sure2 LA ln lc) : Calls Try.prog 18 #[.pointer (some ⟨a, 0, none⟩)] w fun e w' => ∃ A n c, e = .returned (.slice A n c) ∧ n = all.length ∧ n ≤ c ∧ Kd.string.C w' A n (all.map mk) ∧ Below w.heap.size w w' := by
  obtain ⟨ok, L⟩ := h.log
  refine (QAllX L).mono ?_
  rintro e w' ⟨A, n, c, rfl, hn, hc, hr, hb⟩
  obtain ⟨e1, _, e3⟩ := Kd.R_reads' hr
  exact ⟨A, n, c, rfl, hn, hc, by rw [e1]; exact e3, hb⟩
theorem QSureP {w : World} {B X a : Nat} {all all2 : List By} {sure sure2 : Nat} {LA : Option Addr} {ln lc : Nat} (h : PR w B X a all sure all2 sure2 LA ln lc) : Calls Try.prog 19 #[.pointer (some ⟨a, 0, none⟩)] w fun e w' => e = .returned (.int .i64 (sure : Int)) ∧ w' = w := by
  obtain ⟨ok, L⟩ := h.log
  exact QSure L
theorem PR.count {w : World} {B X a : Nat} {all all2 : List By} {sure sure2 : Nat} {LA : Option Addr} {ln lc : Nat} (h : PR w B X a all sure all2 sure2 LA ln lc) : (all.map mk).length ≤ 100000 := by
  obtain ⟨ok, L⟩ := h.log
  exact L.count
theorem PR.okl {w : World} {B X a : Nat} {all all2 : List By} {sure sure2 : Nat} {LA : Option Addr} {ln lc : Nat} (h : PR w B X a all sure all2 sure2 LA ln lc) : OKL all sure := by
  obtain ⟨ok, L⟩ := h.log
  exact L.okl

theorem TextsEq3 (n m : Nat) (A0 : Option Addr) (c0 : Nat) (A1 : Option Addr) (c1 : Nat) (a : List ByteArray) (w : World) (hl : a.length ≤ 100000) (h0 : Kd.string.C w A0 n a) (hc0 : n ≤ c0) (h1 : Kd.string.C w A1 m a) (hc1 : m ≤ c1) :
    Calls Try.prog 17 #[.slice A0 n c0, .slice A1 m c1] w fun e w' => e = .returned (.bool true) ∧ Below w.heap.size w w' := by
  have e0 := h0.1
  have e1 := h1.1
  subst e0
  subst e1
  exact TextsEq _ A0 c0 A1 c1 a w hl rfl h0 hc0 h1 hc1

set_option maxHeartbeats 8000000 in
set_option maxRecDepth 100000 in
theorem WalPlays_few (A0 : Option Addr) (c0 : Nat) (l : List S34) (w : World) (hr0 : Kd.C k34 w A0 l.length l) (hc0 : l.length ≤ c0) (hf : sandglasslaw19_few.f (l.length + 1) l = some false) :
    Calls Try.prog 3 #[.slice A0 l.length c0] w fun e w' => e = .returned (.bool true) ∧ Below w.heap.size w w' := by
  go_enter Try.func3, Try.ntmps3
  go_wp2_with (first | ((with_reducible refine gate_callee (f := 8) rfl ?_); refine goesL_ (some 9) rfl rfl Try.func8 (by kernel_rfl) rfl #[.slice A0 l.length c0] rfl (by (try simp only [List.map_toArray, List.map_cons, List.map_nil]); first | done | rfl) ?_; (with_reducible refine (sandglasslaw19_few.calls _ A0 c0 l false _ hr0 hc0 hf).mono ?_); rintro e w1 ⟨rfl, hb⟩; refine ⟨_, rfl, ?_⟩; have HB1 := Aside0.mk hb.below; clear hb) | ((with_reducible refine gate_callee (f := 9) rfl ?_); refine goesL_ (some 11) rfl rfl Try.func9 (by kernel_rfl) rfl #[] rfl (by (try simp only [List.map_toArray, List.map_cons, List.map_nil]); first | done | rfl) ?_; (with_reducible refine (awake _).mono ?_); rintro e w2 ⟨rfl, hb⟩; refine ⟨_, rfl, ?_⟩; have HB2 := Aside0.mk (below_step HB1.out hb); clear hb))
  go_ret
  exact ⟨rfl, HB2.out⟩

theorem PR_start {w1 w2 w3 : World} {a X : Nat} (L : Wq w2 w1.heap.size (fun k => w1.heap.size ≤ k) a [] 0) (hs : w1.heap.size ≤ w2.heap.size) (hX : X = w2.heap.size) (hbox : w3.heap[X]? = some (.cells #[.string ⟨#[]⟩, .int .i64 0, .slice none 0 0, .int .i64 0] 31 (0, 0))) (hb : Below w2.heap.size w2 w3) : PR w3 w1.heap.size X a [] 0 [] 0 none 0 0 :=
  ⟨fun k => w1.heap.size ≤ k ∧ k < w2.heap.size, fun _ => False, fun h => by omega, fun _ h => h.elim, by omega, Nat.le_trans hs hb.size, (L.narrow (ok' := fun k => w1.heap.size ≤ k ∧ k < w2.heap.size) (fun k h1 h2 => ⟨h1, h2⟩)).below hb, hbox, Kd.R_nil _ _ _ _ _⟩

set_option maxHeartbeats 16000000 in
set_option maxRecDepth 100000 in
theorem WalPlays_many (A0 : Option Addr) (c0 : Nat) (l : List S34) (w : World) (hr0 : Kd.C k34 w A0 l.length l) (hc0 : l.length ≤ c0) (hf : sandglasslaw19_few.f (l.length + 1) l = some true) (hp : fewP l) :
    Calls Try.prog 3 #[.slice A0 l.length c0] w fun e w' => e = .returned (.bool true) ∧ Below w.heap.size w w' := by
  have HP := Aside0.mk hp
  have HR0 := Aside0.mk hr0
  clear hp
  go_enter Try.func3, Try.ntmps3
  go_wp2_with (first | ((with_reducible refine gate_callee (f := 8) rfl ?_); refine goesL_ (some 9) rfl rfl Try.func8 (by kernel_rfl) rfl #[.slice A0 l.length c0] rfl (by (try simp only [List.map_toArray, List.map_cons, List.map_nil]); first | done | rfl) ?_; (with_reducible refine (sandglasslaw19_few.calls _ A0 c0 l true _ hr0 hc0 hf).mono ?_); rintro e w1 ⟨rfl, hb⟩; refine ⟨_, rfl, ?_⟩; have HB1 := Aside0.mk hb.below; clear hb) | ((with_reducible refine gate_callee (f := 10) rfl ?_); refine goesL_ (some 12) rfl rfl Try.func10 (by kernel_rfl) rfl #[] rfl (by (try simp only [List.map_toArray, List.map_cons, List.map_nil]); first | done | rfl) ?_; (with_reducible refine (QNew _).mono ?_); rintro e w2 ⟨a, rfl, L, hb⟩; refine ⟨_, rfl, ?_⟩; have HL2 := Aside0.mk L; have HS2 := Aside0.mk hb.size; have HB2 := Aside0.mk (below_step HB1.out hb); clear L hb) | ((with_reducible refine gate_dst (N := 4) rfl ?_); refine box_event ?hg (N := 4) ?hd (cs := #[.string ⟨#[]⟩, .int .i64 0, .slice none 0 0, .int .i64 0]) (t := 31) ?hr ?_; (case hd => rfl); (case hg => rfl); (case hr => first | (go_simp; done) | (go_simp; rfl)); intro X hX w3 hbox hb; have HP3 := Aside0.mk (PR_start HL2.out HS2.out hX hbox hb); have HB3 := Aside0.mk (below_step HB2.out hb); have b0 : w3.cell? ⟨X, 0, none⟩ = some (.string ⟨#[]⟩) := (blk_cell hbox 0).trans rfl; have bz0 : w3.frozen? ⟨X, 0, none⟩ = false := blk_frozen hbox 0; have b1 : w3.cell? ⟨X, 1, none⟩ = some (.int .i64 0) := (blk_cell hbox 1).trans rfl; have bz1 : w3.frozen? ⟨X, 1, none⟩ = false := blk_frozen hbox 1; have b2 : w3.cell? ⟨X, 2, none⟩ = some (.slice none 0 0) := (blk_cell hbox 2).trans rfl; have bz2 : w3.frozen? ⟨X, 2, none⟩ = false := blk_frozen hbox 2; have b3 : w3.cell? ⟨X, 3, none⟩ = some (.int .i64 0) := (blk_cell hbox 3).trans rfl; have bz3 : w3.frozen? ⟨X, 3, none⟩ = false := blk_frozen hbox 3; clear hX hbox hb) | ((with_reducible refine gate_store (t := 31) (p := 4) (v := .tmp 13) rfl ?_); refine store_event (w1 := (set4 w3 X (.string ⟨#[]⟩) (.int .i64 0) (.slice none 0 0) (.int .i64 0))) ?hg rfl ?hN ?hr ?_; (case hg => rfl); (case hN => rfl); (case hr => first | (go_simp; done) | (go_simp; rfl)); intro w4 hw4; have HP4 : Aside0 (PR w4 w1.heap.size X a [] 0 [] 0 none 0 0) := ⟨(by rw [hw4]; exact HP3.out.put 0)⟩; have HB4 : Aside0 (Below w.heap.size w w4) := ⟨(by rw [hw4]; exact set4_below HB3.out (Nat.le_trans HB1.out.size HP3.out.len.2.2.2.2) _ _ _ _)⟩; clear hw4))
  go_loopg [5] l.length (fun kq v5 w' => ∃ (i : Nat) (all : List By) (sure : Nat) (LA : Option Addr) (ln lc : Nat), v5 = .int .i64 (i : Int) ∧ Aside0 (i + kq = l.length) ∧ Aside0 (PR w' w1.heap.size X a all sure all sure LA ln lc) ∧ Aside0 (Below w.heap.size w w'))
  case atStart => exact ⟨0, [], 0, none, 0, 0, rfl, ⟨by omega⟩, HP4, HB4⟩
  case round =>
    obtain ⟨i, all, sure, LA, ln, lc, rfl, HI, HPw, HBw⟩ := hrel
    have hi := HI.out
    have hfl := HP.out.1
    by_cases hat : i < l.length
    · obtain ⟨k1, rfl⟩ : ∃ k1, gk = k1 + 1 := ⟨gk - 1, by omega⟩
      have hlt : decide ((i : Int) < (l.length : Int)) = true := decide_eq_true (by omega)
      obtain ⟨ad, e101, x0, x1, x2⟩ := at_T34 (Kd.C_below HR0.out HBw.out) (i : Int) (by omega) (by omega)
      obtain ⟨x, hx⟩ : ∃ x, x = l[i] := ⟨_, rfl⟩
      cases e101
      rw [rd34 hat, ← hx] at x0 x1 x2
      rw [Int.toNat_natCast] at x0 x1 x2
      have hsz := HP.out.2 l[i] (List.getElem_mem _)
      rw [← hx] at hsz
      have HSZ := Aside0.mk hsz
      have HXE := Aside0.mk hx
      have HIL := Aside0.mk hat
      have HBX := Aside0.mk HPw.out.len.2.2.2.2
      have HBS := Aside0.mk HB1.out.size
      clear hsz hx
      by_cases hk1 : x.f0 = 1
      · have e1 : (x.f0 == 1) = true := by simp [hk1]
        clear HI hk1
        go_wp2_with (first | ((with_reducible refine gate_callee (f := 11) rfl ?_); refine goesL_ (some 48) rfl rfl Try.func11 (by kernel_rfl) rfl #[.pointer (some ⟨a, 0, none⟩)] rfl (by (try simp only [List.map_toArray, List.map_cons, List.map_nil]); first | done | rfl) ?_; (with_reducible refine (PSync HPw.out).mono ?_); rintro e w2 ⟨rfl, P, hb⟩; refine ⟨_, rfl, ?_⟩; have HP2 := Aside0.mk P; have HB2 := Aside0.mk (HBw.out.trans (hb.mono HBS.out)); have pb := P.blk; have p0 : w2.cell? ⟨X, 0, none⟩ = some (.string (TX all)) := (blk_cell pb 0).trans rfl; have pz0 : w2.frozen? ⟨X, 0, none⟩ = false := blk_frozen pb 0; have p1 : w2.cell? ⟨X, 1, none⟩ = some (.int .i64 (SY all sure)) := (blk_cell pb 1).trans rfl; have pz1 : w2.frozen? ⟨X, 1, none⟩ = false := blk_frozen pb 1; have p2 : w2.cell? ⟨X, 2, none⟩ = some (.slice LA ln lc) := (blk_cell pb 2).trans rfl; have pz2 : w2.frozen? ⟨X, 2, none⟩ = false := blk_frozen pb 2; have p3 : w2.cell? ⟨X, 3, none⟩ = some (.int .i64 (sure : Int)) := (blk_cell pb 3).trans rfl; have pz3 : w2.frozen? ⟨X, 3, none⟩ = false := blk_frozen pb 3; clear pb; clear P hb) | ((with_reducible refine gate_callee (f := 12) rfl ?_); refine goesL_ (some 50) rfl rfl Try.func12 (by kernel_rfl) rfl #[.agg (RV all sure (.slice LA ln lc))] rfl (by (try simp only [List.map_toArray, List.map_cons, List.map_nil]); first | done | rfl) ?_; (with_reducible refine (RSyncQ HPw.out.len.1 _).mono ?_); rintro e w3 ⟨rfl, hb⟩; refine ⟨_, rfl, ?_⟩; simp only [RV]; have HP3 := Aside0.mk (HP2.out.below hb); have HB3 := Aside0.mk (below_step HB2.out hb); have qb := HP3.out.blk; have q0 : w3.cell? ⟨X, 0, none⟩ = some (.string (TX all)) := (blk_cell qb 0).trans rfl; have qz0 : w3.frozen? ⟨X, 0, none⟩ = false := blk_frozen qb 0; have q1 : w3.cell? ⟨X, 1, none⟩ = some (.int .i64 (SY all sure)) := (blk_cell qb 1).trans rfl; have qz1 : w3.frozen? ⟨X, 1, none⟩ = false := blk_frozen qb 1; have q2 : w3.cell? ⟨X, 2, none⟩ = some (.slice LA ln lc) := (blk_cell qb 2).trans rfl; have qz2 : w3.frozen? ⟨X, 2, none⟩ = false := blk_frozen qb 2; have q3 : w3.cell? ⟨X, 3, none⟩ = some (.int .i64 (sure : Int)) := (blk_cell qb 3).trans rfl; have qz3 : w3.frozen? ⟨X, 3, none⟩ = false := blk_frozen qb 3; clear qb; clear hb) | ((with_reducible refine gate_store (t := 31) (p := 4) (v := .tmp 50) rfl ?_); refine store_event (w1 := (set4 w3 X (.string (TX all)) (.int .i64 (SY all all.length)) (.slice LA ln lc) (.int .i64 (all.length : Int)))) ?hg rfl ?hN ?hr ?_; (case hg => rfl); (case hN => rfl); (case hr => first | (go_simp; done) | (go_simp; rfl)); intro w4 hw4; have HP4 : Aside0 (PR w4 w1.heap.size X a all all.length all all.length LA ln lc) := ⟨(by rw [hw4]; exact HP3.out.put all.length)⟩; have HB4 : Aside0 (Below w.heap.size w w4) := ⟨(by rw [hw4]; exact set4_below HB3.out (Nat.le_trans HBS.out HBX.out) _ _ _ _)⟩; clear hw4))
        have HPd := Aside0.mk (HP4.out.below (below_drew (Below.refl _ _)))
        have db := HPd.out.blk
        have d2 : w4.drew.cell? ⟨X, 2, none⟩ = some (.slice LA ln lc) := (blk_cell db 2).trans rfl
        have d3 : w4.drew.cell? ⟨X, 3, none⟩ = some (.int .i64 (all.length : Int)) := (blk_cell db 3).trans rfl
        clear db
        go_region_held (fun w' => w'.cell? ⟨X, 2, none⟩ = some (.slice LA ln lc) ∧ w'.cell? ⟨X, 3, none⟩ = some (.int .i64 (all.length : Int))) (first | exact ⟨by assumption, by assumption⟩ | go_keep) (first | ((refine (QAllP HPd.out).mono ?_); rintro e w25 ⟨A25, n25, k25, rfl, hn25, hk25, hC25, hb⟩; have HC25 := Aside0.mk hC25; have HP25 := Aside0.mk (HPd.out.below hb); have HB25 := Aside0.mk (below_step (below_drew HB4.out) hb); have sb := HP25.out.blk; have s2 : w25.cell? ⟨X, 2, none⟩ = some (.slice LA ln lc) := (blk_cell sb 2).trans rfl; have s3 : w25.cell? ⟨X, 3, none⟩ = some (.int .i64 (all.length : Int)) := (blk_cell sb 3).trans rfl; clear sb; clear hn25 hC25 hb) | ((refine (TextsEq3 n25 ln A25 k25 LA lc (all.map mk) _ HP25.out.count HC25.out hk25 HP25.out.len.2.2.1 HP25.out.len.2.1).mono ?_); rintro e w26 ⟨rfl, hb⟩; have HP26 := Aside0.mk (HP25.out.below hb); have HB26 := Aside0.mk (below_step HB25.out hb); have tb := HP26.out.blk; have t2 : w26.cell? ⟨X, 2, none⟩ = some (.slice LA ln lc) := (blk_cell tb 2).trans rfl; have t3 : w26.cell? ⟨X, 3, none⟩ = some (.int .i64 (all.length : Int)) := (blk_cell tb 3).trans rfl; clear tb; clear hb) | ((refine (QSureP HP26.out).mono ?_); rintro e w27 ⟨rfl, rfl⟩))
        all_goals
          go_wp2
          go_roundg k1
          case measure => omega
          case rel => exact ⟨i + 1, all, all.length, LA, ln, lc, by first | rfl | (simp; done), ⟨by omega⟩, HP26, HB26⟩
      · have e1 : (x.f0 == 1) = false := by simpa using hk1
        by_cases hk2 : x.f0 = 2
        · have e2 : (x.f0 == 2) = true := by simp [hk2]
          clear HI hk1 hk2
          go_wp2_with (first | ((with_reducible refine gate_callee (f := 13) rfl ?_); refine goesL_ (some 59) rfl rfl Try.func13 (by kernel_rfl) rfl #[.pointer (some ⟨a, 0, none⟩), .int .u64 x.f2] rfl (by (try simp only [List.map_toArray, List.map_cons, List.map_nil]); first | done | rfl) ?_; (with_reducible refine (PCrash HPw.out x.f2).mono ?_); rintro e w2 ⟨rfl, P, hb⟩; refine ⟨_, rfl, ?_⟩; have HP2 := Aside0.mk P; have HB2 := Aside0.mk (HBw.out.trans (hb.mono HBS.out)); clear P hb))
          have HPe := Aside0.mk (HP2.out.below (below_drew (Below.refl _ _)))
          have HBe := Aside0.mk (below_drew HB2.out)
          obtain ⟨ad2, ae2, y0, y1, y2⟩ := at_T34 (Kd.C_below HR0.out HBe.out) (i : Int) (by omega) (Int.ofNat_lt.mpr HIL.out)
          cases ae2
          rw [rd34 HIL.out, ← HXE.out] at y0 y1 y2
          rw [Int.toNat_natCast] at y0 y1 y2
          have pb := HPe.out.blk
          have p0 : w2.drew.cell? ⟨X, 0, none⟩ = some (.string (TX all)) := (blk_cell pb 0).trans rfl
          have pz0 : w2.drew.frozen? ⟨X, 0, none⟩ = false := blk_frozen pb 0
          have p1 : w2.drew.cell? ⟨X, 1, none⟩ = some (.int .i64 (SY all sure)) := (blk_cell pb 1).trans rfl
          have pz1 : w2.drew.frozen? ⟨X, 1, none⟩ = false := blk_frozen pb 1
          have p2 : w2.drew.cell? ⟨X, 2, none⟩ = some (.slice LA ln lc) := (blk_cell pb 2).trans rfl
          have pz2 : w2.drew.frozen? ⟨X, 2, none⟩ = false := blk_frozen pb 2
          have p3 : w2.drew.cell? ⟨X, 3, none⟩ = some (.int .i64 (sure : Int)) := (blk_cell pb 3).trans rfl
          have pz3 : w2.drew.frozen? ⟨X, 3, none⟩ = false := blk_frozen pb 3
          clear pb
          go_still_tail 6, (by kernel_rfl)
          go_wp2_with (first | ((with_reducible refine gate_callee (f := 14) rfl ?_); refine goesL_ (some 66) rfl rfl Try.func14 (by kernel_rfl) rfl #[.agg (RV all sure (.slice LA ln lc)), .int .u64 x.f2] rfl (by (try simp only [List.map_toArray, List.map_cons, List.map_nil]); first | done | rfl) ?_; (with_reducible refine (RCrashQ HPw.out.okl x.f2 _).mono ?_); rintro e w3 ⟨A3, n3, k3, rfl, hr3, hb⟩; refine ⟨_, rfl, ?_⟩; simp only [RV]; have HR3 := Aside0.mk hr3; have HB3 := Aside0.mk (below_step HBe.out hb); have HD3 := Aside0.mk hb; have qb := (HPe.out.below hb).blk; have q0 : w3.cell? ⟨X, 0, none⟩ = some (.string (TX all)) := (blk_cell qb 0).trans rfl; have qz0 : w3.frozen? ⟨X, 0, none⟩ = false := blk_frozen qb 0; have q1 : w3.cell? ⟨X, 1, none⟩ = some (.int .i64 (SY all sure)) := (blk_cell qb 1).trans rfl; have qz1 : w3.frozen? ⟨X, 1, none⟩ = false := blk_frozen qb 1; have q2 : w3.cell? ⟨X, 2, none⟩ = some (.slice LA ln lc) := (blk_cell qb 2).trans rfl; have qz2 : w3.frozen? ⟨X, 2, none⟩ = false := blk_frozen qb 2; have q3 : w3.cell? ⟨X, 3, none⟩ = some (.int .i64 (sure : Int)) := (blk_cell qb 3).trans rfl; have qz3 : w3.frozen? ⟨X, 3, none⟩ = false := blk_frozen qb 3; clear qb; clear hr3 hb) | ((with_reducible refine gate_store (t := 31) (p := 4) (v := .tmp 66) rfl ?_); refine store_event (w1 := (set4 w3 X (.string (TX (crL x.f2 all sure))) (.int .i64 (SY (crL x.f2 all sure) (crL x.f2 all sure).length)) (.slice A3 n3 k3) (.int .i64 ((crL x.f2 all sure).length : Int)))) ?hg rfl ?hN ?hr ?_; (case hg => rfl); (case hN => rfl); (case hr => first | (go_simp; done) | (go_simp; rfl)); intro w4 hw4; have HP4 : Aside0 (PR w4 w1.heap.size X a (crL x.f2 all sure) (crL x.f2 all sure).length (crL x.f2 all sure) (crL x.f2 all sure).length A3 n3 k3) := ⟨(by rw [hw4]; exact HPe.out.new HD3.out _ _ HR3.out)⟩; have HB4 : Aside0 (Below w.heap.size w w4) := ⟨(by rw [hw4]; exact set4_below HB3.out (Nat.le_trans HBS.out HBX.out) _ _ _ _)⟩; clear hw4))
          have HPd := Aside0.mk (HP4.out.below (below_drew (Below.refl _ _)))
          have db := HPd.out.blk
          have d2 : w4.drew.cell? ⟨X, 2, none⟩ = some (.slice A3 n3 k3) := (blk_cell db 2).trans rfl
          have d3 : w4.drew.cell? ⟨X, 3, none⟩ = some (.int .i64 ((crL x.f2 all sure).length : Int)) := (blk_cell db 3).trans rfl
          clear db
          go_region_held (fun w' => w'.cell? ⟨X, 2, none⟩ = some (.slice A3 n3 k3) ∧ w'.cell? ⟨X, 3, none⟩ = some (.int .i64 ((crL x.f2 all sure).length : Int))) (first | exact ⟨by assumption, by assumption⟩ | go_keep) (first | ((refine (QAllP HPd.out).mono ?_); rintro e w25 ⟨A25, n25, k25, rfl, hn25, hk25, hC25, hb⟩; have HC25 := Aside0.mk hC25; have HP25 := Aside0.mk (HPd.out.below hb); have HB25 := Aside0.mk (below_step (below_drew HB4.out) hb); have sb := HP25.out.blk; have s2 : w25.cell? ⟨X, 2, none⟩ = some (.slice A3 n3 k3) := (blk_cell sb 2).trans rfl; have s3 : w25.cell? ⟨X, 3, none⟩ = some (.int .i64 ((crL x.f2 all sure).length : Int)) := (blk_cell sb 3).trans rfl; clear sb; clear hn25 hC25 hb) | ((refine (TextsEq3 n25 n3 A25 k25 A3 k3 ((crL x.f2 all sure).map mk) _ HP25.out.count HC25.out hk25 HP25.out.len.2.2.1 HP25.out.len.2.1).mono ?_); rintro e w26 ⟨rfl, hb⟩; have HP26 := Aside0.mk (HP25.out.below hb); have HB26 := Aside0.mk (below_step HB25.out hb); have tb := HP26.out.blk; have t2 : w26.cell? ⟨X, 2, none⟩ = some (.slice A3 n3 k3) := (blk_cell tb 2).trans rfl; have t3 : w26.cell? ⟨X, 3, none⟩ = some (.int .i64 ((crL x.f2 all sure).length : Int)) := (blk_cell tb 3).trans rfl; clear tb; clear hb) | ((refine (QSureP HP26.out).mono ?_); rintro e w27 ⟨rfl, rfl⟩))
          all_goals
            go_wp2
            go_roundg k1
            case measure => omega
            case rel => exact ⟨i + 1, (crL x.f2 all sure), (crL x.f2 all sure).length, A3, n3, k3, by first | rfl | (simp; done), ⟨by omega⟩, HP26, HB26⟩
        · have e2 : (x.f0 == 2) = false := by simpa using hk2
          clear HI hk1 hk2
          obtain ⟨y, hy⟩ := ex_mk x.f1
          have hyl : y.length ≤ 5000 := by rw [← mk_size, ← hy]; exact HSZ.out
          have HY := Aside0.mk hy
          rw [hy] at x1
          have pb := HPw.out.blk
          have p0 : wr.cell? ⟨X, 0, none⟩ = some (.string (TX all)) := (blk_cell pb 0).trans rfl
          have pz0 : wr.frozen? ⟨X, 0, none⟩ = false := blk_frozen pb 0
          have p1 : wr.cell? ⟨X, 1, none⟩ = some (.int .i64 (SY all sure)) := (blk_cell pb 1).trans rfl
          have pz1 : wr.frozen? ⟨X, 1, none⟩ = false := blk_frozen pb 1
          have p2 : wr.cell? ⟨X, 2, none⟩ = some (.slice LA ln lc) := (blk_cell pb 2).trans rfl
          have pz2 : wr.frozen? ⟨X, 2, none⟩ = false := blk_frozen pb 2
          have p3 : wr.cell? ⟨X, 3, none⟩ = some (.int .i64 (sure : Int)) := (blk_cell pb 3).trans rfl
          have pz3 : wr.frozen? ⟨X, 3, none⟩ = false := blk_frozen pb 3
          clear pb
          have SOF : Aside0 (∀ w', Below wr.heap.size wr w' → w'.cell? ⟨X, 0, none⟩ = some (.string (TX all)) ∧ w'.cell? ⟨X, 1, none⟩ = some (.int .i64 (SY all sure)) ∧ w'.cell? ⟨X, 2, none⟩ = some (.slice LA ln lc) ∧ w'.cell? ⟨X, 3, none⟩ = some (.int .i64 (sure : Int)) ∧ w'.cell? ⟨(ad.add (i * 3)).block, (ad.add (i * 3)).off + 1, none⟩ = some (.string (mk y))) := ⟨by
            intro w' hb
            have hpb := (HPw.out.below hb).blk
            obtain ⟨ad2, ae2, y0, y1, y2⟩ := at_T34 (Kd.C_below HR0.out (below_step HBw.out hb)) (i : Int) (by omega) (Int.ofNat_lt.mpr HIL.out)
            cases ae2
            rw [rd34 HIL.out, ← HXE.out] at y0 y1 y2
            rw [Int.toNat_natCast] at y0 y1 y2
            rw [hy] at y1
            exact ⟨(blk_cell hpb 0).trans rfl, (blk_cell hpb 1).trans rfl, (blk_cell hpb 2).trans rfl, (blk_cell hpb 3).trans rfl, y1⟩⟩
          clear hy
          have HO := Aside0.mk HPw.out.okl
          have hyl2 : y.length ≤ 140737488351232 := by omega
          by_cases he : appE all y = 0
          · have hgXY := Ne.symm (Nat.ne_of_lt (blk_lt HPw.out.blk))
            have hgYX := Nat.ne_of_lt (blk_lt HPw.out.blk)
            go_wp2
            go_region_held (fun w' => w'.cell? ⟨X, 0, none⟩ = some (.string (TX all)) ∧ w'.cell? ⟨X, 1, none⟩ = some (.int .i64 (SY all sure)) ∧ w'.cell? ⟨X, 2, none⟩ = some (.slice LA ln lc) ∧ w'.cell? ⟨X, 3, none⟩ = some (.int .i64 (sure : Int)) ∧ w'.cell? ⟨(ad.add (i * 3)).block, (ad.add (i * 3)).off + 1, none⟩ = some (.string (mk y))) (exact SOF.out _ (by repeat (first | (with_reducible exact Below.refl _ _) | (with_reducible exact HBq.out) | (with_reducible apply below_alloc) | (with_reducible apply below_drew) | (with_reducible refine Below.setCell ?_ (by first | exact Nat.le_refl _ | exact HBq.out.size) _)))) (first | ((change Calls Try.prog 15 #[.agg (RV all sure (.slice LA ln lc)), .string (mk y)] wr.drew _); (with_reducible refine (RAppOkQ HO.out y hyl2 he wr.drew HPw.out.len.1 (Kd.C_below HPw.out.len.2.2.1 (below_drew (Below.refl _ wr)))).mono ?_); rintro e w3 ⟨A3, n3, k3, rfl, hr3, hb⟩; simp only [RV]; have hbq : Below wr.heap.size wr w3 := below_step (below_drew (Below.refl _ wr)) hb; have HBq := Aside0.mk hbq; have qb := (HPw.out.below hbq).blk; have q0 : w3.cell? ⟨X, 0, none⟩ = some (.string (TX all)) := (blk_cell qb 0).trans rfl; have qz0 : w3.frozen? ⟨X, 0, none⟩ = false := blk_frozen qb 0; have q1 : w3.cell? ⟨X, 1, none⟩ = some (.int .i64 (SY all sure)) := (blk_cell qb 1).trans rfl; have qz1 : w3.frozen? ⟨X, 1, none⟩ = false := blk_frozen qb 1; have q2 : w3.cell? ⟨X, 2, none⟩ = some (.slice LA ln lc) := (blk_cell qb 2).trans rfl; have qz2 : w3.frozen? ⟨X, 2, none⟩ = false := blk_frozen qb 2; have q3 : w3.cell? ⟨X, 3, none⟩ = some (.int .i64 (sure : Int)) := (blk_cell qb 3).trans rfl; have qz3 : w3.frozen? ⟨X, 3, none⟩ = false := blk_frozen qb 3; clear qb; have HR3 := Aside0.mk (R_fresh (w0 := wr) (Kd.R_mono hr3 (fun _ _ => trivial)) (by first | exact Nat.le_refl _ | exact (below_alloc (Below.refl _ wr) _).size)); clear hr3; clear hb hbq) | ((change Calls Try.prog 15 #[.agg (RV all sure (.slice LA ln lc)), .string (mk y)] (World.drew (wr.alloc (.cells #[.string ⟨#[]⟩, .int .i64 0, .slice none 0 0, .int .i64 0] 31))) _); (with_reducible refine (RAppOkQ HO.out y hyl2 he (World.drew (wr.alloc (.cells #[.string ⟨#[]⟩, .int .i64 0, .slice none 0 0, .int .i64 0] 31))) HPw.out.len.1 (Kd.C_below HPw.out.len.2.2.1 (below_drew (below_alloc (Below.refl _ wr) (.cells #[.string ⟨#[]⟩, .int .i64 0, .slice none 0 0, .int .i64 0] 31))))).mono ?_); rintro e w3 ⟨A3, n3, k3, rfl, hr3, hb⟩; simp only [RV]; have hbq : Below wr.heap.size wr w3 := below_step (below_drew (below_alloc (Below.refl _ wr) (.cells #[.string ⟨#[]⟩, .int .i64 0, .slice none 0 0, .int .i64 0] 31))) hb; have HBq := Aside0.mk hbq; have qb := (HPw.out.below hbq).blk; have q0 : w3.cell? ⟨X, 0, none⟩ = some (.string (TX all)) := (blk_cell qb 0).trans rfl; have qz0 : w3.frozen? ⟨X, 0, none⟩ = false := blk_frozen qb 0; have q1 : w3.cell? ⟨X, 1, none⟩ = some (.int .i64 (SY all sure)) := (blk_cell qb 1).trans rfl; have qz1 : w3.frozen? ⟨X, 1, none⟩ = false := blk_frozen qb 1; have q2 : w3.cell? ⟨X, 2, none⟩ = some (.slice LA ln lc) := (blk_cell qb 2).trans rfl; have qz2 : w3.frozen? ⟨X, 2, none⟩ = false := blk_frozen qb 2; have q3 : w3.cell? ⟨X, 3, none⟩ = some (.int .i64 (sure : Int)) := (blk_cell qb 3).trans rfl; have qz3 : w3.frozen? ⟨X, 3, none⟩ = false := blk_frozen qb 3; clear qb; have hy3 := blk_below (show (World.drew (wr.alloc (.cells #[.string ⟨#[]⟩, .int .i64 0, .slice none 0 0, .int .i64 0] 31 (0, 0)))).heap[wr.heap.size]? = some (.cells #[.string ⟨#[]⟩, .int .i64 0, .slice none 0 0, .int .i64 0] 31 (0, 0)) from blk_new wr _) hb; have HY3 := Aside0.mk hy3; have g0 : w3.cell? ⟨wr.heap.size, 0, none⟩ = some (.string ⟨#[]⟩) := (blk_cell hy3 0).trans rfl; have gz0 : w3.frozen? ⟨wr.heap.size, 0, none⟩ = false := blk_frozen hy3 0; have g1 : w3.cell? ⟨wr.heap.size, 1, none⟩ = some (.int .i64 0) := (blk_cell hy3 1).trans rfl; have gz1 : w3.frozen? ⟨wr.heap.size, 1, none⟩ = false := blk_frozen hy3 1; have g2 : w3.cell? ⟨wr.heap.size, 2, none⟩ = some (.slice none 0 0) := (blk_cell hy3 2).trans rfl; have gz2 : w3.frozen? ⟨wr.heap.size, 2, none⟩ = false := blk_frozen hy3 2; have g3 : w3.cell? ⟨wr.heap.size, 3, none⟩ = some (.int .i64 0) := (blk_cell hy3 3).trans rfl; have gz3 : w3.frozen? ⟨wr.heap.size, 3, none⟩ = false := blk_frozen hy3 3; clear hy3; have HR3 := Aside0.mk (R_fresh (w0 := wr) (Kd.R_mono hr3 (fun _ _ => trivial)) (by first | exact Nat.le_refl _ | exact (below_alloc (Below.refl _ wr) _).size)); clear hr3; clear hb hbq))
            have hyW : (w3.alloc (.cells #[.string (TX (appL all y)), .int .i64 (SY (appL all y) sure), .slice A3 n3 k3, .int .i64 (sure : Int)] 31)).heap[w3.heap.size]? = some (.cells #[.string (TX (appL all y)), .int .i64 (SY (appL all y) sure), .slice A3 n3 k3, .int .i64 (sure : Int)] 31 (0, 0)) := blk_new w3 _
            have hbW : Below wr.heap.size wr (w3.alloc (.cells #[.string (TX (appL all y)), .int .i64 (SY (appL all y) sure), .slice A3 n3 k3, .int .i64 (sure : Int)] 31)) := below_alloc HBq.out _
            have hYX : w3.heap.size ≠ X := Ne.symm (Nat.ne_of_lt (blk_lt (HPw.out.below HBq.out).blk))
            have hrW := Kd.R_below HR3.out (below_alloc (Below.refl _ _) (.cells #[.string (TX (appL all y)), .int .i64 (SY (appL all y) sure), .slice A3 n3 k3, .int .i64 (sure : Int)] 31))
            generalize hW4 : (w3.alloc (.cells #[.string (TX (appL all y)), .int .i64 (SY (appL all y) sure), .slice A3 n3 k3, .int .i64 (sure : Int)] 31)) = w4 at hyW hbW hrW ⊢
            generalize w3.heap.size = Y at hyW hYX ⊢
            rotate_left
            have hyW : ((((w3.setCell ⟨wr.heap.size, 0, none⟩ (.string (TX (appL all y)))).setCell ⟨wr.heap.size, 1, none⟩ (.int .i64 (SY (appL all y) sure))).setCell ⟨wr.heap.size, 2, none⟩ (.slice A3 n3 k3)).setCell ⟨wr.heap.size, 3, none⟩ (.int .i64 (sure : Int))).heap[wr.heap.size]? = some (.cells #[.string (TX (appL all y)), .int .i64 (SY (appL all y) sure), .slice A3 n3 k3, .int .i64 (sure : Int)] 31 (0, 0)) := four_set HY3.out _ _ _ _
            have hbW : Below wr.heap.size wr ((((w3.setCell ⟨wr.heap.size, 0, none⟩ (.string (TX (appL all y)))).setCell ⟨wr.heap.size, 1, none⟩ (.int .i64 (SY (appL all y) sure))).setCell ⟨wr.heap.size, 2, none⟩ (.slice A3 n3 k3)).setCell ⟨wr.heap.size, 3, none⟩ (.int .i64 (sure : Int))) := set4_below HBq.out (Nat.le_refl _) _ _ _ _
            have hYX : wr.heap.size ≠ X := Ne.symm (Nat.ne_of_lt (blk_lt HPw.out.blk))
            have hrW := R_four HR3.out HY3.out (.string (TX (appL all y))) (.int .i64 (SY (appL all y) sure)) (.slice A3 n3 k3) (.int .i64 (sure : Int))
            generalize hW4 : ((((w3.setCell ⟨wr.heap.size, 0, none⟩ (.string (TX (appL all y)))).setCell ⟨wr.heap.size, 1, none⟩ (.int .i64 (SY (appL all y) sure))).setCell ⟨wr.heap.size, 2, none⟩ (.slice A3 n3 k3)).setCell ⟨wr.heap.size, 3, none⟩ (.int .i64 (sure : Int))) = w4 at hyW hbW hrW ⊢
            generalize wr.heap.size = Y at hyW hYX ⊢
            rotate_left
            all_goals
              have HYX := Aside0.mk hYX
              have HPy := Aside0.mk (HPw.out.below hbW)
              have HBy := Aside0.mk (below_step HBw.out hbW)
              have HRy := Aside0.mk hrW
              have HBW := Aside0.mk hbW
              have hXY := Ne.symm hYX
              have hpb := HPy.out.blk
              have m0 : w4.cell? ⟨Y, 0, none⟩ = some (.string (TX (appL all y))) := (blk_cell hyW 0).trans rfl
              have mz0 : w4.frozen? ⟨Y, 0, none⟩ = false := blk_frozen hyW 0
              have m1 : w4.cell? ⟨Y, 1, none⟩ = some (.int .i64 (SY (appL all y) sure)) := (blk_cell hyW 1).trans rfl
              have mz1 : w4.frozen? ⟨Y, 1, none⟩ = false := blk_frozen hyW 1
              have m2 : w4.cell? ⟨Y, 2, none⟩ = some (.slice A3 n3 k3) := (blk_cell hyW 2).trans rfl
              have mz2 : w4.frozen? ⟨Y, 2, none⟩ = false := blk_frozen hyW 2
              have m3 : w4.cell? ⟨Y, 3, none⟩ = some (.int .i64 (sure : Int)) := (blk_cell hyW 3).trans rfl
              have mz3 : w4.frozen? ⟨Y, 3, none⟩ = false := blk_frozen hyW 3
              have o0 : w4.cell? ⟨X, 0, none⟩ = some (.string (TX all)) := (blk_cell hpb 0).trans rfl
              have oz0 : w4.frozen? ⟨X, 0, none⟩ = false := blk_frozen hpb 0
              have o1 : w4.cell? ⟨X, 1, none⟩ = some (.int .i64 (SY all sure)) := (blk_cell hpb 1).trans rfl
              have oz1 : w4.frozen? ⟨X, 1, none⟩ = false := blk_frozen hpb 1
              have o2 : w4.cell? ⟨X, 2, none⟩ = some (.slice LA ln lc) := (blk_cell hpb 2).trans rfl
              have oz2 : w4.frozen? ⟨X, 2, none⟩ = false := blk_frozen hpb 2
              have o3 : w4.cell? ⟨X, 3, none⟩ = some (.int .i64 (sure : Int)) := (blk_cell hpb 3).trans rfl
              have oz3 : w4.frozen? ⟨X, 3, none⟩ = false := blk_frozen hpb 3
              clear hyW hbW hrW hpb hW4
              go_wp2_with (first | ((with_reducible refine gate_store (t := 31) (p := 4) (v := .tmp 35) rfl ?_); refine store_event (w1 := (set4 w4 X (.string (TX (appL all y))) (.int .i64 (SY (appL all y) sure)) (.slice A3 n3 k3) (.int .i64 (sure : Int)))) ?hg rfl ?hN ?hr ?_; (case hg => rfl); (case hN => rfl); (case hr => first | (go_simp; done) | (go_simp; rfl)); intro w5 hw5; have HP5 : Aside0 (PR w5 w1.heap.size X a all sure (appL all y) sure A3 n3 k3) := ⟨(by rw [hw5]; exact HPw.out.new HBW.out (appL all y) sure HRy.out)⟩; have HB5 : Aside0 (Below w.heap.size w w5) := ⟨(by rw [hw5]; exact set4_below HBy.out (Nat.le_trans HBS.out HBX.out) _ _ _ _)⟩; obtain ⟨ad2, ae2, y0, y1, y2⟩ := at_T34 (Kd.C_below HR0.out HB5.out) (i : Int) (by omega) (Int.ofNat_lt.mpr HIL.out); cases ae2; rw [rd34 HIL.out, ← HXE.out] at y0 y1 y2; rw [Int.toNat_natCast] at y0 y1 y2; rw [HY.out] at y1; clear hw5 y0 y2) | ((with_reducible refine gate_callee (f := 16) rfl ?_); refine goesL_ (some 42) rfl rfl Try.func16 (by kernel_rfl) rfl #[.pointer (some ⟨a, 0, none⟩), .string (mk y)] rfl (by (try simp only [List.map_toArray, List.map_cons, List.map_nil]); first | done | rfl) ?_; (with_reducible refine (PAppend HP5.out y hyl2).mono ?_); rintro e w6 ⟨rfl, P, hb⟩; refine ⟨_, rfl, ?_⟩; rw [he]; have HP6 := Aside0.mk P; have HB6 := Aside0.mk (HB5.out.trans (hb.mono HBS.out)); clear P hb))
              have HPd := Aside0.mk (HP6.out.below (below_drew (Below.refl _ _)))
              have db := HPd.out.blk
              have d2 : w6.drew.cell? ⟨X, 2, none⟩ = some (.slice A3 n3 k3) := (blk_cell db 2).trans rfl
              have d3 : w6.drew.cell? ⟨X, 3, none⟩ = some (.int .i64 (sure : Int)) := (blk_cell db 3).trans rfl
              clear db
              go_region_held (fun w' => w'.cell? ⟨X, 2, none⟩ = some (.slice A3 n3 k3) ∧ w'.cell? ⟨X, 3, none⟩ = some (.int .i64 (sure : Int))) (first | exact ⟨by assumption, by assumption⟩ | go_keep) (first | ((refine (QAllP HPd.out).mono ?_); rintro e w25 ⟨A25, n25, k25, rfl, hn25, hk25, hC25, hb⟩; have HC25 := Aside0.mk hC25; have HP25 := Aside0.mk (HPd.out.below hb); have HB25 := Aside0.mk (below_step (below_drew HB6.out) hb); have sb := HP25.out.blk; have s2 : w25.cell? ⟨X, 2, none⟩ = some (.slice A3 n3 k3) := (blk_cell sb 2).trans rfl; have s3 : w25.cell? ⟨X, 3, none⟩ = some (.int .i64 (sure : Int)) := (blk_cell sb 3).trans rfl; clear sb; clear hn25 hC25 hb) | ((refine (TextsEq3 n25 n3 A25 k25 A3 k3 ((appL all y).map mk) _ HP25.out.count HC25.out hk25 HP25.out.len.2.2.1 HP25.out.len.2.1).mono ?_); rintro e w26 ⟨rfl, hb⟩; have HP26 := Aside0.mk (HP25.out.below hb); have HB26 := Aside0.mk (below_step HB25.out hb); have tb := HP26.out.blk; have t2 : w26.cell? ⟨X, 2, none⟩ = some (.slice A3 n3 k3) := (blk_cell tb 2).trans rfl; have t3 : w26.cell? ⟨X, 3, none⟩ = some (.int .i64 (sure : Int)) := (blk_cell tb 3).trans rfl; clear tb; clear hb) | ((refine (QSureP HP26.out).mono ?_); rintro e w27 ⟨rfl, rfl⟩))
              all_goals
                go_wp2
                go_roundg k1
                case measure => omega
                case rel => exact ⟨i + 1, (appL all y), sure, A3, n3, k3, by first | rfl | (simp; done), ⟨by omega⟩, HP26, HB26⟩
          · have hal : appL all y = all := by unfold appL; rw [if_neg he]
            have HAL := Aside0.mk hal
            have hee : (appE all y != appE all y) = false := by simp
            clear hal
            have hgXY := Ne.symm (Nat.ne_of_lt (blk_lt HPw.out.blk))
            have hgYX := Nat.ne_of_lt (blk_lt HPw.out.blk)
            go_wp2
            go_region_held (fun w' => w'.cell? ⟨X, 0, none⟩ = some (.string (TX all)) ∧ w'.cell? ⟨X, 1, none⟩ = some (.int .i64 (SY all sure)) ∧ w'.cell? ⟨X, 2, none⟩ = some (.slice LA ln lc) ∧ w'.cell? ⟨X, 3, none⟩ = some (.int .i64 (sure : Int)) ∧ w'.cell? ⟨(ad.add (i * 3)).block, (ad.add (i * 3)).off + 1, none⟩ = some (.string (mk y))) (exact SOF.out _ (by repeat (first | (with_reducible exact Below.refl _ _) | (with_reducible exact HBq.out) | (with_reducible apply below_alloc) | (with_reducible apply below_drew) | (with_reducible refine Below.setCell ?_ (by first | exact Nat.le_refl _ | exact HBq.out.size) _)))) (first | ((change Calls Try.prog 15 #[.agg (RV all sure (.slice LA ln lc)), .string (mk y)] wr.drew _); (with_reducible refine (RAppErrQ HO.out y hyl2 he wr.drew).mono ?_); rintro e w3 ⟨rfl, hb⟩; simp only [RV]; have hbq : Below wr.heap.size wr w3 := below_step (below_drew (Below.refl _ wr)) hb; have HBq := Aside0.mk hbq; have qb := (HPw.out.below hbq).blk; have q0 : w3.cell? ⟨X, 0, none⟩ = some (.string (TX all)) := (blk_cell qb 0).trans rfl; have qz0 : w3.frozen? ⟨X, 0, none⟩ = false := blk_frozen qb 0; have q1 : w3.cell? ⟨X, 1, none⟩ = some (.int .i64 (SY all sure)) := (blk_cell qb 1).trans rfl; have qz1 : w3.frozen? ⟨X, 1, none⟩ = false := blk_frozen qb 1; have q2 : w3.cell? ⟨X, 2, none⟩ = some (.slice LA ln lc) := (blk_cell qb 2).trans rfl; have qz2 : w3.frozen? ⟨X, 2, none⟩ = false := blk_frozen qb 2; have q3 : w3.cell? ⟨X, 3, none⟩ = some (.int .i64 (sure : Int)) := (blk_cell qb 3).trans rfl; have qz3 : w3.frozen? ⟨X, 3, none⟩ = false := blk_frozen qb 3; clear qb; skip; clear hb hbq) | ((change Calls Try.prog 15 #[.agg (RV all sure (.slice LA ln lc)), .string (mk y)] (World.drew (wr.alloc (.cells #[.string ⟨#[]⟩, .int .i64 0, .slice none 0 0, .int .i64 0] 31))) _); (with_reducible refine (RAppErrQ HO.out y hyl2 he (World.drew (wr.alloc (.cells #[.string ⟨#[]⟩, .int .i64 0, .slice none 0 0, .int .i64 0] 31)))).mono ?_); rintro e w3 ⟨rfl, hb⟩; simp only [RV]; have hbq : Below wr.heap.size wr w3 := below_step (below_drew (below_alloc (Below.refl _ wr) (.cells #[.string ⟨#[]⟩, .int .i64 0, .slice none 0 0, .int .i64 0] 31))) hb; have HBq := Aside0.mk hbq; have qb := (HPw.out.below hbq).blk; have q0 : w3.cell? ⟨X, 0, none⟩ = some (.string (TX all)) := (blk_cell qb 0).trans rfl; have qz0 : w3.frozen? ⟨X, 0, none⟩ = false := blk_frozen qb 0; have q1 : w3.cell? ⟨X, 1, none⟩ = some (.int .i64 (SY all sure)) := (blk_cell qb 1).trans rfl; have qz1 : w3.frozen? ⟨X, 1, none⟩ = false := blk_frozen qb 1; have q2 : w3.cell? ⟨X, 2, none⟩ = some (.slice LA ln lc) := (blk_cell qb 2).trans rfl; have qz2 : w3.frozen? ⟨X, 2, none⟩ = false := blk_frozen qb 2; have q3 : w3.cell? ⟨X, 3, none⟩ = some (.int .i64 (sure : Int)) := (blk_cell qb 3).trans rfl; have qz3 : w3.frozen? ⟨X, 3, none⟩ = false := blk_frozen qb 3; clear qb; have hy3 := blk_below (show (World.drew (wr.alloc (.cells #[.string ⟨#[]⟩, .int .i64 0, .slice none 0 0, .int .i64 0] 31 (0, 0)))).heap[wr.heap.size]? = some (.cells #[.string ⟨#[]⟩, .int .i64 0, .slice none 0 0, .int .i64 0] 31 (0, 0)) from blk_new wr _) hb; have HY3 := Aside0.mk hy3; have g0 : w3.cell? ⟨wr.heap.size, 0, none⟩ = some (.string ⟨#[]⟩) := (blk_cell hy3 0).trans rfl; have gz0 : w3.frozen? ⟨wr.heap.size, 0, none⟩ = false := blk_frozen hy3 0; have g1 : w3.cell? ⟨wr.heap.size, 1, none⟩ = some (.int .i64 0) := (blk_cell hy3 1).trans rfl; have gz1 : w3.frozen? ⟨wr.heap.size, 1, none⟩ = false := blk_frozen hy3 1; have g2 : w3.cell? ⟨wr.heap.size, 2, none⟩ = some (.slice none 0 0) := (blk_cell hy3 2).trans rfl; have gz2 : w3.frozen? ⟨wr.heap.size, 2, none⟩ = false := blk_frozen hy3 2; have g3 : w3.cell? ⟨wr.heap.size, 3, none⟩ = some (.int .i64 0) := (blk_cell hy3 3).trans rfl; have gz3 : w3.frozen? ⟨wr.heap.size, 3, none⟩ = false := blk_frozen hy3 3; clear hy3; skip; clear hb hbq))
            have hyW : (w3.alloc (.cells #[.string (TX all), .int .i64 (SY all sure), .slice LA ln lc, .int .i64 (sure : Int)] 31)).heap[w3.heap.size]? = some (.cells #[.string (TX all), .int .i64 (SY all sure), .slice LA ln lc, .int .i64 (sure : Int)] 31 (0, 0)) := blk_new w3 _
            have hbW : Below wr.heap.size wr (w3.alloc (.cells #[.string (TX all), .int .i64 (SY all sure), .slice LA ln lc, .int .i64 (sure : Int)] 31)) := below_alloc HBq.out _
            have hYX : w3.heap.size ≠ X := Ne.symm (Nat.ne_of_lt (blk_lt (HPw.out.below HBq.out).blk))
            have hrW := True.intro
            generalize hW4 : (w3.alloc (.cells #[.string (TX all), .int .i64 (SY all sure), .slice LA ln lc, .int .i64 (sure : Int)] 31)) = w4 at hyW hbW hrW ⊢
            generalize w3.heap.size = Y at hyW hYX ⊢
            rotate_left
            have hyW : ((((w3.setCell ⟨wr.heap.size, 0, none⟩ (.string (TX all))).setCell ⟨wr.heap.size, 1, none⟩ (.int .i64 (SY all sure))).setCell ⟨wr.heap.size, 2, none⟩ (.slice LA ln lc)).setCell ⟨wr.heap.size, 3, none⟩ (.int .i64 (sure : Int))).heap[wr.heap.size]? = some (.cells #[.string (TX all), .int .i64 (SY all sure), .slice LA ln lc, .int .i64 (sure : Int)] 31 (0, 0)) := four_set HY3.out _ _ _ _
            have hbW : Below wr.heap.size wr ((((w3.setCell ⟨wr.heap.size, 0, none⟩ (.string (TX all))).setCell ⟨wr.heap.size, 1, none⟩ (.int .i64 (SY all sure))).setCell ⟨wr.heap.size, 2, none⟩ (.slice LA ln lc)).setCell ⟨wr.heap.size, 3, none⟩ (.int .i64 (sure : Int))) := set4_below HBq.out (Nat.le_refl _) _ _ _ _
            have hYX : wr.heap.size ≠ X := Ne.symm (Nat.ne_of_lt (blk_lt HPw.out.blk))
            have hrW := True.intro
            generalize hW4 : ((((w3.setCell ⟨wr.heap.size, 0, none⟩ (.string (TX all))).setCell ⟨wr.heap.size, 1, none⟩ (.int .i64 (SY all sure))).setCell ⟨wr.heap.size, 2, none⟩ (.slice LA ln lc)).setCell ⟨wr.heap.size, 3, none⟩ (.int .i64 (sure : Int))) = w4 at hyW hbW hrW ⊢
            generalize wr.heap.size = Y at hyW hYX ⊢
            rotate_left
            all_goals
              have HYX := Aside0.mk hYX
              have HPy := Aside0.mk (HPw.out.below hbW)
              have HBy := Aside0.mk (below_step HBw.out hbW)
              have HRy := Aside0.mk hrW
              have HBW := Aside0.mk hbW
              have hXY := Ne.symm hYX
              have hpb := HPy.out.blk
              have m0 : w4.cell? ⟨Y, 0, none⟩ = some (.string (TX all)) := (blk_cell hyW 0).trans rfl
              have mz0 : w4.frozen? ⟨Y, 0, none⟩ = false := blk_frozen hyW 0
              have m1 : w4.cell? ⟨Y, 1, none⟩ = some (.int .i64 (SY all sure)) := (blk_cell hyW 1).trans rfl
              have mz1 : w4.frozen? ⟨Y, 1, none⟩ = false := blk_frozen hyW 1
              have m2 : w4.cell? ⟨Y, 2, none⟩ = some (.slice LA ln lc) := (blk_cell hyW 2).trans rfl
              have mz2 : w4.frozen? ⟨Y, 2, none⟩ = false := blk_frozen hyW 2
              have m3 : w4.cell? ⟨Y, 3, none⟩ = some (.int .i64 (sure : Int)) := (blk_cell hyW 3).trans rfl
              have mz3 : w4.frozen? ⟨Y, 3, none⟩ = false := blk_frozen hyW 3
              have o0 : w4.cell? ⟨X, 0, none⟩ = some (.string (TX all)) := (blk_cell hpb 0).trans rfl
              have oz0 : w4.frozen? ⟨X, 0, none⟩ = false := blk_frozen hpb 0
              have o1 : w4.cell? ⟨X, 1, none⟩ = some (.int .i64 (SY all sure)) := (blk_cell hpb 1).trans rfl
              have oz1 : w4.frozen? ⟨X, 1, none⟩ = false := blk_frozen hpb 1
              have o2 : w4.cell? ⟨X, 2, none⟩ = some (.slice LA ln lc) := (blk_cell hpb 2).trans rfl
              have oz2 : w4.frozen? ⟨X, 2, none⟩ = false := blk_frozen hpb 2
              have o3 : w4.cell? ⟨X, 3, none⟩ = some (.int .i64 (sure : Int)) := (blk_cell hpb 3).trans rfl
              have oz3 : w4.frozen? ⟨X, 3, none⟩ = false := blk_frozen hpb 3
              clear hyW hbW hrW hpb hW4
              go_wp2_with (first | ((with_reducible refine gate_store (t := 31) (p := 4) (v := .tmp 35) rfl ?_); refine store_event (w1 := (set4 w4 X (.string (TX all)) (.int .i64 (SY all sure)) (.slice LA ln lc) (.int .i64 (sure : Int)))) ?hg rfl ?hN ?hr ?_; (case hg => rfl); (case hN => rfl); (case hr => first | (go_simp; done) | (go_simp; rfl)); intro w5 hw5; have HP5 : Aside0 (PR w5 w1.heap.size X a all sure all sure LA ln lc) := ⟨(by rw [hw5]; exact HPy.out.put sure)⟩; have HB5 : Aside0 (Below w.heap.size w w5) := ⟨(by rw [hw5]; exact set4_below HBy.out (Nat.le_trans HBS.out HBX.out) _ _ _ _)⟩; obtain ⟨ad2, ae2, y0, y1, y2⟩ := at_T34 (Kd.C_below HR0.out HB5.out) (i : Int) (by omega) (Int.ofNat_lt.mpr HIL.out); cases ae2; rw [rd34 HIL.out, ← HXE.out] at y0 y1 y2; rw [Int.toNat_natCast] at y0 y1 y2; rw [HY.out] at y1; clear hw5 y0 y2) | ((with_reducible refine gate_callee (f := 16) rfl ?_); refine goesL_ (some 42) rfl rfl Try.func16 (by kernel_rfl) rfl #[.pointer (some ⟨a, 0, none⟩), .string (mk y)] rfl (by (try simp only [List.map_toArray, List.map_cons, List.map_nil]); first | done | rfl) ?_; (with_reducible refine (PAppend HP5.out y hyl2).mono ?_); rintro e w6 ⟨rfl, P, hb⟩; refine ⟨_, rfl, ?_⟩; rw [HAL.out] at P; have HP6 := Aside0.mk P; have HB6 := Aside0.mk (HB5.out.trans (hb.mono HBS.out)); clear P hb))
              have HPd := Aside0.mk (HP6.out.below (below_drew (Below.refl _ _)))
              have db := HPd.out.blk
              have d2 : w6.drew.cell? ⟨X, 2, none⟩ = some (.slice LA ln lc) := (blk_cell db 2).trans rfl
              have d3 : w6.drew.cell? ⟨X, 3, none⟩ = some (.int .i64 (sure : Int)) := (blk_cell db 3).trans rfl
              clear db
              go_region_held (fun w' => w'.cell? ⟨X, 2, none⟩ = some (.slice LA ln lc) ∧ w'.cell? ⟨X, 3, none⟩ = some (.int .i64 (sure : Int))) (first | exact ⟨by assumption, by assumption⟩ | go_keep) (first | ((refine (QAllP HPd.out).mono ?_); rintro e w25 ⟨A25, n25, k25, rfl, hn25, hk25, hC25, hb⟩; have HC25 := Aside0.mk hC25; have HP25 := Aside0.mk (HPd.out.below hb); have HB25 := Aside0.mk (below_step (below_drew HB6.out) hb); have sb := HP25.out.blk; have s2 : w25.cell? ⟨X, 2, none⟩ = some (.slice LA ln lc) := (blk_cell sb 2).trans rfl; have s3 : w25.cell? ⟨X, 3, none⟩ = some (.int .i64 (sure : Int)) := (blk_cell sb 3).trans rfl; clear sb; clear hn25 hC25 hb) | ((refine (TextsEq3 n25 ln A25 k25 LA lc (all.map mk) _ HP25.out.count HC25.out hk25 HP25.out.len.2.2.1 HP25.out.len.2.1).mono ?_); rintro e w26 ⟨rfl, hb⟩; have HP26 := Aside0.mk (HP25.out.below hb); have HB26 := Aside0.mk (below_step HB25.out hb); have tb := HP26.out.blk; have t2 : w26.cell? ⟨X, 2, none⟩ = some (.slice LA ln lc) := (blk_cell tb 2).trans rfl; have t3 : w26.cell? ⟨X, 3, none⟩ = some (.int .i64 (sure : Int)) := (blk_cell tb 3).trans rfl; clear tb; clear hb) | ((refine (QSureP HP26.out).mono ?_); rintro e w27 ⟨rfl, rfl⟩))
              all_goals
                go_wp2
                go_roundg k1
                case measure => omega
                case rel => exact ⟨i + 1, all, sure, LA, ln, lc, by first | rfl | (simp; done), ⟨by omega⟩, HP26, HB26⟩
    · obtain rfl : gk = 0 := by omega
      have hge : decide ((i : Int) < (l.length : Int)) = false := decide_eq_false (by omega)
      clear HI
      go_wp2_with ((refine (awake _).mono ?_); rintro e w5 ⟨rfl, hb⟩; have HB5 := Aside0.mk (below_step HBw.out hb); clear hb)
      go_ret
      exact ⟨rfl, HB5.out⟩

theorem WalPlays_walk (A0 : Option Addr) (c0 : Nat) (l : List S34) (w : World) (hr0 : Kd.C k34 w A0 l.length l) (hc0 : l.length ≤ c0) :
    Calls Try.prog 3 #[.slice A0 l.length c0] w fun e w' => e = .returned (.bool true) ∧ Below w.heap.size w w' := by
  rcases few_f l with ⟨h1, h2⟩ | h1
  · exact WalPlays_many A0 c0 l w hr0 hc0 h1 h2
  · exact WalPlays_few A0 c0 l w hr0 hc0 h1
end Go.Proofs.Ytjmdigfinkkelaa.Wal
