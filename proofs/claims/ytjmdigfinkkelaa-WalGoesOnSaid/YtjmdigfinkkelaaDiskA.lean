import Derived.Test.YtjmdigfinkkelaaPAllx2
import Derived.Deep.RegionLaw
namespace Go.Proofs.Ytjmdigfinkkelaa.Wal
open Go.RowKit Go.Proofs.Ytjmdigfinkkelaa.PAll Go.Proofs.YtjmdigfinkkelaaW.PrintWords Go.Proofs.YtjmdigfinkkelaaW.PrintLast Go.Proofs.YtjmdigfinkkelaaW.PrintMore
set_option linter.unusedVariables false
set_option linter.unusedSimpArgs false

/-- A disk at block d: its bytes and how many are synced; all its blocks lie from B on. -/
def Dk (w : World) (B d : Nat) (b : List Int) (sy : Int) : Prop :=
  B ≤ d ∧ ∃ v, w.heap[d]? = some (.cells #[v, .int .i64 sy] 71 (0, 0)) ∧ (Kd.int .u8).R 5 w B (fun _ => True) v b
/-- A block that may be a disk's: by its type. -/
def Ty (w : World) (k : Nat) : Prop := ∃ cells q, w.heap[k]? = some (.cells cells q (0, 0)) ∧ (q = 5 ∨ q = 71)

theorem Dk.sync {w : World} {B d : Nat} {b : List Int} {sy : Int} (D : Dk w B d b sy) (x : Int) : Dk (w.setCell ⟨d, 1, none⟩ (.int .i64 x)) B d b x := by
  obtain ⟨hB, v, hd, hr⟩ := D
  exact ⟨hB, v, by simpa using blk_set hd 1 (.int .i64 x), Kd.R_set hr hd (by decide) 1 (.int .i64 x)⟩
/-- Another slice of the same kind takes the place. -/
theorem Dk.put {w : World} {B d : Nat} {b' : List Int} {sy : Int} {v v' : Value} (hB : B ≤ d) (hd : w.heap[d]? = some (.cells #[v, .int .i64 sy] 71 (0, 0))) (hr : (Kd.int .u8).R 5 w B (fun _ => True) v' b') : Dk (w.setCell ⟨d, 0, none⟩ v') B d b' sy :=
  ⟨hB, v', by simpa using blk_set hd 0 v', Kd.R_set hr hd (by decide) 0 v'⟩
theorem Dk.below {w w' : World} {B d : Nat} {b : List Int} {sy : Int} (D : Dk w B d b sy) (hb : Below w.heap.size w w') : Dk w' B d b sy := by
  obtain ⟨hB, v, hd, hr⟩ := D
  exact ⟨hB, v, blk_below hd hb, Kd.R_below hr hb⟩
/-- What may not be a disk's stays: the disk's does too, where only others are written. -/
theorem Dk.kept {w w' : World} {B d : Nat} {b : List Int} {sy : Int} (D : Dk w B d b sy) {S : Nat → Prop} (hk : Kept w w' S) (hS : ∀ k, S k → ¬ Ty w k) : Dk w' B d b sy := by
  obtain ⟨hB, v, hd, hr⟩ := D
  refine ⟨hB, v, blk_kept hd hk (fun h => hS d h ⟨_, _, hd, .inr rfl⟩), ?_⟩
  refine Kd.R_mono (Kd.R_move (Kd.R_bound hr) (fun k h => ?_)) (fun _ h => h.1)
  obtain ⟨_, _, hlt, q, hq, cells, hc⟩ := h
  refine hk.2 k hlt (fun h => hS k h ⟨cells, q, hc, .inl ?_⟩)
  simpa [Kd.int, Kd.scalar] using hq
theorem ty_blk {w : World} {d : Nat} {cells : Array Value} (hd : w.heap[d]? = some (.cells cells 71 (0, 0))) : Ty w d := ⟨_, _, hd, .inr rfl⟩
theorem ty_row {w : World} {B : Nat} {v : Value} {b : List Int} (hr : (Kd.int .u8).R 5 w B (fun _ => True) v b) (k : Nat) (hk : v.ownBlock = some k) : Ty w k := by
  obtain ⟨inner, ho⟩ := Kd.R_own hr
  obtain ⟨cells, hc⟩ := own_typed ho k hk
  exact ⟨_, _, hc, .inl rfl⟩

/-- append of a string's bytes, as a step of a region that draws. -/
theorem step_append_str {P : Program} {ops : Array Oper} {o : Oper} {a : Act} {Q : Exit → Act → World → Prop} {K : Act → World → Prop} {E : Prop} {W : World} (base : Nat) (hgd : o.guard = none) (s x : Operand) (t u e : TypeId)
    (ho : o.op = .call { callee := .builtin .append, args := #[s, x], argTypes := #[t, u] })
    (ht : P.underlying t = some (.slice e)) (hu : P.underlying u = some .string) (hinfo : (P.info? e).map (fun i => (i.zero, i.size, i.bytes)) = some (some (.int .u8 0), 1, 1))
    (v : Value) (xs : List Int) (y : ByteArray) (hs : a.eval s = v) (hx : a.eval x = .string y)
    (HO : (Kd.int .u8).R e W base (fun _ => True) v xs) (hbase : base ≤ W.heap.size) (hl : xs.length + y.size ≤ 140737488355328)
    (h : ∀ v1 w1, (Kd.int .u8).R e w1 base (fun _ => True) v1 (xs ++ bytesOf y) → W.grownBy w1 v.ownBlock → K (a.put o.dst v1) w1) :
    if Region.wanted o (yielded ops a.tmps) = true then Oper.wp P o a W K Q else E := by
  have hw : Region.wanted o (yielded ops a.tmps) = true := by simp [Region.wanted, hgd]
  rw [if_pos hw]
  obtain ⟨i0, hi, hzz⟩ := Option.map_eq_some_iff.1 hinfo
  simp only [Prod.mk.injEq] at hzz
  obtain ⟨hz0, hz1, hz2⟩ := hzz
  obtain ⟨v1, w1, hr, hown, hg, _⟩ := Lib.run_append_own_string (P := P) W base t u o.type e i0 ht hu hi hz0 hz1 hz2 v xs.length (nums .u8 xs) (Kd.own_of_R HO) y (by simp only [maxLen]; omega) hl hbase
  have hl2 : (xs ++ bytesOf y).length = xs.length + y.size := by rw [List.length_append, bytesOf_length]
  have hc : nums .u8 (xs ++ bytesOf y) = nums .u8 xs ++ Lib.strCells y := by
    rw [nums_append]
    congr 1
    simp [nums, bytesOf, Lib.strCells]
  unfold Oper.wp execOp
  simp only [ho, resolve, invoke, builtin, Sem.run_bind, Sem.run_pure, Result.andThen_ok, List.map_toArray, List.map_cons, List.map_nil, hs, hx, hr]
  refine h v1 w1 (Kd.R_of_own (h1 := fun _ => rfl) ?_ (fun _ _ => trivial)) hg
  rw [hl2]
  show w1.ownsRow base e 1 v1 (xs.length + y.size) (nums .u8 (xs ++ bytesOf y))
  rw [hc]
  exact hown

set_option maxHeartbeats 8000000 in
set_option maxRecDepth 100000 in
theorem New (w : World) : Calls Try.prog 21 #[] w fun e w' => ∃ g : Nat, e = .returned (.pointer (some ⟨g, 0, none⟩)) ∧ w.heap.size ≤ g ∧ Below w.heap.size w w' ∧ w'.heap[g]? = some (.cells #[.slice none 0 0, .int .i64 0] 71 (0, 0)) := by
  have hu71 := Try.underlying71
  have HB := Aside0.mk (Below.refl w.heap.size w)
  go_enter Try.func21, Try.ntmps21
  go_wp2_with (first | ((with_reducible refine gate_dst (N := 2) rfl ?_); refine box_event ?hg (N := 2) ?hd (cs := #[.slice none 0 0, .int .i64 0]) (t := 71) ?hr ?_; (case hd => rfl); (case hg => rfl); (case hr => first | (go_simp; done) | (go_simp; rfl)); intro g hg w1 hbox hb; have n1_ := Aside0.mk (below_step (by repeat (first | (with_reducible first | exact HB.out | apply below_alloc | apply pw_below_drewN | apply below_drew1) | exact HB.out)) hb); have GE := Aside0.mk (show w.heap.size ≤ g by rw [hg]; exact HB.out.size); clear HB; have HB := n1_; have BK := Aside0.mk hbox; clear n1_ hbox hb hg))
  go_ret
  exact ⟨_, rfl, GE.out, by repeat (first | (with_reducible first | exact HB.out | apply below_alloc | apply pw_below_drewN | apply below_drew1) | exact HB.out), by (with_reducible repeat (first | refine blk_drewN ?_ _ | refine blk_drew ?_ | refine blk_alloc ?_ _)); exact BK.out⟩

set_option maxHeartbeats 8000000 in
set_option maxRecDepth 100000 in
/-- The text of a disk. -/
theorem Text {w : World} {B d : Nat} {b : List Int} {sy : Int} (D : Dk w B d b sy) : Calls Try.prog 25 #[.pointer (some ⟨d, 0, none⟩)] w fun e w' => e = .returned (.string (strOfNums b)) ∧ Below w.heap.size w w' := by
  obtain ⟨hB, v, hd, hr⟩ := D
  obtain ⟨A, c, rfl, hl, hC⟩ := Kd.R_reads hr
  have c0 : w.cell? ⟨d, 0, none⟩ = some (.slice A b.length c) := (blk_cell hd 0).trans rfl
  have HB := Aside0.mk (Below.refl w.heap.size w)
  have cv := Kd.C_string (P := Try.prog) (src := 69) (dst := 9) (e := 5) Try.underlying69 Try.underlying5 Try.underlying9 (c := c) hC
  go_enter Try.func25, Try.ntmps25
  go_wp2
  go_ret
  exact ⟨rfl, HB.out⟩

set_option maxHeartbeats 8000000 in
set_option maxRecDepth 100000 in
/-- All is synced. -/
theorem DoSync {w : World} {B d : Nat} {b : List Int} {sy : Int} (D : Dk w B d b sy) (hBw : B ≤ w.heap.size) (s : ByteArray) (keep : Int) :
    Calls Try.prog 22 #[.pointer (some ⟨d, 0, none⟩), .agg #[.int .i64 2, .string s, .int .u64 keep]] w fun e w' => e = .returned (.int .i64 0) ∧ Dk w' B d b (b.length : Int) ∧ Below B w w' ∧ Kept w w' (Ty w) := by
  obtain ⟨hB, v, hd, hr⟩ := D
  obtain ⟨A, c, rfl, hl, hC⟩ := Kd.R_reads hr
  have HB := Aside0.mk (Below.refl w.heap.size w)
  go_enter Try.func22, Try.ntmps22
  go_wp2_with (first | ((with_reducible refine gate_dst (N := 3) rfl ?_); refine box_event ?hg (N := 3) ?hd (cs := #[.int .i64 2, .string s, .int .u64 keep]) (t := 57) ?hr ?_; (case hd => rfl); (case hg => rfl); (case hr => first | (go_simp; done) | (go_simp; rfl)); intro g hg w1 hbox hb; have c0 : w1.cell? ⟨g, 0, none⟩ = some (.int .i64 2) := (blk_cell hbox 0).trans rfl; have c1 : w1.cell? ⟨d, 0, none⟩ = some (.slice A b.length c) := (blk_cell (blk_below hd hb) 0).trans rfl; have c2 : w1.cell? ⟨d, 1, none⟩ = some (.int .i64 sy) := (blk_cell (blk_below hd hb) 1).trans rfl; have f1 : w1.frozen? ⟨d, 1, none⟩ = false := blk_frozen (blk_below hd hb) 1; have HB1 := Aside0.mk hb; clear hg hbox hb))
  go_ret
  have hd1 := blk_below hd HB1.out
  exact ⟨rfl, Dk.sync ⟨hB, _, hd1, Kd.R_below hr HB1.out⟩ _, (HB1.out.mono hBw).setCell hB _, (Kept.of_below HB1.out _).setCell (.inl (ty_blk hd)) _⟩

set_option maxHeartbeats 8000000 in
set_option maxRecDepth 100000 in
/-- There is no room. -/
theorem DoFull {w : World} {B d : Nat} {b : List Int} {sy : Int} (D : Dk w B d b sy) (s : ByteArray) (keep : Int) (hl : b.length ≤ 65536) (h : ¬ b.length + s.size ≤ 65536) :
    Calls Try.prog 22 #[.pointer (some ⟨d, 0, none⟩), .agg #[.int .i64 1, .string s, .int .u64 keep]] w fun e w' => e = .returned (.int .i64 2) ∧ Below w.heap.size w w' := by
  obtain ⟨hB, v, hd, hr⟩ := D
  obtain ⟨A, c, rfl, hlc, hC⟩ := Kd.R_reads hr
  have HB := Aside0.mk (Below.refl w.heap.size w)
  have hw : wrap64 (65536 - (b.length : Int)) = 65536 - (b.length : Int) := by unfold wrap64; omega
  have ht : decide ((s.size : Int) > wrap64 (65536 - (b.length : Int))) = true := by rw [hw]; exact decide_eq_true (by omega)
  clear hw
  go_enter Try.func22, Try.ntmps22
  go_wp2_with (first | ((with_reducible refine gate_dst (N := 3) rfl ?_); refine box_event ?hg (N := 3) ?hd (cs := #[.int .i64 1, .string s, .int .u64 keep]) (t := 57) ?hr ?_; (case hd => rfl); (case hg => rfl); (case hr => first | (go_simp; done) | (go_simp; rfl)); intro g hg w1 hbox hb; have c0 : w1.cell? ⟨g, 0, none⟩ = some (.int .i64 1) := (blk_cell hbox 0).trans rfl; have c3 : w1.cell? ⟨g, 1, none⟩ = some (.string s) := (blk_cell hbox 1).trans rfl; have c1 : w1.cell? ⟨d, 0, none⟩ = some (.slice A b.length c) := (blk_cell (blk_below hd hb) 0).trans rfl; have c2 : w1.cell? ⟨d, 1, none⟩ = some (.int .i64 sy) := (blk_cell (blk_below hd hb) 1).trans rfl; have f1 : w1.frozen? ⟨d, 1, none⟩ = false := blk_frozen (blk_below hd hb) 1; have HB1 := Aside0.mk hb; clear hg hbox hb))
  go_region
  go_wp2
  go_ret
  exact ⟨rfl, HB1.out.drew⟩

set_option maxHeartbeats 8000000 in
set_option maxRecDepth 100000 in
/-- A text behind all. -/
theorem DoWrite {w : World} {B d : Nat} {b : List Int} {sy : Int} (D : Dk w B d b sy) (hBw : B ≤ w.heap.size) (s : ByteArray) (keep : Int) (h : b.length + s.size ≤ 65536) :
    Calls Try.prog 22 #[.pointer (some ⟨d, 0, none⟩), .agg #[.int .i64 1, .string s, .int .u64 keep]] w fun e w' => e = .returned (.int .i64 0) ∧ Dk w' B d (b ++ bytesOf s) sy ∧ Below B w w' ∧ Kept w w' (Ty w) := by
  obtain ⟨hB, v, hd, hr⟩ := D
  obtain ⟨A, c, rfl, hlc, hC⟩ := Kd.R_reads hr
  have HB := Aside0.mk (Below.refl w.heap.size w)
  have hw : wrap64 (65536 - (b.length : Int)) = 65536 - (b.length : Int) := by unfold wrap64; omega
  have ht : decide ((s.size : Int) > wrap64 (65536 - (b.length : Int))) = false := by rw [hw]; exact decide_eq_false (by omega)
  clear hw
  go_enter Try.func22, Try.ntmps22
  go_wp2_with (first | ((with_reducible refine gate_dst (N := 3) rfl ?_); refine box_event ?hg (N := 3) ?hd (cs := #[.int .i64 1, .string s, .int .u64 keep]) (t := 57) ?hr ?_; (case hd => rfl); (case hg => rfl); (case hr => first | (go_simp; done) | (go_simp; rfl)); intro g hg w1 hbox hb; have c0 : w1.cell? ⟨g, 0, none⟩ = some (.int .i64 1) := (blk_cell hbox 0).trans rfl; have c3 : w1.cell? ⟨g, 1, none⟩ = some (.string s) := (blk_cell hbox 1).trans rfl; have c1 : w1.cell? ⟨d, 0, none⟩ = some (.slice A b.length c) := (blk_cell (blk_below hd hb) 0).trans rfl; have c2 : w1.cell? ⟨d, 1, none⟩ = some (.int .i64 sy) := (blk_cell (blk_below hd hb) 1).trans rfl; have f1 : w1.frozen? ⟨d, 0, none⟩ = false := blk_frozen (blk_below hd hb) 0; have HB1 := Aside0.mk hb; clear hg hbox hb))
  go_region
  go_wp2
  have HB2 : Aside0 (Below w.heap.size w w1.drew.drew) := ⟨HB1.out.drew.drew⟩
  have HR1 := Aside0.mk (Kd.R_below hr HB2.out)
  have HD1 := Aside0.mk (blk_below hd HB2.out)
  go_region_law (refine step_append_str B rfl (.tmp 29) (.tmp 31) 69 9 5 rfl Try.underlying69 Try.underlying9 (by kernel_rfl) (.slice A b.length c) b s (by simp [Act.eval, Act.put]) (by simp [Act.eval, Act.put]) HR1.out (Nat.le_trans hBw HB2.out.size) (by omega) ?_; intro v1 w2 hr2 hg2; obtain ⟨A2, k2, rfl⟩ := Kd.R_slice hr2; have hd2 := blk_grown HD1.out hg2 (Kd.R_ne HR1.out HD1.out (by decide)); have e0 : w2.cell? ⟨d, 0, none⟩ = some (.slice A b.length c) := (blk_cell hd2 0).trans rfl; have g0 : w2.frozen? ⟨d, 0, none⟩ = false := blk_frozen hd2 0; have HR2 := Aside0.mk hr2; have HG2 := Aside0.mk hg2; have HD2 := Aside0.mk hd2; clear hr2 hg2 hd2)
  all_goals
    go_wp2
    go_ret
    have hb2 : Below B w w2 := (HB2.out.mono hBw).grown HG2.out (Nat.le_trans hBw HB2.out.size) (fun k hk => own_base (Kd.own_of_R HR1.out) k hk)
    have hr3 := HR2.out
    rw [List.length_append] at hr3
    exact ⟨rfl, Dk.put hB HD2.out hr3, hb2.setCell hB _, (Kept.of_grown HG2.out (Kept.of_below HB2.out _) (fun k hk => .inl (ty_row hr k hk))).setCell (.inl (ty_blk hd)) _⟩

end Go.Proofs.Ytjmdigfinkkelaa.Wal
