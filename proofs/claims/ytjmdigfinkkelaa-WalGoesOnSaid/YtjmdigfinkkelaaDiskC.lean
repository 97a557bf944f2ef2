import Derived.Test.YtjmdigfinkkelaaDiskB
namespace Go.Proofs.Ytjmdigfinkkelaa.Wal
open Go.RowKit Go.Proofs.Ytjmdigfinkkelaa.PAll Go.Proofs.YtjmdigfinkkelaaW.PrintWords Go.Proofs.YtjmdigfinkkelaaW.PrintLast Go.Proofs.YtjmdigfinkkelaaW.PrintMore
set_option linter.unusedVariables false
set_option linter.unusedSimpArgs false

theorem Ty.back {w w1 : World} (h : Below w.heap.size w w1) (k : Nat) (t : Ty w1 k) : Ty w k ∨ w.heap.size ≤ k := by
  by_cases hk : k < w.heap.size
  · obtain ⟨cells, q, hc, hq⟩ := t
    exact .inl ⟨cells, q, (h.block k hk).symm.trans hc, hq⟩
  · exact .inr (by omega)

/-- What a crash leaves of a disk. -/
def crashL (keep : Int) (b : List Int) (sy : Nat) : List Int := (tl keep ((sy : Int) / 64) (b.length - sy) sy b sy).1.take (tl keep ((sy : Int) / 64) (b.length - sy) sy b sy).2

set_option maxHeartbeats 8000000 in
set_option maxRecDepth 100000 in
theorem DoCrash {w : World} {B d : Nat} {b : List Int} {sy : Nat} (D : Dk w B d b (sy : Int)) (hBw : B ≤ w.heap.size) (s : ByteArray) (keep : Int) (hsl : sy ≤ b.length) (hl : b.length ≤ 65536) :
    Calls Try.prog 22 #[.pointer (some ⟨d, 0, none⟩), .agg #[.int .i64 3, .string s, .int .u64 keep]] w fun e w' => e = .returned (.int .i64 0) ∧ Dk w' B d (crashL keep b sy) ((crashL keep b sy).length : Int) ∧ Below B w w' ∧ Kept w w' (Ty w) := by
  have D0 := D
  obtain ⟨hB, v, hd, hr⟩ := D
  obtain ⟨A, c, rfl, hlc, hC⟩ := Kd.R_reads hr
  have HB := Aside0.mk (Below.refl w.heap.size w)
  go_enter Try.func22, Try.ntmps22
  go_wp2_with (first | ((with_reducible refine gate_dst (N := 3) rfl ?_); refine box_event ?hg (N := 3) ?hd (cs := #[.int .i64 3, .string s, .int .u64 keep]) (t := 57) ?hr ?_; (case hd => rfl); (case hg => rfl); (case hr => first | (go_simp; done) | (go_simp; rfl)); intro g hg w1 hbox hb; have c0 : w1.cell? ⟨g, 0, none⟩ = some (.int .i64 3) := (blk_cell hbox 0).trans rfl; have c3 : w1.cell? ⟨g, 2, none⟩ = some (.int .u64 keep) := (blk_cell hbox 2).trans rfl; have HB1 := Aside0.mk hb; clear hg hbox hb) | ((with_reducible refine gate_callee (f := 31) rfl ?_); refine goesL_ (some 38) rfl rfl Try.func31 (by kernel_rfl) rfl #[.pointer (some ⟨d, 0, none⟩), .int .u64 keep] rfl (by (try simp only [List.map_toArray, List.map_cons, List.map_nil]); first | done | rfl) ?_; (with_reducible refine (tear (D0.below HB1.out) (Nat.le_trans hBw HB1.out.size) keep hsl hl _ _ rfl).mono ?_); rintro e2 w2 ⟨rfl, hD2, hB2, hK2⟩; refine ⟨_, rfl, ?_⟩; change Dk w2 B d (crashL keep b sy) _ at hD2; have HD2 := Aside0.mk hD2; obtain ⟨_, v2, hd2, hr2⟩ := hD2; obtain ⟨A2, k2, rfl, hl2, _⟩ := Kd.R_reads hr2; have e0 : w2.cell? ⟨d, 0, none⟩ = some (.slice A2 (crashL keep b sy).length k2) := (blk_cell hd2 0).trans rfl; have e1 : w2.cell? ⟨d, 1, none⟩ = some (.int .i64 sy) := (blk_cell hd2 1).trans rfl; have g1 : w2.frozen? ⟨d, 1, none⟩ = false := blk_frozen hd2 1; have HB2 := Aside0.mk hB2; have HK2 := Aside0.mk hK2; clear hB2 hK2 hd2 hr2))
  go_ret
  exact ⟨rfl, HD2.out.sync _, (((HB1.out.mono hBw)).trans HB2.out).setCell hB _, ((Kept.of_below HB1.out (Ty w)).then_ HK2.out (fun k t => Ty.back HB1.out k t)).setCell (.inl (ty_blk hd)) _⟩

set_option maxHeartbeats 8000000 in
set_option maxRecDepth 100000 in
/-- All behind a place goes. -/
theorem Cut {w : World} {B d : Nat} {b : List Int} {sy : Int} (D : Dk w B d b sy) (hBw : B ≤ w.heap.size) (n : Nat) (h : n ≤ b.length) (hl : b.length ≤ 65536) (hsy : sy = (b.length : Int)) :
    Calls Try.prog 26 #[.pointer (some ⟨d, 0, none⟩), .int .i64 (n : Int)] w fun e w' => e = .returned (.tuple #[]) ∧ Dk w' B d (b.take n) (n : Int) ∧ Below B w w' ∧ Kept w w' (Ty w) := by
  have D0 := D
  obtain ⟨hB, v, hd, hr⟩ := D
  obtain ⟨A, c, rfl, hlc, hC⟩ := Kd.R_reads hr
  have c0 : w.cell? ⟨d, 0, none⟩ = some (.slice A b.length c) := (blk_cell hd 0).trans rfl
  have c1 : w.cell? ⟨d, 1, none⟩ = some (.int .i64 sy) := (blk_cell hd 1).trans rfl
  have f0 : w.frozen? ⟨d, 0, none⟩ = false := blk_frozen hd 0
  have f1 : w.frozen? ⟨d, 1, none⟩ = false := blk_frozen hd 1
  have h0 : decide (0 ≤ (n : Int)) = true := decide_eq_true (by omega)
  by_cases hn : n < b.length
  · have h1 : decide ((n : Int) < (b.length : Int)) = true := decide_eq_true (by omega)
    have hnc : n ≤ c := by omega
    subst hsy
    go_enter Try.func26, Try.ntmps26
    go_wp2
    exact bodyPost_end (results_none rfl _ _ _) rfl ⟨rfl, (Dk.put hB hd (R_takeI hr (by omega))).sync _, ((Below.refl B w).setCell hB _).setCell hB _, ((Kept.refl _ _).setCell (.inl (ty_blk hd)) _).setCell (.inl (ty_blk hd)) _⟩
  · have h1 : decide ((n : Int) < (b.length : Int)) = false := decide_eq_false (by omega)
    obtain rfl : n = b.length := by omega
    subst hsy
    go_enter Try.func26, Try.ntmps26
    go_wp2
    refine bodyPost_end (results_none rfl _ _ _) rfl ⟨rfl, ?_, Below.refl _ _, Kept.refl _ _⟩
    rw [List.take_length]
    exact D0
end Go.Proofs.Ytjmdigfinkkelaa.Wal
