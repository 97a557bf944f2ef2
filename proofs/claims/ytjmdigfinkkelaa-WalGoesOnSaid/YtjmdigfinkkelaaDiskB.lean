import Derived.Test.YtjmdigfinkkelaaDiskA
namespace Go.Proofs.Ytjmdigfinkkelaa.Wal
open Go.RowKit Go.Proofs.Ytjmdigfinkkelaa.PAll Go.Proofs.YtjmdigfinkkelaaW.PrintWords Go.Proofs.YtjmdigfinkkelaaW.PrintLast Go.Proofs.YtjmdigfinkkelaaW.PrintMore
set_option linter.unusedVariables false
set_option linter.unusedSimpArgs false

/-- Is the sector k kept? -/
def kp (keep k : Int) : Bool := decide (k < 64) && (Go.bits .and .u64 (keep / 2 ^ k.toNat) 1 == 1)
theorem kp_lt {keep k : Int} (h : k < 64) : kp keep k = (Go.bits .and .u64 (keep / 2 ^ k.toNat) 1 == 1) := by
  unfold kp
  rw [decide_eq_true h, Bool.true_and]
theorem kp_ge {keep k : Int} (h : ¬ k < 64) : kp keep k = false := by
  unfold kp
  rw [decide_eq_false h, Bool.false_and]

set_option maxHeartbeats 8000000 in
set_option maxRecDepth 100000 in
theorem kept_calls (keep k : Int) (h0 : 0 ≤ k) (w : World) : Calls Try.prog 39 #[.int .u64 keep, .int .i64 k] w fun e w' => e = .returned (.bool (kp keep k)) ∧ w' = w := by
  by_cases h64 : k < 64
  · rw [kp_lt h64]
    have hh : decide (k < 64) = true := decide_eq_true h64
    go_enter Try.func39, Try.ntmps39
    go_wp2
    go_ret
    exact ⟨rfl, rfl⟩
  · rw [kp_ge h64]
    have hh : decide (k < 64) = false := decide_eq_false h64
    go_enter Try.func39, Try.ntmps39
    go_wp2
    go_ret
    exact ⟨rfl, rfl⟩

theorem w64n (n : Nat) (h : n ≤ 100000) : wrap64 ((n : Int) + 1) = ((n + 1 : Nat) : Int) := by
  unfold wrap64
  omega
theorem div_nn (a s : Nat) (h : s ≤ a) : 0 ≤ (a : Int) / 64 - (s : Int) / 64 := by omega

theorem R_takeI {w : World} {B : Nat} {A : Option Addr} {n m c : Nat} {xs : List Int} (h : (Kd.int .u8).R 5 w B (fun _ => True) (.slice A n c) xs) (hm : m ≤ xs.length) : (Kd.int .u8).R 5 w B (fun _ => True) (.slice A m c) (xs.take m) := by
  obtain ⟨rfl, _⟩ := Kd.R_reads' h
  have h2 := own_take (Kd.own_of_R h) hm
  refine Kd.R_of_own (h1 := fun _ => rfl) ?_ (fun _ _ => trivial)
  rw [List.length_take, Nat.min_eq_left hm]
  rw [Nat.mul_one] at h2
  have e : encs (Value.int .u8) (xs.take m) = (encs (Value.int .u8) xs).take m := by simp [encs, List.map_take]
  rw [e]
  exact h2

/-- What a crash leaves: from the place at_ on, for m places. -/
def tl (keep first : Int) : Nat → Nat → List Int → Nat → List Int × Nat
  | 0, _, b, e => (b, e)
  | m + 1, at_, b, e => if kp keep ((at_ : Int) / 64 - first) = true then tl keep first m (at_ + 1) b (at_ + 1) else tl keep first m (at_ + 1) (b.set at_ 0) e

set_option maxHeartbeats 8000000 in
set_option maxRecDepth 100000 in
theorem tear {w : World} {B d : Nat} {b : List Int} {sy : Nat} (D : Dk w B d b (sy : Int)) (hBw : B ≤ w.heap.size) (keep : Int) (hsl : sy ≤ b.length) (hl : b.length ≤ 65536) (b2 : List Int) (e2 : Nat) (hR : tl keep ((sy : Int) / 64) (b.length - sy) sy b sy = (b2, e2)) :
    Calls Try.prog 31 #[.pointer (some ⟨d, 0, none⟩), .int .u64 keep] w fun e w' => e = .returned (.tuple #[]) ∧ Dk w' B d (b2.take e2) (sy : Int) ∧ Below B w w' ∧ Kept w w' (Ty w) := by
  obtain ⟨hB, v, hd, hr⟩ := D
  obtain ⟨A, c, rfl, hlc, hC⟩ := Kd.R_reads hr
  have HB := Aside0.mk (Below.refl w.heap.size w)
  have c1 : w.cell? ⟨d, 0, none⟩ = some (.slice A b.length c) := (blk_cell hd 0).trans rfl
  have c2 : w.cell? ⟨d, 1, none⟩ = some (.int .i64 sy) := (blk_cell hd 1).trans rfl
  have HR := Aside0.mk hR
  clear hR
  go_enter Try.func31, Try.ntmps31
  go_wp2
  go_region
  go_wp2
  go_loopg [5, 6] (b.length - sy) (fun kq v5 v6 w' => ∃ (at_ e : Nat) (b' : List Int), v5 = .int .i64 (e : Int) ∧ v6 = .int .i64 (at_ : Int) ∧ Aside0 (tl keep ((sy : Int) / 64) kq at_ b' e = (b2, e2)) ∧ Aside0 (b'.length = b.length ∧ at_ + kq = b.length ∧ e ≤ at_ ∧ sy ≤ at_) ∧ Aside0 (w'.heap[d]? = some (.cells #[.slice A b.length c, .int .i64 sy] 71 (0, 0))) ∧ Aside0 ((Kd.int .u8).R 5 w' B (fun _ => True) (.slice A b.length c) b') ∧ Aside0 (Below B w w') ∧ Aside0 (Kept w w' (Ty w)))
  case atStart => exact ⟨sy, sy, b, rfl, rfl, HR, ⟨rfl, by omega, Nat.le_refl _, Nat.le_refl _⟩, ⟨hd⟩, ⟨hr⟩, ⟨(Below.refl _ _).drew⟩, ⟨Kept.refl _ _⟩⟩
  case round =>
    obtain ⟨at_, e, b', rfl, rfl, HA, HI, HD, HRw, HBw, HKw⟩ := hrel
    obtain ⟨i1, i2, i3, i4⟩ := HI.out
    have d0 : wr.cell? ⟨d, 0, none⟩ = some (.slice A b.length c) := (blk_cell HD.out 0).trans rfl
    have z0 : wr.frozen? ⟨d, 0, none⟩ = false := blk_frozen HD.out 0
    by_cases hat : at_ < b.length
    · obtain ⟨k1, rfl⟩ : ∃ k1, gk = k1 + 1 := ⟨gk - 1, by omega⟩
      have hlt : decide ((at_ : Int) < (b.length : Int)) = true := decide_eq_true (by omega)
      have hnn := div_nn at_ sy i4
      obtain ⟨g, cap, hv, hBg, hgl, cells, hgc⟩ := Kd.R_form HRw.out (by omega)
      rw [i1] at hv
      injection hv with hA hn hcp
      subst hA hcp
      obtain ⟨z1, z2⟩ := Kd.R_celln (0 : Int) HRw.out (at_ : Int) (by omega) (by omega)
      rw [Int.toNat_natCast] at z1 z2
      have H := HA.out
      clear HA HI
      rw [tl] at H
      by_cases hk : kp keep ((at_ : Int) / 64 - (sy : Int) / 64) = true
      · rw [if_pos hk] at H
        have HA := Aside0.mk H
        clear H
        go_wp2_with (first | ((with_reducible refine gate_callee (f := 39) rfl ?_); refine goesL_ (some 34) rfl rfl Try.func39 (by kernel_rfl) rfl #[.int .u64 keep, .int .i64 ((at_ : Int) / 64 - (sy : Int) / 64)] rfl (by (try simp only [List.map_toArray, List.map_cons, List.map_nil]); first | done | rfl) ?_; (with_reducible refine (kept_calls keep _ hnn _).mono ?_); rintro e1 w1 ⟨rfl, rfl⟩; rw [hk]; refine ⟨_, rfl, ?_⟩))
        go_roundg k1
        case measure => omega
        case rel => exact ⟨at_ + 1, at_ + 1, b', rfl, rfl, HA, ⟨i1, by omega, by omega, by omega⟩, HD, HRw, HBw, HKw⟩
      · rw [if_neg hk] at H
        have HA := Aside0.mk H
        clear H
        replace hk := Bool.eq_false_iff.mpr hk
        go_wp2_with (first | ((with_reducible refine gate_callee (f := 39) rfl ?_); refine goesL_ (some 34) rfl rfl Try.func39 (by kernel_rfl) rfl #[.int .u64 keep, .int .i64 ((at_ : Int) / 64 - (sy : Int) / 64)] rfl (by (try simp only [List.map_toArray, List.map_cons, List.map_nil]); first | done | rfl) ?_; (with_reducible refine (kept_calls keep _ hnn _).mono ?_); rintro e1 w1 ⟨rfl, rfl⟩; rw [hk]; refine ⟨_, rfl, ?_⟩))
        go_roundg k1
        case measure => omega
        case rel =>
          obtain ⟨hr2, hg2⟩ := Kd.R_putg HRw.out (at_ : Int) 0
          rw [Int.toNat_natCast] at hr2 hg2
          exact ⟨at_ + 1, e, b'.set at_ 0, rfl, rfl, HA, ⟨by rw [List.length_set]; exact i1, by omega, by omega, by omega⟩, ⟨blk_grown HD.out hg2 (fun h => blk_ne hgc HD.out (by decide) (by injection h with h; exact h.symm))⟩, ⟨hr2⟩, ⟨HBw.out.setCell hBg _⟩, ⟨HKw.out.setCell (.inl (ty_row hr g rfl)) _⟩⟩
    · obtain rfl : gk = 0 := by omega
      have H := HA.out
      clear HA
      rw [tl] at H
      injection H with h1 h2
      subst h1 h2
      have hge : decide ((at_ : Int) < (b.length : Int)) = false := decide_eq_false (by omega)
      have hec : e ≤ c := by omega
      have heb : e ≤ b'.length := by omega
      have HE := Aside0.mk heb
      clear HI heb
      go_wp2
      exact bodyPost_end (results_none rfl _ _ _) rfl ⟨rfl, Dk.put hB HD.out (R_takeI HRw.out HE.out), HBw.out.setCell hB _, HKw.out.setCell (.inl (ty_blk hd)) _⟩
end Go.Proofs.Ytjmdigfinkkelaa.Wal
