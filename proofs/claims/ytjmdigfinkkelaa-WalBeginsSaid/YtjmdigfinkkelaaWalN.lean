import Derived.Test.YtjmdigfinkkelaaWalM
namespace Go.Proofs.Ytjmdigfinkkelaa.Wal
open Go.RowKit Go.Proofs.Ytjmdigfinkkelaa.PAll Go.Proofs.YtjmdigfinkkelaaW.PrintWords Go.Proofs.YtjmdigfinkkelaaW.PrintLast Go.Proofs.YtjmdigfinkkelaaW.PrintMore SG Go.Proofs.Ytjmdigfinkkelaa.Fun
set_option linter.unusedVariables false
set_option linter.unusedSimpArgs false

/-- The number whose lowest i bits are set. -/
def kk : Nat → Int
  | 0 => 0
  | i + 1 => 2 * kk i + 1
theorem kk_all : ((List.range 65).all fun m => decide (0 ≤ kk m) && decide (kk m < 18446744073709551616) && (List.range 64).all fun k => kp (kk m) (k : Int) == decide (k < m)) = true := by decide +kernel
theorem kk_range {m : Nat} (h : m ≤ 64) : 0 ≤ kk m ∧ kk m < 18446744073709551616 := by
  have h1 := List.all_eq_true.1 kk_all m (List.mem_range.2 (by omega))
  simp only [Bool.and_eq_true, decide_eq_true_iff] at h1
  exact h1.1
theorem kk_kp {m k : Nat} (h : m ≤ 64) (hk : k < 64) : kp (kk m) (k : Int) = decide (k < m) := by
  have h1 := List.all_eq_true.1 kk_all m (List.mem_range.2 (by omega))
  simp only [Bool.and_eq_true, decide_eq_true_iff] at h1
  exact eq_of_beq (List.all_eq_true.1 h1.2 k (List.mem_range.2 hk))
theorem wraps_u64 (n : Int) (h₀ : 0 ≤ n) (h₁ : n < 2 ^ 64) : IntKind.u64.wrap n = n := by
  have : IntKind.u64.wrap n = n % 18446744073709551616 := by simp [IntKind.wrap, IntKind.bits, IntKind.signed]
  rw [this]
  omega
theorem kk_next {i : Nat} (h : i + 1 ≤ 64) : Go.bits .or .u64 (IntKind.u64.wrap (kk i * 2)) 1 = kk (i + 1) := by
  have h1 := kk_range h
  have h2 := kk_range (m := i) (by omega)
  have e : kk (i + 1) = 2 * kk i + 1 := rfl
  rw [wraps_u64 (kk i * 2) (by omega) (by omega)]
  rw [bits_join .u64 64 (by decide) wraps_u64 1 (kk i * 2) 1 (by omega) (by omega) (by omega) (by omega) (by omega) (by decide)]
  omega

/-- Where sectors are kept from the first on there is a beginning of the records. -/
theorem crL_begin (m : Nat) (hm : m ≤ 64) (all : List By) (sure : Nat) (h : ∀ x ∈ all, x.length ≤ 4096) : ∃ n, n ≤ all.length ∧ crL (kk m) all sure = all.take n := by
  have hsy := flat_take_le all sure
  generalize hs : (flat (all.take sure)).length = sy at hsy
  have hb := tl_begin (kk m) ((sy : Int) / 64) ((bytesOf (mk (flat all))).length - sy) sy (bytesOf (mk (flat all))) sy (Nat.le_refl _) (by rw [bytesOf_len]; omega) (by
    intro i j h1 h2 h3 hj
    have g1 : 0 ≤ (i : Int) / 64 - (sy : Int) / 64 := by omega
    have g2 : (i : Int) / 64 - (sy : Int) / 64 ≤ (j : Int) / 64 - (sy : Int) / 64 := by omega
    generalize (i : Int) / 64 - (sy : Int) / 64 = x at *
    generalize (j : Int) / 64 - (sy : Int) / 64 = y at *
    obtain ⟨x, rfl⟩ : ∃ n : Nat, x = (n : Int) := ⟨x.toNat, by omega⟩
    obtain ⟨y, rfl⟩ : ∃ n : Nat, y = (n : Int) := ⟨y.toNat, by omega⟩
    by_cases hy : y < 64
    · rw [kk_kp hm hy] at hj
      rw [kk_kp hm (by omega)]
      have := of_decide_eq_true hj
      exact decide_eq_true (by omega)
    · rw [kp_ge (by omega)] at hj
      cases hj) (fun _ => .inr trivial)
  obtain ⟨_, h2, h3, _⟩ := tl_spec (kk m) ((sy : Int) / 64) ((bytesOf (mk (flat all))).length - sy) sy (bytesOf (mk (flat all))) sy (Nat.le_refl _) (by rw [bytesOf_len]; omega)
  replace h3 := Nat.le_trans h3 (Nat.le_of_eq (bytesOf_len _))
  have hc : crB (kk m) (flat all) sy = (flat all).take (tl (kk m) ((sy : Int) / 64) ((bytesOf (mk (flat all))).length - sy) sy (bytesOf (mk (flat all))) sy).2 := by
    unfold crB crashL
    rw [hb, bytesOf_take, back_bytes]
  obtain ⟨n, hn, hp, _, _⟩ := pre_cut all _ h h3
  refine ⟨n, hn, ?_⟩
  unfold crL
  rw [hs, hc, hp]

set_option maxHeartbeats 8000000 in
set_option maxRecDepth 100000 in
theorem WalBegins_few (A0 : Option Addr) (c0 : Nat) (l : List S34) (k : Int) (w : World) (hr0 : Kd.C k34 w A0 l.length l) (hc0 : l.length ≤ c0) (hf : sandglasslaw19_few.f (l.length + 1) l = some false) :
    Calls Try.prog 4 #[.slice A0 l.length c0, .int .i64 k] w fun e w' => e = .returned (.bool true) ∧ Below w.heap.size w w' := by
  go_enter Try.func4, Try.ntmps4
  go_wp2_with (first | ((with_reducible refine gate_callee (f := 8) rfl ?_); refine goesL_ (some 12) rfl rfl Try.func8 (by kernel_rfl) rfl #[.slice A0 l.length c0] rfl (by (try simp only [List.map_toArray, List.map_cons, List.map_nil]); first | done | rfl) ?_; (with_reducible refine (sandglasslaw19_few.calls _ A0 c0 l false _ hr0 hc0 hf).mono ?_); rintro e w1 ⟨rfl, hb⟩; refine ⟨_, rfl, ?_⟩; have HB1 := Aside0.mk hb.below; clear hb) | ((with_reducible refine gate_callee (f := 9) rfl ?_); refine goesL_ (some 22) rfl rfl Try.func9 (by kernel_rfl) rfl #[] rfl (by (try simp only [List.map_toArray, List.map_cons, List.map_nil]); first | done | rfl) ?_; (with_reducible refine (awake _).mono ?_); rintro e w2 ⟨rfl, hb⟩; refine ⟨_, rfl, ?_⟩; have HB2 := Aside0.mk (below_step HB1.out hb); clear hb))
  go_ret
  exact ⟨rfl, HB2.out⟩
set_option maxHeartbeats 8000000 in
set_option maxRecDepth 100000 in
theorem WalBegins_off (A0 : Option Addr) (c0 : Nat) (l : List S34) (k : Int) (w : World) (hr0 : Kd.C k34 w A0 l.length l) (hc0 : l.length ≤ c0) (hf : sandglasslaw19_few.f (l.length + 1) l = some true) (hk : k < 0 ∨ 64 < k) :
    Calls Try.prog 4 #[.slice A0 l.length c0, .int .i64 k] w fun e w' => e = .returned (.bool true) ∧ Below w.heap.size w w' := by
  rcases Int.lt_or_le k 0 with h1 | h1
  · have t1 : decide (k < 0) = true := decide_eq_true h1
    go_enter Try.func4, Try.ntmps4
    go_wp2_with (first | ((with_reducible refine gate_callee (f := 8) rfl ?_); refine goesL_ (some 12) rfl rfl Try.func8 (by kernel_rfl) rfl #[.slice A0 l.length c0] rfl (by (try simp only [List.map_toArray, List.map_cons, List.map_nil]); first | done | rfl) ?_; (with_reducible refine (sandglasslaw19_few.calls _ A0 c0 l true _ hr0 hc0 hf).mono ?_); rintro e w1 ⟨rfl, hb⟩; refine ⟨_, rfl, ?_⟩; have HB1 := Aside0.mk hb.below; clear hb) | ((with_reducible refine gate_callee (f := 9) rfl ?_); refine goesL_ (some 22) rfl rfl Try.func9 (by kernel_rfl) rfl #[] rfl (by (try simp only [List.map_toArray, List.map_cons, List.map_nil]); first | done | rfl) ?_; (with_reducible refine (awake _).mono ?_); rintro e w2 ⟨rfl, hb⟩; refine ⟨_, rfl, ?_⟩; have HB2 := Aside0.mk (below_step HB1.out hb); clear hb))
    go_ret
    exact ⟨rfl, HB2.out⟩
  · have t1 : decide (k < 0) = false := decide_eq_false (by omega)
    have t2 : decide (64 < k) = true := decide_eq_true (by omega)
    go_enter Try.func4, Try.ntmps4
    go_wp2_with (first | ((with_reducible refine gate_callee (f := 8) rfl ?_); refine goesL_ (some 12) rfl rfl Try.func8 (by kernel_rfl) rfl #[.slice A0 l.length c0] rfl (by (try simp only [List.map_toArray, List.map_cons, List.map_nil]); first | done | rfl) ?_; (with_reducible refine (sandglasslaw19_few.calls _ A0 c0 l true _ hr0 hc0 hf).mono ?_); rintro e w1 ⟨rfl, hb⟩; refine ⟨_, rfl, ?_⟩; have HB1 := Aside0.mk hb.below; clear hb) | ((with_reducible refine gate_callee (f := 9) rfl ?_); refine goesL_ (some 22) rfl rfl Try.func9 (by kernel_rfl) rfl #[] rfl (by (try simp only [List.map_toArray, List.map_cons, List.map_nil]); first | done | rfl) ?_; (with_reducible refine (awake _).mono ?_); rintro e w2 ⟨rfl, hb⟩; refine ⟨_, rfl, ?_⟩; have HB2 := Aside0.mk (below_step HB1.out hb); clear hb))
    go_ret
    exact ⟨rfl, HB2.out⟩

theorem begin_rows {w : World} {B3 B6 n3 n6 k3 k6 : Nat} {ok3 ok6 : Nat → Prop} {A3 A6 : Option Addr} {RA RB : List By} {n : Nat} (hn : RB = RA.take n)
    (h3 : Kd.string.R 9 w B3 ok3 (.slice A3 n3 k3) (RA.map mk)) (h6 : Kd.string.R 9 w B6 ok6 (.slice A6 n6 k6) (RB.map mk)) (e6 : n6 = RB.length) :
    ∃ a : List ByteArray, a.length = n6 ∧ Kd.string.C w A3 a.length a ∧ Kd.string.C w A6 a.length a := by
  have e : RB.map mk = (RA.map mk).take RB.length := by
    rw [hn, List.length_take, List.map_take]
    by_cases h : n ≤ RA.length
    · rw [Nat.min_eq_left h]
    · rw [Nat.min_eq_right (by omega), List.take_of_length_le (by simp; omega), List.take_of_length_le (by simp)]
  have hl : RB.length ≤ RA.length := by rw [hn, List.length_take]; omega
  refine ⟨RB.map mk, by simp [e6], ?_, C_of_row h6⟩
  rw [e]
  exact C_take (C_of_row h3) (by simpa using hl)

set_option maxHeartbeats 8000000 in
set_option maxRecDepth 100000 in
theorem WalBegins_many (A0 : Option Addr) (c0 : Nat) (l : List S34) (k : Nat) (w : World) (hr0 : Kd.C k34 w A0 l.length l) (hc0 : l.length ≤ c0) (hf : sandglasslaw19_few.f (l.length + 1) l = some true) (hp : fewP l) (RA : List By) (RS : Nat) (hR : doneF l ([], 0) = (RA, RS)) (hk : k ≤ 64) :
    Calls Try.prog 4 #[.slice A0 l.length c0, .int .i64 (k : Int)] w fun e w' => e = .returned (.bool true) ∧ Below w.heap.size w w' := by
  have HP := Aside0.mk hp
  have HR := Aside0.mk hR
  have HK := Aside0.mk hk
  have t1 : decide ((k : Int) < 0) = false := decide_eq_false (by omega)
  have t2 : decide (64 < (k : Int)) = false := decide_eq_false (by omega)
  have t3 : decide (64 < k) = false := decide_eq_false (by omega)
  clear hp hR
  go_enter Try.func4, Try.ntmps4
  go_wp2_with (first | ((with_reducible refine gate_callee (f := 8) rfl ?_); refine goesL_ (some 12) rfl rfl Try.func8 (by kernel_rfl) rfl #[.slice A0 l.length c0] rfl (by (try simp only [List.map_toArray, List.map_cons, List.map_nil]); first | done | rfl) ?_; (with_reducible refine (sandglasslaw19_few.calls _ A0 c0 l true _ hr0 hc0 hf).mono ?_); rintro e w1 ⟨rfl, hb⟩; refine ⟨_, rfl, ?_⟩; have HB1 := Aside0.mk hb.below; clear hb) | ((with_reducible refine gate_callee (f := 20) rfl ?_); refine goesL_ (some 24) rfl rfl Try.func20 (by kernel_rfl) rfl #[.slice A0 l.length c0] rfl (by (try simp only [List.map_toArray, List.map_cons, List.map_nil]); first | done | rfl) ?_; (with_reducible refine (done A0 c0 l _ (Kd.C_below hr0 HB1.out) hc0 HP.out RA RS HR.out).mono ?_); rintro e w2 ⟨a, rfl, L, hb⟩; refine ⟨_, rfl, ?_⟩; have HS := Aside0.mk hb.size; have HL2 := Aside0.mk L; have HB2 := Aside0.mk (below_step HB1.out hb); clear L hb) | ((with_reducible refine gate_callee (f := 18) rfl ?_); refine goesL_ (some 26) rfl rfl Try.func18 (by kernel_rfl) rfl #[.pointer (some ⟨a, 0, none⟩)] rfl (by (try simp only [List.map_toArray, List.map_cons, List.map_nil]); first | done | rfl) ?_; (with_reducible refine (QAllX HL2.out).mono ?_); rintro e w3 ⟨A3, n3, k3, rfl, hn3, hk3, hr3, hb⟩; refine ⟨_, rfl, ?_⟩; have HN3 := Aside0.mk hn3; have HR3 := Aside0.mk hr3; have HS3 := Aside0.mk hb.size; have HB3 := Aside0.mk (below_step HB2.out hb); have HL3 := Aside0.mk ((HL2.out.narrow (ok' := fun k => k < w2.heap.size ∨ w3.heap.size ≤ k) (fun k _ hk => .inl hk)).below hb); clear hb hn3 hr3) | ((with_reducible refine gate_callee (f := 19) rfl ?_); refine goesL_ (some 28) rfl rfl Try.func19 (by kernel_rfl) rfl #[.pointer (some ⟨a, 0, none⟩)] rfl (by (try simp only [List.map_toArray, List.map_cons, List.map_nil]); first | done | rfl) ?_; (with_reducible refine (QSure HL3.out).mono ?_); rintro e w4 ⟨rfl, rfl⟩; refine ⟨_, rfl, ?_⟩))
  go_loopg [8, 9] k (fun kq v8 v9 w' => ∃ i : Nat, v8 = .int .u64 (kk i) ∧ v9 = .int .i64 (i : Int) ∧ Aside0 (i + kq = k) ∧ w' = w4)
  case atStart => exact ⟨0, rfl, rfl, ⟨by omega⟩, rfl⟩
  case round =>
    obtain ⟨i, rfl, rfl, HI, rfl⟩ := hrel
    have hi := HI.out
    by_cases hat : i < k
    · obtain ⟨k1, rfl⟩ : ∃ k1, gk = k1 + 1 := ⟨gk - 1, by omega⟩
      have hlt : decide ((i : Int) < (k : Int)) = true := decide_eq_true (by omega)
      have hlt2 : decide (i < k) = true := decide_eq_true (by omega)
      clear HI
      go_wp2
      go_roundg k1
      case measure => omega
      case rel => exact ⟨i + 1, by rw [kk_next (by omega)], by simp, ⟨by omega⟩, rfl⟩
    · obtain rfl : gk = 0 := by omega
      have hge : decide ((i : Int) < (k : Int)) = false := decide_eq_false (by omega)
      have hge2 : decide (i < k) = false := decide_eq_false (by omega)
      obtain rfl : i = k := by omega
      clear HI
      obtain ⟨nb, hnb, hcb⟩ := crL_begin i hk RA RS HL2.out.2.1
      have HCB := Aside0.mk hcb
      clear hcb
      go_wp2_with (first | ((with_reducible refine gate_callee (f := 13) rfl ?_); refine goesL_ (some 39) rfl rfl Try.func13 (by kernel_rfl) rfl #[.pointer (some ⟨a, 0, none⟩), .int .u64 (kk i)] rfl (by (try simp only [List.map_toArray, List.map_cons, List.map_nil]); first | done | rfl) ?_; (with_reducible refine (QCrash HL3.out (Nat.le_trans HS.out HS3.out) (fun k hk => .inr hk) (kk i)).mono ?_); rintro e w5 ⟨rfl, L, hb, hk⟩; refine ⟨_, rfl, ?_⟩; have HL5 := Aside0.mk L; have HB5 := Aside0.mk (HB3.out.trans (hb.mono HB1.out.size)); have HR5 := Aside0.mk (row_kept HR3.out hk (fun k h1 h2 h3 => by omega)); clear L hb hk) | ((with_reducible refine gate_callee (f := 18) rfl ?_); refine goesL_ (some 41) rfl rfl Try.func18 (by kernel_rfl) rfl #[.pointer (some ⟨a, 0, none⟩)] rfl (by (try simp only [List.map_toArray, List.map_cons, List.map_nil]); first | done | rfl) ?_; (with_reducible refine (QAllX HL5.out).mono ?_); rintro e w6 ⟨A6, n6, k6, rfl, hn6, hk6, hr6, hb⟩; refine ⟨_, rfl, ?_⟩; have HN6 := Aside0.mk hn6; have HR6 := Aside0.mk hr6; have HB6 := Aside0.mk (below_step HB5.out hb); have HL6 : Aside0 (Wq w6 _ _ a (crL (kk i) RA RS) n6) := ⟨(by rw [hn6]; exact HL5.out.below hb)⟩; have HR7 := Aside0.mk (Kd.R_below HR5.out hb); clear hb hn6 hr6; obtain ⟨hm, hm2⟩ := ends HL2.out (kk i) HN3.out HN6.out; obtain ⟨al, ha, ha3, ha6⟩ := begin_rows HCB.out HR7.out HR6.out HN6.out; have hle : n6 ≤ n3 := (by rw [HN6.out, HCB.out, HN3.out, List.length_take]; omega); have s1 : decide ((RS : Int) ≤ (n6 : Int)) = true := decide_eq_true (by omega); have s2 : decide (RS ≤ n6) = true := decide_eq_true (by omega); have s3 : decide ((n6 : Int) ≤ (n3 : Int)) = true := decide_eq_true (by omega); have s4 : decide (n6 ≤ n3) = true := decide_eq_true (by omega); have q1 : n6 ≤ k3 := (by omega); have T3 := Aside0.mk ha3; have T6 := Aside0.mk ha6; have HAL := Aside0.mk ha; clear hm hm2 ha ha3 ha6) | ((refine (TextsEq n6 A6 k6 A3 k3 al _ (by rw [HAL.out, HN6.out]; have := HL6.out.count; rwa [List.length_map] at this) HAL.out T6.out hk6 T3.out q1).mono ?_); rintro e w7 ⟨rfl, hb⟩; have HB7 := Aside0.mk (below_step HB6.out hb); have HL7 := Aside0.mk (HL6.out.below hb); clear hb) | ((refine (QSure HL7.out).mono ?_); rintro e w8 ⟨rfl, rfl⟩) | ((refine (awake _).mono ?_); rintro e w9 ⟨rfl, hb⟩; have HB9 := Aside0.mk (below_step HB7.out hb); clear hb))
      go_ret
      exact ⟨rfl, HB9.out⟩

theorem WalBegins_walk (A0 : Option Addr) (c0 : Nat) (l : List S34) (k : Int) (w : World) (hr0 : Kd.C k34 w A0 l.length l) (hc0 : l.length ≤ c0) (hk : (Lit.int .i64 k).wf = true) :
    Calls Try.prog 4 #[.slice A0 l.length c0, .int .i64 k] w fun e w' => e = .returned (.bool true) ∧ Below w.heap.size w w' := by
  rcases few_f l with ⟨h1, h2⟩ | h1
  · by_cases h3 : k < 0 ∨ 64 < k
    · exact WalBegins_off A0 c0 l k w hr0 hc0 h1 h3
    · obtain ⟨n, rfl⟩ : ∃ n : Nat, k = (n : Int) := ⟨k.toNat, by omega⟩
      exact WalBegins_many A0 c0 l n w hr0 hc0 h1 h2 _ _ rfl (by omega)
  · exact WalBegins_few A0 c0 l k w hr0 hc0 h1
end Go.Proofs.Ytjmdigfinkkelaa.Wal
