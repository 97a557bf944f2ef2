import Derived.Test.YtjmdigfinkkelaaWalK
import Derived.StillTailTactics
namespace Go.Proofs.Ytjmdigfinkkelaa.Wal
open Go.RowKit Go.Proofs.Ytjmdigfinkkelaa.PAll Go.Proofs.YtjmdigfinkkelaaW.PrintWords Go.Proofs.YtjmdigfinkkelaaW.PrintLast Go.Proofs.YtjmdigfinkkelaaW.PrintMore SG Go.Proofs.Ytjmdigfinkkelaa.Fun
set_option linter.unusedVariables false
set_option linter.unusedSimpArgs false

theorem Wl.narrow {w : World} {B : Nat} {ok ok' : Nat → Prop} {a : Nat} {b : List Int} {sy : Int} {all : List ByteArray} {sure : Int} (L : Wl w B ok a b sy all sure) (h : ∀ k, ok k → k < w.heap.size → ok' k) : Wl w B ok' a b sy all sure := by
  obtain ⟨hB, d, v, ha, hr, D⟩ := L
  exact ⟨hB, d, v, ha, Kd.R_mono (Kd.R_bound hr) (fun k hk => h k hk.1 hk.2.2.1), D⟩
theorem Wq.narrow {w : World} {B : Nat} {ok ok' : Nat → Prop} {a : Nat} {all : List By} {sure : Nat} (L : Wq w B ok a all sure) (h : ∀ k, ok k → k < w.heap.size → ok' k) : Wq w B ok' a all sure := ⟨L.1, L.2.1, L.2.2.1, L.2.2.2.narrow h⟩
/-- A row of strings stays where a log is written whose row is another. -/
theorem row_kept {w w' : World} {B : Nat} {ok okr : Nat → Prop} {v : Value} {xs : List ByteArray} (h : Kd.string.R 9 w B okr v xs) (hk : Kept w w' (TW ok w)) (hn : ∀ k, okr k → k < w.heap.size → ¬ ok k) : Kd.string.R 9 w' B okr v xs := by
  refine Kd.R_mono (Kd.R_move (Kd.R_bound h) (fun k h => ?_)) (fun _ h => h.1)
  obtain ⟨ho, _, hlt, q, hq, cells, hc⟩ := h
  have hq9 : q = 9 := by simpa [Kd.string, Kd.scalar] using hq
  subst hq9
  refine hk.2 k hlt ?_
  rintro (⟨cells', q', hc', hq'⟩ | h')
  · rw [hc] at hc'
    injection hc' with hc'
    injection hc' with _ hc'
    subst hc'
    exact absurd hq' (by decide)
  · exact hn k ho hlt h'
theorem C_take {w : World} {A : Option Addr} {n : Nat} {xs : List ByteArray} (h : Kd.string.C w A xs.length xs) (hm : n ≤ xs.length) : Kd.string.C w A (xs.take n).length (xs.take n) := by
  obtain ⟨h1, h2, h3⟩ := h
  refine ⟨rfl, by rw [List.length_take]; omega, fun hn => ?_⟩
  rw [List.length_take] at hn
  obtain ⟨ad, e, h4⟩ := h3 (by omega)
  refine ⟨ad, e, fun j p hj => h4 j p ?_⟩
  obtain ⟨hl, rfl⟩ := List.getElem?_eq_some_iff.1 hj
  rw [List.length_take] at hl
  rw [List.getElem_take]
  exact List.getElem?_eq_getElem _

set_option maxHeartbeats 8000000 in
set_option maxRecDepth 100000 in
theorem WalSure_few (A0 : Option Addr) (c0 : Nat) (l : List S34) (keep : Int) (w : World) (hr0 : Kd.C k34 w A0 l.length l) (hc0 : l.length ≤ c0) (hf : sandglasslaw19_few.f (l.length + 1) l = some false) :
    Calls Try.prog 5 #[.slice A0 l.length c0, .int .u64 keep] w fun e w' => e = .returned (.bool true) ∧ Below w.heap.size w w' := by
  go_enter Try.func5, Try.ntmps5
  go_wp2_with (first | ((with_reducible refine gate_callee (f := 8) rfl ?_); refine goesL_ (some 10) rfl rfl Try.func8 (by kernel_rfl) rfl #[.slice A0 l.length c0] rfl (by (try simp only [List.map_toArray, List.map_cons, List.map_nil]); first | done | rfl) ?_; (with_reducible refine (sandglasslaw19_few.calls _ A0 c0 l false _ hr0 hc0 hf).mono ?_); rintro e w1 ⟨rfl, hb⟩; refine ⟨_, rfl, ?_⟩; have HB1 := Aside0.mk hb.below; clear hb) | ((with_reducible refine gate_callee (f := 9) rfl ?_); refine goesL_ (some 12) rfl rfl Try.func9 (by kernel_rfl) rfl #[] rfl (by (try simp only [List.map_toArray, List.map_cons, List.map_nil]); first | done | rfl) ?_; (with_reducible refine (awake _).mono ?_); rintro e w2 ⟨rfl, hb⟩; refine ⟨_, rfl, ?_⟩; have HB2 := Aside0.mk (below_step HB1.out hb); clear hb))
  go_ret
  exact ⟨rfl, HB2.out⟩

theorem C_of_row {w : World} {B n c : Nat} {ok : Nat → Prop} {A : Option Addr} {xs : List ByteArray} (h : Kd.string.R 9 w B ok (.slice A n c) xs) : Kd.string.C w A xs.length xs := by
  obtain ⟨rfl, _, h3⟩ := Kd.R_reads' h
  exact h3
theorem ends {w : World} {B a : Nat} {ok : Nat → Prop} {RA : List By} {RS : Nat} (L : Wq w B ok a RA RS) (keep : Int) {n m : Nat} (h3 : n = RA.length) (h6 : m = (crL keep RA RS).length) : RS ≤ n ∧ RS ≤ m := by
  obtain ⟨r, hr⟩ := crL_sure keep RA RS L.2.1
  have := L.1
  rw [hr, List.length_append, List.length_take] at h6
  omega
theorem sure_rows {w : World} {B3 B6 n3 n6 k3 k6 : Nat} {ok3 ok6 : Nat → Prop} {A3 A6 : Option Addr} {RA : List By} {RS : Nat} (keep : Int) (hl : ∀ x ∈ RA, x.length ≤ 4096) (hs : RS ≤ RA.length)
    (h3 : Kd.string.R 9 w B3 ok3 (.slice A3 n3 k3) (RA.map mk)) (h6 : Kd.string.R 9 w B6 ok6 (.slice A6 n6 k6) ((crL keep RA RS).map mk)) :
    ∃ a : List ByteArray, a.length = RS ∧ Kd.string.C w A3 a.length a ∧ Kd.string.C w A6 a.length a := by
  obtain ⟨r, hr⟩ := crL_sure keep RA RS hl
  refine ⟨(RA.map mk).take RS, by simp [hs], C_take (C_of_row h3) (by simpa using hs), ?_⟩
  have e : ((crL keep RA RS).map mk).take RS = (RA.map mk).take RS := by
    rw [hr, List.map_append, List.map_take, List.take_append_of_le_length (by simp [hs]), List.take_take, Nat.min_self]
  rw [← e]
  exact C_take (C_of_row h6) (by rw [hr]; simp [hs])
/-- Two rows that are the same. -/
theorem TextsEq (n : Nat) (A0 : Option Addr) (c0 : Nat) (A1 : Option Addr) (c1 : Nat) (a : List ByteArray) (w : World) (hl : a.length ≤ 100000) (ha : a.length = n) (h0 : Kd.string.C w A0 a.length a) (hc0 : n ≤ c0) (h1 : Kd.string.C w A1 a.length a) (hc1 : n ≤ c1) :
    Calls Try.prog 17 #[.slice A0 n c0, .slice A1 n c1] w fun e w' => e = .returned (.bool true) ∧ Below w.heap.size w w' := by
  subst ha
  obtain ⟨K, hK⟩ := Ev.rounds (E_Texts a (by omega))
  refine (sandglassref01_Texts.calls K A0 c0 a A1 c1 a true w h0 hc0 h1 hc1 hK).mono ?_
  rintro e w' ⟨rfl, h⟩
  exact ⟨rfl, h.below⟩
/-- All records, as a row. -/
theorem QAllX {w : World} {B : Nat} {ok : Nat → Prop} {a : Nat} {all : List By} {sure : Nat} (L : Wq w B ok a all sure) : Calls Try.prog 18 #[.pointer (some ⟨a, 0, none⟩)] w fun e w' => ∃ A n c, e = .returned (.slice A n c) ∧ n = all.length ∧ n ≤ c ∧ Kd.string.R 9 w' w.heap.size (fun k => w.heap.size ≤ k) (.slice A n c) (all.map mk) ∧ Below w.heap.size w w' := by
  refine (QAll L).mono ?_
  rintro e w' ⟨v, rfl, hr, hb⟩
  obtain ⟨A, c, rfl, hc, hC⟩ := Kd.R_reads hr
  exact ⟨A, _, c, rfl, List.length_map _, hc, hr, hb⟩
set_option maxHeartbeats 8000000 in
set_option maxRecDepth 100000 in
theorem WalSure_many (A0 : Option Addr) (c0 : Nat) (l : List S34) (keep : Int) (w : World) (hr0 : Kd.C k34 w A0 l.length l) (hc0 : l.length ≤ c0) (hf : sandglasslaw19_few.f (l.length + 1) l = some true) (hp : fewP l) (RA : List By) (RS : Nat) (hR : doneF l ([], 0) = (RA, RS)) :
    Calls Try.prog 5 #[.slice A0 l.length c0, .int .u64 keep] w fun e w' => e = .returned (.bool true) ∧ Below w.heap.size w w' := by
  have HP := Aside0.mk hp
  have HR := Aside0.mk hR
  clear hp hR
  go_enter Try.func5, Try.ntmps5
  go_wp2_with (first | ((with_reducible refine gate_callee (f := 8) rfl ?_); refine goesL_ (some 10) rfl rfl Try.func8 (by kernel_rfl) rfl #[.slice A0 l.length c0] rfl (by (try simp only [List.map_toArray, List.map_cons, List.map_nil]); first | done | rfl) ?_; (with_reducible refine (sandglasslaw19_few.calls _ A0 c0 l true _ hr0 hc0 hf).mono ?_); rintro e w1 ⟨rfl, hb⟩; refine ⟨_, rfl, ?_⟩; have HB1 := Aside0.mk hb.below; clear hb) | ((with_reducible refine gate_callee (f := 20) rfl ?_); refine goesL_ (some 14) rfl rfl Try.func20 (by kernel_rfl) rfl #[.slice A0 l.length c0] rfl (by (try simp only [List.map_toArray, List.map_cons, List.map_nil]); first | done | rfl) ?_; (with_reducible refine (done A0 c0 l _ (Kd.C_below hr0 HB1.out) hc0 HP.out RA RS HR.out).mono ?_); rintro e w2 ⟨a, rfl, L, hb⟩; refine ⟨_, rfl, ?_⟩; have HS := Aside0.mk hb.size; have HL2 := Aside0.mk L; have HB2 := Aside0.mk (below_step HB1.out hb); clear L hb) | ((with_reducible refine gate_callee (f := 18) rfl ?_); refine goesL_ (some 16) rfl rfl Try.func18 (by kernel_rfl) rfl #[.pointer (some ⟨a, 0, none⟩)] rfl (by (try simp only [List.map_toArray, List.map_cons, List.map_nil]); first | done | rfl) ?_; (with_reducible refine (QAllX HL2.out).mono ?_); rintro e w3 ⟨A3, n3, k3, rfl, hn3, hk3, hr3, hb⟩; refine ⟨_, rfl, ?_⟩; have HN3 := Aside0.mk hn3; have HR3 := Aside0.mk hr3; have HS3 := Aside0.mk hb.size; have HB3 := Aside0.mk (below_step HB2.out hb); have HL3 := Aside0.mk ((HL2.out.narrow (ok' := fun k => k < w2.heap.size ∨ w3.heap.size ≤ k) (fun k _ hk => .inl hk)).below hb); clear hb hn3 hr3) | ((with_reducible refine gate_callee (f := 19) rfl ?_); refine goesL_ (some 18) rfl rfl Try.func19 (by kernel_rfl) rfl #[.pointer (some ⟨a, 0, none⟩)] rfl (by (try simp only [List.map_toArray, List.map_cons, List.map_nil]); first | done | rfl) ?_; (with_reducible refine (QSure HL3.out).mono ?_); rintro e w4 ⟨rfl, rfl⟩; refine ⟨_, rfl, ?_⟩) | ((with_reducible refine gate_callee (f := 13) rfl ?_); refine goesL_ (some 21) rfl rfl Try.func13 (by kernel_rfl) rfl #[.pointer (some ⟨a, 0, none⟩), .int .u64 keep] rfl (by (try simp only [List.map_toArray, List.map_cons, List.map_nil]); first | done | rfl) ?_; (with_reducible refine (QCrash HL3.out (Nat.le_trans HS.out HS3.out) (fun k hk => .inr hk) keep).mono ?_); rintro e w5 ⟨rfl, L, hb, hk⟩; refine ⟨_, rfl, ?_⟩; have HL5 := Aside0.mk L; have HB5 := Aside0.mk (HB3.out.trans (hb.mono HB1.out.size)); have HR5 := Aside0.mk (row_kept HR3.out hk (fun k h1 h2 h3 => by omega)); clear L hb hk) | ((with_reducible refine gate_callee (f := 18) rfl ?_); refine goesL_ (some 23) rfl rfl Try.func18 (by kernel_rfl) rfl #[.pointer (some ⟨a, 0, none⟩)] rfl (by (try simp only [List.map_toArray, List.map_cons, List.map_nil]); first | done | rfl) ?_; (with_reducible refine (QAllX HL5.out).mono ?_); rintro e w6 ⟨A6, n6, k6, rfl, hn6, hk6, hr6, hb⟩; refine ⟨_, rfl, ?_⟩; have HN6 := Aside0.mk hn6; have HR6 := Aside0.mk hr6; have HB6 := Aside0.mk (below_step HB5.out hb); have HR7 := Aside0.mk (Kd.R_below HR5.out hb); clear hb hn6 hr6))
  obtain ⟨hm, hm2⟩ := ends HL2.out keep HN3.out HN6.out
  obtain ⟨al, ha, ha3, ha6⟩ := sure_rows keep HL2.out.2.1 HL2.out.1 HR7.out HR6.out
  have hl6 : RS ≤ 100000 := by have := HL2.out.count; have := HL2.out.1; rw [List.length_map] at *; omega
  have t1 : decide ((RS : Int) ≤ (n3 : Int)) = true := decide_eq_true (by omega)
  have t2 : decide ((n6 : Int) ≥ (RS : Int)) = true := decide_eq_true (by omega)
  have t3 : decide (RS ≤ n3) = true := decide_eq_true (by omega)
  have t4 : decide ((RS : Int) ≤ (n6 : Int)) = true := decide_eq_true (by omega)
  have t5 : decide (RS ≤ n6) = true := decide_eq_true (by omega)
  have q1 : RS ≤ k3 := by omega
  have q2 : RS ≤ k6 := by omega
  have T3 := Aside0.mk (Kd.C_below ha3 (below_drew (Below.refl _ _)))
  have T6 := Aside0.mk (Kd.C_below ha6 (below_drew (Below.refl _ _)))
  have HAL := Aside0.mk ha
  clear hm hm2 ha ha3 ha6
  go_still_tail 17, (by kernel_rfl)
  go_wp2_with (first | ((refine (TextsEq RS A6 k6 A3 k3 al _ (by rw [HAL.out]; exact hl6) HAL.out T6.out q2 T3.out q1).mono ?_); rintro e w7 ⟨rfl, hb⟩; have HB7 := Aside0.mk (below_step (below_drew HB6.out) hb); clear hb) | ((refine (awake _).mono ?_); rintro e w8 ⟨rfl, hb⟩; have HB8 := Aside0.mk (below_step HB7.out hb); clear hb))
  go_ret
  exact ⟨rfl, HB8.out⟩
end Go.Proofs.Ytjmdigfinkkelaa.Wal
