import Derived.Test.YtjmdigfinkkelaaWalM
namespace Go.Proofs.Ytjmdigfinkkelaa.Wal
open Go.RowKit Go.Proofs.Ytjmdigfinkkelaa.PAll Go.Proofs.YtjmdigfinkkelaaW.PrintWords Go.Proofs.YtjmdigfinkkelaaW.PrintLast Go.Proofs.YtjmdigfinkkelaaW.PrintMore SG Go.Proofs.Ytjmdigfinkkelaa.Fun
set_option linter.unusedVariables false
set_option linter.unusedSimpArgs false

/-- Where all is sure a crash takes nothing. -/
theorem crL_all (keep : Int) (all : List By) (h : ∀ x ∈ all, x.length ≤ 4096) : crL keep all all.length = all := by
  obtain ⟨s1, s2, s3⟩ := crB_spec keep (flat all) (flat (all.take all.length)).length (flat_take_le all _)
  rw [List.take_length] at s1 s2 s3
  have e : crB keep (flat all) (flat all).length = flat all := by
    have h1 : (crB keep (flat all) (flat all).length).take (flat all).length = crB keep (flat all) (flat all).length := List.take_of_length_le s2
    rw [h1, List.take_length] at s3
    exact s3
  unfold crL
  rw [List.take_length, e]
  have := pre_append all h []
  rw [List.append_nil] at this
  rw [this, pre_other (by decide), List.append_nil]

/-- Two rows that are the same. -/
theorem TextsEq2 (n m : Nat) (A0 : Option Addr) (c0 : Nat) (A1 : Option Addr) (c1 : Nat) (a : List ByteArray) (w : World) (hl : a.length ≤ 100000) (ha : a.length = n) (hm : a.length = m) (h0 : Kd.string.C w A0 a.length a) (hc0 : n ≤ c0) (h1 : Kd.string.C w A1 a.length a) (hc1 : m ≤ c1) :
    Calls Try.prog 17 #[.slice A0 n c0, .slice A1 m c1] w fun e w' => e = .returned (.bool true) ∧ Below w.heap.size w w' := by
  subst ha
  subst hm
  exact TextsEq _ A0 c0 A1 c1 a w hl rfl h0 hc0 h1 hc1
theorem C_of_rown {w : World} {B n c : Nat} {ok : Nat → Prop} {A : Option Addr} {xs : List ByteArray} (h : Kd.string.R 9 w B ok (.slice A n c) xs) : Kd.string.C w A n xs := by
  obtain ⟨rfl, _, h3⟩ := Kd.R_reads' h
  exact h3
theorem row_bound {w : World} {B : Nat} {okr : Nat → Prop} {v : Value} {xs : List ByteArray} (h : Kd.string.R 9 w B okr v xs) : Kd.string.R 9 w B (fun k => okr k ∧ k < w.heap.size) v xs := Kd.R_mono (Kd.R_bound h) (fun k hk => ⟨hk.1, hk.2.2.1⟩)

set_option maxHeartbeats 8000000 in
set_option maxRecDepth 100000 in
theorem WalGoesOn_few (A0 : Option Addr) (c0 : Nat) (l : List S34) (s : ByteArray) (x y : Int) (w : World) (hr0 : Kd.C k34 w A0 l.length l) (hc0 : l.length ≤ c0) (hf : sandglasslaw19_few.f (l.length + 1) l = some false) :
    Calls Try.prog 6 #[.slice A0 l.length c0, .string s, .agg #[.int .u64 x, .int .u64 y]] w fun e w' => e = .returned (.bool true) ∧ Below w.heap.size w w' := by
  go_enter Try.func6, Try.ntmps6
  go_wp2_with (first | ((with_reducible refine gate_dst (N := 5) rfl ?_); refine box_event ?hg (N := 5) ?hd (cs := #[.int .u64 x, .int .u64 y]) (t := 49) ?hr ?_; (case hd => rfl); (case hg => rfl); (case hr => first | (go_simp; done) | (go_simp; rfl)); intro g hg w0 hbox hb; have HB0 := Aside0.mk hb; clear hg hbox hb) | ((with_reducible refine gate_callee (f := 8) rfl ?_); refine goesL_ (some 12) rfl rfl Try.func8 (by kernel_rfl) rfl #[.slice A0 l.length c0] rfl (by (try simp only [List.map_toArray, List.map_cons, List.map_nil]); first | done | rfl) ?_; (with_reducible refine (sandglasslaw19_few.calls _ A0 c0 l false _ (Kd.C_below hr0 HB0.out) hc0 hf).mono ?_); rintro e w1 ⟨rfl, hb⟩; refine ⟨_, rfl, ?_⟩; have HB1 := Aside0.mk (below_step HB0.out hb.below); clear hb) | ((with_reducible refine gate_callee (f := 9) rfl ?_); refine goesL_ (some 19) rfl rfl Try.func9 (by kernel_rfl) rfl #[] rfl (by (try simp only [List.map_toArray, List.map_cons, List.map_nil]); first | done | rfl) ?_; (with_reducible refine (awake _).mono ?_); rintro e w2 ⟨rfl, hb⟩; refine ⟨_, rfl, ?_⟩; have HB2 := Aside0.mk (below_step HB1.out hb); clear hb))
  go_ret
  exact ⟨rfl, HB2.out⟩

set_option maxHeartbeats 8000000 in
set_option maxRecDepth 100000 in
theorem WalGoesOn_long (A0 : Option Addr) (c0 : Nat) (l : List S34) (s : ByteArray) (x y : Int) (w : World) (hr0 : Kd.C k34 w A0 l.length l) (hc0 : l.length ≤ c0) (hf : sandglasslaw19_few.f (l.length + 1) l = some true) (hs : 5000 < s.size) :
    Calls Try.prog 6 #[.slice A0 l.length c0, .string s, .agg #[.int .u64 x, .int .u64 y]] w fun e w' => e = .returned (.bool true) ∧ Below w.heap.size w w' := by
  have t1 : decide (5000 < s.size) = true := decide_eq_true hs
  have t2 : decide (5000 < (s.size : Int)) = true := decide_eq_true (by omega)
  go_enter Try.func6, Try.ntmps6
  go_wp2_with (first | ((with_reducible refine gate_dst (N := 5) rfl ?_); refine box_event ?hg (N := 5) ?hd (cs := #[.int .u64 x, .int .u64 y]) (t := 49) ?hr ?_; (case hd => rfl); (case hg => rfl); (case hr => first | (go_simp; done) | (go_simp; rfl)); intro g hg w0 hbox hb; have HB0 := Aside0.mk hb; clear hg hbox hb) | ((with_reducible refine gate_callee (f := 8) rfl ?_); refine goesL_ (some 12) rfl rfl Try.func8 (by kernel_rfl) rfl #[.slice A0 l.length c0] rfl (by (try simp only [List.map_toArray, List.map_cons, List.map_nil]); first | done | rfl) ?_; (with_reducible refine (sandglasslaw19_few.calls _ A0 c0 l true _ (Kd.C_below hr0 HB0.out) hc0 hf).mono ?_); rintro e w1 ⟨rfl, hb⟩; refine ⟨_, rfl, ?_⟩; have HB1 := Aside0.mk (below_step HB0.out hb.below); clear hb) | ((with_reducible refine gate_callee (f := 9) rfl ?_); refine goesL_ (some 19) rfl rfl Try.func9 (by kernel_rfl) rfl #[] rfl (by (try simp only [List.map_toArray, List.map_cons, List.map_nil]); first | done | rfl) ?_; (with_reducible refine (awake _).mono ?_); rintro e w2 ⟨rfl, hb⟩; refine ⟨_, rfl, ?_⟩; have HB2 := Aside0.mk (below_step HB1.out hb); clear hb))
  go_ret
  exact ⟨rfl, HB2.out⟩

set_option maxHeartbeats 8000000 in
set_option maxRecDepth 100000 in
theorem WalGoesOn_err (A0 : Option Addr) (c0 : Nat) (l : List S34) (s : By) (x y : Int) (w : World) (hr0 : Kd.C k34 w A0 l.length l) (hc0 : l.length ≤ c0) (hf : sandglasslaw19_few.f (l.length + 1) l = some true) (hp : fewP l) (hs : s.length ≤ 5000) (RA : List By) (RS : Nat) (hR : doneF l ([], 0) = (RA, RS))
    (e1 : Int) (he : e1 = 2 ∨ e1 = 7) (hE : appE (crL x RA RS) s = e1) :
    Calls Try.prog 6 #[.slice A0 l.length c0, .string (mk s), .agg #[.int .u64 x, .int .u64 y]] w fun e w' => e = .returned (.bool true) ∧ Below w.heap.size w w' := by
  have t1 : decide (5000 < (mk s).size) = false := decide_eq_false (by rw [mk_size]; omega)
  have t2 : decide (5000 < ((mk s).size : Int)) = false := decide_eq_false (by rw [mk_size]; omega)
  have HP := Aside0.mk hp
  have HR := Aside0.mk hR
  have hA : appL (crL x RA RS) s = crL x RA RS := by unfold appL; rw [hE, if_neg (by omega)]
  have HE := Aside0.mk hE
  have HA := Aside0.mk hA
  have HSL := Aside0.mk hs
  clear hp hR hE hA hs
  rcases he with rfl | rfl
  all_goals
    go_enter Try.func6, Try.ntmps6
    go_wp2_with (first | ((with_reducible refine gate_dst (N := 5) rfl ?_); refine box_event ?hg (N := 5) ?hd (cs := #[.int .u64 x, .int .u64 y]) (t := 49) ?hr ?_; (case hd => rfl); (case hg => rfl); (case hr => first | (go_simp; done) | (go_simp; rfl)); intro g hg w0 hbox hb; have HB0 := Aside0.mk hb; have HG := Aside0.mk hbox; clear hg hbox hb) | ((with_reducible refine gate_callee (f := 8) rfl ?_); refine goesL_ (some 12) rfl rfl Try.func8 (by kernel_rfl) rfl #[.slice A0 l.length c0] rfl (by (try simp only [List.map_toArray, List.map_cons, List.map_nil]); first | done | rfl) ?_; (with_reducible refine (sandglasslaw19_few.calls _ A0 c0 l true _ (Kd.C_below hr0 HB0.out) hc0 hf).mono ?_); rintro e w1 ⟨rfl, hb⟩; refine ⟨_, rfl, ?_⟩; have HC1 := Aside0.mk hb.below; have HB1 := Aside0.mk (below_step HB0.out hb.below); clear hb) | ((with_reducible refine gate_callee (f := 20) rfl ?_); refine goesL_ (some 21) rfl rfl Try.func20 (by kernel_rfl) rfl #[.slice A0 l.length c0] rfl (by (try simp only [List.map_toArray, List.map_cons, List.map_nil]); first | done | rfl) ?_; (with_reducible refine (done A0 c0 l _ (Kd.C_below hr0 HB1.out) hc0 HP.out RA RS HR.out).mono ?_); rintro e w2 ⟨a, rfl, L, hb⟩; refine ⟨_, rfl, ?_⟩; have HD2 := Aside0.mk hb; have HL2 := Aside0.mk L; have HB2 := Aside0.mk (below_step HB1.out hb); have d0 : w2.cell? ⟨g, 0, none⟩ = some (.int .u64 x) := (blk_cell (blk_below HG.out (below_step HC1.out hb)) 0).trans rfl; clear L hb) | ((with_reducible refine gate_callee (f := 13) rfl ?_); refine goesL_ (some 25) rfl rfl Try.func13 (by kernel_rfl) rfl #[.pointer (some ⟨a, 0, none⟩), .int .u64 x] rfl (by (try simp only [List.map_toArray, List.map_cons, List.map_nil]); first | done | rfl) ?_; (with_reducible refine (QCrash HL2.out HD2.out.size (fun k hk => Nat.le_trans HD2.out.size hk) x).mono ?_); rintro e w3 ⟨rfl, L, hb, hk⟩; refine ⟨_, rfl, ?_⟩; have HL3 := Aside0.mk L; have HD3 := Aside0.mk (HD2.out.trans hb); have HB3 := Aside0.mk (HB2.out.trans (hb.mono HB1.out.size)); clear L hb hk) | ((with_reducible refine gate_callee (f := 18) rfl ?_); refine goesL_ (some 27) rfl rfl Try.func18 (by kernel_rfl) rfl #[.pointer (some ⟨a, 0, none⟩)] rfl (by (try simp only [List.map_toArray, List.map_cons, List.map_nil]); first | done | rfl) ?_; (with_reducible refine (QAllX HL3.out).mono ?_); rintro e w4 ⟨A4, n4, k4, rfl, hn4, hk4, hr4, hb⟩; refine ⟨_, rfl, ?_⟩; have HN4 := Aside0.mk hn4; have HR4 := Aside0.mk (row_bound hr4); have HS4 := Aside0.mk hb.size; have HD4 := Aside0.mk (HD3.out.trans (hb.mono HD3.out.size)); have HB4 := Aside0.mk (below_step HB3.out hb); have HL4 := Aside0.mk ((HL3.out.narrow (ok' := fun k => k < w3.heap.size ∨ w4.heap.size ≤ k) (fun k _ hk => .inl hk)).below hb); clear hb hn4 hr4) | ((with_reducible refine gate_callee (f := 16) rfl ?_); refine goesL_ (some 30) rfl rfl Try.func16 (by kernel_rfl) rfl #[.pointer (some ⟨a, 0, none⟩), .string (mk s)] rfl (by (try simp only [List.map_toArray, List.map_cons, List.map_nil]); first | done | rfl) ?_; (with_reducible refine (QAppend HL4.out HD4.out.size (fun k hk => .inr hk) s (by have := HSL.out; omega)).mono ?_); rintro e w5 ⟨rfl, L, hb, hk⟩; refine ⟨_, rfl, ?_⟩; rw [HE.out]; rw [HA.out] at L; have HL5 := Aside0.mk L; have HS5 := Aside0.mk hk.1; have HD5 := Aside0.mk (HD4.out.trans hb); have HB5 := Aside0.mk (HB4.out.trans (hb.mono HB1.out.size)); have HR5 := Aside0.mk (row_kept HR4.out hk (fun k h1 h2 h3 => by omega)); clear L hb hk) | ((with_reducible refine gate_callee (f := 11) rfl ?_); refine goesL_ (some 32) rfl rfl Try.func11 (by kernel_rfl) rfl #[.pointer (some ⟨a, 0, none⟩)] rfl (by (try simp only [List.map_toArray, List.map_cons, List.map_nil]); first | done | rfl) ?_; (with_reducible refine (QSync HL5.out HD5.out.size).mono ?_); rintro e w6 ⟨rfl, L, hb, hk⟩; refine ⟨_, rfl, ?_⟩; have HL6 := Aside0.mk L; have HS6 := Aside0.mk (Nat.le_trans HS5.out hk.1); have HD6 := Aside0.mk (HD5.out.trans hb); have HB6 := Aside0.mk (HB5.out.trans (hb.mono HB1.out.size)); have HR6 := Aside0.mk (row_kept HR5.out hk (fun k h1 h2 h3 => by omega)); have d1 : w6.cell? ⟨g, 1, none⟩ = some (.int .u64 y) := (blk_cell (blk_below HG.out (below_step HC1.out (HD5.out.trans hb))) 1).trans rfl; clear L hb hk) | ((with_reducible refine gate_callee (f := 13) rfl ?_); refine goesL_ (some 36) rfl rfl Try.func13 (by kernel_rfl) rfl #[.pointer (some ⟨a, 0, none⟩), .int .u64 y] rfl (by (try simp only [List.map_toArray, List.map_cons, List.map_nil]); first | done | rfl) ?_; (with_reducible refine (QCrash HL6.out HD6.out.size (fun k hk => .inr (Nat.le_trans HS6.out hk)) y).mono ?_); rintro e w7 ⟨rfl, L, hb, hk⟩; refine ⟨_, rfl, ?_⟩; rw [crL_all y _ HL6.out.2.1] at L; have HL7 := Aside0.mk L; have HB7 := Aside0.mk (HB6.out.trans (hb.mono HB1.out.size)); have HR7 := Aside0.mk (row_kept HR6.out hk (fun k h1 h2 h3 => by omega)); clear L hb hk) | ((with_reducible refine gate_callee (f := 18) rfl ?_); refine goesL_ (some 46) rfl rfl Try.func18 (by kernel_rfl) rfl #[.pointer (some ⟨a, 0, none⟩)] rfl (by (try simp only [List.map_toArray, List.map_cons, List.map_nil]); first | done | rfl) ?_; (with_reducible refine (QAllX HL7.out).mono ?_); rintro e w8 ⟨A8, n8, k8, rfl, hn8, hk8, hr8, hb⟩; refine ⟨_, rfl, ?_⟩; have HN8 := Aside0.mk hn8; have HB8 := Aside0.mk (below_step HB7.out hb); have T4 := Aside0.mk (C_of_row (Kd.R_below HR7.out hb)); have T8 := Aside0.mk (C_of_row hr8); clear hb hn8 hr8) | ((with_reducible refine gate_callee (f := 17) rfl ?_); refine goesL_ (some 48) rfl rfl Try.func17 (by kernel_rfl) rfl #[.slice A8 n8 k8, .slice A4 n4 k4] rfl (by (try simp only [List.map_toArray, List.map_cons, List.map_nil]); first | done | rfl) ?_; (with_reducible refine (TextsEq2 n8 n4 A8 k8 A4 k4 _ _ HL7.out.count (by rw [List.length_map, HN8.out]) (by rw [List.length_map, HN4.out]) T8.out hk8 T4.out hk4).mono ?_); rintro e w9 ⟨rfl, hb⟩; refine ⟨_, rfl, ?_⟩; have HB9 := Aside0.mk (below_step HB8.out hb); clear hb) | ((refine (awake _).mono ?_); rintro e w10 ⟨rfl, hb⟩; have HB10 := Aside0.mk (below_step HB9.out hb); clear hb))
    go_ret
    exact ⟨rfl, HB10.out⟩
set_option maxHeartbeats 8000000 in
set_option maxRecDepth 100000 in
theorem WalGoesOn_ok (A0 : Option Addr) (c0 : Nat) (l : List S34) (s : By) (x y : Int) (w : World) (hr0 : Kd.C k34 w A0 l.length l) (hc0 : l.length ≤ c0) (hf : sandglasslaw19_few.f (l.length + 1) l = some true) (hp : fewP l) (hs : s.length ≤ 5000) (RA : List By) (RS : Nat) (hR : doneF l ([], 0) = (RA, RS))
    (hE : appE (crL x RA RS) s = 0) :
    Calls Try.prog 6 #[.slice A0 l.length c0, .string (mk s), .agg #[.int .u64 x, .int .u64 y]] w fun e w' => e = .returned (.bool true) ∧ Below w.heap.size w w' := by
  have t1 : decide (5000 < (mk s).size) = false := decide_eq_false (by rw [mk_size]; omega)
  have t2 : decide (5000 < ((mk s).size : Int)) = false := decide_eq_false (by rw [mk_size]; omega)
  have HP := Aside0.mk hp
  have HR := Aside0.mk hR
  have hA : appL (crL x RA RS) s = crL x RA RS ++ [s] := by unfold appL; rw [hE, if_pos rfl]
  have HE := Aside0.mk hE
  have HA := Aside0.mk hA
  have HSL := Aside0.mk hs
  clear hp hR hE hA hs
  go_enter Try.func6, Try.ntmps6
  go_wp2_with (first | ((with_reducible refine gate_dst (N := 5) rfl ?_); refine box_event ?hg (N := 5) ?hd (cs := #[.int .u64 x, .int .u64 y]) (t := 49) ?hr ?_; (case hd => rfl); (case hg => rfl); (case hr => first | (go_simp; done) | (go_simp; rfl)); intro g hg w0 hbox hb; have HB0 := Aside0.mk hb; have HG := Aside0.mk hbox; clear hg hbox hb) | ((with_reducible refine gate_callee (f := 8) rfl ?_); refine goesL_ (some 12) rfl rfl Try.func8 (by kernel_rfl) rfl #[.slice A0 l.length c0] rfl (by (try simp only [List.map_toArray, List.map_cons, List.map_nil]); first | done | rfl) ?_; (with_reducible refine (sandglasslaw19_few.calls _ A0 c0 l true _ (Kd.C_below hr0 HB0.out) hc0 hf).mono ?_); rintro e w1 ⟨rfl, hb⟩; refine ⟨_, rfl, ?_⟩; have HC1 := Aside0.mk hb.below; have HB1 := Aside0.mk (below_step HB0.out hb.below); clear hb) | ((with_reducible refine gate_callee (f := 20) rfl ?_); refine goesL_ (some 21) rfl rfl Try.func20 (by kernel_rfl) rfl #[.slice A0 l.length c0] rfl (by (try simp only [List.map_toArray, List.map_cons, List.map_nil]); first | done | rfl) ?_; (with_reducible refine (done A0 c0 l _ (Kd.C_below hr0 HB1.out) hc0 HP.out RA RS HR.out).mono ?_); rintro e w2 ⟨a, rfl, L, hb⟩; refine ⟨_, rfl, ?_⟩; have HD2 := Aside0.mk hb; have HL2 := Aside0.mk L; have HB2 := Aside0.mk (below_step HB1.out hb); have d0 : w2.cell? ⟨g, 0, none⟩ = some (.int .u64 x) := (blk_cell (blk_below HG.out (below_step HC1.out hb)) 0).trans rfl; clear L hb) | ((with_reducible refine gate_callee (f := 13) rfl ?_); refine goesL_ (some 25) rfl rfl Try.func13 (by kernel_rfl) rfl #[.pointer (some ⟨a, 0, none⟩), .int .u64 x] rfl (by (try simp only [List.map_toArray, List.map_cons, List.map_nil]); first | done | rfl) ?_; (with_reducible refine (QCrash HL2.out HD2.out.size (fun k hk => Nat.le_trans HD2.out.size hk) x).mono ?_); rintro e w3 ⟨rfl, L, hb, hk⟩; refine ⟨_, rfl, ?_⟩; have HL3 := Aside0.mk L; have HD3 := Aside0.mk (HD2.out.trans hb); have HB3 := Aside0.mk (HB2.out.trans (hb.mono HB1.out.size)); clear L hb hk) | ((with_reducible refine gate_callee (f := 18) rfl ?_); refine goesL_ (some 27) rfl rfl Try.func18 (by kernel_rfl) rfl #[.pointer (some ⟨a, 0, none⟩)] rfl (by (try simp only [List.map_toArray, List.map_cons, List.map_nil]); first | done | rfl) ?_; (with_reducible refine (QAllX HL3.out).mono ?_); rintro e w4 ⟨A4, n4, k4, rfl, hn4, hk4, hr4, hb⟩; refine ⟨_, rfl, ?_⟩; have HN4 := Aside0.mk hn4; have HR4 := Aside0.mk (row_bound hr4); have HS4 := Aside0.mk hb.size; have HD4 := Aside0.mk (HD3.out.trans (hb.mono HD3.out.size)); have HB4 := Aside0.mk (below_step HB3.out hb); have HL4 := Aside0.mk ((HL3.out.narrow (ok' := fun k => k < w3.heap.size ∨ w4.heap.size ≤ k) (fun k _ hk => .inl hk)).below hb); clear hb hn4 hr4) | ((with_reducible refine gate_callee (f := 16) rfl ?_); refine goesL_ (some 30) rfl rfl Try.func16 (by kernel_rfl) rfl #[.pointer (some ⟨a, 0, none⟩), .string (mk s)] rfl (by (try simp only [List.map_toArray, List.map_cons, List.map_nil]); first | done | rfl) ?_; (with_reducible refine (QAppend HL4.out HD4.out.size (fun k hk => .inr hk) s (by have := HSL.out; omega)).mono ?_); rintro e w5 ⟨rfl, L, hb, hk⟩; refine ⟨_, rfl, ?_⟩; rw [HE.out]; rw [HA.out] at L; have HL5 := Aside0.mk L; have HS5 := Aside0.mk hk.1; have HD5 := Aside0.mk (HD4.out.trans hb); have HB5 := Aside0.mk (HB4.out.trans (hb.mono HB1.out.size)); have HR5 := Aside0.mk (row_kept HR4.out hk (fun k h1 h2 h3 => by omega)); clear L hb hk) | ((with_reducible refine gate_callee (f := 11) rfl ?_); refine goesL_ (some 32) rfl rfl Try.func11 (by kernel_rfl) rfl #[.pointer (some ⟨a, 0, none⟩)] rfl (by (try simp only [List.map_toArray, List.map_cons, List.map_nil]); first | done | rfl) ?_; (with_reducible refine (QSync HL5.out HD5.out.size).mono ?_); rintro e w6 ⟨rfl, L, hb, hk⟩; refine ⟨_, rfl, ?_⟩; have HL6 := Aside0.mk L; have HS6 := Aside0.mk (Nat.le_trans HS5.out hk.1); have HD6 := Aside0.mk (HD5.out.trans hb); have HB6 := Aside0.mk (HB5.out.trans (hb.mono HB1.out.size)); have HR6 := Aside0.mk (row_kept HR5.out hk (fun k h1 h2 h3 => by omega)); have d1 : w6.cell? ⟨g, 1, none⟩ = some (.int .u64 y) := (blk_cell (blk_below HG.out (below_step HC1.out (HD5.out.trans hb))) 1).trans rfl; clear L hb hk) | ((with_reducible refine gate_callee (f := 13) rfl ?_); refine goesL_ (some 36) rfl rfl Try.func13 (by kernel_rfl) rfl #[.pointer (some ⟨a, 0, none⟩), .int .u64 y] rfl (by (try simp only [List.map_toArray, List.map_cons, List.map_nil]); first | done | rfl) ?_; (with_reducible refine (QCrash HL6.out HD6.out.size (fun k hk => .inr (Nat.le_trans HS6.out hk)) y).mono ?_); rintro e w7 ⟨rfl, L, hb, hk⟩; refine ⟨_, rfl, ?_⟩; rw [crL_all y _ HL6.out.2.1] at L; have HL7 := Aside0.mk L; have HB7 := Aside0.mk (HB6.out.trans (hb.mono HB1.out.size)); have HR7 := Aside0.mk (row_kept HR6.out hk (fun k h1 h2 h3 => by omega)); clear L hb hk) | ((with_reducible refine gate_builtin (b := .append) (xs := #[.const (.slice none 0 0), .tmp 40]) rfl ?_); at_builtin; refine Kd.R_append_row Value.string ByteArray.empty (h1 := fun _ => rfl) (w0 := w7) w7.heap.size rfl (.const (.slice none 0 0)) (.tmp 40) 29 9 (.string ⟨#[]⟩) 16 rfl Try.underlying29 info9 rfl (by decide) (.slice none 0 0) [] ((crL x RA RS).map mk) A4 n4 k4 (fun k => w7.heap.size ≤ k) rfl rfl ?aF (Kd.R_nil _ _ _ _ _) ?aR ?aB ?aS ?aL ?_; (case aF => exact fun k hk => hk); (case aR => exact C_of_rown HR7.out); (case aB => exact Below.refl _ _); (case aS => exact Nat.le_refl _); (case aL => have := HN4.out; have := HL3.out.count; rw [List.length_map] at this; simp only [List.length_nil]; omega); intro v8 w8 hr8 hb8 hg8 hat8; have HR8 := Aside0.mk hr8; have HB8 := Aside0.mk hb8; clear hr8 hb8 hg8 hat8) | ((with_reducible refine gate_builtin (b := .append) (xs := #[.tmp 41, .tmp 43]) rfl ?_); at_builtin; refine Kd.R_append Kd.string (w0 := w7) w7.heap.size rfl (.tmp 41) (.tmp 43) 29 9 (.string ⟨#[]⟩) 16 rfl Try.underlying29 info9 rfl (by decide) (by omega) v8 ([] ++ (crL x RA RS).map mk) (mk s) [.string (mk s)] (fun k => w7.heap.size ≤ k) (fun _ => False) rfl rfl ?aP (fun _ hk => hk.elim) ?aF HR8.out ?aB ?aS ?aL ?_; (case aP => exact rfl); (case aF => exact fun k hk => Nat.le_trans HB8.out.size hk); (case aB => exact HB8.out); (case aS => exact HB8.out.size); (case aL => have := HL3.out.count; rw [List.nil_append]; omega); intro v9 w9 hr9 hb9 hg9 hat9; rw [List.nil_append] at hr9; obtain ⟨Y, hY⟩ : ∃ Y, Y = (crL x RA RS).map mk ++ [mk s] := ⟨_, rfl⟩; rw [← hY] at hr9; obtain ⟨A9, k9, rfl, hk9, hC9⟩ := Kd.R_reads hr9; have HY := Aside0.mk hY; have HC9 := Aside0.mk hC9; have HD9 := Aside0.mk hb9; have HB9 := Aside0.mk (below_step HB7.out hb9); have HL9 := Aside0.mk (HL7.out.below hb9); clear hr9 hb9 hg9 hat9 hY hC9) | ((with_reducible refine gate_callee (f := 18) rfl ?_); refine goesL_ (some 46) rfl rfl Try.func18 (by kernel_rfl) rfl #[.pointer (some ⟨a, 0, none⟩)] rfl (by (try simp only [List.map_toArray, List.map_cons, List.map_nil]); first | done | rfl) ?_; (with_reducible refine (QAllX HL9.out).mono ?_); rintro e w10 ⟨A10, n10, k10, rfl, hn10, hk10, hr10, hb⟩; refine ⟨_, rfl, ?_⟩; have HN10 := Aside0.mk hn10; have HB10 := Aside0.mk (below_step HB9.out hb); have T9 := Aside0.mk (Kd.C_below HC9.out hb); rw [List.map_append, List.map_singleton, ← HY.out] at hr10; have T10 := Aside0.mk (C_of_row hr10); clear hb hn10 hr10) | ((with_reducible refine gate_callee (f := 17) rfl ?_); refine goesL_ (some 48) rfl rfl Try.func17 (by kernel_rfl) rfl #[.slice A10 n10 k10, .slice A9 Y.length k9] rfl (by (try simp only [List.map_toArray, List.map_cons, List.map_nil]); first | done | rfl) ?_; (with_reducible refine (TextsEq2 n10 Y.length A10 k10 A9 k9 Y _ (by rw [HY.out, ← List.map_singleton, ← List.map_append]; exact HL9.out.count) (by rw [HN10.out, HY.out]; simp) rfl T10.out hk10 T9.out hk9).mono ?_); rintro e w11 ⟨rfl, hb⟩; refine ⟨_, rfl, ?_⟩; have HB11 := Aside0.mk (below_step HB10.out hb); clear hb) | ((refine (awake _).mono ?_); rintro e w12 ⟨rfl, hb⟩; have HB12 := Aside0.mk (below_step HB11.out hb); clear hb))
  go_ret
  exact ⟨rfl, HB12.out⟩

theorem appE_cases (all : List By) (s : By) : appE all s = 0 ∨ appE all s = 2 ∨ appE all s = 7 := by
  unfold appE
  by_cases h1 : 4096 < s.length
  · rw [if_pos h1]; exact .inr (.inl rfl)
  · rw [if_neg h1]
    by_cases h2 : (flat all).length + (8 + s.length) ≤ 65536
    · rw [if_pos h2]; exact .inl rfl
    · rw [if_neg h2]; exact .inr (.inr rfl)

theorem WalGoesOn_walk (A0 : Option Addr) (c0 : Nat) (l : List S34) (s : ByteArray) (p : Int × Int) (w : World) (hr0 : Kd.C k34 w A0 l.length l) (hc0 : l.length ≤ c0) (hs : s.size ≤ 140737488351232) :
    Calls Try.prog 6 #[.slice A0 l.length c0, .string s, .agg #[.int .u64 p.1, .int .u64 p.2]] w fun e w' => e = .returned (.bool true) ∧ Below w.heap.size w w' := by
  obtain ⟨x, y⟩ := p
  rcases few_f l with ⟨h1, h2⟩ | h1
  · by_cases h3 : 5000 < s.size
    · exact WalGoesOn_long A0 c0 l s x y w hr0 hc0 h1 h3
    · obtain ⟨b, rfl⟩ := ex_mk s
      rw [mk_size] at h3
      rcases appE_cases (crL x (doneF l ([], 0)).1 (doneF l ([], 0)).2) b with h | h
      · exact WalGoesOn_ok A0 c0 l b x y w hr0 hc0 h1 h2 (by omega) _ _ rfl h
      · exact WalGoesOn_err A0 c0 l b x y w hr0 hc0 h1 h2 (by omega) _ _ rfl _ h rfl
  · exact WalGoesOn_few A0 c0 l s x y w hr0 hc0 h1

open Go.ChangeShapes Go.WideShapes in
/-- Two numbers that come in. -/
theorem pair_arg {H : Type} {enc : TypeId × Value → H} {W : World} {base b2 : Nat} {spare : Nat → Bool} {held : Bool} {v : Value} {d : DataW H} {ps : List MemPlace}
    (ho : Value.okWide Try.prog W .any base 49 v) (h : DataW.Trod enc Try.prog W b2 spare held 49 v d ps) : ∃ p : Int × Int, v = .agg #[.int .u64 p.1, .int .u64 p.2] := by
  have hu := Try.underlying49
  simp only [Value.okWide, hu] at ho
  obtain ⟨cs, rfl, _⟩ := ho
  obtain ⟨fuel, hf⟩ := h
  have f := SG.PT.ok_fits (.arr 2 .u64) 49 _ _ _ (by kernel_rfl) hf
  simp only [SG.PT.fits, Value.cells] at f
  obtain ⟨hl, hc⟩ := f
  obtain ⟨v1, v2, e⟩ : ∃ v1 v2, cs.toList = [v1, v2] := by
    match hq : cs.toList, hl with
    | [v1, v2], _ => exact ⟨v1, v2, rfl⟩
  obtain ⟨a1, rfl, _⟩ := hc v1 (by rw [e]; simp)
  obtain ⟨a2, rfl, _⟩ := hc v2 (by rw [e]; simp)
  exact ⟨(a1, a2), congrArg Value.agg (Array.toList_inj.mp (e.trans rfl))⟩
end Go.Proofs.Ytjmdigfinkkelaa.Wal
