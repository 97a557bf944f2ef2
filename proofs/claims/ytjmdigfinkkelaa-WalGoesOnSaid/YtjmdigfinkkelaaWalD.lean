import Derived.Test.YtjmdigfinkkelaaWalC
namespace Go.Proofs.Ytjmdigfinkkelaa.Wal
open Go.RowKit Go.Proofs.Ytjmdigfinkkelaa.PAll Go.Proofs.YtjmdigfinkkelaaW.PrintWords Go.Proofs.YtjmdigfinkkelaaW.PrintLast Go.Proofs.YtjmdigfinkkelaaW.PrintMore
set_option linter.unusedVariables false
set_option linter.unusedSimpArgs false

theorem Ty.back2 {w w2 : World} (hk : Kept w w2 (Ty w)) (k : Nat) (t : Ty w2 k) : Ty w k ∨ w.heap.size ≤ k := by
  by_cases hlt : k < w.heap.size
  · by_cases ht : Ty w k
    · exact .inl ht
    · obtain ⟨cells, q, hc, hq⟩ := t
      exact .inl ⟨cells, q, (hk.2 k hlt ht).symm.trans hc, hq⟩
  · exact .inr (by omega)
theorem Wl.below {w w' : World} {B : Nat} {ok : Nat → Prop} {a : Nat} {b : List Int} {sy : Int} {all : List ByteArray} {sure : Int} (L : Wl w B ok a b sy all sure) (hb : Below w.heap.size w w') : Wl w' B ok a b sy all sure := by
  obtain ⟨hB, d, v, ha, hr, D⟩ := L
  exact ⟨hB, d, v, blk_below ha hb, Kd.R_below hr hb, D.below hb⟩

set_option maxHeartbeats 8000000 in
set_option maxRecDepth 100000 in
theorem WAppendErr {w : World} (a K : Nat) (s f : ByteArray) (e1 : Int) (hf : record_Frame.f K s = some (f, e1)) (he : e1 ≠ 0) :
    Calls Try.prog 16 #[.pointer (some ⟨a, 0, none⟩), .string s] w fun e w' => e = .returned (.int .i64 e1) ∧ Below w.heap.size w w' := by
  have hb0 : (e1 != 0) = true := bne_iff_ne.mpr he
  go_enter Try.func16, Try.ntmps16
  go_wp2_with (first | ((with_reducible refine gate_callee (f := 29) rfl ?_); refine goesL_ (some 11) rfl rfl Try.func29 (by kernel_rfl) rfl #[.string s] rfl (by (try simp only [List.map_toArray, List.map_cons, List.map_nil]); first | done | rfl) ?_; (with_reducible refine (record_Frame.calls K s f e1 _ hf).mono ?_); rintro e w1 ⟨rfl, hb1⟩; refine ⟨_, rfl, ?_⟩; have HB1 := Aside0.mk hb1; clear hb1))
  go_ret
  exact ⟨rfl, HB1.out⟩

set_option maxHeartbeats 8000000 in
set_option maxRecDepth 100000 in
theorem WAppendFull {w : World} {B : Nat} {ok : Nat → Prop} {a : Nat} {b : List Int} {sy : Int} {all : List ByteArray} {sure : Int} (L : Wl w B ok a b sy all sure) (K : Nat) (s f : ByteArray) (hf : record_Frame.f K s = some (f, 0)) (hl : b.length ≤ 65536) (hfit : ¬ b.length + f.size ≤ 65536) :
    Calls Try.prog 16 #[.pointer (some ⟨a, 0, none⟩), .string s] w fun e w' => e = .returned (.int .i64 7) ∧ Below w.heap.size w w' := by
  obtain ⟨hB, d, v, ha, hr, D⟩ := L
  go_enter Try.func16, Try.ntmps16
  go_wp2_with (first | ((with_reducible refine gate_callee (f := 29) rfl ?_); refine goesL_ (some 11) rfl rfl Try.func29 (by kernel_rfl) rfl #[.string s] rfl (by (try simp only [List.map_toArray, List.map_cons, List.map_nil]); first | done | rfl) ?_; (with_reducible refine (record_Frame.calls K s f 0 _ hf).mono ?_); rintro e w1 ⟨rfl, hb1⟩; refine ⟨_, rfl, ?_⟩; have c0 : w1.cell? ⟨a, 0, none⟩ = some (.pointer (some ⟨d, 0, none⟩)) := (blk_cell (blk_below ha hb1) 0).trans rfl; have HB1 := Aside0.mk hb1; clear hb1) | ((with_reducible refine gate_callee (f := 22) rfl ?_); refine goesL_ (some 23) rfl rfl Try.func22 (by kernel_rfl) rfl #[.pointer (some ⟨d, 0, none⟩), .agg #[.int .i64 1, .string f, .int .u64 0]] rfl (by (try simp only [List.map_toArray, List.map_cons, List.map_nil]); first | done | rfl) ?_; (with_reducible refine (DoFull (D.below HB1.out) f 0 hl hfit).mono ?_); rintro e w2 ⟨rfl, hb2⟩; refine ⟨_, rfl, ?_⟩; have HB2 := Aside0.mk hb2; clear hb2))
  go_ret
  exact ⟨rfl, below_step HB1.out HB2.out⟩

set_option maxHeartbeats 8000000 in
set_option maxRecDepth 100000 in
/-- What a crash leaves of a log. -/
theorem WCrash {w : World} {B : Nat} {ok : Nat → Prop} {a : Nat} {b : List Int} {sy : Nat} {all : List ByteArray} {sure : Int} (L : Wl w B ok a b (sy : Int) all sure) (hBw : B ≤ w.heap.size) (hfr : ∀ k, w.heap.size ≤ k → ok k) (keep : Int) (hsl : sy ≤ b.length) (hl : b.length ≤ 65536) (hc : (crashL keep b sy).length ≤ 65536) (K : Nat) (l : List ByteArray) (n : Nat) (hn : n ≤ (crashL keep b sy).length) (hp : record_Prefix.f K (strOfNums (crashL keep b sy)) = some (l, (n : Int))) :
    Calls Try.prog 13 #[.pointer (some ⟨a, 0, none⟩), .int .u64 keep] w fun e w' => e = .returned (.tuple #[]) ∧ Wl w' B ok a ((crashL keep b sy).take n) (n : Int) l (l.length : Int) ∧ Below B w w' ∧ Kept w w' (TW ok w) := by
  obtain ⟨hB, d, v, ha, hr, D⟩ := L
  have c0 : w.cell? ⟨a, 0, none⟩ = some (.pointer (some ⟨d, 0, none⟩)) := (blk_cell ha 0).trans rfl
  go_enter Try.func13, Try.ntmps13
  go_wp2_with (first | ((with_reducible refine gate_callee (f := 22) rfl ?_); refine goesL_ (some 14) rfl rfl Try.func22 (by kernel_rfl) rfl #[.pointer (some ⟨d, 0, none⟩), .agg #[.int .i64 3, .string ⟨#[]⟩, .int .u64 keep]] rfl (by (try simp only [List.map_toArray, List.map_cons, List.map_nil]); first | done | rfl) ?_; (with_reducible refine (DoCrash D hBw _ keep hsl hl).mono ?_); rintro e w2 ⟨rfl, hD2, hB2, hK2⟩; refine ⟨_, rfl, ?_⟩; have ha2 := blk_kept ha hK2 (not_ty ha (by decide) (by decide)); have e2 : w2.cell? ⟨a, 0, none⟩ = some (.pointer (some ⟨d, 0, none⟩)) := (blk_cell ha2 0).trans rfl; have HA2 := Aside0.mk ha2; have HD2 := Aside0.mk hD2; have HB2 := Aside0.mk hB2; have HK2 := Aside0.mk hK2; clear ha2 hD2 hB2 hK2) | ((with_reducible refine gate_callee (f := 25) rfl ?_); refine goesL_ (some 20) rfl rfl Try.func25 (by kernel_rfl) rfl #[.pointer (some ⟨d, 0, none⟩)] rfl (by (try simp only [List.map_toArray, List.map_cons, List.map_nil]); first | done | rfl) ?_; (with_reducible refine (Text HD2.out).mono ?_); rintro e w3 ⟨rfl, hb3⟩; refine ⟨_, rfl, ?_⟩; have HB3 := Aside0.mk hb3; clear hb3) | ((with_reducible refine gate_callee (f := 24) rfl ?_); refine goesL_ (some 21) rfl rfl Try.func24 (by kernel_rfl) rfl #[.string (strOfNums (crashL keep b sy))] rfl (by (try simp only [List.map_toArray, List.map_cons, List.map_nil]); first | done | rfl) ?_; (with_reducible refine (record_Prefix.calls K _ l (n : Int) _ hp).mono ?_); rintro e w4 ⟨v4, rfl, hr4, hb4⟩; refine ⟨_, rfl, ?_⟩; obtain ⟨A4, k4, rfl⟩ := Kd.R_slice hr4; have ha4 := blk_below HA2.out (below_step HB3.out hb4); have e4 : w4.cell? ⟨a, 0, none⟩ = some (.pointer (some ⟨d, 0, none⟩)) := (blk_cell ha4 0).trans rfl; have HA4 := Aside0.mk ha4; have HR4 := Aside0.mk hr4; have HB4 := Aside0.mk hb4; clear ha4 hr4 hb4) | ((with_reducible refine gate_callee (f := 26) rfl ?_); refine goesL_ (some 29) rfl rfl Try.func26 (by kernel_rfl) rfl #[.pointer (some ⟨d, 0, none⟩), .int .i64 (n : Int)] rfl (by (try simp only [List.map_toArray, List.map_cons, List.map_nil]); first | done | rfl) ?_; (with_reducible refine (Cut (HD2.out.below (below_step HB3.out HB4.out)) (Nat.le_trans hBw (Nat.le_trans HB2.out.size (below_step HB3.out HB4.out).size)) n hn hc rfl).mono ?_); rintro e w5 ⟨rfl, hD5, hB5, hK5⟩; refine ⟨_, rfl, ?_⟩; have ha5 := blk_kept HA4.out hK5 (not_ty HA4.out (by decide) (by decide)); have e5 : w5.cell? ⟨a, 1, none⟩ = some v := (blk_cell ha5 1).trans rfl; have e6 : w5.cell? ⟨a, 2, none⟩ = some (.int .i64 sure) := (blk_cell ha5 2).trans rfl; have g5 : w5.frozen? ⟨a, 1, none⟩ = false := blk_frozen ha5 1; have g6 : w5.frozen? ⟨a, 2, none⟩ = false := blk_frozen ha5 2; have HA5 := Aside0.mk ha5; have HD5 := Aside0.mk hD5; have HB5 := Aside0.mk hB5; have HK5 := Aside0.mk hK5; have HR5 := Aside0.mk (R9_kept HR4.out hK5); clear ha5 hD5 hB5 hK5))
  have h3 : w.heap.size ≤ w3.heap.size := Nat.le_trans HB2.out.size HB3.out.size
  have h24 := below_step HB3.out HB4.out
  have hR : Kd.string.R 9 w5 B ok (.slice A4 l.length k4) l := Kd.R_lower (Kd.R_mono (Kd.R_bound HR5.out) (fun k hk => hfr k (Nat.le_trans h3 hk.2.1))) (Nat.le_trans hBw h3)
  have hb5 : Below B w w5 := (HB2.out.trans (h24.mono (Nat.le_trans hBw HB2.out.size))).trans HB5.out
  have k5 : Kept w w5 (TW ok w) := ((HK2.out.mono (fun k t => TW.of_Ty t)).below h24).then_ HK5.out (fun k t => by
    rcases Ty.back h24 k t with t | t
    · exact (Ty.back2 HK2.out k t).imp TW.of_Ty id
    · exact .inr (Nat.le_trans HB2.out.size t))
  refine bodyPost_end (results_none rfl _ _ _) rfl ⟨rfl, ⟨hB, d, _, by simpa using blk_set (wl_put HA5.out) 2 _, Kd.R_set (Kd.R_set hR HA5.out (by decide) 1 _) (wl_put HA5.out) (by decide) 2 _, ?_⟩, (hb5.setCell hB _).setCell hB _, (k5.setCell (.inl (tw_blk ha)) _).setCell (.inl (tw_blk ha)) _⟩
  exact HD5.out.kept (Kept.setCell (Kept.setCell (Kept.refl _ (fun k => k = a)) (.inl rfl) _) (.inl rfl) _) (fun k h => by subst h; exact not_ty HA5.out (by decide) (by decide))

/-! ### a log that is none -/
set_option maxHeartbeats 8000000 in
set_option maxRecDepth 100000 in
theorem NSync (w : World) : Calls Try.prog 11 #[.pointer none] w fun e w' => e = .returned (.tuple #[]) ∧ w' = w := by
  go_enter Try.func11, Try.ntmps11
  go_wp2
  exact bodyPost_end (results_none rfl _ _ _) rfl ⟨rfl, rfl⟩
set_option maxHeartbeats 8000000 in
set_option maxRecDepth 100000 in
theorem NCrash (w : World) (keep : Int) : Calls Try.prog 13 #[.pointer none, .int .u64 keep] w fun e w' => e = .returned (.tuple #[]) ∧ w' = w := by
  go_enter Try.func13, Try.ntmps13
  go_wp2
  exact bodyPost_ret (results_none rfl _ _ _) rfl ⟨rfl, rfl⟩
set_option maxHeartbeats 8000000 in
set_option maxRecDepth 100000 in
theorem NAppend (w : World) (s : ByteArray) : Calls Try.prog 16 #[.pointer none, .string s] w fun e w' => e = .returned (.int .i64 1) ∧ w' = w := by
  go_enter Try.func16, Try.ntmps16
  go_wp2
  go_ret
  exact ⟨rfl, rfl⟩
set_option maxHeartbeats 8000000 in
set_option maxRecDepth 100000 in
theorem NAll (w : World) : Calls Try.prog 18 #[.pointer none] w fun e w' => e = .returned (.slice none 0 0) ∧ w' = w := by
  go_enter Try.func18, Try.ntmps18
  go_wp2
  go_ret
  exact ⟨rfl, rfl⟩
set_option maxHeartbeats 8000000 in
set_option maxRecDepth 100000 in
theorem NSure (w : World) : Calls Try.prog 19 #[.pointer none] w fun e w' => e = .returned (.int .i64 0) ∧ w' = w := by
  go_enter Try.func19, Try.ntmps19
  go_wp2
  go_ret
  exact ⟨rfl, rfl⟩
end Go.Proofs.Ytjmdigfinkkelaa.Wal
