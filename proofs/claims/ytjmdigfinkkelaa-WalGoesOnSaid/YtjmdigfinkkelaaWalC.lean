import Derived.Test.YtjmdigfinkkelaaWalB
namespace Go.Proofs.Ytjmdigfinkkelaa.Wal
open Go.RowKit Go.Proofs.Ytjmdigfinkkelaa.PAll Go.Proofs.YtjmdigfinkkelaaW.PrintWords Go.Proofs.YtjmdigfinkkelaaW.PrintLast Go.Proofs.YtjmdigfinkkelaaW.PrintMore
set_option linter.unusedVariables false
set_option linter.unusedSimpArgs false

set_option maxHeartbeats 8000000 in
set_option maxRecDepth 100000 in
theorem WAll {w : World} {B : Nat} {ok : Nat → Prop} {a : Nat} {b : List Int} {sy : Int} {all : List ByteArray} {sure : Int} (L : Wl w B ok a b sy all sure) (hl : all.length ≤ 100000) : Calls Try.prog 18 #[.pointer (some ⟨a, 0, none⟩)] w fun e w' => ∃ v', e = .returned v' ∧ Kd.string.R 9 w' w.heap.size (fun k => w.heap.size ≤ k) v' all ∧ Below w.heap.size w w' := by
  obtain ⟨hB, d, v, ha, hr, D⟩ := L
  obtain ⟨A, c, rfl, hlc, hC⟩ := Kd.R_reads hr
  obtain ⟨inner, ho⟩ := Kd.R_own hr
  rcases ho.2 with ⟨hv, hn⟩ | ⟨g, cap, cur, hv, _⟩
  · have hx : all = [] := List.eq_nil_of_length_eq_zero hn
    subst hx
    rw [hv] at ha
    have c1 : w.cell? ⟨a, 1, none⟩ = some (.slice none 0 0) := (blk_cell ha 1).trans rfl
    go_enter Try.func18, Try.ntmps18
    go_wp2_with (first | ((with_reducible refine gate_callee (f := 30) rfl ?_); refine goesL_ (some 9) rfl rfl Try.func30 (by kernel_rfl) rfl #[.slice none 0 0] rfl (by (try simp only [List.map_toArray, List.map_cons, List.map_nil]); first | done | rfl) ?_; (with_reducible refine (Clone0 _).mono ?_); rintro e w2 ⟨rfl, rfl⟩; refine ⟨_, rfl, ?_⟩))
    go_ret
    exact ⟨_, rfl, Kd.R_nil _ _ _ _ _, Below.refl _ _⟩
  · injection hv with h1 h2 h3
    subst h1 h3
    have c1 : w.cell? ⟨a, 1, none⟩ = some (.slice (some ⟨g, 0, none⟩) all.length c) := (blk_cell ha 1).trans rfl
    have HC := Aside0.mk hC
    clear hC
    go_enter Try.func18, Try.ntmps18
    go_wp2_with (first | ((with_reducible refine gate_callee (f := 30) rfl ?_); refine goesL_ (some 9) rfl rfl Try.func30 (by kernel_rfl) rfl #[.slice (some ⟨g, 0, none⟩) all.length c] rfl (by (try simp only [List.map_toArray, List.map_cons, List.map_nil]); first | done | rfl) ?_; (with_reducible refine (Clone1 HC.out hl).mono ?_); rintro e w2 ⟨v2, rfl, hR2, hB2⟩; refine ⟨_, rfl, ?_⟩))
    go_ret
    exact ⟨_, rfl, hR2, hB2⟩

theorem wl_put {w : World} {a d : Nat} {v v' : Value} {sure : Int} (ha : w.heap[a]? = some (.cells #[.pointer (some ⟨d, 0, none⟩), v, .int .i64 sure] 55 (0, 0))) : (w.setCell ⟨a, 1, none⟩ v').heap[a]? = some (.cells #[.pointer (some ⟨d, 0, none⟩), v', .int .i64 sure] 55 (0, 0)) := by
  simpa using blk_set ha 1 v'

set_option maxHeartbeats 8000000 in
set_option maxRecDepth 100000 in
/-- A record behind all. -/
theorem WAppend {w : World} {B : Nat} {ok : Nat → Prop} {a : Nat} {b : List Int} {sy : Int} {all : List ByteArray} {sure : Int} (L : Wl w B ok a b sy all sure) (hBw : B ≤ w.heap.size) (hfr : ∀ k, w.heap.size ≤ k → ok k) (hl : all.length ≤ 100000) (K : Nat) (s f : ByteArray) (hf : record_Frame.f K s = some (f, 0)) (hfit : b.length + f.size ≤ 65536) :
    Calls Try.prog 16 #[.pointer (some ⟨a, 0, none⟩), .string s] w fun e w' => e = .returned (.int .i64 0) ∧ Wl w' B ok a (b ++ bytesOf f) sy (all ++ [s]) sure ∧ Below B w w' ∧ Kept w w' (TW ok w) := by
  obtain ⟨hB, d, v, ha, hr, D⟩ := L
  obtain ⟨A, c, rfl, hlc, hC⟩ := Kd.R_reads hr
  have HB := Aside0.mk (Below.refl w.heap.size w)
  go_enter Try.func16, Try.ntmps16
  go_wp2_with (first | ((with_reducible refine gate_callee (f := 29) rfl ?_); refine goesL_ (some 11) rfl rfl Try.func29 (by kernel_rfl) rfl #[.string s] rfl (by (try simp only [List.map_toArray, List.map_cons, List.map_nil]); first | done | rfl) ?_; (with_reducible refine (record_Frame.calls K s f 0 _ hf).mono ?_); rintro e w1 ⟨rfl, hb1⟩; refine ⟨_, rfl, ?_⟩; have c0 : w1.cell? ⟨a, 0, none⟩ = some (.pointer (some ⟨d, 0, none⟩)) := (blk_cell (blk_below ha hb1) 0).trans rfl; have HB1 := Aside0.mk hb1; clear hb1) | ((with_reducible refine gate_callee (f := 22) rfl ?_); refine goesL_ (some 23) rfl rfl Try.func22 (by kernel_rfl) rfl #[.pointer (some ⟨d, 0, none⟩), .agg #[.int .i64 1, .string f, .int .u64 0]] rfl (by (try simp only [List.map_toArray, List.map_cons, List.map_nil]); first | done | rfl) ?_; (with_reducible refine (DoWrite (D.below HB1.out) (Nat.le_trans hBw HB1.out.size) f 0 hfit).mono ?_); rintro e w2 ⟨rfl, hD2, hB2, hK2⟩; refine ⟨_, rfl, ?_⟩; have ha2 := blk_kept (blk_below ha HB1.out) hK2 (not_ty (blk_below ha HB1.out) (by decide) (by decide)); have e1 : w2.cell? ⟨a, 1, none⟩ = some (.slice A all.length c) := (blk_cell ha2 1).trans rfl; have HA2 := Aside0.mk ha2; have HD2 := Aside0.mk hD2; have HB2 := Aside0.mk hB2; have HK2 := Aside0.mk hK2; have HR2 := Aside0.mk (R9_kept (Kd.R_below hr HB1.out) hK2); clear ha2 hD2 hB2 hK2) | ((with_reducible refine gate_builtin (b := .append) (xs := #[.tmp 29, .tmp 31]) rfl ?_); at_builtin; refine Kd.R_append Kd.string (w0 := w) B rfl (.tmp 29) (.tmp 31) 29 9 (.string ⟨#[]⟩) 16 rfl Try.underlying29 info9 rfl (by decide) (by omega) (.slice A all.length c) all s [.string s] ok (fun _ => False) rfl rfl ?aP (fun _ hk => hk.elim) ?aF HR2.out ?aB ?aS ?aL ?_; (case aP => exact rfl); (case aF => exact fun k hk => hfr k (Nat.le_trans (Nat.le_trans HB1.out.size HB2.out.size) hk)); (case aB => exact (HB1.out.mono hBw).trans HB2.out); (case aS => exact Nat.le_trans hBw (Nat.le_trans HB1.out.size HB2.out.size)); (case aL => omega); intro v3 w3 hr3 hb3 hg3 hat3; obtain ⟨A3, k3, rfl⟩ := Kd.R_slice hr3; have ha3 := blk_grown HA2.out hg3 (Kd.R_ne HR2.out HA2.out (by decide)); have e3 : w3.cell? ⟨a, 1, none⟩ = some (.slice A all.length c) := (blk_cell ha3 1).trans rfl; have g3 : w3.frozen? ⟨a, 1, none⟩ = false := blk_frozen ha3 1; have HA3 := Aside0.mk ha3; have HR3 := Aside0.mk hr3; have HB3 := Aside0.mk hb3; have HG3 := Aside0.mk hg3; clear hr3 hb3 hg3 hat3 ha3))
  go_ret
  have hr4 := HR3.out
  rw [List.length_append, List.length_singleton] at hr4
  have k3 : Kept w w3 (TW ok w) := Kept.of_grown HG3.out ((Kept.of_below HB1.out (TW ok w)).then_ HK2.out (fun k t => (Ty.back HB1.out k t).imp TW.of_Ty id)) (fun k hk => .inl (.inr (hr.1 k hk)))
  have d3 : Dk w3 B d (b ++ bytesOf f) sy := HD2.out.kept (Kept.of_grown HG3.out (Kept.refl _ (fun k => (Value.slice A all.length c).ownBlock = some k)) (fun k hk => .inl hk)) (fun k hk => by
    obtain ⟨inner, ho⟩ := Kd.R_own HR2.out
    obtain ⟨cells, hc⟩ := own_typed ho k hk
    exact not_ty hc (by decide) (by decide))
  refine ⟨rfl, ⟨hB, d, _, wl_put HA3.out, Kd.R_set hr4 HA3.out (by decide) 1 _, ?_⟩, HB3.out.setCell hB _, k3.setCell (.inl (tw_blk ha)) _⟩
  exact d3.kept (Kept.setCell (Kept.refl _ (fun k => k = a)) (.inl rfl) _) (fun k h => by subst h; exact not_ty HA3.out (by decide) (by decide))
end Go.Proofs.Ytjmdigfinkkelaa.Wal
