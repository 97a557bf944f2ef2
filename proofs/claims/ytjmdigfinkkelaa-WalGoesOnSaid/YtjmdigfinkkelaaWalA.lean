import Derived.Test.YtjmdigfinkkelaaDiskC
import Derived.Test.YtjmdigfinkkelaaPAllx11
import Derived.Test.YtjmdigfinkkelaaPAllx8
namespace Go.Proofs.Ytjmdigfinkkelaa.Wal
open Go.RowKit Go.Proofs.Ytjmdigfinkkelaa.PAll Go.Proofs.YtjmdigfinkkelaaW.PrintWords Go.Proofs.YtjmdigfinkkelaaW.PrintLast Go.Proofs.YtjmdigfinkkelaaW.PrintMore
set_option linter.unusedVariables false
set_option linter.unusedSimpArgs false

/-- A log at block a: its disk, its records, how many are sure; the row of its records is ok. -/
def Wl (w : World) (B : Nat) (ok : Nat → Prop) (a : Nat) (b : List Int) (sy : Int) (all : List ByteArray) (sure : Int) : Prop :=
  B ≤ a ∧ ∃ d v, w.heap[a]? = some (.cells #[.pointer (some ⟨d, 0, none⟩), v, .int .i64 sure] 55 (0, 0)) ∧ Kd.string.R 9 w B ok v all ∧ Dk w B d b sy
/-- A block that may be a log's. -/
def TW (ok : Nat → Prop) (w : World) (k : Nat) : Prop := (∃ cells q, w.heap[k]? = some (.cells cells q (0, 0)) ∧ (q = 5 ∨ q = 71 ∨ q = 55)) ∨ ok k
theorem TW.of_Ty {ok : Nat → Prop} {w : World} {k : Nat} (h : Ty w k) : TW ok w k := by
  obtain ⟨cells, q, hc, hq⟩ := h
  exact .inl ⟨cells, q, hc, hq.elim .inl (fun h => .inr (.inl h))⟩
theorem tw_blk {ok : Nat → Prop} {w : World} {a : Nat} {cells : Array Value} (h : w.heap[a]? = some (.cells cells 55 (0, 0))) : TW ok w a := .inl ⟨_, _, h, .inr (.inr rfl)⟩

set_option maxHeartbeats 8000000 in
set_option maxRecDepth 100000 in
theorem WNew (w : World) : Calls Try.prog 10 #[] w fun e w' => ∃ a : Nat, e = .returned (.pointer (some ⟨a, 0, none⟩)) ∧ Wl w' w.heap.size (fun k => w.heap.size ≤ k) a [] 0 [] 0 ∧ Below w.heap.size w w' := by
  have hu71 := Try.underlying71
  have HB := Aside0.mk (Below.refl w.heap.size w)
  go_enter Try.func10, Try.ntmps10
  go_wp2_with (first | ((with_reducible refine gate_callee (f := 21) rfl ?_); refine goesL_ (some 1) rfl rfl Try.func21 (by kernel_rfl) rfl #[] rfl (by (try simp only [List.map_toArray, List.map_cons, List.map_nil]); first | done | rfl) ?_; (with_reducible refine (New _).mono ?_); rintro e w2 ⟨g, rfl, hg, hb, hk⟩; have GE := Aside0.mk hg; have HB2 := Aside0.mk hb; have HK := Aside0.mk hk; clear hg hb hk; refine ⟨_, rfl, ?_⟩) | ((with_reducible refine gate_dst (N := 3) rfl ?_); refine box_event ?hg (N := 3) ?hd (cs := #[.pointer (some ⟨g, 0, none⟩), .slice none 0 0, .int .i64 0]) (t := 55) ?hr ?_; (case hd => rfl); (case hg => rfl); (case hr => first | (go_simp; done) | (go_simp; rfl)); intro a ha w3 hbox hb3; have GA := Aside0.mk ha; have HX := Aside0.mk hbox; have HB3 := Aside0.mk hb3; clear ha hbox hb3))
  go_ret
  exact ⟨a, rfl, ⟨by rw [GA.out]; exact HB2.out.size, g, _, HX.out, Kd.R_nil _ _ _ _ _, GE.out, _, blk_below HK.out HB3.out, Kd.R_nil _ _ _ _ _⟩, below_step HB2.out HB3.out⟩

theorem not_ty {w : World} {k q : Nat} {cells : Array Value} (h : w.heap[k]? = some (.cells cells q (0, 0))) (h5 : q ≠ 5) (h71 : q ≠ 71) : ¬ Ty w k := by
  rintro ⟨cells', q', hc, hq⟩
  rw [h] at hc
  injection hc with hc
  injection hc with _ hc
  subst hc
  exact hq.elim h5 h71
/-- A row of records stays where only a disk is written. -/
theorem R9_kept {w w' : World} {B : Nat} {ok : Nat → Prop} {v : Value} {xs : List ByteArray} (h : Kd.string.R 9 w B ok v xs) (hk : Kept w w' (Ty w)) : Kd.string.R 9 w' B ok v xs := by
  refine Kd.R_mono (Kd.R_move (Kd.R_bound h) (fun k h => ?_)) (fun _ h => h.1)
  obtain ⟨_, _, hlt, q, hq, cells, hc⟩ := h
  have hq9 : q = 9 := by simpa [Kd.string, Kd.scalar] using hq
  subst hq9
  exact hk.2 k hlt (not_ty hc (by decide) (by decide))

set_option maxHeartbeats 8000000 in
set_option maxRecDepth 100000 in
theorem WSure {w : World} {B : Nat} {ok : Nat → Prop} {a : Nat} {b : List Int} {sy : Int} {all : List ByteArray} {sure : Int} (L : Wl w B ok a b sy all sure) : Calls Try.prog 19 #[.pointer (some ⟨a, 0, none⟩)] w fun e w' => e = .returned (.int .i64 sure) ∧ w' = w := by
  obtain ⟨hB, d, v, ha, hr, D⟩ := L
  have c2 : w.cell? ⟨a, 2, none⟩ = some (.int .i64 sure) := (blk_cell ha 2).trans rfl
  go_enter Try.func19, Try.ntmps19
  go_wp2
  go_ret
  exact ⟨rfl, rfl⟩

set_option maxHeartbeats 8000000 in
set_option maxRecDepth 100000 in
theorem WSync {w : World} {B : Nat} {ok : Nat → Prop} {a : Nat} {b : List Int} {sy : Int} {all : List ByteArray} {sure : Int} (L : Wl w B ok a b sy all sure) (hBw : B ≤ w.heap.size) : Calls Try.prog 11 #[.pointer (some ⟨a, 0, none⟩)] w fun e w' => e = .returned (.tuple #[]) ∧ Wl w' B ok a b (b.length : Int) all (all.length : Int) ∧ Below B w w' ∧ Kept w w' (TW ok w) := by
  obtain ⟨hB, d, v, ha, hr, D⟩ := L
  obtain ⟨A, c, rfl, hlc, hC⟩ := Kd.R_reads hr
  have c0 : w.cell? ⟨a, 0, none⟩ = some (.pointer (some ⟨d, 0, none⟩)) := (blk_cell ha 0).trans rfl
  go_enter Try.func11, Try.ntmps11
  go_wp2_with (first | ((with_reducible refine gate_callee (f := 22) rfl ?_); refine goesL_ (some 9) rfl rfl Try.func22 (by kernel_rfl) rfl #[.pointer (some ⟨d, 0, none⟩), .agg #[.int .i64 2, .string ⟨#[]⟩, .int .u64 0]] rfl (by (try simp only [List.map_toArray, List.map_cons, List.map_nil]); first | done | rfl) ?_; (with_reducible refine (DoSync D hBw _ _).mono ?_); rintro e w2 ⟨rfl, hD2, hB2, hK2⟩; refine ⟨_, rfl, ?_⟩; have ha2 := blk_kept ha hK2 (not_ty ha (by decide) (by decide)); have e1 : w2.cell? ⟨a, 1, none⟩ = some (.slice A all.length c) := (blk_cell ha2 1).trans rfl; have e2 : w2.cell? ⟨a, 2, none⟩ = some (.int .i64 sure) := (blk_cell ha2 2).trans rfl; have g2 : w2.frozen? ⟨a, 2, none⟩ = false := blk_frozen ha2 2; have HA2 := Aside0.mk ha2; have HD2 := Aside0.mk hD2; have HB2 := Aside0.mk hB2; have HK2 := Aside0.mk hK2; clear ha2 hD2 hB2 hK2))
  refine bodyPost_end (results_none rfl _ _ _) rfl ⟨rfl, ⟨hB, d, _, by simpa using blk_set HA2.out 2 _, Kd.R_set (R9_kept hr HK2.out) HA2.out (by decide) 2 _, ?_⟩, HB2.out.setCell hB _, (HK2.out.mono (fun k h => TW.of_Ty h)).setCell (.inl (tw_blk ha)) _⟩
  exact HD2.out.kept (Kept.setCell (Kept.refl _ (fun k => k = a)) (.inl rfl) _) (fun k h => by subst h; exact not_ty HA2.out (by decide) (by decide))
end Go.Proofs.Ytjmdigfinkkelaa.Wal
