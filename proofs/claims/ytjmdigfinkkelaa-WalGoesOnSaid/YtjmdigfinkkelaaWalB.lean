import Derived.Test.YtjmdigfinkkelaaWalA
import Derived.Lib.SliceRun
namespace Go.Proofs.Ytjmdigfinkkelaa.Wal
open Go.RowKit Go.Proofs.Ytjmdigfinkkelaa.PAll Go.Proofs.YtjmdigfinkkelaaW.PrintWords Go.Proofs.YtjmdigfinkkelaaW.PrintLast Go.Proofs.YtjmdigfinkkelaaW.PrintMore
set_option linter.unusedVariables false
set_option linter.unusedSimpArgs false

theorem R_empty (w : World) : Kd.string.R 9 (w.alloc (.cells #[] 9)) w.heap.size (fun k => w.heap.size ≤ k) (.slice (some ⟨w.heap.size, 0, none⟩) 0 0) [] :=
  Kd.R_of_own (h1 := fun _ => rfl) ⟨rfl, .inr ⟨w.heap.size, 0, #[], rfl, Nat.le_refl _, heap_alloc_new w _, Nat.le_refl _, by decide, rfl, rfl⟩⟩ (fun k hk => by simp [Value.ownBlock] at hk; omega)

set_option maxHeartbeats 8000000 in
set_option maxRecDepth 100000 in
theorem Clone0 (w : World) : Calls Try.prog 30 #[.slice none 0 0] w fun e w' => e = .returned (.slice none 0 0) ∧ w' = w := by
  have q := Lib.run_eql_slice_nil (P := Try.prog) w 29 9 none 0 0 0 0 Try.underlying29
  rw [show Option.isNone (none : Option Addr) = true from rfl] at q
  go_enter Try.func30, Try.ntmps30
  go_wp2
  go_ret
  exact ⟨rfl, rfl⟩

set_option maxHeartbeats 8000000 in
set_option maxRecDepth 100000 in
theorem Clone1 {w : World} {g c : Nat} {xs : List ByteArray} (hC : Kd.string.C w (some ⟨g, 0, none⟩) xs.length xs) (hl : xs.length ≤ 100000) : Calls Try.prog 30 #[.slice (some ⟨g, 0, none⟩) xs.length c] w fun e w' => ∃ v', e = .returned v' ∧ Kd.string.R 9 w' w.heap.size (fun k => w.heap.size ≤ k) v' xs ∧ Below w.heap.size w w' := by
  have q := Lib.run_eql_slice_nil (P := Try.prog) w 29 9 (some ⟨g, 0, none⟩) xs.length c 0 0 Try.underlying29
  rw [show Option.isNone (some (⟨g, 0, none⟩ : Addr)) = false from rfl] at q
  have HC := Aside0.mk hC
  clear hC
  go_enter Try.func30, Try.ntmps30
  go_wp2_with (first | ((with_reducible refine gate_builtin (b := .append) (xs := #[.tmp 5, .tmp 6]) rfl ?_); at_builtin; refine Kd.R_append_row Value.string ByteArray.empty (h1 := fun _ => rfl) (w0 := w) w.heap.size rfl (.tmp 5) (.tmp 6) 29 9 (.string ⟨#[]⟩) 16 rfl Try.underlying29 info9 rfl (by decide) (.slice (some ⟨w.heap.size, 0, none⟩) 0 0) [] xs (some ⟨g, 0, none⟩) xs.length c (fun k => w.heap.size ≤ k) rfl rfl ?aF (R_empty w) ?aR ?aB ?aS ?aL ?_; (case aF => intro k hk; exact Nat.le_trans (below_size (below_alloc (Below.refl _ _) _)) hk); (case aR => exact Kd.C_below HC.out (below_alloc (Below.refl _ _) _)); (case aB => exact below_alloc (Below.refl _ _) _); (case aS => exact (below_size (below_alloc (Below.refl _ _) _))); (case aL => simp; omega); intro v1 w1 hr1 hb1 hg1 hat1; have HR1 := Aside0.mk hr1; have HB1 := Aside0.mk hb1; clear hr1 hb1 hg1 hat1))
  go_ret
  exact ⟨_, rfl, HR1.out, HB1.out⟩
end Go.Proofs.Ytjmdigfinkkelaa.Wal
