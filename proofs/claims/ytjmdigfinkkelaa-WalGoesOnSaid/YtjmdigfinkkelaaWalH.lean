import Derived.Test.YtjmdigfinkkelaaWalG
namespace Go.Proofs.Ytjmdigfinkkelaa.Wal
open Go.RowKit Go.Proofs.Ytjmdigfinkkelaa.PAll Go.Proofs.YtjmdigfinkkelaaW.PrintWords Go.Proofs.YtjmdigfinkkelaaW.PrintLast Go.Proofs.YtjmdigfinkkelaaW.PrintMore SG Go.Proofs.Ytjmdigfinkkelaa.Fun
set_option linter.unusedVariables false
set_option linter.unusedSimpArgs false

theorem app1 {w : World} {B : Nat} {ok : Nat → Prop} {a : Nat} (L : Wq w B ok a [] 0) (hBw : B ≤ w.heap.size) (hfr : ∀ k, w.heap.size ≤ k → ok k) :
    Calls Try.prog 16 #[.pointer (some ⟨a, 0, none⟩), .string (mk [97, 98])] w fun e w' => e = .returned (.int .i64 0) ∧ Wq w' B ok a [[97, 98]] 0 ∧ Below B w w' := by
  refine (QAppend L hBw hfr [97, 98] (by decide)).mono ?_
  rintro e w' ⟨rfl, h1, h2, _⟩
  exact ⟨by rw [show appE [] [97, 98] = 0 by decide], by rw [show appL [] [97, 98] = [[97, 98]] by decide] at h1; exact h1, h2⟩
theorem app2 {w : World} {B : Nat} {ok : Nat → Prop} {a : Nat} (L : Wq w B ok a [[97, 98]] 1) (hBw : B ≤ w.heap.size) (hfr : ∀ k, w.heap.size ≤ k → ok k) :
    Calls Try.prog 16 #[.pointer (some ⟨a, 0, none⟩), .string (mk [99, 100])] w fun e w' => e = .returned (.int .i64 0) ∧ Wq w' B ok a [[97, 98], [99, 100]] 1 ∧ Below B w w' := by
  have e0 : appE [[97, 98]] [99, 100] = 0 := by
    unfold appE
    rw [if_neg (by decide), if_pos (by simp [flat_cons, flat_nil, frame_length])]
  have e1 : appL [[97, 98]] [99, 100] = [[97, 98], [99, 100]] := by
    unfold appL
    rw [e0, if_pos rfl]
    rfl
  refine (QAppend L hBw hfr [99, 100] (by decide)).mono ?_
  rintro e w' ⟨rfl, h1, h2, _⟩
  exact ⟨by rw [e0], by rw [e1] at h1; exact h1, h2⟩
theorem crash0 {w : World} {B : Nat} {ok : Nat → Prop} {a : Nat} (L : Wq w B ok a [[97, 98], [99, 100]] 1) (hBw : B ≤ w.heap.size) (hfr : ∀ k, w.heap.size ≤ k → ok k) :
    Calls Try.prog 13 #[.pointer (some ⟨a, 0, none⟩), .int .u64 0] w fun e w' => e = .returned (.tuple #[]) ∧ Wq w' B ok a [[97, 98]] 1 ∧ Below B w w' := by
  have e0 : crL 0 [[97, 98], [99, 100]] 1 = [[97, 98]] := (crL_zero _ _ L.2.1).trans rfl
  refine (QCrash L hBw hfr 0).mono ?_
  rintro e w' ⟨rfl, h1, h2, _⟩
  rw [e0] at h1
  exact ⟨rfl, h1, h2⟩
end Go.Proofs.Ytjmdigfinkkelaa.Wal
