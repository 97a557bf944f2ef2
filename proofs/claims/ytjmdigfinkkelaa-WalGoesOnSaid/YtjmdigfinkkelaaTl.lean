import Derived.Test.YtjmdigfinkkelaaDiskC
namespace Go.Proofs.Ytjmdigfinkkelaa.Wal

theorem tl_spec (keep first : Int) (m : Nat) : ∀ (at_ : Nat) (b : List Int) (e : Nat), e ≤ at_ → at_ + m = b.length →
    (tl keep first m at_ b e).1.length = b.length ∧ e ≤ (tl keep first m at_ b e).2 ∧ (tl keep first m at_ b e).2 ≤ b.length ∧ (tl keep first m at_ b e).1.take at_ = b.take at_ := by
  induction m with
  | zero =>
    intro at_ b e he hm
    rw [tl]
    exact ⟨rfl, Nat.le_refl _, by omega, rfl⟩
  | succ m ih =>
    intro at_ b e he hm
    rw [tl]
    by_cases hk : kp keep ((at_ : Int) / 64 - first) = true
    · rw [if_pos hk]
      obtain ⟨h1, h2, h3, h4⟩ := ih (at_ + 1) b (at_ + 1) (Nat.le_refl _) (by omega)
      refine ⟨h1, by omega, h3, ?_⟩
      have := congrArg (List.take at_) h4
      rwa [List.take_take, List.take_take, Nat.min_eq_left (by omega)] at this
    · rw [if_neg hk]
      obtain ⟨h1, h2, h3, h4⟩ := ih (at_ + 1) (b.set at_ 0) e (by omega) (by rw [List.length_set]; omega)
      rw [List.length_set] at h1 h3
      refine ⟨h1, h2, h3, ?_⟩
      have := congrArg (List.take at_) h4
      rw [List.take_take, List.take_take, Nat.min_eq_left (by omega)] at this
      rw [this, List.take_set_of_le (Nat.le_refl _)]

/-- Where no sector is kept the end stays. -/
theorem tl_none (keep first : Int) (m : Nat) : ∀ (at_ : Nat) (b : List Int) (e : Nat), (∀ i : Nat, at_ ≤ i → i < at_ + m → kp keep ((i : Int) / 64 - first) = false) → (tl keep first m at_ b e).2 = e := by
  induction m with
  | zero => intro at_ b e _; rw [tl]
  | succ m ih =>
    intro at_ b e h
    rw [tl, h at_ (Nat.le_refl _) (by omega), if_neg (by decide)]
    exact ih (at_ + 1) _ e (fun i h1 h2 => h i (by omega) (by omega))

/-- Where sectors are kept from the first on, without a gap, what is left is the beginning. -/
theorem tl_begin (keep first : Int) (m : Nat) : ∀ (at_ : Nat) (b : List Int) (e : Nat), e ≤ at_ → at_ + m = b.length →
    (∀ i j : Nat, at_ ≤ i → i ≤ j → j < b.length → kp keep ((j : Int) / 64 - first) = true → kp keep ((i : Int) / 64 - first) = true) → (kp keep ((at_ : Int) / 64 - first) = true → e = at_ ∨ True) →
    (tl keep first m at_ b e).1.take (tl keep first m at_ b e).2 = b.take (tl keep first m at_ b e).2 := by
  induction m with
  | zero => intro at_ b e _ _ _ _; rw [tl]
  | succ m ih =>
    intro at_ b e he hm hg _
    by_cases hk : kp keep ((at_ : Int) / 64 - first) = true
    · rw [tl, if_pos hk]
      exact ih (at_ + 1) b (at_ + 1) (Nat.le_refl _) (by omega) (fun i j h1 h2 h3 => hg i j (by omega) h2 h3) (fun _ => .inr trivial)
    · have hn : (tl keep first (m + 1) at_ b e).2 = e := tl_none keep first (m + 1) at_ b e (fun i h1 h2 => by
        cases h : kp keep ((i : Int) / 64 - first) with
        | false => rfl
        | true => exact absurd (hg at_ i (Nat.le_refl _) h1 (by omega) h) hk)
      obtain ⟨_, _, _, h4⟩ := tl_spec keep first (m + 1) at_ b e he hm
      rw [hn]
      have := congrArg (List.take e) h4
      rwa [List.take_take, List.take_take, Nat.min_eq_left he] at this
end Go.Proofs.Ytjmdigfinkkelaa.Wal
