import Derived.Test.YtbihlbalmihbdaaRec
namespace SG

/-- Whole records ahead of anything are read. -/
theorem pre_append (xs : List By) (h : ∀ x ∈ xs, x.length ≤ 4096) (r : By) : pre (flat xs ++ r) = (xs ++ (pre r).1, (flat xs).length + (pre r).2) := by
  induction xs with
  | nil => simp [flat_nil]
  | cons x xs ih =>
    have hx := h x (by simp)
    have hn := nextR_frame x (flat xs ++ r) hx
    rw [flat_cons, List.append_assoc, pre_ok (by rw [hn]), hn]
    simp only
    rw [List.drop_left' (frame_length x), ih (fun y hy => h y (by simp [hy]))]
    simp only [List.length_append, frame_length, List.cons_append]
    rw [Nat.add_assoc (8 + x.length)]

/-- What is read is what stood there. -/
theorem pre_flat (d : Nat) : ∀ (l : By), l.length = d → flat (pre l).1 = l.take (pre l).2 ∧ (pre l).2 ≤ l.length ∧ (∀ x ∈ (pre l).1, x.length ≤ 4096) := by
  induction d using Nat.strongRecOn with
  | _ d ih =>
    intro l hl
    by_cases h : (nextR l).2.2 = 0
    · obtain ⟨h1, h2, h3, h4⟩ := nextR_ok h
      obtain ⟨i1, i2, i3⟩ := ih (l.drop (nextR l).2.1).length (by rw [List.length_drop]; omega) (l.drop (nextR l).2.1) rfl
      rw [pre_ok h]
      refine ⟨?_, ?_, ?_⟩
      · simp only
        rw [flat_cons, i1, ← h4, List.take_add]
      · simp only
        rw [List.length_drop] at i2
        omega
      · intro x hx
        simp only [List.mem_cons] at hx
        rcases hx with rfl | hx
        · exact h1
        · exact i3 x hx
    · rw [pre_other h]
      exact ⟨by simp [flat_nil], Nat.zero_le _, by simp⟩
end SG
