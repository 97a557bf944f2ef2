import Derived.Test.YtbihlbalmihbdaaCrc
namespace SG
open Go

abbrev By := List UInt8

/-! Records, by their document. -/
def frame (s : By) : By := four s.length ++ (four (sum (four s.length ++ s)).toNat ++ s)

theorem frame_length (s : By) : (frame s).length = 8 + s.length := by
  simp only [frame, List.length_append, four_length]
  omega

/-- The first record, how many bytes, the error. -/
def nextR (l : By) : By × Nat × Nat :=
  if l.length < 4 then ([], 0, 2) else if 4096 < num4 l then ([], 0, 3) else if l.length < 8 + num4 l then ([], 0, 2) else
  if (sum (l.take 4 ++ (l.drop 8).take (num4 l))).toNat = num4 (l.drop 4) then ((l.drop 8).take (num4 l), 8 + num4 l, 0) else ([], 0, 4)

theorem nextR_frame (s r : By) (h : s.length ≤ 4096) : nextR (frame s ++ r) = (s, 8 + s.length, 0) := by
  have hn : num4 (frame s ++ r) = s.length := by
    simp only [frame, List.append_assoc]
    exact num4_four _ (by omega) _
  have hl : (frame s ++ r).length = 8 + s.length + r.length := by rw [List.length_append, frame_length]
  have h4 : (frame s ++ r).take 4 = four s.length := by
    simp only [frame, List.append_assoc]
    exact List.take_left' rfl
  have h8 : (frame s ++ r).drop 8 = s ++ r := by
    rw [show frame s ++ r = (four s.length ++ four (sum (four s.length ++ s)).toNat) ++ (s ++ r) by simp [frame]]
    exact List.drop_left' rfl
  have hd : (frame s ++ r).drop 4 = four (sum (four s.length ++ s)).toNat ++ (s ++ r) := by
    rw [show frame s ++ r = four s.length ++ (four (sum (four s.length ++ s)).toNat ++ (s ++ r)) by simp [frame]]
    exact List.drop_left' rfl
  unfold nextR
  rw [hn, hl, h4, h8, hd, if_neg (by omega), if_neg (by omega), if_neg (by omega), List.take_left' rfl, num4_four _ (BitVec.isLt _), if_pos rfl]

/-- As the reference asks it. -/
theorem frame_iff (l : By) (h : 8 + num4 l ≤ l.length) : frame ((l.drop 8).take (num4 l)) = l.take (8 + num4 l) ↔ (sum (l.take 4 ++ (l.drop 8).take (num4 l))).toNat = num4 (l.drop 4) := by
  have hl : ((l.drop 8).take (num4 l)).length = num4 l := by rw [List.length_take, List.length_drop]; omega
  have e4 : four (num4 l) = l.take 4 := by rw [← num4_take l 4 (Nat.le_refl _)]; exact four_num4 _ (by rw [List.length_take]; omega)
  have e5 : four (num4 (l.drop 4)) = (l.drop 4).take 4 := by rw [← num4_take (l.drop 4) 4 (Nat.le_refl _)]; exact four_num4 _ (by rw [List.length_take, List.length_drop]; omega)
  have e6 : l.take (8 + num4 l) = l.take 4 ++ ((l.drop 4).take 4 ++ (l.drop 8).take (num4 l)) := by
    rw [List.take_add, show (8 : Nat) = 4 + 4 from rfl, List.take_add, List.append_assoc]
  unfold frame
  rw [hl, e4, e6, List.append_cancel_left_eq, List.append_cancel_right_eq]
  generalize sum (l.take 4 ++ (l.drop 8).take (num4 l)) = c
  constructor
  · intro h
    have h2 := congrArg num4 h
    have h3 := num4_four c.toNat c.isLt []
    rw [List.append_nil] at h3
    rw [h3, num4_take _ _ (Nat.le_refl _)] at h2
    exact h2
  · intro h
    rw [h]
    exact e5

theorem nextR_ok {l : By} (h : (nextR l).2.2 = 0) : (nextR l).1.length ≤ 4096 ∧ (nextR l).2.1 = 8 + (nextR l).1.length ∧ (nextR l).2.1 ≤ l.length ∧ l.take (nextR l).2.1 = frame (nextR l).1 := by
  unfold nextR at h ⊢
  split at h; · simp at h
  split at h; · simp at h
  split at h; · simp at h
  split at h
  · rename_i h1 h2 h3 h4
    rw [if_neg h1, if_neg h2, if_neg h3, if_pos h4]
    have hl : ((l.drop 8).take (num4 l)).length = num4 l := by rw [List.length_take, List.length_drop]; omega
    refine ⟨by simp only [hl]; omega, by simp only [hl], by simp only; omega, ?_⟩
    have e4 : four (num4 l) = l.take 4 := by rw [← num4_take l 4 (Nat.le_refl _)]; exact four_num4 _ (by rw [List.length_take]; omega)
    have e5 : four (num4 (l.drop 4)) = (l.drop 4).take 4 := by rw [← num4_take (l.drop 4) 4 (Nat.le_refl _)]; exact four_num4 _ (by rw [List.length_take, List.length_drop]; omega)
    simp only [frame, hl, e4, h4, e5]
    rw [List.take_add, show (8 : Nat) = 4 + 4 from rfl, List.take_add, List.append_assoc]
  · simp at h

theorem nextR_other {l : By} (h : ¬ (nextR l).2.2 = 0) : (nextR l).1 = [] ∧ (nextR l).2.1 = 0 := by
  unfold nextR at h ⊢
  split at h
  · rename_i h1; rw [if_pos h1]; exact ⟨rfl, rfl⟩
  split at h
  · rename_i h1 h2; rw [if_neg h1, if_pos h2]; exact ⟨rfl, rfl⟩
  split at h
  · rename_i h1 h2 h3; rw [if_neg h1, if_neg h2, if_pos h3]; exact ⟨rfl, rfl⟩
  split at h
  · exact absurd rfl h
  · rename_i h1 h2 h3 h4; rw [if_neg h1, if_neg h2, if_neg h3, if_neg h4]; exact ⟨rfl, rfl⟩

/-- All records from the front on, how many bytes; at most f of them. -/
def preF : Nat → By → List By × Nat
  | 0, _ => ([], 0)
  | f + 1, l => if (nextR l).2.2 = 0 then ((nextR l).1 :: (preF f (l.drop (nextR l).2.1)).1, (nextR l).2.1 + (preF f (l.drop (nextR l).2.1)).2) else ([], 0)

theorem preF_more (f : Nat) : ∀ (l : By), l.length < f → ∀ g, l.length < g → preF f l = preF g l := by
  induction f with
  | zero => intro l h; omega
  | succ f ih =>
    intro l h g hg
    obtain ⟨g, rfl⟩ : ∃ m, g = m + 1 := ⟨g - 1, by omega⟩
    by_cases h0 : (nextR l).2.2 = 0
    · obtain ⟨_, h2, h3, _⟩ := nextR_ok h0
      simp only [preF, if_pos h0]
      rw [ih (l.drop (nextR l).2.1) (by rw [List.length_drop]; omega) g (by rw [List.length_drop]; omega)]
    · simp only [preF, if_neg h0]

def pre (l : By) : List By × Nat := preF (l.length + 1) l

theorem pre_ok {l : By} (h : (nextR l).2.2 = 0) : pre l = ((nextR l).1 :: (pre (l.drop (nextR l).2.1)).1, (nextR l).2.1 + (pre (l.drop (nextR l).2.1)).2) := by
  obtain ⟨_, h2, h3, _⟩ := nextR_ok h
  have := preF_more l.length (l.drop (nextR l).2.1) (by rw [List.length_drop]; omega) ((l.drop (nextR l).2.1).length + 1) (by omega)
  show preF (l.length + 1) l = _
  simp only [preF, if_pos h]
  rw [this]
  rfl

theorem pre_other {l : By} (h : ¬ (nextR l).2.2 = 0) : pre l = ([], 0) := by
  show preF (l.length + 1) l = _
  simp only [preF, if_neg h]

/-- Records, one behind the other. -/
def flat (ls : List By) : By := (ls.map frame).flatten

theorem flat_nil : flat [] = [] := rfl
theorem flat_cons (s : By) (r : List By) : flat (s :: r) = frame s ++ flat r := rfl
theorem flat_append (a b : List By) : flat (a ++ b) = flat a ++ flat b := by simp [flat]

def logR : By → List By → Option By
  | acc, [] => some acc
  | acc, s :: r => if 4096 < s.length then none else if 65536 < acc.length + (8 + s.length) then none else logR (acc ++ frame s) r

theorem logR_some {ls : List By} : ∀ {acc s : By}, logR acc ls = some s → s = acc ++ flat ls ∧ (∀ x ∈ ls, x.length ≤ 4096) ∧ (acc.length ≤ 65536 → s.length ≤ 65536) := by
  induction ls with
  | nil =>
    intro acc s h
    simp only [logR, Option.some.injEq] at h
    subst h
    exact ⟨by simp [flat_nil], by simp, fun h => h⟩
  | cons x r ih =>
    intro acc s h
    simp only [logR] at h
    split at h; · cases h
    split at h; · cases h
    rename_i h1 h2
    obtain ⟨e, h3, h4⟩ := ih h
    refine ⟨by rw [e, flat_cons, List.append_assoc], ?_, fun _ => h4 (by rw [List.length_append, frame_length]; omega)⟩
    intro y hy
    rcases List.mem_cons.1 hy with rfl | hy
    · omega
    · exact h3 y hy

theorem logR_of {ls : List By} : ∀ {acc : By}, (∀ x ∈ ls, x.length ≤ 4096) → (acc ++ flat ls).length ≤ 65536 → logR acc ls = some (acc ++ flat ls) := by
  induction ls with
  | nil => intro acc _ _; simp [logR, flat_nil]
  | cons x r ih =>
    intro acc h hl
    have hx := h x (by simp)
    simp only [flat_cons, List.length_append, frame_length] at hl
    simp only [logR]
    rw [if_neg (by omega), if_neg (by omega), ih (fun y hy => h y (by simp [hy])) (by simp only [List.length_append, frame_length]; omega), flat_cons, List.append_assoc]

/-- The records in front of a cut. -/
theorem pre_cut (ls : List By) : ∀ (k : Nat), (∀ x ∈ ls, x.length ≤ 4096) → k ≤ (flat ls).length →
    ∃ m, m ≤ ls.length ∧ pre ((flat ls).take k) = (ls.take m, (flat (ls.take m)).length) ∧ (flat (ls.take m)).length ≤ k ∧ (m < ls.length → k < (flat (ls.take (m + 1))).length) := by
  induction ls with
  | nil =>
    intro k _ hk
    have hk0 : k = 0 := by simpa [flat_nil] using hk
    subst hk0
    exact ⟨0, Nat.le_refl _, by rw [List.take_zero]; exact pre_other (by decide), Nat.le_refl _, fun h => absurd h (by simp)⟩
  | cons x r ih =>
    intro k h hk
    have hx := h x (by simp)
    by_cases hlt : k < 8 + x.length
    · refine ⟨0, Nat.zero_le _, ?_, by simp [flat_nil], fun _ => by simpa [flat_cons, flat_nil, frame_length] using hlt⟩
      refine (pre_other ?_).trans rfl
      have hl : ((flat (x :: r)).take k).length = k := by rw [List.length_take]; omega
      unfold nextR
      rw [hl]
      by_cases h4 : k < 4
      · rw [if_pos h4]; simp
      · have hn : num4 ((flat (x :: r)).take k) = x.length := by
          rw [num4_take _ _ (by omega), flat_cons]
          simp only [frame, List.append_assoc]
          exact num4_four _ (by omega) _
        rw [if_neg h4, hn, if_neg (by omega), if_pos hlt]
        simp
    · have hk2 : k - (8 + x.length) ≤ (flat r).length := by
        simp only [flat_cons, List.length_append, frame_length] at hk
        omega
      obtain ⟨m, h1, h2, h3, h4⟩ := ih (k - (8 + x.length)) (fun y hy => h y (by simp [hy])) hk2
      have e : (flat (x :: r)).take k = frame x ++ (flat r).take (k - (8 + x.length)) := by
        rw [flat_cons, List.take_append, frame_length, List.take_of_length_le (by rw [frame_length]; omega)]
      have hn := nextR_frame x ((flat r).take (k - (8 + x.length))) hx
      refine ⟨m + 1, by simpa using h1, ?_, ?_, fun hm => ?_⟩
      · rw [e, pre_ok (by rw [hn]), hn]
        simp only
        rw [List.drop_left' (frame_length x), h2]
        simp [flat_cons, frame_length]
      · simp only [List.take_succ_cons, flat_cons, List.length_append, frame_length]
        omega
      · have := h4 (by simpa using hm)
        simp only [List.take_succ_cons, flat_cons, List.length_append, frame_length]
        omega

end SG
