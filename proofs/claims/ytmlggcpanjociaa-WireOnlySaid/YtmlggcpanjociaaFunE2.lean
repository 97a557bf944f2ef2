import Derived.Test.YtmlggcpanjociaaFunE0
import Derived.Test.YtmlggcpanjociaaPAllx16
import Derived.Test.YtmlggcpanjociaaPAllx17
namespace Go.Proofs.Ytmlggcpanjociaa.Fun
open Go.RowKit Go.Proofs.Ytmlggcpanjociaa.PAll Go.Proofs.YtmlggcpanjociaaW.PrintWords SG Go.Proofs.Ytmlggcpanjociaa.Hlp

theorem chkW_tail (k f r v : Int) (n : Nat) (hk : k = 2 ∨ k = 3) : (if v = 0 then (if f < 1 then (some 1) else (if f > 7 then (some 1) else (if r < 0 then (some 1) else (if r ≥ 64 then (some 1) else (if (n : Int) > 4096 then (some 1) else (some 0)))))) else (some 1)) = some (if okW k f r v n then (0 : Int) else 1) := by
  by_cases hc : okW k f r v n
  · rw [if_pos hc]
    unfold okW at hc
    repeat' split
    all_goals first | rfl | (exfalso; omega)
  · rw [if_neg hc]
    unfold okW at hc
    repeat' split
    all_goals first | rfl | (exfalso; omega)

theorem chkW_head (f r v : Int) (x : Bs) : (if v ≥ (-1) then (if v < r then (if (mk x).toList = ([] : List UInt8) then (some 1) else (if f < 1 then (some 1) else (if f > 7 then (some 1) else (if r < 0 then (some 1) else (if r ≥ 64 then (some 1) else (if ((mk x).size : Int) > 4096 then (some 1) else (some 0))))))) else (some 1)) else (some 1)) = some (if okW 1 f r v x.length then (0 : Int) else 1) := by
  simp only [mk_size, mk_toList, ← List.length_eq_zero_iff]
  by_cases hc : okW 1 f r v x.length
  · rw [if_pos hc]
    unfold okW at hc
    repeat' split
    all_goals first | rfl | (exfalso; omega)
  · rw [if_neg hc]
    unfold okW at hc
    repeat' split
    all_goals first | rfl | (exfalso; omega)

theorem okW_not {k f r v : Int} {n : Nat} (h1 : k ≠ 1) (h2 : k ≠ 2) (h3 : k ≠ 3) : ¬ okW k f r v n := by
  unfold okW
  omega

theorem E_chkW0 (k f r v : Int) (x : Bs) (hk : k = 2 ∨ k = 3) : Ev (fun q => wire_CheckWord.j0 q false true k f r v (mk x)) (if okW k f r v x.length then 0 else 1) := by
  refine Ev.step (f := fun k => _) (fun k => by rw [wire_CheckWord.j0]) ?_
  rw [mk_size]
  simp only [if_true]
  rw [chkW_tail k f r v x.length hk]
  exact nowE _

theorem E_chkW1 (k f r v : Int) (x : Bs) (h1 : k ≠ 1) (h2 : k ≠ 2) (h3 : k ≠ 3) : Ev (fun q => wire_CheckWord.j0 q false false k f r v (mk x)) (if okW k f r v x.length then 0 else 1) := by
  refine Ev.step (f := fun k => _) (fun k => by rw [wire_CheckWord.j0]) ?_
  simp only [if_neg (show ¬ false = true by decide)]
  rw [if_neg (okW_not h1 h2 h3)]
  exact nowE _

theorem E_chkW (k f r v : Int) (x : Bs) : Ev (fun q => wire_CheckWord.f q k f r v (mk x)) (if okW k f r v x.length then 0 else 1) := by
  unfold wire_CheckWord.f
  by_cases h1 : k = 1
  · subst h1
    simp only [if_true]
    rw [chkW_head]
    exact nowE _
  simp only [if_neg h1]
  by_cases h2 : k = 2
  · subst h2
    simp only [if_true, beq_self_eq_true]
    exact E_chkW0 2 f r v x (Or.inl rfl)
  simp only [if_neg h2]
  by_cases h3 : k = 3
  · subst h3
    simp only [beq_self_eq_true]
    exact E_chkW0 3 f r v x (Or.inr rfl)
  rw [beq_eq_false_iff_ne.mpr h3]
  exact E_chkW1 k f r v x h1 h2 h3

theorem wv1 {k f r v : Int} {n : Nat} (h : okW k f r v n) : wrap64 (v + 1) = v + 1 := by
  have hb := (okW_bounds h).2.2.2.1
  exact w64 (by omega) (by omega)

theorem E_Word (k f r v : Int) (x : Bs) (hx : x.length ≤ 100000) : Ev (fun q => wire_Word.f q k f r v (mk x)) (wordA k f r v x) := by
  unfold wire_Word.f wordA
  refine Ev.bind (E_chkW k f r v x) ?_
  by_cases h : okW k f r v x.length
  · simp only [if_pos h, if_true]
    rw [byte1_f, byte1_f, byte1_f, byte1_f, wv1 h]
    simp only [bindS]
    refine Ev.bind (E_Texts [[u8 k], [u8 f], [u8 r], [u8 (v + 1)], x] (by simp) ?_) (nowE _)
    intro y hy
    simp only [List.mem_cons, List.not_mem_nil, or_false] at hy
    rcases hy with rfl | rfl | rfl | rfl | rfl
    · rw [one_len]; omega
    · rw [one_len]; omega
    · rw [one_len]; omega
    · rw [one_len]; omega
    · exact hx
  · simp only [if_neg h, if_neg (show ¬ (1 : Int) = 0 by decide)]
    exact nowE _

theorem wm1 (a : Bs) : wrap64 (b0 a - 1) = b0 a - 1 := by
  have := b0_range a
  exact w64 (by omega) (by omega)

theorem E_ReadWord (l : Bs) (hl : l.length ≤ 1000000) : Ev (fun q => wire_ReadWord.f q (mk l)) (rwA l) := by
  unfold wire_ReadWord.f
  refine Ev.bind (E_read l 5 hl) ?_
  cases hr : readR l with
  | none =>
    rw [rwA_none hr, rdA_none]
    simp only [if_neg (show ¬ false = true by decide)]
    exact nowE _
  | some ls =>
    rw [rwA_some hr, rdA_some]
    by_cases h5 : ls.length = 5
    · obtain ⟨a, b, c, d, x, rfl⟩ := of_5 h5
      rw [rwL_5]
      have r0 : rdOf ByteArray.empty ([a, b, c, d, x].map mk) 0 = mk a := rfl
      have r1 : rdOf ByteArray.empty ([a, b, c, d, x].map mk) 1 = mk b := rfl
      have r2 : rdOf ByteArray.empty ([a, b, c, d, x].map mk) 2 = mk c := rfl
      have r3 : rdOf ByteArray.empty ([a, b, c, d, x].map mk) 3 = mk d := rfl
      have r4 : rdOf ByteArray.empty ([a, b, c, d, x].map mk) 4 = mk x := rfl
      have hlen : (([a, b, c, d, x].map mk).length : Int) = 5 := rfl
      rw [decide_eq_true h5, hlen, r0, r1, r2, r3, r4, one_f, one_f, one_f, one_f, text1_f]
      simp only [if_true, bindS, if_pos (show (0 : Int) < 5 by decide), if_pos (show (1 : Int) < 5 by decide), if_pos (show (2 : Int) < 5 by decide), if_pos (show (3 : Int) < 5 by decide), if_pos (show (4 : Int) < 5 by decide)]
      by_cases ha : a.length = 1
      · simp only [if_pos ha, if_neg (show ¬ false = true by decide)]
        by_cases hb : b.length = 1
        · simp only [if_pos hb, if_neg (show ¬ false = true by decide)]
          by_cases hc : c.length = 1
          · simp only [if_pos hc, if_neg (show ¬ false = true by decide)]
            by_cases hd : d.length = 1
            · simp only [if_pos hd, if_neg (show ¬ false = true by decide), wm1]
              refine Ev.bind (E_chkW _ _ _ _ x) ?_
              by_cases hk : okW (b0 a) (b0 b) (b0 c) (b0 d - 1) x.length
              · simp only [if_pos hk, if_true]
                rw [if_pos ⟨ha, hb, hc, hd, hk⟩]
                exact nowE _
              · simp only [if_neg hk, if_neg (show ¬ (1 : Int) = 0 by decide)]
                rw [if_neg (fun h => hk h.2.2.2.2)]
                exact nowE _
            · simp only [if_neg hd, if_true]
              rw [if_neg (fun h => hd h.2.2.2.1)]
              exact nowE _
          · simp only [if_neg hc, if_true]
            rw [if_neg (fun h => hc h.2.2.1)]
            exact nowE _
        · simp only [if_neg hb, if_true]
          rw [if_neg (fun h => hb h.2.1)]
          exact nowE _
      · simp only [if_neg ha, if_true]
        rw [if_neg (fun h => ha h.1)]
        exact nowE _
    · rw [rwL_no h5, decide_eq_false h5]
      simp only [if_neg (show ¬ false = true by decide)]
      exact nowE _

end Go.Proofs.Ytmlggcpanjociaa.Fun
