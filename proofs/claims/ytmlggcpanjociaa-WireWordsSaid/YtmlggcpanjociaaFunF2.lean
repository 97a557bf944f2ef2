import Derived.Test.YtmlggcpanjociaaFunE2
import Derived.Test.YtmlggcpanjociaaFunB
import Derived.Test.YtmlggcpanjociaaPAllx32
import Derived.Test.YtmlggcpanjociaaPAllx33
namespace Go.Proofs.Ytmlggcpanjociaa.Fun
open Go.RowKit Go.Proofs.Ytmlggcpanjociaa.PAll Go.Proofs.YtmlggcpanjociaaW.PrintWords SG Go.Proofs.Ytmlggcpanjociaa.Hlp

theorem rone_f (n : Int) : sandglassref16_one.f n = some (mk [u8 n]) := by
  unfold sandglassref16_one.f
  rw [byte_nums]

theorem bne_one (a : Bs) : (((mk a).size : Int) != 1) = !decide (a.length = 1) := by
  rw [mk_size, Bool.eq_iff_iff]
  simp
  omega

theorem rchkW_tail (k f r v : Int) (n : Nat) (hk : k = 2 ∨ k = 3) (hf : ¬ f < 1) (hg : ¬ f > 7) (hr : ¬ r < 0) (hs : ¬ r ≥ 64) (hn : ¬ (n : Int) > 4096) : (if v = 0 then (some 0) else (some 1)) = some (if okW k f r v n then (0 : Int) else 1) := by
  by_cases hc : okW k f r v n
  · rw [if_pos hc]
    unfold okW at hc
    repeat' split
    all_goals first | rfl | (exfalso; omega)
  · rw [if_neg hc]
    unfold okW at hc
    repeat' split
    all_goals first | rfl | (exfalso; omega)

theorem rchkW_head (f r v : Int) (x : Bs) (hf : ¬ f < 1) (hg : ¬ f > 7) (hr : ¬ r < 0) (hs : ¬ r ≥ 64) (hn : ¬ (x.length : Int) > 4096) : (if v ≥ (-1) then (if v < r then (if (mk x).toList = ([] : List UInt8) then (some 1) else (some 0)) else (some 1)) else (some 1)) = some (if okW 1 f r v x.length then (0 : Int) else 1) := by
  simp only [mk_toList, ← List.length_eq_zero_iff]
  by_cases hc : okW 1 f r v x.length
  · rw [if_pos hc]
    unfold okW at hc
    repeat' split
    all_goals first | rfl | (exfalso; omega)
  · rw [if_neg hc]
    unfold okW at hc
    repeat' split
    all_goals first | rfl | (exfalso; omega)

theorem E_rchkWno (k f r v : Int) (x : Bs) (h : ¬ okW k f r v x.length) : Ev (fun q => sandglassref16_CheckWord.j0 q true k f r v (mk x)) (if okW k f r v x.length then 0 else 1) := by
  refine Ev.step (f := fun k => _) (fun k => by rw [sandglassref16_CheckWord.j0]) ?_
  simp only [if_true, if_neg h]
  exact nowE _

theorem E_rchkW (k f r v : Int) (x : Bs) : Ev (fun q => sandglassref16_CheckWord.f q k f r v (mk x)) (if okW k f r v x.length then 0 else 1) := by
  unfold sandglassref16_CheckWord.f
  rw [mk_size]
  by_cases hf : f < 1
  · simp only [if_pos hf]
    exact E_rchkWno k f r v x (by unfold okW; omega)
  simp only [if_neg hf]
  by_cases hg : f > 7
  · simp only [if_pos hg]
    exact E_rchkWno k f r v x (by unfold okW; omega)
  simp only [if_neg hg]
  by_cases hr : r < 0
  · simp only [if_pos hr]
    exact E_rchkWno k f r v x (by unfold okW; omega)
  simp only [if_neg hr]
  by_cases hs : r ≥ 64
  · simp only [if_pos hs]
    exact E_rchkWno k f r v x (by unfold okW; omega)
  simp only [if_neg hs]
  by_cases hn : (x.length : Int) > 4096
  · rw [decide_eq_true hn]
    exact E_rchkWno k f r v x (by unfold okW; omega)
  rw [decide_eq_false hn]
  refine Ev.step (f := fun k => _) (fun k => by rw [sandglassref16_CheckWord.j0]) ?_
  simp only [if_neg (show ¬ false = true by decide)]
  by_cases h1 : k = 1
  · subst h1
    simp only [if_true]
    rw [rchkW_head f r v x hf hg hr hs hn]
    exact nowE _
  simp only [if_neg h1]
  by_cases h2 : k = 2
  · subst h2
    simp only [if_true, beq_self_eq_true]
    refine Ev.step (f := fun k => _) (fun k => by rw [sandglassref16_CheckWord.j1]) ?_
    simp only [if_true]
    rw [rchkW_tail 2 f r v x.length (Or.inl rfl) hf hg hr hs hn]
    exact nowE _
  simp only [if_neg h2]
  by_cases h3 : k = 3
  · subst h3
    simp only [beq_self_eq_true]
    refine Ev.step (f := fun k => _) (fun k => by rw [sandglassref16_CheckWord.j1]) ?_
    simp only [if_true]
    rw [rchkW_tail 3 f r v x.length (Or.inr rfl) hf hg hr hs hn]
    exact nowE _
  rw [beq_eq_false_iff_ne.mpr h3, if_neg (okW_not h1 h2 h3)]
  refine Ev.step (f := fun k => _) (fun k => by rw [sandglassref16_CheckWord.j1]) ?_
  simp only [if_neg (show ¬ false = true by decide)]
  exact nowE _

theorem E_rWord (k f r v : Int) (x : Bs) (hx : x.length ≤ 100000) : Ev (fun q => sandglassref16_Word.f q k f r v (mk x)) (wordA k f r v x) := by
  unfold sandglassref16_Word.f wordA
  refine Ev.bind (E_rchkW k f r v x) ?_
  by_cases h : okW k f r v x.length
  · simp only [if_pos h, if_true]
    rw [rone_f, rone_f, rone_f, rone_f, wv1 h]
    simp only [bindS]
    refine Ev.bind (E_rTexts [[u8 k], [u8 f], [u8 r], [u8 (v + 1)], x] (by simp) ?_) (nowE _)
    intro y hy
    simp only [List.mem_cons, List.not_mem_nil, or_false] at hy
    rcases hy with rfl | rfl | rfl | rfl | rfl
    · rw [one_len]; omega
    · rw [one_len]; omega
    · rw [one_len]; omega
    · rw [one_len]; omega
    · exact hx
  · simp only [if_neg h, if_neg (show ¬ (1 : Int) = 0 by decide)]
    exact nowE _

theorem E_rwNo (q : List ByteArray) : Ev (fun k => sandglassref16_ReadWord.j0 k q true) noW := by
  refine Ev.step (f := fun k => _) (fun k => by rw [sandglassref16_ReadWord.j0]) ?_
  simp only [if_true]
  exact nowE _

theorem E_rReadWord (l : Bs) (hl : l.length ≤ 1000000) : Ev (fun q => sandglassref16_ReadWord.f q (mk l)) (rwA l) := by
  unfold sandglassref16_ReadWord.f
  refine Ev.bind (E_rRead l hl) ?_
  cases hr : readR l with
  | none =>
    rw [rwA_none hr, readO_none]
    simp only [if_neg (show ¬ (3 : Int) = 0 by decide)]
    exact E_rwNo _
  | some ls =>
    rw [rwA_some hr, readO_some, List.nil_append]
    simp only [if_true]
    by_cases h5 : ls.length = 5
    · obtain ⟨a, b, c, d, x, rfl⟩ := of_5 h5
      rw [rwL_5]
      have r0 : rdOf ByteArray.empty ([a, b, c, d, x].map mk) 0 = mk a := rfl
      have r1 : rdOf ByteArray.empty ([a, b, c, d, x].map mk) 1 = mk b := rfl
      have r2 : rdOf ByteArray.empty ([a, b, c, d, x].map mk) 2 = mk c := rfl
      have r3 : rdOf ByteArray.empty ([a, b, c, d, x].map mk) 3 = mk d := rfl
      have r4 : rdOf ByteArray.empty ([a, b, c, d, x].map mk) 4 = mk x := rfl
      have hlen : (([a, b, c, d, x].map mk).length : Int) = 5 := rfl
      rw [hlen, r0, r1, r2, r3, bne_one, mk_size, mk_size, mk_size]
      simp only [if_true, if_pos (show (0 : Int) < 5 by decide), if_pos (show (1 : Int) < 5 by decide), if_pos (show (2 : Int) < 5 by decide), if_pos (show (3 : Int) < 5 by decide)]
      by_cases ha : a.length = 1
      · simp only [if_pos (show (a.length : Int) = 1 by omega)]
        by_cases hb : b.length = 1
        · simp only [if_pos (show (b.length : Int) = 1 by omega)]
          by_cases hc : c.length = 1
          · simp only [if_pos (show (c.length : Int) = 1 by omega)]
            by_cases hd : d.length = 1
            · rw [decide_eq_true hd]
              refine Ev.step (f := fun k => _) (fun k => by rw [sandglassref16_ReadWord.j0]) ?_
              rw [hlen, r0, r1, r2, r3, r4, mk_size, mk_size, mk_size, mk_size, bt0, bt0, bt0, bt0, wb0, wb0, wb0, wb0, wm1]
              simp only [Bool.not_true, if_neg (show ¬ false = true by decide), if_pos (show (0 : Int) < 5 by decide), if_pos (show (1 : Int) < 5 by decide), if_pos (show (2 : Int) < 5 by decide), if_pos (show (3 : Int) < 5 by decide), if_pos (show (4 : Int) < 5 by decide), if_pos (show (0 : Int) < (a.length : Int) by omega), if_pos (show (0 : Int) < (b.length : Int) by omega), if_pos (show (0 : Int) < (c.length : Int) by omega), if_pos (show (0 : Int) < (d.length : Int) by omega)]
              refine Ev.bind (E_rchkW _ _ _ _ x) ?_
              by_cases hk : okW (b0 a) (b0 b) (b0 c) (b0 d - 1) x.length
              · simp only [if_pos hk, if_true]
                rw [if_pos ⟨ha, hb, hc, hd, hk⟩]
                exact nowE _
              · simp only [if_neg hk, if_neg (show ¬ (1 : Int) = 0 by decide)]
                rw [if_neg (fun h => hk h.2.2.2.2)]
                exact nowE _
            · rw [decide_eq_false hd, if_neg (fun h => hd h.2.2.2.1)]
              exact E_rwNo _
          · simp only [if_neg (show ¬ (c.length : Int) = 1 by omega)]
            rw [if_neg (fun h => hc h.2.2.1)]
            exact E_rwNo _
        · simp only [if_neg (show ¬ (b.length : Int) = 1 by omega)]
          rw [if_neg (fun h => hb h.2.1)]
          exact E_rwNo _
      · simp only [if_neg (show ¬ (a.length : Int) = 1 by omega)]
        rw [if_neg (fun h => ha h.1)]
        exact E_rwNo _
    · rw [rwL_no h5]
      simp only [List.length_map, if_neg (show ¬ (ls.length : Int) = 5 by omega)]
      exact E_rwNo _

end Go.Proofs.Ytmlggcpanjociaa.Fun
