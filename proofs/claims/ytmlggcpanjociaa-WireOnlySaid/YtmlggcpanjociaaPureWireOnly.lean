/- Whatever the command, the word and the bytes: what is told of a command is read as just that command, the same of a word; what bytes are read as a command is told as just those bytes, the same of a word. No condition. -/
import Derived.Test.YtmlggcpanjociaaFunE1
import Derived.Test.YtmlggcpanjociaaFunE2
import Derived.Test.YtmlggcpanjociaaPAllx35
namespace Go.Proofs.Ytmlggcpanjociaa.Pure
open Go.RowKit Go.Proofs.Ytmlggcpanjociaa.PAll Go.Proofs.YtmlggcpanjociaaW.PrintWords SG Go.Proofs.Ytmlggcpanjociaa.Fun Go.Proofs.Ytmlggcpanjociaa.Hlp

theorem only3 (l : Bs) (hl : l.length ≤ 20000) : Ev (fun q => sandglasslaw16_WireOnly.j3 q (mk l)) true := by
  refine Ev.step (f := fun k => _) (fun k => by rw [sandglasslaw16_WireOnly.j3]) ?_
  refine Ev.bind (E_ReadWord l (by omega)) ?_
  by_cases h : (rwA l).2.2.2.2.2 = 0
  · obtain ⟨k, f, r, v, x, e, ok, back⟩ := rwA_back h
    have hx : x.length ≤ 100000 := by
      have hk := ok
      unfold okW at hk
      omega
    rw [e]
    simp only [if_true]
    refine Ev.bind (E_Word k f r v x hx) ?_
    rw [wordA, if_pos ok, back]
    simp only [if_true]
    exact Ev.bind E_awake (nowE _)
  · simp only [if_neg h]
    exact Ev.bind E_awake (nowE _)

theorem only2 (l : Bs) (hl : l.length ≤ 20000) : Ev (fun q => sandglasslaw16_WireOnly.j2 q (mk l)) true := by
  refine Ev.step (f := fun k => _) (fun k => by rw [sandglasslaw16_WireOnly.j2]) ?_
  refine Ev.bind (E_ReadCommand l (by omega)) ?_
  by_cases h : (rcA l).2.2.2.2 = 0
  · obtain ⟨k, e, n, b, g, ok, back⟩ := rcA_back h
    have hk := ok
    unfold okC at hk
    rw [g]
    simp only [if_true]
    refine Ev.bind (E_Command k e n b (by omega) (by omega)) ?_
    rw [cmdA, if_pos ok, back]
    simp only [if_true]
    exact only3 l hl
  · simp only [if_neg h]
    exact only3 l hl

theorem texts5_len (a b c d : UInt8) (x : Bs) : (texts [[a], [b], [c], [d], x]).length = 24 + x.length := by
  simp only [texts_cons, texts_nil, List.length_append, text_length, List.length_cons, List.length_nil]
  omega
theorem texts4_len (a b : UInt8) (n d : Bs) : (texts [[a], [b], n, d]).length = 18 + n.length + d.length := by
  simp only [texts_cons, texts_nil, List.length_append, text_length, List.length_cons, List.length_nil]
  omega

theorem only1 (l : Bs) (k f r v : Int) (x : Bs) (hx : x.length ≤ 20000) (hl : l.length ≤ 20000) : Ev (fun q => sandglasslaw16_WireOnly.j1 q (mk l) k f r v (mk x)) true := by
  refine Ev.step (f := fun k => _) (fun k => by rw [sandglasslaw16_WireOnly.j1]) ?_
  refine Ev.bind (E_Word k f r v x (by omega)) ?_
  rw [wordA]
  by_cases h : okW k f r v x.length
  · rw [if_pos h]
    simp only [if_true]
    refine Ev.bind (E_ReadWord _ (by rw [texts5_len]; omega)) ?_
    rw [rwA_word k f r v x h]
    simp only [if_true, beq_self_eq_true, Bool.not_true, Bool.or_self, if_neg (show ¬ false = true by decide)]
    exact only2 l hl
  · rw [if_neg h]
    simp only [if_neg (show ¬ (1 : Int) = 0 by decide)]
    exact only2 l hl

theorem only0 (k e : Int) (n b : Bs) (kk f r v : Int) (x l : Bs) (hn : n.length ≤ 20000) (hb : b.length ≤ 20000) (hx : x.length ≤ 20000) (hl : l.length ≤ 20000) : Ev (fun q => sandglasslaw16_WireOnly.j0 q (mk l) false k e (mk n) (mk b) kk f r v (mk x)) true := by
  refine Ev.step (f := fun k => _) (fun k => by rw [sandglasslaw16_WireOnly.j0]) ?_
  simp only [if_neg (show ¬ false = true by decide)]
  refine Ev.bind (E_Command k e n b (by omega) (by omega)) ?_
  rw [cmdA]
  by_cases h : okC k e n.length b.length
  · rw [if_pos h]
    simp only [if_true]
    refine Ev.bind (E_ReadCommand _ (by rw [texts4_len]; omega)) ?_
    rw [rcA_cmd k e n b h]
    simp only [if_true, beq_self_eq_true, Bool.not_true, Bool.or_self, if_neg (show ¬ false = true by decide)]
    exact only1 l kk f r v x hx hl
  · rw [if_neg h]
    simp only [if_neg (show ¬ (1 : Int) = 0 by decide)]
    exact only1 l kk f r v x hx hl

theorem skipO (y : ByteArray) (k e : Int) (n b : ByteArray) (kk f r v : Int) (x : ByteArray) : Ev (fun q => sandglasslaw16_WireOnly.j0 q y true k e n b kk f r v x) true := by
  refine Ev.step (f := fun k => _) (fun k => by rw [sandglasslaw16_WireOnly.j0]) ?_
  simp only [if_true]
  exact Ev.bind E_awake (nowE _)

theorem WireOnly : sandglasslaw16_WireOnly.Pure := by
  intro k e n b kk f r v x s _ _ _ _ _ _ _ _ _ _
  obtain ⟨n, rfl⟩ := ex_mk n
  obtain ⟨b, rfl⟩ := ex_mk b
  obtain ⟨x, rfl⟩ := ex_mk x
  obtain ⟨l, rfl⟩ := ex_mk s
  apply roundsE
  unfold sandglasslaw16_WireOnly.f
  rw [mk_size, mk_size, mk_size, mk_size]
  by_cases h1 : (n.length : Int) > 20000
  · simp only [if_pos h1]
    exact skipO _ _ _ _ _ _ _ _ _ _
  simp only [if_neg h1]
  by_cases h2 : (b.length : Int) > 20000
  · simp only [if_pos h2]
    exact skipO _ _ _ _ _ _ _ _ _ _
  simp only [if_neg h2]
  by_cases h3 : (x.length : Int) > 20000
  · simp only [if_pos h3]
    exact skipO _ _ _ _ _ _ _ _ _ _
  simp only [if_neg h3]
  by_cases h4 : (l.length : Int) > 20000
  · rw [decide_eq_true h4]
    exact skipO _ _ _ _ _ _ _ _ _ _
  · rw [decide_eq_false h4]
    exact only0 k e n b kk f r v x l (by omega) (by omega) (by omega) (by omega)

end Go.Proofs.Ytmlggcpanjociaa.Pure
