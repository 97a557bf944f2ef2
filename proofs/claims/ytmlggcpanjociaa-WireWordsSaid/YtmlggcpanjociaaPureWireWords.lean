/- Whatever the word and the bytes (not too long, as the statement's guard says): the word's bytes are the document's, or the error is; the word of the bytes is the document's, or the error is. No condition. -/
import Derived.Test.YtmlggcpanjociaaFunF2
import Derived.Test.YtmlggcpanjociaaPAllx34
namespace Go.Proofs.Ytmlggcpanjociaa.Pure
open Go.RowKit Go.Proofs.Ytmlggcpanjociaa.PAll Go.Proofs.YtmlggcpanjociaaW.PrintWords SG Go.Proofs.Ytmlggcpanjociaa.Fun Go.Proofs.Ytmlggcpanjociaa.Hlp

theorem skipW (y : ByteArray) (k f r v : Int) (x : ByteArray) : Ev (fun q => sandglasslaw16_WireWords.j0 q y true k f r v x) true := by
  refine Ev.step (f := fun k => _) (fun k => by rw [sandglasslaw16_WireWords.j0]) ?_
  simp only [if_true]
  exact Ev.bind E_awake (nowE _)

theorem mainW (k f r v : Int) (x l : Bs) (hx : x.length ≤ 20000) (hl : l.length ≤ 20000) : Ev (fun q => sandglasslaw16_WireWords.j0 q (mk l) false k f r v (mk x)) true := by
  refine Ev.step (f := fun k => _) (fun k => by rw [sandglasslaw16_WireWords.j0]) ?_
  simp only [if_neg (show ¬ false = true by decide)]
  refine Ev.bind (E_Word k f r v x (by omega)) (Ev.bind (E_rWord k f r v x (by omega)) (Ev.bind (E_ReadWord l (by omega)) (Ev.bind (E_rReadWord l (by omega)) ?_)))
  simp only [if_true, beq_self_eq_true, Bool.and_self]
  exact Ev.bind E_awake (nowE _)

theorem WireWords : sandglasslaw16_WireWords.Pure := by
  intro k f r v x s _ _ _ _ _ _
  obtain ⟨x, rfl⟩ := ex_mk x
  obtain ⟨l, rfl⟩ := ex_mk s
  apply roundsE
  unfold sandglasslaw16_WireWords.f
  rw [mk_size, mk_size]
  by_cases h1 : (x.length : Int) > 20000
  · simp only [if_pos h1]
    exact skipW _ _ _ _ _ _
  simp only [if_neg h1]
  by_cases h3 : (l.length : Int) > 20000
  · rw [decide_eq_true h3]
    exact skipW _ _ _ _ _ _
  · rw [decide_eq_false h3]
    exact mainW k f r v x l (by omega) (by omega)

end Go.Proofs.Ytmlggcpanjociaa.Pure
