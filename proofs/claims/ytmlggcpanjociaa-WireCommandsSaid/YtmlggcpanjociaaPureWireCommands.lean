/- Whatever the command and the bytes (not too long, as the statement's guard says): the command's bytes are the document's, or the error is; the command of the bytes is the document's, or the error is. No condition. -/
import Derived.Test.YtmlggcpanjociaaFunC
import Derived.Test.YtmlggcpanjociaaPAllx30
namespace Go.Proofs.Ytmlggcpanjociaa.Pure
open Go.RowKit Go.Proofs.Ytmlggcpanjociaa.PAll Go.Proofs.YtmlggcpanjociaaW.PrintWords SG Go.Proofs.Ytmlggcpanjociaa.Fun Go.Proofs.Ytmlggcpanjociaa.Hlp

theorem skip (x : ByteArray) (k e : Int) (n b : ByteArray) : Ev (fun q => sandglasslaw16_WireCommands.j0 q x true k e n b) true := by
  refine Ev.step (f := fun k => _) (fun k => by rw [sandglasslaw16_WireCommands.j0]) ?_
  simp only [if_true]
  exact Ev.bind E_awake (nowE _)

theorem main (k e : Int) (n b l : Bs) (hn : n.length ≤ 20000) (hb : b.length ≤ 20000) (hl : l.length ≤ 20000) : Ev (fun q => sandglasslaw16_WireCommands.j0 q (mk l) false k e (mk n) (mk b)) true := by
  refine Ev.step (f := fun k => _) (fun k => by rw [sandglasslaw16_WireCommands.j0]) ?_
  simp only [if_neg (show ¬ false = true by decide)]
  refine Ev.bind (E_Command k e n b (by omega) (by omega)) (Ev.bind (E_rCommand k e n b (by omega) (by omega)) (Ev.bind (E_ReadCommand l (by omega)) (Ev.bind (E_rReadCommand l (by omega)) ?_)))
  simp only [if_true, beq_self_eq_true, Bool.and_self]
  exact Ev.bind E_awake (nowE _)

theorem WireCommands : sandglasslaw16_WireCommands.Pure := by
  intro k e n b s _ _ _ _ _
  obtain ⟨n, rfl⟩ := ex_mk n
  obtain ⟨b, rfl⟩ := ex_mk b
  obtain ⟨l, rfl⟩ := ex_mk s
  apply roundsE
  unfold sandglasslaw16_WireCommands.f
  rw [mk_size, mk_size, mk_size]
  by_cases h1 : (n.length : Int) > 20000
  · simp only [if_pos h1]
    exact skip _ _ _ _ _
  simp only [if_neg h1]
  by_cases h2 : (b.length : Int) > 20000
  · simp only [if_pos h2]
    exact skip _ _ _ _ _
  simp only [if_neg h2]
  by_cases h3 : (l.length : Int) > 20000
  · rw [decide_eq_true h3]
    exact skip _ _ _ _ _
  · rw [decide_eq_false h3]
    exact main k e n b l (by omega) (by omega) (by omega)

end Go.Proofs.Ytmlggcpanjociaa.Pure
