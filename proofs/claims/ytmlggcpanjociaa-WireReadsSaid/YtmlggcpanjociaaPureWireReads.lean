/- Whatever the bytes: the texts that are read of them are the document's, or the error is, and the chapter's example holds. No condition. -/
import Derived.Test.YtmlggcpanjociaaWFun2
import Derived.Test.YtmlggcpanjociaaPAllx24
namespace Go.Proofs.Ytmlggcpanjociaa.Pure
open Go.RowKit Go.Proofs.Ytmlggcpanjociaa.PAll Go.Proofs.YtmlggcpanjociaaW.PrintWords SG Go.Proofs.Ytmlggcpanjociaa.Fun Go.Proofs.Ytmlggcpanjociaa.Hlp

theorem WireReads : sandglasslaw16_WireReads.Pure := by
  intro s hs
  obtain ⟨l, rfl⟩ := ex_mk s
  apply roundsE
  unfold sandglasslaw16_WireReads.f
  rw [mk_size]
  by_cases h : (l.length : Int) > 20000
  · simp only [if_pos h]
    exact Ev.bind E_awake (nowE _)
  · simp only [if_neg h]
    have hl : l.length ≤ 1000000 := by omega
    refine Ev.bind (E_Read l hl) (Ev.bind (E_rRead l hl) (Ev.bind (E_same _ (readO_len l hl)) ?_))
    simp only [if_true]
    exact Ev.bind E_awake (nowE _)

end Go.Proofs.Ytmlggcpanjociaa.Pure
