/- Whatever the text: its sum is the document's, its frame is the document's or the error is, and the chapter's example holds. No condition. -/
import Derived.Test.YtdmkojlaancopaaFun2
namespace Go.Proofs.Ytdmkojlaancopaa.Pure
open Go.RowKit Go.Proofs.Ytdmkojlaancopaa.PAll Go.Proofs.YtdmkojlaancopaaW.PrintWords Go.Proofs.YtdmkojlaancopaaW.PrintLast SG Go.Proofs.Ytdmkojlaancopaa.Fun

theorem RecordSums : sandglasslaw17_RecordSums.Pure := by
  intro s hs
  obtain ⟨l, rfl⟩ := ex_mk s
  rw [mk_size] at hs
  apply Ev.rounds
  unfold sandglasslaw17_RecordSums.f
  rw [mk_size]
  by_cases h : (l.length : Int) > 10000
  · simp only [if_pos h]
    exact Ev.bind E_awake (Ev.now _)
  · simp only [if_neg h]
    refine Ev.bind (E_Frame l hs) (Ev.bind (E_rFrame l hs) (Ev.bind (E_Sum l hs) (Ev.bind (E_rSum l hs) ?_)))
    simp only [if_true]
    exact Ev.bind E_awake (Ev.now _)

end Go.Proofs.Ytdmkojlaancopaa.Pure
