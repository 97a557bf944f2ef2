/- Whatever the bytes: the first record is the document's, or the error is; so are all records from the front on, and the chapter's example holds. No condition. -/
import Derived.Test.YtdmkojlaancopaaFun2
namespace Go.Proofs.Ytdmkojlaancopaa.Pure
open Go.RowKit Go.Proofs.Ytdmkojlaancopaa.PAll Go.Proofs.YtdmkojlaancopaaW.PrintWords Go.Proofs.YtdmkojlaancopaaW.PrintLast SG Go.Proofs.Ytdmkojlaancopaa.Fun

theorem RecordNexts : sandglasslaw17_RecordNexts.Pure := by
  intro s hs
  obtain ⟨l, rfl⟩ := ex_mk s
  rw [mk_size] at hs
  apply Ev.rounds
  unfold sandglasslaw17_RecordNexts.f
  rw [mk_size]
  by_cases h : (l.length : Int) > 10000
  · simp only [if_pos h]
    exact Ev.bind E_awake (Ev.now _)
  · simp only [if_neg h]
    refine Ev.bind (E_Next l hs) (Ev.bind (E_rNext l hs) (Ev.bind (E_Prefix l (by omega)) (Ev.bind (E_rPrefix l (by omega)) ?_)))
    simp only [if_true]
    refine Ev.bind (E_Texts _ ?_) ?_
    · have := pre_count l.length l rfl
      unfold preA
      rw [List.length_map]
      omega
    · simp only [if_true]
      exact Ev.bind E_awake (Ev.now _)

end Go.Proofs.Ytdmkojlaancopaa.Pure
