/- Whatever the records (few enough, and not too long, as the statement's guard says): their bytes are the document's, or the error is, and the chapter's example holds. No condition. -/
import Derived.Test.YtdmkojlaancopaaFun3
namespace Go.Proofs.Ytdmkojlaancopaa.Pure
open Go.RowKit Go.Proofs.Ytdmkojlaancopaa.PAll Go.Proofs.YtdmkojlaancopaaW.PrintWords Go.Proofs.YtdmkojlaancopaaW.PrintLast SG Go.Proofs.Ytdmkojlaancopaa.Fun

theorem RecordLogs : sandglasslaw17_RecordLogs.Pure := by
  intro s hn _
  obtain ⟨ls, rfl⟩ := ex_mks s
  rw [List.length_map] at hn
  unfold maxLen at hn
  obtain ⟨b, h1, h2⟩ := E_few ls (by omega)
  apply Ev.rounds
  unfold sandglasslaw17_RecordLogs.f
  refine Ev.bind h1 ?_
  cases b with
  | false => exact Ev.bind E_awake (Ev.now _)
  | true =>
    obtain ⟨h3, h4⟩ := h2 rfl
    simp only [if_true]
    refine Ev.bind (E_Log ls (by omega) fun x hx => by have := h4 x hx; omega) (Ev.bind (E_rLog ls (by omega) fun x hx => by have := h4 x hx; omega) ?_)
    simp only [if_true]
    exact Ev.bind E_awake (Ev.now _)

end Go.Proofs.Ytdmkojlaancopaa.Pure
