import Derived.Test.YtjmdigfinkkelaaWalF
namespace Go.Proofs.Ytjmdigfinkkelaa.Wal
open Go.RowKit Go.Proofs.Ytjmdigfinkkelaa.PAll Go.Proofs.YtjmdigfinkkelaaW.PrintWords Go.Proofs.YtjmdigfinkkelaaW.PrintLast Go.Proofs.YtjmdigfinkkelaaW.PrintMore SG Go.Proofs.Ytjmdigfinkkelaa.Fun

theorem kp_zero (k : Int) : kp 0 k = false := by
  unfold kp
  rw [Int.zero_ediv]
  have : (Go.bits .and .u64 0 1 == 1) = false := by decide
  rw [this, Bool.and_false]

theorem crB_zero (l : By) (sy : Nat) (h : sy ≤ l.length) : crB 0 l sy = l.take sy := by
  obtain ⟨s1, s2, s3⟩ := crB_spec 0 l sy h
  have e := congrArg List.length (crB_eq 0 l sy)
  rw [bytesOf_len] at e
  unfold crashL at e
  rw [tl_none _ _ _ _ _ _ (fun i _ _ => kp_zero _), List.length_take] at e
  rw [← s3, List.take_of_length_le (by omega)]

/-- Where nothing is kept what was sure is left. -/
theorem crL_zero (all : List By) (sure : Nat) (h : ∀ x ∈ all, x.length ≤ 4096) : crL 0 all sure = all.take sure := by
  unfold crL
  rw [crB_zero _ _ (flat_take_le all sure)]
  have hf : (flat all).take (flat (all.take sure)).length = flat (all.take sure) := by
    have := flat_append (all.take sure) (all.drop sure)
    rw [List.take_append_drop] at this
    rw [this, List.take_left]
  have hp := pre_append (all.take sure) (fun x hx => h x (List.mem_of_mem_take hx)) []
  rw [List.append_nil] at hp
  rw [hf, hp]
  show all.take sure ++ (pre []).1 = _
  rw [pre_other (by decide), List.append_nil]
end Go.Proofs.Ytjmdigfinkkelaa.Wal
