/- Whatever the records (few enough, and not too long, as the statement's guard says) and wherever their log is cut: what is read of it are the records that are whole, and no others. No condition. -/
import Derived.Test.YtdmkojlaancopaaFun3
namespace Go.Proofs.Ytdmkojlaancopaa.Pure
open Go.RowKit Go.Proofs.Ytdmkojlaancopaa.PAll Go.Proofs.YtdmkojlaancopaaW.PrintWords Go.Proofs.YtdmkojlaancopaaW.PrintLast SG Go.Proofs.Ytdmkojlaancopaa.Fun

theorem cut_at (a : Int) (n : Nat) (hn : n ≤ 65536) : ∃ k : Nat, k ≤ n ∧ IntKind.u64.wrap (wrap64 ((n : Int) + 1)) ≠ 0 ∧ wrap64 (Int.tmod (IntKind.u64.wrap a) (IntKind.u64.wrap (wrap64 ((n : Int) + 1)))) = (k : Int) := by
  have e1 : wrap64 ((n : Int) + 1) = (n : Int) + 1 := w64 (by omega) (by omega)
  have wu : ∀ x : Int, IntKind.u64.wrap x = x % 18446744073709551616 := fun x => by simp [IntKind.wrap, IntKind.bits, IntKind.signed]
  have e2 : IntKind.u64.wrap ((n : Int) + 1) = (n : Int) + 1 := by rw [wu]; omega
  have h0 : 0 ≤ IntKind.u64.wrap a := by rw [wu]; omega
  rw [e1, e2]
  generalize IntKind.u64.wrap a = x at h0 ⊢
  rw [Int.tmod_eq_emod_of_nonneg h0]
  have h1 : 0 ≤ x % ((n : Int) + 1) := Int.emod_nonneg _ (by omega)
  have h2 : x % ((n : Int) + 1) < (n : Int) + 1 := Int.emod_lt_of_pos _ (by omega)
  refine ⟨(x % ((n : Int) + 1)).toNat, by omega, by omega, ?_⟩
  rw [w64 (by omega) (by omega)]
  omega

theorem RecordCut : sandglasslaw17_RecordCut.Pure := by
  intro s a hn _ _
  obtain ⟨ls, rfl⟩ := ex_mks s
  rw [List.length_map] at hn
  unfold maxLen at hn
  obtain ⟨b, h1, h2⟩ := E_few ls (by omega)
  apply Ev.rounds
  unfold sandglasslaw17_RecordCut.f
  refine Ev.bind h1 ?_
  cases b with
  | false => exact Ev.bind E_awake (Ev.now _)
  | true =>
    obtain ⟨h3, h4⟩ := h2 rfl
    have hb : ∀ x ∈ ls, x.length ≤ 100000 := fun x hx => by have := h4 x hx; omega
    simp only [if_true]
    refine Ev.bind (E_Log ls (by omega) hb) ?_
    cases hL : logR [] ls with
    | none =>
      simp only [logO]
      exact Ev.bind E_awake (Ev.now _)
    | some t =>
      obtain ⟨e, h5, h6⟩ := logR_some hL
      rw [List.nil_append] at e
      subst e
      have h7 := h6 (by simp)
      simp only [logO, if_true, mk_size]
      obtain ⟨k, hk, hne, he⟩ := cut_at a (flat ls).length h7
      obtain ⟨m, hm, hp, hle, hgt⟩ := pre_cut ls k h5 hk
      rw [he]
      have hlen : (flat (ls.take m)).length ≤ (flat ls).length := by omega
      simp only [if_neg hne, if_pos (show 0 ≤ (k : Int) by omega), if_pos (show (k : Int) ≤ ((flat ls).length : Int) by omega), Int.toNat_natCast, mk_extract, List.drop_zero, Nat.sub_zero]
      refine Ev.bind (E_Prefix _ (by rw [List.length_take]; omega)) ?_
      unfold preA
      rw [hp]
      have hl : (ls.take m).length = m := by rw [List.length_take]; omega
      simp only [List.length_map, hl, if_neg (show ¬ (m : Int) > (ls.length : Int) by omega), if_pos (show 0 ≤ (m : Int) by omega), if_pos (show (m : Int) ≤ (ls.length : Int) by omega)]
      rw [← List.map_take]
      refine Ev.bind (E_Texts _ (by rw [List.length_map, hl]; omega)) ?_
      have hmem : ∀ (j : Nat), ∀ x ∈ ls.take j, x.length ≤ 4096 := fun j x hx => h5 x (List.mem_of_mem_take hx)
      have hpre : ∀ j, (flat (ls.take j)).length ≤ 65536 := by
        intro j
        have : flat ls = flat (ls.take j) ++ flat (ls.drop j) := by rw [← flat_append, List.take_append_drop]
        have := congrArg List.length this
        rw [List.length_append] at this
        omega
      have hlog : ∀ j, Ev (fun k => record_Log.f k ((ls.take j).map mk)) (mk (flat (ls.take j)), 0) := by
        intro j
        have := E_Log (ls.take j) (by rw [List.length_take]; omega) (fun x hx => hb x (List.mem_of_mem_take hx))
        rw [logR_of (hmem j) (by simpa using hpre j), List.nil_append] at this
        exact this
      refine Ev.step (f := fun k => _) (fun k => by rw [sandglasslaw17_RecordCut.j0]) ?_
      refine Ev.bind (hlog m) ?_
      simp only [mk_size, if_true]
      refine Ev.step (f := fun k => _) (fun k => by rw [sandglasslaw17_RecordCut.j1]) ?_
      simp only [if_neg (show ¬ decide (((flat (ls.take m)).length : Int) > (k : Int)) = true by rw [decide_eq_true_iff]; omega), List.length_map, hl]
      by_cases hlt : m < ls.length
      · have := hgt hlt
        rw [w64 (by omega) (by omega), show (m : Int) + 1 = ((m + 1 : Nat) : Int) by omega]
        simp only [if_pos (show (m : Int) < (ls.length : Int) by omega), if_pos (show 0 ≤ ((m + 1 : Nat) : Int) by omega), if_pos (show ((m + 1 : Nat) : Int) ≤ (ls.length : Int) by omega), Int.toNat_natCast]
        rw [← List.map_take]
        refine Ev.bind (hlog (m + 1)) ?_
        simp only [mk_size, if_pos (show ((flat (ls.take (m + 1))).length : Int) > (k : Int) by omega)]
        exact Ev.bind E_awake (Ev.now _)
      · simp only [if_neg (show ¬ (m : Int) < (ls.length : Int) by omega)]
        exact Ev.bind E_awake (Ev.now _)

end Go.Proofs.Ytdmkojlaancopaa.Pure
