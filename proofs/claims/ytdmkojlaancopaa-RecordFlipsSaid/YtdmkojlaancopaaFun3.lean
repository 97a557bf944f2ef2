import Derived.Test.YtdmkojlaancopaaFun2
namespace Go.Proofs.Ytdmkojlaancopaa.Fun
open Go.RowKit Go.Proofs.Ytdmkojlaancopaa.PAll Go.Proofs.YtdmkojlaancopaaW.PrintWords Go.Proofs.YtdmkojlaancopaaW.PrintLast SG

theorem ex_mks (ls : List ByteArray) : ∃ l : List By, ls = l.map mk := ⟨ls.map (·.data.toList), by rw [List.map_map]; exact (List.map_id ls).symm.trans (List.map_congr_left fun s _ => rfl)⟩

theorem rdOf_mk (ls : List By) (i : Nat) (h : i < ls.length) : rdOf ByteArray.empty (ls.map mk) (i : Int) = mk ls[i] := by
  simp [rdOf, List.getD_eq_getElem?_getD, h]

theorem bytesOf_app (a b : By) : bytesOf (mk a) ++ bytesOf (mk b) = bytesOf (mk (a ++ b)) := by simp [bytesOf, mk]

theorem str_bytesOf (a : By) : strOfNums (bytesOf (mk a)) = mk a := by
  rw [nums_mk]
  refine congrArg mk ?_
  simp only [bytesOf, mk_data, List.map_map]
  refine (List.map_congr_left (g := id) fun x _ => ?_).trans (List.map_id a)
  simp

theorem bytesOf_len (a : By) : (bytesOf (mk a)).length = a.length := by simp [bytesOf, mk]

/-- What a Log tells. -/
def logO (o : Option By) : ByteArray × Int := match o with
  | some s => (mk s, 0)
  | none => (mk [], 2)

theorem E_log0 (ls : List By) (hn : ls.length ≤ 1000) (hs : ∀ x ∈ ls, x.length ≤ 100000) (d : Nat) : ∀ (i : Nat) (acc : By), ls.length - i = d → acc.length ≤ 65536 →
    Ev (fun k => record_Log.l0 k (bytesOf (mk acc)) (ls.map mk) (ls.length : Int) (i : Int)) (logO (logR acc (ls.drop i))) := by
  induction d with
  | zero =>
    intro i acc hd ha
    refine Ev.step (f := fun k => _) (fun k => by rw [record_Log.l0]) ?_
    simp only [if_neg (show ¬ (i : Int) < (ls.length : Int) by omega)]
    rw [List.drop_eq_nil_of_le (by omega), str_bytesOf]
    exact Ev.now _
  | succ d ih =>
    intro i acc hd ha
    have hi : i < ls.length := by omega
    have hx := hs ls[i] (List.getElem_mem hi)
    refine Ev.step (f := fun k => _) (fun k => by rw [record_Log.l0]) ?_
    simp only [if_pos (show (i : Int) < (ls.length : Int) by omega), if_pos (show 0 ≤ (i : Int) by omega), List.length_map]
    rw [rdOf_mk ls i hi, List.drop_eq_getElem_cons hi]
    refine Ev.bind (E_Frame ls[i] (by omega)) ?_
    unfold frameA
    simp only [logR]
    by_cases h1 : 4096 < ls[i].length
    · simp only [if_pos h1, if_neg (show ¬ (2 : Int) = 0 by decide)]
      exact Ev.now _
    · simp only [if_neg h1, if_true, mk_size, frame_length, bytesOf_len]
      rw [w64 (by omega) (by omega)]
      by_cases h2 : 65536 < acc.length + (8 + ls[i].length)
      · simp only [if_pos h2, if_pos (show ((8 + ls[i].length : Nat) : Int) > 65536 - (acc.length : Int) by omega)]
        exact Ev.now _
      · simp only [if_neg h2, if_neg (show ¬ ((8 + ls[i].length : Nat) : Int) > 65536 - (acc.length : Int) by omega), if_pos (show acc.length + (8 + ls[i].length) < 140737488355328 by omega)]
        rw [bytesOf_app, w64 (by omega) (by omega), show (i : Int) + 1 = ((i + 1 : Nat) : Int) by omega]
        exact ih (i + 1) _ (by omega) (by rw [List.length_append, frame_length]; omega)

theorem E_Log (ls : List By) (hn : ls.length ≤ 1000) (hs : ∀ x ∈ ls, x.length ≤ 100000) : Ev (fun k => record_Log.f k (ls.map mk)) (logO (logR [] ls)) := by
  have := E_log0 ls hn hs ls.length 0 [] (by omega) (by simp)
  unfold record_Log.f
  rw [List.length_map]
  exact this

theorem E_rlog0 (ls : List By) (hn : ls.length ≤ 1000) (hs : ∀ x ∈ ls, x.length ≤ 100000) (d : Nat) : ∀ (i : Nat) (acc : By), ls.length - i = d → acc.length ≤ 65536 →
    Ev (fun k => sandglassref17_Log.l0 k (ls.map mk) (mk acc) (i : Int)) (logO (logR acc (ls.drop i))) := by
  induction d with
  | zero =>
    intro i acc hd ha
    refine Ev.step (f := fun k => _) (fun k => by rw [sandglassref17_Log.l0]) ?_
    simp only [List.length_map, if_neg (show ¬ (i : Int) < (ls.length : Int) by omega)]
    rw [List.drop_eq_nil_of_le (by omega)]
    exact Ev.now _
  | succ d ih =>
    intro i acc hd ha
    have hi : i < ls.length := by omega
    have hx := hs ls[i] (List.getElem_mem hi)
    refine Ev.step (f := fun k => _) (fun k => by rw [sandglassref17_Log.l0]) ?_
    simp only [List.length_map, if_pos (show (i : Int) < (ls.length : Int) by omega), if_pos (show 0 ≤ (i : Int) by omega)]
    rw [rdOf_mk ls i hi, List.drop_eq_getElem_cons hi]
    refine Ev.bind (E_rFrame ls[i] (by omega)) ?_
    unfold frameA
    simp only [logR]
    by_cases h1 : 4096 < ls[i].length
    · simp only [if_pos h1, if_neg (show ¬ (2 : Int) = 0 by decide)]
      exact Ev.now _
    · simp only [if_neg h1, if_true, mk_size, frame_length]
      rw [w64 (by omega) (by omega)]
      by_cases h2 : 65536 < acc.length + (8 + ls[i].length)
      · simp only [if_pos h2, if_pos (show (acc.length : Int) + ((8 + ls[i].length : Nat) : Int) > 65536 by omega)]
        exact Ev.now _
      · simp only [if_neg h2, if_neg (show ¬ (acc.length : Int) + ((8 + ls[i].length : Nat) : Int) > 65536 by omega), if_pos (show acc.length + (8 + ls[i].length) ≤ 9223372036854775807 by omega)]
        rw [mk_append, w64 (by omega) (by omega), show (i : Int) + 1 = ((i + 1 : Nat) : Int) by omega]
        exact ih (i + 1) _ (by omega) (by rw [List.length_append, frame_length]; omega)

theorem E_rLog (ls : List By) (hn : ls.length ≤ 1000) (hs : ∀ x ∈ ls, x.length ≤ 100000) : Ev (fun k => sandglassref17_Log.f k (ls.map mk)) (logO (logR [] ls)) := by
  have := E_rlog0 ls hn hs ls.length 0 [] (by omega) (by simp)
  unfold sandglassref17_Log.f
  exact this

theorem E_few0 (ls : List By) (hn : ls.length ≤ 60) (d : Nat) : ∀ (i : Nat), ls.length - i = d → ∃ b, Ev (fun k => sandglasslaw17_few.l0 k (ls.map mk) (i : Int)) b ∧ (b = true → ∀ x ∈ ls.drop i, x.length ≤ 5000) := by
  induction d with
  | zero =>
    intro i hd
    refine ⟨true, Ev.step (f := fun k => _) (fun k => by rw [sandglasslaw17_few.l0]) ?_, fun _ => by rw [List.drop_eq_nil_of_le (by omega)]; simp⟩
    simp only [List.length_map, if_neg (show ¬ (i : Int) < (ls.length : Int) by omega)]
    exact Ev.now _
  | succ d ih =>
    intro i hd
    have hi : i < ls.length := by omega
    by_cases hx : (ls[i].length : Int) > 5000
    · refine ⟨false, Ev.step (f := fun k => _) (fun k => by rw [sandglasslaw17_few.l0]) ?_, fun h => by cases h⟩
      simp only [List.length_map, if_pos (show (i : Int) < (ls.length : Int) by omega), if_pos (show 0 ≤ (i : Int) by omega)]
      rw [rdOf_mk ls i hi, mk_size]
      simp only [if_pos hx]
      exact Ev.now _
    · obtain ⟨b, h1, h2⟩ := ih (i + 1) (by omega)
      refine ⟨b, Ev.step (f := fun k => _) (fun k => by rw [sandglasslaw17_few.l0]) ?_, fun h x hm => ?_⟩
      · simp only [List.length_map, if_pos (show (i : Int) < (ls.length : Int) by omega), if_pos (show 0 ≤ (i : Int) by omega)]
        rw [rdOf_mk ls i hi, mk_size]
        simp only [if_neg hx]
        rw [w64 (by omega) (by omega), show (i : Int) + 1 = ((i + 1 : Nat) : Int) by omega]
        exact h1
      · rw [List.drop_eq_getElem_cons hi] at hm
        rcases List.mem_cons.1 hm with rfl | hm
        · omega
        · exact h2 h x hm

theorem E_few (ls : List By) (hm : ls.length ≤ 9223372036854775807) : ∃ b, Ev (fun k => sandglasslaw17_few.f k (ls.map mk)) b ∧ (b = true → ls.length ≤ 60 ∧ ∀ x ∈ ls, x.length ≤ 5000) := by
  unfold sandglasslaw17_few.f
  rw [List.length_map]
  by_cases h : (ls.length : Int) > 60
  · exact ⟨false, by simp only [if_pos h]; exact Ev.now _, fun h => by cases h⟩
  · obtain ⟨b, h1, h2⟩ := E_few0 ls (by omega) ls.length 0 (by omega)
    exact ⟨b, by simp only [if_neg h]; exact h1, fun hb => ⟨by omega, h2 hb⟩⟩

end Go.Proofs.Ytdmkojlaancopaa.Fun
