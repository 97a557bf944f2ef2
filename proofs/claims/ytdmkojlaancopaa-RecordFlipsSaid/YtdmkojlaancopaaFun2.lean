import Derived.Test.YtdmkojlaancopaaFun
namespace Go.Proofs.Ytdmkojlaancopaa.Fun
open Go.RowKit Go.Proofs.Ytdmkojlaancopaa.PAll Go.Proofs.YtdmkojlaancopaaW.PrintWords Go.Proofs.YtdmkojlaancopaaW.PrintLast SG

theorem num_i64 (l : By) : Go.bits .or .i64 (Go.bits .or .i64 (Go.bits .or .i64 (wrap64 ((wrap64 (bt (mk l) 0)) * 16777216)) (wrap64 ((wrap64 (bt (mk l) 1)) * 65536))) (wrap64 ((wrap64 (bt (mk l) 2)) * 256))) (wrap64 (bt (mk l) 3)) = (num4 l : Int) := by
  rw [or4_i64 _ _ _ _ (bt_mk_range l 0) (bt_mk_range l 1) (bt_mk_range l 2) (bt_mk_range l 3)]
  simp only [bt_mk, num4]
  simp only [Int.toNat_zero, show (1 : Int).toNat = 1 from rfl, show (2 : Int).toNat = 2 from rfl, show (3 : Int).toNat = 3 from rfl]
  omega

theorem E_rNext (l : By) (hl : l.length ≤ 140737488351232) : Ev (fun k => sandglassref17_Next.f k (mk l)) (nextA l) := by
  unfold sandglassref17_Next.f nextA
  rw [mk_size]
  by_cases h4 : l.length < 4
  · have e : nextR l = ([], 0, 2) := by unfold nextR; rw [if_pos h4]
    rw [e]
    simp only [if_pos (show (l.length : Int) < 4 by omega)]
    exact Ev.now _
  rw [num_i64]
  have hlt := num4_lt l
  have hfr := frame_iff l
  have hR : nextR l = if 4096 < num4 l then ([], 0, 3) else if l.length < 8 + num4 l then ([], 0, 2) else
    if (sum (l.take 4 ++ (l.drop 8).take (num4 l))).toNat = num4 (l.drop 4) then ((l.drop 8).take (num4 l), 8 + num4 l, 0) else ([], 0, 4) := by unfold nextR; rw [if_neg h4]
  rw [hR]
  clear hR
  generalize num4 l = n at hlt hfr ⊢
  simp only [if_neg (show ¬ (l.length : Int) < 4 by omega), if_pos (show (0 : Int) < (l.length : Int) by omega), if_pos (show (1 : Int) < (l.length : Int) by omega), if_pos (show (2 : Int) < (l.length : Int) by omega), if_pos (show (3 : Int) < (l.length : Int) by omega)]
  by_cases hm : 4096 < n
  · simp only [if_pos (show (n : Int) > 4096 by omega), if_pos hm]
    exact Ev.now _
  have w1 : wrap64 (8 + (n : Int)) = ((8 + n : Nat) : Int) := by
    rw [w64 (by omega) (by omega)]
    omega
  simp only [if_neg (show ¬ (n : Int) > 4096 by omega), if_neg hm, w1]
  by_cases h8 : l.length < 8 + n
  · simp only [if_pos (show (l.length : Int) < ((8 + n : Nat) : Int) by omega), if_pos h8]
    exact Ev.now _
  simp only [if_neg (show ¬ (l.length : Int) < ((8 + n : Nat) : Int) by omega), if_neg h8, if_pos (show (8 : Int) ≤ ((8 + n : Nat) : Int) by omega), if_pos (show ((8 + n : Nat) : Int) ≤ (l.length : Int) by omega), if_pos (show (0 : Int) ≤ ((8 + n : Nat) : Int) by omega)]
  rw [mk_extract, mk_extract]
  simp only [Int.toNat_natCast, Nat.add_sub_cancel_left, List.drop_zero, Nat.sub_zero]
  have hfr := hfr (by omega)
  refine Ev.bind (E_rFrame ((l.drop 8).take n) (by rw [List.length_take, List.length_drop]; omega)) ?_
  unfold frameA
  rw [if_neg (show ¬ 4096 < ((l.drop 8).take n).length by rw [List.length_take, List.length_drop]; omega), mk_toList, mk_toList]
  by_cases he : frame ((l.drop 8).take n) = l.take (8 + n)
  · rw [if_pos he, if_pos (hfr.1 he)]
    exact Ev.now _
  · rw [if_neg he, if_neg (fun h => he (hfr.2 h))]
    exact Ev.now _

/-- What a Prefix tells. -/
def preA (l : By) : List ByteArray × Int := ((pre l).1.map mk, ((pre l).2 : Int))

theorem pre_count (d : Nat) : ∀ (l : By), l.length = d → (pre l).2 ≤ l.length ∧ (pre l).1.length ≤ (pre l).2 := by
  induction d using Nat.strongRecOn with
  | _ d ih =>
    intro l h
    by_cases h0 : (nextR l).2.2 = 0
    · obtain ⟨_, h2, h3, _⟩ := nextR_ok h0
      have := ih (l.drop (nextR l).2.1).length (by rw [List.length_drop]; omega) _ rfl
      rw [List.length_drop] at this
      rw [pre_ok h0]
      simp only [List.length_cons]
      omega
    · rw [pre_other h0]
      simp

theorem E_pre0 (l : By) (hl : l.length ≤ 100000) (d : Nat) : ∀ (i : Nat) (out : List ByteArray), l.length - i = d → i ≤ l.length → out.length + d ≤ 100000 →
    Ev (fun k => record_Prefix.l0 k (mk l) out (i : Int)) (out ++ (preA (l.drop i)).1, (i : Int) + (preA (l.drop i)).2) := by
  induction d using Nat.strongRecOn with
  | _ d ih =>
    intro i out hd hi ho
    refine Ev.step (f := fun k => _) (fun k => by rw [record_Prefix.l0]) ?_
    simp only [mk_size, if_pos (show (0 : Int) ≤ (i : Int) by omega), if_pos (show (i : Int) ≤ (l.length : Int) by omega), Int.toNat_natCast, mk_extract]
    rw [List.take_of_length_le (l := l.drop i) (by rw [List.length_drop]; omega)]
    refine Ev.bind (E_Next (l.drop i) (by rw [List.length_drop]; omega)) ?_
    unfold nextA preA
    by_cases h0 : (nextR (l.drop i)).2.2 = 0
    · obtain ⟨_, h2, h3, _⟩ := nextR_ok h0
      rw [List.length_drop] at h3
      rw [pre_ok h0]
      simp only [h0, if_pos (show ((0 : Nat) : Int) = 0 from rfl), if_pos (show out.length < 8796093022208 by omega)]
      rw [w64 (by omega) (by omega), show (i : Int) + ((nextR (l.drop i)).2.1 : Int) = ((i + (nextR (l.drop i)).2.1 : Nat) : Int) by omega]
      have := ih (l.length - (i + (nextR (l.drop i)).2.1)) (by omega) (i + (nextR (l.drop i)).2.1) (out ++ [mk (nextR (l.drop i)).1]) rfl (by omega) (by simp only [List.length_append, List.length_cons, List.length_nil]; omega)
      rw [← List.drop_drop] at this
      unfold preA at this
      simp only [List.append_assoc, List.cons_append, List.nil_append] at this
      simp only [List.map_cons]
      rw [show ((i : Int) + (((nextR (l.drop i)).2.1 + (pre ((l.drop i).drop (nextR (l.drop i)).2.1)).2 : Nat) : Int)) = ((i + (nextR (l.drop i)).2.1 : Nat) : Int) + ((pre ((l.drop i).drop (nextR (l.drop i)).2.1)).2 : Int) by omega]
      exact this
    · rw [pre_other h0]
      simp only [if_neg (show ¬ ((nextR (l.drop i)).2.2 : Int) = 0 by omega), List.map_nil, List.append_nil]
      rw [show (i : Int) + ((0 : Nat) : Int) = (i : Int) by omega]
      exact Ev.now _

theorem E_Prefix (l : By) (hl : l.length ≤ 100000) : Ev (fun k => record_Prefix.f k (mk l)) (preA l) := by
  have := E_pre0 l hl l.length 0 [] (by omega) (by omega) (by simpa using hl)
  unfold record_Prefix.f
  simpa using this

theorem E_rpre0 (l : By) (hl : l.length ≤ 100000) (d : Nat) : ∀ (i : Nat) (out : List ByteArray), l.length - i = d → i ≤ l.length → out.length + d ≤ 100000 →
    Ev (fun k => sandglassref17_Prefix.l0 k (mk l) out (i : Int)) (out ++ (preA (l.drop i)).1, (i : Int) + (preA (l.drop i)).2) := by
  induction d using Nat.strongRecOn with
  | _ d ih =>
    intro i out hd hi ho
    refine Ev.step (f := fun k => _) (fun k => by rw [sandglassref17_Prefix.l0]) ?_
    simp only [mk_size, if_pos (show (0 : Int) ≤ (i : Int) by omega), if_pos (show (i : Int) ≤ (l.length : Int) by omega), Int.toNat_natCast, mk_extract]
    rw [List.take_of_length_le (l := l.drop i) (by rw [List.length_drop]; omega)]
    refine Ev.bind (E_rNext (l.drop i) (by rw [List.length_drop]; omega)) ?_
    unfold nextA preA
    by_cases h0 : (nextR (l.drop i)).2.2 = 0
    · obtain ⟨_, h2, h3, _⟩ := nextR_ok h0
      rw [List.length_drop] at h3
      rw [pre_ok h0]
      simp only [h0, if_pos (show ((0 : Nat) : Int) = 0 from rfl), if_pos (show out.length < 8796093022208 by omega)]
      rw [w64 (by omega) (by omega), show (i : Int) + ((nextR (l.drop i)).2.1 : Int) = ((i + (nextR (l.drop i)).2.1 : Nat) : Int) by omega]
      have := ih (l.length - (i + (nextR (l.drop i)).2.1)) (by omega) (i + (nextR (l.drop i)).2.1) (out ++ [mk (nextR (l.drop i)).1]) rfl (by omega) (by simp only [List.length_append, List.length_cons, List.length_nil]; omega)
      rw [← List.drop_drop] at this
      unfold preA at this
      simp only [List.append_assoc, List.cons_append, List.nil_append] at this
      simp only [List.map_cons]
      rw [show ((i : Int) + (((nextR (l.drop i)).2.1 + (pre ((l.drop i).drop (nextR (l.drop i)).2.1)).2 : Nat) : Int)) = ((i + (nextR (l.drop i)).2.1 : Nat) : Int) + ((pre ((l.drop i).drop (nextR (l.drop i)).2.1)).2 : Int) by omega]
      exact this
    · rw [pre_other h0]
      simp only [if_neg (show ¬ ((nextR (l.drop i)).2.2 : Int) = 0 by omega), List.map_nil, List.append_nil]
      rw [show (i : Int) + ((0 : Nat) : Int) = (i : Int) by omega]
      exact Ev.now _

theorem E_rPrefix (l : By) (hl : l.length ≤ 100000) : Ev (fun k => sandglassref17_Prefix.f k (mk l)) (preA l) := by
  have := E_rpre0 l hl l.length 0 [] (by omega) (by omega) (by simpa using hl)
  unfold sandglassref17_Prefix.f
  simpa using this

theorem E_Texts0 (a : List ByteArray) (ha : a.length ≤ 9223372036854775806) (d : Nat) : ∀ (i : Nat), a.length - i = d → Ev (fun k => sandglassref01_Texts.l0 k a a (i : Int)) true := by
  induction d with
  | zero =>
    intro i h
    refine Ev.step (f := fun k => _) (fun k => by rw [sandglassref01_Texts.l0]) ?_
    simp only [if_neg (show ¬ (i : Int) < (a.length : Int) by omega)]
    exact Ev.now _
  | succ d ih =>
    intro i h
    refine Ev.step (f := fun k => _) (fun k => by rw [sandglassref01_Texts.l0]) ?_
    simp only [if_pos (show (i : Int) < (a.length : Int) by omega), if_pos (show 0 ≤ (i : Int) by omega), if_true]
    rw [w64 (by omega) (by omega), show (i : Int) + 1 = ((i + 1 : Nat) : Int) by omega]
    exact ih (i + 1) (by omega)

theorem E_Texts (a : List ByteArray) (ha : a.length ≤ 9223372036854775806) : Ev (fun k => sandglassref01_Texts.f k a a) true := by
  unfold sandglassref01_Texts.f
  simp only [if_true]
  exact E_Texts0 a ha a.length 0 (by omega)

theorem E_awake : Ev (fun k => sandglasslaw17_awake.f k) true := by
  refine Ev.of sandglasslaw17_awake.mono (k := 200) ?_
  unfold sandglasslaw17_awake.f
  simp only [toList_eq]
  kernel_rfl

end Go.Proofs.Ytdmkojlaancopaa.Fun
