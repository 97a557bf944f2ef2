import Derived.Test.YtjmdigfinkkelaaRFun
import Derived.Test.YtjmdigfinkkelaaPAllx25
import Derived.Test.YtjmdigfinkkelaaPAllx23
namespace Go.Proofs.Ytjmdigfinkkelaa.Fun
open Go.RowKit Go.Proofs.Ytjmdigfinkkelaa.PAll Go.Proofs.YtjmdigfinkkelaaW.PrintWords SG

theorem ref_l1 (m : Nat) (v : BitVec 32) (s : ByteArray) (i : Int) : sandglassref17_Sum.l1 (m + 9) s (v.toNat : Int) i 0 = sandglassref17_Sum.l0 m s ((step8 v).toNat : Int) (wrap64 (i + 1)) := by
  have step : ∀ (k : Nat) (v : BitVec 32) (j : Int), j < 8 → sandglassref17_Sum.l1 (k + 1) s (v.toNat : Int) i j = sandglassref17_Sum.l1 k s ((stepB v).toNat : Int) i (wrap64 (j + 1)) := by
    intro k v j hj
    rw [sandglassref17_Sum.l1, if_pos hj]
    by_cases h : Go.bits .and .u32 (v.toNat : Int) 1 = 1
    · rw [if_pos h, step_ref1 v h]
    · rw [if_neg h, step_ref0 v h]
  have w0 : wrap64 (0 + 1) = 1 := by unfold wrap64; omega
  have w1 : wrap64 (1 + 1) = 2 := by unfold wrap64; omega
  have w2 : wrap64 (2 + 1) = 3 := by unfold wrap64; omega
  have w3 : wrap64 (3 + 1) = 4 := by unfold wrap64; omega
  have w4 : wrap64 (4 + 1) = 5 := by unfold wrap64; omega
  have w5 : wrap64 (5 + 1) = 6 := by unfold wrap64; omega
  have w6 : wrap64 (6 + 1) = 7 := by unfold wrap64; omega
  have w7 : wrap64 (7 + 1) = 8 := by unfold wrap64; omega
  rw [step _ _ _ (by decide), w0]
  rw [step _ _ _ (by decide), w1]
  rw [step _ _ _ (by decide), w2]
  rw [step _ _ _ (by decide), w3]
  rw [step _ _ _ (by decide), w4]
  rw [step _ _ _ (by decide), w5]
  rw [step _ _ _ (by decide), w6]
  rw [step _ _ _ (by decide), w7]
  rw [sandglassref17_Sum.l1, if_neg (by decide)]
  rfl
theorem ref_l0 (l : By) (hl : l.length ≤ 140737488351232) (d : Nat) : ∀ (i : Nat) (v : BitVec 32), i + d = l.length → sandglassref17_Sum.l0 (10 * d + 1) (mk l) (v.toNat : Int) (i : Int) = some ((crc v (l.drop i) ^^^ BitVec.allOnes 32).toNat : Int) := by
  induction d with
  | zero =>
    intro i v h
    rw [sandglassref17_Sum.l0, if_neg (by rw [mk_size]; omega), List.drop_eq_nil_of_le (by omega), not_int']
    rfl
  | succ d ih =>
    intro i v h
    have hi : i < l.length := by omega
    rw [show 10 * (d + 1) + 1 = (10 * d + 1 + 9) + 1 by omega, sandglassref17_Sum.l0, if_pos (by rw [mk_size]; omega), if_pos (by omega)]
    have e : bt (mk l) (i : Int) = ((l[i]).toNat : Int) := by
      rw [bt_mk, List.getD_eq_getElem?_getD, Int.toNat_natCast, List.getElem?_eq_getElem hi]
      rfl
    rw [e, byte_int, ref_l1, w64 (by omega) (by omega), show (i : Int) + 1 = ((i + 1 : Nat) : Int) by omega, ih (i + 1) _ (by omega), List.drop_eq_getElem_cons hi]
    rfl
theorem E_rSum (l : By) (hl : l.length ≤ 140737488351232) : Ev (fun k => sandglassref17_Sum.f k (mk l)) ((sum l).toNat : Int) := by
  refine Ev.of (sandglassref17_Sum.mono _) (k := 10 * l.length + 1) ?_
  have := ref_l0 l hl l.length 0 (BitVec.allOnes 32) (by omega)
  unfold sandglassref17_Sum.f
  rw [all_int]
  exact this
theorem rfour_f (n : Nat) : sandglassref17_four.f (n : Int) = some (mk (four n)) := by
  unfold sandglassref17_four.f
  rw [four_nums]

/-- A record's bytes, or the error. -/
theorem E_rFrame (s : By) (hl : s.length ≤ 140737488351232) : Ev (fun k => sandglassref17_Frame.f k (mk s)) (frameA s) := by
  unfold sandglassref17_Frame.f frameA
  rw [mk_size]
  by_cases h : 4096 < s.length
  · simp only [if_pos (show (s.length : Int) > 4096 by omega), if_pos h]
    exact Ev.now _
  · simp only [if_neg (show ¬ (s.length : Int) > 4096 by omega), if_neg h]
    rw [show (s.length : Int) % 4294967296 = (s.length : Int) by omega, rfour_f]
    simp only [bindS, mk_append, mk_size]
    simp only [if_pos (show (four s.length).length + s.length ≤ 9223372036854775807 by simp only [four_length]; omega)]
    refine Ev.bind (E_rSum _ (by simp only [List.length_append, four_length]; omega)) ?_
    rw [rfour_f, Option.bind_some, mk_append, mk_append, mk_size, mk_size, if_pos (by simp only [four_length]; omega), if_pos (by simp only [List.length_append, four_length]; omega), List.append_assoc]
    exact Ev.now _
theorem num_i64 (l : By) : Go.bits .or .i64 (Go.bits .or .i64 (Go.bits .or .i64 (wrap64 ((wrap64 (bt (mk l) 0)) * 16777216)) (wrap64 ((wrap64 (bt (mk l) 1)) * 65536))) (wrap64 ((wrap64 (bt (mk l) 2)) * 256))) (wrap64 (bt (mk l) 3)) = (num4 l : Int) := by
  rw [or4_i64 _ _ _ _ (bt_mk_range l 0) (bt_mk_range l 1) (bt_mk_range l 2) (bt_mk_range l 3)]
  simp only [bt_mk, num4]
  simp only [Int.toNat_zero, show (1 : Int).toNat = 1 from rfl, show (2 : Int).toNat = 2 from rfl, show (3 : Int).toNat = 3 from rfl]
  omega
theorem E_rNext (l : By) (hl : l.length ≤ 140737488351232) : Ev (fun k => sandglassref17_Next.f k (mk l)) (nextA l) := by
  unfold sandglassref17_Next.f nextA
  rw [mk_size]
  by_cases h4 : l.length < 4
  · have e : nextR l = ([], 0, 2) := by unfold nextR; rw [if_pos h4]
    rw [e]
    simp only [if_pos (show (l.length : Int) < 4 by omega)]
    exact Ev.now _
  rw [num_i64]
  have hlt := num4_lt l
  have hfr := frame_iff l
  have hR : nextR l = if 4096 < num4 l then ([], 0, 3) else if l.length < 8 + num4 l then ([], 0, 2) else
    if (sum (l.take 4 ++ (l.drop 8).take (num4 l))).toNat = num4 (l.drop 4) then ((l.drop 8).take (num4 l), 8 + num4 l, 0) else ([], 0, 4) := by unfold nextR; rw [if_neg h4]
  rw [hR]
  clear hR
  generalize num4 l = n at hlt hfr ⊢
  simp only [if_neg (show ¬ (l.length : Int) < 4 by omega), if_pos (show (0 : Int) < (l.length : Int) by omega), if_pos (show (1 : Int) < (l.length : Int) by omega), if_pos (show (2 : Int) < (l.length : Int) by omega), if_pos (show (3 : Int) < (l.length : Int) by omega)]
  by_cases hm : 4096 < n
  · simp only [if_pos (show (n : Int) > 4096 by omega), if_pos hm]
    exact Ev.now _
  have w1 : wrap64 (8 + (n : Int)) = ((8 + n : Nat) : Int) := by
    rw [w64 (by omega) (by omega)]
    omega
  simp only [if_neg (show ¬ (n : Int) > 4096 by omega), if_neg hm, w1]
  by_cases h8 : l.length < 8 + n
  · simp only [if_pos (show (l.length : Int) < ((8 + n : Nat) : Int) by omega), if_pos h8]
    exact Ev.now _
  simp only [if_neg (show ¬ (l.length : Int) < ((8 + n : Nat) : Int) by omega), if_neg h8, if_pos (show (8 : Int) ≤ ((8 + n : Nat) : Int) by omega), if_pos (show ((8 + n : Nat) : Int) ≤ (l.length : Int) by omega), if_pos (show (0 : Int) ≤ ((8 + n : Nat) : Int) by omega)]
  rw [mk_extract, mk_extract]
  simp only [Int.toNat_natCast, Nat.add_sub_cancel_left, List.drop_zero, Nat.sub_zero]
  have hfr := hfr (by omega)
  refine Ev.bind (E_rFrame ((l.drop 8).take n) (by rw [List.length_take, List.length_drop]; omega)) ?_
  unfold frameA
  rw [if_neg (show ¬ 4096 < ((l.drop 8).take n).length by rw [List.length_take, List.length_drop]; omega), mk_toList, mk_toList]
  by_cases he : frame ((l.drop 8).take n) = l.take (8 + n)
  · rw [if_pos he, if_pos (hfr.1 he)]
    exact Ev.now _
  · rw [if_neg he, if_neg (fun h => he (hfr.2 h))]
    exact Ev.now _

/-- What a Prefix tells. -/
theorem E_rpre0 (l : By) (hl : l.length ≤ 100000) (d : Nat) : ∀ (i : Nat) (out : List ByteArray), l.length - i = d → i ≤ l.length → out.length + d ≤ 100000 →
    Ev (fun k => sandglassref17_Prefix.l0 k (mk l) out (i : Int)) (out ++ (preA (l.drop i)).1, (i : Int) + (preA (l.drop i)).2) := by
  induction d using Nat.strongRecOn with
  | _ d ih =>
    intro i out hd hi ho
    refine Ev.step (f := fun k => _) (fun k => by rw [sandglassref17_Prefix.l0]) ?_
    simp only [mk_size, if_pos (show (0 : Int) ≤ (i : Int) by omega), if_pos (show (i : Int) ≤ (l.length : Int) by omega), Int.toNat_natCast, mk_extract]
    rw [List.take_of_length_le (l := l.drop i) (by rw [List.length_drop]; omega)]
    refine Ev.bind (E_rNext (l.drop i) (by rw [List.length_drop]; omega)) ?_
    unfold nextA preA
    by_cases h0 : (nextR (l.drop i)).2.2 = 0
    · obtain ⟨_, h2, h3, _⟩ := nextR_ok h0
      rw [List.length_drop] at h3
      rw [pre_ok h0]
      simp only [h0, if_pos (show ((0 : Nat) : Int) = 0 from rfl), if_pos (show out.length < 8796093022208 by omega)]
      rw [w64 (by omega) (by omega), show (i : Int) + ((nextR (l.drop i)).2.1 : Int) = ((i + (nextR (l.drop i)).2.1 : Nat) : Int) by omega]
      have := ih (l.length - (i + (nextR (l.drop i)).2.1)) (by omega) (i + (nextR (l.drop i)).2.1) (out ++ [mk (nextR (l.drop i)).1]) rfl (by omega) (by simp only [List.length_append, List.length_cons, List.length_nil]; omega)
      rw [← List.drop_drop] at this
      unfold preA at this
      simp only [List.append_assoc, List.cons_append, List.nil_append] at this
      simp only [List.map_cons]
      rw [show ((i : Int) + (((nextR (l.drop i)).2.1 + (pre ((l.drop i).drop (nextR (l.drop i)).2.1)).2 : Nat) : Int)) = ((i + (nextR (l.drop i)).2.1 : Nat) : Int) + ((pre ((l.drop i).drop (nextR (l.drop i)).2.1)).2 : Int) by omega]
      exact this
    · rw [pre_other h0]
      simp only [if_neg (show ¬ ((nextR (l.drop i)).2.2 : Int) = 0 by omega), List.map_nil, List.append_nil]
      rw [show (i : Int) + ((0 : Nat) : Int) = (i : Int) by omega]
      exact Ev.now _
theorem E_rPrefix (l : By) (hl : l.length ≤ 100000) : Ev (fun k => sandglassref17_Prefix.f k (mk l)) (preA l) := by
  have := E_rpre0 l hl l.length 0 [] (by omega) (by omega) (by simpa using hl)
  unfold sandglassref17_Prefix.f
  simpa using this
end Go.Proofs.Ytjmdigfinkkelaa.Fun
