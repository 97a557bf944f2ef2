import Derived.Test.YtdmkojlaancopaaRec
import Derived.Test.YtdmkojlaancopaaPAllx4
namespace Go.Proofs.Ytdmkojlaancopaa.Fun
open Go.RowKit Go.Proofs.Ytdmkojlaancopaa.PAll Go.Proofs.YtdmkojlaancopaaW.PrintWords Go.Proofs.YtdmkojlaancopaaW.PrintLast SG

/-- As a step that the kernel doesn't have to find. -/
theorem bindS {α β : Type} (a : α) (f : α → Option β) : (some a).bind f = f a := Eq.trans (Option.bind_some a f) (Eq.refl (f a))

theorem bt_mk (l : By) (i : Int) : bt (mk l) i = ((l.getD i.toNat 0).toNat : Int) := by
  unfold bt
  split
  · rename_i h
    have h' : i.toNat < l.length := by rw [mk_size] at h; exact h
    rw [List.getD_eq_getElem?_getD, List.getElem?_eq_getElem h']
    rfl
  · rename_i h
    have h' : l.length ≤ i.toNat := by rw [mk_size] at h; omega
    rw [List.getD_eq_getElem?_getD, List.getElem?_eq_none h']
    rfl

theorem bt_mk_range (l : By) (i : Int) : 0 ≤ bt (mk l) i ∧ bt (mk l) i ≤ 255 := bt_range _ _

theorem xor_comm' (a b : Int) : Go.bits .xor .u32 a b = Go.bits .xor .u32 b a := by
  show IntKind.u32.wrap _ = IntKind.u32.wrap _
  rw [BitVec.xor_comm]

theorem not_int (v : BitVec 32) : Go.bits .xor .u32 4294967295 (v.toNat : Int) = ((v ^^^ BitVec.allOnes 32).toNat : Int) := by
  rw [xor_comm', all_int, bits_xor]

theorem not_int' (v : BitVec 32) : Go.bits .xor .u32 (v.toNat : Int) 4294967295 = ((v ^^^ BitVec.allOnes 32).toNat : Int) := by
  rw [all_int, bits_xor]

/-! The sum. -/
theorem more_l1 (m : Nat) (v : BitVec 32) (s : ByteArray) (n i : Int) : record_more.l1 (m + 9) (v.toNat : Int) s n i 0 = record_more.l0 m ((step8 v).toNat : Int) s n (wrap64 (i + 1)) := by
  have w0 : wrap64 (0 + 1) = 1 := by unfold wrap64; omega
  have w1 : wrap64 (1 + 1) = 2 := by unfold wrap64; omega
  have w2 : wrap64 (2 + 1) = 3 := by unfold wrap64; omega
  have w3 : wrap64 (3 + 1) = 4 := by unfold wrap64; omega
  have w4 : wrap64 (4 + 1) = 5 := by unfold wrap64; omega
  have w5 : wrap64 (5 + 1) = 6 := by unfold wrap64; omega
  have w6 : wrap64 (6 + 1) = 7 := by unfold wrap64; omega
  have w7 : wrap64 (7 + 1) = 8 := by unfold wrap64; omega
  rw [record_more.l1, if_pos (by decide), step_int, w0]
  rw [record_more.l1, if_pos (by decide), step_int, w1]
  rw [record_more.l1, if_pos (by decide), step_int, w2]
  rw [record_more.l1, if_pos (by decide), step_int, w3]
  rw [record_more.l1, if_pos (by decide), step_int, w4]
  rw [record_more.l1, if_pos (by decide), step_int, w5]
  rw [record_more.l1, if_pos (by decide), step_int, w6]
  rw [record_more.l1, if_pos (by decide), step_int, w7]
  rw [record_more.l1, if_neg (by decide)]
  rfl

theorem more_l0 (l : By) (hl : l.length ≤ 140737488351232) (d : Nat) : ∀ (i : Nat) (v : BitVec 32), i + d = l.length → record_more.l0 (10 * d + 1) (v.toNat : Int) (mk l) (l.length : Int) (i : Int) = some ((crc v (l.drop i)).toNat : Int) := by
  induction d with
  | zero =>
    intro i v h
    rw [record_more.l0, if_neg (by omega), List.drop_eq_nil_of_le (by omega)]
    rfl
  | succ d ih =>
    intro i v h
    have hi : i < l.length := by omega
    rw [show 10 * (d + 1) + 1 = (10 * d + 1 + 9) + 1 by omega, record_more.l0, if_pos (by omega), if_pos (by omega), if_pos (by rw [mk_size]; omega)]
    have e : bt (mk l) (i : Int) = ((l[i]).toNat : Int) := by
      rw [bt_mk, List.getD_eq_getElem?_getD, Int.toNat_natCast, List.getElem?_eq_getElem hi]
      rfl
    rw [e, byte_int, more_l1, w64 (by omega) (by omega), show (i : Int) + 1 = ((i + 1 : Nat) : Int) by omega, ih (i + 1) _ (by omega), List.drop_eq_getElem_cons hi]
    rfl

theorem E_more (v : BitVec 32) (l : By) (hl : l.length ≤ 140737488351232) : Ev (fun k => record_more.f k (v.toNat : Int) (mk l)) ((crc v l).toNat : Int) := by
  refine Ev.of (record_more.mono _ _) (k := 10 * l.length + 1) ?_
  have := more_l0 l hl l.length 0 v (by omega)
  unfold record_more.f
  rw [mk_size]
  exact this

theorem E_Sum (l : By) (hl : l.length ≤ 140737488351232) : Ev (fun k => record_Sum.f k (mk l)) ((sum l).toNat : Int) := by
  unfold record_Sum.f
  refine Ev.bind (a := ((crc (BitVec.allOnes 32) l).toNat : Int)) (by simpa only [all_int] using E_more (BitVec.allOnes 32) l hl) ?_
  rw [not_int]
  exact Ev.now _

theorem ref_l1 (m : Nat) (v : BitVec 32) (s : ByteArray) (i : Int) : sandglassref17_Sum.l1 (m + 9) s (v.toNat : Int) i 0 = sandglassref17_Sum.l0 m s ((step8 v).toNat : Int) (wrap64 (i + 1)) := by
  have step : ∀ (k : Nat) (v : BitVec 32) (j : Int), j < 8 → sandglassref17_Sum.l1 (k + 1) s (v.toNat : Int) i j = sandglassref17_Sum.l1 k s ((stepB v).toNat : Int) i (wrap64 (j + 1)) := by
    intro k v j hj
    rw [sandglassref17_Sum.l1, if_pos hj]
    by_cases h : Go.bits .and .u32 (v.toNat : Int) 1 = 1
    · rw [if_pos h, step_ref1 v h]
    · rw [if_neg h, step_ref0 v h]
  have w0 : wrap64 (0 + 1) = 1 := by unfold wrap64; omega
  have w1 : wrap64 (1 + 1) = 2 := by unfold wrap64; omega
  have w2 : wrap64 (2 + 1) = 3 := by unfold wrap64; omega
  have w3 : wrap64 (3 + 1) = 4 := by unfold wrap64; omega
  have w4 : wrap64 (4 + 1) = 5 := by unfold wrap64; omega
  have w5 : wrap64 (5 + 1) = 6 := by unfold wrap64; omega
  have w6 : wrap64 (6 + 1) = 7 := by unfold wrap64; omega
  have w7 : wrap64 (7 + 1) = 8 := by unfold wrap64; omega
  rw [step _ _ _ (by decide), w0]
  rw [step _ _ _ (by decide), w1]
  rw [step _ _ _ (by decide), w2]
  rw [step _ _ _ (by decide), w3]
  rw [step _ _ _ (by decide), w4]
  rw [step _ _ _ (by decide), w5]
  rw [step _ _ _ (by decide), w6]
  rw [step _ _ _ (by decide), w7]
  rw [sandglassref17_Sum.l1, if_neg (by decide)]
  rfl

theorem ref_l0 (l : By) (hl : l.length ≤ 140737488351232) (d : Nat) : ∀ (i : Nat) (v : BitVec 32), i + d = l.length → sandglassref17_Sum.l0 (10 * d + 1) (mk l) (v.toNat : Int) (i : Int) = some ((crc v (l.drop i) ^^^ BitVec.allOnes 32).toNat : Int) := by
  induction d with
  | zero =>
    intro i v h
    rw [sandglassref17_Sum.l0, if_neg (by rw [mk_size]; omega), List.drop_eq_nil_of_le (by omega), not_int']
    rfl
  | succ d ih =>
    intro i v h
    have hi : i < l.length := by omega
    rw [show 10 * (d + 1) + 1 = (10 * d + 1 + 9) + 1 by omega, sandglassref17_Sum.l0, if_pos (by rw [mk_size]; omega), if_pos (by omega)]
    have e : bt (mk l) (i : Int) = ((l[i]).toNat : Int) := by
      rw [bt_mk, List.getD_eq_getElem?_getD, Int.toNat_natCast, List.getElem?_eq_getElem hi]
      rfl
    rw [e, byte_int, ref_l1, w64 (by omega) (by omega), show (i : Int) + 1 = ((i + 1 : Nat) : Int) by omega, ih (i + 1) _ (by omega), List.drop_eq_getElem_cons hi]
    rfl

theorem E_rSum (l : By) (hl : l.length ≤ 140737488351232) : Ev (fun k => sandglassref17_Sum.f k (mk l)) ((sum l).toNat : Int) := by
  refine Ev.of (sandglassref17_Sum.mono _) (k := 10 * l.length + 1) ?_
  have := ref_l0 l hl l.length 0 (BitVec.allOnes 32) (by omega)
  unfold sandglassref17_Sum.f
  rw [all_int]
  exact this

theorem four_f (n : Nat) : record_four.f (n : Int) = some (mk (four n)) := by
  unfold record_four.f
  rw [four_nums]

theorem rfour_f (n : Nat) : sandglassref17_four.f (n : Int) = some (mk (four n)) := by
  unfold sandglassref17_four.f
  rw [four_nums]

/-- A record's bytes, or the error. -/
def frameA (s : By) : ByteArray × Int := if 4096 < s.length then (mk [], 2) else (mk (frame s), 0)

theorem E_Frame (s : By) (hl : s.length ≤ 140737488351232) : Ev (fun k => record_Frame.f k (mk s)) (frameA s) := by
  unfold record_Frame.f frameA
  rw [mk_size]
  by_cases h : 4096 < s.length
  · simp only [if_pos (show (s.length : Int) > 4096 by omega), if_pos h]
    exact Ev.now _
  · simp only [if_neg (show ¬ (s.length : Int) > 4096 by omega), if_neg h]
    rw [show (s.length : Int) % 4294967296 = (s.length : Int) by omega, four_f]
    simp only [bindS]
    refine Ev.bind (a := ((crc (BitVec.allOnes 32) (four s.length)).toNat : Int)) (by simpa only [all_int] using E_more (BitVec.allOnes 32) (four s.length) (by rw [four_length]; omega)) ?_
    refine Ev.bind (E_more _ s hl) ?_
    rw [not_int, ← crc_append, four_f, Option.bind_some, mk_append, mk_append, mk_size, mk_size, mk_size, if_pos (by simp only [four_length]; omega), if_pos (by simp only [List.length_append, four_length]; omega), List.append_assoc]
    exact Ev.now _

theorem E_rFrame (s : By) (hl : s.length ≤ 140737488351232) : Ev (fun k => sandglassref17_Frame.f k (mk s)) (frameA s) := by
  unfold sandglassref17_Frame.f frameA
  rw [mk_size]
  by_cases h : 4096 < s.length
  · simp only [if_pos (show (s.length : Int) > 4096 by omega), if_pos h]
    exact Ev.now _
  · simp only [if_neg (show ¬ (s.length : Int) > 4096 by omega), if_neg h]
    rw [show (s.length : Int) % 4294967296 = (s.length : Int) by omega, rfour_f]
    simp only [bindS, mk_append, mk_size]
    simp only [if_pos (show (four s.length).length + s.length ≤ 9223372036854775807 by simp only [four_length]; omega)]
    refine Ev.bind (E_rSum _ (by simp only [List.length_append, four_length]; omega)) ?_
    rw [rfour_f, Option.bind_some, mk_append, mk_append, mk_size, mk_size, if_pos (by simp only [four_length]; omega), if_pos (by simp only [List.length_append, four_length]; omega), List.append_assoc]
    exact Ev.now _

theorem number_f (l : By) (h : 4 ≤ l.length) : record_number.f (mk l) = some (num4 l : Int) := by
  unfold record_number.f
  rw [mk_size, if_pos (by omega), if_pos (by omega), if_pos (by omega), if_pos (by omega), or4_u32 _ _ _ _ (bt_mk_range l 0) (bt_mk_range l 1) (bt_mk_range l 2) (bt_mk_range l 3)]
  simp only [bt_mk, num4]
  refine congrArg some ?_
  simp only [Int.toNat_zero, show (1 : Int).toNat = 1 from rfl, show (2 : Int).toNat = 2 from rfl, show (3 : Int).toNat = 3 from rfl]
  omega

/-- What a Next tells. -/
def nextA (l : By) : ByteArray × Int × Int := (mk (nextR l).1, ((nextR l).2.1 : Int), ((nextR l).2.2 : Int))

theorem E_Next (l : By) (hl : l.length ≤ 140737488351232) : Ev (fun k => record_Next.f k (mk l)) (nextA l) := by
  unfold record_Next.f nextA nextR
  rw [mk_size]
  by_cases h4 : l.length < 4
  · simp only [if_pos (show (l.length : Int) < 4 by omega), if_pos h4]
    exact Ev.now _
  have hn := number_f l (by omega)
  have hlt := num4_lt l
  generalize num4 l = n at hn hlt ⊢
  rw [hn]
  simp only [if_neg (show ¬ (l.length : Int) < 4 by omega), if_neg h4, bindS]
  by_cases hm : 4096 < n
  · simp only [if_pos (show (n : Int) > 4096 by omega), if_pos hm]
    exact Ev.now _
  have w1 : wrap64 (8 + wrap64 (n : Int)) = ((8 + n : Nat) : Int) := by
    rw [w64 (n := (n : Int)) (by omega) (by omega), w64 (by omega) (by omega)]
    omega
  simp only [if_neg (show ¬ (n : Int) > 4096 by omega), if_neg hm, w1]
  by_cases h8 : l.length < 8 + n
  · simp only [if_pos (show (l.length : Int) < ((8 + n : Nat) : Int) by omega), if_pos h8]
    exact Ev.now _
  simp only [if_neg (show ¬ (l.length : Int) < ((8 + n : Nat) : Int) by omega), if_neg h8, if_pos (show (8 : Int) ≤ ((8 + n : Nat) : Int) by omega), if_pos (show ((8 + n : Nat) : Int) ≤ (l.length : Int) by omega), if_pos (show (4 : Int) ≤ (l.length : Int) by omega)]
  rw [mk_extract, mk_extract, mk_extract]
  simp only [Int.toNat_natCast, Nat.add_sub_cancel_left, List.drop_zero, Nat.sub_zero]
  have hq := number_f ((l.drop 4).take (l.length - 4)) (by rw [List.length_take, List.length_drop]; omega)
  rw [List.take_of_length_le (l := l.drop 4) (by rw [List.length_drop]; omega)] at hq ⊢
  generalize num4 (l.drop 4) = q at hq ⊢
  refine Ev.bind (a := ((crc (BitVec.allOnes 32) (l.take 4)).toNat : Int)) (by simpa only [all_int] using E_more (BitVec.allOnes 32) (l.take 4) (by rw [List.length_take]; omega)) ?_
  refine Ev.bind (E_more _ ((l.drop 8).take n) (by rw [List.length_take, List.length_drop]; omega)) ?_
  rw [hq, Option.bind_some, not_int, ← crc_append]
  by_cases he : (sum (l.take 4 ++ (l.drop 8).take n)).toNat = q
  · rw [if_pos (by unfold sum at he; exact_mod_cast he), if_pos he]
    exact Ev.now _
  · rw [if_neg (by intro h; apply he; unfold sum; exact_mod_cast h), if_neg he]
    exact Ev.now _

end Go.Proofs.Ytdmkojlaancopaa.Fun
